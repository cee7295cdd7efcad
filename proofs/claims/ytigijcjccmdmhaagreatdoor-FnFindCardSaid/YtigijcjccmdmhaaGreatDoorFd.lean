/- Lemmas for the law FnFind, no statement of their own: no conditions. -/
import Derived.Test.YtigijcjccmdmhaaGreatDoorFc
namespace Go.Proofs.YtigijcjccmdmhaaGreatDoor
open Go
def sY (ts:List aA) (i:Nat) (t:aA):(dH ts).set i t.enc=dH (ts.set i t):=by rw[xA,xA,List.map_set]
def TM (ts:List aA):∀row,row∈dH ts->∀c,c∈row->∀v,c= .val v->v.oneCell'=true:=by
 intro row hr c hc v hv
 rw[xA] at hr
 obtain⟨t,_,rfl⟩:=List.mem_map.1 hr
 cases t with
 |mk a ps=>
  simp only[aA.enc,mC,nN,oF] at hc
  rcases hc with h|h
  ·subst h;cases hv;rfl
  ·subst h;cases hv
def eE.ext {L:List Nat} {w w':World} {T:TypeId} {sz:Nat} {v:Value} {g:Option Nat} {rows:List (List C)} (h:eE L w T sz v g rows) (k:ak [] w w'):eE L w' T sz v g rows:=h.any k
def eE.grow {L:List Nat} {w:World} {T:TypeId} {sz:Nat} {v:Value} {g:Option Nat} {rows:List (List C)} (h:eE L w T sz v g rows):eE (w.heap.size::L) w T sz v g rows:=h.sub zq
def eE.aL {x:Nat} {L:List Nat} {w w':World} {T:TypeId} {sz:Nat} {v:Value} {g:Option Nat} {rows:List (List C)} (h:eE (x::L) w T sz v g rows) (k:ak [x] w w') (hx:x∉g.toList):eE (x::L) w' T sz v g rows:=
 h.aO (Fr.of k sm) k λy hy we=>hx (by simp at we;subst we;exact hy)
structure jy (G:List Nat) (w0 w:World) (br:Nat) (ai:List aj) (n gb b8:Nat) (vP:Value) (ts:List aA):Prop where
 rn:RN G w br ai n
 own:eE G w 66 2 vP (some gb) (dH ts)
 kb:ak [br] w0 w
 bx:aY w b8 [str [],.slice none 0 0].toArray 66
 mem:gb∈G∧b8∈G
 ne:br≠gb∧b8≠gb∧br≠b8
 low:w0.heap.size<=gb∧w0.heap.size<=b8
 db:fy G w
section
variable {G:List Nat} {w0 w w':World} {br:Nat} {ai:List aj} {n gb b8:Nat} {vP:Value} {ts:List aA}
def jy.ext (h:jy G w0 w br ai n gb b8 vP ts) (k:ak [] w w'):jy G w0 w' br ai n gb b8 vP ts:=
 ⟨h.rn.ext k,h.own.ext k,h.kb.ext k,h.bx.ext k,h.mem,h.ne,h.low,λx hx=>lL (h.db x hx) k.size⟩
def jy.out {G' G0:List Nat} (h:jy G w0 w br ai n gb b8 vP ts) (k:Fr G w G' w') (ho:Out w0.heap.size G0 w w') (hb:br∈G0∧gb∈G0∧b8∈G0) (gX:br∈G'∧gb∈G'∧b8∈G') (hl:fy G' w'):jy G' w0 w' br ai n gb b8 vP ts:=
 ⟨h.rn.out k ho hb.1 gX.1,h.own.out k ho (by simpa using hb.2.1),ho.since h.kb,ho.jx h.bx hb.2.2,gX.2,h.ne,h.low,hl⟩
def jy.call {n':Nat} (h:jy G w0 w br ai n gb b8 vP ts) (hr:RN G w' br ai n') (k:ak [br] w w'):jy G w0 w' br ai n' gb b8 vP ts:=
 ⟨hr,h.own.aO (Fr.of k (by simpa using h.rn.mem)) k (by intro x hx fH;simp at hx fH;exact h.ne.1 (fH.symm.trans hx)),h.kb.trans k,h.bx.aO k (by simpa using λe=>h.ne.2.2 e.symm),h.mem,h.ne,h.low,λx hx=>lL (h.db x hx) k.size⟩
def jy.store {ts':List aA} (h:jy G w0 w br ai n gb b8 vP ts) (k:ak [gb] w w') (ho:eE G w' 66 2 vP (some gb) (dH ts')):jy G w0 w' br ai n gb b8 vP ts':=
 ⟨h.rn.aO k (by simpa using h.ne.1) (by simpa using h.mem.1),ho,h.kb.since k (by intro x hx;simp at hx;subst hx;exact .inr h.low.1),h.bx.aO k (by simpa using h.ne.2.1),h.mem,h.ne,h.low,λx hx=>lL (h.db x hx) k.size⟩
def jy.jC (h:jy G w0 w br ai n gb b8 vP ts):∀x,x∈[gb]->x∈G:=by simpa using h.mem.1
def jy.oh (h:jy G w0 w br ai n gb b8 vP ts):∀x,x∈[br]->x∈G:=by simpa using h.rn.mem
end
def jy.fin {G:List Nat} {w0 w w':World} {br:Nat} {ai:List aj} {n gb b8:Nat} {vP:Value} {ts:List aA} (h:jy (gb::b8::G) w0 w br ai n gb b8 vP ts) (hG:fy G w0) (iH:br∈G) (k:ak [b8] w w'):
  bT G w' (.agg #[str [],vP]) (.mk [] ts)∧RN G w' br ai n∧ak [br] w0 w':=by
 have oI:gb∉b8::G:=λhx=>by
  rcases mC.1 hx with h1|h1
  ·exact h.ne.2.1 h1.symm
  ·have:=hG gb h1;have:=h.low.1;omega
 have h1:cF (b8::G) w vP (.sl 2 (dH ts)):=h.own.rep (λx hx=>.inl (by simpa using hx)) (by simpa using oI)
 have h2:bT (b8::G) w (.agg #[str [],vP]) (.mk [] ts):=lG h1
 refine⟨(h2.aL k sm).jk (λx hx=>mK _ hx),(h.rn.aO k (by simpa using h.ne.2.2) sm).re iH (λx hx=>.inl (by simp[hx])),h.kb.since k (λx hx=>?_)⟩
 simp at hx;subst hx;exact .inr h.low.2
def MR {G:List Nat} {w:World} (s:aj):dR G w [str s,.slice none 0 0] (cg s).enc:=bT.kQ (lG o3)
def adJ (ai:List aj) (ρ:Rn) (n:Nat) {e:Ex} {k M:Nat} (ha:e.jl=false) (hl:isLt e=false) (hk:k<e.kids.length) (h1:ρ.length+2*e.n<=100000) (h2:n+e.n*(ai.length+2)<=100000) (hM:M<=nF ai n e+kN e k*(ai.length+2)):
  (jV ai ρ n e).length+2*(fL e k).n<=100000∧M+(fL e k).n*(ai.length+2)<=100000:=by
 have h3:=yl hk
 have h4:=D0 cx ai n
 have h5:=D0 cx ai (bK cx ai n+1)
 have h6:(jV ai ρ n e).length+2*(fL e k).n<=ρ.length+2*e.n∧nF ai n e+kN e (k+1)*(ai.length+2)<=n+e.n*(ai.length+2):=by
  cases e with
  |«at» s=>cases ha
  |lt x a b=>cases hl
  |fn f x A B b=>
   have gN:k=0:=by simp[Ex.kids] at hk;exact hk
   subst gN
   have e1:(fL (.fn f x A B b) 0).n=b.n:=rfl
   have e2:kN (.fn f x A B b) 1=b.n:=by simp[kN,Ex.kids]
   have e3:(Ex.fn f x A B b).n=3+A.n+B.n+b.n:=rfl
   rw[e1,e2,e3]
   simp only[jV,nF,lA,lC,lN,Nat.add_mul]
   constructor<;>omega
  |un h a=>
   have:=B4 (.un h a) (k+1)
   exact⟨by show ρ.length+_<=_;omega,Nat.add_le_add_left (Nat.mul_le_mul_right _ this) _⟩
  |bi h a b=>
   have:=B4 (.bi h a b) (k+1)
   exact⟨by show ρ.length+_<=_;omega,Nat.add_le_add_left (Nat.mul_le_mul_right _ this) _⟩
  |ite a b c=>
   have:=B4 (.ite a b c) (k+1)
   exact⟨by show ρ.length+_<=_;omega,Nat.add_le_add_left (Nat.mul_le_mul_right _ this) _⟩
 rw[h3,Nat.add_mul] at h6
 omega
def adK (ai:List aj) (iG:ai.length<=10000):∀(m:Nat) (e:Ex),e.n<=m->e.n<=1000->e.ok->∀(ρ:Rn) (n:Nat),ρ.length+2*e.n<=100000->n+e.n*(ai.length+2)<=100000->∀(v vf vt:Value) (br:Nat) (G:List Nat) (w:World),
  bT G w v e.av->bI G w vf (ρ.map Prod.fst)->bI G w vt (ρ.map Prod.snd)->RN G w br ai n->fy G w->
  ck Tryz.prog 176 [v,vf,vt,.pointer (some ⟨br,0,none⟩)] w λr w'=>(bT G w' r (cj ai e ρ n).1.av∧RN G w' br ai (cj ai e ρ n).2)∧ak [br] w w':=by
 intro m
 induction m with
 |zero=>intro e h;have:=e.pos;omega
 |succ m ih=>
  intro e hm mY bD ρ n oH oX v vf vt br G w dK MS MT B7 hG
  obtain⟨a,np,c,rfl,hn,I1⟩:=dO dK
  subst hn
  obtain⟨af,nf,cf,rfl,rp⟩:=eP MS
  obtain⟨at_,nt,ct,rfl,DG⟩:=eP MT
  have adL:(ρ.map Prod.fst).length=ρ.length:=by simp
  have alL:(ρ.map Prod.snd).length=ρ.length:=by simp
  have alM:=B7.lt
  have hK:=ak.refl [] w
  have IS:=F3 e
  have qF:=D0 cx ai n
  have jW:=D0 cx ai (bK cx ai n+1)
  have hB:e.n*(ai.length+2)<=100000:=by omega
  refine lH [.cell 8 66] 155 Tryz.func176 rfl YD rfl rfl rfl ?_
  refine zr<|fG rfl ?_
  intro w1 aK aI eh
  have hK:=hK.ext aK
  refine eD aH rfl rfl rfl ?_
  intro w2 aq dx eO
  have hK:=hK.grow;have hK:=hK.ext aq;have aI:=aI.grow;have aI:=aI.ext aq
  refine ag<|aQ<|zr<|zf dB rfl<|zl cm rfl (aI.at rfl)<|jI rfl rfl rfl rfl<|ag<|zc rfl (λh1=>?_) (λh1=>?_)
  have aR:∃x,e= .at x:=(by have ha:=(vu bD).1 h1;cases e<;>first|exact⟨_,rfl⟩|cases ha)
  obtain⟨x,rfl⟩:=aR
  refine aQ<|zr<|zf dB rfl<|zl cm rfl (aI.at rfl)<|aC (vh _ _) ?_
  rintro _ _ ⟨rfl,rfl⟩
  refine ag<|zc rfl (λh2=>?_) (λh2=>?_)
  have hq:(cj ai (.at x) ρ n).1.av=cg (ri ρ x):=(show cg (if eQ x=true then ri ρ x else x)=cg (ri ρ x) from cA cg (iP h2))
  refine zr<|zm<|zm<|zf dB rfl<|zl cm rfl (aI.at rfl)<|aC (adv (ρ.map Prod.fst) (ρ.map Prod.snd) om om x _ _ _ _ w2 (MS.ext hK) (MT.ext hK)) ?_
  rintro v3 w3 ⟨er,aJ⟩
  have gd:=aJ.size
  have hK:=hK.ext aJ;have dx:=dx.ext aJ
  obtain rfl:=er
  refine aC (zY _ w3) ?_
  rintro v4 w4 ⟨eJ,aF⟩
  have gK:=aF.size
  have hK:=hK.ext aF;have dx:=dx.ext aF
  obtain rfl:=eJ
  refine dw aH rfl rfl rfl dx rfl ?_
  intro w5 aU dx jr
  have hK:=hK.aL aU sx
  refine ag<|aV ?_
  have yn:=adu x ρ
  rw[<-adL] at yn
  exact⟨[_],gQ bU aH rfl dx rfl,⟨by rw[hq,<-yn];exact lG o3,B7.ext hK⟩,hK.any⟩
  have hq:(cj ai (.at x) ρ n).1.av=cg x:=(show cg (if eQ x=true then ri ρ x else x)=cg x from cA cg (iN (λhh=>Bool.noConfusion (hh.symm.trans h2))))
  refine bz<|zr<|zL bU aH rfl aI.all rfl<|dw aH rfl rfl rfl dx rfl ?_
  intro w3 aJ dx iJ
  have hK:=hK.aL aJ sx
  refine ag<|aV ?_
  exact⟨[_],gQ bU aH rfl dx rfl,⟨by rw[hq];exact bT.ext dK hK,B7.ext hK⟩,hK.any⟩
  have fx:e.jl=false:=(by cases hh:e.jl;rfl;exact absurd ((vu bD).2 hh) h1)
  obtain⟨F4,pK,jJ,wM⟩:=Ex.au fx
  obtain⟨jU,DV,DW⟩:=F2 bD fx
  have F5:=LB bD fx
  have mf:eZ (nth e.av.au 0).az=(e.from,e.from+e.kids.length):=by rw[jJ];exact F5
  obtain⟨b,off,xL,xM,e0,p7,kA⟩:=fK I1 jU
  subst e0
  have nz:=hK
  have Gd:=aI
  have adM:=dx
  have adN:=eh
  have adO:=eO
  refine bz<|zr<|zQ w2.heap.size (w1.heap.size::G) cw aH rfl rfl (lR _) (λx hx=>by rcases mC.1 hx with h|h;omega;have:=hG x h;omega) ?_
  intro w3 aJ I2 wO
  have kh:=aJ
  have aI:=aI.ext aJ;have dx:=dx.ext aJ
  refine zf cN rfl<|zl cK rfl (aI.at rfl)<|xO cw aH rfl rfl rfl rfl rfl rfl wO (fI.ext (cF.fresh I1 (L':=w2.heap.size::w1.heap.size::G) (by intro x hx;simp at hx;rcases hx with rfl|rfl|hx;right;omega;right;omega;exact .inl hx)) (nz.ext aJ)) (TM _) (by rw[iI];simp;omega) ?_
  intro a4 jf g4 w4 kX aF
  have kh:=wO.since kh aF
  have hK:=nz.trans kh
  have aI:=Gd.ext kh
  have dx:=adM.ext kh
  have gK:=kh.size
  rw[show([]:List (List C)).length+(dH e.av.au).length=e.av.au.length from by rw[iI];simp] at kX⊢
  rw[List.nil_append] at kX
  obtain⟨gb,e4,e5⟩:=kX.form (by rw[iI];exact jU)
  subst e4
  subst e5
  have gJ:gb<w4.heap.size:=kX.lt gb sm
  have D1:w2.heap.size<=gb:=kX.low gb rfl
  have hS:eE (gb::w1.heap.size::G) w4 66 2 (.slice (some ⟨gb,0,none⟩) e.av.au.length jf) (some gb) (dH e.av.au):=(let⟨xs,hr⟩:=kX.own;⟨⟨xs,hr.own,hr.rep⟩,hr.row⟩)
  refine j7 (KC _ _ _ _) rfl rfl<|eD aH rfl rfl rfl ?_
  intro w5 aU cV jr
  have hK:=hK.grow;have hK:=hK.ext aU;have aI:=aI.grow;have aI:=aI.ext aU;have dx:=dx.grow;have dx:=dx.ext aU;have hS:=hS.grow;have hS:=hS.ext aU
  refine dw aH rfl rfl rfl cV rfl ?_
  intro w6 bF cV lI
  have hK:=hK.aL bF sx;have aI:=aI.aL bF sx;have dx:=dx.aL bF sx;have hS:=hS.aL bF sx
  refine ag<|zr<|zf cN rfl<|zl cK rfl (aI.at rfl) ?_
  have lF:∀x,x∈gb::w1.heap.size::G->x∈G∨w.heap.size<=x:=(by intro x hx;simp at hx;rcases hx with rfl|rfl|hx;right;omega;right;omega;exact .inl hx)
  have jD:=hK.size
  have TN:fy (gb::w1.heap.size::G) w6:=(by intro x hx;simp at hx;rcases hx with rfl|rfl|hx;omega;omega;have:=hG x hx;omega)
  have D3:Fr G w (gb::w1.heap.size::G) w6:=⟨hK.any,lF⟩
  have bc:=I1.go D3
  have fS:=MS.go D3
  have fb:=MT.go D3
  have p7:=p7.go D3
  have rq:RN (gb::w1.heap.size::G) w6 br ai n:=(B7.re (by simp[B7.mem]) lF).ext hK
  have gM:∀q,w.heap.size<=q->q≠gb->q≠w1.heap.size->q∉gb::w1.heap.size::G:=(by intro q h1 h2 h3 hx;simp at hx;rcases hx with h|h|h;exact h2 h;exact h3 h;have:=hG q h;omega)
  have aI:fi (gb::w1.heap.size::G) w6 w.heap.size _ _:=⟨aI,gM _ om om om⟩
  have cV:fi (gb::w1.heap.size::G) w6 w4.heap.size _ _:=⟨cV,gM _ om om om⟩
  have hS:=eE.sub hS (L':=gb::w1.heap.size::G) (λx hx=>.inl (mK _ hx))
  have bg:jy (gb::w1.heap.size::G) w w6 br ai n gb w1.heap.size _ e.av.au:=⟨rq,hS,hK.any,dx,sm,om,om,TN⟩
  have aR:∃G2,G2=gb::w1.heap.size::G:=⟨_,rfl⟩
  obtain⟨G2,Ge⟩:=aR
  rw[<-Ge] at bc fS fb aI cV p7 bg
  have gC:br∈G2∧gb∈G2∧w1.heap.size∈G2:=⟨bg.rn.mem,bg.mem⟩
  refine zi (i:=0) cw aH rfl rfl jU<|zf dB rfl<|zl cm rfl (p7.cells 0 _ rfl)<|aC (IL _ _) ?_
  rintro _ _ ⟨rfl,rfl⟩
  rw[yi mf]
  refine zm<|zx (i:=0) rfl rfl<|zx (i:=1) rfl rfl<|zA<|zA<|ag<|aQ<|zr<|zf cN rfl<|zl cK rfl (aI.at rfl)<|zi (i:=0) cw aH rfl rfl jU<|zf dB rfl<|zl cm rfl (p7.cells 0 _ rfl)<|cY rfl rfl<|ag<|zc rfl (λh3=>?_) (λh3=>?_)
  obtain⟨nx,ea,eb,rfl⟩:=IZ bD (jJ.symm.trans h3)
  have wP:(Ex.lt nx ea eb).n=2+ea.n+eb.n:=rfl
  have hmul:(Ex.lt nx ea eb).n*(ai.length+2)=2*(ai.length+2)+ea.n*(ai.length+2)+eb.n*(ai.length+2):=by rw[wP,Nat.add_mul,Nat.add_mul]
  have alN:=jB ai ea ρ (bK cx ai n+1)
  have I3:(Ex.lt nx ea eb).av.au.length=4:=rfl
  refine zr<|zm<|aC (MP ai n om iG br G2 w6 bg.rn) ?_
  rintro v7 w7 ⟨iV,cz⟩
  have po:=cz.size
  have bc:=bc.aL cz (bg.oh);have fS:=fS.aL cz (bg.oh);have fb:=fb.aL cz (bg.oh);have aI:=aI.aL cz (bg.oh);have cV:=cV.aL cz bg.oh
  obtain⟨rfl,rq⟩:=iV
  have bg:=bg.call rq cz
  refine zA<|ag<|aQ ?_
  apply mv et 5 (rA 51 5) (rA 51 5) [[],[0],[],[2],[1]] [It.v _,It.v _,It.v _,It.v _,It.v _] de rfl
  intro wd aB
  refine vc (λ_ _ _=>zf cN rfl pv) ?_
  refine vk aB (λx w8 cv=>?_) ?_
  have cV:=cV.ext cv
  refine zl cK rfl (cV.at rfl) ?_
  exact pv
  refine eK ?_
  refine vk aB (λx w8 cv=>?_) ?_
  refine aC (zY _ w8) ?_
  rintro v9 w9 ⟨eT,aG⟩
  have pq:=aG.size
  obtain rfl:=eT
  exact pk aG
  refine vk aB (λx w8 cv=>?_) ?_
  refine zi (i:=1) cw aH rfl rfl ((show 1<4 from om)) ?_
  exact pv
  exact trivial
  intro x wQ jm
  have bc:=bc.ext jm;have fS:=fS.ext jm;have fb:=fb.ext jm;have aI:=aI.ext jm;have cV:=cV.ext jm;have bg:=bg.ext jm
  change OW _ _ _ _ _ (aM (aN _ x _) (zZ 51 [_,_,_,_,_])) _
  refine sW (i:=1) (vs:=[str (dm cx (bK cx ai n)),.slice none 0 0]) (row:=(cg (dm cx (bK cx ai n))).enc) aH rfl rfl rfl rfl rfl bg.own bg.db bg.mem.1 (by rw[iI];omega) rfl (oZ _) (MR _) ?_
  intro j4 eU r7 ey
  rw[sY] at ey
  have bc:=bc.aL eU bg.jC;have fS:=fS.aL eU bg.jC;have fb:=fb.aL eU bg.jC;have aI:=aI.aL eU bg.jC;have cV:=cV.aL eU bg.jC
  have bg:=bg.store eU ey
  refine ag<|aQ ?_
  obtain⟨b2,nu,jd,je,e2,bY,ew⟩:=fK bc (i:=2) om
  cases e2
  have ew:bT G2 j4 _ ea.av:=ew
  obtain⟨b3,B8,pZ,p3,e3,eu,fa⟩:=fK bc (i:=3) om
  cases e3
  have fa:bT G2 j4 _ eb.av:=fa
  obtain⟨b1,ga,gZ,ia,e1,bC,dh⟩:=fK bc (i:=1) om
  cases e1
  apply kf et G2 11 (rA 56 11) (rA 56 11) [[],[0],[],[2],[3],[4],[],[],[],(rA 5 4),[1]] [Ie.v _,Ie.v _,Ie.v _,Ie.v _,Ie.v _,Ie.v _,Ie.v _,Ie.v _,Ie.v _,Ie.e 0,Ie.v _] [9] [fun(G:List Nat) (vs:List Value) (ww:World)=>G=G2∧jy G2 w ww br ai (bK cx ai n+1) gb w1.heap.size (.slice (some ⟨gb,0,none⟩) (Ex.lt nx ea eb).av.au.length jf) (((Ex.lt nx ea eb).av.au.set 1 (cg (dm cx (bK cx ai n))))),fun(G:List Nat) (vs:List Value) (ww:World)=>G=G2∧jy G2 w ww br ai ((cj ai ea ρ (bK cx ai n+1)).2) gb w1.heap.size (.slice (some ⟨gb,0,none⟩) (Ex.lt nx ea eb).av.au.length jf) (((Ex.lt nx ea eb).av.au.set 1 (cg (dm cx (bK cx ai n)))))∧bT G2 ww (vs.getD 0 undef) (cj ai ea ρ (bK cx ai n+1)).1.av] de rfl bg.db (by exact trivial) (by exact⟨λG vs w w' ⟨h1,h2⟩ k=>⟨h1,h2.ext k⟩,λG vs w w' ⟨h1,h2,h3⟩ k=>⟨h1,h2.ext k,h3.ext k⟩,trivial⟩) (⟨rfl,bg⟩)
  refine vf (λ_ _ _ _ _ _=>zf cN rfl fv) ?_
  refine vf (λx pr B9 aW rr Gf=>?_) ?_
  have cV:=cV.go rr
  refine zl cK rfl (cV.at rfl) ?_
  exact fv
  refine vf (λ_ _ _ _ _ _=>zf cN rfl fv) ?_
  refine vf (λx pr B9 aW rr Gf=>?_) ?_
  have aI:=aI.go rr
  refine zl cK rfl (aI.at rfl) ?_
  exact fv
  refine vf (λ_ _ _ _ _ _=>zi (i:=2) cw aH rfl rfl ((show 2<4 from om)) fv) ?_
  refine vf (λx pr B9 aW rr Gf=>?_) ?_
  have bY:=bY.go rr
  refine zL bU aH rfl bY.cells rfl ?_
  exact fv
  refine cT ?_
  refine cT ?_
  refine cT ?_
  refine ve 0 (λx pr B9 aW rr Gf hJ hlen=>?_) ?_
  have bo:=jR hlen
  subst bo
  have fS:=fS.go rr;have fb:=fb.go rr;have ew:=ew.go rr
  obtain⟨cB,bg⟩:=hJ
  obtain rfl:G2=B9:=cB.symm
  refine aC (ih ea om om bD.2.1 ρ (bK cx ai n+1) om om _ _ _ br G2 pr ew fS fb bg.rn bg.db) ?_
  rintro Ca oo ⟨⟨dU,Gg⟩,aG⟩
  exact fe G2 (Fr.of aG bg.oh) ((λq hq=>lL (bg.db q hq) aG.size)) (⟨rfl,bg.call Gg aG,dU⟩)
  refine vf (λ_ _ _ _ _ _=>zi (i:=2) cw aH rfl rfl ((show 2<4 from om)) fv) ?_
  exact trivial
  intro x Gh G88 aW Cb alO hJ hlen
  obtain⟨q0,bo⟩:=jS hlen
  subst bo
  have fS:=fS.go Cb;have fb:=fb.go Cb;have aI:=aI.go Cb;have cV:=cV.go Cb;have eu:=eu.go Cb;have fa:=fa.go Cb;have bC:=bC.go Cb
  change OW _ _ _ _ _ (aM (aN _ x _) (zZ 56 [_,_,_,_,_,_,_,_,_,_,_])) _
  obtain⟨cB,bg,dU⟩:=hJ
  obtain rfl:G2=G88:=cB.symm
  obtain⟨a7,n7,c7,e7,_,_⟩:=dO dU
  have e8:q0=_:=e7
  subst e8
  refine sW (i:=2) (vs:=[str (cj ai ea ρ (bK cx ai n+1)).1.av.az,.slice a7 n7 c7]) (row:=(cj ai ea ρ (bK cx ai n+1)).1.av.enc) aH rfl rfl rfl rfl rfl bg.own bg.db bg.mem.1 (by rw[iI];rw[List.length_set];omega) rfl (oZ _) ((show bT G2 _ (.agg #[_,_]) _ from dU).kQ) ?_
  intro sZ ru r7 ey
  rw[sY] at ey
  have fS:=fS.aL ru bg.jC;have fb:=fb.aL ru bg.jC;have aI:=aI.aL ru bg.jC;have cV:=cV.aL ru bg.jC;have eu:=eu.aL ru bg.jC;have fa:=fa.aL ru bg.jC;have bC:=bC.aL ru bg.jC
  have bg:=bg.store ru ey
  refine ag<|aQ ?_
  have zF:=bg.kb.size
  apply kf et G2 25 (rA 67 25) (rA 67 25) [[],[0],[],[2],[3],[4],[],[],[6,7],[],[9],[10],[11],[12],[13],[8,14],[],[],[16,17],[],[19],[18,20],[],[5,15,21,22],[1]] [Ie.v _,Ie.v _,Ie.v _,Ie.v _,Ie.v _,Ie.v _,Ie.p (fun(G:List Nat) (v:Value) (ww:World)=>∃bb,v= .slice (some ⟨bb,0,none⟩) 0 0∧w.heap.size<=bb∧fi G ww bb #[] 9),Ie.v _,Ie.e 0,Ie.v _,Ie.v _,Ie.v _,Ie.v _,Ie.v _,Ie.p (fun(G:List Nat) (v:Value) (ww:World)=>bI G ww v [nx]),Ie.e 1,Ie.p (fun(G:List Nat) (v:Value) (ww:World)=>∃bb,v= .slice (some ⟨bb,0,none⟩) 0 0∧w.heap.size<=bb∧fi G ww bb #[] 9),Ie.v _,Ie.e 2,Ie.v _,Ie.p (fun(G:List Nat) (v:Value) (ww:World)=>bI G ww v [(dm cx (bK cx ai n))]),Ie.e 3,Ie.v _,Ie.e 4,Ie.v _] [8,15,18,21,23] [fun(G:List Nat) (vs:List Value) (ww:World)=>G=G2∧jy G2 w ww br ai ((cj ai ea ρ (bK cx ai n+1)).2) gb w1.heap.size (.slice (some ⟨gb,0,none⟩) (Ex.lt nx ea eb).av.au.length jf) ((((Ex.lt nx ea eb).av.au.set 1 (cg (dm cx (bK cx ai n)))).set 2 (cj ai ea ρ (bK cx ai n+1)).1.av)),fun(G:List Nat) (vs:List Value) (ww:World)=>(∀q,q∈G2->q∈G)∧jy G w ww br ai ((cj ai ea ρ (bK cx ai n+1)).2) gb w1.heap.size (.slice (some ⟨gb,0,none⟩) (Ex.lt nx ea eb).av.au.length jf) ((((Ex.lt nx ea eb).av.au.set 1 (cg (dm cx (bK cx ai n)))).set 2 (cj ai ea ρ (bK cx ai n+1)).1.av))∧LP w.heap.size G G2 ww 9 (vs.getD 0 undef) (ρ.map Prod.fst),fun(G:List Nat) (vs:List Value) (ww:World)=>G=G2∧jy G2 w ww br ai ((cj ai ea ρ (bK cx ai n+1)).2) gb w1.heap.size (.slice (some ⟨gb,0,none⟩) (Ex.lt nx ea eb).av.au.length jf) ((((Ex.lt nx ea eb).av.au.set 1 (cg (dm cx (bK cx ai n)))).set 2 (cj ai ea ρ (bK cx ai n+1)).1.av))∧bI G2 ww (vs.getD 1 undef) ((ρ.map Prod.fst)++[nx]),fun(G:List Nat) (vs:List Value) (ww:World)=>(∀q,q∈G2->q∈G)∧jy G w ww br ai ((cj ai ea ρ (bK cx ai n+1)).2) gb w1.heap.size (.slice (some ⟨gb,0,none⟩) (Ex.lt nx ea eb).av.au.length jf) ((((Ex.lt nx ea eb).av.au.set 1 (cg (dm cx (bK cx ai n)))).set 2 (cj ai ea ρ (bK cx ai n+1)).1.av))∧bI G ww (vs.getD 1 undef) ((ρ.map Prod.fst)++[nx])∧LP w.heap.size G G2 ww 9 (vs.getD 2 undef) (ρ.map Prod.snd),fun(G:List Nat) (vs:List Value) (ww:World)=>G=G2∧jy G2 w ww br ai ((cj ai ea ρ (bK cx ai n+1)).2) gb w1.heap.size (.slice (some ⟨gb,0,none⟩) (Ex.lt nx ea eb).av.au.length jf) ((((Ex.lt nx ea eb).av.au.set 1 (cg (dm cx (bK cx ai n)))).set 2 (cj ai ea ρ (bK cx ai n+1)).1.av))∧bI G2 ww (vs.getD 1 undef) ((ρ.map Prod.fst)++[nx])∧bI G2 ww (vs.getD 3 undef) ((ρ.map Prod.snd)++[(dm cx (bK cx ai n))]),fun(G:List Nat) (vs:List Value) (ww:World)=>G=G2∧jy G2 w ww br ai ((cj ai eb (ρ++[(nx,(dm cx (bK cx ai n)))]) (cj ai ea ρ (bK cx ai n+1)).2).2) gb w1.heap.size (.slice (some ⟨gb,0,none⟩) (Ex.lt nx ea eb).av.au.length jf) ((((Ex.lt nx ea eb).av.au.set 1 (cg (dm cx (bK cx ai n)))).set 2 (cj ai ea ρ (bK cx ai n+1)).1.av))∧bT G2 ww (vs.getD 4 undef) (cj ai eb (ρ++[(nx,(dm cx (bK cx ai n)))]) (cj ai ea ρ (bK cx ai n+1)).2).1.av] de rfl bg.db (by exact⟨λG v w G' w' ⟨bb,e,h0,h⟩ k=>⟨bb,e,h0,h.go k⟩,λG v w G' w' h k=>bI.go h k,λG v w G' w' ⟨bb,e,h0,h⟩ k=>⟨bb,e,h0,h.go k⟩,λG v w G' w' h k=>bI.go h k,trivial⟩) (by exact⟨λG vs w w' ⟨h1,h2⟩ k=>⟨h1,h2.ext k⟩,λG vs w w' ⟨h1,h2,h3⟩ k=>⟨h1,h2.ext k,h3.ext k⟩,λG vs w w' ⟨h1,h2,h3⟩ k=>⟨h1,h2.ext k,h3.ext k⟩,λG vs w w' ⟨h1,h2,h3,h4⟩ k=>⟨h1,h2.ext k,h3.ext k,h4.ext k⟩,λG vs w w' ⟨h1,h2,h3,h4⟩ k=>⟨h1,h2.ext k,h3.ext k,h4.ext k⟩,λG vs w w' ⟨h1,h2,h3⟩ k=>⟨h1,h2.ext k,h3.ext k⟩,trivial⟩) (⟨rfl,bg⟩)
  refine vf (λ_ _ _ _ _ _=>zf cN rfl fv) ?_
  refine vf (λx j5 kY aW iD lg=>?_) ?_
  have cV:=cV.go iD
  refine zl cK rfl (cV.at rfl) ?_
  exact fv
  refine vf (λ_ _ _ _ _ _=>zf cN rfl fv) ?_
  refine vf (λx j5 kY aW iD lg=>?_) ?_
  have aI:=aI.go iD
  refine zl cK rfl (aI.at rfl) ?_
  exact fv
  refine vf (λ_ _ _ _ _ _=>zi (i:=3) cw aH rfl rfl ((show 3<4 from om)) fv) ?_
  refine vf (λx j5 kY aW iD lg=>?_) ?_
  have eu:=eu.go iD
  refine zL bU aH rfl eu.cells rfl ?_
  exact fv
  refine vf (λx j5 kY aW iD lg=>?_) ?_
  refine gP bh bA ?_
  intro oq yo MU I4
  exact ff yo (⟨_,rfl,(by have h1:=iD.aO.size;omega),MU.o lg⟩)
  refine cT ?_
  refine ve 0 (λx j5 kY aW iD lg hJ hlen=>?_) ?_
  have bo:=jR hlen
  subst bo
  have fS:=fS.go iD
  intro v6 d6
  obtain⟨bb,e6,Cc,gz⟩:=d6
  subst e6
  obtain⟨cB,bg⟩:=hJ
  obtain rfl:G2=kY:=cB.symm
  refine FZ (N:=w.heap.size) bh bA rfl rfl rfl rfl rfl rfl gz Cc fS bg.db om ?_
  intro v9 oq G9 kW vv di fj p8
  exact fe G9 di fj (⟨kW,bg.out di p8 ⟨gC.1,gC.2.1,gC.2.2⟩ ⟨kW _ gC.1,kW _ gC.2.1,kW _ gC.2.2⟩ fj,vv⟩)
  refine vf (λ_ _ _ _ _ _=>zf cN rfl fv) ?_
  refine vf (λx j5 kY aW iD lg=>?_) ?_
  have aI:=aI.go iD
  refine zl cK rfl (aI.at rfl) ?_
  exact fv
  refine vf (λ_ _ _ _ _ _=>zi (i:=1) cw aH rfl rfl ((show 1<4 from om)) fv) ?_
  refine vf (λ_ _ _ _ _ _=>zf dB rfl fv) ?_
  refine vf (λx j5 kY aW iD lg=>?_) ?_
  have bC:=bC.go iD
  refine zl cm rfl (bC.cells 0 _ rfl) ?_
  exact fv
  refine vf (λx j5 kY aW iD lg=>?_) ?_
  refine gH bh bA rfl rfl ?_
  intro oq yo D4 I4
  exact ff yo (aY.eF [nx] D4 (λhx=>by have:=lg _ hx;omega))
  refine ve 1 (λx j5 kY aW iD lg hJ hlen=>?_) ?_
  obtain⟨q0,bo⟩:=jS hlen
  subst bo
  intro lz d14
  obtain⟨kz,bg,Gi⟩:=hJ
  refine IN bh bA rfl rfl rfl rfl rfl rfl Gi d14 bg.db kz so ?_
  intro v9 oq j6 di fj p8
  exact fe G2 di fj (⟨rfl,bg.out di p8 ⟨gC.1,gC.2.1,gC.2.2⟩ ⟨gC.1,gC.2.1,gC.2.2⟩ fj,j6⟩)
  refine vf (λx j5 kY aW iD lg=>?_) ?_
  refine gP bh bA ?_
  intro oq yo adQ I4
  exact ff yo (⟨_,rfl,(by have h1:=iD.aO.size;omega),adQ.o lg⟩)
  refine cT ?_
  refine ve 2 (λx j5 kY aW iD lg hJ hlen=>?_) ?_
  obtain⟨q0,q1,bo⟩:=lP hlen
  subst bo
  have fb:=fb.go iD
  intro yp d16
  obtain⟨bb,e6,Cc,gz⟩:=d16
  subst e6
  obtain⟨cB,bg,rv⟩:=hJ
  obtain rfl:G2=kY:=cB.symm
  refine FZ (N:=w.heap.size) bh bA rfl rfl rfl rfl rfl rfl gz Cc fb bg.db om ?_
  intro v9 oq G9 kW vv di fj p8
  exact fe G9 di fj (⟨kW,bg.out di p8 ⟨gC.1,gC.2.1,gC.2.2⟩ ⟨kW _ gC.1,kW _ gC.2.1,kW _ gC.2.2⟩ fj,rv.go di,vv⟩)
  refine cT ?_
  refine vf (λx j5 kY aW iD lg=>?_) ?_
  refine gH bh bA rfl rfl ?_
  intro oq yo adR I4
  exact ff yo (aY.eF [(dm cx (bK cx ai n))] adR (λhx=>by have:=lg _ hx;omega))
  refine ve 3 (λx j5 kY aW iD lg hJ hlen=>?_) ?_
  obtain⟨q0,q1,q2,bo⟩:=Al hlen
  subst bo
  intro v20 d20
  obtain⟨kz,bg,rv,Gi⟩:=hJ
  refine IN bh bA rfl rfl rfl rfl rfl rfl Gi d20 bg.db kz so ?_
  intro v9 oq j6 di fj p8
  exact fe G2 di fj (⟨rfl,bg.out di p8 ⟨gC.1,gC.2.1,gC.2.2⟩ ⟨gC.1,gC.2.1,gC.2.2⟩ fj,rv.go di,j6⟩)
  refine cT ?_
  refine ve 4 (λx j5 kY aW iD lg hJ hlen=>?_) ?_
  obtain⟨q0,q1,q2,q3,bo⟩:=Mb hlen
  subst bo
  have fa:=fa.go iD
  obtain⟨cB,bg,rv,adS⟩:=hJ
  obtain rfl:G2=kY:=cB.symm
  refine aC (ih eb om om bD.2.2 (ρ++[(nx,(dm cx (bK cx ai n)))]) (cj ai ea ρ (bK cx ai n+1)).2 so om _ _ _ br G2 j5 fa (by rw[List.map_append];exact rv) (by rw[List.map_append];exact adS) bg.rn bg.db) ?_
  rintro Ca oq ⟨⟨dU,Gg⟩,aG⟩
  exact fe G2 (Fr.of aG bg.oh) ((λq hq=>lL (bg.db q hq) aG.size)) (⟨rfl,bg.call Gg aG,dU⟩)
  refine vf (λ_ _ _ _ _ _=>zi (i:=3) cw aH rfl rfl ((show 3<4 from om)) fv) ?_
  exact trivial
  intro x I5 TO aW MV adT hJ hlen
  obtain⟨q0,q1,q2,q3,q4,bo⟩:=Sg hlen
  subst bo
  intro v6 d6
  intro lz d14
  intro yp d16
  intro v20 d20
  have cV:=cV.go MV
  change OW _ _ _ _ _ (aM (aN _ x _) (zZ 67 [_,_,_,_,_,_,_,_,_,_,_,_,_,_,_,_,_,_,_,_,_,_,_,_,_])) _
  obtain⟨cB,bg,dU⟩:=hJ
  obtain rfl:G2=TO:=cB.symm
  obtain⟨a7,n7,c7,e7,_,_⟩:=dO dU
  have e8:q4=_:=e7
  subst e8
  refine sW (i:=3) (vs:=[str (cj ai eb (ρ++[(nx,(dm cx (bK cx ai n)))]) (cj ai ea ρ (bK cx ai n+1)).2).1.av.az,.slice a7 n7 c7]) (row:=(cj ai eb (ρ++[(nx,(dm cx (bK cx ai n)))]) (cj ai ea ρ (bK cx ai n+1)).2).1.av.enc) aH rfl rfl rfl rfl rfl bg.own bg.db bg.mem.1 (by rw[iI];rw[List.length_set,List.length_set];omega) rfl (oZ _) ((show bT G2 _ (.agg #[_,_]) _ from dU).kQ) ?_
  intro MW Cd r7 ey
  rw[sY] at ey
  have cV:=cV.aL Cd bg.jC
  have bg:=bg.store Cd ey
  refine ag<|zr<|zL bU aH rfl cV.all rfl<|dw aH rfl rfl rfl bg.bx rfl ?_
  intro adU D5 dx mr
  subst Ge
  obtain⟨r8,sd,vw⟩:=bg.fin hG B7.mem D5
  refine ag<|aV ?_
  exact⟨[_],gQ bU aH rfl dx rfl,⟨r8,sd⟩,vw⟩
  have I6:isLt e=false:=not_lt (λhh=>h3 (jJ.trans hh))
  have TP:=adF ai ρ n fx I6
  have TQ:=adG ai n fx I6
  have kJ:=Fr.refl G2 w6
  have zF:=bg.kb.size
  refine bz<|aQ<|zr<|zf cN rfl<|zl cK rfl (aI.at rfl)<|zi (i:=0) cw aH rfl rfl jU<|zf dB rfl<|zl cm rfl (p7.cells 0 _ rfl)<|cY rfl rfl<|ag ?_
  refine ji (λq:Value×Value=>[(1,q.1),(2,q.2),(3,.pointer (some ⟨br,0,none⟩)),(4,.pointer (some ⟨w.heap.size,0,none⟩)),(8,.pointer (some ⟨w1.heap.size,0,none⟩)),(9,.pointer (some ⟨w4.heap.size,0,none⟩)),(10,.int .i64 (e.from:Int)),(11,.int .i64 ((e.from+e.kids.length:Nat):Int))]) (λq ww=>Fr G2 w6 G2 ww∧jy G2 w ww br ai (nF ai n e) gb w1.heap.size (.slice (some ⟨gb,0,none⟩) e.av.au.length jf) (mi (wN ai n e) [] e)∧bI G2 ww q.1 ((jV ai ρ n e).map Prod.fst)∧bI G2 ww q.2 ((jV ai ρ n e).map Prod.snd)) ?_ ?_
  refine zc rfl (λh4=>?_) (λh4=>?_)
  obtain⟨nf,nx,tA,tB,eb,rfl⟩:=I0 bD (jJ.symm.trans h4)
  have wP:(Ex.fn nf nx tA tB eb).n=3+tA.n+tB.n+eb.n:=rfl
  have hmul:(Ex.fn nf nx tA tB eb).n*(ai.length+2)=3*(ai.length+2)+tA.n*(ai.length+2)+tB.n*(ai.length+2)+eb.n*(ai.length+2):=by rw[wP,Nat.add_mul,Nat.add_mul,Nat.add_mul]
  have I7:(Ex.fn nf nx tA tB eb).av.au.length=6:=rfl
  refine zr<|zm<|aC (MP ai n om iG br G2 w6 bg.rn) ?_
  rintro v7 w7 ⟨iV,cz⟩
  have po:=cz.size
  have bc:=bc.aL cz (bg.oh);have fS:=fS.aL cz (bg.oh);have fb:=fb.aL cz (bg.oh);have aI:=aI.aL cz (bg.oh);have cV:=cV.aL cz (bg.oh);have kJ:=kJ.aL cz bg.oh
  obtain⟨rfl,rq⟩:=iV
  have bg:=bg.call rq cz
  refine zA<|ag<|zr<|zm<|aC (MP ai (bK cx ai n+1) om iG br G2 w7 bg.rn) ?_
  rintro v8 w8 ⟨p9,cv⟩
  have AF:=cv.size
  have bc:=bc.aL cv (bg.oh);have fS:=fS.aL cv (bg.oh);have fb:=fb.aL cv (bg.oh);have aI:=aI.aL cv (bg.oh);have cV:=cV.aL cv (bg.oh);have kJ:=kJ.aL cv bg.oh
  obtain⟨rfl,rq⟩:=p9
  have bg:=bg.call rq cv
  refine zA<|ag<|aQ ?_
  apply mv et 5 (rA 103 5) (rA 103 5) [[],[0],[],[2],[1]] [It.v _,It.v _,It.v _,It.v _,It.v _] de rfl
  intro wd aB
  refine vc (λ_ _ _=>zf cN rfl pv) ?_
  refine vk aB (λx w9 aG=>?_) ?_
  have cV:=cV.ext aG
  refine zl cK rfl (cV.at rfl) ?_
  exact pv
  refine eK ?_
  refine vk aB (λx w9 aG=>?_) ?_
  refine aC (zY _ w9) ?_
  rintro v10 cO ⟨ry,bV⟩
  have Ce:=bV.size
  obtain rfl:=ry
  exact pk bV
  refine vk aB (λx w9 aG=>?_) ?_
  refine zi (i:=1) cw aH rfl rfl ((show 1<6 from om)) ?_
  exact pv
  exact trivial
  intro x j4 eU
  have bc:=bc.ext eU;have fS:=fS.ext eU;have fb:=fb.ext eU;have aI:=aI.ext eU;have cV:=cV.ext eU;have kJ:=kJ.ext eU;have bg:=bg.ext eU
  change OW _ _ _ _ _ (aM (aN _ x _) (zZ 103 [_,_,_,_,_])) _
  refine sW (i:=1) (vs:=[str (dm cx (bK cx ai n)),.slice none 0 0]) (row:=(cg (dm cx (bK cx ai n))).enc) aH rfl rfl rfl rfl rfl bg.own bg.db bg.mem.1 (by rw[iI];omega) rfl (oZ _) (MR _) ?_
  intro pr jE r7 ey
  rw[sY] at ey
  have bc:=bc.aL jE bg.jC;have fS:=fS.aL jE bg.jC;have fb:=fb.aL jE bg.jC;have aI:=aI.aL jE bg.jC;have cV:=cV.aL jE bg.jC;have kJ:=kJ.aL jE bg.jC
  have bg:=bg.store jE ey
  refine ag<|aQ ?_
  apply mv et 5 (rA 108 5) (rA 108 5) [[],[0],[],[2],[1]] [It.v _,It.v _,It.v _,It.v _,It.v _] de rfl
  intro wd aB
  refine vc (λ_ _ _=>zf cN rfl pv) ?_
  refine vk aB (λx oo jn=>?_) ?_
  have cV:=cV.ext jn
  refine zl cK rfl (cV.at rfl) ?_
  exact pv
  refine eK ?_
  refine vk aB (λx oo jn=>?_) ?_
  refine aC (zY _ oo) ?_
  rintro v51 lS ⟨adV,lB⟩
  have alP:=lB.size
  obtain rfl:=adV
  exact pk lB
  refine vk aB (λx oo jn=>?_) ?_
  refine zi (i:=2) cw aH rfl rfl ((show 2<6 from om)) ?_
  exact pv
  exact trivial
  intro x sZ ru
  have bc:=bc.ext ru;have fS:=fS.ext ru;have fb:=fb.ext ru;have aI:=aI.ext ru;have kJ:=kJ.ext ru;have bg:=bg.ext ru
  change OW _ _ _ _ _ (aM (aN _ x _) (zZ 108 [_,_,_,_,_])) _
  refine sW (i:=2) (vs:=[str (dm cx (bK cx ai (bK cx ai n+1))),.slice none 0 0]) (row:=(cg (dm cx (bK cx ai (bK cx ai n+1)))).enc) aH rfl rfl rfl rfl rfl bg.own bg.db bg.mem.1 (by rw[iI];rw[List.length_set];omega) rfl (oZ _) (MR _) ?_
  intro j5 tX r7 ey
  rw[sY] at ey
  have bc:=bc.aL tX bg.jC;have fS:=fS.aL tX bg.jC;have fb:=fb.aL tX bg.jC;have aI:=aI.aL tX bg.jC;have kJ:=kJ.aL tX bg.jC
  have bg:=bg.store tX ey
  refine ag<|aQ ?_
  have zF:=bg.kb.size
  obtain⟨b1,ga,gZ,ia,e1,bC,dh⟩:=fK bc (i:=1) om
  cases e1
  obtain⟨b2,nu,jd,je,e2,bY,ew⟩:=fK bc (i:=2) om
  cases e2
  apply kf et G2 15 (rA 113 15) (rA 113 15) [[],[],[0,1],[],[3],[4],[5],[6],[],[8],[9],[10],[11],[7,12],[2,13]] [Ie.p (fun(G:List Nat) (v:Value) (ww:World)=>∃bb,v= .slice (some ⟨bb,0,none⟩) 0 0∧w.heap.size<=bb∧fi G ww bb #[] 9),Ie.v _,Ie.e 0,Ie.v _,Ie.v _,Ie.v _,Ie.v _,Ie.v _,Ie.v _,Ie.v _,Ie.v _,Ie.v _,Ie.v _,Ie.p (fun(G:List Nat) (v:Value) (ww:World)=>bI G ww v [nf,nx]),Ie.e 1] [2,14] [fun(G:List Nat) (vs:List Value) (ww:World)=>G=G2∧jy G2 w ww br ai (bK cx ai (bK cx ai n+1)+1) gb w1.heap.size (.slice (some ⟨gb,0,none⟩) (Ex.fn nf nx tA tB eb).av.au.length jf) ((((Ex.fn nf nx tA tB eb).av.au.set 1 (cg (dm cx (bK cx ai n)))).set 2 (cg (dm cx (bK cx ai (bK cx ai n+1)))))),fun(G:List Nat) (vs:List Value) (ww:World)=>(∀q,q∈G2->q∈G)∧jy G w ww br ai (bK cx ai (bK cx ai n+1)+1) gb w1.heap.size (.slice (some ⟨gb,0,none⟩) (Ex.fn nf nx tA tB eb).av.au.length jf) ((((Ex.fn nf nx tA tB eb).av.au.set 1 (cg (dm cx (bK cx ai n)))).set 2 (cg (dm cx (bK cx ai (bK cx ai n+1))))))∧LP w.heap.size G G2 ww 9 (vs.getD 0 undef) (ρ.map Prod.fst),fun(G:List Nat) (vs:List Value) (ww:World)=>G=G2∧jy G2 w ww br ai (bK cx ai (bK cx ai n+1)+1) gb w1.heap.size (.slice (some ⟨gb,0,none⟩) (Ex.fn nf nx tA tB eb).av.au.length jf) ((((Ex.fn nf nx tA tB eb).av.au.set 1 (cg (dm cx (bK cx ai n)))).set 2 (cg (dm cx (bK cx ai (bK cx ai n+1))))))∧bI G2 ww (vs.getD 1 undef) ((ρ.map Prod.fst)++[nf,nx])] de rfl bg.db (by exact⟨λG v w G' w' ⟨bb,e,h0,h⟩ k=>⟨bb,e,h0,h.go k⟩,λG v w G' w' h k=>bI.go h k,trivial⟩) (by exact⟨λG vs w w' ⟨h1,h2⟩ k=>⟨h1,h2.ext k⟩,λG vs w w' ⟨h1,h2,h3⟩ k=>⟨h1,h2.ext k,h3.ext k⟩,λG vs w w' ⟨h1,h2,h3⟩ k=>⟨h1,h2.ext k,h3.ext k⟩,trivial⟩) (⟨rfl,bg⟩)
  refine vf (λx oq AG aW s0 yq=>?_) ?_
  refine gP bh bA ?_
  intro Cf vz adW adX
  exact ff vz (⟨_,rfl,(by have h1:=s0.aO.size;omega),adW.o yq⟩)
  refine cT ?_
  refine ve 0 (λx oq AG aW s0 yq hJ hlen=>?_) ?_
  have bo:=jR hlen
  subst bo
  have fS:=fS.go s0
  intro v0 d0
  obtain⟨bb,e6,Cc,gz⟩:=d0
  subst e6
  obtain⟨cB,bg⟩:=hJ
  obtain rfl:G2=AG:=cB.symm
  refine FZ (N:=w.heap.size) bh bA rfl rfl rfl rfl rfl rfl gz Cc fS bg.db om ?_
  intro v9 Cf G9 kW vv di fj p8
  exact fe G9 di fj (⟨kW,bg.out di p8 ⟨gC.1,gC.2.1,gC.2.2⟩ ⟨kW _ gC.1,kW _ gC.2.1,kW _ gC.2.2⟩ fj,vv⟩)
  refine vf (λ_ _ _ _ _ _=>zf cN rfl fv) ?_
  refine vf (λx oq AG aW s0 yq=>?_) ?_
  have aI:=aI.go s0
  refine zl cK rfl (aI.at rfl) ?_
  exact fv
  refine vf (λ_ _ _ _ _ _=>zi (i:=1) cw aH rfl rfl ((show 1<6 from om)) fv) ?_
  refine vf (λ_ _ _ _ _ _=>zf dB rfl fv) ?_
  refine vf (λx oq AG aW s0 yq=>?_) ?_
  have bC:=bC.go s0
  refine zl cm rfl (bC.cells 0 _ rfl) ?_
  exact fv
  refine vf (λ_ _ _ _ _ _=>zf cN rfl fv) ?_
  refine vf (λx oq AG aW s0 yq=>?_) ?_
  have aI:=aI.go s0
  refine zl cK rfl (aI.at rfl) ?_
  exact fv
  refine vf (λ_ _ _ _ _ _=>zi (i:=2) cw aH rfl rfl ((show 2<6 from om)) fv) ?_
  refine vf (λ_ _ _ _ _ _=>zf dB rfl fv) ?_
  refine vf (λx oq AG aW s0 yq=>?_) ?_
  have bY:=bY.go s0
  refine zl cm rfl (bY.cells 0 _ rfl) ?_
  exact fv
  refine vf (λx oq AG aW s0 yq=>?_) ?_
  refine lq bh bA rfl rfl rfl rfl ?_
  intro Cf vz adY adX
  exact ff vz (aY.eF [nf,nx] adY (λhx=>by have:=yq _ hx;omega))
  refine ve 1 (λx oq AG aW s0 yq hJ hlen=>?_) ?_
  obtain⟨q0,bo⟩:=jS hlen
  subst bo
  intro wR d13
  obtain⟨kz,bg,Gi⟩:=hJ
  refine IN bh bA rfl rfl rfl rfl rfl rfl Gi d13 bg.db kz so ?_
  intro v9 Cf j6 di fj p8
  exact fe G2 di fj (⟨rfl,bg.out di p8 ⟨gC.1,gC.2.1,gC.2.2⟩ ⟨gC.1,gC.2.1,gC.2.2⟩ fj,j6⟩)
  exact trivial
  intro x MW adZ aW TR alQ hJ hlen
  obtain⟨q0,q1,bo⟩:=lP hlen
  subst bo
  intro v0 d0
  intro wR d13
  have fb:=fb.go TR;have kJ:=kJ.go TR
  change OW _ _ _ _ _ (aM (aN _ x _) (zZ 113 [_,_,_,_,_,_,_,_,_,_,_,_,_,_,_])) _
  obtain⟨cB,bg,rv⟩:=hJ
  obtain rfl:G2=adZ:=cB.symm
  refine zA<|ag<|df<|gP bh bA ?_
  intro adU D5 MX alR
  have dD:=bg.db
  have zF:=bg.kb.size
  have bg:=bg.ext D5;have fb:=fb.ext D5;have kJ:=kJ.ext D5;have rv:=rv.ext D5
  have tY:=MX.o dD
  refine zm<|FZ (N:=w.heap.size) bh bA rfl rfl rfl rfl rfl rfl tY om fb bg.db om ?_
  intro v9 alS G9 kW vv di fj p8
  have bg:=bg.out di p8 ⟨gC.1,gC.2.1,gC.2.2⟩ ⟨kW _ gC.1,kW _ gC.2.1,kW _ gC.2.2⟩ fj
  have kJ:=kJ.go di;have rv:=rv.go di
  refine zm<|zm<|lq bh bA rfl rfl rfl rfl ?_
  intro alT I8 ad0 alU
  have kJ:=kJ.ext I8;have rv:=rv.ext I8;have vv:=vv.ext I8;have bg:=bg.ext I8
  refine IN bh bA rfl rfl rfl rfl rfl rfl vv (aY.eF [(dm cx (bK cx ai n)),(dm cx (bK cx ai (bK cx ai n+1)))] ad0 (λhx=>by have:=fj _ hx;omega)) bg.db kW (show(ρ.map Prod.snd).length+2<100000000 from om) ?_
  intro v10 alV wS di D6 p8
  have bg:=bg.out di p8 ⟨gC.1,gC.2.1,gC.2.2⟩ ⟨gC.1,gC.2.1,gC.2.2⟩ D6
  have kJ:=kJ.go di;have rv:=rv.go di
  refine zA<|ag ?_
  exact⟨(_,_),⟨rfl,rfl,rfl,rfl,rfl,rfl,rfl,rfl⟩,⟨kJ,bg,by show bI G2 _ _ ((ρ++_).map Prod.fst);rw[List.map_append];exact rv,by show bI G2 _ _ ((ρ++_).map Prod.snd);rw[List.map_append];exact wS⟩⟩
  have rp:e.head≠iq:=λhh=>h4 (jJ.trans hh)
  have sy:=adH ai n bD fx rp
  have yr:=TG fx I6 rp
  refine bz ?_
  exact⟨(_,_),⟨rfl,rfl,rfl,rfl,rfl,rfl,rfl,rfl⟩,⟨kJ,by rw[sy.2,sy.1,show mi [cg e.head] [] e=e.av.au from by rw[yr];simp[mi]];exact bg,by rw[TE ai ρ n rp];exact fS,by rw[TE ai ρ n rp];exact fb⟩⟩
  intro gu w7 e7 hI
  obtain⟨vf2,BT⟩:=gu
  dsimp only at hI⊢
  obtain⟨kJ,bg,fS,fb⟩:=hI
  have bc:=bc.go kJ;have aI:=aI.go kJ;have cV:=cV.go kJ
  refine aQ<|zr<|zm<|zA<|ag<|cS ?_
  refine fY (λk:Nat=>[(1,vf2),(2,BT),(3,.pointer (some ⟨br,0,none⟩)),(4,.pointer (some ⟨w.heap.size,0,none⟩)),(8,.pointer (some ⟨w1.heap.size,0,none⟩)),(9,.pointer (some ⟨w4.heap.size,0,none⟩)),(11,.int .i64 ((e.from+e.kids.length:Nat):Int)),(15,.int .i64 ((e.from+k:Nat):Int))]) (λk ww=>Fr G2 w7 G2 ww∧jy G2 w ww br ai ((kI ai (jV ai ρ n e) e (nF ai n e) k).2) gb w1.heap.size (.slice (some ⟨gb,0,none⟩) e.av.au.length jf) (mi (wN ai n e) (kI ai (jV ai ρ n e) e (nF ai n e) k).1 e)∧k<=e.kids.length) (λk=>e.kids.length-k) (0) (⟨rfl,rfl,rfl,rfl,rfl,rfl,rfl,rfl⟩) (⟨Fr.refl _ _,bg,om⟩) ?_
  intro gg w8 e8 hI
  obtain⟨pt,bg,hk⟩:=hI
  have bc:=bc.go pt;have fS:=fS.go pt;have fb:=fb.go pt;have aI:=aI.go pt;have cV:=cV.go pt
  refine aQ<|zr<|zm<|zm<|fA rfl rfl rfl<|ag<|zc rfl (λh5=>?_) (λh5=>?_)
  have iw:gg<e.kids.length:=om
  have sP:=wM gg iw
  obtain⟨b1,ga,gZ,ia,e1,bC,dh⟩:=fK bc (i:=e.from+gg) om
  cases e1
  have dh:=dh.eq sP
  have tW:=Fm bD iw
  have gR:=MO ai (jV ai ρ n e) e (nF ai n e) gg
  have AE:=TL ai (jV ai ρ n e) e (nF ai n e) gg om
  have Bj:=yl iw
  have lE:=adJ ai ρ n fx I6 iw oH oX AE.2
  refine bz<|aQ<|cS ?_
  apply kf et G2 13 (rA 141 13) (rA 141 13) [[],[0],[],[],[3],[],[4,5],[6],[],[],[],(rA 7 4),[1,2]] [Ie.v _,Ie.v _,Ie.v _,Ie.v _,Ie.v _,Ie.v _,Ie.v _,Ie.v _,Ie.v _,Ie.v _,Ie.v _,Ie.e 0,Ie.v _] [11] [fun(G:List Nat) (vs:List Value) (ww:World)=>G=G2∧jy G2 w ww br ai ((kI ai (jV ai ρ n e) e (nF ai n e) gg).2) gb w1.heap.size (.slice (some ⟨gb,0,none⟩) e.av.au.length jf) (mi (wN ai n e) (kI ai (jV ai ρ n e) e (nF ai n e) gg).1 e),fun(G:List Nat) (vs:List Value) (ww:World)=>G=G2∧jy G2 w ww br ai ((kI ai (jV ai ρ n e) e (nF ai n e) (gg+1)).2) gb w1.heap.size (.slice (some ⟨gb,0,none⟩) e.av.au.length jf) (mi (wN ai n e) (kI ai (jV ai ρ n e) e (nF ai n e) gg).1 e)∧bT G2 ww (vs.getD 0 undef) (cj ai (fL e gg) (jV ai ρ n e) (kI ai (jV ai ρ n e) e (nF ai n e) gg).2).1.av] de rfl bg.db (by exact trivial) (by exact⟨λG vs w w' ⟨h1,h2⟩ k=>⟨h1,h2.ext k⟩,λG vs w w' ⟨h1,h2,h3⟩ k=>⟨h1,h2.ext k,h3.ext k⟩,trivial⟩) (⟨rfl,bg⟩)
  refine vf (λ_ _ _ _ _ _=>zf cN rfl fv) ?_
  refine vf (λx w9 G9 aW di lh=>?_) ?_
  have cV:=cV.go di
  refine zl cK rfl (cV.at rfl) ?_
  exact fv
  refine cT ?_
  refine vf (λ_ _ _ _ _ _=>zf cN rfl fv) ?_
  refine vf (λx w9 G9 aW di lh=>?_) ?_
  have aI:=aI.go di
  refine zl cK rfl (aI.at rfl) ?_
  exact fv
  refine cT ?_
  refine vf (λ_ _ _ _ _ _=>zi cw aH rfl rfl om fv) ?_
  refine vf (λx w9 G9 aW di lh=>?_) ?_
  have bC:=bC.go di
  refine zL bU aH rfl bC.cells rfl ?_
  exact fv
  refine cT ?_
  refine cT ?_
  refine cT ?_
  refine ve 0 (λx w9 G9 aW di lh hJ hlen=>?_) ?_
  have bo:=jR hlen
  subst bo
  have fS:=fS.go di;have fb:=fb.go di;have dh:=dh.go di
  obtain⟨cB,bg⟩:=hJ
  obtain rfl:G2=G9:=cB.symm
  refine aC (ih (fL e gg) om om tW.1 (jV ai ρ n e) (kI ai (jV ai ρ n e) e (nF ai n e) gg).2 lE.1 lE.2 _ _ _ br G2 w9 dh fS fb bg.rn bg.db) ?_
  rintro Ca cO ⟨⟨dU,Gg⟩,aG⟩
  exact fe G2 (Fr.of aG bg.oh) ((λq hq=>lL (bg.db q hq) aG.size)) (⟨rfl,bg.call Gg aG,dU⟩)
  refine vf (λ_ _ _ _ _ _=>zi cw aH rfl rfl om fv) ?_
  exact trivial
  intro x j4 D7 aW wT Gj hJ hlen
  obtain⟨q0,bo⟩:=jS hlen
  subst bo
  have pt:=pt.go wT
  change OW _ _ _ _ _ (aM (aN _ x _) (zZ 141 [_,_,_,_,_,_,_,_,_,_,_,_,_])) _
  obtain⟨cB,bg,dU⟩:=hJ
  obtain rfl:G2=D7:=cB.symm
  obtain⟨a7,n7,c7,e7,_,_⟩:=dO dU
  have e8:q0=_:=e7
  subst e8
  have ze:(mi (wN ai n e) (kI ai (jV ai ρ n e) e (nF ai n e) gg).1 e).set (e.from+gg) (cj ai (fL e gg) (jV ai ρ n e) (kI ai (jV ai ρ n e) e (nF ai n e) gg).2).1.av=mi (wN ai n e) (kI ai (jV ai ρ n e) e (nF ai n e) (gg+1)).1 e:=(by have:=TH (pre:=(wN ai n e)) (acc:=(kI ai (jV ai ρ n e) e (nF ai n e) gg).1) (e:=e) (y:=(cj ai (fL e gg) (jV ai ρ n e) (kI ai (jV ai ρ n e) e (nF ai n e) gg).2).1) om;rw[TQ,gR] at this;exact this)
  refine sW (i:=e.from+gg) (vs:=[str (cj ai (fL e gg) (jV ai ρ n e) (kI ai (jV ai ρ n e) e (nF ai n e) gg).2).1.av.az,.slice a7 n7 c7]) (row:=(cj ai (fL e gg) (jV ai ρ n e) (kI ai (jV ai ρ n e) e (nF ai n e) gg).2).1.av.enc) aH rfl rfl rfl rfl (Nat.zero_add _) bg.own bg.db bg.mem.1 (by rw[iI,TJ om,TQ];omega) rfl (oZ _) (show bT G2 _ (.agg #[_,_]) _ from dU).kQ ?_
  intro pr jE r7 ey
  rw[sY,ze] at ey
  have pt:=pt.aL jE bg.jC
  have bg:=bg.store jE ey
  refine ag<|df<|zm<|eI rfl rfl rfl (wrap_i64 _ om om)<|zA<|ag ?_
  exact⟨gg+1,⟨rfl,rfl,rfl,rfl,rfl,rfl,rfl,cA (Value.int .i64) om⟩,⟨pt,bg,om⟩,om⟩
  have gJ:gg=e.kids.length:=by omega
  subst gJ
  have gR:=MO ai (jV ai ρ n e) e (nF ai n e) e.kids.length
  refine gD<|gF rfl<|zr<|zL bU aH rfl cV.all rfl<|dw aH rfl rfl rfl bg.bx rfl ?_
  intro w9 aG dx mr
  subst Ge
  obtain⟨r8,sd,vw⟩:=bg.fin hG B7.mem aG
  rw[TK gR,<-TP.1] at r8
  rw[<-TP.2] at sd
  refine ag<|aV ?_
  exact⟨[_],gQ bU aH rfl dx rfl,⟨r8,sd⟩,vw⟩
def ad2 {ps:List aA} {k:Nat} (h:k<ps.length):jQ (ps.take k)+fP (nth ps k)<=jQ ps:=by
 have h1:=Rw (iK h)
 have h2:=S4 (ps:=ps) (k+1)
 omega
def ad3:∀(m:Nat) (t:aA),t.size<=m->t.size<=1000000->WF t->∀(l:List aj),l.length+fP t<=100000->∀(v vl:Value) (g:Option Nat) (w:World),
  bT g.toList w v t->dj w 9 vl g l->
  ck Tryz.prog 137 [v,vl] w λr w'=>∃g',dj w' 9 r g' (lM t l)∧Fr g.toList w g'.toList w':=by
 intro m
 induction m with
 |zero=>intro t h;have:=xJ t;omega
 |succ m ih=>
  intro t hm mY dz l hl v vl g w hv gL
  obtain⟨a,n,c,rfl,hn,bc⟩:=dO hv
  subst hn
  obtain⟨al,cl,rfl⟩:=kv gL
  have p6:=gL.lt
  have oT:=gL.rs
  have hR:=Fr.refl g.toList w
  have pK:=xI t
  refine cX [.tmp 4] 34 Tryz.func137 rfl Yc rfl rfl ?_
  refine zr<|fG rfl ?_
  intro w1 aK aZ eh
  have hR:=hR.ext aK;have bc:=bc.ext aK;have gL:=gL.ext aK;have oT:=oT.ext aK
  refine zA<|ag<|aQ<|zr<|zf dB rfl<|zl cm rfl (aZ.at rfl)<|jI rfl rfl rfl rfl<|ag<|zc rfl (λh1=>?_) (λh1=>?_)
  have hq:lM t l=if t.az∈l then l else l++[t.az]:=by rw[RL,iP h1]
  refine aQ<|zr<|zm<|zf dB rfl<|zl cm rfl (aZ.at rfl)<|aC (zX l om t.az _ _ w1 oT) ?_
  rintro v2 w2 ⟨dC,aq⟩
  have eH:=aq.size
  have hR:=hR.ext aq;have gL:=gL.ext aq;have aZ:=aZ.ext aq
  obtain rfl:=dC
  refine ag<|zc rfl (λh2=>?_) (λh2=>?_)
  have AD:t.az∈l:=h2
  refine zr<|zm<|zA<|ag<|aV ?_
  exact⟨_,rfl,g,by rw[hq,iP AD];exact gL,hR⟩
  have AD:¬t.az∈l:=h2
  refine bz<|zr<|zm<|zf dB rfl<|zl cm rfl (aZ.at rfl)<|gH bh bA rfl rfl ?_
  intro w3 aJ MY iJ
  have hR:=hR.ext aJ;have gL:=gL.ext aJ
  refine St bh bA rfl rfl rfl rfl rfl rfl gL MY om ?_
  intro v5 g5 w4 ly aF nv
  have hR:=hR.go nv
  refine zA<|ag<|aV ?_
  exact⟨_,rfl,g5,by rw[hq,iN AD];exact ly,hR⟩
  have hq:lM t l=pb t.au l:=(by rw[RL,iN h1])
  have TT:fP t=jQ t.au:=(by rw[Lw,iN h1])
  have aZ:=aZ.o p6
  refine bz<|aQ<|zr<|zA<|ag<|cS ?_
  refine fY (λq:Nat×Value×Option Nat=>[(1,q.2.1),(2,.pointer (some ⟨w.heap.size,0,none⟩)),(5,.int .i64 (q.1:Int))]) (λq w'=>Fr g.toList w q.2.2.toList w'∧Fr g.toList w1 q.2.2.toList w'∧dj w' 9 q.2.1 q.2.2 (pb (t.au.take q.1) l)∧q.1<=t.au.length) (λq=>t.au.length-q.1) ((0,.slice al l.length cl,g)) (⟨rfl,rfl,rfl⟩) (⟨hR,Fr.refl _ _,gL,sm⟩) ?_
  intro gg w2 e2 hI
  obtain⟨k,vl,gl⟩:=gg
  dsimp only at hI⊢
  obtain⟨hR,ky,gL,hk⟩:=hI
  have aZ:=aZ.go ky;have bc:=bc.go ky
  refine aQ<|zr<|zm<|zf cN rfl<|zl cK rfl (aZ.at rfl)<|dZ cw rfl<|fA rfl rfl rfl<|ag<|zc rfl (λh3=>?_) (λh3=>?_)
  have iw:k<t.au.length:=om
  obtain⟨b1,ga,gZ,ia,e1,bC,dh⟩:=fK bc iw
  subst e1
  have dS:=l3 iw
  have bg:=ace (iK iw) l
  have BC:=LJ (t.au.take k) l
  have D8:=ad2 iw
  refine bz<|aQ<|cS<|df<|zf cN rfl<|zl cK rfl (aZ.at rfl)<|zm<|zi cw aH rfl rfl iw<|zL bU aH rfl bC.cells rfl<|zm<|aC (ih (nth t.au k) om om (dz.nth iw) _ om _ _ gl w2 dh gL) ?_
  rintro MM w3 ⟨MN,IW,Ga⟩
  rw[<-bg] at IW
  refine zA<|ag<|df<|zm<|eI rfl rfl rfl (wrap_i64 _ om om)<|zA<|ag ?_
  exact⟨(k+1,MM,MN),⟨rfl,rfl,rfl⟩,⟨hR.go Ga,ky.go Ga,IW,by simp;omega⟩,by simp;omega⟩
  have gJ:k=t.au.length:=by omega
  subst gJ
  refine gD<|gF rfl<|zr<|zm<|zA<|ag<|aV ?_
  exact⟨_,rfl,gl,by rw[hq,<-List.take_length (l:=t.au)];exact gL,hR⟩
def ad4 (ee:Ex) (hn:ee.n<=120) (bD:ee.ok) (v:Value) (L:List Nat) (w:World) (lT:∀x,x∈L->x<w.heap.size) (hv:bT L w v ee.av):
  ck Tryz.prog 136 [v] w λr w'=>(∃tv,r= .tuple #[tv,.bool (qy ee).isSome]∧bT L w' tv (cj (cG ee [] []) ee [] 0).1.av)∧ak [] w w':=by
 have dK:=hv
 obtain⟨a,np,c,rfl,fJ,bc⟩:=dO hv
 have pg:(cG ee [] []).length<=120:=by have:=tJ ee [] [];simp at this;omega
 have hmu:ee.n*((cG ee [] []).length+2)<=120*122:=Nat.mul_le_mul hn om
 have hK:=ak.refl [] w
 refine lH [.cell 2 66,.tmp 3] 23 Tryz.func136 rfl Yb rfl rfl rfl ?_
 refine zr<|fG rfl ?_
 intro w1 aK aT eh
 have hK:=hK.ext aK
 refine eD aH rfl rfl rfl ?_
 intro w2 aq aZ eO
 have hK:=hK.grow;have hK:=hK.ext aq;have aT:=aT.grow;have aT:=aT.ext aq
 refine zA<|ag<|zr<|zL bU aH rfl aT.all rfl<|gP bh bA ?_
 intro w3 aJ cI qm
 have hK:=hK.ext aJ;have aT:=aT.ext aJ;have aZ:=aZ.ext aJ
 refine gP bh bA ?_
 intro w4 aF dx mr
 have hK:=hK.ext aF;have aT:=aT.ext aF;have aZ:=aZ.ext aF
 have iJ:=hK.size
 refine aC (IT 120 ee hn om bD [] [] so so _ _ _ (some _) w4 (bT.ext (bT.fresh dK (by intro x hx;simp at hx;right;omega)) hK) (cF.nil _ _ _) dx.lr) ?_
 rintro v9 w5 ⟨g9,dL,di⟩
 have pq:=di.aO.size
 obtain⟨a9,c9,rfl⟩:=kv dL
 have hK:=hK.since di.aO (λx hx=>.inr (by simp at hx;omega))
 have aT:=aT.aO di.aO so
 have aZ:=aZ.aO di.aO so
 have gJ:=dL.lt
 have alW:=hK.size
 have TU:=aT.lt
 have TV:=aZ.lt
 refine j7 (ZV _ _ _ _ _) rfl rfl<|fG rfl ?_
 intro w6 bF iE lI
 have hK:=hK.ext bF;have aT:=aT.ext bF;have aZ:=aZ.ext bF;have dL:=dL.ext bF
 refine zA<|ag<|zr<|zL bU aH rfl aT.all rfl<|gP bh bA ?_
 intro w7 cz mz qm
 have hK:=hK.ext cz;have aT:=aT.ext cz;have aZ:=aZ.ext cz;have dL:=dL.ext cz;have iE:=iE.ext cz
 refine gP bh bA ?_
 intro w8 cv wU mr
 have hK:=hK.ext cv;have aT:=aT.ext cv;have aZ:=aZ.ext cv;have dL:=dL.ext cv;have iE:=iE.ext cv
 refine zm ?_
 have ad6:∀q,q∈g9.toList->w.heap.size<=q:=(λq hq=>by rcases di.mem q hq with h|h;(·simp at h;omega);(·omega))
 have jD:=hK.size
 have iH:w5.heap.size<w8.heap.size:=iE.lt
 have ad7:∀q,q∈g9.toList->q≠w5.heap.size∧q≠w1.heap.size:=(λq hq=>⟨λh9=>by have:=gJ q hq;omega,λh9=>by rcases di.mem q hq with h|h;(·simp at h;omega);(·omega)⟩)
 refine aC (adK (cG ee [] []) om 120 ee hn om bD [] 0 so om _ _ _ w5.heap.size (w5.heap.size::w1.heap.size::L) w8 (bT.ext (bT.fresh dK (by intro q hq;simp at hq;rcases hq with h|h|h;(·right;omega);(·right;omega);(·exact .inl h))) hK) (cF.nil _ _ _) (cF.nil _ _ _) ⟨by simp,_,iE,dL.rep (λq hq oO=>by have h1:=ad7 q (by simp[hq]);rcases mC.1 oO with h|h;(·exact h1.1 h);(·rcases mC.1 h with h|h;(·exact h1.2 h);(·have h2:=lT q h;have h3:=ad6 q (by simp[hq]);omega)))⟩ (by intro q hq;simp at hq;rcases hq with h|h|h;(·omega);(·omega);(·have:=lT q h;omega))) ?_
 rintro yp w9 ⟨⟨wV,rq⟩,kZ⟩
 have TW:=kZ.size
 obtain⟨nA,nB,nC,rfl,_,_⟩:=dO wV
 obtain⟨_,alX,iE,_⟩:=rq
 have hK:=hK.since kZ (λq hq=>.inr (by simp at hq;omega))
 have aT:=aT.aO kZ so
 have aZ:=aZ.aO kZ so
 refine eD aH rfl rfl rfl ?_
 intro cO bV bP Bw
 have hK:=hK.grow;have hK:=hK.ext bV;have aZ:=aZ.grow;have aZ:=aZ.ext bV;have iE:=iE.grow;have iE:=iE.ext bV;have wV:=wV.grow;have wV:=wV.ext bV
 refine dw aH rfl rfl rfl bP rfl ?_
 intro eY cM bP uK
 have hK:=hK.aL cM sx;have aZ:=aZ.aL cM sx;have iE:=iE.aL cM sx;have wV:=wV.aL cM sx
 refine ag<|aQ ?_
 refine ql et (cR w1.heap.size ([str (cj (cG ee [] []) ee [] 0).1.av.az,.slice nA nB nC]) 66) 8 (rA 17 6++[100006,3]) (rA 17 6++[100006,3]) [[],[],[1],[2],[3],[4],[0],[5]] [λv _=>v=(.agg #[str (cj (cG ee [] []) ee [] 0).1.av.az,.slice nA nB nC]),λv _=>v=(.pointer (some ⟨w5.heap.size,0,none⟩)),λv _=>v=(.pointer (some ⟨w5.heap.size,0,none⟩)),λv _=>v=(.pointer (some ⟨w5.heap.size,0+1,none⟩)),λv _=>v=(.int .i64 ((cj (cG ee [] []) ee [] 0).2:Int)),λv _=>v=(.bool (decide (((cj (cG ee [] []) ee [] 0).2:Int)<=100))),λ_ ww=>aY ww w1.heap.size ([str (cj (cG ee [] []) ee [] 0).1.av.az,.slice nA nB nC]).toArray 66,λv _=>v=(.bool (decide (((cj (cG ee [] []) ee [] 0).2:Int)<=100)))] de (cZ (cZ (cZ (cZ (cZ (cZ (C6 (cZ trivial)))))))) (λwd aB=>?_) ?_
 refine bN ?_ ?_
 intro x vs gj e dG hd he
 replace dG:=(cR w1.heap.size ([str (cj (cG ee [] []) ee [] 0).1.av.az,.slice nA nB nC]) 66).trans aB dG
 have bP:=bP.aL dG.1 sx
 replace he:e=aM (aN _ x _) []:=he
 subst he
 refine zL bU aH rfl bP.all rfl<|ag ?_
 exact dn ((cR w1.heap.size ([str (cj (cG ee [] []) ee [] 0).1.av.az,.slice nA nB nC]) 66).refl _) rfl
 refine bN ?_ ?_
 intro x vs gj e dG hd he
 replace dG:=(cR w1.heap.size ([str (cj (cG ee [] []) ee [] 0).1.av.az,.slice nA nB nC]) 66).trans aB dG
 replace he:e=aM (aN _ x _) []:=he
 subst he
 refine zm<|ag ?_
 exact dn ((cR w1.heap.size ([str (cj (cG ee [] []) ee [] 0).1.av.az,.slice nA nB nC]) 66).refl _) rfl
 refine bN ?_ ?_
 intro x vs gj e dG hd he
 have d1:vs 1=(.pointer (some ⟨w5.heap.size,0,none⟩)):=hd
 replace dG:=(cR w1.heap.size ([str (cj (cG ee [] []) ee [] 0).1.av.az,.slice nA nB nC]) 66).trans aB dG
 replace he:e=aM (aN _ x _) [(18,vs 1)]:=he
 rw[d1] at he
 subst he
 refine dk rfl<|ag ?_
 exact dn ((cR w1.heap.size ([str (cj (cG ee [] []) ee [] 0).1.av.az,.slice nA nB nC]) 66).refl _) rfl
 refine bN ?_ ?_
 intro x vs gj e dG hd he
 have d2:vs 2=(.pointer (some ⟨w5.heap.size,0,none⟩)):=hd
 replace dG:=(cR w1.heap.size ([str (cj (cG ee [] []) ee [] 0).1.av.az,.slice nA nB nC]) 66).trans aB dG
 replace he:e=aM (aN _ x _) [(19,vs 2)]:=he
 rw[d2] at he
 subst he
 refine zf HK rfl<|ag ?_
 exact dn ((cR w1.heap.size ([str (cj (cG ee [] []) ee [] 0).1.av.az,.slice nA nB nC]) 66).refl _) rfl
 refine bN ?_ ?_
 intro x vs gj e dG hd he
 have d3:vs 3=(.pointer (some ⟨w5.heap.size,0+1,none⟩)):=hd
 replace dG:=(cR w1.heap.size ([str (cj (cG ee [] []) ee [] 0).1.av.az,.slice nA nB nC]) 66).trans aB dG
 have iE:=iE.aL dG.1 sx
 replace he:e=aM (aN _ x _) [(20,vs 3)]:=he
 rw[d3] at he
 subst he
 refine zl qT rfl (iE.at rfl)<|ag ?_
 exact dn ((cR w1.heap.size ([str (cj (cG ee [] []) ee [] 0).1.av.az,.slice nA nB nC]) 66).refl _) rfl
 refine bN ?_ ?_
 intro x vs gj e dG hd he
 have d4:vs 4=(.int .i64 ((cj (cG ee [] []) ee [] 0).2:Int)):=hd
 replace dG:=(cR w1.heap.size ([str (cj (cG ee [] []) ee [] 0).1.av.az,.slice nA nB nC]) 66).trans aB dG
 replace he:e=aM (aN _ x _) [(21,vs 4)]:=he
 rw[d4] at he
 subst he
 refine qQ rfl rfl rfl rfl rfl<|ag ?_
 exact dn ((cR w1.heap.size ([str (cj (cG ee [] []) ee [] 0).1.av.az,.slice nA nB nC]) 66).refl _) rfl
 refine bN ?_ ?_
 intro x vs gj e dG hd he
 have d0:vs 0=(.agg #[str (cj (cG ee [] []) ee [] 0).1.av.az,.slice nA nB nC]):=hd
 replace dG:=(cR w1.heap.size ([str (cj (cG ee [] []) ee [] 0).1.av.az,.slice nA nB nC]) 66).trans aB dG
 obtain⟨us,vi,vj⟩:=dG.2.2 ⟨_,(by rfl),aZ⟩
 replace he:e=aM (aN _ x _) [(17,vs 0)]:=he
 rw[d0] at he
 subst he
 refine dw aH rfl rfl rfl vj (by rw[vi];rfl) ?_
 intro jF fM hb Gk
 refine ag ?_
 exact dn ⟨fM,λ_=>hb,λ_=>⟨_,rfl,hb⟩⟩ hb
 refine bN ?_ ?_
 intro x vs gj e dG hd he
 have d5:vs 5=(.bool (decide (((cj (cG ee [] []) ee [] 0).2:Int)<=100))):=hd
 replace dG:=(cR w1.heap.size ([str (cj (cG ee [] []) ee [] 0).1.av.az,.slice nA nB nC]) 66).trans aB dG
 replace he:e=aM (aN _ x _) [(22,vs 5)]:=he
 rw[d5] at he
 subst he
 refine zA<|ag ?_
 exact dn ((cR w1.heap.size ([str (cj (cG ee [] []) ee [] 0).1.av.az,.slice nA nB nC]) 66).refl _) rfl
 exact trivial
 intro x vs lS lB bJ
 have d0:vs 0=(.agg #[str (cj (cG ee [] []) ee [] 0).1.av.az,.slice nA nB nC]):=bJ 0 de
 have d1:vs 1=(.pointer (some ⟨w5.heap.size,0,none⟩)):=bJ 1 de
 have d2:vs 2=(.pointer (some ⟨w5.heap.size,0,none⟩)):=bJ 2 de
 have d3:vs 3=(.pointer (some ⟨w5.heap.size,0+1,none⟩)):=bJ 3 de
 have d4:vs 4=(.int .i64 ((cj (cG ee [] []) ee [] 0).2:Int)):=bJ 4 de
 have d5:vs 5=(.bool (decide (((cj (cG ee [] []) ee [] 0).2:Int)<=100))):=bJ 5 de
 have d6:aY lS w1.heap.size ([str (cj (cG ee [] []) ee [] 0).1.av.az,.slice nA nB nC]).toArray 66:=bJ 6 de
 have d7:vs 7=(.bool (decide (((cj (cG ee [] []) ee [] 0).2:Int)<=100))):=bJ 7 de
 have hK:=hK.aL lB.1 sx;have wV:=wV.aL lB.1 sx
 have aZ:=d6
 change OW _ _ _ _ [] (aM (aN _ x _) (zZ 17 [vs 0,vs 1,vs 2,vs 3,vs 4,vs 5]++[(100006,vs 6),(3,vs 7)])) _
 rw[d0,d1,d2,d3,d4,d5,d7]
 refine ag<|aV ?_
 exact⟨[_,_],⟨gQ bU aH rfl aZ rfl,rfl⟩,⟨_,cA (λb=>Value.tuple #[_,.bool b]) (show decide (((cj (cG ee [] []) ee [] 0).2:Int)<=100)=(qy ee).isSome from by unfold qy;by_cases h:(cj (cG ee [] []) ee [] 0).2<=100;(·rw[iP h];exact dT om);(·rw[iN h];exact dF om)),wV.jk (λx hx=>by simp[hx])⟩,hK⟩
def t5:xZ:=⟨151,9,66⟩
def ad8 (ai:List aj) (n:Nat) (hn:n<=100000) (hb:ai.length<=10000) (b:Nat) (E G:List Nat) (aX:List aj) (exprs:List aA) (w:World) (h:M5 t5 E G w b ai n aX exprs):
  ck Tryz.prog 212 [.pointer (some ⟨b,0,none⟩)] w λr w'=>(r=str (dm cy (bK cy ai n))∧M5 t5 E G w' b ai (bK cy ai n+1) aX exprs)∧ak [b] w w':=by
 have MQ:=D0 cy ai n
 obtain⟨vt,vn,ve,gn,ge,bj,hS⟩:=h
 have bj:aY w b [vt,.int .i64 (n:Int),vn,ve].toArray 151:=bj
 refine cX [.tmp 2] 26 Tryz.func212 rfl YW rfl rfl ?_
 refine zr<|zA<|ag<|cS ?_
 refine fY (λk:Nat=>[(0,.pointer (some ⟨b,0,none⟩))]) (λk w'=>ak [b] w w'∧aY w' b [vt,.int .i64 (k:Int),vn,ve].toArray 151∧jc t5 E G w' b vt vn ve gn ge ai aX exprs∧n<=k∧bK cy ai k=bK cy ai n) (λk=>bK cy ai n+1-k) n rfl (⟨ak.refl _ _,bj,hS,lR _,rfl⟩) ?_
 intro gg w1 e1 hI
 obtain⟨hK,bj,hS,hk,hq⟩:=hI
 have hle:=(oK cy ai gg).1
 refine cS<|zr<|zm<|dk rfl<|zf HJ rfl<|zl qT rfl (bj.at rfl)<|aC (iQ (gg+1) gg om om w1) ?_
 rintro v2 w2 ⟨dC,aq⟩
 have eH:=aq.size
 have hK:=hK.ext aq;have bj:=bj.ext aq;have hS:=hS.ext aq
 obtain rfl:=dC
 refine cu rfl rfl (by have:=Dx _ gg (lR _);simp;omega)<|zA<|ag<|zr<|zm<|zm<|dk rfl<|zf HJ rfl<|zl qT rfl (bj.at rfl)<|eI rfl rfl rfl (wrap_i64 _ om om)<|dk rfl<|zf HJ rfl<|gY (o:=1) tE rfl rfl rfl bj rfl ?_
 intro w3 aJ bj dP
 have hS:=hS.aO aJ sm
 have hK:=hK.trans aJ
 refine ag<|zr<|zm<|dk rfl<|zf Z1 rfl<|zl eS rfl (bj.at rfl)<|zm<|aC (zX ai om (dm cy gg) _ _ w3 hS.ta) ?_
 rintro v4 w4 ⟨eJ,aF⟩
 have gK:=aF.size
 have hK:=hK.ext aF;have bj:=bj.ext aF;have hS:=hS.ext aF
 obtain rfl:=eJ
 refine eM rfl<|ag<|zc rfl (λh1=>?_) (λh1=>?_)
 have nk:dm cy gg∉ai:=(by simpa using h1)
 have Gc:bK cy ai n=gg:=hq.symm.trans (RG nk)
 refine zr<|zm<|zA<|ag<|aV ?_
 exact⟨_,rfl,⟨by rw[Gc];rfl,_,_,_,_,_,by rw[Gc];exact bj,hS⟩,hK⟩
 have nk:dm cy gg∈ai:=(by simpa using h1)
 have hfs:=RF nk
 have Rg:=(oK cy ai (gg+1)).1
 refine bz ?_
 exact⟨gg+1,rfl,⟨hK,bj,hS,om,om⟩,om⟩
section
variable {τ:xZ} {E G:List Nat} {w w':World} {b:Nat} {vt vn ve:Value} {gn ge:Option Nat} {ai aX:List aj} {exprs:List aA}
def jc.AH (h:jc τ E G w b vt vn ve gn ge ai aX exprs) {v:Value} {g:Option Nat} {ys:List aA} (hy:eE (ge.toList++(g.toList++(E++G))) w' τ.T 2 v g (dH ys)) (k:ak (b::ge.toList) w w') (hg:g=ge∨∃x,g=some x∧w.heap.size<=x):
  ∃G',jc τ E G' w' b vt vn v gn g ai aX ys∧Fr G w G' w'∧∀x,x∈G'->x∈ge.toList++(g.toList++(E++G)):=by
 obtain⟨a1,a2,a3,a4⟩:=h.apart
 have ph:∀x,x∈g.toList->x∈ge.toList∨w.heap.size<=x:=λx hx=>by
  rcases hg with rfl|⟨y,rfl,hy⟩
  ·exact .inl hx
  ·right;simp at hx;omega
 have ot:b∈G:=h.mem.2 (.inl rfl)
 have hF:Fr G w (b::(gn.toList++g.toList)) w':=⟨k.mono λx hx=>by
  rcases mC.1 hx with rfl|hx
  ·exact ot
  ·exact h.mem.2 (by simp[hx]),λx hx=>by
  rcases mC.1 hx with rfl|hx
  ·exact .inl ot
  ·rcases mA.1 hx with hx|hx
   ·exact .inl (h.mem.2 (by simp[hx]))
   ·rcases ph x hx with h1|h1
    ·exact .inl (h.mem.2 (by simp[h1]))
    ·exact .inr h1⟩
 have eW:∀x,x∈E++G->x<w.heap.size:=h.db
 have hN:(E++b::(gn.toList++g.toList)).Nodup:=R5 a1 a2 a3 (λx hx=>by
  rcases ph x hx with h1|h1
  ·exact a4 x h1
  ·exact⟨λhe=>by have:=eW x (by simp[he]);omega,λe=>by have:=eW x (mR _ (h.mem.2 (.inl e)));omega,λe=>by have:=eW x (mR _ (h.mem.2 (by simp[e])));omega⟩)
 have rW:∀x,x∈b::(gn.toList++g.toList)->x∈ge.toList++(g.toList++(E++G)):=λx hx=>by
  rw[mA,mA,mA]
  rcases mC.1 hx with rfl|hx
  ·exact .inr (.inr (.inr ot))
  ·rcases mA.1 hx with hx|hx
   ·exact .inr (.inr (.inr (h.mem.2 (by simp[hx]))))
   ·simp[hx]
 refine⟨_,⟨h.ta.go (hF.in E),h.na.aO k (λx hx hy=>?_),hy.sub λx hx=>.inl ?_,rfl,hN,λx hx=>?_⟩,hF,rW⟩
 ·rcases mC.1 hy with rfl|hy
  ·exact(a3 x (by simp[hx])).2 rfl
  ·exact(a4 x hy).2.2 (by simp[hx])
 ·rcases mA.1 hx with hx|hx
  ·simp[hx]
  ·exact rW x hx
 ·have hs:=k.size
  rcases mA.1 hx with hx|hx
  ·exact lL (h.db x (by simp[hx])) hs
  ·rcases mC.1 hx with rfl|hx
   ·exact lL (h.db x (mR _ ot)) hs
   ·rcases mA.1 hx with hx|hx
    ·exact lL (h.db x (mR _ (h.mem.2 (by simp[hx])))) hs
    ·exact hy.lt x hx
def jc.alloc (h:jc τ E G w b vt vn ve gn ge ai aX exprs) (k:ak [] w w') (hz:w'.heap.size=w.heap.size+1):jc τ (w.heap.size::E) G w' b vt vn ve gn ge ai aX exprs:=by
 have hF:∀x,x∈(w.heap.size::E)++G->x∈E++G∨w.heap.size<=x:=λx hx=>by
  rcases mC.1 (show x∈w.heap.size::(E++G) from hx) with h1|h1
  ·right;omega
  ·exact .inl h1
 refine⟨(h.ta.fresh hF).ext k,h.na.ext k,(h.ex.sub hF).any k,h.eG,?_,λx hx=>?_⟩
 ·show(w.heap.size::(E++G)).Nodup
  rw[List.nodup_cons]
  exact⟨λhx=>by have:=h.db _ hx;omega,h.nd⟩
 ·rcases mC.1 (show x∈w.heap.size::(E++G) from hx) with h1|h1
  ·omega
  ·have:=h.db x h1;omega
def jc.aL {x:Nat} (h:jc τ E G w b vt vn ve gn ge ai aX exprs) (k:ak [x] w w') (hx:x∈E):jc τ E G w' b vt vn ve gn ge ai aX exprs:=by
 obtain⟨a1,a2,a3,a4⟩:=h.apart
 have hF:Fr (E++G) w (E++G) w':=Fr.of k λy hy=>List.mem_append_left _ (by simp at hy;subst hy;exact hx)
 exact⟨h.ta.go hF,h.na.aO k (λy hy we=>(a3 y (by simp[hy])).1 (by simp at we;subst we;exact hx)),h.ex.aO hF k (λy hy we=>(a4 y hy).1 (by simp at we;subst we;exact hx)),h.eG,h.nd,λy hy=>lL (h.db y hy) k.size⟩
def jc.drop {x:Nat} (h:jc τ (x::E) G w b vt vn ve gn ge ai aX exprs):jc τ E G w b vt vn ve gn ge ai aX exprs:=
 ⟨h.ta.fresh λy hy=>.inl (mK _ hy),h.na,h.ex.sub λy hy=>.inl (mK _ hy),h.eG,(List.nodup_cons.1 (show(x::(E++G)).Nodup from h.nd)).2,λy hy=>h.db y (mK _ hy)⟩
def M5.open {n:Nat} (h:M5 τ E G w b ai n aX exprs):∃vt vn ve gn ge,aY w b [vt,.int .i64 (n:Int),vn,ve].toArray τ.M∧jc τ E G w b vt vn ve gn ge ai aX exprs:=h
def M5.bG {n:Nat} (h:M5 τ E G w b ai n aX exprs):b∈G∧b<w.heap.size∧fy (E++G) w:=by
 obtain⟨_,_,_,_,_,h1,h2⟩:=h
 exact⟨h2.mem.2 (.inl rfl),h1.lt,h2.db⟩
def M5.nE {n x:Nat} (h:M5 τ E G w b ai n aX exprs) (hx:x∈E):x∉G:=by
 obtain⟨_,_,_,_,_,_,h2⟩:=h
 have:=h2.nd
 rw[List.nodup_append] at this
 exact λhg=>this.2.2 x hx x hg rfl
def M5.alloc {n:Nat} (h:M5 τ E G w b ai n aX exprs) (k:ak [] w w') (hz:w'.heap.size=w.heap.size+1):M5 τ (w.heap.size::E) G w' b ai n aX exprs:=by
 obtain⟨vt,vn,ve,gn,ge,h1,h2⟩:=h
 exact⟨vt,vn,ve,gn,ge,h1.ext k,h2.alloc k hz⟩
def M5.aL {n x:Nat} (h:M5 τ E G w b ai n aX exprs) (k:ak [x] w w') (hx:x∈E):M5 τ E G w' b ai n aX exprs:=by
 obtain⟨vt,vn,ve,gn,ge,h1,h2⟩:=h
 exact⟨vt,vn,ve,gn,ge,h1.aO k (by simp;intro e;subst e;exact h2.apart.2.1 hx),h2.aL k hx⟩
def M5.drop {n x:Nat} (h:M5 τ (x::E) G w b ai n aX exprs):M5 τ E G w b ai n aX exprs:=by
 obtain⟨vt,vn,ve,gn,ge,h1,h2⟩:=h
 exact⟨vt,vn,ve,gn,ge,h1,h2.drop⟩
end
def eE.form {L:List Nat} {w:World} {T:TypeId} {sz:Nat} {v:Value} {g:Option Nat} {rows:List (List C)} (h:eE L w T sz v g rows) (hp:0<rows.length):∃b cap,v= .slice (some ⟨b,0,none⟩) rows.length cap∧g=some b:=by
 obtain⟨xs,hx,_⟩:=h.own
 rcases hx.2 with⟨_,h0,_⟩|⟨b,cap,_,e,hv,_⟩
 ·omega
 ·exact⟨b,cap,hv,e⟩
def eE.MZ {L:List Nat} {w:World} {T:TypeId} {b n c i:Nat} {g:Option Nat} {ts:List aA} (h:eE L w T 2 (.slice (some ⟨b,0,none⟩) n c) g (dH ts)) (hi:i<ts.length):
  ∃pa pc,iS w b (0+i*2) [str (nth ts i).az,.slice pa (nth ts i).au.length pc]∧bT L w (.agg #[str (nth ts i).az,.slice pa (nth ts i).au.length pc]) (nth ts i):=by
 obtain⟨xs,ey,jo⟩:=h.own
 rcases ey.2 with⟨h0,_⟩|⟨b',cap,cur,e,hv,hb,nM,mL,cL,ht⟩
 ·cases h0
 ·cases hv
  have iZ:=h.row
  have hlen:xs.length=(dH ts).length*2:=ey.1
  have jH:∀j,j<2->∀u,xs[i*2+j]?=some u->w.cell? ⟨b,i*2+j,none⟩=some u:=λj hj u hu=>by
   rw[hb.cell]
   rw[<-ht,List.getElem?_take] at hu
   split at hu
   ·simpa using hu
   ·cases hu
  have lj:i<(dH ts).length:=by rw[iI];exact hi
  obtain⟨u0,h0⟩:∃u,xs[i*2]?=some u:=⟨xs[i*2]'om,gE om⟩
  obtain⟨u1,h1⟩:∃u,xs[i*2+1]?=some u:=⟨xs[i*2+1]'om,gE om⟩
  have hr:dR L w [u0,u1] (nth ts i).enc:=by
   have ja:=oZ (nth ts i)
   refine dR.of (by rw[ja];rfl) λj v c hv hc=>?_
   have pg:(dH ts).flatten[i*2+j]?=some c:=EH iZ (Kv (iK hi)) hc
   refine jo.get ?_ pg
   match j,hv with
   |0,hv=>simp at hv;subst hv;exact h0
   |1,hv=>simp at hv;subst hv;exact h1
  obtain⟨pa,pn,pc,he,hn,hp⟩:=dO (t:=nth ts i) ⟨[u0,u1],rfl,hr⟩
  have dC:[u0,u1]=[str (nth ts i).az,.slice pa pn pc]:=by
   have:=cA (λv=>match v with|Value.agg x=>x.toList|_=>[]) he
   simpa using this
  subst hn
  simp only[List.cons.injEq,and_true] at dC
  obtain⟨e0,e1⟩:=dC
  subst e0 e1
  refine⟨pa,pc,λj v hj=>?_,mT hp⟩
  match j,hj with
  |0,hj=>simp at hj;subst hj;have:=jH 0 om _ h0;simpa using this
  |1,hj=>simp at hj;subst hj;have:=jH 1 om _ h1;simpa using this
def dj.MZ {w:World} {T:TypeId} {b n c i:Nat} {g:Option Nat} {xs:List aj} (h:dj w T (.slice (some ⟨b,0,none⟩) n c) g xs) (hi:i<xs.length):iS w b (0+i*1) [str (aD xs i)]:=by
 obtain⟨b1,ga,e1,hc⟩:=qX h.rs (lp hi)
 cases e1
 exact hc
def dj.ad9 {w:World} {T:TypeId} {v:Value} {g:Option Nat} {xs:List aj} (h:dj w T v g xs) (hp:0<xs.length):∃b cap,v= .slice (some ⟨b,0,none⟩) xs.length cap∧g=some b:=by
 rcases h.2 with⟨_,h0,_⟩|⟨b,cap,_,e,hv,_⟩
 ·omega
 ·exact⟨b,cap,hv,e⟩
def TX:Value->Nat->Value
 | .slice (some ⟨b,o,none⟩) _ _,k=>.pointer (some ⟨b,o+k,none⟩)
 |_,_=>undef
section
variable {P:Program} {n:Nat} {ops:Array Oper} {K:Env->World->Prop} {rest:List Oper} {e:Env} {w:World} {dst:Option Nat} {ty:TypeId} {pos:String} {after:Array Edge} {g:Option (Nat×Bool)} {x y:Operand}
def se {t E bytes:Nat} {z:Value} {v:Value} {gb:Option Nat} {xs:List aj} {s:aj} {b U:Nat} (hT:P.underlying t=some (.slice E)) (hE:TI P E 1 bytes z) (hg:gate ops e g=true) (hd:dy n dst=true) (hz:Nat.beq z.cells.size 1=true) (ij:Nat.ble bytes 1000=true)
  (hx:ev e x=v) (hy:ev e y= .slice (some ⟨b,0,none⟩) 1 1) (hO:dj w E v gb xs) (hb:aY w b [str s].toArray U) (hn:xs.length<100000000)
  (k:∀v' g' w',dj w' E v' g' (xs++[s])->ak gb.toList w w'->(g'=gb∨g'=some w.heap.size)->OW P n ops K rest (cQ e dst v') w'):
  OW P n ops K (⟨dst,.call {callee:=.builtin .append,args:=#[x,y],argTypes:=#[t,t]},ty,pos,after,g⟩::rest) e w:=by
 refine BS (L:=[]) (row:=[.val (str s)]) hT hE hg hd hz ij hx hy (hO.R2 _) rfl hb.all (by simp[Value.oneCell']) ⟨.val _,trivial⟩ (by rw[rS];exact hn) ?_
 intro v' g' w' kr hk k8
 rw[R3] at kr
 exact k v' g' w' kr.wg hk.aO k8
def TZ {G:List Nat} {t E bytes:Nat} {z:Value} {v:Value} {gb:Option Nat} {ts:List aA} {b:Nat} {U c:Nat} (hT:P.underlying t=some (.slice E)) (hE:TI P E 2 bytes z) (hg:gate ops e g=true) (hd:dy n dst=true) (hz:Nat.beq z.cells.size 2=true) (ij:Nat.ble bytes 1000=true)
  (hx:ev e x=v) (hy:ev e y= .slice (some ⟨b,0,none⟩) 1 c) (hO:eE G w E 2 v gb (dH ts)) (hG:fy G w) (oI:∀q,q∈gb.toList->q∈G) (hb:aY w b [str [],.slice none 0 0].toArray U) (hn:ts.length<100000000)
  (k:∀v' g' w',eE (gb.toList++(g'.toList++G)) w' E 2 v' g' (dH (ts++[.mk [] []]))->ak gb.toList w w'->(g'=gb∨g'=some w.heap.size)->Fr G w (gb.toList++(g'.toList++G)) w'->fy (gb.toList++(g'.toList++G)) w'->OW P n ops K rest (cQ e dst v') w'):
  OW P n ops K (⟨dst,.call {callee:=.builtin .append,args:=#[x,y],argTypes:=#[t,t]},ty,pos,after,g⟩::rest) e w:=by
 refine BS (L:=G) (row:=(aA.mk [] []).enc) hT hE hg hd hz ij hx hy (hO.sub λq hq=>.inl ?_) (oZ _) hb.all (by simp[Value.oneCell']) (bT.kQ (lG o3)) (by rw[iI];exact hn) ?_
 ·rcases mA.1 hq with h|h
  ·exact oI q h
  ·exact h
 ·intro v' g' w' kr hk k8
  have e1:dH ts++[(aA.mk [] []).enc]=dH (ts++[.mk [] []]):=by rw[Ku];rfl
  rw[e1] at kr
  have ph:∀q,q∈g'.toList->q∈gb.toList∨w.heap.size<=q:=λq hq=>by
   rcases k8 with h|h
   ·rw[h] at hq;exact .inl hq
   ·rw[h] at hq;simp at hq;right;omega
  refine k v' g' w' kr hk.aO k8 ⟨hk.aO.mono oI,λq hq=>?_⟩ λq hq=>?_
  ·rcases mA.1 hq with h|h
   ·exact .inl (oI q h)
   ·rcases mA.1 h with h|h
    ·rcases ph q h with h|h
     ·exact .inl (oI q h)
     ·exact .inr h
    ·exact .inl h
  ·have hs:=hk.aO.size
   rcases mA.1 hq with h|h
   ·exact lL (hG q (oI q h)) hs
   ·rcases mA.1 h with h|h
    ·exact kr.lt q h
    ·exact lL (hG q h) hs
end
structure J5 (τ:xZ) (E G2:List Nat) (w0:World) (b:Nat) (vt n vn ve:Value) (ge:Option Nat) (exprs:List aA) (s:aA) (b9 Cg:Bool) (G:List Nat) (v:Value) (w:World):Prop where
 box:aY w b [vt,n,vn,if Cg=true then v else ve].toArray τ.M
 db:fy G w
 aO:ak (b::ge.toList) w0 w
 ex:∃g',G=ge.toList++(g'.toList++(E++G2))∧eE G w τ.T 2 v g' (dH (exprs++[if b9=true then s else .mk [] []]))∧(g'=ge∨∃x,g'=some x∧w0.heap.size<=x)
section
variable {τ:xZ} {E G2:List Nat} {w0 w w':World} {b:Nat} {vt n vn ve:Value} {ge:Option Nat} {exprs:List aA} {s:aA} {b9 Cg:Bool} {G:List Nat} {v:Value}
def J5.ext (h:J5 τ E G2 w0 b vt n vn ve ge exprs s b9 Cg G v w) (k:ak [] w w'):J5 τ E G2 w0 b vt n vn ve ge exprs s b9 Cg G v w':=
 ⟨h.box.ext k,λx hx=>lL (h.db x hx) k.size,h.aO.ext k,let⟨g',h1,h2,h3⟩:=h.ex;⟨g',h1,h2.any k,h3⟩⟩
def J5.form (h:J5 τ E G2 w0 b vt n vn ve ge exprs s b9 Cg G v w):∃bb cap,v= .slice (some ⟨bb,0,none⟩) (exprs.length+1) cap∧(bb∈G)∧(bb∈ge.toList∨w0.heap.size<=bb)∧G=ge.toList++([bb]++(E++G2))∧eE G w τ.T 2 v (some bb) (dH (exprs++[if b9=true then s else .mk [] []]))∧(some bb=ge∨∃x,some bb=some x∧w0.heap.size<=x):=by
 obtain⟨g',h1,h2,h3⟩:=h.ex
 obtain⟨bb,cap,e1,e2⟩:=h2.form (by rw[iI];simp)
 subst e2
 refine⟨bb,cap,by rw[e1,iI];simp,by rw[h1];simp,?_,h1,h2,h3⟩
 rcases h3 with h|⟨x,h,hx⟩
 ·left;rw[<-h];simp
 ·cases h;exact .inr hx
def J5.fill {bb:Nat} (h:J5 τ E G2 w0 b vt n vn ve ge exprs s false Cg G v w) (hG:G=ge.toList++([bb]++(E++G2))) (hb:b≠bb) (gz:bb∈ge.toList∨w0.heap.size<=bb) (hg:some bb=ge∨∃x,some bb=some x∧w0.heap.size<=x) (k:ak [bb] w w') (ho:eE G w' τ.T 2 v (some bb) (dH (exprs++[s]))):J5 τ E G2 w0 b vt n vn ve ge exprs s true Cg G v w':=
 ⟨h.box.aO k (by simpa using hb),λx hx=>lL (h.db x hx) k.size,h.aO.since k (λx hx=>by
  simp at hx;subst hx
  rcases gz with h|h
  ·exact .inl (by simp only[mC];right;exact h)
  ·exact .inr h),some bb,hG,by simpa using ho,hg⟩
def J5.field (h:J5 τ E G2 w0 b vt n vn ve ge exprs s b9 false G v w) (k:ak [b] w w') (hb:aY w' b [vt,n,vn,v].toArray τ.M) (ho:∀g',eE G w τ.T 2 v g' (dH (exprs++[if b9=true then s else .mk [] []]))->(g'=ge∨∃x,g'=some x∧w0.heap.size<=x)->b∉g'.toList) (ot:b∈G):J5 τ E G2 w0 b vt n vn ve ge exprs s b9 true G v w':=
 ⟨by simpa using hb,λx hx=>lL (h.db x hx) k.size,h.aO.since k (λx hx=>by simp at hx;subst hx;exact .inl sm),let⟨g',h1,h2,h3⟩:=h.ex;⟨g',h1,h2.aO (Fr.of k (by simpa using ot)) k (λx hx hy=>by simp at hy;subst hy;exact ho g' h2 h3 hx),h3⟩⟩
end
def yt (ai:List aj) (e:Ex) (n:Nat) (aX:List aj) (exprs:List aA):Prop:=n+e.n*(2*(ai.length+2))<=100000∧aX.length+4*e.n<=100000∧exprs.length+4*e.n<=100000∧ai.length<=10000
def I9 (ai:List aj) (E G:List Nat) (b:Nat) (aX:List aj) (exprs:List aA) (w:World) (q:Bs×Ex×Nat) (r:Value) (w':World):Prop:=
 ∃G',(bT (E++G') w' r q.2.1.av∧M5 t5 E G' w' b ai q.2.2 (aX++q.1.map Prod.fst) (exprs++q.1.map λp=>p.2.av))∧Fr G w G' w'
def M0 (e:Ex):Prop:=∀(ai:List aj) (n:Nat) (aX:List aj) (exprs:List aA),yt ai e n aX exprs->∀(E G:List Nat) (b:Nat) (v:Value) (w:World),M5 t5 E G w b ai n aX exprs->bT (E++G) w v e.av->
 ck Tryz.prog 178 [.pointer (some ⟨b,0,none⟩),v] w (I9 ai E G b aX exprs w (bu ai e n))
def aea (e:Ex):Prop:=∀(ai:List aj) (n:Nat) (aX:List aj) (exprs:List aA),yt ai e n aX exprs->∀(E G:List Nat) (b:Nat) (v:Value) (w:World),M5 t5 E G w b ai n aX exprs->bT (E++G) w v e.av->
 ck Tryz.prog 204 [.pointer (some ⟨b,0,none⟩),v] w (I9 ai E G b aX exprs w (dW ai (bu ai e n)))
def M1 {ai:List aj}:∀{e:Ex} {n:Nat} {s:aj},e.ok->(bu ai e n).2.1= .at s->s≠[]
 | .at x,n,s,h,e=>by
  have:Ex.at x=Ex.at s:=e
  cases this
  exact pN h
 | .lt x a b,n,s,h,e=>M1 (e:=b) h.2.2 e
 | .un ..,n,s,h,e=>by cases e
 | .bi ..,n,s,h,e=>by cases e
 | .ite ..,n,s,h,e=>by cases e
 | .fn ..,n,s,h,e=>by cases e
def T0 {f:Ex} (h:∀s,f= .at s->s≠[]):f.av.az≠[]↔f.jl=true:=by
 cases f with
 |«at» s=>exact⟨λ_=>rfl,λ_=>h s rfl⟩
 |_=>exact⟨λhh=>absurd rfl hh,λhh=>by cases hh⟩
def Ja (ai:List aj) (e:Ex) (n:Nat):(bu ai e n).1.length+1<=2*e.n:=by
 have h1:=uS ai e n
 have h2:∀bs:Bs,3*bs.length<=pQ bs:=by
  intro bs
  induction bs with
  |nil=>simp[pQ]
  |cons p bs ih=>rw[Ig];have:=p.2.pos;simp only[lC];omega
 have h3:=h2 (bu ai e n).1
 have h4:=(bu ai e n).2.1.pos
 omega
def T1 {e:Ex} (bD:e.ok) (hC:M0 e):aea e:=by
 intro ai n aX exprs hB E G b v w hM hv
 have dK:=hv
 obtain⟨a,np,c,rfl,hn,bc⟩:=dO hv
 obtain⟨Iz,M3,M4,Jb⟩:=hB
 have Jc:=iL ai e n
 have M6:=Ja ai e n
 have hK:=ak.refl [] w
 have aw:=hM
 have hT:=dK
 obtain⟨q,hq⟩:∃q,q=bu ai e n:=⟨_,rfl⟩
 rw[<-hq] at Jc M6
 refine lH [.cell 4 66] 39 Tryz.func204 rfl YT rfl rfl rfl ?_
 refine zr<|fG rfl ?_
 intro w1 aK bR eh
 have hK:=hK.ext aK;have aw:=aw.ext aK;have hT:=hT.ext aK
 refine eD aH rfl rfl rfl ?_
 intro w2 aq aI eO
 have hK:=hK.grow;have hK:=hK.ext aq;have aw:=aw.alloc aq eO;have hT:=hT.grow;have hT:=hT.ext aq;have bR:=bR.grow;have bR:=bR.ext aq
 refine ag<|zr<|zm<|zL bU aH rfl bR.all rfl<|aC (hC ai n aX exprs ⟨Iz,M3,M4,Jb⟩ (w1.heap.size::E) G b _ w2 aw hT) ?_
 rintro v9 w3 ⟨G1,⟨dU,qG⟩,di⟩
 rw[<-hq] at dU qG
 obtain⟨a9,n9,c9,e9,_,_⟩:=dO dU
 subst e9
 have aI:=aI.aO di.aO (aw.nE sm)
 have aeb:=aI.lt
 have hR:Fr G w G1 w3:=(Fr.of hK sm).go di
 have AI:=ak.refl [] w3
 have aw:=qG
 have hws:=hR.aO.size
 refine eD aH rfl rfl rfl ?_
 intro w4 aF bP iU
 have aw:=aw.alloc aF iU;have aI:=aI.grow;have aI:=aI.ext aF;have AI:=AI.grow;have AI:=AI.ext aF;have dU:=dU.grow;have dU:=dU.ext aF
 refine dw aH rfl rfl rfl bP rfl ?_
 intro w5 aU bP jr
 have aw:=aw.aL aU sx;have aI:=aI.aL aU sx;have AI:=AI.aL aU sx;have dU:=dU.aL aU sx
 refine ag<|aQ<|zr<|zf dB rfl<|zl cm rfl (bP.at rfl)<|jI rfl rfl rfl rfl<|ag<|zc rfl (λh1=>?_) (λh1=>?_)
 have fx:q.2.1.jl=true:=((T0 (λs e=>M1 bD (by rw[<-hq];exact e))).1 h1)
 have M7:dW ai q=q:=iP fx
 have hR:=hR.ext AI
 refine zr<|zL bU aH rfl bP.all rfl<|dw aH rfl rfl rfl aI rfl ?_
 intro w6 bF aI dP
 have aw:=aw.aL bF sm;have dU:=dU.aL bF sm
 have hR:Fr G w G1 w6:=⟨hR.aO.since bF (λx hx=>.inr (by simp at hx;omega)),hR.mem⟩
 refine ag<|aV ?_
 exact⟨[_],gQ bU aH rfl aI rfl,by rw[<-hq,M7];exact⟨G1,⟨dU.jk (λx hx=>mK _ (mK _ hx)),aw.drop.drop⟩,hR⟩⟩
 have fx:¬q.2.1.jl=true:=(λhh=>h1 ((T0 (λs e=>M1 bD (by rw[<-hq];exact e))).2 hh))
 have M7:dW ai q=(q.1++[(dm cy (bK cy ai q.2.2),q.2.1)],.at (dm cy (bK cy ai q.2.2)),bK cy ai q.2.2+1):=iN fx
 have hR:=hR.ext AI
 have aR:∃nm,nm=dm cy (bK cy ai q.2.2):=⟨_,rfl⟩
 obtain⟨nm,gM⟩:=aR
 have aR:∃x,x=aX++q.1.map Prod.fst:=⟨_,rfl⟩
 obtain⟨N1,Ch⟩:=aR
 have aR:∃x,x=exprs++q.1.map λp=>p.2.av:=⟨_,rfl⟩
 obtain⟨X1,Ci⟩:=aR
 rw[<-Ch,<-Ci] at aw
 have T2:N1.length=aX.length+q.1.length:=by rw[Ch];simp
 have hXl:X1.length=exprs.length+q.1.length:=by rw[Ci];simp
 refine bz<|zr<|zm<|aC (ad8 ai q.2.2 om Jb b _ G1 N1 X1 w5 aw) ?_
 rintro vA w6 ⟨⟨D9,qG⟩,jG⟩
 rw[<-gM] at D9
 subst D9
 have ot:=qG.bG
 have T3:=qG.nE (x:=w1.heap.size) sm
 have dU:=dU.aL jG (by intro x hx;simp at hx;subst hx;simp[ot.1])
 have aI:=aI.aO jG (by simp;intro e;subst e;exact T3 ot.1)
 have Jd:=qG.nE (List.mem_cons_self ..)
 have bP:=bP.aO jG (by simp;intro e;exact Jd (e▸ot.1))
 have hR:=hR.aL jG (by simpa using ot.1)
 obtain⟨vt,vn,ve,gn,ge,bj,hS⟩:=qG.open
 refine zA<|ag<|zr<|zm<|zm<|dk rfl<|zf xC rfl<|zl eS rfl (bj.at rfl)<|zm<|gH bh bA rfl rfl ?_
 intro w7 cz tZ qm
 have aI:=aI.ext cz;have dU:=dU.ext cz;have bP:=bP.ext cz;have bj:=bj.ext cz;have hS:=hS.ext cz;have hR:=hR.ext cz
 refine se bh bA rfl rfl rfl rfl rfl rfl hS.na tZ om ?_
 intro M8 g23 w8 T4 cv aed
 obtain⟨pw,px,Gl⟩:=kv T4
 subst Gl
 obtain⟨Je,wW,wX,s5⟩:=hS.apart
 obtain⟨G2,gk,jW⟩:=hS.R6 T4 cv aed
 have bj:=bj.aO cv (λh=>(wX b h).2 rfl)
 have aI:=aI.aO cv (λh=>(wX _ h).1 sm)
 have bP:=bP.aO cv (λh=>(wX _ h).1 sm)
 have dU:bT ((w3.heap.size::w1.heap.size::E)++G2) w8 _ q.2.1.av:=bT.go (L:=(w3.heap.size::w1.heap.size::E)++G1) dU (jW.in _)
 have hR:=hR.go jW
 have wY:b∈G2:=gk.mem.2 (.inl rfl)
 refine dk rfl<|zf xC rfl<|gY (o:=2) nO rfl rfl rfl bj rfl ?_
 intro w9 aG bj dP
 have hS:=gk.aO aG sm
 have aI:=aI.aO aG (by simp;intro e;subst e;exact wW sm)
 have bP:=bP.aO aG (by simp;intro e;exact wW (by simp[e]))
 have dU:=dU.aL aG (by intro x hx;simp at hx;subst hx;simp[wY]);have hR:=hR.aL aG (by simpa using wY)
 have aee:=(List.nodup_cons.1 (show(w3.heap.size::((w1.heap.size::E)++G2)).Nodup from hS.nd)).1
 have hS:=hS.drop
 have dU:bT ((w1.heap.size::E)++G2) w9 _ q.2.1.av:=dU.jk (λx hx=>mK _ hx)
 refine ag<|aQ ?_
 obtain⟨ae,ce,e5⟩:=hS.ex.len
 subst e5
 have bP:fi ((w1.heap.size::E)++G2) w9 _ _ _:=⟨bP,aee⟩
 have bj:aY w9 b [vt,(.int .i64 ((bK cy ai q.2.2+1:Nat):Int)),(.slice pw (N1++[nm]).length px),(.slice ae (dH X1).length ce)].toArray 151:=bj
 have Cj:fy ((w1.heap.size::E)++G2) w9:=hS.db
 have eV:b∈G2:=wY
 obtain⟨Je,wW,wX,s5⟩:=hS.apart
 have iG:=bj.lt
 apply Sm et (((w1.heap.size::E)++G2)) 13 (rA 26 9++[100009,35,36,100012]) (rA 26 9++[100009,35,36,100012]) [[],[0],[1],[2],[],[3],[],[3,6],[5,7],[4,8],[0],[10],[7,11]] [Iu.v _,Iu.v _,Iu.v _,Iu.w 0 ((.slice ae (dH X1).length ce)),Iu.v _,Iu.v _,Iu.p (fun(G:List Nat) (v:Value) (ww:World)=>∃bb,v= .slice (some ⟨bb,0,none⟩) 1 1∧fi G ww bb [str [],.slice none 0 0].toArray 66),Iu.e 1,Iu.d (fun(vs:List Value)=>TX (vs.getD 1 undef) ((dH X1).length*2)),Iu.u,Iu.v _,Iu.v _,Iu.u] [3,7] [fun(G:List Nat) (vs:List Value) (ww:World)=>G=((w1.heap.size::E)++G2)∧aY ww b [vt,(.int .i64 ((bK cy ai q.2.2+1:Nat):Int)),(.slice pw (N1++[nm]).length px),(.slice ae (dH X1).length ce)].toArray 151∧ak [] w9 ww,fun(G:List Nat) (vs:List Value) (ww:World)=>G=((w1.heap.size::E)++G2)∧aY ww b [vt,(.int .i64 ((bK cy ai q.2.2+1:Nat):Int)),(.slice pw (N1++[nm]).length px),(.slice ae (dH X1).length ce)].toArray 151∧ak [] w9 ww,fun(G:List Nat) (vs:List Value) (ww:World)=>J5 t5 (w1.heap.size::E) G2 w9 b vt (.int .i64 ((bK cy ai q.2.2+1:Nat):Int)) (.slice pw (N1++[nm]).length px) (.slice ae (dH X1).length ce) ge X1 q.2.1.av false false G (vs.getD 1 undef) ww] (fun(S:Nat->Bool) (G:List Nat) (vs:List Value) (ww:World)=>J5 t5 (w1.heap.size::E) G2 w9 b vt (.int .i64 ((bK cy ai q.2.2+1:Nat):Int)) (.slice pw (N1++[nm]).length px) (.slice ae (dH X1).length ce) ge X1 q.2.1.av (S 9) (S 12) G (vs.getD 1 undef) ww) de rfl Cj (by exact⟨λG v w G' w' ⟨bb,e,h⟩ k=>⟨bb,e,h.go k⟩,trivial⟩) (by exact⟨λG vs w w' ⟨h1,h2,h3⟩ k=>⟨h1,h2.ext k,h3.ext k⟩,λG vs w w' ⟨h1,h2,h3⟩ k=>⟨h1,h2.ext k,h3.ext k⟩,λG vs w w' h k=>h.ext k,trivial⟩) (by exact λS G vs w w' h k=>h.ext k) (⟨rfl,bj,ak.refl _ _⟩) (by exact λ_ _ _ h _=>h)
 refine uf (λx cO mB aW oU mj=>?_) ?_
 refine zm ?_
 exact uv
 refine uf (λx cO mB aW oU mj=>?_) ?_
 refine dk rfl ?_
 exact uv
 refine uf (λx cO mB aW oU mj=>?_) ?_
 refine zf zz rfl ?_
 exact uv
 refine ue 0 (λx cO mB aW oU mj hJ hlen=>?_) ?_
 have bo:=jR hlen
 subst bo
 obtain⟨cB,bj,cD⟩:=hJ
 refine zl cK rfl (bj.at rfl) ?_
 exact uW mB (Fr.refl _ _) mj (⟨cB,bj,cD⟩)
 refine uf (λx cO mB aW oU mj=>?_) ?_
 have bP:=bP.go oU
 refine zL bU aH rfl bP.all rfl ?_
 exact uv
 refine uf (λx cO mB aW oU mj=>?_) ?_
 refine dZ cw rfl ?_
 exact uv
 refine uf (λx cO mB aW oU mj=>?_) ?_
 refine gH cw aH rfl rfl ?_
 intro eY cM aef uK
 exact up cM (⟨_,rfl,aef.o mj⟩)
 refine ue 1 (λx cO mB aW oU mj hJ hlen=>?_) ?_
 obtain⟨q0,bo⟩:=jS hlen
 subst bo
 intro v6 d6
 obtain⟨bb,e6,gz⟩:=d6
 subst e6
 obtain⟨cB,bj,cD⟩:=hJ
 subst cB
 refine TZ cw aH rfl rfl rfl rfl rfl rfl (hS.ext cD).ex ‹_› (λx hx=>mR _ (hS.mem.2 (by simp[hx]))) gz.jx om ?_
 intro v9 g9 eY dL aG fN di fj
 exact uE _ di fj (⟨bj.aO aG (λh=>(s5 b h).2.1 rfl),fj,cD.any.trans (aG.mono (λx hx=>mK _ hx)),g9,rfl,dL,fN.imp id (λh=>⟨_,h,cD.size⟩)⟩)
 refine ud (λx cO mB aW S oU mj hJ hlen=>?_) ?_
 obtain⟨q0,q1,bo⟩:=lP hlen
 subst bo
 obtain⟨bb,cap,e1,sf,rR,kz,hO,vm⟩:=J5.form hJ
 have e2:q1=_:=e1
 subst e2
 refine zi cw aH rfl rfl (by rw[iI];omega) ?_
 exact uD (ak.refl _ _) rfl
 refine uu (λx cO mB aW S oU mj hJ Ck hlen=>?_) ?_
 obtain⟨q0,q1,bo⟩:=lP hlen
 subst bo
 have dU:=dU.go oU
 have hJ:J5 t5 (w1.heap.size::E) G2 w9 b vt (.int .i64 ((bK cy ai q.2.2+1:Nat):Int)) (.slice pw (N1++[nm]).length px) (.slice ae (dH X1).length ce) ge X1 q.2.1.av (S 9) (S 12) mB q1 cO:=hJ
 rw[Ck] at hJ
 obtain⟨bb,cap,e1,sf,rR,kz,hO,vm⟩:=J5.form hJ
 subst e1
 refine sW (i:=(dH X1).length) (vs:=[str q.2.1.av.az,.slice a9 n9 c9]) (row:=q.2.1.av.enc) aH rfl rfl rfl rfl (Nat.zero_add _) hO ‹_› sf (by rw[iI,iI];simp) rfl (oZ _) dU.kQ ?_
 intro eY cM r7 ey
 rw[sY,iI] at ey
 exact uU mB (Fr.of cM (by simpa using sf)) ((λx hx=>lL (mj x hx) (ak.size cM))) (J5.fill hJ kz (by rintro rfl;rcases rR with h|h;(·exact(s5 _ h).2.1 rfl);(·omega)) rR vm cM (by have e3:(X1++[if false=true then q.2.1.av else aA.mk [] []]).set X1.length q.2.1.av=X1++[q.2.1.av]:=sm;rw[e3] at ey;exact ey))
 refine uf (λx cO mB aW oU mj=>?_) ?_
 refine dk rfl ?_
 exact uv
 refine uf (λx cO mB aW oU mj=>?_) ?_
 refine zf zz rfl ?_
 exact uv
 refine uu (λx cO mB aW S oU mj hJ Ck hlen=>?_) ?_
 obtain⟨q0,q1,bo⟩:=lP hlen
 subst bo
 have hJ:J5 t5 (w1.heap.size::E) G2 w9 b vt (.int .i64 ((bK cy ai q.2.2+1:Nat):Int)) (.slice pw (N1++[nm]).length px) (.slice ae (dH X1).length ce) ge X1 q.2.1.av (S 9) (S 12) mB q1 cO:=hJ
 rw[Ck] at hJ
 obtain⟨bb,cap,e1,sf,rR,Gm,hO,vm⟩:=J5.form hJ
 subst e1
 have M9:=hJ.box
 refine gY (o:=3) E3 rfl rfl rfl M9 rfl ?_
 intro eY cM AJ r7
 exact uU mB (Fr.of cM (by rw[Gm];simp[eV])) ((λx hx=>lL (mj x hx) (ak.size cM))) (J5.field hJ cM AJ (λg9 _ fN hx=>by rcases fN with h|⟨y,h,hy⟩;(·rw[h] at hx;exact(s5 _ hx).2.1 rfl);(·rw[h] at hx;simp at hx;omega)) (by rw[Gm];simp[eV]))
 exact trivial
 intro x pr B9 aW rr Gf hJ hlen
 obtain⟨q0,q1,bo⟩:=lP hlen
 subst bo
 intro v6 d6
 intro v9
 intro v12
 change OW _ _ _ _ [] (aM (aN _ x _) (zZ 26 [_,_,_,_,_,_,_,_,_]++[(100009,_),(35,_),(36,_),(100012,_)])) _
 have hJ:J5 t5 (w1.heap.size::E) G2 w9 b vt (.int .i64 ((bK cy ai q.2.2+1:Nat):Int)) (.slice pw (N1++[nm]).length px) (.slice ae (dH X1).length ce) ge X1 q.2.1.av true true B9 q1 pr:=hJ
 obtain⟨g9,kz,dL,fN⟩:=hJ.ex
 subst kz
 obtain⟨G3,yu,fX,T5⟩:=hS.AH dL hJ.aO fN
 have aI:=aI.aO hJ.aO (by intro hx;rcases mC.1 hx with h|h;(·exact wW (by simp[h]));(·exact(s5 _ h).1 sm))
 have hR:=hR.go fX
 have bj:=hJ.box
 have yu:=yu
 refine ag<|zr<|zm<|aC (zY nm pr) ?_
 rintro v50 oo ⟨aeg,jn⟩
 have al0:=jn.size
 obtain rfl:=aeg
 have aI:=aI.ext jn;have yu:=yu.ext jn;have bj:=bj.ext jn;have hR:=hR.ext jn
 refine dw aH rfl rfl rfl aI rfl ?_
 intro lS lB aI dP
 have bj:=bj.aO lB (by simp;intro e;exact wW (by simp[e]))
 have yu:=yu.aL lB sm
 have hR:Fr G w G3 lS:=⟨hR.aO.since lB (λx hx=>.inr (by simp at hx;omega)),hR.mem⟩
 refine ag<|aV ?_
 exact⟨[_],gQ bU aH rfl aI rfl,by rw[<-hq,M7];exact⟨G3,⟨(by rw[gM];exact lG o3),(by have e1:aX++(q.1++[(dm cy (bK cy ai q.2.2),q.2.1)]).map Prod.fst=N1++[nm]:=(by rw[Ch,gM];simp);have e2:exprs++(q.1++[(dm cy (bK cy ai q.2.2),q.2.1)]).map (λp=>p.2.av)=X1++[q.2.1.av]:=(by rw[Ci];simp);show M5 t5 E G3 _ b ai _ (aX++(q.1++[(dm cy (bK cy ai q.2.2),q.2.1)]).map Prod.fst) (exprs++(q.1++[(dm cy (bK cy ai q.2.2),q.2.1)]).map (λp=>p.2.av));rw[e1,e2];exact⟨_,_,_,_,_,bj,yu.drop⟩)⟩,hR⟩⟩
def aeh (v:Value) (a:Option Addr) (n c:Nat) (hv:v= .slice a n c) (w:World):ck Tryz.prog 179 [v] w λr w'=>r= .agg #[str [],.slice a n c]∧ak [] w w':=by
 subst hv
 have hK:=ak.refl [] w
 refine lH [.cell 2 66] 5 Tryz.func179 rfl YG rfl rfl rfl ?_
 refine zr<|eD aH rfl rfl rfl ?_
 intro w1 aK aZ eh
 have hK:=hK.grow;have hK:=hK.ext aK
 refine ag<|zr<|zm<|j7 (KC _ _ _ _) rfl rfl<|dw aH rfl rfl rfl aZ rfl ?_
 intro w2 aq aZ eO
 have hK:=hK.aL aq sx
 refine ag<|aV ?_
 exact⟨[_],gQ bU aH rfl aZ rfl,rfl,hK⟩
def aei (e:Ex):Prop:=∀(ai:List aj) (n:Nat) (aX:List aj) (exprs:List aA),yt ai e n [] []->∀(E G:List Nat) (b:Nat) (v:Value) (w:World),M5 t5 E G w b ai n aX exprs->bT (E++G) w v e.av->
 ck Tryz.prog 138 [.pointer (some ⟨b,0,none⟩),v] w λr w'=>(bT (E++G) w' r (nh ai e n).av∧M5 t5 E G w' b ai (bu ai e n).2.2 aX exprs)∧Fr G w G w'
def aej {bs:Bs} {e:Ex} {k:Nat} (h:k<bs.length):(nest (bs.drop k) e).av= .mk [] [cg gO,cg (bs.getD k ([],e)).1,(bs.getD k ([],e)).2.av,(nest (bs.drop (k+1)) e).av]:=by
 rw[List.drop_eq_getElem_cons h]
 have e1:bs.getD k ([],e)=bs[k]:=by simp[h]
 rw[e1];rfl
def aek {bs:Bs} {e:Ex} {k:Nat} (h:k<bs.length):aD (bs.map Prod.fst) k=(bs.getD k ([],e)).1:=by simp[aD,List.getD,h]
def ael {bs:Bs} {e:Ex} {k:Nat} (h:k<bs.length):nth (bs.map λp=>p.2.av) k=(bs.getD k ([],e)).2.av:=by simp[nth,List.getD,h]
def aem {L:List Nat} {w:World} {b:Nat} {T:TypeId} {u1 u2 u3 u4 u5 u6 u7 u8:Value} {t1 t2 t3 t4:aA} (hb:aY w b [u1,u2,u3,u4,u5,u6,u7,u8].toArray T) (hL:b∉L) (h1:bT L w (.agg #[u1,u2]) t1) (h2:bT L w (.agg #[u3,u4]) t2) (h3:bT L w (.agg #[u5,u6]) t3) (h4:bT L w (.agg #[u7,u8]) t4):
  fI L w (.slice (some ⟨b,0,none⟩) 4 4) [t1,t2,t3,t4]:=by
 have hc:=hb.all
 refine WL b 0 4 2 (dH [t1,t2,t3,t4]) [[u1,u2],[u3,u4],[u5,u6],[u7,u8]] rfl (lR 4) hb.lt hL (Xz _) (λi vs hi=>?_) λi vs row hi hr=>?_
 ·intro j v hj
  match i,hi with
  |0,hi=>simp at hi;subst hi;have:=hc j v (by match j,hj with|0,hj=>simpa using hj|1,hj=>simpa using hj);simpa using this
  |1,hi=>simp at hi;subst hi;have:=hc (2+j) v (by match j,hj with|0,hj=>simpa using hj|1,hj=>simpa using hj);simpa using this
  |2,hi=>simp at hi;subst hi;have:=hc (4+j) v (by match j,hj with|0,hj=>simpa using hj|1,hj=>simpa using hj);simpa using this
  |3,hi=>simp at hi;subst hi;have:=hc (6+j) v (by match j,hj with|0,hj=>simpa using hj|1,hj=>simpa using hj);simpa using this
 ·match i,hi with
  |0,hi=>simp at hi;subst hi;simp[dH] at hr;subst hr;exact h1.kQ
  |1,hi=>simp at hi;subst hi;simp[dH] at hr;subst hr;exact h2.kQ
  |2,hi=>simp at hi;subst hi;simp[dH] at hr;subst hr;exact h3.kQ
  |3,hi=>simp at hi;subst hi;simp[dH] at hr;subst hr;exact h4.kQ
def Jf {e:Ex} (bD:e.ok) (hC:M0 e):aei e:=by
 intro ai n aX exprs hB E G b v w hM hv
 have dK:=hv
 obtain⟨a,np,c,rfl,hn,bc⟩:=dO hv
 have hB0:=hB
 obtain⟨Iz,M3,M4,Jb⟩:=hB
 have Jc:=iL ai e n
 have M6:=Ja ai e n
 have hK:=ak.refl [] w
 have aw:=hM
 have hT:=dK
 obtain⟨q,hq⟩:∃q,q=bu ai e n:=⟨_,rfl⟩
 rw[<-hq] at Jc M6
 refine lH [.cell 4 66] 66 Tryz.func138 rfl Yd rfl rfl rfl ?_
 refine zr<|fG rfl ?_
 intro w1 aK bR eh
 have hK:=hK.ext aK;have aw:=aw.ext aK
 refine eD aH rfl rfl rfl ?_
 intro w2 aq aI eO
 have hK:=hK.grow;have hK:=hK.ext aq;have aw:=aw.alloc aq eO;have bR:=bR.grow;have bR:=bR.ext aq
 refine ag<|zr<|zm<|dk rfl<|zf xC rfl ?_
 obtain⟨vt,vn,ve,gn,ge,bj,hS⟩:=aw.open
 obtain⟨an,cn,kj⟩:=kv hS.na
 subst kj
 obtain⟨ae,ce,BX⟩:=hS.ex.len
 subst BX
 obtain⟨Je,wW,wX,s5⟩:=hS.apart
 have ot:b∈G:=hS.mem.2 (.inl rfl)
 have iG:=bj.lt
 have Cl:=hS
 have nz:=hK
 have Na:=ak.refl [] w2
 have aeb:=aI.lt
 have Gd:=aI
 have Gn:bT ((w1.heap.size::E)++G) w2 _ e.av:=bT.ext (bT.fresh dK (by intro x hx;rcases mC.1 (show x∈w1.heap.size::(E++G) from hx) with h|h;(·right;omega);(·exact .inl h))) nz
 have al1:=eh
 have al2:=eO
 have T6:w.heap.size≠b:=(by have:=hM.bG.2.1;omega)
 have Jg:w1.heap.size≠b:=(by have:=hM.bG.2.1;omega)
 have LR:=hM.bG.2.1
 refine zl eS rfl (bj.at rfl)<|zA<|ag<|zr<|zm<|dk rfl<|zf zz rfl<|zl cK rfl (bj.at rfl)<|zA<|ag<|zr<|zm<|gP bh bA ?_
 intro w3 aJ kl iJ
 have bj:=bj.ext aJ;have Na:=Na.ext aJ;have bR:=bR.ext aJ;have aI:=aI.ext aJ
 refine dk rfl<|zf xC rfl<|gY (o:=2) nO rfl rfl rfl bj rfl ?_
 intro w4 aF bj dP
 have qb:ak [b] w2 w4:=(ak.any Na).trans aF
 have kl:=kl.aO aF so
 have aI:=aI.aO aF (by simpa using Jg)
 have bR:=bR.aO aF (by simpa using T6)
 refine ag<|zr<|zm<|gP cw aH ?_
 intro w5 aU tZ jr
 have bj:=bj.ext aU;have bR:=bR.ext aU;have aI:=aI.ext aU;have kl:=kl.ext aU
 refine dk rfl<|zf zz rfl<|gY (o:=3) E3 rfl rfl rfl bj rfl ?_
 intro w6 bF bj dP
 have qb:ak [b] w2 w6:=(qb.ext aU).trans bF
 have kl:=kl.aO bF so
 have tZ:=tZ.aO bF so
 have aI:=aI.aO bF (by simpa using Jg)
 have bR:=bR.aO bF (by simpa using T6)
 refine ag<|zr<|zm<|zL bU aH rfl bR.all rfl ?_
 have bj:aY w6 b [vt,.int .i64 (n:Int),.slice (some ⟨w2.heap.size,0,none⟩) 0 0,.slice (some ⟨w4.heap.size,0,none⟩) 0 0].toArray 151:=bj
 obtain⟨hSo,_,_,al3⟩:=Cl.opened qb kl tZ (lR _) om
 have aw:M5 t5 (gn.toList++(ge.toList++(w1.heap.size::E))) [b,w2.heap.size,w4.heap.size] w6 b ai n [] []:=⟨_,_,_,_,_,bj,hSo⟩
 have hTP:bT ((gn.toList++(ge.toList++(w1.heap.size::E)))++[b,w2.heap.size,w4.heap.size]) w6 _ e.av:=Gn.go ⟨qb.mono (by intro x hx;simp at hx;subst hx;simp[ot]),by intro x hx;rcases mA.1 hx with h|h;(·left;rcases mA.1 h with h|h;(·exact mR _ (Cl.mem.2 (by simp[h])));(·rcases mA.1 h with h|h;(·exact mR _ (Cl.mem.2 (by simp[h])));(·exact List.mem_append_left _ h)));(·simp at h;rcases h with h|h|h;(·left;simp[h,ot]);(·right;omega);(·right;omega))⟩
 refine aC (hC ai n [] [] hB0 (gn.toList++(ge.toList++(w1.heap.size::E))) [b,w2.heap.size,w4.heap.size] b _ w6 aw hTP) ?_
 rintro v27 w7 ⟨G2,⟨py,aw⟩,Nb⟩
 rw[<-hq,List.nil_append,List.nil_append] at aw
 rw[<-hq] at py
 obtain⟨a9,n9,c9,e9,_,_⟩:=dO py
 subst e9
 have qb:=qb.since Nb.aO (by intro x hx;simp at hx;rcases hx with h|h|h;(·left;simp[h]);(·right;omega);(·right;omega))
 have aI:=aI.aO Nb.aO so
 have aer:∀x,x∈G2->x=b∨w2.heap.size<=x:=(by intro x hx;have h1:=qb.size;rcases Nb.mem x hx with h|h;(·simp at h;omega);(·right;omega))
 have hzw:=qb.size
 refine eD aH rfl rfl rfl ?_
 intro w8 cv cI mr
 have aI:=aI.grow;have aI:=aI.ext cv;have aw:=aw.alloc cv mr;have py:=py.grow;have py:=py.ext cv;have qb:=qb.grow;have qb:=qb.ext cv
 refine dw aH rfl rfl rfl cI rfl ?_
 intro w9 aG cI dP
 have aI:=aI.aL aG sx;have aw:=aw.aL aG sx;have py:=py.aL aG sx;have qb:=qb.aL aG sx
 refine ag<|aQ<|zr<|zm<|dk rfl<|zf xC rfl ?_
 obtain⟨vt3,vn3,ve3,gn3,ge3,bj,hS⟩:=aw.open
 obtain⟨an3,cn3,aes⟩:=kv hS.na
 subst aes
 obtain⟨ae3,ce3,aet⟩:=hS.ex.len
 subst aet
 have oX:(q.1.map Prod.fst).length=q.1.length:=by simp
 have mM:(q.1.map λp=>p.2.av).length=q.1.length:=by simp
 have aeu:(dH (q.1.map λp=>p.2.av)).length=q.1.length:=by rw[iI];exact mM
 refine zl eS rfl (bj.at rfl)<|dZ bh rfl<|mN rfl rfl rfl rfl rfl (wrap_i64 _ om om)<|zA<|ag<|cS ?_
 have H5:b<w7.heap.size∧w2.heap.size<=w7.heap.size:=(by constructor<;>omega)
 refine fY (λk:Nat=>[(0,.pointer (some ⟨b,0,none⟩)),(4,.pointer (some ⟨w1.heap.size,0,none⟩)),(5,.slice an aX.length cn),(6,.slice ae (dH exprs).length ce),(7,.pointer (some ⟨w7.heap.size,0,none⟩)),(8,.int .i64 ((k:Int)-1))]) (λk w'=>ak [w7.heap.size] w9 w'∧k<=q.1.length∧∃a n c,aY w' w7.heap.size [str (nest (q.1.drop k) q.2.1).av.az,.slice a n c].toArray 66∧bT (w7.heap.size::((gn.toList++(ge.toList++(w1.heap.size::E)))++G2)) w' (.agg #[str (nest (q.1.drop k) q.2.1).av.az,.slice a n c]) (nest (q.1.drop k) q.2.1).av) (λk=>k) q.1.length (⟨rfl,rfl,rfl,rfl,rfl,cA (λz:Nat=>Value.int .i64 ((z:Int)-1)) oX⟩) (⟨ak.refl _ _,lR _,a9,n9,c9,by rw[List.drop_length];exact cI,by rw[List.drop_length];exact py⟩) ?_
 intro gg cO gw hI
 obtain⟨AK,hk,a7,n7,c7,cI,py⟩:=hI
 have Nc:b≠w7.heap.size:=(by have:=H5;omega)
 have bj:=bj.aO AK (by simpa using Nc)
 have hS:=hS.aL AK (List.mem_cons_self ..)
 have qb:=qb.since AK (λx hx=>.inr (by rw[mS.1 hx];exact H5.2))
 refine aQ<|zr<|zm<|l0 rfl rfl rfl rfl rfl<|ag<|zc rfl (λh1=>?_) (λh1=>?_)
 have aR:∃k,gg=k+1:=⟨gg-1,om⟩
 obtain⟨k,rfl⟩:=aR
 have hi:((k+1:Nat):Int)-1=(k:Int):=by omega
 rw[hi]
 obtain⟨bn,capn,e1,ph⟩:=hS.na.ad9 om
 cases e1
 obtain⟨be,cape,e2,rO⟩:=hS.ex.form om
 cases e2
 have Nd:=hS.na.MZ (i:=k) om
 obtain⟨pa,pc,Nf,Ng⟩:=hS.ex.MZ (i:=k) om
 refine bz<|aQ<|cS ?_
 apply wE et 19 (rA 38 19) (rA 38 19) [[],[],[1],[2],[3],[],[4,5],[6],[7],[],[9],[10],[11],[],[12,13],[14],[],[0,8,15,16],[17]] [It.v _,It.v _,It.v _,It.v _,It.v _,It.v _,It.v _,It.v _,It.v _,It.v _,It.v _,It.v _,It.v _,It.v _,It.v _,It.v _,It.v _,It.p (fun(v:Value) (ww:World)=>∃bb,v= .slice (some ⟨bb,0,none⟩) 4 4∧fI (w7.heap.size::((gn.toList++(ge.toList++(w1.heap.size::E)))++G2)) ww v [cg gO,cg (aD (q.1.map Prod.fst) k),(nth (q.1.map λp=>p.2.av) k),(nest (q.1.drop (k+1)) q.2.1).av]),It.p (fun(v:Value) (ww:World)=>∃a n c,v= .agg #[str [],.slice a n c]∧bT (w7.heap.size::((gn.toList++(ge.toList++(w1.heap.size::E)))++G2)) ww v (.mk [] [cg gO,cg (aD (q.1.map Prod.fst) k),(nth (q.1.map λp=>p.2.av) k),(nest (q.1.drop (k+1)) q.2.1).av]))] de (by exact⟨λv w w' ⟨bb,e,h⟩ k=>⟨bb,e,h.ext k⟩,λv w w' ⟨a,n,c,e,h⟩ k=>⟨a,n,c,e,h.ext k⟩,trivial⟩)
 intro wd aB
 refine vk aB (λx eY cM=>?_) ?_
 refine aC (zY _ eY) ?_
 rintro v12 gj ⟨s8,dG⟩
 have Ea:=dG.size
 obtain rfl:=s8
 exact pk dG
 refine eK ?_
 refine vk aB (λx eY cM=>?_) ?_
 refine dk rfl ?_
 exact pv
 refine vc (λ_ _ _=>zf xC rfl pv) ?_
 refine vk aB (λx eY cM=>?_) ?_
 have bj:=bj.ext cM
 refine zl eS rfl (bj.at rfl) ?_
 exact pv
 refine eK ?_
 refine vk aB (λx eY cM=>?_) ?_
 refine zi bh bA rfl rfl (by rw[oX];omega) ?_
 exact pv
 refine vk aB (λx eY cM=>?_) ?_
 have Nd:=Nd.ext cM
 refine zl cm rfl (Nd 0 _ rfl) ?_
 exact pv
 refine vk aB (λx eY cM=>?_) ?_
 refine aC (zY _ eY) ?_
 rintro v12 gj ⟨s8,dG⟩
 have Ea:=dG.size
 obtain rfl:=s8
 exact pk dG
 refine eK ?_
 refine vk aB (λx eY cM=>?_) ?_
 refine dk rfl ?_
 exact pv
 refine vc (λ_ _ _=>zf zz rfl pv) ?_
 refine vk aB (λx eY cM=>?_) ?_
 have bj:=bj.ext cM
 refine zl cK rfl (bj.at rfl) ?_
 exact pv
 refine eK ?_
 refine vk aB (λx eY cM=>?_) ?_
 refine zi cw aH rfl rfl (by rw[aeu];omega) ?_
 exact pv
 refine vk aB (λx eY cM=>?_) ?_
 have Nf:=Nf.ext cM
 refine zL bU aH rfl Nf rfl ?_
 exact pv
 refine vk aB (λx eY cM=>?_) ?_
 have cI:=cI.ext cM
 refine zL bU aH rfl cI.all rfl ?_
 exact pv
 refine vk aB (λx eY cM=>?_) ?_
 have py:=py.ext cM;have hS:=hS.ext cM;have Ng:=Ng.ext cM
 have dD:=hS.db
 refine sG [.tmp 38,.tmp 46,.tmp 53,.tmp 54] [[str gO,.slice none 0 0],[str (aD (q.1.map Prod.fst) k),.slice none 0 0],[str (nth (q.1.map λp=>p.2.av) k).az,.slice pa (nth (q.1.map λp=>p.2.av) k).au.length pc],[str (nest (q.1.drop (k+1)) q.2.1).av.az,.slice a7 n7 c7]] cw aH rfl rfl rfl rfl rfl rfl rfl rfl rfl ?_
 intro gj dG B5 ame
 exact pf dG (⟨_,rfl,aem B5 (λhx=>by have:=dD _ hx;omega) (lG o3) (lG o3) (Ng.ext dG) (py.ext dG)⟩)
 refine vk aB (λx eY cM=>?_) ?_
 intro jX d17
 obtain⟨bb,sh,Jh⟩:=d17
 refine aC (aeh jX _ _ _ sh eY) ?_
 rintro v12 gj ⟨s8,dG⟩
 have Ea:=dG.size
 obtain rfl:=s8
 have Jh:=fI.ext Jh dG
 rw[sh] at Jh
 exact pf dG (⟨_,_,_,rfl,lG Jh⟩)
 exact trivial
 intro x oo jn
 intro jX d17
 intro wZ d18
 have AK:=AK.ext jn;have cI:=cI.ext jn
 change OW _ _ _ _ _ (aM (aN _ x _) (zZ 38 [_,_,_,_,_,_,_,_,_,_,_,_,_,_,_,_,_,_,_])) _
 obtain⟨a8,n8,c8,vB,Ji⟩:=d18
 subst vB
 have jA:=aej (bs:=q.1) (e:=q.2.1) (k:=k) om
 rw[<-aek (e:=q.2.1) (show k<q.1.length by omega),<-ael (e:=q.2.1) (show k<q.1.length by omega)] at jA
 rw[<-jA] at Ji
 have T7:(nest (q.1.drop k) q.2.1).av.az=[]:=by rw[jA];rfl
 refine dw aH rfl rfl rfl cI rfl ?_
 intro lS lB cI dP
 have AK:=AK.trans lB
 have Ji:=Ji.aL lB sm
 refine ag<|df<|zm<|mN rfl rfl rfl rfl rfl (wrap_i64 _ om om)<|zA<|ag ?_
 exact⟨k,⟨rfl,rfl,rfl,rfl,rfl,rfl⟩,⟨AK,om,a8,n8,c8,by rw[T7];exact cI,by rw[T7];exact Ji⟩,om⟩
 have h0:gg=0:=by omega
 subst h0
 have AL:=hS
 have AJ:=bj
 have Gp:=qb
 refine gD<|gF rfl<|zr<|zm<|zm<|dk rfl<|zf xC rfl<|gY (o:=2) nO rfl rfl rfl bj rfl ?_
 intro eY cM bj dP
 have mD:=cM
 have cI:=cI.aO cM (by simpa using λe=>Nc e.symm)
 have py:=py.aL cM (by intro x hx;simp at hx;subst hx;simp[AL.mem.2 (.inl rfl)])
 refine ag<|zr<|zm<|zm<|dk rfl<|zf zz rfl<|gY (o:=3) E3 rfl rfl rfl bj rfl ?_
 intro gj dG bj dP
 have mD:=mD.trans dG
 have cI:=cI.aO dG (by simpa using λe=>Nc e.symm)
 have py:=py.aL dG (by intro x hx;simp at hx;subst hx;simp[AL.mem.2 (.inl rfl)])
 have aev:ak [b] w2 gj:=Gp.trans mD
 have aI:=Gd.aO aev (by simpa using Jg)
 obtain⟨hS,aew⟩:=Cl.closed AL.drop (Cl.na.aO Gp (λx hx hy=>(wX x (by simp[hx])).2 (by simpa using hy))) (Cl.ex.aO (Fr.of Gp (by intro x hx;simp at hx;subst hx;simp[ot])) Gp (λx hx hy=>(s5 x hx).2.1 (by simpa using hy))) ⟨Gp.mono (by intro x hx;simp at hx;subst hx;exact ot),λx hx=>(aer x hx).imp (λh=>by rw[h];exact ot) id⟩ mD
 have vC:bT ((w1.heap.size::E)++G) gj _ (nest (q.1.drop 0) q.2.1).av:=py.jk (λx hx=>by rcases mA.1 hx with h|h;(·exact mK _ (by rcases mC.1 h with h|h<;>simp[h]));(·rcases Cl.mem.1 h with h|h|h;(·rw[h];simp[AL.mem.2 (.inl rfl)]);(·simp[h]);(·simp[h])))
 refine ag<|zr<|zL bU aH rfl cI.all rfl<|dw aH rfl rfl rfl aI rfl ?_
 intro jF fM aI dP
 have bj:=bj.aO fM (by simpa using λe=>Jg e.symm)
 have hS:=(hS.aL fM sm).drop
 have vC:=vC.aL fM sm
 have zF:=nz.size
 have hFr:Fr G w G jF:=⟨((ak.any nz).trans aew.aO).since fM (λx hx=>.inr (by simp at hx;omega)),λx hx=>.inl hx⟩
 refine ag<|aV ?_
 exact⟨[_],gQ bU aH rfl aI rfl,⟨(by have h9:=bT.jk vC (L':=E++G) (λx hx=>mK _ hx);unfold nh;rw[<-hq];exact h9),by rw[<-hq];exact⟨_,_,_,_,_,bj,hS⟩⟩,hFr⟩
def gW (ai:List aj) (e:Ex) (n:Nat):Nat->Bs×List Ex×Nat
 |0=>([],[],n)
 |k+1=>((gW ai e n k).1++(dW ai (bu ai (fL e k) (gW ai e n k).2.2)).1,(gW ai e n k).2.1++[(dW ai (bu ai (fL e k) (gW ai e n k).2.2)).2.1],(dW ai (bu ai (fL e k) (gW ai e n k).2.2)).2.2)
def Nh (ai:List aj) (e:Ex) (n:Nat):∀k,(gW ai e n k).2.1.length=k
 |0=>rfl
 |k+1=>by simp[gW,Nh ai e n k]
def T8 (ai:List aj) (e:Ex) (n:Nat):(dW ai (bu ai e n)).1.length<=2*e.n:=by
 have:=Ja ai e n
 unfold dW
 split
 ·omega
 ·simp;omega
def T9 (ai:List aj) (e:Ex) (n:Nat):(dW ai (bu ai e n)).2.2<=n+e.n*(2*(ai.length+2)):=by
 have h1:=iL ai e n
 have h2:=qx ai (bu ai e n)
 omega
def Ua (ai:List aj) (e:Ex) (n:Nat):∀k,k<=e.kids.length->(gW ai e n k).1.length<=2*kN e k∧(gW ai e n k).2.2<=n+kN e k*(2*(ai.length+2))
 |0,_=>by simp[gW,kN]
 |k+1,hk=>by
  obtain⟨h1,h2⟩:=Ua ai e n k om
  have h3:=T8 ai (fL e k) (gW ai e n k).2.2
  have h4:=T9 ai (fL e k) (gW ai e n k).2.2
  rw[yl om,Nat.add_mul]
  simp only[gW,lA]
  constructor<;>omega
def aey (ai:List aj) (e:Ex) (n:Nat) {k:Nat} {aX:List aj} {exprs:List aA} (hB:yt ai e n aX exprs) (hk:k<e.kids.length):yt ai (fL e k) (gW ai e n k).2.2 (aX++(gW ai e n k).1.map Prod.fst) (exprs++(gW ai e n k).1.map λp=>p.2.av):=by
 obtain⟨h1,h2,h3,h4⟩:=hB
 obtain⟨h5,h6⟩:=Ua ai e n k om
 have h7:=yl hk
 have h8:=B4 e (k+1)
 have h9:=Nat.mul_le_mul_right (2*(ai.length+2)) h8
 rw[h7,Nat.add_mul] at h9
 refine⟨by omega,?_,?_,h4⟩
 ·simp only[lA,List.length_map];omega
 ·simp only[lA,List.length_map];omega
def aez (ai:List aj) {e:Ex} (n:Nat) (ha:e.jl=false) (h1:e.head≠gO) (h2:e.head≠iq) (h3:e.head≠cE):
  (bu ai e n).1=(gW ai e n e.kids.length).1∧(bu ai e n).2.1.av= .mk [] ([cg e.head]++(gW ai e n e.kids.length).2.1.map Ex.av)∧(bu ai e n).2.2=(gW ai e n e.kids.length).2.2:=by
 cases e with
 |«at» s=>cases ha
 |lt x a b=>exact absurd rfl h1
 |fn f x A B b=>exact absurd rfl h2
 |ite a b c=>exact absurd rfl h3
 |un h a=>exact⟨rfl,rfl,rfl⟩
 |bi h a b=>exact⟨rfl,rfl,rfl⟩
def aeA {e:Ex} (ha:e.jl=false) (h1:e.head≠gO) (h2:e.head≠iq):e.av.au=mi [cg e.head] [] e:=by
 rw[TG ha (not_lt h1) h2]
 simp[mi]
def Ub {e:Ex} (ha:e.jl=false) (h1:e.head≠gO) (h2:e.head≠iq):e.from=1:=by
 cases e with
 |«at» s=>cases ha
 |lt x a b=>exact absurd rfl h1
 |fn f x A B b=>exact absurd rfl h2
 |_=>rfl
def yt.sub {ai:List aj} {e e':Ex} {n n':Nat} {aX names':List aj} {exprs exprs':List aA} (h:yt ai e n aX exprs) (m:Nat) (h1:m+e'.n<=e.n) (h2:n'<=n+m*(2*(ai.length+2))) (h3:names'.length<=aX.length+4*m) (h4:exprs'.length<=exprs.length+4*m):yt ai e' n' names' exprs':=by
 obtain⟨a1,a2,a3,a4⟩:=h
 have h9:=Nat.mul_le_mul_right (2*(ai.length+2)) h1
 rw[Nat.add_mul] at h9
 exact⟨by omega,om,om,a4⟩
def M5.nd {τ:xZ} {E G:List Nat} {w:World} {b n:Nat} {ai aX:List aj} {exprs:List aA} (h:M5 τ E G w b ai n aX exprs):(E++G).Nodup:=by
 obtain⟨_,_,_,_,_,_,h2⟩:=h;exact h2.nd
def M5.more {τ:xZ} {E G:List Nat} {w w':World} {b n x:Nat} {ai aX:List aj} {exprs:List aA} (h:M5 τ E G w b ai n aX exprs) (k:ak [] w w') (h1:w.heap.size<=x) (h2:x<w'.heap.size):M5 τ (x::E) G w' b ai n aX exprs:=by
 obtain⟨vt,vn,vex,gn,ge,hb,h⟩:=h
 have hF:∀y,y∈(x::E)++G->y∈E++G∨w.heap.size<=y:=λy hy=>by
  rcases mC.1 (show y∈x::(E++G) from hy) with h3|h3
  ·right;omega
  ·exact .inl h3
 refine⟨vt,vn,vex,gn,ge,hb.ext k,(h.ta.fresh hF).ext k,h.na.ext k,(h.ex.sub hF).any k,h.eG,?_,λy hy=>?_⟩
 ·show(x::(E++G)).Nodup
  rw[List.nodup_cons]
  exact⟨λhx=>by have:=h.db _ hx;omega,h.nd⟩
 ·rcases mC.1 (show y∈x::(E++G) from hy) with h3|h3
  ·omega
  ·have:=h.db y h3;have:=k.size;omega
structure kB (E G:List Nat) (w0 w:World) (G0:List Nat) (b:Nat) (ai:List aj) (n:Nat) (aX:List aj) (exprs:List aA) (gb b4:Nat) (vP:Value) (ts:List aA):Prop where
 m:M5 t5 (gb::b4::E) G w b ai n aX exprs
 own:eE ((gb::b4::E)++G) w 66 2 vP (some gb) (dH ts)
 bx:aY w b4 [str [],.slice none 0 0].toArray 66
 fr:Fr G0 w0 G w
 low:w0.heap.size<=gb∧w0.heap.size<=b4
section
variable {E G G0 G':List Nat} {w0 w w':World} {b:Nat} {ai:List aj} {n n':Nat} {aX names':List aj} {exprs exprs':List aA} {gb b4:Nat} {vP:Value} {ts ts':List aA}
def kB.ext (h:kB E G w0 w G0 b ai n aX exprs gb b4 vP ts) (k:ak [] w w'):kB E G w0 w' G0 b ai n aX exprs gb b4 vP ts:=⟨h.m.ext k,h.own.ext k,h.bx.ext k,h.fr.ext k,h.low⟩
def kB.call (h:kB E G w0 w G0 b ai n aX exprs gb b4 vP ts) (hm:M5 t5 (gb::b4::E) G' w' b ai n' names' exprs') (k:Fr G w G' w'):kB E G' w0 w' G0 b ai n' names' exprs' gb b4 vP ts:=
 ⟨hm,h.own.aO (k.in _) k.aO (λx hx=>by simp at hx;subst hx;exact h.m.nE sm),h.bx.aO k.aO (h.m.nE sm),h.fr.go k,h.low⟩
def kB.ne (h:kB E G w0 w G0 b ai n aX exprs gb b4 vP ts):gb∉b4::(E++G)∧b4∉E++G:=by
 have h1:(gb::b4::(E++G)).Nodup:=h.m.nd
 rw[List.nodup_cons,List.nodup_cons] at h1
 exact⟨h1.1,h1.2.1⟩
def kB.store (h:kB E G w0 w G0 b ai n aX exprs gb b4 vP ts) (k:ak [gb] w w') (ho:eE ((gb::b4::E)++G) w' 66 2 vP (some gb) (dH ts')):kB E G w0 w' G0 b ai n aX exprs gb b4 vP ts':=
 ⟨h.m.aL k sm,ho,h.bx.aO k (by simp;intro e;exact h.ne.1 (by simp[e])),⟨h.fr.aO.since k (by intro x hx;simp at hx;subst hx;exact .inr h.low.1),h.fr.mem⟩,h.low⟩
def kB.db (h:kB E G w0 w G0 b ai n aX exprs gb b4 vP ts):fy ((gb::b4::E)++G) w:=h.m.bG.2.2
def kB.jC (h:kB E G w0 w G0 b ai n aX exprs gb b4 vP ts):∀x,x∈[gb]->x∈(gb::b4::E)++G:=by simp
def kB.fin (h:kB E G w0 w G0 b ai n aX exprs gb b4 vP ts) (k:ak [b4] w w'):bT (E++G) w' (.agg #[str [],vP]) (.mk [] ts)∧M5 t5 E G w' b ai n aX exprs∧Fr G0 w0 G w':=by
 have h1:cF (b4::(E++G)) w vP (.sl 2 (dH ts)):=h.own.rep (λx hx=>.inl (by simpa using hx)) (by simpa using h.ne.1)
 have h2:bT (b4::(E++G)) w (.agg #[str [],vP]) (.mk [] ts):=lG h1
 exact⟨(h2.aL k sm).jk (λx hx=>mK _ hx),(h.m.drop.aL k sm).drop,⟨h.fr.aO.since k (by intro x hx;simp at hx;subst hx;exact .inr h.low.2),h.fr.mem⟩⟩
end
def aeB:∀(m:Nat) (e:Ex),e.n<=m->e.ok->M0 e:=by
 intro m
 induction m with
 |zero=>intro e h;have:=e.pos;omega
 |succ m ih=>
  intro e hm bD ai n aX exprs hB E F b v w hM dK
  have hv:=dK
  obtain⟨a,np,c,rfl,hn,I1⟩:=dO hv
  subst hn
  have Jc:=iL ai e n
  have IS:=F3 e
  have hK:=ak.refl [] w
  have aw:=hM
  have hT:=dK
  have hMl:=hM.bG
  obtain⟨Iz,M3,M4,Jb⟩:=id hB
  refine lH [.cell 4 66] 114 Tryz.func178 rfl YF rfl rfl rfl ?_
  refine zr<|fG rfl ?_
  intro w1 aK bR eh
  have hK:=hK.ext aK;have aw:=aw.ext aK;have hT:=hT.ext aK
  refine eD aH rfl rfl rfl ?_
  intro w2 aq aI eO
  have hK:=hK.grow;have hK:=hK.ext aq;have aw:=aw.alloc aq eO;have hT:=hT.grow;have hT:=hT.ext aq;have bR:=bR.grow;have bR:=bR.ext aq
  refine ag<|aQ<|zr<|zf dB rfl<|zl cm rfl (bR.at rfl)<|jI rfl rfl rfl rfl<|ag<|zc rfl (λh1=>?_) (λh1=>?_)
  have aR:∃x,e= .at x:=(by have ha:=(vu bD).1 h1;cases e<;>first|exact⟨_,rfl⟩|cases ha)
  obtain⟨x,rfl⟩:=aR
  refine zr<|zL bU aH rfl bR.all rfl<|dw aH rfl rfl rfl aI rfl ?_
  intro w3 aJ aI iJ
  have hK:=hK.aL aJ sx;have aw:=aw.aL aJ sx;have hT:=hT.aL aJ sx
  refine ag<|aV ?_
  exact⟨[_],gQ bU aH rfl aI rfl,by show I9 ai E F b aX exprs w ([],.at x,n) _ _;exact⟨F,⟨hT.jk (λy hy=>mK _ hy),by simpa using aw.drop⟩,Fr.of hK sm⟩⟩
  have fx:e.jl=false:=(by cases hh:e.jl;rfl;exact absurd ((vu bD).2 hh) h1)
  obtain⟨F4,pK,jJ,wM⟩:=Ex.au fx
  obtain⟨jU,DV,DW⟩:=F2 bD fx
  have nz:=hK
  have ml:=aw
  have Gn:=hT
  have Ni:=bR
  have Gd:=aI
  have adN:=eh
  have adO:=eO
  have AM:fI (w1.heap.size::(E++F)) w2 (.slice a e.av.au.length c) e.av.au:=(by obtain⟨a9,n9,c9,e9,AN,AM⟩:=dO Gn;cases e9;exact AM)
  have Nj:=ml.bG.2.2
  refine bz<|zr<|zf cN rfl<|zl cK rfl (bR.at rfl)<|zA<|ag<|zr<|zQ w2.heap.size (w1.heap.size::(E++F)) cw aH rfl rfl (lR _) (λx hx=>Nj x hx) ?_
  intro w3 aJ I2 wO
  have kh:=aJ
  have bR:=bR.ext aJ;have aI:=aI.ext aJ
  refine zm<|xO cw aH rfl rfl rfl rfl rfl rfl wO (fI.ext (fI.grow AM) aJ) (TM _) (by rw[iI];simp;omega) ?_
  intro a4 jf g4 w4 kX aF
  have kh:=wO.since kh aF
  have hK:=nz.trans kh
  have bR:=Ni.ext kh
  have aI:=Gd.ext kh
  have gK:=kh.size
  rw[show([]:List (List C)).length+(dH e.av.au).length=e.av.au.length from by rw[iI];simp] at kX⊢
  rw[List.nil_append] at kX
  obtain⟨gb,e4,e5⟩:=kX.form (by rw[iI];exact jU)
  subst e4
  subst e5
  have gJ:gb<w4.heap.size:=kX.lt gb sm
  have D1:w2.heap.size<=gb:=kX.low gb rfl
  have hS:eE (gb::(w1.heap.size::(E++F))) w4 66 2 (.slice (some ⟨gb,0,none⟩) e.av.au.length jf) (some gb) (dH e.av.au):=(let⟨xs,hr⟩:=kX.own;⟨⟨xs,hr.own,hr.rep⟩,hr.row⟩)
  have aw:M5 t5 (gb::w1.heap.size::E) F w4 b ai n aX exprs:=ml.more kh D1 gJ
  refine j7 (KC _ _ _ _) rfl rfl<|eD aH rfl rfl rfl ?_
  intro w5 aU bQ jr
  have hK:=hK.grow;have hK:=hK.ext aU;have aI:=aI.grow;have aI:=aI.ext aU;have hS:=hS.grow;have hS:=hS.ext aU;have kh:=kh.grow;have kh:=kh.ext aU
  refine dw aH rfl rfl rfl bQ rfl ?_
  intro w6 bF bQ lI
  have hK:=hK.aL bF sx;have aI:=aI.aL bF sx;have hS:=hS.aL bF sx;have kh:=kh.aL bF sx
  refine ag<|aQ<|zr<|zm ?_
  have jD:=hK.size
  have kh:ak [] w2 w6:=kh
  have aw:M5 t5 (gb::w1.heap.size::E) F w6 b ai n aX exprs:=ml.more kh D1 (by have:=bQ.lt;omega)
  have hS:eE ((gb::w1.heap.size::E)++F) w6 66 2 _ _ _:=eE.sub hS (λx hx=>.inl (mK _ hx))
  have TN:=aw.bG.2.2
  have D3:Fr (w1.heap.size::(E++F)) w2 ((gb::w1.heap.size::E)++F) w6:=⟨kh.any,λx hx=>by rcases mC.1 (show x∈gb::(w1.heap.size::(E++F)) from hx) with h|h;(·right;omega);(·exact .inl h)⟩
  have bc:=fI.go AM D3
  have gM:∀q,w.heap.size<=q->q≠gb->q≠w1.heap.size->q∉((gb::w1.heap.size::E)++F):=(by intro q h1 h2 h3 hx;rcases mC.1 (show q∈gb::(w1.heap.size::(E++F)) from hx) with h|h;(·exact h2 h);(·rcases mC.1 h with h|h;(·exact h3 h);(·have:=hMl.2.2 q h;omega)))
  have bQ:fi ((gb::w1.heap.size::E)++F) w6 w4.heap.size _ _:=⟨bQ,gM _ om om om⟩
  have bg:kB E F w w6 F b ai n aX exprs gb w1.heap.size (.slice (some ⟨gb,0,none⟩) e.av.au.length jf) e.av.au:=⟨aw,hS,aI,⟨hK.any,λx hx=>.inl hx⟩,om,om⟩
  obtain⟨b0,AB,xL,xM,e0,p7,kA⟩:=fK bc jU
  cases e0
  refine zi (i:=0) cw aH rfl rfl jU<|zf dB rfl<|zl cm rfl (p7.cells 0 _ rfl)<|ag<|cS<|zr<|cY rfl rfl<|zA<|ag<|zc rfl (λh2=>?_) (λh2=>?_)
  obtain⟨nx,ea,eb,rfl⟩:=IZ bD (jJ.symm.trans h2)
  have wP:(Ex.lt nx ea eb).n=2+ea.n+eb.n:=rfl
  have Jj:bu ai (.lt nx ea eb) n=((bu ai ea n).1++(nx,(bu ai ea n).2.1)::(bu ai eb (bu ai ea n).2.2).1,(bu ai eb (bu ai ea n).2.2).2.1,(bu ai eb (bu ai ea n).2.2).2.2):=rfl
  have Jk:=iL ai ea n
  have o9:=Ja ai ea n
  have hBa:yt ai ea n aX exprs:=hB.sub 0 om om om om
  have aR:∃q,q=bu ai ea n:=⟨_,rfl⟩
  obtain⟨q,hq⟩:=aR
  rw[<-hq] at Jj Jk o9
  have I3:(Ex.lt nx ea eb).av.au.length=4:=rfl
  have bc:fI ((w1.heap.size::E)++F) w6 _ _:=bc.jk (λx hx=>mK _ hx)
  have aw:=bg.m.drop
  have aI:=bg.bx
  have hR:=bg.fr
  obtain⟨b1,ga,gZ,ia,e1,bC,dh⟩:=fK bc (i:=1) om
  cases e1
  obtain⟨b2,nu,jd,je,e2,bY,ew⟩:=fK bc (i:=2) om
  cases e2
  have ew:bT ((w1.heap.size::E)++F) w6 _ ea.av:=ew
  obtain⟨b3,B8,pZ,p3,e3,eu,fa⟩:=fK bc (i:=3) om
  cases e3
  have fa:bT ((w1.heap.size::E)++F) w6 _ eb.av:=fa
  refine zr<|zm<|zm<|zi (i:=2) cw aH rfl rfl ((show 2<4 from om))<|zL bU aH rfl bY.cells rfl<|aC (ih ea om bD.2.1 ai n aX exprs hBa (w1.heap.size::E) F b _ w6 aw ew) ?_
  rintro v29 w7 ⟨G1,⟨dU,qG⟩,di⟩
  rw[<-hq] at dU qG
  obtain⟨a9,n9,c9,e9,_,_⟩:=dO dU
  subst e9
  have j6:=hR.go di
  have gm:=ak.refl [] w7
  have bC:=bC.go (di.in _);have eu:=eu.go (di.in _)
  have fa:=bT.go fa (di.in _)
  have aI:=aI.aO di.aO (aw.nE sm)
  have aw:=qG
  have Uc:=aw.bG.2.2
  have aR:∃x,x=aX++q.1.map Prod.fst:=⟨_,rfl⟩
  obtain⟨N1,Ch⟩:=aR
  have aR:∃x,x=exprs++q.1.map λp=>p.2.av:=⟨_,rfl⟩
  obtain⟨X1,Ci⟩:=aR
  rw[<-Ch,<-Ci] at aw
  have T2:N1.length=aX.length+q.1.length:=by rw[Ch];simp
  have hXl:X1.length=exprs.length+q.1.length:=by rw[Ci];simp
  have aeE:=aI
  have aeF:=bC
  have aeG:=eu
  have aeH:=fa
  have aeI:=dU
  have aeJ:=aw
  refine eD aH rfl rfl rfl ?_
  intro w8 cv cI mr
  have gm:=gm.grow;have gm:=gm.ext cv
  refine dw aH rfl rfl rfl cI rfl ?_
  intro w9 aG cI dP
  have gm:=gm.aL aG sx
  refine ag<|aQ ?_
  have Gq:=j6.aO.size
  have gm:ak [] w7 w9:=gm
  have hR:=j6.ext gm
  have aI:=aeE.ext gm
  have bC:=aeF.ext gm
  have eu:=aeG.ext gm
  have fa:=aeH.ext gm
  have dU:=aeI.ext gm
  have aw:=aeJ.ext gm
  obtain⟨vt,vn,vex,gn,ge,bj,hS⟩:=aw.open
  have bj:aY w9 b [vt,.int .i64 (q.2.2:Int),vn,vex].toArray 151:=bj
  obtain⟨Je,wW,wX,s5⟩:=hS.apart
  have Cj:fy ((w1.heap.size::E)++G1) w9:=hS.db
  have ot:b∈G1:=hS.mem.2 (.inl rfl)
  have qm:=cI.lt
  have cI:fi ((w1.heap.size::E)++G1) w9 _ _ _:=⟨cI,λhx=>by have:=Uc _ hx;omega⟩
  apply kf et (((w1.heap.size::E)++G1)) 13 (rA 30 13) (rA 30 13) [[],[],[1],[2],[3],[],[5],[6],[7],[8],[4,9],[0],[11]] [Ie.v _,Ie.v _,Ie.v _,Ie.v _,Ie.w 0 vn,Ie.v _,Ie.v _,Ie.v _,Ie.v _,Ie.p (fun(G:List Nat) (v:Value) (ww:World)=>∃bb,v= .slice (some ⟨bb,0,none⟩) 1 1∧aY ww bb [str nx].toArray 9∧bb∉G),Ie.e 1,Ie.v _,Ie.v _] [4,10] [fun(G:List Nat) (vs:List Value) (ww:World)=>G=(w1.heap.size::E)++G1∧ak [] w9 ww,fun(G:List Nat) (vs:List Value) (ww:World)=>G=(w1.heap.size::E)++G1∧ak [] w9 ww,fun(G:List Nat) (vs:List Value) (ww:World)=>∃G2 g2,G=(w1.heap.size::E)++G2∧ak gn.toList w9 ww∧jc t5 (w1.heap.size::E) G2 ww b vt (vs.getD 1 undef) vex g2 ge ai (N1++[nx]) X1∧Fr G1 w9 G2 ww] de rfl Cj (by exact⟨λG v w G' w' ⟨bb,e,h,ho⟩ k=>⟨bb,e,(fi.go ⟨h,ho⟩ k).jx,(fi.go ⟨h,ho⟩ k).out⟩,trivial⟩) (by exact⟨λG vs w w' ⟨h1,h2⟩ k=>⟨h1,h2.ext k⟩,λG vs w w' ⟨h1,h2⟩ k=>⟨h1,h2.ext k⟩,λG vs w w' ⟨G2,g2,h1,h2,h3,h4⟩ k=>⟨G2,g2,h1,h2.ext k,h3.ext k,h4.ext k⟩,trivial⟩) (⟨rfl,ak.refl _ _⟩)
  refine cT ?_
  refine cT ?_
  refine vf (λ_ _ _ _ _ _=>dk rfl fv) ?_
  refine vf (λ_ _ _ _ _ _=>zf xC rfl fv) ?_
  refine ve 0 (λx cO mB aW oU mj hJ hlen=>?_) ?_
  have bo:=jR hlen
  subst bo
  obtain⟨cB,cD⟩:=hJ
  have ua:=bj.ext cD
  refine zl eS rfl (ua.at rfl) ?_
  exact fw mB (Fr.refl _ _) mj (⟨cB,cD⟩)
  refine cT ?_
  refine vf (λ_ _ _ _ _ _=>zi (i:=1) cw aH rfl rfl ((show 1<4 from om)) fv) ?_
  refine vf (λ_ _ _ _ _ _=>zf dB rfl fv) ?_
  refine vf (λx cO mB aW oU mj=>?_) ?_
  have bC:=bC.go oU
  refine zl cm rfl (bC.cells 0 _ rfl) ?_
  exact fv
  refine vf (λx cO mB aW oU mj=>?_) ?_
  refine gH bh bA rfl rfl ?_
  intro eY cM yk uK
  exact ff cM (⟨_,rfl,(yk.o mj).jx,(yk.o mj).out⟩)
  refine ve 1 (λx cO mB aW oU mj hJ hlen=>?_) ?_
  obtain⟨q0,bo⟩:=jS hlen
  subst bo
  intro v9 d9
  obtain⟨bb,e6,gz,_⟩:=d9
  subst e6
  obtain⟨cB,cD⟩:=hJ
  subst cB
  have Jl:=hS.ext cD
  refine se bh bA rfl rfl rfl rfl rfl rfl Jl.na gz om ?_
  intro v9 g9 eY dL aG fN
  obtain⟨G2,gk,jW⟩:=Jl.R6 dL aG fN
  exact fe _ (jW.in _) gk.db (⟨G2,g9,rfl,cD.any.trans aG,gk,(Fr.of cD sm).go jW⟩)
  refine vf (λ_ _ _ _ _ _=>dk rfl fv) ?_
  refine vf (λ_ _ _ _ _ _=>zf xC rfl fv) ?_
  exact trivial
  intro x pr B9 aW rr Gf hJ hlen
  obtain⟨q0,q1,bo⟩:=lP hlen
  subst bo
  intro v9 d9
  have cI:=cI.go rr;have eu:=eu.go rr;have fa:=fa.go rr;have dU:=dU.go rr
  change OW _ _ _ _ _ (aM (aN _ x _) (zZ 30 [_,_,_,_,_,_,_,_,_,_,_,_,_])) _
  obtain⟨G2,g9,cB,AE,gk,jW⟩:=hJ
  subst cB
  obtain⟨pw,px,Gl⟩:=kv gk.na
  have e8:q1=_:=Gl
  subst e8
  have bj:=bj.aO AE (λh=>(wX b h).2 rfl)
  have aI:=aI.aO AE (λh=>(wX _ h).1 sm)
  have wY:b∈G2:=gk.mem.2 (.inl rfl)
  have hR:=hR.go jW
  refine gY (o:=2) nO rfl rfl rfl bj rfl ?_
  intro oo jn bj dP
  have hS:=gk.aO jn sm
  have aI:=aI.aO jn (by simp;intro e;subst e;exact wW sm)
  have hR:=hR.aL jn (by simpa using wY);have cI:=cI.aL jn (by intro x hx;simp at hx;subst hx;simp[wY]);have eu:=eu.aL jn (by intro x hx;simp at hx;subst hx;simp[wY]);have dU:=dU.aL jn (by intro x hx;simp at hx;subst hx;simp[wY]);have fa:=fa.aL jn (by intro x hx;simp at hx;subst hx;simp[wY])
  refine ag<|aQ ?_
  obtain⟨ae,ce,e5⟩:=hS.ex.len
  subst e5
  have bj:aY oo b [vt,(.int .i64 (q.2.2:Int)),(.slice pw (N1++[nx]).length px),(.slice ae (dH X1).length ce)].toArray 151:=bj
  have Cj:fy ((w1.heap.size::E)++G2) oo:=hS.db
  have eV:b∈G2:=wY
  obtain⟨Je,wW,wX,s5⟩:=hS.apart
  have iG:=bj.lt
  apply Sm et (((w1.heap.size::E)++G2)) 13 (rA 43 9++[100009,52,53,100012]) (rA 43 9++[100009,52,53,100012]) [[],[0],[1],[2],[],[3],[],[3,6],[5,7],[4,8],[0],[10],[7,11]] [Iu.v _,Iu.v _,Iu.v _,Iu.w 0 ((.slice ae (dH X1).length ce)),Iu.v _,Iu.v _,Iu.p (fun(G:List Nat) (v:Value) (ww:World)=>∃bb,v= .slice (some ⟨bb,0,none⟩) 1 1∧fi G ww bb [str [],.slice none 0 0].toArray 66),Iu.e 1,Iu.d (fun(vs:List Value)=>TX (vs.getD 1 undef) ((dH X1).length*2)),Iu.u,Iu.v _,Iu.v _,Iu.u] [3,7] [fun(G:List Nat) (vs:List Value) (ww:World)=>G=((w1.heap.size::E)++G2)∧aY ww b [vt,(.int .i64 (q.2.2:Int)),(.slice pw (N1++[nx]).length px),(.slice ae (dH X1).length ce)].toArray 151∧ak [] oo ww,fun(G:List Nat) (vs:List Value) (ww:World)=>G=((w1.heap.size::E)++G2)∧aY ww b [vt,(.int .i64 (q.2.2:Int)),(.slice pw (N1++[nx]).length px),(.slice ae (dH X1).length ce)].toArray 151∧ak [] oo ww,fun(G:List Nat) (vs:List Value) (ww:World)=>J5 t5 (w1.heap.size::E) G2 oo b vt (.int .i64 (q.2.2:Int)) (.slice pw (N1++[nx]).length px) (.slice ae (dH X1).length ce) ge X1 q.2.1.av false false G (vs.getD 1 undef) ww] (fun(S:Nat->Bool) (G:List Nat) (vs:List Value) (ww:World)=>J5 t5 (w1.heap.size::E) G2 oo b vt (.int .i64 (q.2.2:Int)) (.slice pw (N1++[nx]).length px) (.slice ae (dH X1).length ce) ge X1 q.2.1.av (S 9) (S 12) G (vs.getD 1 undef) ww) de rfl Cj (by exact⟨λG v w G' w' ⟨bb,e,h⟩ k=>⟨bb,e,h.go k⟩,trivial⟩) (by exact⟨λG vs w w' ⟨h1,h2,h3⟩ k=>⟨h1,h2.ext k,h3.ext k⟩,λG vs w w' ⟨h1,h2,h3⟩ k=>⟨h1,h2.ext k,h3.ext k⟩,λG vs w w' h k=>h.ext k,trivial⟩) (by exact λS G vs w w' h k=>h.ext k) (⟨rfl,bj,ak.refl _ _⟩) (by exact λ_ _ _ h _=>h)
  refine uf (λx lS qd aW si qH=>?_) ?_
  refine zm ?_
  exact uv
  refine uf (λx lS qd aW si qH=>?_) ?_
  refine dk rfl ?_
  exact uv
  refine uf (λx lS qd aW si qH=>?_) ?_
  refine zf zz rfl ?_
  exact uv
  refine ue 0 (λx lS qd aW si qH hJ hlen=>?_) ?_
  have bo:=jR hlen
  subst bo
  obtain⟨cB,bj,cD⟩:=hJ
  refine zl cK rfl (bj.at rfl) ?_
  exact uW qd (Fr.refl _ _) qH (⟨cB,bj,cD⟩)
  refine uf (λx lS qd aW si qH=>?_) ?_
  have cI:=cI.go si
  refine zL bU aH rfl cI.all rfl ?_
  exact uv
  refine uf (λx lS qd aW si qH=>?_) ?_
  refine dZ cw rfl ?_
  exact uv
  refine uf (λx lS qd aW si qH=>?_) ?_
  refine gH cw aH rfl rfl ?_
  intro AO oV aeK aeL
  exact up oV (⟨_,rfl,aeK.o qH⟩)
  refine ue 1 (λx lS qd aW si qH hJ hlen=>?_) ?_
  obtain⟨q0,bo⟩:=jS hlen
  subst bo
  intro v6 d6
  obtain⟨bb,e6,gz⟩:=d6
  subst e6
  obtain⟨cB,bj,cD⟩:=hJ
  subst cB
  refine TZ cw aH rfl rfl rfl rfl rfl rfl (hS.ext cD).ex ‹_› (λx hx=>mR _ (hS.mem.2 (by simp[hx]))) gz.jx om ?_
  intro v9 g9 AO dL aG fN di fj
  exact uE _ di fj (⟨bj.aO aG (λh=>(s5 b h).2.1 rfl),fj,cD.any.trans (aG.mono (λx hx=>mK _ hx)),g9,rfl,dL,fN.imp id (λh=>⟨_,h,cD.size⟩)⟩)
  refine ud (λx lS qd aW S si qH hJ hlen=>?_) ?_
  obtain⟨q0,q1,bo⟩:=lP hlen
  subst bo
  obtain⟨bb,cap,e1,sf,rR,kz,hO,vm⟩:=J5.form hJ
  have e2:q1=_:=e1
  subst e2
  refine zi cw aH rfl rfl (by rw[iI];omega) ?_
  exact uD (ak.refl _ _) rfl
  refine uu (λx lS qd aW S si qH hJ Ck hlen=>?_) ?_
  obtain⟨q0,q1,bo⟩:=lP hlen
  subst bo
  have dU:=dU.go si
  have hJ:J5 t5 (w1.heap.size::E) G2 oo b vt (.int .i64 (q.2.2:Int)) (.slice pw (N1++[nx]).length px) (.slice ae (dH X1).length ce) ge X1 q.2.1.av (S 9) (S 12) qd q1 lS:=hJ
  rw[Ck] at hJ
  obtain⟨bb,cap,e1,sf,rR,kz,hO,vm⟩:=J5.form hJ
  subst e1
  refine sW (i:=(dH X1).length) (vs:=[str q.2.1.av.az,.slice a9 n9 c9]) (row:=q.2.1.av.enc) aH rfl rfl rfl rfl (Nat.zero_add _) hO ‹_› sf (by rw[iI,iI];simp) rfl (oZ _) dU.kQ ?_
  intro AO oV r7 ey
  rw[sY,iI] at ey
  exact uU qd (Fr.of oV (by simpa using sf)) ((λx hx=>lL (qH x hx) (ak.size oV))) (J5.fill hJ kz (by rintro rfl;rcases rR with h|h;(·exact(s5 _ h).2.1 rfl);(·omega)) rR vm oV (by have e3:(X1++[if false=true then q.2.1.av else aA.mk [] []]).set X1.length q.2.1.av=X1++[q.2.1.av]:=sm;rw[e3] at ey;exact ey))
  refine uf (λx lS qd aW si qH=>?_) ?_
  refine dk rfl ?_
  exact uv
  refine uf (λx lS qd aW si qH=>?_) ?_
  refine zf zz rfl ?_
  exact uv
  refine uu (λx lS qd aW S si qH hJ Ck hlen=>?_) ?_
  obtain⟨q0,q1,bo⟩:=lP hlen
  subst bo
  have hJ:J5 t5 (w1.heap.size::E) G2 oo b vt (.int .i64 (q.2.2:Int)) (.slice pw (N1++[nx]).length px) (.slice ae (dH X1).length ce) ge X1 q.2.1.av (S 9) (S 12) qd q1 lS:=hJ
  rw[Ck] at hJ
  obtain⟨bb,cap,e1,sf,rR,Gm,hO,vm⟩:=J5.form hJ
  subst e1
  have M9:=hJ.box
  refine gY (o:=3) E3 rfl rfl rfl M9 rfl ?_
  intro AO oV AJ r7
  exact uU qd (Fr.of oV (by rw[Gm];simp[eV])) ((λx hx=>lL (qH x hx) (ak.size oV))) (J5.field hJ oV AJ (λg9 _ fN hx=>by rcases fN with h|⟨y,h,hy⟩;(·rw[h] at hx;exact(s5 _ hx).2.1 rfl);(·rw[h] at hx;simp at hx;omega)) (by rw[Gm];simp[eV]))
  exact trivial
  intro x j5 kY aW iD lg hJ hlen
  obtain⟨q0,q1,bo⟩:=lP hlen
  subst bo
  intro v6 d6
  intro v9
  intro v12
  have eu:=eu.go iD;have fa:=fa.go iD
  change OW _ _ _ _ [] (aM (aN _ x _) (zZ 43 [_,_,_,_,_,_,_,_,_]++[(100009,_),(52,_),(53,_),(100012,_)])) _
  have hJ:J5 t5 (w1.heap.size::E) G2 oo b vt (.int .i64 (q.2.2:Int)) (.slice pw (N1++[nx]).length px) (.slice ae (dH X1).length ce) ge X1 q.2.1.av true true kY q1 j5:=hJ
  obtain⟨g9,kz,dL,fN⟩:=hJ.ex
  subst kz
  obtain⟨G3,yu,fX,T5⟩:=hS.AH dL hJ.aO fN
  have aI:=aI.aO hJ.aO (by intro hx;rcases mC.1 hx with h|h;(·exact wW (by simp[h]));(·exact(s5 _ h).1 sm))
  have hR:=hR.go fX
  have bj:=hJ.box
  have Ud:∀x,x∈(w1.heap.size::E)++G3->x∈ge.toList++(g9.toList++((w1.heap.size::E)++G2)):=(λx hx=>by rcases mA.1 hx with h|h;(·exact mR _ (mR _ (List.mem_append_left _ h)));(·exact T5 x h))
  have fa:=fa.jk Ud
  have eu:jb ((w1.heap.size::E)++G3) j5 _ _ _:=⟨eu.cells,eu.lt,λhx=>eu.out (Ud _ hx)⟩
  have aw:M5 t5 (w1.heap.size::E) G3 j5 b ai q.2.2 (N1++[nx]) (X1++[q.2.1.av]):=⟨_,_,_,_,_,bj,yu⟩
  refine ag<|zr<|zm<|zm<|zi (i:=3) cw aH rfl rfl ((show 3<4 from om))<|zL bU aH rfl eu.cells rfl<|aC (ih eb om bD.2.2 ai q.2.2 (N1++[nx]) (X1++[q.2.1.av]) (hB.sub ea.n om om so so) (w1.heap.size::E) G3 b _ j5 aw fa) ?_
  rintro Jm oq ⟨G4,⟨nD,qG⟩,di⟩
  obtain⟨a5,n5,c5,e5,_,_⟩:=dO nD
  subst e5
  have hR:=hR.go di
  have aI:=aI.aO di.aO (aw.nE sm)
  have aw:=qG
  refine dw aH rfl rfl rfl aI rfl ?_
  intro Cf vz aI dP
  have aw:=aw.aL vz sm;have nD:=nD.aL vz sm
  have hR:Fr F w G4 Cf:=⟨hR.aO.since vz (λx hx=>.inr (by simp at hx;omega)),hR.mem⟩
  refine ag<|aV ?_
  exact⟨[_],gQ bU aH rfl aI rfl,by rw[Jj];exact⟨G4,⟨nD.jk (λx hx=>mK _ hx),(by have e1:aX++(q.1++(nx,q.2.1)::(bu ai eb q.2.2).1).map Prod.fst=(N1++[nx])++(bu ai eb q.2.2).1.map Prod.fst:=(by rw[Ch];simp);have e2:exprs++(q.1++(nx,q.2.1)::(bu ai eb q.2.2).1).map (λp=>p.2.av)=(X1++[q.2.1.av])++(bu ai eb q.2.2).1.map (λp=>p.2.av):=(by rw[Ci];simp);show M5 t5 E G4 _ b ai _ (aX++(q.1++(nx,q.2.1)::(bu ai eb q.2.2).1).map Prod.fst) (exprs++(q.1++(nx,q.2.1)::(bu ai eb q.2.2).1).map (λp=>p.2.av));rw[e1,e2];exact aw.drop)⟩,hR⟩⟩
  have oX:e.head≠gO:=λhh=>h2 (jJ.trans hh)
  refine zr<|cY rfl rfl<|zA<|ag<|zc rfl (λh3=>?_) (λh3=>?_)
  obtain⟨nf,nx,tA,tB,eb,rfl⟩:=I0 bD (jJ.symm.trans h3)
  have wP:(Ex.fn nf nx tA tB eb).n=3+tA.n+tB.n+eb.n:=rfl
  have I7:(Ex.fn nf nx tA tB eb).av.au.length=6:=rfl
  obtain⟨b1,ga,gZ,ia,e1,bC,dh⟩:=fK bc (i:=5) om
  cases e1
  have dh:bT ((gb::w1.heap.size::E)++F) w6 _ eb.av:=dh
  have aR:∃X,X=nh ai eb n:=⟨_,rfl⟩
  obtain⟨X,hX⟩:=aR
  refine aQ ?_
  apply kf et (((gb::w1.heap.size::E)++F)) 8 (rA 61 8) (rA 61 8) [[],[0],[],[],[3],[4],[2,5],[1]] [Ie.v _,Ie.v _,Ie.v _,Ie.v _,Ie.v _,Ie.v _,Ie.e 0,Ie.v _] [6] [fun(G:List Nat) (vs:List Value) (ww:World)=>G=((gb::w1.heap.size::E)++F)∧kB E F w ww F b ai n aX exprs gb w1.heap.size (.slice (some ⟨gb,0,none⟩) (Ex.fn nf nx tA tB eb).av.au.length jf) (Ex.fn nf nx tA tB eb).av.au,fun(G:List Nat) (vs:List Value) (ww:World)=>∃G9,G=((gb::w1.heap.size::E)++G9)∧kB E G9 w ww F b ai (bu ai eb n).2.2 aX exprs gb w1.heap.size (.slice (some ⟨gb,0,none⟩) (Ex.fn nf nx tA tB eb).av.au.length jf) (Ex.fn nf nx tA tB eb).av.au∧bT ((gb::w1.heap.size::E)++G9) ww (vs.getD 0 undef) (nh ai eb n).av] de rfl bg.db (by exact trivial) (by exact⟨λG vs w w' ⟨h1,h2⟩ k=>⟨h1,h2.ext k⟩,λG vs w w' ⟨G9,h1,h2,h3⟩ k=>⟨G9,h1,h2.ext k,h3.ext k⟩,trivial⟩) (⟨rfl,bg⟩)
  refine vf (λ_ _ _ _ _ _=>zf cN rfl fv) ?_
  refine vf (λx w7 G7 aW iX jY=>?_) ?_
  have bQ:=bQ.go iX
  refine zl cK rfl (bQ.at rfl) ?_
  exact fv
  refine cT ?_
  refine cT ?_
  refine vf (λ_ _ _ _ _ _=>zi (i:=5) cw aH rfl rfl ((show 5<6 from om)) fv) ?_
  refine vf (λx w7 G7 aW iX jY=>?_) ?_
  have bC:=bC.go iX
  refine zL bU aH rfl bC.cells rfl ?_
  exact fv
  refine ve 0 (λx w7 G7 aW iX jY hJ hlen=>?_) ?_
  have bo:=jR hlen
  subst bo
  have dh:=dh.go iX
  obtain⟨cB,bg⟩:=hJ
  subst cB
  refine aC (Jf bD.2.2.2.2.2 (ih eb om bD.2.2.2.2.2) ai n aX exprs (hB.sub 0 om om sm sm) (gb::w1.heap.size::E) F b _ w7 bg.m dh) ?_
  rintro Ca w8 ⟨⟨dU,qI⟩,di⟩
  exact fe _ (di.in _) qI.bG.2.2 (⟨F,rfl,bg.call qI di,dU⟩)
  refine vf (λ_ _ _ _ _ _=>zi (i:=5) cw aH rfl rfl ((show 5<6 from om)) fv) ?_
  exact trivial
  intro x qJ Jn aW xd Jo hJ hlen
  obtain⟨q0,bo⟩:=jS hlen
  subst bo
  have bQ:=bQ.go xd
  change OW _ _ _ _ _ (aM (aN _ x _) (zZ 61 [_,_,_,_,_,_,_,_])) _
  obtain⟨G3,cB,bg,dU⟩:=hJ
  subst cB
  obtain⟨a7,n7,c7,e7,_,_⟩:=dO dU
  have e8:q0=_:=e7
  subst e8
  refine sW (i:=5) (vs:=[str (nh ai eb n).av.az,.slice a7 n7 c7]) (row:=(nh ai eb n).av.enc) aH rfl rfl rfl rfl (by first|rfl|exact Nat.zero_add _) bg.own bg.db sm (by rw[iI];omega) rfl (oZ _) dU.kQ ?_
  intro wQ jm r7 ey
  rw[sY] at ey
  have bQ:=bQ.aL jm bg.jC
  have bg:=bg.store jm ey
  refine ag<|zr<|zL bU aH rfl bQ.all rfl<|dw aH rfl rfl rfl bg.bx rfl ?_
  intro j4 eU dx mr
  obtain⟨r8,sd,vw⟩:=bg.fin eU
  refine ag<|aV ?_
  exact⟨[_],gQ bU aH rfl dx rfl,by show I9 ai E F b aX exprs w ([],.fn nf nx tA tB (nh ai eb n),(bu ai eb n).2.2) _ _;exact⟨G3,⟨r8,by rw[List.map_nil,List.append_nil,List.map_nil,List.append_nil];exact sd⟩,vw⟩⟩
  have rp:e.head≠iq:=λhh=>h3 (jJ.trans hh)
  refine zr<|cY rfl rfl<|zA<|ag<|zc rfl (λh4=>?_) (λh4=>?_)
  obtain⟨ea,eb,ec,rfl⟩:=TF bD (jJ.symm.trans h4)
  have wP:(Ex.ite ea eb ec).n=1+ea.n+eb.n+ec.n:=rfl
  have I7:(Ex.ite ea eb ec).av.au.length=4:=rfl
  have Jk:=T9 ai ea n
  have o9:=T8 ai ea n
  have aR:∃q,q=dW ai (bu ai ea n):=⟨_,rfl⟩
  obtain⟨q,hq⟩:=aR
  have Jj:bu ai (.ite ea eb ec) n=(q.1,.ite q.2.1 (nh ai eb q.2.2) (nh ai ec (bu ai eb q.2.2).2.2),(bu ai ec (bu ai eb q.2.2).2.2).2.2):=(by rw[hq];rfl)
  rw[<-hq] at Jk o9
  have TD:=iL ai eb q.2.2
  have vX:(ea.n+eb.n)*(2*(ai.length+2))=ea.n*(2*(ai.length+2))+eb.n*(2*(ai.length+2)):=Nat.add_mul _ _ _
  obtain⟨b1,ga,gZ,ia,e1,bC,dh⟩:=fK bc (i:=1) om
  cases e1
  have dh:bT ((gb::w1.heap.size::E)++F) w6 _ ea.av:=dh
  refine aQ ?_
  apply kf et (((gb::w1.heap.size::E)++F)) 8 (rA 72 8) (rA 72 8) [[],[0],[],[],[3],[4],[2,5],[1]] [Ie.v _,Ie.v _,Ie.v _,Ie.v _,Ie.v _,Ie.v _,Ie.e 0,Ie.v _] [6] [fun(G:List Nat) (vs:List Value) (ww:World)=>G=((gb::w1.heap.size::E)++F)∧kB E F w ww F b ai n aX exprs gb w1.heap.size (.slice (some ⟨gb,0,none⟩) (Ex.ite ea eb ec).av.au.length jf) (Ex.ite ea eb ec).av.au,fun(G:List Nat) (vs:List Value) (ww:World)=>∃G9,G=((gb::w1.heap.size::E)++G9)∧kB E G9 w ww F b ai q.2.2 (aX++q.1.map Prod.fst) (exprs++q.1.map λp=>p.2.av) gb w1.heap.size (.slice (some ⟨gb,0,none⟩) (Ex.ite ea eb ec).av.au.length jf) (Ex.ite ea eb ec).av.au∧bT ((gb::w1.heap.size::E)++G9) ww (vs.getD 0 undef) q.2.1.av] de rfl bg.db (by exact trivial) (by exact⟨λG vs w w' ⟨h1,h2⟩ k=>⟨h1,h2.ext k⟩,λG vs w w' ⟨G9,h1,h2,h3⟩ k=>⟨G9,h1,h2.ext k,h3.ext k⟩,trivial⟩) (⟨rfl,bg⟩)
  refine vf (λ_ _ _ _ _ _=>zf cN rfl fv) ?_
  refine vf (λx w7 G7 aW iX jY=>?_) ?_
  have bQ:=bQ.go iX
  refine zl cK rfl (bQ.at rfl) ?_
  exact fv
  refine cT ?_
  refine cT ?_
  refine vf (λ_ _ _ _ _ _=>zi (i:=1) cw aH rfl rfl ((show 1<4 from om)) fv) ?_
  refine vf (λx w7 G7 aW iX jY=>?_) ?_
  have bC:=bC.go iX
  refine zL bU aH rfl bC.cells rfl ?_
  exact fv
  refine ve 0 (λx w7 G7 aW iX jY hJ hlen=>?_) ?_
  have bo:=jR hlen
  subst bo
  have dh:=dh.go iX
  obtain⟨cB,bg⟩:=hJ
  subst cB
  refine aC (T1 bD.1 (ih ea om bD.1) ai n aX exprs (hB.sub 0 om om sm sm) (gb::w1.heap.size::E) F b _ w7 bg.m dh) ?_
  rintro Ca w8 ⟨G9,⟨dU,qI⟩,di⟩
  rw[<-hq] at dU qI
  exact fe _ (di.in _) qI.bG.2.2 (⟨G9,rfl,bg.call qI di,dU⟩)
  refine vf (λ_ _ _ _ _ _=>zi (i:=1) cw aH rfl rfl ((show 1<4 from om)) fv) ?_
  exact trivial
  intro x qJ Jn aW xd Jo hJ hlen
  obtain⟨q0,bo⟩:=jS hlen
  subst bo
  have bc:=bc.go xd;have bQ:=bQ.go xd;have bC:=bC.go xd;have dh:=dh.go xd
  change OW _ _ _ _ _ (aM (aN _ x _) (zZ 72 [_,_,_,_,_,_,_,_])) _
  obtain⟨G3,cB,bg,dU⟩:=hJ
  subst cB
  obtain⟨a7,n7,c7,e7,_,_⟩:=dO dU
  have e8:q0=_:=e7
  subst e8
  refine sW (i:=1) (vs:=[str q.2.1.av.az,.slice a7 n7 c7]) (row:=q.2.1.av.enc) aH rfl rfl rfl rfl (by first|rfl|exact Nat.zero_add _) bg.own bg.db sm (by rw[iI];omega) rfl (oZ _) dU.kQ ?_
  intro wQ jm r7 ey
  rw[sY] at ey
  have bc:=bc.aL jm bg.jC;have bQ:=bQ.aL jm bg.jC
  have bg:=bg.store jm ey
  refine ag<|aQ ?_
  obtain⟨b2,nu,jd,je,e2,bC,dh⟩:=fK bc (i:=2) om
  cases e2
  have dh:bT ((gb::w1.heap.size::E)++G3) wQ _ eb.av:=dh
  apply kf et (((gb::w1.heap.size::E)++G3)) 8 (rA 80 8) (rA 80 8) [[],[0],[],[],[3],[4],[2,5],[1]] [Ie.v _,Ie.v _,Ie.v _,Ie.v _,Ie.v _,Ie.v _,Ie.e 0,Ie.v _] [6] [fun(G:List Nat) (vs:List Value) (ww:World)=>G=((gb::w1.heap.size::E)++G3)∧kB E G3 w ww F b ai q.2.2 (aX++q.1.map Prod.fst) (exprs++q.1.map λp=>p.2.av) gb w1.heap.size (.slice (some ⟨gb,0,none⟩) (Ex.ite ea eb ec).av.au.length jf) ((Ex.ite ea eb ec).av.au.set 1 q.2.1.av),fun(G:List Nat) (vs:List Value) (ww:World)=>∃G9,G=((gb::w1.heap.size::E)++G9)∧kB E G9 w ww F b ai (bu ai eb q.2.2).2.2 (aX++q.1.map Prod.fst) (exprs++q.1.map λp=>p.2.av) gb w1.heap.size (.slice (some ⟨gb,0,none⟩) (Ex.ite ea eb ec).av.au.length jf) ((Ex.ite ea eb ec).av.au.set 1 q.2.1.av)∧bT ((gb::w1.heap.size::E)++G9) ww (vs.getD 0 undef) (nh ai eb q.2.2).av] de rfl bg.db (by exact trivial) (by exact⟨λG vs w w' ⟨h1,h2⟩ k=>⟨h1,h2.ext k⟩,λG vs w w' ⟨G9,h1,h2,h3⟩ k=>⟨G9,h1,h2.ext k,h3.ext k⟩,trivial⟩) (⟨rfl,bg⟩)
  refine vf (λ_ _ _ _ _ _=>zf cN rfl fv) ?_
  refine vf (λx j4 D7 aW wT Gj=>?_) ?_
  have bQ:=bQ.go wT
  refine zl cK rfl (bQ.at rfl) ?_
  exact fv
  refine cT ?_
  refine cT ?_
  refine vf (λ_ _ _ _ _ _=>zi (i:=2) cw aH rfl rfl ((show 2<4 from om)) fv) ?_
  refine vf (λx j4 D7 aW wT Gj=>?_) ?_
  have bC:=bC.go wT
  refine zL bU aH rfl bC.cells rfl ?_
  exact fv
  refine ve 0 (λx j4 D7 aW wT Gj hJ hlen=>?_) ?_
  have bo:=jR hlen
  subst bo
  have dh:=dh.go wT
  obtain⟨cB,bg⟩:=hJ
  subst cB
  refine aC (Jf bD.2.1 (ih eb om bD.2.1) ai q.2.2 (aX++q.1.map Prod.fst) (exprs++q.1.map λp=>p.2.av) (hB.sub ea.n om om sm sm) (gb::w1.heap.size::E) G3 b _ j4 bg.m dh) ?_
  rintro Ca pr ⟨⟨dU,qI⟩,di⟩
  exact fe _ (di.in _) qI.bG.2.2 (⟨G3,rfl,bg.call qI di,dU⟩)
  refine vf (λ_ _ _ _ _ _=>zi (i:=2) cw aH rfl rfl ((show 2<4 from om)) fv) ?_
  exact trivial
  intro x w87 G87 aW Jp amh hJ hlen
  obtain⟨q0,bo⟩:=jS hlen
  subst bo
  have bc:=bc.go Jp;have bQ:=bQ.go Jp;have bC:=bC.go Jp;have dh:=dh.go Jp
  change OW _ _ _ _ _ (aM (aN _ x _) (zZ 80 [_,_,_,_,_,_,_,_])) _
  obtain⟨G3,cB,bg,dU⟩:=hJ
  subst cB
  obtain⟨a7,n7,c7,e7,_,_⟩:=dO dU
  have e8:q0=_:=e7
  subst e8
  refine sW (i:=2) (vs:=[str (nh ai eb q.2.2).av.az,.slice a7 n7 c7]) (row:=(nh ai eb q.2.2).av.enc) aH rfl rfl rfl rfl (by first|rfl|exact Nat.zero_add _) bg.own bg.db sm (by rw[iI,List.length_set];omega) rfl (oZ _) dU.kQ ?_
  intro Gh AP r7 ey
  rw[sY] at ey
  have bc:=bc.aL AP bg.jC;have bQ:=bQ.aL AP bg.jC
  have bg:=bg.store AP ey
  refine ag<|aQ ?_
  obtain⟨b3,B8,pZ,p3,e3,bC,dh⟩:=fK bc (i:=3) om
  cases e3
  have dh:bT ((gb::w1.heap.size::E)++G3) Gh _ ec.av:=dh
  apply kf et (((gb::w1.heap.size::E)++G3)) 8 (rA 88 8) (rA 88 8) [[],[0],[],[],[3],[4],[2,5],[1]] [Ie.v _,Ie.v _,Ie.v _,Ie.v _,Ie.v _,Ie.v _,Ie.e 0,Ie.v _] [6] [fun(G:List Nat) (vs:List Value) (ww:World)=>G=((gb::w1.heap.size::E)++G3)∧kB E G3 w ww F b ai (bu ai eb q.2.2).2.2 (aX++q.1.map Prod.fst) (exprs++q.1.map λp=>p.2.av) gb w1.heap.size (.slice (some ⟨gb,0,none⟩) (Ex.ite ea eb ec).av.au.length jf) (((Ex.ite ea eb ec).av.au.set 1 q.2.1.av).set 2 (nh ai eb q.2.2).av),fun(G:List Nat) (vs:List Value) (ww:World)=>∃G9,G=((gb::w1.heap.size::E)++G9)∧kB E G9 w ww F b ai (bu ai ec (bu ai eb q.2.2).2.2).2.2 (aX++q.1.map Prod.fst) (exprs++q.1.map λp=>p.2.av) gb w1.heap.size (.slice (some ⟨gb,0,none⟩) (Ex.ite ea eb ec).av.au.length jf) (((Ex.ite ea eb ec).av.au.set 1 q.2.1.av).set 2 (nh ai eb q.2.2).av)∧bT ((gb::w1.heap.size::E)++G9) ww (vs.getD 0 undef) (nh ai ec (bu ai eb q.2.2).2.2).av] de rfl bg.db (by exact trivial) (by exact⟨λG vs w w' ⟨h1,h2⟩ k=>⟨h1,h2.ext k⟩,λG vs w w' ⟨G9,h1,h2,h3⟩ k=>⟨G9,h1,h2.ext k,h3.ext k⟩,trivial⟩) (⟨rfl,bg⟩)
  refine vf (λ_ _ _ _ _ _=>zf cN rfl fv) ?_
  refine vf (λx sZ Ue aW Gs Uf=>?_) ?_
  have bQ:=bQ.go Gs
  refine zl cK rfl (bQ.at rfl) ?_
  exact fv
  refine cT ?_
  refine cT ?_
  refine vf (λ_ _ _ _ _ _=>zi (i:=3) cw aH rfl rfl ((show 3<4 from om)) fv) ?_
  refine vf (λx sZ Ue aW Gs Uf=>?_) ?_
  have bC:=bC.go Gs
  refine zL bU aH rfl bC.cells rfl ?_
  exact fv
  refine ve 0 (λx sZ Ue aW Gs Uf hJ hlen=>?_) ?_
  have bo:=jR hlen
  subst bo
  have dh:=dh.go Gs
  obtain⟨cB,bg⟩:=hJ
  subst cB
  refine aC (Jf bD.2.2 (ih ec om bD.2.2) ai (bu ai eb q.2.2).2.2 (aX++q.1.map Prod.fst) (exprs++q.1.map λp=>p.2.av) (hB.sub (ea.n+eb.n) om om sm sm) (gb::w1.heap.size::E) G3 b _ sZ bg.m dh) ?_
  rintro Ca j5 ⟨⟨dU,qI⟩,di⟩
  exact fe _ (di.in _) qI.bG.2.2 (⟨G3,rfl,bg.call qI di,dU⟩)
  refine vf (λ_ _ _ _ _ _=>zi (i:=3) cw aH rfl rfl ((show 3<4 from om)) fv) ?_
  exact trivial
  intro x ami amj aW aeN amk hJ hlen
  obtain⟨q0,bo⟩:=jS hlen
  subst bo
  have bQ:=bQ.go aeN
  change OW _ _ _ _ _ (aM (aN _ x _) (zZ 88 [_,_,_,_,_,_,_,_])) _
  obtain⟨G3,cB,bg,dU⟩:=hJ
  subst cB
  obtain⟨a7,n7,c7,e7,_,_⟩:=dO dU
  have e8:q0=_:=e7
  subst e8
  refine sW (i:=3) (vs:=[str (nh ai ec (bu ai eb q.2.2).2.2).av.az,.slice a7 n7 c7]) (row:=(nh ai ec (bu ai eb q.2.2).2.2).av.enc) aH rfl rfl rfl rfl (by first|rfl|exact Nat.zero_add _) bg.own bg.db sm (by rw[iI,List.length_set,List.length_set];omega) rfl (oZ _) dU.kQ ?_
  intro I5 Ug r7 ey
  rw[sY] at ey
  have bQ:=bQ.aL Ug bg.jC
  have bg:=bg.store Ug ey
  refine ag<|zr<|zL bU aH rfl bQ.all rfl<|dw aH rfl rfl rfl bg.bx rfl ?_
  intro MW Cd dx mr
  obtain⟨r8,sd,vw⟩:=bg.fin Cd
  refine ag<|aV ?_
  exact⟨[_],gQ bU aH rfl dx rfl,by rw[Jj];exact⟨G3,⟨r8,sd⟩,vw⟩⟩
  have nk:e.head≠cE:=λhh=>h4 (jJ.trans hh)
  have Eb:=Ub fx oX rp
  have Bi:=aez ai n fx oX rp nk
  have hpm:=aeA fx oX rp
  refine bz<|aQ<|zr<|zA<|ag<|cS ?_
  refine fY (λk:Nat=>[(0,.pointer (some ⟨b,0,none⟩)),(4,.pointer (some ⟨w1.heap.size,0,none⟩)),(5,.slice (some ⟨b0,AB,none⟩) e.av.au.length c),(6,.pointer (some ⟨w4.heap.size,0,none⟩)),(8,.int .i64 ((e.from+k:Nat):Int))]) (λk ww=>∃G2,Fr ((gb::w1.heap.size::E)++F) w6 ((gb::w1.heap.size::E)++G2) ww∧kB E G2 w ww F b ai (gW ai e n k).2.2 (aX++(gW ai e n k).1.map Prod.fst) (exprs++(gW ai e n k).1.map λp=>p.2.av) gb w1.heap.size (.slice (some ⟨gb,0,none⟩) e.av.au.length jf) (mi [cg e.head] (gW ai e n k).2.1 e)∧k<=e.kids.length) (λk=>e.kids.length-k) (0) (⟨rfl,rfl,rfl,rfl,by rw[Eb];rfl⟩) (⟨F,Fr.refl _ _,by rw[show mi [cg e.head] (gW ai e n 0).2.1 e=e.av.au from hpm.symm];simpa[gW] using bg,om⟩) ?_
  intro gg w7 e7 hI
  obtain⟨G2,pt,bg,hk⟩:=hI
  have bc:=bc.go pt;have bQ:=bQ.go pt
  refine aQ<|zr<|zm<|zm<|dZ cw rfl<|fA rfl rfl rfl<|ag<|zc rfl (λh5=>?_) (λh5=>?_)
  have iw:gg<e.kids.length:=om
  have sP:=wM gg iw
  have gR:=Nh ai e n gg
  obtain⟨b1,ga,gZ,ia,e1,bC,dh⟩:=fK bc (i:=e.from+gg) om
  cases e1
  have dh:=dh.eq sP
  have tW:=Fm bD iw
  have Bj:=yl iw
  have hkN:=B4 e (gg+1)
  have lE:=aey ai e n hB iw
  refine bz<|aQ<|cS ?_
  apply kf et (((gb::w1.heap.size::E)++G2)) 10 (rA 103 10) (rA 103 10) [[],[0],[],[],[],[],[4,5],[6],[3,7],[1,2]] [Ie.v _,Ie.v _,Ie.v _,Ie.v _,Ie.v _,Ie.v _,Ie.v _,Ie.v _,Ie.e 0,Ie.v _] [8] [fun(G:List Nat) (vs:List Value) (ww:World)=>G=((gb::w1.heap.size::E)++G2)∧kB E G2 w ww F b ai (gW ai e n gg).2.2 (aX++(gW ai e n gg).1.map Prod.fst) (exprs++(gW ai e n gg).1.map λp=>p.2.av) gb w1.heap.size (.slice (some ⟨gb,0,none⟩) e.av.au.length jf) (mi [cg e.head] (gW ai e n gg).2.1 e),fun(G:List Nat) (vs:List Value) (ww:World)=>∃G9,G=((gb::w1.heap.size::E)++G9)∧kB E G9 w ww F b ai (gW ai e n (gg+1)).2.2 (aX++(gW ai e n (gg+1)).1.map Prod.fst) (exprs++(gW ai e n (gg+1)).1.map λp=>p.2.av) gb w1.heap.size (.slice (some ⟨gb,0,none⟩) e.av.au.length jf) (mi [cg e.head] (gW ai e n gg).2.1 e)∧bT ((gb::w1.heap.size::E)++G9) ww (vs.getD 0 undef) (dW ai (bu ai (fL e gg) (gW ai e n gg).2.2)).2.1.av] de rfl bg.db (by exact trivial) (by exact⟨λG vs w w' ⟨h1,h2⟩ k=>⟨h1,h2.ext k⟩,λG vs w w' ⟨G9,h1,h2,h3⟩ k=>⟨G9,h1,h2.ext k,h3.ext k⟩,trivial⟩) (⟨rfl,bg⟩)
  refine vf (λ_ _ _ _ _ _=>zf cN rfl fv) ?_
  refine vf (λx w8 G8 aW Gt Uh=>?_) ?_
  have bQ:=bQ.go Gt
  refine zl cK rfl (bQ.at rfl) ?_
  exact fv
  refine cT ?_
  refine cT ?_
  refine cT ?_
  refine cT ?_
  refine vf (λ_ _ _ _ _ _=>zi cw aH rfl rfl om fv) ?_
  refine vf (λx w8 G8 aW Gt Uh=>?_) ?_
  have bC:=bC.go Gt
  refine zL bU aH rfl bC.cells rfl ?_
  exact fv
  refine ve 0 (λx w8 G8 aW Gt Uh hJ hlen=>?_) ?_
  have bo:=jR hlen
  subst bo
  have dh:=dh.go Gt
  obtain⟨cB,bg⟩:=hJ
  subst cB
  refine aC (T1 tW.1 (ih (fL e gg) om tW.1) ai (gW ai e n gg).2.2 (aX++(gW ai e n gg).1.map Prod.fst) (exprs++(gW ai e n gg).1.map λp=>p.2.av) lE (gb::w1.heap.size::E) G2 b _ w8 bg.m dh) ?_
  rintro Ca w9 ⟨G9,⟨dU,qI⟩,di⟩
  rw[List.append_assoc,List.append_assoc,<-List.map_append,<-List.map_append] at qI
  exact fe _ (di.in _) qI.bG.2.2 (⟨G9,rfl,bg.call qI di,dU⟩)
  refine vf (λ_ _ _ _ _ _=>zi cw aH rfl rfl om fv) ?_
  exact trivial
  intro x wQ G47 aW aeQ amm hJ hlen
  obtain⟨q0,bo⟩:=jS hlen
  subst bo
  have pt:=pt.go aeQ
  change OW _ _ _ _ _ (aM (aN _ x _) (zZ 103 [_,_,_,_,_,_,_,_,_,_])) _
  obtain⟨G3,cB,bg,dU⟩:=hJ
  subst cB
  obtain⟨a7,n7,c7,e7,_,_⟩:=dO dU
  have e8:q0=_:=e7
  subst e8
  have ze:((mi [cg e.head] (gW ai e n gg).2.1 e)).set (e.from+gg) (dW ai (bu ai (fL e gg) (gW ai e n gg).2.2)).2.1.av=(mi [cg e.head] (gW ai e n (gg+1)).2.1 e):=(by have:=TH (pre:=[cg e.head]) (acc:=(gW ai e n gg).2.1) (e:=e) (y:=(dW ai (bu ai (fL e gg) (gW ai e n gg).2.2)).2.1) om;rw[show[cg e.head].length=e.from from Eb.symm,gR] at this;exact this)
  refine sW (i:=e.from+gg) (vs:=[str (dW ai (bu ai (fL e gg) (gW ai e n gg).2.2)).2.1.av.az,.slice a7 n7 c7]) (row:=(dW ai (bu ai (fL e gg) (gW ai e n gg).2.2)).2.1.av.enc) aH rfl rfl rfl rfl (by first|rfl|exact Nat.zero_add _) bg.own bg.db sm (by rw[iI,TJ om];simp;omega) rfl (oZ _) dU.kQ ?_
  intro j4 eU r7 ey
  rw[sY,ze] at ey
  have pt:=pt.aL eU bg.jC
  have bg:=bg.store eU ey
  refine ag<|df<|zm<|eI rfl rfl rfl (wrap_i64 _ om om)<|zA<|ag ?_
  exact⟨gg+1,⟨rfl,rfl,rfl,rfl,cA (Value.int .i64) om⟩,⟨G3,pt,bg,om⟩,om⟩
  have gJ:gg=e.kids.length:=by omega
  subst gJ
  have gR:=Nh ai e n e.kids.length
  refine gD<|gF rfl<|zr<|zL bU aH rfl bQ.all rfl<|dw aH rfl rfl rfl bg.bx rfl ?_
  intro w8 cv dx mr
  obtain⟨r8,sd,vw⟩:=bg.fin cv
  rw[TK gR,<-Bi.2.1] at r8
  rw[<-Bi.1,<-Bi.2.2] at sd
  refine ag<|aV ?_
  exact⟨[_],gQ bU aH rfl dx rfl,⟨G2,⟨r8,sd⟩,vw⟩⟩
def Ec (s:aj):(cg s).size=1+s.length:=by simp[cg,aA.size,aA.size.sizes]
def aeR {h:aj} (hk:gS h=true):h.length<=5:=by
 simp only[gS,oE,dE] at hk
 rcases hk with rfl|rfl<;>decide
def aeS {h:aj} (hk:iB h=true):h.length<=5:=by
 simp only[iB,oE,dE] at hk
 rcases hk with(((rfl|rfl)|rfl)|rfl)|rfl<;>decide
def Ex.size:∀{e:Ex},e.ok->e.av.size<=30*e.n
 | .at s,h=>by
  have:s.length<=4:=oP (e:=.at s) h
  show(cg s).size<=_
  rw[Ec];simp only[Ex.n];omega
 | .un hd a,h=>by
  have:=aeR h.1
  have:=Ex.size h.2
  show 1+0+aA.size.sizes [cg hd,a.av]<=_
  simp only[aA.size.sizes,Ec,Ex.n];omega
 | .bi hd a b,h=>by
  have:=aeS h.1
  have:=Ex.size h.2.1
  have:=Ex.size h.2.2
  show 1+0+aA.size.sizes [cg hd,a.av,b.av]<=_
  simp only[aA.size.sizes,Ec,Ex.n];omega
 | .ite a b c,h=>by
  have:=Ex.size h.1
  have:=Ex.size h.2.1
  have:=Ex.size h.2.2
  have:cE.length=2:=rfl
  show 1+0+aA.size.sizes [cg cE,a.av,b.av,c.av]<=_
  simp only[aA.size.sizes,Ec,Ex.n];omega
 | .lt x a b,h=>by
  have:=DN h.1
  have:=Ex.size h.2.1
  have:=Ex.size h.2.2
  have:gO.length=3:=rfl
  show 1+0+aA.size.sizes [cg gO,cg x,a.av,b.av]<=_
  simp only[aA.size.sizes,Ec,Ex.n];omega
 | .fn f x A B e,h=>by
  have:=DN h.1
  have:=DN h.2.1
  have:=Ex.size h.2.2.2.2.2
  have:=A.size
  have:=B.size
  have:iq.length=3:=rfl
  show 1+0+aA.size.sizes [cg iq,cg f,cg x,A.av,B.av,e.av]<=_
  simp only[aA.size.sizes,Ec,Ex.n];omega
def Ex.aeT {e:Ex} (h:e.ok):e.av.text.length<=60*e.n:=by
 have h1:=Lq e.av _ (lR _) (Ex.wf h).wf
 have h2:=Ex.size h
 omega
def aeU {e q:Ex} (hq:nX e=some q):q.n<=4*e.n:=by
 unfold nX at hq
 cases hp:qy e with
 |none=>rw[hp] at hq;cases hq
 |some p=>
  have fR:p.n=e.n:=by
   unfold qy at hp
   split at hp
   ·cases hp;exact uR _ e [] 0
   ·cases hp
  rw[hp,bS] at hq
  split at hq
  ·cases hq
   have:=uS (lM p.av []) p 0
   show(nest _ _).n<=_
   rw[LL];omega
  ·cases hq
def aeV {e p:Ex} (hp:qy e=some p):p.n=e.n:=by
 unfold qy at hp
 split at hp
 ·cases hp;exact uR _ e [] 0
 ·cases hp
def aeW {L:List Nat} {w:World} {b T:Nat} (h:aY w b #[] T):eE L w T 2 (.slice (some ⟨b,0,none⟩) 0 0) (some b) []:=
 ⟨⟨[],LW h,trivial⟩,sm⟩
def aeX (ee:Ex) (hn:ee.n<=120) (bD:ee.ok) (v:Value) (w:World) (hv:bT [] w v ee.av):
  ck Tryz.prog 105 [v] w λr w'=>(∃tv T,r= .tuple #[tv,.bool (nX ee).isSome]∧bT [] w' tv T∧∀f,nX ee=some f->T=f.av)∧ak [] w w':=by
 have dK:=hv
 obtain⟨a,np,c,rfl,fJ,bc⟩:=dO hv
 have hK:=ak.refl [] w
 refine lH [.cell 2 66,.tmp 3] 32 Tryz.func105 rfl XK rfl rfl rfl ?_
 refine zr<|fG rfl ?_
 intro w1 aK aT eh
 have hK:=hK.ext aK
 refine eD aH rfl rfl rfl ?_
 intro w2 aq aZ eO
 have hK:=hK.grow;have hK:=hK.ext aq;have aT:=aT.grow;have aT:=aT.ext aq
 refine zA<|ag<|zr<|zL bU aH rfl aT.all rfl<|aC (ad4 ee hn bD _ [w1.heap.size] w2 (by have:=aZ.lt;simpa using this) (bT.ext (bT.fresh dK (by intro x hx;simp at hx;right;omega)) hK)) ?_
 rintro v3 w3 ⟨er,aJ⟩
 have gd:=aJ.size
 have hK:=hK.ext aJ;have aT:=aT.ext aJ;have aZ:=aZ.ext aJ
 obtain⟨tv,rfl,hT⟩:=er
 have aR:∃p,p=(cj (cG ee [] []) ee [] 0).1:=⟨_,rfl⟩
 obtain⟨p,mX⟩:=aR
 rw[<-mX] at hT
 obtain⟨a9,n9,c9,e9,_,_⟩:=dO hT
 subst e9
 have gm:=ak.refl [] w3
 have kA:=hT
 refine zm<|zx (i:=0) rfl rfl<|zx (i:=1) rfl rfl<|eD aH rfl rfl rfl ?_
 intro w4 aF aI iU
 have hK:=hK.grow;have hK:=hK.ext aF;have aT:=aT.grow;have aT:=aT.ext aF;have aZ:=aZ.grow;have aZ:=aZ.ext aF;have gm:=gm.grow;have gm:=gm.ext aF
 refine dw aH rfl rfl rfl aI rfl ?_
 intro w5 aU aI jr
 have hK:=hK.aL aU sx;have aT:=aT.aL aU sx;have aZ:=aZ.aL aU sx;have gm:=gm.aL aU sx
 refine zA<|ag<|aQ<|zr<|zm<|eM rfl<|ag<|zc rfl (λh1=>?_) (λh1=>?_)
 have hx:qy ee=none:=(by simpa using h1)
 have Ed:nX ee=none:=by unfold nX;rw[hx];rfl
 refine zr<|zL bU aH rfl aT.all rfl<|dw aH rfl rfl rfl aZ rfl ?_
 intro w6 bF aZ lI
 have hK:=hK.aL bF sx
 refine zA<|ag<|aV ?_
 exact⟨[_,_],⟨gQ bU aH rfl aZ rfl,rfl⟩,⟨_,_,by rw[Ed];rfl,bT.ext dK hK,λf hf=>by rw[Ed] at hf;cases hf⟩,hK⟩
 have hp:qy ee=some p:=(by rw[mX];unfold qy at h1⊢;split;(·rfl);(·rename_i h9;rw[iN h9] at h1;exact absurd h1 sm))
 have Gu:=LM bD hp
 have fR:=aeV hp
 have FT:=Ex.size Gu
 have TT:=Ex.fP Gu
 have BC:=RO p.av []
 rw[lN,Nat.zero_add,TT] at BC
 have aR:∃ai,ai=lM p.av []:=⟨_,rfl⟩
 obtain⟨ai,Nk⟩:=aR
 refine bz<|zr<|zL bU aH rfl aI.all rfl<|gP bh bA ?_
 intro w6 bF MY lI
 have hK:=hK.ext bF;have aT:=aT.ext bF;have aZ:=aZ.ext bF;have gm:=gm.ext bF;have aI:=aI.ext bF
 refine aC (ad3 p.av.size p.av (lR _) om (Ex.wf Gu).wf [] so _ _ (some _) w6 (bT.ext (bT.fresh kA (by intro x hx;simp at hx;right;omega)) gm) MY.lr) ?_
 rintro wZ w7 ⟨g18,xe,Cm⟩
 have Nl:=Cm.aO.size
 have Nn:=xe.lt
 rw[<-Nk] at xe BC
 obtain⟨a18,c18,vB⟩:=kv xe
 subst vB
 have hK:=hK.since Cm.aO (λx hx=>.inr (by have:=gm.size;simp at hx;omega))
 have gm:=gm.since Cm.aO (λx hx=>.inr (by simp at hx;omega))
 have aT:=aT.aO Cm.aO so
 have aZ:=aZ.aO Cm.aO so
 have aI:=aI.aO Cm.aO so
 have amp:=gm.size
 have amq:=aZ.lt
 refine gP bh bA ?_
 intro w8 cv Cn mr
 have hK:=hK.ext cv;have aZ:=aZ.ext cv;have gm:=gm.ext cv;have aI:=aI.ext cv;have xe:=xe.ext cv
 refine gP cw aH ?_
 intro w9 aG s9 dP
 have hK:=hK.ext aG;have aZ:=aZ.ext aG;have gm:=gm.ext aG;have aI:=aI.ext aG;have xe:=xe.ext aG;have Cn:=Cn.ext aG
 refine j7 (ZU _ _ _ _ _ _ _ _ _ _ _) rfl rfl<|fG rfl ?_
 intro cO bV tZ Bw
 have hK:=hK.ext bV;have aZ:=aZ.ext bV;have gm:=gm.ext bV;have aI:=aI.ext bV;have xe:=xe.ext bV;have Cn:=Cn.ext bV;have s9:=s9.ext bV
 refine zA<|ag<|zr<|zm<|zL bU aH rfl aI.all rfl ?_
 have aeY:=Cn.lt
 have Ui:=s9.lt
 have zF:=gm.size
 have ph:∀x,x∈[w1.heap.size]++[w9.heap.size,w7.heap.size,w8.heap.size]->x∉g18.toList:=(λx hx fH=>by have h1:=Nn x fH;have h2:=Cm.mem x fH;simp at hx h2;omega)
 have amr:=tZ.lt
 have hmu:p.n*(2*(ai.length+2))<=120*(2*122):=Nat.mul_le_mul om om
 have hM:M5 t5 [w1.heap.size] [w9.heap.size,w7.heap.size,w8.heap.size] cO w9.heap.size ai 0 [] []:=⟨_,_,_,some _,some _,tZ,⟨xe.rep (λx hx fH=>ph x fH (by simp[hx])),Cn.lr,aeW s9,rfl,by simp;omega,by intro x hx;simp at hx;omega⟩⟩
 refine aC (Jf Gu (aeB p.n p (lR _) Gu) ai 0 [] [] ⟨by omega,by simp;omega,by simp;omega,om⟩ [w1.heap.size] _ w9.heap.size _ cO hM (bT.ext (bT.fresh kA (by intro x hx;simp at hx;rcases hx with h|h;(·exact .inl (by simp[h]));(·right;omega))) gm)) ?_
 rintro v25 eY ⟨⟨tb,ae0⟩,No⟩
 have aR:∃q,q=nh ai p 0:=⟨_,rfl⟩
 obtain⟨q,hq⟩:=aR
 rw[<-hq] at tb
 obtain⟨nG,nH,nI,Np,_,_⟩:=dO tb
 subst Np
 have ae1:=No.aO.size
 have hK:=hK.since No.aO (λx hx=>.inr (by have:=hK.size;simp at hx;omega))
 have aZ:=aZ.aO No.aO so
 obtain⟨vt,vn,vx,gn,ge,bj,_⟩:=ae0.open
 have bj:aY eY w9.heap.size [vt,.int .i64 ((bu ai p 0).2.2:Int),vn,vx].toArray 151:=bj
 have tb:=tb.jk (L':=[w1.heap.size]) sm
 refine eD aH rfl rfl rfl ?_
 intro gj dG cI Nq
 have hK:=hK.grow;have hK:=hK.ext dG;have aZ:=aZ.grow;have aZ:=aZ.ext dG;have tb:=tb.grow;have tb:=tb.ext dG;have bj:=bj.grow;have bj:=bj.ext dG
 refine dw aH rfl rfl rfl cI rfl ?_
 intro jF fM cI Gk
 have hK:=hK.aL fM sx;have aZ:=aZ.aL fM sx;have tb:=tb.aL fM sx;have bj:=bj.aL fM sx
 refine ag<|aQ ?_
 refine ql et (cR w1.heap.size ([str q.av.az,.slice nG nH nI]) 66) 8 (rA 26 6++[100006,3]) (rA 26 6++[100006,3]) [[],[],[1],[2],[3],[4],[0],[5]] [λv _=>v=(.agg #[str q.av.az,.slice nG nH nI]),λv _=>v=(.pointer (some ⟨w9.heap.size,0,none⟩)),λv _=>v=(.pointer (some ⟨w9.heap.size,0,none⟩)),λv _=>v=(.pointer (some ⟨w9.heap.size,0+1,none⟩)),λv _=>v=(.int .i64 ((bu ai p 0).2.2:Int)),λv _=>v=(.bool (decide (((bu ai p 0).2.2:Int)<=100))),λ_ ww=>aY ww w1.heap.size ([str q.av.az,.slice nG nH nI]).toArray 66,λv _=>v=(.bool (decide (((bu ai p 0).2.2:Int)<=100)))] de (cZ (cZ (cZ (cZ (cZ (cZ (C6 (cZ trivial)))))))) (λwd aB=>?_) ?_
 refine bN ?_ ?_
 intro x vs jg e dM hd he
 replace dM:=(cR w1.heap.size ([str q.av.az,.slice nG nH nI]) 66).trans aB dM
 have cI:=cI.aL dM.1 sx
 replace he:e=aM (aN _ x _) []:=he
 subst he
 refine zL bU aH rfl cI.all rfl<|ag ?_
 exact dn ((cR w1.heap.size ([str q.av.az,.slice nG nH nI]) 66).refl _) rfl
 refine bN ?_ ?_
 intro x vs jg e dM hd he
 replace dM:=(cR w1.heap.size ([str q.av.az,.slice nG nH nI]) 66).trans aB dM
 replace he:e=aM (aN _ x _) []:=he
 subst he
 refine zm<|ag ?_
 exact dn ((cR w1.heap.size ([str q.av.az,.slice nG nH nI]) 66).refl _) rfl
 refine bN ?_ ?_
 intro x vs jg e dM hd he
 have d1:vs 1=(.pointer (some ⟨w9.heap.size,0,none⟩)):=hd
 replace dM:=(cR w1.heap.size ([str q.av.az,.slice nG nH nI]) 66).trans aB dM
 replace he:e=aM (aN _ x _) [(27,vs 1)]:=he
 rw[d1] at he
 subst he
 refine dk rfl<|ag ?_
 exact dn ((cR w1.heap.size ([str q.av.az,.slice nG nH nI]) 66).refl _) rfl
 refine bN ?_ ?_
 intro x vs jg e dM hd he
 have d2:vs 2=(.pointer (some ⟨w9.heap.size,0,none⟩)):=hd
 replace dM:=(cR w1.heap.size ([str q.av.az,.slice nG nH nI]) 66).trans aB dM
 replace he:e=aM (aN _ x _) [(28,vs 2)]:=he
 rw[d2] at he
 subst he
 refine zf HJ rfl<|ag ?_
 exact dn ((cR w1.heap.size ([str q.av.az,.slice nG nH nI]) 66).refl _) rfl
 refine bN ?_ ?_
 intro x vs jg e dM hd he
 have d3:vs 3=(.pointer (some ⟨w9.heap.size,0+1,none⟩)):=hd
 replace dM:=(cR w1.heap.size ([str q.av.az,.slice nG nH nI]) 66).trans aB dM
 have bj:=bj.aL dM.1 sx
 replace he:e=aM (aN _ x _) [(29,vs 3)]:=he
 rw[d3] at he
 subst he
 refine zl qT rfl (bj.at rfl)<|ag ?_
 exact dn ((cR w1.heap.size ([str q.av.az,.slice nG nH nI]) 66).refl _) rfl
 refine bN ?_ ?_
 intro x vs jg e dM hd he
 have d4:vs 4=(.int .i64 ((bu ai p 0).2.2:Int)):=hd
 replace dM:=(cR w1.heap.size ([str q.av.az,.slice nG nH nI]) 66).trans aB dM
 replace he:e=aM (aN _ x _) [(30,vs 4)]:=he
 rw[d4] at he
 subst he
 refine qQ rfl rfl rfl rfl rfl<|ag ?_
 exact dn ((cR w1.heap.size ([str q.av.az,.slice nG nH nI]) 66).refl _) rfl
 refine bN ?_ ?_
 intro x vs jg e dM hd he
 have d0:vs 0=(.agg #[str q.av.az,.slice nG nH nI]):=hd
 replace dM:=(cR w1.heap.size ([str q.av.az,.slice nG nH nI]) 66).trans aB dM
 obtain⟨us,vi,vj⟩:=dM.2.2 ⟨_,(by rfl),aZ⟩
 replace he:e=aM (aN _ x _) [(26,vs 0)]:=he
 rw[d0] at he
 subst he
 refine dw aH rfl rfl rfl vj (by rw[vi];rfl) ?_
 intro qe jG hb IY
 refine ag ?_
 exact dn ⟨jG,λ_=>hb,λ_=>⟨_,rfl,hb⟩⟩ hb
 refine bN ?_ ?_
 intro x vs jg e dM hd he
 have d5:vs 5=(.bool (decide (((bu ai p 0).2.2:Int)<=100))):=hd
 replace dM:=(cR w1.heap.size ([str q.av.az,.slice nG nH nI]) 66).trans aB dM
 replace he:e=aM (aN _ x _) [(31,vs 5)]:=he
 rw[d5] at he
 subst he
 refine zA<|ag ?_
 exact dn ((cR w1.heap.size ([str q.av.az,.slice nG nH nI]) 66).refl _) rfl
 exact trivial
 intro x vs mm pz bJ
 have d0:vs 0=(.agg #[str q.av.az,.slice nG nH nI]):=bJ 0 de
 have d1:vs 1=(.pointer (some ⟨w9.heap.size,0,none⟩)):=bJ 1 de
 have d2:vs 2=(.pointer (some ⟨w9.heap.size,0,none⟩)):=bJ 2 de
 have d3:vs 3=(.pointer (some ⟨w9.heap.size,0+1,none⟩)):=bJ 3 de
 have d4:vs 4=(.int .i64 ((bu ai p 0).2.2:Int)):=bJ 4 de
 have d5:vs 5=(.bool (decide (((bu ai p 0).2.2:Int)<=100))):=bJ 5 de
 have d6:aY mm w1.heap.size ([str q.av.az,.slice nG nH nI]).toArray 66:=bJ 6 de
 have d7:vs 7=(.bool (decide (((bu ai p 0).2.2:Int)<=100))):=bJ 7 de
 have hK:=hK.aL pz.1 sx;have tb:=tb.aL pz.1 sx
 have aZ:=d6
 change OW _ _ _ _ [] (aM (aN _ x _) (zZ 26 [vs 0,vs 1,vs 2,vs 3,vs 4,vs 5]++[(100006,vs 6),(3,vs 7)])) _
 rw[d0,d1,d2,d3,d4,d5,d7]
 refine ag<|aV ?_
 exact⟨[_,_],⟨gQ bU aH rfl aZ rfl,rfl⟩,⟨_,q.av,cA (λb=>Value.tuple #[_,.bool b]) (show decide (((bu ai p 0).2.2:Int)<=100)=(nX ee).isSome from by unfold nX;rw[hp,bS,<-Nk];by_cases h:(bu ai p 0).2.2<=100;(·rw[iP h];exact dT om);(·rw[iN h];exact dF om)),tb.jk sm,λf hf=>by unfold nX at hf;rw[hp,bS,<-Nk] at hf;split at hf;(·cases hf;rw[hq]);(·cases hf)⟩,hK⟩
def ae2 (s:aj) (w:World):ck Tryz.prog 79 [str s] w λr w'=>(∃x ok,r= .tuple #[str x,.bool ok]∧(ok=true↔∃e f,ba s=some e.av∧e.ok∧e.n<=120∧nX e=some f∧my f.av.text=true)∧∀e f,ba s=some e.av->e.ok->nX e=some f->ok=true->x=f.av.text)∧ak [] w w':=by
 have hK:=ak.refl [] w
 refine cX [.tmp 2,.tmp 3] 30 Tryz.func79 rfl Zy rfl rfl ?_
 refine zr<|zA<|zA<|ag<|zr<|zm<|aC (F0 s [] w sm) ?_
 rintro v1 w1 ⟨fO,aK⟩
 have dS:=aK.size
 have hK:=hK.ext aK
 obtain⟨t,tv,rfl,ht,hp⟩:=fO
 obtain⟨pa,pn,pc,rfl,fR,bc⟩:=dO ht
 refine zm<|zx (i:=0) rfl rfl<|zx (i:=1) rfl rfl<|eD aH rfl rfl rfl ?_
 intro w2 aq aI eO
 have hK:=hK.grow;have hK:=hK.ext aq;have ht:=ht.grow;have ht:=ht.ext aq
 refine dw aH rfl rfl rfl aI rfl ?_
 intro w3 aJ aI iJ
 have hK:=hK.aL aJ sx;have ht:=ht.aL aJ sx
 refine zA<|ag<|aQ<|zr<|zm<|eM rfl<|ag<|zc rfl (λh1=>?_) (λh1=>?_)
 have hx:my s=false:=by simpa using h1
 refine zr<|zA<|zA<|ag<|aV ?_
 exact⟨_,rfl,⟨_,false,rfl,⟨λh=>by(cases h),fun⟨e,f,h1,h2,h3,_⟩=>by rw[wK.2 ⟨e,h1,h2,h3⟩] at hx;cases hx⟩,λ_ _ _ _ _ h=>by cases h⟩,hK⟩
 have hx:my s=true:=by simpa using h1
 obtain⟨e,he,bD,hn⟩:=wK.1 hx
 have e2:=hp.1 _ he
 subst e2
 have Ee:∀{e':Ex},ba s=some e'.av->e'.ok->e'=e:=(λh1 h2=>qE h2 bD (Option.some.inj (h1.symm.trans he)))
 refine bz<|zr<|zL bU aH rfl aI.all rfl<|aC (aeX e hn bD _ w3 (ht.jk sm)) ?_
 rintro v4 w4 ⟨eJ,aF⟩
 have gK:=aF.size
 have hK:=hK.ext aF
 obtain⟨tv2,T,rfl,hT,Nr⟩:=eJ
 obtain⟨jd,Az,je,rfl,IK,amt⟩:=dO hT
 refine zm<|zx (i:=0) rfl rfl<|zx (i:=1) rfl rfl<|eD aH rfl rfl rfl ?_
 intro w5 aU bQ jr
 have hK:=hK.grow;have hK:=hK.ext aU;have hT:=hT.grow;have hT:=hT.ext aU
 refine dw aH rfl rfl rfl bQ rfl ?_
 intro w6 bF bQ lI
 have hK:=hK.aL bF sx;have hT:=hT.aL bF sx
 refine zA<|ag<|aQ<|zr<|zm<|eM rfl<|zm<|xw (t:=22) rfl (λh2=>?_) (λh2=>?_)
 replace h2:=bw h2
 have Ed:nX e=none:=(by simpa using h2)
 refine zs<|zs<|zs<|zs<|zp rfl<|ag<|zc rfl (λh3=>?_) (λh3=>?_)
 refine zr<|zA<|zA<|ag<|aV ?_
 exact⟨_,rfl,⟨_,false,rfl,⟨λh=>by(cases h),fun⟨e',f',h1,h2,h3,h4,_⟩=>by cases Ee h1 h2;rw[Ed] at h4;cases h4⟩,λ_ _ _ _ _ h=>by cases h⟩,hK⟩
 simp at h3
 replace h2:=bw h2
 have aR:∃f,nX e=some f:=(by cases hh:nX e;(·simp[hh] at h2);(·exact⟨_,rfl⟩))
 obtain⟨f,hf⟩:=aR
 have e9:=Nr f hf
 subst e9
 have AQ:=LN bD hf
 have Ns:=aeU hf
 have Jq:=Ex.size AQ
 have Nt:=Ex.aeT AQ
 refine zL bU aH rfl bQ.all rfl<|aC (tI f.av.size f.av (lR _) (Ex.wf AQ).wf om om _ _ w6 hT) ?_
 rintro v7 w7 ⟨iV,cz⟩
 have po:=cz.size
 have hK:=hK.ext cz;have hT:=hT.ext cz;have bQ:=bQ.ext cz
 obtain rfl:=iV
 refine aC (MI _ w7) ?_
 rintro v8 w8 ⟨p9,cv⟩
 have AF:=cv.size
 have hK:=hK.ext cv;have hT:=hT.ext cv;have bQ:=bQ.ext cv
 obtain rfl:=p9
 refine eM rfl<|zp rfl<|ag<|zc rfl (λh4=>?_) (λh4=>?_)
 have fH:my f.av.text=false:=(by simpa using h4)
 refine zr<|zA<|zA<|ag<|aV ?_
 exact⟨_,rfl,⟨_,false,rfl,⟨λh=>by(cases h),fun⟨e',f',h1,h2,h3,h4,h5⟩=>by cases Ee h1 h2;rw[hf] at h4;cases h4;rw[fH] at h5;cases h5⟩,λ_ _ _ _ _ h=>by cases h⟩,hK⟩
 have fH:my f.av.text=true:=(by simpa using h4)
 refine bz<|zr<|zL bU aH rfl bQ.all rfl<|aC (tI f.av.size f.av (lR _) (Ex.wf AQ).wf om om _ _ w8 hT) ?_
 rintro v9 w9 ⟨eT,aG⟩
 have pq:=aG.size
 have hK:=hK.ext aG
 obtain rfl:=eT
 refine zA<|zA<|ag<|aV ?_
 exact⟨_,rfl,⟨_,true,rfl,⟨λ_=>⟨e,f,he,bD,hn,hf,fH⟩,λ_=>rfl⟩,λe' f' h1 h2 h3 _=>by cases Ee h1 h2;rw[hf] at h3;cases h3;rfl⟩,hK⟩
def fm:Option Ty->aj
 |some T=>T.text
 |none=>[]
def mE (h:aj) (Ts:List Ty):Prop:=(gS h=true∧∃A,Ts=[A])∨(iB h=true∧∃A B,Ts=[A,B])∨(h=cE∧∃A B C,Ts=[A,B,C])
def mE.pos {h:aj} {Ts:List Ty} (hj:mE h Ts):0<Ts.length:=by
 rcases hj with⟨_,A,rfl⟩|⟨_,A,B,rfl⟩|⟨_,A,B,C,rfl⟩<;>simp
def mE.three {Ts:List Ty} (hj:mE cE Ts):∃A B C,Ts=[A,B,C]:=by
 rcases hj with⟨h,_⟩|⟨h,_⟩|⟨_,h⟩
 ·exact absurd h de
 ·exact absurd h de
 ·exact h
def mE.two {h:aj} {Ts:List Ty} (hj:mE h Ts) (hb:iB h=true):∃A B,Ts=[A,B]:=by
 rcases hj with⟨h1,_⟩|⟨_,h1⟩|⟨rfl,_⟩
 ·exfalso
  simp only[gS,oE,dE] at h1
  rcases h1 with rfl|rfl<;>exact absurd hb de
 ·exact h1
 ·exact absurd hb de
def mE.one {h:aj} {Ts:List Ty} (hj:mE h Ts) (hb:gS h=true):∃A,Ts=[A]:=by
 rcases hj with⟨_,h1⟩|⟨h1,_⟩|⟨rfl,_⟩
 ·exact h1
 ·exfalso
  simp only[gS,oE,dE] at hb
  rcases hb with rfl|rfl<;>exact absurd h1 de
 ·exact absurd hb de
def yv (f:Bool):Ty->Option (Ty×Ty)
 | .op g a b=>if g=f then some (a,b) else none
 | .i=>none
def Uj {A:Ty}:A.text=[105]↔A= .i:=⟨λh=>Ty.inj (h.trans (rfl:([105]:aj)=Ty.text .i)),λh=>by rw[h];rfl⟩
def ae3:gS BO=true:=by simp[gS]
def ae4:gS rh=true:=by simp[gS]
def Uk:iB kF=true:=by simp[iB]
def ae5:iB xS=true:=by simp[iB]
def Ul {h:aj} (hh:(h=[43]∨h=[45])∨h=[42]):iB h=true:=by
 rcases hh with(rfl|rfl)|rfl<;>simp[iB]
def ae6 (h:aj) (ks:List aj) (hl:ks.length<=1000) (hn:[]∈ks) (v:Value) (L:List Nat) (w:World) (hv:bI L w v ks):
  ck Tryz.prog 155 [str h,v] w λr w'=>r=str []∧ak [] w w':=by
 have hK:=ak.refl [] w
 refine cX [.tmp 4] 117 Tryz.func155 rfl PO rfl rfl ?_
 refine zr<|zA<|ag<|aQ<|zr<|zm<|aC (zX ks om [] _ _ w hv) ?_
 rintro v1 w1 ⟨fO,aK⟩
 have dS:=aK.size
 have hK:=hK.ext aK
 obtain rfl:=fO
 refine ag<|zc rfl (λh1=>?_) (λh1=>?_)
 refine zr<|zA<|ag<|aV ?_
 exact⟨_,rfl,rfl,hK⟩
 exact absurd hn (by simpa using h1)
def ae7 {A B:Ty} {o:Option (Ty×Ty)} (ho:o=yv true A) (hs:o.isSome=true) (he:sV o=B.text):str (yh o)=str (fm (ld kF [A,B])):=by
 cases A with
 |i=>rw[ho] at hs;cases hs
 |op g a b=>
  cases g with
  |false=>rw[ho] at hs;cases hs
  |true=>
   subst ho
   have he:a.text=B.text:=he
   show str b.text=str (fm (if la a B=true then some b else none))
   rw[iP (show la a B=true from dT he)];rfl
def Um {A:Ty} {o:Option (Ty×Ty)} (ho:o=yv false A) (hs:o.isSome=true):str (sV o)=str (fm (ld BO [A]))∧str (yh o)=str (fm (ld rh [A])):=by
 cases A with
 |i=>rw[ho] at hs;cases hs
 |op g a b=>
  cases g with
  |true=>rw[ho] at hs;cases hs
  |false=>subst ho;exact⟨rfl,rfl⟩
def ae8 (A B:Ty):fm (ld xS [A,B])=if 1+A.n+B.n<=16 then(Ty.op false A B).text else[]:=by
 show fm (if 1+A.n+B.n<=16 then some (.op false A B) else none)=_
 split<;>rfl
def ae9 {h:aj} (hh:(h=[43]∨h=[45])∨h=[42]):fm (ld h [.i,.i])=[105]:=by
 rcases hh with(rfl|rfl)|rfl<;>rfl
def afa {h:aj} {A:Ty} {r9:List Ty} (hj:mE h (A::r9)) {o1 o2:Option (Ty×Ty)} (xf:o1=yv true A) (vD:o2=yv false A)
  (bC:(decide (h=cE)&&decide (A.text=[105])&&decide ((aD ((A::r9).map Ty.text) 1)=(aD ((A::r9).map Ty.text) 2)))=false) (bY:(decide (h=kF)&&o1.isSome&&decide (sV o1=(aD ((A::r9).map Ty.text) 1)))=false) (eu:¬h=xS)
  (jL:(decide (h=BO)&&o2.isSome)=false) (j1:(decide (h=rh)&&o2.isSome)=false) (qq:(((decide (h=[43])||decide (h=[45]))||decide (h=[42]))&&decide (A.text=[105])&&decide ((aD ((A::r9).map Ty.text) 1)=[105]))=false):fm (ld h (A::r9))=[]:=by
 rcases hj with⟨hu,A0,e⟩|⟨hb,A0,B,e⟩|⟨rfl,A0,B,C0,e⟩<;>cases e
 ·simp only[gS,oE,dE] at hu
  cases A with
  |i=>rfl
  |op g a b=>
   cases g with
   |true=>rfl
   |false=>
    subst vD
    rcases hu with rfl|rfl
    ·exact Bool.noConfusion (show true=false from jL)
    ·exact Bool.noConfusion (show true=false from j1)
 ·have Nu:aD ([A,B].map Ty.text) 1=B.text:=rfl
  rw[Nu] at bY qq
  have Nv:(h=[43]∨h=[45])∨h=[42]->fm (ld h [A,B])=[]:=λhh=>by
   have h0:((decide (h=[43])||decide (h=[45]))||decide (h=[42]))=true:=by simpa using hh
   rw[h0,Bool.true_and,Bool.and_eq_false_iff] at qq
   have h1:ld h [A,B]=if(la A .i&&la B .i)=true then some .i else none:=by
    rcases hh with(rfl|rfl)|rfl<;>rfl
   have hi:Ty.i.text=[105]:=rfl
   rw[h1,iN (by unfold la;rw[hi];rcases qq with h|h<;>rw[h]<;>simp)];rfl
  simp only[iB,oE,dE] at hb
  rcases hb with(((rfl|rfl)|rfl)|rfl)|rfl
  ·exact Nv (.inl (.inl rfl))
  ·exact Nv (.inl (.inr rfl))
  ·exact Nv (.inr rfl)
  ·cases A with
   |i=>rfl
   |op g a b=>
    cases g with
    |false=>rfl
    |true=>
     subst xf
     have bY:decide (a.text=B.text)=false:=bY
     show fm (if la a B=true then some b else none)=[]
     rw[iN (by unfold la;rw[bY];simp)];rfl
  ·exact absurd rfl eu
 ·have Nu:aD ([A,B,C0].map Ty.text) 1=B.text:=rfl
  have hcC:aD ([A,B,C0].map Ty.text) 2=C0.text:=rfl
  rw[Nu,hcC] at bC
  have bC:(decide (A.text=[105])&&decide (B.text=C0.text))=false:=bC
  show fm (if(la A .i&&la B C0)=true then some B else none)=[]
  have hi:Ty.i.text=[105]:=rfl
  rw[iN (by unfold la;rw[hi,bC];simp)];rfl
def afc {h:aj} {A:Ty} {r9:List Ty} (hj:mE h (A::r9)) (hh:h=cE) (hA:A.text=[105]) (hB:(aD ((A::r9).map Ty.text) 1)=(aD ((A::r9).map Ty.text) 2)):str (aD ((A::r9).map Ty.text) 1)=str (fm (ld h (A::r9))):=by
 subst hh
 obtain⟨A0,B,C0,e⟩:=hj.three
 cases e
 have hB:B.text=C0.text:=hB
 show str B.text=str (fm (if(la A .i&&la B C0)=true then some B else none))
 rw[iP (by rw[aE];exact⟨dT hA,dT hB⟩)];rfl
def afd {h:aj} {A:Ty} {r9:List Ty} (hj:mE h (A::r9)) (hh:h=kF) {o:Option (Ty×Ty)} (ho:o=yv true A) (hs:o.isSome=true) (he:sV o=(aD ((A::r9).map Ty.text) 1)):str (yh o)=str (fm (ld h (A::r9))):=by
 subst hh
 obtain⟨A0,B,e⟩:=hj.two Uk
 cases e
 exact ae7 ho hs he
def afe {h:aj} {A:Ty} {r9:List Ty} (hj:mE h (A::r9)) (hh:h=BO) {o:Option (Ty×Ty)} (ho:o=yv false A) (hs:o.isSome=true):str (sV o)=str (fm (ld h (A::r9))):=by
 subst hh
 obtain⟨A0,e⟩:=hj.one ae3
 cases e
 exact(Um ho hs).1
def aff {h:aj} {A:Ty} {r9:List Ty} (hj:mE h (A::r9)) (hh:h=rh) {o:Option (Ty×Ty)} (ho:o=yv false A) (hs:o.isSome=true):str (yh o)=str (fm (ld h (A::r9))):=by
 subst hh
 obtain⟨A0,e⟩:=hj.one ae4
 cases e
 exact(Um ho hs).2
def afg {h:aj} {A B:Ty} {r9:List Ty} (hh:h=xS) (e:A::r9=[A,B]):str (if 1+A.n+B.n<=16 then(Ty.op false A B).text else[])=str (fm (ld h (A::r9))):=by
 subst hh
 rw[e,ae8]
def afh {h:aj} {A:Ty} {r9:List Ty} (hj:mE h (A::r9)) (hh:(h=[43]∨h=[45])∨h=[42]) (hA:A.text=[105]) (hB:(aD ((A::r9).map Ty.text) 1)=[105]):str [105]=str (fm (ld h (A::r9))):=by
 obtain⟨A0,B,e⟩:=hj.two (Ul hh)
 cases e
 have hB:B.text=[105]:=hB
 obtain rfl:=Uj.1 hA
 obtain rfl:=Uj.1 hB
 rw[ae9 hh]
def afi {h:aj} {A:Ty} {r9:List Ty} (hj:mE h (A::r9)) (hh:h=xS):∃B,A::r9=[A,B]∧(aD ((A::r9).map Ty.text) 1)=B.text:=by
 subst hh
 obtain⟨A0,B,e⟩:=hj.two ae5
 cases e
 exact⟨B,rfl,rfl⟩
set_option maxHeartbeats 4000000 in
def afj (h:aj) (Ts:List Ty) (hj:mE h Ts) (hT:∀T,T∈Ts->T.n<=16) (v:Value) (L:List Nat) (w:World) (hv:bI L w v (Ts.map Ty.text)):
  ck Tryz.prog 155 [str h,v] w λr w'=>r=str (fm (ld h Ts))∧ak [] w w':=by
 have hK:=ak.refl [] w
 have hp:=hj.pos
 have dK:=hv
 obtain⟨a,np,c,rfl,Un⟩:=eP hv
 have fj:(Ts.map Ty.text).length=Ts.length:=by simp
 rw[fj] at Un
 subst Un
 obtain⟨A,r9,rfl⟩:∃A r,Ts=A::r:=by cases Ts with|nil=>simp at hp|cons A r=>exact⟨A,r,rfl⟩
 have hA:=hT A sm
 have hg:∀i,i<(A::r9).length->(((A::r9).map Ty.text)[i]?=some (aD ((A::r9).map Ty.text) i)):=λi hi=>lp (by rw[fj];exact hi)
 obtain⟨b,off,rfl,eC⟩:=qX dK (hg 0 hp)
 have hx:∀i,i<(A::r9).length->iS w b (off+i*1) [str (aD ((A::r9).map Ty.text) i)]:=λi hi=>by obtain⟨b1,ga,e1,hc⟩:=qX dK (hg i hi);cases e1;exact hc
 have eN:([]:aj)∉(A::r9).map Ty.text:=λhm=>by obtain⟨T,_,h2⟩:=List.mem_map.1 hm;exact absurd h2 T.ne
 refine cX [.tmp 4] 117 Tryz.func155 rfl PO rfl rfl ?_
 refine zr<|zA<|ag<|aQ<|zr<|zm<|aC (zX ((A::r9).map Ty.text) (by rw[fj];rcases hj with⟨_,_,e⟩|⟨_,_,_,e⟩|⟨_,_,_,_,e⟩<;>rw[e]<;>simp) [] _ _ w dK) ?_
 rintro v1 w1 ⟨fO,aK⟩
 have dS:=aK.size
 have hK:=hK.ext aK
 obtain rfl:=fO
 refine ag<|zc rfl (λh1=>?_) (λh1=>?_)
 exact absurd (by simpa using h1) eN
 refine bz<|zr<|zm<|zi (i:=0) bh bA rfl rfl hp<|zl cm rfl ((hx 0 hp).ext hK 0 _ rfl)<|aC (S8 A.text w1) ?_
 rintro v2 w2 ⟨dC,aq⟩
 have eH:=aq.size
 have hK:=hK.ext aq
 obtain⟨o1,xf,rfl⟩:=dC
 have xf:o1=yv true A:=(by have:=Ta hA true xf;cases A<;>exact this)
 refine zm<|zx (i:=0) rfl rfl<|zx (i:=1) rfl rfl<|zx (i:=2) rfl rfl<|zA<|zA<|zA<|ag<|zr<|zm<|zi (i:=0) bh bA rfl rfl hp<|zl cm rfl ((hx 0 hp).ext hK 0 _ rfl)<|aC (S9 A.text w2) ?_
 rintro v3 w3 ⟨er,aJ⟩
 have gd:=aJ.size
 have hK:=hK.ext aJ
 obtain⟨o2,vD,rfl⟩:=er
 have vD:o2=yv false A:=(by have:=Ta hA false vD;cases A<;>exact this)
 refine zm<|zx (i:=0) rfl rfl<|zx (i:=1) rfl rfl<|zx (i:=2) rfl rfl<|zA<|zA<|zA<|ag<|aQ<|cS<|aQ ?_
 refine ql et aS 18 (rA 32 17++[31]) (rA 32 17++[31]) [[],[0],[1],[2],[2,3],[2,4],[2,5],[2,6],[7],[8],[8,9],[8,10],[8],[8,12],[8,13],[8,11,14],[8,15],[16]] [λv _=>v=(str h),λv _=>v=(.bool (decide (h=cE))),λv _=>v=(.bool (decide (h=cE))),λv _=>(decide (h=cE))=true->v=(.slice (some ⟨b,off,none⟩) (A::r9).length c),λv _=>(decide (h=cE))=true->v=(.pointer (some ⟨b,off+0*1,none⟩)),λv _=>(decide (h=cE))=true->v=(str A.text),λv _=>(decide (h=cE))=true->v=(.bool (decide (A.text=[105]))),λv _=>v=(.bool (decide (h=cE)&&decide (A.text=[105]))),λv _=>v=(.bool (decide (h=cE)&&decide (A.text=[105]))),λv _=>(decide (h=cE)&&decide (A.text=[105]))=true->v=(.slice (some ⟨b,off,none⟩) (A::r9).length c),λv _=>(decide (h=cE)&&decide (A.text=[105]))=true->v=(.pointer (some ⟨b,off+1*1,none⟩)),λv _=>(decide (h=cE)&&decide (A.text=[105]))=true->v=(str (aD ((A::r9).map Ty.text) 1)),λv _=>(decide (h=cE)&&decide (A.text=[105]))=true->v=(.slice (some ⟨b,off,none⟩) (A::r9).length c),λv _=>(decide (h=cE)&&decide (A.text=[105]))=true->v=(.pointer (some ⟨b,off+2*1,none⟩)),λv _=>(decide (h=cE)&&decide (A.text=[105]))=true->v=(str (aD ((A::r9).map Ty.text) 2)),λv _=>(decide (h=cE)&&decide (A.text=[105]))=true->v=(.bool (decide ((aD ((A::r9).map Ty.text) 1)=(aD ((A::r9).map Ty.text) 2)))),λv _=>v=(.bool (decide (h=cE)&&decide (A.text=[105])&&decide ((aD ((A::r9).map Ty.text) 1)=(aD ((A::r9).map Ty.text) 2)))),λv _=>v=(.bool (decide (h=cE)&&decide (A.text=[105])&&decide ((aD ((A::r9).map Ty.text) 1)=(aD ((A::r9).map Ty.text) 2))))] de (cZ (cZ (cZ (eX (eX (eX (eX (cZ (cZ (eX (eX (eX (eX (eX (eX (eX (cZ (cZ trivial)))))))))))))))))) (λwd aB=>?_) ?_
 refine bN ?_ ?_
 intro x vs w4 e aF hd he
 replace aF:=aS.trans aB aF
 replace he:e=aM (aN _ x _) []:=he
 subst he
 refine zm<|ag ?_
 exact dn (aS.refl _) rfl
 refine bN ?_ ?_
 intro x vs w4 e aF hd he
 have d0:vs 0=(str h):=hd
 replace aF:=aS.trans aB aF
 replace he:e=aM (aN _ x _) [(32,vs 0)]:=he
 rw[d0] at he
 subst he
 refine cY rfl rfl<|ag ?_
 exact dn (aS.refl _) rfl
 refine bN ?_ ?_
 intro x vs w4 e aF hd he
 have d1:vs 1=(.bool (decide (h=cE))):=hd
 replace aF:=aS.trans aB aF
 replace he:e=aM (aN _ x _) [(33,vs 1)]:=he
 rw[d1] at he
 subst he
 refine zm<|ag ?_
 exact dn (aS.refl _) rfl
 refine bN ?_ ?_
 intro x vs w4 e aF hd he
 have d2:vs 2=(.bool (decide (h=cE))):=hd
 replace aF:=aS.trans aB aF
 rcases bE (decide (h=cE)) with hg|hg
 rw[hg] at d2
 replace he:e=aM (aN _ x _) [(34,vs 2)]:=he
 rw[d2] at he
 subst he
 refine zm<|ag ?_
 exact dn (aS.refl _) (show(decide (h=cE))=true->_=((.slice (some ⟨b,off,none⟩) (A::r9).length c):Value) from λ_=>rfl)
 rw[hg] at d2
 replace he:e=aM (aN _ x _) [(34,vs 2)]:=he
 rw[d2] at he
 subst he
 refine zs<|ag ?_
 exact dn (aS.refl _) (show(decide (h=cE))=true->_=(_:Value) from λhh=>nomatch hg.symm.trans hh)
 refine bN ?_ ?_
 intro x vs w4 e aF hd he
 have aR:(vs 2=(.bool (decide (h=cE))))∧((decide (h=cE))=true->vs 3=(.slice (some ⟨b,off,none⟩) (A::r9).length c)):=hd
 obtain⟨d2,d3⟩:=aR
 replace aF:=aS.trans aB aF
 rcases bE (decide (h=cE)) with hg|hg
 rw[hg] at d2
 replace d3:=d3 hg
 replace he:e=aM (aN _ x _) [(34,vs 2),(35,vs 3)]:=he
 rw[d2,d3] at he
 subst he
 refine zi (i:=0) bh bA rfl rfl hp<|ag ?_
 exact dn (aS.refl _) (show(decide (h=cE))=true->_=((.pointer (some ⟨b,off+0*1,none⟩)):Value) from λ_=>rfl)
 rw[hg] at d2
 replace he:e=aM (aN _ x _) [(34,vs 2),(35,vs 3)]:=he
 rw[d2] at he
 subst he
 refine zs<|ag ?_
 exact dn (aS.refl _) (show(decide (h=cE))=true->_=(_:Value) from λhh=>nomatch hg.symm.trans hh)
 refine bN ?_ ?_
 intro x vs w4 e aF hd he
 have aR:(vs 2=(.bool (decide (h=cE))))∧((decide (h=cE))=true->vs 4=(.pointer (some ⟨b,off+0*1,none⟩))):=hd
 obtain⟨d2,d4⟩:=aR
 replace aF:=aS.trans aB aF
 have hK:=hK.ext aF
 rcases bE (decide (h=cE)) with hg|hg
 rw[hg] at d2
 replace d4:=d4 hg
 replace he:e=aM (aN _ x _) [(34,vs 2),(36,vs 4)]:=he
 rw[d2,d4] at he
 subst he
 refine zl cm rfl ((hx 0 hp).ext hK 0 _ rfl)<|ag ?_
 exact dn (aS.refl _) (show(decide (h=cE))=true->_=((str A.text):Value) from λ_=>rfl)
 rw[hg] at d2
 replace he:e=aM (aN _ x _) [(34,vs 2),(36,vs 4)]:=he
 rw[d2] at he
 subst he
 refine zs<|ag ?_
 exact dn (aS.refl _) (show(decide (h=cE))=true->_=(_:Value) from λhh=>nomatch hg.symm.trans hh)
 refine bN ?_ ?_
 intro x vs w4 e aF hd he
 have aR:(vs 2=(.bool (decide (h=cE))))∧((decide (h=cE))=true->vs 5=(str A.text)):=hd
 obtain⟨d2,d5⟩:=aR
 replace aF:=aS.trans aB aF
 rcases bE (decide (h=cE)) with hg|hg
 rw[hg] at d2
 replace d5:=d5 hg
 replace he:e=aM (aN _ x _) [(34,vs 2),(37,vs 5)]:=he
 rw[d2,d5] at he
 subst he
 refine cY rfl rfl<|ag ?_
 exact dn (aS.refl _) (show(decide (h=cE))=true->_=((.bool (decide (A.text=[105]))):Value) from λ_=>rfl)
 rw[hg] at d2
 replace he:e=aM (aN _ x _) [(34,vs 2),(37,vs 5)]:=he
 rw[d2] at he
 subst he
 refine zs<|ag ?_
 exact dn (aS.refl _) (show(decide (h=cE))=true->_=(_:Value) from λhh=>nomatch hg.symm.trans hh)
 refine bN ?_ ?_
 intro x vs w4 e aF hd he
 have aR:(vs 2=(.bool (decide (h=cE))))∧((decide (h=cE))=true->vs 6=(.bool (decide (A.text=[105])))):=hd
 obtain⟨d2,d6⟩:=aR
 replace aF:=aS.trans aB aF
 rcases bE (decide (h=cE)) with hg|hg
 rw[hg] at d2
 replace d6:=d6 hg
 replace he:e=aM (aN _ x _) [(34,vs 2),(38,vs 6)]:=he
 rw[d2,d6] at he
 subst he
 refine zp rfl<|ag ?_
 exact dn (aS.refl _) (by first|rfl|(rw[hg];rfl))
 rw[hg] at d2
 replace he:e=aM (aN _ x _) [(34,vs 2),(38,vs 6)]:=he
 rw[d2] at he
 subst he
 refine zp rfl<|ag ?_
 exact dn (aS.refl _) (by first|rfl|(rw[hg];rfl))
 refine bN ?_ ?_
 intro x vs w4 e aF hd he
 have d7:vs 7=(.bool (decide (h=cE)&&decide (A.text=[105]))):=hd
 replace aF:=aS.trans aB aF
 replace he:e=aM (aN _ x _) [(39,vs 7)]:=he
 rw[d7] at he
 subst he
 refine zm<|ag ?_
 exact dn (aS.refl _) rfl
 refine bN ?_ ?_
 intro x vs w4 e aF hd he
 have d8:vs 8=(.bool (decide (h=cE)&&decide (A.text=[105]))):=hd
 replace aF:=aS.trans aB aF
 rcases bE (decide (h=cE)&&decide (A.text=[105])) with hg|hg
 rw[hg] at d8
 replace he:e=aM (aN _ x _) [(40,vs 8)]:=he
 rw[d8] at he
 subst he
 refine zm<|ag ?_
 exact dn (aS.refl _) (show(decide (h=cE)&&decide (A.text=[105]))=true->_=((.slice (some ⟨b,off,none⟩) (A::r9).length c):Value) from λ_=>rfl)
 rw[hg] at d8
 replace he:e=aM (aN _ x _) [(40,vs 8)]:=he
 rw[d8] at he
 subst he
 refine zs<|ag ?_
 exact dn (aS.refl _) (show(decide (h=cE)&&decide (A.text=[105]))=true->_=(_:Value) from λhh=>nomatch hg.symm.trans hh)
 refine bN ?_ ?_
 intro x vs w4 e aF hd he
 have aR:(vs 8=(.bool (decide (h=cE)&&decide (A.text=[105]))))∧((decide (h=cE)&&decide (A.text=[105]))=true->vs 9=(.slice (some ⟨b,off,none⟩) (A::r9).length c)):=hd
 obtain⟨d8,d9⟩:=aR
 replace aF:=aS.trans aB aF
 rcases bE (decide (h=cE)&&decide (A.text=[105])) with hg|hg
 rw[hg] at d8
 replace d9:=d9 hg
 replace he:e=aM (aN _ x _) [(40,vs 8),(41,vs 9)]:=he
 rw[d8,d9] at he
 subst he
 refine zi (i:=1) bh bA rfl rfl ((by simp only[aE,dE] at hg;obtain⟨_,_,_,e⟩:=(hg.1▸hj:mE cE _).three;rw[e];simp))<|ag ?_
 exact dn (aS.refl _) (show(decide (h=cE)&&decide (A.text=[105]))=true->_=((.pointer (some ⟨b,off+1*1,none⟩)):Value) from λ_=>rfl)
 rw[hg] at d8
 replace he:e=aM (aN _ x _) [(40,vs 8),(41,vs 9)]:=he
 rw[d8] at he
 subst he
 refine zs<|ag ?_
 exact dn (aS.refl _) (show(decide (h=cE)&&decide (A.text=[105]))=true->_=(_:Value) from λhh=>nomatch hg.symm.trans hh)
 refine bN ?_ ?_
 intro x vs w4 e aF hd he
 have aR:(vs 8=(.bool (decide (h=cE)&&decide (A.text=[105]))))∧((decide (h=cE)&&decide (A.text=[105]))=true->vs 10=(.pointer (some ⟨b,off+1*1,none⟩))):=hd
 obtain⟨d8,d10⟩:=aR
 replace aF:=aS.trans aB aF
 have hK:=hK.ext aF
 rcases bE (decide (h=cE)&&decide (A.text=[105])) with hg|hg
 rw[hg] at d8
 replace d10:=d10 hg
 replace he:e=aM (aN _ x _) [(40,vs 8),(42,vs 10)]:=he
 rw[d8,d10] at he
 subst he
 refine zl cm rfl ((hx 1 (by simp only[aE,dE] at hg;obtain⟨_,_,_,e⟩:=(hg.1▸hj:mE cE _).three;rw[e];simp)).ext hK 0 _ rfl)<|ag ?_
 exact dn (aS.refl _) (show(decide (h=cE)&&decide (A.text=[105]))=true->_=((str (aD ((A::r9).map Ty.text) 1)):Value) from λ_=>rfl)
 rw[hg] at d8
 replace he:e=aM (aN _ x _) [(40,vs 8),(42,vs 10)]:=he
 rw[d8] at he
 subst he
 refine zs<|ag ?_
 exact dn (aS.refl _) (show(decide (h=cE)&&decide (A.text=[105]))=true->_=(_:Value) from λhh=>nomatch hg.symm.trans hh)
 refine bN ?_ ?_
 intro x vs w4 e aF hd he
 have d8:vs 8=(.bool (decide (h=cE)&&decide (A.text=[105]))):=hd
 replace aF:=aS.trans aB aF
 rcases bE (decide (h=cE)&&decide (A.text=[105])) with hg|hg
 rw[hg] at d8
 replace he:e=aM (aN _ x _) [(40,vs 8)]:=he
 rw[d8] at he
 subst he
 refine zm<|ag ?_
 exact dn (aS.refl _) (show(decide (h=cE)&&decide (A.text=[105]))=true->_=((.slice (some ⟨b,off,none⟩) (A::r9).length c):Value) from λ_=>rfl)
 rw[hg] at d8
 replace he:e=aM (aN _ x _) [(40,vs 8)]:=he
 rw[d8] at he
 subst he
 refine zs<|ag ?_
 exact dn (aS.refl _) (show(decide (h=cE)&&decide (A.text=[105]))=true->_=(_:Value) from λhh=>nomatch hg.symm.trans hh)
 refine bN ?_ ?_
 intro x vs w4 e aF hd he
 have aR:(vs 8=(.bool (decide (h=cE)&&decide (A.text=[105]))))∧((decide (h=cE)&&decide (A.text=[105]))=true->vs 12=(.slice (some ⟨b,off,none⟩) (A::r9).length c)):=hd
 obtain⟨d8,d12⟩:=aR
 replace aF:=aS.trans aB aF
 rcases bE (decide (h=cE)&&decide (A.text=[105])) with hg|hg
 rw[hg] at d8
 replace d12:=d12 hg
 replace he:e=aM (aN _ x _) [(40,vs 8),(44,vs 12)]:=he
 rw[d8,d12] at he
 subst he
 refine zi (i:=2) bh bA rfl rfl ((by simp only[aE,dE] at hg;obtain⟨_,_,_,e⟩:=(hg.1▸hj:mE cE _).three;rw[e];simp))<|ag ?_
 exact dn (aS.refl _) (show(decide (h=cE)&&decide (A.text=[105]))=true->_=((.pointer (some ⟨b,off+2*1,none⟩)):Value) from λ_=>rfl)
 rw[hg] at d8
 replace he:e=aM (aN _ x _) [(40,vs 8),(44,vs 12)]:=he
 rw[d8] at he
 subst he
 refine zs<|ag ?_
 exact dn (aS.refl _) (show(decide (h=cE)&&decide (A.text=[105]))=true->_=(_:Value) from λhh=>nomatch hg.symm.trans hh)
 refine bN ?_ ?_
 intro x vs w4 e aF hd he
 have aR:(vs 8=(.bool (decide (h=cE)&&decide (A.text=[105]))))∧((decide (h=cE)&&decide (A.text=[105]))=true->vs 13=(.pointer (some ⟨b,off+2*1,none⟩))):=hd
 obtain⟨d8,d13⟩:=aR
 replace aF:=aS.trans aB aF
 have hK:=hK.ext aF
 rcases bE (decide (h=cE)&&decide (A.text=[105])) with hg|hg
 rw[hg] at d8
 replace d13:=d13 hg
 replace he:e=aM (aN _ x _) [(40,vs 8),(45,vs 13)]:=he
 rw[d8,d13] at he
 subst he
 refine zl cm rfl ((hx 2 (by simp only[aE,dE] at hg;obtain⟨_,_,_,e⟩:=(hg.1▸hj:mE cE _).three;rw[e];simp)).ext hK 0 _ rfl)<|ag ?_
 exact dn (aS.refl _) (show(decide (h=cE)&&decide (A.text=[105]))=true->_=((str (aD ((A::r9).map Ty.text) 2)):Value) from λ_=>rfl)
 rw[hg] at d8
 replace he:e=aM (aN _ x _) [(40,vs 8),(45,vs 13)]:=he
 rw[d8] at he
 subst he
 refine zs<|ag ?_
 exact dn (aS.refl _) (show(decide (h=cE)&&decide (A.text=[105]))=true->_=(_:Value) from λhh=>nomatch hg.symm.trans hh)
 refine bN ?_ ?_
 intro x vs w4 e aF hd he
 have aR:(vs 8=(.bool (decide (h=cE)&&decide (A.text=[105]))))∧((decide (h=cE)&&decide (A.text=[105]))=true->vs 11=(str (aD ((A::r9).map Ty.text) 1)))∧((decide (h=cE)&&decide (A.text=[105]))=true->vs 14=(str (aD ((A::r9).map Ty.text) 2))):=hd
 obtain⟨d8,d11,d14⟩:=aR
 replace aF:=aS.trans aB aF
 rcases bE (decide (h=cE)&&decide (A.text=[105])) with hg|hg
 rw[hg] at d8
 replace d11:=d11 hg
 replace d14:=d14 hg
 replace he:e=aM (aN _ x _) [(40,vs 8),(43,vs 11),(46,vs 14)]:=he
 rw[d8,d11,d14] at he
 subst he
 refine cY rfl rfl<|ag ?_
 exact dn (aS.refl _) (show(decide (h=cE)&&decide (A.text=[105]))=true->_=((.bool (decide ((aD ((A::r9).map Ty.text) 1)=(aD ((A::r9).map Ty.text) 2)))):Value) from λ_=>rfl)
 rw[hg] at d8
 replace he:e=aM (aN _ x _) [(40,vs 8),(43,vs 11),(46,vs 14)]:=he
 rw[d8] at he
 subst he
 refine zs<|ag ?_
 exact dn (aS.refl _) (show(decide (h=cE)&&decide (A.text=[105]))=true->_=(_:Value) from λhh=>nomatch hg.symm.trans hh)
 refine bN ?_ ?_
 intro x vs w4 e aF hd he
 have aR:(vs 8=(.bool (decide (h=cE)&&decide (A.text=[105]))))∧((decide (h=cE)&&decide (A.text=[105]))=true->vs 15=(.bool (decide ((aD ((A::r9).map Ty.text) 1)=(aD ((A::r9).map Ty.text) 2))))):=hd
 obtain⟨d8,d15⟩:=aR
 replace aF:=aS.trans aB aF
 rcases bE (decide (h=cE)&&decide (A.text=[105])) with hg|hg
 rw[hg] at d8
 replace d15:=d15 hg
 replace he:e=aM (aN _ x _) [(40,vs 8),(47,vs 15)]:=he
 rw[d8,d15] at he
 subst he
 refine zp rfl<|ag ?_
 exact dn (aS.refl _) (by first|rfl|(rw[hg];rfl))
 rw[hg] at d8
 replace he:e=aM (aN _ x _) [(40,vs 8),(47,vs 15)]:=he
 rw[d8] at he
 subst he
 refine zp rfl<|ag ?_
 exact dn (aS.refl _) (by first|rfl|(rw[hg];rfl))
 refine bN ?_ ?_
 intro x vs w4 e aF hd he
 have d16:vs 16=(.bool (decide (h=cE)&&decide (A.text=[105])&&decide ((aD ((A::r9).map Ty.text) 1)=(aD ((A::r9).map Ty.text) 2)))):=hd
 replace aF:=aS.trans aB aF
 replace he:e=aM (aN _ x _) [(48,vs 16)]:=he
 rw[d16] at he
 subst he
 refine zA<|ag ?_
 exact dn (aS.refl _) rfl
 exact trivial
 intro x vs nS lK bJ
 have d0:vs 0=(str h):=bJ 0 de
 have d1:vs 1=(.bool (decide (h=cE))):=bJ 1 de
 have d2:vs 2=(.bool (decide (h=cE))):=bJ 2 de
 have d3:(decide (h=cE))=true->vs 3=(.slice (some ⟨b,off,none⟩) (A::r9).length c):=bJ 3 de
 have d4:(decide (h=cE))=true->vs 4=(.pointer (some ⟨b,off+0*1,none⟩)):=bJ 4 de
 have d5:(decide (h=cE))=true->vs 5=(str A.text):=bJ 5 de
 have d6:(decide (h=cE))=true->vs 6=(.bool (decide (A.text=[105]))):=bJ 6 de
 have d7:vs 7=(.bool (decide (h=cE)&&decide (A.text=[105]))):=bJ 7 de
 have d8:vs 8=(.bool (decide (h=cE)&&decide (A.text=[105]))):=bJ 8 de
 have d9:(decide (h=cE)&&decide (A.text=[105]))=true->vs 9=(.slice (some ⟨b,off,none⟩) (A::r9).length c):=bJ 9 de
 have d10:(decide (h=cE)&&decide (A.text=[105]))=true->vs 10=(.pointer (some ⟨b,off+1*1,none⟩)):=bJ 10 de
 have d11:(decide (h=cE)&&decide (A.text=[105]))=true->vs 11=(str (aD ((A::r9).map Ty.text) 1)):=bJ 11 de
 have d12:(decide (h=cE)&&decide (A.text=[105]))=true->vs 12=(.slice (some ⟨b,off,none⟩) (A::r9).length c):=bJ 12 de
 have d13:(decide (h=cE)&&decide (A.text=[105]))=true->vs 13=(.pointer (some ⟨b,off+2*1,none⟩)):=bJ 13 de
 have d14:(decide (h=cE)&&decide (A.text=[105]))=true->vs 14=(str (aD ((A::r9).map Ty.text) 2)):=bJ 14 de
 have d15:(decide (h=cE)&&decide (A.text=[105]))=true->vs 15=(.bool (decide ((aD ((A::r9).map Ty.text) 1)=(aD ((A::r9).map Ty.text) 2)))):=bJ 15 de
 have d16:vs 16=(.bool (decide (h=cE)&&decide (A.text=[105])&&decide ((aD ((A::r9).map Ty.text) 1)=(aD ((A::r9).map Ty.text) 2)))):=bJ 16 de
 have d17:vs 17=(.bool (decide (h=cE)&&decide (A.text=[105])&&decide ((aD ((A::r9).map Ty.text) 1)=(aD ((A::r9).map Ty.text) 2)))):=bJ 17 de
 have hK:=hK.ext lK
 change OW _ _ _ _ [] (aM (aN _ x _) (zZ 32 [vs 0,vs 1,vs 2,vs 3,vs 4,vs 5,vs 6,vs 7,vs 8,vs 9,vs 10,vs 11,vs 12,vs 13,vs 14,vs 15,vs 16]++[(31,vs 17)])) _
 rw[d0,d1,d2,d7,d8,d16,d17]
 refine ag<|zc rfl (λh2=>?_) (λh2=>?_)
 simp only[aE,dE] at h2
 obtain⟨⟨hh,Ef⟩,hBC⟩:=h2
 have ja:1<(A::r9).length:=(by obtain⟨_,_,_,e⟩:=(hh▸hj:mE cE _).three;rw[e];simp)
 refine zr<|zm<|zi (i:=1) bh bA rfl rfl ja<|zl cm rfl ((hx 1 ja).ext hK 0 _ rfl)<|zA<|ag<|aV ?_
 exact⟨_,rfl,afc hj hh Ef hBC,hK⟩
 have bC:=h2
 refine zr<|zm<|cY rfl rfl<|zm ?_
 apply fZ 2 55 57 [55,56,57] (λw'=>nS=w') rfl
 intro h3
 replace h3:=bw h3
 refine zm<|zp rfl<|ag ?_
 exact mg rfl rfl
 intro h3
 replace h3:=bw h3
 refine zs<|zp rfl<|ag ?_
 exact mg rfl rfl
 rintro xx _ rfl
 refine zm ?_
 apply fZ 6 58 64 [58,59,60,61,62,63,64] (λw'=>nS=w') rfl
 intro h4
 replace h4:=bw h4
 have ja:1<(A::r9).length:=(by simp only[aE,dE] at h4;obtain⟨_,_,e⟩:=hj.two (h4.1▸Uk);rw[e];simp)
 refine zm<|zm<|zi (i:=1) bh bA rfl rfl ja<|zl cm rfl ((hx 1 ja).ext hK 0 _ rfl)<|cY rfl rfl<|zp rfl<|ag ?_
 exact mg rfl rfl
 intro h4
 replace h4:=bw h4
 refine zs<|zs<|zs<|zs<|zs<|zp rfl<|ag ?_
 exact mg rfl rfl
 rintro xx _ rfl
 refine zA<|ag<|zc rfl (λh5=>?_) (λh5=>?_)
 simp only[aE,dE] at h5
 obtain⟨⟨hh,dS⟩,H7⟩:=h5
 refine zr<|zm<|zA<|ag<|aV ?_
 exact⟨_,rfl,afd hj hh xf dS H7,hK⟩
 have bY:=h5
 refine zr<|zm<|cY rfl rfl<|zA<|ag<|zc rfl (λh6=>?_) (λh6=>?_)
 have hh:h=xS:=h6
 obtain⟨B,eB,hK1⟩:=afi hj hh
 have ja:1<(A::r9).length:=(by rw[eB];simp)
 have iM:=hx 1 ja
 rw[hK1] at iM
 refine aQ ?_
 apply mv et 12 (rA 70 7++[69,77,78,11,12]) (rA 70 7++[69,77,78,11,12]) [[],[0],[1],[],[3],[4],[2,5],[6],[7],[7],[8],[9]] [It.v _,It.v _,It.v _,It.v _,It.v _,It.v _,It.v _,It.v _,It.v _,It.v _,It.v _,It.v _] de rfl
 intro wd aB
 refine eK ?_
 refine vk aB (λx p5 jT=>?_) ?_
 refine zi (i:=0) bh bA rfl rfl hp ?_
 exact pv
 refine vk aB (λx p5 jT=>?_) ?_
 have hK:=hK.ext jT
 refine zl cm rfl ((hx 0 hp).ext hK 0 _ rfl) ?_
 exact pv
 refine eK ?_
 refine vk aB (λx p5 jT=>?_) ?_
 refine zi (i:=1) bh bA rfl rfl ja ?_
 exact pv
 refine vk aB (λx p5 jT=>?_) ?_
 have hK:=hK.ext jT
 refine zl cm rfl (iM.ext hK 0 _ rfl) ?_
 exact pv
 refine vk aB (λx p5 jT=>?_) ?_
 refine aC (Tc false A B hA (hT B (by rw[eB];simp)) p5) ?_
 rintro v45 pW ⟨afm,wL⟩
 have amv:=wL.size
 obtain rfl:=afm
 exact pk wL
 refine eK ?_
 refine vc (λ_ _ _=>zx (i:=0) rfl rfl pv) ?_
 refine vc (λ_ _ _=>zx (i:=1) rfl rfl pv) ?_
 refine vc (λ_ _ _=>zA pv) ?_
 refine vc (λ_ _ _=>zA pv) ?_
 exact trivial
 intro x w83 afn
 have hK:=hK.ext afn
 change OW _ _ _ _ [] (aM (aN _ x _) (zZ 70 [_,_,_,_,_,_,_]++[(69,_),(77,_),(78,_),(11,_),(12,_)])) _
 refine ag<|zr<|zm<|zA<|ag<|aV ?_
 exact⟨_,rfl,afg hh eB,hK⟩
 have eu:=h6
 refine zr<|zm<|cY rfl rfl<|zm ?_
 apply fZ 2 83 85 [83,84,85] (λw'=>nS=w') rfl
 intro h7
 replace h7:=bw h7
 refine zm<|zp rfl<|ag ?_
 exact mg rfl rfl
 intro h7
 replace h7:=bw h7
 refine zs<|zp rfl<|ag ?_
 exact mg rfl rfl
 rintro xx _ rfl
 refine zA<|ag<|zc rfl (λh8=>?_) (λh8=>?_)
 simp only[aE,dE] at h8
 obtain⟨hh,dS⟩:=h8
 refine zr<|zm<|zA<|ag<|aV ?_
 exact⟨_,rfl,afe hj hh vD dS,hK⟩
 have jL:=h8
 refine zr<|zm<|cY rfl rfl<|zm ?_
 apply fZ 2 90 92 [90,91,92] (λw'=>nS=w') rfl
 intro h9
 replace h9:=bw h9
 refine zm<|zp rfl<|ag ?_
 exact mg rfl rfl
 intro h9
 replace h9:=bw h9
 refine zs<|zp rfl<|ag ?_
 exact mg rfl rfl
 rintro xx _ rfl
 refine zA<|ag<|zc rfl (λgI=>?_) (λgI=>?_)
 simp only[aE,dE] at gI
 obtain⟨hh,dS⟩:=gI
 refine zr<|zm<|zA<|ag<|aV ?_
 exact⟨_,rfl,aff hj hh vD dS,hK⟩
 have j1:=gI
 refine zr<|zm<|cY rfl rfl<|zm ?_
 apply fB 3 97 100 [97,98,99,100] (λw'=>nS=w') rfl
 intro kq
 replace kq:=bw kq
 refine zs<|zs<|zp rfl<|ag ?_
 exact mg rfl rfl
 intro kq
 replace kq:=bw kq
 refine zm<|cY rfl rfl<|zp rfl<|ag ?_
 exact mg rfl rfl
 rintro xx _ rfl
 refine zm ?_
 apply fB 3 101 104 [101,102,103,104] (λw'=>nS=w') rfl
 intro jM
 replace jM:=bw jM
 refine zs<|zs<|zp rfl<|ag ?_
 exact mg rfl rfl
 intro jM
 replace jM:=bw jM
 refine zm<|cY rfl rfl<|zp rfl<|ag ?_
 exact mg rfl rfl
 rintro xx _ rfl
 refine zm ?_
 apply fZ 5 105 110 [105,106,107,108,109,110] (λw'=>nS=w') rfl
 intro lJ
 replace lJ:=bw lJ
 refine zm<|zi (i:=0) bh bA rfl rfl hp<|zl cm rfl ((hx 0 hp).ext hK 0 _ rfl)<|cY rfl rfl<|zp rfl<|ag ?_
 exact mg rfl rfl
 intro lJ
 replace lJ:=bw lJ
 refine zs<|zs<|zs<|zs<|zp rfl<|ag ?_
 exact mg rfl rfl
 rintro xx _ rfl
 refine zm ?_
 apply fZ 5 111 116 [111,112,113,114,115,116] (λw'=>nS=w') rfl
 intro uT
 replace uT:=bw uT
 have ja:1<(A::r9).length:=(by simp only[aE,oE,dE] at uT;obtain⟨_,_,e⟩:=hj.two (Ul uT.1);rw[e];simp)
 refine zm<|zi (i:=1) bh bA rfl rfl ja<|zl cm rfl ((hx 1 ja).ext hK 0 _ rfl)<|cY rfl rfl<|zp rfl<|ag ?_
 exact mg rfl rfl
 intro uT
 replace uT:=bw uT
 refine zs<|zs<|zs<|zs<|zp rfl<|ag ?_
 exact mg rfl rfl
 rintro xx _ rfl
 refine zA<|ag<|zc rfl (λJr=>?_) (λJr=>?_)
 simp only[aE,oE,dE] at Jr
 obtain⟨⟨hh,Ef⟩,hBi⟩:=Jr
 refine zr<|zA<|ag<|aV ?_
 exact⟨_,rfl,afh hj hh Ef hBi,hK⟩
 have qq:=Jr
 refine bz<|zr<|zA<|ag<|aV ?_
 exact⟨_,rfl,cA (λx=>str x) (afa hj xf vD bC bY eu jL j1 qq).symm,hK⟩
def afp (o:Option Ty):Tp o=fm o:=by cases o<;>rfl
def Uo {o:Option Ty} (h:fm o=[]):o=none:=by
 cases o with
 |none=>rfl
 |some T=>exact absurd h T.ne
def Up {o:Option Ty} (h:fm o≠[]):∃T,o=some T:=by
 cases o with
 |none=>exact absurd rfl h
 |some T=>exact⟨T,rfl⟩
def rz (e:Ex) (Γ:Sc):List aj:=e.kids.map λx=>fm (bM x Γ)
def afq {e:Ex} {Γ:Sc} (bD:e.ok) (fx:e.jl=false) (h1:e.head≠gO) (h2:e.head≠iq) (hΓ:z7 Γ):
  ([]∈rz e Γ∧bM e Γ=none)∨∃Ts,rz e Γ=Ts.map Ty.text∧mE e.head Ts∧bM e Γ=ld e.head Ts∧∀T,T∈Ts->T.n<=16:=by
 cases e with
 |«at» s=>cases fx
 |lt x a b=>exact absurd rfl h1
 |fn f x A B b=>exact absurd rfl h2
 |un h a=>
  show([]∈[fm (bM a Γ)]∧(bM a Γ).bind _=none)∨_
  cases ha:bM a Γ with
  |none=>exact .inl ⟨by simp[fm],rfl⟩
  |some A=>exact .inr ⟨[A],by simp[rz,Ex.kids,ha,fm],.inl ⟨bD.1,A,rfl⟩,by simp[bM,ha,Ex.head],by simpa using l7 hΓ ha⟩
 |bi h a b=>
  show([]∈[fm (bM a Γ),fm (bM b Γ)]∧(bM a Γ).bind _=none)∨_
  cases ha:bM a Γ with
  |none=>exact .inl ⟨by simp[fm],rfl⟩
  |some A=>
   cases hb:bM b Γ with
   |none=>exact .inl ⟨by simp[fm],rfl⟩
   |some B=>exact .inr ⟨[A,B],by simp[rz,Ex.kids,ha,hb,fm],.inr (.inl ⟨bD.1,A,B,rfl⟩),by simp[bM,ha,hb,Ex.head],by intro T hT;simp at hT;rcases hT with rfl|rfl;exact l7 hΓ ha;exact l7 hΓ hb⟩
 |ite a b c=>
  show([]∈[fm (bM a Γ),fm (bM b Γ),fm (bM c Γ)]∧(bM a Γ).bind _=none)∨_
  cases ha:bM a Γ with
  |none=>exact .inl ⟨by simp[fm],rfl⟩
  |some A=>
   cases hb:bM b Γ with
   |none=>exact .inl ⟨by simp[fm],rfl⟩
   |some B=>
    cases hc:bM c Γ with
    |none=>exact .inl ⟨by simp[fm],rfl⟩
    |some C0=>exact .inr ⟨[A,B,C0],by simp[rz,Ex.kids,ha,hb,hc,fm],.inr (.inr ⟨rfl,A,B,C0,rfl⟩),by simp[bM,ha,hb,hc,Ex.head],by intro T hT;simp at hT;rcases hT with rfl|rfl|rfl;exact l7 hΓ ha;exact l7 hΓ hb;exact l7 hΓ hc⟩
def Uq {f x:aj} {A B:Ty} {e:Ex} {Γ:Sc}:fm (bM (.fn f x A B e) Γ)=if(!decide (1+A.n+B.n<=16)||decide (fm (bM e (Γ++[(f,.op true A B),(x,A)]))≠B.text))=true then[] else(Ty.op true A B).text:=by
 show fm (if 1+A.n+B.n<=16 then(bM e (Γ++[(f,.op true A B),(x,A)])).bind λC=>if la C B then some (.op true A B) else none else none)=_
 by_cases h:1+A.n+B.n<=16
 ·rw[iP h,dT h,Bool.not_true,Bool.false_or]
  cases hC:bM e (Γ++[(f,.op true A B),(x,A)]) with
  |none=>
   have hz:decide (fm none≠B.text)=true:=by simpa[fm] using λh:[]=B.text=>B.ne h.symm
   rw[iP hz];rfl
  |some C0=>
   show fm (if la C0 B=true then some (.op true A B) else none)=_
   by_cases hq:C0.text=B.text
   ·rw[iP (show la C0 B=true from dT hq),iN (by simp[fm,hq])];rfl
   ·rw[iN (show¬la C0 B=true from by unfold la;simpa using hq),iP (by simp[fm,hq])];rfl
 ·rw[iN h,dF h,iP sm];rfl
def afr (e:Ex) (Γ:Sc):(rz e Γ).length<=3:=by
 rw[rz,List.length_map]
 cases e<;>simp[Ex.kids]
def afs {e:Ex} {Γ:Sc} (bD:e.ok) (fx:e.jl=false) (h1:e.head≠gO) (h2:e.head≠iq) (hΓ:z7 Γ) (v:Value) (L:List Nat) (w:World) (hv:bI L w v (rz e Γ)):
  ck Tryz.prog 155 [str e.head,v] w λr w'=>r=str (fm (bM e Γ))∧ak [] w w':=by
 rcases afq bD fx h1 h2 hΓ with⟨hn,hq⟩|⟨Ts,hk,hj,hq,hT⟩
 ·rw[hq];exact ae6 e.head (rz e Γ) (by have:=afr e Γ;omega) hn v L w hv
 ·rw[hq];exact afj e.head Ts hj hT v L w (hk▸hv)
def aft {e:Ex} {Γ:Sc} {k:Nat} (h:k<e.kids.length):(rz e Γ).take (k+1)=(rz e Γ).take k++[fm (bM (fL e k) Γ)]:=by
 rw[List.take_add_one]
 simp[rz,fL,gE h]
def Ur:∀(m:Nat) (e:Ex),e.n<=m->e.n<=1000->e.ok->∀(Γ:Sc),Γ.length+2*e.n<=100000->z7 Γ->∀(v vn vt:Value) (L:List Nat) (w:World),(∀x,x∈L->x<w.heap.size)->bT L w v e.av->bI L w vn (Γ.map Prod.fst)->bI L w vt (Γ.map λp=>p.2.text)->
  ck Tryz.prog 114 [v,vn,vt] w λr w'=>r=str (fm (bM e Γ))∧ak [] w w':=by
 intro m
 induction m with
 |zero=>intro e h;have:=e.pos;omega
 |succ m ih=>
  intro e hm mY bD Γ hΓl hΓ v vn vt L w lT hv kj fb
  obtain⟨a,np,c,rfl,hn,bc⟩:=dO hv
  subst hn
  obtain⟨an,nn,cn,rfl,rm⟩:=eP kj
  obtain⟨ay,ny,Gv,rfl,IC⟩:=eP fb
  have hK:=ak.refl [] w
  have gi:(Γ.map Prod.fst).length=Γ.length:=by simp
  have ja:(Γ.map λp=>p.2.text).length=Γ.length:=by simp
  have IS:=F3 e
  refine cX [.tmp 6] 132 Tryz.func114 rfl XT rfl rfl ?_
  refine zr<|fG rfl ?_
  intro w1 aK bR eh
  have hK:=hK.ext aK;have bc:=bc.ext aK;have kj:=kj.ext aK;have fb:=fb.ext aK
  refine zA<|ag<|aQ<|zr<|zf dB rfl<|zl cm rfl (bR.at rfl)<|jI rfl rfl rfl rfl<|ag<|zc rfl (λh1=>?_) (λh1=>?_)
  have aR:∃x,e= .at x:=(by have ha:=(vu bD).1 h1;cases e<;>first|exact⟨_,rfl⟩|cases ha)
  obtain⟨x,rfl⟩:=aR
  refine aQ<|zr<|zf dB rfl<|zl cm rfl (bR.at rfl)<|aC (vh _ _) ?_
  rintro _ _ ⟨rfl,rfl⟩
  refine ag<|zc rfl (λh2=>?_) (λh2=>?_)
  have hq:bM (.at x) Γ=look Γ x:=iP h2
  refine zr<|zm<|zm<|zf dB rfl<|zl cm rfl (bR.at rfl)<|aC (F1 (Γ.map Prod.fst) (Γ.map λp=>p.2.text) om om x _ _ _ _ w1 kj fb) ?_
  rintro v2 w2 ⟨dC,aq⟩
  have eH:=aq.size
  have hK:=hK.ext aq
  obtain rfl:=dC
  refine zA<|ag<|aV ?_
  have yn:=Tq x Γ
  rw[<-gi] at yn
  exact⟨_,rfl,cA (λz=>str z) (by rw[hq,<-afp];exact yn),hK⟩
  have hq:bM (.at x) Γ=some .i:=iN (λhh=>Bool.noConfusion (hh.symm.trans h2))
  refine bz<|zr<|zA<|ag<|aV ?_
  exact⟨_,rfl,by rw[hq];rfl,hK⟩
  have fx:e.jl=false:=(by cases hh:e.jl;rfl;exact absurd ((vu bD).2 hh) h1)
  obtain⟨F4,pK,jJ,wM⟩:=Ex.au fx
  obtain⟨jU,DV,DW⟩:=F2 bD fx
  obtain⟨b0,AB,xL,xM,e0,p7,kA⟩:=fK bc jU
  cases e0
  have p7:=p7.cells
  refine bz<|aQ<|zr<|zf cN rfl<|zl cK rfl (bR.at rfl)<|zi (i:=0) cw aH rfl rfl jU<|zf dB rfl<|zl cm rfl (p7 0 _ rfl)<|ag<|cS<|zr<|cY rfl rfl<|zA<|ag<|zc rfl (λh3=>?_) (λh3=>?_)
  obtain⟨nx,ea,eb,rfl⟩:=IZ bD (jJ.symm.trans h3)
  have wP:(Ex.lt nx ea eb).n=2+ea.n+eb.n:=rfl
  have I3:(Ex.lt nx ea eb).av.au.length=4:=rfl
  obtain⟨b1,ga,gZ,ia,e1,bC,dh⟩:=fK bc (i:=1) om
  cases e1
  obtain⟨b2,nu,jd,je,e2,bY,ew⟩:=fK bc (i:=2) om
  cases e2
  have ew:bT L _ _ ea.av:=ew
  obtain⟨b3,B8,pZ,p3,e3,eu,fa⟩:=fK bc (i:=3) om
  cases e3
  have fa:bT L _ _ eb.av:=fa
  refine zr<|zf cN rfl<|zl cK rfl (bR.at rfl)<|zi (i:=2) cw aH rfl rfl ((show 2<4 from om))<|zL bU aH rfl bY.cells rfl<|zm<|zm<|aC (ih ea om om bD.2.1 Γ om hΓ _ _ _ L w1 (λx hx=>lL (lT x hx) hK.size) ew kj fb) ?_
  rintro v2 w2 ⟨dC,aq⟩
  have eH:=aq.size
  have hK:=hK.ext aq;have kj:=kj.ext aq;have fb:=fb.ext aq;have bR:=bR.ext aq;have bC:=bC.ext aq;have eu:=eu.ext aq;have fa:=fa.ext aq
  obtain rfl:=dC
  refine zA<|ag<|aQ<|zr<|zm<|cY rfl rfl<|ag<|zc rfl (λh4=>?_) (λh4=>?_)
  have hz:bM ea Γ=none:=Uo h4
  have hq:bM (.lt nx ea eb) Γ=none:=(show(bM ea Γ).bind _=none from by rw[hz];rfl)
  refine zr<|zA<|ag<|aV ?_
  exact⟨_,rfl,by rw[hq];rfl,hK⟩
  obtain⟨A,hA⟩:=Up h4
  have hq:bM (.lt nx ea eb) Γ=bM eb (Γ++[(nx,A)]):=(show(bM ea Γ).bind _=_ from by rw[hA];rfl)
  have hGA:=Fo (x:=nx) hΓ (l7 hΓ hA)
  have hAt:fm (bM ea Γ)=A.text:=by rw[hA];rfl
  refine bz<|aQ ?_
  apply wE et 18 (rA 41 17++[6]) (rA 41 17++[6]) [[],[0],[1],[2],[],[],[5],[6],[7],[8],[9],[4,10],[],[],[13],[12,14],[3,11,15],[16]] [It.v _,It.v _,It.v _,It.v _,It.v _,It.v _,It.v _,It.v _,It.v _,It.v _,It.p (fun(v:Value) (ww:World)=>bI L ww v [nx]),It.p (fun(v:Value) (ww:World)=>bI L ww v (Γ.map Prod.fst++[nx])),It.v _,It.v _,It.p (fun(v:Value) (ww:World)=>bI L ww v [fm (bM ea Γ)]),It.p (fun(v:Value) (ww:World)=>bI L ww v ((Γ.map λp=>p.2.text)++[fm (bM ea Γ)])),It.v _,It.v _] de (by exact⟨λv w w' h k=>bI.ext h k,λv w w' h k=>bI.ext h k,λv w w' h k=>bI.ext h k,λv w w' h k=>bI.ext h k,trivial⟩)
  intro wd aB
  refine vc (λ_ _ _=>zf cN rfl pv) ?_
  refine vk aB (λx w3 aJ=>?_) ?_
  have bR:=bR.ext aJ
  refine zl cK rfl (bR.at rfl) ?_
  exact pv
  refine vk aB (λx w3 aJ=>?_) ?_
  refine zi (i:=3) cw aH rfl rfl ((show 3<4 from om)) ?_
  exact pv
  refine vk aB (λx w3 aJ=>?_) ?_
  have eu:=eu.ext aJ
  refine zL bU aH rfl eu.cells rfl ?_
  exact pv
  refine eK ?_
  refine vc (λ_ _ _=>zf cN rfl pv) ?_
  refine vk aB (λx w3 aJ=>?_) ?_
  have bR:=bR.ext aJ
  refine zl cK rfl (bR.at rfl) ?_
  exact pv
  refine vk aB (λx w3 aJ=>?_) ?_
  refine zi (i:=1) cw aH rfl rfl ((show 1<4 from om)) ?_
  exact pv
  refine vc (λ_ _ _=>zf dB rfl pv) ?_
  refine vk aB (λx w3 aJ=>?_) ?_
  have bC:=bC.ext aJ
  refine zl cm rfl (bC.cells 0 _ rfl) ?_
  exact pv
  refine vk aB (λx w3 aJ=>?_) ?_
  have hK:=hK.ext aJ
  refine gH bh bA rfl rfl ?_
  intro w4 aF Nw iU
  have hK:=hK.ext aF
  exact pf aF ((aY.eF [nx] Nw (λhx=>by have:=lT _ hx;have:=hK.size;have:=aJ.size;omega)))
  refine vk aB (λx w3 aJ=>?_) ?_
  have hK:=hK.ext aJ;have kj:=kj.ext aJ
  intro v10 d10
  refine aC (tV (Γ.map Prod.fst) [nx] so _ _ L w3 kj d10 (λx hx=>lL (lT x hx) hK.size)) ?_
  rintro v4 w4 ⟨eJ,aF⟩
  have gK:=aF.size
  have j6:=eJ
  exact pf aF j6
  refine eK ?_
  refine eK ?_
  refine vk aB (λx w3 aJ=>?_) ?_
  have hK:=hK.ext aJ
  refine gH bh bA rfl rfl ?_
  intro w4 aF B5 iU
  have hK:=hK.ext aF
  exact pf aF ((aY.eF [fm (bM ea Γ)] B5 (λhx=>by have:=lT _ hx;have:=hK.size;have:=aJ.size;omega)))
  refine vk aB (λx w3 aJ=>?_) ?_
  have hK:=hK.ext aJ;have fb:=fb.ext aJ
  intro lz d14
  refine aC (tV (Γ.map λp=>p.2.text) [fm (bM ea Γ)] so (.slice ay ny Gv) _ L w3 fb d14 (λx hx=>lL (lT x hx) hK.size)) ?_
  rintro v4 w4 ⟨eJ,aF⟩
  have gK:=aF.size
  have j6:=eJ
  exact pf aF j6
  refine vk aB (λx w3 aJ=>?_) ?_
  have hK:=hK.ext aJ;have fa:=fa.ext aJ
  intro v11 d11
  intro vA d15
  refine aC (ih eb om om bD.2.2 (Γ++[(nx,A)]) so hGA _ _ _ L w3 (λx hx=>lL (lT x hx) hK.size) fa (show bI L _ _ ((Γ++_).map _) from by rw[List.map_append];exact d11) (show bI L _ _ ((Γ++[(nx,A)]).map _) from by rw[List.map_append,List.map_singleton,<-hAt];exact d15)) ?_
  rintro v4 w4 ⟨eJ,aF⟩
  have gK:=aF.size
  obtain rfl:=eJ
  exact pk aF
  refine vc (λ_ _ _=>zA pv) ?_
  exact trivial
  intro x qC ub
  intro v10 d10
  intro v11 d11
  intro lz d14
  intro vA d15
  have hK:=hK.ext ub
  change OW _ _ _ _ [] (aM (aN _ x _) (zZ 41 [_,_,_,_,_,_,_,_,_,_,_,_,_,_,_,_,_]++[(6,_)])) _
  refine ag<|aV ?_
  exact⟨_,rfl,cA (λz=>str (fm z)) hq.symm,hK⟩
  have oX:e.head≠gO:=λhh=>h3 (jJ.trans hh)
  refine zr<|cY rfl rfl<|zA<|ag<|zc rfl (λh5=>?_) (λh5=>?_)
  obtain⟨nf,nx,tA,tB,eb,rfl⟩:=I0 bD (jJ.symm.trans h5)
  have wP:(Ex.fn nf nx tA tB eb).n=3+tA.n+tB.n+eb.n:=rfl
  have I7:(Ex.fn nf nx tA tB eb).av.au.length=6:=rfl
  obtain⟨b1,ga,gZ,ia,e1,bC,dh⟩:=fK bc (i:=1) om
  cases e1
  obtain⟨b2,nu,jd,je,e2,bY,ew⟩:=fK bc (i:=2) om
  cases e2
  obtain⟨b3,B8,pZ,p3,e3,eu,fa⟩:=fK bc (i:=3) om
  cases e3
  have fa:bT L _ _ tA.av:=fa
  obtain⟨b4,afw,MF,MG,e4,jL,p4⟩:=fK bc (i:=4) om
  cases e4
  have p4:bT L _ _ tB.av:=p4
  obtain⟨b5,afx,Eg,Eh,e5,j1,nD⟩:=fK bc (i:=5) om
  cases e5
  have nD:bT L _ _ eb.av:=nD
  have hAz:=tA.size
  have hBz:=tB.size
  have MC:=tA.len
  have MD:=tB.len
  refine zr<|zf cN rfl<|zl cK rfl (bR.at rfl)<|zi (i:=3) cw aH rfl rfl ((show 3<6 from om))<|zL bU aH rfl eu.cells rfl<|aC (tI tA.av.size tA.av (lR _) tA.oJ.wf om (show tA.text.length<=100000000 from om) _ _ w1 fa) ?_
  rintro v2 w2 ⟨dC,aq⟩
  have eH:=aq.size
  have hK:=hK.ext aq;have kj:=kj.ext aq;have fb:=fb.ext aq;have bR:=bR.ext aq;have bC:=bC.ext aq;have bY:=bY.ext aq;have jL:=jL.ext aq;have j1:=j1.ext aq;have p4:=p4.ext aq;have nD:=nD.ext aq
  obtain rfl:=dC
  refine zA<|ag<|zr<|zf cN rfl<|zl cK rfl (bR.at rfl)<|zi (i:=4) cw aH rfl rfl ((show 4<6 from om))<|zL bU aH rfl jL.cells rfl<|aC (tI tB.av.size tB.av (lR _) tB.oJ.wf om (show tB.text.length<=100000000 from om) _ _ w2 p4) ?_
  rintro v3 w3 ⟨er,aJ⟩
  have gd:=aJ.size
  have hK:=hK.ext aJ;have kj:=kj.ext aJ;have fb:=fb.ext aJ;have bR:=bR.ext aJ;have bC:=bC.ext aJ;have bY:=bY.ext aJ;have j1:=j1.ext aJ;have nD:=nD.ext aJ
  obtain rfl:=er
  refine zA<|ag<|zr<|zm<|zm<|aC (Tc true tA tB bD.2.2.2.1 bD.2.2.2.2.1 w3) ?_
  rintro v4 w4 ⟨eJ,aF⟩
  have gK:=aF.size
  have hK:=hK.ext aF;have kj:=kj.ext aF;have fb:=fb.ext aF;have bR:=bR.ext aF;have bC:=bC.ext aF;have bY:=bY.ext aF;have j1:=j1.ext aF;have nD:=nD.ext aF
  obtain rfl:=eJ
  have Us:∀x,x∈L->x<w4.heap.size:=(λx hx=>lL (lT x hx) hK.size)
  refine zm<|zx (i:=0) rfl rfl<|zx (i:=1) rfl rfl<|zA<|zA<|ag<|aQ<|aQ ?_
  refine ji (λ_:Unit=>[(10,str (if 1+tA.n+tB.n<=16 then(Ty.op true tA tB).text else[])),(104,.bool (!decide (1+tA.n+tB.n<=16)||decide (fm (bM eb (Γ++[(nf,.op true tA tB),(nx,tA)]))≠tB.text)))]) (λ_ w'=>ak [] w w'∧ak [] w4 w') ?_ ?_
  rcases Classical.em (1+tA.n+tB.n<=16) with lv|lv
  apply wE et 29 (rA 76 29) (rA 76 29) [[],[0],[1],[2],[2,3],[2,4],[2,5],[2],[2],[2,8],[2,9],[2,10],[2,11],[2],[2,13],[2,14],[2,15],[2,16],[2,12,17],[2,7,18],[2],[2],[2],[2,21,22],[2,20,23],[2,6,19,24],[2],[2,25,26],[2,27]] [It.v _,It.v _,It.v (.bool false),It.v _,It.v _,It.v _,It.v _,It.v _,It.v _,It.v _,It.v _,It.v _,It.v _,It.v _,It.v _,It.v _,It.v _,It.v _,It.p (fun(v:Value) (ww:World)=>bI L ww v [nf,nx]),It.p (fun(v:Value) (ww:World)=>bI L ww v (Γ.map Prod.fst++[nf,nx])),It.v _,It.v _,It.v _,It.p (fun(v:Value) (ww:World)=>bI L ww v [(if 1+tA.n+tB.n<=16 then(Ty.op true tA tB).text else[]),tA.text]),It.p (fun(v:Value) (ww:World)=>bI L ww v ((Γ.map λp=>p.2.text)++[(if 1+tA.n+tB.n<=16 then(Ty.op true tA tB).text else[]),tA.text])),It.v _,It.v _,It.v _,It.v _] de (by exact⟨λv w w' h k=>bI.ext h k,λv w w' h k=>bI.ext h k,λv w w' h k=>bI.ext h k,λv w w' h k=>bI.ext h k,trivial⟩)
  intro wd aB
  refine eK ?_
  refine vc (λ_ _ _=>eM rfl pv) ?_
  refine vc (λx w5 aU=>?_) ?_
  refine zm ?_
  exact pv (by exact cA Value.bool (show(!decide (1+tA.n+tB.n<=16))=false from by rw[dT lv];rfl))
  refine vc (λ_ _ _=>zf cN rfl pv) ?_
  refine vk aB (λx w5 aU=>?_) ?_
  have bR:=bR.ext aU
  refine zl cK rfl (bR.at rfl) ?_
  exact pv
  refine vk aB (λx w5 aU=>?_) ?_
  refine zi (i:=5) cw aH rfl rfl ((show 5<6 from om)) ?_
  exact pv
  refine vk aB (λx w5 aU=>?_) ?_
  have j1:=j1.ext aU
  refine zL bU aH rfl j1.cells rfl ?_
  exact pv
  refine eK ?_
  refine vc (λ_ _ _=>zf cN rfl pv) ?_
  refine vk aB (λx w5 aU=>?_) ?_
  have bR:=bR.ext aU
  refine zl cK rfl (bR.at rfl) ?_
  exact pv
  refine vk aB (λx w5 aU=>?_) ?_
  refine zi (i:=1) cw aH rfl rfl ((show 1<6 from om)) ?_
  exact pv
  refine vc (λ_ _ _=>zf dB rfl pv) ?_
  refine vk aB (λx w5 aU=>?_) ?_
  have bC:=bC.ext aU
  refine zl cm rfl (bC.cells 0 _ rfl) ?_
  exact pv
  refine vc (λ_ _ _=>zf cN rfl pv) ?_
  refine vk aB (λx w5 aU=>?_) ?_
  have bR:=bR.ext aU
  refine zl cK rfl (bR.at rfl) ?_
  exact pv
  refine vk aB (λx w5 aU=>?_) ?_
  refine zi (i:=2) cw aH rfl rfl ((show 2<6 from om)) ?_
  exact pv
  refine vc (λ_ _ _=>zf dB rfl pv) ?_
  refine vk aB (λx w5 aU=>?_) ?_
  have bY:=bY.ext aU
  refine zl cm rfl (bY.cells 0 _ rfl) ?_
  exact pv
  refine vk aB (λx w5 aU=>?_) ?_
  refine lq bh bA rfl rfl rfl rfl ?_
  intro w6 bF afy lI
  exact pf bF ((aY.eF [nf,nx] afy (λhx=>by have:=Us _ hx;have:=aU.size;omega)))
  refine vk aB (λx w5 aU=>?_) ?_
  have hK:=hK.ext aU;have kj:=kj.ext aU
  intro wZ d18
  refine aC (tV (Γ.map Prod.fst) [nf,nx] so (.slice an nn cn) _ L w5 kj d18 (λx hx=>lL (lT x hx) hK.size)) ?_
  rintro v6 w6 ⟨lx,bF⟩
  have oS:=bF.size
  have j6:=lx
  exact pf bF j6
  refine eK ?_
  refine eK ?_
  refine eK ?_
  refine vk aB (λx w5 aU=>?_) ?_
  refine lq bh bA rfl rfl rfl rfl ?_
  intro w6 bF Nx lI
  exact pf bF ((aY.eF [(if 1+tA.n+tB.n<=16 then(Ty.op true tA tB).text else[]),tA.text] Nx (λhx=>by have:=Us _ hx;have:=aU.size;omega)))
  refine vk aB (λx w5 aU=>?_) ?_
  have hK:=hK.ext aU;have fb:=fb.ext aU
  intro M8 d23
  refine aC (tV (Γ.map λp=>p.2.text) [(if 1+tA.n+tB.n<=16 then(Ty.op true tA tB).text else[]),tA.text] so (.slice ay ny Gv) _ L w5 fb d23 (λx hx=>lL (lT x hx) hK.size)) ?_
  rintro v6 w6 ⟨lx,bF⟩
  have oS:=bF.size
  have j6:=lx
  exact pf bF j6
  refine vk aB (λx w5 aU=>?_) ?_
  have hK:=hK.ext aU;have nD:=nD.ext aU
  intro Gw d19
  intro v24 d24
  refine aC (ih eb om om bD.2.2.2.2.2 (Γ++[(nf,.op true tA tB),(nx,tA)]) so (by have:=Fo (x:=nx) (Fo (x:=nf) hΓ (T:=.op true tA tB) (show 1+tA.n+tB.n<=16 from lv)) bD.2.2.2.1;simpa using this) _ _ _ L w5 (λx hx=>lL (lT x hx) hK.size) nD (show bI L _ _ (List.map _ (Γ++[(nf,.op true tA tB),(nx,tA)])) from by rw[List.map_append];exact d19) (show bI L _ _ (List.map _ (Γ++[(nf,.op true tA tB),(nx,tA)])) from by rw[iP lv] at d24;rw[List.map_append];exact d24)) ?_
  rintro v6 w6 ⟨lx,bF⟩
  have oS:=bF.size
  obtain rfl:=lx
  exact pk bF
  refine eK ?_
  refine vk aB (λx w5 aU=>?_) ?_
  refine jI rfl rfl rfl rfl ?_
  exact pv
  refine vc (λ_ _ _=>zp rfl pv) ?_
  exact trivial
  intro x p5 jT
  intro wZ d18
  intro Gw d19
  intro M8 d23
  intro v24 d24
  have hK:=hK.ext jT
  change OW _ _ _ _ [] (aM (aN _ x _) (zZ 76 [_,_,_,_,_,_,_,_,_,_,_,_,_,_,_,_,_,_,_,_,_,_,_,_,_,_,_,_,_])) _
  refine ag ?_
  exact⟨(),⟨rfl,cA Value.bool (show decide (fm (bM eb (Γ++[(nf,.op true tA tB),(nx,tA)]))≠tB.text)=_ from by rw[dT lv];rfl)⟩,hK,jT⟩
  apply mv et 29 (rA 76 29) (rA 76 29) [[],[0],[1],[2],[2,3],[2,4],[2,5],[2],[2],[2,8],[2,9],[2,10],[2,11],[2],[2,13],[2,14],[2,15],[2,16],[2,12,17],[2,7,18],[2],[2],[2],[2,21,22],[2,20,23],[2,6,19,24],[2],[2,25,26],[2,27]] [It.v _,It.v _,It.v (.bool true),It.v _,It.v _,It.v _,It.v _,It.v _,It.v _,It.v _,It.v _,It.v _,It.v _,It.v _,It.v _,It.v _,It.v _,It.v _,It.v _,It.v _,It.v _,It.v _,It.v _,It.v _,It.v _,It.v _,It.v _,It.v _,It.v _] de rfl
  intro wd aB
  refine eK ?_
  refine vc (λ_ _ _=>eM rfl pv) ?_
  refine vc (λx w5 aU=>?_) ?_
  refine zm ?_
  exact pv (by exact cA Value.bool (show(!decide (1+tA.n+tB.n<=16))=true from by rw[dF lv];rfl))
  refine vc (λx w5 aU=>?_) ?_
  exact dv pv
  refine vk aB (λx w5 aU=>?_) ?_
  exact dv pv
  refine vk aB (λx w5 aU=>?_) ?_
  exact dv pv
  refine vk aB (λx w5 aU=>?_) ?_
  exact dv pv
  refine vc (λx w5 aU=>?_) ?_
  exact dv pv
  refine vc (λx w5 aU=>?_) ?_
  exact dv pv
  refine vk aB (λx w5 aU=>?_) ?_
  exact dv pv
  refine vk aB (λx w5 aU=>?_) ?_
  exact dv pv
  refine vc (λx w5 aU=>?_) ?_
  exact dv pv
  refine vk aB (λx w5 aU=>?_) ?_
  exact dv pv
  refine vc (λx w5 aU=>?_) ?_
  exact dv pv
  refine vk aB (λx w5 aU=>?_) ?_
  exact dv pv
  refine vk aB (λx w5 aU=>?_) ?_
  exact dv pv
  refine vc (λx w5 aU=>?_) ?_
  exact dv pv
  refine vk aB (λx w5 aU=>?_) ?_
  exact dv pv
  refine vk aB (λx w5 aU=>?_) ?_
  exact dv pv
  refine vk aB (λx w5 aU=>?_) ?_
  exact dv pv
  refine vc (λx w5 aU=>?_) ?_
  exact dv pv
  refine vc (λx w5 aU=>?_) ?_
  exact dv pv
  refine vc (λx w5 aU=>?_) ?_
  exact dv pv
  refine vk aB (λx w5 aU=>?_) ?_
  exact dv pv
  refine vk aB (λx w5 aU=>?_) ?_
  exact dv pv
  refine vk aB (λx w5 aU=>?_) ?_
  exact dv pv
  refine vc (λx w5 aU=>?_) ?_
  exact dv pv
  refine vk aB (λx w5 aU=>?_) ?_
  exact dv pv
  refine vc (λ_ _ _=>zp rfl pv) ?_
  exact trivial
  intro x p5 jT
  have hK:=hK.ext jT
  change OW _ _ _ _ [] (aM (aN _ x _) (zZ 76 [_,_,_,_,_,_,_,_,_,_,_,_,_,_,_,_,_,_,_,_,_,_,_,_,_,_,_,_,_])) _
  refine ag ?_
  exact⟨(),⟨rfl,cA Value.bool (show true=_ from by rw[dF lv];rfl)⟩,hK,jT⟩
  intro gu pW e45 hI
  obtain⟨hK,aG⟩:=hI
  refine zc rfl (λh6=>?_) (λh6=>?_)
  have hq:=(Uq (f:=nf) (x:=nx) (A:=tA) (B:=tB) (e:=eb) (Γ:=Γ)).trans (iP h6)
  refine zr<|zA<|ag<|aV ?_
  exact⟨_,rfl,cA (λz=>str z) hq.symm,hK⟩
  have hq:=(Uq (f:=nf) (x:=nx) (A:=tA) (B:=tB) (e:=eb) (Γ:=Γ)).trans (iN (by rw[h6];simp))
  have h16:1+tA.n+tB.n<=16:=(by simp at h6;exact h6.1)
  refine bz<|zr<|zm<|zA<|ag<|aV ?_
  exact⟨_,rfl,cA (λz=>str z) ((iP h16).trans hq.symm),hK⟩
  have rp:e.head≠iq:=λhh=>h5 (jJ.trans hh)
  have Ni:=bR
  have nz:=hK
  have afB:=bc
  have afC:=kj
  have afD:=fb
  have afE:=p7
  have hky:(rz e Γ).length=e.kids.length:=by simp[rz]
  refine bz<|zr<|gP bh bA ?_
  intro w2 aq afG eO
  have hK:=hK.ext aq;have bc:=bc.ext aq;have kj:=kj.ext aq;have fb:=fb.ext aq;have bR:=bR.ext aq;have p7:=p7.ext aq
  refine zA<|ag<|aQ<|zr<|zA<|ag<|cS ?_
  refine fY (λq:Nat×Value×Option Nat=>[(1,.slice an nn cn),(2,.slice ay ny Gv),(3,.pointer (some ⟨w.heap.size,0,none⟩)),(12,q.2.1),(13,.int .i64 ((e.from+q.1:Nat):Int))]) (λq ww=>ak [] w1 ww∧dj ww 9 q.2.1 q.2.2 ((rz e Γ).take q.1)∧(∀x,x∈q.2.2.toList->w1.heap.size<=x)∧q.1<=e.kids.length) (λq=>e.kids.length-q.1) ((0,.slice (some ⟨w1.heap.size,0,none⟩) 0 0,some w1.heap.size)) (⟨rfl,rfl,rfl,rfl,by rw[Ub fx oX rp];rfl⟩) (⟨aq,by simpa using afG.lr,sm,sm⟩) ?_
  intro gg w3 e3 hI
  obtain⟨k,vl,gl⟩:=gg
  dsimp only at hI⊢
  obtain⟨du,hO,gJ,hk⟩:=hI
  have hK:=nz.ext du
  have bc:=afB.ext du
  have kj:=afC.ext du
  have fb:=afD.ext du
  have bR:=Ni.ext du
  have p7:=afE.ext du
  refine aQ<|zr<|zm<|zf cN rfl<|zl cK rfl (bR.at rfl)<|dZ cw rfl<|fA rfl rfl rfl<|ag<|zc rfl (λh7=>?_) (λh7=>?_)
  have iw:k<e.kids.length:=om
  have sP:=wM k iw
  obtain⟨b1,ga,gZ,ia,e1,bC,dh⟩:=fK bc (i:=e.from+k) om
  cases e1
  have dh:=dh.eq sP
  have tW:=Fm bD iw
  have Bj:=yl iw
  have hkN:=B4 e (k+1)
  have bg:=aft (Γ:=Γ) iw
  refine bz<|aQ<|cS<|df<|zm<|zf cN rfl<|zl cK rfl (bR.at rfl)<|zm<|zi cw aH rfl rfl om<|zL bU aH rfl bC.cells rfl<|zm<|zm<|aC (ih (fL e k) om om tW.1 Γ om hΓ _ (.slice an nn cn) (.slice ay ny Gv) L w3 (λx hx=>lL (lT x hx) hK.size) dh kj fb) ?_
  rintro v4 w4 ⟨eJ,aF⟩
  have gK:=aF.size
  have hK:=hK.ext aF;have hO:=hO.ext aF;have du:=du.ext aF
  obtain rfl:=eJ
  refine gH bh bA rfl rfl ?_
  intro w5 aU afH jr
  have hK:=hK.ext aU;have hO:=hO.ext aU;have du:=du.ext aU
  refine se bh bA rfl rfl rfl rfl rfl rfl hO afH (by rw[List.length_take];omega) ?_
  intro v9 g9 w6 dL aG fN
  rw[<-bg] at dL
  have Gq:=du.size
  have du:=du.since aG (λx hx=>.inr (gJ x hx))
  have hK:=nz.ext du
  have afI:∀x,x∈g9.toList->w1.heap.size<=x:=(λx hx=>by rcases fN with h|h;(·exact gJ x (h▸hx));(·rw[h] at hx;simp at hx;omega))
  refine zA<|ag<|df<|zm<|eI rfl rfl rfl (wrap_i64 _ om om)<|zA<|ag ?_
  exact⟨(k+1,v9,g9),⟨rfl,rfl,rfl,rfl,cA (Value.int .i64) om⟩,⟨du,dL,afI,om⟩,by simp;omega⟩
  have afJ:k=e.kids.length:=by omega
  subst afJ
  rw[List.take_of_length_le (by rw[hky];exact lR _)] at hO
  refine gD<|gF rfl<|zr<|zf cN rfl<|zl cK rfl (bR.at rfl)<|zi (i:=0) cw aH rfl rfl jU<|zf dB rfl<|zl cm rfl (p7 0 _ rfl)<|zm<|aC ((jJ▸afs bD fx oX rp hΓ _ _ w3 hO.rs)) ?_
  rintro v4 w4 ⟨eJ,aF⟩
  have gK:=aF.size
  have hK:=hK.ext aF
  obtain rfl:=eJ
  refine zA<|ag<|aV ?_
  exact⟨_,rfl,rfl,hK⟩
def Co (s x:aj):Prop:=(my s=false->x=[])∧∀e:Ex,ba s=some e.av->e.ok->e.n<=120->x=fm (bM e [])
def Ut {s x y:aj} (hx:Co s x) (hy:Co s y):x=y:=by
 cases h:my s with
 |false=>rw[hx.1 h,hy.1 h]
 |true=>
  obtain⟨e,he,bD,hn⟩:=wK.1 h
  rw[hx.2 e he bD hn,hy.2 e he bD hn]
def afK {e:Ex} (h:cG e [] []≠[]):bM e []=none:=by
 cases ht:bM e [] with
 |none=>rfl
 |some T=>
  exfalso
  cases hf:cG e [] [] with
  |nil=>exact h hf
  |cons y ys=>
   have hy:y∈cG e [] []:=by rw[hf];simp
   rcases(qv y e [] []).1 hy with h1|⟨h1,_⟩
   ·cases h1
   ·have:=pP ht h1;simp[look] at this
def Uu (s:aj) (w:World):ck Tryz.prog 83 [str s] w λr w'=>(∃x,r=str x∧Co s x)∧ak [] w w':=by
 have hK:=ak.refl [] w
 refine cX [.tmp 2] 21 Tryz.func83 rfl ZD rfl rfl ?_
 refine zr<|zA<|ag<|zr<|zm<|aC (F0 s [] w sm) ?_
 rintro v1 w1 ⟨fO,aK⟩
 have dS:=aK.size
 have hK:=hK.ext aK
 obtain⟨t,tv,rfl,ht,hp⟩:=fO
 obtain⟨pa,pn,pc,rfl,fR,bc⟩:=dO ht
 refine zm<|zx (i:=0) rfl rfl<|zx (i:=1) rfl rfl<|eD aH rfl rfl rfl ?_
 intro w2 aq bR eO
 have hK:=hK.grow;have hK:=hK.ext aq;have ht:=ht.grow;have ht:=ht.ext aq
 refine dw aH rfl rfl rfl bR rfl ?_
 intro w3 aJ bR iJ
 have hK:=hK.aL aJ sx;have ht:=ht.aL aJ sx
 refine zA<|ag<|aQ<|zr<|zm<|eM rfl<|zm<|xw (t:=12) rfl (λh1=>?_) (λh1=>?_)
 replace h1:=bw h1
 have hx:my s=false:=by simpa using h1
 refine zs<|zs<|zs<|zp rfl<|ag<|zc rfl (λh2=>?_) (λh2=>?_)
 refine zr<|zA<|ag<|aV ?_
 exact⟨_,rfl,⟨[],rfl,λ_=>rfl,λe h1 h2 h3=>by rw[wK.2 ⟨e,h1,h2,h3⟩] at hx;cases hx⟩,hK⟩
 simp at h2
 replace h1:=bw h1
 have hx:my s=true:=by simpa using h1
 obtain⟨e,he,bD,hn⟩:=wK.1 hx
 have e2:=hp.1 _ he
 subst e2
 have Ee:∀{e':Ex},ba s=some e'.av->e'.ok->e'=e:=(λh1 h2=>qE h2 bD (Option.some.inj (h1.symm.trans he)))
 refine zm<|aC (adD s w3) ?_
 rintro v4 w4 ⟨eJ,aF⟩
 have gK:=aF.size
 have hK:=hK.ext aF;have ht:=ht.ext aF;have bR:=bR.ext aF
 obtain⟨b9,rfl,cV⟩:=eJ
 refine eM rfl<|zp rfl<|ag<|zc rfl (λh3=>?_) (λh3=>?_)
 have jU:b9=false:=(by simpa using h3)
 have nM:cG e [] []≠[]:=(λh=>by have:=cV.2 ⟨e,he,bD,hn,h⟩;rw[jU] at this;cases this)
 refine zr<|zA<|ag<|aV ?_
 exact⟨_,rfl,⟨[],rfl,λh=>rfl,λe' h1 h2 h3=>by rw[Ee h1 h2,afK nM];rfl⟩,hK⟩
 refine bz<|zr<|zL bU aH rfl bR.all rfl<|gP bh bA ?_
 intro w5 aU kl jr
 have hK:=hK.ext aU;have ht:=ht.ext aU
 refine gP bh bA ?_
 intro w6 bF Cn lI
 have hK:=hK.ext bF;have ht:=ht.ext bF
 refine aC (Ur 120 e hn om bD [] so (λs T h=>by simp[look] at h) _ _ _ [] w6 sm (ht.jk sm) (cF.nil _ _ _) (cF.nil _ _ _)) ?_
 rintro v7 w7 ⟨iV,cz⟩
 have po:=cz.size
 have hK:=hK.ext cz
 obtain rfl:=iV
 refine zA<|ag<|aV ?_
 have hcy:Co s (fm (bM e [])):=⟨(λh=>by rw[hx] at h;cases h),λe' h1 h2 h3=>by rw[Ee h1 h2]⟩
 exact⟨_,rfl,⟨_,rfl,hcy⟩,hK⟩
def afM (s:aj) (w:World):ck Tryz.prog 80 [str s] w λr w'=>(∃b,r= .bool b∧∀x,Co s x->b=decide (x≠[]))∧ak [] w w':=by
 have hK:=ak.refl [] w
 refine cX [.tmp 2] 6 Tryz.func80 rfl ZA rfl rfl ?_
 refine zr<|zA<|ag<|zr<|zm<|aC (Uu s w) ?_
 rintro v1 w1 ⟨fO,aK⟩
 have dS:=aK.size
 have hK:=hK.ext aK
 obtain⟨x,rfl,hx⟩:=fO
 refine jI rfl rfl rfl rfl<|zA<|ag<|aV ?_
 exact⟨_,rfl,⟨_,rfl,λy hy=>by rw[Ut hx hy]⟩,hK⟩
def Gx (s:aj) (hs:s.length<=1000000) (w:World):ck Tryz.prog 142 [str s] w λr w'=>r=str (dX s)∧ak [] w w':=by
 have hK:=ak.refl [] w
 refine cX [.tmp 2] 6 Tryz.func142 rfl Yh rfl rfl ?_
 refine zr<|zA<|ag<|zr<|zm<|cu rfl rfl so<|cu rfl rfl so<|zA<|ag<|aV ?_
 exact⟨_,rfl,rfl,hK⟩
def afN:∀(m:Nat) (T:Ty),T.n<=m->T.n<=60->∀(v:Value) (L:List Nat) (w:World),bT L w v T.av->ck Tryz.prog 150 [v] w λr w'=>r=str (bL T)∧ak [] w w':=by
 intro m
 induction m with
 |zero=>intro T h;have:=T.pos;omega
 |succ m ih=>
  intro T hm mY v L w hv
  obtain⟨a,np,c,rfl,hn,bc⟩:=dO hv
  subst hn
  have hK:=ak.refl [] w
  refine cX [.tmp 2] 37 Tryz.func150 rfl Yp rfl rfl ?_
  refine zr<|fG rfl ?_
  intro w1 aK aT eh
  have hK:=hK.ext aK;have bc:=bc.ext aK
  refine zA<|ag<|aQ<|zr<|zf dB rfl<|zl cm rfl (aT.at rfl)<|jI rfl rfl rfl rfl<|ag<|zc rfl (λh1=>?_) (λh1=>?_)
  have hi:T= .i:=(by cases T with|i=>rfl|op g a b=>exact absurd rfl h1)
  refine zr<|zA<|ag<|aV ?_
  exact⟨_,rfl,cA (λz=>str z) (by rw[hi,RV]),hK⟩
  have aR:∃g A B,T= .op g A B:=(by cases T with|i=>exact absurd h1 de|op g a b=>exact⟨g,a,b,rfl⟩)
  obtain⟨g,A,B,rfl⟩:=aR
  have wP:(Ty.op g A B).n=1+A.n+B.n:=rfl
  have Ny:(Ty.op g A B).av.au.length=3:=rfl
  obtain⟨b0,AB,xL,xM,e0,eC,hT0⟩:=fK bc (i:=0) om
  cases e0
  have eC:jb L _ _ _ [str (kt g),_]:=eC
  obtain⟨b1,ga,gZ,ia,e1,bC,dh⟩:=fK bc (i:=1) om
  cases e1
  have dh:bT L _ _ A.av:=dh
  obtain⟨b2,nu,jd,je,e2,bY,ew⟩:=fK bc (i:=2) om
  cases e2
  have ew:bT L _ _ B.av:=ew
  have MC:=BP A
  have MD:=BP B
  have T2:=LO (bL B)
  refine bz<|zr<|zf cN rfl<|zl cK rfl (aT.at rfl)<|zi (i:=1) cw aH rfl rfl ((show 1<3 from om))<|zL bU aH rfl bC.cells rfl<|aC (ih A om om _ L w1 dh) ?_
  rintro v2 w2 ⟨dC,aq⟩
  have eH:=aq.size
  have hK:=hK.ext aq;have aT:=aT.ext aq;have eC:=eC.ext aq;have bY:=bY.ext aq;have ew:=ew.ext aq
  obtain rfl:=dC
  refine zA<|ag<|zr<|zf cN rfl<|zl cK rfl (aT.at rfl)<|zi (i:=2) cw aH rfl rfl ((show 2<3 from om))<|zL bU aH rfl bY.cells rfl<|aC (ih B om om _ L w2 ew) ?_
  rintro v3 w3 ⟨er,aJ⟩
  have gd:=aJ.size
  have hK:=hK.ext aJ;have aT:=aT.ext aJ;have eC:=eC.ext aJ
  obtain rfl:=er
  refine zA<|ag<|aQ<|zr<|zf cN rfl<|zl cK rfl (aT.at rfl)<|zi (i:=0) cw aH rfl rfl ((show 0<3 from om))<|zf dB rfl<|zl cm rfl (eC.cells 0 _ rfl)<|cY rfl rfl<|ag<|zc rfl (λh2=>?_) (λh2=>?_)
  have hg:g=false:=(by cases g with|false=>rfl|true=>exact absurd h2 de)
  refine zr<|zm<|cu rfl rfl so<|cu rfl rfl so<|zm<|cu rfl rfl so<|cu rfl rfl so<|zA<|ag<|aV ?_
  exact⟨_,rfl,cA (λz=>str z) (by rw[hg,RW]),hK⟩
  have hg:g=true:=(by cases g with|true=>rfl|false=>exact absurd rfl h2)
  refine bz<|zr<|zm<|cu rfl rfl so<|cu rfl rfl so<|zm<|aC (Gx (bL B) om w3) ?_
  rintro v4 w4 ⟨eJ,aF⟩
  have gK:=aF.size
  have hK:=hK.ext aF
  obtain rfl:=eJ
  refine cu rfl rfl so<|cu rfl rfl so<|zA<|ag<|aV ?_
  exact⟨_,rfl,cA (λz=>str z) (by rw[hg,RX]),hK⟩
def vE (T:Ty) (hT:T.n<=60) (w:World):ck Tryz.prog 111 [str T.text] w λr w'=>r=str (bL T)∧ak [] w w':=by
 have hK:=ak.refl [] w
 refine cX [.tmp 2] 12 Tryz.func111 rfl XQ rfl rfl ?_
 refine zr<|zA<|ag<|zr<|zm<|aC (H3 T.text [] w sm) ?_
 rintro v1 w1 ⟨fO,aK⟩
 have dS:=aK.size
 have hK:=hK.ext aK
 obtain⟨t,tv,rfl,ht,hp⟩:=fO
 have e2:=hp.1 _ (Ty.ba hT)
 subst e2
 obtain⟨pa,pn,pc,rfl,fR,bc⟩:=dO ht
 refine zm<|zx (i:=0) rfl rfl<|zx (i:=1) rfl rfl<|eD aH rfl rfl rfl ?_
 intro w2 aq bR eO
 have hK:=hK.grow;have hK:=hK.ext aq;have ht:=ht.grow;have ht:=ht.ext aq
 refine dw aH rfl rfl rfl bR rfl ?_
 intro w3 aJ bR iJ
 have hK:=hK.aL aJ sx;have ht:=ht.aL aJ sx
 refine zA<|ag<|zr<|zL bU aH rfl bR.all rfl<|aC (afN 60 T hT hT _ [] w3 (ht.jk sm)) ?_
 rintro v4 w4 ⟨eJ,aF⟩
 have gK:=aF.size
 have hK:=hK.ext aF
 obtain rfl:=eJ
 refine zA<|ag<|aV ?_
 exact⟨_,rfl,rfl,hK⟩
def afO (h:aj) (w:World):ck Tryz.prog 186 [str h] w λr w'=>r=str (qz h)∧ak [] w w':=by
 have hK:=ak.refl [] w
 refine cX [.tmp 2] 10 Tryz.func186 rfl YN rfl rfl ?_
 refine zr<|zA<|ag<|aQ<|zr<|zm<|ag<|cS<|zr<|cY rfl rfl<|zA<|ag<|zc rfl (λh1=>?_) (λh1=>?_)
 have hq:qz h=[97,100,100]:=iP h1
 refine zr<|zA<|ag<|aV ?_
 exact⟨_,rfl,cA (λz=>str z) hq.symm,hK⟩
 have h1:=h1
 refine zr<|cY rfl rfl<|zA<|ag<|zc rfl (λh2=>?_) (λh2=>?_)
 have hq:qz h=[115,117,98]:=(iN h1).trans (iP h2)
 refine zr<|zA<|ag<|aV ?_
 exact⟨_,rfl,cA (λz=>str z) hq.symm,hK⟩
 have h2:=h2
 refine zr<|cY rfl rfl<|zA<|ag<|zc rfl (λh3=>?_) (λh3=>?_)
 have hq:qz h=[109,117,108]:=(iN h1).trans ((iN h2).trans (iP h3))
 refine zr<|zA<|ag<|aV ?_
 exact⟨_,rfl,cA (λz=>str z) hq.symm,hK⟩
 have hq:qz h=l8:=(iN h1).trans ((iN h2).trans (iN h3))
 refine bz<|zr<|zA<|ag<|aV ?_
 exact⟨_,rfl,cA (λz=>str z) hq.symm,hK⟩
def t8:sM:=⟨127,29,130,9⟩
def ei.open {τ:sM} {E L:List Nat} {w:World} {b:Nat} {o:Bool} {m:Mk} (h:ei τ E L w b o m):∃vb vt vc vy gb gt gc gy,aY w b [vb,vt,.int .i64 (m.count:Int),.bool m.wide,vc,vy].toArray τ.M∧gV τ E L w b o vb vt vc vy gb gt gc gy m:=h
structure eR (E L:List Nat) (w:World) (L':List Nat) (w':World):Prop where
 fr:Fr L w L' w'
 out:∃G,ak G w w'∧∀x,x∈G->x∉E
section
variable {E L L1 L2:List Nat} {w w1 w2:World}
def eR.refl (E L:List Nat) (w:World):eR E L w L w:=⟨Fr.refl _ _,[],ak.refl _ _,sm⟩
def eR.add (h:eR E L w L1 w1) (k:Fr L1 w1 L2 w2) {G:List Nat} (kg:ak G w1 w2) (hG:∀x,x∈G->x∉E):eR E L w L2 w2:=
 let⟨G0,k0,h0⟩:=h.out
 ⟨h.fr.go k,G0++G,(k0.mono λx hx=>List.mem_append_left _ hx).trans (kg.mono λx hx=>mR _ hx),λx hx=>(mA.1 hx).elim (h0 x) (hG x)⟩
def eR.go (h:eR E L w L1 w1) (k:eR E L1 w1 L2 w2):eR E L w L2 w2:=let⟨_,kg,hG⟩:=k.out;h.add k.fr kg hG
def eR.ext (h:eR E L w L1 w1) (k:ak [] w1 w2):eR E L w L1 w2:=h.add (Fr.of k sm) k sm
def eR.aL (h:eR E L w L1 w1) {x:Nat} (k:ak [x] w1 w2) (h1:x∈L1) (h2:x∉E):eR E L w L1 w2:=h.add (Fr.of k (by simpa using h1)) k (by simpa using h2)
def eR.tk (k:eR E L w L1 w1) {T:TypeId} {b:Nat} {t:Tk} (h:iu L w T b t) (hb:b∈E):iu L1 w1 T b t:=let⟨_,kg,hG⟩:=k.out;h.go k.fr kg λhx=>hG b hx hb
end
def afP (n:Nat) (hn:n<100000) (w:World):ck Tryz.prog 104 [.int .i64 ((n:Int)+1-1)] w λr w'=>r=str (bf n)∧ak [] w w':=by
 rw[Int.add_sub_cancel];exact iQ (n+1) n om om w
def Nz (m:Mk) (hc:m.count<100000) (E L:List Nat) (b:Nat) (o:Bool) (w:World) (h:ei t8 E L w b o m):
  ck Tryz.prog 184 [.pointer (some ⟨b,0,none⟩)] w λr w'=>(r=str m.aP∧ei t8 E L w' b o m.lO)∧ak [b] w w':=by
 obtain⟨vb,vt,vc,vy,gb,gt,gc,gy,bj,hS⟩:=h.open
 have bj:aY w b [vb,vt,.int .i64 (m.count:Int),.bool m.wide,vc,vy].toArray 127:=bj
 have hK:=ak.refl [b] w
 refine cX [.tmp 2] 18 Tryz.func184 rfl YL rfl rfl ?_
 refine zr<|zA<|ag<|zr<|zm<|zm<|dk rfl<|zf KE rfl<|zl qT rfl (bj.at rfl)<|eI rfl rfl rfl (wrap_i64 _ om om)<|dk rfl<|zf KE rfl<|gY (o:=2) tE rfl rfl rfl bj rfl ?_
 intro w1 aK bj dP
 have hS:=hS.aO aK sm
 have hK:=hK.trans aK
 refine ag<|zr<|zm<|dk rfl<|zf KE rfl<|zl qT rfl (bj.at rfl)<|mN rfl rfl rfl rfl rfl (wrap_i64 _ om om)<|aC ((afP m.count hc w1)) ?_
 rintro v2 w2 ⟨dC,aq⟩
 have eH:=aq.size
 have hK:=hK.ext aq;have bj:=bj.ext aq;have hS:=hS.ext aq
 obtain rfl:=dC
 refine cu rfl rfl (by have:=Dx _ m.count (lR _);simp;omega)<|zA<|ag<|aV ?_
 exact⟨_,rfl,⟨rfl,⟨_,_,_,_,_,_,_,_,bj,hS.num (m.count+1) m.wide⟩⟩,hK⟩
def sj (k:aj) (m:Mk) (hc:m.types.length<100000) (E L:List Nat) (b:Nat) (o:Bool) (w:World) (h:ei t8 E L w b o m):
  ck Tryz.prog 151 [.pointer (some ⟨b,0,none⟩),str k] w λr w'=>r= .int .i64 (m.types.length:Int)∧∃L',ei t8 E L' w' b o (m.dI k)∧eR E L w L' w':=by
 obtain⟨vb,vt,vc,vy,gb,gt,gc,gy,bj,hS⟩:=h.open
 have bj:aY w b [vb,vt,.int .i64 (m.count:Int),.bool m.wide,vc,vy].toArray 127:=bj
 have hR:=eR.refl E L w
 refine cX [.tmp 4] 30 Tryz.func151 rfl Yq rfl rfl ?_
 refine zr<|zA<|ag<|zr<|zm<|zm<|dk rfl<|zf zw rfl<|zl eS rfl (bj.at rfl)<|zm<|gH bh bA rfl rfl ?_
 intro w1 aK iE eh
 have hR:=hR.ext aK;have bj:=bj.ext aK;have hS:=hS.ext aK
 refine se bh bA rfl rfl rfl rfl rfl rfl hS.ty iE om ?_
 intro v9 g9 w2 dL aq fN
 obtain⟨a9,c9,e9⟩:=kv dL
 subst e9
 obtain⟨yw,nJ,vF,mF,vG,ug⟩:=hS.apart
 have rf:=hS.mem.2 (.inr (.inl rfl))
 obtain⟨L2,gk,jW⟩:=hS.LQ dL aq (λx hx=>fN.imp (λh=>h.symm.trans hx) (λh=>by rw[h] at hx;cases hx;exact lR _))
 have bj:=bj.aO aq (λh=>(ug b h).2.1 rfl)
 have hR:=hR.add jW aq (λx hx=>(ug x hx).1)
 refine dk rfl<|zf zw rfl<|gY (o:=5) nO rfl rfl rfl bj rfl ?_
 intro w3 aJ bj dP
 have gk:=gk.aO aJ sm
 have hR:=hR.aL aJ (gk.mem.2 (.inr (.inl rfl))) nJ
 refine ag<|aQ<|zr<|zm<|dk rfl<|zf zw rfl<|zl eS rfl (bj.at rfl)<|dZ bh rfl<|jz rfl rfl rfl rfl rfl<|ag ?_
 refine ji (λ_:Unit=>[(0,.pointer (some ⟨b,0,none⟩))]) (λ_ w'=>ak [b] w3 w'∧aY w' b [vb,vt,.int .i64 (m.count:Int),.bool (m.wide||decide (40<m.types.length+1)),vc,.slice a9 (m.types++[k]).length c9].toArray 127) ?_ ?_
 refine zc rfl (λh1=>?_) (λh1=>?_)
 have hd:decide (40<m.types.length+1)=true:=dT (by simp at h1;omega)
 refine df<|zm<|dk rfl<|zf PT rfl<|gY (o:=3) Z5 rfl rfl rfl bj rfl ?_
 intro w4 aF bj dP
 have Gy:=aF
 refine ag ?_
 exact⟨(),rfl,Gy,by rw[hd,Bool.or_true];exact bj⟩
 have hd:decide (40<m.types.length+1)=false:=dF (by simp at h1;omega)
 refine bz ?_
 exact⟨(),rfl,ak.refl _ _,by rw[hd,Bool.or_false];exact bj⟩
 intro gu w4 e4 hI
 obtain⟨Fx,bj⟩:=hI
 have gk:=gk.aO Fx sm
 have hR:=hR.aL Fx (gk.mem.2 (.inr (.inl rfl))) nJ
 refine zr<|zm<|dk rfl<|zf zw rfl<|zl eS rfl (bj.at rfl)<|dZ bh rfl<|mN rfl rfl rfl rfl rfl (wrap_i64 _ sx sx)<|zA<|ag<|aV ?_
 exact⟨_,rfl,cA (Value.int .i64) sm,L2,⟨_,_,_,_,_,_,_,_,bj,gk.num m.count (m.wide||decide (40<m.types.length+1))⟩,hR⟩
def gV.code {τ:sM} {E L:List Nat} {w:World} {b:Nat} {vb vt vc vy:Value} {gb gt gc gy:Option Nat} {m:Mk} (h:gV τ E L w b true vb vt vc vy gb gt gc gy m):dj w τ.S vc gc m.code:=by
 rcases h.co with⟨_,h⟩|⟨h,_⟩
 ·exact h
 ·cases h
def lk (hd:aj) (ps:List aj) (hl:(bO hd ps).length<=1000000) (m:Mk) (hc:m.code.length<100000) (E L:List Nat) (b:Nat) (v:Value) (w:World) (h:ei t8 E L w b true m) (hv:bI L w v ps):
  ck Tryz.prog 143 [.pointer (some ⟨b,0,none⟩),str hd,v] w λr w'=>∃L',ei t8 E L' w' b true (m.da hd ps)∧eR E L w L' w':=by
 obtain⟨vb,vt,vc,vy,gb,gt,gc,gy,bj,hS⟩:=h.open
 have bj:aY w b [vb,vt,.int .i64 (m.count:Int),.bool m.wide,vc,vy].toArray 127:=bj
 have hco:dj w 9 vc gc m.code:=by
  rcases hS.co with⟨_,h⟩|⟨h,_⟩
  ·exact h
  ·cases h
 obtain⟨yw,nJ,vF,mF,vG,ug⟩:=hS.apart
 have Cj:fy L w:=hS.db
 refine cX [] 18 Tryz.func143 rfl Yi rfl rfl ?_
 apply kf et L 12 (rA 6 12) (rA 6 12) [[],[],[1],[2],[3],[],[],[5,6],[7],[4,8],[0],[10]] [Ie.v _,Ie.v _,Ie.v _,Ie.v _,Ie.w 0 vc,Ie.v _,Ie.v _,Ie.v _,Ie.p (fun(G:List Nat) (v:Value) (ww:World)=>∃bb,v= .slice (some ⟨bb,0,none⟩) 1 1∧fi G ww bb [str (bO hd ps)].toArray 9),Ie.e 1,Ie.v _,Ie.v _] [4,9] [fun(G:List Nat) (vs:List Value) (ww:World)=>G=L∧ak [] w ww,fun(G:List Nat) (vs:List Value) (ww:World)=>G=L∧ak [] w ww,fun(G:List Nat) (vs:List Value) (ww:World)=>∃g2,ak gc.toList w ww∧gV t8 E G ww b true vb vt (vs.getD 1 undef) vy gb gt g2 gy {m with code:=m.code++[bO hd ps]}∧Fr L w G ww] de rfl Cj (by exact⟨λG v w G' w' ⟨bb,e,h⟩ k=>⟨bb,e,h.go k⟩,trivial⟩) (by exact⟨λG vs w w' ⟨h1,h2⟩ k=>⟨h1,h2.ext k⟩,λG vs w w' ⟨h1,h2⟩ k=>⟨h1,h2.ext k⟩,λG vs w w' ⟨g2,h1,h2,h3⟩ k=>⟨g2,h1.ext k,h2.ext k,h3.ext k⟩,trivial⟩) (⟨rfl,ak.refl _ _⟩)
 refine cT ?_
 refine cT ?_
 refine vf (λ_ _ _ _ _ _=>dk rfl fv) ?_
 refine vf (λ_ _ _ _ _ _=>zf Dc rfl fv) ?_
 refine ve 0 (λx w1 G1 aW qF qK hJ hlen=>?_) ?_
 have bo:=jR hlen
 subst bo
 obtain⟨cB,cD⟩:=hJ
 have ua:=bj.ext cD
 refine zl eS rfl (ua.at rfl) ?_
 exact fw G1 (Fr.refl _ _) qK (⟨cB,cD⟩)
 refine cT ?_
 refine cT ?_
 refine vf (λx w1 G1 aW qF qK=>?_) ?_
 have hv:=hv.go qF
 refine aC (xP hd ps om _ _ w1 hv) ?_
 rintro v2 w2 ⟨dC,aq⟩
 have eH:=aq.size
 obtain rfl:=dC
 exact fk aq
 refine vf (λx w1 G1 aW qF qK=>?_) ?_
 refine gH bh bA rfl rfl ?_
 intro w2 aq wU eO
 exact ff aq (⟨_,rfl,wU.o qK⟩)
 refine ve 1 (λx w1 G1 aW qF qK hJ hlen=>?_) ?_
 obtain⟨q0,bo⟩:=jS hlen
 subst bo
 intro v8 d8
 obtain⟨bb,e6,gz⟩:=d8
 subst e6
 obtain⟨cB,cD⟩:=hJ
 subst cB
 have Jl:=hS.ext cD
 have hcw:=hco.ext cD
 refine se bh bA rfl rfl rfl rfl rfl rfl hcw gz.jx om ?_
 intro v9 g9 w2 dL aG fN
 obtain⟨L2,gk,jW⟩:=Jl.Im dL aG (λx hx=>fN.imp (λh=>h.symm.trans hx) (λh=>by rw[h] at hx;cases hx;exact lR _))
 exact fe _ jW gk.db (⟨g9,cD.any.trans aG,gk,(Fr.of cD sm).go jW⟩)
 refine vf (λ_ _ _ _ _ _=>dk rfl fv) ?_
 refine vf (λ_ _ _ _ _ _=>zf Dc rfl fv) ?_
 exact trivial
 intro x Ls G40 aW Uv afT hJ hlen
 obtain⟨q0,q1,bo⟩:=lP hlen
 subst bo
 intro v8 d8
 change OW _ _ _ _ _ (aM (aN _ x _) (zZ 6 [_,_,_,_,_,_,_,_,_,_,_,_])) _
 obtain⟨g2,AE,gk,jW⟩:=hJ
 obtain⟨pw,px,Gl⟩:=kv gk.code
 have e8:q1=_:=Gl
 subst e8
 have bj:=bj.aO AE (λh=>(vG b h).2.1 rfl)
 refine gY (o:=4) nO rfl rfl rfl bj rfl ?_
 intro pY iC bj dP
 have gk:=gk.aO iC sm
 have hR:=((eR.refl E L w).add jW AE (λx hx=>(vG x hx).1)).aL iC (gk.mem.2 (.inr (.inl rfl))) nJ
 refine ag ?_
 exact⟨_,rfl,_,⟨_,_,_,_,_,_,_,_,bj,gk⟩,hR⟩
def Jt {hd:aj} {ps:List aj} (hh:hd.length<=100) (hp:ps.length<=10) (hs:∀p,p∈ps->p.length<=10001):(bO hd ps).length<=1000000:=by
 have h1:=Ar (m:=10001) ps hs
 have h2:ps.length*10002<=10*10002:=Nat.mul_le_mul hp (lR _)
 rw[lQ];omega
def Ei {n:Nat} (h:n<=10000):(bf n).length<=10001:=by have:=Dx _ n (lR _);omega
def ei.dN {τ:sM} {E L:List Nat} {w:World} {b:Nat} {o:Bool} {m:Mk} (h:ei τ E L w b o m):∀x,x∈L->x<w.heap.size:=h.mem.2.2.2
def Uw (m:Mk) (s:Nat) (hs:s<=10000) (ht:m.types.length<=9000) (hc:m.code.length<=9000) (E L:List Nat) (b:Nat) (w:World) (h:ei t8 E L w b true m):
  ck Tryz.prog 148 [.pointer (some ⟨b,0,none⟩),.int .i64 (s:Int)] w λr w'=>r= .tuple #[str (bf (m.types.length+1)),str (bf (m.types.length+2))]∧∃L',ei t8 E L' w' b true (sL m s)∧eR E L w L' w':=by
 have aw:=h
 have hR:=eR.refl E L w
 obtain⟨r,hr⟩:∃r,r=m.types.length:=⟨_,rfl⟩
 have hE:sL m s=((((((m.dI []).da Ab [bf r,bf s]).dI []).da sK [bf (r+1),bf r,[48]]).dI []).da sK [bf (r+2),bf r,[49]]):=by rw[hr];rfl
 rw[<-hr,hE]
 refine cX [.tmp 4,.tmp 5] 40 Tryz.func148 rfl Yn rfl rfl ?_
 refine zr<|zA<|zA<|ag<|zr<|zm<|aC (sj [] m om E L b true w aw) ?_
 rintro v10 w1 ⟨gw,L1,aw,bZ⟩
 rw[<-hr] at gw
 subst gw
 have hR:=hR.go bZ
 refine zA<|ag<|zr<|zm<|zm<|aC (iQ (r+1) r om om w1) ?_
 rintro v2 w2 ⟨dC,aq⟩
 have eH:=aq.size
 have aw:=aw.ext aq;have hR:=hR.ext aq
 obtain rfl:=dC
 refine zm<|aC (iQ (s+1) s om om w2) ?_
 rintro v3 w3 ⟨er,aJ⟩
 have gd:=aJ.size
 have aw:=aw.ext aJ;have hR:=hR.ext aJ
 obtain rfl:=er
 have dD:=aw.dN
 refine lq bh bA rfl rfl rfl rfl ?_
 intro w4 aF wk iU
 have aw:=aw.ext aF;have hR:=hR.ext aF
 refine aC (lk Ab [bf r,bf s] (Jt de sm (by intro p hp;simp at hp;rcases hp with rfl|rfl<;>exact Ei om)) (m.dI []) (show m.code.length<100000 from om) E L1 b _ w4 aw (aY.eF [bf r,bf s] wk (λhx=>by have:=dD _ hx;omega))) ?_
 rintro jX w5 ⟨L2,aw,bZ⟩
 have hR:=hR.go bZ
 refine ag<|zr<|zm<|aC (sj [] ((m.dI []).da Ab [bf r,bf s]) (show(m.dI []).types.length<100000 from by rw[yc];omega) E L2 b true w5 aw) ?_
 rintro v10 w6 ⟨gw,L3,aw,bZ⟩
 rw[show((m.dI []).da Ab [bf r,bf s]).types.length=r+1 from by rw[oR,yc,hr]] at gw
 subst gw
 have hR:=hR.go bZ
 refine zA<|ag<|zr<|zm<|zm<|aC (iQ (r+2) (r+1) om om w6) ?_
 rintro v7 w7 ⟨iV,cz⟩
 have po:=cz.size
 have aw:=aw.ext cz;have hR:=hR.ext cz
 obtain rfl:=iV
 refine zm<|aC (iQ (r+1) r om om w7) ?_
 rintro v8 w8 ⟨p9,cv⟩
 have AF:=cv.size
 have aw:=aw.ext cv;have hR:=hR.ext cv
 obtain rfl:=p9
 have dD:=aw.dN
 refine pU bh bA rfl rfl rfl rfl rfl ?_
 intro w9 aG BN dP
 have aw:=aw.ext aG;have hR:=hR.ext aG
 refine aC (lk sK [bf (r+1),bf r,[48]] (Jt de sm (by intro p hp;simp at hp;rcases hp with rfl|rfl|rfl;(·exact Ei om);(·exact Ei om);(·decide))) (((m.dI []).da Ab [bf r,bf s]).dI []) (show(m.code++[_]).length<100000 from by simp;omega) E L3 b _ w9 aw (aY.eF [bf (r+1),bf r,[48]] BN (λhx=>by have:=dD _ hx;omega))) ?_
 rintro jX cO ⟨L4,aw,bZ⟩
 have hR:=hR.go bZ
 refine ag<|zr<|zm<|aC (sj [] ((((m.dI []).da Ab [bf r,bf s]).dI []).da sK [bf (r+1),bf r,[48]]) (show(m.types++[_]++[_]).length<100000 from by simp;omega) E L4 b true cO aw) ?_
 rintro v10 eY ⟨gw,L5,aw,bZ⟩
 have Cp:v10= .int .i64 ((r+2:Nat):Int):=gw.trans (cA (λn:Nat=>Value.int .i64 (n:Int)) (show(m.types++[_]++[_]).length=r+2 from by simp[hr]))
 subst Cp
 have hR:=hR.go bZ
 refine zA<|ag<|zr<|zm<|zm<|aC (iQ (r+3) (r+2) om om eY) ?_
 rintro v12 gj ⟨s8,dG⟩
 have Ea:=dG.size
 have aw:=aw.ext dG;have hR:=hR.ext dG
 obtain rfl:=s8
 refine zm<|aC (iQ (r+1) r om om gj) ?_
 rintro wR jF ⟨vH,fM⟩
 have Gz:=fM.size
 have aw:=aw.ext fM;have hR:=hR.ext fM
 obtain rfl:=vH
 have dD:=aw.dN
 refine pU bh bA rfl rfl rfl rfl rfl ?_
 intro jg dM afU Cq
 have aw:=aw.ext dM;have hR:=hR.ext dM
 refine aC (lk sK [bf (r+2),bf r,[49]] (Jt de sm (by intro p hp;simp at hp;rcases hp with rfl|rfl|rfl;(·exact Ei om);(·exact Ei om);(·decide))) (((((m.dI []).da Ab [bf r,bf s]).dI []).da sK [bf (r+1),bf r,[48]]).dI []) (show(m.code++[_]++[_]).length<100000 from by simp;omega) E L5 b _ jg aw (aY.eF [bf (r+2),bf r,[49]] afU (λhx=>by have:=dD _ hx;omega))) ?_
 rintro jX qe ⟨L6,aw,bZ⟩
 have hR:=hR.go bZ
 refine ag<|zr<|zm<|aC (iQ (r+2) (r+1) om om qe) ?_
 rintro yp lU ⟨NA,kZ⟩
 have TW:=kZ.size
 have aw:=aw.ext kZ;have hR:=hR.ext kZ
 obtain rfl:=NA
 refine zm<|aC (iQ (r+3) (r+2) om om lU) ?_
 rintro jX vI ⟨afV,qf⟩
 have amz:=qf.size
 have aw:=aw.ext qf;have hR:=hR.ext qf
 obtain rfl:=afV
 refine zA<|zA<|ag<|aV ?_
 exact⟨_,rfl,rfl,L6,aw,hR⟩
def Ux (s:dd):(fl s).map Prod.fst=ke s:=by unfold fl ke;rw[List.map_map];rfl
def Uy (s:dd):((fl s).map λp=>p.2.text)=pe s:=by unfold fl pe;rw[List.map_map];rfl
def Ju (t:Tk) (e:Ex) (bD:e.ok) (hn:e.n<=1000) (hΓ:z7 (fl t.sc)) (hl:t.sc.length+2*e.n<=100000) (v:Value) (L:List Nat) (bt:Nat) (w:World) (lT:∀x,x∈L->x<w.heap.size) (hT:iu L w 130 bt t) (hv:bT L w v e.av):
  ck Tryz.prog 146 [.pointer (some ⟨bt,0,none⟩),v] w λr w'=>r=str (fm (bM e (fl t.sc)))∧ak [] w w':=by
 obtain⟨v1,v3,v4,v5,v6,v8,cC,hC⟩:=hT
 obtain⟨a,np,c,rfl,fJ,bc⟩:=dO hv
 have gM:=hC.aX
 have fE:=hC.types
 have hK:=ak.refl [] w
 have e1:=Ux t.sc
 have e2:=Uy t.sc
 refine cX [.tmp 4] 15 Tryz.func146 rfl Yl rfl rfl ?_
 refine zr<|fG rfl ?_
 intro w1 aK bR eh
 have hK:=hK.ext aK;have hv:=hv.ext aK;have cC:=cC.ext aK;have gM:=gM.ext aK;have fE:=fE.ext aK
 refine zA<|ag<|aQ ?_
 apply mv et 11 (rA 5 10++[4]) (rA 5 10++[4]) [[],[],[1],[2],[3],[],[5],[6],[7],[0,4,8],[9]] [It.v _,It.v _,It.v _,It.v _,It.v _,It.v _,It.v _,It.v _,It.v _,It.v _,It.v _] de rfl
 intro wd aB
 refine vk aB (λx w2 aq=>?_) ?_
 have bR:=bR.ext aq
 refine zL bU aH rfl bR.all rfl ?_
 exact pv
 refine eK ?_
 refine vk aB (λx w2 aq=>?_) ?_
 refine dk rfl ?_
 exact pv
 refine vc (λ_ _ _=>zf zy rfl pv) ?_
 refine vk aB (λx w2 aq=>?_) ?_
 have cC:=cC.ext aq
 refine zl eS rfl (cC.at rfl) ?_
 exact pv
 refine eK ?_
 refine vk aB (λx w2 aq=>?_) ?_
 refine dk rfl ?_
 exact pv
 refine vc (λ_ _ _=>zf De rfl pv) ?_
 refine vk aB (λx w2 aq=>?_) ?_
 have cC:=cC.ext aq
 refine zl eS rfl (cC.at rfl) ?_
 exact pv
 refine vk aB (λx w2 aq=>?_) ?_
 have hK:=hK.ext aq;have hv:=hv.ext aq;have gM:=gM.ext aq;have fE:=fE.ext aq
 refine aC (Ur 1000 e hn om bD (fl t.sc) (by simp[fl];omega) hΓ _ v4 v6 L w2 (λx hx=>lL (lT x hx) hK.size) hv (by rw[e1];exact gM) (by rw[e2];exact fE)) ?_
 rintro v3 w3 ⟨er,aJ⟩
 have gd:=aJ.size
 obtain rfl:=er
 exact pk aJ
 refine vc (λ_ _ _=>zA pv) ?_
 exact trivial
 intro x pY iC
 have hK:=hK.ext iC
 change OW _ _ _ _ [] (aM (aN _ x _) (zZ 5 [_,_,_,_,_,_,_,_,_,_]++[(4,_)])) _
 refine ag<|aV ?_
 exact⟨_,rfl,rfl,hK⟩
def afW (xs:List Nat):∀row,row∈tO xs->∀c,c∈row->∀v,c= .val v->v.oneCell'=true:=by
 intro row hr c hc v hv
 obtain⟨n,_,rfl⟩:=List.mem_map.1 hr
 simp at hc;subst hc;cases hv;rfl
def Ej (t:Tk) (x:aj) (r:Nat) (T:Ty) (hl:t.sc.length<100000) (L:List Nat) (bt:Nat) (w:World) (rf:bt∈L) (lT:∀x,x∈L->x<w.heap.size) (hT:iu L w 130 bt t):
  ck Tryz.prog 149 [.pointer (some ⟨bt,0,none⟩),str x,.int .i64 (r:Int),str T.text] w λ_ w'=>iu L w' 130 bt {t with sc:=t.sc++[(x,r,T)]}∧ak [bt] w w':=by
 obtain⟨v1,v3,v4,v5,v6,v8,cC,hC⟩:=hT
 have cC:aY w bt [str t.aP,v1,.int .i64 (t.loads:Int),v3,v4,v5,v6,str t.expr.av.az,v8,.int .i64 (t.on:Int),str t.bm,.int .i64 (t.next:Int)].toArray 130:=cC
 have hK:=ak.refl [bt] w
 have fU:(ke t.sc).length=t.sc.length:=by simp[ke]
 have fJ:(pe t.sc).length=t.sc.length:=by simp[pe]
 have pA:(tO (wD t.sc)).length=t.sc.length:=by simp[tO,wD]
 have IB:=cC.lt
 obtain⟨a5,c5,rfl,_⟩:=rN hC.at_
 refine cX [] 40 Tryz.func149 rfl Yo rfl rfl ?_
 refine zr<|zm<|zm<|dk rfl<|zf zy rfl<|zl eS rfl (cC.at rfl)<|zm<|gH bh bA rfl rfl ?_
 intro w1 aK wU eh
 have hK:=hK.ext aK;have cC:=cC.ext aK;have hC:=hC.ext aK
 refine aC (tV (ke t.sc) [x] so v4 _ L w1 hC.aX (aY.eF [x] wU (λhx=>by have:=lT _ hx;omega)) (λx hx=>lL (lT x hx) hK.size)) ?_
 rintro v2 w2 ⟨dC,aq⟩
 have eH:=aq.size
 have hK:=hK.ext aq;have cC:=cC.ext aq;have hC:=hC.ext aq
 have j6:=dC
 obtain⟨a9,n9,c9,e9,_⟩:=eP j6
 subst e9
 refine dk rfl<|zf zy rfl<|gY (o:=4) nO rfl rfl rfl cC rfl ?_
 intro w3 aJ cC dP
 have hC:=hC.aL aJ (by simpa using rf);have j6:=j6.aL aJ (by simpa using rf)
 have hK:=hK.trans aJ
 have zF:=hK.size
 refine ag<|zr<|zm<|zm<|dk rfl<|zf De rfl<|zl eS rfl (cC.at rfl)<|zm<|gH bh bA rfl rfl ?_
 intro w4 aF Cr iU
 have hK:=hK.ext aF;have cC:=cC.ext aF;have hC:=hC.ext aF;have j6:=j6.ext aF
 refine aC (tV (pe t.sc) [T.text] so v6 _ L w4 hC.types (aY.eF [T.text] Cr (λhx=>by have:=lT _ hx;omega)) (λx hx=>lL (lT x hx) hK.size)) ?_
 rintro v5 w5 ⟨ln,aU⟩
 have pJ:=aU.size
 have hK:=hK.ext aU;have cC:=cC.ext aU;have hC:=hC.ext aU;have j6:=j6.ext aU
 have wS:=ln
 obtain⟨Iw,n10,c10,gw,_⟩:=eP wS
 subst gw
 refine dk rfl<|zf De rfl<|gY (o:=6) nO rfl rfl rfl cC rfl ?_
 intro w6 bF cC dP
 have hC:=hC.aL bF (by simpa using rf);have j6:=j6.aL bF (by simpa using rf);have wS:=wS.aL bF (by simpa using rf)
 have hK:=hK.trans bF
 have zF:=hK.size
 have hL9:∀x,x∈L->x<w6.heap.size:=(λx hx=>lL (lT x hx) hK.size)
 have hCw:=hC
 have afZ:=j6
 have af0:=wS
 have yx:=cC
 have nz:=hK
 have amC:=cC.lt
 refine ag<|df<|zm<|zQ w6.heap.size L E5 tE rfl rfl (lR _) hL9 ?_
 intro w7 cz I2 wO
 have gm:=cz
 have hC:=hC.grow.ext cz;have cC:=cC.ext cz
 refine zm<|dk rfl<|zf KG rfl<|zl PX rfl (cC.at rfl)<|xO E5 tE rfl rfl rfl rfl rfl rfl wO hC.at_ (afW _) (by rw[pA];simp;omega) ?_
 intro a4 jf g4 w8 kX cv
 rw[List.nil_append] at kX
 have amD:=wO.low
 have gm:=gm.since cv (λx hx=>.inr (by simp at hx;omega))
 refine zm<|gH E5 tE rfl rfl ?_
 intro w9 aG vJ dP
 have kX:=kX.ext aG;have gm:=gm.ext aG
 refine HU (row:=[.val (.int .i64 (r:Int))]) E5 tE rfl rfl rfl rfl rfl rfl kX vJ rfl rfl ⟨.val _,trivial⟩ (by rw[pA];omega) ?_
 intro a6 cc6 g6 cO hO6 bV
 have gm:=gm.since bV (λx hx=>.inr (kX.low x (by simpa using hx)))
 have j6:=afZ.ext gm
 have wS:=af0.ext gm
 have hC:=hCw.ext gm
 have cC:=yx.ext gm
 have hK:=nz.ext gm
 have hN:=hO6.done
 rw[acs] at hN
 refine dk rfl<|zf KG rfl<|gY (o:=5) Z3 rfl rfl rfl cC rfl ?_
 intro eY cM cC dP
 have hC:=hC.aL cM (by simpa using rf);have j6:=j6.aL cM (by simpa using rf);have wS:=wS.aL cM (by simpa using rf)
 have hN:=cF.aO hN (cM.mono (by simpa using rf))
 have hK:=hK.trans cM
 refine ag ?_
 exact⟨_,rfl,⟨v1,v3,_,_,_,v8,cC,⟨hC.regs,hC.self,(by rw[ach];exact j6),(by rw[aci];exact hN),(by rw[acj];exact wS),hC.au⟩⟩,hK⟩
def af2 (s:dd) (p:aj×Nat×Ty) (x:aj):kU (s++[p]) x=if p.1=x then p.2.1 else kU s x:=by
 unfold kU
 rw[List.reverse_append]
 simp only[List.reverse_cons,List.reverse_nil,List.nil_append,List.cons_append,List.find?_cons]
 by_cases h:p.1=x
 ·simp[h]
 ·simp[h]
def af3 {s:dd} {k:Nat} (h:k<s.length) (x:aj):kU (s.take (k+1)) x=if aD (ke s) k=x then(s[k]'h).2.1 else kU (s.take k) x:=by
 rw[List.take_add_one,gE h]
 show kU (s.take k++[s[k]]) x=_
 rw[af2]
 have e:aD (ke s) k=(s[k]'h).1:=by simp[aD,ke,gE h]
 rw[e]
def Cs (t:Tk) (a:aj) (m:Mk) (BC:a.length<=10000) (ht:m.types.length<=9000) (hc:m.code.length<=9000) (hs:t.sc.length<=9000) (E L:List Nat) (b bt:Nat) (pa:Option Addr) (pn pc:Nat) (w:World) (h:ei t8 E L w b true m) (hT:iu L w 130 bt t) (eV:bt∈E):
  ck Tryz.prog 182 [.pointer (some ⟨b,0,none⟩),.pointer (some ⟨bt,0,none⟩),.agg #[str a,.slice pa pn pc]] w λr w'=>r= .int .i64 ((cH m t.sc a).2:Int)∧∃L',ei t8 E L' w' b true (cH m t.sc a).1∧eR E L w L' w':=by
 have aw:=h
 have hR:=eR.refl E L w
 obtain⟨v1,v3,v4,v5,v6,v8,cC,hC⟩:=hT
 obtain⟨r,hr⟩:∃r,r=m.types.length:=⟨_,rfl⟩
 have gM:=hC.aX
 obtain⟨an,nn,cn,rfl,rm⟩:=eP gM
 have fx:=hC.at_
 obtain⟨aa,ca,rfl,Jk⟩:=rN fx
 refine cX [.tmp 6] 50 Tryz.func182 rfl YJ rfl rfl ?_
 refine zr<|fG rfl ?_
 intro w1 aK bP eh
 have aw:=aw.ext aK;have hR:=hR.ext aK;have cC:=cC.ext aK;have gM:=gM.ext aK;have fx:=fx.ext aK
 refine zA<|ag<|aQ<|zr<|zf dB rfl<|zl cm rfl (bP.at rfl)<|aC (vh _ _) ?_
 rintro _ _ ⟨rfl,rfl⟩
 refine eM rfl<|ag<|zc rfl (λh1=>?_) (λh1=>?_)
 have hq:cH m t.sc a=((m.dI [105]).da Ii [bf r,a],r):=(by unfold cH;rw[iN (by rw[h1];simp),hr])
 rw[hq]
 refine zr<|zm<|aC (sj [105] m om E L b true w1 aw) ?_
 rintro lz w2 ⟨ig,L1,aw,bZ⟩
 rw[<-hr] at ig
 subst ig
 have hR:=hR.go bZ
 have dD:=aw.dN
 have bP:fi L1 w2 w.heap.size _ _:=⟨bP.aO bZ.fr.aO (λhx=>by have:=h.dN _ hx;omega),λhx=>by rcases bZ.fr.mem _ hx with h9|h9;(·have:=h.dN _ h9;omega);(·omega)⟩
 have ml:=aw
 have uh:=hR
 refine zA<|ag<|aQ ?_
 apply kf et L1 7 (rA 15 7) (rA 15 7) [[],[],[1],[],[3],[2,4],[0,5]] [Ie.v _,Ie.v _,Ie.v _,Ie.v _,Ie.v _,Ie.p (fun(G:List Nat) (v:Value) (ww:World)=>bI G ww v [bf r,a]),Ie.e 0] [6] [fun(G:List Nat) (vs:List Value) (ww:World)=>G=L1∧ak [] w2 ww,fun(G:List Nat) (vs:List Value) (ww:World)=>ei t8 E G ww b true ((m.dI [105]).da Ii [bf r,a])∧eR E L1 w2 G ww] de rfl dD (by exact⟨λG v w G' w' h k=>bI.go h k,trivial⟩) (by exact⟨λG vs w w' ⟨h1,h2⟩ k=>⟨h1,h2.ext k⟩,λG vs w w' ⟨h1,h2⟩ k=>⟨h1.ext k,h2.ext k⟩,trivial⟩) (⟨rfl,ak.refl _ _⟩)
 refine cT ?_
 refine cT ?_
 refine vf (λx w3 G3 aW fX iW=>?_) ?_
 refine aC (iQ (r+1) r om om w3) ?_
 rintro v4 w4 ⟨eJ,aF⟩
 have gK:=aF.size
 obtain rfl:=eJ
 exact fk aF
 refine vf (λ_ _ _ _ _ _=>zf dB rfl fv) ?_
 refine vf (λx w3 G3 aW fX iW=>?_) ?_
 have bP:=bP.go fX
 refine zl cm rfl (bP.at rfl) ?_
 exact fv
 refine vf (λx w3 G3 aW fX iW=>?_) ?_
 refine lq bh bA rfl rfl rfl rfl ?_
 intro w4 aF s9 iU
 exact ff aF (aY.eF [bf r,a] s9 (λhx=>by have:=iW _ hx;omega))
 refine ve 0 (λx w3 G3 aW fX iW hJ hlen=>?_) ?_
 have bo:=jR hlen
 subst bo
 intro v5 d5
 obtain⟨cB,cD⟩:=hJ
 subst cB
 refine aC (lk Ii [bf r,a] (Jt de sm (by intro p hp;simp at hp;rcases hp with rfl|rfl;(·exact Ei om);(·omega))) (m.dI [105]) (show m.code.length<100000 from om) E _ b _ w3 (ml.ext cD) d5) ?_
 rintro v21 w4 ⟨L2,GA,jW⟩
 exact fe L2 jW.fr GA.dN (⟨GA,((eR.refl _ _ _).ext cD).go jW⟩)
 exact trivial
 intro x qC F9 aW DY ML hJ hlen
 obtain⟨q0,bo⟩:=jS hlen
 subst bo
 intro v5 d5
 change OW _ _ _ _ [] (aM (aN _ x _) (zZ 15 [_,_,_,_,_,_,_])) _
 obtain⟨aw,jW⟩:=hJ
 have hR:=uh.go jW
 refine ag<|zr<|zm<|zA<|ag<|aV ?_
 exact⟨_,rfl,rfl,_,aw,hR⟩
 have hq:cH m t.sc a=(m,kU t.sc a):=(by unfold cH;rw[iP (by simpa using h1)])
 rw[hq]
 have D8:(ke t.sc).length=t.sc.length:=by simp[ke]
 refine bz<|aQ<|zr<|zm<|dk rfl<|zf zy rfl<|zl eS rfl (cC.at rfl)<|dZ bh rfl<|mN rfl rfl rfl rfl rfl (wrap_i64 _ om om)<|zA<|ag<|cS ?_
 refine fY (λk:Nat=>[(1,.pointer (some ⟨bt,0,none⟩)),(5,.pointer (some ⟨w.heap.size,0,none⟩)),(8,.int .i64 ((k:Int)-1))]) (λk w'=>ak [] w1 w'∧k<=t.sc.length∧kU t.sc a=kU (t.sc.take k) a) (λk=>k) t.sc.length (⟨rfl,rfl,cA (λz:Nat=>Value.int .i64 ((z:Int)-1)) (rm.trans D8)⟩) (⟨ak.refl _ _,lR _,by rw[List.take_length]⟩) ?_
 intro gg w2 e2 hI
 obtain⟨du,hk,yn⟩:=hI
 have aw:=aw.ext du;have hR:=hR.ext du;have cC:=cC.ext du;have gM:=gM.ext du
 have fx:=xW.ext fx du
 have bP:=bP.ext du
 refine aQ<|zr<|zm<|l0 rfl rfl rfl rfl rfl<|ag<|zc rfl (λh2=>?_) (λh2=>?_)
 have aR:∃k,gg=k+1:=⟨gg-1,om⟩
 obtain⟨k,rfl⟩:=aR
 have hi:((k+1:Nat):Int)-1=(k:Int):=by omega
 rw[hi]
 obtain⟨b1,ga,e1,bC⟩:=qX gM (lp (xs:=ke t.sc) (i:=k) om)
 cases e1
 obtain⟨b2,nu,e2,bY⟩:=acg fx (i:=k) (x:=(t.sc[k]'om).2.1) (by simp[wD,gE (show k<t.sc.length by omega)])
 cases e2
 have oa:=af3 (s:=t.sc) (k:=k) om a
 refine bz<|aQ<|cS<|aQ ?_
 apply mv et 10 (rA 33 10) (rA 33 10) [[],[0],[1],[2],[],[3,4],[5],[],[7],[6,8]] [It.v _,It.v _,It.v _,It.v _,It.v _,It.v _,It.v _,It.v _,It.v _,It.v _] de rfl
 intro wd aB
 refine eK ?_
 refine vk aB (λx w3 aJ=>?_) ?_
 refine dk rfl ?_
 exact pv
 refine vc (λ_ _ _=>zf zy rfl pv) ?_
 refine vk aB (λx w3 aJ=>?_) ?_
 have cC:=cC.ext aJ
 refine zl eS rfl (cC.at rfl) ?_
 exact pv
 refine eK ?_
 refine vk aB (λx w3 aJ=>?_) ?_
 refine zi bh bA rfl rfl (by rw[rm];omega) ?_
 exact pv
 refine vk aB (λx w3 aJ=>?_) ?_
 have bC:=bC.ext aJ
 refine zl cm rfl (bC 0 _ rfl) ?_
 exact pv
 refine vc (λ_ _ _=>zf dB rfl pv) ?_
 refine vk aB (λx w3 aJ=>?_) ?_
 have bP:=bP.ext aJ
 refine zl cm rfl (bP.at rfl) ?_
 exact pv
 refine vk aB (λx w3 aJ=>?_) ?_
 refine cY rfl rfl ?_
 exact pv
 exact trivial
 intro x qC ub
 have aw:=aw.ext ub;have hR:=hR.ext ub;have cC:=cC.ext ub;have du:=du.ext ub;have bY:=bY.ext ub
 change OW _ _ _ _ [] (aM (aN _ x _) (zZ 33 [_,_,_,_,_,_,_,_,_,_])) _
 refine ag<|zc rfl (λh3=>?_) (λh3=>?_)
 have Fk:=yn.trans (oa.trans (iP h3))
 refine zr<|zm<|dk rfl<|zf KG rfl<|zl PX rfl (cC.at rfl)<|zm<|zi E5 tE rfl rfl (by have h9:(tO (wD t.sc)).length=t.sc.length:=(by simp[tO,wD]);omega)<|zl qT rfl (bY 0 _ rfl)<|zA<|ag<|aV ?_
 exact⟨_,rfl,cA (λz:Nat=>Value.int .i64 (z:Int)) Fk.symm,_,aw,hR⟩
 have Fk:=yn.trans (oa.trans (iN h3))
 refine bz<|df<|zm<|mN rfl rfl rfl rfl rfl (wrap_i64 _ om om)<|zA<|ag ?_
 exact⟨k,⟨rfl,rfl,rfl⟩,⟨du,om,Fk⟩,om⟩
 have h0:gg=0:=by omega
 subst h0
 refine gD<|gF rfl<|zr<|zA<|ag<|aV ?_
 exact⟨_,rfl,cA (λz:Nat=>Value.int .i64 (z:Int)) yn.symm,_,aw,hR⟩
def NB (aP:aj) (regs:List aj) (hr:regs.length<10000) (m:Mk) (cV:m.blocks.length<100000) (E L:List Nat) (b:Nat) (v:Value) (w:World) (h:ei t8 E L w b true m) (hv:bI L w v regs):
  ck Tryz.prog 110 [.pointer (some ⟨b,0,none⟩),str aP,v] w λr w'=>∃L',ei t8 E L' w' b false (BZ m aP regs)∧eR E L w L' w':=by
 obtain⟨vb,vt,vc,vy,gb,gt,gc,gy,bj,hS⟩:=h.open
 obtain⟨yw,nJ,vF,mF,vG,ug⟩:=hS.apart
 have Uz:=hS.LV
 obtain⟨G0,GB⟩:∃G,G=E++(gb.toList++(gt.toList++gy.toList)):=⟨_,rfl⟩
 have UA:∀x,x∈G0->x∈L:=λx hx=>by rw[GB] at hx;simp only[mA] at hx;exact hS.mem.2 (by rcases hx with h|h|h|h<;>simp[h])
 have ot:b∉G0:=λhx=>by
  rw[GB] at hx;simp only[mA] at hx
  rcases hx with h|h|h|h
  ·exact nJ h
  ·exact(vF b h).2 rfl
  ·exact(mF b h).2.1 rfl
  ·exact(ug b h).2.1 rfl
 have bj:fi G0 w b [vb,vt,.int .i64 (m.count:Int),.bool m.wide,vc,vy].toArray 127:=⟨bj,ot⟩
 have oT:=bI.fresh hv (λx hx=>.inl (UA x hx))
 have qA:fy G0 w:=λx hx=>hS.db x (UA x hx)
 have wy:∀x,w.heap.size<=x->x∉pT E b gb gt gy:=λx h1 hx=>by have:=hS.db x (hS.R4 x hx);omega
 obtain⟨an,nn,cn,rfl,rm⟩:=eP hv
 obtain⟨ac,nc,cc,rfl,nM⟩:=eP Uz
 refine cX [] 24 Tryz.func110 rfl XP rfl rfl ?_
 apply kf et G0 18 (rA 6 18) (rA 6 18) [[],[],[1],[2],[3],[],[],[],[6,7],[],[9],[10],[11],[5,8,12],[13],[4,14],[0],[16]] [Ie.v _,Ie.v _,Ie.v _,Ie.v _,Ie.v _,Ie.v _,Ie.p (fun(G:List Nat) (v:Value) (ww:World)=>∃bb,v= .slice (some ⟨bb,0,none⟩) 0 0∧w.heap.size<=bb∧fi G ww bb #[] 9),Ie.v _,Ie.e 0,Ie.v _,Ie.v _,Ie.v _,Ie.v _,Ie.e 1,Ie.e 2,Ie.e 3,Ie.v _,Ie.v _] [8,13,14,15] [fun(G:List Nat) (vs:List Value) (ww:World)=>(∀x,x∈G0->x∈G)∧ak [] w ww,fun(G:List Nat) (vs:List Value) (ww:World)=>(∀x,x∈G0->x∈G)∧ak [] w ww∧bI (pT E b gb gt gy) ww (vs.getD 0 undef) regs,fun(G:List Nat) (vs:List Value) (ww:World)=>(∀x,x∈G0->x∈G)∧ak [] w ww∧bI (pT E b gb gt gy) ww (vs.getD 0 undef) regs∧vs.getD 1 undef= .agg #[str aP,vs.getD 0 undef,.slice ac nc cc],fun(G:List Nat) (vs:List Value) (ww:World)=>(∀x,x∈G0->x∈G)∧ak [] w ww∧bI (pT E b gb gt gy) ww (vs.getD 0 undef) regs∧∃bb,vs.getD 2 undef= .slice (some ⟨bb,0,none⟩) 1 1∧aY ww bb [str aP,vs.getD 0 undef,.slice ac nc cc].toArray 29,fun(G:List Nat) (vs:List Value) (ww:World)=>∃g2,eE (gb.toList++(g2.toList++pT E b gb gt gy)) ww 29 3 (vs.getD 3 undef) g2 ((m.blocks++[(⟨aP,regs,m.code⟩:Bk)]).map Bk.enc)∧ak gb.toList w ww∧(g2=gb∨∃x,g2=some x∧w.heap.size<=x)] de rfl qA (by exact⟨λG v w G' w' ⟨bb,e,h1,h⟩ k=>⟨bb,e,h1,h.go k⟩,trivial⟩) (by exact⟨λG vs w w' ⟨h1,h2⟩ k=>⟨h1,h2.ext k⟩,λG vs w w' ⟨h1,h2,h3⟩ k=>⟨h1,h2.ext k,h3.ext k⟩,λG vs w w' ⟨h1,h2,h3,h4⟩ k=>⟨h1,h2.ext k,h3.ext k,h4⟩,λG vs w w' ⟨h1,h2,h3,bb,h4,h5⟩ k=>⟨h1,h2.ext k,h3.ext k,bb,h4,h5.ext k⟩,λG vs w w' ⟨g2,h1,h2,h3⟩ k=>⟨g2,h1.ext k,h2.ext k,h3⟩,trivial⟩) (⟨λx hx=>hx,ak.refl _ _⟩)
 refine cT ?_
 refine cT ?_
 refine vf (λ_ _ _ _ _ _=>dk rfl fv) ?_
 refine vf (λ_ _ _ _ _ _=>zf KD rfl fv) ?_
 refine vf (λx w1 G1 aW qF qK=>?_) ?_
 have bj:=bj.go qF
 refine zl PY rfl (bj.at rfl) ?_
 exact fv
 refine cT ?_
 refine vf (λx w1 G1 aW qF qK=>?_) ?_
 refine gP bh bA ?_
 intro w2 aq NC eO
 exact ff aq (⟨_,rfl,(by have h1:=qF.aO.size;omega),NC.o qK⟩)
 refine cT ?_
 refine ve 0 (λx w1 G1 aW qF qK hJ hlen=>?_) ?_
 have bo:=jR hlen
 subst bo
 have oT:=oT.go qF
 intro v6 d6
 obtain⟨bb,e6,Cc,gz⟩:=d6
 subst e6
 obtain⟨kz,gN⟩:=hJ
 refine FZ (N:=w.heap.size) bh bA rfl rfl rfl rfl rfl rfl gz Cc oT ‹_› om ?_
 intro v9 w2 G9 kW vv di fj p8
 exact fe G9 di fj (⟨λx hx=>kW _ (kz x hx),p8.since gN,let⟨g',kr,_,hs⟩:=vv;kr.rep (λx hx fH=>wy x (hs x (by simp[hx])).2 fH)⟩)
 refine cT ?_
 refine vf (λ_ _ _ _ _ _=>dk rfl fv) ?_
 refine vf (λ_ _ _ _ _ _=>zf Dc rfl fv) ?_
 refine vf (λx w1 G1 aW qF qK=>?_) ?_
 have bj:=bj.go qF
 refine zl eS rfl (bj.at rfl) ?_
 exact fv
 refine ve 1 (λx w1 G1 aW qF qK hJ hlen=>?_) ?_
 obtain⟨q0,bo⟩:=jS hlen
 subst bo
 obtain⟨kz,gN,qg⟩:=hJ
 obtain⟨a7,n7,c7,e7,_⟩:=eP qg
 have e8:q0=_:=e7
 subst e8
 refine j7 (Ky _ _ _ _ _ _ _ _) rfl rfl ?_
 exact fe G1 (Fr.refl _ _) qK (⟨kz,gN,qg,rfl⟩)
 refine ve 2 (λx w1 G1 aW qF qK hJ hlen=>?_) ?_
 obtain⟨q0,q1,bo⟩:=lP hlen
 subst bo
 obtain⟨kz,gN,qg,lJ⟩:=hJ
 obtain⟨a7,n7,c7,e7,_⟩:=eP qg
 have e8:q0=_:=e7
 subst e8
 have GC:q1=Value.agg #[str aP,.slice a7 n7 c7,.slice ac nc cc]:=lJ
 subst GC
 refine sG [.tmp 19] [[str aP,.slice a7 n7 c7,.slice ac nc cc]] iO gT rfl rfl rfl rfl rfl rfl rfl rfl rfl ?_
 intro w2 aq s9 Ui
 exact fe G1 (Fr.of aq sm) ((λx hx=>lL (qK x hx) (ak.size aq))) (⟨kz,gN.trans aq,qg.ext aq,_,rfl,s9⟩)
 refine ve 3 (λx w1 G1 aW qF qK hJ hlen=>?_) ?_
 obtain⟨q0,q1,q2,bo⟩:=Al hlen
 subst bo
 obtain⟨kz,gN,qg,bb,uT,gz⟩:=hJ
 have ig:q2=_:=uT
 subst ig
 have iG:=(hS.bl.any gN).sub (L':=gb.toList++pT E b gb gt gy) (λx hx=>.inl (by rcases mA.1 hx with h|h;(·exact hS.mem.2 (by simp[h]));(·exact hS.R4 x h)))
 have UB:∀x,x∈gb.toList++pT E b gb gt gy->x∈pT E b gb gt gy:=(λx hx=>by rcases mA.1 hx with h|h;(·exact xY.2 (by simp[h]));(·exact h))
 refine BS (L:=pT E b gb gt gy) (row:=Bk.enc ⟨aP,regs,m.code⟩) iO gT rfl rfl rfl rfl rfl rfl iG rfl gz.all (by obtain⟨a7,n7,c7,e7,_⟩:=eP qg;have e8:q0=_:=e7;subst e8;simp[Value.oneCell']) ⟨.val _,bI.fresh qg (λx hx=>.inl (UB x hx)),bI.fresh (Uz.ext gN) (λx hx=>.inl (UB x hx)),trivial⟩ (by simpa using(show m.blocks.length<100000000 from om)) ?_
 intro v9 g9 w2 dL ui fN
 exact fe G1 (Fr.of ui.aO (λx hx=>kz x (by rw[GB];simp[hx]))) ((λx hx=>lL (qK x hx) ui.aO.size)) (⟨g9,by simpa using dL,gN.any.trans ui.aO,fN.imp id (λh=>⟨_,h,gN.size⟩)⟩)
 refine vf (λ_ _ _ _ _ _=>dk rfl fv) ?_
 refine vf (λ_ _ _ _ _ _=>zf KD rfl fv) ?_
 exact trivial
 intro x Ls G40 aW Uv afT hJ hlen
 obtain⟨q0,q1,q2,q3,bo⟩:=Mb hlen
 subst bo
 intro v6 d6
 have bj:=bj.go Uv
 change OW _ _ _ _ _ (aM (aN _ x _) (zZ 6 [_,_,_,_,_,_,_,_,_,_,_,_,_,_,_,_,_,_])) _
 obtain⟨g2,dL,fo,iA⟩:=hJ
 obtain⟨L2,gk,jW⟩:=hS.acu dL fo iA
 obtain⟨a3,c3,e3⟩:=dL.len
 have e4:q3=_:=e3
 subst e4
 have bj:=bj.jx
 refine gY (o:=0) Z4 rfl rfl rfl bj rfl ?_
 intro pY iC bj dP
 have gk:=gk.aO iC sm
 have hR:=((eR.refl E L w).add jW fo (λx hx=>(vF x hx).1)).aL iC (gk.mem.2 (.inr (.inl rfl))) nJ
 refine ag ?_
 exact⟨_,rfl,L2,⟨_,_,_,_,_,_,_,_,bj,gk⟩,hR⟩
end Go.Proofs.YtigijcjccmdmhaaGreatDoor
