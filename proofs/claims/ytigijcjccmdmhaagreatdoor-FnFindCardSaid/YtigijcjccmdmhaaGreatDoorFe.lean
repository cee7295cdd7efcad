/- Lemmas for the law FnFind, no statement of their own: no conditions. -/
import Derived.Test.YtigijcjccmdmhaaGreatDoorFd
namespace Go.Proofs.YtigijcjccmdmhaaGreatDoor
open Go
def af4 {m:Mk} {s:dd} {a:aj} (h:eQ a=true):cH m s a=(m,kU s a):=by unfold cH;rw[iP h]
def Ct (m:Mk) (k:aj):(m.dI k).code.length=m.code.length:=rfl
def pB (m:Mk) (h:aj) (ps:List aj):(m.da h ps).code.length=m.code.length+1:=by simp[Mk.da]
def AR (s:dd) (aX:List aj) (k:Nat):List aj:=(aX.take k).map λx=>bf (kU s x)
def yy (s:dd) (aX:List aj) (k:Nat):List aj:=(aX.take k).map λx=>bL (kG s x)
def af5 {s:dd} {aX:List aj} {k:Nat} (h:k<aX.length):AR s aX (k+1)=AR s aX k++[bf (kU s (aD aX k))]:=by
 unfold AR;rw[List.take_add_one,lp h];simp
def af6 {s:dd} {aX:List aj} {k:Nat} (h:k<aX.length):yy s aX (k+1)=yy s aX k++[bL (kG s (aD aX k))]:=by
 unfold yy;rw[List.take_add_one,lp h];simp
def af7 {s:dd} {aX:List aj} {k:Nat}:(AR s aX k).length<=aX.length:=by unfold AR;rw[List.length_map,List.length_take];omega
def af8 {s:dd} {aX:List aj} {k:Nat}:(yy s aX k).length<=aX.length:=by unfold yy;rw[List.length_map,List.length_take];omega
def af9 (s:dd) (aX:List aj):AR s aX aX.length=aX.map λx=>bf (kU s x):=by simp[AR]
def aga (s:dd) (aX:List aj):yy s aX aX.length=aX.map λx=>bL (kG s x):=by simp[yy]
def ND {s:dd} {x:aj} (h:(look (fl s) x).isSome=true):oe (ke s) (pe s) x [] (ke s).length=(kG s x).text:=by
 have h1:=Tq x (fl s)
 rw[Ux,Uy,Mm h] at h1
 have e:(fl s).length=(ke s).length:=by simp[fl,ke]
 rw[e] at h1
 exact h1
def gV.td {τ:sM} {E L:List Nat} {w w':World} {b:Nat} {o:Bool} {vb vt vc vy:Value} {gb gt gc gy:Option Nat} {m:Mk} (h:gV τ E L w b o vb vt vc vy gb gt gc gy m) {G:List Nat} {x:Nat} (k:ak G w w') (hG:∀y,y∈G->y∈b::E) (hx:w.heap.size<=x) (uP:x<w'.heap.size):gV τ (x::E) (x::L) w' b o vb vt vc vy gb gt gc gy m:=by
 obtain⟨a1,a2,a3,a4,a5,a6⟩:=h.apart
 have rW:∀x,x∈G->x∈L:=λx hx=>h.mem.2 (by rcases mC.1 (hG x hx) with h1|h1<;>simp[h1])
 have hF:Fr L w (x::L) w':=⟨k.mono rW,λy hy=>by
  rcases mC.1 hy with rfl|hy
  ·exact .inr hx
  ·exact .inl hy⟩
 have out:∀x,x∉E->x≠b->x∉G:=λx h1 h2 h3=>by
  rcases mC.1 (hG x h3) with h4|h4
  ·exact h2 h4
  ·exact h1 h4
 refine⟨h.bl.aO hF k (λx hx=>out x (a3 x hx).1 (a3 x hx).2),h.ta.aO hF k (λx hx=>out x (a4 x hx).1 (a4 x hx).2.1),?_,h.ty.aO k (λx hx=>out x (a6 x (by simp[hx])).1 (a6 x (by simp[hx])).2.1),by rw[h.eL];rfl,List.nodup_cons.2 ⟨λh2=>by have:=h.db _ h2;omega,h.nd⟩,λy hy=>?_⟩
 ·rcases h.co with⟨ho,h1⟩|⟨ho,hn,h1⟩
  ·exact .inl ⟨ho,h1.aO k λx hx=>out x (a5 x (by simp[hx])).1 (a5 x (by simp[hx])).2.1⟩
  ·exact .inr ⟨ho,hn,h1.go hF⟩
 ·rcases mC.1 hy with rfl|hy
  ·exact uP
  ·exact lL (h.db y hy) k.size
def ei.td {τ:sM} {E L:List Nat} {w w':World} {b:Nat} {o:Bool} {m:Mk} (h:ei τ E L w b o m) {G:List Nat} {x:Nat} (k:ak G w w') (hG:∀y,y∈G->y∈E) (hx:w.heap.size<=x) (uP:x<w'.heap.size):ei τ (x::E) (x::L) w' b o m:=by
 obtain⟨vb,vt,vc,vy,gb,gt,gc,gy,h1,h2⟩:=h
 exact⟨vb,vt,vc,vy,gb,gt,gc,gy,h1.aO k (λhx=>h2.apart.2.1 (hG b hx)),h2.td k (λx hx=>mK _ (hG x hx)) hx uP⟩
def ei.UC {τ:sM} {E:List Nat} {w:World} {b:Nat} {o:Bool} {m:Mk}:∀{X L:List Nat},ei τ (X++E) L w b o m->∃L',L=X++L'∧ei τ E L' w b o m
 |[],L,h=>⟨L,rfl,h⟩
 |x::X,L,h=>by
  obtain⟨L1,e1,h1⟩:=ei.drop (E:=X++E) h
  obtain⟨L2,e2,h2⟩:=ei.UC h1
  exact⟨L2,by rw[e1,e2];rfl,h2⟩
def ei.nd {τ:sM} {E L:List Nat} {w:World} {b:Nat} {o:Bool} {m:Mk} (h:ei τ E L w b o m):L.Nodup:=by
 obtain⟨_,_,_,_,_,_,_,_,_,h2⟩:=h
 exact h2.nd
def ei.sub {τ:sM} {E L:List Nat} {w:World} {b:Nat} {o:Bool} {m:Mk} (h:ei τ E L w b o m) {x:Nat} (hx:x∈E):x∈L:=h.mem.1 x (mK _ hx)
structure qL (E L:List Nat) (w:World) (b:Nat) (m:Mk) (v1:Value) (g1:Option Nat) (rB:List aj) (v2:Value) (g2:Option Nat) (qM:List aj) (X L1:List Nat) (ww:World):Prop where
 mb:ei t8 (X++E) L1 ww b true m
 fe:eR E L w L1 ww
 s1:dj ww 9 v1 g1 rB
 s2:dj ww 9 v2 g2 qM
 x1:∀x,x∈g1.toList->x∈X∧x∉g2.toList
 x2:∀x,x∈g2.toList->x∈X∧x∉g1.toList
 xE:∀x,x∈X->x∉E
def Cu (E L:List Nat) (w:World) (b:Nat) (m:Mk) (v1:Value) (g1:Option Nat) (rB:List aj) (v2:Value) (g2:Option Nat) (qM:List aj) (ww:World):Prop:=∃X L1,qL E L w b m v1 g1 rB v2 g2 qM X L1 ww
section
variable {E L X L1 L2:List Nat} {w ww w':World} {b:Nat} {m:Mk} {v1 v2 v:Value} {g1 g2 g:Option Nat} {rB qM ys:List aj}
def qL.ext (h:qL E L w b m v1 g1 rB v2 g2 qM X L1 ww) (k:ak [] ww w'):qL E L w b m v1 g1 rB v2 g2 qM X L1 w':=⟨h.mb.ext k,h.fe.ext k,h.s1.ext k,h.s2.ext k,h.x1,h.x2,h.xE⟩
def qL.swap (h:qL E L w b m v1 g1 rB v2 g2 qM X L1 ww):qL E L w b m v2 g2 qM v1 g1 rB X L1 ww:=⟨h.mb,h.fe,h.s2,h.s1,h.x2,h.x1,h.xE⟩
def qL.GD (h:qL E L w b m v1 g1 rB v2 g2 qM X L1 ww) (hO:dj w' 9 v g ys) (k:ak g1.toList ww w') (hg:g=g1∨∃x,g=some x∧ww.heap.size<=x):Cu E L w b m v g ys v2 g2 qM w':=by
 have hX:∀x,x∈g1.toList->x∈X++E:=λx hx=>List.mem_append_left _ (h.x1 x hx).1
 have hL:∀x,x∈g1.toList->x∈L1:=λx hx=>h.mb.sub (hX x hx)
 have hF:eR E L w L1 w':=h.fe.add (Fr.of k hL) k λx hx=>h.xE x (h.x1 x hx).1
 have h2:dj w' 9 v2 g2 qM:=h.s2.aO k λx hx hy=>(h.x2 x (by simp[hx])).2 hy
 rcases hg with rfl|⟨x,rfl,hx⟩
 ·exact⟨X,L1,⟨h.mb.aO k hX,hF,hO,h2,h.x1,h.x2,h.xE⟩⟩
 ·have mM:x<w'.heap.size:=hO.lt x sm
  refine⟨x::X,x::L1,⟨h.mb.td k hX hx mM,⟨⟨hF.fr.aO,λy hy=>?_⟩,hF.out⟩,hO,h2,λy hy=>?_,λy hy=>?_,λy hy=>?_⟩⟩
  ·rcases mC.1 hy with rfl|hy
   ·exact .inr (Nat.le_trans h.fe.fr.aO.size hx)
   ·exact hF.fr.mem y hy
  ·have e:y=x:=by simpa using hy
   subst e
   exact⟨by simp,λhh=>by have:=h.s2.lt y hh;omega⟩
  ·refine⟨mK _ (h.x2 y hy).1,λhh=>?_⟩
   have e:y=x:=by simpa using hh
   subst e
   have:=h.s2.lt y hy;omega
  ·rcases mC.1 hy with rfl|hy
   ·intro hE
    have:=h.mb.dN y (h.mb.sub (mR _ hE));omega
   ·exact h.xE y hy
def qL.AH (h:qL E L w b m v1 g1 rB v2 g2 qM X L1 ww) (hO:dj w' 9 v g ys) (k:ak g2.toList ww w') (hg:g=g2∨∃x,g=some x∧ww.heap.size<=x):Cu E L w b m v1 g1 rB v g ys w':=
 let⟨X,L1,h⟩:=h.swap.GD hO k hg;⟨X,L1,h.swap⟩
def qL.call {m':Mk} (h:qL E L w b m v1 g1 rB v2 g2 qM X L1 ww) (hM:ei t8 (X++E) L2 w' b true m') (k:eR (X++E) L1 ww L2 w'):qL E L w b m' v1 g1 rB v2 g2 qM X L2 w':=by
 obtain⟨G,kg,hG⟩:=k.out
 refine⟨hM,h.fe.add k.fr kg λx hx hE=>hG x hx (mR _ hE),h.s1.aO kg λx hx hy=>hG x hy (List.mem_append_left _ (h.x1 x (by simp[hx])).1),h.s2.aO kg λx hx hy=>hG x hy (List.mem_append_left _ (h.x2 x (by simp[hx])).1),h.x1,h.x2,h.xE⟩
def qL.done (h:qL E L w b m v1 g1 rB v2 g2 qM X L1 ww):∃L',ei t8 E L' ww b true m∧eR E L w L' ww∧bI L' ww v1 rB∧bI L' ww v2 qM:=by
 obtain⟨L',e,h1⟩:=h.mb.UC
 have jA:=h.mb.nd
 rw[e,List.nodup_append] at jA
 have hs:∀x,x∈L'->x∈L1:=λx hx=>by rw[e];exact mR _ hx
 exact⟨L',h1,⟨⟨h.fe.fr.aO,λx hx=>h.fe.fr.mem x (hs x hx)⟩,h.fe.out⟩,h.s1.rep λx hx hy=>jA.2.2 x (h.x1 x (by simp[hx])).1 x hy rfl,h.s2.rep λx hx hy=>jA.2.2 x (h.x2 x (by simp[hx])).1 x hy rfl⟩
def Cu.start {w1 w2:World} (h:ei t8 E L w b true m) (k1:ak [] w w1) (aT:aY w1 w.heap.size #[] 9) (k2:ak [] w1 w2) (aZ:aY w2 w1.heap.size #[] 9):Cu E L w b m (.slice (some ⟨w.heap.size,0,none⟩) 0 0) (some w.heap.size) [] (.slice (some ⟨w1.heap.size,0,none⟩) 0 0) (some w1.heap.size) [] w2:=by
 have h1:=aT.lt
 have h2:=aZ.lt
 have hl:=h.dN
 refine⟨[w1.heap.size,w.heap.size],w1.heap.size::w.heap.size::L,⟨(h.td (E:=E) k1 sm (lR _) h1).td k2 sm (lR _) h2,⟨⟨(k1.trans k2).any,λx hx=>?_⟩,[],k1.trans k2,sm⟩,(aT.ext k2).lr,aZ.lr,λx hx=>?_,λx hx=>?_,λx hx hE=>?_⟩⟩
 ·rcases mC.1 hx with rfl|hx
  ·right;omega
  ·rcases mC.1 hx with rfl|hx
   ·right;omega
   ·exact .inl hx
 ·simp at hx;subst hx;simp;omega
 ·simp at hx;subst hx;simp;omega
 ·have:=hl x (h.sub hE)
  simp at hx;rcases hx with rfl|rfl<;>omega
end
def ou {L:List Nat} {w:World} {a:Option Addr} {n c i:Nat} {xs:List aj} (h:bI L w (.slice a n c) xs) (hi:i<xs.length):∃b off,a=some ⟨b,off,none⟩∧jb L w b (off+i*1) [str (aD xs i)]:=by
 obtain⟨b,off,vs,ha,hb,hL,hl,hc,hr⟩:=yX h (Qs (lp hi))
 rw[Qt hr] at hc
 exact⟨b,off,ha,hc,hb,hL⟩
def mG {hd:aj} {ps:List aj} (hh:hd.length<=100) (hp:ps.length<=45) (hs:∀p,p∈ps->p.length<=20000):(bO hd ps).length<=1000000:=by
 have h1:=Ar (m:=20000) ps hs
 have h2:ps.length*20001<=45*20001:=Nat.mul_le_mul hp (lR _)
 rw[lQ];omega
def mn {n:Nat} (h:n<1000):(bf n).length<=20000:=by have:=sR h;omega
def AS (s:dd) (ton:Nat) (aX:List aj) (on:aj):List aj:=aX.map (λx=>bf (kU s x))++(if on≠[] then[bf ton] else[])
def agb {s:dd} (hs:kx s) {ton:Nat} (ht:ton<1000) {aX:List aj} {on:aj}:∀p,p∈AS s ton aX on->p.length<=3:=λp hp=>by
 unfold AS at hp
 rcases mA.1 hp with hp|hp
 ·obtain⟨x,_,rfl⟩:=List.mem_map.1 hp
  exact sR (FH hs x)
 ·split at hp
  ·simp only[mS] at hp;rw[hp];exact sR ht
  ·simp at hp
def agc (s:dd) (ton:Nat) (aX:List aj) (on:aj):(AS s ton aX on).length<=aX.length+1:=by
 unfold AS
 rw[lA,List.length_map]
 split<;>simp
def agd (m:Mk) (s:dd) (ton:Nat) (aX:List aj) (on aP kind:aj) (cP:List aj) {R TY:List aj} {W C0 P0:aj} {r:Nat} (hR:R=AS s ton aX on) (AT:TY=mh s aX on) (hW:W=bO [116] TY) (hC:C0=bO [99] (W::cP)) (hP:P0=bO [116] [C0,W]) (hr:r=m.types.length):
  pd m s ton aX on aP kind cP=⟨(((((((m.dI W).da l8 (bf r::R)).dI C0).da sI [bf (r+1),aP]).dI P0).da l8 [bf (r+2),bf (r+1),bf r]).dI kind).da sJ [bf (r+3),bf (r+2),kind,W],r+3,W⟩:=by
 subst hP;subst hC;subst hW;subst AT;subst hR;subst hr;rfl
set_option maxHeartbeats 4000000 in
def UD (t:Tk) (m:Mk) (aX:List aj) (on aP kind:aj) (cP:List aj) (gM:∀x,x∈aX->eQ x=true∧(look (fl t.sc) x).isSome=true) (hs:kx t.sc) (o5:t.sc.length<=9000) (oX:aX.length<=40) (rl:t.on<1000) (kP:on.length<=272) (FL:aP.length<=10) (wH:kind.length<=272) (eN:cP.length<=2) (Mh:∀x,x∈cP->x.length<=272) (ht:m.types.length+4<1000) (hc:m.code.length<=8000)
  (E L:List Nat) (b bt:Nat) (vn vd:Value) (w:World) (h:ei t8 E L w b true m) (hT:iu L w 130 bt t) (eV:bt∈E) (kj:bI L w vn aX) (uj:bI L w vd cP):
  ck Tryz.prog 205 [.pointer (some ⟨b,0,none⟩),.pointer (some ⟨bt,0,none⟩),vn,str on,str aP,str kind,vd] w λr w'=>r= .tuple #[.int .i64 ((pd m t.sc t.on aX on aP kind cP).r:Int),str (pd m t.sc t.on aX on aP kind cP).w]∧∃L',ei t8 E L' w' b true (pd m t.sc t.on aX on aP kind cP).m∧eR E L w L' w':=by
 obtain⟨an,nn,cn,rfl,rm⟩:=eP kj
 obtain⟨ad,nd,cd,rfl,jA⟩:=eP uj
 obtain⟨R,GF⟩:∃x,x=AS t.sc t.on aX on:=⟨_,rfl⟩
 obtain⟨TY,AT⟩:∃x,x=mh t.sc aX on:=⟨_,rfl⟩
 obtain⟨W,hW⟩:∃x,x=bO [116] TY:=⟨_,rfl⟩
 obtain⟨C0,Jv⟩:∃x,x=bO [99] (W::cP):=⟨_,rfl⟩
 obtain⟨P0,sk⟩:∃x,x=bO [116] [C0,W]:=⟨_,rfl⟩
 obtain⟨r,GG⟩:∃r,r=m.types.length:=⟨_,rfl⟩
 obtain⟨c,NF⟩:∃c,c=m.code.length:=⟨_,rfl⟩
 have t0:m.types.length=r:=GG.symm
 have c0:m.code.length=c:=NF.symm
 rw[agd m t.sc t.on aX on aP kind cP GF AT hW Jv sk GG]
 have hWl:W.length<=11200:=by rw[hW,AT];exact FI hs oX kP
 have hRl:R.length<=41:=by rw[GF];have:=agc t.sc t.on aX on;omega
 have PZ:TY.length<=41:=by rw[AT];have:=Sw t.sc aX on;omega
 have NH:∀p,p∈R->p.length<=3:=by rw[GF];exact agb hs rl
 have sn:∀p,p∈TY->p.length<=272:=by rw[AT];exact Sx hs kP
 have hCl:C0.length<=12000:=by
  have h1:=Ar cP Mh
  have h2:cP.length*(272+1)<=2*(272+1):=Nat.mul_le_mul eN (lR _)
  have h3:j3 (W::cP)=1+W.length+j3 cP:=by unfold j3;simp;omega
  rw[Jv,lQ,h3];simp only[lC,lN];omega
 have Jw:P0.length<=25000:=by rw[sk,lQ,Au];simp only[lC,lN];omega
 have agf:=h
 refine cX [.tmp 14,.tmp 15] 131 Tryz.func205 rfl YU rfl rfl ?_
 refine zr<|zA<|zA<|ag<|zr<|gP bh bA ?_
 intro w1 aK BN ae1
 have GH:=aK
 refine zA<|ag<|zr<|gP bh bA ?_
 intro w2 aq Cv agh
 have hP:=Cu.start agf GH BN aq Cv
 refine zA<|ag<|aQ<|zr<|zA<|ag<|cS ?_
 refine fY (λq:Nat×(Value×Option Nat)×(Value×Option Nat)=>[(0,.pointer (some ⟨b,0,none⟩)),(1,.pointer (some ⟨bt,0,none⟩)),(2,.slice an nn cn),(3,str on),(4,str aP),(5,str kind),(6,.slice ad nd cd),(16,q.2.1.1),(17,q.2.2.1),(18,.int .i64 (q.1:Int))]) (λq w'=>Cu E L w b m q.2.1.1 q.2.1.2 (AR t.sc aX q.1) q.2.2.1 q.2.2.2 (yy t.sc aX q.1) w'∧q.1<=aX.length) (λq=>aX.length-q.1) ((0,(.slice (some ⟨w.heap.size,0,none⟩) 0 0,some w.heap.size),(.slice (some ⟨w1.heap.size,0,none⟩) 0 0,some w1.heap.size))) (⟨rfl,rfl,rfl,rfl,rfl,rfl,rfl,rfl,rfl,rfl⟩) (⟨hP,sm⟩) ?_
 intro gg w3 e3 hI
 obtain⟨k,⟨vr,gr⟩,vt,gt⟩:=gg
 obtain⟨⟨X,L1,hX⟩,hk⟩:=hI
 dsimp only at hX hk
 refine aQ<|zr<|zm<|zm<|dZ bh rfl<|fA rfl rfl rfl<|ag<|zc rfl (λh1=>?_) (λh1=>?_)
 have aq:k<aX.length:=(by simp at h1;omega)
 have hx:=lp aq
 have Cw:=List.mem_of_getElem? hx
 have mM:=DN (gM _ Cw).1
 have agi:=kj.go hX.fe.fr
 have dh:=hX.fe.tk hT eV
 have aR:=qX agi hx
 obtain⟨b1,ga,e1,bC⟩:=aR
 cases e1
 refine bz<|aQ<|cS<|zr<|zm<|zm<|zm<|zm<|zm<|zi bh bA rfl rfl (by rw[rm];omega)<|zl cm rfl (bC 0 _ rfl)<|aC (zY (aD aX k) w3) ?_
 rintro v4 w4 ⟨eJ,aF⟩
 have gK:=aF.size
 have hX:=hX.ext aF
 obtain rfl:=eJ
 refine aC (Cs t (aD aX k) m om om om o5 (X++E) L1 b bt _ _ _ w4 hX.mb (hX.fe.tk hT eV) (mR _ eV)) ?_
 rintro v41 w5 ⟨UE,L2,GA,jW⟩
 rw[af4 (gM _ Cw).1] at UE GA
 subst UE
 have hX:=hX.call GA jW
 refine aC (iQ (kU t.sc (aD aX k)+1) (kU t.sc (aD aX k)) om (by have:=FH hs (aD aX k);omega) w5) ?_
 rintro v6 w6 ⟨lx,bF⟩
 have oS:=bF.size
 have hX:=hX.ext bF
 obtain rfl:=lx
 refine gH bh bA rfl rfl ?_
 intro w7 cz agj qm
 have hX:=hX.ext cz
 refine se bh bA rfl rfl rfl rfl rfl rfl hX.s1 agj (by have:=af7 (s:=t.sc) (aX:=aX) (k:=k);omega) ?_
 intro v9 g9 w8 dL cv fN
 rw[<-af5 aq] at dL
 have aR:=hX.GD dL cv (fN.imp id (λh=>⟨_,h,lR _⟩))
 obtain⟨X2,L2,hX⟩:=aR
 have UF:=hX
 have gh:∀x,x∈gt.toList->x∈L2:=(λx hx=>hX.mb.sub (List.mem_append_left _ (hX.x2 x hx).1))
 have aR:=hX.fe.tk hT eV
 obtain⟨u1,u3,u4,u5,u6,u8,yx,hC⟩:=aR
 have cC:fi gt.toList w8 bt [str t.aP,u1,.int .i64 (t.loads:Int),u3,u4,u5,u6,str t.expr.av.az,u8,.int .i64 (t.on:Int),str t.bm,.int .i64 (t.next:Int)].toArray 130:=⟨yx,λhx=>hX.xE bt (hX.x2 bt hx).1 eV⟩
 have FY:bI gt.toList w8 u4 (ke t.sc):=bI.fresh hC.aX (λx hx=>.inl (gh x hx))
 have NI:bI gt.toList w8 u6 (pe t.sc):=bI.fresh hC.types (λx hx=>.inl (gh x hx))
 have yA:bI gt.toList w8 (.slice (some ⟨b1,ga,none⟩) nn cn) aX:=bI.fresh (kj.go hX.fe.fr) (λx hx=>.inl (gh x hx))
 have aR:=ou yA aq
 obtain⟨b2,nu,e2,bY⟩:=aR
 cases e2
 have p6:fy gt.toList w8:=(λx hx=>hX.s2.lt x hx)
 refine zA<|ag ?_
 apply kf et gt.toList 17 (rA 45 17) (rA 45 17) [[],[],[1],[2],[3],[],[5],[6],[7],[],[],[9,10],[11],[4,8,12],[13],[14],[0,15]] [Ie.v _,Ie.v _,Ie.v _,Ie.v _,Ie.v _,Ie.v _,Ie.v _,Ie.v _,Ie.v _,Ie.v _,Ie.v _,Ie.v _,Ie.v _,Ie.v _,Ie.v _,Ie.p (fun(G:List Nat) (v:Value) (ww:World)=>∃bb,v= .slice (some ⟨bb,0,none⟩) 1 1∧fi G ww bb [str (bL (kG t.sc (aD aX k)))].toArray 9),Ie.e 0] [16] [fun(G:List Nat) (vs:List Value) (ww:World)=>G=gt.toList∧ak [] w8 ww,fun(G:List Nat) (vs:List Value) (ww:World)=>∃g2,dj ww 9 (vs.getD 0 undef) g2 (yy t.sc aX (k+1))∧ak gt.toList w8 ww∧(g2=gt∨∃x,g2=some x∧w8.heap.size<=x)] de rfl p6 (by exact⟨λG v w G' w' ⟨bb,e,h⟩ k=>⟨bb,e,h.go k⟩,trivial⟩) (by exact⟨λG vs w w' ⟨h1,h2⟩ k=>⟨h1,h2.ext k⟩,λG vs w w' ⟨g2,h1,h2,h3⟩ k=>⟨g2,h1.ext k,h2.ext k,h3⟩,trivial⟩) (⟨rfl,ak.refl _ _⟩)
 refine cT ?_
 refine cT ?_
 refine vf (λ_ _ _ _ _ _=>dk rfl fv) ?_
 refine vf (λ_ _ _ _ _ _=>zf zy rfl fv) ?_
 refine vf (λx w9 G9 aW di lh=>?_) ?_
 have cC:=cC.go di
 refine zl eS rfl (cC.at rfl) ?_
 exact fv
 refine cT ?_
 refine vf (λ_ _ _ _ _ _=>dk rfl fv) ?_
 refine vf (λ_ _ _ _ _ _=>zf De rfl fv) ?_
 refine vf (λx w9 G9 aW di lh=>?_) ?_
 have cC:=cC.go di
 refine zl eS rfl (cC.at rfl) ?_
 exact fv
 refine cT ?_
 refine cT ?_
 refine vf (λ_ _ _ _ _ _=>zi bh bA rfl rfl (by rw[rm];omega) fv) ?_
 refine vf (λx w9 G9 aW di lh=>?_) ?_
 have bY:=bY.go di
 refine zl cm rfl (bY.cells 0 _ rfl) ?_
 exact fv
 refine vf (λx w9 G9 aW di lh=>?_) ?_
 have FY:=FY.go di;have NI:=NI.go di
 refine aC (F1 (ke t.sc) (pe t.sc) (by simp[ke,pe]) (by simp[ke];omega) (aD aX k) _ _ _ _ w9 FY NI) ?_
 rintro v10 cO ⟨ry,bV⟩
 have Ce:=bV.size
 obtain rfl:=ry
 exact fk bV
 refine vf (λx w9 G9 aW di lh=>?_) ?_
 refine aC ((ND (gM _ Cw).2▸vE (kG t.sc (aD aX k)) (by have:=Ix hs (aD aX k);omega) w9)) ?_
 rintro v10 cO ⟨ry,bV⟩
 have Ce:=bV.size
 obtain rfl:=ry
 exact fk bV
 refine vf (λx w9 G9 aW di lh=>?_) ?_
 refine gH bh bA rfl rfl ?_
 intro cO bV GI Bw
 exact ff bV (⟨_,rfl,GI.o lh⟩)
 refine ve 0 (λx w9 G9 aW di lh hJ hlen=>?_) ?_
 have bo:=jR hlen
 subst bo
 intro vA d15
 obtain⟨bb,e6,gz⟩:=d15
 subst e6
 obtain⟨cB,cD⟩:=hJ
 subst cB
 have agk:=UF.s2.ext cD
 refine se bh bA rfl rfl rfl rfl rfl rfl agk gz.jx (by have:=af8 (s:=t.sc) (aX:=aX) (k:=k);omega) ?_
 intro v9 g9 cO dL aG fN
 rw[<-af6 aq] at dL
 exact fe g9.toList (⟨aG,λx hx=>by rcases fN with h|h;(·rw[h] at hx;exact .inl hx);(·rw[h] at hx;simp at hx;right;omega)⟩) ((λx hx=>dL.lt x hx)) (⟨g9,dL,cD.any.trans aG,fN.imp id (λh=>⟨_,h,cD.size⟩)⟩)
 exact trivial
 intro x j4 D7 aW wT Gj hJ hlen
 have aR:=jS hlen
 obtain⟨q0,bo⟩:=aR
 subst bo
 intro vA d15
 change OW _ _ _ _ _ (aM (aN _ x _) (zZ 45 [_,_,_,_,_,_,_,_,_,_,_,_,_,_,_,_,_])) _
 obtain⟨g2,dL,aG,fN⟩:=hJ
 have NJ:=UF.AH dL aG fN
 refine zA<|ag<|df<|zm<|eI rfl rfl rfl (wrap_i64 _ om om)<|zA<|ag ?_
 exact⟨(k+1,(_,_),(_,g2)),⟨rfl,rfl,rfl,rfl,rfl,rfl,rfl,rfl,rfl,rfl⟩,⟨NJ,by show k+1<=_;omega⟩,by show aX.length-(k+1)<aX.length-k;omega⟩
 have fo:k=aX.length:=(by simp at h1;omega)
 subst fo
 rw[af9,aga] at hX
 refine gD<|gF rfl<|aQ<|zr<|zm<|jI rfl rfl rfl rfl<|ag ?_
 refine ji (λq:(Value×Option Nat)×(Value×Option Nat)=>[(0,.pointer (some ⟨b,0,none⟩)),(4,str aP),(5,str kind),(6,.slice ad nd cd),(16,q.1.1),(17,q.2.1)]) (λq ww=>Cu E L w b m q.1.1 q.1.2 R q.2.1 q.2.2 TY ww) ?_ ?_
 refine zc rfl (λh2=>?_) (λh2=>?_)
 have GJ:on≠[]:=(by simpa using h2)
 have NK:aX.map (λx=>bf (kU t.sc x))++[bf t.on]=R:=(by rw[GF];unfold AS;rw[iP GJ])
 have NL:aX.map (λx=>bL (kG t.sc x))++[on]=TY:=(by rw[AT];unfold mh;rw[iP GJ])
 have aR:=hX.fe.tk hT eV
 obtain⟨u1,u3,u4,u5,u6,u8,yx,hC⟩:=aR
 have cC:aY w3 bt [str t.aP,u1,.int .i64 (t.loads:Int),u3,u4,u5,u6,str t.expr.av.az,u8,.int .i64 (t.on:Int),str t.bm,.int .i64 (t.next:Int)].toArray 130:=yx
 refine zr<|zm<|zm<|dk rfl<|zf HI rfl<|zl qT rfl (cC.at rfl)<|aC (iQ (t.on+1) t.on om om w3) ?_
 rintro v4 w4 ⟨eJ,aF⟩
 have gK:=aF.size
 have hX:=hX.ext aF
 obtain rfl:=eJ
 refine gH bh bA rfl rfl ?_
 intro w5 aU NM jr
 have hX:=hX.ext aU
 refine se bh bA rfl rfl rfl rfl rfl rfl hX.s1 NM so ?_
 intro v9 g9 w6 dL bF fN
 rw[NK] at dL
 have aR:=hX.GD dL bF (fN.imp id (λh=>⟨_,h,lR _⟩))
 obtain⟨X3,L3,hX⟩:=aR
 refine zA<|ag<|df<|zm<|zm<|gH bh bA rfl rfl ?_
 intro w7 cz NN qm
 have hX:=hX.ext cz
 refine se bh bA rfl rfl rfl rfl rfl rfl hX.s2 NN so ?_
 intro v10 g10 w8 UG cv agl
 rw[NL] at UG
 have NJ:=hX.AH UG cv (agl.imp id (λh=>⟨_,h,lR _⟩))
 refine zA<|ag ?_
 exact⟨((_,g9),(_,g10)),⟨rfl,rfl,rfl,rfl,rfl,rfl⟩,NJ⟩
 have GJ:¬on≠[]:=(by simpa using h2)
 have NK:aX.map (λx=>bf (kU t.sc x))=R:=(by rw[GF];unfold AS;rw[iN GJ,List.append_nil])
 have NL:aX.map (λx=>bL (kG t.sc x))=TY:=(by rw[AT];unfold mh;rw[iN GJ,List.append_nil])
 rw[NK,NL] at hX
 refine bz ?_
 exact⟨((_,_),(_,_)),⟨rfl,rfl,rfl,rfl,rfl,rfl⟩,_,_,hX⟩
 intro gu w4 e4 hI
 obtain⟨⟨vr2,gr2⟩,BT,gt2⟩:=gu
 dsimp only at hI⊢
 obtain⟨X2,L2,hX2⟩:=hI
 have aR:=hX2.done
 obtain⟨L0,aw,hR,yB,fE⟩:=aR
 refine zr<|zm<|aC ((show ck Tryz.prog 75 [str [116],BT] w4 (λr w'=>r=str W∧ak [] w4 w') from by rw[hW];exact xP [116] TY (by rw[<-hW];omega) _ _ w4 fE)) ?_
 rintro v5 w5 ⟨ln,aU⟩
 have pJ:=aU.size
 have aw:=aw.ext aU;have hR:=hR.ext aU;have yB:=yB.ext aU
 obtain rfl:=ln
 refine zA<|ag<|zr<|zm<|zm<|aC (sj W m om E L0 b true w5 aw) ?_
 rintro v10 w6 ⟨gw,L1,aw,bZ⟩
 rw[t0] at gw
 subst gw
 have hR:=hR.go bZ
 have iM:∃x,x=m.dI W:=⟨_,rfl⟩
 obtain⟨m1,lV⟩:=iM
 rw[<-lV] at aw
 have t1:m1.types.length=r+1:=(by rw[lV,yc];omega)
 have c1:m1.code.length=c+0:=(by rw[lV,Ct];omega)
 have dD:=aw.dN
 have yB:=yB.go bZ.fr
 refine zA<|ag<|zr<|zm<|zm<|aC (iQ (r+1) r om om w6) ?_
 rintro v7 w7 ⟨iV,cz⟩
 have po:=cz.size
 have aw:=aw.ext cz;have hR:=hR.ext cz;have yB:=yB.ext cz
 obtain rfl:=iV
 have dD:=aw.dN
 refine gH bh bA rfl rfl ?_
 intro w8 cv Ek mr
 have aw:=aw.ext cv;have hR:=hR.ext cv;have yB:=yB.ext cv
 refine zm<|aC (tV [bf r] R so _ _ L1 w8 (aY.eF [bf r] Ek (λhx=>by have:=dD _ hx;omega)) yB aw.dN) ?_
 rintro v9 w9 ⟨eT,aG⟩
 have pq:=aG.size
 have aw:=aw.ext aG;have hR:=hR.ext aG;have Ek:=Ek.ext aG
 have UH:=eT
 have aR:=eP UH
 obtain⟨a13,n13,c13,GC,_⟩:=aR
 subst GC
 clear Ek
 refine aC (lk l8 ([bf r]++R) (mG de so (by intro p hp;rcases mA.1 hp with hp|hp;(·simp at hp;subst hp;exact mn om);(·have:=NH p hp;omega))) m1 om E L1 b _ w9 aw UH) ?_
 rintro jX cO ⟨L2,aw,bZ⟩
 have hR:=hR.go bZ
 have fH:∃x,x=m1.da l8 ([bf r]++R):=⟨_,rfl⟩
 obtain⟨m2,lW⟩:=fH
 rw[<-lW] at aw
 have t2:m2.types.length=r+1:=(by rw[lW,oR];omega)
 have c2:m2.code.length=c+1:=(by rw[lW,pB];omega)
 have dD:=aw.dN
 have NO:=uj.go hR.fr
 refine ag<|zr<|zm<|gH bh bA rfl rfl ?_
 intro eY cM Jx uK
 have aw:=aw.ext cM;have hR:=hR.ext cM;have NO:=NO.ext cM
 refine zm<|aC (tV [W] cP so _ _ L2 eY (aY.eF [W] Jx (λhx=>by have:=dD _ hx;omega)) NO aw.dN) ?_
 rintro v12 gj ⟨s8,dG⟩
 have Ea:=dG.size
 have aw:=aw.ext dG;have hR:=hR.ext dG;have Jx:=Jx.ext dG
 have UI:=s8
 have aR:=eP UI
 obtain⟨a14,n14,c14,ig,_⟩:=aR
 subst ig
 clear Jx
 refine aC ((show ck Tryz.prog 75 [str [99],.slice a14 n14 c14] gj (λr w'=>r=str C0∧ak [] gj w') from by rw[Jv];exact xP [99] (W::cP) (by rw[<-Jv];omega) _ _ gj UI)) ?_
 rintro wR jF ⟨vH,fM⟩
 have Gz:=fM.size
 have aw:=aw.ext fM;have hR:=hR.ext fM
 obtain rfl:=vH
 refine zA<|ag<|zr<|zm<|zm<|aC (sj C0 m2 om E L2 b true jF aw) ?_
 rintro v10 jg ⟨gw,L3,aw,bZ⟩
 rw[t2] at gw
 subst gw
 have hR:=hR.go bZ
 have yC:∃x,x=m2.dI C0:=⟨_,rfl⟩
 obtain⟨m3,lX⟩:=yC
 rw[<-lX] at aw
 have t3:m3.types.length=r+2:=(by rw[lX,yc];omega)
 have c3:m3.code.length=c+1:=(by rw[lX,Ct];omega)
 have dD:=aw.dN
 refine zA<|ag<|zr<|zm<|zm<|aC (iQ ((r+1)+1) (r+1) om om jg) ?_
 rintro vA qe ⟨Cx,jG⟩
 have NP:=jG.size
 have aw:=aw.ext jG;have hR:=hR.ext jG
 obtain rfl:=Cx
 have dD:=aw.dN
 refine zm<|lq bh bA rfl rfl rfl rfl ?_
 intro lU kZ Cy Gb
 have aw:=aw.ext kZ;have hR:=hR.ext kZ
 refine aC (lk sI [bf (r+1),aP] (mG de sm (by intro p hp;simp at hp;rcases hp with rfl|rfl;(·exact mn om);(·omega))) m3 om E L3 b _ lU aw (aY.eF [bf (r+1),aP] Cy (λhx=>by have:=dD _ hx;omega))) ?_
 rintro jX vI ⟨L4,aw,bZ⟩
 have hR:=hR.go bZ
 clear Cy
 have Cz:∃x,x=m3.da sI [bf (r+1),aP]:=⟨_,rfl⟩
 obtain⟨m4,oW⟩:=Cz
 rw[<-oW] at aw
 have t4:m4.types.length=r+2:=(by rw[oW,oR];omega)
 have c4:m4.code.length=c+2:=(by rw[oW,pB];omega)
 have dD:=aw.dN
 refine ag<|zr<|zm<|zm<|zm<|lq bh bA rfl rfl rfl rfl ?_
 intro xg uk Jy Nl
 have aw:=aw.ext uk;have hR:=hR.ext uk
 refine aC ((show ck Tryz.prog 75 [str [116],_] xg (λr w'=>r=str P0∧ak [] xg w') from by rw[sk];exact xP [116] [C0,W] (by rw[<-sk];omega) _ L4 xg (aY.eF [C0,W] Jy (λhx=>by have:=dD _ hx;omega)))) ?_
 rintro Gw CA ⟨agq,vK⟩
 have amO:=vK.size
 have aw:=aw.ext vK;have hR:=hR.ext vK;have Jy:=Jy.ext vK
 obtain rfl:=agq
 clear Jy
 refine aC (sj P0 m4 om E L4 b true CA aw) ?_
 rintro v10 vL ⟨gw,L5,aw,bZ⟩
 rw[t4] at gw
 subst gw
 have hR:=hR.go bZ
 have NQ:∃x,x=m4.dI P0:=⟨_,rfl⟩
 obtain⟨m5,yD⟩:=NQ
 rw[<-yD] at aw
 have t5:m5.types.length=r+3:=(by rw[yD,yc];omega)
 have c5:m5.code.length=c+2:=(by rw[yD,Ct];omega)
 have dD:=aw.dN
 refine zA<|ag<|zr<|zm<|zm<|aC (iQ ((r+2)+1) (r+2) om om vL) ?_
 rintro v21 rC ⟨agr,vM⟩
 have amP:=vM.size
 have aw:=aw.ext vM;have hR:=hR.ext vM
 obtain rfl:=agr
 have dD:=aw.dN
 refine zm<|aC (iQ ((r+1)+1) (r+1) om om rC) ?_
 rintro GK El ⟨ags,Em⟩
 have amQ:=Em.size
 have aw:=aw.ext Em;have hR:=hR.ext Em
 obtain rfl:=ags
 have dD:=aw.dN
 refine zm<|aC (iQ (r+1) r om om El) ?_
 rintro M8 UJ ⟨agt,GL⟩
 have amR:=GL.size
 have aw:=aw.ext GL;have hR:=hR.ext GL
 obtain rfl:=agt
 have dD:=aw.dN
 refine pU bh bA rfl rfl rfl rfl rfl ?_
 intro w24 yE Jz agv
 have aw:=aw.ext yE;have hR:=hR.ext yE
 refine aC (lk l8 [bf (r+2),bf (r+1),bf r] (mG de sm (by intro p hp;simp at hp;rcases hp with rfl|rfl|rfl<;>exact mn om)) m5 om E L5 b _ w24 aw (aY.eF [bf (r+2),bf (r+1),bf r] Jz (λhx=>by have:=dD _ hx;omega))) ?_
 rintro jX w25 ⟨L6,aw,bZ⟩
 have hR:=hR.go bZ
 clear Jz
 have NR:∃x,x=m5.da l8 [bf (r+2),bf (r+1),bf r]:=⟨_,rfl⟩
 obtain⟨m6,yF⟩:=NR
 rw[<-yF] at aw
 have t6:m6.types.length=r+3:=(by rw[yF,oR];omega)
 have c6:m6.code.length=c+3:=(by rw[yF,pB];omega)
 have dD:=aw.dN
 refine ag<|zr<|zm<|zm<|aC (sj kind m6 om E L6 b true w25 aw) ?_
 rintro v10 w26 ⟨gw,L7,aw,bZ⟩
 rw[t6] at gw
 subst gw
 have hR:=hR.go bZ
 have hx7:∃x,x=m6.dI kind:=⟨_,rfl⟩
 obtain⟨m7,JA⟩:=hx7
 rw[<-JA] at aw
 have t7:m7.types.length=r+4:=(by rw[JA,yc];omega)
 have c7:m7.code.length=c+3:=(by rw[JA,Ct];omega)
 have dD:=aw.dN
 refine zA<|ag<|zr<|zm<|zm<|aC (iQ ((r+3)+1) (r+3) om om w26) ?_
 rintro v27 w27 ⟨agA,NS⟩
 have amS:=NS.size
 have aw:=aw.ext NS;have hR:=hR.ext NS
 obtain rfl:=agA
 have dD:=aw.dN
 refine zm<|aC (iQ ((r+2)+1) (r+2) om om w27) ?_
 rintro v28 w28 ⟨agB,NT⟩
 have amU:=NT.size
 have aw:=aw.ext NT;have hR:=hR.ext NT
 obtain rfl:=agB
 have dD:=aw.dN
 refine zm<|zm<|ya bh bA rfl rfl rfl rfl rfl rfl ?_
 intro w29 UK UL I2
 have aw:=aw.ext UK;have hR:=hR.ext UK
 refine aC (lk sJ [bf (r+3),bf (r+2),kind,W] (mG de sm (by intro p hp;simp at hp;rcases hp with rfl|rfl|rfl|rfl;(·exact mn om);(·exact mn om);(·omega);(·omega))) m7 om E L7 b _ w29 aw (aY.eF [bf (r+3),bf (r+2),kind,W] UL (λhx=>by have:=dD _ hx;omega))) ?_
 rintro jX w30 ⟨L8,aw,bZ⟩
 have hR:=hR.go bZ
 clear UL
 have UM:∃x,x=m7.da sJ [bf (r+3),bf (r+2),kind,W]:=⟨_,rfl⟩
 obtain⟨m8,JB⟩:=UM
 rw[<-JB] at aw
 have t8:m8.types.length=r+4:=(by rw[JB,oR];omega)
 have c8:m8.code.length=c+4:=(by rw[JB,pB];omega)
 have dD:=aw.dN
 refine ag<|zr<|zm<|zm<|zA<|zA<|ag<|aV ?_
 subst JB JA yF yD oW lX lW lV
 exact⟨_,rfl,rfl,_,aw,hR⟩
def UN {s:dd} {k i:Nat} {aX:List aj} (h:i<aX.length):iR s k (aX.take (i+1)) []=iR s k (aX.take i) []++[(aD aX i,k+i,kG s (aD aX i))]:=by
 unfold iR
 rw[List.take_add_one,lp h]
 simp only[Option.toList_some,List.nil_append,List.zipIdx_append,List.map_append,List.length_take,List.zipIdx_singleton,List.map_cons,List.map_nil]
 rw[Nat.min_eq_left (Nat.le_of_lt h),Nat.zero_add]
def qN:Ex:=.bi [43] (.at [49]) (.at [50])
def JC:aj:=[40,43,32,49,32,50,41]
def agD:nX qN=some qN:=rfl
def NU:qN.ok:=by refine⟨by decide,?_,?_⟩<;>(show qu _=true;decide+kernel)
def UO:qN.av.text=JC:=by decide+kernel
def UP:ba JC=some qN.av:=by
 rw[<-UO]
 exact Lc (Ex.wf NU) (by decide+kernel) (by decide+kernel)
def type12:bM qN []=some .i:=by rfl
def agE:(ofM qN .i).wide=false:=by decide+kernel
def agF:jN (ofM qN .i).blocks=true:=by decide+kernel
def agG {x:aj} (e:Ex):Fv x e->eQ x=true:=by
 induction e with
 |«at» s=>exact λh=>h.2
 |un hd a ih=>exact ih
 |bi hd a b i1 i2=>exact λh=>h.elim i1 i2
 |ite a b c i1 i2 i3=>exact λh=>h.elim i1 λh=>h.elim i2 i3
 |lt y a b i1 i2=>exact λh=>h.elim i1 λh=>i2 h.2
 |fn f y A B e ih=>exact λh=>ih h.2.2
def UQ {e:Ex} {bd:List aj} {x:aj} (h:x∈cG e bd []):eQ x=true:=by
 rcases(qv x e bd []).1 h with h|h
 ·simp at h
 ·exact agG _ h.1
def UR (x0:ByteArray) (a1:Option Addr) (n1 c1:Nat) (x2:Int) (x7:ByteArray) (a8:Option Addr) (n8 c8:Nat) (x9:Int) (En:ByteArray) (UT:Int) (w:World):(Instr.build 130 #[(0,.string x0),(1,.slice a1 n1 c1),(2,.int .i64 x2),(7,.agg #[.string x7,.slice a8 n8 c8]),(8,.int .i64 x9),(9,.string En),(10,.int .i64 UT)]).run Tryz.prog w= .ok (.agg #[.string x0,.slice a1 n1 c1,.int .i64 x2,.slice none 0 0,.slice none 0 0,.slice none 0 0,.slice none 0 0,.string x7,.slice a8 n8 c8,.int .i64 x9,.string En,.int .i64 UT]) w:=by kernel_rfl
def te (X G:List Nat) (w:World) (v:Value) (xs:List aj):Prop:=bI (X++G) w v xs
def te.go {X G G':List Nat} {w w':World} {v:Value} {xs:List aj} (h:te X G w v xs) (k:Fr G w G' w'):te X G' w' v xs:=bI.go h (k.in X)
def JD {X G:List Nat} {w0 w:World} (h:∀x,x∈X->x<w0.heap.size) (hs:w0.heap.size<=w.heap.size) (hG:fy G w):∀x,x∈X++G->x<w.heap.size:=λx hx=>by
 rcases mA.1 hx with h1|h1
 ·exact lL (h x h1) hs
 ·exact hG x h1
def eR.more {E L L1:List Nat} {w w1 w2:World} (h:eR E L w L1 w1) {G:List Nat} {x:Nat} (k:ak G w1 w2) (hG:∀y,y∈G->w1.heap.size<=y) (hx:w1.heap.size<=x) (hE:∀y,y∈E->y<w1.heap.size):eR E L w (x::L1) w2:=by
 have k2:ak [] w1 w2:=(ak.refl [] w1).since k λy hy=>.inr (hG y hy)
 have h1:=h.ext k2
 exact⟨⟨h1.fr.aO,λy hy=>by
  rcases mC.1 hy with rfl|hy
  ·exact .inr (Nat.le_trans h.fr.aO.size hx)
  ·exact h.fr.mem y hy⟩,h1.out⟩
def eR.sub {E L L1 L2:List Nat} {w w1:World} (h:eR E L w L1 w1) (hs:∀x,x∈L2->x∈L1):eR E L w L2 w1:=⟨⟨h.fr.aO,λx hx=>h.fr.mem x (hs x hx)⟩,h.out⟩
def um (aP:aj) (W:aj) (nd:List aj) (FR:List aj) (rest:Ex) (bm:aj) (sc:dd):Tk:=⟨aP,W::nd,FR.length+1,[],sc,rest,2+FR.length,bm,2⟩
def agH (m:Mk) (s:dd) (ton:Nat) (bm name:aj) (kind:Ty) (rest:Ex) {FR:List aj} {P:Pk} (hF:FR=cG rest [name] []) (hP:P=pd m.lO s ton FR bm m.aP (dX (bL kind)) [bL kind]):
  tN m s ton bm name kind rest=({P.m with bX:=m.bX++[um m.aP P.w [bL kind] FR rest bm (iR s 2 FR []++[(name,1,kind)])]},P.r,dX (bL kind)):=by
 subst hP;subst hF;rfl
def UU {m:Mk} {s:dd} {ton:Nat} {aX:List aj} {on aP kind:aj} {cP:List aj} {P:Pk} (hP:P=pd m.lO s ton aX on aP kind cP):P.m.bX=m.bX∧P.r=m.types.length+3∧P.w=bO [116] (mh s aX on):=by
 subst hP;exact⟨rfl,rfl,rfl⟩
set_option maxHeartbeats 4000000 in
def UW (t:Tk) (m:Mk) (name:aj) (kind:Ty) (rest:Ex) (bD:rest.ok) (rq:rest.n<=1000) (sS:∀x,x∈cG rest [name] []->(look (fl t.sc) x).isSome=true) (pg:(cG rest [name] []).length<=40) (hs:kx t.sc) (o5:t.sc.length<=9000) (hk:kind.n<=16) (rl:t.on<1000) (kP:t.bm.length<=272) (ht:m.types.length+4<1000) (hc:m.code.length<=8000) (xh:m.count<1000) (gx:m.bX.length<100000)
  (E L:List Nat) (b bt:Nat) (v:Value) (w:World) (h:ei t8 E L w b true m) (hT:iu L w 130 bt t) (eV:bt∈E) (hv:bT L w v rest.av):
  ck Tryz.prog 183 [.pointer (some ⟨b,0,none⟩),.pointer (some ⟨bt,0,none⟩),str name,str kind.text,v] w λr w'=>∃L',ei t8 E L' w' b true (tN m t.sc t.on t.bm name kind rest).1∧iu L' w' 130 bt {t with on:=(tN m t.sc t.on t.bm name kind rest).2.1,bm:=(tN m t.sc t.on t.bm name kind rest).2.2}∧Fr L w L' w'∧∃G,ak G w w'∧∀z,z∈G->z∈E->z=bt:=by
 obtain⟨ar,nr,cr,rfl,qh,bc⟩:=dO hv
 have lY:=h.dN
 obtain⟨FR,yG⟩:∃x,x=cG rest [name] []:=⟨_,rfl⟩
 obtain⟨P,hP⟩:∃x,x=pd m.lO t.sc t.on FR t.bm m.aP (dX (bL kind)) [bL kind]:=⟨_,rfl⟩
 rw[agH m t.sc t.on t.bm name kind rest yG hP]
 obtain⟨GM,AU,hPw⟩:=UU hP
 rw[<-yG] at pg sS
 have gM:∀x,x∈FR->eQ x=true∧(look (fl t.sc) x).isSome=true:=λx hx=>⟨UQ (by rw[<-yG];exact hx),sS x hx⟩
 have gR:=pV hk
 have oX:=tS hk
 have CB:=Av xh
 have hK:=ak.refl [] w
 have xi:b∉E:=h.mem.2.2.1
 have Eo:b∈L:=h.mem.1 b sm
 refine cX [] 109 Tryz.func183 rfl YK rfl rfl ?_
 refine zr<|fG rfl ?_
 intro w1 aK cV eh
 have hK:=hK.ext aK
 refine ag<|zr<|zL bU aH rfl cV.all rfl<|zm<|gH bh bA rfl rfl ?_
 intro w2 aq s9 eO
 have hK:=hK.ext aq;have cV:=cV.ext aq
 refine gP bh bA ?_
 intro w3 aJ vq iJ
 have hK:=hK.ext aJ;have cV:=cV.ext aJ;have s9:=s9.ext aJ
 refine aC (IT rest.n rest (lR _) rq bD [name] [] so so _ _ _ (some w2.heap.size) w3 ((hv.fresh (L':=[w2.heap.size]) (λx hx=>.inr (by simp at hx;omega))).ext hK) (aY.eF [name] s9 (λhx=>by simp at hx;omega)) vq.lr) ?_
 rintro GK w4 ⟨g22,GN,uo⟩
 rw[<-yG] at GN
 have kh:ak [] w w4:=(hK.since uo.aO (λx hx=>.inr (by simp at hx;omega)))
 have NV:∀x,x∈g22.toList->w.heap.size<=x:=(λx hx=>by rcases uo.mem x hx with h9|h9;(·simp at h9;omega);(·omega))
 have iF:bI L w4 GK FR:=GN.rep (λx hx NW=>by have:=NV x (by simp[hx]);have:=lY x NW;omega)
 have aR:=eP iF
 obtain⟨NX,n22,NY,NZ,N0⟩:=aR
 subst NZ
 subst N0
 have cV:fi L w4 w.heap.size [str rest.av.az,.slice ar nr cr].toArray 66:=⟨cV.aO uo.aO so,λhx=>by have:=lY _ hx;omega⟩
 have aw:=h.ext kh
 have hR:=(eR.refl E L w).ext kh
 clear s9 vq
 refine zA<|ag<|zr<|zm<|aC (Nz m om E L b true w4 aw) ?_
 rintro v24 w5 ⟨⟨N2,aw⟩,yE⟩
 subst N2
 have hR:=hR.aL yE Eo xi
 have iF:=cF.aL iF yE (by simpa using Eo)
 have cV:=cV.aL yE (by simpa using Eo)
 refine zA<|ag<|zr<|zm<|aC (vE kind om w5) ?_
 rintro v6 w6 ⟨lx,bF⟩
 have oS:=bF.size
 have cV:=cV.ext bF;have aw:=aw.ext bF;have hR:=hR.ext bF;have iF:=iF.ext bF
 obtain rfl:=lx
 refine aC (Gx (bL kind) om w6) ?_
 rintro v7 w7 ⟨iV,cz⟩
 have po:=cz.size
 have cV:=cV.ext cz;have aw:=aw.ext cz;have hR:=hR.ext cz;have iF:=iF.ext cz
 obtain rfl:=iV
 have dD:=aw.dN
 refine zA<|ag<|zr<|zm<|aC (vE kind om w7) ?_
 rintro v8 w8 ⟨p9,cv⟩
 have AF:=cv.size
 have cV:=cV.ext cv;have aw:=aw.ext cv;have hR:=hR.ext cv;have iF:=iF.ext cv
 obtain rfl:=p9
 have dD:=aw.dN
 refine gH bh bA rfl rfl ?_
 intro w9 aG AV dP
 have cV:=cV.ext aG;have aw:=aw.ext aG;have hR:=hR.ext aG;have iF:=iF.ext aG
 refine zA<|ag<|zr<|zm<|zm<|zm<|zm<|dk rfl<|zf KH rfl ?_
 have uj:bI L w9 _ [bL kind]:=aY.eF [bL kind] AV (λhx=>by have:=dD _ hx;omega)
 have aR:=hR.tk hT eV
 obtain⟨u1,u3,u4,u5,u6,u8,yx,hC⟩:=aR
 have cC:aY w9 bt [str t.aP,u1,.int .i64 (t.loads:Int),u3,u4,u5,u6,str t.expr.av.az,u8,.int .i64 (t.on:Int),str t.bm,.int .i64 (t.next:Int)].toArray 130:=yx
 refine zl cm rfl (cC.at rfl)<|zm<|zm<|zm<|aC (UD t m.lO FR t.bm m.aP (dX (bL kind)) [bL kind] gM hs o5 pg rl kP om om sm (by intro x hx;simp at hx;subst hx;omega) ht hc E L b bt _ _ w9 aw (hR.tk hT eV) eV iF uj) ?_
 rintro v42 cO ⟨yj,L1,aw,bZ⟩
 rw[<-hP] at yj aw
 subst yj
 have hR:=hR.go bZ;have iF:=iF.go bZ.fr;have uj:=uj.go bZ.fr;have cV:=cV.go bZ.fr
 have agL:fi [] cO w.heap.size [str rest.av.az,.slice ar nr cr].toArray 66:=⟨cV.jx,sm⟩
 have yA:te L1 [] cO _ [bL kind]:=(by unfold te;rw[List.append_nil];exact uj)
 have aR:=hR.tk hT eV
 obtain⟨u1,u3,u4,u5,u6,u8,yx,hC⟩:=aR
 have cC:fi [] cO bt [str t.aP,u1,.int .i64 (t.loads:Int),u3,u4,u5,u6,str t.expr.av.az,u8,.int .i64 (t.on:Int),str t.bm,.int .i64 (t.next:Int)].toArray 130:=⟨yx,sm⟩
 have uq:=aw.dN
 have amW:=cV
 have cV:=agL
 have GO:=iF
 have ml:=aw
 have uh:=hR
 clear AV
 refine zm<|zx (i:=0) rfl rfl<|zx (i:=1) rfl rfl<|zA<|zA<|ag<|aQ ?_
 apply kf et ([]) 18 (rA 45 17++[16]) (rA 45 17++[16]) [[],[],[1],[],[2,3],[],[5],[6],[],[],[9],[10],[],[12],[13],[14],[0,4,7,8,11,15],[]] [Ie.v _,Ie.v _,Ie.p (fun(G:List Nat) (v:Value) (ww:World)=>te L1 G ww v [P.w]),Ie.v _,Ie.p (fun(G:List Nat) (v:Value) (ww:World)=>te L1 G ww v ([P.w]++[bL kind])),Ie.v _,Ie.v _,Ie.v _,Ie.v _,Ie.v _,Ie.v _,Ie.v _,Ie.v _,Ie.v _,Ie.v _,Ie.v _,Ie.p (fun(G:List Nat) (v:Value) (ww:World)=>∃a4 n4 c4,v= .agg [str m.aP,.slice a4 n4 c4,.int .i64 ((FR.length+1:Nat):Int),.slice none 0 0,.slice none 0 0,.slice none 0 0,.slice none 0 0,str rest.av.az,.slice ar nr cr,.int .i64 ((2+FR.length:Nat):Int),str t.bm,.int .i64 2].toArray∧te L1 G ww (.slice a4 n4 c4) ([P.w]++[bL kind])),Ie.e 0] [17] [fun(G:List Nat) (vs:List Value) (ww:World)=>G=[]∧ak [] cO ww,fun(G:List Nat) (vs:List Value) (ww:World)=>∃bb,vs.getD 0 undef= .pointer (some ⟨bb,0,none⟩)∧G=[bb]∧cO.heap.size<=bb∧aY ww bb [str [],.slice none 0 0,.int .i64 0,.slice none 0 0,.slice none 0 0,.slice none 0 0,.slice none 0 0,str [],.slice none 0 0,.int .i64 0,str [],.int .i64 0].toArray 130∧ak [] cO ww] de rfl ((λx hx=>by simp at hx)) (by exact⟨λG v w G' w' h k=>h.go k,λG v w G' w' h k=>h.go k,λG v w G' w' ⟨a4,n4,c4,e,h⟩ k=>⟨a4,n4,c4,e,h.go k⟩,trivial⟩) (by exact⟨λG vs w w' ⟨h1,h2⟩ k=>⟨h1,h2.ext k⟩,λG vs w w' ⟨bb,h1,h2,h3,h4,h5⟩ k=>⟨bb,h1,h2,h3,h4.ext k,h5.ext k⟩,trivial⟩) (⟨rfl,ak.refl _ _⟩)
 refine cT ?_
 refine cT ?_
 refine vf (λx eY GP aW xj CC=>?_) ?_
 refine gH bh bA rfl rfl ?_
 intro gj dG agM Nq
 exact ff dG ((aY.eF [P.w] agM (λhx=>by have:=JD uq xj.aO.size CC _ hx;omega)))
 refine cT ?_
 refine vf (λx eY GP aW xj CC=>?_) ?_
 have yA:=yA.go xj
 intro v2 d2
 have fj:=JD uq xj.aO.size CC
 refine aC (tV [P.w] [bL kind] sm _ _ _ eY d2 yA fj) ?_
 rintro v12 gj ⟨s8,dG⟩
 have Ea:=dG.size
 have eT:=s8
 exact ff dG eT
 refine cT ?_
 refine vf (λ_ _ _ _ _ _=>dZ bh rfl fv) ?_
 refine vf (λ_ _ _ _ _ _=>eI rfl rfl rfl (wrap_i64 _ om om) fv) ?_
 refine vf (λx eY GP aW xj CC=>?_) ?_
 have cV:=cV.go xj
 refine zL bU aH rfl cV.all rfl ?_
 exact fv
 refine cT ?_
 refine vf (λ_ _ _ _ _ _=>dZ bh rfl fv) ?_
 refine vf (λ_ _ _ _ _ _=>eI rfl rfl rfl (wrap_i64 _ om om) fv) ?_
 refine cT ?_
 refine vf (λ_ _ _ _ _ _=>dk rfl fv) ?_
 refine vf (λ_ _ _ _ _ _=>zf KH rfl fv) ?_
 refine vf (λx eY GP aW xj CC=>?_) ?_
 have cC:=cC.go xj
 refine zl cm rfl (cC.at rfl) ?_
 exact fv
 refine vf (λx eY GP aW xj CC=>?_) ?_
 intro v4 d4
 have aR:=eP d4
 obtain⟨a4,n4,c4,e4,_⟩:=aR
 subst e4
 refine j7 (UR _ _ _ _ _ _ _ _ _ _ _ _ _) rfl rfl ?_
 exact ff (ak.refl _ _) (⟨a4,n4,c4,rfl,d4⟩)
 refine ve 0 (λx eY GP aW xj CC hJ hlen=>?_) ?_
 have bo:=jR hlen
 subst bo
 obtain⟨cB,cD⟩:=hJ
 subst cB
 refine eD k9 rfl rfl rfl ?_
 intro gj dG wk Gb
 exact fe ([_]) (⟨dG.mono sm,λx hx=>by simp at hx;right;omega⟩) ((λx hx=>by simp at hx;omega)) (⟨_,rfl,rfl,cD.size,wk,cD.trans dG⟩)
 exact trivial
 intro x oo G50 aW agN amY hJ hlen
 have aR:=jS hlen
 obtain⟨q0,bo⟩:=aR
 subst bo
 intro v2 d2
 intro v4 d4
 intro yp d16
 have cC:=cC.go agN
 change OW _ _ _ _ _ (aM (aN _ x _) (zZ 45 [_,_,_,_,_,_,_,_,_,_,_,_,_,_,_,_,_]++[(16,_)])) _
 obtain⟨bk,sh,cB,CD,fz,cD⟩:=hJ
 have vB:q0=_:=sh
 subst vB
 subst cB
 obtain⟨a4,n4,c4,AW,N3⟩:=d16
 subst AW
 refine dw k9 rfl rfl rfl fz rfl ?_
 intro lS lB fz dP
 have iG:=fz.lt
 have yH:=cD.since lB (λx hx=>.inr (by simp at hx;omega))
 have aw:=ml.td yH sm CD iG
 have hR:=uh.more yH sm CD (λy hy=>uq y (ml.sub hy))
 have N4:∀x,x∈bk::L1->x∈L1++[bk]:=(λx hx=>by simp at hx⊢;rcases hx with h|h;(·exact .inr h);(·exact .inl h))
 have vN:bk∈bk::L1:=sm
 have Ep:bk∉E:=(λhx=>by have:=uq bk (ml.sub hx);omega)
 have iF:=(GO.fresh (L':=bk::L1) (λx hx=>by rcases mC.1 hx with rfl|hx;(·exact .inr CD);(·exact .inl hx))).ext yH
 have AM:=fI.go bc hR.fr
 have gA:iu (bk::L1) lS 130 bk (um m.aP P.w [bL kind] FR rest t.bm (iR t.sc 2 (FR.take 0) [])):=⟨_,_,_,_,_,_,fz,⟨(cF.aL N3 lB sm).fresh (λx hx=>.inl (N4 x hx)),.nil _ _ _,.nil _ _ _,.nil _ _ _,.nil _ _ _,AM⟩⟩
 refine ag<|aQ<|zr<|zA<|ag<|cS ?_
 refine fY (λi:Nat=>[(0,.pointer (some ⟨b,0,none⟩)),(1,.pointer (some ⟨bt,0,none⟩)),(2,str name),(3,str kind.text),(10,.slice NX FR.length NY),(12,str (dX (bL kind))),(14,.int .i64 (P.r:Int)),(16,.pointer (some ⟨bk,0,none⟩)),(17,.int .i64 (i:Int))]) (λi w'=>ak [bk] lS w'∧i<=FR.length∧iu (bk::L1) w' 130 bk (um m.aP P.w [bL kind] FR rest t.bm (iR t.sc 2 (FR.take i) []))) (λi=>FR.length-i) (0) (⟨rfl,rfl,rfl,rfl,rfl,rfl,rfl,rfl,rfl⟩) (⟨ak.refl _ _,Nat.zero_le _,gA⟩) ?_
 intro gg AO JE hI
 obtain⟨du,hi,gA⟩:=hI
 have aw:=aw.aO du sm
 have hR:=hR.aL du vN Ep
 have iF:=cF.aL iF du sm
 refine aQ<|zr<|zm<|zm<|dZ bh rfl<|fA rfl rfl rfl<|ag<|zc rfl (λh1=>?_) (λh1=>?_)
 have lj:gg<FR.length:=(by simp at h1;omega)
 have Cw:=List.mem_of_getElem? (lp lj)
 have aR:=hR.tk hT eV
 obtain⟨u1,u3,u4,u5,u6,u8,cC,hC⟩:=aR
 have CE:=hC.aX
 have CF:=hC.types
 have aR:=ou iF lj
 obtain⟨b2,nu,e2,bY⟩:=aR
 cases e2
 have Nj:=aw.dN
 refine bz<|aQ<|cS ?_
 apply mv et 19 (rA 68 19) (rA 68 19) [[],[],[0,1],[2],[],[4],[],[6],[7],[8],[],[10],[11],[12],[],[],[14,15],[16],[9,13,17]] [It.v _,It.v _,It.v _,It.v _,It.v _,It.v _,It.v _,It.v _,It.v _,It.v _,It.v _,It.v _,It.v _,It.v _,It.v _,It.v _,It.v _,It.v _,It.v _] de rfl
 intro wd aB
 refine eK ?_
 refine eK ?_
 refine vk aB (λx mm pz=>?_) ?_
 refine zi bh bA rfl rfl om ?_
 exact pv
 refine vk aB (λx mm pz=>?_) ?_
 have bY:=bY.ext pz
 refine zl cm rfl (bY.cells 0 _ rfl) ?_
 exact pv
 refine eK ?_
 refine vk aB (λx mm pz=>?_) ?_
 refine eI rfl rfl rfl (wrap_i64 _ om om) ?_
 exact pv
 refine eK ?_
 refine vk aB (λx mm pz=>?_) ?_
 refine dk rfl ?_
 exact pv
 refine vc (λ_ _ _=>zf zy rfl pv) ?_
 refine vk aB (λx mm pz=>?_) ?_
 have cC:=cC.ext pz
 refine zl eS rfl (cC.at rfl) ?_
 exact pv
 refine eK ?_
 refine vk aB (λx mm pz=>?_) ?_
 refine dk rfl ?_
 exact pv
 refine vc (λ_ _ _=>zf De rfl pv) ?_
 refine vk aB (λx mm pz=>?_) ?_
 have cC:=cC.ext pz
 refine zl eS rfl (cC.at rfl) ?_
 exact pv
 refine eK ?_
 refine eK ?_
 refine vk aB (λx mm pz=>?_) ?_
 refine zi bh bA rfl rfl om ?_
 exact pv
 refine vk aB (λx mm pz=>?_) ?_
 have bY:=bY.ext pz
 refine zl cm rfl (bY.cells 0 _ rfl) ?_
 exact pv
 refine vk aB (λx mm pz=>?_) ?_
 have CE:=CE.ext pz;have CF:=CF.ext pz
 refine aC (F1 (ke t.sc) (pe t.sc) (by simp[ke,pe]) (by simp[ke];omega) (aD FR gg) _ _ _ _ mm CE CF) ?_
 rintro v54 ur ⟨agO,AX⟩
 have am0:=AX.size
 have eT:=agO
 rw[ND (gM _ Cw).2] at eT
 subst eT
 exact pk AX
 exact trivial
 intro x Cf vz
 have aw:=aw.ext vz;have gA:=gA.ext vz;have du:=du.ext vz
 change OW _ _ _ _ _ (aM (aN _ x _) (zZ 68 [_,_,_,_,_,_,_,_,_,_,_,_,_,_,_,_,_,_,_])) _
 refine aC (Ej (um m.aP P.w [bL kind] FR rest t.bm (iR t.sc 2 (FR.take gg) [])) (aD FR gg) (2+gg) (kG t.sc (aD FR gg)) (by show(iR t.sc 2 (FR.take gg) []).length<100000;rw[yb,List.length_take];omega) (bk::L1) bk Cf vN aw.dN gA) ?_
 rintro v87 w93 ⟨gA,mH⟩
 have agQ:=mH.size
 refine ag<|df<|zm<|eI rfl rfl rfl (wrap_i64 _ om om)<|zA<|ag ?_
 exact⟨gg+1,⟨rfl,rfl,rfl,rfl,rfl,rfl,rfl,rfl,rfl⟩,⟨du.trans mH,om,by rw[UN lj];exact gA⟩,om⟩
 have Ai:gg=FR.length:=(by simp at h1;omega)
 subst Ai
 rw[List.take_length] at gA
 refine gD<|gF rfl<|zr<|zm<|zm<|aC (Ej (um m.aP P.w [bL kind] FR rest t.bm (iR t.sc 2 FR [])) name 1 kind (by show(iR t.sc 2 FR []).length<100000;rw[yb];omega) (bk::L1) bk AO vN aw.dN gA) ?_
 rintro v90 mm ⟨gA,tX⟩
 have aw:=aw.aO tX sm
 have hR:=hR.aL tX vN Ep
 have gA:iu (bk::L1) mm 130 bk (um m.aP P.w [bL kind] FR rest t.bm (iR t.sc 2 FR []++[(name,1,kind)])):=gA
 have Jw:P.m.bX.length<100000:=(by rw[GM];exact gx)
 have aR:=aw.open
 obtain⟨vb,vt,vc,vy,gb,gt,gc,gy,ua,hS⟩:=aR
 have aR:=hS.apart
 obtain⟨yw,nJ,vF,mF,vG,ug⟩:=aR
 obtain⟨u1,u3,u4,u5,u6,u8,GQ,tf⟩:=gA
 have bj:fi gt.toList mm b [vb,vt,.int .i64 ((P.m).count:Int),.bool (P.m).wide,vc,vy].toArray 127:=⟨ua,λhx=>(mF b hx).2.1 rfl⟩
 have fz:fi gt.toList mm bk (pS (um m.aP P.w [bL kind] FR rest t.bm (iR t.sc 2 FR []++[(name,1,kind)])) u1 u3 u4 u5 u6 u8).toArray 130:=⟨GQ,λhx=>(mF bk hx).1 sm⟩
 have p6:fy gt.toList mm:=(λx hx=>hS.db x (hS.mem.2 (by simp[hx])))
 have AY:∀x,x∈gt.toList->x∈(bk::L1):=(λx hx=>hS.mem.2 (by simp[hx]))
 refine ag<|aQ ?_
 apply kf et gt.toList 8 (rA 91 8) (rA 91 8) [[],[],[1],[2],[3],[],[5],[4,6]] [Ie.v _,Ie.v _,Ie.v _,Ie.v _,Ie.v _,Ie.v _,Ie.p (fun(G:List Nat) (v:Value) (ww:World)=>∃bb,v= .slice (some ⟨bb,0,none⟩) 1 1∧fi G ww bb (pS (um m.aP P.w [bL kind] FR rest t.bm (iR t.sc 2 FR []++[(name,1,kind)])) u1 u3 u4 u5 u6 u8).toArray 130),Ie.e 0] [7] [fun(G:List Nat) (vs:List Value) (ww:World)=>G=gt.toList∧ak [] mm ww,fun(G:List Nat) (vs:List Value) (ww:World)=>∃g2,eE (gt.toList++(g2.toList++(bk::L1))) ww 130 12 (vs.getD 0 undef) g2 (((P.m).bX++[(um m.aP P.w [bL kind] FR rest t.bm (iR t.sc 2 FR []++[(name,1,kind)]))]).map Tk.enc)∧ak gt.toList mm ww∧(g2=gt∨∃x,g2=some x∧mm.heap.size<=x)] de rfl p6 (by exact⟨λG v w G' w' ⟨bb,e,h⟩ k=>⟨bb,e,h.go k⟩,trivial⟩) (by exact⟨λG vs w w' ⟨h1,h2⟩ k=>⟨h1,h2.ext k⟩,λG vs w w' ⟨g2,h1,h2,h3⟩ k=>⟨g2,h1.ext k,h2.ext k,h3⟩,trivial⟩) (⟨rfl,ak.refl _ _⟩)
 refine cT ?_
 refine cT ?_
 refine vf (λ_ _ _ _ _ _=>dk rfl fv) ?_
 refine vf (λ_ _ _ _ _ _=>zf zv rfl fv) ?_
 refine vf (λx ur N5 aW GR JG=>?_) ?_
 have bj:=bj.go GR
 refine zl E4 rfl (bj.at rfl) ?_
 exact fv
 refine vf (λx ur N5 aW GR JG=>?_) ?_
 have fz:=fz.go GR
 refine zL Db k9 rfl fz.all rfl ?_
 exact fv
 refine vf (λx ur N5 aW GR JG=>?_) ?_
 refine sG [_] [pS (um m.aP P.w [bL kind] FR rest t.bm (iR t.sc 2 FR []++[(name,1,kind)])) u1 u3 u4 u5 u6 u8] xH k9 rfl rfl rfl rfl rfl rfl rfl rfl rfl ?_
 intro JH xk GS UX
 exact ff xk (⟨_,rfl,GS.o JG⟩)
 refine ve 0 (λx ur N5 aW GR JG hJ hlen=>?_) ?_
 have bo:=jR hlen
 subst bo
 intro v6 d6
 obtain⟨bb,e6,gz⟩:=d6
 subst e6
 obtain⟨cB,cD⟩:=hJ
 subst cB
 have x4:=(hS.ta.any cD).sub (L':=gt.toList++(bk::L1)) (λx hx=>.inl (by rcases mA.1 hx with h|h;(·exact AY x h);(·exact h)))
 have AZ:=tf.ext cD
 refine BS (L:=(bk::L1)) (row:=Tk.enc (um m.aP P.w [bL kind] FR rest t.bm (iR t.sc 2 FR []++[(name,1,kind)]))) xH k9 rfl rfl rfl rfl rfl rfl x4 rfl gz.all (λu hu=>List.all_eq_true.1 AZ.one u hu) (AZ.go ((Fr.refl _ _).to (L2:=gt.toList++(bk::L1)) (λx hx=>.inl (by rcases mA.1 hx with h|h;(·exact AY x h);(·exact h))))).BF (by rw[List.length_map];omega) ?_
 intro v9 g9 JH dL ui fN
 exact fe g9.toList (⟨ui.aO,λx hx=>by rcases fN with h|h;(·rw[h] at hx;exact .inl hx);(·rw[h] at hx;simp at hx;right;omega)⟩) ((λx hx=>dL.lt x hx)) (⟨g9,by rw[List.map_append];exact dL,cD.any.trans ui.aO,fN.imp id (λh=>⟨_,h,cD.size⟩)⟩)
 exact trivial
 intro x w93 G93 aW agS am2 hJ hlen
 have aR:=jS hlen
 obtain⟨q0,bo⟩:=aR
 subst bo
 intro v6 d6
 have bj:=bj.go agS
 change OW _ _ _ _ _ (aM (aN _ x _) (zZ 91 [_,_,_,_,_,_,_,_])) _
 obtain⟨g2,dL,fo,iA⟩:=hJ
 have aR:=hS.Fh dL fo iA
 obtain⟨L3,gk,jW⟩:=aR
 have aR:=dL.len
 obtain⟨a3,c3,e3⟩:=aR
 have e4:q0=_:=e3
 subst e4
 have bj:aY _ b [vb,vt,.int .i64 ((P.m).count:Int),.bool (P.m).wide,vc,vy].toArray 127:=ua.aO fo (λhx=>(mF b hx).2.1 rfl)
 refine dk rfl<|zf zv rfl<|gY (o:=1) KM rfl rfl rfl bj rfl ?_
 intro w94 UY bj dP
 have gk:=gk.aO UY sm
 have aw:ei t8 (bk::E) L3 w94 b true {P.m with bX:=(P.m).bX++[(um m.aP P.w [bL kind] FR rest t.bm (iR t.sc 2 FR []++[(name,1,kind)]))]}:=⟨_,_,_,_,_,_,_,_,bj,gk⟩
 have hR:=(hR.add jW fo (λx hx vO=>(mF x hx).1 (by simp[vO]))).aL UY (gk.mem.2 (.inr (.inl rfl))) (λvO=>nJ (by simp[vO]))
 rw[GM] at aw
 have aR:=aw.drop
 obtain⟨L4,N6,aw⟩:=aR
 have hR:=hR.sub (L2:=L4) (λx hx=>by rw[N6];simp[hx])
 have aR:=hR.tk hT eV
 obtain⟨u1,u3,u4,u5,u6,u8,cC,hC⟩:=aR
 have yI:=aw.sub eV
 refine ag<|zr<|zm<|zm<|dk rfl<|zf HI rfl<|gY (o:=9) tE rfl rfl rfl cC rfl ?_
 intro Er tg cC dP
 have hC:=hC.aL tg (by simpa using yI)
 have aw:=aw.aO tg (by simpa using eV)
 have hF:=hR.fr.aL tg (by simpa using yI)
 have tW:=hR.out
 obtain⟨G0,gN,GB⟩:=tW
 have gN:ak (G0++[bt]) w Er:=(gN.mono (λz hz=>List.mem_append_left _ hz)).trans (tg.mono (λz hz=>mR _ hz))
 refine ag<|df<|zm<|zm<|dk rfl<|zf KH rfl<|gY (o:=10) bA rfl rfl rfl cC rfl ?_
 intro GU A1 cC dP
 have hC:=hC.aL A1 (by simpa using yI)
 have aw:=aw.aO A1 (by simpa using eV)
 have hF:=hF.aL A1 (by simpa using yI)
 have gN:=gN.trans (A1.mono (λz hz=>mR _ hz))
 refine ag ?_
 exact⟨_,rfl,L4,aw,⟨u1,u3,u4,u5,u6,u8,cC,⟨hC.regs,hC.self,hC.aX,hC.at_,hC.types,hC.au⟩⟩,hF,_,gN,λz hz sq=>by rcases mA.1 hz with h9|h9;(·exact absurd sq (GB z h9));(·simpa using h9)⟩
def rD (aP:aj) (W:aj) (nd:List aj) (FR:List aj) (e:Ex) (bm:aj) (self:List aj) (sc:dd):Tk:=⟨aP,W::nd,FR.length,self,sc,e,2,bm,3⟩
def sr (s:dd) (FR:List aj) (f:aj) (A B:Ty) (e:Ex):dd:=if 0<ir f e then iR s 3 FR []++[(f,3+FR.length+2,.op true A B)] else iR s 3 FR []
def uw (f:aj) (A B:Ty) (e:Ex) (W:aj):List aj:=if 0<ir f e then[bL (.op true A B),W] else[]
def agU (m:Mk) (s:dd) (ton:Nat) (f x:aj) (A B:Ty) (e:Ex) {FR:List aj} {P:Pk} (hF:FR=cG (.fn f x A B e) [] []) (hP:P=pd m.lO s ton FR [] m.aP (bL (.op true A B)) [bL A,dX (bL B)]):
  Ag m s f x A B e=({P.m with bX:=m.bX++[rD m.aP P.w [bL A,dX (bL B)] FR e (dX (bL B)) (uw f A B e P.w) (sr s FR f A B e++[(x,1,A)])]},P.r):=by
 have h1:oL m s f x A B e=P:=by rw[hP,hF];unfold oL;simp[pd]
 have h2:P.m.bX=m.bX:=by rw[hP];rfl
 unfold Ag Af Ae
 rw[h1,h2,<-hF];rfl
def agV (t:Tk) (x:aj) (r:Nat) (T:Ty) (s:aj) (hs:s=T.text) (hl:t.sc.length<100000) (L:List Nat) (bt:Nat) (w:World) (rf:bt∈L) (lT:∀x,x∈L->x<w.heap.size) (hT:iu L w 130 bt t):
  ck Tryz.prog 149 [.pointer (some ⟨bt,0,none⟩),str x,.int .i64 (r:Int),str s] w λ_ w'=>iu L w' 130 bt {t with sc:=t.sc++[(x,r,T)]}∧ak [bt] w w':=by subst hs;exact Ej t x r T hl L bt w rf lT hT
def agW {L:List Nat} {w:World} {b off:Nat} {vs:List Value} (h:jb L w b off vs):jb [] w b off vs:=⟨h.cells,h.lt,sm⟩
set_option maxHeartbeats 4000000 in
def agX (t:Tk) (m:Mk) (f ax:aj) (A B:Ty) (e:Ex) (bD:(Ex.fn f ax A B e).ok) (rq:(Ex.fn f ax A B e).n<=1000) (sS:∀y,y∈cG (.fn f ax A B e) [] []->(look (fl t.sc) y).isSome=true) (pg:(cG (.fn f ax A B e) [] []).length<=40) (hs:kx t.sc) (o5:t.sc.length<=9000) (Aw:1+A.n+B.n<=16) (rl:t.on<1000) (ht:m.types.length+4<1000) (hc:m.code.length<=8000) (xh:m.count<1000) (gx:m.bX.length<100000)
  (E L:List Nat) (b bt:Nat) (v:Value) (w:World) (h:ei t8 E L w b true m) (hT:iu L w 130 bt t) (eV:bt∈E) (hv:bT L w v (Ex.fn f ax A B e).av):
  ck Tryz.prog 185 [.pointer (some ⟨b,0,none⟩),.pointer (some ⟨bt,0,none⟩),v] w λr w'=>r= .int .i64 ((Ag m t.sc f ax A B e).2:Int)∧∃L',ei t8 E L' w' b true (Ag m t.sc f ax A B e).1∧eR E L w L' w':=by
 obtain⟨ar,nr,cr,rfl,qh,bc⟩:=dO hv
 subst qh
 have lY:=h.dN
 obtain⟨FR,yG⟩:∃z:List aj,z=cG (.fn f ax A B e) [] []:=⟨_,rfl⟩
 obtain⟨P,hP⟩:∃z:Pk,z=pd m.lO t.sc t.on FR [] m.aP (bL (.op true A B)) [bL A,dX (bL B)]:=⟨_,rfl⟩
 rw[agU m t.sc t.on f ax A B e yG hP]
 obtain⟨GM,AU,hPw⟩:=UU hP
 rw[<-yG] at pg sS
 have gM:∀x,x∈FR->eQ x=true∧(look (fl t.sc) x).isSome=true:=λx hx=>⟨UQ (by rw[<-yG];exact hx),sS x hx⟩
 obtain⟨GV,hox,agZ,hoA,hoB,UZ⟩:=bD
 have kC:=pV (T:=A) om
 have rE:=tS (T:=B) om
 have am3:=pV (T:=B) om
 have JI:=pV (T:=Ty.op true A B) (show 1+A.n+B.n<=16 from Aw)
 have CB:=Av xh
 have U0:=A.len
 have U1:=B.len
 have am4:A.av.text.length<=100:=show A.text.length<=100 from by omega
 have am5:B.av.text.length<=100:=show B.text.length<=100 from by omega
 have hzA:=A.size
 have hzB:=B.size
 have wP:(Ex.fn f ax A B e).n=3+A.n+B.n+e.n:=rfl
 have pX:((((([40,62,32]:aj)++A.text)++[32])++B.text)++[41])=(Ty.op true A B).text:=by rw[Ty.H4];simp[kt]
 have I7:(Ex.fn f ax A B e).av.au.length=6:=rfl
 have hK:=ak.refl [] w
 have xi:b∉E:=h.mem.2.2.1
 have Eo:b∈L:=h.mem.1 b sm
 have hR:=eR.refl E L w
 obtain⟨b1,ga,gZ,ia,e1,bC,dh⟩:=fK bc (i:=1) om
 cases e1
 have bC:jb L w _ _ [str f,.slice gZ 0 ia]:=bC
 obtain⟨b2,nu,jd,je,e2,bY,ew⟩:=fK bc (i:=2) om
 cases e2
 have bY:jb L w _ _ [str ax,.slice jd 0 je]:=bY
 obtain⟨b3,B8,pZ,p3,e3,eu,fa⟩:=fK bc (i:=3) om
 cases e3
 have fa:bT L _ _ A.av:=fa
 obtain⟨b4,afw,MF,MG,e4,jL,p4⟩:=fK bc (i:=4) om
 cases e4
 have p4:bT L _ _ B.av:=p4
 obtain⟨b5,afx,Eg,Eh,e5,j1,nD⟩:=fK bc (i:=5) om
 cases e5
 have j1:jb L w _ _ [str e.av.az,.slice Eg e.av.au.length Eh]:=j1
 have nD:bT L w (.agg #[str e.av.az,.slice Eg e.av.au.length Eh]) e.av:=nD
 have dC:bT L w _ (Ex.fn f ax A B e).av:=hv
 have hSF:∀w:World,ck Tryz.prog 111 [str ((((([40,62,32]:aj)++A.text)++[32])++B.text)++[41])] w λr w'=>r=str (bL (.op true A B))∧ak [] w w':=λw=>by rw[pX];exact vE (.op true A B) (show 1+A.n+B.n<=60 from om) w
 refine cX [.tmp 6] 139 Tryz.func185 rfl YM rfl rfl ?_
 refine zr<|fG rfl ?_
 intro w1 aK bP eh
 have hK:=hK.ext aK;have hR:=hR.ext aK
 refine zA<|ag<|zr<|zf cN rfl<|zl cK rfl (bP.at rfl)<|zA<|ag<|zr<|zm<|zi (i:=3) cw aH rfl rfl ((show 3<6 from om))<|zL bU aH rfl ((eu.go hR.fr).cells) rfl<|aC (tI A.av.size A.av (lR _) A.oJ.wf om (show A.text.length<=100000000 from om) _ _ w1 (fa.go hR.fr)) ?_
 rintro v2 w2 ⟨dC,aq⟩
 have eH:=aq.size
 have hK:=hK.ext aq;have hR:=hR.ext aq;have bP:=bP.ext aq
 obtain rfl:=dC
 refine zA<|ag<|zr<|zm<|zi (i:=4) cw aH rfl rfl ((show 4<6 from om))<|zL bU aH rfl ((jL.go hR.fr).cells) rfl<|aC (tI B.av.size B.av (lR _) B.oJ.wf om (show B.text.length<=100000000 from om) _ _ w2 (p4.go hR.fr)) ?_
 rintro v3 w3 ⟨er,aJ⟩
 have gd:=aJ.size
 have hK:=hK.ext aJ;have hR:=hR.ext aJ;have bP:=bP.ext aJ
 obtain rfl:=er
 refine zA<|ag<|zr<|zm<|cu rfl rfl so<|cu rfl rfl so<|zm<|cu rfl rfl so<|cu rfl rfl so<|zA<|ag<|zr<|zL bU aH rfl bP.all rfl<|gP bh bA ?_
 intro w4 aF vJ iU
 have hK:=hK.ext aF;have hR:=hR.ext aF;have bP:=bP.ext aF
 refine gP bh bA ?_
 intro w5 aU JJ jr
 have hK:=hK.ext aU;have hR:=hR.ext aU;have bP:=bP.ext aU;have vJ:=vJ.ext aU
 have am8:=bP
 refine aC (IT (Ex.fn f ax A B e).n (Ex.fn f ax A B e) (lR _) rq ⟨GV,hox,agZ,hoA,hoB,UZ⟩ [] [] so so _ _ _ (some w4.heap.size) w5 ((dC.fresh (L':=[w4.heap.size]) (λx hx=>.inr (by simp at hx;omega))).ext hK) (vJ.lr.rep (λx hx=>by simp at hx;subst hx;simp;omega)) JJ.lr) ?_
 rintro GK w6 ⟨g22,GN,uo⟩
 rw[<-yG] at GN
 have kh:ak [] w w6:=(hK.since uo.aO (λx hx=>.inr (by simp at hx;omega)))
 have NV:∀x,x∈g22.toList->w.heap.size<=x:=(λx hx=>by rcases uo.mem x hx with h9|h9;(·simp at h9;omega);(·omega))
 have iF:bI L w6 GK FR:=GN.rep (λx hx NW=>by have:=NV x (by simp[hx]);have:=lY x NW;omega)
 have aR:=eP iF
 obtain⟨NX,n22,NY,NZ,N0⟩:=aR
 subst NZ
 subst N0
 have aw:=h.ext kh
 have hR:=(eR.refl E L w).ext kh
 clear vJ JJ
 refine zA<|ag<|zr<|zm<|aC (Nz m om E L b true w6 aw) ?_
 rintro v24 w7 ⟨⟨N2,aw⟩,yE⟩
 subst N2
 have hR:=hR.aL yE Eo xi
 have iF:=cF.aL iF yE (by simpa using Eo)
 refine zA<|ag<|zr<|zm<|aC (hSF w7) ?_
 rintro v8 w8 ⟨p9,cv⟩
 have AF:=cv.size
 have hR:=hR.ext cv;have aw:=aw.ext cv;have iF:=iF.ext cv
 obtain rfl:=p9
 have dD:=aw.dN
 refine zA<|ag<|zr<|zm<|aC (vE A om w8) ?_
 rintro v9 w9 ⟨eT,aG⟩
 have pq:=aG.size
 have hR:=hR.ext aG;have aw:=aw.ext aG;have iF:=iF.ext aG
 obtain rfl:=eT
 have dD:=aw.dN
 refine zm<|aC (vE B om w9) ?_
 rintro v10 cO ⟨ry,bV⟩
 have Ce:=bV.size
 have hR:=hR.ext bV;have aw:=aw.ext bV;have iF:=iF.ext bV
 obtain rfl:=ry
 have dD:=aw.dN
 refine aC (Gx (bL B) om cO) ?_
 rintro v11 eY ⟨rF,cM⟩
 have CG:=cM.size
 have hR:=hR.ext cM;have aw:=aw.ext cM;have iF:=iF.ext cM
 obtain rfl:=rF
 have dD:=aw.dN
 refine lq bh bA rfl rfl rfl rfl ?_
 intro gj dG CH Nq
 have hR:=hR.ext dG;have aw:=aw.ext dG;have iF:=iF.ext dG
 refine zA<|ag<|zr<|zm<|zm<|zm<|zm<|zm<|zm ?_
 have uj:bI L gj _ [bL A,dX (bL B)]:=aY.eF [bL A,dX (bL B)] CH (λhx=>by have:=dD _ hx;omega)
 refine aC (UD t m.lO FR [] m.aP (bL (.op true A B)) [bL A,dX (bL B)] gM hs o5 pg rl sm om om sm (by intro x hx;simp at hx;rcases hx with rfl|rfl<;>omega) ht hc E L b bt _ _ gj aw (hR.tk hT eV) eV iF uj) ?_
 rintro v42 jF ⟨yj,L1,aw,bZ⟩
 rw[<-hP] at yj aw
 subst yj
 have hR:=hR.go bZ;have iF:=iF.go bZ.fr;have uj:=uj.go bZ.fr
 have yA:te L1 [] jF _ [bL A,dX (bL B)]:=(by unfold te;rw[List.append_nil];exact uj)
 have yJ:=agW (j1.go hR.fr)
 have uq:=aw.dN
 have GO:=iF
 have ml:=aw
 have uh:=hR
 clear CH
 refine zm<|zx (i:=0) rfl rfl<|zx (i:=1) rfl rfl<|zA<|zA<|ag<|aQ ?_
 apply kf et ([]) 15 (rA 59 14++[17]) (rA 59 14++[17]) [[],[],[1],[],[2,3],[],[5],[],[7],[8],[],[10],[11],[0,4,6,9,12],[]] [Ie.v _,Ie.v _,Ie.p (fun(G:List Nat) (v:Value) (ww:World)=>te L1 G ww v [P.w]),Ie.v _,Ie.p (fun(G:List Nat) (v:Value) (ww:World)=>te L1 G ww v ([P.w]++[bL A,dX (bL B)])),Ie.v _,Ie.v _,Ie.v _,Ie.v _,Ie.v _,Ie.v _,Ie.v _,Ie.v _,Ie.p (fun(G:List Nat) (v:Value) (ww:World)=>∃a4 n4 c4,v= .agg [str m.aP,.slice a4 n4 c4,.int .i64 (FR.length:Int),.slice none 0 0,.slice none 0 0,.slice none 0 0,.slice none 0 0,str e.av.az,.slice Eg e.av.au.length Eh,.int .i64 2,str (dX (bL B)),.int .i64 3].toArray∧te L1 G ww (.slice a4 n4 c4) ([P.w]++[bL A,dX (bL B)])),Ie.e 0] [14] [fun(G:List Nat) (vs:List Value) (ww:World)=>G=[]∧ak [] jF ww,fun(G:List Nat) (vs:List Value) (ww:World)=>∃bb,vs.getD 0 undef= .pointer (some ⟨bb,0,none⟩)∧G=[bb]∧jF.heap.size<=bb∧aY ww bb [str [],.slice none 0 0,.int .i64 0,.slice none 0 0,.slice none 0 0,.slice none 0 0,.slice none 0 0,str [],.slice none 0 0,.int .i64 0,str [],.int .i64 0].toArray 130∧ak [] jF ww] de rfl ((λx hx=>by simp at hx)) (by exact⟨λG v w G' w' h k=>h.go k,λG v w G' w' h k=>h.go k,λG v w G' w' ⟨a4,n4,c4,e,h⟩ k=>⟨a4,n4,c4,e,h.go k⟩,trivial⟩) (by exact⟨λG vs w w' ⟨h1,h2⟩ k=>⟨h1,h2.ext k⟩,λG vs w w' ⟨bb,h1,h2,h3,h4,h5⟩ k=>⟨bb,h1,h2,h3,h4.ext k,h5.ext k⟩,trivial⟩) (⟨rfl,ak.refl _ _⟩)
 refine cT ?_
 refine cT ?_
 refine vf (λx jg Es aW xl A2=>?_) ?_
 refine gH bh bA rfl rfl ?_
 intro qe jG JK IY
 exact ff jG ((aY.eF [P.w] JK (λhx=>by have:=JD uq xl.aO.size A2 _ hx;omega)))
 refine cT ?_
 refine vf (λx jg Es aW xl A2=>?_) ?_
 have yA:=yA.go xl
 intro v2 d2
 have fj:=JD uq xl.aO.size A2
 refine aC (tV [P.w] [bL A,dX (bL B)] sm _ _ _ jg d2 yA fj) ?_
 rintro vA qe ⟨Cx,jG⟩
 have NP:=jG.size
 have eT:=Cx
 exact ff jG eT
 refine cT ?_
 refine vf (λ_ _ _ _ _ _=>dZ bh rfl fv) ?_
 refine cT ?_
 refine vf (λ_ _ _ _ _ _=>zi (i:=5) cw aH rfl rfl ((show 5<6 from om)) fv) ?_
 refine vf (λx jg Es aW xl A2=>?_) ?_
 have yJ:=yJ.go xl
 refine zL bU aH rfl yJ.cells rfl ?_
 exact fv
 refine cT ?_
 refine vf (λx jg Es aW xl A2=>?_) ?_
 refine aC (vE B om jg) ?_
 rintro vA qe ⟨Cx,jG⟩
 have NP:=jG.size
 obtain rfl:=Cx
 exact fk jG
 refine vf (λx jg Es aW xl A2=>?_) ?_
 refine aC (Gx (bL B) om jg) ?_
 rintro vA qe ⟨Cx,jG⟩
 have NP:=jG.size
 obtain rfl:=Cx
 exact fk jG
 refine vf (λx jg Es aW xl A2=>?_) ?_
 intro v4 d4
 have aR:=eP d4
 obtain⟨a4,n4,c4,e4,_⟩:=aR
 subst e4
 refine j7 (UR ⟨m.aP.toArray⟩ a4 n4 c4 (FR.length:Int) ⟨e.av.az.toArray⟩ Eg e.av.au.length Eh 2 ⟨(dX (bL B)).toArray⟩ 3 _) rfl rfl ?_
 exact ff (ak.refl _ _) (⟨a4,n4,c4,rfl,d4⟩)
 refine ve 0 (λx jg Es aW xl A2 hJ hlen=>?_) ?_
 have bo:=jR hlen
 subst bo
 obtain⟨cB,cD⟩:=hJ
 subst cB
 refine eD k9 rfl rfl rfl ?_
 intro qe jG wk Gb
 exact fe ([_]) (⟨jG.mono sm,λx hx=>by simp at hx;right;omega⟩) ((λx hx=>by simp at hx;omega)) (⟨_,rfl,rfl,cD.size,wk,cD.trans jG⟩)
 exact trivial
 intro x mm G53 aW ag3 ana hJ hlen
 have aR:=jS hlen
 obtain⟨q0,bo⟩:=aR
 subst bo
 intro v2 d2
 intro v4 d4
 intro wR d13
 have yJ:=yJ.go ag3
 change OW _ _ _ _ _ (aM (aN _ x _) (zZ 59 [_,_,_,_,_,_,_,_,_,_,_,_,_,_]++[(17,_)])) _
 obtain⟨bk,sh,cB,CD,fz,cD⟩:=hJ
 have vB:q0=_:=sh
 subst vB
 subst cB
 obtain⟨a4,n4,c4,AW,N3⟩:=d13
 subst AW
 refine dw k9 rfl rfl rfl fz rfl ?_
 intro ur AX fz dP
 have iG:=fz.lt
 have yH:=cD.since AX (λx hx=>.inr (by simp at hx;omega))
 have aw:=ml.td yH sm CD iG
 have hR:=uh.more yH sm CD (λy hy=>uq y (ml.sub hy))
 have N4:∀x,x∈bk::L1->x∈L1++[bk]:=(λx hx=>by simp at hx⊢;rcases hx with h|h;(·exact .inr h);(·exact .inl h))
 have vN:bk∈bk::L1:=sm
 have Ep:bk∉E:=(λhx=>by have:=uq bk (ml.sub hx);omega)
 have iF:=(GO.fresh (L':=bk::L1) (λx hx=>by rcases mC.1 hx with rfl|hx;(·exact .inr CD);(·exact .inl hx))).ext yH
 have AM:fI (bk::L1) ur (.slice Eg e.av.au.length Eh) e.av.au:=(by obtain⟨_,_,_,e9,_,yK⟩:=dO (nD.go hR.fr);cases e9;exact yK)
 have gA:iu (bk::L1) ur 130 bk (rD m.aP P.w [bL A,dX (bL B)] FR e (dX (bL B)) [] (iR t.sc 3 (FR.take 0) [])):=⟨_,_,_,_,_,_,fz,⟨(cF.aL N3 AX sm).fresh (λx hx=>.inl (N4 x hx)),.nil _ _ _,.nil _ _ _,.nil _ _ _,.nil _ _ _,AM⟩⟩
 refine ag<|aQ<|zr<|zA<|ag<|cS ?_
 refine fY (λi:Nat=>[(0,.pointer (some ⟨b,0,none⟩)),(1,.pointer (some ⟨bt,0,none⟩)),(7,.slice (some ⟨b1,ga,none⟩) 6 cr),(8,str A.text),(10,str (((((([40,62,32]:aj)++A.text)++[32])++B.text)++[41]))),(11,.slice NX FR.length NY),(13,str (bL (.op true A B))),(15,.int .i64 (P.r:Int)),(16,str P.w),(17,.pointer (some ⟨bk,0,none⟩)),(18,.int .i64 (i:Int))]) (λi w'=>ak [bk] ur w'∧i<=FR.length∧iu (bk::L1) w' 130 bk (rD m.aP P.w [bL A,dX (bL B)] FR e (dX (bL B)) [] (iR t.sc 3 (FR.take i) []))) (λi=>FR.length-i) (0) (⟨rfl,rfl,rfl,rfl,rfl,rfl,rfl,rfl,rfl,rfl,rfl⟩) (⟨ak.refl _ _,Nat.zero_le _,gA⟩) ?_
 intro gg JH U2 hI
 obtain⟨du,hi,gA⟩:=hI
 have aw:=aw.aO du sm
 have hR:=hR.aL du vN Ep
 have iF:=cF.aL iF du sm
 refine aQ<|zr<|zm<|zm<|dZ bh rfl<|fA rfl rfl rfl<|ag<|zc rfl (λh1=>?_) (λh1=>?_)
 have lj:gg<FR.length:=(by simp at h1;omega)
 have Cw:=List.mem_of_getElem? (lp lj)
 have aR:=hR.tk hT eV
 obtain⟨u1,u3,u4,u5,u6,u8,cC,hC⟩:=aR
 have CE:=hC.aX
 have CF:=hC.types
 have aR:=ou iF lj
 obtain⟨b9,ov,e9,gq⟩:=aR
 cases e9
 refine bz<|aQ<|cS ?_
 apply mv et 19 (rA 79 19) (rA 79 19) [[],[],[0,1],[2],[],[4],[],[6],[7],[8],[],[10],[11],[12],[],[],[14,15],[16],[9,13,17]] [It.v _,It.v _,It.v _,It.v _,It.v _,It.v _,It.v _,It.v _,It.v _,It.v _,It.v _,It.v _,It.v _,It.v _,It.v _,It.v _,It.v _,It.v _,It.v _] de rfl
 intro wd aB
 refine eK ?_
 refine eK ?_
 refine vk aB (λx ow k7=>?_) ?_
 refine zi bh bA rfl rfl om ?_
 exact pv
 refine vk aB (λx ow k7=>?_) ?_
 have gq:=gq.ext k7
 refine zl cm rfl (gq.cells 0 _ rfl) ?_
 exact pv
 refine eK ?_
 refine vk aB (λx ow k7=>?_) ?_
 refine eI rfl rfl rfl (wrap_i64 _ om om) ?_
 exact pv
 refine eK ?_
 refine vk aB (λx ow k7=>?_) ?_
 refine dk rfl ?_
 exact pv
 refine vc (λ_ _ _=>zf zy rfl pv) ?_
 refine vk aB (λx ow k7=>?_) ?_
 have cC:=cC.ext k7
 refine zl eS rfl (cC.at rfl) ?_
 exact pv
 refine eK ?_
 refine vk aB (λx ow k7=>?_) ?_
 refine dk rfl ?_
 exact pv
 refine vc (λ_ _ _=>zf De rfl pv) ?_
 refine vk aB (λx ow k7=>?_) ?_
 have cC:=cC.ext k7
 refine zl eS rfl (cC.at rfl) ?_
 exact pv
 refine eK ?_
 refine eK ?_
 refine vk aB (λx ow k7=>?_) ?_
 refine zi bh bA rfl rfl om ?_
 exact pv
 refine vk aB (λx ow k7=>?_) ?_
 have gq:=gq.ext k7
 refine zl cm rfl (gq.cells 0 _ rfl) ?_
 exact pv
 refine vk aB (λx ow k7=>?_) ?_
 have CE:=CE.ext k7;have CF:=CF.ext k7
 refine aC (F1 (ke t.sc) (pe t.sc) (by simp[ke,pe]) (by simp[ke];omega) (aD FR gg) _ _ _ _ ow CE CF) ?_
 rintro N7 N8 ⟨GW,yL⟩
 have U3:=yL.size
 have eT:=GW
 rw[ND (gM _ Cw).2] at eT
 subst eT
 exact pk yL
 exact trivial
 intro x Er tg
 have aw:=aw.ext tg;have gA:=gA.ext tg;have du:=du.ext tg
 change OW _ _ _ _ _ (aM (aN _ x _) (zZ 79 [_,_,_,_,_,_,_,_,_,_,_,_,_,_,_,_,_,_,_])) _
 refine aC (Ej (rD m.aP P.w [bL A,dX (bL B)] FR e (dX (bL B)) [] (iR t.sc 3 (FR.take gg) [])) (aD FR gg) (3+gg) (kG t.sc (aD FR gg)) (by show(iR t.sc 3 (FR.take gg) []).length<100000;rw[yb,List.length_take];omega) (bk::L1) bk Er vN aw.dN gA) ?_
 rintro v87 GU ⟨gA,mH⟩
 have agQ:=mH.size
 refine ag<|df<|zm<|eI rfl rfl rfl (wrap_i64 _ om om)<|zA<|ag ?_
 exact⟨gg+1,⟨rfl,rfl,rfl,rfl,rfl,rfl,rfl,rfl,rfl,rfl,rfl⟩,⟨du.trans mH,om,by rw[UN lj];exact gA⟩,om⟩
 have Ai:gg=FR.length:=(by simp at h1;omega)
 subst Ai
 rw[List.take_length] at gA
 have yJ:=j1.go hR.fr
 have xm:=bC.go hR.fr
 have N9:=nD.go hR.fr
 refine gD<|gF rfl<|aQ<|aQ ?_
 apply mv et 9 (rA 99 9) (rA 99 9) [[],[0],[1],[],[3],[4],[5],[2,6],[7]] [It.v _,It.v _,It.v _,It.v _,It.v _,It.v _,It.v _,It.v _,It.v _] de rfl
 intro wd aB
 refine eK ?_
 refine vk aB (λx ow k7=>?_) ?_
 refine zi (i:=5) cw aH rfl rfl ((show 5<6 from om)) ?_
 exact pv
 refine vk aB (λx ow k7=>?_) ?_
 have yJ:=yJ.ext k7
 refine zL bU aH rfl yJ.cells rfl ?_
 exact pv
 refine eK ?_
 refine vk aB (λx ow k7=>?_) ?_
 refine zi (i:=1) cw aH rfl rfl ((show 1<6 from om)) ?_
 exact pv
 refine vc (λ_ _ _=>zf dB rfl pv) ?_
 refine vk aB (λx ow k7=>?_) ?_
 have xm:=xm.ext k7
 refine zl cm rfl (xm.cells 0 _ rfl) ?_
 exact pv
 refine vk aB (λx ow k7=>?_) ?_
 have N9:=N9.ext k7
 refine aC (adx f e.n e (lR _) om UZ _ _ ow N9) ?_
 rintro N7 N8 ⟨GW,yL⟩
 have U3:=yL.size
 obtain rfl:=GW
 exact pk yL
 refine vk aB (λx ow k7=>?_) ?_
 refine jz rfl rfl rfl rfl rfl ?_
 exact pv
 exact trivial
 intro x Er tg
 have aw:=aw.ext tg;have hR:=hR.ext tg;have xm:=xm.ext tg;have gA:=gA.ext tg
 change OW _ _ _ _ [] (aM (aN _ x _) (zZ 99 [_,_,_,_,_,_,_,_,_])) _
 have lu:=ak.refl [bk] Er
 refine ag ?_
 refine ji (λ_:Unit=>[(0,.pointer (some ⟨b,0,none⟩)),(7,.slice (some ⟨b1,ga,none⟩) 6 cr),(8,str A.text),(15,.int .i64 (P.r:Int)),(17,.pointer (some ⟨bk,0,none⟩))]) (λ_ ww=>ak [bk] Er ww∧iu (bk::L1) ww 130 bk (rD m.aP P.w [bL A,dX (bL B)] FR e (dX (bL B)) (uw f A B e P.w) (sr t.sc FR f A B e))) ?_ ?_
 refine zc rfl (λh2=>?_) (λh2=>?_)
 have eC:0<ir f e:=(by simp at h2;omega)
 have dD:=aw.dN
 refine zr<|zm<|zm<|lq bh bA rfl rfl rfl rfl ?_
 intro GU A1 ag4 anb
 have xm:=xm.ext A1;have gA:=gA.ext A1;have lu:=lu.ext A1
 refine zf Bt rfl ?_
 have wj:bI (bk::L1) GU _ [bL (.op true A B),P.w]:=aY.eF [bL (.op true A B),P.w] ag4 (λhx=>by have:=dD _ hx;omega)
 obtain⟨u1,u3,u4,u5,u6,u8,fz,tf⟩:=gA
 refine gY (o:=3) nO rfl rfl rfl fz rfl ?_
 intro vQ JL fz dP
 have tf:=tf.aL JL sm
 have wj:=cF.aL wj JL sm
 have gA:iu (bk::L1) vQ 130 bk (rD m.aP P.w [bL A,dX (bL B)] FR e (dX (bL B)) [bL (.op true A B),P.w] (iR t.sc 3 FR [])):=⟨u1,_,u4,u5,u6,u8,fz,⟨tf.regs,wj,tf.aX,tf.at_,tf.types,tf.au⟩⟩
 have xm:=xm.aL JL sm
 have Gy:=lu.trans JL
 have CI:∀x,x∈bk::L1->x<vQ.heap.size:=(λx hx=>by have:=dD x hx;omega)
 refine ag<|df<|zm<|zi (i:=1) cw aH rfl rfl ((show 1<6 from om))<|zf dB rfl<|zl cm rfl (xm.cells 0 _ rfl)<|zm<|dZ bh rfl<|eI rfl rfl rfl (wrap_i64 _ om om)<|eI rfl rfl rfl (wrap_i64 _ om om)<|zm ?_
 refine aC (agV (rD m.aP P.w [bL A,dX (bL B)] FR e (dX (bL B)) [bL (.op true A B),P.w] (iR t.sc 3 FR [])) f (3+FR.length+2) (.op true A B) _ pX (by show(iR t.sc 3 FR []).length<100000;rw[yb];omega) (bk::L1) bk vQ vN CI gA) ?_
 rintro v87 JM ⟨gA,mH⟩
 have Gy:=Gy.trans mH
 refine ag ?_
 exact⟨(),⟨rfl,rfl,rfl,rfl,rfl⟩,Gy,by unfold sr uw;rw[iP eC,iP eC];exact gA⟩
 have eC:¬0<ir f e:=(by simp at h2;omega)
 refine bz ?_
 exact⟨(),⟨rfl,rfl,rfl,rfl,rfl⟩,ak.refl _ _,by unfold sr uw;rw[iN eC,iN eC];exact gA⟩
 intro gu GU e96 hI
 obtain⟨U4,gA⟩:=hI
 have aw:=aw.aO U4 sm
 have hR:=hR.aL U4 vN Ep
 have ag5:=bY.go hR.fr
 refine zr<|zm<|zi (i:=2) cw aH rfl rfl ((show 2<6 from om))<|zf dB rfl<|zl cm rfl (ag5.cells 0 _ rfl)<|zm<|aC (Ej (rD m.aP P.w [bL A,dX (bL B)] FR e (dX (bL B)) (uw f A B e P.w) (sr t.sc FR f A B e)) ax 1 A (by show(sr t.sc FR f A B e).length<100000;unfold sr;split;(·rw[lA,yb];simp;omega);(·rw[yb];omega)) (bk::L1) bk GU vN aw.dN gA) ?_
 rintro v90 vQ ⟨gA,tX⟩
 have aw:=aw.aO tX sm
 have hR:=hR.aL tX vN Ep
 have gA:iu (bk::L1) vQ 130 bk (rD m.aP P.w [bL A,dX (bL B)] FR e (dX (bL B)) (uw f A B e P.w) ((sr t.sc FR f A B e)++[(ax,1,A)])):=gA
 have Jw:P.m.bX.length<100000:=(by rw[GM];exact gx)
 have aR:=aw.open
 obtain⟨vb,vt,vc,vy,gb,gt,gc,gy,ua,hS⟩:=aR
 have aR:=hS.apart
 obtain⟨yw,nJ,vF,mF,vG,ug⟩:=aR
 obtain⟨u1,u3,u4,u5,u6,u8,GQ,tf⟩:=gA
 have bj:fi gt.toList vQ b [vb,vt,.int .i64 ((P.m).count:Int),.bool (P.m).wide,vc,vy].toArray 127:=⟨ua,λhx=>(mF b hx).2.1 rfl⟩
 have fz:fi gt.toList vQ bk (pS (rD m.aP P.w [bL A,dX (bL B)] FR e (dX (bL B)) (uw f A B e P.w) ((sr t.sc FR f A B e)++[(ax,1,A)])) u1 u3 u4 u5 u6 u8).toArray 130:=⟨GQ,λhx=>(mF bk hx).1 sm⟩
 have p6:fy gt.toList vQ:=(λx hx=>hS.db x (hS.mem.2 (by simp[hx])))
 have AY:∀x,x∈gt.toList->x∈(bk::L1):=(λx hx=>hS.mem.2 (by simp[hx]))
 refine ag<|aQ ?_
 apply kf et gt.toList 8 (rA 128 8) (rA 128 8) [[],[],[1],[2],[3],[],[5],[4,6]] [Ie.v _,Ie.v _,Ie.v _,Ie.v _,Ie.v _,Ie.v _,Ie.p (fun(G:List Nat) (v:Value) (ww:World)=>∃bb,v= .slice (some ⟨bb,0,none⟩) 1 1∧fi G ww bb (pS (rD m.aP P.w [bL A,dX (bL B)] FR e (dX (bL B)) (uw f A B e P.w) ((sr t.sc FR f A B e)++[(ax,1,A)])) u1 u3 u4 u5 u6 u8).toArray 130),Ie.e 0] [7] [fun(G:List Nat) (vs:List Value) (ww:World)=>G=gt.toList∧ak [] vQ ww,fun(G:List Nat) (vs:List Value) (ww:World)=>∃g2,eE (gt.toList++(g2.toList++(bk::L1))) ww 130 12 (vs.getD 0 undef) g2 (((P.m).bX++[(rD m.aP P.w [bL A,dX (bL B)] FR e (dX (bL B)) (uw f A B e P.w) ((sr t.sc FR f A B e)++[(ax,1,A)]))]).map Tk.enc)∧ak gt.toList vQ ww∧(g2=gt∨∃x,g2=some x∧vQ.heap.size<=x)] de rfl p6 (by exact⟨λG v w G' w' ⟨bb,e,h⟩ k=>⟨bb,e,h.go k⟩,trivial⟩) (by exact⟨λG vs w w' ⟨h1,h2⟩ k=>⟨h1,h2.ext k⟩,λG vs w w' ⟨g2,h1,h2,h3⟩ k=>⟨g2,h1.ext k,h2.ext k,h3⟩,trivial⟩) (⟨rfl,ak.refl _ _⟩)
 refine cT ?_
 refine cT ?_
 refine vf (λ_ _ _ _ _ _=>dk rfl fv) ?_
 refine vf (λ_ _ _ _ _ _=>zf zv rfl fv) ?_
 refine vf (λx JM Oa aW GX JN=>?_) ?_
 have bj:=bj.go GX
 refine zl E4 rfl (bj.at rfl) ?_
 exact fv
 refine vf (λx JM Oa aW GX JN=>?_) ?_
 have fz:=fz.go GX
 refine zL Db k9 rfl fz.all rfl ?_
 exact fv
 refine vf (λx JM Oa aW GX JN=>?_) ?_
 refine sG [_] [pS (rD m.aP P.w [bL A,dX (bL B)] FR e (dX (bL B)) (uw f A B e P.w) ((sr t.sc FR f A B e)++[(ax,1,A)])) u1 u3 u4 u5 u6 u8] xH k9 rfl rfl rfl rfl rfl rfl rfl rfl rfl ?_
 intro w99 ag7 ag8 UX
 exact ff ag7 (⟨_,rfl,ag8.o JN⟩)
 refine ve 0 (λx JM Oa aW GX JN hJ hlen=>?_) ?_
 have bo:=jR hlen
 subst bo
 intro v6 d6
 obtain⟨bb,e6,gz⟩:=d6
 subst e6
 obtain⟨cB,cD⟩:=hJ
 subst cB
 have x4:=(hS.ta.any cD).sub (L':=gt.toList++(bk::L1)) (λx hx=>.inl (by rcases mA.1 hx with h|h;(·exact AY x h);(·exact h)))
 have AZ:=tf.ext cD
 refine BS (L:=(bk::L1)) (row:=Tk.enc (rD m.aP P.w [bL A,dX (bL B)] FR e (dX (bL B)) (uw f A B e P.w) ((sr t.sc FR f A B e)++[(ax,1,A)]))) xH k9 rfl rfl rfl rfl rfl rfl x4 rfl gz.all (λu hu=>List.all_eq_true.1 AZ.one u hu) (AZ.go ((Fr.refl _ _).to (L2:=gt.toList++(bk::L1)) (λx hx=>.inl (by rcases mA.1 hx with h|h;(·exact AY x h);(·exact h))))).BF (by rw[List.length_map];omega) ?_
 intro v9 g9 w99 dL ui fN
 exact fe g9.toList (⟨ui.aO,λx hx=>by rcases fN with h|h;(·rw[h] at hx;exact .inl hx);(·rw[h] at hx;simp at hx;right;omega)⟩) ((λx hx=>dL.lt x hx)) (⟨g9,by rw[List.map_append];exact dL,cD.any.trans ui.aO,fN.imp id (λh=>⟨_,h,cD.size⟩)⟩)
 exact trivial
 intro x ane anf aW ag9 ang hJ hlen
 have aR:=jS hlen
 obtain⟨q0,bo⟩:=aR
 subst bo
 intro v6 d6
 have bj:=bj.go ag9
 change OW _ _ _ _ _ (aM (aN _ x _) (zZ 128 [_,_,_,_,_,_,_,_])) _
 obtain⟨g2,dL,fo,iA⟩:=hJ
 have aR:=hS.Fh dL fo iA
 obtain⟨L3,gk,jW⟩:=aR
 have aR:=dL.len
 obtain⟨a3,c3,e3⟩:=aR
 have e4:q0=_:=e3
 subst e4
 have bj:aY _ b [vb,vt,.int .i64 ((P.m).count:Int),.bool (P.m).wide,vc,vy].toArray 127:=ua.aO fo (λhx=>(mF b hx).2.1 rfl)
 refine dk rfl<|zf zv rfl<|gY (o:=1) KM rfl rfl rfl bj rfl ?_
 intro aha U5 bj dP
 have gk:=gk.aO U5 sm
 have aw:ei t8 (bk::E) L3 aha b true {P.m with bX:=(P.m).bX++[(rD m.aP P.w [bL A,dX (bL B)] FR e (dX (bL B)) (uw f A B e P.w) ((sr t.sc FR f A B e)++[(ax,1,A)]))]}:=⟨_,_,_,_,_,_,_,_,bj,gk⟩
 have hR:=(hR.add jW fo (λx hx vO=>(mF x hx).1 (by simp[vO]))).aL U5 (gk.mem.2 (.inr (.inl rfl))) (λvO=>nJ (by simp[vO]))
 rw[GM] at aw
 have aR:=aw.drop
 obtain⟨L4,N6,aw⟩:=aR
 have hR:=hR.sub (L2:=L4) (λx hx=>by rw[N6];simp[hx])
 refine ag<|zr<|zm<|zA<|ag<|aV ?_
 exact⟨_,rfl,rfl,L4,aw,hR⟩
def GY {m:Mk} {s:dd} {a:aj} (hs:kx s) (ht:m.types.length<1000):(cH m s a).1.types.length<=m.types.length+1∧(cH m s a).1.code.length<=m.code.length+1∧(cH m s a).1.count=m.count∧(cH m s a).1.bX=m.bX∧(cH m s a).2<1000:=by
 unfold cH
 split
 ·exact⟨Nat.le_succ _,Nat.le_succ _,rfl,rfl,FH hs a⟩
 ·exact⟨by simp[Mk.dI,Mk.da],by simp[Mk.dI,Mk.da],rfl,rfl,ht⟩
def U6 (h:aj):gS h=(decide (h=[102,115,116])||decide (h=[115,110,100])):=rfl
def ahb {m:Mk} {s:dd} {T:Ty} {e:Ex} (bD:e.ok) (hu:gS e.head=true) {p:Mk×Nat} (hp:p=cH m s (nth e.av.au 1).az):
  ni m s T e=((p.1.dI (bL T)).da sK [bf p.1.types.length,bf p.2,if e.head=rh then[49] else[48]],p.1.types.length):=by
 cases e with
 |un hd a=>rw[hp];show((_:Mk),_)=_;rw[show nth (Ex.un hd a).av.au 1=a.av from rfl,Ex.rk];rfl
 |«at» s=>exact absurd (show gS []=true from hu) de
 |ite a b c=>exact absurd (show gS cE=true from hu) de
 |lt x a b=>exact absurd (show gS gO=true from hu) de
 |fn f x A B b=>exact absurd (show gS iq=true from hu) de
 |bi hd a b=>exact absurd bD.1 (by rcases Ay hd with h|h|h|h|h|h<;>simp_all[Ex.head]<;>rfl)
def ahc {m:Mk} {s:dd} {T:Ty} {e:Ex} (bD:e.ok) (fx:e.jl=false) (hf:e.head≠iq) (hu:gS e.head=false) {p q:Mk×Nat} (hp:p=cH m s (nth e.av.au 1).az) (hq:q=cH p.1 s (nth e.av.au 2).az):
  ni m s T e=((q.1.dI (bL T)).da (qz e.head) [bf q.1.types.length,bf p.2,bf q.2],q.1.types.length):=by
 cases e with
 |un hd a=>exact absurd bD.1 (by simp[Ex.head] at hu;simp[hu])
 |«at» s=>cases fx
 |ite a b c=>rw[hq,hp];rw[show nth (Ex.ite a b c).av.au 1=a.av from rfl,show nth (Ex.ite a b c).av.au 2=b.av from rfl,Ex.rk,Ex.rk];rfl
 |lt x a b=>rw[hq,hp];rw[show nth (Ex.lt x a b).av.au 1=cg x from rfl,show nth (Ex.lt x a b).av.au 2=a.av from rfl,Ex.rk];rfl
 |fn f x A B b=>exact absurd rfl hf
 |bi hd a b=>rw[hq,hp];rw[show nth (Ex.bi hd a b).av.au 1=a.av from rfl,show nth (Ex.bi hd a b).av.au 2=b.av from rfl,Ex.rk,Ex.rk];rfl
def ahd {e:Ex} (bD:e.ok) (hf:e.head≠iq):((nth e.av.au 1).az).length<=5∧((nth e.av.au 2).az).length<=5:=by
 cases e with
 |«at» s=>simp[Ex.av,nth,aA.au,aA.az,cg]
 |un hd a=>rw[show nth (Ex.un hd a).av.au 1=a.av from rfl,Ex.rk];have:=oP bD.2;exact⟨by omega,by simp[Ex.av,nth,aA.au,aA.az]⟩
 |bi hd a b=>rw[show nth (Ex.bi hd a b).av.au 1=a.av from rfl,show nth (Ex.bi hd a b).av.au 2=b.av from rfl,Ex.rk,Ex.rk];have:=oP bD.2.1;have:=oP bD.2.2;omega
 |ite a b c=>rw[show nth (Ex.ite a b c).av.au 1=a.av from rfl,show nth (Ex.ite a b c).av.au 2=b.av from rfl,Ex.rk,Ex.rk];have:=oP bD.1;have:=oP bD.2.1;omega
 |lt x a b=>rw[show nth (Ex.lt x a b).av.au 1=cg x from rfl,show nth (Ex.lt x a b).av.au 2=a.av from rfl,Ex.rk];have:=DN bD.1;have:=oP bD.2.1;exact⟨by show x.length<=5;omega,om⟩
 |fn f x A B b=>exact absurd rfl hf
def ahe (h:aj):(qz h).length<=5:=by
 unfold qz
 split
 ·decide
 ·split
  ·decide
  ·split<;>decide
def ahf {e:Ex} (bD:e.ok) (fx:e.jl=false):1<e.av.au.length∧(gS e.head=false->2<e.av.au.length):=by
 cases e with
 |«at» s=>cases fx
 |un hd a=>exact⟨by simp[Ex.av,aA.au],λh=>absurd bD.1 (by simp[Ex.head] at h;simp[h])⟩
 |_=>exact⟨by simp[Ex.av,aA.au],λ_=>by simp[Ex.av,aA.au]⟩
set_option maxHeartbeats 4000000 in
def ahg (t:Tk) (m:Mk) (e:Ex) (T:Ty) (bD:e.ok) (fE:bM e (fl t.sc)=some T) (hs:kx t.sc) (hb:5*t.sc.length+2*e.n<=240) (rl:t.on<1000) (ht:m.types.length+8*e.n<=1000) (hc:m.code.length<=7000) (xh:m.count<1000) (gx:m.bX.length<90000)
  (E L:List Nat) (b bt:Nat) (v:Value) (w:World) (h:ei t8 E L w b true m) (hT:iu L w 130 bt t) (eV:bt∈E) (hv:bT L w v e.av):
  ck Tryz.prog 147 [.pointer (some ⟨b,0,none⟩),.pointer (some ⟨bt,0,none⟩),v] w λr w'=>r= .int .i64 ((ni m t.sc T e).2:Int)∧∃L',ei t8 E L' w' b true (ni m t.sc T e).1∧eR E L w L' w':=by
 obtain⟨ar,nr,cr,rfl,qh,bc⟩:=dO hv
 subst qh
 have lY:=h.dN
 have sn:=l7 hs.types fE
 have Di:=pV sn
 have hep:=e.pos
 have aw:=h
 have hR:=eR.refl E L w
 have dC:bT L w _ e.av:=hv
 obtain⟨p,hp⟩:∃p,p=cH m t.sc (nth e.av.au 1).az:=⟨_,rfl⟩
 obtain⟨q,hq⟩:∃q,q=cH p.1 t.sc (nth e.av.au 2).az:=⟨_,rfl⟩
 have yK:p.1.types.length<=m.types.length+1∧p.1.code.length<=m.code.length+1∧p.1.count=m.count∧p.1.bX=m.bX∧p.2<1000:=by rw[hp];exact GY hs om
 have GZ:q.1.types.length<=p.1.types.length+1∧q.1.code.length<=p.1.code.length+1∧q.1.count=p.1.count∧q.1.bX=p.1.bX∧q.2<1000:=by rw[hq];exact GY hs om
 obtain⟨ptl,pcl,_,_,p2⟩:=yK
 obtain⟨qtl,qcl,_,_,q2⟩:=GZ
 refine cX [.tmp 6] 84 Tryz.func147 rfl Ym rfl rfl ?_
 refine zr<|fG rfl ?_
 intro w1 aK bP eh
 have aw:=aw.ext aK;have hR:=hR.ext aK
 refine zA<|ag<|aQ<|zr<|zf dB rfl<|zl cm rfl (bP.at rfl)<|jI rfl rfl rfl rfl<|ag ?_
 have bP:fi L w1 w.heap.size [str e.av.az,.slice ar e.av.au.length cr].toArray 66:=⟨bP,λhx=>by have:=lY _ hx;omega⟩
 refine zc rfl (λh1=>?_) (λh1=>?_)
 have aR:∃a,e= .at a:=(by cases e with|«at» s=>exact⟨s,rfl⟩|_=>exact absurd rfl h1)
 obtain⟨a0,rfl⟩:=aR
 refine zr<|zm<|zm<|zL bU aH rfl bP.all rfl<|aC (Cs t a0 m (by have:=Mi (show qu a0=true from bD);omega) om om om E L b bt _ _ _ w1 aw (hR.tk hT eV) eV) ?_
 rintro v20 w2 ⟨pC,L1,aw,bZ⟩
 subst pC
 have hR:=hR.go bZ
 refine zA<|ag<|aV ?_
 exact⟨_,rfl,rfl,L1,aw,hR⟩
 have fx:e.jl=false:=(by cases hh:e.jl;rfl;exact absurd ((vu bD).2 hh) h1)
 have aR:=Ex.au fx
 obtain⟨F4,pK,jJ,wM⟩:=aR
 have aR:=ahf bD fx
 obtain⟨gi,ja⟩:=aR
 have aR:=fK bc (i:=0) om
 obtain⟨b0,AB,xL,xM,e0,eC,_⟩:=aR
 cases e0
 rw[jJ] at eC
 have aR:=fK bc (i:=1) om
 obtain⟨b1,ga,gZ,ia,e1,bC,dh⟩:=aR
 cases e1
 refine bz<|zr<|zf cN rfl<|zl cK rfl (bP.at rfl)<|zi (i:=0) cw aH rfl rfl ((show 0<_ from om))<|zf dB rfl<|zl cm rfl ((eC.go hR.fr).cells 0 _ rfl)<|zA<|ag<|aQ<|zr<|zm<|cY rfl rfl<|ag<|zc rfl (λh2=>?_) (λh2=>?_)
 have aR:=I0 bD h2
 obtain⟨nf,nx,tA,tB,eb,rfl⟩:=aR
 have aR:=SG (m:=m) hs bD fE hb xh
 obtain⟨_,pg,Aw⟩:=aR
 refine zr<|zm<|zm<|zL bU aH rfl bP.all rfl<|aC (agX t m nf nx tA tB eb bD om (λy hy=>by rcases(qv y _ [] []).1 hy with h9|h9;(·simp at h9);(·exact pP fE h9.1)) om hs om Aw rl (by simp only[Ex.n] at ht;omega) om xh om E L b bt _ w1 aw (hR.tk hT eV) eV (dC.go hR.fr)) ?_
 rintro v31 w2 ⟨yM,L1,aw,bZ⟩
 subst yM
 have hR:=hR.go bZ
 refine zA<|ag<|aV ?_
 exact⟨_,rfl,rfl,L1,aw,hR⟩
 have rp:e.head≠iq:=h2
 have hsh:=ahd bD rp
 refine bz<|zr<|zm<|zL bU aH rfl bP.all rfl<|aC (Ju t e bD om hs.types om _ L bt w1 aw.dN (hR.tk hT eV) (dC.go hR.fr)) ?_
 rintro v2 w2 ⟨dC,aq⟩
 have eH:=aq.size
 have aw:=aw.ext aq;have hR:=hR.ext aq;have bP:=bP.ext aq
 have eT:=dC
 rw[fE] at eT
 subst eT
 refine aC (vE T om w2) ?_
 rintro v3 w3 ⟨er,aJ⟩
 have gd:=aJ.size
 have aw:=aw.ext aJ;have hR:=hR.ext aJ;have bP:=bP.ext aJ
 obtain rfl:=er
 refine zA<|ag<|zr<|zm<|zm<|zf cN rfl<|zl cK rfl (bP.at rfl)<|zi (i:=1) cw aH rfl rfl om<|zL bU aH rfl ((bC.go hR.fr).cells) rfl<|aC (Cs t (nth e.av.au 1).az m om om om om E L b bt _ _ _ w3 aw (hR.tk hT eV) eV) ?_
 rintro v20 w4 ⟨pC,L1,aw,bZ⟩
 rw[<-hp] at pC aw
 subst pC
 have hR:=hR.go bZ;have bP:=bP.go bZ.fr
 refine aC (iQ (p.2+1) p.2 om om w4) ?_
 rintro v5 w5 ⟨ln,aU⟩
 have pJ:=aU.size
 have aw:=aw.ext aU;have hR:=hR.ext aU;have bP:=bP.ext aU
 obtain rfl:=ln
 refine zA<|ag<|aQ<|zr<|zm<|cY rfl rfl<|zm ?_
 apply fB 3 46 49 [46,47,48,49] (λw'=>w5=w') rfl
 intro h3
 replace h3:=bw h3
 refine zs<|zs<|zp rfl<|ag ?_
 exact mg rfl rfl
 intro h3
 replace h3:=bw h3
 refine zm<|cY rfl rfl<|zp rfl<|ag ?_
 exact mg rfl rfl
 rintro xx _ rfl
 refine ag<|zc rfl (λh4=>?_) (λh4=>?_)
 have hu:gS e.head=true:=(by rw[U6];exact h4)
 rw[ahb bD hu hp]
 refine zr<|zm<|zm<|aC (sj (bL T) p.1 om E L1 b true w5 aw) ?_
 rintro v52 w6 ⟨JE,L2,aw,bZ⟩
 subst JE
 have hR:=hR.go bZ
 refine zA<|ag<|zr<|zA<|ag<|aQ<|zr<|zm<|cY rfl rfl<|ag ?_
 refine ji (λ_:Unit=>[(0,.pointer (some ⟨b,0,none⟩)),(9,str (bf p.2)),(10,.int .i64 (p.1.types.length:Int)),(11,str (if e.head=rh then[49] else[48]))]) (λ_ w'=>ak [] w6 w') ?_ ?_
 refine zc rfl (λh5=>?_) (λh5=>?_)
 have hz:e.head=rh:=h5
 refine df<|zA<|ag ?_
 exact⟨(),⟨rfl,rfl,rfl,by rw[iP hz];rfl⟩,ak.refl _ _⟩
 have hz:¬e.head=rh:=h5
 refine bz ?_
 exact⟨(),⟨rfl,rfl,rfl,by rw[iN hz];rfl⟩,ak.refl _ _⟩
 intro gu w7 e7 hI
 have aw:=aw.ext hI;have hR:=hR.ext hI
 refine zr<|zm<|zm<|aC (iQ (p.1.types.length+1) p.1.types.length om om w7) ?_
 rintro v8 w8 ⟨p9,cv⟩
 have AF:=cv.size
 have aw:=aw.ext cv;have hR:=hR.ext cv
 obtain rfl:=p9
 have dD:=aw.dN
 have mJ:(if e.head=rh then([49]:aj) else[48]).length<=1:=(by split<;>decide)
 refine zm<|zm<|pU bh bA rfl rfl rfl rfl rfl ?_
 intro w9 aG GI dP
 have aw:=aw.ext aG;have hR:=hR.ext aG
 refine aC (lk sK [bf p.1.types.length,bf p.2,if e.head=rh then[49] else[48]] (mG de sm (by intro z hz;simp at hz;rcases hz with rfl|rfl|rfl;(·exact mn om);(·exact mn om);(·omega))) (p.1.dI (bL T)) (show p.1.code.length<100000 from om) E L2 b _ w9 aw (aY.eF [bf p.1.types.length,bf p.2,if e.head=rh then[49] else[48]] GI (λhx=>by have:=dD _ hx;omega))) ?_
 rintro U7 cO ⟨L3,aw,bZ⟩
 have hR:=hR.go bZ
 refine ag<|zr<|zm<|zA<|ag<|aV ?_
 exact⟨_,rfl,rfl,L3,aw,hR⟩
 have hu:gS e.head=false:=(by rw[U6];exact h4)
 have ja:=ja hu
 have aR:=fK bc (i:=2) om
 obtain⟨b2,nu,jd,je,e2,bY,_⟩:=aR
 cases e2
 rw[ahc bD fx rp hu hp hq]
 refine bz<|zr<|zm<|zm<|zf cN rfl<|zl cK rfl (bP.at rfl)<|zi (i:=2) cw aH rfl rfl om<|zL bU aH rfl ((bY.go hR.fr).cells) rfl<|aC (Cs t (nth e.av.au 2).az p.1 om om om om E L1 b bt _ _ _ w5 aw (hR.tk hT eV) eV) ?_
 rintro v20 w6 ⟨pC,L2,aw,bZ⟩
 rw[<-hq] at pC aw
 subst pC
 have hR:=hR.go bZ
 refine aC (iQ (q.2+1) q.2 om om w6) ?_
 rintro v7 w7 ⟨iV,cz⟩
 have po:=cz.size
 have aw:=aw.ext cz;have hR:=hR.ext cz
 obtain rfl:=iV
 refine zA<|ag<|zr<|zm<|zm<|aC (sj (bL T) q.1 om E L2 b true w7 aw) ?_
 rintro v52 w8 ⟨JE,L3,aw,bZ⟩
 subst JE
 have hR:=hR.go bZ
 refine zA<|ag<|zr<|zm<|zm<|aC (afO e.head w8) ?_
 rintro v9 w9 ⟨eT,aG⟩
 have pq:=aG.size
 have aw:=aw.ext aG;have hR:=hR.ext aG
 obtain rfl:=eT
 have hol:=ahe e.head
 refine zm<|aC (iQ (q.1.types.length+1) q.1.types.length om om w9) ?_
 rintro v10 cO ⟨ry,bV⟩
 have Ce:=bV.size
 have aw:=aw.ext bV;have hR:=hR.ext bV
 obtain rfl:=ry
 have dD:=aw.dN
 refine zm<|zm<|pU bh bA rfl rfl rfl rfl rfl ?_
 intro eY cM D4 uK
 have aw:=aw.ext cM;have hR:=hR.ext cM
 refine aC (lk (qz e.head) [bf q.1.types.length,bf p.2,bf q.2] (mG om sm (by intro z hz;simp at hz;rcases hz with rfl|rfl|rfl<;>exact mn om)) (q.1.dI (bL T)) (show q.1.code.length<100000 from om) E L3 b _ eY aw (aY.eF [bf q.1.types.length,bf p.2,bf q.2] D4 (λhx=>by have:=dD _ hx;omega))) ?_
 rintro U7 gj ⟨L4,aw,bZ⟩
 have hR:=hR.go bZ
 refine ag<|zr<|zm<|zA<|ag<|aV ?_
 exact⟨_,rfl,rfl,L4,aw,hR⟩
def U8 {m:Mk} {s:dd} {on:Nat} {bm name:aj} {K:Ty} {rest:Ex} (kP:on<1000) (ht:m.types.length+4<1000):(fp m s on bm name K rest).1.types.length<=m.types.length+4∧(fp m s on bm name K rest).1.code.length<=m.code.length+4∧(fp m s on bm name K rest).2.1<1000∧(fp m s on bm name K rest).1.count<=m.count+1∧(fp m s on bm name K rest).1.bX.length<=m.bX.length+1:=by
 unfold fp
 split
 ·have h:=Sz m.lO s on (cG rest [name] []) bm m.aP (dX (bL K)) [bL K]
  refine⟨?_,?_,?_,?_,?_⟩
  ·show(oM m s on bm name K rest).m.types.length<=_
   unfold oM;rw[h.types];exact lR _
  ·show(oM m s on bm name K rest).m.code.length<=_
   unfold oM;rw[h.code];exact lR _
  ·show m.types.length+3<1000;omega
  ·exact lR _
  ·show((oM m s on bm name K rest).m.bX++[_]).length<=_
   unfold oM;rw[h.bX,lA];exact lR _
 ·exact⟨by show m.types.length<=_;omega,by show m.code.length<=_;omega,kP,by show m.count<=_;omega,by show m.bX.length<=_;omega⟩
def U9 (m:Mk) (s:Nat):(sL m s).types.length=m.types.length+3∧(sL m s).code.length=m.code.length+3:=by
 unfold sL;simp[Mk.dI,Mk.da]
structure Ob (s:dd) (name:aj) (rest:Ex):Prop where
 ok:rest.ok
 n:rest.n<=1000
 fv:∀x,x∈cG rest [name] []->(look (fl s) x).isSome=true
 len:(cG rest [name] []).length<=40
set_option maxHeartbeats 4000000 in
def ahj (t:Tk) (m:Mk) (f x:Ex) (name:aj) (rest:Ex) (K:Ty) (bD:(Ex.bi kF f x).ok) (hn:(Ex.bi kF f x).n<=1000) (fE:bM (.bi kF f x) (fl t.sc)=some K) (hs:kx t.sc) (o5:t.sc.length<=9000) (rl:t.on<1000) (kP:t.bm.length<=272) (Oc:name≠[]->Ob t.sc name rest) (ht:m.types.length+9<1000) (hc:m.code.length<=7000) (xh:m.count<1000) (gx:m.bX.length<90000)
  (E L:List Nat) (b bt:Nat) (v vr:Value) (w:World) (h:ei t8 E L w b true m) (hT:iu L w 130 bt t) (eV:bt∈E) (hv:bT L w v (Ex.bi kF f x).av) (oT:bT L w vr rest.av):
  ck Tryz.prog 144 [.pointer (some ⟨b,0,none⟩),.pointer (some ⟨bt,0,none⟩),v,str name,vr] w λr w'=>∃L',ei t8 E L' w' b true (xU (fp (cH (cH m t.sc f.az).1 t.sc x.az).1 t.sc t.on t.bm name K rest).1 (cH m t.sc f.az).2 (cH (cH m t.sc f.az).1 t.sc x.az).2 (fp (cH (cH m t.sc f.az).1 t.sc x.az).1 t.sc t.on t.bm name K rest).2.1)∧(∃t',iu L' w' 130 bt t'∧t'.aP=t.aP∧t'.regs=t.regs)∧Fr L w L' w':=by
 obtain⟨ar,nr,cr,rfl,qh,bc⟩:=dO hv
 subst qh
 obtain⟨a9,n9,c9,rfl,AN,_⟩:=dO oT
 subst AN
 have lY:=h.dN
 have jD:=l7 hs.types fE
 have aw:=h
 have hR:=eR.refl E L w
 have dC:bT L w _ (Ex.bi kF f x).av:=hv
 have pg:=oP bD.2.1
 have mM:=oP bD.2.2
 obtain⟨p,hp⟩:∃p,p=cH m t.sc f.az:=⟨_,rfl⟩
 have yK:p.1.types.length<=m.types.length+1∧p.1.code.length<=m.code.length+1∧p.1.count=m.count∧p.1.bX=m.bX∧p.2<1000:=by rw[hp];exact GY hs om
 obtain⟨ptl,pcl,pcn,ptk,p2⟩:=yK
 rw[<-hp]
 obtain⟨q,hq⟩:∃q,q=cH p.1 t.sc x.az:=⟨_,rfl⟩
 have GZ:q.1.types.length<=p.1.types.length+1∧q.1.code.length<=p.1.code.length+1∧q.1.count=p.1.count∧q.1.bX=p.1.bX∧q.2<1000:=by rw[hq];exact GY hs om
 obtain⟨qtl,qcl,qcn,qtk,q2⟩:=GZ
 rw[<-hq]
 obtain⟨C,hC⟩:∃C,C=fp q.1 t.sc t.on t.bm name K rest:=⟨_,rfl⟩
 have CJ:C.1.types.length<=q.1.types.length+4∧C.1.code.length<=q.1.code.length+4∧C.2.1<1000∧C.1.count<=q.1.count+1∧C.1.bX.length<=q.1.bX.length+1:=by rw[hC];exact U8 rl om
 obtain⟨Ctl,Ccl,C2,_,_⟩:=CJ
 rw[<-hC]
 obtain⟨rc,Ha⟩:∃r,r=C.1.types.length:=⟨_,rfl⟩
 obtain⟨me,CK⟩:∃z,z=sL C.1 p.2:=⟨_,rfl⟩
 have Od:me.types.length=C.1.types.length+3∧me.code.length=C.1.code.length+3:=by rw[CK];exact U9 _ _
 obtain⟨met,mec⟩:=Od
 obtain⟨r,oY⟩:∃r,r=me.types.length:=⟨_,rfl⟩
 obtain⟨c,eC⟩:∃c,c=me.code.length:=⟨_,rfl⟩
 have t0:me.types.length=r:=oY.symm
 have c0:me.code.length=c:=eC.symm
 have ahk:xU C.1 p.2 q.2 C.2.1=(((me.da nY [[48],bf (rc+2)]).da nY [[49],bf q.2]).da nY [[50],bf C.2.1]).da Ac [bf (rc+1)]:=by rw[CK,Ha];rfl
 rw[ahk]
 have Ny:(Ex.bi kF f x).av.au.length=3:=rfl
 obtain⟨b1,ga,gZ,ia,e1,bC,_⟩:=fK bc (i:=1) om
 cases e1
 have bC:jb L w _ _ [str f.av.az,.slice gZ f.av.au.length ia]:=bC
 rw[Ex.rk] at bC
 obtain⟨b2,nu,jd,je,e2,bY,_⟩:=fK bc (i:=2) om
 cases e2
 have bY:jb L w _ _ [str x.av.az,.slice jd x.av.au.length je]:=bY
 rw[Ex.rk] at bY
 refine cX [] 67 Tryz.func144 rfl Yj rfl rfl ?_
 refine zr<|fG rfl ?_
 intro w1 aK cI eh
 have aw:=aw.ext aK;have hR:=hR.ext aK
 refine fG rfl ?_
 intro w2 aq cV eO
 have aw:=aw.ext aq;have hR:=hR.ext aq;have cI:=cI.ext aq
 refine ag<|zr<|zm<|zL bU aH rfl cI.all rfl ?_
 have cI:fi L w2 w.heap.size [str (Ex.bi kF f x).av.az,.slice (some ⟨b1,ga,none⟩) (Ex.bi kF f x).av.au.length cr].toArray 66:=⟨cI,λhx=>by have:=lY _ hx;omega⟩
 have cV:fi L w2 w1.heap.size [str rest.av.az,.slice a9 rest.av.au.length c9].toArray 66:=⟨cV,λhx=>by have:=lY _ hx;omega⟩
 refine aC (Ju t (Ex.bi kF f x) bD hn hs.types om _ L bt w2 aw.dN (hR.tk hT eV) (dC.go hR.fr)) ?_
 rintro v3 w3 ⟨er,aJ⟩
 have gd:=aJ.size
 have aw:=aw.ext aJ;have hR:=hR.ext aJ;have cI:=cI.ext aJ;have cV:=cV.ext aJ
 have eT:=er
 rw[fE] at eT
 subst eT
 refine zA<|ag<|zr<|zm<|zm<|zf cN rfl<|zl cK rfl (cI.at rfl)<|zi (i:=1) cw aH rfl rfl ((show 1<3 from om))<|zL bU aH rfl ((bC.go hR.fr).cells) rfl<|aC (Cs t f.az m om om om o5 E L b bt _ _ _ w3 aw (hR.tk hT eV) eV) ?_
 rintro v20 w4 ⟨pC,L1,aw,bZ⟩
 rw[<-hp] at pC aw
 subst pC
 have hR:=hR.go bZ;have cI:=cI.go bZ.fr;have cV:=cV.go bZ.fr
 refine zA<|ag<|zr<|zm<|zm<|zf cN rfl<|zl cK rfl (cI.at rfl)<|zi (i:=2) cw aH rfl rfl ((show 2<3 from om))<|zL bU aH rfl ((bY.go hR.fr).cells) rfl<|aC (Cs t x.az p.1 om om om o5 E L1 b bt _ _ _ w4 aw (hR.tk hT eV) eV) ?_
 rintro v20 w5 ⟨pC,L2,aw,bZ⟩
 rw[<-hq] at pC aw
 subst pC
 have hR:=hR.go bZ;have cV:=cV.go bZ.fr
 refine zA<|ag<|aQ<|zr<|zm<|jI rfl rfl rfl rfl<|ag ?_
 refine ji (λ_:Unit=>[(0,.pointer (some ⟨b,0,none⟩)),(1,.pointer (some ⟨bt,0,none⟩)),(11,.int .i64 (p.2:Int)),(12,.int .i64 (q.2:Int))]) (λ_ ww=>∃L3,ei t8 E L3 ww b true C.1∧iu L3 ww 130 bt {t with on:=C.2.1,bm:=C.2.2}∧Fr L w L3 ww) ?_ ?_
 refine zc rfl (λh1=>?_) (λh1=>?_)
 have gM:name≠[]:=(by simpa using h1)
 have aR:=Oc gM
 obtain⟨g1,g2,g3,g4⟩:=aR
 have CL:fp q.1 t.sc t.on t.bm name K rest=tN q.1 t.sc t.on t.bm name K rest:=(by unfold fp;rw[iP gM])
 rw[CL] at hC
 refine df<|zm<|zm<|zm<|zm<|zL bU aH rfl cV.all rfl<|aC (UW t q.1 name K rest g1 g2 g3 g4 hs o5 jD rl kP om om om (by rw[qtk,ptk];omega) E L2 b bt _ w5 aw (hR.tk hT eV) eV (oT.go hR.fr)) ?_
 rintro v39 w6 ⟨L3,aw,fa,yN,_⟩
 rw[<-hC] at aw fa
 have hF:=hR.fr.go yN
 refine ag ?_
 exact⟨(),⟨rfl,rfl,rfl,rfl⟩,L3,aw,fa,hF⟩
 have gM:¬name≠[]:=(by simpa using h1)
 have CL:fp q.1 t.sc t.on t.bm name K rest=(q.1,t.on,t.bm):=(by unfold fp;rw[iN gM])
 rw[CL] at hC
 subst hC
 refine bz ?_
 exact⟨(),⟨rfl,rfl,rfl,rfl⟩,L2,aw,hR.tk hT eV,hR.fr⟩
 intro gu w6 e6 hI
 obtain⟨L3,aw,fa,yN⟩:=hI
 have hR:=eR.refl E L3 w6
 refine zr<|zm<|zm<|aC (Uw C.1 p.2 om om om E L3 b w6 aw) ?_
 rintro Va w7 ⟨DT,L0,aw,bZ⟩
 rw[<-CK] at aw
 rw[<-Ha] at DT
 subst DT
 have hR:=hR.go bZ
 have dD:=aw.dN
 refine zm<|zx (i:=0) rfl rfl<|zx (i:=1) rfl rfl<|zA<|zA<|ag<|zr<|zm<|zm<|lq bh bA rfl rfl rfl rfl ?_
 intro w8 cv CH mr
 have aw:=aw.ext cv;have hR:=hR.ext cv
 refine aC (lk nY [[48],bf (rc+2)] (mG de sm (by intro z hz;simp at hz;rcases hz with rfl|rfl;(·decide);(·exact mn om))) me om E L0 b _ w8 aw (aY.eF [[48],bf (rc+2)] CH (λhx=>by have:=dD _ hx;omega))) ?_
 rintro jX w9 ⟨L1,aw,bZ⟩
 have hR:=hR.go bZ
 clear CH
 have iM:∃x,x=me.da nY [[48],bf (rc+2)]:=⟨_,rfl⟩
 obtain⟨m1,lV⟩:=iM
 rw[<-lV] at aw
 have t1:m1.types.length=r+0:=(by rw[lV,oR];omega)
 have c1:m1.code.length=c+1:=(by rw[lV,pB];omega)
 have dD:=aw.dN
 refine ag<|zr<|zm<|zm<|aC (iQ (q.2+1) q.2 om om w9) ?_
 rintro v10 cO ⟨ry,bV⟩
 have Ce:=bV.size
 have aw:=aw.ext bV;have hR:=hR.ext bV
 obtain rfl:=ry
 have dD:=aw.dN
 refine lq bh bA rfl rfl rfl rfl ?_
 intro eY cM Vb uK
 have aw:=aw.ext cM;have hR:=hR.ext cM
 refine aC (lk nY [[49],bf q.2] (mG de sm (by intro z hz;simp at hz;rcases hz with rfl|rfl;(·decide);(·exact mn om))) m1 om E L1 b _ eY aw (aY.eF [[49],bf q.2] Vb (λhx=>by have:=dD _ hx;omega))) ?_
 rintro jX gj ⟨L2,aw,bZ⟩
 have hR:=hR.go bZ
 clear Vb
 have fH:∃x,x=m1.da nY [[49],bf q.2]:=⟨_,rfl⟩
 obtain⟨m2,lW⟩:=fH
 rw[<-lW] at aw
 have t2:m2.types.length=r+0:=(by rw[lW,oR];omega)
 have c2:m2.code.length=c+2:=(by rw[lW,pB];omega)
 have dD:=aw.dN
 have aR:=hR.tk fa eV
 obtain⟨u1,u3,u4,u5,u6,u8,cC,ix⟩:=aR
 have cC:aY gj bt [str t.aP,u1,.int .i64 (t.loads:Int),u3,u4,u5,u6,str t.expr.av.az,u8,.int .i64 (C.2.1:Int),str C.2.2,.int .i64 (t.next:Int)].toArray 130:=cC
 refine ag<|zr<|zm<|zm<|dk rfl<|zf HI rfl<|zl qT rfl (cC.at rfl)<|aC (iQ (C.2.1+1) C.2.1 om om gj) ?_
 rintro wR jF ⟨vH,fM⟩
 have Gz:=fM.size
 have aw:=aw.ext fM;have hR:=hR.ext fM
 obtain rfl:=vH
 have dD:=aw.dN
 refine lq bh bA rfl rfl rfl rfl ?_
 intro jg dM JK Cq
 have aw:=aw.ext dM;have hR:=hR.ext dM
 refine aC (lk nY [[50],bf C.2.1] (mG de sm (by intro z hz;simp at hz;rcases hz with rfl|rfl;(·decide);(·exact mn om))) m2 om E L2 b _ jg aw (aY.eF [[50],bf C.2.1] JK (λhx=>by have:=dD _ hx;omega))) ?_
 rintro jX qe ⟨L3,aw,bZ⟩
 have hR:=hR.go bZ
 clear JK
 have yC:∃x,x=m2.da nY [[50],bf C.2.1]:=⟨_,rfl⟩
 obtain⟨m3,lX⟩:=yC
 rw[<-lX] at aw
 have t3:m3.types.length=r+0:=(by rw[lX,oR];omega)
 have c3:m3.code.length=c+3:=(by rw[lX,pB];omega)
 have dD:=aw.dN
 refine ag<|df<|zm<|zm<|gH bh bA rfl rfl ?_
 intro lU kZ Vc Gb
 have aw:=aw.ext kZ;have hR:=hR.ext kZ
 refine aC (lk Ac [bf (rc+1)] (mG de sm (by intro z hz;simp at hz;subst hz;exact mn om)) m3 om E L3 b _ lU aw (aY.eF [bf (rc+1)] Vc (λhx=>by have:=dD _ hx;omega))) ?_
 rintro jX vI ⟨L4,aw,bZ⟩
 have hR:=hR.go bZ
 clear Vc
 have Cz:∃x,x=m3.da Ac [bf (rc+1)]:=⟨_,rfl⟩
 obtain⟨m4,oW⟩:=Cz
 rw[<-oW] at aw
 have t4:m4.types.length=r+0:=(by rw[oW,oR];omega)
 have c4:m4.code.length=c+4:=(by rw[oW,pB];omega)
 have dD:=aw.dN
 refine ag ?_
 subst oW lX lW lV
 exact⟨_,rfl,_,aw,⟨_,hR.tk fa eV,rfl,rfl⟩,yN.go hR.fr⟩
/-! ### Cells of one block that are written -/
def KW (b:Nat) (T:TypeId) (ws:List (Nat×Value)) (w w':World):Prop:=ak [b] w w'∧∀cs,aY w b cs T->∃cs',aY w' b cs' T∧cs'.size=cs.size∧∀j:Nat,cs'[j]?=cs[j]?∨∃v,(j,v)∈ws∧cs'[j]?=some v
def ahm {cs:Array Value} {k:Nat} {vs:List Value} (h:k+vs.length<=cs.size) (j:Nat):(setAt cs k vs)[j]?=if k<=j∧j<k+vs.length then vs[j-k]? else cs[j]?:=by
 rw[<-Array.getElem?_toList,H0 _ _ _ h,List.getElem?_append,List.getElem?_append,List.getElem?_take,List.getElem?_drop,List.length_take,Array.length_toList,Nat.min_eq_left om]
 by_cases h1:j<k
 ·rw[iP h1,iP h1,iN om];simp
 ·rw[iN h1]
  by_cases h2:j<k+vs.length
  ·rw[iP om,iP ⟨by omega,h2⟩]
  ·rw[iN om,iN om]
   have:k+vs.length+(j-k-vs.length)=j:=by omega
   rw[this];simp
def rowAt (o:Nat):List Value->List (Nat×Value)
 |[]=>[]
 |v::vs=>(o,v)::rowAt (o+1) vs
def Vd:∀{vs:List Value} {o j:Nat} {v:Value},(j,v)∈rowAt o vs↔o<=j∧vs[j-o]?=some v
 |[],o,j,v=>by simp[rowAt]
 |u::us,o,j,v=>by
  rw[rowAt,mC,Vd]
  constructor
  ·rintro(h|⟨h1,h2⟩)
   ·cases h;simp
   ·refine⟨by omega,?_⟩
    rw[show j-o=(j-(o+1))+1 from by omega];simpa using h2
  ·rintro⟨h1,h2⟩
   rcases Nat.eq_or_lt_of_le h1 with h|h
   ·subst h;left;simp at h2;rw[h2]
   ·right
    refine⟨h,?_⟩
    rw[show j-o=(j-(o+1))+1 from by omega] at h2;simpa using h2
section
variable {P:Program} {n:Nat} {ops:Array Oper} {K:Env->World->Prop} {rest:List Oper} {e:Env} {w:World}
 {dst:Option Nat} {ty:TypeId} {pos:String} {after:Array Edge} {g:Option (Nat×Bool)} {x y:Operand}
def ahn {T U sz bytes:Nat} {z v:Value} {vs:List Value} {b o:Nat} {cs:Array Value} (kM:TI P T sz bytes z) (hg:gate ops e g=true) (hx:ev e x= .pointer (some ⟨b,o,none⟩)) (hy:ev e y=v) (hv:v.cells=vs.toArray) (hl:Nat.beq vs.length sz=true) (h1:vs.all Value.oneCell'=true)
  (hb:aY w b cs U) (ho:o+vs.length<=cs.size)
  (k:∀w',ak [b] w w'->aY w' b (setAt cs o vs) U->KW b U (rowAt o vs) w w'->w'.heap.size=w.heap.size->OW P n ops K rest e w'):
  OW P n ops K (⟨none,.store T x y,ty,pos,after,g⟩::rest) e w:=by
 have gL:vs.length=sz:=Nat.eq_of_beq_eq_true hl
 obtain⟨w',kn,hk,gX,hz⟩:=Ln (P:=P) vs 0 w b o U cs hb om (λu hu=>List.all_eq_true.1 h1 u hu)
 rw[Nat.add_zero] at gX
 refine Hw hg (w':=w') (by
  simp[execOp,Instr.storeAt,Instr.sureAddr,hx,hy,storeVar,hv,kM.tt,gL,kn]) (k w' hk gX ⟨hk,λcs2 h2=>?_⟩ hz)
 have e:cs2=cs:=by
  unfold aY at h2 hb
  rw[h2] at hb
  injection hb with h;injection h
 subst e
 refine⟨_,gX,HZ _ _ _,λj=>?_⟩
 rw[ahm ho]
 split
 ·rename_i h
  obtain⟨v,hv⟩:∃v,vs[j-o]?=some v:=⟨vs[j-o]'om,gE om⟩
  exact .inr ⟨v,Vd.2 ⟨h.1,hv⟩,hv⟩
 ·exact .inl rfl
end
section
variable {P:Program} {n:Nat} {ops:Array Oper} {K:Env->World->Prop} {rest:List Oper} {e:Env} {w:World}
 {dst:Option Nat} {ty:TypeId} {pos:String} {after:Array Edge} {g:Option (Nat×Bool)} {x y:Operand}
end
def Ve (xs:List aj):∀row,row∈jj xs->∀c,c∈row->∀v,c= .val v->v.oneCell'=true:=by
 intro row hr c hc v hv
 obtain⟨n,_,rfl⟩:=List.mem_map.1 hr
 simp at hc;subst hc;cases hv;rfl
def eR.jx {E L L1:List Nat} {w w1:World} (k:eR E L w L1 w1) {b:Nat} {cs:Array Value} {T:TypeId} (h:aY w b cs T) (hb:b∈E):aY w1 b cs T:=let⟨_,kg,hG⟩:=k.out;h.aO kg λhx=>hG b hx hb
def qO (bt:Nat) (E:List Nat) (w w':World):Prop:=∃G,ak G w w'∧∀z,z∈G->z∈E->z=bt
def eR.ft {E L L1:List Nat} {w w1:World} (k:eR E L w L1 w1) (bt:Nat):qO bt E w w1:=let⟨G,kg,hG⟩:=k.out;⟨G,kg,λz hz sq=>absurd sq (hG z hz)⟩
def qO.trans {bt:Nat} {E:List Nat} {w w1 w2:World} (h:qO bt E w w1) (k:qO bt E w1 w2):qO bt E w w2:=let⟨G,kg,hG⟩:=h;let⟨G2,kg2,Ge⟩:=k;⟨G++G2,(kg.mono λx hx=>List.mem_append_left _ hx).trans (kg2.mono λx hx=>mR _ hx),λz hz sq=>(mA.1 hz).elim (λh=>hG z h sq) (λh=>Ge z h sq)⟩
def qO.sub {bt x:Nat} {E:List Nat} {w w1:World} (h:qO bt (x::E) w w1):qO bt E w w1:=let⟨G,kg,hG⟩:=h;⟨G,kg,λz hz sq=>hG z hz (mK _ sq)⟩
def qO.of {bt:Nat} {E G:List Nat} {w w1:World} (k:ak G w w1) (hG:∀z,z∈G->z∈E->z=bt):qO bt E w w1:=⟨G,k,hG⟩
def qO.jx {bt:Nat} {E:List Nat} {w w1:World} (k:qO bt E w w1) {b:Nat} {cs:Array Value} {T:TypeId} (h:aY w b cs T) (hb:b∈E) (hn:b≠bt):aY w1 b cs T:=let⟨_,kg,hG⟩:=k;h.aO kg λhx=>hn (hG b hx hb)
set_option maxHeartbeats 4000000 in
def ahq (t:Tk) (m:Mk) (c xa y:Ex) (name:aj) (rest:Ex) (K:Ty) (bD:(Ex.ite c xa y).ok) (hn:(Ex.ite c xa y).n<=1000) (fE:bM (.ite c xa y) (fl t.sc)=some K) (hs:kx t.sc) (o5:t.sc.length<=9000) (rl:t.on<1000) (kP:t.bm.length<=272) (Oc:name≠[]->Ob t.sc name rest) (ht:m.types.length+9<1000) (hc:m.code.length<=7000) (xh:m.count+1<1000) (gx:m.bX.length<90000)
  (E L:List Nat) (b bt:Nat) (v vr:Value) (w:World) (h:ei t8 E L w b true m) (hT:iu L w 130 bt t) (eV:bt∈E) (hv:bT L w v (Ex.ite c xa y).av) (oT:bT L w vr rest.av):
  ck Tryz.prog 145 [.pointer (some ⟨b,0,none⟩),.pointer (some ⟨bt,0,none⟩),v,str name,vr] w λr w'=>∃L',bT L' w' r y.av∧ei t8 E L' w' b true (FQ (fp (cH m t.sc c.az).1 t.sc t.on t.bm name K rest).1 t.sc (fp (cH m t.sc c.az).1 t.sc t.on t.bm name K rest).2.1 (fp (cH m t.sc c.az).1 t.sc t.on t.bm name K rest).2.2 (cH m t.sc c.az).2 xa)∧iu L' w' 130 bt {t with on:=(fp (cH m t.sc c.az).1 t.sc t.on t.bm name K rest).2.1,bm:=(fp (cH m t.sc c.az).1 t.sc t.on t.bm name K rest).2.2}∧Fr L w L' w'∧qO bt E w w':=by
 obtain⟨ar,nr,cr,rfl,qh,bc⟩:=dO hv
 subst qh
 obtain⟨a9,n9,c9,rfl,AN,_⟩:=dO oT
 subst AN
 have lY:=h.dN
 have jD:=l7 hs.types fE
 have aw:=h
 have hR:=eR.refl E L w
 have dC:bT L w _ (Ex.ite c xa y).av:=hv
 have oy:=oP bD.1
 obtain⟨p,hp⟩:∃p,p=cH m t.sc c.az:=⟨_,rfl⟩
 have yK:p.1.types.length<=m.types.length+1∧p.1.code.length<=m.code.length+1∧p.1.count=m.count∧p.1.bX=m.bX∧p.2<1000:=by rw[hp];exact GY hs om
 obtain⟨ptl,pcl,pcn,ptk,p2⟩:=yK
 rw[<-hp]
 obtain⟨C,hC⟩:∃C,C=fp p.1 t.sc t.on t.bm name K rest:=⟨_,rfl⟩
 have CJ:C.1.types.length<=p.1.types.length+4∧C.1.code.length<=p.1.code.length+4∧C.2.1<1000∧C.1.count<=p.1.count+1∧C.1.bX.length<=p.1.bX.length+1:=by rw[hC];exact U8 rl om
 obtain⟨Ctl,Ccl,C2,Ccn,Ctk⟩:=CJ
 rw[ptk] at Ctk
 rw[<-hC]
 have hCn:C.1.count<1000:=by omega
 have CB:=Av hCn
 obtain⟨m1,sf⟩:∃z,z=C.1.lO.da Fu [bf p.2,C.1.aP]:=⟨_,rfl⟩
 have ahs:m1.types=C.1.types:=by rw[sf];rfl
 have aht:m1.bX=C.1.bX:=by rw[sf];rfl
 have hif:FQ C.1 t.sc C.2.1 C.2.2 p.2 xa={m1 with bX:=m1.bX++[⟨C.1.aP,m1.types,0,[],t.sc,xa,C.2.1,C.2.2,m1.types.length⟩]}:=by rw[sf];rfl
 rw[hif]
 have I3:(Ex.ite c xa y).av.au.length=4:=rfl
 obtain⟨b1,ga,gZ,ia,e1,bC,_⟩:=fK bc (i:=1) om
 cases e1
 have bC:jb L w _ _ [str c.av.az,.slice gZ c.av.au.length ia]:=bC
 rw[Ex.rk] at bC
 obtain⟨b2,nu,jd,je,e2,bY,ew⟩:=fK bc (i:=2) om
 cases e2
 have bY:jb L w _ _ [str xa.av.az,.slice jd xa.av.au.length je]:=bY
 have ew:bT L w (.agg #[str xa.av.az,.slice jd xa.av.au.length je]) xa.av:=ew
 obtain⟨b3,B8,pZ,p3,e3,eu,fa⟩:=fK bc (i:=3) om
 cases e3
 have eu:jb L w _ _ [str y.av.az,.slice pZ y.av.au.length p3]:=eu
 have fa:bT L w (.agg #[str y.av.az,.slice pZ y.av.au.length p3]) y.av:=fa
 refine lH [.cell 10 66] 81 Tryz.func145 rfl Yk rfl rfl rfl ?_
 refine zr<|fG rfl ?_
 intro w1 aK cI eh
 have aw:=aw.ext aK;have hR:=hR.ext aK
 refine fG rfl ?_
 intro w2 aq cV eO
 have aw:=aw.ext aq;have hR:=hR.ext aq;have cI:=cI.ext aq
 refine eD aH rfl rfl rfl ?_
 intro w3 aJ oC Bw
 have cI:=cI.ext aJ;have cV:=cV.ext aJ
 have aw:=aw.td aJ sm (lR _) oC.lt
 have qg:=(eR.refl E L w2).more aJ sm (lR _) (λz hz=>by have:=lY z (h.sub hz);omega)
 have Hb:Fr L w (w2.heap.size::L) w3:=hR.fr.go qg.fr
 have Vf:=(hR.ext aJ).ft bt
 have hT:=(hR.tk hT eV)
 have hT:=qg.tk hT eV
 have hR:=eR.refl (w2.heap.size::E) (w2.heap.size::L) w3
 have rG:bt∈w2.heap.size::E:=mK _ eV
 have Et:w2.heap.size∈w2.heap.size::E:=List.mem_cons_self ..
 have Oe:=oC
 refine ag<|zr<|zm<|zL bU aH rfl cI.all rfl ?_
 have JO:∀z,z∈w2.heap.size::L->z=w2.heap.size∨z<w.heap.size:=(λz hz=>(mC.1 hz).imp id (lY z))
 have cI:fi (w2.heap.size::L) w3 w.heap.size [str (Ex.ite c xa y).av.az,.slice (some ⟨b1,ga,none⟩) (Ex.ite c xa y).av.au.length cr].toArray 66:=⟨cI,λhx=>by have:=JO _ hx;omega⟩
 have cV:fi (w2.heap.size::L) w3 w1.heap.size [str rest.av.az,.slice a9 rest.av.au.length c9].toArray 66:=⟨cV,λhx=>by have:=JO _ hx;omega⟩
 have kT:aY w3 w2.heap.size [str [],.slice none 0 0].toArray 66:=Oe
 refine aC (Ju t (Ex.ite c xa y) bD hn hs.types om _ _ bt w3 aw.dN (hR.tk hT rG) (dC.go (Hb.go hR.fr))) ?_
 rintro v4 w4 ⟨eJ,aF⟩
 have gK:=aF.size
 have aw:=aw.ext aF;have hR:=hR.ext aF;have cI:=cI.ext aF;have cV:=cV.ext aF
 have eT:=eJ
 rw[fE] at eT
 subst eT
 refine zA<|ag<|zr<|zm<|zm<|zf cN rfl<|zl cK rfl (cI.at rfl)<|zi (i:=1) cw aH rfl rfl ((show 1<4 from om))<|zL bU aH rfl ((bC.go (Hb.go hR.fr)).cells) rfl<|aC (Cs t c.az m om om om o5 (w2.heap.size::E) _ b bt _ _ _ w4 aw (hR.tk hT rG) rG) ?_
 rintro v20 w5 ⟨pC,L1,aw,bZ⟩
 rw[<-hp] at pC aw
 subst pC
 have hR:=hR.go bZ;have cI:=cI.go bZ.fr;have cV:=cV.go bZ.fr
 have kT:=hR.jx kT Et
 refine zA<|ag<|aQ<|zr<|zm<|jI rfl rfl rfl rfl<|ag ?_
 refine ji (λ_:Unit=>[(0,.pointer (some ⟨b,0,none⟩)),(1,.pointer (some ⟨bt,0,none⟩)),(7,.pointer (some ⟨w.heap.size,0,none⟩)),(10,.pointer (some ⟨w2.heap.size,0,none⟩)),(12,.int .i64 (p.2:Int))]) (λ_ ww=>∃L3,ei t8 (w2.heap.size::E) L3 ww b true C.1∧iu L3 ww 130 bt {t with on:=C.2.1,bm:=C.2.2}∧Fr L w L3 ww∧Fr L1 w5 L3 ww∧aY ww w2.heap.size [str [],.slice none 0 0].toArray 66∧qO bt E w ww) ?_ ?_
 refine zc rfl (λh1=>?_) (λh1=>?_)
 have gM:name≠[]:=(by simpa using h1)
 have aR:=Oc gM
 obtain⟨g1,g2,g3,g4⟩:=aR
 have CL:fp p.1 t.sc t.on t.bm name K rest=tN p.1 t.sc t.on t.bm name K rest:=(by unfold fp;rw[iP gM])
 rw[CL] at hC
 have eN:w2.heap.size≠bt:=(λe9=>by have:=lY bt (h.sub eV);omega)
 refine df<|zm<|zm<|zm<|zm<|zL bU aH rfl cV.all rfl<|aC (UW t p.1 name K rest g1 g2 g3 g4 hs o5 jD rl kP om om om (by rw[ptk];omega) (w2.heap.size::E) L1 b bt _ w5 aw (hR.tk hT rG) rG (oT.go (Hb.go hR.fr))) ?_
 rintro v39 w6 ⟨L3,aw,Vg,yN,G9,aG,Vh⟩
 rw[<-hC] at aw Vg
 have hF:=(Hb.go hR.fr).go yN
 have kT:=(hR.jx Oe Et).aO aG (λhx=>eN (Vh _ hx Et))
 have hOq:=(Vf.trans (hR.ft bt).sub).trans (qO.of aG (λz hz sq=>Vh z hz (mK _ sq)))
 refine ag ?_
 exact⟨(),⟨rfl,rfl,rfl,rfl,rfl⟩,L3,aw,Vg,hF,yN,kT,hOq⟩
 have gM:¬name≠[]:=(by simpa using h1)
 have CL:fp p.1 t.sc t.on t.bm name K rest=(p.1,t.on,t.bm):=(by unfold fp;rw[iN gM])
 rw[CL] at hC
 subst hC
 refine bz ?_
 exact⟨(),⟨rfl,rfl,rfl,rfl,rfl⟩,L1,aw,hR.tk hT rG,Hb.go hR.fr,Fr.refl _ _,hR.jx Oe Et,Vf.trans (hR.ft bt).sub⟩
 intro gu w6 e6 hI
 obtain⟨L3,aw,dU,yN,hF9,kT,hOc⟩:=hI
 have hR:=eR.refl (w2.heap.size::E) L3 w6
 have Vi:=cI.go hF9
 have ahy:=kT
 refine zr<|zm<|aC (Nz C.1 om (w2.heap.size::E) L3 b true w6 aw) ?_
 rintro v34 w7 ⟨⟨e34,aw⟩,ahA⟩
 subst e34
 have ahB:=aw.mem.1 b sm
 have xi:=aw.mem.2.2.1
 have hR:=hR.aL ahA ahB xi
 refine zA<|ag<|zr<|zm<|zm<|aC (iQ (p.2+1) p.2 om om w7) ?_
 rintro v8 w8 ⟨p9,cv⟩
 have AF:=cv.size
 have aw:=aw.ext cv;have hR:=hR.ext cv
 obtain rfl:=p9
 have dD:=aw.dN
 refine zm<|lq bh bA rfl rfl rfl rfl ?_
 intro w9 aG yk dP
 have aw:=aw.ext aG;have hR:=hR.ext aG
 refine aC (lk Fu [bf p.2,C.1.aP] (mG de sm (by intro z hz;simp at hz;rcases hz with rfl|rfl;(·exact mn om);(·omega))) C.1.lO (show C.1.code.length<100000 from om) (w2.heap.size::E) L3 b _ w9 aw (aY.eF [bf p.2,C.1.aP] yk (λhx=>by have:=dD _ hx;omega))) ?_
 rintro v40 cO ⟨L4,aw,bZ⟩
 rw[<-sf] at aw
 have hR:=hR.go bZ
 clear yk
 have kA:=hR.tk dU rG
 obtain⟨u1,u3,u4,u5,u6,u8,cC,ix⟩:=kA
 have dD:=aw.dN
 have uh:=hR
 have ml:=aw
 refine ag<|zr<|zm<|dk rfl<|zL Db k9 rfl cC.all rfl<|eD k9 rfl rfl rfl ?_
 intro eY cM fz Cq
 have kC:=cM
 refine dw k9 rfl rfl ix.one fz rfl ?_
 intro gj dG fz dP
 have kC:=kC.since dG (λx hx=>.inr (by simp at hx;omega))
 refine ag<|zr<|zm<|zf KF rfl<|gY (o:=0) bA rfl rfl rfl fz rfl ?_
 intro jF fM fz dP
 have kC:=kC.since fM (λx hx=>.inr (by simp at hx;omega))
 have qG:=ml.ext kC
 have hwq:=kC.size
 have aR:=qG.open
 obtain⟨Vj,vt9,vc9,vy9,gb9,gt9,gc9,gy9,AJ,AL⟩:=aR
 have aR:=kv AL.ty
 obtain⟨ay9,Gv,ey9⟩:=aR
 subst ey9
 have hbz:=fz.lt
 have Of:=jF
 refine ag<|zr<|zQ jF.heap.size [] bh bA rfl rfl (lR _) sm ?_
 intro jg dM I2 wO
 have fz:=fz.ext dM;have kC:=kC.ext dM
 have rE:=dM
 have AJ:=AJ.ext dM
 refine zm<|dk rfl<|zf zw rfl<|zl eS rfl (AJ.at rfl)<|xO bh bA rfl rfl rfl rfl rfl rfl wO (((AL.ty.ext rE).rep (L:=[jF.heap.size]) (λx hx mM=>by have:=AL.ty.lt x (by simp[hx]);simp at mM;omega)).fresh (λx hx=>.inl (by simpa using hx))) (Ve _) (by rw[rS,ahs];simp;omega) ?_
 intro a4 jf g4 qe kX jG
 rw[List.nil_append] at kX
 have kC:=kC.since jG (λx hx=>.inr (by simp at hx;omega))
 have fz:=fz.aO jG so
 have ly:=kX.wg
 have kV:=kX.low
 refine zf Dd rfl<|gY (o:=1) nO rfl rfl rfl fz rfl ?_
 intro lU kZ fz dP
 have kC:=kC.since kZ (λx hx=>.inr (by simp at hx;omega))
 have ly:=ly.aO kZ (λz hz eO=>by have:=kV z hz;simp at eO;omega)
 refine ag<|zr<|zf PU rfl<|gY (o:=2) tE rfl rfl rfl fz rfl ?_
 intro vI qf fz dP
 have kC:=kC.since qf (λx hx=>.inr (by simp at hx;omega))
 have ly:=ly.aO qf (λz hz eO=>by have:=kV z hz;simp at eO;omega)
 have wk:=fz.lt
 refine ag<|zr<|gP bh bA ?_
 intro xg uk CM ahD
 have fz:=fz.ext uk;have kC:=kC.ext uk;have ly:=ly.ext uk
 refine zf Bt rfl<|gY (o:=3) nO rfl rfl rfl fz rfl ?_
 intro CA vK fz dP
 have kC:=kC.since vK (λx hx=>.inr (by simp at hx;omega))
 have ly:=ly.aO vK (λz hz eO=>by have:=kV z hz;simp at eO;omega)
 have CM:=CM.aO vK so
 have cI:=(Vi.go uh.fr).ext kC
 have Vk:=yN.go uh.fr
 refine ag<|zr<|zf cN rfl<|zl cK rfl (cI.at rfl)<|zi (i:=2) cw aH rfl rfl ((show 2<4 from om))<|zL bU aH rfl (((bY.go Vk).ext kC).cells) rfl<|zf PV rfl<|ahn (vs:=[str xa.av.az,.slice jd xa.av.au.length je]) aH rfl rfl rfl rfl rfl rfl fz (Nat.le_of_ble_eq_true rfl) ?_
 intro vL ux fz anu dP
 have kC:=kC.since ux (λx hx=>.inr (by simp at hx;omega))
 have ly:=ly.aO ux (λz hz eO=>by have:=kV z hz;simp at eO;omega)
 have CM:=CM.aO ux so
 have qG:=ml.ext kC
 have aR:=qG.open
 obtain⟨vb8,vt8,vc8,vy8,gb8,gt8,gc8,gy8,ahE,hS8⟩:=aR
 have aR:=kv hS8.ty
 obtain⟨ay8,cy8,ey8⟩:=aR
 subst ey8
 refine ag<|zr<|zm<|dk rfl<|zf zw rfl<|zl eS rfl (ahE.at rfl)<|dZ bh rfl<|zf Z0 rfl<|gY (o:=11) tE rfl rfl rfl fz rfl ?_
 intro rC vM fz dP
 have kC:=kC.since vM (λx hx=>.inr (by simp at hx;omega))
 have ly:=ly.aO vM (λz hz eO=>by have:=kV z hz;simp at eO;omega)
 have CM:=CM.aO vM so
 have aw:=ml.td kC sm (lR _) fz.lt
 have xo:Fr L4 cO (cO.heap.size::L4) rC:=((eR.refl [] L4 cO).more kC sm (lR _) sm).fr
 have hR:=uh.more kC sm (lR _) (λz hz=>dD z (ml.sub hz))
 have Vl:∀z,z∈cO.heap.size::L4->z<=cO.heap.size:=(λz hz=>by rcases mC.1 hz with h9|h9;(·omega);(·have:=dD z h9;omega))
 have CN:fI (cO.heap.size::L4) rC (.slice jd xa.av.au.length je) xa.av.au:=(by have dP:=dO (ew.go (Vk.go xo));obtain⟨_,_,_,e9,_,yK⟩:=dP;cases e9;exact yK)
 have gA:iu (cO.heap.size::L4) rC 130 cO.heap.size (Tk.mk C.1.aP m1.types 0 [] t.sc xa C.2.1 C.2.2 m1.types.length):=⟨_,_,_,_,_,_,fz,⟨ly.rep (λz hz Hc=>by have:=kV z hz;have:=Vl z Hc;omega),CM.lr.rep (λz hz Hc=>by have:=Vl z Hc;simp at hz;omega),ix.aX.go xo,ix.at_.go xo,ix.types.go xo,CN⟩⟩
 have Jw:m1.bX.length<100000:=(by rw[aht];omega)
 have aR:=aw.open
 obtain⟨vb,vt,vc,vy,gb,gt,gc,gy,ua,hS⟩:=aR
 have aR:=hS.apart
 obtain⟨yw,nJ,vF,mF,vG,ug⟩:=aR
 obtain⟨u1,u3,u4,u5,u6,u8,GQ,tf⟩:=gA
 have bj:fi gt.toList rC b [vb,vt,.int .i64 ((m1).count:Int),.bool (m1).wide,vc,vy].toArray 127:=⟨ua,λhx=>(mF b hx).2.1 rfl⟩
 have fz:fi gt.toList rC cO.heap.size (pS (Tk.mk C.1.aP m1.types 0 [] t.sc xa C.2.1 C.2.2 m1.types.length) u1 u3 u4 u5 u6 u8).toArray 130:=⟨GQ,λhx=>(mF cO.heap.size hx).1 sm⟩
 have p6:fy gt.toList rC:=(λx hx=>hS.db x (hS.mem.2 (by simp[hx])))
 have AY:∀x,x∈gt.toList->x∈(cO.heap.size::L4):=(λx hx=>hS.mem.2 (by simp[hx]))
 refine ag<|aQ ?_
 apply kf et gt.toList 8 (rA 67 8) (rA 67 8) [[],[],[1],[2],[3],[],[5],[4,6]] [Ie.v _,Ie.v _,Ie.v _,Ie.v _,Ie.v _,Ie.v _,Ie.p (fun(G:List Nat) (v:Value) (ww:World)=>∃bb,v= .slice (some ⟨bb,0,none⟩) 1 1∧fi G ww bb (pS (Tk.mk C.1.aP m1.types 0 [] t.sc xa C.2.1 C.2.2 m1.types.length) u1 u3 u4 u5 u6 u8).toArray 130),Ie.e 0] [7] [fun(G:List Nat) (vs:List Value) (ww:World)=>G=gt.toList∧ak [] rC ww,fun(G:List Nat) (vs:List Value) (ww:World)=>∃g2,eE (gt.toList++(g2.toList++(cO.heap.size::L4))) ww 130 12 (vs.getD 0 undef) g2 (((m1).bX++[(Tk.mk C.1.aP m1.types 0 [] t.sc xa C.2.1 C.2.2 m1.types.length)]).map Tk.enc)∧ak gt.toList rC ww∧(g2=gt∨∃x,g2=some x∧rC.heap.size<=x)] de rfl p6 (by exact⟨λG v w G' w' ⟨bb,e,h⟩ k=>⟨bb,e,h.go k⟩,trivial⟩) (by exact⟨λG vs w w' ⟨h1,h2⟩ k=>⟨h1,h2.ext k⟩,λG vs w w' ⟨g2,h1,h2,h3⟩ k=>⟨g2,h1.ext k,h2.ext k,h3⟩,trivial⟩) (⟨rfl,ak.refl _ _⟩)
 refine cT ?_
 refine cT ?_
 refine vf (λ_ _ _ _ _ _=>dk rfl fv) ?_
 refine vf (λ_ _ _ _ _ _=>zf zv rfl fv) ?_
 refine vf (λx El Og aW uo JP=>?_) ?_
 have bj:=bj.go uo
 refine zl E4 rfl (bj.at rfl) ?_
 exact fv
 refine vf (λx El Og aW uo JP=>?_) ?_
 have fz:=fz.go uo
 refine zL Db k9 rfl fz.all rfl ?_
 exact fv
 refine vf (λx El Og aW uo JP=>?_) ?_
 refine sG [_] [pS (Tk.mk C.1.aP m1.types 0 [] t.sc xa C.2.1 C.2.2 m1.types.length) u1 u3 u4 u5 u6 u8] xH k9 rfl rfl rfl rfl rfl rfl rfl rfl rfl ?_
 intro UJ GL MU UX
 exact ff GL (⟨_,rfl,MU.o JP⟩)
 refine ve 0 (λx El Og aW uo JP hJ hlen=>?_) ?_
 have bo:=jR hlen
 subst bo
 intro v6 d6
 obtain⟨bb,e6,gz⟩:=d6
 subst e6
 obtain⟨cB,cD⟩:=hJ
 subst cB
 have x4:=(hS.ta.any cD).sub (L':=gt.toList++(cO.heap.size::L4)) (λx hx=>.inl (by rcases mA.1 hx with h|h;(·exact AY x h);(·exact h)))
 have AZ:=tf.ext cD
 refine BS (L:=(cO.heap.size::L4)) (row:=Tk.enc (Tk.mk C.1.aP m1.types 0 [] t.sc xa C.2.1 C.2.2 m1.types.length)) xH k9 rfl rfl rfl rfl rfl rfl x4 rfl gz.all (λu hu=>List.all_eq_true.1 AZ.one u hu) (AZ.go ((Fr.refl _ _).to (L2:=gt.toList++(cO.heap.size::L4)) (λx hx=>.inl (by rcases mA.1 hx with h|h;(·exact AY x h);(·exact h))))).BF (by rw[List.length_map];omega) ?_
 intro v9 g9 UJ dL ui fN
 exact fe g9.toList (⟨ui.aO,λx hx=>by rcases fN with h|h;(·rw[h] at hx;exact .inl hx);(·rw[h] at hx;simp at hx;right;omega)⟩) ((λx hx=>dL.lt x hx)) (⟨g9,by rw[List.map_append];exact dL,cD.any.trans ui.aO,fN.imp id (λh=>⟨_,h,cD.size⟩)⟩)
 exact trivial
 intro x Vm G61 aW ahH anH hJ hlen
 have aR:=jS hlen
 obtain⟨q0,bo⟩:=aR
 subst bo
 intro v6 d6
 have bj:=bj.go ahH
 change OW _ _ _ _ _ (aM (aN _ x _) (zZ 67 [_,_,_,_,_,_,_,_])) _
 obtain⟨g2,dL,fo,iA⟩:=hJ
 have aR:=hS.Fh dL fo iA
 obtain⟨L3,gk,jW⟩:=aR
 have aR:=dL.len
 obtain⟨a3,c3,e3⟩:=aR
 have e4:q0=_:=e3
 subst e4
 have bj:aY _ b [vb,vt,.int .i64 ((m1).count:Int),.bool (m1).wide,vc,vy].toArray 127:=ua.aO fo (λhx=>(mF b hx).2.1 rfl)
 refine dk rfl<|zf zv rfl<|gY (o:=1) KM rfl rfl rfl bj rfl ?_
 intro ss pD bj dP
 have gk:=gk.aO pD sm
 have aw:ei t8 (cO.heap.size::w2.heap.size::E) L3 ss b true {m1 with bX:=(m1).bX++[(Tk.mk C.1.aP m1.types 0 [] t.sc xa C.2.1 C.2.2 m1.types.length)]}:=⟨_,_,_,_,_,_,_,_,bj,gk⟩
 have hR:=(hR.add jW fo (λx hx vO=>(mF x hx).1 (by simp[vO]))).aL pD (gk.mem.2 (.inr (.inl rfl))) (λvO=>nJ (by simp[vO]))
 have vR:=aw.drop
 obtain⟨L5,eL5,aw⟩:=vR
 have hR:=hR.sub (L2:=L5) (λz hz=>by rw[eL5];simp[hz])
 have cI:=Vi.go hR.fr
 have CP:=yN.go hR.fr
 have kT:=hR.jx ahy Et
 have kA:=hR.tk dU rG
 refine ag<|zr<|zf cN rfl<|zl cK rfl (cI.at rfl)<|zi (i:=3) cw aH rfl rfl ((show 3<4 from om))<|zL bU aH rfl ((eu.go CP).cells) rfl<|dw (vs:=[str y.av.az,.slice pZ y.av.au.length p3]) aH rfl rfl rfl kT rfl ?_
 intro CQ th kT dP
 have aw:=aw.aO th sm
 have hOz:=(hOc.trans (hR.ft bt).sub).trans (qO.of th (λz hz sq=>by simp at hz;have:=lY z (h.sub sq);omega))
 have Vn:=aw.sub Et
 have kA:iu L5 CQ 130 bt {t with on:=C.2.1,bm:=C.2.2}:=kA.go (Fr.of th (by simpa using Vn)) th (by simp;intro e9;have:=lY bt (h.sub eV);omega)
 have CP:=CP.aL th (by simpa using Vn)
 have vR:=aw.drop
 obtain⟨L6,Oh,aw⟩:=vR
 have A3:Fr L5 CQ L6 CQ:=(Fr.refl L5 CQ).to (λz hz=>.inl (by rw[Oh];simp[hz]))
 have CP:=CP.go A3
 refine ag<|aV ?_
 exact⟨[_],gQ bU aH rfl kT rfl,L6,fa.go CP,aw,kA.go A3 (ak.refl [] _) sm,CP,hOz⟩
def Vo {e:Ex} (h:e.ok):cJ e.av=e.head:=by
 cases e with
 |«at» s=>unfold cJ;rw[iP (.inl (show s≠[] from pN h))];rfl
 |un hd a=>rfl
 |bi hd a b=>rfl
 |ite a b c=>rfl
 |lt x a b=>rfl
 |fn f x A B b=>rfl
def ahK {e:Ex} (h:e.ok) (he:e.head=kF):∃f x,e= .bi kF f x:=by
 cases e with
 |bi hd a b=>have he:hd=kF:=he;subst he;exact⟨a,b,rfl⟩
 |un hd a=>have he:hd=kF:=he;rw[he] at h;exact absurd h.1 de
 |«at» s=>cases he
 |ite a b c=>cases he
 |lt x a b=>cases he
 |fn f x A B b=>cases he
def ahL {e:Ex} (h:e.head≠gO):bW e=⟨[],e,e⟩:=by
 cases e with
 |lt x a b=>exact absurd rfl h
 |_=>rfl
def ahM {w:World} {b:Nat} {t:Tk} {v1 v3 v4 v5 v6 v8:Value} {T:TypeId} (h:aY w b (pS t v1 v3 v4 v5 v6 v8).toArray T):iS w b 7 [str t.expr.av.az,v8]:=λj v hj=>by
 match j,hj with
 |0,hj=>simp at hj;subst hj;exact h.at rfl
 |1,hj=>simp at hj;subst hj;exact h.at rfl
def ahN {m:Mk} {s:dd} {on:Nat} {bm:aj} {e f x:Ex} {T:Ty} (g:uZ m s on bm e T) (hg:(bW e).s= .bi kF f x):
  kH ⟨m,s,on,bm⟩ e= .inl (xU (fp (cH (cH m s f.az).1 s x.az).1 s on bm (bW e).name T (bW e).rest).1 (cH m s f.az).2 (cH (cH m s f.az).1 s x.az).2 (fp (cH (cH m s f.az).1 s x.az).1 s on bm (bW e).name T (bW e).rest).2.1):=by
 have hY:=g.nZ
 unfold kH
 simp only[hg,if_true,IF]
 rw[<-hg,hY]
def ahO {m:Mk} {s:dd} {on:Nat} {bm:aj} {e c x y:Ex} {T:Ty} (g:uZ m s on bm e T) (hg:(bW e).s= .ite c x y):
  kH ⟨m,s,on,bm⟩ e= .inr (⟨FQ (fp (cH m s c.az).1 s on bm (bW e).name T (bW e).rest).1 s (fp (cH m s c.az).1 s on bm (bW e).name T (bW e).rest).2.1 (fp (cH m s c.az).1 s on bm (bW e).name T (bW e).rest).2.2 (cH m s c.az).2 x,s,
    (fp (cH m s c.az).1 s on bm (bW e).name T (bW e).rest).2.1,(fp (cH m s c.az).1 s on bm (bW e).name T (bW e).rest).2.2⟩,y):=by
 have hY:=g.nZ
 unfold kH
 simp only[hg,IF]
 rw[<-hg,hY];rfl
def Vp {m:Mk} {s:dd} {on:Nat} {bm:aj} {e:Ex} {T:Ty} (g:uZ m s on bm e T) (h1:(bW e).s.head≠kF) (h2:(bW e).s.head≠cE):
  kH ⟨m,s,on,bm⟩ e=(if(bW e).name=[] then .inl (xV (ni m s T (bW e).s).1 on (ni m s T (bW e).s).2) else .inr (⟨(ni m s T (bW e).s).1,s++[((bW e).name,(ni m s T (bW e).s).2,T)],on,bm⟩,(bW e).rest)):=by
 have hY:=g.nZ
 rw[<-hY]
 cases hg:(bW e).s with
 |«at» a=>unfold kH;simp only[hg]
 |un a b=>unfold kH;simp only[hg]
 |lt a b c=>unfold kH;simp only[hg]
 |fn a b c d f=>unfold kH;simp only[hg]
 |bi hd f x=>rw[hg] at h1;unfold kH;simp only[hg,iN (show¬hd=kF from h1)]
 |ite a b c=>rw[hg] at h2;exact absurd rfl h2
def Vq {a:At} {e:Ex} {m:Mk} (h:kH a e= .inl m):mx e.n a e=m:=by
 have:=e.pos
 obtain⟨k,hk⟩:∃k,e.n=k+1:=⟨e.n-1,om⟩
 rw[hk];unfold mx;rw[h]
def Vr {a:At} {e e2:Ex} {m2:Mk} {s2:dd} {yf:Nat} {DO:aj} (h:kH a e= .inr (⟨m2,s2,yf,DO⟩,e2)) (hi:oc m2 s2 yf DO e2) (hn:e2.n+1<=e.n):mx e.n a e=mx e2.n ⟨m2,s2,yf,DO⟩ e2:=by
 have hp:=e.pos
 obtain⟨k,hk⟩:∃k,e.n=k+1:=⟨e.n-1,om⟩
 rw[hk]
 show(match kH a e with| .inl m=>m| .inr p=>mx k p.1 p.2)=_
 rw[h]
 exact ac0 k hi (show e2.n<=k by omega)
def Vs {m:Mk} {s:dd} {on:Nat} {bm:aj} {e:Ex} {T:Ty} (h:oc m s on bm e) (g:uZ m s on bm e T) (hn:(bW e).name≠[]):Ob s (bW e).name (bW e).rest:=by
 obtain⟨gM,FP,⟨U,hU⟩,rm⟩:=g.rest hn
 have hb:=h.bud
 have sS:∀y,Fv y (bW e).rest->y∉[(bW e).name]->(look (fl s) y).isSome=true:=λy hy fJ=>by
  have:=pP hU hy
  rw[mZ,iN (λe9=>fJ (by rw[e9];simp))] at this;exact this
 have hf:=Mn (s:=s) (bd:=[(bW e).name]) om sS
 exact⟨FP,om,λx hx=>by
  rcases(qv x _ [(bW e).name] []).1 hx with h9|h9
  ·simp at h9
  ·exact sS x h9.1 h9.2,om⟩
def ahP {s:aj} (h:As s):s.length<=272:=by
 obtain⟨T,hT,rfl⟩:=h
 exact tS hT
set_option maxHeartbeats 8000000 in
def Vt (t:Tk) (m:Mk) (hI:oc m t.sc t.on t.bm t.expr) (hn:t.expr.n<=120) (hc:m.code.length<=1100) (gx:m.bX.length<80000)
  (E L:List Nat) (b bt:Nat) (w:World) (h:ei t8 E L w b true m) (hT:iu L w 130 bt t) (eV:bt∈E):
  ck Tryz.prog 109 [.pointer (some ⟨b,0,none⟩),.pointer (some ⟨bt,0,none⟩)] w λr w'=>∃L',ei t8 E L' w' b true (mx t.expr.n ⟨m,t.sc,t.on,t.bm⟩ t.expr)∧(∃t',iu L' w' 130 bt t'∧t'.aP=t.aP∧t'.regs=t.regs)∧Fr L w L' w':=by
 have lY:=h.dN
 have Gn:=hT
 obtain⟨u1,u3,u4,u5,u6,u8,cC,ix⟩:=hT
 obtain⟨a8,c8,e8,_⟩:=rN ix.au
 rw[iI] at e8
 subst e8
 have ahQ:bt<w.heap.size:=lY bt (h.sub eV)
 have ahR:=mT ix.au
 refine cX [] 89 Tryz.func109 rfl XO rfl rfl ?_
 refine zr<|zm<|dk rfl<|zf PV rfl<|zL bU aH rfl ((ahM cC)) rfl<|eD aH rfl rfl rfl ?_
 intro w1 aK aI iU
 have gN:=aK
 refine dw aH rfl rfl rfl aI rfl ?_
 intro w2 aq aI dP
 have gN:=gN.since aq (λx hx=>.inr (by simp at hx;omega))
 have aw:=h.td gN sm (lR _) aI.lt
 have qg:=(eR.refl E L w).more gN sm (lR _) (λz hz=>lY z (h.sub hz))
 have dh:=qg.tk Gn eV
 have vC:=ahR.go qg.fr
 have rG:bt∈w.heap.size::E:=mK _ eV
 have JQ:w.heap.size∈w.heap.size::E:=List.mem_cons_self ..
 have Vu:w.heap.size≠bt:=om
 refine ag<|cS ?_
 refine fY (λe':Ex=>[(0,.pointer (some ⟨b,0,none⟩)),(1,.pointer (some ⟨bt,0,none⟩)),(4,.pointer (some ⟨w.heap.size,0,none⟩))]) (λe' ww=>∃(aa:At) (n9:Nat) (new:List Tk) (L1:List Nat) (ae:Option Addr) (ce:Nat),wI m aa.m aa.s aa.on aa.bm t.expr.n n9 e' new∧mx t.expr.n ⟨m,t.sc,t.on,t.bm⟩ t.expr=mx e'.n aa e'∧ei t8 (w.heap.size::E) L1 ww b true aa.m∧iu L1 ww 130 bt {t with sc:=aa.s,on:=aa.on,bm:=aa.bm}∧Fr L w L1 ww∧aY ww w.heap.size [str (e').av.az,.slice ae (e').av.au.length ce].toArray 66∧bT L1 ww (.agg #[str (e').av.az,.slice ae (e').av.au.length ce]) (e').av) (λe'=>e'.n) t.expr (⟨rfl,rfl,rfl⟩) (⟨⟨m,t.sc,t.on,t.bm⟩,0,[],_,_,_,wI.start hI,rfl,aw,dh,qg.fr,aI,vC⟩) ?_
 intro gg w3 e3 hI
 obtain⟨⟨m1,s1,va,Eu⟩,n9,new,L1,ae,ce,A4,uC,JR,Vv,Oi,CR,Vw⟩:=hI
 dsimp only at A4 uC JR Vv
 have j8:=ak.refl [] w3
 have hA:=A4.inv
 have ahS:=hA.goal
 obtain⟨T,g⟩:=ahS
 have bg:=A4.steps
 have ID:=A4.num
 have anI:=A4.ext.code
 have ahT:=A4.ext.bX
 have hle:=g.le
 have anJ:=hA.bud
 have su:=hA.room
 have zh:=hA.cnt
 have Oj:=hA.on
 have Vx:=ahP hA.bm
 have hep:=gg.pos
 have oz:=(bW gg).s.pos
 have nU:=SX new
 have anK:m1.code.length<=6500:=om
 have anL:m1.bX.length<85000:=(by rw[ahT,lA];omega)
 have uq:=JR.dN
 have anM:=g.small
 refine cS<|zr<|zA<|ag<|zr<|zL bU aH rfl ((CR.ext j8).all) rfl<|eD aH rfl rfl rfl ?_
 intro w4 aF bQ lI
 have j8:=j8.ext aF
 refine dw aH rfl rfl rfl bQ rfl ?_
 intro w5 aU bQ dP
 have j8:=j8.since aU (λx hx=>.inr (by simp at hx;omega))
 refine ag<|zr<|zL bU aH rfl ((CR.ext j8).all) rfl<|eD aH rfl rfl rfl ?_
 intro w6 bF cI qm
 have j8:=j8.ext bF;have bQ:=bQ.ext bF
 have anN:=bQ.lt
 refine dw aH rfl rfl rfl cI rfl ?_
 intro w7 cz cI dP
 have j8:=j8.since cz (λx hx=>.inr (by simp at hx;omega))
 have bQ:=bQ.aO cz so
 have aw:=JR.ext j8
 have vC:=Vw.ext j8
 have aI:=CR.ext j8
 refine ag<|aQ<|zr<|zL bU aH rfl aI.all rfl<|aC (HM gg.av _ L1 w7 vC) ?_
 rintro v8 w8 ⟨p9,cv⟩
 have AF:=cv.size
 have j8:=j8.ext cv;have bQ:=bQ.ext cv;have cI:=cI.ext cv;have vC:=vC.ext cv;have aI:=aI.ext cv
 have eT:=p9
 rw[Vo hA.ok] at eT
 subst eT
 refine cY rfl rfl<|ag ?_
 refine ji (λ_:Unit=>[(0,.pointer (some ⟨b,0,none⟩)),(1,.pointer (some ⟨bt,0,none⟩)),(4,.pointer (some ⟨w.heap.size,0,none⟩)),(5,str (bW gg).name),(6,.pointer (some ⟨w3.heap.size,0,none⟩)),(7,.pointer (some ⟨w5.heap.size,0,none⟩))]) (λ_ ww=>ak [w3.heap.size,w5.heap.size] w8 ww∧∃a6 c6 a7 c7,(aY ww w3.heap.size [str ((bW gg).s).av.az,.slice a6 ((bW gg).s).av.au.length c6].toArray 66∧bT L1 ww (.agg #[str ((bW gg).s).av.az,.slice a6 ((bW gg).s).av.au.length c6]) ((bW gg).s).av)∧aY ww w5.heap.size [str ((bW gg).rest).av.az,.slice a7 ((bW gg).rest).av.au.length c7].toArray 66∧bT L1 ww (.agg #[str ((bW gg).rest).av.az,.slice a7 ((bW gg).rest).av.au.length c7]) ((bW gg).rest).av) ?_ ?_
 refine zc rfl (λh1=>?_) (λh1=>?_)
 have eW:=IZ hA.ok h1
 obtain⟨nx,ea,eb,rfl⟩:=eW
 have I3:(Ex.lt nx ea eb).av.au.length=4:=rfl
 have cL:=dO Vw
 obtain⟨_,_,_,e9,_,bc⟩:=cL
 cases e9
 have fU:=fK bc (i:=1) om
 obtain⟨b1,ga,gZ,ia,e1,bC,_⟩:=fU
 cases e1
 have bC:jb L1 w3 _ _ [str nx,.slice gZ 0 ia]:=bC
 have fJ:=fK bc (i:=2) om
 obtain⟨b2,nu,jd,je,e2,bY,ew⟩:=fJ
 cases e2
 have bY:jb L1 w3 _ _ [str ea.av.az,.slice jd ea.av.au.length je]:=bY
 have ew:bT L1 w3 (.agg #[str ea.av.az,.slice jd ea.av.au.length je]) ea.av:=ew
 have pA:=fK bc (i:=3) om
 obtain⟨b3,B8,pZ,p3,e3,eu,fa⟩:=pA
 cases e3
 have eu:jb L1 w3 _ _ [str eb.av.az,.slice pZ eb.av.au.length p3]:=eu
 have fa:bT L1 w3 (.agg #[str eb.av.az,.slice pZ eb.av.au.length p3]) eb.av:=fa
 have lu:=ak.refl [w3.heap.size,w5.heap.size] w8
 refine zr<|zf cN rfl<|zl cK rfl ((CR.ext j8).at rfl)<|zi (i:=1) cw aH rfl rfl ((show 1<4 from om))<|zf dB rfl<|zl cm rfl ((bC.ext j8).cells 0 _ rfl)<|zA<|ag<|zr<|zf cN rfl<|zl cK rfl ((CR.ext j8).at rfl)<|zi (i:=2) cw aH rfl rfl ((show 2<4 from om))<|zL bU aH rfl ((bY.ext j8).cells) rfl ?_
 refine dw (vs:=[str ea.av.az,.slice jd ea.av.au.length je]) aH rfl rfl rfl bQ rfl ?_
 intro w9 aG bQ dP
 have j8:=j8.since aG (λx hx=>.inr (by simp at hx;omega))
 have cI:=cI.aO aG so
 have lu:=lu.trans (aG.mono sm)
 refine ag<|df<|zf cN rfl<|zl cK rfl ((CR.ext j8).at rfl)<|zi (i:=3) cw aH rfl rfl ((show 3<4 from om))<|zL bU aH rfl ((eu.ext j8).cells) rfl<|dw (vs:=[str eb.av.az,.slice pZ eb.av.au.length p3]) aH rfl rfl rfl cI rfl ?_
 intro cO bV cI dP
 have j8:=j8.since bV (λx hx=>.inr (by simp at hx;omega))
 have bQ:=bQ.aO bV so
 have lu:=lu.trans (bV.mono sm)
 refine ag ?_
 exact⟨(),⟨rfl,rfl,rfl,rfl,rfl,rfl⟩,lu,jd,je,pZ,p3,⟨bQ,ew.ext j8⟩,cI,fa.ext j8⟩
 have ph:=ahL (e:=gg) h1
 refine bz ?_
 exact⟨(),⟨rfl,rfl,rfl,by rw[ph];rfl,rfl,rfl⟩,by rw[ph];exact⟨ak.refl _ _,ae,ce,ae,ce,⟨bQ,vC⟩,cI,vC⟩⟩
 intro gu w9 e9 hI
 obtain⟨lu,a6,c6,a7,c7,⟨bQ,sn⟩,cI,ti⟩:=hI
 have xp:=j8.since lu (λx hx=>.inr (by simp at hx;rcases hx with rfl|rfl<;>omega))
 have aw:=JR.ext xp
 have dh:=Vv.ext xp
 have aI:=CR.ext xp
 have cI:fi L1 w9 w5.heap.size _ _:=⟨cI,λhx=>by have:=uq _ hx;omega⟩
 refine aQ<|zr<|zL bU aH rfl bQ.all rfl<|aC (HM (bW gg).s.av _ L1 w9 sn) ?_
 rintro v10 cO ⟨ry,bV⟩
 have Ce:=bV.size
 have aw:=aw.ext bV;have dh:=dh.ext bV;have aI:=aI.ext bV;have sn:=sn.ext bV;have ti:=ti.ext bV;have bQ:=bQ.ext bV;have cI:=cI.ext bV;have xp:=xp.ext bV
 have eT:=ry
 rw[Vo g.ok] at eT
 subst eT
 refine ag<|cS<|zr<|cY rfl rfl<|zA<|ag<|zc rfl (λh2=>?_) (λh2=>?_)
 have jP:=ahK g.ok h2
 obtain⟨f,x9,jP⟩:=jP
 have gd:3<=(bW gg).s.n:=(by rw[jP];simp only[Ex.n];have:=f.pos;have:=x9.pos;omega)
 have Mr:(bW gg).s.n=(Ex.bi kF f x9).n:=cA Ex.n jP
 rw[jP] at bQ sn
 have Hd:=g.ok
 have He:=g.type
 rw[jP] at Hd He
 refine zr<|zm<|zm<|zL bU aH rfl bQ.all rfl<|zm<|zL bU aH rfl cI.all rfl<|aC (ahj ({t with sc:=s1,on:=va,bm:=Eu}:Tk) m1 f x9 (bW gg).name (bW gg).rest T Hd om He hA.sc (show s1.length<=9000 from om) Oj Vx (λAN=>Vs hA g AN) om om om om (w.heap.size::E) L1 b bt _ _ cO aw dh rG sn ti) ?_
 rintro Va eY ⟨L2,aw,⟨t',ew,ja,cU⟩,tP⟩
 have vR:=aw.drop
 obtain⟨L3,eL3,aw⟩:=vR
 have A3:Fr L2 eY L3 eY:=(Fr.refl L2 eY).to (λz hz=>.inl (by rw[eL3];simp[hz]))
 rw[<-Vq (ahN g jP),<-uC] at aw
 refine ag<|aV ?_
 exact⟨_,rfl,L3,aw,⟨t',ew.go A3 (ak.refl [] _) sm,ja,cU⟩,((Oi.ext xp).go tP).go A3⟩
 have nM:(bW gg).s.head≠kF:=h2
 refine zr<|cY rfl rfl<|zA<|ag<|zc rfl (λh3=>?_) (λh3=>?_)
 have jP:=TF g.ok h3
 obtain⟨c9,x9,y9,jP⟩:=jP
 have gd:4<=(bW gg).s.n:=(by rw[jP];simp only[Ex.n];have:=c9.pos;have:=x9.pos;have:=y9.pos;omega)
 have Mr:(bW gg).s.n=(Ex.ite c9 x9 y9).n:=cA Ex.n jP
 rw[jP] at bQ sn
 have Hd:=g.ok
 have He:=g.type
 rw[jP] at Hd He
 have ahV:=SO hA g jP
 obtain⟨nw,nw2,_,gU⟩:=ahV
 have ahX:=gU.num
 refine zr<|zm<|zm<|zL bU aH rfl bQ.all rfl<|zm<|zL bU aH rfl cI.all rfl<|aC (ahq ({t with sc:=s1,on:=va,bm:=Eu}:Tk) m1 c9 x9 y9 (bW gg).name (bW gg).rest T Hd om He hA.sc (show s1.length<=9000 from om) Oj Vx (λAN=>Vs hA g AN) om om om om (w.heap.size::E) L1 b bt _ _ cO aw dh rG sn ti) ?_
 rintro v51 eY ⟨L2,JS,aw,ew,tP,hFt⟩
 have cL:=dO JS
 obtain⟨ay,ny,cy,Ok,IC,_⟩:=cL
 subst Ok
 subst IC
 have aI:=hFt.jx aI JQ Vu
 have hF:=(Oi.ext xp).go tP
 refine dw (vs:=[str y9.av.az,.slice ay y9.av.au.length cy]) aH rfl rfl rfl aI rfl ?_
 intro gj dG aI dP
 have CS:=aw.sub JQ
 have aw:=aw.aO dG sm
 have ew:=ew.go (Fr.of dG (by simpa using CS)) dG so;have hF:=hF.aL dG (by simpa using CS);have JS:=JS.go (Fr.of dG (by simpa using CS))
 refine ag<|gD<|WG rfl<|gF rfl ?_
 exact⟨y9,⟨rfl,rfl,rfl⟩,⟨⟨_,_,_,_⟩,_,_,L2,ay,cy,A4.step gU,uC.trans (Vr (ahO g jP) gU.inv om),aw,ew,hF,aI,JS⟩,om⟩
 have nk:(bW gg).s.head≠cE:=h3
 have hpu:=Mp (m:=m1) hA.sml hA.sc g.ok g.type om om om
 obtain⟨nwp,rU⟩:=hpu
 have CN:∃z,z=ni m1 s1 T (bW gg).s:=⟨_,rfl⟩
 obtain⟨P,hP⟩:=CN
 rw[<-hP] at rU
 have anO:=rU.ext.types
 have anP:=rU.ext.code
 have hpr:=rU.dI
 refine bz<|zr<|zm<|zL bU aH rfl bQ.all rfl<|aC (Ju ({t with sc:=s1,on:=va,bm:=Eu}:Tk) (bW gg).s g.ok om hA.sc.types (show s1.length+2*(bW gg).s.n<=100000 from om) _ L1 bt cO aw.dN dh sn) ?_
 rintro v11 eY ⟨rF,cM⟩
 have CG:=cM.size
 have aw:=aw.ext cM;have dh:=dh.ext cM;have aI:=aI.ext cM;have sn:=sn.ext cM;have ti:=ti.ext cM;have bQ:=bQ.ext cM;have cI:=cI.ext cM;have xp:=xp.ext cM
 have eT:=rF
 rw[g.type] at eT
 subst eT
 refine zA<|ag<|zr<|zm<|zm<|zL bU aH rfl bQ.all rfl<|aC (ahg ({t with sc:=s1,on:=va,bm:=Eu}:Tk) m1 (bW gg).s T g.ok g.type hA.sc (show 5*s1.length+2*(bW gg).s.n<=240 from om) Oj om om om om (w.heap.size::E) L1 b bt _ eY aw dh rG sn) ?_
 rintro Jm gj ⟨Ev,L2,aw,bZ⟩
 rw[<-hP] at Ev aw
 subst Ev
 have ew:=bZ.tk dh rG
 have cI:=cI.go bZ.fr;have ti:=ti.go bZ.fr
 have aI:=bZ.jx aI JQ
 have hF:=(Oi.ext xp).go bZ.fr
 refine zA<|ag<|aQ<|zr<|zm<|cY rfl rfl<|ag<|zc rfl (λh4=>?_) (λh4=>?_)
 have rm:(bW gg).name=[]:=h4
 have Ew:=(Vp g nM nk).trans (iP rm)
 rw[<-hP] at Ew
 have Ol:∃z,z=sL P.1 va:=⟨_,rfl⟩
 obtain⟨me,CK⟩:=Ol
 have Od:me.types.length=P.1.types.length+3∧me.code.length=P.1.code.length+3:=(by rw[CK];exact U9 _ _)
 obtain⟨met,mec⟩:=Od
 have BR:∃z,z=me.types.length:=⟨_,rfl⟩
 obtain⟨r,oY⟩:=BR
 have yO:∃z,z=me.code.length:=⟨_,rfl⟩
 obtain⟨c,eC⟩:=yO
 have t0:me.types.length=r:=oY.symm
 have c0:me.code.length=c:=eC.symm
 have BR:∃z,z=P.1.types.length:=⟨_,rfl⟩
 obtain⟨rc,Ha⟩:=BR
 have Iv:xV P.1 va P.2=((me.da nY [[48],bf (rc+2)]).da nY [[49],bf P.2]).da Ac [bf (rc+1)]:=(by rw[CK,Ha];rfl)
 rw[Iv] at Ew
 have kA:=ew
 obtain⟨v1,v3,v4,v5,v6,v8,ah0,_⟩:=kA
 refine zr<|zm<|zm<|dk rfl<|zf HI rfl<|zl qT rfl (ah0.at rfl)<|aC (Uw P.1 va om om om (w.heap.size::E) L2 b gj aw) ?_
 rintro Va jF ⟨DT,L0,aw,bZ⟩
 rw[<-CK] at aw
 rw[<-Ha] at DT
 subst DT
 have hR:=bZ
 have dD:=aw.dN
 refine zm<|zx (i:=0) rfl rfl<|zx (i:=1) rfl rfl<|zA<|zA<|ag<|zr<|zm<|zm<|lq bh bA rfl rfl rfl rfl ?_
 intro jg dM Vy Cq
 have aw:=aw.ext dM;have hR:=hR.ext dM
 refine aC (lk nY [[48],bf (rc+2)] (mG de sm (by intro z hz;simp at hz;rcases hz with rfl|rfl;(·decide);(·exact mn om))) me om (w.heap.size::E) L0 b _ jg aw (aY.eF [[48],bf (rc+2)] Vy (λhx=>by have:=dD _ hx;omega))) ?_
 rintro jX qe ⟨L1,aw,bZ⟩
 have hR:=hR.go bZ
 clear Vy
 have iM:∃x,x=me.da nY [[48],bf (rc+2)]:=⟨_,rfl⟩
 obtain⟨m1,lV⟩:=iM
 rw[<-lV] at aw
 have t1:m1.types.length=r+0:=(by rw[lV,oR];omega)
 have c1:m1.code.length=c+1:=(by rw[lV,pB];omega)
 have dD:=aw.dN
 refine ag<|zr<|zm<|zm<|aC (iQ (P.2+1) P.2 om om qe) ?_
 rintro yp lU ⟨NA,kZ⟩
 have TW:=kZ.size
 have aw:=aw.ext kZ;have hR:=hR.ext kZ
 obtain rfl:=NA
 have dD:=aw.dN
 refine lq bh bA rfl rfl rfl rfl ?_
 intro vI qf Vz ah1
 have aw:=aw.ext qf;have hR:=hR.ext qf
 refine aC (lk nY [[49],bf P.2] (mG de sm (by intro z hz;simp at hz;rcases hz with rfl|rfl;(·decide);(·exact mn om))) m1 om (w.heap.size::E) L1 b _ vI aw (aY.eF [[49],bf P.2] Vz (λhx=>by have:=dD _ hx;omega))) ?_
 rintro jX xg ⟨L2,aw,bZ⟩
 have hR:=hR.go bZ
 clear Vz
 have fH:∃x,x=m1.da nY [[49],bf P.2]:=⟨_,rfl⟩
 obtain⟨m2,lW⟩:=fH
 rw[<-lW] at aw
 have t2:m2.types.length=r+0:=(by rw[lW,oR];omega)
 have c2:m2.code.length=c+2:=(by rw[lW,pB];omega)
 have dD:=aw.dN
 refine ag<|zr<|zm<|zm<|gH bh bA rfl rfl ?_
 intro CA vK D4 aeY
 have aw:=aw.ext vK;have hR:=hR.ext vK
 refine aC (lk Ac [bf (rc+1)] (mG de sm (by intro z hz;simp at hz;subst hz;exact mn om)) m2 om (w.heap.size::E) L2 b _ CA aw (aY.eF [bf (rc+1)] D4 (λhx=>by have:=dD _ hx;omega))) ?_
 rintro jX vL ⟨L3,aw,bZ⟩
 have hR:=hR.go bZ
 clear D4
 have yC:∃x,x=m2.da Ac [bf (rc+1)]:=⟨_,rfl⟩
 obtain⟨m3,lX⟩:=yC
 rw[<-lX] at aw
 have t3:m3.types.length=r+0:=(by rw[lX,oR];omega)
 have c3:m3.code.length=c+3:=(by rw[lX,pB];omega)
 have dD:=aw.dN
 have vR:=aw.drop
 obtain⟨L7,eL7,aw⟩:=vR
 have Nr:=hR.tk ew rG
 have A3:Fr L3 vL L7 vL:=(Fr.refl L3 vL).to (λz hz=>.inl (by rw[eL7];simp[hz]))
 refine ag<|aV ?_
 subst lX lW lV
 rw[<-Vq Ew,<-uC] at aw
 exact⟨_,rfl,L7,aw,⟨_,Nr.go A3 (ak.refl [] _) sm,rfl,rfl⟩,(hF.go hR.fr).go A3⟩
 have rm:(bW gg).name≠[]:=h4
 have Ew:=(Vp g nM nk).trans (iN rm)
 have Dk:=SN hA g rm
 obtain⟨nw2,gU⟩:=Dk
 rw[<-hP] at Ew gU
 have ahX:=gU.num
 have yI:=aw.sub rG
 refine bz<|zr<|zm<|zm<|zm<|zm<|aC (Ej ({t with sc:=s1,on:=va,bm:=Eu}:Tk) (bW gg).name P.2 T (show s1.length<100000 from om) L2 bt gj yI aw.dN ew) ?_
 rintro v87 jF ⟨ew,mH⟩
 have aw:=aw.aO mH (by simpa using .inr eV)
 have cI:=cI.aL mH (by simpa using yI);have ti:=ti.go (Fr.of mH (by simpa using yI))
 have aI:=aI.aO mH (by simpa using Vu)
 have hF:=hF.aL mH (by simpa using yI)
 have ew:iu L2 jF 130 bt ({t with sc:=s1++[((bW gg).name,P.2,T)],on:=va,bm:=Eu}:Tk):=ew
 refine ag<|df<|zL bU aH rfl cI.all rfl<|dw (vs:=[str (bW gg).rest.av.az,.slice a7 (bW gg).rest.av.au.length c7]) aH rfl rfl rfl aI rfl ?_
 intro jg dM aI dP
 have CS:=aw.sub JQ
 have aw:=aw.aO dM sm
 have ew:=ew.go (Fr.of dM (by simpa using CS)) dM so;have hF:=hF.aL dM (by simpa using CS);have ti:=ti.go (Fr.of dM (by simpa using CS))
 refine ag ?_
 exact⟨(bW gg).rest,⟨rfl,rfl,rfl⟩,⟨⟨_,_,_,_⟩,_,_,L2,a7,c7,A4.step gU,uC.trans (Vr Ew gU.inv om),aw,ew,hF,aI,ti⟩,om⟩
def ah3 {t:Tk} (h:oQ t) {k:Nat} (hk:k<t.loads) {hd:aA} (hh:∀t',ba (t.regs.getD 0 [105])=some t'->hd=t'):k+1<hd.au.length∧nth hd.au (k+1)=nth (nq t) k∧WF (nth (nq t) k)∧(nth (nq t) k).size<=12001:=by
 rcases h.loads with h0|⟨ts,hr,hl,hp⟩
 ·omega
 ·obtain⟨e1,e2⟩:=Mt hr hp
  have e3:=hh _ e2
  have dz:=tF e2
  have iY:=Bz e2
  subst e3
  have hlen:(wh [116] ts).au.length=ts.length+1:=rfl
  have h1:k+1<(wh [116] ts).au.length:=by rw[hlen];omega
  have e4:nth (wh [116] ts).au (k+1)=nth (nq t) k:=by rw[e1];rfl
  have h2:=dz.nth h1
  have h3:=l3 h1
  rw[e4] at h2 h3
  have h4:=KV e2
  exact⟨h1,e4,h2,om⟩
def ah4 {m:Mk} {t:Tk} (h:oQ t) {k:Nat} (hk:k<=t.loads):BY m (pj (od m t.regs) (nq t) k) t.regs k:=by
 have hr:=h.room
 rcases h.loads with h0|⟨ts,hh,hl,FT⟩
 ·rw[show k=0 by omega];exact Mu h.regs
 ·obtain⟨e1,_⟩:=Mt hh FT
  rw[e1]
  refine Mv h.regs (λx hx=>?_) _ om om
  have h2:=h.regs _ (List.mem_of_mem_head? hh)
  rw[lQ] at h2
  have:=SR (List.mem_map_of_mem (f:=aA.text) hx)
  omega
def ah5 (m:Mk) (aP:aj) (regs:List aj) (a b:aj) {CO P0:aj} {r:Nat} (hC:CO=bO [99] regs) (hP:P0=bO [116] [CO,b]) (hr:r=m.types.length):
  Ax m aP regs a b=(((((m.dI CO).da sI [bf r,aP]).dI P0).da l8 [bf (r+1),bf r,[48]]).dI a).da sJ [bf (r+2),bf (r+1),a,b]:=by
 subst hP;subst hC;subst hr;rfl
set_option maxHeartbeats 8000000 in
def ah6 (t:Tk) (m:Mk) (Ey:oQ t) (o:Bool)
  (E L:List Nat) (b bt:Nat) (w:World) (h:ei t8 E L w b o m) (hT:iu L w 130 bt t) (eV:bt∈E):
  ck Tryz.prog 112 [.pointer (some ⟨b,0,none⟩),.pointer (some ⟨bt,0,none⟩)] w λr w'=>∃L',ei t8 E L' w' b true (qB m t)∧eR E L w L' w':=by
 have lY:=h.dN
 have ahQ:bt<w.heap.size:=lY bt (h.sub eV)
 have hR:=eR.refl E L w
 have su:=Ey.room
 have aw:=h
 refine cX [] 137 Tryz.func112 rfl XR rfl rfl ?_
 refine zr<|zm<|gP bh bA ?_
 intro w1 aK mz Gk
 have yP:=h.open
 obtain⟨xb,xt,xc,xy,gb,gt,gc,gy,bj,hS⟩:=yP
 have yd:=hS.apart
 obtain⟨yw,nJ,vF,mF,vG,ug⟩:=yd
 have bj:aY w1 b [xb,xt,.int .i64 (m.count:Int),.bool m.wide,xc,xy].toArray 127:=bj.ext aK
 have yQ:=hS.Im mz.lr aK.any (λx hx=>.inr (by cases hx;exact lR _))
 obtain⟨L1,hS,bZ⟩:=yQ
 have hR:=(eR.refl E L w).add bZ aK sm
 refine dk rfl<|zf Dc rfl<|gY (o:=4) nO rfl rfl rfl bj rfl ?_
 intro w2 aq bj dP
 have hS:=hS.aO aq sm
 have CT:=hS.mem.2 (.inr (.inl rfl))
 have hR:=hR.aL aq CT nJ
 have kA:=hR.tk hT eV
 obtain⟨u1,u3,u4,u5,u6,u8,cC,ix⟩:=kA
 have cL:=eP ix.regs
 obtain⟨a1,n1,c1,e1,fU⟩:=cL
 subst e1
 subst fU
 have anR:∀x,x∈L1->x<w2.heap.size:=hS.db
 refine ag<|zr<|zm<|zQ w2.heap.size [] bh bA rfl rfl (lR _) sm ?_
 intro w3 aJ ah1 ah7
 have rE:=aJ
 have cC:=cC.ext aJ
 refine zm<|dk rfl<|zf Dd rfl<|zl eS rfl (cC.at rfl)<|xO bh bA rfl rfl rfl rfl rfl rfl ah7 ((cF.fresh ix.regs (L':=[w2.heap.size]) (λx hx=>.inr (by simp at hx;omega))).ext rE |>.fresh (λx hx=>.inl (by simpa using hx))) (Ve _) (by rw[rS];simp;omega) ?_
 intro a4 jf g4 w4 kX aF
 rw[List.nil_append] at kX
 have Om:=rE.since aF (λx hx=>.inr (by simp at hx;omega))
 have ly:=kX.wg
 have kV:=kX.low
 have bj:=bj.ext Om
 have yQ:=hS.LQ ly Om.any (λx hx=>.inr (kV x hx))
 obtain⟨L2,gk,jW⟩:=yQ
 have hR:=hR.add jW Om sm
 refine dk rfl<|zf zw rfl<|gY (o:=5) nO rfl rfl rfl bj rfl ?_
 intro w5 aU bj dP
 have gk:=gk.aO aU sm
 have ah8:=gk.mem.2 (.inr (.inl rfl))
 have hR:=hR.aL aU ah8 nJ
 have aw:ei t8 E L2 w5 b true (od m t.regs):=⟨_,_,_,_,_,_,_,_,bj,gk⟩
 have CI:=aw.dN
 refine ag<|zr<|aC (zH [105] L2 w5 CI) ?_
 rintro v6 w6 ⟨lx,bF⟩
 have oS:=bF.size
 have aw:=aw.ext bF;have hR:=hR.ext bF
 have eT:=lx
 obtain⟨t0x,tv,Oo,JT,iz⟩:=eT
 subst Oo
 have cL:=dO JT
 obtain⟨a5,n5,c5,e5,Jd,_⟩:=cL
 subst e5
 subst Jd
 have ml:=aw
 have uh:=hR
 have CI:=aw.dN
 refine zm<|zx (i:=0) rfl rfl<|zx (i:=1) rfl rfl<|eD aH rfl rfl rfl ?_
 intro w7 cz aI iU
 have du:=cz
 refine dw (vs:=[str t0x.az,.slice a5 t0x.au.length c5]) aH rfl rfl rfl aI rfl ?_
 intro w8 cv aI dP
 have du:=du.since cv (λx hx=>.inr (by simp at hx;omega))
 have aw:=ml.ext du
 have hR:=uh.ext du
 have JT:=JT.ext du
 have kA:=hR.tk hT eV
 obtain⟨u1,u3,u4,u5,u6,u8,cC,ix⟩:=kA
 have cL:=eP ix.regs
 obtain⟨a1,n1,c1,e1,fU⟩:=cL
 subst e1
 subst fU
 have cL:=eP ix.self
 obtain⟨a3,n3,c3,e3,pA⟩:=cL
 subst e3
 subst pA
 have cC:aY w8 bt [str t.aP,.slice a1 t.regs.length c1,.int .i64 (t.loads:Int),.slice a3 t.self.length c3,u4,u5,u6,str t.expr.av.az,u8,.int .i64 (t.on:Int),str t.bm,.int .i64 (t.next:Int)].toArray 130:=cC
 refine zA<|ag<|aQ<|zr<|zm<|dk rfl<|zf Dd rfl<|zl eS rfl (cC.at rfl)<|dZ bh rfl<|jz rfl rfl rfl rfl rfl<|ag ?_
 refine ji (λ_:Unit=>[(0,.pointer (some ⟨b,0,none⟩)),(1,.pointer (some ⟨bt,0,none⟩)),(4,.pointer (some ⟨w6.heap.size,0,none⟩))]) (λ_ ww=>ak [w6.heap.size] w8 ww∧∃(hd:aA) (ah:Option Addr) (ch:Nat),aY ww w6.heap.size [str hd.az,.slice ah hd.au.length ch].toArray 66∧bT L2 ww (.agg #[str hd.az,.slice ah hd.au.length ch]) hd∧∀t',ba (t.regs.getD 0 [105])=some t'->hd=t') ?_ ?_
 refine zc rfl (λh1=>?_) (λh1=>?_)
 have oY:0<t.regs.length:=(by simp at h1;omega)
 have gh:=ou ix.regs oY
 obtain⟨b9,ov,e9,gq⟩:=gh
 cases e9
 have rO:t.regs.getD 0 [105]=aD t.regs 0:=(by unfold aD;rw[gG,gG,gE oY];rfl)
 have lu:=ak.refl [w6.heap.size] w8
 have Ez:=aw.dN
 refine df<|zm<|dk rfl<|zf Dd rfl<|zl eS rfl (cC.at rfl)<|zi (i:=0) bh bA rfl rfl om<|zl cm rfl (gq.cells 0 _ rfl)<|aC (zH (aD t.regs 0) (w6.heap.size::L2) w8 (λx hx=>by rcases mC.1 hx with h9|h9;(·rw[h9];exact aI.lt);(·exact Ez x h9))) ?_
 rintro v9 w9 ⟨eT,aG⟩
 have pq:=aG.size
 have aI:=aI.ext aG;have lu:=lu.ext aG
 have eT:=eT
 obtain⟨t1x,tv,yj,VA,o4⟩:=eT
 subst yj
 have cL:=dO VA
 obtain⟨a6,n6,c6,e6,VB,_⟩:=cL
 subst e6
 subst VB
 refine zm<|zx (i:=0) rfl rfl<|zx (i:=1) rfl rfl<|dw (vs:=[str t1x.az,.slice a6 t1x.au.length c6]) aH rfl rfl rfl aI rfl ?_
 intro cO bV aI dP
 have lu:=lu.trans bV
 have ah9:bT L2 cO _ t1x:=(VA.go (Fr.of bV sm)).fresh (λx hx=>.inl (by simp[hx]))
 refine ag ?_
 exact⟨(),⟨rfl,rfl,rfl⟩,lu,t1x,a6,c6,aI,ah9,by rw[rO];exact o4⟩
 have oY:t.regs=[]:=(by simpa using h1)
 have rO:t.regs.getD 0 [105]=[105]:=(by rw[oY];rfl)
 refine bz ?_
 exact⟨(),⟨rfl,rfl,rfl⟩,ak.refl _ _,t0x,a5,c5,aI,JT,by rw[rO];exact iz⟩
 intro gu w9 e9 hI
 obtain⟨lu,hd,ah,ch,aI,Oq,jJ⟩:=hI
 have du:=du.since lu (λx hx=>.inr (by simp at hx;omega))
 have aw:=ml.ext du
 have hR:=uh.ext du
 have aI:fi L2 w9 w6.heap.size _ _:=⟨aI,λhx=>by have:=CI _ hx;omega⟩
 refine aQ<|zr<|zA<|ag<|cS ?_
 refine fY (λk:Nat=>[(0,.pointer (some ⟨b,0,none⟩)),(1,.pointer (some ⟨bt,0,none⟩)),(4,.pointer (some ⟨w6.heap.size,0,none⟩)),(6,.int .i64 (k:Int))]) (λk ww=>∃L3,ei t8 E L3 ww b true (pj (od m t.regs) (nq t) k)∧eR E L w L3 ww∧Fr L2 w9 L3 ww∧k<=t.loads) (λk=>t.loads-k) (0) (⟨rfl,rfl,rfl,rfl⟩) (⟨L2,aw,hR,Fr.refl _ _,Nat.zero_le _⟩) ?_
 intro gg cO gw hI
 obtain⟨L3,aw,hR,rH,hk⟩:=hI
 have aI:=aI.go rH;have Oq:=Oq.go rH
 have kA:=hR.tk hT eV
 obtain⟨u1,u3,u4,u5,u6,u8,cC,ix⟩:=kA
 have cL:=eP ix.regs
 obtain⟨a1,n1,c1,e1,fU⟩:=cL
 subst e1
 subst fU
 have cL:=eP ix.self
 obtain⟨a3,n3,c3,e3,pA⟩:=cL
 subst e3
 subst pA
 have cC:aY cO bt [str t.aP,.slice a1 t.regs.length c1,.int .i64 (t.loads:Int),.slice a3 t.self.length c3,u4,u5,u6,str t.expr.av.az,u8,.int .i64 (t.on:Int),str t.bm,.int .i64 (t.next:Int)].toArray 130:=cC
 have VC:=ah4 (m:=m) Ey hk
 have aia:=VC.types
 have aib:=VC.code
 refine aQ<|zr<|zm<|zm<|dk rfl<|zf PU rfl<|zl qT rfl (cC.at rfl)<|fA rfl rfl rfl<|ag<|zc rfl (λh2=>?_) (λh2=>?_)
 have aq:gg<t.loads:=(by simp at h2;omega)
 have aic:=ah3 Ey aq jJ
 obtain⟨qp,uO,Dq,VD⟩:=aic
 have cL:=dO Oq
 obtain⟨_,_,_,e9,_,bc⟩:=cL
 cases e9
 have fU:=fK bc qp
 obtain⟨b9,ov,pa9,pc9,e9,gq,dU⟩:=fU
 cases e9
 rw[uO] at gq dU
 have pX:=Lq _ _ (lR _) Dq
 refine bz<|aQ<|cS<|zr<|zm<|zf cN rfl<|zl cK rfl (aI.at rfl)<|zm<|eI rfl rfl rfl (wrap_i64 _ om om)<|zi cw aH rfl rfl om<|zL bU aH rfl gq.cells rfl<|aC (tI (nth (nq t) gg).size _ (lR _) Dq om om _ _ cO dU) ?_
 rintro v11 eY ⟨rF,cM⟩
 have CG:=cM.size
 have aw:=aw.ext cM;have hR:=hR.ext cM;have rH:=rH.ext cM
 obtain rfl:=rF
 refine aC (sj (nth (nq t) gg).text (pj (od m t.regs) (nq t) gg) om E L3 b true eY aw) ?_
 rintro U7 gj ⟨Hf,L4,aw,bZ⟩
 subst Hf
 have hR:=hR.go bZ;have rH:=rH.go bZ.fr
 refine zA<|ag<|df<|zm<|zm<|aC (iQ ((pj (od m t.regs) (nq t) gg).types.length+1) (pj (od m t.regs) (nq t) gg).types.length om om gj) ?_
 rintro wR jF ⟨vH,fM⟩
 have Gz:=fM.size
 have aw:=aw.ext fM;have hR:=hR.ext fM;have rH:=rH.ext fM
 obtain rfl:=vH
 have dD:=aw.dN
 refine zm<|aC (iQ (gg+1) gg om om jF) ?_
 rintro lz jg ⟨Ot,dM⟩
 have aif:=dM.size
 have aw:=aw.ext dM;have hR:=hR.ext dM;have rH:=rH.ext dM
 obtain rfl:=Ot
 have dD:=aw.dN
 refine pU bh bA rfl rfl rfl rfl rfl ?_
 intro qe jG aih IY
 have aw:=aw.ext jG;have hR:=hR.ext jG;have rH:=rH.ext jG
 refine aC (lk sK [bf (pj (od m t.regs) (nq t) gg).types.length,[48],bf gg] (mG de sm (by intro z hz;simp at hz;rcases hz with rfl|rfl|rfl;(·exact mn om);(·decide);(·exact mn om))) ((pj (od m t.regs) (nq t) gg).dI (nth (nq t) gg).text) (show(pj (od m t.regs) (nq t) gg).code.length<100000 from om) E L4 b _ qe aw (aY.eF [bf (pj (od m t.regs) (nq t) gg).types.length,[48],bf gg] aih (λhx=>by have:=dD _ hx;omega))) ?_
 rintro v68 lU ⟨L5,aw,bZ⟩
 have hR:=hR.go bZ;have rH:=rH.go bZ.fr
 refine ag<|df<|zm<|eI rfl rfl rfl (wrap_i64 _ om om)<|zA<|ag ?_
 exact⟨gg+1,⟨rfl,rfl,rfl,rfl⟩,⟨L5,aw,hR,rH,om⟩,om⟩
 have Ai:gg=t.loads:=om
 subst Ai
 have Ol:∃z,z=pj (od m t.regs) (nq t) t.loads:=⟨_,rfl⟩
 obtain⟨m0,tq⟩:=Ol
 rw[<-tq] at aw aia aib
 refine gD<|gF rfl<|zr<|zm<|dk rfl<|zf Bt rfl<|zl eS rfl (cC.at rfl)<|dZ bh rfl<|dQ rfl rfl rfl<|ag<|zc rfl (λh3=>?_) (λh3=>?_)
 have ja:t.self.length=2:=om
 have CU:=Ey.self
 have CU:∃a b,t.self=[a,b]∧a.length<=272∧b.length<=11200∧t.regs.length=3∧∀r,r∈t.regs->r.length<=11200:=(by rcases CU with h9|h9;(·rw[h9] at ja;cases ja);(·exact h9))
 obtain⟨sa,sb,Ou,anT,anU,h3,oH⟩:=CU
 have yO:∃z,z=bO [99] t.regs:=⟨_,rfl⟩
 obtain⟨CO,yR⟩:=yO
 have yO:∃z,z=bO [116] [CO,sb]:=⟨_,rfl⟩
 obtain⟨P0,sk⟩:=yO
 have anV:CO.length<=33610:=(by rw[yR];exact SQ h3 oH)
 have anW:P0.length<=45000:=(by rw[sk,lQ,Au];simp only[lC,lN];omega)
 have yO:∃z,z=m0.types.length:=⟨_,rfl⟩
 obtain⟨r,GG⟩:=yO
 have yO:∃z,z=m0.code.length:=⟨_,rfl⟩
 obtain⟨c,NF⟩:=yO
 have t0:m0.types.length=r:=GG.symm
 have c0:m0.code.length=c:=NF.symm
 have Ov:qB m t=(((((m0.dI CO).da sI [bf r,t.aP]).dI P0).da l8 [bf (r+1),bf r,[48]]).dI sa).da sJ [bf (r+2),bf (r+1),sa,sb]:=(by unfold qB IE;rw[<-tq,Ou];exact ah5 m0 t.aP t.regs sa sb yR sk GG)
 have FL:=Ey.aP
 have wj:t.self.length=2:=ja
 have oB:aD t.self 0=sa:=(by rw[Ou];rfl)
 have dS:aD t.self 1=sb:=(by rw[Ou];rfl)
 refine zr<|zm<|dk rfl<|zf Dd rfl<|zl eS rfl (cC.at rfl)<|aC ((show ck Tryz.prog 75 [str [99],.slice a1 t.regs.length c1] _ (λr w'=>r=str CO∧ak [] _ w') from by rw[yR];exact xP [99] t.regs (by rw[<-yR];omega) _ _ _ ix.regs)) ?_
 rintro v11 eY ⟨rF,cM⟩
 have CG:=cM.size
 have aw:=aw.ext cM;have hR:=hR.ext cM;have cC:=cC.ext cM
 obtain rfl:=rF
 refine zA<|ag<|zr<|zm<|zm<|aC (sj CO m0 om E L3 b true eY aw) ?_
 rintro v10 gj ⟨gw,L1,aw,bZ⟩
 rw[t0] at gw
 subst gw
 have hR:=hR.go bZ
 have iM:∃x,x=m0.dI CO:=⟨_,rfl⟩
 obtain⟨m1,lV⟩:=iM
 rw[<-lV] at aw
 have t1:m1.types.length=r+1:=(by rw[lV,yc];omega)
 have c1:m1.code.length=c+0:=(by rw[lV,Ct];omega)
 have dD:=aw.dN
 have kA:=hR.tk hT eV
 obtain⟨u1,u3,u4,u5,u6,u8,cC,ix⟩:=kA
 have cL:=eP ix.self
 obtain⟨a3,n3,c3,e3,pA⟩:=cL
 subst e3
 subst pA
 have cC:aY gj bt [str t.aP,u1,.int .i64 (t.loads:Int),.slice a3 t.self.length c3,u4,u5,u6,str t.expr.av.az,u8,.int .i64 (t.on:Int),str t.bm,.int .i64 (t.next:Int)].toArray 130:=cC
 have gh:=ou ix.self (i:=0) om
 obtain⟨b9,ov,e9,gq⟩:=gh
 cases e9
 have gh:=ou ix.self (i:=1) om
 obtain⟨Ow,Ox,gw,vS⟩:=gh
 cases gw
 rw[oB] at gq
 rw[dS] at vS
 refine zA<|ag<|aQ ?_
 apply wE et 8 (rA 83 8) (rA 83 8) [[],[],[1],[],[3],[4],[5],[2,6]] [It.v _,It.v _,It.v _,It.v _,It.v _,It.v _,It.v _,It.p (fun(v:Value) (ww:World)=>bI L1 ww v [bf r,t.aP])] de (by exact⟨λv w w' h k=>h.ext k,trivial⟩)
 intro wd aB
 refine eK ?_
 refine eK ?_
 refine vk aB (λx jF fM=>?_) ?_
 refine aC (iQ (r+1) r om om jF) ?_
 rintro lz jg ⟨Ot,dM⟩
 have aif:=dM.size
 obtain rfl:=Ot
 exact pk dM
 refine eK ?_
 refine vk aB (λx jF fM=>?_) ?_
 refine dk rfl ?_
 exact pv
 refine vc (λ_ _ _=>zf KF rfl pv) ?_
 refine vk aB (λx jF fM=>?_) ?_
 have cC:=cC.ext fM
 refine zl cm rfl (cC.at rfl) ?_
 exact pv
 refine vk aB (λx jF fM=>?_) ?_
 have aii:=fM.size
 refine lq bh bA rfl rfl rfl rfl ?_
 intro jg dM aij Cq
 exact pf dM ((aY.eF [bf r,t.aP] aij (λhx=>by have:=dD _ hx;omega)))
 exact trivial
 intro x AO oV
 intro v7 d7
 have aw:=aw.ext oV;have hR:=hR.ext oV;have cC:=cC.ext oV
 change OW _ _ _ _ _ (aM (aN _ x _) (zZ 83 [_,_,_,_,_,_,_,_])) _
 refine aC (lk sI [bf r,t.aP] (mG de sm (by intro z hz;simp at hz;rcases hz with rfl|rfl;(·exact mn om);(·omega))) m1 om E L1 b _ AO aw d7) ?_
 rintro jX mm ⟨L2,aw,bZ⟩
 have hR:=hR.go bZ
 have fH:∃x,x=m1.da sI [bf r,t.aP]:=⟨_,rfl⟩
 obtain⟨m2,lW⟩:=fH
 rw[<-lW] at aw
 have t2:m2.types.length=r+1:=(by rw[lW,oR];omega)
 have c2:m2.code.length=c+1:=(by rw[lW,pB];omega)
 have dD:=aw.dN
 have kA:=hR.tk hT eV
 obtain⟨u1,u3,u4,u5,u6,u8,cC,ix⟩:=kA
 have cL:=eP ix.self
 obtain⟨a3,n3,c3,e3,pA⟩:=cL
 subst e3
 subst pA
 have cC:aY mm bt [str t.aP,u1,.int .i64 (t.loads:Int),.slice a3 t.self.length c3,u4,u5,u6,str t.expr.av.az,u8,.int .i64 (t.on:Int),str t.bm,.int .i64 (t.next:Int)].toArray 130:=cC
 have gh:=ou ix.self (i:=0) om
 obtain⟨b9,ov,e9,gq⟩:=gh
 cases e9
 have gh:=ou ix.self (i:=1) om
 obtain⟨Ow,Ox,gw,vS⟩:=gh
 cases gw
 rw[oB] at gq
 rw[dS] at vS
 refine ag<|zr<|zm<|zm<|zm<|dk rfl<|zf Bt rfl<|zl eS rfl (cC.at rfl)<|zi (i:=1) bh bA rfl rfl om<|zl cm rfl (vS.cells 0 _ rfl)<|lq bh bA rfl rfl rfl rfl ?_
 intro ur AX Cy ahD
 have aw:=aw.ext AX;have hR:=hR.ext AX
 refine aC ((show ck Tryz.prog 75 [str [116],_] ur (λr w'=>r=str P0∧ak [] ur w') from by rw[sk];exact xP [116] [CO,sb] (by rw[<-sk];omega) _ L2 ur (aY.eF [CO,sb] Cy (λhx=>by have:=dD _ hx;omega)))) ?_
 rintro v55 JH ⟨ail,xk⟩
 have anX:=xk.size
 have aw:=aw.ext xk;have hR:=hR.ext xk;have Cy:=Cy.ext xk
 obtain rfl:=ail
 clear Cy
 refine aC (sj P0 m2 om E L2 b true JH aw) ?_
 rintro v10 ow ⟨gw,L3,aw,bZ⟩
 rw[t2] at gw
 subst gw
 have hR:=hR.go bZ
 have yC:∃x,x=m2.dI P0:=⟨_,rfl⟩
 obtain⟨m3,lX⟩:=yC
 rw[<-lX] at aw
 have t3:m3.types.length=r+2:=(by rw[lX,yc];omega)
 have c3:m3.code.length=c+1:=(by rw[lX,Ct];omega)
 have dD:=aw.dN
 refine zA<|ag<|zr<|zm<|zm<|aC (iQ ((r+1)+1) (r+1) om om ow) ?_
 rintro N7 N8 ⟨GW,yL⟩
 have U3:=yL.size
 have aw:=aw.ext yL;have hR:=hR.ext yL
 obtain rfl:=GW
 have dD:=aw.dN
 refine zm<|aC (iQ (r+1) r om om N8) ?_
 rintro Jm w58 ⟨aim,CV⟩
 have anZ:=CV.size
 have aw:=aw.ext CV;have hR:=hR.ext CV
 obtain rfl:=aim
 have dD:=aw.dN
 refine pU bh bA rfl rfl rfl rfl rfl ?_
 intro w59 EA VE an0
 have aw:=aw.ext EA;have hR:=hR.ext EA
 refine aC (lk l8 [bf (r+1),bf r,[48]] (mG de sm (by intro z hz;simp at hz;rcases hz with rfl|rfl|rfl;(·exact mn om);(·exact mn om);(·decide))) m3 om E L3 b _ w59 aw (aY.eF [bf (r+1),bf r,[48]] VE (λhx=>by have:=dD _ hx;omega))) ?_
 rintro jX VF ⟨L4,aw,bZ⟩
 have hR:=hR.go bZ
 clear VE
 have Cz:∃x,x=m3.da l8 [bf (r+1),bf r,[48]]:=⟨_,rfl⟩
 obtain⟨m4,oW⟩:=Cz
 rw[<-oW] at aw
 have t4:m4.types.length=r+2:=(by rw[oW,oR];omega)
 have c4:m4.code.length=c+2:=(by rw[oW,pB];omega)
 have dD:=aw.dN
 have kA:=hR.tk hT eV
 obtain⟨u1,u3,u4,u5,u6,u8,cC,ix⟩:=kA
 have cL:=eP ix.self
 obtain⟨a3,n3,c3,e3,pA⟩:=cL
 subst e3
 subst pA
 have cC:aY VF bt [str t.aP,u1,.int .i64 (t.loads:Int),.slice a3 t.self.length c3,u4,u5,u6,str t.expr.av.az,u8,.int .i64 (t.on:Int),str t.bm,.int .i64 (t.next:Int)].toArray 130:=cC
 have gh:=ou ix.self (i:=0) om
 obtain⟨b9,ov,e9,gq⟩:=gh
 cases e9
 have gh:=ou ix.self (i:=1) om
 obtain⟨Ow,Ox,gw,vS⟩:=gh
 cases gw
 rw[oB] at gq
 rw[dS] at vS
 refine ag<|zr<|zm<|zm<|dk rfl<|zf Bt rfl<|zl eS rfl (cC.at rfl)<|zi (i:=0) bh bA rfl rfl om<|zl cm rfl (gq.cells 0 _ rfl)<|aC (sj sa m4 om E L4 b true VF aw) ?_
 rintro v10 Vm ⟨gw,L5,aw,bZ⟩
 rw[t4] at gw
 subst gw
 have hR:=hR.go bZ
 have NQ:∃x,x=m4.dI sa:=⟨_,rfl⟩
 obtain⟨m5,yD⟩:=NQ
 rw[<-yD] at aw
 have t5:m5.types.length=r+3:=(by rw[yD,yc];omega)
 have c5:m5.code.length=c+2:=(by rw[yD,Ct];omega)
 have dD:=aw.dN
 have kA:=hR.tk hT eV
 obtain⟨u1,u3,u4,u5,u6,u8,cC,ix⟩:=kA
 have cL:=eP ix.self
 obtain⟨a3,n3,c3,e3,pA⟩:=cL
 subst e3
 subst pA
 have cC:aY Vm bt [str t.aP,u1,.int .i64 (t.loads:Int),.slice a3 t.self.length c3,u4,u5,u6,str t.expr.av.az,u8,.int .i64 (t.on:Int),str t.bm,.int .i64 (t.next:Int)].toArray 130:=cC
 have gh:=ou ix.self (i:=0) om
 obtain⟨b9,ov,e9,gq⟩:=gh
 cases e9
 have gh:=ou ix.self (i:=1) om
 obtain⟨Ow,Ox,gw,vS⟩:=gh
 cases gw
 rw[oB] at gq
 rw[dS] at vS
 refine zA<|ag ?_
 apply wE et 18 (rA 118 18) (rA 118 18) [[],[],[1],[],[3],[],[5],[6],[7],[8],[9],[],[11],[12],[13],[14],[15],[2,4,10,16]] [It.v _,It.v _,It.v _,It.v _,It.v _,It.v _,It.v _,It.v _,It.v _,It.v _,It.v _,It.v _,It.v _,It.v _,It.v _,It.v _,It.v _,It.p (fun(v:Value) (ww:World)=>bI L5 ww v [bf (r+2),bf (r+1),sa,sb])] de (by exact⟨λv w w' h k=>h.ext k,trivial⟩)
 intro wd aB
 refine eK ?_
 refine eK ?_
 refine vk aB (λx ss pD=>?_) ?_
 refine aC (iQ (r+2+1) (r+2) om om ss) ?_
 rintro v63 CQ ⟨Oy,th⟩
 have aip:=th.size
 obtain rfl:=Oy
 exact pk th
 refine eK ?_
 refine vk aB (λx ss pD=>?_) ?_
 refine aC (iQ (r+1+1) (r+1) om om ss) ?_
 rintro v63 CQ ⟨Oy,th⟩
 have aip:=th.size
 obtain rfl:=Oy
 exact pk th
 refine eK ?_
 refine vk aB (λx ss pD=>?_) ?_
 refine dk rfl ?_
 exact pv
 refine vc (λ_ _ _=>zf Bt rfl pv) ?_
 refine vk aB (λx ss pD=>?_) ?_
 have cC:=cC.ext pD
 refine zl eS rfl (cC.at rfl) ?_
 exact pv
 refine vk aB (λx ss pD=>?_) ?_
 refine zi (i:=0) bh bA rfl rfl om ?_
 exact pv
 refine vk aB (λx ss pD=>?_) ?_
 have gq:=gq.ext pD
 refine zl cm rfl (gq.cells 0 _ rfl) ?_
 exact pv
 refine eK ?_
 refine vk aB (λx ss pD=>?_) ?_
 refine dk rfl ?_
 exact pv
 refine vc (λ_ _ _=>zf Bt rfl pv) ?_
 refine vk aB (λx ss pD=>?_) ?_
 have cC:=cC.ext pD
 refine zl eS rfl (cC.at rfl) ?_
 exact pv
 refine vk aB (λx ss pD=>?_) ?_
 refine zi (i:=1) bh bA rfl rfl om ?_
 exact pv
 refine vk aB (λx ss pD=>?_) ?_
 have vS:=vS.ext pD
 refine zl cm rfl (vS.cells 0 _ rfl) ?_
 exact pv
 refine vk aB (λx ss pD=>?_) ?_
 have aii:=pD.size
 refine ya bh bA rfl rfl rfl rfl rfl rfl ?_
 intro CQ th aiq an1
 exact pf th ((aY.eF [bf (r+2),bf (r+1),sa,sb] aiq (λhx=>by have:=dD _ hx;omega)))
 exact trivial
 intro x air VG
 intro jX d17
 have aw:=aw.ext VG;have hR:=hR.ext VG
 change OW _ _ _ _ _ (aM (aN _ x _) (zZ 118 [_,_,_,_,_,_,_,_,_,_,_,_,_,_,_,_,_,_])) _
 refine aC (lk sJ [bf (r+2),bf (r+1),sa,sb] (mG de sm (by intro z hz;simp at hz;rcases hz with rfl|rfl|rfl|rfl;(·exact mn om);(·exact mn om);(·omega);(·omega))) m5 om E L5 b _ air aw d17) ?_
 rintro jX an2 ⟨L6,aw,bZ⟩
 have hR:=hR.go bZ
 have NR:∃x,x=m5.da sJ [bf (r+2),bf (r+1),sa,sb]:=⟨_,rfl⟩
 obtain⟨m6,yF⟩:=NR
 rw[<-yF] at aw
 have t6:m6.types.length=r+3:=(by rw[yF,oR];omega)
 have c6:m6.code.length=c+3:=(by rw[yF,pB];omega)
 have dD:=aw.dN
 refine ag ?_
 subst yF yD oW lX lW lV
 rw[<-Ov] at aw
 exact⟨_,rfl,_,aw,hR⟩
 have CU:=Ey.self
 have ja:t.self.length≠2:=(λh9=>h3 (by rw[h9];rfl))
 have CU:t.self=[]:=(by rcases CU with h9|⟨a,b,h9,_⟩;(·exact h9);(·rw[h9] at ja;exact absurd rfl ja))
 have Ov:qB m t=m0:=(by unfold qB IE;rw[<-tq,CU])
 refine bz ?_
 rw[<-Ov] at aw
 exact⟨_,rfl,_,aw,hR⟩
def ais (x0:ByteArray) (x7:ByteArray) (a8:Option Addr) (n8 c8:Nat) (x9:Int) (En:ByteArray) (w:World):(Instr.build 130 #[(0,.string x0),(7,.agg #[.string x7,.slice a8 n8 c8]),(8,.int .i64 x9),(9,.string En)]).run Tryz.prog w= .ok (.agg #[.string x0,.slice none 0 0,.int .i64 0,.slice none 0 0,.slice none 0 0,.slice none 0 0,.slice none 0 0,.string x7,.slice a8 n8 c8,.int .i64 x9,.string En,.int .i64 0]) w:=by kernel_rfl
def eR.ait {x:Nat} {E L L1:List Nat} {w w1:World} (h:eR (x::E) L w L1 w1):eR E L w L1 w1:=⟨h.fr,let⟨G,k,hG⟩:=h.out;⟨G,k,λz hz sq=>hG z hz (mK _ sq)⟩⟩
def uy:Mk:=⟨[],[],0,false,[],[]⟩
def aiu (T:Ty) {ON CO P0:aj} (hO:ON=dX (bL T)) (hC:CO=bO [99] [sT,bL T]) (hP:P0=bO [116] [CO,sT]):
  sU T=(((({uy with types:=[sT,CO,P0,ON]}).da l8 [[48]]).da sI [[49],Ad]).da l8 [[50],[49],[48]]).da sJ [[51],[50],ON,sT]:=by
 subst hP;subst hC;subst hO;rfl
set_option maxHeartbeats 8000000 in
def aiv (e:Ex) (T:Ty) (Hg:T.n<=16)
  (E L:List Nat) (b:Nat) (v:Value) (w:World) (h:ei t8 E L w b true uy) (hv:bT L w v e.av):
  ck Tryz.prog 108 [.pointer (some ⟨b,0,none⟩),v,str T.text] w λr w'=>∃v1 v3 v4 v5 v6 v8 L',r= .agg (pS (FU e T) v1 v3 v4 v5 v6 v8).toArray∧oN L' w' (FU e T) v1 v3 v4 v5 v6 v8∧ei t8 E L' w' b true (sU T)∧eR E L w L' w':=by
 obtain⟨ar,nr,cr,rfl,qh,bc⟩:=dO hv
 subst qh
 have lY:=h.dN
 obtain⟨ON,JU⟩:∃z,z=dX (bL T):=⟨_,rfl⟩
 obtain⟨CO,yR⟩:∃z,z=bO [99] [sT,bL T]:=⟨_,rfl⟩
 obtain⟨P0,sk⟩:∃z,z=bO [116] [CO,sT]:=⟨_,rfl⟩
 rw[aiu T JU yR sk]
 have aK:=pV Hg
 have hOl:ON.length<=272:=by rw[JU];exact tS Hg
 have hCl:CO.length<=300:=by rw[yR,lQ,Au];simp only[lC,lN];omega
 have Jw:P0.length<=400:=by rw[sk,lQ,Au];simp only[lC,lN];omega
 obtain⟨m0,tq⟩:∃z:Mk,z={uy with types:=[sT,CO,P0,ON]}:=⟨_,rfl⟩
 rw[<-tq]
 obtain⟨r,hr4⟩:∃r,r=4:=⟨_,rfl⟩
 obtain⟨c,eC⟩:∃c,c=0:=⟨_,rfl⟩
 have t0:m0.types.length=r:=by rw[tq,hr4];rfl
 have c0:m0.code.length=c:=by rw[tq,eC];rfl
 have aw:=h
 have hR:=eR.refl E L w
 refine lH [.cell 6 130] 45 Tryz.func108 rfl XN rfl rfl rfl ?_
 refine zr<|fG rfl ?_
 intro w1 aK aI eh
 have aw:=aw.ext aK;have hR:=hR.ext aK
 refine eD k9 rfl rfl rfl ?_
 intro w2 aq VH lI
 have aw:=aw.td aq sm (lR _) VH.lt
 have qg:=hR.more aq sm (lR _) (λz hz=>by have:=lY z (h.sub hz);omega)
 have hR:=eR.refl (w1.heap.size::E) (w1.heap.size::L) w2
 have JO:∀z,z∈w1.heap.size::L->z=w1.heap.size∨z<w.heap.size:=(λz hz=>(mC.1 hz).imp id (lY z))
 have aI:fi (w1.heap.size::L) w2 w.heap.size [str e.av.az,.slice ar e.av.au.length cr].toArray 66:=⟨aI.ext aq,λhx=>by have:=JO _ hx;omega⟩
 have VI:w1.heap.size∈w1.heap.size::E:=List.mem_cons_self ..
 refine ag<|zr<|zm<|aC (vE T om w2) ?_
 rintro v3 w3 ⟨er,aJ⟩
 have gd:=aJ.size
 have aw:=aw.ext aJ;have hR:=hR.ext aJ;have aI:=aI.ext aJ
 obtain rfl:=er
 refine aC ((show ck Tryz.prog 142 [str (bL T)] w3 (λr w'=>r=str ON∧ak [] w3 w') from by rw[JU];exact Gx (bL T) om w3)) ?_
 rintro v4 w4 ⟨eJ,aF⟩
 have gK:=aF.size
 have aw:=aw.ext aF;have hR:=hR.ext aF;have aI:=aI.ext aF
 obtain rfl:=eJ
 refine zA<|ag<|zr<|zm<|gP bh bA ?_
 intro w5 aU mz Gk
 have yP:=aw.open
 obtain⟨xb,xt,xc,xy,gb,gt,gc,gy,bj,hS⟩:=yP
 have yd:=hS.apart
 obtain⟨yw,nJ,vF,mF,vG,ug⟩:=yd
 have bj:aY w5 b [xb,xt,.int .i64 (uy.count:Int),.bool uy.wide,xc,xy].toArray 127:=bj.ext aU
 have yQ:=hS.Im mz.lr aU.any (λx hx=>.inr (by cases hx;exact lR _))
 obtain⟨L1,hS,bZ⟩:=yQ
 have hR:=hR.add bZ aU sm
 have aI:=aI.go bZ
 refine dk rfl<|zf Dc rfl<|gY (o:=4) nO rfl rfl rfl bj rfl ?_
 intro w6 bF bj dP
 have hS:=hS.aO bF sm
 have CT:=hS.mem.2 (.inr (.inl rfl))
 have hR:=hR.aL bF CT nJ;have aI:=aI.aL bF (by simpa using CT)
 have aw:ei t8 (w1.heap.size::E) L1 w6 b true uy:=⟨_,_,_,_,_,_,_,_,bj,hS⟩
 refine ag<|zr<|zm<|aC (vE T om w6) ?_
 rintro v7 w7 ⟨iV,cz⟩
 have po:=cz.size
 have aw:=aw.ext cz;have hR:=hR.ext cz;have aI:=aI.ext cz
 obtain rfl:=iV
 refine lq bh bA rfl rfl rfl rfl ?_
 intro w8 cv kl mr
 have aw:=aw.ext cv;have hR:=hR.ext cv;have aI:=aI.ext cv
 refine aC ((show ck Tryz.prog 75 [str [99],_] w8 (λr w'=>r=str CO∧ak [] w8 w') from by rw[yR];exact xP [99] [sT,bL T] (by rw[<-yR];omega) _ [] w8 (aY.eF [sT,bL T] kl sm))) ?_
 rintro v9 w9 ⟨eT,aG⟩
 have pq:=aG.size
 have aw:=aw.ext aG;have hR:=hR.ext aG;have aI:=aI.ext aG;have kl:=kl.ext aG
 obtain rfl:=eT
 clear kl
 refine zA<|ag<|zr<|zm<|zm<|zm<|lq bh bA rfl rfl rfl rfl ?_
 intro cO bV A5 Bw
 have aw:=aw.ext bV;have hR:=hR.ext bV;have aI:=aI.ext bV
 refine aC ((show ck Tryz.prog 75 [str [116],_] cO (λr w'=>r=str P0∧ak [] cO w') from by rw[sk];exact xP [116] [CO,sT] (by rw[<-sk];omega) _ [] cO (aY.eF [CO,sT] A5 sm))) ?_
 rintro v11 eY ⟨rF,cM⟩
 have CG:=cM.size
 have aw:=aw.ext cM;have hR:=hR.ext cM;have aI:=aI.ext cM;have A5:=A5.ext cM
 obtain rfl:=rF
 clear A5
 refine zm<|ya bh bA rfl rfl rfl rfl rfl rfl ?_
 intro gj dG Cv agh
 have yP:=aw.open
 obtain⟨xb,xt,xc,xy,gb,gt,gc,gy,bj,hS⟩:=yP
 have yd:=hS.apart
 obtain⟨yw,nJ,vF,mF,vG,ug⟩:=yd
 have bj:aY gj b [xb,xt,.int .i64 (uy.count:Int),.bool uy.wide,xc,xy].toArray 127:=bj.ext dG
 have yQ:=hS.LQ (aY.wg [sT,CO,P0,ON] Cv) dG.any (λx hx=>.inr (by cases hx;exact lR _))
 obtain⟨L2,hS,bZ⟩:=yQ
 have hR:=hR.add bZ dG sm
 have aI:=aI.go bZ
 refine dk rfl<|zf zw rfl<|gY (o:=5) nO rfl rfl rfl bj rfl ?_
 intro jF fM bj dP
 have hS:=hS.aO fM sm
 have CT:=hS.mem.2 (.inr (.inl rfl))
 have hR:=hR.aL fM CT nJ;have aI:=aI.aL fM (by simpa using CT)
 have aw:ei t8 (w1.heap.size::E) L2 jF b true {uy with types:=[sT,CO,P0,ON]}:=⟨_,_,_,_,_,_,_,_,bj,hS⟩
 rw[<-tq] at aw
 have dD:=aw.dN
 refine ag<|zr<|zm<|gH bh bA rfl rfl ?_
 intro jg dM AV Cq
 have aw:=aw.ext dM;have hR:=hR.ext dM;have aI:=aI.ext dM
 refine aC (lk l8 [[48]] (mG de sm (by intro z hz;simp at hz;subst hz;decide)) m0 om (w1.heap.size::E) L2 b _ jg aw (aY.eF [[48]] AV (λhx=>by have:=dD _ hx;omega))) ?_
 rintro jX qe ⟨L1,aw,bZ⟩
 have hR:=hR.go bZ
 clear AV
 have iM:∃x,x=m0.da l8 [[48]]:=⟨_,rfl⟩
 obtain⟨m1,lV⟩:=iM
 rw[<-lV] at aw
 have t1:m1.types.length=r+0:=(by rw[lV,oR];omega)
 have c1:m1.code.length=c+1:=(by rw[lV,pB];omega)
 have dD:=aw.dN
 have aI:=aI.go bZ.fr
 refine ag<|zr<|zm<|lq bh bA rfl rfl rfl rfl ?_
 intro lU kZ IU Gb
 have aw:=aw.ext kZ;have hR:=hR.ext kZ;have aI:=aI.ext kZ
 refine aC (lk sI [[49],Ad] (mG de sm (by intro z hz;simp at hz;rcases hz with rfl|rfl;(·decide);(·decide))) m1 om (w1.heap.size::E) L1 b _ lU aw (aY.eF [[49],Ad] IU (λhx=>by have:=dD _ hx;omega))) ?_
 rintro jX vI ⟨L2,aw,bZ⟩
 have hR:=hR.go bZ
 clear IU
 have fH:∃x,x=m1.da sI [[49],Ad]:=⟨_,rfl⟩
 obtain⟨m2,lW⟩:=fH
 rw[<-lW] at aw
 have t2:m2.types.length=r+0:=(by rw[lW,oR];omega)
 have c2:m2.code.length=c+2:=(by rw[lW,pB];omega)
 have dD:=aw.dN
 have aI:=aI.go bZ.fr
 refine ag<|zr<|zm<|pU bh bA rfl rfl rfl rfl rfl ?_
 intro xg uk vJ Nl
 have aw:=aw.ext uk;have hR:=hR.ext uk;have aI:=aI.ext uk
 refine aC (lk l8 [[50],[49],[48]] (mG de sm (by intro z hz;simp at hz;rcases hz with rfl|rfl|rfl;(·decide);(·decide);(·decide))) m2 om (w1.heap.size::E) L2 b _ xg aw (aY.eF [[50],[49],[48]] vJ (λhx=>by have:=dD _ hx;omega))) ?_
 rintro jX CA ⟨L3,aw,bZ⟩
 have hR:=hR.go bZ
 clear vJ
 have yC:∃x,x=m2.da l8 [[50],[49],[48]]:=⟨_,rfl⟩
 obtain⟨m3,lX⟩:=yC
 rw[<-lX] at aw
 have t3:m3.types.length=r+0:=(by rw[lX,oR];omega)
 have c3:m3.code.length=c+3:=(by rw[lX,pB];omega)
 have dD:=aw.dN
 have aI:=aI.go bZ.fr
 refine ag<|zr<|zm<|zm<|ya bh bA rfl rfl rfl rfl rfl rfl ?_
 intro vL ux Oz Ui
 have aw:=aw.ext ux;have hR:=hR.ext ux;have aI:=aI.ext ux
 refine aC (lk sJ [[51],[50],ON,sT] (mG de sm (by intro z hz;simp at hz;rcases hz with rfl|rfl|rfl|rfl;(·decide);(·decide);(·omega);(·decide))) m3 om (w1.heap.size::E) L3 b _ vL aw (aY.eF [[51],[50],ON,sT] Oz (λhx=>by have:=dD _ hx;omega))) ?_
 rintro jX rC ⟨L4,aw,bZ⟩
 have hR:=hR.go bZ
 clear Oz
 have Cz:∃x,x=m3.da sJ [[51],[50],ON,sT]:=⟨_,rfl⟩
 obtain⟨m4,oW⟩:=Cz
 rw[<-oW] at aw
 have t4:m4.types.length=r+0:=(by rw[oW,oR];omega)
 have c4:m4.code.length=c+4:=(by rw[oW,pB];omega)
 have dD:=aw.dN
 have aI:=aI.go bZ.fr
 have kT:=hR.jx VH VI
 refine ag<|zr<|zL bU aH rfl aI.all rfl<|zm<|j7 (ais _ _ _ _ _ _ _ _) rfl rfl<|dw (vs:=[str BQ,.slice none 0 0,.int .i64 0,.slice none 0 0,.slice none 0 0,.slice none 0 0,.slice none 0 0,str e.av.az,.slice ar e.av.au.length cr,.int .i64 3,str ON,.int .i64 0]) k9 rfl rfl rfl kT rfl ?_
 intro El Em kT dP
 have hL6:=aw.sub VI
 have aw:=aw.aO Em sm
 have vR:=aw.drop
 obtain⟨L6,Oh,aw⟩:=vR
 have h6n:w1.heap.size∉E:=(λhx=>by have:=lY _ (h.sub hx);omega)
 have VJ:=((qg.go hR.ait).aL Em hL6 h6n).sub (L2:=L6) (λz hz=>by rw[Oh];simp[hz])
 have aiz:=fI.go bc VJ.fr
 refine ag<|aV ?_
 subst oW lX lW lV
 exact⟨[_],gQ Db k9 rfl kT rfl,_,_,_,_,_,_,L6,by unfold FU;rw[<-JU];rfl,⟨.nil _ _ _,.nil _ _ _,.nil _ _ _,.nil _ _ _,.nil _ _ _,aiz⟩,aw,VJ⟩
def eE.aiA {L:List Nat} {w:World} {T:TypeId} {sz b n c i:Nat} {g:Option Nat} {rows:List (List C)} {row:List C} (h:eE L w T sz (.slice (some ⟨b,0,none⟩) n c) g rows) (hi:rows[i]?=some row):∃vs,vs.length=sz∧iS w b (0+i*sz) vs∧dR L w vs row:=by
 obtain⟨xs,ey,jo⟩:=h.own
 have oH:row.length=sz:=h.row row (List.mem_of_getElem? hi)
 have mJ:i<rows.length:=(List.getElem?_eq_some_iff.1 hi).1
 rcases ey.2 with⟨h0,_⟩|⟨b',cap,cur,e,hv,hb,nM,mL,cL,ht⟩
 ·cases h0
 ·cases hv
  have hlen:xs.length=rows.length*sz:=ey.1
  have hmul:(i+1)*sz<=rows.length*sz:=Nat.mul_le_mul_right _ om
  have vX:(i+1)*sz=i*sz+sz:=by rw[Nat.add_mul,Nat.one_mul]
  have hl:((xs.drop (i*sz)).take sz).length=sz:=by rw[List.length_take,List.length_drop];omega
  have jH:∀j v,((xs.drop (i*sz)).take sz)[j]?=some v->j<sz∧xs[i*sz+j]?=some v:=λj v hv=>by
   rw[List.getElem?_take] at hv
   split at hv
   ·rename_i hj
    rw[List.getElem?_drop] at hv
    exact⟨hj,hv⟩
   ·cases hv
  refine⟨(xs.drop (i*sz)).take sz,hl,λj v hv=>?_,dR.of (by rw[hl,oH]) λj v c hv hc=>?_⟩
  ·obtain⟨_,hx⟩:=jH j v hv
   rw[Nat.zero_add,hb.cell]
   rw[<-ht,List.getElem?_take] at hx
   split at hx
   ·simpa using hx
   ·cases hx
  ·obtain⟨_,hx⟩:=jH j v hv
   exact jo.get hx (EH h.row hi hc)
def ei.start {w:World} {b gb gt:Nat} (hb:aY w b [.slice (some ⟨gb,0,none⟩) 0 0,.slice (some ⟨gt,0,none⟩) 0 0,.int .i64 0,.bool false,.slice none 0 0,.slice none 0 0].toArray 127) (h1:aY w gb #[] 29) (h2:aY w gt #[] 130) (h3:gb<gt) (h4:gt<b):ei t8 [] [b,gb,gt] w b true uy:=by
 refine⟨_,_,_,_,some gb,some gt,none,none,hb,⟨LX h1,LX h2,.inl ⟨rfl,⟨by simp[uy],.inl ⟨rfl,rfl,rfl⟩⟩⟩,⟨by simp[uy],.inl ⟨rfl,rfl,rfl⟩⟩,rfl,?_,λx hx=>?_⟩⟩
 ·simp;omega
 ·have:=hb.lt
  simp at hx;rcases hx with rfl|rfl|rfl<;>omega
def aiB {ts:List Tk} {i:Nat} (hi:i<ts.length):(ts.map Tk.enc)[i]?=some (iv ts i).enc:=by
 rw[List.getElem?_map,gE hi];simp[iv,gE hi]
def aiC {e:Ex} {T:Ty} (bD:e.ok) (ht:bM e []=some T) (hn:e.n<=120):(r5 e T).blocks=[]∧(r5 e T).code.length<10000:=by
 obtain⟨new,h⟩:=SW bD ht hn
 have h4:=h.ext.code
 have h6:(sU T).code.length=4:=rfl
 exact⟨h.ext.blocks,om⟩
def aiD {m:Mk} {i:Nat} (h:r6 m i) (hi:i<m.bX.length):(mx (iv m.bX i).expr.n ⟨qB m (iv m.bX i),(iv m.bX i).sc,(iv m.bX i).on,(iv m.bX i).bm⟩ (iv m.bX i).expr).blocks.length<100000∧(qB m (iv m.bX i)).code.length<=1100∧(qB m (iv m.bX i)).bX.length<80000∧(iv m.bX i).expr.n<=120∧i<999∧oQ (iv m.bX i)∧oc (qB m (iv m.bX i)) (iv m.bX i).sc (iv m.bX i).on (iv m.bX i).bm (iv m.bX i).expr∧(iv m.bX i).regs.length<10000:=by
 obtain⟨hT,hc,hl⟩:=h.task hi
 have hb:=Mw (m:=m) hT
 have hA:=SS hT hc
 obtain⟨new,hF⟩:=IG _ hA (lR _)
 have e4:=hF.ext.blocks
 have h1:=hb.code
 have h2:=hT.room
 have h3:=hT.bud
 have h5:=h.bnum
 have h6:(if(iv m.bX i).self=[] then 0 else 3)<=3:=by split<;>omega
 refine⟨by rw[e4,hb.blocks];omega,om,by rw[hb.bX];omega,om,om,hT,hA,om⟩
set_option maxHeartbeats 8000000 in
def aiE (e:Ex) (T:Ty) (bD:e.ok) (ht:bM e []=some T) (hn:e.n<=120) (v:Value) (w:World) (hv:bT [] w v e.av):
  ck Tryz.prog 82 [v,str T.text] w λr w'=>(∃vb,r= .tuple #[vb,.bool (!(ofM e T).wide)]∧ko [] w' vb (ofM e T).blocks)∧ak [] w w':=by
 obtain⟨ar,nr,cr,rfl,qh,bc⟩:=dO hv
 subst qh
 have Hg:=l7 (Γ:=[]) (λs T h=>by simp[look] at h) ht
 have dC:bT [] w _ e.av:=hv
 have hK:=ak.refl [] w
 obtain⟨VK,an4⟩:=aiC bD ht hn
 refine cX [.tmp 4,.tmp 5] 67 Tryz.func82 rfl ZC rfl rfl ?_
 refine zr<|fG rfl ?_
 intro w1 aK aZ eh
 have hK:=hK.ext aK
 refine zA<|zA<|ag<|zr<|gP iO gT ?_
 intro w2 aq oC eO
 have hK:=hK.ext aq;have aZ:=aZ.ext aq
 refine gP xH k9 ?_
 intro w3 aJ iE iJ
 have hK:=hK.ext aJ;have aZ:=aZ.ext aJ;have oC:=oC.ext aJ
 refine j7 (ZT _ _ _ _ _ _ _) rfl rfl<|fG rfl ?_
 intro w4 aF mz iU
 have hK:=hK.ext aF;have aZ:=aZ.ext aF;have oC:=oC.ext aF;have iE:=iE.ext aF
 refine zA<|ag<|zr<|zm<|zL bU aH rfl aZ.all rfl<|zm<|aC (aiv e T Hg [] [w3.heap.size,w1.heap.size,w2.heap.size] w3.heap.size _ w4 (ei.start mz oC iE om om) ((dC.fresh (L':=[w3.heap.size,w1.heap.size,w2.heap.size]) (λx hx=>by right;simp at hx;rcases hx with rfl|rfl|rfl<;>omega)).ext hK)) ?_
 rintro jX w5 ⟨v1,v3,v4,v5,v6,v8,L1,sh,ix,aw,bZ⟩
 subst sh
 have hF:=bZ.fr
 have yH:=hK
 have uq:=aw.dN
 clear oC iE mz
 refine eD k9 rfl rfl rfl ?_
 intro w6 bF cI qm
 have du:=bF
 refine dw k9 rfl rfl ix.one cI rfl ?_
 intro w7 cz cI dP
 have du:=du.since cz (λx hx=>.inr (by simp at hx;omega))
 have aw:=aw.td du sm (lR _) cI.lt
 have xo:=((eR.refl [] L1 w5).more du sm (lR _) sm).fr
 have gA:iu (w5.heap.size::L1) w7 130 w5.heap.size (FU e T):=⟨_,_,_,_,_,_,cI,ix.go xo⟩
 have hF:=hF.go xo
 refine ag<|zr<|zm<|aC (Vt (FU e T) (sU T) (SV bD ht hn) hn (show(sU T).code.length<=1100 from by show 4<=1100;omega) (show(0:Nat)<80000 from om) [w5.heap.size] (w5.heap.size::L1) w3.heap.size w5.heap.size w7 aw gA sm) ?_
 rintro Gw w8 ⟨L2,aw,_,tP⟩
 have hF:=hF.go tP
 have aw:ei t8 [w5.heap.size] L2 w8 w3.heap.size true (r5 e T):=aw
 have CI:=aw.dN
 refine ag<|zr<|zm<|gP bh bA ?_
 intro w9 aG vq dP
 have aw:=aw.ext aG;have hF:=hF.ext aG
 refine aC (NB BQ [] sm (r5 e T) (by rw[VK];simp) [w5.heap.size] L2 w3.heap.size _ w9 aw (vq.lr.rep (λx hx mM=>by have:=CI x mM;simp at hx;omega))) ?_
 rintro GK cO ⟨L3,aw,bZ⟩
 have hF:=hF.go bZ.fr
 clear vq
 refine ag<|zr<|zm<|gH bh bA rfl rfl ?_
 intro eY cM Cr agv
 have yP:=aw.open
 obtain⟨xb,xt,xc,xy,gb,gt,gc,gy,bj,hS⟩:=yP
 have yd:=hS.apart
 obtain⟨yw,nJ,vF,mF,vG,ug⟩:=yd
 have bj:=bj.ext cM
 have yQ:=hS.Im (aY.wg [[40,104,97,108,116,32,49,41]] Cr) cM.any (λx hx=>.inr (by cases hx;exact lR _))
 obtain⟨L4,hS,bZ⟩:=yQ
 have hF:=hF.go bZ
 refine dk rfl<|zf Dc rfl<|gY (o:=4) nO rfl rfl rfl bj rfl ?_
 intro gj dG bj dP
 have hS:=hS.aO dG sm
 have hF:=hF.aL dG (by simpa using hS.mem.2 (.inr (.inl rfl)))
 have aw:ei t8 [w5.heap.size] L4 gj w3.heap.size true {(BZ (r5 e T) BQ []) with code:=[[40,104,97,108,116,32,49,41]]}:=⟨_,_,_,_,_,_,_,_,bj,hS⟩
 refine ag<|zr<|zm<|zm<|aC (vE T om gj) ?_
 rintro wR jF ⟨vH,fM⟩
 have Gz:=fM.size
 have aw:=aw.ext fM;have hF:=hF.ext fM
 obtain rfl:=vH
 have aiF:=aw.dN
 refine lq bh bA rfl rfl rfl rfl ?_
 intro jg dM AV Cq
 have aw:=aw.ext dM;have hF:=hF.ext dM
 refine aC (NB Ad [sT,bL T] sm {(BZ (r5 e T) BQ []) with code:=[[40,104,97,108,116,32,49,41]]} (show((r5 e T).blocks++[_]).length<100000 from by rw[VK];simp) [w5.heap.size] L4 w3.heap.size _ jg aw (aY.eF [sT,bL T] AV (λhx=>by have:=aiF _ hx;omega))) ?_
 rintro v31 qe ⟨L5,aw,bZ⟩
 have hF:=hF.go bZ.fr
 have aw:ei t8 [w5.heap.size] L5 qe w3.heap.size false (B0 e T):=aw
 clear AV
 refine ag<|aQ<|zr<|zA<|ag<|cS ?_
 refine fY (λi:Nat=>[(6,.pointer (some ⟨w3.heap.size,0,none⟩)),(8,.int .i64 (i:Int))]) (λi ww=>∃m9 L9,ei t8 [w5.heap.size] L9 ww w3.heap.size false m9∧r6 m9 i∧ofM e T=yg (1000-i) m9 i∧Fr [w3.heap.size,w1.heap.size,w2.heap.size] w4 L9 ww∧i<=1000) (λi=>1000-i) (0) (⟨rfl,rfl⟩) (⟨B0 e T,L5,aw,My bD ht hn,rfl,hF,om⟩) ?_
 intro gg lU AW hI
 obtain⟨m9,L9,aw,VL,GV,hF,hi⟩:=hI
 have yP:=aw.open
 obtain⟨xb,xt,xc,xy,gb,gt,gc,gy,bj,hS⟩:=yP
 have gx:=hS.ta.len
 obtain⟨at9,ct9,et9⟩:=gx
 subst et9
 have bj:aY lU w3.heap.size [xb,.slice at9 (m9.bX.map Tk.enc).length ct9,.int .i64 (m9.count:Int),.bool m9.wide,xc,xy].toArray 127:=bj
 have C8:(m9.bX.map Tk.enc).length=m9.bX.length:=List.length_map ..
 refine aQ<|zr<|zm<|zm<|dk rfl<|zf zv rfl<|zl E4 rfl (bj.at rfl)<|dZ xH rfl<|fA rfl rfl rfl<|ag<|zc rfl (λh1=>?_) (λh1=>?_)
 have lj:gg<m9.bX.length:=om
 have qZ:=aiD VL lj
 obtain⟨dS,eH,gd,gK,pJ,VM,Ef,oS⟩:=qZ
 have Ed:=hS.ta.form om
 obtain⟨bq,cq,eq9,eg9⟩:=Ed
 cases eq9
 have DG:=hS.ta.aiA (aiB lj)
 obtain⟨vs9,aiJ,VN,aiK⟩:=DG
 have OA:=ack aiK
 obtain⟨y1,y3,y4,y5,y6,y8,evs,ix⟩:=OA
 subst evs
 have pX:∃z,z=iv m9.bX gg:=⟨_,rfl⟩
 obtain⟨tz,OB⟩:=pX
 rw[<-OB] at dS eH gd gK VM Ef oS ix VN aiJ
 have ml:=aw
 have GO:=hF
 have Nj:=aw.dN
 have hw9:=ak.refl [] lU
 refine bz<|aQ<|cS<|zr<|zm<|dk rfl<|zf zv rfl<|zl E4 rfl (bj.at rfl)<|zm<|zi xH k9 rfl rfl om<|zL Db k9 rfl VN rfl<|eD k9 rfl rfl rfl ?_
 intro vI qf cV an8
 have du:=qf
 refine dw k9 rfl rfl ix.one cV rfl ?_
 intro xg uk cV dP
 have du:=du.since uk (λx hx=>.inr (by simp at hx;omega))
 have aw:=ml.td du sm (lR _) cV.lt
 have xo:=((eR.refl [] L9 lU).more du sm (lR _) sm).fr
 have gA:iu (lU.heap.size::L9) xg 130 lU.heap.size tz:=⟨_,_,_,_,_,_,cV,ix.go xo⟩
 have hF:=GO.go xo
 refine ag<|zr<|zm<|aC (ah6 tz m9 VM false [lU.heap.size,w5.heap.size] (lU.heap.size::L9) w3.heap.size lU.heap.size xg aw gA sm) ?_
 rintro v49 CA ⟨L6,aw,bZ⟩
 have gA:=bZ.tk gA sm
 have hF:=hF.go bZ.fr
 refine ag<|zr<|zm<|aC (Vt tz (qB m9 tz) Ef gK eH gd [lU.heap.size,w5.heap.size] L6 w3.heap.size lU.heap.size CA aw gA sm) ?_
 rintro v51 vL ⟨L7,aw,⟨t',gA,fj,hr9⟩,tP⟩
 have hF:=hF.go tP
 have kA:=gA
 obtain⟨u1,u3,u4,u5,u6,u8,cC,CJ⟩:=kA
 have CX:=CJ.regs
 have cL:=eP CJ.regs
 obtain⟨a1,n1,c1,e1,fU⟩:=cL
 subst e1
 have CX:=CJ.regs
 rw[hr9] at CX
 have cC:aY vL lU.heap.size [str t'.aP,.slice a1 n1 c1,.int .i64 (t'.loads:Int),u3,u4,u5,u6,str t'.expr.av.az,u8,.int .i64 (t'.on:Int),str t'.bm,.int .i64 (t'.next:Int)].toArray 130:=cC
 rw[fj] at cC
 refine ag<|df<|zm<|zf KF rfl<|zl cm rfl (cC.at rfl)<|zf Dd rfl<|zl eS rfl (cC.at rfl)<|aC (NB tz.aP tz.regs oS (mx tz.expr.n ⟨qB m9 tz,tz.sc,tz.on,tz.bm⟩ tz.expr) dS [lU.heap.size,w5.heap.size] L7 w3.heap.size _ vL aw CX) ?_
 rintro N7 rC ⟨L8,aw,bZ⟩
 have hF:=hF.go bZ.fr
 have vR:=aw.drop
 obtain⟨Lx,eLx,aw⟩:=vR
 have hF:=hF.go ((Fr.refl L8 rC).to (L2:=Lx) (λz hz=>.inl (by rw[eLx];simp[hz])))
 have aw:ei t8 [w5.heap.size] Lx rC w3.heap.size false (DP m9 tz):=aw
 have bg:=VL.step lj
 rw[<-OB] at bg
 have VO:=SZ lj (999-gg)
 rw[<-OB,show 999-gg+1=1000-gg from by omega,show 999-gg=1000-(gg+1) from by omega] at VO
 refine ag<|df<|zm<|eI rfl rfl rfl (wrap_i64 _ om om)<|zA<|ag ?_
 exact⟨gg+1,⟨rfl,rfl⟩,⟨DP m9 tz,Lx,aw,bg,GV.trans VO,hF,om⟩,om⟩
 have lj:¬gg<m9.bX.length:=om
 rw[SY lj] at GV
 have OC:cF [] lU xb (.sl 3 (m9.blocks.map Bk.enc)):=hS.bl.rep (λx hx=>.inl (hS.mem.2 (by simp at hx;simp[hx]))) sm
 refine gD<|gF rfl<|aQ ?_
 apply mv et 11 (rA 58 9++[4,5]) (rA 58 9++[4,5]) [[],[0],[1],[2],[],[4],[5],[6],[7],[3],[8]] [It.v _,It.v _,It.v _,It.v _,It.v _,It.v _,It.v _,It.v _,It.v _,It.v _,It.v _] de rfl
 intro wd aB
 refine eK ?_
 refine vk aB (λx vI qf=>?_) ?_
 refine dk rfl ?_
 exact pv
 refine vc (λ_ _ _=>zf KD rfl pv) ?_
 refine vk aB (λx vI qf=>?_) ?_
 have bj:=bj.ext qf
 refine zl PY rfl (bj.at rfl) ?_
 exact pv
 refine eK ?_
 refine vk aB (λx vI qf=>?_) ?_
 refine dk rfl ?_
 exact pv
 refine vc (λ_ _ _=>zf PT rfl pv) ?_
 refine vk aB (λx vI qf=>?_) ?_
 have bj:=bj.ext qf
 refine zl Dg rfl (bj.at rfl) ?_
 exact pv
 refine vc (λ_ _ _=>eM rfl pv) ?_
 refine vc (λ_ _ _=>zA pv) ?_
 refine vc (λ_ _ _=>zA pv) ?_
 exact trivial
 intro x ow k7
 have hF:=hF.ext k7;have OC:=OC.ext k7
 change OW _ _ _ _ [] (aM (aN _ x _) (zZ 58 [_,_,_,_,_,_,_,_,_]++[(4,_),(5,_)])) _
 refine ag<|aV ?_
 rw[GV]
 exact⟨_,rfl,⟨xb,rfl,OC⟩,yH.since hF.aO (λx hx=>.inr (by simp at hx;rcases hx with rfl|rfl|rfl<;>omega))⟩
def OD:∀(k:Nat) {m:Mk} {i:Nat},r6 m i->∃j,r6 (yg k m i) j
 |0,_,i,h=>⟨i,h⟩
 |k+1,m,i,h=>by
  by_cases hi:i<m.bX.length
  ·rw[SZ hi];exact OD k (h.step hi)
  ·rw[SY hi];exact⟨i,h⟩
def aiM {e:Ex} {T:Ty} (bD:e.ok) (ht:bM e []=some T) (hn:e.n<=120):BE (ofM e T).blocks:=by
 obtain⟨j,hj⟩:=OD 1000 (My bD ht hn)
 exact hj.small
def CY (s:aj) (f:Ex) (T:Ty):Prop:=∃e:Ex,ba s=some e.av∧e.ok∧e.n<=120∧nX e=some f∧my f.av.text=true∧bM e []=some T
def EB (s:aj) (ok:Bool) (bs:List Bk):Prop:=(ok=true->∃f T,CY s f T∧(ofM f T).wide=false∧jN (ofM f T).blocks=true∧bs=(ofM f T).blocks)∧(ok=false->bs=[]∧∀f T,CY s f T->¬((ofM f T).wide=false∧jN (ofM f T).blocks=true))
def VP {f:Ex} (bD:f.ok) (hx:my f.av.text=true):ba f.av.text=some f.av∧f.n<=120:=by
 obtain⟨e2,h1,h2,h3⟩:=wK.1 hx
 have h4:=(BI h1).2.2.1
 have h5:=Lb (Ex.wf h2) (Ex.wf bD) h4
 have h6:=qE h2 bD h5
 subst h6
 exact⟨h1,h3⟩
def aiN {s:aj} {f:Ex} {T:Ty} (h:CY s f T):f.ok∧bM f []=some T∧f.n<=120∧ba f.av.text=some f.av:=by
 obtain⟨e,h1,h2,h3,h4,h5,h6⟩:=h
 have h7:=LN h2 h4
 obtain⟨h8,h9⟩:=VP h7 h5
 exact⟨h7,RQ h2 h6 h4,h9,h8⟩
def JV {s:aj} {f f':Ex} {T T':Ty} (h:CY s f T) (h':CY s f' T'):f=f'∧T=T':=by
 obtain⟨e,h1,h2,h3,h4,h5,h6⟩:=h
 obtain⟨e',k1,k2,k3,k4,k5,k6⟩:=h'
 have he:=qE h2 k2 (Option.some.inj (h1.symm.trans k1))
 subst he
 rw[h4] at k4
 rw[h6] at k6
 exact⟨Option.some.inj k4,Option.some.inj k6⟩
def aiO:CY JC qN .i:=⟨qN,UP,NU,by decide,agD,by
 rw[UO];exact wK.2 ⟨qN,UP,NU,by decide⟩,type12⟩
def aiP {ok:Bool} {bs:List Bk} (h:EB JC ok bs):ok=true:=by
 cases ok with
 |true=>rfl
 |false=>exact absurd ⟨agE,agF⟩ ((h.2 rfl).2 _ _ aiO)
def EB.aP {s:aj} {ok:Bool} {bs:List Bk} (h:EB s ok bs):∀b,b∈bs->b.aP.length<=10:=by
 cases ok with
 |true=>
  obtain⟨f,T,h1,_,_,rfl⟩:=h.1 rfl
  obtain⟨h2,h3,h4,_⟩:=aiN h1
  obtain⟨j,hj⟩:=OD 1000 (My h2 h3 h4)
  exact hj.labels
 |false=>rw[(h.2 rfl).1];intro b hb;cases hb
def EB.prog {s:aj} {bs:List Bk} (h:EB s true bs):jN bs=true:=by
 obtain⟨f,T,_,_,h3,rfl⟩:=h.1 rfl
 exact h3
def VQ (s:aj) (w:World):ck Tryz.prog 49 [str s] w λr w'=>(∃v ok bs,r= .tuple #[v,.bool ok]∧ko [] w' v bs∧EB s ok bs)∧ak [] w w':=by
 have hK:=ak.refl [] w
 refine cX [.tmp 2,.tmp 3] 44 Tryz.func49 rfl Zd rfl rfl ?_
 refine zr<|zA<|zA<|ag<|zr<|zm<|aC (ae2 s w) ?_
 rintro v1 w1 ⟨fO,aK⟩
 have dS:=aK.size
 have hK:=hK.ext aK
 have eT:=fO
 obtain⟨x0,VR,e0,zg,hx0⟩:=eT
 subst e0
 refine zm<|zx (i:=0) rfl rfl<|zx (i:=1) rfl rfl<|zA<|zA<|ag<|aQ<|zr<|zm<|eM rfl<|zm<|xw (t:=17) rfl (λh1=>?_) (λh1=>?_)
 replace h1:=bw h1
 have gN:VR=false:=by simpa using h1
 refine zs<|zs<|zs<|zp rfl<|ag<|zc rfl (λh2=>?_) (λh2=>?_)
 refine zr<|gP iO gT ?_
 intro w2 aq tZ eO
 have hK:=hK.ext aq
 refine zA<|zA<|ag<|aV ?_
 exact⟨_,rfl,⟨_,false,[],rfl,cF.nil _ _ _,⟨λh=>by(cases h),λ_=>⟨rfl,λf T ⟨e,h1,h2,h3,h4,h5,h6⟩=>by rw[zg.2 ⟨e,f,h1,h2,h3,h4,h5⟩] at gN;cases gN⟩⟩⟩,hK⟩
 simp at h2
 replace h1:=bw h1
 have gN:VR=true:=(by simpa using h1)
 have hex:=zg.1 gN
 obtain⟨e,f,yr,bD,hn,hf,fH⟩:=hex
 have hxe:=hx0 e f yr bD hf gN
 subst hxe
 have AQ:=LN bD hf
 have MQ:=VP AQ fH
 obtain⟨sy,Ns⟩:=MQ
 have oy:Co s (fm (bM e [])):=⟨λh=>(by rw[wK.2 ⟨e,yr,bD,hn⟩] at h;cases h),λe' h1 h2 h3=>by rw[qE h2 bD (Option.some.inj (h1.symm.trans yr))]⟩
 refine zm<|aC (afM s w1) ?_
 rintro v2 w2 ⟨dC,aq⟩
 have eH:=aq.size
 have hK:=hK.ext aq
 have eT:=dC
 obtain⟨b9,e9,cV⟩:=eT
 subst e9
 have cV:=cV _ oy
 refine eM rfl<|zp rfl<|ag<|zc rfl (λh3=>?_) (λh3=>?_)
 have fE:bM e []=none:=Uo (by have jU:b9=false:=(by simpa using h3);rw[jU] at cV;simpa using cV.symm)
 refine zr<|gP iO gT ?_
 intro w3 aJ tZ iJ
 have hK:=hK.ext aJ
 refine zA<|zA<|ag<|aV ?_
 exact⟨_,rfl,⟨_,false,[],rfl,cF.nil _ _ _,⟨λh=>by(cases h),λ_=>⟨rfl,λf' T ⟨e',h1,h2,h3,h4,h5,h6⟩=>by rw[qE h2 bD (Option.some.inj (h1.symm.trans yr)),fE] at h6;cases h6⟩⟩⟩,hK⟩
 have fE:=Up (o:=bM e []) (by have jU:b9=true:=(by simpa using h3);rw[jU] at cV;simpa using cV.symm)
 obtain⟨T,fE⟩:=fE
 rw[fE] at oy
 have oy:Co s T.text:=oy
 have Nt:=RQ bD fE hf
 have lv:CY s f T:=⟨e,yr,bD,hn,hf,fH,fE⟩
 refine bz<|zr<|zm<|aC (F0 f.av.text [] w2 sm) ?_
 rintro v3 w3 ⟨er,aJ⟩
 have gd:=aJ.size
 have hK:=hK.ext aJ
 have eT:=er
 obtain⟨t,tv,e9,pX,hp⟩:=eT
 subst e9
 have e2:=hp.1 _ sy
 subst e2
 have cL:=dO pX
 obtain⟨pa,pn,pc,e9,fR,bc⟩:=cL
 subst e9
 subst fR
 have nz:=hK.size
 refine zm<|zx (i:=0) rfl rfl<|zx (i:=1) rfl rfl<|eD aH rfl rfl rfl ?_
 intro w4 aF bQ lI
 have hK:=hK.ext aF
 have du:=aF
 refine dw (vs:=[str f.av.az,.slice pa f.av.au.length pc]) aH rfl rfl rfl bQ rfl ?_
 intro w5 aU bQ dP
 have hK:=hK.since aU (λx hx=>.inr (by simp at hx;omega))
 have du:=du.since aU (λx hx=>.inr (by simp at hx;omega))
 have pX:=pX.ext du
 refine zA<|ag<|aQ ?_
 apply wE et 9 (rA 29 4++[28,33,34,8,9]) (rA 29 4++[28,33,34,8,9]) [[],[],[1],[0,2],[3],[4],[4],[5],[6]] [It.v _,It.v _,It.v _,It.p (fun(v:Value) (ww:World)=>∃vb,v= .tuple #[vb,.bool (!(ofM f T).wide)]∧ko [] ww vb (ofM f T).blocks),It.p (fun(v:Value) (ww:World)=>∃vb,v= .tuple #[vb,.bool (!(ofM f T).wide)]∧ko [] ww vb (ofM f T).blocks),It.p (fun(v:Value) (ww:World)=>ko [] ww v (ofM f T).blocks),It.v _,It.p (fun(v:Value) (ww:World)=>ko [] ww v (ofM f T).blocks),It.v _] de (by exact⟨λv w w' ⟨vb,h1,h2⟩ k=>⟨vb,h1,cF.ext h2 k⟩,λv w w' ⟨vb,h1,h2⟩ k=>⟨vb,h1,cF.ext h2 k⟩,λv w w' h k=>cF.ext h k,λv w w' h k=>cF.ext h k,trivial⟩)
 intro wd aB
 refine vk aB (λx w6 bF=>?_) ?_
 have bQ:=bQ.ext bF
 refine zL bU aH rfl bQ.all rfl ?_
 exact pv
 refine eK ?_
 refine vk aB (λx w6 bF=>?_) ?_
 refine aC (Uu s w6) ?_
 rintro v7 w7 ⟨iV,cz⟩
 have po:=cz.size
 have eT:=iV
 obtain⟨x9,e9,gq⟩:=eT
 have gq:=Ut gq oy
 subst gq
 subst e9
 exact pk cz
 refine vk aB (λx w6 bF=>?_) ?_
 have pX:=pX.ext bF
 refine aC (aiE f T AQ Nt Ns _ w6 pX) ?_
 rintro v7 w7 ⟨iV,cz⟩
 have po:=cz.size
 have eT:=iV
 exact pf cz eT
 refine vc (λx w6 bF=>?_) ?_
 intro v3 d3
 refine zm ?_
 exact pf (ak.refl _ _) d3
 refine vc (λx w6 bF=>?_) ?_
 intro v4 d4
 obtain⟨Vj,e9,Of⟩:=d4
 subst e9
 refine zx (i:=0) rfl rfl ?_
 exact pf (ak.refl _ _) Of
 refine vc (λx w6 bF=>?_) ?_
 intro v4 d4
 obtain⟨Vj,e9,Of⟩:=d4
 subst e9
 refine zx (i:=1) rfl rfl ?_
 exact pv
 refine vc (λx w6 bF=>?_) ?_
 intro v5 d5
 refine zA ?_
 exact pf (ak.refl _ _) d5
 refine vc (λ_ _ _=>zA pv) ?_
 exact trivial
 intro x pW wL
 intro v3 d3
 intro v4 d4
 intro v5 d5
 intro v7 d7
 have hK:=hK.ext wL
 change OW _ _ _ _ [] (aM (aN _ x _) (zZ 29 [_,_,_,_]++[(28,_),(33,_),(34,_),(8,_),(9,_)])) _
 have JW:ko [] pW _ (ofM f T).blocks:=d7
 refine ag<|aQ<|zr<|zm<|eM rfl<|zm<|xw (t:=37) rfl (λh4=>?_) (λh4=>?_)
 replace h4:=bw h4
 have OE:(ofM f T).wide=true:=by simpa using h4
 refine zs<|zs<|zs<|zp rfl<|ag<|zc rfl (λh5=>?_) (λh5=>?_)
 refine zr<|gP iO gT ?_
 intro qJ nK aiS an9
 have hK:=hK.ext nK
 refine zA<|zA<|ag<|aV ?_
 exact⟨_,rfl,⟨_,false,[],rfl,cF.nil _ _ _,⟨λh=>by(cases h),λ_=>⟨rfl,λf' T' hc hw=>by rw[(JV hc lv).1,(JV hc lv).2,OE] at hw;cases hw.1⟩⟩⟩,hK⟩
 simp at h5
 replace h4:=bw h4
 have OE:(ofM f T).wide=false:=(by simpa using h4)
 refine zm<|aC (QE (ofM f T).blocks (aiM AQ Nt Ns) _ [] pW JW) ?_
 rintro v46 qJ ⟨yS,nK⟩
 have JX:=nK.size
 have hK:=hK.ext nK;have JW:=JW.ext nK
 obtain rfl:=yS
 refine eM rfl<|zp rfl<|ag<|zc rfl (λh6=>?_) (λh6=>?_)
 have OF:jN (ofM f T).blocks=false:=(by simpa using h6)
 refine zr<|gP iO gT ?_
 intro wQ jm aiS aoa
 have hK:=hK.ext jm
 refine zA<|zA<|ag<|aV ?_
 exact⟨_,rfl,⟨_,false,[],rfl,cF.nil _ _ _,⟨λh=>by(cases h),λ_=>⟨rfl,λf' T' hc hw=>by rw[(JV hc lv).1,(JV hc lv).2,OF] at hw;cases hw.2⟩⟩⟩,hK⟩
 have OF:jN (ofM f T).blocks=true:=(by simpa using h6)
 refine bz<|zr<|zm<|zA<|zA<|ag<|aV ?_
 exact⟨_,rfl,⟨_,true,_,rfl,JW,⟨λ_=>⟨f,T,lv,OE,OF,rfl⟩,λh=>by(cases h)⟩⟩,hK⟩
def aiT {a b:Nat} (ha:a<4611686018427387904) (hb:b<4611686018427387904):IntKind.i64.wrap ((a%2^IntKind.i64.bits^^^b%2^IntKind.i64.bits:Nat):Int)=((a^^^b:Nat):Int):=by
 have hx:a^^^b<2^62:=Nat.xor_lt_two_pow om om
 have h1:a%2^IntKind.i64.bits=a:=Nat.mod_eq_of_lt (show a<2^64 by omega)
 have h2:b%2^IntKind.i64.bits=b:=Nat.mod_eq_of_lt (show b<2^64 by omega)
 rw[h1,h2]
 exact wrap_i64 _ om om
section
variable {P:Program} {n:Nat} {ops:Array Oper} {K:Env->World->Prop} {rest:List Oper} {e:Env} {w:World} {dst:Option Nat} {ty T T':TypeId} {pos:String} {after:Array Edge} {g:Option (Nat×Bool)} {x y:Operand}
def aiU {a b:Nat} (hg:gate ops e g=true) (hd:dy n dst=true) (hx:ev e x= .int .i64 (a:Int)) (hy:ev e y= .int .i64 (b:Int)) (ha:a<4611686018427387904) (hb:b<4611686018427387904)
  (c':OW P n ops K rest (cQ e dst (.int .i64 ((a^^^b:Nat):Int))) w):OW P n ops K (⟨dst,.binOp .xor T x y T',ty,pos,after,g⟩::rest) e w:=
 fT hg hd (by simp[execOp,eqGuard,hx,hy,binOp,Op.intBits,aiT ha hb]) c'
end
def VS {L:List Nat} {w:World} {b off len cap size h:Nat} {rows:List (List C)} (hr:cF L w (.slice (some ⟨b,off,none⟩) len cap) (.sl size rows)) (hh:h<=len):cF L w (.slice (some ⟨b,off,none⟩) h cap) (.sl size (rows.take h)):=by
 cases hr with
 |nil=>rw[List.take_nil,show h=0 from by omega];exact .nil _ _ _
 |sl _ _ _ _ _ _ f hl hc hb hL hs kL jo=>
  exact .sl b off h cap size (rows.take h) f (by rw[List.length_take];omega) om hb hL (λrow hr=>hs row (List.mem_of_mem_take hr)) (λk j hk hj=>kL k j om hj) (λk j row c hk hj=>jo k j row c (by
   rw[List.getElem?_take] at hk
   split at hk
   ·exact hk
   ·cases hk) hj)
section
variable {P:Program} {n:Nat} {ops:Array Oper} {K:Env->World->Prop} {rest:List Oper} {e:Env} {w:World} {dst:Option Nat} {ty T:TypeId} {pos:String} {after:Array Edge} {g:Option (Nat×Bool)} {x:Operand}
def VT {L:List Nat} {E:TypeId} {sz bytes:Nat} {z:Value} {hi:Operand} {b off len cap h:Nat} {k:IntKind} (hT:P.underlying T=some (.slice E)) (hE:TI P E sz bytes z) (hg:gate ops e g=true) (hd:dy n dst=true)
  (hx:ev e x= .slice (some ⟨b,off,none⟩) len cap) (EK:ev e hi= .int k (h:Int)) (hl:h<=len) {rows:List (List C)} (hr:cF L w (.slice (some ⟨b,off,none⟩) len cap) (.sl sz rows))
  (c:OW P n ops K rest (cQ e dst (.slice (some ⟨b,off,none⟩) h cap)) w):OW P n ops K (⟨dst,.slice T x none (some hi) none,ty,pos,after,g⟩::rest) e w:=by
 have C5:len<=cap:=by cases hr with|nil=>exact Nat.zero_le _|sl _ _ _ _ _ _ _ hl hc=>exact hc
 have h2:h<=cap:=Nat.le_trans hl C5
 refine fT hg hd (v:=.slice (some ⟨b,off,none⟩) h cap) (w':=w) ?_ c
 simp[execOp,Instr.sliceAt,Instr.slice,hx,EK,run_underlying hT,Instr.sliceBounds,Instr.sliceBound,asIntOf,h2,hE.tt,vY]
end
def rI (bs:List UInt8):List (List C):=bs.map λc=>[.val (.int .u8 (c.toNat:Int))]
def EC (bs:List UInt8):(rI bs).length=bs.length:=by simp[rI]
def JY {L:List Nat} {w:World} {a:Option Addr} {n c i:Nat} {bs:List UInt8} (h:cF L w (.slice a n c) (.sl 1 (rI bs))) (hi:i<bs.length):∃b off x,a=some ⟨b,off,none⟩∧jb L w b (off+i*1) [.int .u8 ((x:UInt8).toNat:Int)]:=by
 obtain⟨b,off,vs,ha,hb,hL,hl,hc,hr⟩:=yX h (i:=i) (row:=[.val (.int .u8 ((bs[i]).toNat:Int))]) (by simp[rI,gE hi])
 obtain⟨u,hu⟩:∃u,vs=[u]:=by
  match vs,hl with
  |[u],_=>exact⟨u,rfl⟩
 subst hu
 obtain⟨h1,_⟩:=hr
 cases h1
 exact⟨b,off,bs[i],ha,hc,hb,hL⟩
def dY (w:World) (br q:Nat):Prop:=∃a n c p bs,aY w br [.slice a n c,.int .i64 ((p:Nat):Int)].toArray 77∧p<=q∧(∀L:List Nat,(∀x,x∈L->br<=x)->cF L w (.slice a n c) (.sl 1 (rI bs)))∧n<=1000000000
def dY.ext {w w':World} {br q:Nat} (h:dY w br q) (k:ak [] w w'):dY w' br q:=let⟨a,n,c,p,bs,h1,h2,h3,h4⟩:=h;⟨a,n,c,p,bs,h1.ext k,h2,λL hL=>cF.ext (h3 L hL) k,h4⟩
def dY.more {w:World} {br q q':Nat} (h:dY w br q) (hq:q<=q'):dY w br q':=let⟨a,n,c,p,bs,h1,h2,h3,h4⟩:=h;⟨a,n,c,p,bs,h1,Nat.le_trans h2 hq,h3,h4⟩
def dY.lt {w:World} {br q:Nat} (h:dY w br q):br<w.heap.size:=let⟨_,_,_,_,_,h1,_⟩:=h;h1.lt
def VU {w w':World} {br:Nat} {v:Value} {rows:List (List C)} {G:List Nat} (h:∀L:List Nat,(∀x,x∈L->br<=x)->cF L w v (.sl 1 rows)) (k:ak G w w') (hG:∀x,x∈G->br<=x):∀L:List Nat,(∀x,x∈L->br<=x)->cF L w' v (.sl 1 rows):=λL hL=>
 (cF.aO (h (G++L) λx hx=>(mA.1 hx).elim (hG x) (hL x)) (k.mono λx hx=>List.mem_append_left _ hx)).fresh λx hx=>.inl (mR _ hx)
def dY.aO {w w':World} {br q:Nat} {G:List Nat} (h:dY w br q) (k:ak G w w') (hG:∀x,x∈G->br<x):dY w' br q:=let⟨a,n,c,p,bs,h1,h2,h3,h4⟩:=h;⟨a,n,c,p,bs,h1.aO k (λhx=>Nat.lt_irrefl _ (hG br hx)),h2,VU h3 k (λx hx=>Nat.le_of_lt (hG x hx)),h4⟩
def km (z:Nat) (h:z<4611686018427387904) (y:Int) (e:y=(z:Int)):IntKind.i64.wrap y=(z:Int):=by
 rw[e];exact wrap_i64 _ om om
def mI (k:Nat) (hk:1<=k) (aq:k<=1000000) (br q:Nat) (hq:q<=1000000000) (w:World) (h:dY w br q):
  ck Tryz.prog 29 [.pointer (some ⟨br,0,none⟩),.int .i64 (k:Int)] w λr w'=>(∃z:Nat,r= .int .i64 (z:Int)∧z<k)∧dY w' br (q+1)∧ak [br] w w':=by
 obtain⟨a,n,c,p,bs,iH,hp,dA,hn⟩:=h
 have ij:=dA [br] sm
 have oX:n=bs.length:=by obtain⟨a',c',e',_⟩:=rN ij;cases e';exact EC bs
 have hdiv:=Nat.div_le_self p n
 refine cX [.tmp 4] 99 Tryz.func29 rfl Y3 rfl rfl ?_
 refine zr<|zA<|ag<|zr<|zm<|zm<|dk rfl<|zf KL rfl<|zl qT rfl (iH.at rfl)<|eI rfl rfl rfl (km (p+1) om _ om)<|dk rfl<|zf KL rfl<|gY (o:=1) tE rfl rfl rfl iH rfl ?_
 intro w1 aK iH dP
 have ij:=cF.aL ij aK sm
 have hK:=aK
 have hQ:dY w1 br (q+1):=⟨a,n,c,p+1,bs,iH,om,VU dA aK sm,hn⟩
 refine ag<|aQ<|zr<|zm<|fA rfl rfl rfl<|zm ?_
 apply fB 7 17 24 [17,18,19,20,21,22,23,24] (λw'=>w1=w') rfl
 intro h1
 replace h1:=bw h1
 refine zs<|zs<|zs<|zs<|zs<|zs<|zp rfl<|ag ?_
 exact mg rfl rfl
 intro h1
 replace h1:=bw h1
 refine zm<|dk rfl<|zf zC rfl<|zl zE rfl (iH.at rfl)<|dZ qU rfl<|dQ rfl rfl rfl<|zp rfl<|ag ?_
 exact mg rfl rfl
 rintro xx _ rfl
 refine ag<|zc rfl (λh2=>?_) (λh2=>?_)
 have h0:n=0:=(by simp at h2;omega)
 refine zr<|zA<|ag<|aV ?_
 exact⟨_,rfl,⟨0,rfl,om⟩,hQ,hK⟩
 have h0:0<n:=(by simp at h2;omega)
 refine bz<|zr<|zm<|dk rfl<|zf KL rfl<|zl qT rfl (iH.at rfl)<|mN rfl rfl rfl rfl rfl (km p om _ om)<|zA<|ag<|aQ<|zr<|zm<|zm<|dk rfl<|zf zC rfl<|zl zE rfl (iH.at rfl)<|dZ qU rfl<|fA rfl rfl rfl<|ag<|zc rfl (λh3=>?_) (λh3=>?_)
 have h1:p<n:=(by simp at h3;omega)
 have qi:=JY ij (i:=p) om
 obtain⟨b1,ga,x1,e1,bC⟩:=qi
 cases e1
 have iM:=x1.toNat_lt
 refine zr<|zm<|dk rfl<|zf zC rfl<|zl zE rfl (iH.at rfl)<|zm<|zi qU Df rfl rfl h1<|zl KP rfl (bC.cells 0 _ rfl)<|xv zD xG rfl rfl rfl (wrap_i64 _ om om)<|zm<|EJ rfl rfl rfl rfl rfl om<|zA<|ag<|aV ?_
 exact⟨_,rfl,⟨x1.toNat%k,rfl,Nat.mod_lt _ om⟩,hQ,hK⟩
 have h1:=Nat.mod_lt p h0
 have h2:=Nat.mod_lt (p*7+3) h0
 have qi:=JY ij (i:=p%n) om
 obtain⟨b1,ga,x1,e1,bC⟩:=qi
 cases e1
 have iM:=x1.toNat_lt
 have iA:=JY ij (i:=(p*7+3)%n) om
 obtain⟨b2,nu,x2,e2,bY⟩:=iA
 cases e2
 have fH:=x2.toNat_lt
 refine bz<|aQ ?_
 apply mv et 46 (rA 47 45++[6]) (rA 47 45++[6]) [[],[0],[1],[2],[],[],[5],[6],[7],[8],[4,9],[3,10],[11],[12],[13],[],[15],[16],[17],[],[19],[20],[],[22],[23],[24],[25],[21,26],[18,27],[28],[29],[30],[14,31],[],[33],[32,34],[],[],[37],[38],[39],[40],[36,41],[42],[35,43],[44]] [It.v _,It.v _,It.v _,It.v _,It.v _,It.v _,It.v _,It.v _,It.v _,It.v _,It.v _,It.v _,It.v _,It.v _,It.v _,It.v _,It.v _,It.v _,It.v _,It.v _,It.v _,It.v _,It.v _,It.v _,It.v _,It.v _,It.v _,It.v _,It.v _,It.v _,It.v _,It.v _,It.v _,It.v _,It.v _,It.v _,It.v _,It.v _,It.v _,It.v _,It.v _,It.v _,It.v _,It.v _,It.v _,It.v _] de rfl
 intro wd aB
 refine eK ?_
 refine vk aB (λx w2 aq=>?_) ?_
 refine dk rfl ?_
 exact pv
 refine vc (λ_ _ _=>zf zC rfl pv) ?_
 refine vk aB (λx w2 aq=>?_) ?_
 have iH:=iH.ext aq
 refine zl zE rfl (iH.at rfl) ?_
 exact pv
 refine eK ?_
 refine eK ?_
 refine vk aB (λx w2 aq=>?_) ?_
 refine dk rfl ?_
 exact pv
 refine vc (λ_ _ _=>zf zC rfl pv) ?_
 refine vk aB (λx w2 aq=>?_) ?_
 have iH:=iH.ext aq
 refine zl zE rfl (iH.at rfl) ?_
 exact pv
 refine vk aB (λx w2 aq=>?_) ?_
 refine dZ qU rfl ?_
 exact pv
 refine vk aB (λx w2 aq=>?_) ?_
 refine EJ rfl rfl rfl rfl rfl om ?_
 exact pv
 refine vk aB (λx w2 aq=>?_) ?_
 refine zi qU Df rfl rfl h1 ?_
 exact pv
 refine vk aB (λx w2 aq=>?_) ?_
 have bC:=bC.ext aq
 refine zl KP rfl (bC.cells 0 _ rfl) ?_
 exact pv
 refine vk aB (λx w2 aq=>?_) ?_
 refine xv zD xG rfl rfl rfl (km x1.toNat om _ rfl) ?_
 exact pv
 refine vk aB (λx w2 aq=>?_) ?_
 refine Be rfl rfl rfl rfl rfl (km (x1.toNat*131) om _ om) ?_
 exact pv
 refine eK ?_
 refine vk aB (λx w2 aq=>?_) ?_
 refine dk rfl ?_
 exact pv
 refine vc (λ_ _ _=>zf zC rfl pv) ?_
 refine vk aB (λx w2 aq=>?_) ?_
 have iH:=iH.ext aq
 refine zl zE rfl (iH.at rfl) ?_
 exact pv
 refine eK ?_
 refine vk aB (λx w2 aq=>?_) ?_
 refine Be rfl rfl rfl rfl rfl (km (p*7) om _ om) ?_
 exact pv
 refine vk aB (λx w2 aq=>?_) ?_
 refine eI rfl rfl rfl (km (p*7+3) om _ om) ?_
 exact pv
 refine eK ?_
 refine vk aB (λx w2 aq=>?_) ?_
 refine dk rfl ?_
 exact pv
 refine vc (λ_ _ _=>zf zC rfl pv) ?_
 refine vk aB (λx w2 aq=>?_) ?_
 have iH:=iH.ext aq
 refine zl zE rfl (iH.at rfl) ?_
 exact pv
 refine vk aB (λx w2 aq=>?_) ?_
 refine dZ qU rfl ?_
 exact pv
 refine vk aB (λx w2 aq=>?_) ?_
 refine EJ rfl rfl rfl rfl rfl om ?_
 exact pv
 refine vk aB (λx w2 aq=>?_) ?_
 refine zi qU Df rfl rfl h2 ?_
 exact pv
 refine vk aB (λx w2 aq=>?_) ?_
 have bY:=bY.ext aq
 refine zl KP rfl (bY.cells 0 _ rfl) ?_
 exact pv
 refine vk aB (λx w2 aq=>?_) ?_
 refine xv zD xG rfl rfl rfl (km x2.toNat om _ rfl) ?_
 exact pv
 refine vk aB (λx w2 aq=>?_) ?_
 refine Be rfl rfl rfl rfl rfl (km (x2.toNat*1117) om _ om) ?_
 exact pv
 refine vk aB (λx w2 aq=>?_) ?_
 refine eI rfl rfl rfl (km (x1.toNat*131+x2.toNat*1117) om _ om) ?_
 exact pv
 refine eK ?_
 refine vk aB (λx w2 aq=>?_) ?_
 refine Be rfl rfl rfl rfl rfl (km (p*29) om _ om) ?_
 exact pv
 refine vk aB (λx w2 aq=>?_) ?_
 refine eI rfl rfl rfl (km (x1.toNat*131+x2.toNat*1117+p*29) om _ om) ?_
 exact pv
 refine eK ?_
 refine eK ?_
 refine vk aB (λx w2 aq=>?_) ?_
 refine dk rfl ?_
 exact pv
 refine vc (λ_ _ _=>zf zC rfl pv) ?_
 refine vk aB (λx w2 aq=>?_) ?_
 have iH:=iH.ext aq
 refine zl zE rfl (iH.at rfl) ?_
 exact pv
 refine vk aB (λx w2 aq=>?_) ?_
 refine dZ qU rfl ?_
 exact pv
 refine vk aB (λx w2 aq=>?_) ?_
 refine Kf rfl rfl rfl rfl rfl om (km (p/n) om _ rfl) ?_
 exact pv
 refine vk aB (λx w2 aq=>?_) ?_
 refine Be rfl rfl rfl rfl rfl (km (p/n*53) om _ sm) ?_
 exact pv
 refine vk aB (λx w2 aq=>?_) ?_
 refine eI rfl rfl rfl (km (x1.toNat*131+x2.toNat*1117+p*29+p/n*53) om _ sm) ?_
 exact pv
 refine vc (λ_ _ _=>zA pv) ?_
 exact trivial
 intro x pY iC
 change OW _ _ _ _ [] (aM (aN _ x _) (zZ 47 [_,_,_,_,_,_,_,_,_,_,_,_,_,_,_,_,_,_,_,_,_,_,_,_,_,_,_,_,_,_,_,_,_,_,_,_,_,_,_,_,_,_,_,_,_]++[(6,_)])) _
 have hX:x1.toNat*131+x2.toNat*1117+p*29+p/n*53<4611686018427387904:=om
 have hXx:∃z,z=x1.toNat*131+x2.toNat*1117+p*29+p/n*53:=⟨_,rfl⟩
 obtain⟨X,hXe⟩:=hXx
 rw[<-hXe] at hX⊢
 have hQ:=hQ.ext iC;have hK:=hK.ext iC
 refine ag<|zr<|zm<|zm<|Kf (b:=64) rfl rfl rfl rfl rfl om (km (X/64) om _ rfl)<|aiU rfl rfl rfl rfl om om<|zA<|ag<|zr<|zm<|zm<|EJ rfl rfl rfl rfl rfl om<|zA<|ag<|aV ?_
 exact⟨_,rfl,⟨(X^^^X/64)%k,rfl,Nat.mod_lt _ om⟩,hQ,hK⟩
def aiX (bs:List UInt8) (hb:bs.length<=1000000000) (v:Value) (w:World) (hv:cF [] w v (.sl 1 (rI bs))):
  ck Tryz.prog 23 [v] w λr w'=>(∃br,r= .pointer (some ⟨br,0,none⟩)∧w.heap.size<=br∧dY w' br 0)∧ak [] w w':=by
 obtain⟨a,c,rfl,_⟩:=rN hv
 rw[EC]
 rw[EC] at hv
 have hK:=ak.refl [] w
 refine cX [.tmp 2] 11 Tryz.func23 rfl YX rfl rfl ?_
 refine zr<|zA<|ag<|aQ<|zr<|zm<|dZ qU rfl<|jz rfl rfl rfl rfl rfl<|ag ?_
 refine ji (λq:Option Addr×Nat×Nat=>[(0,.slice q.1 q.2.1 q.2.2)]) (λq ww=>ak [] w ww∧(∃bs',cF [] ww (.slice q.1 q.2.1 q.2.2) (.sl 1 (rI bs')))∧q.2.1<=1000000000) ?_ ?_
 refine zc rfl (λh1=>?_) (λh1=>?_)
 have h2:2000<bs.length:=om
 have hg:=JY hv (i:=0) om
 obtain⟨b1,ga,x1,e1,_⟩:=hg
 cases e1
 refine df<|zm<|VT (h:=2000) qU Df rfl rfl rfl rfl om hv<|zA<|ag ?_
 exact⟨(_,2000,_),rfl,hK,⟨bs.take 2000,by have:=VS hv (h:=2000) om;rw[show(rI bs).take 2000=rI (bs.take 2000) from by simp[rI,List.map_take]] at this;exact this⟩,by show 2000<=_;omega⟩
 refine bz ?_
 exact⟨(_,_,_),rfl,hK,⟨bs,hv⟩,hb⟩
 intro gu w1 e1 hI
 obtain⟨a2,n2,c2⟩:=gu
 dsimp only at hI⊢
 obtain⟨hK,⟨VV,OG⟩,fJ⟩:=hI
 have aiY:=OG
 have nz:=hK.size
 refine zr<|zm<|j7 (ZZ _ _ _ _) rfl rfl<|fG rfl ?_
 intro w2 aq oC eO
 have hK:=hK.ext aq
 refine zA<|ag<|aV ?_
 exact⟨_,rfl,⟨_,rfl,nz,⟨a2,n2,c2,0,VV,oC,lR _,λL hL=>(cF.fresh aiY (L':=L) (λx hx=>.inr (hL x hx))).ext aq,fJ⟩⟩,hK⟩
def mo (xs:List aj) (eN:0<xs.length) (hl:xs.length<=1000000) (br q:Nat) (hq:q<=1000000000) (v:Value) (w:World) (h:dY w br q) (hv:bI [br] w v xs):
  ck Tryz.prog 25 [.pointer (some ⟨br,0,none⟩),v] w λr w'=>(∃x,x∈xs∧r=str x)∧dY w' br (q+1)∧ak [br] w w':=by
 obtain⟨a,n,c,rfl,hn⟩:=eP hv
 subst hn
 refine cX [.tmp 4] 12 Tryz.func25 rfl YZ rfl rfl ?_
 refine zr<|zA<|ag<|zr<|zm<|zm<|zm<|dZ bh rfl<|aC (mI xs.length om om br q hq w h) ?_
 rintro v9 w1 ⟨⟨z,e9,hz⟩,hQ,aG⟩
 subst e9
 have dC:=cF.aL hv aG sm
 have hg:=ou dC hz
 obtain⟨b1,ga,e1,bC⟩:=hg
 cases e1
 refine zi bh bA rfl rfl hz<|zl cm rfl (bC.cells 0 _ rfl)<|zA<|ag<|aV ?_
 exact⟨_,rfl,⟨_,List.mem_of_getElem? (lp hz),rfl⟩,hQ,aG⟩
def Hh (br q:Nat) (hq:q<=1000000000) (w:World) (h:dY w br q):
  ck Tryz.prog 78 [.pointer (some ⟨br,0,none⟩)] w λr w'=>(∃z,z<6∧r=str (bf z))∧dY w' br (q+1)∧ak [br] w w':=by
 refine cX [.tmp 2] 6 Tryz.func78 rfl Zx rfl rfl ?_
 refine zr<|zA<|ag<|zr<|zm<|aC (mI 6 de de br q hq w h) ?_
 rintro v9 w1 ⟨⟨z,e9,hz⟩,hQ,aG⟩
 subst e9
 refine aC (iQ (z+1) z om om w1) ?_
 rintro v2 w2 ⟨dC,aq⟩
 have eH:=aq.size
 have hQ:=hQ.ext aq;have aG:=aG.ext aq
 obtain rfl:=dC
 refine zA<|ag<|aV ?_
 exact⟨_,rfl,⟨z,hz,rfl⟩,hQ,aG⟩
def aiZ {x:aj} (h:x∈([[62],[42]]:List aj)):∃f,x=kt f:=by
 simp only[mC,nN,oF] at h
 rcases h with rfl|rfl
 ·exact⟨true,rfl⟩
 ·exact⟨false,rfl⟩
def OH (d:Nat):d<=10->∀(br q:Nat),q+3*2^d<=1000000000->∀(w:World),dY w br q->
  ck Tryz.prog 84 [.pointer (some ⟨br,0,none⟩),.int .i64 (d:Int)] w λr w'=>(∃T:Ty,r=str T.text∧T.n+1<=2^(d+1))∧dY w' br (q+(3*2^d-2))∧ak [br] w w':=by
 induction d using Nat.strongRecOn with
 |_ d ih=>
  intro hd br q hq w h
  have qp:1<=2^d:=Nat.one_le_two_pow
  have uO:2^(d+1)=2*2^d:=by rw[Nat.pow_succ];omega
  have Dq:2^d<=1024:=Nat.pow_le_pow_right (n:=2) de hd
  refine cX [.tmp 4] 29 Tryz.func84 rfl ZE rfl rfl ?_
  refine zr<|zA<|ag<|aQ<|zr<|zm<|dQ rfl rfl rfl<|zm<|xw (t:=7) rfl (λh1=>?_) (λh1=>?_)
  replace h1:=bw h1
  have OI:d=0:=(by simp at h1;omega)
  refine zs<|zs<|zs<|zp rfl<|ag<|zc rfl (λh2=>?_) (λh2=>?_)
  refine zr<|zA<|ag<|aV ?_
  exact⟨_,rfl,⟨.i,by rw[Ty.Lt];rfl,by show 1+1<=_;omega⟩,h.more om,ak.refl _ _⟩
  simp at h2
  replace h1:=bw h1
  have OI:1<=d:=(by simp at h1;omega)
  have VD:2^d=2*2^(d-1):=(by rw[<-Nat.pow_succ'];congr 1;omega)
  have hp5:2^(d-1+1)=2^d:=(by congr 1;omega)
  have hp6:1<=2^(d-1):=Nat.one_le_two_pow
  refine zm<|aC (mI 2 de de br q om w h) ?_
  rintro v9 w1 ⟨⟨z,e9,hz⟩,hQ,aG⟩
  subst e9
  refine dQ rfl rfl rfl<|zp rfl<|ag<|zc rfl (λh3=>?_) (λh3=>?_)
  refine zr<|zA<|ag<|aV ?_
  exact⟨_,rfl,⟨.i,by rw[Ty.Lt];rfl,by show 1+1<=_;omega⟩,hQ.more om,aG⟩
  have ox:=hQ.lt
  refine bz<|zr<|zm<|lq bh bA rfl rfl rfl rfl ?_
  intro w2 aq mz eO
  have hQ:=hQ.ext aq;have aG:=aG.ext aq
  refine aC (mo [[62],[42]] de de br (q+1) om _ w2 hQ (aY.eF [[62],[42]] mz (λhx=>by simp at hx;omega))) ?_
  rintro lz w3 ⟨⟨xx,hi,ig⟩,hQ,dM⟩
  have hf:=aiZ hi
  obtain⟨f,hf⟩:=hf
  rw[hf] at ig
  subst ig
  have aG:=aG.trans dM
  have o5:=Lu f
  refine cu rfl rfl so<|cu rfl rfl so<|zm<|zm<|mN rfl rfl rfl rfl rfl (km (d-1) om _ om)<|aC (ih (d-1) om om br (q+1+1) om w3 hQ) ?_
  rintro v20 w4 ⟨⟨A,pC,hA⟩,hQ,ux⟩
  subst pC
  have aG:=aG.trans ux
  have U0:=A.len
  refine cu rfl rfl so<|cu rfl rfl so<|zm<|zm<|mN rfl rfl rfl rfl rfl (km (d-1) om _ om)<|aC (ih (d-1) om om br _ om w4 hQ) ?_
  rintro v26 w5 ⟨⟨B,Oo,hB⟩,hQ,ai0⟩
  subst Oo
  have aG:=aG.trans ai0
  have U1:=B.len
  refine cu rfl rfl so<|cu rfl rfl so<|zA<|ag<|aV ?_
  exact⟨_,rfl,⟨.op f A B,by show str (((((([40]++kt f)++[32])++A.text)++[32])++B.text)++[41])=str _;rw[Ty.H4];simp,by show 1+A.n+B.n+1<=_;omega⟩,hQ.more om,aG⟩
def A6:Ty->aj
 | .i=>[48]
 | .op false a b=>[40,112,97,105,114,32]++A6 a++[32]++A6 b++[41]
 | .op true a b=>[40,102,117,110,32,102,32,120,32]++a.text++[32]++b.text++[32]++A6 b++[41]
def A7:∀T:Ty,T.n<=60->(A6 T).length<=500*T.n
 | .i,_=>by simp[A6,Ty.n]
 | .op false a b,h=>by
  simp only[Ty.n] at h⊢
  have:=A7 a om
  have:=A7 b om
  simp only[A6,lA,lC,lN];omega
 | .op true a b,h=>by
  simp only[Ty.n] at h⊢
  have:=A7 b om
  have:=a.len
  have:=b.len
  simp only[A6,lA,lC,lN];omega
def VW (T:Ty):T.n<=60->∀(v:Value) (L:List Nat) (w:World),bT L w v T.av->ck Tryz.prog 188 [v] w λr w'=>r=str (A6 T)∧ak [] w w':=by
 induction T with
 |i=>
  intro hn v L w hv
  obtain⟨ar,nr,cr,rfl,qh,bc⟩:=dO hv
  have hK:=ak.refl [] w
  refine cX [.tmp 2] 47 Tryz.func188 rfl Kw rfl rfl ?_
  refine zr<|fG rfl ?_
  intro w1 aK aT eh
  have hK:=hK.ext aK
  refine zA<|ag<|aQ<|zr<|zf dB rfl<|zl cm rfl (aT.at rfl)<|jI rfl rfl rfl rfl<|ag<|zc rfl (λh1=>?_) (λh1=>?_)
  refine zr<|zA<|ag<|aV ?_
  exact⟨_,rfl,rfl,hK⟩
  exact absurd h1 de
 |op f a b iha ihb=>
  intro hn v L w hv
  cases f with
  |false=>
   obtain⟨ar,nr,cr,rfl,qh,bc⟩:=dO hv
   subst qh
   have fJ:1+a.n+b.n<=60:=hn
   have FG:=A7 a om
   have ED:=A7 b om
   have x4:=a.len
   have htb:=b.len
   have VX:=a.size
   have VY:=b.size
   have Ny:(Ty.op false a b).av.au.length=3:=rfl
   obtain⟨b0,AB,xL,xM,e0,eC,_⟩:=fK bc (i:=0) om
   cases e0
   have eC:jb L w _ _ [str (kt false),.slice xL 0 xM]:=eC
   obtain⟨b1,ga,gZ,ia,e1,bC,dh⟩:=fK bc (i:=1) om
   cases e1
   have bC:jb L w _ _ [str a.av.az,.slice gZ a.av.au.length ia]:=bC
   have dh:bT L w (.agg #[str a.av.az,.slice gZ a.av.au.length ia]) a.av:=dh
   obtain⟨b2,nu,jd,je,e2,bY,ew⟩:=fK bc (i:=2) om
   cases e2
   have bY:jb L w _ _ [str b.av.az,.slice jd b.av.au.length je]:=bY
   have ew:bT L w (.agg #[str b.av.az,.slice jd b.av.au.length je]) b.av:=ew
   have hK:=ak.refl [] w
   refine cX [.tmp 2] 47 Tryz.func188 rfl Kw rfl rfl ?_
   refine zr<|fG rfl ?_
   intro w1 aK aT eh
   have hK:=hK.ext aK;have eC:=eC.ext aK;have bC:=bC.ext aK;have bY:=bY.ext aK;have dh:=dh.ext aK;have ew:=ew.ext aK
   refine zA<|ag<|aQ<|zr<|zf dB rfl<|zl cm rfl (aT.at rfl)<|jI rfl rfl rfl rfl<|ag<|zc rfl (λh1=>?_) (λh1=>?_)
   exact absurd rfl h1
   refine bz<|aQ<|zr<|zf cN rfl<|zl cK rfl (aT.at rfl)<|zi (i:=0) cw aH rfl rfl ((show 0<3 from om))<|zf dB rfl<|zl cm rfl (eC.cells 0 _ rfl)<|cY rfl rfl<|ag<|zc rfl (λh2=>?_) (λh2=>?_)
   refine aQ ?_
   apply mv et 15 (rA 12 14++[2]) (rA 12 14++[2]) [[],[0],[1],[2],[3],[4],[5],[],[7],[8],[9],[10],[6,11],[12],[13]] [It.v _,It.v _,It.v _,It.v _,It.v _,It.v _,It.v _,It.v _,It.v _,It.v _,It.v _,It.v _,It.v _,It.v _,It.v _] de rfl
   intro wd aB
   refine vc (λ_ _ _=>zf cN rfl pv) ?_
   refine vk aB (λx w2 aq=>?_) ?_
   have aT:=aT.ext aq
   refine zl cK rfl (aT.at rfl) ?_
   exact pv
   refine vk aB (λx w2 aq=>?_) ?_
   refine zi (i:=1) cw aH rfl rfl ((show 1<3 from om)) ?_
   exact pv
   refine vk aB (λx w2 aq=>?_) ?_
   have bC:=bC.ext aq
   refine zL bU aH rfl bC.cells rfl ?_
   exact pv
   refine vk aB (λx w2 aq=>?_) ?_
   have dh:=dh.ext aq
   refine aC (iha om _ _ w2 dh) ?_
   rintro v3 w3 ⟨er,aJ⟩
   have gd:=aJ.size
   obtain rfl:=er
   exact pk aJ
   refine vk aB (λx w2 aq=>?_) ?_
   refine cu rfl rfl so ?_
   exact pv
   refine vk aB (λx w2 aq=>?_) ?_
   refine cu rfl rfl so ?_
   exact pv
   refine vc (λ_ _ _=>zf cN rfl pv) ?_
   refine vk aB (λx w2 aq=>?_) ?_
   have aT:=aT.ext aq
   refine zl cK rfl (aT.at rfl) ?_
   exact pv
   refine vk aB (λx w2 aq=>?_) ?_
   refine zi (i:=2) cw aH rfl rfl ((show 2<3 from om)) ?_
   exact pv
   refine vk aB (λx w2 aq=>?_) ?_
   have bY:=bY.ext aq
   refine zL bU aH rfl bY.cells rfl ?_
   exact pv
   refine vk aB (λx w2 aq=>?_) ?_
   have ew:=ew.ext aq
   refine aC (ihb om _ _ w2 ew) ?_
   rintro v3 w3 ⟨er,aJ⟩
   have gd:=aJ.size
   obtain rfl:=er
   exact pk aJ
   refine vk aB (λx w2 aq=>?_) ?_
   refine cu rfl rfl so ?_
   exact pv
   refine vk aB (λx w2 aq=>?_) ?_
   refine cu rfl rfl so ?_
   exact pv
   refine vc (λ_ _ _=>zA pv) ?_
   exact trivial
   intro x pY iC
   have hK:=hK.ext iC
   change OW _ _ _ _ [] (aM (aN _ x _) (zZ 12 [_,_,_,_,_,_,_,_,_,_,_,_,_,_]++[(2,_)])) _
   refine ag<|aV ?_
   exact⟨_,rfl,rfl,hK⟩
   exact absurd rfl h2
  |true=>
   obtain⟨ar,nr,cr,rfl,qh,bc⟩:=dO hv
   subst qh
   have fJ:1+a.n+b.n<=60:=hn
   have FG:=A7 a om
   have ED:=A7 b om
   have x4:=a.len
   have htb:=b.len
   have VX:=a.size
   have VY:=b.size
   have Ny:(Ty.op true a b).av.au.length=3:=rfl
   obtain⟨b0,AB,xL,xM,e0,eC,_⟩:=fK bc (i:=0) om
   cases e0
   have eC:jb L w _ _ [str (kt true),.slice xL 0 xM]:=eC
   obtain⟨b1,ga,gZ,ia,e1,bC,dh⟩:=fK bc (i:=1) om
   cases e1
   have bC:jb L w _ _ [str a.av.az,.slice gZ a.av.au.length ia]:=bC
   have dh:bT L w (.agg #[str a.av.az,.slice gZ a.av.au.length ia]) a.av:=dh
   obtain⟨b2,nu,jd,je,e2,bY,ew⟩:=fK bc (i:=2) om
   cases e2
   have bY:jb L w _ _ [str b.av.az,.slice jd b.av.au.length je]:=bY
   have ew:bT L w (.agg #[str b.av.az,.slice jd b.av.au.length je]) b.av:=ew
   have hK:=ak.refl [] w
   refine cX [.tmp 2] 47 Tryz.func188 rfl Kw rfl rfl ?_
   refine zr<|fG rfl ?_
   intro w1 aK aT eh
   have hK:=hK.ext aK;have eC:=eC.ext aK;have bC:=bC.ext aK;have bY:=bY.ext aK;have dh:=dh.ext aK;have ew:=ew.ext aK
   refine zA<|ag<|aQ<|zr<|zf dB rfl<|zl cm rfl (aT.at rfl)<|jI rfl rfl rfl rfl<|ag<|zc rfl (λh1=>?_) (λh1=>?_)
   exact absurd rfl h1
   refine bz<|aQ<|zr<|zf cN rfl<|zl cK rfl (aT.at rfl)<|zi (i:=0) cw aH rfl rfl ((show 0<3 from om))<|zf dB rfl<|zl cm rfl (eC.cells 0 _ rfl)<|cY rfl rfl<|ag<|zc rfl (λh2=>?_) (λh2=>?_)
   exact absurd h2 de
   refine bz<|aQ ?_
   apply mv et 22 (rA 26 21++[2]) (rA 26 21++[2]) [[],[0],[1],[2],[3],[4],[5],[],[7],[8],[9],[10],[6,11],[12],[],[14],[15],[16],[17],[13,18],[19],[20]] [It.v _,It.v _,It.v _,It.v _,It.v _,It.v _,It.v _,It.v _,It.v _,It.v _,It.v _,It.v _,It.v _,It.v _,It.v _,It.v _,It.v _,It.v _,It.v _,It.v _,It.v _,It.v _] de rfl
   intro wd aB
   refine vc (λ_ _ _=>zf cN rfl pv) ?_
   refine vk aB (λx w2 aq=>?_) ?_
   have aT:=aT.ext aq
   refine zl cK rfl (aT.at rfl) ?_
   exact pv
   refine vk aB (λx w2 aq=>?_) ?_
   refine zi (i:=1) cw aH rfl rfl ((show 1<3 from om)) ?_
   exact pv
   refine vk aB (λx w2 aq=>?_) ?_
   have bC:=bC.ext aq
   refine zL bU aH rfl bC.cells rfl ?_
   exact pv
   refine vk aB (λx w2 aq=>?_) ?_
   have dh:=dh.ext aq
   refine aC (tI a.av.size a.av (lR _) a.oJ.wf om (show a.text.length<=100000000 from om) _ _ w2 dh) ?_
   rintro v3 w3 ⟨er,aJ⟩
   have gd:=aJ.size
   obtain rfl:=er
   exact pk aJ
   refine vk aB (λx w2 aq=>?_) ?_
   refine cu rfl rfl (by have h9:a.av.text.length=a.text.length:=rfl;simp;omega) ?_
   exact pv
   refine vk aB (λx w2 aq=>?_) ?_
   refine cu rfl rfl (by have h9:a.av.text.length=a.text.length:=rfl;simp;omega) ?_
   exact pv
   refine vc (λ_ _ _=>zf cN rfl pv) ?_
   refine vk aB (λx w2 aq=>?_) ?_
   have aT:=aT.ext aq
   refine zl cK rfl (aT.at rfl) ?_
   exact pv
   refine vk aB (λx w2 aq=>?_) ?_
   refine zi (i:=2) cw aH rfl rfl ((show 2<3 from om)) ?_
   exact pv
   refine vk aB (λx w2 aq=>?_) ?_
   have bY:=bY.ext aq
   refine zL bU aH rfl bY.cells rfl ?_
   exact pv
   refine vk aB (λx w2 aq=>?_) ?_
   have ew:=ew.ext aq
   refine aC (tI b.av.size b.av (lR _) b.oJ.wf om (show b.text.length<=100000000 from om) _ _ w2 ew) ?_
   rintro v3 w3 ⟨er,aJ⟩
   have gd:=aJ.size
   obtain rfl:=er
   exact pk aJ
   refine vk aB (λx w2 aq=>?_) ?_
   refine cu rfl rfl (by have h9:a.av.text.length=a.text.length:=rfl;have gI:b.av.text.length=b.text.length:=rfl;simp;omega) ?_
   exact pv
   refine vk aB (λx w2 aq=>?_) ?_
   refine cu rfl rfl (by have h9:a.av.text.length=a.text.length:=rfl;have gI:b.av.text.length=b.text.length:=rfl;simp;omega) ?_
   exact pv
   refine vc (λ_ _ _=>zf cN rfl pv) ?_
   refine vk aB (λx w2 aq=>?_) ?_
   have aT:=aT.ext aq
   refine zl cK rfl (aT.at rfl) ?_
   exact pv
   refine vk aB (λx w2 aq=>?_) ?_
   refine zi (i:=2) cw aH rfl rfl ((show 2<3 from om)) ?_
   exact pv
   refine vk aB (λx w2 aq=>?_) ?_
   have bY:=bY.ext aq
   refine zL bU aH rfl bY.cells rfl ?_
   exact pv
   refine vk aB (λx w2 aq=>?_) ?_
   have ew:=ew.ext aq
   refine aC (ihb om _ _ w2 ew) ?_
   rintro v3 w3 ⟨er,aJ⟩
   have gd:=aJ.size
   obtain rfl:=er
   exact pk aJ
   refine vk aB (λx w2 aq=>?_) ?_
   refine cu rfl rfl (by have h9:a.av.text.length=a.text.length:=rfl;have gI:b.av.text.length=b.text.length:=rfl;simp;omega) ?_
   exact pv
   refine vk aB (λx w2 aq=>?_) ?_
   refine cu rfl rfl (by have h9:a.av.text.length=a.text.length:=rfl;have gI:b.av.text.length=b.text.length:=rfl;simp;omega) ?_
   exact pv
   refine vc (λ_ _ _=>zA pv) ?_
   exact trivial
   intro x pY iC
   have hK:=hK.ext iC
   change OW _ _ _ _ [] (aM (aN _ x _) (zZ 26 [_,_,_,_,_,_,_,_,_,_,_,_,_,_,_,_,_,_,_,_,_]++[(2,_)])) _
   refine ag<|aV ?_
   exact⟨_,rfl,rfl,hK⟩
def OJ:List aj:=[[40,43,32,120,56,32,40,99,97,108,108,32,102,56,32,40,45,32,120,56,32,49,41,41,41],[40,99,97,108,108,32,102,56,32,40,45,32,120,56,32,49,41,41],[40,42,32,120,56,32,40,99,97,108,108,32,102,56,32,40,45,32,120,56,32,49,41,41,41],[40,45,32,48,32,40,99,97,108,108,32,102,56,32,40,45,32,120,56,32,49,41,41,41]]
def ai2 (br q:Nat) (hq:q<=900000000) (w:World) (h:dY w br q):
  ck Tryz.prog 117 [.pointer (some ⟨br,0,none⟩)] w λr w'=>(∃x,r=str x∧x.length<=200)∧dY w' br (q+3)∧ak [br] w w':=by
 have hQ:=h
 have aG:=ak.refl [br] w
 have ox:=h.lt
 refine cX [.tmp 2] 20 Tryz.func117 rfl XW rfl rfl ?_
 refine zr<|zA<|ag<|zr<|zm<|ya bh bA rfl rfl rfl rfl rfl rfl ?_
 intro w1 aK bP eh
 have hQ:=hQ.ext aK;have aG:=aG.ext aK
 refine aC (mo OJ de de br q om _ w1 hQ (aY.eF OJ bP (λhx=>by simp at hx;omega) de)) ?_
 rintro lz w2 ⟨⟨x1,hi,ig⟩,hQ,dM⟩
 subst ig
 have aG:=aG.trans dM
 have gi:=(show∀x,x∈OJ->x.length<=30 from by decide) _ hi
 have ox:=hQ.lt
 clear bP
 refine zA<|ag<|zr<|zm<|pU bh bA rfl rfl rfl rfl rfl ?_
 intro w3 aJ dx iJ
 have hQ:=hQ.ext aJ;have aG:=aG.ext aJ
 refine aC (mo [[48],[49],[53]] de de br (q+1) om _ w3 hQ (aY.eF [[48],[49],[53]] dx (λhx=>by simp at hx;omega))) ?_
 rintro vA w4 ⟨⟨x2,hj,D9⟩,hQ,jG⟩
 subst D9
 have aG:=aG.trans jG
 have ja:=(show∀x,x∈([[48],[49],[53]]:List aj)->x.length<=30 from by decide) _ hj
 clear dx
 refine cu rfl rfl so<|cu rfl rfl so<|zm<|cu rfl rfl so<|cu rfl rfl so<|zm<|aC (mI 7 de de br (q+2) om w4 hQ) ?_
 rintro yp w5 ⟨⟨z,AW,hz⟩,hQ,kZ⟩
 subst AW
 have aG:=aG.trans kZ
 have EN:=sR (n:=z) om
 refine aC (iQ (z+1) z om om w5) ?_
 rintro v6 w6 ⟨lx,bF⟩
 have oS:=bF.size
 have hQ:=hQ.ext bF;have aG:=aG.ext bF
 obtain rfl:=lx
 refine cu rfl rfl so<|cu rfl rfl so<|zA<|ag<|aV ?_
 exact⟨_,rfl,⟨_,rfl,by simp;omega⟩,hQ,aG⟩
def VZ (s:aj) (w:World):ck Tryz.prog 156 [str s] w λr w'=>(∃x ok,r= .tuple #[str x,.bool ok]∧x.length<=8000)∧ak [] w w':=by
 have hK:=ak.refl [] w
 refine cX [.tmp 2,.tmp 3] 26 Tryz.func156 rfl Yu rfl rfl ?_
 refine zr<|zA<|zA<|ag<|zr<|zm<|aC (zH s [] w sm) ?_
 rintro v1 w1 ⟨fO,aK⟩
 have dS:=aK.size
 have hK:=hK.ext aK
 have eT:=fO
 obtain⟨t,tv,e9,ht,hp⟩:=eT
 subst e9
 have cL:=dO ht
 obtain⟨pa,pn,pc,e9,fR,_⟩:=cL
 subst e9
 subst fR
 have nz:=hK.size
 refine zm<|zx (i:=0) rfl rfl<|zx (i:=1) rfl rfl<|eD aH rfl rfl rfl ?_
 intro w2 aq aI iU
 have du:=aq
 refine dw (vs:=[str t.az,.slice pa t.au.length pc]) aH rfl rfl rfl aI rfl ?_
 intro w3 aJ aI dP
 have du:=du.since aJ (λx hx=>.inr (by simp at hx;omega))
 have ht:=ht.ext du;have hK:=hK.ext du
 refine zA<|ag<|aQ<|zr<|zm<|eM rfl<|zm<|xw (t:=13) rfl (λh1=>?_) (λh1=>?_)
 replace h1:=bw h1
 refine zs<|zs<|zs<|zp rfl<|zm<|EL (t:=18) (b:=true) rfl<|zs<|zs<|zs<|zs<|zp rfl<|ag<|zc rfl (λh2=>?_) (λh2=>?_)
 refine zr<|zA<|zA<|ag<|aV ?_
 exact⟨_,rfl,⟨[],false,rfl,sm⟩,hK⟩
 simp at h2
 replace h1:=bw h1
 have bD:(ba s).isSome=true:=(by simpa using h1)
 have dz:=Dv hp bD
 refine zL bU aH rfl aI.all rfl<|aC (AA t om dz.1 _ _ w3 ht) ?_
 rintro v4 w4 ⟨eJ,aF⟩
 have gK:=aF.size
 have hK:=hK.ext aF;have aI:=aI.ext aF;have ht:=ht.ext aF
 obtain rfl:=eJ
 refine eM rfl<|zp rfl<|zm<|xw (t:=18) rfl (λh3=>?_) (λh3=>?_)
 replace h3:=bw h3
 refine zs<|zs<|zs<|zs<|zp rfl<|ag<|zc rfl (λh4=>?_) (λh4=>?_)
 refine zr<|zA<|zA<|ag<|aV ?_
 exact⟨_,rfl,⟨[],false,rfl,sm⟩,hK⟩
 simp at h4
 replace h3:=bw h3
 have fE:ku t=true:=(by simpa using h3)
 have hu:=(xR dz.1).1 fE
 obtain⟨T,DM,Hg⟩:=hu
 have pX:=ht
 rw[DM] at pX
 refine zL bU aH rfl aI.all rfl<|aC (VW T om _ _ w4 (ht.eq DM)) ?_
 rintro v5 w5 ⟨ln,aU⟩
 have pJ:=aU.size
 have hK:=hK.ext aU;have aI:=aI.ext aU;have ht:=ht.ext aU
 obtain rfl:=ln
 have C4:=A7 T om
 refine aC (MI _ w5) ?_
 rintro v6 w6 ⟨lx,bF⟩
 have oS:=bF.size
 have hK:=hK.ext bF;have aI:=aI.ext bF;have ht:=ht.ext bF
 obtain rfl:=lx
 refine eM rfl<|zp rfl<|ag<|zc rfl (λh5=>?_) (λh5=>?_)
 refine zr<|zA<|zA<|ag<|aV ?_
 exact⟨_,rfl,⟨[],false,rfl,sm⟩,hK⟩
 refine bz<|zr<|zL bU aH rfl aI.all rfl<|aC (VW T om _ _ w6 (ht.eq DM)) ?_
 rintro v7 w7 ⟨iV,cz⟩
 have po:=cz.size
 have hK:=hK.ext cz
 obtain rfl:=iV
 refine zA<|zA<|ag<|aV ?_
 exact⟨_,rfl,⟨_,true,rfl,om⟩,hK⟩
def ai3:tu Tryz.prog 104=true:=by kernel_rfl
def JZ (ns ts:List aj) (nm kd:aj) (gi:ns.length<100000) (ja:ts.length<100000) (v1 v2:Value) (L:List Nat) (w:World) (hL:∀x,x∈L->x<w.heap.size) (h1:bI L w v1 ns) (h2:bI L w v2 ts):
  ck Tryz.prog 116 [.agg #[v1,v2],str nm,str kd] w λr w'=>(∃u1 u2,r= .agg #[u1,u2]∧bI L w' u1 (ns++[nm])∧bI L w' u2 (ts++[kd]))∧ak [] w w':=by
 obtain⟨a1,n1,c1,rfl,_⟩:=eP h1
 obtain⟨a2,n2,c2,rfl,_⟩:=eP h2
 have hK:=ak.refl [] w
 refine lH [.cell 6 104] 18 Tryz.func116 rfl XV rfl rfl rfl ?_
 refine zr<|fG rfl ?_
 intro w1 aK bR eh
 have hK:=hK.ext aK;have h1:=h1.ext aK;have h2:=h2.ext aK
 refine eD kR rfl rfl rfl ?_
 intro w2 aq bQ lI
 have hK:=hK.ext aq
 have h1:=(bI.fresh h1 (L':=w1.heap.size::L) (λx hx=>by rcases mC.1 hx with h9|h9;(·right;omega);(·exact .inl h9))).ext aq
 have h2:=(bI.fresh h2 (L':=w1.heap.size::L) (λx hx=>by rcases mC.1 hx with h9|h9;(·right;omega);(·exact .inl h9))).ext aq
 have J0:∀x,x∈w1.heap.size::L->x<w2.heap.size:=(λx hx=>by rcases mC.1 hx with h9|h9;(·omega);(·have:=hL x h9;omega))
 have bR:=bR.ext aq
 have jD:=hK.size
 refine ag<|aQ ?_
 apply wE et 11 (rA 7 11) (rA 7 11) [[],[0],[],[2],[1,3],[],[5],[],[7],[6,8],[4,9]] [It.v _,It.v _,It.v _,It.p (fun(v:Value) (ww:World)=>bI (w1.heap.size::L) ww v [nm]),It.p (fun(v:Value) (ww:World)=>bI (w1.heap.size::L) ww v (ns++[nm])),It.v _,It.v _,It.v _,It.p (fun(v:Value) (ww:World)=>bI (w1.heap.size::L) ww v [kd]),It.p (fun(v:Value) (ww:World)=>bI (w1.heap.size::L) ww v (ts++[kd])),It.p (fun(v:Value) (ww:World)=>∃b1 m1 d1 b2 m2 d2,v= .agg #[.slice b1 m1 d1,.slice b2 m2 d2]∧bI (w1.heap.size::L) ww (.slice b1 m1 d1) (ns++[nm])∧bI (w1.heap.size::L) ww (.slice b2 m2 d2) (ts++[kd]))] de (by exact⟨λv w w' h k=>cF.ext h k,λv w w' h k=>cF.ext h k,λv w w' h k=>cF.ext h k,λv w w' h k=>cF.ext h k,λv w w' ⟨b1,m1,d1,b2,m2,d2,e,g1,g2⟩ k=>⟨b1,m1,d1,b2,m2,d2,e,cF.ext g1 k,cF.ext g2 k⟩,trivial⟩)
 intro wd aB
 refine vc (λ_ _ _=>zf E2 rfl pv) ?_
 refine vk aB (λx w3 aJ=>?_) ?_
 have bR:=bR.ext aJ
 refine zl eS rfl (bR.at rfl) ?_
 exact pv
 refine eK ?_
 refine vk aB (λx w3 aJ=>?_) ?_
 refine gH bh bA rfl rfl ?_
 intro w4 aF oC iU
 exact pf aF ((aY.eF [nm] oC (λhx=>by have:=J0 _ hx;have:=aJ.size;omega)))
 refine vk aB (λx w3 aJ=>?_) ?_
 have h1:=h1.ext aJ
 intro v3 d3
 refine aC (tV ns [nm] so _ _ (w1.heap.size::L) w3 h1 d3 (λx hx=>by have:=J0 x hx;have:=aJ.size;omega)) ?_
 rintro v4 w4 ⟨eJ,aF⟩
 have gK:=aF.size
 have eT:=eJ
 exact pf aF eT
 refine vc (λ_ _ _=>zf PS rfl pv) ?_
 refine vk aB (λx w3 aJ=>?_) ?_
 have bR:=bR.ext aJ
 refine zl eS rfl (bR.at rfl) ?_
 exact pv
 refine eK ?_
 refine vk aB (λx w3 aJ=>?_) ?_
 refine gH bh bA rfl rfl ?_
 intro w4 aF IX iU
 exact pf aF ((aY.eF [kd] IX (λhx=>by have:=J0 _ hx;have:=aJ.size;omega)))
 refine vk aB (λx w3 aJ=>?_) ?_
 have h2:=h2.ext aJ
 intro v8 d8
 refine aC (tV ts [kd] so _ _ (w1.heap.size::L) w3 h2 d8 (λx hx=>by have:=J0 x hx;have:=aJ.size;omega)) ?_
 rintro v4 w4 ⟨eJ,aF⟩
 have gK:=aF.size
 have eT:=eJ
 exact pf aF eT
 refine vk aB (λx w3 aJ=>?_) ?_
 intro v4 d4
 intro v9 d9
 have bC:=eP d4
 obtain⟨b1,m1,d1,e1,_⟩:=bC
 subst e1
 have bY:=eP d9
 obtain⟨b2,m2,d2,e2,_⟩:=bY
 subst e2
 refine j7 (Kx _ _ _ _ _ _ _) rfl rfl ?_
 exact pf (ak.refl _ _) (⟨_,_,_,_,_,_,rfl,d4,d9⟩)
 exact trivial
 intro x qC ub
 intro v3 d3
 intro v4 d4
 intro v8 d8
 intro v9 d9
 intro v10 d10
 have hK:=hK.ext ub;have bQ:=bQ.ext ub
 change OW _ _ _ _ _ (aM (aN _ x _) (zZ 7 [_,_,_,_,_,_,_,_,_,_,_])) _
 obtain⟨b1,m1,d1,b2,m2,d2,gw,g1,g2⟩:=d10
 subst gw
 refine dw (vs:=[.slice b1 m1 d1,.slice b2 m2 d2]) kR rfl rfl rfl bQ rfl ?_
 intro nS lK bQ dP
 have hK:=hK.since lK (λx hx=>.inr (by simp at hx;omega))
 have g1:bI L nS _ (ns++[nm]):=(cF.aL g1 lK sm).fresh (λx hx=>.inl (by simp[hx]))
 have g2:bI L nS _ (ts++[kd]):=(cF.aL g2 lK sm).fresh (λx hx=>.inl (by simp[hx]))
 refine ag<|aV ?_
 exact⟨[_],gQ ai3 kR rfl bQ rfl,⟨_,_,rfl,g1,g2⟩,hK⟩
def EE:List aj:=[[48],[49],[50],[51],[55],[45,49],[52,48,48],[45,57,57,57]]
set_option maxHeartbeats 4000000 in
def OK (ns ts:List aj) (want:aj) (hl:ns.length=ts.length) (D8:ns.length<=1000) (hs:∀x,x∈ns->x.length<=8000) (br q:Nat) (hq:q<=900000000) (v1 v2:Value) (w:World) (h:dY w br q) (cW:bI [br] w v1 ns) (cU:bI [br] w v2 ts):
  ck Tryz.prog 115 [.pointer (some ⟨br,0,none⟩),.agg #[v1,v2],str want] w λr w'=>(∃x,r=str x∧x.length<=8000)∧dY w' br (q+2)∧ak [br] w w':=by
 obtain⟨a1,n1,c1,rfl,fU⟩:=eP cW
 obtain⟨a2,n2,c2,rfl,fJ⟩:=eP cU
 subst fU
 have iG:=h.lt
 have hK:=ak.refl [] w
 refine cX [.tmp 6] 67 Tryz.func115 rfl XU rfl rfl ?_
 refine zr<|fG rfl ?_
 intro w1 aK aI eh
 have cW:=cW.ext aK;have cU:=cU.ext aK;have hK:=hK.ext aK;have h:=h.ext aK
 refine zA<|ag<|zr<|gP bh bA ?_
 intro w2 aq iE uK
 have aK:=aq
 have ai4:=iE.lr
 have aoe:=hK.size
 refine zA<|ag<|aQ<|zr<|zA<|ag<|cS ?_
 refine fY (λq9:Nat×Value×Option Nat=>[(0,.pointer (some ⟨br,0,none⟩)),(2,str want),(4,.pointer (some ⟨w.heap.size,0,none⟩)),(7,q9.2.1),(8,.int .i64 (q9.1:Int))]) (λq9 w'=>ak [] w1 w'∧q9.1<=ns.length∧∃xs,dj w' 9 q9.2.1 q9.2.2 xs∧(∀x,x∈xs->x∈ns)∧xs.length<=q9.1∧∀b,q9.2.2=some b->w1.heap.size<=b) (λq9=>ns.length-q9.1) ((0,.slice (some ⟨w1.heap.size,0,none⟩) 0 0,some w1.heap.size)) (⟨rfl,rfl,rfl,rfl,rfl⟩) (⟨aK,sm,[],ai4,sm,sm,by intro b hb;cases hb;exact lR _⟩) ?_
 intro gg w3 e3 hI
 obtain⟨k,vf,gf⟩:=gg
 obtain⟨du,hk,xs,hO,yT,mM,gJ⟩:=hI
 dsimp only at hk hO mM gJ
 have cW:=cW.ext du;have cU:=cU.ext du;have hK:=hK.ext du;have h:=h.ext du;have aI:=aI.ext du
 refine aQ<|zr<|zm<|zf E2 rfl<|zl eS rfl (aI.at rfl)<|dZ bh rfl<|fA rfl rfl rfl<|ag<|zc rfl (λh1=>?_) (λh1=>?_)
 have aq:k<ns.length:=(by simp at h1;omega)
 have gh:=ou cW aq
 obtain⟨b9,ov,e9,gq⟩:=gh
 cases e9
 have rZ:=List.mem_of_getElem? (lp aq)
 refine bz<|aQ<|cS<|aQ ?_
 apply mv et 12 (rA 19 12) (rA 19 12) [[],[0],[],[2],[],[4],[],[5,6],[7],[1,3,8],[],[9,10]] [It.v _,It.v _,It.v _,It.v _,It.v _,It.v _,It.v _,It.v _,It.v _,It.v _,It.v _,It.v _] de rfl
 intro wd aB
 refine vc (λ_ _ _=>zf E2 rfl pv) ?_
 refine vk aB (λx w4 aF=>?_) ?_
 have aI:=aI.ext aF
 refine zl eS rfl (aI.at rfl) ?_
 exact pv
 refine vc (λ_ _ _=>zf PS rfl pv) ?_
 refine vk aB (λx w4 aF=>?_) ?_
 have aI:=aI.ext aF
 refine zl eS rfl (aI.at rfl) ?_
 exact pv
 refine vc (λ_ _ _=>zf E2 rfl pv) ?_
 refine vk aB (λx w4 aF=>?_) ?_
 have aI:=aI.ext aF
 refine zl eS rfl (aI.at rfl) ?_
 exact pv
 refine eK ?_
 refine vk aB (λx w4 aF=>?_) ?_
 refine zi bh bA rfl rfl aq ?_
 exact pv
 refine vk aB (λx w4 aF=>?_) ?_
 have gq:=gq.ext aF
 refine zl cm rfl (gq.cells 0 _ rfl) ?_
 exact pv
 refine vk aB (λx w4 aF=>?_) ?_
 have cW:=cW.ext aF;have cU:=cU.ext aF
 refine aC (F1 ns ts hl om (aD ns k) _ _ _ _ w4 cW cU) ?_
 rintro v5 w5 ⟨ln,aU⟩
 have pJ:=aU.size
 obtain rfl:=ln
 exact pk aU
 refine eK ?_
 refine vk aB (λx w4 aF=>?_) ?_
 refine cY rfl rfl ?_
 exact pv
 exact trivial
 intro x nS lK
 have aI:=aI.ext lK;have hO:=hO.ext lK;have du:=du.ext lK;have gq:=gq.ext lK
 change OW _ _ _ _ [] (aM (aN _ x _) (zZ 19 [_,_,_,_,_,_,_,_,_,_,_,_])) _
 refine ag<|zc rfl (λh2=>?_) (λh2=>?_)
 refine df<|zm<|zf E2 rfl<|zl eS rfl (aI.at rfl)<|zm<|zi bh bA rfl rfl aq<|zl cm rfl (gq.cells 0 _ rfl)<|gH bh bA rfl rfl ?_
 intro p5 jT JJ ai5
 have hO:=hO.ext jT;have du:=du.ext jT
 refine se bh bA rfl rfl rfl rfl rfl rfl hO JJ om ?_
 intro v9 g9 pW dL wL fN
 have V0:=du.size
 have du:=du.since wL (λx hx=>.inr (gJ x (by simpa using hx)))
 have aof:=du.size
 refine zA<|ag<|df<|zm<|eI rfl rfl rfl (km (k+1) om _ om)<|zA<|ag ?_
 exact⟨(k+1,v9,g9),⟨rfl,rfl,rfl,rfl,rfl⟩,⟨du,by show k+1<=_;omega,xs++[aD ns k],dL,λx hx=>by rcases mA.1 hx with h9|h9;(·exact yT x h9);(·simp only[mS] at h9;rw[h9];exact rZ),by show(xs++[aD ns k]).length<=k+1;rw[lA];simp;omega,λb hb=>by rcases fN with h9|h9;(·exact gJ b (h9.symm.trans hb));(·rw[h9] at hb;cases hb;omega)⟩,by show ns.length-(k+1)<ns.length-k;omega⟩
 refine bz<|df<|zm<|eI rfl rfl rfl (km (k+1) om _ om)<|zA<|ag ?_
 exact⟨(k+1,_,gf),⟨rfl,rfl,rfl,rfl,rfl⟩,⟨du,by show k+1<=_;omega,xs,hO,yT,by show xs.length<=k+1;omega,gJ⟩,by show ns.length-(k+1)<ns.length-k;omega⟩
 have cL:=kv hO
 obtain⟨af,cf,ef⟩:=cL
 subst ef
 have aG:=hK.mono (L':=[br]) sm
 have ai6:=hK.size
 have D1:∀b,gf=some b->w.heap.size<=b:=(λb hb=>by have:=gJ b hb;omega)
 refine gD<|gF rfl<|aQ<|zr<|zm<|dZ bh rfl<|jz rfl rfl rfl rfl rfl<|zm<|xw (t:=42) rfl (λh3=>?_) (λh3=>?_)
 replace h3:=bw h3
 have kS:0<xs.length:=(by simp at h3;omega)
 refine zm<|aC (mI 4 de de br q om w3 h) ?_
 rintro v44 w4 ⟨⟨z,e44,hz⟩,h,jT⟩
 subst e44
 have aG:=aG.trans jT
 have hO:=hO.aO jT (λb hb aZ=>by have:=D1 b hb;simp at aZ;omega)
 have ai6:=aG.size
 refine jz rfl rfl rfl rfl rfl<|zp rfl<|ag<|zc rfl (λh4=>?_) (λh4=>?_)
 refine zr<|zm<|zm<|zm<|dZ bh rfl<|aC (mI xs.length kS om br (q+1) om w4 h) ?_
 rintro v51 w5 ⟨⟨z2,Ok,eO⟩,h,lB⟩
 subst Ok
 have aG:=aG.trans lB
 have hO:=hO.aO lB (λb hb aZ=>by have:=D1 b hb;simp at aZ;omega)
 have gh:=ou hO.rs eO
 obtain⟨b9,ov,e9,gq⟩:=gh
 cases e9
 have rZ:=yT _ (List.mem_of_getElem? (lp eO))
 refine zi bh bA rfl rfl eO<|zl cm rfl (gq.cells 0 _ rfl)<|zA<|ag<|aV ?_
 exact⟨_,rfl,⟨_,rfl,hs _ rZ⟩,h,aG⟩
 refine bz<|aQ<|zr<|zm<|cY rfl rfl<|ag<|zc rfl (λh5=>?_) (λh5=>?_)
 refine zr<|zm<|Su bh bA rfl rfl rfl rfl rfl rfl rfl rfl rfl rfl ?_
 intro w5 aU OL jr
 have h:=h.ext aU;have aG:=aG.ext aU
 refine aC (mo EE de de br (q+1) om _ w5 h (aY.eF EE OL (λhx=>by simp at hx;omega) de)) ?_
 rintro Jm w6 ⟨⟨x1,iM,Ev⟩,h,CV⟩
 subst Ev
 have aG:=(aG).trans CV
 have gi:=(show∀x,x∈EE->x.length<=8000 from by decide) _ iM
 refine zA<|ag<|aV ?_
 exact⟨_,rfl,⟨x1,rfl,gi⟩,h.more om,aG⟩
 refine bz<|zr<|zm<|aC (VZ want w4) ?_
 rintro v5 w5 ⟨ln,aU⟩
 have pJ:=aU.size
 have h:=h.ext aU;have aG:=aG.ext aU
 have eT:=ln
 obtain⟨x1,ok1,Hf,gi⟩:=eT
 subst Hf
 refine zm<|zx (i:=0) rfl rfl<|zx (i:=1) rfl rfl<|zA<|zA<|ag<|aQ<|zr<|zm<|eM rfl<|ag<|zc rfl (λh6=>?_) (λh6=>?_)
 refine zr<|zA<|ag<|aV ?_
 exact⟨_,rfl,⟨[48],rfl,by decide⟩,h.more om,aG⟩
 refine bz<|zr<|zm<|zA<|ag<|aV ?_
 exact⟨_,rfl,⟨x1,rfl,gi⟩,h.more om,aG⟩
 replace h3:=bw h3
 have kS:xs.length=0:=om
 refine zs<|zs<|zs<|zp rfl<|ag<|zc rfl (λh7=>?_) (λh7=>?_)
 simp at h7
 refine bz<|aQ<|zr<|zm<|cY rfl rfl<|ag<|zc rfl (λh8=>?_) (λh8=>?_)
 refine zr<|zm<|Su bh bA rfl rfl rfl rfl rfl rfl rfl rfl rfl rfl ?_
 intro w4 aF OL iU
 have hK:=hK.ext aF;have h:=h.ext aF
 refine aC (mo EE de de br q om _ w4 h (aY.eF EE OL (λhx=>by simp at hx;omega) de)) ?_
 rintro Jm w5 ⟨⟨x1,iM,Ev⟩,h,CV⟩
 subst Ev
 have aG:=((hK.mono (L':=[br]) sm)).trans CV
 have gi:=(show∀x,x∈EE->x.length<=8000 from by decide) _ iM
 refine zA<|ag<|aV ?_
 exact⟨_,rfl,⟨x1,rfl,gi⟩,h.more om,aG⟩
 refine bz<|zr<|zm<|aC (VZ want w3) ?_
 rintro v4 w4 ⟨eJ,aF⟩
 have gK:=aF.size
 have hK:=hK.ext aF;have h:=h.ext aF
 have eT:=eJ
 obtain⟨x1,ok1,Hf,gi⟩:=eT
 subst Hf
 refine zm<|zx (i:=0) rfl rfl<|zx (i:=1) rfl rfl<|zA<|zA<|ag<|aQ<|zr<|zm<|eM rfl<|ag<|zc rfl (λh9=>?_) (λh9=>?_)
 refine zr<|zA<|ag<|aV ?_
 exact⟨_,rfl,⟨[48],rfl,by decide⟩,h.more om,(hK.mono (L':=[br]) sm)⟩
 refine bz<|zr<|zm<|zA<|ag<|aV ?_
 exact⟨_,rfl,⟨x1,rfl,gi⟩,h.more om,(hK.mono (L':=[br]) sm)⟩
end Go.Proofs.YtigijcjccmdmhaaGreatDoor
