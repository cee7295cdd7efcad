/- Lemmas for the law FnFind, no statement of their own: no conditions. -/
import Derived.Test.YtigijcjccmdmhaaGreatDoorFd
namespace Go.Proofs.YtigijcjccmdmhaaGreatDoor
open Go
variable {m:Mk} {s:da} {b c i k n off q sz x:Nat} {E G L L1:List Nat} {w w' w1 w2:World} {o:Bool} {P0:aj} {e f:Ex} {v:Value} {P:Pk} {vs:List Value} {T:Ty} {t:Tk} {rows:List (List C)} {bs:List Bk}
theorem afY {a:aj} (h:eO a=true):cF m s a=(m,kS s a):=by unfold cF;rw[iP h]
theorem Cn (m:Mk) (k:aj):(m.dG k).code.length=m.code.length:=rfl
theorem pt (m:Mk) (h:aj) (ps:List aj):(m.cY h ps).code.length=m.code.length+1:=by simp[Mk.cY]
def AL (s:da) (aX:List aj) (k:Nat):List aj:=(aX.take k).map λx=>bf (kS s x)
def yr (s:da) (aX:List aj) (k:Nat):List aj:=(aX.take k).map λx=>bL (kE s x)
theorem afZ {aX:List aj} (h:k<aX.length):AL s aX (k+1)=AL s aX k++[bf (kS s (aD aX k))]:=by
 unfold AL;rw[List.take_add_one,ll h];simp
theorem af0 {aX:List aj} (h:k<aX.length):yr s aX (k+1)=yr s aX k++[bL (kE s (aD aX k))]:=by
 unfold yr;rw[List.take_add_one,ll h];simp
theorem af1 {s:da} {aX:List aj}:(AL s aX k).length<=aX.length:=by unfold AL;rw[List.length_map,List.length_take];omega
theorem af2 {s:da} {aX:List aj}:(yr s aX k).length<=aX.length:=by unfold yr;rw[List.length_map,List.length_take];omega
theorem af3 (s:da) (aX:List aj):AL s aX aX.length=aX.map λx=>bf (kS s x):=by simp[AL]
theorem af4 (s:da) (aX:List aj):yr s aX aX.length=aX.map λx=>bL (kE s x):=by simp[yr]
theorem Nx {x:aj} (h:(look (fi s) x).isSome=true):nZ (ka s) (o6 s) x [] (ka s).length=(kE s x).text:=by
 have h1:=Tj x (fi s)
 rw[Ur,Us,Mf h] at h1
 have e:(fi s).length=(ka s).length:=by simp[fi,ka]
 rw[e] at h1
 exact h1
theorem gT.sZ {τ:sG} {vb vt vc vy:Value} {gb gt gc gy:Option Nat} (h:gT τ E L w b o vb vt vc vy gb gt gc gy m) (k:ak G w w') (hG:∀y,y∈G->y∈b::E) (hx:w.heap.size<=x) (uJ:x<w'.heap.size):gT τ (x::E) (x::L) w' b o vb vt vc vy gb gt gc gy m:=by
 obtain⟨a1,a2,a3,a4,a5,a6⟩:=h.apart
 have rP:∀x,x∈G->x∈L:=λx hx=>h.mem.2 (by rcases mC.1 (hG x hx) with h1|h1<;>simp[h1])
 have hF:Fr L w (x::L) w':=⟨k.mono rP,λy hy=>by
  rcases mC.1 hy with rfl|hy
  ·exact .inr hx
  ·exact .inl hy⟩
 have out:∀x,x∉E->x≠b->x∉G:=λx h1 h2 h3=>by
  rcases mC.1 (hG x h3) with h4|h4
  ·exact h2 h4
  ·exact h1 h4
 refine⟨h.bl.aO hF k (λx hx=>out x (a3 x hx).1 (a3 x hx).2),h.ta.aO hF k (λx hx=>out x (a4 x hx).1 (a4 x hx).2.1),?_,h.ty.aO k (λx hx=>out x (a6 x (by simp[hx])).1 (a6 x (by simp[hx])).2.1),by rw[h.eL];rfl,List.nodup_cons.2 ⟨λh2=>by have:=h.cZ _ h2;omega,h.nd⟩,λy hy=>?_⟩
 ·rcases h.co with⟨ho,h1⟩|⟨ho,hn,h1⟩
  ·exact .inl ⟨ho,h1.aO k λx hx=>out x (a5 x (by simp[hx])).1 (a5 x (by simp[hx])).2.1⟩
  ·exact .inr ⟨ho,hn,h1.go hF⟩
 ·rcases mC.1 hy with rfl|hy
  ·exact uJ
  ·exact lL (h.cZ y hy) k.size
theorem dZ.sZ {τ:sG} (h:dZ τ E L w b o m) (k:ak G w w') (hG:∀y,y∈G->y∈E) (hx:w.heap.size<=x) (uJ:x<w'.heap.size):dZ τ (x::E) (x::L) w' b o m:=by
 obtain⟨vb,vt,vc,vy,gb,gt,gc,gy,h1,h2⟩:=h
 exact⟨vb,vt,vc,vy,gb,gt,gc,gy,h1.aO k (λhx=>h2.apart.2.1 (hG b hx)),h2.sZ k (λx hx=>mK _ (hG x hx)) hx uJ⟩
theorem dZ.Uw {τ:sG}:∀{X L:List Nat},dZ τ (X++E) L w b o m->∃L',L=X++L'∧dZ τ E L' w b o m
 |[],L,h=>⟨L,rfl,h⟩
 |x::X,L,h=>by
  obtain⟨L1,e1,h1⟩:=dZ.drop (E:=X++E) h
  obtain⟨L2,e2,h2⟩:=dZ.Uw h1
  exact⟨L2,by rw[e1,e2];rfl,h2⟩
theorem dZ.nd {τ:sG} (h:dZ τ E L w b o m):L.Nodup:=by
 obtain⟨_,_,_,_,_,_,_,_,_,h2⟩:=h
 exact h2.nd
theorem dZ.sub {τ:sG} (h:dZ τ E L w b o m) (hx:x∈E):x∈L:=h.mem.1 x (mK _ hx)
structure qF (E L:List Nat) (w:World) (b:Nat) (m:Mk) (v1:Value) (g1:Option Nat) (rq:List aj) (v2:Value) (g2:Option Nat) (qG:List aj) (X L1:List Nat) (ww:World):Prop where
 mb:dZ t8 (X++E) L1 ww b true m
 fe:eP E L w L1 ww
 s1:dh ww 9 v1 g1 rq
 s2:dh ww 9 v2 g2 qG
 x1:∀x,x∈g1.toList->x∈X∧x∉g2.toList
 x2:∀x,x∈g2.toList->x∈X∧x∉g1.toList
 xE:∀x,x∈X->x∉E
def Co (E L:List Nat) (w:World) (b:Nat) (m:Mk) (v1:Value) (g1:Option Nat) (rq:List aj) (v2:Value) (g2:Option Nat) (qG:List aj) (ww:World):Prop:=∃X L1,qF E L w b m v1 g1 rq v2 g2 qG X L1 ww
section
variable {E L X L1 L2:List Nat} {w ww w':World} {b:Nat} {m:Mk} {v1 v2 v:Value} {g1 g2 g:Option Nat} {rq qG ys:List aj}
theorem qF.ext (h:qF E L w b m v1 g1 rq v2 g2 qG X L1 ww) (k:ak [] ww w'):qF E L w b m v1 g1 rq v2 g2 qG X L1 w':=⟨h.mb.ext k,h.fe.ext k,h.s1.ext k,h.s2.ext k,h.x1,h.x2,h.xE⟩
theorem qF.swap (h:qF E L w b m v1 g1 rq v2 g2 qG X L1 ww):qF E L w b m v2 g2 qG v1 g1 rq X L1 ww:=⟨h.mb,h.fe,h.s2,h.s1,h.x2,h.x1,h.xE⟩
theorem qF.Gx (h:qF E L w b m v1 g1 rq v2 g2 qG X L1 ww) (hO:dh w' 9 v g ys) (k:ak g1.toList ww w') (hg:g=g1∨∃x,g=some x∧ww.heap.size<=x):Co E L w b m v g ys v2 g2 qG w':=by
 have hX:∀x,x∈g1.toList->x∈X++E:=λx hx=>List.mem_append_left _ (h.x1 x hx).1
 have hL:∀x,x∈g1.toList->x∈L1:=λx hx=>h.mb.sub (hX x hx)
 have hF:eP E L w L1 w':=h.fe.add (Fr.of k hL) k λx hx=>h.xE x (h.x1 x hx).1
 have h2:dh w' 9 v2 g2 qG:=h.s2.aO k λx hx hy=>(h.x2 x (by simp[hx])).2 hy
 rcases hg with rfl|⟨x,rfl,hx⟩
 ·exact⟨X,L1,⟨h.mb.aO k hX,hF,hO,h2,h.x1,h.x2,h.xE⟩⟩
 ·have mI:x<w'.heap.size:=hO.lt x sm
  refine⟨x::X,x::L1,⟨h.mb.sZ k hX hx mI,⟨⟨hF.fr.aO,λy hy=>?_⟩,hF.out⟩,hO,h2,λy hy=>?_,λy hy=>?_,λy hy=>?_⟩⟩
  ·rcases mC.1 hy with rfl|hy
   ·exact .inr (Nat.le_trans h.fe.fr.aO.size hx)
   ·exact hF.fr.mem y hy
  ·have e:y=x:=by simpa using hy
   subst e
   exact⟨by simp,λhh=>by have:=h.s2.lt y hh;omega⟩
  ·refine⟨mK _ (h.x2 y hy).1,λhh=>?_⟩
   have e:y=x:=by simpa using hh
   subst e
   have:=h.s2.lt y hy;omega
  ·rcases mC.1 hy with rfl|hy
   ·intro hE
    have:=h.mb.dL y (h.mb.sub (mR _ hE));omega
   ·exact h.xE y hy
theorem qF.AA (h:qF E L w b m v1 g1 rq v2 g2 qG X L1 ww) (hO:dh w' 9 v g ys) (k:ak g2.toList ww w') (hg:g=g2∨∃x,g=some x∧ww.heap.size<=x):Co E L w b m v1 g1 rq v g ys w':=
 let⟨X,L1,h⟩:=h.swap.Gx hO k hg;⟨X,L1,h.swap⟩
theorem qF.call {m':Mk} (h:qF E L w b m v1 g1 rq v2 g2 qG X L1 ww) (hM:dZ t8 (X++E) L2 w' b true m') (k:eP (X++E) L1 ww L2 w'):qF E L w b m' v1 g1 rq v2 g2 qG X L2 w':=by
 obtain⟨G,kg,hG⟩:=k.out
 refine⟨hM,h.fe.add k.fr kg λx hx hE=>hG x hx (mR _ hE),h.s1.aO kg λx hx hy=>hG x hy (List.mem_append_left _ (h.x1 x (by simp[hx])).1),h.s2.aO kg λx hx hy=>hG x hy (List.mem_append_left _ (h.x2 x (by simp[hx])).1),h.x1,h.x2,h.xE⟩
theorem qF.done (h:qF E L w b m v1 g1 rq v2 g2 qG X L1 ww):∃L',dZ t8 E L' ww b true m∧eP E L w L' ww∧bI L' ww v1 rq∧bI L' ww v2 qG:=by
 obtain⟨L',e,h1⟩:=h.mb.Uw
 have jy:=h.mb.nd
 rw[e,List.nodup_append] at jy
 have hs:∀x,x∈L'->x∈L1:=λx hx=>by rw[e];exact mR _ hx
 exact⟨L',h1,⟨⟨h.fe.fr.aO,λx hx=>h.fe.fr.mem x (hs x hx)⟩,h.fe.out⟩,h.s1.rep λx hx hy=>jy.2.2 x (h.x1 x (by simp[hx])).1 x hy rfl,h.s2.rep λx hx hy=>jy.2.2 x (h.x2 x (by simp[hx])).1 x hy rfl⟩
theorem Co.start (h:dZ t8 E L w b true m) (k1:ak [] w w1) (aT:aY w1 w.heap.size #[] 9) (k2:ak [] w1 w2) (aZ:aY w2 w1.heap.size #[] 9):Co E L w b m (.slice (some ⟨w.heap.size,0,none⟩) 0 0) (some w.heap.size) [] (.slice (some ⟨w1.heap.size,0,none⟩) 0 0) (some w1.heap.size) [] w2:=by
 have h1:=aT.lt
 have h2:=aZ.lt
 have hl:=h.dL
 refine⟨[w1.heap.size,w.heap.size],w1.heap.size::w.heap.size::L,⟨(h.sZ (E:=E) k1 sm (lR _) h1).sZ k2 sm (lR _) h2,⟨⟨(k1.trans k2).any,λx hx=>?_⟩,[],k1.trans k2,sm⟩,(aT.ext k2).lp,aZ.lp,λx hx=>?_,λx hx=>?_,λx hx hE=>?_⟩⟩
 ·rcases mC.1 hx with rfl|hx
  ·right;omega
  ·rcases mC.1 hx with rfl|hx
   ·right;omega
   ·exact .inl hx
 ·simp at hx;subst hx;simp;omega
 ·simp at hx;subst hx;simp;omega
 ·have:=hl x (h.sub hE)
  simp at hx;rcases hx with rfl|rfl<;>omega
end
theorem og {a:Option Addr} {xs:List aj} (h:bI L w (.slice a n c) xs) (hi:i<xs.length):∃b off,a=some ⟨b,off,none⟩∧iZ L w b (off+i*1) [str (aD xs i)]:=by
 obtain⟨b,off,vs,ha,hb,hL,hl,hc,hr⟩:=yR h (Qm (ll hi))
 rw[Qn hr] at hc
 exact⟨b,off,ha,hc,hb,hL⟩
theorem mD {hd:aj} {ps:List aj} (hh:hd.length<=100) (hp:ps.length<=45) (hs:∀p,p∈ps->p.length<=20000):(bO hd ps).length<=1000000:=by
 have h1:=Al (m:=20000) ps hs
 have h2:ps.length*20001<=45*20001:=Nat.mul_le_mul hp (lR _)
 rw[lN];omega
theorem mj (h:n<1000):(bf n).length<=20000:=by have:=sL h;omega
def AM (s:da) (ton:Nat) (aX:List aj) (on:aj):List aj:=aX.map (λx=>bf (kS s x))++(if on≠[] then[bf ton] else[])
theorem af5 (hs:ku s) {ton:Nat} (ht:ton<1000) {aX:List aj} {on:aj}:∀p,p∈AM s ton aX on->p.length<=3:=λp hp=>by
 unfold AM at hp
 rcases mA.1 hp with hp|hp
 ·obtain⟨x,_,rfl⟩:=List.mem_map.1 hp
  exact sL (FB hs x)
 ·split at hp
  ·simp only[List.mem_singleton] at hp;rw[hp];exact sL ht
  ·simp at hp
theorem af6 (s:da) (ton:Nat) (aX:List aj) (on:aj):(AM s ton aX on).length<=aX.length+1:=by
 unfold AM
 rw[lA,List.length_map]
 split<;>simp
theorem af7 (m:Mk) (s:da) (ton:Nat) (aX:List aj) (on aP kind:aj) (cN:List aj) {R TY:List aj} {W C0:aj} {r:Nat} (hR:R=AM s ton aX on) (AN:TY=ma s aX on) (hW:W=bO [116] TY) (hC:C0=bO [99] (W::cN)) (hP:P0=bO [116] [C0,W]) (hr:r=m.types.length):
  o5 m s ton aX on aP kind cN=⟨(((((((m.dG W).cY l5 (bf r::R)).dG C0).cY sC [bf (r+1),aP]).dG P0).cY l5 [bf (r+2),bf (r+1),bf r]).dG kind).cY sD [bf (r+3),bf (r+2),kind,W],r+3,W⟩:=by
 subst hP;subst hC;subst hW;subst AN;subst hR;subst hr;rfl
set_option maxHeartbeats 4000000 in
theorem Ux (t:Tk) (m:Mk) (aX:List aj) (on aP kind:aj) (cN:List aj) (gK:∀x,x∈aX->eO x=true∧(look (fi t.sc) x).isSome=true) (hs:ku t.sc) (oW:t.sc.length<=9000) (oR:aX.length<=40) (rb:t.on<1000) (kM:on.length<=272) (FF:aP.length<=10) (wB:kind.length<=272) (eK:cN.length<=2) (Mb:∀x,x∈cN->x.length<=272) (ht:m.types.length+4<1000) (hc:m.code.length<=8000) 
  (E L:List Nat) (b bt:Nat) (vn vd:Value) (w:World) (h:dZ t8 E L w b true m) (hT:iq L w 130 bt t) (eT:bt∈E) (kf:bI L w vn aX) (tZ:bI L w vd cN):
  cj Tryz.prog 205 [.pointer (some ⟨b,0,none⟩),.pointer (some ⟨bt,0,none⟩),vn,str on,str aP,str kind,vd] w λr w'=>r= .tuple #[.int .i64 ((o5 m t.sc t.on aX on aP kind cN).r:Int),str (o5 m t.sc t.on aX on aP kind cN).w]∧∃L',dZ t8 E L' w' b true (o5 m t.sc t.on aX on aP kind cN).m∧eP E L w L' w':=by
 obtain⟨an,nn,cn,rfl,rf⟩:=eN kf
 obtain⟨ad,nd,cd,rfl,jy⟩:=eN tZ
 obtain⟨R,Gy⟩:∃x,x=AM t.sc t.on aX on:=⟨_,rfl⟩
 obtain⟨TY,AN⟩:∃x,x=ma t.sc aX on:=⟨_,rfl⟩
 obtain⟨W,hW⟩:∃x,x=bO [116] TY:=⟨_,rfl⟩
 obtain⟨C0,Jo⟩:∃x,x=bO [99] (W::cN):=⟨_,rfl⟩
 obtain⟨P0,sd⟩:∃x,x=bO [116] [C0,W]:=⟨_,rfl⟩
 obtain⟨r,Gz⟩:∃r,r=m.types.length:=⟨_,rfl⟩
 obtain⟨c,Ny⟩:∃c,c=m.code.length:=⟨_,rfl⟩
 have t0:m.types.length=r:=Gz.symm
 have c0:m.code.length=c:=Ny.symm
 rw[af7 m t.sc t.on aX on aP kind cN Gy AN hW Jo sd Gz]
 have hWl:W.length<=11200:=by rw[hW,AN];exact FC hs oR kM
 have hRl:R.length<=41:=by rw[Gy];have:=af6 t.sc t.on aX on;omega
 have PT:TY.length<=41:=by rw[AN];have:=Sq t.sc aX on;omega
 have Nz:∀p,p∈R->p.length<=3:=by rw[Gy];exact af5 hs rb
 have se:∀p,p∈TY->p.length<=272:=by rw[AN];exact Sr hs kM
 have hCl:C0.length<=12000:=by
  have h1:=Al cN Mb
  have h2:cN.length*(272+1)<=2*(272+1):=Nat.mul_le_mul eK (lR _)
  have h3:jZ (W::cN)=1+W.length+jZ cN:=by unfold jZ;simp;omega
  rw[Jo,lN,h3];simp only[lC,List.length_nil];omega
 have Jp:P0.length<=25000:=by rw[sd,lN,An];simp only[lC,List.length_nil];omega
 have af9:=h
 refine cV [.tmp 14,.tmp 15] 131 Tryz.func205 rfl YO rfl rfl ?_
 refine zr<|zA<|zA<|ag<|zr<|gN bh bA ?_
 intro w1 aK BH aeV
 have GA:=aK
 refine zA<|ag<|zr<|gN bh bA ?_
 intro w2 aq Cp aga
 have hP:=Co.start af9 GA BH aq Cp
 refine zA<|ag<|aQ<|zr<|zA<|ag<|cQ ?_
 refine fW (λq:Nat×(Value×Option Nat)×(Value×Option Nat)=>[(0,.pointer (some ⟨b,0,none⟩)),(1,.pointer (some ⟨bt,0,none⟩)),(2,.slice an nn cn),(3,str on),(4,str aP),(5,str kind),(6,.slice ad nd cd),(16,q.2.1.1),(17,q.2.2.1),(18,.int .i64 (q.1:Int))]) (λq w'=>Co E L w b m q.2.1.1 q.2.1.2 (AL t.sc aX q.1) q.2.2.1 q.2.2.2 (yr t.sc aX q.1) w'∧q.1<=aX.length) (λq=>aX.length-q.1) ((0,(.slice (some ⟨w.heap.size,0,none⟩) 0 0,some w.heap.size),(.slice (some ⟨w1.heap.size,0,none⟩) 0 0,some w1.heap.size))) (⟨rfl,rfl,rfl,rfl,rfl,rfl,rfl,rfl,rfl,rfl⟩) (⟨hP,sm⟩) ?_
 intro gg w3 e3 hI
 obtain⟨k,⟨vr,gr⟩,vt,gt⟩:=gg
 obtain⟨⟨X,L1,hX⟩,hk⟩:=hI
 dsimp only at hX hk
 refine aQ<|zr<|zm<|zm<|dX bh rfl<|fy rfl rfl rfl<|ag<|zc rfl (λh1=>?_) (λh1=>?_)
 have aq:k<aX.length:=(by simp at h1;omega)
 have hx:=ll aq
 have Cq:=List.mem_of_getElem? hx
 have mI:=DH (gK _ Cq).1
 have agb:=kf.go hX.fe.fr
 have dd:=hX.fe.tk hT eT
 have aR:=qR agb hx
 obtain⟨b1,fY,e1,bC⟩:=aR
 cases e1
 refine bz<|aQ<|cQ<|zr<|zm<|zm<|zm<|zm<|zm<|zi bh bA rfl rfl (by rw[rf];omega)<|zl ck rfl (bC 0 _ rfl)<|aC (zS (aD aX k) w3) ?_
 rintro v4 w4 ⟨eH,aF⟩
 have gI:=aF.size
 have hX:=hX.ext aF
 obtain rfl:=eH
 refine aC (Cm t (aD aX k) m om om om oW (X++E) L1 b bt _ _ _ w4 hX.mb (hX.fe.tk hT eT) (mR _ eT)) ?_
 rintro v41 w5 ⟨Uy,L2,Gu,jU⟩
 rw[afY (gK _ Cq).1] at Uy Gu
 subst Uy
 have hX:=hX.call Gu jU
 refine aC (iM (kS t.sc (aD aX k)+1) (kS t.sc (aD aX k)) om (by have:=FB hs (aD aX k);omega) w5) ?_
 rintro v6 w6 ⟨lu,bF⟩
 have oM:=bF.size
 have hX:=hX.ext bF
 obtain rfl:=lu
 refine gD bh bA rfl rfl ?_
 intro w7 cw agc qg
 have hX:=hX.ext cw
 refine rZ bh bA rfl rfl rfl rfl rfl rfl hX.s1 agc (by have:=af1 (s:=t.sc) (aX:=aX) (k:=k);omega) ?_
 intro v9 g9 w8 dJ cu fL
 rw[<-afZ aq] at dJ
 have aR:=hX.Gx dJ cu (fL.imp id (λh=>⟨_,h,lR _⟩))
 obtain⟨X2,L2,hX⟩:=aR
 have Uz:=hX
 have ga:∀x,x∈gt.toList->x∈L2:=(λx hx=>hX.mb.sub (List.mem_append_left _ (hX.x2 x hx).1))
 have aR:=hX.fe.tk hT eT
 obtain⟨u1,u3,u4,u5,u6,u8,yq,hC⟩:=aR
 have cA:fg gt.toList w8 bt [str t.aP,u1,.int .i64 (t.loads:Int),u3,u4,u5,u6,str t.expr.av.az,u8,.int .i64 (t.on:Int),str t.bm,.int .i64 (t.next:Int)].toArray 130:=⟨yq,λhx=>hX.xE bt (hX.x2 bt hx).1 eT⟩
 have FQ:bI gt.toList w8 u4 (ka t.sc):=bI.fresh hC.aX (λx hx=>.inl (ga x hx))
 have NA:bI gt.toList w8 u6 (o6 t.sc):=bI.fresh hC.types (λx hx=>.inl (ga x hx))
 have yt:bI gt.toList w8 (.slice (some ⟨b1,fY,none⟩) nn cn) aX:=bI.fresh (kf.go hX.fe.fr) (λx hx=>.inl (ga x hx))
 have aR:=og yt aq
 obtain⟨b2,ni,e2,bX⟩:=aR
 cases e2
 have pX:fu gt.toList w8:=(λx hx=>hX.s2.lt x hx)
 refine zA<|ag ?_
 apply kc ei gt.toList 17 (rA 45 17) (rA 45 17) [[],[],[1],[2],[3],[],[5],[6],[7],[],[],[9,10],[11],[4,8,12],[13],[14],[0,15]] [Ie.v _,Ie.v _,Ie.v _,Ie.v _,Ie.v _,Ie.v _,Ie.v _,Ie.v _,Ie.v _,Ie.v _,Ie.v _,Ie.v _,Ie.v _,Ie.v _,Ie.v _,Ie.p (fun(G:List Nat) (v:Value) (ww:World)=>∃bb,v= .slice (some ⟨bb,0,none⟩) 1 1∧fg G ww bb [str (bL (kE t.sc (aD aX k)))].toArray 9),Ie.e 0] [16] [fun(G:List Nat) (vs:List Value) (ww:World)=>G=gt.toList∧ak [] w8 ww,fun(G:List Nat) (vs:List Value) (ww:World)=>∃g2,dh ww 9 (vs.getD 0 undef) g2 (yr t.sc aX (k+1))∧ak gt.toList w8 ww∧(g2=gt∨∃x,g2=some x∧w8.heap.size<=x)] de rfl pX (by exact⟨λG v w G' w' ⟨bb,e,h⟩ k=>⟨bb,e,h.go k⟩,trivial⟩) (by exact⟨λG vs w w' ⟨h1,h2⟩ k=>⟨h1,h2.ext k⟩,λG vs w w' ⟨g2,h1,h2,h3⟩ k=>⟨g2,h1.ext k,h2.ext k,h3⟩,trivial⟩) (⟨rfl,ak.refl _ _⟩)
 refine cR ?_
 refine cR ?_
 refine vf (λ_ _ _ _ _ _=>di rfl fv) ?_
 refine vf (λ_ _ _ _ _ _=>zf zo rfl fv) ?_
 refine vf (λx w9 G9 aW df lf=>?_) ?_
 have cA:=cA.go df
 refine zl eQ rfl (cA.at rfl) ?_
 exact fv
 refine cR ?_
 refine vf (λ_ _ _ _ _ _=>di rfl fv) ?_
 refine vf (λ_ _ _ _ _ _=>zf C8 rfl fv) ?_
 refine vf (λx w9 G9 aW df lf=>?_) ?_
 have cA:=cA.go df
 refine zl eQ rfl (cA.at rfl) ?_
 exact fv
 refine cR ?_
 refine cR ?_
 refine vf (λ_ _ _ _ _ _=>zi bh bA rfl rfl (by rw[rf];omega) fv) ?_
 refine vf (λx w9 G9 aW df lf=>?_) ?_
 have bX:=bX.go df
 refine zl ck rfl (bX.cells 0 _ rfl) ?_
 exact fv
 refine vf (λx w9 G9 aW df lf=>?_) ?_
 have FQ:=FQ.go df;have NA:=NA.go df
 refine aC (FV (ka t.sc) (o6 t.sc) (by simp[ka,o6]) (by simp[ka];omega) (aD aX k) _ _ _ _ w9 FQ NA) ?_
 rintro v10 cM ⟨rm,bU⟩
 have B8:=bU.size
 obtain rfl:=rm
 exact fk bU
 refine vf (λx w9 G9 aW df lf=>?_) ?_
 refine aC ((Nx (gK _ Cq).2▸vw (kE t.sc (aD aX k)) (by have:=Ip hs (aD aX k);omega) w9)) ?_
 rintro v10 cM ⟨rm,bU⟩
 have B8:=bU.size
 obtain rfl:=rm
 exact fk bU
 refine vf (λx w9 G9 aW df lf=>?_) ?_
 refine gD bh bA rfl rfl ?_
 intro cM bU GB Bp
 exact ff bU (⟨_,rfl,GB.o lf⟩)
 refine ve 0 (λx w9 G9 aW df lf hJ hlen=>?_) ?_
 have bo:=jP hlen
 subst bo
 intro vm d15
 obtain⟨bb,e6,gw⟩:=d15
 subst e6
 obtain⟨cz,cB⟩:=hJ
 subst cz
 have agd:=Uz.s2.ext cB
 refine rZ bh bA rfl rfl rfl rfl rfl rfl agd gw.jv (by have:=af2 (s:=t.sc) (aX:=aX) (k:=k);omega) ?_
 intro v9 g9 cM dJ aG fL
 rw[<-af0 aq] at dJ
 exact fe g9.toList (⟨aG,λx hx=>by rcases fL with h|h;(·rw[h] at hx;exact .inl hx);(·rw[h] at hx;simp at hx;right;omega)⟩) ((λx hx=>dJ.lt x hx)) (⟨g9,dJ,cB.any.trans aG,fL.imp id (λh=>⟨_,h,cB.size⟩)⟩)
 exact trivial
 intro x j1 D0 aW wN Gd hJ hlen
 have aR:=jQ hlen
 obtain⟨q0,bo⟩:=aR
 subst bo
 intro vm d15
 change OW _ _ _ _ _ (aM (aN _ x _) (zZ 45 [_,_,_,_,_,_,_,_,_,_,_,_,_,_,_,_,_])) _
 obtain⟨g2,dJ,aG,fL⟩:=hJ
 have NB:=Uz.AA dJ aG fL
 refine zA<|ag<|db<|zm<|eF rfl rfl rfl (wrap_i64 _ om om)<|zA<|ag ?_
 exact⟨(k+1,(_,_),(_,g2)),⟨rfl,rfl,rfl,rfl,rfl,rfl,rfl,rfl,rfl,rfl⟩,⟨NB,by show k+1<=_;omega⟩,by show aX.length-(k+1)<aX.length-k;omega⟩
 have fl:k=aX.length:=(by simp at h1;omega)
 subst fl
 rw[af3,af4] at hX
 refine gB<|gC rfl<|aQ<|zr<|zm<|jG rfl rfl rfl rfl<|ag ?_
 refine jg (λq:(Value×Option Nat)×(Value×Option Nat)=>[(0,.pointer (some ⟨b,0,none⟩)),(4,str aP),(5,str kind),(6,.slice ad nd cd),(16,q.1.1),(17,q.2.1)]) (λq ww=>Co E L w b m q.1.1 q.1.2 R q.2.1 q.2.2 TY ww) ?_ ?_
 refine zc rfl (λh2=>?_) (λh2=>?_)
 have GC:on≠[]:=(by simpa using h2)
 have NC:aX.map (λx=>bf (kS t.sc x))++[bf t.on]=R:=(by rw[Gy];unfold AM;rw[iP GC])
 have ND:aX.map (λx=>bL (kE t.sc x))++[on]=TY:=(by rw[AN];unfold ma;rw[iP GC])
 have aR:=hX.fe.tk hT eT
 obtain⟨u1,u3,u4,u5,u6,u8,yq,hC⟩:=aR
 have cA:aY w3 bt [str t.aP,u1,.int .i64 (t.loads:Int),u3,u4,u5,u6,str t.expr.av.az,u8,.int .i64 (t.on:Int),str t.bm,.int .i64 (t.next:Int)].toArray 130:=yq
 refine zr<|zm<|zm<|di rfl<|zf HC rfl<|zl qN rfl (cA.at rfl)<|aC (iM (t.on+1) t.on om om w3) ?_
 rintro v4 w4 ⟨eH,aF⟩
 have gI:=aF.size
 have hX:=hX.ext aF
 obtain rfl:=eH
 refine gD bh bA rfl rfl ?_
 intro w5 aU NF jo
 have hX:=hX.ext aU
 refine rZ bh bA rfl rfl rfl rfl rfl rfl hX.s1 NF so ?_
 intro v9 g9 w6 dJ bF fL
 rw[NC] at dJ
 have aR:=hX.Gx dJ bF (fL.imp id (λh=>⟨_,h,lR _⟩))
 obtain⟨X3,L3,hX⟩:=aR
 refine zA<|ag<|db<|zm<|zm<|gD bh bA rfl rfl ?_
 intro w7 cw NH qg
 have hX:=hX.ext cw
 refine rZ bh bA rfl rfl rfl rfl rfl rfl hX.s2 NH so ?_
 intro v10 g10 w8 UA cu age
 rw[ND] at UA
 have NB:=hX.AA UA cu (age.imp id (λh=>⟨_,h,lR _⟩))
 refine zA<|ag ?_
 exact⟨((_,g9),(_,g10)),⟨rfl,rfl,rfl,rfl,rfl,rfl⟩,NB⟩
 have GC:¬on≠[]:=(by simpa using h2)
 have NC:aX.map (λx=>bf (kS t.sc x))=R:=(by rw[Gy];unfold AM;rw[iN GC,List.append_nil])
 have ND:aX.map (λx=>bL (kE t.sc x))=TY:=(by rw[AN];unfold ma;rw[iN GC,List.append_nil])
 rw[NC,ND] at hX
 refine bz ?_
 exact⟨((_,_),(_,_)),⟨rfl,rfl,rfl,rfl,rfl,rfl⟩,_,_,hX⟩
 intro gu w4 e4 hI
 obtain⟨⟨vr2,gr2⟩,BN,gt2⟩:=gu
 dsimp only at hI⊢
 obtain⟨X2,L2,hX2⟩:=hI
 have aR:=hX2.done
 obtain⟨L0,aw,hR,yu,fC⟩:=aR
 refine zr<|zm<|aC ((show cj Tryz.prog 75 [str [116],BN] w4 (λr w'=>r=str W∧ak [] w4 w') from by rw[hW];exact xJ [116] TY (by rw[<-hW];omega) _ _ w4 fC)) ?_
 rintro v5 w5 ⟨lk,aU⟩
 have pD:=aU.size
 have aw:=aw.ext aU;have hR:=hR.ext aU;have yu:=yu.ext aU
 obtain rfl:=lk
 refine zA<|ag<|zr<|zm<|zm<|aC (r8 W m om E L0 b true w5 aw) ?_
 rintro v10 w6 ⟨gq,L1,aw,bY⟩
 rw[t0] at gq
 subst gq
 have hR:=hR.go bY
 have iK:∃x,x=m.dG W:=⟨_,rfl⟩
 obtain⟨m1,lS⟩:=iK
 rw[<-lS] at aw
 have t1:m1.types.length=r+1:=(by rw[lS,xZ];omega)
 have c1:m1.code.length=c+0:=(by rw[lS,Cn];omega)
 have dB:=aw.dL
 have yu:=yu.go bY.fr
 refine zA<|ag<|zr<|zm<|zm<|aC (iM (r+1) r om om w6) ?_
 rintro v7 w7 ⟨iT,cw⟩
 have pb:=cw.size
 have aw:=aw.ext cw;have hR:=hR.ext cw;have yu:=yu.ext cw
 obtain rfl:=iT
 have dB:=aw.dL
 refine gD bh bA rfl rfl ?_
 intro w8 cu Ee mn
 have aw:=aw.ext cu;have hR:=hR.ext cu;have yu:=yu.ext cu
 refine zm<|aC (tP [bf r] R so _ _ L1 w8 (aY.eD [bf r] Ee (λhx=>by have:=dB _ hx;omega)) yu aw.dL) ?_
 rintro v9 w9 ⟨eR,aG⟩
 have pd:=aG.size
 have aw:=aw.ext aG;have hR:=hR.ext aG;have Ee:=Ee.ext aG
 have UB:=eR
 have aR:=eN UB
 obtain⟨a13,n13,c13,Gw,_⟩:=aR
 subst Gw
 clear Ee
 refine aC (lh l5 ([bf r]++R) (mD de so (by intro p hp;rcases mA.1 hp with hp|hp;(·simp at hp;subst hp;exact mj om);(·have:=Nz p hp;omega))) m1 om E L1 b _ w9 aw UB) ?_
 rintro jV cM ⟨L2,aw,bY⟩
 have hR:=hR.go bY
 have fF:∃x,x=m1.cY l5 ([bf r]++R):=⟨_,rfl⟩
 obtain⟨m2,lT⟩:=fF
 rw[<-lT] at aw
 have t2:m2.types.length=r+1:=(by rw[lT,oL];omega)
 have c2:m2.code.length=c+1:=(by rw[lT,pt];omega)
 have dB:=aw.dL
 have NI:=tZ.go hR.fr
 refine ag<|zr<|zm<|gD bh bA rfl rfl ?_
 intro eW cK Jq uC
 have aw:=aw.ext cK;have hR:=hR.ext cK;have NI:=NI.ext cK
 refine zm<|aC (tP [W] cN so _ _ L2 eW (aY.eD [W] Jq (λhx=>by have:=dB _ hx;omega)) NI aw.dL) ?_
 rintro v12 gh ⟨sW,dC⟩
 have D4:=dC.size
 have aw:=aw.ext dC;have hR:=hR.ext dC;have Jq:=Jq.ext dC
 have UC:=sW
 have aR:=eN UC
 obtain⟨a14,n14,c14,ic,_⟩:=aR
 subst ic
 clear Jq
 refine aC ((show cj Tryz.prog 75 [str [99],.slice a14 n14 c14] gh (λr w'=>r=str C0∧ak [] gh w') from by rw[Jo];exact xJ [99] (W::cN) (by rw[<-Jo];omega) _ _ gh UC)) ?_
 rintro wL jD ⟨vB,fK⟩
 have Gt:=fK.size
 have aw:=aw.ext fK;have hR:=hR.ext fK
 obtain rfl:=vB
 refine zA<|ag<|zr<|zm<|zm<|aC (r8 C0 m2 om E L2 b true jD aw) ?_
 rintro v10 je ⟨gq,L3,aw,bY⟩
 rw[t2] at gq
 subst gq
 have hR:=hR.go bY
 have yv:∃x,x=m2.dG C0:=⟨_,rfl⟩
 obtain⟨m3,lU⟩:=yv
 rw[<-lU] at aw
 have t3:m3.types.length=r+2:=(by rw[lU,xZ];omega)
 have c3:m3.code.length=c+1:=(by rw[lU,Cn];omega)
 have dB:=aw.dL
 refine zA<|ag<|zr<|zm<|zm<|aC (iM ((r+1)+1) (r+1) om om je) ?_
 rintro vm p6 ⟨Cr,jE⟩
 have NJ:=jE.size
 have aw:=aw.ext jE;have hR:=hR.ext jE
 obtain rfl:=Cr
 have dB:=aw.dL
 refine zm<|ln bh bA rfl rfl rfl rfl ?_
 intro lQ kX Cs F5
 have aw:=aw.ext kX;have hR:=hR.ext kX
 refine aC (lh sC [bf (r+1),aP] (mD de sm (by intro p hp;simp at hp;rcases hp with rfl|rfl;(·exact mj om);(·omega))) m3 om E L3 b _ lQ aw (aY.eD [bf (r+1),aP] Cs (λhx=>by have:=dB _ hx;omega))) ?_
 rintro jV vC ⟨L4,aw,bY⟩
 have hR:=hR.go bY
 clear Cs
 have Ct:∃x,x=m3.cY sC [bf (r+1),aP]:=⟨_,rfl⟩
 obtain⟨m4,oQ⟩:=Ct
 rw[<-oQ] at aw
 have t4:m4.types.length=r+2:=(by rw[oQ,oL];omega)
 have c4:m4.code.length=c+2:=(by rw[oQ,pt];omega)
 have dB:=aw.dL
 refine ag<|zr<|zm<|zm<|zm<|ln bh bA rfl rfl rfl rfl ?_
 intro wX ua Jr Nf
 have aw:=aw.ext ua;have hR:=hR.ext ua
 refine aC ((show cj Tryz.prog 75 [str [116],_] wX (λr w'=>r=str P0∧ak [] wX w') from by rw[sd];exact xJ [116] [C0,W] (by rw[<-sd];omega) _ L4 wX (aY.eD [C0,W] Jr (λhx=>by have:=dB _ hx;omega)))) ?_
 rintro Gp Cu ⟨agk,vE⟩
 have amI:=vE.size
 have aw:=aw.ext vE;have hR:=hR.ext vE;have Jr:=Jr.ext vE
 obtain rfl:=agk
 clear Jr
 refine aC (r8 P0 m4 om E L4 b true Cu aw) ?_
 rintro v10 vF ⟨gq,L5,aw,bY⟩
 rw[t4] at gq
 subst gq
 have hR:=hR.go bY
 have NK:∃x,x=m4.dG P0:=⟨_,rfl⟩
 obtain⟨m5,yw⟩:=NK
 rw[<-yw] at aw
 have t5:m5.types.length=r+3:=(by rw[yw,xZ];omega)
 have c5:m5.code.length=c+2:=(by rw[yw,Cn];omega)
 have dB:=aw.dL
 refine zA<|ag<|zr<|zm<|zm<|aC (iM ((r+2)+1) (r+2) om om vF) ?_
 rintro v21 rr ⟨agl,vG⟩
 have amJ:=vG.size
 have aw:=aw.ext vG;have hR:=hR.ext vG
 obtain rfl:=agl
 have dB:=aw.dL
 refine zm<|aC (iM ((r+1)+1) (r+1) om om rr) ?_
 rintro GD Ef ⟨agm,Eg⟩
 have amK:=Eg.size
 have aw:=aw.ext Eg;have hR:=hR.ext Eg
 obtain rfl:=agm
 have dB:=aw.dL
 refine zm<|aC (iM (r+1) r om om Ef) ?_
 rintro M0 UD ⟨agn,GF⟩
 have amL:=GF.size
 have aw:=aw.ext GF;have hR:=hR.ext GF
 obtain rfl:=agn
 have dB:=aw.dL
 refine pO bh bA rfl rfl rfl rfl rfl ?_
 intro w24 yx Jt agp
 have aw:=aw.ext yx;have hR:=hR.ext yx
 refine aC (lh l5 [bf (r+2),bf (r+1),bf r] (mD de sm (by intro p hp;simp at hp;rcases hp with rfl|rfl|rfl<;>exact mj om)) m5 om E L5 b _ w24 aw (aY.eD [bf (r+2),bf (r+1),bf r] Jt (λhx=>by have:=dB _ hx;omega))) ?_
 rintro jV w25 ⟨L6,aw,bY⟩
 have hR:=hR.go bY
 clear Jt
 have NL:∃x,x=m5.cY l5 [bf (r+2),bf (r+1),bf r]:=⟨_,rfl⟩
 obtain⟨m6,yy⟩:=NL
 rw[<-yy] at aw
 have t6:m6.types.length=r+3:=(by rw[yy,oL];omega)
 have c6:m6.code.length=c+3:=(by rw[yy,pt];omega)
 have dB:=aw.dL
 refine ag<|zr<|zm<|zm<|aC (r8 kind m6 om E L6 b true w25 aw) ?_
 rintro v10 w26 ⟨gq,L7,aw,bY⟩
 rw[t6] at gq
 subst gq
 have hR:=hR.go bY
 have hx7:∃x,x=m6.dG kind:=⟨_,rfl⟩
 obtain⟨m7,Ju⟩:=hx7
 rw[<-Ju] at aw
 have t7:m7.types.length=r+4:=(by rw[Ju,xZ];omega)
 have c7:m7.code.length=c+3:=(by rw[Ju,Cn];omega)
 have dB:=aw.dL
 refine zA<|ag<|zr<|zm<|zm<|aC (iM ((r+3)+1) (r+3) om om w26) ?_
 rintro v27 w27 ⟨agu,NM⟩
 have amM:=NM.size
 have aw:=aw.ext NM;have hR:=hR.ext NM
 obtain rfl:=agu
 have dB:=aw.dL
 refine zm<|aC (iM ((r+2)+1) (r+2) om om w27) ?_
 rintro v28 w28 ⟨agv,NN⟩
 have amO:=NN.size
 have aw:=aw.ext NN;have hR:=hR.ext NN
 obtain rfl:=agv
 have dB:=aw.dL
 refine zm<|zm<|xX bh bA rfl rfl rfl rfl rfl rfl ?_
 intro w29 UE UF IW
 have aw:=aw.ext UE;have hR:=hR.ext UE
 refine aC (lh sD [bf (r+3),bf (r+2),kind,W] (mD de sm (by intro p hp;simp at hp;rcases hp with rfl|rfl|rfl|rfl;(·exact mj om);(·exact mj om);(·omega);(·omega))) m7 om E L7 b _ w29 aw (aY.eD [bf (r+3),bf (r+2),kind,W] UF (λhx=>by have:=dB _ hx;omega))) ?_
 rintro jV w30 ⟨L8,aw,bY⟩
 have hR:=hR.go bY
 clear UF
 have UG:∃x,x=m7.cY sD [bf (r+3),bf (r+2),kind,W]:=⟨_,rfl⟩
 obtain⟨m8,Jv⟩:=UG
 rw[<-Jv] at aw
 have t8:m8.types.length=r+4:=(by rw[Jv,oL];omega)
 have c8:m8.code.length=c+4:=(by rw[Jv,pt];omega)
 have dB:=aw.dL
 refine ag<|zr<|zm<|zm<|zA<|zA<|ag<|aV ?_
 subst Jv Ju yy yw oQ lU lT lS
 exact⟨_,rfl,rfl,_,aw,hR⟩
theorem UH {aX:List aj} (h:i<aX.length):iO s k (aX.take (i+1)) []=iO s k (aX.take i) []++[(aD aX i,k+i,kE s (aD aX i))]:=by
 unfold iO
 rw[List.take_add_one,ll h]
 simp only[Option.toList_some,List.nil_append,List.zipIdx_append,List.map_append,List.length_take,List.zipIdx_singleton,List.map_cons,List.map_nil]
 rw[Nat.min_eq_left (Nat.le_of_lt h),Nat.zero_add]
def qH:Ex:=.bi [43] (.at [49]) (.at [50])
def Jw:aj:=[40,43,32,49,32,50,41]
theorem agx:nS qH=some qH:=rfl
theorem NO:qH.ok:=by refine⟨by decide,?_,?_⟩<;>(show ql _=true;decide+kernel)
theorem UI:qH.av.text=Jw:=by decide+kernel
theorem UJ:ba Jw=some qH.av:=by
 rw[<-UI]
 exact K6 (Ex.wf NO) (by decide+kernel) (by decide+kernel)
theorem type12:bM qH []=some .i:=by rfl
theorem agy:(ofM qH .i).wide=false:=by decide+kernel
theorem agz:jL (ofM qH .i).blocks=true:=by decide+kernel
theorem agA {x:aj} (e:Ex):Fv x e->eO x=true:=by
 induction e with
 |«at» s=>exact λh=>h.2
 |un hd a ih=>exact ih
 |bi hd a b i1 i2=>exact λh=>h.elim i1 i2
 |ite a b c i1 i2 i3=>exact λh=>h.elim i1 λh=>h.elim i2 i3
 |lt y a b i1 i2=>exact λh=>h.elim i1 λh=>i2 h.2
 |fn f y A B e ih=>exact λh=>ih h.2.2
theorem UK {bd:List aj} {x:aj} (h:x∈cE e bd []):eO x=true:=by
 rcases(qm x e bd []).1 h with h|h
 ·simp at h
 ·exact agA _ h.1
theorem UL (x0:ByteArray) (a1:Option Addr) (n1 c1:Nat) (x2:Int) (x7:ByteArray) (a8:Option Addr) (n8 c8:Nat) (x9:Int) (Eh:ByteArray) (UM:Int) (w:World):(Instr.build 130 #[(0,.string x0),(1,.slice a1 n1 c1),(2,.int .i64 x2),(7,.agg #[.string x7,.slice a8 n8 c8]),(8,.int .i64 x9),(9,.string Eh),(10,.int .i64 UM)]).run Tryz.prog w= .ok (.agg #[.string x0,.slice a1 n1 c1,.int .i64 x2,.slice none 0 0,.slice none 0 0,.slice none 0 0,.slice none 0 0,.string x7,.slice a8 n8 c8,.int .i64 x9,.string Eh,.int .i64 UM]) w:=by kernel_rfl
def s0 (X G:List Nat) (w:World) (v:Value) (xs:List aj):Prop:=bI (X++G) w v xs
theorem s0.go {X G':List Nat} {xs:List aj} (h:s0 X G w v xs) (k:Fr G w G' w'):s0 X G' w' v xs:=bI.go h (k.in X)
theorem Jx {X:List Nat} {w0:World} (h:∀x,x∈X->x<w0.heap.size) (hs:w0.heap.size<=w.heap.size) (hG:fu G w):∀x,x∈X++G->x<w.heap.size:=λx hx=>by
 rcases mA.1 hx with h1|h1
 ·exact lL (h x h1) hs
 ·exact hG x h1
theorem eP.more (h:eP E L w L1 w1) (k:ak G w1 w2) (hG:∀y,y∈G->w1.heap.size<=y) (hx:w1.heap.size<=x) (hE:∀y,y∈E->y<w1.heap.size):eP E L w (x::L1) w2:=by
 have k2:ak [] w1 w2:=(ak.refl [] w1).since k λy hy=>.inr (hG y hy)
 have h1:=h.ext k2
 exact⟨⟨h1.fr.aO,λy hy=>by
  rcases mC.1 hy with rfl|hy
  ·exact .inr (Nat.le_trans h.fr.aO.size hx)
  ·exact h.fr.mem y hy⟩,h1.out⟩
theorem eP.sub {L2:List Nat} (h:eP E L w L1 w1) (hs:∀x,x∈L2->x∈L1):eP E L w L2 w1:=⟨⟨h.fr.aO,λx hx=>h.fr.mem x (hs x hx)⟩,h.out⟩
def ub (aP:aj) (W:aj) (nd:List aj) (FR:List aj) (rest:Ex) (bm:aj) (sc:da):Tk:=⟨aP,W::nd,FR.length+1,[],sc,rest,2+FR.length,bm,2⟩
theorem agB (m:Mk) (s:da) (ton:Nat) (bm name:aj) (kind:Ty) (rest:Ex) {FR:List aj} (hF:FR=cE rest [name] []) (hP:P=o5 m.lK s ton FR bm m.aP (dV (bL kind)) [bL kind]):
  tH m s ton bm name kind rest=({P.m with bW:=m.bW++[ub m.aP P.w [bL kind] FR rest bm (iO s 2 FR []++[(name,1,kind)])]},P.r,dV (bL kind)):=by
 subst hP;subst hF;rfl
theorem UN {ton:Nat} {aX:List aj} {on aP kind:aj} {cN:List aj} (hP:P=o5 m.lK s ton aX on aP kind cN):P.m.bW=m.bW∧P.r=m.types.length+3∧P.w=bO [116] (ma s aX on):=by
 subst hP;exact⟨rfl,rfl,rfl⟩
set_option maxHeartbeats 4000000 in
theorem UO (t:Tk) (m:Mk) (name:aj) (kind:Ty) (rest:Ex) (bD:rest.ok) (ri:rest.n<=1000) (sM:∀x,x∈cE rest [name] []->(look (fi t.sc) x).isSome=true) (o7:(cE rest [name] []).length<=40) (hs:ku t.sc) (oW:t.sc.length<=9000) (hk:kind.n<=16) (rb:t.on<1000) (kM:t.bm.length<=272) (ht:m.types.length+4<1000) (hc:m.code.length<=8000) (wY:m.count<1000) (gv:m.bW.length<100000) 
  (E L:List Nat) (b bt:Nat) (v:Value) (w:World) (h:dZ t8 E L w b true m) (hT:iq L w 130 bt t) (eT:bt∈E) (hv:bS L w v rest.av):
  cj Tryz.prog 183 [.pointer (some ⟨b,0,none⟩),.pointer (some ⟨bt,0,none⟩),str name,str kind.text,v] w λr w'=>∃L',dZ t8 E L' w' b true (tH m t.sc t.on t.bm name kind rest).1∧iq L' w' 130 bt {t with on:=(tH m t.sc t.on t.bm name kind rest).2.1,bm:=(tH m t.sc t.on t.bm name kind rest).2.2}∧Fr L w L' w'∧∃G,ak G w w'∧∀z,z∈G->z∈E->z=bt:=by
 obtain⟨ar,nr,cr,rfl,p9,bc⟩:=dM hv
 have lV:=h.dL
 obtain⟨FR,yA⟩:∃x,x=cE rest [name] []:=⟨_,rfl⟩
 obtain⟨P,hP⟩:∃x,x=o5 m.lK t.sc t.on FR t.bm m.aP (dV (bL kind)) [bL kind]:=⟨_,rfl⟩
 rw[agB m t.sc t.on t.bm name kind rest yA hP]
 obtain⟨GG,AO,hPw⟩:=UN hP
 rw[<-yA] at o7 sM
 have gK:∀x,x∈FR->eO x=true∧(look (fi t.sc) x).isSome=true:=λx hx=>⟨UK (by rw[<-yA];exact hx),sM x hx⟩
 have gP:=pP hk
 have oR:=tM hk
 have Cv:=Ao wY
 have hK:=ak.refl [] w
 have wZ:b∉E:=h.mem.2.2.1
 have Ei:b∈L:=h.mem.1 b sm
 refine cV [] 109 Tryz.func183 rfl YE rfl rfl ?_
 refine zr<|fE rfl ?_
 intro w1 aK cT dY
 have hK:=hK.ext aK
 refine ag<|zr<|zL bT aH rfl cT.all rfl<|zm<|gD bh bA rfl rfl ?_
 intro w2 aq sX eM
 have hK:=hK.ext aq;have cT:=cT.ext aq
 refine gN bh bA ?_
 intro w3 aJ va iH
 have hK:=hK.ext aJ;have cT:=cT.ext aJ;have sX:=sX.ext aJ
 refine aC (IL rest.n rest (lR _) ri bD [name] [] so so _ _ _ (some w2.heap.size) w3 ((hv.fresh (L':=[w2.heap.size]) (λx hx=>.inr (by simp at hx;omega))).ext hK) (aY.eD [name] sX (λhx=>by simp at hx;omega)) va.lp) ?_
 rintro GD w4 ⟨g22,GH,ug⟩
 rw[<-yA] at GH
 have ke:ak [] w w4:=(hK.since ug.aO (λx hx=>.inr (by simp at hx;omega)))
 have NP:∀x,x∈g22.toList->w.heap.size<=x:=(λx hx=>by rcases ug.mem x hx with h9|h9;(·simp at h9;omega);(·omega))
 have iD:bI L w4 GD FR:=GH.rep (λx hx NQ=>by have:=NP x (by simp[hx]);have:=lV x NQ;omega)
 have aR:=eN iD
 obtain⟨NR,n22,NS,NT,NU⟩:=aR
 subst NT
 subst NU
 have cT:fg L w4 w.heap.size [str rest.av.az,.slice ar nr cr].toArray 66:=⟨cT.aO ug.aO so,λhx=>by have:=lV _ hx;omega⟩
 have aw:=h.ext ke
 have hR:=(eP.refl E L w).ext ke
 clear sX va
 refine zA<|ag<|zr<|zm<|aC (Nt m om E L b true w4 aw) ?_
 rintro v24 w5 ⟨⟨NV,aw⟩,yx⟩
 subst NV
 have hR:=hR.aL yx Ei wZ
 have iD:=cD.aL iD yx (by simpa using Ei)
 have cT:=cT.aL yx (by simpa using Ei)
 refine zA<|ag<|zr<|zm<|aC (vw kind om w5) ?_
 rintro v6 w6 ⟨lu,bF⟩
 have oM:=bF.size
 have cT:=cT.ext bF;have aw:=aw.ext bF;have hR:=hR.ext bF;have iD:=iD.ext bF
 obtain rfl:=lu
 refine aC (Gq (bL kind) om w6) ?_
 rintro v7 w7 ⟨iT,cw⟩
 have pb:=cw.size
 have cT:=cT.ext cw;have aw:=aw.ext cw;have hR:=hR.ext cw;have iD:=iD.ext cw
 obtain rfl:=iT
 have dB:=aw.dL
 refine zA<|ag<|zr<|zm<|aC (vw kind om w7) ?_
 rintro v8 w8 ⟨p3,cu⟩
 have Ay:=cu.size
 have cT:=cT.ext cu;have aw:=aw.ext cu;have hR:=hR.ext cu;have iD:=iD.ext cu
 obtain rfl:=p3
 have dB:=aw.dL
 refine gD bh bA rfl rfl ?_
 intro w9 aG AP dN
 have cT:=cT.ext aG;have aw:=aw.ext aG;have hR:=hR.ext aG;have iD:=iD.ext aG
 refine zA<|ag<|zr<|zm<|zm<|zm<|zm<|di rfl<|zf KB rfl ?_
 have tZ:bI L w9 _ [bL kind]:=aY.eD [bL kind] AP (λhx=>by have:=dB _ hx;omega)
 have aR:=hR.tk hT eT
 obtain⟨u1,u3,u4,u5,u6,u8,yq,hC⟩:=aR
 have cA:aY w9 bt [str t.aP,u1,.int .i64 (t.loads:Int),u3,u4,u5,u6,str t.expr.av.az,u8,.int .i64 (t.on:Int),str t.bm,.int .i64 (t.next:Int)].toArray 130:=yq
 refine zl ck rfl (cA.at rfl)<|zm<|zm<|zm<|aC (Ux t m.lK FR t.bm m.aP (dV (bL kind)) [bL kind] gK hs oW o7 rb kM om om sm (by intro x hx;simp at hx;subst hx;omega) ht hc E L b bt _ _ w9 aw (hR.tk hT eT) eT iD tZ) ?_
 rintro v42 cM ⟨yd,L1,aw,bY⟩
 rw[<-hP] at yd aw
 subst yd
 have hR:=hR.go bY;have iD:=iD.go bY.fr;have tZ:=tZ.go bY.fr;have cT:=cT.go bY.fr
 have agF:fg [] cM w.heap.size [str rest.av.az,.slice ar nr cr].toArray 66:=⟨cT.jv,sm⟩
 have yt:s0 L1 [] cM _ [bL kind]:=(by unfold s0;rw[List.append_nil];exact tZ)
 have aR:=hR.tk hT eT
 obtain⟨u1,u3,u4,u5,u6,u8,yq,hC⟩:=aR
 have cA:fg [] cM bt [str t.aP,u1,.int .i64 (t.loads:Int),u3,u4,u5,u6,str t.expr.av.az,u8,.int .i64 (t.on:Int),str t.bm,.int .i64 (t.next:Int)].toArray 130:=⟨yq,sm⟩
 have uh:=aw.dL
 have amQ:=cT
 have cT:=agF
 have GI:=iD
 have mh:=aw
 have tX:=hR
 clear AP
 refine zm<|zx (i:=0) rfl rfl<|zx (i:=1) rfl rfl<|zA<|zA<|ag<|aQ ?_
 apply kc ei ([]) 18 (rA 45 17++[16]) (rA 45 17++[16]) [[],[],[1],[],[2,3],[],[5],[6],[],[],[9],[10],[],[12],[13],[14],[0,4,7,8,11,15],[]] [Ie.v _,Ie.v _,Ie.p (fun(G:List Nat) (v:Value) (ww:World)=>s0 L1 G ww v [P.w]),Ie.v _,Ie.p (fun(G:List Nat) (v:Value) (ww:World)=>s0 L1 G ww v ([P.w]++[bL kind])),Ie.v _,Ie.v _,Ie.v _,Ie.v _,Ie.v _,Ie.v _,Ie.v _,Ie.v _,Ie.v _,Ie.v _,Ie.v _,Ie.p (fun(G:List Nat) (v:Value) (ww:World)=>∃a4 n4 c4,v= .agg [str m.aP,.slice a4 n4 c4,.int .i64 ((FR.length+1:Nat):Int),.slice none 0 0,.slice none 0 0,.slice none 0 0,.slice none 0 0,str rest.av.az,.slice ar nr cr,.int .i64 ((2+FR.length:Nat):Int),str t.bm,.int .i64 2].toArray∧s0 L1 G ww (.slice a4 n4 c4) ([P.w]++[bL kind])),Ie.e 0] [17] [fun(G:List Nat) (vs:List Value) (ww:World)=>G=[]∧ak [] cM ww,fun(G:List Nat) (vs:List Value) (ww:World)=>∃bb,vs.getD 0 undef= .pointer (some ⟨bb,0,none⟩)∧G=[bb]∧cM.heap.size<=bb∧aY ww bb [str [],.slice none 0 0,.int .i64 0,.slice none 0 0,.slice none 0 0,.slice none 0 0,.slice none 0 0,str [],.slice none 0 0,.int .i64 0,str [],.int .i64 0].toArray 130∧ak [] cM ww] de rfl ((λx hx=>by simp at hx)) (by exact⟨λG v w G' w' h k=>h.go k,λG v w G' w' h k=>h.go k,λG v w G' w' ⟨a4,n4,c4,e,h⟩ k=>⟨a4,n4,c4,e,h.go k⟩,trivial⟩) (by exact⟨λG vs w w' ⟨h1,h2⟩ k=>⟨h1,h2.ext k⟩,λG vs w w' ⟨bb,h1,h2,h3,h4,h5⟩ k=>⟨bb,h1,h2,h3,h4.ext k,h5.ext k⟩,trivial⟩) (⟨rfl,ak.refl _ _⟩)
 refine cR ?_
 refine cR ?_
 refine vf (λx eW GJ aW xd Cw=>?_) ?_
 refine gD bh bA rfl rfl ?_
 intro gh dC agG Nj
 exact ff dC ((aY.eD [P.w] agG (λhx=>by have:=Jx uh xd.aO.size Cw _ hx;omega)))
 refine cR ?_
 refine vf (λx eW GJ aW xd Cw=>?_) ?_
 have yt:=yt.go xd
 intro v2 d2
 have fh:=Jx uh xd.aO.size Cw
 refine aC (tP [P.w] [bL kind] sm _ _ _ eW d2 yt fh) ?_
 rintro v12 gh ⟨sW,dC⟩
 have D4:=dC.size
 have eR:=sW
 exact ff dC eR
 refine cR ?_
 refine vf (λ_ _ _ _ _ _=>dX bh rfl fv) ?_
 refine vf (λ_ _ _ _ _ _=>eF rfl rfl rfl (wrap_i64 _ om om) fv) ?_
 refine vf (λx eW GJ aW xd Cw=>?_) ?_
 have cT:=cT.go xd
 refine zL bT aH rfl cT.all rfl ?_
 exact fv
 refine cR ?_
 refine vf (λ_ _ _ _ _ _=>dX bh rfl fv) ?_
 refine vf (λ_ _ _ _ _ _=>eF rfl rfl rfl (wrap_i64 _ om om) fv) ?_
 refine cR ?_
 refine vf (λ_ _ _ _ _ _=>di rfl fv) ?_
 refine vf (λ_ _ _ _ _ _=>zf KB rfl fv) ?_
 refine vf (λx eW GJ aW xd Cw=>?_) ?_
 have cA:=cA.go xd
 refine zl ck rfl (cA.at rfl) ?_
 exact fv
 refine vf (λx eW GJ aW xd Cw=>?_) ?_
 intro v4 d4
 have aR:=eN d4
 obtain⟨a4,n4,c4,e4,_⟩:=aR
 subst e4
 refine j5 (UL _ _ _ _ _ _ _ _ _ _ _ _ _) rfl rfl ?_
 exact ff (ak.refl _ _) (⟨a4,n4,c4,rfl,d4⟩)
 refine ve 0 (λx eW GJ aW xd Cw hJ hlen=>?_) ?_
 have bo:=jP hlen
 subst bo
 obtain⟨cz,cB⟩:=hJ
 subst cz
 refine eA k7 rfl rfl rfl ?_
 intro gh dC wc F5
 exact fe ([_]) (⟨dC.mono sm,λx hx=>by simp at hx;right;omega⟩) ((λx hx=>by simp at hx;omega)) (⟨_,rfl,rfl,cB.size,wc,cB.trans dC⟩)
 exact trivial
 intro x oc G50 aW agH amS hJ hlen
 have aR:=jQ hlen
 obtain⟨q0,bo⟩:=aR
 subst bo
 intro v2 d2
 intro v4 d4
 intro yj d16
 have cA:=cA.go agH
 change OW _ _ _ _ _ (aM (aN _ x _) (zZ 45 [_,_,_,_,_,_,_,_,_,_,_,_,_,_,_,_,_]++[(16,_)])) _
 obtain⟨bk,r6,cz,Cx,fx,cB⟩:=hJ
 have vq:q0=_:=r6
 subst vq
 subst cz
 obtain⟨a4,n4,c4,AQ,NW⟩:=d16
 subst AQ
 refine du k7 rfl rfl rfl fx rfl ?_
 intro lO ly fx dN
 have iE:=fx.lt
 have yB:=cB.since ly (λx hx=>.inr (by simp at hx;omega))
 have aw:=mh.sZ yB sm Cx iE
 have hR:=tX.more yB sm Cx (λy hy=>uh y (mh.sub hy))
 have NX:∀x,x∈bk::L1->x∈L1++[bk]:=(λx hx=>by simp at hx⊢;rcases hx with h|h;(·exact .inr h);(·exact .inl h))
 have vH:bk∈bk::L1:=sm
 have Ej:bk∉E:=(λhx=>by have:=uh bk (mh.sub hx);omega)
 have iD:=(GI.fresh (L':=bk::L1) (λx hx=>by rcases mC.1 hx with rfl|hx;(·exact .inr Cx);(·exact .inl hx))).ext yB
 have AG:=fG.go bc hR.fr
 have gx:iq (bk::L1) lO 130 bk (ub m.aP P.w [bL kind] FR rest t.bm (iO t.sc 2 (FR.take 0) [])):=⟨_,_,_,_,_,_,fx,⟨(cD.aL NW ly sm).fresh (λx hx=>.inl (NX x hx)),.nil _ _ _,.nil _ _ _,.nil _ _ _,.nil _ _ _,AG⟩⟩
 refine ag<|aQ<|zr<|zA<|ag<|cQ ?_
 refine fW (λi:Nat=>[(0,.pointer (some ⟨b,0,none⟩)),(1,.pointer (some ⟨bt,0,none⟩)),(2,str name),(3,str kind.text),(10,.slice NR FR.length NS),(12,str (dV (bL kind))),(14,.int .i64 (P.r:Int)),(16,.pointer (some ⟨bk,0,none⟩)),(17,.int .i64 (i:Int))]) (λi w'=>ak [bk] lO w'∧i<=FR.length∧iq (bk::L1) w' 130 bk (ub m.aP P.w [bL kind] FR rest t.bm (iO t.sc 2 (FR.take i) []))) (λi=>FR.length-i) (0) (⟨rfl,rfl,rfl,rfl,rfl,rfl,rfl,rfl,rfl⟩) (⟨ak.refl _ _,Nat.zero_le _,gx⟩) ?_
 intro gg AI Jy hI
 obtain⟨dk,hi,gx⟩:=hI
 have aw:=aw.aO dk sm
 have hR:=hR.aL dk vH Ej
 have iD:=cD.aL iD dk sm
 refine aQ<|zr<|zm<|zm<|dX bh rfl<|fy rfl rfl rfl<|ag<|zc rfl (λh1=>?_) (λh1=>?_)
 have lg:gg<FR.length:=(by simp at h1;omega)
 have Cq:=List.mem_of_getElem? (ll lg)
 have aR:=hR.tk hT eT
 obtain⟨u1,u3,u4,u5,u6,u8,cA,hC⟩:=aR
 have Cy:=hC.aX
 have Cz:=hC.types
 have aR:=og iD lg
 obtain⟨b2,ni,e2,bX⟩:=aR
 cases e2
 have Nc:=aw.dL
 refine bz<|aQ<|cQ ?_
 apply mq ei 19 (rA 68 19) (rA 68 19) [[],[],[0,1],[2],[],[4],[],[6],[7],[8],[],[10],[11],[12],[],[],[14,15],[16],[9,13,17]] [It.v _,It.v _,It.v _,It.v _,It.v _,It.v _,It.v _,It.v _,It.v _,It.v _,It.v _,It.v _,It.v _,It.v _,It.v _,It.v _,It.v _,It.v _,It.v _] de rfl
 intro wd aB
 refine eI ?_
 refine eI ?_
 refine vk aB (λx mi pq=>?_) ?_
 refine zi bh bA rfl rfl om ?_
 exact pv
 refine vk aB (λx mi pq=>?_) ?_
 have bX:=bX.ext pq
 refine zl ck rfl (bX.cells 0 _ rfl) ?_
 exact pv
 refine eI ?_
 refine vk aB (λx mi pq=>?_) ?_
 refine eF rfl rfl rfl (wrap_i64 _ om om) ?_
 exact pv
 refine eI ?_
 refine vk aB (λx mi pq=>?_) ?_
 refine di rfl ?_
 exact pv
 refine vc (λ_ _ _=>zf zo rfl pv) ?_
 refine vk aB (λx mi pq=>?_) ?_
 have cA:=cA.ext pq
 refine zl eQ rfl (cA.at rfl) ?_
 exact pv
 refine eI ?_
 refine vk aB (λx mi pq=>?_) ?_
 refine di rfl ?_
 exact pv
 refine vc (λ_ _ _=>zf C8 rfl pv) ?_
 refine vk aB (λx mi pq=>?_) ?_
 have cA:=cA.ext pq
 refine zl eQ rfl (cA.at rfl) ?_
 exact pv
 refine eI ?_
 refine eI ?_
 refine vk aB (λx mi pq=>?_) ?_
 refine zi bh bA rfl rfl om ?_
 exact pv
 refine vk aB (λx mi pq=>?_) ?_
 have bX:=bX.ext pq
 refine zl ck rfl (bX.cells 0 _ rfl) ?_
 exact pv
 refine vk aB (λx mi pq=>?_) ?_
 have Cy:=Cy.ext pq;have Cz:=Cz.ext pq
 refine aC (FV (ka t.sc) (o6 t.sc) (by simp[ka,o6]) (by simp[ka];omega) (aD FR gg) _ _ _ _ mi Cy Cz) ?_
 rintro v54 ui ⟨agI,AR⟩
 have amU:=AR.size
 have eR:=agI
 rw[Nx (gK _ Cq).2] at eR
 subst eR
 exact pk AR
 exact trivial
 intro x B9 vj
 have aw:=aw.ext vj;have gx:=gx.ext vj;have dk:=dk.ext vj
 change OW _ _ _ _ _ (aM (aN _ x _) (zZ 68 [_,_,_,_,_,_,_,_,_,_,_,_,_,_,_,_,_,_,_])) _
 refine aC (Ed (ub m.aP P.w [bL kind] FR rest t.bm (iO t.sc 2 (FR.take gg) [])) (aD FR gg) (2+gg) (kE t.sc (aD FR gg)) (by show(iO t.sc 2 (FR.take gg) []).length<100000;rw[xY,List.length_take];omega) (bk::L1) bk B9 vH aw.dL gx) ?_
 rintro v87 w93 ⟨gx,mE⟩
 have agK:=mE.size
 refine ag<|db<|zm<|eF rfl rfl rfl (wrap_i64 _ om om)<|zA<|ag ?_
 exact⟨gg+1,⟨rfl,rfl,rfl,rfl,rfl,rfl,rfl,rfl,rfl⟩,⟨dk.trans mE,om,by rw[UH lg];exact gx⟩,om⟩
 have Ac:gg=FR.length:=(by simp at h1;omega)
 subst Ac
 rw[List.take_length] at gx
 refine gB<|gC rfl<|zr<|zm<|zm<|aC (Ed (ub m.aP P.w [bL kind] FR rest t.bm (iO t.sc 2 FR [])) name 1 kind (by show(iO t.sc 2 FR []).length<100000;rw[xY];omega) (bk::L1) bk AI vH aw.dL gx) ?_
 rintro v90 mi ⟨gx,tR⟩
 have aw:=aw.aO tR sm
 have hR:=hR.aL tR vH Ej
 have gx:iq (bk::L1) mi 130 bk (ub m.aP P.w [bL kind] FR rest t.bm (iO t.sc 2 FR []++[(name,1,kind)])):=gx
 have Jp:P.m.bW.length<100000:=(by rw[GG];exact gv)
 have aR:=aw.open
 obtain⟨vb,vt,vc,vy,gb,gt,gc,gy,tU,hS⟩:=aR
 have aR:=hS.apart
 obtain⟨yp,nD,vz,mB,vA,tW⟩:=aR
 obtain⟨u1,u3,u4,u5,u6,u8,GK,s5⟩:=gx
 have bj:fg gt.toList mi b [vb,vt,.int .i64 ((P.m).count:Int),.bool (P.m).wide,vc,vy].toArray 127:=⟨tU,λhx=>(mB b hx).2.1 rfl⟩
 have fx:fg gt.toList mi bk (pM (ub m.aP P.w [bL kind] FR rest t.bm (iO t.sc 2 FR []++[(name,1,kind)])) u1 u3 u4 u5 u6 u8).toArray 130:=⟨GK,λhx=>(mB bk hx).1 sm⟩
 have pX:fu gt.toList mi:=(λx hx=>hS.cZ x (hS.mem.2 (by simp[hx])))
 have AS:∀x,x∈gt.toList->x∈(bk::L1):=(λx hx=>hS.mem.2 (by simp[hx]))
 refine ag<|aQ ?_
 apply kc ei gt.toList 8 (rA 91 8) (rA 91 8) [[],[],[1],[2],[3],[],[5],[4,6]] [Ie.v _,Ie.v _,Ie.v _,Ie.v _,Ie.v _,Ie.v _,Ie.p (fun(G:List Nat) (v:Value) (ww:World)=>∃bb,v= .slice (some ⟨bb,0,none⟩) 1 1∧fg G ww bb (pM (ub m.aP P.w [bL kind] FR rest t.bm (iO t.sc 2 FR []++[(name,1,kind)])) u1 u3 u4 u5 u6 u8).toArray 130),Ie.e 0] [7] [fun(G:List Nat) (vs:List Value) (ww:World)=>G=gt.toList∧ak [] mi ww,fun(G:List Nat) (vs:List Value) (ww:World)=>∃g2,eC (gt.toList++(g2.toList++(bk::L1))) ww 130 12 (vs.getD 0 undef) g2 (((P.m).bW++[(ub m.aP P.w [bL kind] FR rest t.bm (iO t.sc 2 FR []++[(name,1,kind)]))]).map Tk.enc)∧ak gt.toList mi ww∧(g2=gt∨∃x,g2=some x∧mi.heap.size<=x)] de rfl pX (by exact⟨λG v w G' w' ⟨bb,e,h⟩ k=>⟨bb,e,h.go k⟩,trivial⟩) (by exact⟨λG vs w w' ⟨h1,h2⟩ k=>⟨h1,h2.ext k⟩,λG vs w w' ⟨g2,h1,h2,h3⟩ k=>⟨g2,h1.ext k,h2.ext k,h3⟩,trivial⟩) (⟨rfl,ak.refl _ _⟩)
 refine cR ?_
 refine cR ?_
 refine vf (λ_ _ _ _ _ _=>di rfl fv) ?_
 refine vf (λ_ _ _ _ _ _=>zf zk rfl fv) ?_
 refine vf (λx ui NY aW GL Jz=>?_) ?_
 have bj:=bj.go GL
 refine zl EY rfl (bj.at rfl) ?_
 exact fv
 refine vf (λx ui NY aW GL Jz=>?_) ?_
 have fx:=fx.go GL
 refine zL C5 k7 rfl fx.all rfl ?_
 exact fv
 refine vf (λx ui NY aW GL Jz=>?_) ?_
 refine sA [_] [pM (ub m.aP P.w [bL kind] FR rest t.bm (iO t.sc 2 FR []++[(name,1,kind)])) u1 u3 u4 u5 u6 u8] xA k7 rfl rfl rfl rfl rfl rfl rfl rfl rfl ?_
 intro JA xe GM UP
 exact ff xe (⟨_,rfl,GM.o Jz⟩)
 refine ve 0 (λx ui NY aW GL Jz hJ hlen=>?_) ?_
 have bo:=jP hlen
 subst bo
 intro v6 d6
 obtain⟨bb,e6,gw⟩:=d6
 subst e6
 obtain⟨cz,cB⟩:=hJ
 subst cz
 have xU:=(hS.ta.any cB).sub (L':=gt.toList++(bk::L1)) (λx hx=>.inl (by rcases mA.1 hx with h|h;(·exact AS x h);(·exact h)))
 have AT:=s5.ext cB
 refine BM (L:=(bk::L1)) (row:=Tk.enc (ub m.aP P.w [bL kind] FR rest t.bm (iO t.sc 2 FR []++[(name,1,kind)]))) xA k7 rfl rfl rfl rfl rfl rfl xU rfl gw.all (λu hu=>List.all_eq_true.1 AT.one u hu) (AT.go ((Fr.refl _ _).to (L2:=gt.toList++(bk::L1)) (λx hx=>.inl (by rcases mA.1 hx with h|h;(·exact AS x h);(·exact h))))).Bz (by rw[List.length_map];omega) ?_
 intro v9 g9 JA dJ tY fL
 exact fe g9.toList (⟨tY.aO,λx hx=>by rcases fL with h|h;(·rw[h] at hx;exact .inl hx);(·rw[h] at hx;simp at hx;right;omega)⟩) ((λx hx=>dJ.lt x hx)) (⟨g9,by rw[List.map_append];exact dJ,cB.any.trans tY.aO,fL.imp id (λh=>⟨_,h,cB.size⟩)⟩)
 exact trivial
 intro x w93 G93 aW agM amW hJ hlen
 have aR:=jQ hlen
 obtain⟨q0,bo⟩:=aR
 subst bo
 intro v6 d6
 have bj:=bj.go agM
 change OW _ _ _ _ _ (aM (aN _ x _) (zZ 91 [_,_,_,_,_,_,_,_])) _
 obtain⟨g2,dJ,fl,iy⟩:=hJ
 have aR:=hS.Fa dJ fl iy
 obtain⟨L3,gi,jU⟩:=aR
 have aR:=dJ.len
 obtain⟨a3,c3,e3⟩:=aR
 have e4:q0=_:=e3
 subst e4
 have bj:aY _ b [vb,vt,.int .i64 ((P.m).count:Int),.bool (P.m).wide,vc,vy].toArray 127:=tU.aO fl (λhx=>(mB b hx).2.1 rfl)
 refine di rfl<|zf zk rfl<|gW (o:=1) KF rfl rfl rfl bj rfl ?_
 intro w94 UQ bj dN
 have gi:=gi.aO UQ sm
 have aw:dZ t8 (bk::E) L3 w94 b true {P.m with bW:=(P.m).bW++[(ub m.aP P.w [bL kind] FR rest t.bm (iO t.sc 2 FR []++[(name,1,kind)]))]}:=⟨_,_,_,_,_,_,_,_,bj,gi⟩
 have hR:=(hR.add jU fl (λx hx vI=>(mB x hx).1 (by simp[vI]))).aL UQ (gi.mem.2 (.inr (.inl rfl))) (λvI=>nD (by simp[vI]))
 rw[GG] at aw
 have aR:=aw.drop
 obtain⟨L4,NZ,aw⟩:=aR
 have hR:=hR.sub (L2:=L4) (λx hx=>by rw[NZ];simp[hx])
 have aR:=hR.tk hT eT
 obtain⟨u1,u3,u4,u5,u6,u8,cA,hC⟩:=aR
 have yC:=aw.sub eT
 refine ag<|zr<|zm<|zm<|di rfl<|zf HC rfl<|gW (o:=9) tq rfl rfl rfl cA rfl ?_
 intro Ek s8 cA dN
 have hC:=hC.aL s8 (by simpa using yC)
 have aw:=aw.aO s8 (by simpa using eT)
 have hF:=hR.fr.aL s8 (by simpa using yC)
 have tQ:=hR.out
 obtain⟨G0,gL,Gv⟩:=tQ
 have gL:ak (G0++[bt]) w Ek:=(gL.mono (λz hz=>List.mem_append_left _ hz)).trans (s8.mono (λz hz=>mR _ hz))
 refine ag<|db<|zm<|zm<|di rfl<|zf KB rfl<|gW (o:=10) bA rfl rfl rfl cA rfl ?_
 intro GN AU cA dN
 have hC:=hC.aL AU (by simpa using yC)
 have aw:=aw.aO AU (by simpa using eT)
 have hF:=hF.aL AU (by simpa using yC)
 have gL:=gL.trans (AU.mono (λz hz=>mR _ hz))
 refine ag ?_
 exact⟨_,rfl,L4,aw,⟨u1,u3,u4,u5,u6,u8,cA,⟨hC.regs,hC.self,hC.aX,hC.at_,hC.types,hC.au⟩⟩,hF,_,gL,λz hz sf=>by rcases mA.1 hz with h9|h9;(·exact absurd sf (Gv z h9));(·simpa using h9)⟩
def ru (aP:aj) (W:aj) (nd:List aj) (FR:List aj) (e:Ex) (bm:aj) (self:List aj) (sc:da):Tk:=⟨aP,W::nd,FR.length,self,sc,e,2,bm,3⟩
def sh (s:da) (FR:List aj) (f:aj) (A B:Ty) (e:Ex):da:=if 0<im f e then iO s 3 FR []++[(f,3+FR.length+2,.op true A B)] else iO s 3 FR []
def uj (f:aj) (A B:Ty) (e:Ex) (W:aj):List aj:=if 0<im f e then[bL (.op true A B),W] else[]
theorem agO (m:Mk) (s:da) (ton:Nat) (f x:aj) (A B:Ty) (e:Ex) {FR:List aj} (hF:FR=cE (.fn f x A B e) [] []) (hP:P=o5 m.lK s ton FR [] m.aP (bL (.op true A B)) [bL A,dV (bL B)]):
  Aa m s f x A B e=({P.m with bW:=m.bW++[ru m.aP P.w [bL A,dV (bL B)] FR e (dV (bL B)) (uj f A B e P.w) (sh s FR f A B e++[(x,1,A)])]},P.r):=by
 have h1:oF m s f x A B e=P:=by rw[hP,hF];unfold oF;simp[o5]
 have h2:P.m.bW=m.bW:=by rw[hP];rfl
 unfold Aa z8 z7
 rw[h1,h2,<-hF];rfl
theorem agP (t:Tk) (x:aj) (r:Nat) (T:Ty) (s:aj) (hs:s=T.text) (hl:t.sc.length<100000) (L:List Nat) (bt:Nat) (w:World) (qV:bt∈L) (lP:∀x,x∈L->x<w.heap.size) (hT:iq L w 130 bt t):
  cj Tryz.prog 149 [.pointer (some ⟨bt,0,none⟩),str x,.int .i64 (r:Int),str s] w λ_ w'=>iq L w' 130 bt {t with sc:=t.sc++[(x,r,T)]}∧ak [bt] w w':=by subst hs;exact Ed t x r T hl L bt w qV lP hT
theorem agQ (h:iZ L w b off vs):iZ [] w b off vs:=⟨h.cells,h.lt,sm⟩
set_option maxHeartbeats 4000000 in
theorem agR (t:Tk) (m:Mk) (f ax:aj) (A B:Ty) (e:Ex) (bD:(Ex.fn f ax A B e).ok) (ri:(Ex.fn f ax A B e).n<=1000) (sM:∀y,y∈cE (.fn f ax A B e) [] []->(look (fi t.sc) y).isSome=true) (o7:(cE (.fn f ax A B e) [] []).length<=40) (hs:ku t.sc) (oW:t.sc.length<=9000) (Ap:1+A.n+B.n<=16) (rb:t.on<1000) (ht:m.types.length+4<1000) (hc:m.code.length<=8000) (wY:m.count<1000) (gv:m.bW.length<100000) 
  (E L:List Nat) (b bt:Nat) (v:Value) (w:World) (h:dZ t8 E L w b true m) (hT:iq L w 130 bt t) (eT:bt∈E) (hv:bS L w v (Ex.fn f ax A B e).av):
  cj Tryz.prog 185 [.pointer (some ⟨b,0,none⟩),.pointer (some ⟨bt,0,none⟩),v] w λr w'=>r= .int .i64 ((Aa m t.sc f ax A B e).2:Int)∧∃L',dZ t8 E L' w' b true (Aa m t.sc f ax A B e).1∧eP E L w L' w':=by
 obtain⟨ar,nr,cr,rfl,p9,bc⟩:=dM hv
 subst p9
 have lV:=h.dL
 obtain⟨FR,yA⟩:∃z:List aj,z=cE (.fn f ax A B e) [] []:=⟨_,rfl⟩
 obtain⟨P,hP⟩:∃z:Pk,z=o5 m.lK t.sc t.on FR [] m.aP (bL (.op true A B)) [bL A,dV (bL B)]:=⟨_,rfl⟩
 rw[agO m t.sc t.on f ax A B e yA hP]
 obtain⟨GG,AO,hPw⟩:=UN hP
 rw[<-yA] at o7 sM
 have gK:∀x,x∈FR->eO x=true∧(look (fi t.sc) x).isSome=true:=λx hx=>⟨UK (by rw[<-yA];exact hx),sM x hx⟩
 obtain⟨GO,hox,agT,hoA,hoB,UR⟩:=bD
 have kA:=pP (T:=A) om
 have rv:=tM (T:=B) om
 have amX:=pP (T:=B) om
 have JB:=pP (T:=Ty.op true A B) (show 1+A.n+B.n<=16 from Ap)
 have Cv:=Ao wY
 have UT:=A.len
 have UU:=B.len
 have amY:A.av.text.length<=100:=show A.text.length<=100 from by omega
 have amZ:B.av.text.length<=100:=show B.text.length<=100 from by omega
 have hzA:=A.size
 have hzB:=B.size
 have wJ:(Ex.fn f ax A B e).n=3+A.n+B.n+e.n:=rfl
 have pR:((((([40,62,32]:aj)++A.text)++[32])++B.text)++[41])=(Ty.op true A B).text:=by rw[Ty.HX];simp[kq]
 have I1:(Ex.fn f ax A B e).av.au.length=6:=rfl
 have hK:=ak.refl [] w
 have wZ:b∉E:=h.mem.2.2.1
 have Ei:b∈L:=h.mem.1 b sm
 have hR:=eP.refl E L w
 obtain⟨b1,fY,gX,gY,e1,bC,dd⟩:=fI bc (i:=1) om
 cases e1
 have bC:iZ L w _ _ [str f,.slice gX 0 gY]:=bC
 obtain⟨b2,ni,jb,jc,e2,bX,et⟩:=fI bc (i:=2) om
 cases e2
 have bX:iZ L w _ _ [str ax,.slice jb 0 jc]:=bX
 obtain⟨b3,B2,pT,pU,e3,er,eY⟩:=fI bc (i:=3) om
 cases e3
 have eY:bS L _ _ A.av:=eY
 obtain⟨b4,afq,Mz,MA,e4,jJ,pV⟩:=fI bc (i:=4) om
 cases e4
 have pV:bS L _ _ B.av:=pV
 obtain⟨b5,afr,Ea,Eb,e5,jY,nz⟩:=fI bc (i:=5) om
 cases e5
 have jY:iZ L w _ _ [str e.av.az,.slice Ea e.av.au.length Eb]:=jY
 have nz:bS L w (.agg #[str e.av.az,.slice Ea e.av.au.length Eb]) e.av:=nz
 have dA:bS L w _ (Ex.fn f ax A B e).av:=hv
 have hSF:∀w:World,cj Tryz.prog 111 [str ((((([40,62,32]:aj)++A.text)++[32])++B.text)++[41])] w λr w'=>r=str (bL (.op true A B))∧ak [] w w':=λw=>by rw[pR];exact vw (.op true A B) (show 1+A.n+B.n<=60 from om) w
 refine cV [.tmp 6] 139 Tryz.func185 rfl YG rfl rfl ?_
 refine zr<|fE rfl ?_
 intro w1 aK bP dY
 have hK:=hK.ext aK;have hR:=hR.ext aK
 refine zA<|ag<|zr<|zf cL rfl<|zl cI rfl (bP.at rfl)<|zA<|ag<|zr<|zm<|zi (i:=3) cv aH rfl rfl ((show 3<6 from om))<|zL bT aH rfl ((er.go hR.fr).cells) rfl<|aC (tx A.av.size A.av (lR _) A.oC.wf om (show A.text.length<=100000000 from om) _ _ w1 (eY.go hR.fr)) ?_
 rintro v2 w2 ⟨dA,aq⟩
 have eE:=aq.size
 have hK:=hK.ext aq;have hR:=hR.ext aq;have bP:=bP.ext aq
 obtain rfl:=dA
 refine zA<|ag<|zr<|zm<|zi (i:=4) cv aH rfl rfl ((show 4<6 from om))<|zL bT aH rfl ((jJ.go hR.fr).cells) rfl<|aC (tx B.av.size B.av (lR _) B.oC.wf om (show B.text.length<=100000000 from om) _ _ w2 (pV.go hR.fr)) ?_
 rintro v3 w3 ⟨eh,aJ⟩
 have fZ:=aJ.size
 have hK:=hK.ext aJ;have hR:=hR.ext aJ;have bP:=bP.ext aJ
 obtain rfl:=eh
 refine zA<|ag<|zr<|zm<|cm rfl rfl so<|cm rfl rfl so<|zm<|cm rfl rfl so<|cm rfl rfl so<|zA<|ag<|zr<|zL bT aH rfl bP.all rfl<|gN bh bA ?_
 intro w4 aF vD iS
 have hK:=hK.ext aF;have hR:=hR.ext aF;have bP:=bP.ext aF
 refine gN bh bA ?_
 intro w5 aU JC jo
 have hK:=hK.ext aU;have hR:=hR.ext aU;have bP:=bP.ext aU;have vD:=vD.ext aU
 have am2:=bP
 refine aC (IL (Ex.fn f ax A B e).n (Ex.fn f ax A B e) (lR _) ri ⟨GO,hox,agT,hoA,hoB,UR⟩ [] [] so so _ _ _ (some w4.heap.size) w5 ((dA.fresh (L':=[w4.heap.size]) (λx hx=>.inr (by simp at hx;omega))).ext hK) (vD.lp.rep (λx hx=>by simp at hx;subst hx;simp;omega)) JC.lp) ?_
 rintro GD w6 ⟨g22,GH,ug⟩
 rw[<-yA] at GH
 have ke:ak [] w w6:=(hK.since ug.aO (λx hx=>.inr (by simp at hx;omega)))
 have NP:∀x,x∈g22.toList->w.heap.size<=x:=(λx hx=>by rcases ug.mem x hx with h9|h9;(·simp at h9;omega);(·omega))
 have iD:bI L w6 GD FR:=GH.rep (λx hx NQ=>by have:=NP x (by simp[hx]);have:=lV x NQ;omega)
 have aR:=eN iD
 obtain⟨NR,n22,NS,NT,NU⟩:=aR
 subst NT
 subst NU
 have aw:=h.ext ke
 have hR:=(eP.refl E L w).ext ke
 clear vD JC
 refine zA<|ag<|zr<|zm<|aC (Nt m om E L b true w6 aw) ?_
 rintro v24 w7 ⟨⟨NV,aw⟩,yx⟩
 subst NV
 have hR:=hR.aL yx Ei wZ
 have iD:=cD.aL iD yx (by simpa using Ei)
 refine zA<|ag<|zr<|zm<|aC (hSF w7) ?_
 rintro v8 w8 ⟨p3,cu⟩
 have Ay:=cu.size
 have hR:=hR.ext cu;have aw:=aw.ext cu;have iD:=iD.ext cu
 obtain rfl:=p3
 have dB:=aw.dL
 refine zA<|ag<|zr<|zm<|aC (vw A om w8) ?_
 rintro v9 w9 ⟨eR,aG⟩
 have pd:=aG.size
 have hR:=hR.ext aG;have aw:=aw.ext aG;have iD:=iD.ext aG
 obtain rfl:=eR
 have dB:=aw.dL
 refine zm<|aC (vw B om w9) ?_
 rintro v10 cM ⟨rm,bU⟩
 have B8:=bU.size
 have hR:=hR.ext bU;have aw:=aw.ext bU;have iD:=iD.ext bU
 obtain rfl:=rm
 have dB:=aw.dL
 refine aC (Gq (bL B) om cM) ?_
 rintro v11 eW ⟨ry,cK⟩
 have CA:=cK.size
 have hR:=hR.ext cK;have aw:=aw.ext cK;have iD:=iD.ext cK
 obtain rfl:=ry
 have dB:=aw.dL
 refine ln bh bA rfl rfl rfl rfl ?_
 intro gh dC CB Nj
 have hR:=hR.ext dC;have aw:=aw.ext dC;have iD:=iD.ext dC
 refine zA<|ag<|zr<|zm<|zm<|zm<|zm<|zm<|zm ?_
 have tZ:bI L gh _ [bL A,dV (bL B)]:=aY.eD [bL A,dV (bL B)] CB (λhx=>by have:=dB _ hx;omega)
 refine aC (Ux t m.lK FR [] m.aP (bL (.op true A B)) [bL A,dV (bL B)] gK hs oW o7 rb sm om om sm (by intro x hx;simp at hx;rcases hx with rfl|rfl<;>omega) ht hc E L b bt _ _ gh aw (hR.tk hT eT) eT iD tZ) ?_
 rintro v42 jD ⟨yd,L1,aw,bY⟩
 rw[<-hP] at yd aw
 subst yd
 have hR:=hR.go bY;have iD:=iD.go bY.fr;have tZ:=tZ.go bY.fr
 have yt:s0 L1 [] jD _ [bL A,dV (bL B)]:=(by unfold s0;rw[List.append_nil];exact tZ)
 have yD:=agQ (jY.go hR.fr)
 have uh:=aw.dL
 have GI:=iD
 have mh:=aw
 have tX:=hR
 clear CB
 refine zm<|zx (i:=0) rfl rfl<|zx (i:=1) rfl rfl<|zA<|zA<|ag<|aQ ?_
 apply kc ei ([]) 15 (rA 59 14++[17]) (rA 59 14++[17]) [[],[],[1],[],[2,3],[],[5],[],[7],[8],[],[10],[11],[0,4,6,9,12],[]] [Ie.v _,Ie.v _,Ie.p (fun(G:List Nat) (v:Value) (ww:World)=>s0 L1 G ww v [P.w]),Ie.v _,Ie.p (fun(G:List Nat) (v:Value) (ww:World)=>s0 L1 G ww v ([P.w]++[bL A,dV (bL B)])),Ie.v _,Ie.v _,Ie.v _,Ie.v _,Ie.v _,Ie.v _,Ie.v _,Ie.v _,Ie.p (fun(G:List Nat) (v:Value) (ww:World)=>∃a4 n4 c4,v= .agg [str m.aP,.slice a4 n4 c4,.int .i64 (FR.length:Int),.slice none 0 0,.slice none 0 0,.slice none 0 0,.slice none 0 0,str e.av.az,.slice Ea e.av.au.length Eb,.int .i64 2,str (dV (bL B)),.int .i64 3].toArray∧s0 L1 G ww (.slice a4 n4 c4) ([P.w]++[bL A,dV (bL B)])),Ie.e 0] [14] [fun(G:List Nat) (vs:List Value) (ww:World)=>G=[]∧ak [] jD ww,fun(G:List Nat) (vs:List Value) (ww:World)=>∃bb,vs.getD 0 undef= .pointer (some ⟨bb,0,none⟩)∧G=[bb]∧jD.heap.size<=bb∧aY ww bb [str [],.slice none 0 0,.int .i64 0,.slice none 0 0,.slice none 0 0,.slice none 0 0,.slice none 0 0,str [],.slice none 0 0,.int .i64 0,str [],.int .i64 0].toArray 130∧ak [] jD ww] de rfl ((λx hx=>by simp at hx)) (by exact⟨λG v w G' w' h k=>h.go k,λG v w G' w' h k=>h.go k,λG v w G' w' ⟨a4,n4,c4,e,h⟩ k=>⟨a4,n4,c4,e,h.go k⟩,trivial⟩) (by exact⟨λG vs w w' ⟨h1,h2⟩ k=>⟨h1,h2.ext k⟩,λG vs w w' ⟨bb,h1,h2,h3,h4,h5⟩ k=>⟨bb,h1,h2,h3,h4.ext k,h5.ext k⟩,trivial⟩) (⟨rfl,ak.refl _ _⟩)
 refine cR ?_
 refine cR ?_
 refine vf (λx je El aW xf AV=>?_) ?_
 refine gD bh bA rfl rfl ?_
 intro p6 jE JD IS
 exact ff jE ((aY.eD [P.w] JD (λhx=>by have:=Jx uh xf.aO.size AV _ hx;omega)))
 refine cR ?_
 refine vf (λx je El aW xf AV=>?_) ?_
 have yt:=yt.go xf
 intro v2 d2
 have fh:=Jx uh xf.aO.size AV
 refine aC (tP [P.w] [bL A,dV (bL B)] sm _ _ _ je d2 yt fh) ?_
 rintro vm p6 ⟨Cr,jE⟩
 have NJ:=jE.size
 have eR:=Cr
 exact ff jE eR
 refine cR ?_
 refine vf (λ_ _ _ _ _ _=>dX bh rfl fv) ?_
 refine cR ?_
 refine vf (λ_ _ _ _ _ _=>zi (i:=5) cv aH rfl rfl ((show 5<6 from om)) fv) ?_
 refine vf (λx je El aW xf AV=>?_) ?_
 have yD:=yD.go xf
 refine zL bT aH rfl yD.cells rfl ?_
 exact fv
 refine cR ?_
 refine vf (λx je El aW xf AV=>?_) ?_
 refine aC (vw B om je) ?_
 rintro vm p6 ⟨Cr,jE⟩
 have NJ:=jE.size
 obtain rfl:=Cr
 exact fk jE
 refine vf (λx je El aW xf AV=>?_) ?_
 refine aC (Gq (bL B) om je) ?_
 rintro vm p6 ⟨Cr,jE⟩
 have NJ:=jE.size
 obtain rfl:=Cr
 exact fk jE
 refine vf (λx je El aW xf AV=>?_) ?_
 intro v4 d4
 have aR:=eN d4
 obtain⟨a4,n4,c4,e4,_⟩:=aR
 subst e4
 refine j5 (UL ⟨m.aP.toArray⟩ a4 n4 c4 (FR.length:Int) ⟨e.av.az.toArray⟩ Ea e.av.au.length Eb 2 ⟨(dV (bL B)).toArray⟩ 3 _) rfl rfl ?_
 exact ff (ak.refl _ _) (⟨a4,n4,c4,rfl,d4⟩)
 refine ve 0 (λx je El aW xf AV hJ hlen=>?_) ?_
 have bo:=jP hlen
 subst bo
 obtain⟨cz,cB⟩:=hJ
 subst cz
 refine eA k7 rfl rfl rfl ?_
 intro p6 jE wc F5
 exact fe ([_]) (⟨jE.mono sm,λx hx=>by simp at hx;right;omega⟩) ((λx hx=>by simp at hx;omega)) (⟨_,rfl,rfl,cB.size,wc,cB.trans jE⟩)
 exact trivial
 intro x mi G53 aW agX am4 hJ hlen
 have aR:=jQ hlen
 obtain⟨q0,bo⟩:=aR
 subst bo
 intro v2 d2
 intro v4 d4
 intro wL d13
 have yD:=yD.go agX
 change OW _ _ _ _ _ (aM (aN _ x _) (zZ 59 [_,_,_,_,_,_,_,_,_,_,_,_,_,_]++[(17,_)])) _
 obtain⟨bk,r6,cz,Cx,fx,cB⟩:=hJ
 have vq:q0=_:=r6
 subst vq
 subst cz
 obtain⟨a4,n4,c4,AQ,NW⟩:=d13
 subst AQ
 refine du k7 rfl rfl rfl fx rfl ?_
 intro ui AR fx dN
 have iE:=fx.lt
 have yB:=cB.since AR (λx hx=>.inr (by simp at hx;omega))
 have aw:=mh.sZ yB sm Cx iE
 have hR:=tX.more yB sm Cx (λy hy=>uh y (mh.sub hy))
 have NX:∀x,x∈bk::L1->x∈L1++[bk]:=(λx hx=>by simp at hx⊢;rcases hx with h|h;(·exact .inr h);(·exact .inl h))
 have vH:bk∈bk::L1:=sm
 have Ej:bk∉E:=(λhx=>by have:=uh bk (mh.sub hx);omega)
 have iD:=(GI.fresh (L':=bk::L1) (λx hx=>by rcases mC.1 hx with rfl|hx;(·exact .inr Cx);(·exact .inl hx))).ext yB
 have AG:fG (bk::L1) ui (.slice Ea e.av.au.length Eb) e.av.au:=(by obtain⟨_,_,_,e9,_,yE⟩:=dM (nz.go hR.fr);cases e9;exact yE)
 have gx:iq (bk::L1) ui 130 bk (ru m.aP P.w [bL A,dV (bL B)] FR e (dV (bL B)) [] (iO t.sc 3 (FR.take 0) [])):=⟨_,_,_,_,_,_,fx,⟨(cD.aL NW AR sm).fresh (λx hx=>.inl (NX x hx)),.nil _ _ _,.nil _ _ _,.nil _ _ _,.nil _ _ _,AG⟩⟩
 refine ag<|aQ<|zr<|zA<|ag<|cQ ?_
 refine fW (λi:Nat=>[(0,.pointer (some ⟨b,0,none⟩)),(1,.pointer (some ⟨bt,0,none⟩)),(7,.slice (some ⟨b1,fY,none⟩) 6 cr),(8,str A.text),(10,str (((((([40,62,32]:aj)++A.text)++[32])++B.text)++[41]))),(11,.slice NR FR.length NS),(13,str (bL (.op true A B))),(15,.int .i64 (P.r:Int)),(16,str P.w),(17,.pointer (some ⟨bk,0,none⟩)),(18,.int .i64 (i:Int))]) (λi w'=>ak [bk] ui w'∧i<=FR.length∧iq (bk::L1) w' 130 bk (ru m.aP P.w [bL A,dV (bL B)] FR e (dV (bL B)) [] (iO t.sc 3 (FR.take i) []))) (λi=>FR.length-i) (0) (⟨rfl,rfl,rfl,rfl,rfl,rfl,rfl,rfl,rfl,rfl,rfl⟩) (⟨ak.refl _ _,Nat.zero_le _,gx⟩) ?_
 intro gg JA UW hI
 obtain⟨dk,hi,gx⟩:=hI
 have aw:=aw.aO dk sm
 have hR:=hR.aL dk vH Ej
 have iD:=cD.aL iD dk sm
 refine aQ<|zr<|zm<|zm<|dX bh rfl<|fy rfl rfl rfl<|ag<|zc rfl (λh1=>?_) (λh1=>?_)
 have lg:gg<FR.length:=(by simp at h1;omega)
 have Cq:=List.mem_of_getElem? (ll lg)
 have aR:=hR.tk hT eT
 obtain⟨u1,u3,u4,u5,u6,u8,cA,hC⟩:=aR
 have Cy:=hC.aX
 have Cz:=hC.types
 have aR:=og iD lg
 obtain⟨b9,oh,e9,gk⟩:=aR
 cases e9
 refine bz<|aQ<|cQ ?_
 apply mq ei 19 (rA 79 19) (rA 79 19) [[],[],[0,1],[2],[],[4],[],[6],[7],[8],[],[10],[11],[12],[],[],[14,15],[16],[9,13,17]] [It.v _,It.v _,It.v _,It.v _,It.v _,It.v _,It.v _,It.v _,It.v _,It.v _,It.v _,It.v _,It.v _,It.v _,It.v _,It.v _,It.v _,It.v _,It.v _] de rfl
 intro wd aB
 refine eI ?_
 refine eI ?_
 refine vk aB (λx oo kY=>?_) ?_
 refine zi bh bA rfl rfl om ?_
 exact pv
 refine vk aB (λx oo kY=>?_) ?_
 have gk:=gk.ext kY
 refine zl ck rfl (gk.cells 0 _ rfl) ?_
 exact pv
 refine eI ?_
 refine vk aB (λx oo kY=>?_) ?_
 refine eF rfl rfl rfl (wrap_i64 _ om om) ?_
 exact pv
 refine eI ?_
 refine vk aB (λx oo kY=>?_) ?_
 refine di rfl ?_
 exact pv
 refine vc (λ_ _ _=>zf zo rfl pv) ?_
 refine vk aB (λx oo kY=>?_) ?_
 have cA:=cA.ext kY
 refine zl eQ rfl (cA.at rfl) ?_
 exact pv
 refine eI ?_
 refine vk aB (λx oo kY=>?_) ?_
 refine di rfl ?_
 exact pv
 refine vc (λ_ _ _=>zf C8 rfl pv) ?_
 refine vk aB (λx oo kY=>?_) ?_
 have cA:=cA.ext kY
 refine zl eQ rfl (cA.at rfl) ?_
 exact pv
 refine eI ?_
 refine eI ?_
 refine vk aB (λx oo kY=>?_) ?_
 refine zi bh bA rfl rfl om ?_
 exact pv
 refine vk aB (λx oo kY=>?_) ?_
 have gk:=gk.ext kY
 refine zl ck rfl (gk.cells 0 _ rfl) ?_
 exact pv
 refine vk aB (λx oo kY=>?_) ?_
 have Cy:=Cy.ext kY;have Cz:=Cz.ext kY
 refine aC (FV (ka t.sc) (o6 t.sc) (by simp[ka,o6]) (by simp[ka];omega) (aD FR gg) _ _ _ _ oo Cy Cz) ?_
 rintro N0 N2 ⟨GP,yF⟩
 have UX:=yF.size
 have eR:=GP
 rw[Nx (gK _ Cq).2] at eR
 subst eR
 exact pk yF
 exact trivial
 intro x Ek s8
 have aw:=aw.ext s8;have gx:=gx.ext s8;have dk:=dk.ext s8
 change OW _ _ _ _ _ (aM (aN _ x _) (zZ 79 [_,_,_,_,_,_,_,_,_,_,_,_,_,_,_,_,_,_,_])) _
 refine aC (Ed (ru m.aP P.w [bL A,dV (bL B)] FR e (dV (bL B)) [] (iO t.sc 3 (FR.take gg) [])) (aD FR gg) (3+gg) (kE t.sc (aD FR gg)) (by show(iO t.sc 3 (FR.take gg) []).length<100000;rw[xY,List.length_take];omega) (bk::L1) bk Ek vH aw.dL gx) ?_
 rintro v87 GN ⟨gx,mE⟩
 have agK:=mE.size
 refine ag<|db<|zm<|eF rfl rfl rfl (wrap_i64 _ om om)<|zA<|ag ?_
 exact⟨gg+1,⟨rfl,rfl,rfl,rfl,rfl,rfl,rfl,rfl,rfl,rfl,rfl⟩,⟨dk.trans mE,om,by rw[UH lg];exact gx⟩,om⟩
 have Ac:gg=FR.length:=(by simp at h1;omega)
 subst Ac
 rw[List.take_length] at gx
 have yD:=jY.go hR.fr
 have xg:=bC.go hR.fr
 have N3:=nz.go hR.fr
 refine gB<|gC rfl<|aQ<|aQ ?_
 apply mq ei 9 (rA 99 9) (rA 99 9) [[],[0],[1],[],[3],[4],[5],[2,6],[7]] [It.v _,It.v _,It.v _,It.v _,It.v _,It.v _,It.v _,It.v _,It.v _] de rfl
 intro wd aB
 refine eI ?_
 refine vk aB (λx oo kY=>?_) ?_
 refine zi (i:=5) cv aH rfl rfl ((show 5<6 from om)) ?_
 exact pv
 refine vk aB (λx oo kY=>?_) ?_
 have yD:=yD.ext kY
 refine zL bT aH rfl yD.cells rfl ?_
 exact pv
 refine eI ?_
 refine vk aB (λx oo kY=>?_) ?_
 refine zi (i:=1) cv aH rfl rfl ((show 1<6 from om)) ?_
 exact pv
 refine vc (λ_ _ _=>zf dz rfl pv) ?_
 refine vk aB (λx oo kY=>?_) ?_
 have xg:=xg.ext kY
 refine zl ck rfl (xg.cells 0 _ rfl) ?_
 exact pv
 refine vk aB (λx oo kY=>?_) ?_
 have N3:=N3.ext kY
 refine aC (adr f e.n e (lR _) om UR _ _ oo N3) ?_
 rintro N0 N2 ⟨GP,yF⟩
 have UX:=yF.size
 obtain rfl:=GP
 exact pk yF
 refine vk aB (λx oo kY=>?_) ?_
 refine jx rfl rfl rfl rfl rfl ?_
 exact pv
 exact trivial
 intro x Ek s8
 have aw:=aw.ext s8;have hR:=hR.ext s8;have xg:=xg.ext s8;have gx:=gx.ext s8
 change OW _ _ _ _ [] (aM (aN _ x _) (zZ 99 [_,_,_,_,_,_,_,_,_])) _
 have lq:=ak.refl [bk] Ek
 refine ag ?_
 refine jg (λ_:Unit=>[(0,.pointer (some ⟨b,0,none⟩)),(7,.slice (some ⟨b1,fY,none⟩) 6 cr),(8,str A.text),(15,.int .i64 (P.r:Int)),(17,.pointer (some ⟨bk,0,none⟩))]) (λ_ ww=>ak [bk] Ek ww∧iq (bk::L1) ww 130 bk (ru m.aP P.w [bL A,dV (bL B)] FR e (dV (bL B)) (uj f A B e P.w) (sh t.sc FR f A B e))) ?_ ?_
 refine zc rfl (λh2=>?_) (λh2=>?_)
 have ey:0<im f e:=(by simp at h2;omega)
 have dB:=aw.dL
 refine zr<|zm<|zm<|ln bh bA rfl rfl rfl rfl ?_
 intro GN AU agY am5
 have xg:=xg.ext AU;have gx:=gx.ext AU;have lq:=lq.ext AU
 refine zf Bm rfl ?_
 have wb:bI (bk::L1) GN _ [bL (.op true A B),P.w]:=aY.eD [bL (.op true A B),P.w] agY (λhx=>by have:=dB _ hx;omega)
 obtain⟨u1,u3,u4,u5,u6,u8,fx,s5⟩:=gx
 refine gW (o:=3) nJ rfl rfl rfl fx rfl ?_
 intro vJ JE fx dN
 have s5:=s5.aL JE sm
 have wb:=cD.aL wb JE sm
 have gx:iq (bk::L1) vJ 130 bk (ru m.aP P.w [bL A,dV (bL B)] FR e (dV (bL B)) [bL (.op true A B),P.w] (iO t.sc 3 FR [])):=⟨u1,_,u4,u5,u6,u8,fx,⟨s5.regs,wb,s5.aX,s5.at_,s5.types,s5.au⟩⟩
 have xg:=xg.aL JE sm
 have Gs:=lq.trans JE
 have CC:∀x,x∈bk::L1->x<vJ.heap.size:=(λx hx=>by have:=dB x hx;omega)
 refine ag<|db<|zm<|zi (i:=1) cv aH rfl rfl ((show 1<6 from om))<|zf dz rfl<|zl ck rfl (xg.cells 0 _ rfl)<|zm<|dX bh rfl<|eF rfl rfl rfl (wrap_i64 _ om om)<|eF rfl rfl rfl (wrap_i64 _ om om)<|zm ?_
 refine aC (agP (ru m.aP P.w [bL A,dV (bL B)] FR e (dV (bL B)) [bL (.op true A B),P.w] (iO t.sc 3 FR [])) f (3+FR.length+2) (.op true A B) _ pR (by show(iO t.sc 3 FR []).length<100000;rw[xY];omega) (bk::L1) bk vJ vH CC gx) ?_
 rintro v87 JG ⟨gx,mE⟩
 have Gs:=Gs.trans mE
 refine ag ?_
 exact⟨(),⟨rfl,rfl,rfl,rfl,rfl⟩,Gs,by unfold sh uj;rw[iP ey,iP ey];exact gx⟩
 have ey:¬0<im f e:=(by simp at h2;omega)
 refine bz ?_
 exact⟨(),⟨rfl,rfl,rfl,rfl,rfl⟩,ak.refl _ _,by unfold sh uj;rw[iN ey,iN ey];exact gx⟩
 intro gu GN e96 hI
 obtain⟨UY,gx⟩:=hI
 have aw:=aw.aO UY sm
 have hR:=hR.aL UY vH Ej
 have agZ:=bX.go hR.fr
 refine zr<|zm<|zi (i:=2) cv aH rfl rfl ((show 2<6 from om))<|zf dz rfl<|zl ck rfl (agZ.cells 0 _ rfl)<|zm<|aC (Ed (ru m.aP P.w [bL A,dV (bL B)] FR e (dV (bL B)) (uj f A B e P.w) (sh t.sc FR f A B e)) ax 1 A (by show(sh t.sc FR f A B e).length<100000;unfold sh;split;(·rw[lA,xY];simp;omega);(·rw[xY];omega)) (bk::L1) bk GN vH aw.dL gx) ?_
 rintro v90 vJ ⟨gx,tR⟩
 have aw:=aw.aO tR sm
 have hR:=hR.aL tR vH Ej
 have gx:iq (bk::L1) vJ 130 bk (ru m.aP P.w [bL A,dV (bL B)] FR e (dV (bL B)) (uj f A B e P.w) ((sh t.sc FR f A B e)++[(ax,1,A)])):=gx
 have Jp:P.m.bW.length<100000:=(by rw[GG];exact gv)
 have aR:=aw.open
 obtain⟨vb,vt,vc,vy,gb,gt,gc,gy,tU,hS⟩:=aR
 have aR:=hS.apart
 obtain⟨yp,nD,vz,mB,vA,tW⟩:=aR
 obtain⟨u1,u3,u4,u5,u6,u8,GK,s5⟩:=gx
 have bj:fg gt.toList vJ b [vb,vt,.int .i64 ((P.m).count:Int),.bool (P.m).wide,vc,vy].toArray 127:=⟨tU,λhx=>(mB b hx).2.1 rfl⟩
 have fx:fg gt.toList vJ bk (pM (ru m.aP P.w [bL A,dV (bL B)] FR e (dV (bL B)) (uj f A B e P.w) ((sh t.sc FR f A B e)++[(ax,1,A)])) u1 u3 u4 u5 u6 u8).toArray 130:=⟨GK,λhx=>(mB bk hx).1 sm⟩
 have pX:fu gt.toList vJ:=(λx hx=>hS.cZ x (hS.mem.2 (by simp[hx])))
 have AS:∀x,x∈gt.toList->x∈(bk::L1):=(λx hx=>hS.mem.2 (by simp[hx]))
 refine ag<|aQ ?_
 apply kc ei gt.toList 8 (rA 128 8) (rA 128 8) [[],[],[1],[2],[3],[],[5],[4,6]] [Ie.v _,Ie.v _,Ie.v _,Ie.v _,Ie.v _,Ie.v _,Ie.p (fun(G:List Nat) (v:Value) (ww:World)=>∃bb,v= .slice (some ⟨bb,0,none⟩) 1 1∧fg G ww bb (pM (ru m.aP P.w [bL A,dV (bL B)] FR e (dV (bL B)) (uj f A B e P.w) ((sh t.sc FR f A B e)++[(ax,1,A)])) u1 u3 u4 u5 u6 u8).toArray 130),Ie.e 0] [7] [fun(G:List Nat) (vs:List Value) (ww:World)=>G=gt.toList∧ak [] vJ ww,fun(G:List Nat) (vs:List Value) (ww:World)=>∃g2,eC (gt.toList++(g2.toList++(bk::L1))) ww 130 12 (vs.getD 0 undef) g2 (((P.m).bW++[(ru m.aP P.w [bL A,dV (bL B)] FR e (dV (bL B)) (uj f A B e P.w) ((sh t.sc FR f A B e)++[(ax,1,A)]))]).map Tk.enc)∧ak gt.toList vJ ww∧(g2=gt∨∃x,g2=some x∧vJ.heap.size<=x)] de rfl pX (by exact⟨λG v w G' w' ⟨bb,e,h⟩ k=>⟨bb,e,h.go k⟩,trivial⟩) (by exact⟨λG vs w w' ⟨h1,h2⟩ k=>⟨h1,h2.ext k⟩,λG vs w w' ⟨g2,h1,h2,h3⟩ k=>⟨g2,h1.ext k,h2.ext k,h3⟩,trivial⟩) (⟨rfl,ak.refl _ _⟩)
 refine cR ?_
 refine cR ?_
 refine vf (λ_ _ _ _ _ _=>di rfl fv) ?_
 refine vf (λ_ _ _ _ _ _=>zf zk rfl fv) ?_
 refine vf (λx JG N4 aW GQ JH=>?_) ?_
 have bj:=bj.go GQ
 refine zl EY rfl (bj.at rfl) ?_
 exact fv
 refine vf (λx JG N4 aW GQ JH=>?_) ?_
 have fx:=fx.go GQ
 refine zL C5 k7 rfl fx.all rfl ?_
 exact fv
 refine vf (λx JG N4 aW GQ JH=>?_) ?_
 refine sA [_] [pM (ru m.aP P.w [bL A,dV (bL B)] FR e (dV (bL B)) (uj f A B e P.w) ((sh t.sc FR f A B e)++[(ax,1,A)])) u1 u3 u4 u5 u6 u8] xA k7 rfl rfl rfl rfl rfl rfl rfl rfl rfl ?_
 intro w99 ag1 ag2 UP
 exact ff ag1 (⟨_,rfl,ag2.o JH⟩)
 refine ve 0 (λx JG N4 aW GQ JH hJ hlen=>?_) ?_
 have bo:=jP hlen
 subst bo
 intro v6 d6
 obtain⟨bb,e6,gw⟩:=d6
 subst e6
 obtain⟨cz,cB⟩:=hJ
 subst cz
 have xU:=(hS.ta.any cB).sub (L':=gt.toList++(bk::L1)) (λx hx=>.inl (by rcases mA.1 hx with h|h;(·exact AS x h);(·exact h)))
 have AT:=s5.ext cB
 refine BM (L:=(bk::L1)) (row:=Tk.enc (ru m.aP P.w [bL A,dV (bL B)] FR e (dV (bL B)) (uj f A B e P.w) ((sh t.sc FR f A B e)++[(ax,1,A)]))) xA k7 rfl rfl rfl rfl rfl rfl xU rfl gw.all (λu hu=>List.all_eq_true.1 AT.one u hu) (AT.go ((Fr.refl _ _).to (L2:=gt.toList++(bk::L1)) (λx hx=>.inl (by rcases mA.1 hx with h|h;(·exact AS x h);(·exact h))))).Bz (by rw[List.length_map];omega) ?_
 intro v9 g9 w99 dJ tY fL
 exact fe g9.toList (⟨tY.aO,λx hx=>by rcases fL with h|h;(·rw[h] at hx;exact .inl hx);(·rw[h] at hx;simp at hx;right;omega)⟩) ((λx hx=>dJ.lt x hx)) (⟨g9,by rw[List.map_append];exact dJ,cB.any.trans tY.aO,fL.imp id (λh=>⟨_,h,cB.size⟩)⟩)
 exact trivial
 intro x am7 am8 aW ag3 am9 hJ hlen
 have aR:=jQ hlen
 obtain⟨q0,bo⟩:=aR
 subst bo
 intro v6 d6
 have bj:=bj.go ag3
 change OW _ _ _ _ _ (aM (aN _ x _) (zZ 128 [_,_,_,_,_,_,_,_])) _
 obtain⟨g2,dJ,fl,iy⟩:=hJ
 have aR:=hS.Fa dJ fl iy
 obtain⟨L3,gi,jU⟩:=aR
 have aR:=dJ.len
 obtain⟨a3,c3,e3⟩:=aR
 have e4:q0=_:=e3
 subst e4
 have bj:aY _ b [vb,vt,.int .i64 ((P.m).count:Int),.bool (P.m).wide,vc,vy].toArray 127:=tU.aO fl (λhx=>(mB b hx).2.1 rfl)
 refine di rfl<|zf zk rfl<|gW (o:=1) KF rfl rfl rfl bj rfl ?_
 intro ag4 UZ bj dN
 have gi:=gi.aO UZ sm
 have aw:dZ t8 (bk::E) L3 ag4 b true {P.m with bW:=(P.m).bW++[(ru m.aP P.w [bL A,dV (bL B)] FR e (dV (bL B)) (uj f A B e P.w) ((sh t.sc FR f A B e)++[(ax,1,A)]))]}:=⟨_,_,_,_,_,_,_,_,bj,gi⟩
 have hR:=(hR.add jU fl (λx hx vI=>(mB x hx).1 (by simp[vI]))).aL UZ (gi.mem.2 (.inr (.inl rfl))) (λvI=>nD (by simp[vI]))
 rw[GG] at aw
 have aR:=aw.drop
 obtain⟨L4,NZ,aw⟩:=aR
 have hR:=hR.sub (L2:=L4) (λx hx=>by rw[NZ];simp[hx])
 refine ag<|zr<|zm<|zA<|ag<|aV ?_
 exact⟨_,rfl,rfl,L4,aw,hR⟩
theorem GR {a:aj} (hs:ku s) (ht:m.types.length<1000):(cF m s a).1.types.length<=m.types.length+1∧(cF m s a).1.code.length<=m.code.length+1∧(cF m s a).1.count=m.count∧(cF m s a).1.bW=m.bW∧(cF m s a).2<1000:=by
 unfold cF
 split
 ·exact⟨Nat.le_succ _,Nat.le_succ _,rfl,rfl,FB hs a⟩
 ·exact⟨by simp[Mk.dG,Mk.cY],by simp[Mk.dG,Mk.cY],rfl,rfl,ht⟩
theorem U0 (h:aj):gQ h=(decide (h=[102,115,116])||decide (h=[115,110,100])):=rfl
theorem ag5 {T:Ty} (bD:e.ok) (hu:gQ e.head=true) {p:Mk×Nat} (hp:p=cF m s (nth e.av.au 1).az):
  mX m s T e=((p.1.dG (bL T)).cY sE [bf p.1.types.length,bf p.2,if e.head=qW then[49] else[48]],p.1.types.length):=by
 cases e with
 |un hd a=>rw[hp];show((_:Mk),_)=_;rw[show nth (Ex.un hd a).av.au 1=a.av from rfl,Ex.qZ];rfl
 |«at» s=>exact absurd (show gQ []=true from hu) de
 |ite a b c=>exact absurd (show gQ cC=true from hu) de
 |lt x a b=>exact absurd (show gQ gM=true from hu) de
 |fn f x A B b=>exact absurd (show gQ il=true from hu) de
 |bi hd a b=>exact absurd bD.1 (by rcases Ar hd with h|h|h|h|h|h<;>simp_all[Ex.head]<;>rfl)
theorem ag6 {T:Ty} (bD:e.ok) (fp:e.jj=false) (hf:e.head≠il) (hu:gQ e.head=false) {p q:Mk×Nat} (hp:p=cF m s (nth e.av.au 1).az) (hq:q=cF p.1 s (nth e.av.au 2).az):
  mX m s T e=((q.1.dG (bL T)).cY (qt e.head) [bf q.1.types.length,bf p.2,bf q.2],q.1.types.length):=by
 cases e with
 |un hd a=>exact absurd bD.1 (by simp[Ex.head] at hu;simp[hu])
 |«at» s=>cases fp
 |ite a b c=>rw[hq,hp];rw[show nth (Ex.ite a b c).av.au 1=a.av from rfl,show nth (Ex.ite a b c).av.au 2=b.av from rfl,Ex.qZ,Ex.qZ];rfl
 |lt x a b=>rw[hq,hp];rw[show nth (Ex.lt x a b).av.au 1=bZ x from rfl,show nth (Ex.lt x a b).av.au 2=a.av from rfl,Ex.qZ];rfl
 |fn f x A B b=>exact absurd rfl hf
 |bi hd a b=>rw[hq,hp];rw[show nth (Ex.bi hd a b).av.au 1=a.av from rfl,show nth (Ex.bi hd a b).av.au 2=b.av from rfl,Ex.qZ,Ex.qZ];rfl
theorem ag7 (bD:e.ok) (hf:e.head≠il):((nth e.av.au 1).az).length<=5∧((nth e.av.au 2).az).length<=5:=by
 cases e with
 |«at» s=>simp[Ex.av,nth,aA.au,aA.az,bZ]
 |un hd a=>rw[show nth (Ex.un hd a).av.au 1=a.av from rfl,Ex.qZ];have:=oJ bD.2;exact⟨by omega,by simp[Ex.av,nth,aA.au,aA.az]⟩
 |bi hd a b=>rw[show nth (Ex.bi hd a b).av.au 1=a.av from rfl,show nth (Ex.bi hd a b).av.au 2=b.av from rfl,Ex.qZ,Ex.qZ];have:=oJ bD.2.1;have:=oJ bD.2.2;omega
 |ite a b c=>rw[show nth (Ex.ite a b c).av.au 1=a.av from rfl,show nth (Ex.ite a b c).av.au 2=b.av from rfl,Ex.qZ,Ex.qZ];have:=oJ bD.1;have:=oJ bD.2.1;omega
 |lt x a b=>rw[show nth (Ex.lt x a b).av.au 1=bZ x from rfl,show nth (Ex.lt x a b).av.au 2=a.av from rfl,Ex.qZ];have:=DH bD.1;have:=oJ bD.2.1;exact⟨by show x.length<=5;omega,om⟩
 |fn f x A B b=>exact absurd rfl hf
theorem ag8 (h:aj):(qt h).length<=5:=by
 unfold qt
 split
 ·decide
 ·split
  ·decide
  ·split<;>decide
theorem ag9 (bD:e.ok) (fp:e.jj=false):1<e.av.au.length∧(gQ e.head=false->2<e.av.au.length):=by
 cases e with
 |«at» s=>cases fp
 |un hd a=>exact⟨by simp[Ex.av,aA.au],λh=>absurd bD.1 (by simp[Ex.head] at h;simp[h])⟩
 |_=>exact⟨by simp[Ex.av,aA.au],λ_=>by simp[Ex.av,aA.au]⟩
set_option maxHeartbeats 4000000 in
theorem aha (t:Tk) (m:Mk) (e:Ex) (T:Ty) (bD:e.ok) (fC:bM e (fi t.sc)=some T) (hs:ku t.sc) (hb:5*t.sc.length+2*e.n<=240) (rb:t.on<1000) (ht:m.types.length+8*e.n<=1000) (hc:m.code.length<=7000) (wY:m.count<1000) (gv:m.bW.length<90000) 
  (E L:List Nat) (b bt:Nat) (v:Value) (w:World) (h:dZ t8 E L w b true m) (hT:iq L w 130 bt t) (eT:bt∈E) (hv:bS L w v e.av):
  cj Tryz.prog 147 [.pointer (some ⟨b,0,none⟩),.pointer (some ⟨bt,0,none⟩),v] w λr w'=>r= .int .i64 ((mX m t.sc T e).2:Int)∧∃L',dZ t8 E L' w' b true (mX m t.sc T e).1∧eP E L w L' w':=by
 obtain⟨ar,nr,cr,rfl,p9,bc⟩:=dM hv
 subst p9
 have lV:=h.dL
 have se:=l4 hs.types fC
 have Dc:=pP se
 have hep:=e.pos
 have aw:=h
 have hR:=eP.refl E L w
 have dA:bS L w _ e.av:=hv
 obtain⟨p,hp⟩:∃p,p=cF m t.sc (nth e.av.au 1).az:=⟨_,rfl⟩
 obtain⟨q,hq⟩:∃q,q=cF p.1 t.sc (nth e.av.au 2).az:=⟨_,rfl⟩
 have yE:p.1.types.length<=m.types.length+1∧p.1.code.length<=m.code.length+1∧p.1.count=m.count∧p.1.bW=m.bW∧p.2<1000:=by rw[hp];exact GR hs om
 have GS:q.1.types.length<=p.1.types.length+1∧q.1.code.length<=p.1.code.length+1∧q.1.count=p.1.count∧q.1.bW=p.1.bW∧q.2<1000:=by rw[hq];exact GR hs om
 obtain⟨ptl,pcl,_,_,p2⟩:=yE
 obtain⟨qtl,qcl,_,_,q2⟩:=GS
 refine cV [.tmp 6] 84 Tryz.func147 rfl Yg rfl rfl ?_
 refine zr<|fE rfl ?_
 intro w1 aK bP dY
 have aw:=aw.ext aK;have hR:=hR.ext aK
 refine zA<|ag<|aQ<|zr<|zf dz rfl<|zl ck rfl (bP.at rfl)<|jG rfl rfl rfl rfl<|ag ?_
 have bP:fg L w1 w.heap.size [str e.av.az,.slice ar e.av.au.length cr].toArray 66:=⟨bP,λhx=>by have:=lV _ hx;omega⟩
 refine zc rfl (λh1=>?_) (λh1=>?_)
 have aR:∃a,e= .at a:=(by cases e with|«at» s=>exact⟨s,rfl⟩|_=>exact absurd rfl h1)
 obtain⟨a0,rfl⟩:=aR
 refine zr<|zm<|zm<|zL bT aH rfl bP.all rfl<|aC (Cm t a0 m (by have:=Mc (show ql a0=true from bD);omega) om om om E L b bt _ _ _ w1 aw (hR.tk hT eT) eT) ?_
 rintro v20 w2 ⟨pw,L1,aw,bY⟩
 subst pw
 have hR:=hR.go bY
 refine zA<|ag<|aV ?_
 exact⟨_,rfl,rfl,L1,aw,hR⟩
 have fp:e.jj=false:=(by cases hh:e.jj;rfl;exact absurd ((vg bD).2 hh) h1)
 have aR:=Ex.au fp
 obtain⟨FY,pE,jH,wG⟩:=aR
 have aR:=ag9 bD fp
 obtain⟨gd,iY⟩:=aR
 have aR:=fI bc (i:=0) om
 obtain⟨b0,Av,xF,xG,e0,ey,_⟩:=aR
 cases e0
 rw[jH] at ey
 have aR:=fI bc (i:=1) om
 obtain⟨b1,fY,gX,gY,e1,bC,dd⟩:=aR
 cases e1
 refine bz<|zr<|zf cL rfl<|zl cI rfl (bP.at rfl)<|zi (i:=0) cv aH rfl rfl ((show 0<_ from om))<|zf dz rfl<|zl ck rfl ((ey.go hR.fr).cells 0 _ rfl)<|zA<|ag<|aQ<|zr<|zm<|cW rfl rfl<|ag<|zc rfl (λh2=>?_) (λh2=>?_)
 have aR:=IU bD h2
 obtain⟨nf,nx,tA,tB,eb,rfl⟩:=aR
 have aR:=SA (m:=m) hs bD fC hb wY
 obtain⟨_,o7,Ap⟩:=aR
 refine zr<|zm<|zm<|zL bT aH rfl bP.all rfl<|aC (agR t m nf nx tA tB eb bD om (λy hy=>by rcases(qm y _ [] []).1 hy with h9|h9;(·simp at h9);(·exact pJ fC h9.1)) om hs om Ap rb (by simp only[Ex.n] at ht;omega) om wY om E L b bt _ w1 aw (hR.tk hT eT) eT (dA.go hR.fr)) ?_
 rintro v31 w2 ⟨yG,L1,aw,bY⟩
 subst yG
 have hR:=hR.go bY
 refine zA<|ag<|aV ?_
 exact⟨_,rfl,rfl,L1,aw,hR⟩
 have rh:e.head≠il:=h2
 have hsh:=ag7 bD rh
 refine bz<|zr<|zm<|zL bT aH rfl bP.all rfl<|aC (Jn t e bD om hs.types om _ L bt w1 aw.dL (hR.tk hT eT) (dA.go hR.fr)) ?_
 rintro v2 w2 ⟨dA,aq⟩
 have eE:=aq.size
 have aw:=aw.ext aq;have hR:=hR.ext aq;have bP:=bP.ext aq
 have eR:=dA
 rw[fC] at eR
 subst eR
 refine aC (vw T om w2) ?_
 rintro v3 w3 ⟨eh,aJ⟩
 have fZ:=aJ.size
 have aw:=aw.ext aJ;have hR:=hR.ext aJ;have bP:=bP.ext aJ
 obtain rfl:=eh
 refine zA<|ag<|zr<|zm<|zm<|zf cL rfl<|zl cI rfl (bP.at rfl)<|zi (i:=1) cv aH rfl rfl om<|zL bT aH rfl ((bC.go hR.fr).cells) rfl<|aC (Cm t (nth e.av.au 1).az m om om om om E L b bt _ _ _ w3 aw (hR.tk hT eT) eT) ?_
 rintro v20 w4 ⟨pw,L1,aw,bY⟩
 rw[<-hp] at pw aw
 subst pw
 have hR:=hR.go bY;have bP:=bP.go bY.fr
 refine aC (iM (p.2+1) p.2 om om w4) ?_
 rintro v5 w5 ⟨lk,aU⟩
 have pD:=aU.size
 have aw:=aw.ext aU;have hR:=hR.ext aU;have bP:=bP.ext aU
 obtain rfl:=lk
 refine zA<|ag<|aQ<|zr<|zm<|cW rfl rfl<|zm ?_
 apply fz 3 46 49 [46,47,48,49] (λw'=>w5=w') rfl
 intro h3
 replace h3:=bw h3
 refine zs<|zs<|zp rfl<|ag ?_
 exact mg rfl rfl
 intro h3
 replace h3:=bw h3
 refine zm<|cW rfl rfl<|zp rfl<|ag ?_
 exact mg rfl rfl
 rintro xx _ rfl
 refine ag<|zc rfl (λh4=>?_) (λh4=>?_)
 have hu:gQ e.head=true:=(by rw[U0];exact h4)
 rw[ag5 bD hu hp]
 refine zr<|zm<|zm<|aC (r8 (bL T) p.1 om E L1 b true w5 aw) ?_
 rintro v52 w6 ⟨Jy,L2,aw,bY⟩
 subst Jy
 have hR:=hR.go bY
 refine zA<|ag<|zr<|zA<|ag<|aQ<|zr<|zm<|cW rfl rfl<|ag ?_
 refine jg (λ_:Unit=>[(0,.pointer (some ⟨b,0,none⟩)),(9,str (bf p.2)),(10,.int .i64 (p.1.types.length:Int)),(11,str (if e.head=qW then[49] else[48]))]) (λ_ w'=>ak [] w6 w') ?_ ?_
 refine zc rfl (λh5=>?_) (λh5=>?_)
 have hz:e.head=qW:=h5
 refine db<|zA<|ag ?_
 exact⟨(),⟨rfl,rfl,rfl,by rw[iP hz];rfl⟩,ak.refl _ _⟩
 have hz:¬e.head=qW:=h5
 refine bz ?_
 exact⟨(),⟨rfl,rfl,rfl,by rw[iN hz];rfl⟩,ak.refl _ _⟩
 intro gu w7 e7 hI
 have aw:=aw.ext hI;have hR:=hR.ext hI
 refine zr<|zm<|zm<|aC (iM (p.1.types.length+1) p.1.types.length om om w7) ?_
 rintro v8 w8 ⟨p3,cu⟩
 have Ay:=cu.size
 have aw:=aw.ext cu;have hR:=hR.ext cu
 obtain rfl:=p3
 have dB:=aw.dL
 have mG:(if e.head=qW then([49]:aj) else[48]).length<=1:=(by split<;>decide)
 refine zm<|zm<|pO bh bA rfl rfl rfl rfl rfl ?_
 intro w9 aG GB dN
 have aw:=aw.ext aG;have hR:=hR.ext aG
 refine aC (lh sE [bf p.1.types.length,bf p.2,if e.head=qW then[49] else[48]] (mD de sm (by intro z hz;simp at hz;rcases hz with rfl|rfl|rfl;(·exact mj om);(·exact mj om);(·omega))) (p.1.dG (bL T)) (show p.1.code.length<100000 from om) E L2 b _ w9 aw (aY.eD [bf p.1.types.length,bf p.2,if e.head=qW then[49] else[48]] GB (λhx=>by have:=dB _ hx;omega))) ?_
 rintro U1 cM ⟨L3,aw,bY⟩
 have hR:=hR.go bY
 refine ag<|zr<|zm<|zA<|ag<|aV ?_
 exact⟨_,rfl,rfl,L3,aw,hR⟩
 have hu:gQ e.head=false:=(by rw[U0];exact h4)
 have iY:=iY hu
 have aR:=fI bc (i:=2) om
 obtain⟨b2,ni,jb,jc,e2,bX,_⟩:=aR
 cases e2
 rw[ag6 bD fp rh hu hp hq]
 refine bz<|zr<|zm<|zm<|zf cL rfl<|zl cI rfl (bP.at rfl)<|zi (i:=2) cv aH rfl rfl om<|zL bT aH rfl ((bX.go hR.fr).cells) rfl<|aC (Cm t (nth e.av.au 2).az p.1 om om om om E L1 b bt _ _ _ w5 aw (hR.tk hT eT) eT) ?_
 rintro v20 w6 ⟨pw,L2,aw,bY⟩
 rw[<-hq] at pw aw
 subst pw
 have hR:=hR.go bY
 refine aC (iM (q.2+1) q.2 om om w6) ?_
 rintro v7 w7 ⟨iT,cw⟩
 have pb:=cw.size
 have aw:=aw.ext cw;have hR:=hR.ext cw
 obtain rfl:=iT
 refine zA<|ag<|zr<|zm<|zm<|aC (r8 (bL T) q.1 om E L2 b true w7 aw) ?_
 rintro v52 w8 ⟨Jy,L3,aw,bY⟩
 subst Jy
 have hR:=hR.go bY
 refine zA<|ag<|zr<|zm<|zm<|aC (afI e.head w8) ?_
 rintro v9 w9 ⟨eR,aG⟩
 have pd:=aG.size
 have aw:=aw.ext aG;have hR:=hR.ext aG
 obtain rfl:=eR
 have hol:=ag8 e.head
 refine zm<|aC (iM (q.1.types.length+1) q.1.types.length om om w9) ?_
 rintro v10 cM ⟨rm,bU⟩
 have B8:=bU.size
 have aw:=aw.ext bU;have hR:=hR.ext bU
 obtain rfl:=rm
 have dB:=aw.dL
 refine zm<|zm<|pO bh bA rfl rfl rfl rfl rfl ?_
 intro eW cK DX uC
 have aw:=aw.ext cK;have hR:=hR.ext cK
 refine aC (lh (qt e.head) [bf q.1.types.length,bf p.2,bf q.2] (mD om sm (by intro z hz;simp at hz;rcases hz with rfl|rfl|rfl<;>exact mj om)) (q.1.dG (bL T)) (show q.1.code.length<100000 from om) E L3 b _ eW aw (aY.eD [bf q.1.types.length,bf p.2,bf q.2] DX (λhx=>by have:=dB _ hx;omega))) ?_
 rintro U1 gh ⟨L4,aw,bY⟩
 have hR:=hR.go bY
 refine ag<|zr<|zm<|zA<|ag<|aV ?_
 exact⟨_,rfl,rfl,L4,aw,hR⟩
theorem U2 {on:Nat} {bm name:aj} {K:Ty} {rest:Ex} (kM:on<1000) (ht:m.types.length+4<1000):(fm m s on bm name K rest).1.types.length<=m.types.length+4∧(fm m s on bm name K rest).1.code.length<=m.code.length+4∧(fm m s on bm name K rest).2.1<1000∧(fm m s on bm name K rest).1.count<=m.count+1∧(fm m s on bm name K rest).1.bW.length<=m.bW.length+1:=by
 unfold fm
 split
 ·have h:=St m.lK s on (cE rest [name] []) bm m.aP (dV (bL K)) [bL K]
  refine⟨?_,?_,?_,?_,?_⟩
  ·show(oG m s on bm name K rest).m.types.length<=_
   unfold oG;rw[h.types];exact lR _
  ·show(oG m s on bm name K rest).m.code.length<=_
   unfold oG;rw[h.code];exact lR _
  ·show m.types.length+3<1000;omega
  ·exact lR _
  ·show((oG m s on bm name K rest).m.bW++[_]).length<=_
   unfold oG;rw[h.bW,lA];exact lR _
 ·exact⟨by show m.types.length<=_;omega,by show m.code.length<=_;omega,kM,by show m.count<=_;omega,by show m.bW.length<=_;omega⟩
theorem U3 (m:Mk) (s:Nat):(sF m s).types.length=m.types.length+3∧(sF m s).code.length=m.code.length+3:=by
 unfold sF;simp[Mk.dG,Mk.cY]
structure N5 (s:da) (name:aj) (rest:Ex):Prop where
 ok:rest.ok
 n:rest.n<=1000
 fv:∀x,x∈cE rest [name] []->(look (fi s) x).isSome=true
 len:(cE rest [name] []).length<=40
set_option maxHeartbeats 4000000 in
theorem ahd (t:Tk) (m:Mk) (f x:Ex) (name:aj) (rest:Ex) (K:Ty) (bD:(Ex.bi kD f x).ok) (hn:(Ex.bi kD f x).n<=1000) (fC:bM (.bi kD f x) (fi t.sc)=some K) (hs:ku t.sc) (oW:t.sc.length<=9000) (rb:t.on<1000) (kM:t.bm.length<=272) (N6:name≠[]->N5 t.sc name rest) (ht:m.types.length+9<1000) (hc:m.code.length<=7000) (wY:m.count<1000) (gv:m.bW.length<90000) 
  (E L:List Nat) (b bt:Nat) (v vr:Value) (w:World) (h:dZ t8 E L w b true m) (hT:iq L w 130 bt t) (eT:bt∈E) (hv:bS L w v (Ex.bi kD f x).av) (oN:bS L w vr rest.av):
  cj Tryz.prog 144 [.pointer (some ⟨b,0,none⟩),.pointer (some ⟨bt,0,none⟩),v,str name,vr] w λr w'=>∃L',dZ t8 E L' w' b true (xO (fm (cF (cF m t.sc f.az).1 t.sc x.az).1 t.sc t.on t.bm name K rest).1 (cF m t.sc f.az).2 (cF (cF m t.sc f.az).1 t.sc x.az).2 (fm (cF (cF m t.sc f.az).1 t.sc x.az).1 t.sc t.on t.bm name K rest).2.1)∧(∃t',iq L' w' 130 bt t'∧t'.aP=t.aP∧t'.regs=t.regs)∧Fr L w L' w':=by
 obtain⟨ar,nr,cr,rfl,p9,bc⟩:=dM hv
 subst p9
 obtain⟨a9,n9,c9,rfl,AH,_⟩:=dM oN
 subst AH
 have lV:=h.dL
 have jB:=l4 hs.types fC
 have aw:=h
 have hR:=eP.refl E L w
 have dA:bS L w _ (Ex.bi kD f x).av:=hv
 have o7:=oJ bD.2.1
 have mI:=oJ bD.2.2
 obtain⟨p,hp⟩:∃p,p=cF m t.sc f.az:=⟨_,rfl⟩
 have yE:p.1.types.length<=m.types.length+1∧p.1.code.length<=m.code.length+1∧p.1.count=m.count∧p.1.bW=m.bW∧p.2<1000:=by rw[hp];exact GR hs om
 obtain⟨ptl,pcl,pcn,ptk,p2⟩:=yE
 rw[<-hp]
 obtain⟨q,hq⟩:∃q,q=cF p.1 t.sc x.az:=⟨_,rfl⟩
 have GS:q.1.types.length<=p.1.types.length+1∧q.1.code.length<=p.1.code.length+1∧q.1.count=p.1.count∧q.1.bW=p.1.bW∧q.2<1000:=by rw[hq];exact GR hs om
 obtain⟨qtl,qcl,qcn,qtk,q2⟩:=GS
 rw[<-hq]
 obtain⟨C,hC⟩:∃C,C=fm q.1 t.sc t.on t.bm name K rest:=⟨_,rfl⟩
 have CD:C.1.types.length<=q.1.types.length+4∧C.1.code.length<=q.1.code.length+4∧C.2.1<1000∧C.1.count<=q.1.count+1∧C.1.bW.length<=q.1.bW.length+1:=by rw[hC];exact U2 rb om
 obtain⟨Ctl,Ccl,C2,_,_⟩:=CD
 rw[<-hC]
 obtain⟨rc,GU⟩:∃r,r=C.1.types.length:=⟨_,rfl⟩
 obtain⟨me,CE⟩:∃z,z=sF C.1 p.2:=⟨_,rfl⟩
 have N7:me.types.length=C.1.types.length+3∧me.code.length=C.1.code.length+3:=by rw[CE];exact U3 _ _
 obtain⟨met,mec⟩:=N7
 obtain⟨r,oS⟩:∃r,r=me.types.length:=⟨_,rfl⟩
 obtain⟨c,ey⟩:∃c,c=me.code.length:=⟨_,rfl⟩
 have t0:me.types.length=r:=oS.symm
 have c0:me.code.length=c:=ey.symm
 have ahe:xO C.1 p.2 q.2 C.2.1=(((me.cY nT [[48],bf (rc+2)]).cY nT [[49],bf q.2]).cY nT [[50],bf C.2.1]).cY z1 [bf (rc+1)]:=by rw[CE,GU];rfl
 rw[ahe]
 have Ns:(Ex.bi kD f x).av.au.length=3:=rfl
 obtain⟨b1,fY,gX,gY,e1,bC,_⟩:=fI bc (i:=1) om
 cases e1
 have bC:iZ L w _ _ [str f.av.az,.slice gX f.av.au.length gY]:=bC
 rw[Ex.qZ] at bC
 obtain⟨b2,ni,jb,jc,e2,bX,_⟩:=fI bc (i:=2) om
 cases e2
 have bX:iZ L w _ _ [str x.av.az,.slice jb x.av.au.length jc]:=bX
 rw[Ex.qZ] at bX
 refine cV [] 67 Tryz.func144 rfl Yd rfl rfl ?_
 refine zr<|fE rfl ?_
 intro w1 aK cG dY
 have aw:=aw.ext aK;have hR:=hR.ext aK
 refine fE rfl ?_
 intro w2 aq cT eM
 have aw:=aw.ext aq;have hR:=hR.ext aq;have cG:=cG.ext aq
 refine ag<|zr<|zm<|zL bT aH rfl cG.all rfl ?_
 have cG:fg L w2 w.heap.size [str (Ex.bi kD f x).av.az,.slice (some ⟨b1,fY,none⟩) (Ex.bi kD f x).av.au.length cr].toArray 66:=⟨cG,λhx=>by have:=lV _ hx;omega⟩
 have cT:fg L w2 w1.heap.size [str rest.av.az,.slice a9 rest.av.au.length c9].toArray 66:=⟨cT,λhx=>by have:=lV _ hx;omega⟩
 refine aC (Jn t (Ex.bi kD f x) bD hn hs.types om _ L bt w2 aw.dL (hR.tk hT eT) (dA.go hR.fr)) ?_
 rintro v3 w3 ⟨eh,aJ⟩
 have fZ:=aJ.size
 have aw:=aw.ext aJ;have hR:=hR.ext aJ;have cG:=cG.ext aJ;have cT:=cT.ext aJ
 have eR:=eh
 rw[fC] at eR
 subst eR
 refine zA<|ag<|zr<|zm<|zm<|zf cL rfl<|zl cI rfl (cG.at rfl)<|zi (i:=1) cv aH rfl rfl ((show 1<3 from om))<|zL bT aH rfl ((bC.go hR.fr).cells) rfl<|aC (Cm t f.az m om om om oW E L b bt _ _ _ w3 aw (hR.tk hT eT) eT) ?_
 rintro v20 w4 ⟨pw,L1,aw,bY⟩
 rw[<-hp] at pw aw
 subst pw
 have hR:=hR.go bY;have cG:=cG.go bY.fr;have cT:=cT.go bY.fr
 refine zA<|ag<|zr<|zm<|zm<|zf cL rfl<|zl cI rfl (cG.at rfl)<|zi (i:=2) cv aH rfl rfl ((show 2<3 from om))<|zL bT aH rfl ((bX.go hR.fr).cells) rfl<|aC (Cm t x.az p.1 om om om oW E L1 b bt _ _ _ w4 aw (hR.tk hT eT) eT) ?_
 rintro v20 w5 ⟨pw,L2,aw,bY⟩
 rw[<-hq] at pw aw
 subst pw
 have hR:=hR.go bY;have cT:=cT.go bY.fr
 refine zA<|ag<|aQ<|zr<|zm<|jG rfl rfl rfl rfl<|ag ?_
 refine jg (λ_:Unit=>[(0,.pointer (some ⟨b,0,none⟩)),(1,.pointer (some ⟨bt,0,none⟩)),(11,.int .i64 (p.2:Int)),(12,.int .i64 (q.2:Int))]) (λ_ ww=>∃L3,dZ t8 E L3 ww b true C.1∧iq L3 ww 130 bt {t with on:=C.2.1,bm:=C.2.2}∧Fr L w L3 ww) ?_ ?_
 refine zc rfl (λh1=>?_) (λh1=>?_)
 have gK:name≠[]:=(by simpa using h1)
 have aR:=N6 gK
 obtain⟨g1,g2,g3,g4⟩:=aR
 have CF:fm q.1 t.sc t.on t.bm name K rest=tH q.1 t.sc t.on t.bm name K rest:=(by unfold fm;rw[iP gK])
 rw[CF] at hC
 refine db<|zm<|zm<|zm<|zm<|zL bT aH rfl cT.all rfl<|aC (UO t q.1 name K rest g1 g2 g3 g4 hs oW jB rb kM om om om (by rw[qtk,ptk];omega) E L2 b bt _ w5 aw (hR.tk hT eT) eT (oN.go hR.fr)) ?_
 rintro v39 w6 ⟨L3,aw,eY,yH,_⟩
 rw[<-hC] at aw eY
 have hF:=hR.fr.go yH
 refine ag ?_
 exact⟨(),⟨rfl,rfl,rfl,rfl⟩,L3,aw,eY,hF⟩
 have gK:¬name≠[]:=(by simpa using h1)
 have CF:fm q.1 t.sc t.on t.bm name K rest=(q.1,t.on,t.bm):=(by unfold fm;rw[iN gK])
 rw[CF] at hC
 subst hC
 refine bz ?_
 exact⟨(),⟨rfl,rfl,rfl,rfl⟩,L2,aw,hR.tk hT eT,hR.fr⟩
 intro gu w6 e6 hI
 obtain⟨L3,aw,eY,yH⟩:=hI
 have hR:=eP.refl E L3 w6
 refine zr<|zm<|zm<|aC (Uq C.1 p.2 om om om E L3 b w6 aw) ?_
 rintro U4 w7 ⟨DN,L0,aw,bY⟩
 rw[<-CE] at aw
 rw[<-GU] at DN
 subst DN
 have hR:=hR.go bY
 have dB:=aw.dL
 refine zm<|zx (i:=0) rfl rfl<|zx (i:=1) rfl rfl<|zA<|zA<|ag<|zr<|zm<|zm<|ln bh bA rfl rfl rfl rfl ?_
 intro w8 cu CB mn
 have aw:=aw.ext cu;have hR:=hR.ext cu
 refine aC (lh nT [[48],bf (rc+2)] (mD de sm (by intro z hz;simp at hz;rcases hz with rfl|rfl;(·decide);(·exact mj om))) me om E L0 b _ w8 aw (aY.eD [[48],bf (rc+2)] CB (λhx=>by have:=dB _ hx;omega))) ?_
 rintro jV w9 ⟨L1,aw,bY⟩
 have hR:=hR.go bY
 clear CB
 have iK:∃x,x=me.cY nT [[48],bf (rc+2)]:=⟨_,rfl⟩
 obtain⟨m1,lS⟩:=iK
 rw[<-lS] at aw
 have t1:m1.types.length=r+0:=(by rw[lS,oL];omega)
 have c1:m1.code.length=c+1:=(by rw[lS,pt];omega)
 have dB:=aw.dL
 refine ag<|zr<|zm<|zm<|aC (iM (q.2+1) q.2 om om w9) ?_
 rintro v10 cM ⟨rm,bU⟩
 have B8:=bU.size
 have aw:=aw.ext bU;have hR:=hR.ext bU
 obtain rfl:=rm
 have dB:=aw.dL
 refine ln bh bA rfl rfl rfl rfl ?_
 intro eW cK U5 uC
 have aw:=aw.ext cK;have hR:=hR.ext cK
 refine aC (lh nT [[49],bf q.2] (mD de sm (by intro z hz;simp at hz;rcases hz with rfl|rfl;(·decide);(·exact mj om))) m1 om E L1 b _ eW aw (aY.eD [[49],bf q.2] U5 (λhx=>by have:=dB _ hx;omega))) ?_
 rintro jV gh ⟨L2,aw,bY⟩
 have hR:=hR.go bY
 clear U5
 have fF:∃x,x=m1.cY nT [[49],bf q.2]:=⟨_,rfl⟩
 obtain⟨m2,lT⟩:=fF
 rw[<-lT] at aw
 have t2:m2.types.length=r+0:=(by rw[lT,oL];omega)
 have c2:m2.code.length=c+2:=(by rw[lT,pt];omega)
 have dB:=aw.dL
 have aR:=hR.tk eY eT
 obtain⟨u1,u3,u4,u5,u6,u8,cA,iv⟩:=aR
 have cA:aY gh bt [str t.aP,u1,.int .i64 (t.loads:Int),u3,u4,u5,u6,str t.expr.av.az,u8,.int .i64 (C.2.1:Int),str C.2.2,.int .i64 (t.next:Int)].toArray 130:=cA
 refine ag<|zr<|zm<|zm<|di rfl<|zf HC rfl<|zl qN rfl (cA.at rfl)<|aC (iM (C.2.1+1) C.2.1 om om gh) ?_
 rintro wL jD ⟨vB,fK⟩
 have Gt:=fK.size
 have aw:=aw.ext fK;have hR:=hR.ext fK
 obtain rfl:=vB
 have dB:=aw.dL
 refine ln bh bA rfl rfl rfl rfl ?_
 intro je dK JD Ck
 have aw:=aw.ext dK;have hR:=hR.ext dK
 refine aC (lh nT [[50],bf C.2.1] (mD de sm (by intro z hz;simp at hz;rcases hz with rfl|rfl;(·decide);(·exact mj om))) m2 om E L2 b _ je aw (aY.eD [[50],bf C.2.1] JD (λhx=>by have:=dB _ hx;omega))) ?_
 rintro jV p6 ⟨L3,aw,bY⟩
 have hR:=hR.go bY
 clear JD
 have yv:∃x,x=m2.cY nT [[50],bf C.2.1]:=⟨_,rfl⟩
 obtain⟨m3,lU⟩:=yv
 rw[<-lU] at aw
 have t3:m3.types.length=r+0:=(by rw[lU,oL];omega)
 have c3:m3.code.length=c+3:=(by rw[lU,pt];omega)
 have dB:=aw.dL
 refine ag<|db<|zm<|zm<|gD bh bA rfl rfl ?_
 intro lQ kX U6 F5
 have aw:=aw.ext kX;have hR:=hR.ext kX
 refine aC (lh z1 [bf (rc+1)] (mD de sm (by intro z hz;simp at hz;subst hz;exact mj om)) m3 om E L3 b _ lQ aw (aY.eD [bf (rc+1)] U6 (λhx=>by have:=dB _ hx;omega))) ?_
 rintro jV vC ⟨L4,aw,bY⟩
 have hR:=hR.go bY
 clear U6
 have Ct:∃x,x=m3.cY z1 [bf (rc+1)]:=⟨_,rfl⟩
 obtain⟨m4,oQ⟩:=Ct
 rw[<-oQ] at aw
 have t4:m4.types.length=r+0:=(by rw[oQ,oL];omega)
 have c4:m4.code.length=c+4:=(by rw[oQ,pt];omega)
 have dB:=aw.dL
 refine ag ?_
 subst oQ lU lT lS
 exact⟨_,rfl,_,aw,⟨_,hR.tk eY eT,rfl,rfl⟩,yH.go hR.fr⟩
/-! ### Cells of one block that are written -/
def KW (b:Nat) (T:TypeId) (ws:List (Nat×Value)) (w w':World):Prop:=ak [b] w w'∧∀cs,aY w b cs T->∃cs',aY w' b cs' T∧cs'.size=cs.size∧∀j:Nat,cs'[j]?=cs[j]?∨∃v,(j,v)∈ws∧cs'[j]?=some v
theorem ahg {cs:Array Value} (h:k+vs.length<=cs.size) (j:Nat):(setAt cs k vs)[j]?=if k<=j∧j<k+vs.length then vs[j-k]? else cs[j]?:=by
 rw[<-Array.getElem?_toList,HU _ _ _ h,List.getElem?_append,List.getElem?_append,List.getElem?_take,List.getElem?_drop,List.length_take,Array.length_toList,Nat.min_eq_left om]
 by_cases h1:j<k
 ·rw[iP h1,iP h1,iN om];simp
 ·rw[iN h1]
  by_cases h2:j<k+vs.length
  ·rw[iP om,iP ⟨by omega,h2⟩]
  ·rw[iN om,iN om]
   have:k+vs.length+(j-k-vs.length)=j:=by omega
   rw[this];simp
def rowAt (o:Nat):List Value->List (Nat×Value)
 |[]=>[]
 |v::vs=>(o,v)::rowAt (o+1) vs
theorem U7:∀{vs:List Value} {o j:Nat} {v:Value},(j,v)∈rowAt o vs↔o<=j∧vs[j-o]?=some v
 |[],o,j,v=>by simp[rowAt]
 |u::us,o,j,v=>by
  rw[rowAt,mC,U7]
  constructor
  ·rintro(h|⟨h1,h2⟩)
   ·cases h;simp
   ·refine⟨by omega,?_⟩
    rw[show j-o=(j-(o+1))+1 from by omega];simpa using h2
  ·rintro⟨h1,h2⟩
   rcases Nat.eq_or_lt_of_le h1 with h|h
   ·subst h;left;simp at h2;rw[h2]
   ·right
    refine⟨h,?_⟩
    rw[show j-o=(j-(o+1))+1 from by omega] at h2;simpa using h2
section
variable {P:Program} {n:Nat} {ops:Array Oper} {K:Env->World->Prop} {rest:List Oper} {e:Env} {w:World}
 {dst:Option Nat} {ty:TypeId} {pos:String} {after:Array Edge} {g:Option (Nat×Bool)} {x y:Operand}
theorem ahh {T U bytes:Nat} {z:Value} {vs:List Value} {o:Nat} {cs:Array Value} (kK:TI P T sz bytes z) (hg:gate ops e g=true) (hx:ev e x= .pointer (some ⟨b,o,none⟩)) (hy:ev e y=v) (hv:v.cells=vs.toArray) (hl:Nat.beq vs.length sz=true) (h1:vs.all Value.oneCell'=true) 
  (hb:aY w b cs U) (ho:o+vs.length<=cs.size)
  (k:∀w',ak [b] w w'->aY w' b (setAt cs o vs) U->KW b U (rowAt o vs) w w'->w'.heap.size=w.heap.size->OW P n ops K rest e w'):
  OW P n ops K (⟨none,.store T x y,ty,pos,after,g⟩::rest) e w:=by
 have gJ:vs.length=sz:=Nat.eq_of_beq_eq_true hl
 obtain⟨w',kl,hk,gV,hz⟩:=Lg (P:=P) vs 0 w b o U cs hb om (λu hu=>List.all_eq_true.1 h1 u hu)
 rw[Nat.add_zero] at gV
 refine Hq hg (w':=w') (by
  simp[execOp,Instr.storeAt,Instr.sureAddr,hx,hy,storeVar,hv,kK.ti,gJ,kl]) (k w' hk gV ⟨hk,λcs2 h2=>?_⟩ hz)
 have e:cs2=cs:=by
  unfold aY at h2 hb
  rw[h2] at hb
  injection hb with h;injection h
 subst e
 refine⟨_,gV,HT _ _ _,λj=>?_⟩
 rw[ahg ho]
 split
 ·rename_i h
  obtain⟨v,hv⟩:∃v,vs[j-o]?=some v:=⟨vs[j-o]'om,gE om⟩
  exact .inr ⟨v,U7.2 ⟨h.1,hv⟩,hv⟩
 ·exact .inl rfl
end
section
variable {P:Program} {n:Nat} {ops:Array Oper} {K:Env->World->Prop} {rest:List Oper} {e:Env} {w:World}
 {dst:Option Nat} {ty:TypeId} {pos:String} {after:Array Edge} {g:Option (Nat×Bool)} {x y:Operand}
end
theorem U8 (xs:List aj):∀row,row∈jh xs->∀c,c∈row->∀v,c= .val v->v.oneCell'=true:=by
 intro row hr c hc v hv
 obtain⟨n,_,rfl⟩:=List.mem_map.1 hr
 simp at hc;subst hc;cases hv;rfl
theorem eP.jv (k:eP E L w L1 w1) {cs:Array Value} {T:TypeId} (h:aY w b cs T) (hb:b∈E):aY w1 b cs T:=let⟨_,kg,hG⟩:=k.out;h.aO kg λhx=>hG b hx hb
def qI (bt:Nat) (E:List Nat) (w w':World):Prop:=∃G,ak G w w'∧∀z,z∈G->z∈E->z=bt
theorem eP.ft (k:eP E L w L1 w1) (bt:Nat):qI bt E w w1:=let⟨G,kg,hG⟩:=k.out;⟨G,kg,λz hz sf=>absurd sf (hG z hz)⟩
theorem qI.trans {bt:Nat} (h:qI bt E w w1) (k:qI bt E w1 w2):qI bt E w w2:=let⟨G,kg,hG⟩:=h;let⟨G2,kg2,F8⟩:=k;⟨G++G2,(kg.mono λx hx=>List.mem_append_left _ hx).trans (kg2.mono λx hx=>mR _ hx),λz hz sf=>(mA.1 hz).elim (λh=>hG z h sf) (λh=>F8 z h sf)⟩
theorem qI.sub {bt:Nat} (h:qI bt (x::E) w w1):qI bt E w w1:=let⟨G,kg,hG⟩:=h;⟨G,kg,λz hz sf=>hG z hz (mK _ sf)⟩
theorem qI.of {bt:Nat} (k:ak G w w1) (hG:∀z,z∈G->z∈E->z=bt):qI bt E w w1:=⟨G,k,hG⟩
theorem qI.jv {bt:Nat} (k:qI bt E w w1) {cs:Array Value} {T:TypeId} (h:aY w b cs T) (hb:b∈E) (hn:b≠bt):aY w1 b cs T:=let⟨_,kg,hG⟩:=k;h.aO kg λhx=>hn (hG b hx hb)
set_option maxHeartbeats 4000000 in
theorem ahk (t:Tk) (m:Mk) (c xa y:Ex) (name:aj) (rest:Ex) (K:Ty) (bD:(Ex.ite c xa y).ok) (hn:(Ex.ite c xa y).n<=1000) (fC:bM (.ite c xa y) (fi t.sc)=some K) (hs:ku t.sc) (oW:t.sc.length<=9000) (rb:t.on<1000) (kM:t.bm.length<=272) (N6:name≠[]->N5 t.sc name rest) (ht:m.types.length+9<1000) (hc:m.code.length<=7000) (wY:m.count+1<1000) (gv:m.bW.length<90000) 
  (E L:List Nat) (b bt:Nat) (v vr:Value) (w:World) (h:dZ t8 E L w b true m) (hT:iq L w 130 bt t) (eT:bt∈E) (hv:bS L w v (Ex.ite c xa y).av) (oN:bS L w vr rest.av):
  cj Tryz.prog 145 [.pointer (some ⟨b,0,none⟩),.pointer (some ⟨bt,0,none⟩),v,str name,vr] w λr w'=>∃L',bS L' w' r y.av∧dZ t8 E L' w' b true (FK (fm (cF m t.sc c.az).1 t.sc t.on t.bm name K rest).1 t.sc (fm (cF m t.sc c.az).1 t.sc t.on t.bm name K rest).2.1 (fm (cF m t.sc c.az).1 t.sc t.on t.bm name K rest).2.2 (cF m t.sc c.az).2 xa)∧iq L' w' 130 bt {t with on:=(fm (cF m t.sc c.az).1 t.sc t.on t.bm name K rest).2.1,bm:=(fm (cF m t.sc c.az).1 t.sc t.on t.bm name K rest).2.2}∧Fr L w L' w'∧qI bt E w w':=by
 obtain⟨ar,nr,cr,rfl,p9,bc⟩:=dM hv
 subst p9
 obtain⟨a9,n9,c9,rfl,AH,_⟩:=dM oN
 subst AH
 have lV:=h.dL
 have jB:=l4 hs.types fC
 have aw:=h
 have hR:=eP.refl E L w
 have dA:bS L w _ (Ex.ite c xa y).av:=hv
 have ot:=oJ bD.1
 obtain⟨p,hp⟩:∃p,p=cF m t.sc c.az:=⟨_,rfl⟩
 have yE:p.1.types.length<=m.types.length+1∧p.1.code.length<=m.code.length+1∧p.1.count=m.count∧p.1.bW=m.bW∧p.2<1000:=by rw[hp];exact GR hs om
 obtain⟨ptl,pcl,pcn,ptk,p2⟩:=yE
 rw[<-hp]
 obtain⟨C,hC⟩:∃C,C=fm p.1 t.sc t.on t.bm name K rest:=⟨_,rfl⟩
 have CD:C.1.types.length<=p.1.types.length+4∧C.1.code.length<=p.1.code.length+4∧C.2.1<1000∧C.1.count<=p.1.count+1∧C.1.bW.length<=p.1.bW.length+1:=by rw[hC];exact U2 rb om
 obtain⟨Ctl,Ccl,C2,Ccn,Ctk⟩:=CD
 rw[ptk] at Ctk
 rw[<-hC]
 have hCn:C.1.count<1000:=by omega
 have Cv:=Ao hCn
 obtain⟨m1,r5⟩:∃z,z=C.1.lK.cY Fm [bf p.2,C.1.aP]:=⟨_,rfl⟩
 have ahm:m1.types=C.1.types:=by rw[r5];rfl
 have ahn:m1.bW=C.1.bW:=by rw[r5];rfl
 have hif:FK C.1 t.sc C.2.1 C.2.2 p.2 xa={m1 with bW:=m1.bW++[⟨C.1.aP,m1.types,0,[],t.sc,xa,C.2.1,C.2.2,m1.types.length⟩]}:=by rw[r5];rfl
 rw[hif]
 have IX:(Ex.ite c xa y).av.au.length=4:=rfl
 obtain⟨b1,fY,gX,gY,e1,bC,_⟩:=fI bc (i:=1) om
 cases e1
 have bC:iZ L w _ _ [str c.av.az,.slice gX c.av.au.length gY]:=bC
 rw[Ex.qZ] at bC
 obtain⟨b2,ni,jb,jc,e2,bX,et⟩:=fI bc (i:=2) om
 cases e2
 have bX:iZ L w _ _ [str xa.av.az,.slice jb xa.av.au.length jc]:=bX
 have et:bS L w (.agg #[str xa.av.az,.slice jb xa.av.au.length jc]) xa.av:=et
 obtain⟨b3,B2,pT,pU,e3,er,eY⟩:=fI bc (i:=3) om
 cases e3
 have er:iZ L w _ _ [str y.av.az,.slice pT y.av.au.length pU]:=er
 have eY:bS L w (.agg #[str y.av.az,.slice pT y.av.au.length pU]) y.av:=eY
 refine lF [.cell 10 66] 81 Tryz.func145 rfl Ye rfl rfl rfl ?_
 refine zr<|fE rfl ?_
 intro w1 aK cG dY
 have aw:=aw.ext aK;have hR:=hR.ext aK
 refine fE rfl ?_
 intro w2 aq cT eM
 have aw:=aw.ext aq;have hR:=hR.ext aq;have cG:=cG.ext aq
 refine eA aH rfl rfl rfl ?_
 intro w3 aJ ox Bp
 have cG:=cG.ext aJ;have cT:=cT.ext aJ
 have aw:=aw.sZ aJ sm (lR _) ox.lt
 have p8:=(eP.refl E L w2).more aJ sm (lR _) (λz hz=>by have:=lV z (h.sub hz);omega)
 have GV:Fr L w (w2.heap.size::L) w3:=hR.fr.go p8.fr
 have U9:=(hR.ext aJ).ft bt
 have hT:=(hR.tk hT eT)
 have hT:=p8.tk hT eT
 have hR:=eP.refl (w2.heap.size::E) (w2.heap.size::L) w3
 have rz:bt∈w2.heap.size::E:=mK _ eT
 have Em:w2.heap.size∈w2.heap.size::E:=List.mem_cons_self ..
 have N8:=ox
 refine ag<|zr<|zm<|zL bT aH rfl cG.all rfl ?_
 have JI:∀z,z∈w2.heap.size::L->z=w2.heap.size∨z<w.heap.size:=(λz hz=>(mC.1 hz).imp id (lV z))
 have cG:fg (w2.heap.size::L) w3 w.heap.size [str (Ex.ite c xa y).av.az,.slice (some ⟨b1,fY,none⟩) (Ex.ite c xa y).av.au.length cr].toArray 66:=⟨cG,λhx=>by have:=JI _ hx;omega⟩
 have cT:fg (w2.heap.size::L) w3 w1.heap.size [str rest.av.az,.slice a9 rest.av.au.length c9].toArray 66:=⟨cT,λhx=>by have:=JI _ hx;omega⟩
 have kR:aY w3 w2.heap.size [str [],.slice none 0 0].toArray 66:=N8
 refine aC (Jn t (Ex.ite c xa y) bD hn hs.types om _ _ bt w3 aw.dL (hR.tk hT rz) (dA.go (GV.go hR.fr))) ?_
 rintro v4 w4 ⟨eH,aF⟩
 have gI:=aF.size
 have aw:=aw.ext aF;have hR:=hR.ext aF;have cG:=cG.ext aF;have cT:=cT.ext aF
 have eR:=eH
 rw[fC] at eR
 subst eR
 refine zA<|ag<|zr<|zm<|zm<|zf cL rfl<|zl cI rfl (cG.at rfl)<|zi (i:=1) cv aH rfl rfl ((show 1<4 from om))<|zL bT aH rfl ((bC.go (GV.go hR.fr)).cells) rfl<|aC (Cm t c.az m om om om oW (w2.heap.size::E) _ b bt _ _ _ w4 aw (hR.tk hT rz) rz) ?_
 rintro v20 w5 ⟨pw,L1,aw,bY⟩
 rw[<-hp] at pw aw
 subst pw
 have hR:=hR.go bY;have cG:=cG.go bY.fr;have cT:=cT.go bY.fr
 have kR:=hR.jv kR Em
 refine zA<|ag<|aQ<|zr<|zm<|jG rfl rfl rfl rfl<|ag ?_
 refine jg (λ_:Unit=>[(0,.pointer (some ⟨b,0,none⟩)),(1,.pointer (some ⟨bt,0,none⟩)),(7,.pointer (some ⟨w.heap.size,0,none⟩)),(10,.pointer (some ⟨w2.heap.size,0,none⟩)),(12,.int .i64 (p.2:Int))]) (λ_ ww=>∃L3,dZ t8 (w2.heap.size::E) L3 ww b true C.1∧iq L3 ww 130 bt {t with on:=C.2.1,bm:=C.2.2}∧Fr L w L3 ww∧Fr L1 w5 L3 ww∧aY ww w2.heap.size [str [],.slice none 0 0].toArray 66∧qI bt E w ww) ?_ ?_
 refine zc rfl (λh1=>?_) (λh1=>?_)
 have gK:name≠[]:=(by simpa using h1)
 have aR:=N6 gK
 obtain⟨g1,g2,g3,g4⟩:=aR
 have CF:fm p.1 t.sc t.on t.bm name K rest=tH p.1 t.sc t.on t.bm name K rest:=(by unfold fm;rw[iP gK])
 rw[CF] at hC
 have eK:w2.heap.size≠bt:=(λe9=>by have:=lV bt (h.sub eT);omega)
 refine db<|zm<|zm<|zm<|zm<|zL bT aH rfl cT.all rfl<|aC (UO t p.1 name K rest g1 g2 g3 g4 hs oW jB rb kM om om om (by rw[ptk];omega) (w2.heap.size::E) L1 b bt _ w5 aw (hR.tk hT rz) rz (oN.go (GV.go hR.fr))) ?_
 rintro v39 w6 ⟨L3,aw,Va,yH,G9,aG,Vb⟩
 rw[<-hC] at aw Va
 have hF:=(GV.go hR.fr).go yH
 have kR:=(hR.jv N8 Em).aO aG (λhx=>eK (Vb _ hx Em))
 have hOq:=(U9.trans (hR.ft bt).sub).trans (qI.of aG (λz hz sf=>Vb z hz (mK _ sf)))
 refine ag ?_
 exact⟨(),⟨rfl,rfl,rfl,rfl,rfl⟩,L3,aw,Va,hF,yH,kR,hOq⟩
 have gK:¬name≠[]:=(by simpa using h1)
 have CF:fm p.1 t.sc t.on t.bm name K rest=(p.1,t.on,t.bm):=(by unfold fm;rw[iN gK])
 rw[CF] at hC
 subst hC
 refine bz ?_
 exact⟨(),⟨rfl,rfl,rfl,rfl,rfl⟩,L1,aw,hR.tk hT rz,GV.go hR.fr,Fr.refl _ _,hR.jv N8 Em,U9.trans (hR.ft bt).sub⟩
 intro gu w6 e6 hI
 obtain⟨L3,aw,dR,yH,hF9,kR,hOc⟩:=hI
 have hR:=eP.refl (w2.heap.size::E) L3 w6
 have Vc:=cG.go hF9
 have ahs:=kR
 refine zr<|zm<|aC (Nt C.1 om (w2.heap.size::E) L3 b true w6 aw) ?_
 rintro v34 w7 ⟨⟨e34,aw⟩,ahu⟩
 subst e34
 have ahv:=aw.mem.1 b sm
 have wZ:=aw.mem.2.2.1
 have hR:=hR.aL ahu ahv wZ
 refine zA<|ag<|zr<|zm<|zm<|aC (iM (p.2+1) p.2 om om w7) ?_
 rintro v8 w8 ⟨p3,cu⟩
 have Ay:=cu.size
 have aw:=aw.ext cu;have hR:=hR.ext cu
 obtain rfl:=p3
 have dB:=aw.dL
 refine zm<|ln bh bA rfl rfl rfl rfl ?_
 intro w9 aG ye dN
 have aw:=aw.ext aG;have hR:=hR.ext aG
 refine aC (lh Fm [bf p.2,C.1.aP] (mD de sm (by intro z hz;simp at hz;rcases hz with rfl|rfl;(·exact mj om);(·omega))) C.1.lK (show C.1.code.length<100000 from om) (w2.heap.size::E) L3 b _ w9 aw (aY.eD [bf p.2,C.1.aP] ye (λhx=>by have:=dB _ hx;omega))) ?_
 rintro v40 cM ⟨L4,aw,bY⟩
 rw[<-r5] at aw
 have hR:=hR.go bY
 clear ye
 have ky:=hR.tk dR rz
 obtain⟨u1,u3,u4,u5,u6,u8,cA,iv⟩:=ky
 have dB:=aw.dL
 have tX:=hR
 have mh:=aw
 refine ag<|zr<|zm<|di rfl<|zL C5 k7 rfl cA.all rfl<|eA k7 rfl rfl rfl ?_
 intro eW cK fx Ck
 have kA:=cK
 refine du k7 rfl rfl iv.one fx rfl ?_
 intro gh dC fx dN
 have kA:=kA.since dC (λx hx=>.inr (by simp at hx;omega))
 refine ag<|zr<|zm<|zf Ky rfl<|gW (o:=0) bA rfl rfl rfl fx rfl ?_
 intro jD fK fx dN
 have kA:=kA.since fK (λx hx=>.inr (by simp at hx;omega))
 have qA:=mh.ext kA
 have hwq:=kA.size
 have aR:=qA.open
 obtain⟨Vd,vt9,vc9,vy9,gb9,gt9,gc9,gy9,AD,AF⟩:=aR
 have aR:=kt AF.ty
 obtain⟨ay9,Gn,ey9⟩:=aR
 subst ey9
 have hbz:=fx.lt
 have N9:=jD
 refine ag<|zr<|zJ jD.heap.size [] bh bA rfl rfl (lR _) sm ?_
 intro je dK IW wI
 have fx:=fx.ext dK;have kA:=kA.ext dK
 have rv:=dK
 have AD:=AD.ext dK
 refine zm<|di rfl<|zf zn rfl<|zl eQ rfl (AD.at rfl)<|xI bh bA rfl rfl rfl rfl rfl rfl wI (((AF.ty.ext rv).rep (L:=[jD.heap.size]) (λx hx mI=>by have:=AF.ty.lt x (by simp[hx]);simp at mI;omega)).fresh (λx hx=>.inl (by simpa using hx))) (U8 _) (by rw[rM,ahm];simp;omega) ?_
 intro a4 jd g4 p6 kV jE
 rw[List.nil_append] at kV
 have kA:=kA.since jE (λx hx=>.inr (by simp at hx;omega))
 have fx:=fx.aO jE so
 have lv:=kV.vY
 have kT:=kV.low
 refine zf C7 rfl<|gW (o:=1) nJ rfl rfl rfl fx rfl ?_
 intro lQ kX fx dN
 have kA:=kA.since kX (λx hx=>.inr (by simp at hx;omega))
 have lv:=lv.aO kX (λz hz eM=>by have:=kT z hz;simp at eM;omega)
 refine ag<|zr<|zf PN rfl<|gW (o:=2) tq rfl rfl rfl fx rfl ?_
 intro vC p7 fx dN
 have kA:=kA.since p7 (λx hx=>.inr (by simp at hx;omega))
 have lv:=lv.aO p7 (λz hz eM=>by have:=kT z hz;simp at eM;omega)
 have wc:=fx.lt
 refine ag<|zr<|gN bh bA ?_
 intro wX ua CG ahx
 have fx:=fx.ext ua;have kA:=kA.ext ua;have lv:=lv.ext ua
 refine zf Bm rfl<|gW (o:=3) nJ rfl rfl rfl fx rfl ?_
 intro Cu vE fx dN
 have kA:=kA.since vE (λx hx=>.inr (by simp at hx;omega))
 have lv:=lv.aO vE (λz hz eM=>by have:=kT z hz;simp at eM;omega)
 have CG:=CG.aO vE so
 have cG:=(Vc.go tX.fr).ext kA
 have Ve:=yH.go tX.fr
 refine ag<|zr<|zf cL rfl<|zl cI rfl (cG.at rfl)<|zi (i:=2) cv aH rfl rfl ((show 2<4 from om))<|zL bT aH rfl (((bX.go Ve).ext kA).cells) rfl<|zf PO rfl<|ahh (vs:=[str xa.av.az,.slice jb xa.av.au.length jc]) aH rfl rfl rfl rfl rfl rfl fx (Nat.le_of_ble_eq_true rfl) ?_
 intro vF uk fx ano dN
 have kA:=kA.since uk (λx hx=>.inr (by simp at hx;omega))
 have lv:=lv.aO uk (λz hz eM=>by have:=kT z hz;simp at eM;omega)
 have CG:=CG.aO uk so
 have qA:=mh.ext kA
 have aR:=qA.open
 obtain⟨vb8,vt8,vc8,vy8,gb8,gt8,gc8,gy8,ahy,hS8⟩:=aR
 have aR:=kt hS8.ty
 obtain⟨ay8,cy8,ey8⟩:=aR
 subst ey8
 refine ag<|zr<|zm<|di rfl<|zf zn rfl<|zl eQ rfl (ahy.at rfl)<|dX bh rfl<|zf ZU rfl<|gW (o:=11) tq rfl rfl rfl fx rfl ?_
 intro rr vG fx dN
 have kA:=kA.since vG (λx hx=>.inr (by simp at hx;omega))
 have lv:=lv.aO vG (λz hz eM=>by have:=kT z hz;simp at eM;omega)
 have CG:=CG.aO vG so
 have aw:=mh.sZ kA sm (lR _) fx.lt
 have xh:Fr L4 cM (cM.heap.size::L4) rr:=((eP.refl [] L4 cM).more kA sm (lR _) sm).fr
 have hR:=tX.more kA sm (lR _) (λz hz=>dB z (mh.sub hz))
 have Vf:∀z,z∈cM.heap.size::L4->z<=cM.heap.size:=(λz hz=>by rcases mC.1 hz with h9|h9;(·omega);(·have:=dB z h9;omega))
 have CH:fG (cM.heap.size::L4) rr (.slice jb xa.av.au.length jc) xa.av.au:=(by have dN:=dM (et.go (Ve.go xh));obtain⟨_,_,_,e9,_,yE⟩:=dN;cases e9;exact yE)
 have gx:iq (cM.heap.size::L4) rr 130 cM.heap.size (Tk.mk C.1.aP m1.types 0 [] t.sc xa C.2.1 C.2.2 m1.types.length):=⟨_,_,_,_,_,_,fx,⟨lv.rep (λz hz GW=>by have:=kT z hz;have:=Vf z GW;omega),CG.lp.rep (λz hz GW=>by have:=Vf z GW;simp at hz;omega),iv.aX.go xh,iv.at_.go xh,iv.types.go xh,CH⟩⟩
 have Jp:m1.bW.length<100000:=(by rw[ahn];omega)
 have aR:=aw.open
 obtain⟨vb,vt,vc,vy,gb,gt,gc,gy,tU,hS⟩:=aR
 have aR:=hS.apart
 obtain⟨yp,nD,vz,mB,vA,tW⟩:=aR
 obtain⟨u1,u3,u4,u5,u6,u8,GK,s5⟩:=gx
 have bj:fg gt.toList rr b [vb,vt,.int .i64 ((m1).count:Int),.bool (m1).wide,vc,vy].toArray 127:=⟨tU,λhx=>(mB b hx).2.1 rfl⟩
 have fx:fg gt.toList rr cM.heap.size (pM (Tk.mk C.1.aP m1.types 0 [] t.sc xa C.2.1 C.2.2 m1.types.length) u1 u3 u4 u5 u6 u8).toArray 130:=⟨GK,λhx=>(mB cM.heap.size hx).1 sm⟩
 have pX:fu gt.toList rr:=(λx hx=>hS.cZ x (hS.mem.2 (by simp[hx])))
 have AS:∀x,x∈gt.toList->x∈(cM.heap.size::L4):=(λx hx=>hS.mem.2 (by simp[hx]))
 refine ag<|aQ ?_
 apply kc ei gt.toList 8 (rA 67 8) (rA 67 8) [[],[],[1],[2],[3],[],[5],[4,6]] [Ie.v _,Ie.v _,Ie.v _,Ie.v _,Ie.v _,Ie.v _,Ie.p (fun(G:List Nat) (v:Value) (ww:World)=>∃bb,v= .slice (some ⟨bb,0,none⟩) 1 1∧fg G ww bb (pM (Tk.mk C.1.aP m1.types 0 [] t.sc xa C.2.1 C.2.2 m1.types.length) u1 u3 u4 u5 u6 u8).toArray 130),Ie.e 0] [7] [fun(G:List Nat) (vs:List Value) (ww:World)=>G=gt.toList∧ak [] rr ww,fun(G:List Nat) (vs:List Value) (ww:World)=>∃g2,eC (gt.toList++(g2.toList++(cM.heap.size::L4))) ww 130 12 (vs.getD 0 undef) g2 (((m1).bW++[(Tk.mk C.1.aP m1.types 0 [] t.sc xa C.2.1 C.2.2 m1.types.length)]).map Tk.enc)∧ak gt.toList rr ww∧(g2=gt∨∃x,g2=some x∧rr.heap.size<=x)] de rfl pX (by exact⟨λG v w G' w' ⟨bb,e,h⟩ k=>⟨bb,e,h.go k⟩,trivial⟩) (by exact⟨λG vs w w' ⟨h1,h2⟩ k=>⟨h1,h2.ext k⟩,λG vs w w' ⟨g2,h1,h2,h3⟩ k=>⟨g2,h1.ext k,h2.ext k,h3⟩,trivial⟩) (⟨rfl,ak.refl _ _⟩)
 refine cR ?_
 refine cR ?_
 refine vf (λ_ _ _ _ _ _=>di rfl fv) ?_
 refine vf (λ_ _ _ _ _ _=>zf zk rfl fv) ?_
 refine vf (λx Ef Oa aW ug JJ=>?_) ?_
 have bj:=bj.go ug
 refine zl EY rfl (bj.at rfl) ?_
 exact fv
 refine vf (λx Ef Oa aW ug JJ=>?_) ?_
 have fx:=fx.go ug
 refine zL C5 k7 rfl fx.all rfl ?_
 exact fv
 refine vf (λx Ef Oa aW ug JJ=>?_) ?_
 refine sA [_] [pM (Tk.mk C.1.aP m1.types 0 [] t.sc xa C.2.1 C.2.2 m1.types.length) u1 u3 u4 u5 u6 u8] xA k7 rfl rfl rfl rfl rfl rfl rfl rfl rfl ?_
 intro UD GF MO UP
 exact ff GF (⟨_,rfl,MO.o JJ⟩)
 refine ve 0 (λx Ef Oa aW ug JJ hJ hlen=>?_) ?_
 have bo:=jP hlen
 subst bo
 intro v6 d6
 obtain⟨bb,e6,gw⟩:=d6
 subst e6
 obtain⟨cz,cB⟩:=hJ
 subst cz
 have xU:=(hS.ta.any cB).sub (L':=gt.toList++(cM.heap.size::L4)) (λx hx=>.inl (by rcases mA.1 hx with h|h;(·exact AS x h);(·exact h)))
 have AT:=s5.ext cB
 refine BM (L:=(cM.heap.size::L4)) (row:=Tk.enc (Tk.mk C.1.aP m1.types 0 [] t.sc xa C.2.1 C.2.2 m1.types.length)) xA k7 rfl rfl rfl rfl rfl rfl xU rfl gw.all (λu hu=>List.all_eq_true.1 AT.one u hu) (AT.go ((Fr.refl _ _).to (L2:=gt.toList++(cM.heap.size::L4)) (λx hx=>.inl (by rcases mA.1 hx with h|h;(·exact AS x h);(·exact h))))).Bz (by rw[List.length_map];omega) ?_
 intro v9 g9 UD dJ tY fL
 exact fe g9.toList (⟨tY.aO,λx hx=>by rcases fL with h|h;(·rw[h] at hx;exact .inl hx);(·rw[h] at hx;simp at hx;right;omega)⟩) ((λx hx=>dJ.lt x hx)) (⟨g9,by rw[List.map_append];exact dJ,cB.any.trans tY.aO,fL.imp id (λh=>⟨_,h,cB.size⟩)⟩)
 exact trivial
 intro x Vg G61 aW ahB anB hJ hlen
 have aR:=jQ hlen
 obtain⟨q0,bo⟩:=aR
 subst bo
 intro v6 d6
 have bj:=bj.go ahB
 change OW _ _ _ _ _ (aM (aN _ x _) (zZ 67 [_,_,_,_,_,_,_,_])) _
 obtain⟨g2,dJ,fl,iy⟩:=hJ
 have aR:=hS.Fa dJ fl iy
 obtain⟨L3,gi,jU⟩:=aR
 have aR:=dJ.len
 obtain⟨a3,c3,e3⟩:=aR
 have e4:q0=_:=e3
 subst e4
 have bj:aY _ b [vb,vt,.int .i64 ((m1).count:Int),.bool (m1).wide,vc,vy].toArray 127:=tU.aO fl (λhx=>(mB b hx).2.1 rfl)
 refine di rfl<|zf zk rfl<|gW (o:=1) KF rfl rfl rfl bj rfl ?_
 intro si px bj dN
 have gi:=gi.aO px sm
 have aw:dZ t8 (cM.heap.size::w2.heap.size::E) L3 si b true {m1 with bW:=(m1).bW++[(Tk.mk C.1.aP m1.types 0 [] t.sc xa C.2.1 C.2.2 m1.types.length)]}:=⟨_,_,_,_,_,_,_,_,bj,gi⟩
 have hR:=(hR.add jU fl (λx hx vI=>(mB x hx).1 (by simp[vI]))).aL px (gi.mem.2 (.inr (.inl rfl))) (λvI=>nD (by simp[vI]))
 have vK:=aw.drop
 obtain⟨L5,eL5,aw⟩:=vK
 have hR:=hR.sub (L2:=L5) (λz hz=>by rw[eL5];simp[hz])
 have cG:=Vc.go hR.fr
 have CI:=yH.go hR.fr
 have kR:=hR.jv ahs Em
 have ky:=hR.tk dR rz
 refine ag<|zr<|zf cL rfl<|zl cI rfl (cG.at rfl)<|zi (i:=3) cv aH rfl rfl ((show 3<4 from om))<|zL bT aH rfl ((er.go CI).cells) rfl<|du (vs:=[str y.av.az,.slice pT y.av.au.length pU]) aH rfl rfl rfl kR rfl ?_
 intro CJ s9 kR dN
 have aw:=aw.aO s9 sm
 have hOz:=(hOc.trans (hR.ft bt).sub).trans (qI.of s9 (λz hz sf=>by simp at hz;have:=lV z (h.sub sf);omega))
 have Vh:=aw.sub Em
 have ky:iq L5 CJ 130 bt {t with on:=C.2.1,bm:=C.2.2}:=ky.go (Fr.of s9 (by simpa using Vh)) s9 (by simp;intro e9;have:=lV bt (h.sub eT);omega)
 have CI:=CI.aL s9 (by simpa using Vh)
 have vK:=aw.drop
 obtain⟨L6,Ob,aw⟩:=vK
 have AW:Fr L5 CJ L6 CJ:=(Fr.refl L5 CJ).to (λz hz=>.inl (by rw[Ob];simp[hz]))
 have CI:=CI.go AW
 refine ag<|aV ?_
 exact⟨[_],gO bT aH rfl kR rfl,L6,eY.go CI,aw,ky.go AW (ak.refl [] _) sm,CI,hOz⟩
theorem Vi (h:e.ok):cH e.av=e.head:=by
 cases e with
 |«at» s=>unfold cH;rw[iP (.inl (show s≠[] from pH h))];rfl
 |un hd a=>rfl
 |bi hd a b=>rfl
 |ite a b c=>rfl
 |lt x a b=>rfl
 |fn f x A B b=>rfl
theorem ahE (h:e.ok) (he:e.head=kD):∃f x,e= .bi kD f x:=by
 cases e with
 |bi hd a b=>have he:hd=kD:=he;subst he;exact⟨a,b,rfl⟩
 |un hd a=>have he:hd=kD:=he;rw[he] at h;exact absurd h.1 de
 |«at» s=>cases he
 |ite a b c=>cases he
 |lt x a b=>cases he
 |fn f x A B b=>cases he
theorem ahF {e:Ex} (h:e.head≠gM):bV e=⟨[],e,e⟩:=by
 cases e with
 |lt x a b=>exact absurd rfl h
 |_=>rfl
theorem ahG {v1 v3 v4 v5 v6 v8:Value} {T:TypeId} (h:aY w b (pM t v1 v3 v4 v5 v6 v8).toArray T):iQ w b 7 [str t.expr.av.az,v8]:=λj v hj=>by
 match j,hj with
 |0,hj=>simp at hj;subst hj;exact h.at rfl
 |1,hj=>simp at hj;subst hj;exact h.at rfl
theorem ahH {on:Nat} {bm:aj} {x:Ex} (g:uR m s on bm e T) (hg:(bV e).s= .bi kD f x):
  kF ⟨m,s,on,bm⟩ e= .inl (xO (fm (cF (cF m s f.az).1 s x.az).1 s on bm (bV e).name T (bV e).rest).1 (cF m s f.az).2 (cF (cF m s f.az).1 s x.az).2 (fm (cF (cF m s f.az).1 s x.az).1 s on bm (bV e).name T (bV e).rest).2.1):=by
 have hY:=g.nU
 unfold kF
 simp only[hg,if_true,Iz]
 rw[<-hg,hY]
theorem ahI {on:Nat} {bm:aj} {c x y:Ex} (g:uR m s on bm e T) (hg:(bV e).s= .ite c x y):
  kF ⟨m,s,on,bm⟩ e= .inr (⟨FK (fm (cF m s c.az).1 s on bm (bV e).name T (bV e).rest).1 s (fm (cF m s c.az).1 s on bm (bV e).name T (bV e).rest).2.1 (fm (cF m s c.az).1 s on bm (bV e).name T (bV e).rest).2.2 (cF m s c.az).2 x,s,
    (fm (cF m s c.az).1 s on bm (bV e).name T (bV e).rest).2.1,(fm (cF m s c.az).1 s on bm (bV e).name T (bV e).rest).2.2⟩,y):=by
 have hY:=g.nU
 unfold kF
 simp only[hg,Iz]
 rw[<-hg,hY];rfl
theorem Vj {on:Nat} {bm:aj} (g:uR m s on bm e T) (h1:(bV e).s.head≠kD) (h2:(bV e).s.head≠cC):
  kF ⟨m,s,on,bm⟩ e=(if(bV e).name=[] then .inl (xP (mX m s T (bV e).s).1 on (mX m s T (bV e).s).2) else .inr (⟨(mX m s T (bV e).s).1,s++[((bV e).name,(mX m s T (bV e).s).2,T)],on,bm⟩,(bV e).rest)):=by
 have hY:=g.nU
 rw[<-hY]
 cases hg:(bV e).s with
 |«at» a=>unfold kF;simp only[hg]
 |un a b=>unfold kF;simp only[hg]
 |lt a b c=>unfold kF;simp only[hg]
 |fn a b c d f=>unfold kF;simp only[hg]
 |bi hd f x=>rw[hg] at h1;unfold kF;simp only[hg,iN (show¬hd=kD from h1)]
 |ite a b c=>rw[hg] at h2;exact absurd rfl h2
theorem Vk {a:At} (h:kF a e= .inl m):mu e.n a e=m:=by
 have:=e.pos
 obtain⟨k,hk⟩:∃k,e.n=k+1:=⟨e.n-1,om⟩
 rw[hk];unfold mu;rw[h]
theorem Vl {a:At} {e2:Ex} {m2:Mk} {s2:da} {x6:Nat} {DI:aj} (h:kF a e= .inr (⟨m2,s2,x6,DI⟩,e2)) (hi:nX m2 s2 x6 DI e2) (hn:e2.n+1<=e.n):mu e.n a e=mu e2.n ⟨m2,s2,x6,DI⟩ e2:=by
 have hp:=e.pos
 obtain⟨k,hk⟩:∃k,e.n=k+1:=⟨e.n-1,om⟩
 rw[hk]
 show(match kF a e with| .inl m=>m| .inr p=>mu k p.1 p.2)=_
 rw[h]
 exact acU k hi (show e2.n<=k by omega)
theorem Vm {on:Nat} {bm:aj} (h:nX m s on bm e) (g:uR m s on bm e T) (hn:(bV e).name≠[]):N5 s (bV e).name (bV e).rest:=by
 obtain⟨gK,FJ,⟨U,hU⟩,rf⟩:=g.rest hn
 have hb:=h.bud
 have sM:∀y,Fv y (bV e).rest->y∉[(bV e).name]->(look (fi s) y).isSome=true:=λy hy fH=>by
  have:=pJ hU hy
  rw[mV,iN (λe9=>fH (by rw[e9];simp))] at this;exact this
 have hf:=Mg (s:=s) (bd:=[(bV e).name]) om sM
 exact⟨FJ,om,λx hx=>by
  rcases(qm x _ [(bV e).name] []).1 hx with h9|h9
  ·simp at h9
  ·exact sM x h9.1 h9.2,om⟩
theorem ahJ {s:aj} (h:Am s):s.length<=272:=by
 obtain⟨T,hT,rfl⟩:=h
 exact tM hT
set_option maxHeartbeats 8000000 in
theorem Vn (t:Tk) (m:Mk) (hI:nX m t.sc t.on t.bm t.expr) (hn:t.expr.n<=120) (hc:m.code.length<=1100) (gv:m.bW.length<80000) 
  (E L:List Nat) (b bt:Nat) (w:World) (h:dZ t8 E L w b true m) (hT:iq L w 130 bt t) (eT:bt∈E):
  cj Tryz.prog 109 [.pointer (some ⟨b,0,none⟩),.pointer (some ⟨bt,0,none⟩)] w λr w'=>∃L',dZ t8 E L' w' b true (mu t.expr.n ⟨m,t.sc,t.on,t.bm⟩ t.expr)∧(∃t',iq L' w' 130 bt t'∧t'.aP=t.aP∧t'.regs=t.regs)∧Fr L w L' w':=by
 have lV:=h.dL
 have Gh:=hT
 obtain⟨u1,u3,u4,u5,u6,u8,cA,iv⟩:=hT
 obtain⟨a8,c8,e8,_⟩:=rH iv.au
 rw[iG] at e8
 subst e8
 have ahK:bt<w.heap.size:=lV bt (h.sub eT)
 have ahL:=mO iv.au
 refine cV [] 89 Tryz.func109 rfl XI rfl rfl ?_
 refine zr<|zm<|di rfl<|zf PO rfl<|zL bT aH rfl ((ahG cA)) rfl<|eA aH rfl rfl rfl ?_
 intro w1 aK aI iS
 have gL:=aK
 refine du aH rfl rfl rfl aI rfl ?_
 intro w2 aq aI dN
 have gL:=gL.since aq (λx hx=>.inr (by simp at hx;omega))
 have aw:=h.sZ gL sm (lR _) aI.lt
 have p8:=(eP.refl E L w).more gL sm (lR _) (λz hz=>lV z (h.sub hz))
 have dd:=p8.tk Gh eT
 have vu:=ahL.go p8.fr
 have rz:bt∈w.heap.size::E:=mK _ eT
 have JK:w.heap.size∈w.heap.size::E:=List.mem_cons_self ..
 have Vo:w.heap.size≠bt:=om
 refine ag<|cQ ?_
 refine fW (λe':Ex=>[(0,.pointer (some ⟨b,0,none⟩)),(1,.pointer (some ⟨bt,0,none⟩)),(4,.pointer (some ⟨w.heap.size,0,none⟩))]) (λe' ww=>∃(aa:At) (n9:Nat) (new:List Tk) (L1:List Nat) (ae:Option Addr) (ce:Nat),wC m aa.m aa.s aa.on aa.bm t.expr.n n9 e' new∧mu t.expr.n ⟨m,t.sc,t.on,t.bm⟩ t.expr=mu e'.n aa e'∧dZ t8 (w.heap.size::E) L1 ww b true aa.m∧iq L1 ww 130 bt {t with sc:=aa.s,on:=aa.on,bm:=aa.bm}∧Fr L w L1 ww∧aY ww w.heap.size [str (e').av.az,.slice ae (e').av.au.length ce].toArray 66∧bS L1 ww (.agg #[str (e').av.az,.slice ae (e').av.au.length ce]) (e').av) (λe'=>e'.n) t.expr (⟨rfl,rfl,rfl⟩) (⟨⟨m,t.sc,t.on,t.bm⟩,0,[],_,_,_,wC.start hI,rfl,aw,dd,p8.fr,aI,vu⟩) ?_
 intro gg w3 e3 hI
 obtain⟨⟨m1,s1,uS,En⟩,n9,new,L1,ae,ce,AX,ur,JL,Vp,Oc,CK,Vq⟩:=hI
 dsimp only at AX ur JL Vp
 have j6:=ak.refl [] w3
 have hA:=AX.inv
 have ahM:=hA.goal
 obtain⟨T,g⟩:=ahM
 have bg:=AX.steps
 have Ix:=AX.num
 have anC:=AX.ext.code
 have ahN:=AX.ext.bW
 have hle:=g.le
 have anD:=hA.bud
 have sj:=hA.room
 have yX:=hA.cnt
 have Od:=hA.on
 have Vr:=ahJ hA.bm
 have hep:=gg.pos
 have ou:=(bV gg).s.pos
 have nP:=SQ new
 have anE:m1.code.length<=6500:=om
 have anF:m1.bW.length<85000:=(by rw[ahN,lA];omega)
 have uh:=JL.dL
 have anG:=g.small
 refine cQ<|zr<|zA<|ag<|zr<|zL bT aH rfl ((CK.ext j6).all) rfl<|eA aH rfl rfl rfl ?_
 intro w4 aF bQ lG
 have j6:=j6.ext aF
 refine du aH rfl rfl rfl bQ rfl ?_
 intro w5 aU bQ dN
 have j6:=j6.since aU (λx hx=>.inr (by simp at hx;omega))
 refine ag<|zr<|zL bT aH rfl ((CK.ext j6).all) rfl<|eA aH rfl rfl rfl ?_
 intro w6 bF cG qg
 have j6:=j6.ext bF;have bQ:=bQ.ext bF
 have anH:=bQ.lt
 refine du aH rfl rfl rfl cG rfl ?_
 intro w7 cw cG dN
 have j6:=j6.since cw (λx hx=>.inr (by simp at hx;omega))
 have bQ:=bQ.aO cw so
 have aw:=JL.ext j6
 have vu:=Vq.ext j6
 have aI:=CK.ext j6
 refine ag<|aQ<|zr<|zL bT aH rfl aI.all rfl<|aC (HG gg.av _ L1 w7 vu) ?_
 rintro v8 w8 ⟨p3,cu⟩
 have Ay:=cu.size
 have j6:=j6.ext cu;have bQ:=bQ.ext cu;have cG:=cG.ext cu;have vu:=vu.ext cu;have aI:=aI.ext cu
 have eR:=p3
 rw[Vi hA.ok] at eR
 subst eR
 refine cW rfl rfl<|ag ?_
 refine jg (λ_:Unit=>[(0,.pointer (some ⟨b,0,none⟩)),(1,.pointer (some ⟨bt,0,none⟩)),(4,.pointer (some ⟨w.heap.size,0,none⟩)),(5,str (bV gg).name),(6,.pointer (some ⟨w3.heap.size,0,none⟩)),(7,.pointer (some ⟨w5.heap.size,0,none⟩))]) (λ_ ww=>ak [w3.heap.size,w5.heap.size] w8 ww∧∃a6 c6 a7 c7,(aY ww w3.heap.size [str ((bV gg).s).av.az,.slice a6 ((bV gg).s).av.au.length c6].toArray 66∧bS L1 ww (.agg #[str ((bV gg).s).av.az,.slice a6 ((bV gg).s).av.au.length c6]) ((bV gg).s).av)∧aY ww w5.heap.size [str ((bV gg).rest).av.az,.slice a7 ((bV gg).rest).av.au.length c7].toArray 66∧bS L1 ww (.agg #[str ((bV gg).rest).av.az,.slice a7 ((bV gg).rest).av.au.length c7]) ((bV gg).rest).av) ?_ ?_
 refine zc rfl (λh1=>?_) (λh1=>?_)
 have eU:=IT hA.ok h1
 obtain⟨nx,ea,eb,rfl⟩:=eU
 have IX:(Ex.lt nx ea eb).av.au.length=4:=rfl
 have cJ:=dM Vq
 obtain⟨_,_,_,e9,_,bc⟩:=cJ
 cases e9
 have fS:=fI bc (i:=1) om
 obtain⟨b1,fY,gX,gY,e1,bC,_⟩:=fS
 cases e1
 have bC:iZ L1 w3 _ _ [str nx,.slice gX 0 gY]:=bC
 have fH:=fI bc (i:=2) om
 obtain⟨b2,ni,jb,jc,e2,bX,et⟩:=fH
 cases e2
 have bX:iZ L1 w3 _ _ [str ea.av.az,.slice jb ea.av.au.length jc]:=bX
 have et:bS L1 w3 (.agg #[str ea.av.az,.slice jb ea.av.au.length jc]) ea.av:=et
 have pr:=fI bc (i:=3) om
 obtain⟨b3,B2,pT,pU,e3,er,eY⟩:=pr
 cases e3
 have er:iZ L1 w3 _ _ [str eb.av.az,.slice pT eb.av.au.length pU]:=er
 have eY:bS L1 w3 (.agg #[str eb.av.az,.slice pT eb.av.au.length pU]) eb.av:=eY
 have lq:=ak.refl [w3.heap.size,w5.heap.size] w8
 refine zr<|zf cL rfl<|zl cI rfl ((CK.ext j6).at rfl)<|zi (i:=1) cv aH rfl rfl ((show 1<4 from om))<|zf dz rfl<|zl ck rfl ((bC.ext j6).cells 0 _ rfl)<|zA<|ag<|zr<|zf cL rfl<|zl cI rfl ((CK.ext j6).at rfl)<|zi (i:=2) cv aH rfl rfl ((show 2<4 from om))<|zL bT aH rfl ((bX.ext j6).cells) rfl ?_
 refine du (vs:=[str ea.av.az,.slice jb ea.av.au.length jc]) aH rfl rfl rfl bQ rfl ?_
 intro w9 aG bQ dN
 have j6:=j6.since aG (λx hx=>.inr (by simp at hx;omega))
 have cG:=cG.aO aG so
 have lq:=lq.trans (aG.mono sm)
 refine ag<|db<|zf cL rfl<|zl cI rfl ((CK.ext j6).at rfl)<|zi (i:=3) cv aH rfl rfl ((show 3<4 from om))<|zL bT aH rfl ((er.ext j6).cells) rfl<|du (vs:=[str eb.av.az,.slice pT eb.av.au.length pU]) aH rfl rfl rfl cG rfl ?_
 intro cM bU cG dN
 have j6:=j6.since bU (λx hx=>.inr (by simp at hx;omega))
 have bQ:=bQ.aO bU so
 have lq:=lq.trans (bU.mono sm)
 refine ag ?_
 exact⟨(),⟨rfl,rfl,rfl,rfl,rfl,rfl⟩,lq,jb,jc,pT,pU,⟨bQ,et.ext j6⟩,cG,eY.ext j6⟩
 have o8:=ahF (e:=gg) h1
 refine bz ?_
 exact⟨(),⟨rfl,rfl,rfl,by rw[o8];rfl,rfl,rfl⟩,by rw[o8];exact⟨ak.refl _ _,ae,ce,ae,ce,⟨bQ,vu⟩,cG,vu⟩⟩
 intro gu w9 e9 hI
 obtain⟨lq,a6,c6,a7,c7,⟨bQ,se⟩,cG,tb⟩:=hI
 have xi:=j6.since lq (λx hx=>.inr (by simp at hx;rcases hx with rfl|rfl<;>omega))
 have aw:=JL.ext xi
 have dd:=Vp.ext xi
 have aI:=CK.ext xi
 have cG:fg L1 w9 w5.heap.size _ _:=⟨cG,λhx=>by have:=uh _ hx;omega⟩
 refine aQ<|zr<|zL bT aH rfl bQ.all rfl<|aC (HG (bV gg).s.av _ L1 w9 se) ?_
 rintro v10 cM ⟨rm,bU⟩
 have B8:=bU.size
 have aw:=aw.ext bU;have dd:=dd.ext bU;have aI:=aI.ext bU;have se:=se.ext bU;have tb:=tb.ext bU;have bQ:=bQ.ext bU;have cG:=cG.ext bU;have xi:=xi.ext bU
 have eR:=rm
 rw[Vi g.ok] at eR
 subst eR
 refine ag<|cQ<|zr<|cW rfl rfl<|zA<|ag<|zc rfl (λh2=>?_) (λh2=>?_)
 have jN:=ahE g.ok h2
 obtain⟨f,x9,jN⟩:=jN
 have fZ:3<=(bV gg).s.n:=(by rw[jN];simp only[Ex.n];have:=f.pos;have:=x9.pos;omega)
 have Ml:(bV gg).s.n=(Ex.bi kD f x9).n:=congrArg Ex.n jN
 rw[jN] at bQ se
 have GX:=g.ok
 have GY:=g.type
 rw[jN] at GX GY
 refine zr<|zm<|zm<|zL bT aH rfl bQ.all rfl<|zm<|zL bT aH rfl cG.all rfl<|aC (ahd ({t with sc:=s1,on:=uS,bm:=En}:Tk) m1 f x9 (bV gg).name (bV gg).rest T GX om GY hA.sc (show s1.length<=9000 from om) Od Vr (λAH=>Vm hA g AH) om om om om (w.heap.size::E) L1 b bt _ _ cM aw dd rz se tb) ?_
 rintro U4 eW ⟨L2,aw,⟨t',et,iY,cS⟩,tJ⟩
 have vK:=aw.drop
 obtain⟨L3,eL3,aw⟩:=vK
 have AW:Fr L2 eW L3 eW:=(Fr.refl L2 eW).to (λz hz=>.inl (by rw[eL3];simp[hz]))
 rw[<-Vk (ahH g jN),<-ur] at aw
 refine ag<|aV ?_
 exact⟨_,rfl,L3,aw,⟨t',et.go AW (ak.refl [] _) sm,iY,cS⟩,((Oc.ext xi).go tJ).go AW⟩
 have nI:(bV gg).s.head≠kD:=h2
 refine zr<|cW rfl rfl<|zA<|ag<|zc rfl (λh3=>?_) (λh3=>?_)
 have jN:=Tx g.ok h3
 obtain⟨c9,x9,y9,jN⟩:=jN
 have fZ:4<=(bV gg).s.n:=(by rw[jN];simp only[Ex.n];have:=c9.pos;have:=x9.pos;have:=y9.pos;omega)
 have Ml:(bV gg).s.n=(Ex.ite c9 x9 y9).n:=congrArg Ex.n jN
 rw[jN] at bQ se
 have GX:=g.ok
 have GY:=g.type
 rw[jN] at GX GY
 have ahP:=SI hA g jN
 obtain⟨nw,nw2,_,gS⟩:=ahP
 have ahR:=gS.num
 refine zr<|zm<|zm<|zL bT aH rfl bQ.all rfl<|zm<|zL bT aH rfl cG.all rfl<|aC (ahk ({t with sc:=s1,on:=uS,bm:=En}:Tk) m1 c9 x9 y9 (bV gg).name (bV gg).rest T GX om GY hA.sc (show s1.length<=9000 from om) Od Vr (λAH=>Vm hA g AH) om om om om (w.heap.size::E) L1 b bt _ _ cM aw dd rz se tb) ?_
 rintro v51 eW ⟨L2,JM,aw,et,tJ,hFt⟩
 have cJ:=dM JM
 obtain⟨ay,ny,cy,Oe,Iw,_⟩:=cJ
 subst Oe
 subst Iw
 have aI:=hFt.jv aI JK Vo
 have hF:=(Oc.ext xi).go tJ
 refine du (vs:=[str y9.av.az,.slice ay y9.av.au.length cy]) aH rfl rfl rfl aI rfl ?_
 intro gh dC aI dN
 have CL:=aw.sub JK
 have aw:=aw.aO dC sm
 have et:=et.go (Fr.of dC (by simpa using CL)) dC so;have hF:=hF.aL dC (by simpa using CL);have JM:=JM.go (Fr.of dC (by simpa using CL))
 refine ag<|gB<|Wz rfl<|gC rfl ?_
 exact⟨y9,⟨rfl,rfl,rfl⟩,⟨⟨_,_,_,_⟩,_,_,L2,ay,cy,AX.step gS,ur.trans (Vl (ahI g jN) gS.inv om),aw,et,hF,aI,JM⟩,om⟩
 have mZ:(bV gg).s.head≠cC:=h3
 have hpu:=Mi (m:=m1) hA.sml hA.sc g.ok g.type om om om
 obtain⟨nwp,rN⟩:=hpu
 have CH:∃z,z=mX m1 s1 T (bV gg).s:=⟨_,rfl⟩
 obtain⟨P,hP⟩:=CH
 rw[<-hP] at rN
 have anI:=rN.ext.types
 have anJ:=rN.ext.code
 have hpr:=rN.dG
 refine bz<|zr<|zm<|zL bT aH rfl bQ.all rfl<|aC (Jn ({t with sc:=s1,on:=uS,bm:=En}:Tk) (bV gg).s g.ok om hA.sc.types (show s1.length+2*(bV gg).s.n<=100000 from om) _ L1 bt cM aw.dL dd se) ?_
 rintro v11 eW ⟨ry,cK⟩
 have CA:=cK.size
 have aw:=aw.ext cK;have dd:=dd.ext cK;have aI:=aI.ext cK;have se:=se.ext cK;have tb:=tb.ext cK;have bQ:=bQ.ext cK;have cG:=cG.ext cK;have xi:=xi.ext cK
 have eR:=ry
 rw[g.type] at eR
 subst eR
 refine zA<|ag<|zr<|zm<|zm<|zL bT aH rfl bQ.all rfl<|aC (aha ({t with sc:=s1,on:=uS,bm:=En}:Tk) m1 (bV gg).s T g.ok g.type hA.sc (show 5*s1.length+2*(bV gg).s.n<=240 from om) Od om om om om (w.heap.size::E) L1 b bt _ eW aw dd rz se) ?_
 rintro Jg gh ⟨Eo,L2,aw,bY⟩
 rw[<-hP] at Eo aw
 subst Eo
 have et:=bY.tk dd rz
 have cG:=cG.go bY.fr;have tb:=tb.go bY.fr
 have aI:=bY.jv aI JK
 have hF:=(Oc.ext xi).go bY.fr
 refine zA<|ag<|aQ<|zr<|zm<|cW rfl rfl<|ag<|zc rfl (λh4=>?_) (λh4=>?_)
 have rf:(bV gg).name=[]:=h4
 have Ep:=(Vj g nI mZ).trans (iP rf)
 rw[<-hP] at Ep
 have Of:∃z,z=sF P.1 uS:=⟨_,rfl⟩
 obtain⟨me,CE⟩:=Of
 have N7:me.types.length=P.1.types.length+3∧me.code.length=P.1.code.length+3:=(by rw[CE];exact U3 _ _)
 obtain⟨met,mec⟩:=N7
 have BL:∃z,z=me.types.length:=⟨_,rfl⟩
 obtain⟨r,oS⟩:=BL
 have yI:∃z,z=me.code.length:=⟨_,rfl⟩
 obtain⟨c,ey⟩:=yI
 have t0:me.types.length=r:=oS.symm
 have c0:me.code.length=c:=ey.symm
 have BL:∃z,z=P.1.types.length:=⟨_,rfl⟩
 obtain⟨rc,GU⟩:=BL
 have Im:xP P.1 uS P.2=((me.cY nT [[48],bf (rc+2)]).cY nT [[49],bf P.2]).cY z1 [bf (rc+1)]:=(by rw[CE,GU];rfl)
 rw[Im] at Ep
 have ky:=et
 obtain⟨v1,v3,v4,v5,v6,v8,ahU,_⟩:=ky
 refine zr<|zm<|zm<|di rfl<|zf HC rfl<|zl qN rfl (ahU.at rfl)<|aC (Uq P.1 uS om om om (w.heap.size::E) L2 b gh aw) ?_
 rintro U4 jD ⟨DN,L0,aw,bY⟩
 rw[<-CE] at aw
 rw[<-GU] at DN
 subst DN
 have hR:=bY
 have dB:=aw.dL
 refine zm<|zx (i:=0) rfl rfl<|zx (i:=1) rfl rfl<|zA<|zA<|ag<|zr<|zm<|zm<|ln bh bA rfl rfl rfl rfl ?_
 intro je dK Vs Ck
 have aw:=aw.ext dK;have hR:=hR.ext dK
 refine aC (lh nT [[48],bf (rc+2)] (mD de sm (by intro z hz;simp at hz;rcases hz with rfl|rfl;(·decide);(·exact mj om))) me om (w.heap.size::E) L0 b _ je aw (aY.eD [[48],bf (rc+2)] Vs (λhx=>by have:=dB _ hx;omega))) ?_
 rintro jV p6 ⟨L1,aw,bY⟩
 have hR:=hR.go bY
 clear Vs
 have iK:∃x,x=me.cY nT [[48],bf (rc+2)]:=⟨_,rfl⟩
 obtain⟨m1,lS⟩:=iK
 rw[<-lS] at aw
 have t1:m1.types.length=r+0:=(by rw[lS,oL];omega)
 have c1:m1.code.length=c+1:=(by rw[lS,pt];omega)
 have dB:=aw.dL
 refine ag<|zr<|zm<|zm<|aC (iM (P.2+1) P.2 om om p6) ?_
 rintro yj lQ ⟨Nu,kX⟩
 have TP:=kX.size
 have aw:=aw.ext kX;have hR:=hR.ext kX
 obtain rfl:=Nu
 have dB:=aw.dL
 refine ln bh bA rfl rfl rfl rfl ?_
 intro vC p7 Vt ahV
 have aw:=aw.ext p7;have hR:=hR.ext p7
 refine aC (lh nT [[49],bf P.2] (mD de sm (by intro z hz;simp at hz;rcases hz with rfl|rfl;(·decide);(·exact mj om))) m1 om (w.heap.size::E) L1 b _ vC aw (aY.eD [[49],bf P.2] Vt (λhx=>by have:=dB _ hx;omega))) ?_
 rintro jV wX ⟨L2,aw,bY⟩
 have hR:=hR.go bY
 clear Vt
 have fF:∃x,x=m1.cY nT [[49],bf P.2]:=⟨_,rfl⟩
 obtain⟨m2,lT⟩:=fF
 rw[<-lT] at aw
 have t2:m2.types.length=r+0:=(by rw[lT,oL];omega)
 have c2:m2.code.length=c+2:=(by rw[lT,pt];omega)
 have dB:=aw.dL
 refine ag<|zr<|zm<|zm<|gD bh bA rfl rfl ?_
 intro Cu vE DX aeS
 have aw:=aw.ext vE;have hR:=hR.ext vE
 refine aC (lh z1 [bf (rc+1)] (mD de sm (by intro z hz;simp at hz;subst hz;exact mj om)) m2 om (w.heap.size::E) L2 b _ Cu aw (aY.eD [bf (rc+1)] DX (λhx=>by have:=dB _ hx;omega))) ?_
 rintro jV vF ⟨L3,aw,bY⟩
 have hR:=hR.go bY
 clear DX
 have yv:∃x,x=m2.cY z1 [bf (rc+1)]:=⟨_,rfl⟩
 obtain⟨m3,lU⟩:=yv
 rw[<-lU] at aw
 have t3:m3.types.length=r+0:=(by rw[lU,oL];omega)
 have c3:m3.code.length=c+3:=(by rw[lU,pt];omega)
 have dB:=aw.dL
 have vK:=aw.drop
 obtain⟨L7,eL7,aw⟩:=vK
 have Nk:=hR.tk et rz
 have AW:Fr L3 vF L7 vF:=(Fr.refl L3 vF).to (λz hz=>.inl (by rw[eL7];simp[hz]))
 refine ag<|aV ?_
 subst lU lT lS
 rw[<-Vk Ep,<-ur] at aw
 exact⟨_,rfl,L7,aw,⟨_,Nk.go AW (ak.refl [] _) sm,rfl,rfl⟩,(hF.go hR.fr).go AW⟩
 have rf:(bV gg).name≠[]:=h4
 have Ep:=(Vj g nI mZ).trans (iN rf)
 have De:=SH hA g rf
 obtain⟨nw2,gS⟩:=De
 rw[<-hP] at Ep gS
 have ahR:=gS.num
 have yC:=aw.sub rz
 refine bz<|zr<|zm<|zm<|zm<|zm<|aC (Ed ({t with sc:=s1,on:=uS,bm:=En}:Tk) (bV gg).name P.2 T (show s1.length<100000 from om) L2 bt gh yC aw.dL et) ?_
 rintro v87 jD ⟨et,mE⟩
 have aw:=aw.aO mE (by simpa using .inr eT)
 have cG:=cG.aL mE (by simpa using yC);have tb:=tb.go (Fr.of mE (by simpa using yC))
 have aI:=aI.aO mE (by simpa using Vo)
 have hF:=hF.aL mE (by simpa using yC)
 have et:iq L2 jD 130 bt ({t with sc:=s1++[((bV gg).name,P.2,T)],on:=uS,bm:=En}:Tk):=et
 refine ag<|db<|zL bT aH rfl cG.all rfl<|du (vs:=[str (bV gg).rest.av.az,.slice a7 (bV gg).rest.av.au.length c7]) aH rfl rfl rfl aI rfl ?_
 intro je dK aI dN
 have CL:=aw.sub JK
 have aw:=aw.aO dK sm
 have et:=et.go (Fr.of dK (by simpa using CL)) dK so;have hF:=hF.aL dK (by simpa using CL);have tb:=tb.go (Fr.of dK (by simpa using CL))
 refine ag ?_
 exact⟨(bV gg).rest,⟨rfl,rfl,rfl⟩,⟨⟨_,_,_,_⟩,_,_,L2,a7,c7,AX.step gS,ur.trans (Vl Ep gS.inv om),aw,et,hF,aI,tb⟩,om⟩
theorem ahX (h:oK t) (hk:k<t.loads) {hd:aA} (hh:∀t',ba (t.regs.getD 0 [105])=some t'->hd=t'):k+1<hd.au.length∧nth hd.au (k+1)=nth (nh t) k∧WF (nth (nh t) k)∧(nth (nh t) k).size<=12001:=by
 rcases h.loads with h0|⟨ts,hr,hl,hp⟩
 ·omega
 ·obtain⟨e1,e2⟩:=Mn hr hp
  have e3:=hh _ e2
  have dx:=tt e2
  have iW:=Bt e2
  subst e3
  have hlen:(vZ [116] ts).au.length=ts.length+1:=rfl
  have h1:k+1<(vZ [116] ts).au.length:=by rw[hlen];omega
  have e4:nth (vZ [116] ts).au (k+1)=nth (nh t) k:=by rw[e1];rfl
  have h2:=dx.nth h1
  have h3:=lY h1
  rw[e4] at h2 h3
  have h4:=KO e2
  exact⟨h1,e4,h2,om⟩
theorem ahY {m:Mk} (h:oK t) (hk:k<=t.loads):BS m (o9 (nY m t.regs) (nh t) k) t.regs k:=by
 have hr:=h.room
 rcases h.loads with h0|⟨ts,hh,hl,FL⟩
 ·rw[show k=0 by omega];exact Mo h.regs
 ·obtain⟨e1,_⟩:=Mn hh FL
  rw[e1]
  refine Mp h.regs (λx hx=>?_) _ om om
  have h2:=h.regs _ (List.mem_of_mem_head? hh)
  rw[lN] at h2
  have:=SL (List.mem_map_of_mem (f:=aA.text) hx)
  omega
theorem ahZ (m:Mk) (aP:aj) (regs:List aj) (a b:aj) {CO:aj} {r:Nat} (hC:CO=bO [99] regs) (hP:P0=bO [116] [CO,b]) (hr:r=m.types.length):
  Aq m aP regs a b=(((((m.dG CO).cY sC [bf r,aP]).dG P0).cY l5 [bf (r+1),bf r,[48]]).dG a).cY sD [bf (r+2),bf (r+1),a,b]:=by
 subst hP;subst hC;subst hr;rfl
set_option maxHeartbeats 8000000 in
theorem ah0 (t:Tk) (m:Mk) (Er:oK t) (o:Bool) 
  (E L:List Nat) (b bt:Nat) (w:World) (h:dZ t8 E L w b o m) (hT:iq L w 130 bt t) (eT:bt∈E):
  cj Tryz.prog 112 [.pointer (some ⟨b,0,none⟩),.pointer (some ⟨bt,0,none⟩)] w λr w'=>∃L',dZ t8 E L' w' b true (qv m t)∧eP E L w L' w':=by
 have lV:=h.dL
 have ahK:bt<w.heap.size:=lV bt (h.sub eT)
 have hR:=eP.refl E L w
 have sj:=Er.room
 have aw:=h
 refine cV [] 137 Tryz.func112 rfl XL rfl rfl ?_
 refine zr<|zm<|gN bh bA ?_
 intro w1 aK mw Ge
 have yJ:=h.open
 obtain⟨xb,xt,xc,xy,gb,gt,gc,gy,bj,hS⟩:=yJ
 have x4:=hS.apart
 obtain⟨yp,nD,vz,mB,vA,tW⟩:=x4
 have bj:aY w1 b [xb,xt,.int .i64 (m.count:Int),.bool m.wide,xc,xy].toArray 127:=bj.ext aK
 have yK:=hS.Ig mw.lp aK.any (λx hx=>.inr (by cases hx;exact lR _))
 obtain⟨L1,hS,bY⟩:=yK
 have hR:=(eP.refl E L w).add bY aK sm
 refine di rfl<|zf C6 rfl<|gW (o:=4) nJ rfl rfl rfl bj rfl ?_
 intro w2 aq bj dN
 have hS:=hS.aO aq sm
 have CM:=hS.mem.2 (.inr (.inl rfl))
 have hR:=hR.aL aq CM nD
 have ky:=hR.tk hT eT
 obtain⟨u1,u3,u4,u5,u6,u8,cA,iv⟩:=ky
 have cJ:=eN iv.regs
 obtain⟨a1,n1,c1,e1,fS⟩:=cJ
 subst e1
 subst fS
 have anL:∀x,x∈L1->x<w2.heap.size:=hS.cZ
 refine ag<|zr<|zm<|zJ w2.heap.size [] bh bA rfl rfl (lR _) sm ?_
 intro w3 aJ ahV ah1
 have rv:=aJ
 have cA:=cA.ext aJ
 refine zm<|di rfl<|zf C7 rfl<|zl eQ rfl (cA.at rfl)<|xI bh bA rfl rfl rfl rfl rfl rfl ah1 ((cD.fresh iv.regs (L':=[w2.heap.size]) (λx hx=>.inr (by simp at hx;omega))).ext rv |>.fresh (λx hx=>.inl (by simpa using hx))) (U8 _) (by rw[rM];simp;omega) ?_
 intro a4 jd g4 w4 kV aF
 rw[List.nil_append] at kV
 have Og:=rv.since aF (λx hx=>.inr (by simp at hx;omega))
 have lv:=kV.vY
 have kT:=kV.low
 have bj:=bj.ext Og
 have yK:=hS.LJ lv Og.any (λx hx=>.inr (kT x hx))
 obtain⟨L2,gi,jU⟩:=yK
 have hR:=hR.add jU Og sm
 refine di rfl<|zf zn rfl<|gW (o:=5) nJ rfl rfl rfl bj rfl ?_
 intro w5 aU bj dN
 have gi:=gi.aO aU sm
 have ah2:=gi.mem.2 (.inr (.inl rfl))
 have hR:=hR.aL aU ah2 nD
 have aw:dZ t8 E L2 w5 b true (nY m t.regs):=⟨_,_,_,_,_,_,_,_,bj,gi⟩
 have CC:=aw.dL
 refine ag<|zr<|aC (zB [105] L2 w5 CC) ?_
 rintro v6 w6 ⟨lu,bF⟩
 have oM:=bF.size
 have aw:=aw.ext bF;have hR:=hR.ext bF
 have eR:=lu
 obtain⟨t0x,tv,Oh,JN,ix⟩:=eR
 subst Oh
 have cJ:=dM JN
 obtain⟨a5,n5,c5,e5,I7,_⟩:=cJ
 subst e5
 subst I7
 have mh:=aw
 have tX:=hR
 have CC:=aw.dL
 refine zm<|zx (i:=0) rfl rfl<|zx (i:=1) rfl rfl<|eA aH rfl rfl rfl ?_
 intro w7 cw aI iS
 have dk:=cw
 refine du (vs:=[str t0x.az,.slice a5 t0x.au.length c5]) aH rfl rfl rfl aI rfl ?_
 intro w8 cu aI dN
 have dk:=dk.since cu (λx hx=>.inr (by simp at hx;omega))
 have aw:=mh.ext dk
 have hR:=tX.ext dk
 have JN:=JN.ext dk
 have ky:=hR.tk hT eT
 obtain⟨u1,u3,u4,u5,u6,u8,cA,iv⟩:=ky
 have cJ:=eN iv.regs
 obtain⟨a1,n1,c1,e1,fS⟩:=cJ
 subst e1
 subst fS
 have cJ:=eN iv.self
 obtain⟨a3,n3,c3,e3,pr⟩:=cJ
 subst e3
 subst pr
 have cA:aY w8 bt [str t.aP,.slice a1 t.regs.length c1,.int .i64 (t.loads:Int),.slice a3 t.self.length c3,u4,u5,u6,str t.expr.av.az,u8,.int .i64 (t.on:Int),str t.bm,.int .i64 (t.next:Int)].toArray 130:=cA
 refine zA<|ag<|aQ<|zr<|zm<|di rfl<|zf C7 rfl<|zl eQ rfl (cA.at rfl)<|dX bh rfl<|jx rfl rfl rfl rfl rfl<|ag ?_
 refine jg (λ_:Unit=>[(0,.pointer (some ⟨b,0,none⟩)),(1,.pointer (some ⟨bt,0,none⟩)),(4,.pointer (some ⟨w6.heap.size,0,none⟩))]) (λ_ ww=>ak [w6.heap.size] w8 ww∧∃(hd:aA) (ah:Option Addr) (ch:Nat),aY ww w6.heap.size [str hd.az,.slice ah hd.au.length ch].toArray 66∧bS L2 ww (.agg #[str hd.az,.slice ah hd.au.length ch]) hd∧∀t',ba (t.regs.getD 0 [105])=some t'->hd=t') ?_ ?_
 refine zc rfl (λh1=>?_) (λh1=>?_)
 have oS:0<t.regs.length:=(by simp at h1;omega)
 have ga:=og iv.regs oS
 obtain⟨b9,oh,e9,gk⟩:=ga
 cases e9
 have rI:t.regs.getD 0 [105]=aD t.regs 0:=(by unfold aD;rw[gG,gG,gE oS];rfl)
 have lq:=ak.refl [w6.heap.size] w8
 have Es:=aw.dL
 refine db<|zm<|di rfl<|zf C7 rfl<|zl eQ rfl (cA.at rfl)<|zi (i:=0) bh bA rfl rfl om<|zl ck rfl (gk.cells 0 _ rfl)<|aC (zB (aD t.regs 0) (w6.heap.size::L2) w8 (λx hx=>by rcases mC.1 hx with h9|h9;(·rw[h9];exact aI.lt);(·exact Es x h9))) ?_
 rintro v9 w9 ⟨eR,aG⟩
 have pd:=aG.size
 have aI:=aI.ext aG;have lq:=lq.ext aG
 have eR:=eR
 obtain⟨t1x,tv,yd,Vu,oV⟩:=eR
 subst yd
 have cJ:=dM Vu
 obtain⟨a6,n6,c6,e6,Vv,_⟩:=cJ
 subst e6
 subst Vv
 refine zm<|zx (i:=0) rfl rfl<|zx (i:=1) rfl rfl<|du (vs:=[str t1x.az,.slice a6 t1x.au.length c6]) aH rfl rfl rfl aI rfl ?_
 intro cM bU aI dN
 have lq:=lq.trans bU
 have ah3:bS L2 cM _ t1x:=(Vu.go (Fr.of bU sm)).fresh (λx hx=>.inl (by simp[hx]))
 refine ag ?_
 exact⟨(),⟨rfl,rfl,rfl⟩,lq,t1x,a6,c6,aI,ah3,by rw[rI];exact oV⟩
 have oS:t.regs=[]:=(by simpa using h1)
 have rI:t.regs.getD 0 [105]=[105]:=(by rw[oS];rfl)
 refine bz ?_
 exact⟨(),⟨rfl,rfl,rfl⟩,ak.refl _ _,t0x,a5,c5,aI,JN,by rw[rI];exact ix⟩
 intro gu w9 e9 hI
 obtain⟨lq,hd,ah,ch,aI,Oi,jH⟩:=hI
 have dk:=dk.since lq (λx hx=>.inr (by simp at hx;omega))
 have aw:=mh.ext dk
 have hR:=tX.ext dk
 have aI:fg L2 w9 w6.heap.size _ _:=⟨aI,λhx=>by have:=CC _ hx;omega⟩
 refine aQ<|zr<|zA<|ag<|cQ ?_
 refine fW (λk:Nat=>[(0,.pointer (some ⟨b,0,none⟩)),(1,.pointer (some ⟨bt,0,none⟩)),(4,.pointer (some ⟨w6.heap.size,0,none⟩)),(6,.int .i64 (k:Int))]) (λk ww=>∃L3,dZ t8 E L3 ww b true (o9 (nY m t.regs) (nh t) k)∧eP E L w L3 ww∧Fr L2 w9 L3 ww∧k<=t.loads) (λk=>t.loads-k) (0) (⟨rfl,rfl,rfl,rfl⟩) (⟨L2,aw,hR,Fr.refl _ _,Nat.zero_le _⟩) ?_
 intro gg cM gq hI
 obtain⟨L3,aw,hR,rB,hk⟩:=hI
 have aI:=aI.go rB;have Oi:=Oi.go rB
 have ky:=hR.tk hT eT
 obtain⟨u1,u3,u4,u5,u6,u8,cA,iv⟩:=ky
 have cJ:=eN iv.regs
 obtain⟨a1,n1,c1,e1,fS⟩:=cJ
 subst e1
 subst fS
 have cJ:=eN iv.self
 obtain⟨a3,n3,c3,e3,pr⟩:=cJ
 subst e3
 subst pr
 have cA:aY cM bt [str t.aP,.slice a1 t.regs.length c1,.int .i64 (t.loads:Int),.slice a3 t.self.length c3,u4,u5,u6,str t.expr.av.az,u8,.int .i64 (t.on:Int),str t.bm,.int .i64 (t.next:Int)].toArray 130:=cA
 have Vw:=ahY (m:=m) Er hk
 have ah4:=Vw.types
 have ah5:=Vw.code
 refine aQ<|zr<|zm<|zm<|di rfl<|zf PN rfl<|zl qN rfl (cA.at rfl)<|fy rfl rfl rfl<|ag<|zc rfl (λh2=>?_) (λh2=>?_)
 have aq:gg<t.loads:=(by simp at h2;omega)
 have ah6:=ahX Er aq jH
 obtain⟨qi,uI,Dj,Vx⟩:=ah6
 have cJ:=dM Oi
 obtain⟨_,_,_,e9,_,bc⟩:=cJ
 cases e9
 have fS:=fI bc qi
 obtain⟨b9,oh,pa9,pc9,e9,gk,dR⟩:=fS
 cases e9
 rw[uI] at gk dR
 have pR:=Lk _ _ (lR _) Dj
 refine bz<|aQ<|cQ<|zr<|zm<|zf cL rfl<|zl cI rfl (aI.at rfl)<|zm<|eF rfl rfl rfl (wrap_i64 _ om om)<|zi cv aH rfl rfl om<|zL bT aH rfl gk.cells rfl<|aC (tx (nth (nh t) gg).size _ (lR _) Dj om om _ _ cM dR) ?_
 rintro v11 eW ⟨ry,cK⟩
 have CA:=cK.size
 have aw:=aw.ext cK;have hR:=hR.ext cK;have rB:=rB.ext cK
 obtain rfl:=ry
 refine aC (r8 (nth (nh t) gg).text (o9 (nY m t.regs) (nh t) gg) om E L3 b true eW aw) ?_
 rintro U1 gh ⟨GZ,L4,aw,bY⟩
 subst GZ
 have hR:=hR.go bY;have rB:=rB.go bY.fr
 refine zA<|ag<|db<|zm<|zm<|aC (iM ((o9 (nY m t.regs) (nh t) gg).types.length+1) (o9 (nY m t.regs) (nh t) gg).types.length om om gh) ?_
 rintro wL jD ⟨vB,fK⟩
 have Gt:=fK.size
 have aw:=aw.ext fK;have hR:=hR.ext fK;have rB:=rB.ext fK
 obtain rfl:=vB
 have dB:=aw.dL
 refine zm<|aC (iM (gg+1) gg om om jD) ?_
 rintro lx je ⟨Oj,dK⟩
 have ah9:=dK.size
 have aw:=aw.ext dK;have hR:=hR.ext dK;have rB:=rB.ext dK
 obtain rfl:=Oj
 have dB:=aw.dL
 refine pO bh bA rfl rfl rfl rfl rfl ?_
 intro p6 jE aia IS
 have aw:=aw.ext jE;have hR:=hR.ext jE;have rB:=rB.ext jE
 refine aC (lh sE [bf (o9 (nY m t.regs) (nh t) gg).types.length,[48],bf gg] (mD de sm (by intro z hz;simp at hz;rcases hz with rfl|rfl|rfl;(·exact mj om);(·decide);(·exact mj om))) ((o9 (nY m t.regs) (nh t) gg).dG (nth (nh t) gg).text) (show(o9 (nY m t.regs) (nh t) gg).code.length<100000 from om) E L4 b _ p6 aw (aY.eD [bf (o9 (nY m t.regs) (nh t) gg).types.length,[48],bf gg] aia (λhx=>by have:=dB _ hx;omega))) ?_
 rintro v68 lQ ⟨L5,aw,bY⟩
 have hR:=hR.go bY;have rB:=rB.go bY.fr
 refine ag<|db<|zm<|eF rfl rfl rfl (wrap_i64 _ om om)<|zA<|ag ?_
 exact⟨gg+1,⟨rfl,rfl,rfl,rfl⟩,⟨L5,aw,hR,rB,om⟩,om⟩
 have Ac:gg=t.loads:=om
 subst Ac
 have Of:∃z,z=o9 (nY m t.regs) (nh t) t.loads:=⟨_,rfl⟩
 obtain⟨m0,th⟩:=Of
 rw[<-th] at aw ah4 ah5
 refine gB<|gC rfl<|zr<|zm<|di rfl<|zf Bm rfl<|zl eQ rfl (cA.at rfl)<|dX bh rfl<|dO rfl rfl rfl<|ag<|zc rfl (λh3=>?_) (λh3=>?_)
 have iY:t.self.length=2:=om
 have CN:=Er.self
 have CN:∃a b,t.self=[a,b]∧a.length<=272∧b.length<=11200∧t.regs.length=3∧∀r,r∈t.regs->r.length<=11200:=(by rcases CN with h9|h9;(·rw[h9] at iY;cases iY);(·exact h9))
 obtain⟨sa,sb,Ok,anN,anO,h3,oA⟩:=CN
 have yI:∃z,z=bO [99] t.regs:=⟨_,rfl⟩
 obtain⟨CO,yL⟩:=yI
 have yI:∃z,z=bO [116] [CO,sb]:=⟨_,rfl⟩
 obtain⟨P0,sd⟩:=yI
 have anP:CO.length<=33610:=(by rw[yL];exact SK h3 oA)
 have anQ:P0.length<=45000:=(by rw[sd,lN,An];simp only[lC,List.length_nil];omega)
 have yI:∃z,z=m0.types.length:=⟨_,rfl⟩
 obtain⟨r,Gz⟩:=yI
 have yI:∃z,z=m0.code.length:=⟨_,rfl⟩
 obtain⟨c,Ny⟩:=yI
 have t0:m0.types.length=r:=Gz.symm
 have c0:m0.code.length=c:=Ny.symm
 have Ol:qv m t=(((((m0.dG CO).cY sC [bf r,t.aP]).dG P0).cY l5 [bf (r+1),bf r,[48]]).dG sa).cY sD [bf (r+2),bf (r+1),sa,sb]:=(by unfold qv Iy;rw[<-th,Ok];exact ahZ m0 t.aP t.regs sa sb yL sd Gz)
 have FF:=Er.aP
 have wb:t.self.length=2:=iY
 have ow:aD t.self 0=sa:=(by rw[Ok];rfl)
 have dQ:aD t.self 1=sb:=(by rw[Ok];rfl)
 refine zr<|zm<|di rfl<|zf C7 rfl<|zl eQ rfl (cA.at rfl)<|aC ((show cj Tryz.prog 75 [str [99],.slice a1 t.regs.length c1] _ (λr w'=>r=str CO∧ak [] _ w') from by rw[yL];exact xJ [99] t.regs (by rw[<-yL];omega) _ _ _ iv.regs)) ?_
 rintro v11 eW ⟨ry,cK⟩
 have CA:=cK.size
 have aw:=aw.ext cK;have hR:=hR.ext cK;have cA:=cA.ext cK
 obtain rfl:=ry
 refine zA<|ag<|zr<|zm<|zm<|aC (r8 CO m0 om E L3 b true eW aw) ?_
 rintro v10 gh ⟨gq,L1,aw,bY⟩
 rw[t0] at gq
 subst gq
 have hR:=hR.go bY
 have iK:∃x,x=m0.dG CO:=⟨_,rfl⟩
 obtain⟨m1,lS⟩:=iK
 rw[<-lS] at aw
 have t1:m1.types.length=r+1:=(by rw[lS,xZ];omega)
 have c1:m1.code.length=c+0:=(by rw[lS,Cn];omega)
 have dB:=aw.dL
 have ky:=hR.tk hT eT
 obtain⟨u1,u3,u4,u5,u6,u8,cA,iv⟩:=ky
 have cJ:=eN iv.self
 obtain⟨a3,n3,c3,e3,pr⟩:=cJ
 subst e3
 subst pr
 have cA:aY gh bt [str t.aP,u1,.int .i64 (t.loads:Int),.slice a3 t.self.length c3,u4,u5,u6,str t.expr.av.az,u8,.int .i64 (t.on:Int),str t.bm,.int .i64 (t.next:Int)].toArray 130:=cA
 have ga:=og iv.self (i:=0) om
 obtain⟨b9,oh,e9,gk⟩:=ga
 cases e9
 have ga:=og iv.self (i:=1) om
 obtain⟨Om,Oo,gq,vL⟩:=ga
 cases gq
 rw[ow] at gk
 rw[dQ] at vL
 refine zA<|ag<|aQ ?_
 apply wv ei 8 (rA 83 8) (rA 83 8) [[],[],[1],[],[3],[4],[5],[2,6]] [It.v _,It.v _,It.v _,It.v _,It.v _,It.v _,It.v _,It.p (fun(v:Value) (ww:World)=>bI L1 ww v [bf r,t.aP])] de (by exact⟨λv w w' h k=>h.ext k,trivial⟩)
 intro wd aB
 refine eI ?_
 refine eI ?_
 refine vk aB (λx jD fK=>?_) ?_
 refine aC (iM (r+1) r om om jD) ?_
 rintro lx je ⟨Oj,dK⟩
 have ah9:=dK.size
 obtain rfl:=Oj
 exact pk dK
 refine eI ?_
 refine vk aB (λx jD fK=>?_) ?_
 refine di rfl ?_
 exact pv
 refine vc (λ_ _ _=>zf Ky rfl pv) ?_
 refine vk aB (λx jD fK=>?_) ?_
 have cA:=cA.ext fK
 refine zl ck rfl (cA.at rfl) ?_
 exact pv
 refine vk aB (λx jD fK=>?_) ?_
 have aib:=fK.size
 refine ln bh bA rfl rfl rfl rfl ?_
 intro je dK aic Ck
 exact pf dK ((aY.eD [bf r,t.aP] aic (λhx=>by have:=dB _ hx;omega)))
 exact trivial
 intro x AI oP
 intro v7 d7
 have aw:=aw.ext oP;have hR:=hR.ext oP;have cA:=cA.ext oP
 change OW _ _ _ _ _ (aM (aN _ x _) (zZ 83 [_,_,_,_,_,_,_,_])) _
 refine aC (lh sC [bf r,t.aP] (mD de sm (by intro z hz;simp at hz;rcases hz with rfl|rfl;(·exact mj om);(·omega))) m1 om E L1 b _ AI aw d7) ?_
 rintro jV mi ⟨L2,aw,bY⟩
 have hR:=hR.go bY
 have fF:∃x,x=m1.cY sC [bf r,t.aP]:=⟨_,rfl⟩
 obtain⟨m2,lT⟩:=fF
 rw[<-lT] at aw
 have t2:m2.types.length=r+1:=(by rw[lT,oL];omega)
 have c2:m2.code.length=c+1:=(by rw[lT,pt];omega)
 have dB:=aw.dL
 have ky:=hR.tk hT eT
 obtain⟨u1,u3,u4,u5,u6,u8,cA,iv⟩:=ky
 have cJ:=eN iv.self
 obtain⟨a3,n3,c3,e3,pr⟩:=cJ
 subst e3
 subst pr
 have cA:aY mi bt [str t.aP,u1,.int .i64 (t.loads:Int),.slice a3 t.self.length c3,u4,u5,u6,str t.expr.av.az,u8,.int .i64 (t.on:Int),str t.bm,.int .i64 (t.next:Int)].toArray 130:=cA
 have ga:=og iv.self (i:=0) om
 obtain⟨b9,oh,e9,gk⟩:=ga
 cases e9
 have ga:=og iv.self (i:=1) om
 obtain⟨Om,Oo,gq,vL⟩:=ga
 cases gq
 rw[ow] at gk
 rw[dQ] at vL
 refine ag<|zr<|zm<|zm<|zm<|di rfl<|zf Bm rfl<|zl eQ rfl (cA.at rfl)<|zi (i:=1) bh bA rfl rfl om<|zl ck rfl (vL.cells 0 _ rfl)<|ln bh bA rfl rfl rfl rfl ?_
 intro ui AR Cs ahx
 have aw:=aw.ext AR;have hR:=hR.ext AR
 refine aC ((show cj Tryz.prog 75 [str [116],_] ui (λr w'=>r=str P0∧ak [] ui w') from by rw[sd];exact xJ [116] [CO,sb] (by rw[<-sd];omega) _ L2 ui (aY.eD [CO,sb] Cs (λhx=>by have:=dB _ hx;omega)))) ?_
 rintro v55 JA ⟨aie,xe⟩
 have anR:=xe.size
 have aw:=aw.ext xe;have hR:=hR.ext xe;have Cs:=Cs.ext xe
 obtain rfl:=aie
 clear Cs
 refine aC (r8 P0 m2 om E L2 b true JA aw) ?_
 rintro v10 oo ⟨gq,L3,aw,bY⟩
 rw[t2] at gq
 subst gq
 have hR:=hR.go bY
 have yv:∃x,x=m2.dG P0:=⟨_,rfl⟩
 obtain⟨m3,lU⟩:=yv
 rw[<-lU] at aw
 have t3:m3.types.length=r+2:=(by rw[lU,xZ];omega)
 have c3:m3.code.length=c+1:=(by rw[lU,Cn];omega)
 have dB:=aw.dL
 refine zA<|ag<|zr<|zm<|zm<|aC (iM ((r+1)+1) (r+1) om om oo) ?_
 rintro N0 N2 ⟨GP,yF⟩
 have UX:=yF.size
 have aw:=aw.ext yF;have hR:=hR.ext yF
 obtain rfl:=GP
 have dB:=aw.dL
 refine zm<|aC (iM (r+1) r om om N2) ?_
 rintro Jg w58 ⟨aif,CP⟩
 have anT:=CP.size
 have aw:=aw.ext CP;have hR:=hR.ext CP
 obtain rfl:=aif
 have dB:=aw.dL
 refine pO bh bA rfl rfl rfl rfl rfl ?_
 intro w59 Et Vy anU
 have aw:=aw.ext Et;have hR:=hR.ext Et
 refine aC (lh l5 [bf (r+1),bf r,[48]] (mD de sm (by intro z hz;simp at hz;rcases hz with rfl|rfl|rfl;(·exact mj om);(·exact mj om);(·decide))) m3 om E L3 b _ w59 aw (aY.eD [bf (r+1),bf r,[48]] Vy (λhx=>by have:=dB _ hx;omega))) ?_
 rintro jV Vz ⟨L4,aw,bY⟩
 have hR:=hR.go bY
 clear Vy
 have Ct:∃x,x=m3.cY l5 [bf (r+1),bf r,[48]]:=⟨_,rfl⟩
 obtain⟨m4,oQ⟩:=Ct
 rw[<-oQ] at aw
 have t4:m4.types.length=r+2:=(by rw[oQ,oL];omega)
 have c4:m4.code.length=c+2:=(by rw[oQ,pt];omega)
 have dB:=aw.dL
 have ky:=hR.tk hT eT
 obtain⟨u1,u3,u4,u5,u6,u8,cA,iv⟩:=ky
 have cJ:=eN iv.self
 obtain⟨a3,n3,c3,e3,pr⟩:=cJ
 subst e3
 subst pr
 have cA:aY Vz bt [str t.aP,u1,.int .i64 (t.loads:Int),.slice a3 t.self.length c3,u4,u5,u6,str t.expr.av.az,u8,.int .i64 (t.on:Int),str t.bm,.int .i64 (t.next:Int)].toArray 130:=cA
 have ga:=og iv.self (i:=0) om
 obtain⟨b9,oh,e9,gk⟩:=ga
 cases e9
 have ga:=og iv.self (i:=1) om
 obtain⟨Om,Oo,gq,vL⟩:=ga
 cases gq
 rw[ow] at gk
 rw[dQ] at vL
 refine ag<|zr<|zm<|zm<|di rfl<|zf Bm rfl<|zl eQ rfl (cA.at rfl)<|zi (i:=0) bh bA rfl rfl om<|zl ck rfl (gk.cells 0 _ rfl)<|aC (r8 sa m4 om E L4 b true Vz aw) ?_
 rintro v10 Vg ⟨gq,L5,aw,bY⟩
 rw[t4] at gq
 subst gq
 have hR:=hR.go bY
 have NK:∃x,x=m4.dG sa:=⟨_,rfl⟩
 obtain⟨m5,yw⟩:=NK
 rw[<-yw] at aw
 have t5:m5.types.length=r+3:=(by rw[yw,xZ];omega)
 have c5:m5.code.length=c+2:=(by rw[yw,Cn];omega)
 have dB:=aw.dL
 have ky:=hR.tk hT eT
 obtain⟨u1,u3,u4,u5,u6,u8,cA,iv⟩:=ky
 have cJ:=eN iv.self
 obtain⟨a3,n3,c3,e3,pr⟩:=cJ
 subst e3
 subst pr
 have cA:aY Vg bt [str t.aP,u1,.int .i64 (t.loads:Int),.slice a3 t.self.length c3,u4,u5,u6,str t.expr.av.az,u8,.int .i64 (t.on:Int),str t.bm,.int .i64 (t.next:Int)].toArray 130:=cA
 have ga:=og iv.self (i:=0) om
 obtain⟨b9,oh,e9,gk⟩:=ga
 cases e9
 have ga:=og iv.self (i:=1) om
 obtain⟨Om,Oo,gq,vL⟩:=ga
 cases gq
 rw[ow] at gk
 rw[dQ] at vL
 refine zA<|ag ?_
 apply wv ei 18 (rA 118 18) (rA 118 18) [[],[],[1],[],[3],[],[5],[6],[7],[8],[9],[],[11],[12],[13],[14],[15],[2,4,10,16]] [It.v _,It.v _,It.v _,It.v _,It.v _,It.v _,It.v _,It.v _,It.v _,It.v _,It.v _,It.v _,It.v _,It.v _,It.v _,It.v _,It.v _,It.p (fun(v:Value) (ww:World)=>bI L5 ww v [bf (r+2),bf (r+1),sa,sb])] de (by exact⟨λv w w' h k=>h.ext k,trivial⟩)
 intro wd aB
 refine eI ?_
 refine eI ?_
 refine vk aB (λx si px=>?_) ?_
 refine aC (iM (r+2+1) (r+2) om om si) ?_
 rintro v63 CJ ⟨Oq,s9⟩
 have aij:=s9.size
 obtain rfl:=Oq
 exact pk s9
 refine eI ?_
 refine vk aB (λx si px=>?_) ?_
 refine aC (iM (r+1+1) (r+1) om om si) ?_
 rintro v63 CJ ⟨Oq,s9⟩
 have aij:=s9.size
 obtain rfl:=Oq
 exact pk s9
 refine eI ?_
 refine vk aB (λx si px=>?_) ?_
 refine di rfl ?_
 exact pv
 refine vc (λ_ _ _=>zf Bm rfl pv) ?_
 refine vk aB (λx si px=>?_) ?_
 have cA:=cA.ext px
 refine zl eQ rfl (cA.at rfl) ?_
 exact pv
 refine vk aB (λx si px=>?_) ?_
 refine zi (i:=0) bh bA rfl rfl om ?_
 exact pv
 refine vk aB (λx si px=>?_) ?_
 have gk:=gk.ext px
 refine zl ck rfl (gk.cells 0 _ rfl) ?_
 exact pv
 refine eI ?_
 refine vk aB (λx si px=>?_) ?_
 refine di rfl ?_
 exact pv
 refine vc (λ_ _ _=>zf Bm rfl pv) ?_
 refine vk aB (λx si px=>?_) ?_
 have cA:=cA.ext px
 refine zl eQ rfl (cA.at rfl) ?_
 exact pv
 refine vk aB (λx si px=>?_) ?_
 refine zi (i:=1) bh bA rfl rfl om ?_
 exact pv
 refine vk aB (λx si px=>?_) ?_
 have vL:=vL.ext px
 refine zl ck rfl (vL.cells 0 _ rfl) ?_
 exact pv
 refine vk aB (λx si px=>?_) ?_
 have aib:=px.size
 refine xX bh bA rfl rfl rfl rfl rfl rfl ?_
 intro CJ s9 aik anV
 exact pf s9 ((aY.eD [bf (r+2),bf (r+1),sa,sb] aik (λhx=>by have:=dB _ hx;omega)))
 exact trivial
 intro x ail VA
 intro jV d17
 have aw:=aw.ext VA;have hR:=hR.ext VA
 change OW _ _ _ _ _ (aM (aN _ x _) (zZ 118 [_,_,_,_,_,_,_,_,_,_,_,_,_,_,_,_,_,_])) _
 refine aC (lh sD [bf (r+2),bf (r+1),sa,sb] (mD de sm (by intro z hz;simp at hz;rcases hz with rfl|rfl|rfl|rfl;(·exact mj om);(·exact mj om);(·omega);(·omega))) m5 om E L5 b _ ail aw d17) ?_
 rintro jV anW ⟨L6,aw,bY⟩
 have hR:=hR.go bY
 have NL:∃x,x=m5.cY sD [bf (r+2),bf (r+1),sa,sb]:=⟨_,rfl⟩
 obtain⟨m6,yy⟩:=NL
 rw[<-yy] at aw
 have t6:m6.types.length=r+3:=(by rw[yy,oL];omega)
 have c6:m6.code.length=c+3:=(by rw[yy,pt];omega)
 have dB:=aw.dL
 refine ag ?_
 subst yy yw oQ lU lT lS
 rw[<-Ol] at aw
 exact⟨_,rfl,_,aw,hR⟩
 have CN:=Er.self
 have iY:t.self.length≠2:=(λh9=>h3 (by rw[h9];rfl))
 have CN:t.self=[]:=(by rcases CN with h9|⟨a,b,h9,_⟩;(·exact h9);(·rw[h9] at iY;exact absurd rfl iY))
 have Ol:qv m t=m0:=(by unfold qv Iy;rw[<-th,CN])
 refine bz ?_
 rw[<-Ol] at aw
 exact⟨_,rfl,_,aw,hR⟩
theorem aim (x0:ByteArray) (x7:ByteArray) (a8:Option Addr) (n8 c8:Nat) (x9:Int) (Eh:ByteArray) (w:World):(Instr.build 130 #[(0,.string x0),(7,.agg #[.string x7,.slice a8 n8 c8]),(8,.int .i64 x9),(9,.string Eh)]).run Tryz.prog w= .ok (.agg #[.string x0,.slice none 0 0,.int .i64 0,.slice none 0 0,.slice none 0 0,.slice none 0 0,.slice none 0 0,.string x7,.slice a8 n8 c8,.int .i64 x9,.string Eh,.int .i64 0]) w:=by kernel_rfl
theorem eP.ain (h:eP (x::E) L w L1 w1):eP E L w L1 w1:=⟨h.fr,let⟨G,k,hG⟩:=h.out;⟨G,k,λz hz sf=>hG z hz (mK _ sf)⟩⟩
def um:Mk:=⟨[],[],0,false,[],[]⟩
theorem aio (T:Ty) {ON CO:aj} (hO:ON=dV (bL T)) (hC:CO=bO [99] [sT,bL T]) (hP:P0=bO [116] [CO,sT]):
  sN T=(((({um with types:=[sT,CO,P0,ON]}).cY l5 [[48]]).cY sC [[49],z6]).cY l5 [[50],[49],[48]]).cY sD [[51],[50],ON,sT]:=by
 subst hP;subst hC;subst hO;rfl
set_option maxHeartbeats 8000000 in
theorem aip (e:Ex) (T:Ty) (Ha:T.n<=16) 
  (E L:List Nat) (b:Nat) (v:Value) (w:World) (h:dZ t8 E L w b true um) (hv:bS L w v e.av):
  cj Tryz.prog 108 [.pointer (some ⟨b,0,none⟩),v,str T.text] w λr w'=>∃v1 v3 v4 v5 v6 v8 L',r= .agg (pM (FM e T) v1 v3 v4 v5 v6 v8).toArray∧oH L' w' (FM e T) v1 v3 v4 v5 v6 v8∧dZ t8 E L' w' b true (sN T)∧eP E L w L' w':=by
 obtain⟨ar,nr,cr,rfl,p9,bc⟩:=dM hv
 subst p9
 have lV:=h.dL
 obtain⟨ON,JO⟩:∃z,z=dV (bL T):=⟨_,rfl⟩
 obtain⟨CO,yL⟩:∃z,z=bO [99] [sT,bL T]:=⟨_,rfl⟩
 obtain⟨P0,sd⟩:∃z,z=bO [116] [CO,sT]:=⟨_,rfl⟩
 rw[aio T JO yL sd]
 have aK:=pP Ha
 have hOl:ON.length<=272:=by rw[JO];exact tM Ha
 have hCl:CO.length<=300:=by rw[yL,lN,An];simp only[lC,List.length_nil];omega
 have Jp:P0.length<=400:=by rw[sd,lN,An];simp only[lC,List.length_nil];omega
 obtain⟨m0,th⟩:∃z:Mk,z={um with types:=[sT,CO,P0,ON]}:=⟨_,rfl⟩
 rw[<-th]
 obtain⟨r,hr4⟩:∃r,r=4:=⟨_,rfl⟩
 obtain⟨c,ey⟩:∃c,c=0:=⟨_,rfl⟩
 have t0:m0.types.length=r:=by rw[th,hr4];rfl
 have c0:m0.code.length=c:=by rw[th,ey];rfl
 have aw:=h
 have hR:=eP.refl E L w
 refine lF [.cell 6 130] 45 Tryz.func108 rfl XH rfl rfl rfl ?_
 refine zr<|fE rfl ?_
 intro w1 aK aI dY
 have aw:=aw.ext aK;have hR:=hR.ext aK
 refine eA k7 rfl rfl rfl ?_
 intro w2 aq VB lG
 have aw:=aw.sZ aq sm (lR _) VB.lt
 have p8:=hR.more aq sm (lR _) (λz hz=>by have:=lV z (h.sub hz);omega)
 have hR:=eP.refl (w1.heap.size::E) (w1.heap.size::L) w2
 have JI:∀z,z∈w1.heap.size::L->z=w1.heap.size∨z<w.heap.size:=(λz hz=>(mC.1 hz).imp id (lV z))
 have aI:fg (w1.heap.size::L) w2 w.heap.size [str e.av.az,.slice ar e.av.au.length cr].toArray 66:=⟨aI.ext aq,λhx=>by have:=JI _ hx;omega⟩
 have VC:w1.heap.size∈w1.heap.size::E:=List.mem_cons_self ..
 refine ag<|zr<|zm<|aC (vw T om w2) ?_
 rintro v3 w3 ⟨eh,aJ⟩
 have fZ:=aJ.size
 have aw:=aw.ext aJ;have hR:=hR.ext aJ;have aI:=aI.ext aJ
 obtain rfl:=eh
 refine aC ((show cj Tryz.prog 142 [str (bL T)] w3 (λr w'=>r=str ON∧ak [] w3 w') from by rw[JO];exact Gq (bL T) om w3)) ?_
 rintro v4 w4 ⟨eH,aF⟩
 have gI:=aF.size
 have aw:=aw.ext aF;have hR:=hR.ext aF;have aI:=aI.ext aF
 obtain rfl:=eH
 refine zA<|ag<|zr<|zm<|gN bh bA ?_
 intro w5 aU mw Ge
 have yJ:=aw.open
 obtain⟨xb,xt,xc,xy,gb,gt,gc,gy,bj,hS⟩:=yJ
 have x4:=hS.apart
 obtain⟨yp,nD,vz,mB,vA,tW⟩:=x4
 have bj:aY w5 b [xb,xt,.int .i64 (um.count:Int),.bool um.wide,xc,xy].toArray 127:=bj.ext aU
 have yK:=hS.Ig mw.lp aU.any (λx hx=>.inr (by cases hx;exact lR _))
 obtain⟨L1,hS,bY⟩:=yK
 have hR:=hR.add bY aU sm
 have aI:=aI.go bY
 refine di rfl<|zf C6 rfl<|gW (o:=4) nJ rfl rfl rfl bj rfl ?_
 intro w6 bF bj dN
 have hS:=hS.aO bF sm
 have CM:=hS.mem.2 (.inr (.inl rfl))
 have hR:=hR.aL bF CM nD;have aI:=aI.aL bF (by simpa using CM)
 have aw:dZ t8 (w1.heap.size::E) L1 w6 b true um:=⟨_,_,_,_,_,_,_,_,bj,hS⟩
 refine ag<|zr<|zm<|aC (vw T om w6) ?_
 rintro v7 w7 ⟨iT,cw⟩
 have pb:=cw.size
 have aw:=aw.ext cw;have hR:=hR.ext cw;have aI:=aI.ext cw
 obtain rfl:=iT
 refine ln bh bA rfl rfl rfl rfl ?_
 intro w8 cu kh mn
 have aw:=aw.ext cu;have hR:=hR.ext cu;have aI:=aI.ext cu
 refine aC ((show cj Tryz.prog 75 [str [99],_] w8 (λr w'=>r=str CO∧ak [] w8 w') from by rw[yL];exact xJ [99] [sT,bL T] (by rw[<-yL];omega) _ [] w8 (aY.eD [sT,bL T] kh sm))) ?_
 rintro v9 w9 ⟨eR,aG⟩
 have pd:=aG.size
 have aw:=aw.ext aG;have hR:=hR.ext aG;have aI:=aI.ext aG;have kh:=kh.ext aG
 obtain rfl:=eR
 clear kh
 refine zA<|ag<|zr<|zm<|zm<|zm<|ln bh bA rfl rfl rfl rfl ?_
 intro cM bU AY Bp
 have aw:=aw.ext bU;have hR:=hR.ext bU;have aI:=aI.ext bU
 refine aC ((show cj Tryz.prog 75 [str [116],_] cM (λr w'=>r=str P0∧ak [] cM w') from by rw[sd];exact xJ [116] [CO,sT] (by rw[<-sd];omega) _ [] cM (aY.eD [CO,sT] AY sm))) ?_
 rintro v11 eW ⟨ry,cK⟩
 have CA:=cK.size
 have aw:=aw.ext cK;have hR:=hR.ext cK;have aI:=aI.ext cK;have AY:=AY.ext cK
 obtain rfl:=ry
 clear AY
 refine zm<|xX bh bA rfl rfl rfl rfl rfl rfl ?_
 intro gh dC Cp aga
 have yJ:=aw.open
 obtain⟨xb,xt,xc,xy,gb,gt,gc,gy,bj,hS⟩:=yJ
 have x4:=hS.apart
 obtain⟨yp,nD,vz,mB,vA,tW⟩:=x4
 have bj:aY gh b [xb,xt,.int .i64 (um.count:Int),.bool um.wide,xc,xy].toArray 127:=bj.ext dC
 have yK:=hS.LJ (aY.vY [sT,CO,P0,ON] Cp) dC.any (λx hx=>.inr (by cases hx;exact lR _))
 obtain⟨L2,hS,bY⟩:=yK
 have hR:=hR.add bY dC sm
 have aI:=aI.go bY
 refine di rfl<|zf zn rfl<|gW (o:=5) nJ rfl rfl rfl bj rfl ?_
 intro jD fK bj dN
 have hS:=hS.aO fK sm
 have CM:=hS.mem.2 (.inr (.inl rfl))
 have hR:=hR.aL fK CM nD;have aI:=aI.aL fK (by simpa using CM)
 have aw:dZ t8 (w1.heap.size::E) L2 jD b true {um with types:=[sT,CO,P0,ON]}:=⟨_,_,_,_,_,_,_,_,bj,hS⟩
 rw[<-th] at aw
 have dB:=aw.dL
 refine ag<|zr<|zm<|gD bh bA rfl rfl ?_
 intro je dK AP Ck
 have aw:=aw.ext dK;have hR:=hR.ext dK;have aI:=aI.ext dK
 refine aC (lh l5 [[48]] (mD de sm (by intro z hz;simp at hz;subst hz;decide)) m0 om (w1.heap.size::E) L2 b _ je aw (aY.eD [[48]] AP (λhx=>by have:=dB _ hx;omega))) ?_
 rintro jV p6 ⟨L1,aw,bY⟩
 have hR:=hR.go bY
 clear AP
 have iK:∃x,x=m0.cY l5 [[48]]:=⟨_,rfl⟩
 obtain⟨m1,lS⟩:=iK
 rw[<-lS] at aw
 have t1:m1.types.length=r+0:=(by rw[lS,oL];omega)
 have c1:m1.code.length=c+1:=(by rw[lS,pt];omega)
 have dB:=aw.dL
 have aI:=aI.go bY.fr
 refine ag<|zr<|zm<|ln bh bA rfl rfl rfl rfl ?_
 intro lQ kX IM F5
 have aw:=aw.ext kX;have hR:=hR.ext kX;have aI:=aI.ext kX
 refine aC (lh sC [[49],z6] (mD de sm (by intro z hz;simp at hz;rcases hz with rfl|rfl;(·decide);(·decide))) m1 om (w1.heap.size::E) L1 b _ lQ aw (aY.eD [[49],z6] IM (λhx=>by have:=dB _ hx;omega))) ?_
 rintro jV vC ⟨L2,aw,bY⟩
 have hR:=hR.go bY
 clear IM
 have fF:∃x,x=m1.cY sC [[49],z6]:=⟨_,rfl⟩
 obtain⟨m2,lT⟩:=fF
 rw[<-lT] at aw
 have t2:m2.types.length=r+0:=(by rw[lT,oL];omega)
 have c2:m2.code.length=c+2:=(by rw[lT,pt];omega)
 have dB:=aw.dL
 have aI:=aI.go bY.fr
 refine ag<|zr<|zm<|pO bh bA rfl rfl rfl rfl rfl ?_
 intro wX ua vD Nf
 have aw:=aw.ext ua;have hR:=hR.ext ua;have aI:=aI.ext ua
 refine aC (lh l5 [[50],[49],[48]] (mD de sm (by intro z hz;simp at hz;rcases hz with rfl|rfl|rfl;(·decide);(·decide);(·decide))) m2 om (w1.heap.size::E) L2 b _ wX aw (aY.eD [[50],[49],[48]] vD (λhx=>by have:=dB _ hx;omega))) ?_
 rintro jV Cu ⟨L3,aw,bY⟩
 have hR:=hR.go bY
 clear vD
 have yv:∃x,x=m2.cY l5 [[50],[49],[48]]:=⟨_,rfl⟩
 obtain⟨m3,lU⟩:=yv
 rw[<-lU] at aw
 have t3:m3.types.length=r+0:=(by rw[lU,oL];omega)
 have c3:m3.code.length=c+3:=(by rw[lU,pt];omega)
 have dB:=aw.dL
 have aI:=aI.go bY.fr
 refine ag<|zr<|zm<|zm<|xX bh bA rfl rfl rfl rfl rfl rfl ?_
 intro vF uk Ot Uc
 have aw:=aw.ext uk;have hR:=hR.ext uk;have aI:=aI.ext uk
 refine aC (lh sD [[51],[50],ON,sT] (mD de sm (by intro z hz;simp at hz;rcases hz with rfl|rfl|rfl|rfl;(·decide);(·decide);(·omega);(·decide))) m3 om (w1.heap.size::E) L3 b _ vF aw (aY.eD [[51],[50],ON,sT] Ot (λhx=>by have:=dB _ hx;omega))) ?_
 rintro jV rr ⟨L4,aw,bY⟩
 have hR:=hR.go bY
 clear Ot
 have Ct:∃x,x=m3.cY sD [[51],[50],ON,sT]:=⟨_,rfl⟩
 obtain⟨m4,oQ⟩:=Ct
 rw[<-oQ] at aw
 have t4:m4.types.length=r+0:=(by rw[oQ,oL];omega)
 have c4:m4.code.length=c+4:=(by rw[oQ,pt];omega)
 have dB:=aw.dL
 have aI:=aI.go bY.fr
 have kR:=hR.jv VB VC
 refine ag<|zr<|zL bT aH rfl aI.all rfl<|zm<|j5 (aim _ _ _ _ _ _ _ _) rfl rfl<|du (vs:=[str BK,.slice none 0 0,.int .i64 0,.slice none 0 0,.slice none 0 0,.slice none 0 0,.slice none 0 0,str e.av.az,.slice ar e.av.au.length cr,.int .i64 3,str ON,.int .i64 0]) k7 rfl rfl rfl kR rfl ?_
 intro Ef Eg kR dN
 have hL6:=aw.sub VC
 have aw:=aw.aO Eg sm
 have vK:=aw.drop
 obtain⟨L6,Ob,aw⟩:=vK
 have h6n:w1.heap.size∉E:=(λhx=>by have:=lV _ (h.sub hx);omega)
 have VD:=((p8.go hR.ain).aL Eg hL6 h6n).sub (L2:=L6) (λz hz=>by rw[Ob];simp[hz])
 have ait:=fG.go bc VD.fr
 refine ag<|aV ?_
 subst oQ lU lT lS
 exact⟨[_],gO C5 k7 rfl kR rfl,_,_,_,_,_,_,L6,by unfold FM;rw[<-JO];rfl,⟨.nil _ _ _,.nil _ _ _,.nil _ _ _,.nil _ _ _,.nil _ _ _,ait⟩,aw,VD⟩
theorem eC.aiu {T:TypeId} {g:Option Nat} {row:List C} (h:eC L w T sz (.slice (some ⟨b,0,none⟩) n c) g rows) (hi:rows[i]?=some row):∃vs,vs.length=sz∧iQ w b (0+i*sz) vs∧dP L w vs row:=by
 obtain⟨xs,eu,jm⟩:=h.own
 have oA:row.length=sz:=h.row row (List.mem_of_getElem? hi)
 have mG:i<rows.length:=(List.getElem?_eq_some_iff.1 hi).1
 rcases eu.2 with⟨h0,_⟩|⟨b',cap,cur,e,hv,hb,nI,mH,cJ,ht⟩
 ·cases h0
 ·cases hv
  have hlen:xs.length=rows.length*sz:=eu.1
  have hmul:(i+1)*sz<=rows.length*sz:=Nat.mul_le_mul_right _ om
  have vR:(i+1)*sz=i*sz+sz:=by rw[Nat.add_mul,Nat.one_mul]
  have hl:((xs.drop (i*sz)).take sz).length=sz:=by rw[List.length_take,List.length_drop];omega
  have jF:∀j v,((xs.drop (i*sz)).take sz)[j]?=some v->j<sz∧xs[i*sz+j]?=some v:=λj v hv=>by
   rw[List.getElem?_take] at hv
   split at hv
   ·rename_i hj
    rw[List.getElem?_drop] at hv
    exact⟨hj,hv⟩
   ·cases hv
  refine⟨(xs.drop (i*sz)).take sz,hl,λj v hv=>?_,dP.of (by rw[hl,oA]) λj v c hv hc=>?_⟩
  ·obtain⟨_,hx⟩:=jF j v hv
   rw[Nat.zero_add,hb.cell]
   rw[<-ht,List.getElem?_take] at hx
   split at hx
   ·simpa using hx
   ·cases hx
  ·obtain⟨_,hx⟩:=jF j v hv
   exact jm.get hx (EB h.row hi hc)
theorem dZ.start {gb gt:Nat} (hb:aY w b [.slice (some ⟨gb,0,none⟩) 0 0,.slice (some ⟨gt,0,none⟩) 0 0,.int .i64 0,.bool false,.slice none 0 0,.slice none 0 0].toArray 127) (h1:aY w gb #[] 29) (h2:aY w gt #[] 130) (h3:gb<gt) (h4:gt<b):dZ t8 [] [b,gb,gt] w b true um:=by
 refine⟨_,_,_,_,some gb,some gt,none,none,hb,⟨LQ h1,LQ h2,.inl ⟨rfl,⟨by simp[um],.inl ⟨rfl,rfl,rfl⟩⟩⟩,⟨by simp[um],.inl ⟨rfl,rfl,rfl⟩⟩,rfl,?_,λx hx=>?_⟩⟩
 ·simp;omega
 ·have:=hb.lt
  simp at hx;rcases hx with rfl|rfl|rfl<;>omega
theorem aiv {ts:List Tk} (hi:i<ts.length):(ts.map Tk.enc)[i]?=some (ir ts i).enc:=by
 rw[List.getElem?_map,gE hi];simp[ir,gE hi]
theorem aiw (bD:e.ok) (ht:bM e []=some T) (hn:e.n<=120):(rU e T).blocks=[]∧(rU e T).code.length<10000:=by
 obtain⟨new,h⟩:=SP bD ht hn
 have h4:=h.ext.code
 have h6:(sN T).code.length=4:=rfl
 exact⟨h.ext.blocks,om⟩
theorem aix (h:rV m i) (hi:i<m.bW.length):(mu (ir m.bW i).expr.n ⟨qv m (ir m.bW i),(ir m.bW i).sc,(ir m.bW i).on,(ir m.bW i).bm⟩ (ir m.bW i).expr).blocks.length<100000∧(qv m (ir m.bW i)).code.length<=1100∧(qv m (ir m.bW i)).bW.length<80000∧(ir m.bW i).expr.n<=120∧i<999∧oK (ir m.bW i)∧nX (qv m (ir m.bW i)) (ir m.bW i).sc (ir m.bW i).on (ir m.bW i).bm (ir m.bW i).expr∧(ir m.bW i).regs.length<10000:=by
 obtain⟨hT,hc,hl⟩:=h.task hi
 have hb:=Mq (m:=m) hT
 have hA:=SM hT hc
 obtain⟨new,hF⟩:=IA _ hA (lR _)
 have e4:=hF.ext.blocks
 have h1:=hb.code
 have h2:=hT.room
 have h3:=hT.bud
 have h5:=h.bnum
 have h6:(if(ir m.bW i).self=[] then 0 else 3)<=3:=by split<;>omega
 refine⟨by rw[e4,hb.blocks];omega,om,by rw[hb.bW];omega,om,om,hT,hA,om⟩
set_option maxHeartbeats 8000000 in
theorem aiy (e:Ex) (T:Ty) (bD:e.ok) (ht:bM e []=some T) (hn:e.n<=120) (v:Value) (w:World) (hv:bS [] w v e.av):
  cj Tryz.prog 82 [v,str T.text] w λr w'=>(∃vb,r= .tuple #[vb,.bool (!(ofM e T).wide)]∧km [] w' vb (ofM e T).blocks)∧ak [] w w':=by
 obtain⟨ar,nr,cr,rfl,p9,bc⟩:=dM hv
 subst p9
 have Ha:=l4 (Γ:=[]) (λs T h=>by simp[look] at h) ht
 have dA:bS [] w _ e.av:=hv
 have hK:=ak.refl [] w
 obtain⟨VE,anY⟩:=aiw bD ht hn
 refine cV [.tmp 4,.tmp 5] 67 Tryz.func82 rfl Zw rfl rfl ?_
 refine zr<|fE rfl ?_
 intro w1 aK aZ dY
 have hK:=hK.ext aK
 refine zA<|zA<|ag<|zr<|gN iL gR ?_
 intro w2 aq ox eM
 have hK:=hK.ext aq;have aZ:=aZ.ext aq
 refine gN xA k7 ?_
 intro w3 aJ iC iH
 have hK:=hK.ext aJ;have aZ:=aZ.ext aJ;have ox:=ox.ext aJ
 refine j5 (ZN _ _ _ _ _ _ _) rfl rfl<|fE rfl ?_
 intro w4 aF mw iS
 have hK:=hK.ext aF;have aZ:=aZ.ext aF;have ox:=ox.ext aF;have iC:=iC.ext aF
 refine zA<|ag<|zr<|zm<|zL bT aH rfl aZ.all rfl<|zm<|aC (aip e T Ha [] [w3.heap.size,w1.heap.size,w2.heap.size] w3.heap.size _ w4 (dZ.start mw ox iC om om) ((dA.fresh (L':=[w3.heap.size,w1.heap.size,w2.heap.size]) (λx hx=>by right;simp at hx;rcases hx with rfl|rfl|rfl<;>omega)).ext hK)) ?_
 rintro jV w5 ⟨v1,v3,v4,v5,v6,v8,L1,r6,iv,aw,bY⟩
 subst r6
 have hF:=bY.fr
 have yB:=hK
 have uh:=aw.dL
 clear ox iC mw
 refine eA k7 rfl rfl rfl ?_
 intro w6 bF cG qg
 have dk:=bF
 refine du k7 rfl rfl iv.one cG rfl ?_
 intro w7 cw cG dN
 have dk:=dk.since cw (λx hx=>.inr (by simp at hx;omega))
 have aw:=aw.sZ dk sm (lR _) cG.lt
 have xh:=((eP.refl [] L1 w5).more dk sm (lR _) sm).fr
 have gx:iq (w5.heap.size::L1) w7 130 w5.heap.size (FM e T):=⟨_,_,_,_,_,_,cG,iv.go xh⟩
 have hF:=hF.go xh
 refine ag<|zr<|zm<|aC (Vn (FM e T) (sN T) (SO bD ht hn) hn (show(sN T).code.length<=1100 from by show 4<=1100;omega) (show(0:Nat)<80000 from om) [w5.heap.size] (w5.heap.size::L1) w3.heap.size w5.heap.size w7 aw gx sm) ?_
 rintro Gp w8 ⟨L2,aw,_,tJ⟩
 have hF:=hF.go tJ
 have aw:dZ t8 [w5.heap.size] L2 w8 w3.heap.size true (rU e T):=aw
 have CC:=aw.dL
 refine ag<|zr<|zm<|gN bh bA ?_
 intro w9 aG va dN
 have aw:=aw.ext aG;have hF:=hF.ext aG
 refine aC (Nv BK [] sm (rU e T) (by rw[VE];simp) [w5.heap.size] L2 w3.heap.size _ w9 aw (va.lp.rep (λx hx mI=>by have:=CC x mI;simp at hx;omega))) ?_
 rintro GD cM ⟨L3,aw,bY⟩
 have hF:=hF.go bY.fr
 clear va
 refine ag<|zr<|zm<|gD bh bA rfl rfl ?_
 intro eW cK Cl agp
 have yJ:=aw.open
 obtain⟨xb,xt,xc,xy,gb,gt,gc,gy,bj,hS⟩:=yJ
 have x4:=hS.apart
 obtain⟨yp,nD,vz,mB,vA,tW⟩:=x4
 have bj:=bj.ext cK
 have yK:=hS.Ig (aY.vY [[40,104,97,108,116,32,49,41]] Cl) cK.any (λx hx=>.inr (by cases hx;exact lR _))
 obtain⟨L4,hS,bY⟩:=yK
 have hF:=hF.go bY
 refine di rfl<|zf C6 rfl<|gW (o:=4) nJ rfl rfl rfl bj rfl ?_
 intro gh dC bj dN
 have hS:=hS.aO dC sm
 have hF:=hF.aL dC (by simpa using hS.mem.2 (.inr (.inl rfl)))
 have aw:dZ t8 [w5.heap.size] L4 gh w3.heap.size true {(BT (rU e T) BK []) with code:=[[40,104,97,108,116,32,49,41]]}:=⟨_,_,_,_,_,_,_,_,bj,hS⟩
 refine ag<|zr<|zm<|zm<|aC (vw T om gh) ?_
 rintro wL jD ⟨vB,fK⟩
 have Gt:=fK.size
 have aw:=aw.ext fK;have hF:=hF.ext fK
 obtain rfl:=vB
 have aiz:=aw.dL
 refine ln bh bA rfl rfl rfl rfl ?_
 intro je dK AP Ck
 have aw:=aw.ext dK;have hF:=hF.ext dK
 refine aC (Nv z6 [sT,bL T] sm {(BT (rU e T) BK []) with code:=[[40,104,97,108,116,32,49,41]]} (show((rU e T).blocks++[_]).length<100000 from by rw[VE];simp) [w5.heap.size] L4 w3.heap.size _ je aw (aY.eD [sT,bL T] AP (λhx=>by have:=aiz _ hx;omega))) ?_
 rintro v31 p6 ⟨L5,aw,bY⟩
 have hF:=hF.go bY.fr
 have aw:dZ t8 [w5.heap.size] L5 p6 w3.heap.size false (BU e T):=aw
 clear AP
 refine ag<|aQ<|zr<|zA<|ag<|cQ ?_
 refine fW (λi:Nat=>[(6,.pointer (some ⟨w3.heap.size,0,none⟩)),(8,.int .i64 (i:Int))]) (λi ww=>∃m9 L9,dZ t8 [w5.heap.size] L9 ww w3.heap.size false m9∧rV m9 i∧ofM e T=ya (1000-i) m9 i∧Fr [w3.heap.size,w1.heap.size,w2.heap.size] w4 L9 ww∧i<=1000) (λi=>1000-i) (0) (⟨rfl,rfl⟩) (⟨BU e T,L5,aw,Ms bD ht hn,rfl,hF,om⟩) ?_
 intro gg lQ AQ hI
 obtain⟨m9,L9,aw,VF,GO,hF,hi⟩:=hI
 have yJ:=aw.open
 obtain⟨xb,xt,xc,xy,gb,gt,gc,gy,bj,hS⟩:=yJ
 have gv:=hS.ta.len
 obtain⟨at9,ct9,et9⟩:=gv
 subst et9
 have bj:aY lQ w3.heap.size [xb,.slice at9 (m9.bW.map Tk.enc).length ct9,.int .i64 (m9.count:Int),.bool m9.wide,xc,xy].toArray 127:=bj
 have C1:(m9.bW.map Tk.enc).length=m9.bW.length:=List.length_map ..
 refine aQ<|zr<|zm<|zm<|di rfl<|zf zk rfl<|zl EY rfl (bj.at rfl)<|dX xA rfl<|fy rfl rfl rfl<|ag<|zc rfl (λh1=>?_) (λh1=>?_)
 have lg:gg<m9.bW.length:=om
 have qT:=aix VF lg
 obtain⟨dQ,eE,fZ,gI,pD,VG,D9,oM⟩:=qT
 have D7:=hS.ta.form om
 obtain⟨bq,cq,eq9,eg9⟩:=D7
 cases eq9
 have DA:=hS.ta.aiu (aiv lg)
 obtain⟨vs9,aiD,VH,aiE⟩:=DA
 have Ou:=ace aiE
 obtain⟨y1,y3,y4,y5,y6,y8,evs,iv⟩:=Ou
 subst evs
 have pR:∃z,z=ir m9.bW gg:=⟨_,rfl⟩
 obtain⟨tz,Ov⟩:=pR
 rw[<-Ov] at dQ eE fZ gI VG D9 oM iv VH aiD
 have mh:=aw
 have GI:=hF
 have Nc:=aw.dL
 have hw9:=ak.refl [] lQ
 refine bz<|aQ<|cQ<|zr<|zm<|di rfl<|zf zk rfl<|zl EY rfl (bj.at rfl)<|zm<|zi xA k7 rfl rfl om<|zL C5 k7 rfl VH rfl<|eA k7 rfl rfl rfl ?_
 intro vC p7 cT an2
 have dk:=p7
 refine du k7 rfl rfl iv.one cT rfl ?_
 intro wX ua cT dN
 have dk:=dk.since ua (λx hx=>.inr (by simp at hx;omega))
 have aw:=mh.sZ dk sm (lR _) cT.lt
 have xh:=((eP.refl [] L9 lQ).more dk sm (lR _) sm).fr
 have gx:iq (lQ.heap.size::L9) wX 130 lQ.heap.size tz:=⟨_,_,_,_,_,_,cT,iv.go xh⟩
 have hF:=GI.go xh
 refine ag<|zr<|zm<|aC (ah0 tz m9 VG false [lQ.heap.size,w5.heap.size] (lQ.heap.size::L9) w3.heap.size lQ.heap.size wX aw gx sm) ?_
 rintro v49 Cu ⟨L6,aw,bY⟩
 have gx:=bY.tk gx sm
 have hF:=hF.go bY.fr
 refine ag<|zr<|zm<|aC (Vn tz (qv m9 tz) D9 gI eE fZ [lQ.heap.size,w5.heap.size] L6 w3.heap.size lQ.heap.size Cu aw gx sm) ?_
 rintro v51 vF ⟨L7,aw,⟨t',gx,fh,hr9⟩,tJ⟩
 have hF:=hF.go tJ
 have ky:=gx
 obtain⟨u1,u3,u4,u5,u6,u8,cA,CD⟩:=ky
 have CQ:=CD.regs
 have cJ:=eN CD.regs
 obtain⟨a1,n1,c1,e1,fS⟩:=cJ
 subst e1
 have CQ:=CD.regs
 rw[hr9] at CQ
 have cA:aY vF lQ.heap.size [str t'.aP,.slice a1 n1 c1,.int .i64 (t'.loads:Int),u3,u4,u5,u6,str t'.expr.av.az,u8,.int .i64 (t'.on:Int),str t'.bm,.int .i64 (t'.next:Int)].toArray 130:=cA
 rw[fh] at cA
 refine ag<|db<|zm<|zf Ky rfl<|zl ck rfl (cA.at rfl)<|zf C7 rfl<|zl eQ rfl (cA.at rfl)<|aC (Nv tz.aP tz.regs oM (mu tz.expr.n ⟨qv m9 tz,tz.sc,tz.on,tz.bm⟩ tz.expr) dQ [lQ.heap.size,w5.heap.size] L7 w3.heap.size _ vF aw CQ) ?_
 rintro N0 rr ⟨L8,aw,bY⟩
 have hF:=hF.go bY.fr
 have vK:=aw.drop
 obtain⟨Lx,eLx,aw⟩:=vK
 have hF:=hF.go ((Fr.refl L8 rr).to (L2:=Lx) (λz hz=>.inl (by rw[eLx];simp[hz])))
 have aw:dZ t8 [w5.heap.size] Lx rr w3.heap.size false (DJ m9 tz):=aw
 have bg:=VF.step lg
 rw[<-Ov] at bg
 have VI:=SS lg (999-gg)
 rw[<-Ov,show 999-gg+1=1000-gg from by omega,show 999-gg=1000-(gg+1) from by omega] at VI
 refine ag<|db<|zm<|eF rfl rfl rfl (wrap_i64 _ om om)<|zA<|ag ?_
 exact⟨gg+1,⟨rfl,rfl⟩,⟨DJ m9 tz,Lx,aw,bg,GO.trans VI,hF,om⟩,om⟩
 have lg:¬gg<m9.bW.length:=om
 rw[SR lg] at GO
 have Ow:cD [] lQ xb (.sl 3 (m9.blocks.map Bk.enc)):=hS.bl.rep (λx hx=>.inl (hS.mem.2 (by simp at hx;simp[hx]))) sm
 refine gB<|gC rfl<|aQ ?_
 apply mq ei 11 (rA 58 9++[4,5]) (rA 58 9++[4,5]) [[],[0],[1],[2],[],[4],[5],[6],[7],[3],[8]] [It.v _,It.v _,It.v _,It.v _,It.v _,It.v _,It.v _,It.v _,It.v _,It.v _,It.v _] de rfl
 intro wd aB
 refine eI ?_
 refine vk aB (λx vC p7=>?_) ?_
 refine di rfl ?_
 exact pv
 refine vc (λ_ _ _=>zf Kw rfl pv) ?_
 refine vk aB (λx vC p7=>?_) ?_
 have bj:=bj.ext p7
 refine zl PS rfl (bj.at rfl) ?_
 exact pv
 refine eI ?_
 refine vk aB (λx vC p7=>?_) ?_
 refine di rfl ?_
 exact pv
 refine vc (λ_ _ _=>zf PM rfl pv) ?_
 refine vk aB (λx vC p7=>?_) ?_
 have bj:=bj.ext p7
 refine zl Da rfl (bj.at rfl) ?_
 exact pv
 refine vc (λ_ _ _=>eJ rfl pv) ?_
 refine vc (λ_ _ _=>zA pv) ?_
 refine vc (λ_ _ _=>zA pv) ?_
 exact trivial
 intro x oo kY
 have hF:=hF.ext kY;have Ow:=Ow.ext kY
 change OW _ _ _ _ [] (aM (aN _ x _) (zZ 58 [_,_,_,_,_,_,_,_,_]++[(4,_),(5,_)])) _
 refine ag<|aV ?_
 rw[GO]
 exact⟨_,rfl,⟨xb,rfl,Ow⟩,yB.since hF.aO (λx hx=>.inr (by simp at hx;rcases hx with rfl|rfl|rfl<;>omega))⟩
theorem Ox:∀(k:Nat) {m:Mk} {i:Nat},rV m i->∃j,rV (ya k m i) j
 |0,_,i,h=>⟨i,h⟩
 |k+1,m,i,h=>by
  by_cases hi:i<m.bW.length
  ·rw[SS hi];exact Ox k (h.step hi)
  ·rw[SR hi];exact⟨i,h⟩
theorem aiG (bD:e.ok) (ht:bM e []=some T) (hn:e.n<=120):By (ofM e T).blocks:=by
 obtain⟨j,hj⟩:=Ox 1000 (Ms bD ht hn)
 exact hj.small
def CR (s:aj) (f:Ex) (T:Ty):Prop:=∃e:Ex,ba s=some e.av∧e.ok∧e.n<=120∧nS e=some f∧mv f.av.text=true∧bM e []=some T
def Eu (s:aj) (ok:Bool) (bs:List Bk):Prop:=(ok=true->∃f T,CR s f T∧(ofM f T).wide=false∧jL (ofM f T).blocks=true∧bs=(ofM f T).blocks)∧(ok=false->bs=[]∧∀f T,CR s f T->¬((ofM f T).wide=false∧jL (ofM f T).blocks=true))
theorem VJ (bD:f.ok) (hx:mv f.av.text=true):ba f.av.text=some f.av∧f.n<=120:=by
 obtain⟨e2,h1,h2,h3⟩:=wE.1 hx
 have h4:=(BC h1).2.2.1
 have h5:=K5 (Ex.wf h2) (Ex.wf bD) h4
 have h6:=qy h2 bD h5
 subst h6
 exact⟨h1,h3⟩
theorem aiH {s:aj} (h:CR s f T):f.ok∧bM f []=some T∧f.n<=120∧ba f.av.text=some f.av:=by
 obtain⟨e,h1,h2,h3,h4,h5,h6⟩:=h
 have h7:=LH h2 h4
 obtain⟨h8,h9⟩:=VJ h7 h5
 exact⟨h7,RJ h2 h6 h4,h9,h8⟩
theorem JP {s:aj} {f':Ex} {T':Ty} (h:CR s f T) (h':CR s f' T'):f=f'∧T=T':=by
 obtain⟨e,h1,h2,h3,h4,h5,h6⟩:=h
 obtain⟨e',k1,k2,k3,k4,k5,k6⟩:=h'
 have he:=qy h2 k2 (Option.some.inj (h1.symm.trans k1))
 subst he
 rw[h4] at k4
 rw[h6] at k6
 exact⟨Option.some.inj k4,Option.some.inj k6⟩
theorem aiI:CR Jw qH .i:=⟨qH,UJ,NO,by decide,agx,by
 rw[UI];exact wE.2 ⟨qH,UJ,NO,by decide⟩,type12⟩
theorem aiJ {ok:Bool} (h:Eu Jw ok bs):ok=true:=by
 cases ok with
 |true=>rfl
 |false=>exact absurd ⟨agy,agz⟩ ((h.2 rfl).2 _ _ aiI)
theorem Eu.aP {s:aj} {ok:Bool} (h:Eu s ok bs):∀b,b∈bs->b.aP.length<=10:=by
 cases ok with
 |true=>
  obtain⟨f,T,h1,_,_,rfl⟩:=h.1 rfl
  obtain⟨h2,h3,h4,_⟩:=aiH h1
  obtain⟨j,hj⟩:=Ox 1000 (Ms h2 h3 h4)
  exact hj.labels
 |false=>rw[(h.2 rfl).1];intro b hb;cases hb
theorem Eu.prog {s:aj} (h:Eu s true bs):jL bs=true:=by
 obtain⟨f,T,_,_,h3,rfl⟩:=h.1 rfl
 exact h3
theorem VK (s:aj) (w:World):cj Tryz.prog 49 [str s] w λr w'=>(∃v ok bs,r= .tuple #[v,.bool ok]∧km [] w' v bs∧Eu s ok bs)∧ak [] w w':=by
 have hK:=ak.refl [] w
 refine cV [.tmp 2,.tmp 3] 44 Tryz.func49 rfl Y7 rfl rfl ?_
 refine zr<|zA<|zA<|ag<|zr<|zm<|aC (aeW s w) ?_
 rintro v1 w1 ⟨fM,aK⟩
 have dQ:=aK.size
 have hK:=hK.ext aK
 have eR:=fM
 obtain⟨x0,VL,e0,yW,hx0⟩:=eR
 subst e0
 refine zm<|zx (i:=0) rfl rfl<|zx (i:=1) rfl rfl<|zA<|zA<|ag<|aQ<|zr<|zm<|eJ rfl<|zm<|xo (t:=17) rfl (λh1=>?_) (λh1=>?_)
 replace h1:=bw h1
 have gL:VL=false:=by simpa using h1
 refine zs<|zs<|zs<|zp rfl<|ag<|zc rfl (λh2=>?_) (λh2=>?_)
 refine zr<|gN iL gR ?_
 intro w2 aq tT eM
 have hK:=hK.ext aq
 refine zA<|zA<|ag<|aV ?_
 exact⟨_,rfl,⟨_,false,[],rfl,cD.nil _ _ _,⟨λh=>by(cases h),λ_=>⟨rfl,λf T ⟨e,h1,h2,h3,h4,h5,h6⟩=>by rw[yW.2 ⟨e,f,h1,h2,h3,h4,h5⟩] at gL;cases gL⟩⟩⟩,hK⟩
 simp at h2
 replace h1:=bw h1
 have gL:VL=true:=(by simpa using h1)
 have hex:=yW.1 gL
 obtain⟨e,f,yl,bD,hn,hf,fF⟩:=hex
 have hxe:=hx0 e f yl bD hf gL
 subst hxe
 have AK:=LH bD hf
 have MK:=VJ AK fF
 obtain⟨sq,Nl⟩:=MK
 have ot:Ci s (fj (bM e [])):=⟨λh=>(by rw[wE.2 ⟨e,yl,bD,hn⟩] at h;cases h),λe' h1 h2 h3=>by rw[qy h2 bD (Option.some.inj (h1.symm.trans yl))]⟩
 refine zm<|aC (afG s w1) ?_
 rintro v2 w2 ⟨dA,aq⟩
 have eE:=aq.size
 have hK:=hK.ext aq
 have eR:=dA
 obtain⟨b9,e9,cT⟩:=eR
 subst e9
 have cT:=cT _ ot
 refine eJ rfl<|zp rfl<|ag<|zc rfl (λh3=>?_) (λh3=>?_)
 have fC:bM e []=none:=Ui (by have jS:b9=false:=(by simpa using h3);rw[jS] at cT;simpa using cT.symm)
 refine zr<|gN iL gR ?_
 intro w3 aJ tT iH
 have hK:=hK.ext aJ
 refine zA<|zA<|ag<|aV ?_
 exact⟨_,rfl,⟨_,false,[],rfl,cD.nil _ _ _,⟨λh=>by(cases h),λ_=>⟨rfl,λf' T ⟨e',h1,h2,h3,h4,h5,h6⟩=>by rw[qy h2 bD (Option.some.inj (h1.symm.trans yl)),fC] at h6;cases h6⟩⟩⟩,hK⟩
 have fC:=Uj (o:=bM e []) (by have jS:b9=true:=(by simpa using h3);rw[jS] at cT;simpa using cT.symm)
 obtain⟨T,fC⟩:=fC
 rw[fC] at ot
 have ot:Ci s T.text:=ot
 have Nn:=RJ bD fC hf
 have lr:CR s f T:=⟨e,yl,bD,hn,hf,fF,fC⟩
 refine bz<|zr<|zm<|aC (FU f.av.text [] w2 sm) ?_
 rintro v3 w3 ⟨eh,aJ⟩
 have fZ:=aJ.size
 have hK:=hK.ext aJ
 have eR:=eh
 obtain⟨t,tv,e9,pR,hp⟩:=eR
 subst e9
 have e2:=hp.1 _ sq
 subst e2
 have cJ:=dM pR
 obtain⟨pa,pn,pc,e9,fP,bc⟩:=cJ
 subst e9
 subst fP
 have nk:=hK.size
 refine zm<|zx (i:=0) rfl rfl<|zx (i:=1) rfl rfl<|eA aH rfl rfl rfl ?_
 intro w4 aF bQ lG
 have hK:=hK.ext aF
 have dk:=aF
 refine du (vs:=[str f.av.az,.slice pa f.av.au.length pc]) aH rfl rfl rfl bQ rfl ?_
 intro w5 aU bQ dN
 have hK:=hK.since aU (λx hx=>.inr (by simp at hx;omega))
 have dk:=dk.since aU (λx hx=>.inr (by simp at hx;omega))
 have pR:=pR.ext dk
 refine zA<|ag<|aQ ?_
 apply wv ei 9 (rA 29 4++[28,33,34,8,9]) (rA 29 4++[28,33,34,8,9]) [[],[],[1],[0,2],[3],[4],[4],[5],[6]] [It.v _,It.v _,It.v _,It.p (fun(v:Value) (ww:World)=>∃vb,v= .tuple #[vb,.bool (!(ofM f T).wide)]∧km [] ww vb (ofM f T).blocks),It.p (fun(v:Value) (ww:World)=>∃vb,v= .tuple #[vb,.bool (!(ofM f T).wide)]∧km [] ww vb (ofM f T).blocks),It.p (fun(v:Value) (ww:World)=>km [] ww v (ofM f T).blocks),It.v _,It.p (fun(v:Value) (ww:World)=>km [] ww v (ofM f T).blocks),It.v _] de (by exact⟨λv w w' ⟨vb,h1,h2⟩ k=>⟨vb,h1,cD.ext h2 k⟩,λv w w' ⟨vb,h1,h2⟩ k=>⟨vb,h1,cD.ext h2 k⟩,λv w w' h k=>cD.ext h k,λv w w' h k=>cD.ext h k,trivial⟩)
 intro wd aB
 refine vk aB (λx w6 bF=>?_) ?_
 have bQ:=bQ.ext bF
 refine zL bT aH rfl bQ.all rfl ?_
 exact pv
 refine eI ?_
 refine vk aB (λx w6 bF=>?_) ?_
 refine aC (Uo s w6) ?_
 rintro v7 w7 ⟨iT,cw⟩
 have pb:=cw.size
 have eR:=iT
 obtain⟨x9,e9,gk⟩:=eR
 have gk:=Un gk ot
 subst gk
 subst e9
 exact pk cw
 refine vk aB (λx w6 bF=>?_) ?_
 have pR:=pR.ext bF
 refine aC (aiy f T AK Nn Nl _ w6 pR) ?_
 rintro v7 w7 ⟨iT,cw⟩
 have pb:=cw.size
 have eR:=iT
 exact pf cw eR
 refine vc (λx w6 bF=>?_) ?_
 intro v3 d3
 refine zm ?_
 exact pf (ak.refl _ _) d3
 refine vc (λx w6 bF=>?_) ?_
 intro v4 d4
 obtain⟨Vd,e9,N9⟩:=d4
 subst e9
 refine zx (i:=0) rfl rfl ?_
 exact pf (ak.refl _ _) N9
 refine vc (λx w6 bF=>?_) ?_
 intro v4 d4
 obtain⟨Vd,e9,N9⟩:=d4
 subst e9
 refine zx (i:=1) rfl rfl ?_
 exact pv
 refine vc (λx w6 bF=>?_) ?_
 intro v5 d5
 refine zA ?_
 exact pf (ak.refl _ _) d5
 refine vc (λ_ _ _=>zA pv) ?_
 exact trivial
 intro x pQ wF
 intro v3 d3
 intro v4 d4
 intro v5 d5
 intro v7 d7
 have hK:=hK.ext wF
 change OW _ _ _ _ [] (aM (aN _ x _) (zZ 29 [_,_,_,_]++[(28,_),(33,_),(34,_),(8,_),(9,_)])) _
 have JQ:km [] pQ _ (ofM f T).blocks:=d7
 refine ag<|aQ<|zr<|zm<|eJ rfl<|zm<|xo (t:=37) rfl (λh4=>?_) (λh4=>?_)
 replace h4:=bw h4
 have Oy:(ofM f T).wide=true:=by simpa using h4
 refine zs<|zs<|zs<|zp rfl<|ag<|zc rfl (λh5=>?_) (λh5=>?_)
 refine zr<|gN iL gR ?_
 intro qD nG aiM an3
 have hK:=hK.ext nG
 refine zA<|zA<|ag<|aV ?_
 exact⟨_,rfl,⟨_,false,[],rfl,cD.nil _ _ _,⟨λh=>by(cases h),λ_=>⟨rfl,λf' T' hc hw=>by rw[(JP hc lr).1,(JP hc lr).2,Oy] at hw;cases hw.1⟩⟩⟩,hK⟩
 simp at h5
 replace h4:=bw h4
 have Oy:(ofM f T).wide=false:=(by simpa using h4)
 refine zm<|aC (Qy (ofM f T).blocks (aiG AK Nn Nl) _ [] pQ JQ) ?_
 rintro v46 qD ⟨yM,nG⟩
 have JR:=nG.size
 have hK:=hK.ext nG;have JQ:=JQ.ext nG
 obtain rfl:=yM
 refine eJ rfl<|zp rfl<|ag<|zc rfl (λh6=>?_) (λh6=>?_)
 have Oz:jL (ofM f T).blocks=false:=(by simpa using h6)
 refine zr<|gN iL gR ?_
 intro wK jk aiM an4
 have hK:=hK.ext jk
 refine zA<|zA<|ag<|aV ?_
 exact⟨_,rfl,⟨_,false,[],rfl,cD.nil _ _ _,⟨λh=>by(cases h),λ_=>⟨rfl,λf' T' hc hw=>by rw[(JP hc lr).1,(JP hc lr).2,Oz] at hw;cases hw.2⟩⟩⟩,hK⟩
 have Oz:jL (ofM f T).blocks=true:=(by simpa using h6)
 refine bz<|zr<|zm<|zA<|zA<|ag<|aV ?_
 exact⟨_,rfl,⟨_,true,_,rfl,JQ,⟨λ_=>⟨f,T,lr,Oy,Oz,rfl⟩,λh=>by(cases h)⟩⟩,hK⟩
theorem aiN {a:Nat} (ha:a<4611686018427387904) (hb:b<4611686018427387904):IntKind.i64.wrap ((a%2^IntKind.i64.bits^^^b%2^IntKind.i64.bits:Nat):Int)=((a^^^b:Nat):Int):=by
 have hx:a^^^b<2^62:=Nat.xor_lt_two_pow om om
 have h1:a%2^IntKind.i64.bits=a:=Nat.mod_eq_of_lt (show a<2^64 by omega)
 have h2:b%2^IntKind.i64.bits=b:=Nat.mod_eq_of_lt (show b<2^64 by omega)
 rw[h1,h2]
 exact wrap_i64 _ om om
section
variable {P:Program} {n:Nat} {ops:Array Oper} {K:Env->World->Prop} {rest:List Oper} {e:Env} {w:World} {dst:Option Nat} {ty T T':TypeId} {pos:String} {after:Array Edge} {g:Option (Nat×Bool)} {x y:Operand}
theorem aiO {a:Nat} (hg:gate ops e g=true) (hd:dw n dst=true) (hx:ev e x= .int .i64 (a:Int)) (hy:ev e y= .int .i64 (b:Int)) (ha:a<4611686018427387904) (hb:b<4611686018427387904) 
  (c':OW P n ops K rest (cO e dst (.int .i64 ((a^^^b:Nat):Int))) w):OW P n ops K (⟨dst,.binOp .xor T x y T',ty,pos,after,g⟩::rest) e w:=
 fR hg hd (by simp[execOp,eqGuard,hx,hy,binOp,Op.intBits,aiN ha hb]) c'
end
theorem VM {len cap size h:Nat} (hr:cD L w (.slice (some ⟨b,off,none⟩) len cap) (.sl size rows)) (hh:h<=len):cD L w (.slice (some ⟨b,off,none⟩) h cap) (.sl size (rows.take h)):=by
 cases hr with
 |nil=>rw[List.take_nil,show h=0 from by omega];exact .nil _ _ _
 |sl _ _ _ _ _ _ f hl hc hb hL hs kJ jm=>
  exact .sl b off h cap size (rows.take h) f (by rw[List.length_take];omega) om hb hL (λrow hr=>hs row (List.mem_of_mem_take hr)) (λk j hk hj=>kJ k j om hj) (λk j row c hk hj=>jm k j row c (by
   rw[List.getElem?_take] at hk
   split at hk
   ·exact hk
   ·cases hk) hj)
section
variable {P:Program} {n:Nat} {ops:Array Oper} {K:Env->World->Prop} {rest:List Oper} {e:Env} {w:World} {dst:Option Nat} {ty T:TypeId} {pos:String} {after:Array Edge} {g:Option (Nat×Bool)} {x:Operand}
theorem VN {L:List Nat} {E:TypeId} {bytes:Nat} {z:Value} {hi:Operand} {b off len cap h:Nat} {k:IntKind} (hT:P.underlying T=some (.slice E)) (hE:TI P E sz bytes z) (hg:gate ops e g=true) (hd:dw n dst=true) 
  (hx:ev e x= .slice (some ⟨b,off,none⟩) len cap) (EE:ev e hi= .int k (h:Int)) (hl:h<=len) {rows:List (List C)} (hr:cD L w (.slice (some ⟨b,off,none⟩) len cap) (.sl sz rows))
  (c:OW P n ops K rest (cO e dst (.slice (some ⟨b,off,none⟩) h cap)) w):OW P n ops K (⟨dst,.slice T x none (some hi) none,ty,pos,after,g⟩::rest) e w:=by
 have CX:len<=cap:=by cases hr with|nil=>exact Nat.zero_le _|sl _ _ _ _ _ _ _ hl hc=>exact hc
 have h2:h<=cap:=Nat.le_trans hl CX
 refine fR hg hd (v:=.slice (some ⟨b,off,none⟩) h cap) (w':=w) ?_ c
 simp[execOp,Instr.sliceAt,Instr.slice,hx,EE,run_underlying hT,Instr.sliceBounds,Instr.sliceBound,asIntOf,h2,hE.ti,vS]
end
def rC (bs:List UInt8):List (List C):=bs.map λc=>[.val (.int .u8 (c.toNat:Int))]
theorem Ev (bs:List UInt8):(rC bs).length=bs.length:=by simp[rC]
theorem JS {a:Option Addr} {bs:List UInt8} (h:cD L w (.slice a n c) (.sl 1 (rC bs))) (hi:i<bs.length):∃b off x,a=some ⟨b,off,none⟩∧iZ L w b (off+i*1) [.int .u8 ((x:UInt8).toNat:Int)]:=by
 obtain⟨b,off,vs,ha,hb,hL,hl,hc,hr⟩:=yR h (i:=i) (row:=[.val (.int .u8 ((bs[i]).toNat:Int))]) (by simp[rC,gE hi])
 obtain⟨u,hu⟩:∃u,vs=[u]:=by
  match vs,hl with
  |[u],_=>exact⟨u,rfl⟩
 subst hu
 obtain⟨h1,_⟩:=hr
 cases h1
 exact⟨b,off,bs[i],ha,hc,hb,hL⟩
def dW (w:World) (br q:Nat):Prop:=∃a n c p bs,aY w br [.slice a n c,.int .i64 ((p:Nat):Int)].toArray 77∧p<=q∧(∀L:List Nat,(∀x,x∈L->br<=x)->cD L w (.slice a n c) (.sl 1 (rC bs)))∧n<=1000000000
theorem dW.ext {br:Nat} (h:dW w br q) (k:ak [] w w'):dW w' br q:=let⟨a,n,c,p,bs,h1,h2,h3,h4⟩:=h;⟨a,n,c,p,bs,h1.ext k,h2,λL hL=>cD.ext (h3 L hL) k,h4⟩
theorem dW.more {br q':Nat} (h:dW w br q) (hq:q<=q'):dW w br q':=let⟨a,n,c,p,bs,h1,h2,h3,h4⟩:=h;⟨a,n,c,p,bs,h1,Nat.le_trans h2 hq,h3,h4⟩
theorem dW.lt {br:Nat} (h:dW w br q):br<w.heap.size:=let⟨_,_,_,_,_,h1,_⟩:=h;h1.lt
theorem VO {br:Nat} (h:∀L:List Nat,(∀x,x∈L->br<=x)->cD L w v (.sl 1 rows)) (k:ak G w w') (hG:∀x,x∈G->br<=x):∀L:List Nat,(∀x,x∈L->br<=x)->cD L w' v (.sl 1 rows):=λL hL=>
 (cD.aO (h (G++L) λx hx=>(mA.1 hx).elim (hG x) (hL x)) (k.mono λx hx=>List.mem_append_left _ hx)).fresh λx hx=>.inl (mR _ hx)
theorem dW.aO {br:Nat} (h:dW w br q) (k:ak G w w') (hG:∀x,x∈G->br<x):dW w' br q:=let⟨a,n,c,p,bs,h1,h2,h3,h4⟩:=h;⟨a,n,c,p,bs,h1.aO k (λhx=>Nat.lt_irrefl _ (hG br hx)),h2,VO h3 k (λx hx=>Nat.le_of_lt (hG x hx)),h4⟩
theorem kj (z:Nat) (h:z<4611686018427387904) (y:Int) (e:y=(z:Int)):IntKind.i64.wrap y=(z:Int):=by
 rw[e];exact wrap_i64 _ om om
theorem mF (k:Nat) (hk:1<=k) (aq:k<=1000000) (br q:Nat) (hq:q<=1000000000) (w:World) (h:dW w br q):
  cj Tryz.prog 29 [.pointer (some ⟨br,0,none⟩),.int .i64 (k:Int)] w λr w'=>(∃z:Nat,r= .int .i64 (z:Int)∧z<k)∧dW w' br (q+1)∧ak [br] w w':=by
 obtain⟨a,n,c,p,bs,iF,hp,dy,hn⟩:=h
 have ie:=dy [br] sm
 have oR:n=bs.length:=by obtain⟨a',c',e',_⟩:=rH ie;cases e';exact Ev bs
 have hdiv:=Nat.div_le_self p n
 refine cV [.tmp 4] 99 Tryz.func29 rfl YX rfl rfl ?_
 refine zr<|zA<|ag<|zr<|zm<|zm<|di rfl<|zf KE rfl<|zl qN rfl (iF.at rfl)<|eF rfl rfl rfl (kj (p+1) om _ om)<|di rfl<|zf KE rfl<|gW (o:=1) tq rfl rfl rfl iF rfl ?_
 intro w1 aK iF dN
 have ie:=cD.aL ie aK sm
 have hK:=aK
 have hQ:dW w1 br (q+1):=⟨a,n,c,p+1,bs,iF,om,VO dy aK sm,hn⟩
 refine ag<|aQ<|zr<|zm<|fy rfl rfl rfl<|zm ?_
 apply fz 7 17 24 [17,18,19,20,21,22,23,24] (λw'=>w1=w') rfl
 intro h1
 replace h1:=bw h1
 refine zs<|zs<|zs<|zs<|zs<|zs<|zp rfl<|ag ?_
 exact mg rfl rfl
 intro h1
 replace h1:=bw h1
 refine zm<|di rfl<|zf zu rfl<|zl zw rfl (iF.at rfl)<|dX qO rfl<|dO rfl rfl rfl<|zp rfl<|ag ?_
 exact mg rfl rfl
 rintro xx _ rfl
 refine ag<|zc rfl (λh2=>?_) (λh2=>?_)
 have h0:n=0:=(by simp at h2;omega)
 refine zr<|zA<|ag<|aV ?_
 exact⟨_,rfl,⟨0,rfl,om⟩,hQ,hK⟩
 have h0:0<n:=(by simp at h2;omega)
 refine bz<|zr<|zm<|di rfl<|zf KE rfl<|zl qN rfl (iF.at rfl)<|mJ rfl rfl rfl rfl rfl (kj p om _ om)<|zA<|ag<|aQ<|zr<|zm<|zm<|di rfl<|zf zu rfl<|zl zw rfl (iF.at rfl)<|dX qO rfl<|fy rfl rfl rfl<|ag<|zc rfl (λh3=>?_) (λh3=>?_)
 have h1:p<n:=(by simp at h3;omega)
 have qb:=JS ie (i:=p) om
 obtain⟨b1,fY,x1,e1,bC⟩:=qb
 cases e1
 have iK:=x1.toNat_lt
 refine zr<|zm<|di rfl<|zf zu rfl<|zl zw rfl (iF.at rfl)<|zm<|zi qO C9 rfl rfl h1<|zl KI rfl (bC.cells 0 _ rfl)<|xm zv xz rfl rfl rfl (wrap_i64 _ om om)<|zm<|ED rfl rfl rfl rfl rfl om<|zA<|ag<|aV ?_
 exact⟨_,rfl,⟨x1.toNat%k,rfl,Nat.mod_lt _ om⟩,hQ,hK⟩
 have h1:=Nat.mod_lt p h0
 have h2:=Nat.mod_lt (p*7+3) h0
 have qb:=JS ie (i:=p%n) om
 obtain⟨b1,fY,x1,e1,bC⟩:=qb
 cases e1
 have iK:=x1.toNat_lt
 have iy:=JS ie (i:=(p*7+3)%n) om
 obtain⟨b2,ni,x2,e2,bX⟩:=iy
 cases e2
 have fF:=x2.toNat_lt
 refine bz<|aQ ?_
 apply mq ei 46 (rA 47 45++[6]) (rA 47 45++[6]) [[],[0],[1],[2],[],[],[5],[6],[7],[8],[4,9],[3,10],[11],[12],[13],[],[15],[16],[17],[],[19],[20],[],[22],[23],[24],[25],[21,26],[18,27],[28],[29],[30],[14,31],[],[33],[32,34],[],[],[37],[38],[39],[40],[36,41],[42],[35,43],[44]] [It.v _,It.v _,It.v _,It.v _,It.v _,It.v _,It.v _,It.v _,It.v _,It.v _,It.v _,It.v _,It.v _,It.v _,It.v _,It.v _,It.v _,It.v _,It.v _,It.v _,It.v _,It.v _,It.v _,It.v _,It.v _,It.v _,It.v _,It.v _,It.v _,It.v _,It.v _,It.v _,It.v _,It.v _,It.v _,It.v _,It.v _,It.v _,It.v _,It.v _,It.v _,It.v _,It.v _,It.v _,It.v _,It.v _] de rfl
 intro wd aB
 refine eI ?_
 refine vk aB (λx w2 aq=>?_) ?_
 refine di rfl ?_
 exact pv
 refine vc (λ_ _ _=>zf zu rfl pv) ?_
 refine vk aB (λx w2 aq=>?_) ?_
 have iF:=iF.ext aq
 refine zl zw rfl (iF.at rfl) ?_
 exact pv
 refine eI ?_
 refine eI ?_
 refine vk aB (λx w2 aq=>?_) ?_
 refine di rfl ?_
 exact pv
 refine vc (λ_ _ _=>zf zu rfl pv) ?_
 refine vk aB (λx w2 aq=>?_) ?_
 have iF:=iF.ext aq
 refine zl zw rfl (iF.at rfl) ?_
 exact pv
 refine vk aB (λx w2 aq=>?_) ?_
 refine dX qO rfl ?_
 exact pv
 refine vk aB (λx w2 aq=>?_) ?_
 refine ED rfl rfl rfl rfl rfl om ?_
 exact pv
 refine vk aB (λx w2 aq=>?_) ?_
 refine zi qO C9 rfl rfl h1 ?_
 exact pv
 refine vk aB (λx w2 aq=>?_) ?_
 have bC:=bC.ext aq
 refine zl KI rfl (bC.cells 0 _ rfl) ?_
 exact pv
 refine vk aB (λx w2 aq=>?_) ?_
 refine xm zv xz rfl rfl rfl (kj x1.toNat om _ rfl) ?_
 exact pv
 refine vk aB (λx w2 aq=>?_) ?_
 refine A8 rfl rfl rfl rfl rfl (kj (x1.toNat*131) om _ om) ?_
 exact pv
 refine eI ?_
 refine vk aB (λx w2 aq=>?_) ?_
 refine di rfl ?_
 exact pv
 refine vc (λ_ _ _=>zf zu rfl pv) ?_
 refine vk aB (λx w2 aq=>?_) ?_
 have iF:=iF.ext aq
 refine zl zw rfl (iF.at rfl) ?_
 exact pv
 refine eI ?_
 refine vk aB (λx w2 aq=>?_) ?_
 refine A8 rfl rfl rfl rfl rfl (kj (p*7) om _ om) ?_
 exact pv
 refine vk aB (λx w2 aq=>?_) ?_
 refine eF rfl rfl rfl (kj (p*7+3) om _ om) ?_
 exact pv
 refine eI ?_
 refine vk aB (λx w2 aq=>?_) ?_
 refine di rfl ?_
 exact pv
 refine vc (λ_ _ _=>zf zu rfl pv) ?_
 refine vk aB (λx w2 aq=>?_) ?_
 have iF:=iF.ext aq
 refine zl zw rfl (iF.at rfl) ?_
 exact pv
 refine vk aB (λx w2 aq=>?_) ?_
 refine dX qO rfl ?_
 exact pv
 refine vk aB (λx w2 aq=>?_) ?_
 refine ED rfl rfl rfl rfl rfl om ?_
 exact pv
 refine vk aB (λx w2 aq=>?_) ?_
 refine zi qO C9 rfl rfl h2 ?_
 exact pv
 refine vk aB (λx w2 aq=>?_) ?_
 have bX:=bX.ext aq
 refine zl KI rfl (bX.cells 0 _ rfl) ?_
 exact pv
 refine vk aB (λx w2 aq=>?_) ?_
 refine xm zv xz rfl rfl rfl (kj x2.toNat om _ rfl) ?_
 exact pv
 refine vk aB (λx w2 aq=>?_) ?_
 refine A8 rfl rfl rfl rfl rfl (kj (x2.toNat*1117) om _ om) ?_
 exact pv
 refine vk aB (λx w2 aq=>?_) ?_
 refine eF rfl rfl rfl (kj (x1.toNat*131+x2.toNat*1117) om _ om) ?_
 exact pv
 refine eI ?_
 refine vk aB (λx w2 aq=>?_) ?_
 refine A8 rfl rfl rfl rfl rfl (kj (p*29) om _ om) ?_
 exact pv
 refine vk aB (λx w2 aq=>?_) ?_
 refine eF rfl rfl rfl (kj (x1.toNat*131+x2.toNat*1117+p*29) om _ om) ?_
 exact pv
 refine eI ?_
 refine eI ?_
 refine vk aB (λx w2 aq=>?_) ?_
 refine di rfl ?_
 exact pv
 refine vc (λ_ _ _=>zf zu rfl pv) ?_
 refine vk aB (λx w2 aq=>?_) ?_
 have iF:=iF.ext aq
 refine zl zw rfl (iF.at rfl) ?_
 exact pv
 refine vk aB (λx w2 aq=>?_) ?_
 refine dX qO rfl ?_
 exact pv
 refine vk aB (λx w2 aq=>?_) ?_
 refine J9 rfl rfl rfl rfl rfl om (kj (p/n) om _ rfl) ?_
 exact pv
 refine vk aB (λx w2 aq=>?_) ?_
 refine A8 rfl rfl rfl rfl rfl (kj (p/n*53) om _ sm) ?_
 exact pv
 refine vk aB (λx w2 aq=>?_) ?_
 refine eF rfl rfl rfl (kj (x1.toNat*131+x2.toNat*1117+p*29+p/n*53) om _ sm) ?_
 exact pv
 refine vc (λ_ _ _=>zA pv) ?_
 exact trivial
 intro x pS iA
 change OW _ _ _ _ [] (aM (aN _ x _) (zZ 47 [_,_,_,_,_,_,_,_,_,_,_,_,_,_,_,_,_,_,_,_,_,_,_,_,_,_,_,_,_,_,_,_,_,_,_,_,_,_,_,_,_,_,_,_,_]++[(6,_)])) _
 have hX:x1.toNat*131+x2.toNat*1117+p*29+p/n*53<4611686018427387904:=om
 have hXx:∃z,z=x1.toNat*131+x2.toNat*1117+p*29+p/n*53:=⟨_,rfl⟩
 obtain⟨X,hXe⟩:=hXx
 rw[<-hXe] at hX⊢
 have hQ:=hQ.ext iA;have hK:=hK.ext iA
 refine ag<|zr<|zm<|zm<|J9 (b:=64) rfl rfl rfl rfl rfl om (kj (X/64) om _ rfl)<|aiO rfl rfl rfl rfl om om<|zA<|ag<|zr<|zm<|zm<|ED rfl rfl rfl rfl rfl om<|zA<|ag<|aV ?_
 exact⟨_,rfl,⟨(X^^^X/64)%k,rfl,Nat.mod_lt _ om⟩,hQ,hK⟩
theorem aiR (bs:List UInt8) (hb:bs.length<=1000000000) (v:Value) (w:World) (hv:cD [] w v (.sl 1 (rC bs))):
  cj Tryz.prog 23 [v] w λr w'=>(∃br,r= .pointer (some ⟨br,0,none⟩)∧w.heap.size<=br∧dW w' br 0)∧ak [] w w':=by
 obtain⟨a,c,rfl,_⟩:=rH hv
 rw[Ev]
 rw[Ev] at hv
 have hK:=ak.refl [] w
 refine cV [.tmp 2] 11 Tryz.func23 rfl YR rfl rfl ?_
 refine zr<|zA<|ag<|aQ<|zr<|zm<|dX qO rfl<|jx rfl rfl rfl rfl rfl<|ag ?_
 refine jg (λq:Option Addr×Nat×Nat=>[(0,.slice q.1 q.2.1 q.2.2)]) (λq ww=>ak [] w ww∧(∃bs',cD [] ww (.slice q.1 q.2.1 q.2.2) (.sl 1 (rC bs')))∧q.2.1<=1000000000) ?_ ?_
 refine zc rfl (λh1=>?_) (λh1=>?_)
 have h2:2000<bs.length:=om
 have hg:=JS hv (i:=0) om
 obtain⟨b1,fY,x1,e1,_⟩:=hg
 cases e1
 refine db<|zm<|VN (h:=2000) qO C9 rfl rfl rfl rfl om hv<|zA<|ag ?_
 exact⟨(_,2000,_),rfl,hK,⟨bs.take 2000,by have:=VM hv (h:=2000) om;rw[show(rC bs).take 2000=rC (bs.take 2000) from by simp[rC,List.map_take]] at this;exact this⟩,by show 2000<=_;omega⟩
 refine bz ?_
 exact⟨(_,_,_),rfl,hK,⟨bs,hv⟩,hb⟩
 intro gu w1 e1 hI
 obtain⟨a2,n2,c2⟩:=gu
 dsimp only at hI⊢
 obtain⟨hK,⟨VP,OA⟩,fH⟩:=hI
 have aiS:=OA
 have nk:=hK.size
 refine zr<|zm<|j5 (ZT _ _ _ _) rfl rfl<|fE rfl ?_
 intro w2 aq ox eM
 have hK:=hK.ext aq
 refine zA<|ag<|aV ?_
 exact⟨_,rfl,⟨_,rfl,nk,⟨a2,n2,c2,0,VP,ox,lR _,λL hL=>(cD.fresh aiS (L':=L) (λx hx=>.inr (hL x hx))).ext aq,fH⟩⟩,hK⟩
theorem ml (xs:List aj) (eK:0<xs.length) (hl:xs.length<=1000000) (br q:Nat) (hq:q<=1000000000) (v:Value) (w:World) (h:dW w br q) (hv:bI [br] w v xs):
  cj Tryz.prog 25 [.pointer (some ⟨br,0,none⟩),v] w λr w'=>(∃x,x∈xs∧r=str x)∧dW w' br (q+1)∧ak [br] w w':=by
 obtain⟨a,n,c,rfl,hn⟩:=eN hv
 subst hn
 refine cV [.tmp 4] 12 Tryz.func25 rfl YT rfl rfl ?_
 refine zr<|zA<|ag<|zr<|zm<|zm<|zm<|dX bh rfl<|aC (mF xs.length om om br q hq w h) ?_
 rintro v9 w1 ⟨⟨z,e9,hz⟩,hQ,aG⟩
 subst e9
 have dA:=cD.aL hv aG sm
 have hg:=og dA hz
 obtain⟨b1,fY,e1,bC⟩:=hg
 cases e1
 refine zi bh bA rfl rfl hz<|zl ck rfl (bC.cells 0 _ rfl)<|zA<|ag<|aV ?_
 exact⟨_,rfl,⟨_,List.mem_of_getElem? (ll hz),rfl⟩,hQ,aG⟩
theorem Hb (br q:Nat) (hq:q<=1000000000) (w:World) (h:dW w br q):
  cj Tryz.prog 78 [.pointer (some ⟨br,0,none⟩)] w λr w'=>(∃z,z<6∧r=str (bf z))∧dW w' br (q+1)∧ak [br] w w':=by
 refine cV [.tmp 2] 6 Tryz.func78 rfl Zr rfl rfl ?_
 refine zr<|zA<|ag<|zr<|zm<|aC (mF 6 de de br q hq w h) ?_
 rintro v9 w1 ⟨⟨z,e9,hz⟩,hQ,aG⟩
 subst e9
 refine aC (iM (z+1) z om om w1) ?_
 rintro v2 w2 ⟨dA,aq⟩
 have eE:=aq.size
 have hQ:=hQ.ext aq;have aG:=aG.ext aq
 obtain rfl:=dA
 refine zA<|ag<|aV ?_
 exact⟨_,rfl,⟨z,hz,rfl⟩,hQ,aG⟩
theorem aiT {x:aj} (h:x∈([[62],[42]]:List aj)):∃f,x=kq f:=by
 simp only[mC,List.not_mem_nil,or_false] at h
 rcases h with rfl|rfl
 ·exact⟨true,rfl⟩
 ·exact⟨false,rfl⟩
theorem OB (d:Nat):d<=10->∀(br q:Nat),q+3*2^d<=1000000000->∀(w:World),dW w br q->
  cj Tryz.prog 84 [.pointer (some ⟨br,0,none⟩),.int .i64 (d:Int)] w λr w'=>(∃T:Ty,r=str T.text∧T.n+1<=2^(d+1))∧dW w' br (q+(3*2^d-2))∧ak [br] w w':=by
 induction d using Nat.strongRecOn with
 |_ d ih=>
  intro hd br q hq w h
  have qi:1<=2^d:=Nat.one_le_two_pow
  have uI:2^(d+1)=2*2^d:=by rw[Nat.pow_succ];omega
  have Dj:2^d<=1024:=Nat.pow_le_pow_right (n:=2) de hd
  refine cV [.tmp 4] 29 Tryz.func84 rfl Zy rfl rfl ?_
  refine zr<|zA<|ag<|aQ<|zr<|zm<|dO rfl rfl rfl<|zm<|xo (t:=7) rfl (λh1=>?_) (λh1=>?_)
  replace h1:=bw h1
  have OC:d=0:=(by simp at h1;omega)
  refine zs<|zs<|zs<|zp rfl<|ag<|zc rfl (λh2=>?_) (λh2=>?_)
  refine zr<|zA<|ag<|aV ?_
  exact⟨_,rfl,⟨.i,by rw[Ty.Lm];rfl,by show 1+1<=_;omega⟩,h.more om,ak.refl _ _⟩
  simp at h2
  replace h1:=bw h1
  have OC:1<=d:=(by simp at h1;omega)
  have Vx:2^d=2*2^(d-1):=(by rw[<-Nat.pow_succ'];congr 1;omega)
  have hp5:2^(d-1+1)=2^d:=(by congr 1;omega)
  have hp6:1<=2^(d-1):=Nat.one_le_two_pow
  refine zm<|aC (mF 2 de de br q om w h) ?_
  rintro v9 w1 ⟨⟨z,e9,hz⟩,hQ,aG⟩
  subst e9
  refine dO rfl rfl rfl<|zp rfl<|ag<|zc rfl (λh3=>?_) (λh3=>?_)
  refine zr<|zA<|ag<|aV ?_
  exact⟨_,rfl,⟨.i,by rw[Ty.Lm];rfl,by show 1+1<=_;omega⟩,hQ.more om,aG⟩
  have oq:=hQ.lt
  refine bz<|zr<|zm<|ln bh bA rfl rfl rfl rfl ?_
  intro w2 aq mw eM
  have hQ:=hQ.ext aq;have aG:=aG.ext aq
  refine aC (ml [[62],[42]] de de br (q+1) om _ w2 hQ (aY.eD [[62],[42]] mw (λhx=>by simp at hx;omega))) ?_
  rintro lx w3 ⟨⟨xx,hi,ic⟩,hQ,dK⟩
  have hf:=aiT hi
  obtain⟨f,hf⟩:=hf
  rw[hf] at ic
  subst ic
  have aG:=aG.trans dK
  have oW:=Ln f
  refine cm rfl rfl so<|cm rfl rfl so<|zm<|zm<|mJ rfl rfl rfl rfl rfl (kj (d-1) om _ om)<|aC (ih (d-1) om om br (q+1+1) om w3 hQ) ?_
  rintro v20 w4 ⟨⟨A,pw,hA⟩,hQ,uk⟩
  subst pw
  have aG:=aG.trans uk
  have UT:=A.len
  refine cm rfl rfl so<|cm rfl rfl so<|zm<|zm<|mJ rfl rfl rfl rfl rfl (kj (d-1) om _ om)<|aC (ih (d-1) om om br _ om w4 hQ) ?_
  rintro v26 w5 ⟨⟨B,Oh,hB⟩,hQ,aiU⟩
  subst Oh
  have aG:=aG.trans aiU
  have UU:=B.len
  refine cm rfl rfl so<|cm rfl rfl so<|zA<|ag<|aV ?_
  exact⟨_,rfl,⟨.op f A B,by show str (((((([40]++kq f)++[32])++A.text)++[32])++B.text)++[41])=str _;rw[Ty.HX];simp,by show 1+A.n+B.n+1<=_;omega⟩,hQ.more om,aG⟩
def AZ:Ty->aj
 | .i=>[48]
 | .op false a b=>[40,112,97,105,114,32]++AZ a++[32]++AZ b++[41]
 | .op true a b=>[40,102,117,110,32,102,32,120,32]++a.text++[32]++b.text++[32]++AZ b++[41]
theorem A1:∀T:Ty,T.n<=60->(AZ T).length<=500*T.n
 | .i,_=>by simp[AZ,Ty.n]
 | .op false a b,h=>by
  simp only[Ty.n] at h⊢
  have:=A1 a om
  have:=A1 b om
  simp only[AZ,lA,lC,List.length_nil];omega
 | .op true a b,h=>by
  simp only[Ty.n] at h⊢
  have:=A1 b om
  have:=a.len
  have:=b.len
  simp only[AZ,lA,lC,List.length_nil];omega
theorem VQ (T:Ty):T.n<=60->∀(v:Value) (L:List Nat) (w:World),bS L w v T.av->cj Tryz.prog 188 [v] w λr w'=>r=str (AZ T)∧ak [] w w':=by
 induction T with
 |i=>
  intro hn v L w hv
  obtain⟨ar,nr,cr,rfl,p9,bc⟩:=dM hv
  have hK:=ak.refl [] w
  refine cV [.tmp 2] 47 Tryz.func188 rfl Kq rfl rfl ?_
  refine zr<|fE rfl ?_
  intro w1 aK aT dY
  have hK:=hK.ext aK
  refine zA<|ag<|aQ<|zr<|zf dz rfl<|zl ck rfl (aT.at rfl)<|jG rfl rfl rfl rfl<|ag<|zc rfl (λh1=>?_) (λh1=>?_)
  refine zr<|zA<|ag<|aV ?_
  exact⟨_,rfl,rfl,hK⟩
  exact absurd h1 de
 |op f a b iha ihb=>
  intro hn v L w hv
  cases f with
  |false=>
   obtain⟨ar,nr,cr,rfl,p9,bc⟩:=dM hv
   subst p9
   have fH:1+a.n+b.n<=60:=hn
   have FA:=A1 a om
   have Ew:=A1 b om
   have xU:=a.len
   have htb:=b.len
   have VR:=a.size
   have VS:=b.size
   have Ns:(Ty.op false a b).av.au.length=3:=rfl
   obtain⟨b0,Av,xF,xG,e0,ey,_⟩:=fI bc (i:=0) om
   cases e0
   have ey:iZ L w _ _ [str (kq false),.slice xF 0 xG]:=ey
   obtain⟨b1,fY,gX,gY,e1,bC,dd⟩:=fI bc (i:=1) om
   cases e1
   have bC:iZ L w _ _ [str a.av.az,.slice gX a.av.au.length gY]:=bC
   have dd:bS L w (.agg #[str a.av.az,.slice gX a.av.au.length gY]) a.av:=dd
   obtain⟨b2,ni,jb,jc,e2,bX,et⟩:=fI bc (i:=2) om
   cases e2
   have bX:iZ L w _ _ [str b.av.az,.slice jb b.av.au.length jc]:=bX
   have et:bS L w (.agg #[str b.av.az,.slice jb b.av.au.length jc]) b.av:=et
   have hK:=ak.refl [] w
   refine cV [.tmp 2] 47 Tryz.func188 rfl Kq rfl rfl ?_
   refine zr<|fE rfl ?_
   intro w1 aK aT dY
   have hK:=hK.ext aK;have ey:=ey.ext aK;have bC:=bC.ext aK;have bX:=bX.ext aK;have dd:=dd.ext aK;have et:=et.ext aK
   refine zA<|ag<|aQ<|zr<|zf dz rfl<|zl ck rfl (aT.at rfl)<|jG rfl rfl rfl rfl<|ag<|zc rfl (λh1=>?_) (λh1=>?_)
   exact absurd rfl h1
   refine bz<|aQ<|zr<|zf cL rfl<|zl cI rfl (aT.at rfl)<|zi (i:=0) cv aH rfl rfl ((show 0<3 from om))<|zf dz rfl<|zl ck rfl (ey.cells 0 _ rfl)<|cW rfl rfl<|ag<|zc rfl (λh2=>?_) (λh2=>?_)
   refine aQ ?_
   apply mq ei 15 (rA 12 14++[2]) (rA 12 14++[2]) [[],[0],[1],[2],[3],[4],[5],[],[7],[8],[9],[10],[6,11],[12],[13]] [It.v _,It.v _,It.v _,It.v _,It.v _,It.v _,It.v _,It.v _,It.v _,It.v _,It.v _,It.v _,It.v _,It.v _,It.v _] de rfl
   intro wd aB
   refine vc (λ_ _ _=>zf cL rfl pv) ?_
   refine vk aB (λx w2 aq=>?_) ?_
   have aT:=aT.ext aq
   refine zl cI rfl (aT.at rfl) ?_
   exact pv
   refine vk aB (λx w2 aq=>?_) ?_
   refine zi (i:=1) cv aH rfl rfl ((show 1<3 from om)) ?_
   exact pv
   refine vk aB (λx w2 aq=>?_) ?_
   have bC:=bC.ext aq
   refine zL bT aH rfl bC.cells rfl ?_
   exact pv
   refine vk aB (λx w2 aq=>?_) ?_
   have dd:=dd.ext aq
   refine aC (iha om _ _ w2 dd) ?_
   rintro v3 w3 ⟨eh,aJ⟩
   have fZ:=aJ.size
   obtain rfl:=eh
   exact pk aJ
   refine vk aB (λx w2 aq=>?_) ?_
   refine cm rfl rfl so ?_
   exact pv
   refine vk aB (λx w2 aq=>?_) ?_
   refine cm rfl rfl so ?_
   exact pv
   refine vc (λ_ _ _=>zf cL rfl pv) ?_
   refine vk aB (λx w2 aq=>?_) ?_
   have aT:=aT.ext aq
   refine zl cI rfl (aT.at rfl) ?_
   exact pv
   refine vk aB (λx w2 aq=>?_) ?_
   refine zi (i:=2) cv aH rfl rfl ((show 2<3 from om)) ?_
   exact pv
   refine vk aB (λx w2 aq=>?_) ?_
   have bX:=bX.ext aq
   refine zL bT aH rfl bX.cells rfl ?_
   exact pv
   refine vk aB (λx w2 aq=>?_) ?_
   have et:=et.ext aq
   refine aC (ihb om _ _ w2 et) ?_
   rintro v3 w3 ⟨eh,aJ⟩
   have fZ:=aJ.size
   obtain rfl:=eh
   exact pk aJ
   refine vk aB (λx w2 aq=>?_) ?_
   refine cm rfl rfl so ?_
   exact pv
   refine vk aB (λx w2 aq=>?_) ?_
   refine cm rfl rfl so ?_
   exact pv
   refine vc (λ_ _ _=>zA pv) ?_
   exact trivial
   intro x pS iA
   have hK:=hK.ext iA
   change OW _ _ _ _ [] (aM (aN _ x _) (zZ 12 [_,_,_,_,_,_,_,_,_,_,_,_,_,_]++[(2,_)])) _
   refine ag<|aV ?_
   exact⟨_,rfl,rfl,hK⟩
   exact absurd rfl h2
  |true=>
   obtain⟨ar,nr,cr,rfl,p9,bc⟩:=dM hv
   subst p9
   have fH:1+a.n+b.n<=60:=hn
   have FA:=A1 a om
   have Ew:=A1 b om
   have xU:=a.len
   have htb:=b.len
   have VR:=a.size
   have VS:=b.size
   have Ns:(Ty.op true a b).av.au.length=3:=rfl
   obtain⟨b0,Av,xF,xG,e0,ey,_⟩:=fI bc (i:=0) om
   cases e0
   have ey:iZ L w _ _ [str (kq true),.slice xF 0 xG]:=ey
   obtain⟨b1,fY,gX,gY,e1,bC,dd⟩:=fI bc (i:=1) om
   cases e1
   have bC:iZ L w _ _ [str a.av.az,.slice gX a.av.au.length gY]:=bC
   have dd:bS L w (.agg #[str a.av.az,.slice gX a.av.au.length gY]) a.av:=dd
   obtain⟨b2,ni,jb,jc,e2,bX,et⟩:=fI bc (i:=2) om
   cases e2
   have bX:iZ L w _ _ [str b.av.az,.slice jb b.av.au.length jc]:=bX
   have et:bS L w (.agg #[str b.av.az,.slice jb b.av.au.length jc]) b.av:=et
   have hK:=ak.refl [] w
   refine cV [.tmp 2] 47 Tryz.func188 rfl Kq rfl rfl ?_
   refine zr<|fE rfl ?_
   intro w1 aK aT dY
   have hK:=hK.ext aK;have ey:=ey.ext aK;have bC:=bC.ext aK;have bX:=bX.ext aK;have dd:=dd.ext aK;have et:=et.ext aK
   refine zA<|ag<|aQ<|zr<|zf dz rfl<|zl ck rfl (aT.at rfl)<|jG rfl rfl rfl rfl<|ag<|zc rfl (λh1=>?_) (λh1=>?_)
   exact absurd rfl h1
   refine bz<|aQ<|zr<|zf cL rfl<|zl cI rfl (aT.at rfl)<|zi (i:=0) cv aH rfl rfl ((show 0<3 from om))<|zf dz rfl<|zl ck rfl (ey.cells 0 _ rfl)<|cW rfl rfl<|ag<|zc rfl (λh2=>?_) (λh2=>?_)
   exact absurd h2 de
   refine bz<|aQ ?_
   apply mq ei 22 (rA 26 21++[2]) (rA 26 21++[2]) [[],[0],[1],[2],[3],[4],[5],[],[7],[8],[9],[10],[6,11],[12],[],[14],[15],[16],[17],[13,18],[19],[20]] [It.v _,It.v _,It.v _,It.v _,It.v _,It.v _,It.v _,It.v _,It.v _,It.v _,It.v _,It.v _,It.v _,It.v _,It.v _,It.v _,It.v _,It.v _,It.v _,It.v _,It.v _,It.v _] de rfl
   intro wd aB
   refine vc (λ_ _ _=>zf cL rfl pv) ?_
   refine vk aB (λx w2 aq=>?_) ?_
   have aT:=aT.ext aq
   refine zl cI rfl (aT.at rfl) ?_
   exact pv
   refine vk aB (λx w2 aq=>?_) ?_
   refine zi (i:=1) cv aH rfl rfl ((show 1<3 from om)) ?_
   exact pv
   refine vk aB (λx w2 aq=>?_) ?_
   have bC:=bC.ext aq
   refine zL bT aH rfl bC.cells rfl ?_
   exact pv
   refine vk aB (λx w2 aq=>?_) ?_
   have dd:=dd.ext aq
   refine aC (tx a.av.size a.av (lR _) a.oC.wf om (show a.text.length<=100000000 from om) _ _ w2 dd) ?_
   rintro v3 w3 ⟨eh,aJ⟩
   have fZ:=aJ.size
   obtain rfl:=eh
   exact pk aJ
   refine vk aB (λx w2 aq=>?_) ?_
   refine cm rfl rfl (by have h9:a.av.text.length=a.text.length:=rfl;simp;omega) ?_
   exact pv
   refine vk aB (λx w2 aq=>?_) ?_
   refine cm rfl rfl (by have h9:a.av.text.length=a.text.length:=rfl;simp;omega) ?_
   exact pv
   refine vc (λ_ _ _=>zf cL rfl pv) ?_
   refine vk aB (λx w2 aq=>?_) ?_
   have aT:=aT.ext aq
   refine zl cI rfl (aT.at rfl) ?_
   exact pv
   refine vk aB (λx w2 aq=>?_) ?_
   refine zi (i:=2) cv aH rfl rfl ((show 2<3 from om)) ?_
   exact pv
   refine vk aB (λx w2 aq=>?_) ?_
   have bX:=bX.ext aq
   refine zL bT aH rfl bX.cells rfl ?_
   exact pv
   refine vk aB (λx w2 aq=>?_) ?_
   have et:=et.ext aq
   refine aC (tx b.av.size b.av (lR _) b.oC.wf om (show b.text.length<=100000000 from om) _ _ w2 et) ?_
   rintro v3 w3 ⟨eh,aJ⟩
   have fZ:=aJ.size
   obtain rfl:=eh
   exact pk aJ
   refine vk aB (λx w2 aq=>?_) ?_
   refine cm rfl rfl (by have h9:a.av.text.length=a.text.length:=rfl;have gF:b.av.text.length=b.text.length:=rfl;simp;omega) ?_
   exact pv
   refine vk aB (λx w2 aq=>?_) ?_
   refine cm rfl rfl (by have h9:a.av.text.length=a.text.length:=rfl;have gF:b.av.text.length=b.text.length:=rfl;simp;omega) ?_
   exact pv
   refine vc (λ_ _ _=>zf cL rfl pv) ?_
   refine vk aB (λx w2 aq=>?_) ?_
   have aT:=aT.ext aq
   refine zl cI rfl (aT.at rfl) ?_
   exact pv
   refine vk aB (λx w2 aq=>?_) ?_
   refine zi (i:=2) cv aH rfl rfl ((show 2<3 from om)) ?_
   exact pv
   refine vk aB (λx w2 aq=>?_) ?_
   have bX:=bX.ext aq
   refine zL bT aH rfl bX.cells rfl ?_
   exact pv
   refine vk aB (λx w2 aq=>?_) ?_
   have et:=et.ext aq
   refine aC (ihb om _ _ w2 et) ?_
   rintro v3 w3 ⟨eh,aJ⟩
   have fZ:=aJ.size
   obtain rfl:=eh
   exact pk aJ
   refine vk aB (λx w2 aq=>?_) ?_
   refine cm rfl rfl (by have h9:a.av.text.length=a.text.length:=rfl;have gF:b.av.text.length=b.text.length:=rfl;simp;omega) ?_
   exact pv
   refine vk aB (λx w2 aq=>?_) ?_
   refine cm rfl rfl (by have h9:a.av.text.length=a.text.length:=rfl;have gF:b.av.text.length=b.text.length:=rfl;simp;omega) ?_
   exact pv
   refine vc (λ_ _ _=>zA pv) ?_
   exact trivial
   intro x pS iA
   have hK:=hK.ext iA
   change OW _ _ _ _ [] (aM (aN _ x _) (zZ 26 [_,_,_,_,_,_,_,_,_,_,_,_,_,_,_,_,_,_,_,_,_]++[(2,_)])) _
   refine ag<|aV ?_
   exact⟨_,rfl,rfl,hK⟩
def OD:List aj:=[[40,43,32,120,56,32,40,99,97,108,108,32,102,56,32,40,45,32,120,56,32,49,41,41,41],[40,99,97,108,108,32,102,56,32,40,45,32,120,56,32,49,41,41],[40,42,32,120,56,32,40,99,97,108,108,32,102,56,32,40,45,32,120,56,32,49,41,41,41],[40,45,32,48,32,40,99,97,108,108,32,102,56,32,40,45,32,120,56,32,49,41,41,41]]
theorem aiW (br q:Nat) (hq:q<=900000000) (w:World) (h:dW w br q):
  cj Tryz.prog 117 [.pointer (some ⟨br,0,none⟩)] w λr w'=>(∃x,r=str x∧x.length<=200)∧dW w' br (q+3)∧ak [br] w w':=by
 have hQ:=h
 have aG:=ak.refl [br] w
 have oq:=h.lt
 refine cV [.tmp 2] 20 Tryz.func117 rfl XQ rfl rfl ?_
 refine zr<|zA<|ag<|zr<|zm<|xX bh bA rfl rfl rfl rfl rfl rfl ?_
 intro w1 aK bP dY
 have hQ:=hQ.ext aK;have aG:=aG.ext aK
 refine aC (ml OD de de br q om _ w1 hQ (aY.eD OD bP (λhx=>by simp at hx;omega) de)) ?_
 rintro lx w2 ⟨⟨x1,hi,ic⟩,hQ,dK⟩
 subst ic
 have aG:=aG.trans dK
 have gd:=(show∀x,x∈OD->x.length<=30 from by decide) _ hi
 have oq:=hQ.lt
 clear bP
 refine zA<|ag<|zr<|zm<|pO bh bA rfl rfl rfl rfl rfl ?_
 intro w3 aJ dv iH
 have hQ:=hQ.ext aJ;have aG:=aG.ext aJ
 refine aC (ml [[48],[49],[53]] de de br (q+1) om _ w3 hQ (aY.eD [[48],[49],[53]] dv (λhx=>by simp at hx;omega))) ?_
 rintro vm w4 ⟨⟨x2,hj,D3⟩,hQ,jE⟩
 subst D3
 have aG:=aG.trans jE
 have iY:=(show∀x,x∈([[48],[49],[53]]:List aj)->x.length<=30 from by decide) _ hj
 clear dv
 refine cm rfl rfl so<|cm rfl rfl so<|zm<|cm rfl rfl so<|cm rfl rfl so<|zm<|aC (mF 7 de de br (q+2) om w4 hQ) ?_
 rintro yj w5 ⟨⟨z,AQ,hz⟩,hQ,kX⟩
 subst AQ
 have aG:=aG.trans kX
 have EH:=sL (n:=z) om
 refine aC (iM (z+1) z om om w5) ?_
 rintro v6 w6 ⟨lu,bF⟩
 have oM:=bF.size
 have hQ:=hQ.ext bF;have aG:=aG.ext bF
 obtain rfl:=lu
 refine cm rfl rfl so<|cm rfl rfl so<|zA<|ag<|aV ?_
 exact⟨_,rfl,⟨_,rfl,by simp;omega⟩,hQ,aG⟩
theorem VT (s:aj) (w:World):cj Tryz.prog 156 [str s] w λr w'=>(∃x ok,r= .tuple #[str x,.bool ok]∧x.length<=8000)∧ak [] w w':=by
 have hK:=ak.refl [] w
 refine cV [.tmp 2,.tmp 3] 26 Tryz.func156 rfl Yo rfl rfl ?_
 refine zr<|zA<|zA<|ag<|zr<|zm<|aC (zB s [] w sm) ?_
 rintro v1 w1 ⟨fM,aK⟩
 have dQ:=aK.size
 have hK:=hK.ext aK
 have eR:=fM
 obtain⟨t,tv,e9,ht,hp⟩:=eR
 subst e9
 have cJ:=dM ht
 obtain⟨pa,pn,pc,e9,fP,_⟩:=cJ
 subst e9
 subst fP
 have nk:=hK.size
 refine zm<|zx (i:=0) rfl rfl<|zx (i:=1) rfl rfl<|eA aH rfl rfl rfl ?_
 intro w2 aq aI iS
 have dk:=aq
 refine du (vs:=[str t.az,.slice pa t.au.length pc]) aH rfl rfl rfl aI rfl ?_
 intro w3 aJ aI dN
 have dk:=dk.since aJ (λx hx=>.inr (by simp at hx;omega))
 have ht:=ht.ext dk;have hK:=hK.ext dk
 refine zA<|ag<|aQ<|zr<|zm<|eJ rfl<|zm<|xo (t:=13) rfl (λh1=>?_) (λh1=>?_)
 replace h1:=bw h1
 refine zs<|zs<|zs<|zp rfl<|zm<|EF (t:=18) (b:=true) rfl<|zs<|zs<|zs<|zs<|zp rfl<|ag<|zc rfl (λh2=>?_) (λh2=>?_)
 refine zr<|zA<|zA<|ag<|aV ?_
 exact⟨_,rfl,⟨[],false,rfl,sm⟩,hK⟩
 simp at h2
 replace h1:=bw h1
 have bD:(ba s).isSome=true:=(by simpa using h1)
 have dx:=Dp hp bD
 refine zL bT aH rfl aI.all rfl<|aC (Au t om dx.1 _ _ w3 ht) ?_
 rintro v4 w4 ⟨eH,aF⟩
 have gI:=aF.size
 have hK:=hK.ext aF;have aI:=aI.ext aF;have ht:=ht.ext aF
 obtain rfl:=eH
 refine eJ rfl<|zp rfl<|zm<|xo (t:=18) rfl (λh3=>?_) (λh3=>?_)
 replace h3:=bw h3
 refine zs<|zs<|zs<|zs<|zp rfl<|ag<|zc rfl (λh4=>?_) (λh4=>?_)
 refine zr<|zA<|zA<|ag<|aV ?_
 exact⟨_,rfl,⟨[],false,rfl,sm⟩,hK⟩
 simp at h4
 replace h3:=bw h3
 have fC:kr t=true:=(by simpa using h3)
 have hu:=(xL dx.1).1 fC
 obtain⟨T,DG,Ha⟩:=hu
 have pR:=ht
 rw[DG] at pR
 refine zL bT aH rfl aI.all rfl<|aC (VQ T om _ _ w4 (ht.eq DG)) ?_
 rintro v5 w5 ⟨lk,aU⟩
 have pD:=aU.size
 have hK:=hK.ext aU;have aI:=aI.ext aU;have ht:=ht.ext aU
 obtain rfl:=lk
 have CV:=A1 T om
 refine aC (MC _ w5) ?_
 rintro v6 w6 ⟨lu,bF⟩
 have oM:=bF.size
 have hK:=hK.ext bF;have aI:=aI.ext bF;have ht:=ht.ext bF
 obtain rfl:=lu
 refine eJ rfl<|zp rfl<|ag<|zc rfl (λh5=>?_) (λh5=>?_)
 refine zr<|zA<|zA<|ag<|aV ?_
 exact⟨_,rfl,⟨[],false,rfl,sm⟩,hK⟩
 refine bz<|zr<|zL bT aH rfl aI.all rfl<|aC (VQ T om _ _ w6 (ht.eq DG)) ?_
 rintro v7 w7 ⟨iT,cw⟩
 have pb:=cw.size
 have hK:=hK.ext cw
 obtain rfl:=iT
 refine zA<|zA<|ag<|aV ?_
 exact⟨_,rfl,⟨_,true,rfl,om⟩,hK⟩
theorem aiX:tj Tryz.prog 104=true:=by kernel_rfl
theorem JT (ns ts:List aj) (nm kd:aj) (gd:ns.length<100000) (iY:ts.length<100000) (v1 v2:Value) (L:List Nat) (w:World) (hL:∀x,x∈L->x<w.heap.size) (h1:bI L w v1 ns) (h2:bI L w v2 ts):
  cj Tryz.prog 116 [.agg #[v1,v2],str nm,str kd] w λr w'=>(∃u1 u2,r= .agg #[u1,u2]∧bI L w' u1 (ns++[nm])∧bI L w' u2 (ts++[kd]))∧ak [] w w':=by
 obtain⟨a1,n1,c1,rfl,_⟩:=eN h1
 obtain⟨a2,n2,c2,rfl,_⟩:=eN h2
 have hK:=ak.refl [] w
 refine lF [.cell 6 104] 18 Tryz.func116 rfl XP rfl rfl rfl ?_
 refine zr<|fE rfl ?_
 intro w1 aK bR dY
 have hK:=hK.ext aK;have h1:=h1.ext aK;have h2:=h2.ext aK
 refine eA kP rfl rfl rfl ?_
 intro w2 aq bQ lG
 have hK:=hK.ext aq
 have h1:=(bI.fresh h1 (L':=w1.heap.size::L) (λx hx=>by rcases mC.1 hx with h9|h9;(·right;omega);(·exact .inl h9))).ext aq
 have h2:=(bI.fresh h2 (L':=w1.heap.size::L) (λx hx=>by rcases mC.1 hx with h9|h9;(·right;omega);(·exact .inl h9))).ext aq
 have JU:∀x,x∈w1.heap.size::L->x<w2.heap.size:=(λx hx=>by rcases mC.1 hx with h9|h9;(·omega);(·have:=hL x h9;omega))
 have bR:=bR.ext aq
 have jB:=hK.size
 refine ag<|aQ ?_
 apply wv ei 11 (rA 7 11) (rA 7 11) [[],[0],[],[2],[1,3],[],[5],[],[7],[6,8],[4,9]] [It.v _,It.v _,It.v _,It.p (fun(v:Value) (ww:World)=>bI (w1.heap.size::L) ww v [nm]),It.p (fun(v:Value) (ww:World)=>bI (w1.heap.size::L) ww v (ns++[nm])),It.v _,It.v _,It.v _,It.p (fun(v:Value) (ww:World)=>bI (w1.heap.size::L) ww v [kd]),It.p (fun(v:Value) (ww:World)=>bI (w1.heap.size::L) ww v (ts++[kd])),It.p (fun(v:Value) (ww:World)=>∃b1 m1 d1 b2 m2 d2,v= .agg #[.slice b1 m1 d1,.slice b2 m2 d2]∧bI (w1.heap.size::L) ww (.slice b1 m1 d1) (ns++[nm])∧bI (w1.heap.size::L) ww (.slice b2 m2 d2) (ts++[kd]))] de (by exact⟨λv w w' h k=>cD.ext h k,λv w w' h k=>cD.ext h k,λv w w' h k=>cD.ext h k,λv w w' h k=>cD.ext h k,λv w w' ⟨b1,m1,d1,b2,m2,d2,e,g1,g2⟩ k=>⟨b1,m1,d1,b2,m2,d2,e,cD.ext g1 k,cD.ext g2 k⟩,trivial⟩)
 intro wd aB
 refine vc (λ_ _ _=>zf EW rfl pv) ?_
 refine vk aB (λx w3 aJ=>?_) ?_
 have bR:=bR.ext aJ
 refine zl eQ rfl (bR.at rfl) ?_
 exact pv
 refine eI ?_
 refine vk aB (λx w3 aJ=>?_) ?_
 refine gD bh bA rfl rfl ?_
 intro w4 aF ox iS
 exact pf aF ((aY.eD [nm] ox (λhx=>by have:=JU _ hx;have:=aJ.size;omega)))
 refine vk aB (λx w3 aJ=>?_) ?_
 have h1:=h1.ext aJ
 intro v3 d3
 refine aC (tP ns [nm] so _ _ (w1.heap.size::L) w3 h1 d3 (λx hx=>by have:=JU x hx;have:=aJ.size;omega)) ?_
 rintro v4 w4 ⟨eH,aF⟩
 have gI:=aF.size
 have eR:=eH
 exact pf aF eR
 refine vc (λ_ _ _=>zf PL rfl pv) ?_
 refine vk aB (λx w3 aJ=>?_) ?_
 have bR:=bR.ext aJ
 refine zl eQ rfl (bR.at rfl) ?_
 exact pv
 refine eI ?_
 refine vk aB (λx w3 aJ=>?_) ?_
 refine gD bh bA rfl rfl ?_
 intro w4 aF IQ iS
 exact pf aF ((aY.eD [kd] IQ (λhx=>by have:=JU _ hx;have:=aJ.size;omega)))
 refine vk aB (λx w3 aJ=>?_) ?_
 have h2:=h2.ext aJ
 intro v8 d8
 refine aC (tP ts [kd] so _ _ (w1.heap.size::L) w3 h2 d8 (λx hx=>by have:=JU x hx;have:=aJ.size;omega)) ?_
 rintro v4 w4 ⟨eH,aF⟩
 have gI:=aF.size
 have eR:=eH
 exact pf aF eR
 refine vk aB (λx w3 aJ=>?_) ?_
 intro v4 d4
 intro v9 d9
 have bC:=eN d4
 obtain⟨b1,m1,d1,e1,_⟩:=bC
 subst e1
 have bX:=eN d9
 obtain⟨b2,m2,d2,e2,_⟩:=bX
 subst e2
 refine j5 (Kr _ _ _ _ _ _ _) rfl rfl ?_
 exact pf (ak.refl _ _) (⟨_,_,_,_,_,_,rfl,d4,d9⟩)
 exact trivial
 intro x qw tV
 intro v3 d3
 intro v4 d4
 intro v8 d8
 intro v9 d9
 intro v10 d10
 have hK:=hK.ext tV;have bQ:=bQ.ext tV
 change OW _ _ _ _ _ (aM (aN _ x _) (zZ 7 [_,_,_,_,_,_,_,_,_,_,_])) _
 obtain⟨b1,m1,d1,b2,m2,d2,gq,g1,g2⟩:=d10
 subst gq
 refine du (vs:=[.slice b1 m1 d1,.slice b2 m2 d2]) kP rfl rfl rfl bQ rfl ?_
 intro nN lI bQ dN
 have hK:=hK.since lI (λx hx=>.inr (by simp at hx;omega))
 have g1:bI L nN _ (ns++[nm]):=(cD.aL g1 lI sm).fresh (λx hx=>.inl (by simp[hx]))
 have g2:bI L nN _ (ts++[kd]):=(cD.aL g2 lI sm).fresh (λx hx=>.inl (by simp[hx]))
 refine ag<|aV ?_
 exact⟨[_],gO aiX kP rfl bQ rfl,⟨_,_,rfl,g1,g2⟩,hK⟩
def Ey:List aj:=[[48],[49],[50],[51],[55],[45,49],[52,48,48],[45,57,57,57]]
set_option maxHeartbeats 4000000 in
theorem OE (ns ts:List aj) (want:aj) (hl:ns.length=ts.length) (D1:ns.length<=1000) (hs:∀x,x∈ns->x.length<=8000) (br q:Nat) (hq:q<=900000000) (v1 v2:Value) (w:World) (h:dW w br q) (cU:bI [br] w v1 ns) (cS:bI [br] w v2 ts):
  cj Tryz.prog 115 [.pointer (some ⟨br,0,none⟩),.agg #[v1,v2],str want] w λr w'=>(∃x,r=str x∧x.length<=8000)∧dW w' br (q+2)∧ak [br] w w':=by
 obtain⟨a1,n1,c1,rfl,fS⟩:=eN cU
 obtain⟨a2,n2,c2,rfl,fH⟩:=eN cS
 subst fS
 have iE:=h.lt
 have hK:=ak.refl [] w
 refine cV [.tmp 6] 67 Tryz.func115 rfl XO rfl rfl ?_
 refine zr<|fE rfl ?_
 intro w1 aK aI dY
 have cU:=cU.ext aK;have cS:=cS.ext aK;have hK:=hK.ext aK;have h:=h.ext aK
 refine zA<|ag<|zr<|gN bh bA ?_
 intro w2 aq iC uC
 have aK:=aq
 have aiY:=iC.lp
 have an8:=hK.size
 refine zA<|ag<|aQ<|zr<|zA<|ag<|cQ ?_
 refine fW (λq9:Nat×Value×Option Nat=>[(0,.pointer (some ⟨br,0,none⟩)),(2,str want),(4,.pointer (some ⟨w.heap.size,0,none⟩)),(7,q9.2.1),(8,.int .i64 (q9.1:Int))]) (λq9 w'=>ak [] w1 w'∧q9.1<=ns.length∧∃xs,dh w' 9 q9.2.1 q9.2.2 xs∧(∀x,x∈xs->x∈ns)∧xs.length<=q9.1∧∀b,q9.2.2=some b->w1.heap.size<=b) (λq9=>ns.length-q9.1) ((0,.slice (some ⟨w1.heap.size,0,none⟩) 0 0,some w1.heap.size)) (⟨rfl,rfl,rfl,rfl,rfl⟩) (⟨aK,sm,[],aiY,sm,sm,by intro b hb;cases hb;exact lR _⟩) ?_
 intro gg w3 e3 hI
 obtain⟨k,vf,gf⟩:=gg
 obtain⟨dk,hk,xs,hO,yN,mI,gH⟩:=hI
 dsimp only at hk hO mI gH
 have cU:=cU.ext dk;have cS:=cS.ext dk;have hK:=hK.ext dk;have h:=h.ext dk;have aI:=aI.ext dk
 refine aQ<|zr<|zm<|zf EW rfl<|zl eQ rfl (aI.at rfl)<|dX bh rfl<|fy rfl rfl rfl<|ag<|zc rfl (λh1=>?_) (λh1=>?_)
 have aq:k<ns.length:=(by simp at h1;omega)
 have ga:=og cU aq
 obtain⟨b9,oh,e9,gk⟩:=ga
 cases e9
 have rS:=List.mem_of_getElem? (ll aq)
 refine bz<|aQ<|cQ<|aQ ?_
 apply mq ei 12 (rA 19 12) (rA 19 12) [[],[0],[],[2],[],[4],[],[5,6],[7],[1,3,8],[],[9,10]] [It.v _,It.v _,It.v _,It.v _,It.v _,It.v _,It.v _,It.v _,It.v _,It.v _,It.v _,It.v _] de rfl
 intro wd aB
 refine vc (λ_ _ _=>zf EW rfl pv) ?_
 refine vk aB (λx w4 aF=>?_) ?_
 have aI:=aI.ext aF
 refine zl eQ rfl (aI.at rfl) ?_
 exact pv
 refine vc (λ_ _ _=>zf PL rfl pv) ?_
 refine vk aB (λx w4 aF=>?_) ?_
 have aI:=aI.ext aF
 refine zl eQ rfl (aI.at rfl) ?_
 exact pv
 refine vc (λ_ _ _=>zf EW rfl pv) ?_
 refine vk aB (λx w4 aF=>?_) ?_
 have aI:=aI.ext aF
 refine zl eQ rfl (aI.at rfl) ?_
 exact pv
 refine eI ?_
 refine vk aB (λx w4 aF=>?_) ?_
 refine zi bh bA rfl rfl aq ?_
 exact pv
 refine vk aB (λx w4 aF=>?_) ?_
 have gk:=gk.ext aF
 refine zl ck rfl (gk.cells 0 _ rfl) ?_
 exact pv
 refine vk aB (λx w4 aF=>?_) ?_
 have cU:=cU.ext aF;have cS:=cS.ext aF
 refine aC (FV ns ts hl om (aD ns k) _ _ _ _ w4 cU cS) ?_
 rintro v5 w5 ⟨lk,aU⟩
 have pD:=aU.size
 obtain rfl:=lk
 exact pk aU
 refine eI ?_
 refine vk aB (λx w4 aF=>?_) ?_
 refine cW rfl rfl ?_
 exact pv
 exact trivial
 intro x nN lI
 have aI:=aI.ext lI;have hO:=hO.ext lI;have dk:=dk.ext lI;have gk:=gk.ext lI
 change OW _ _ _ _ [] (aM (aN _ x _) (zZ 19 [_,_,_,_,_,_,_,_,_,_,_,_])) _
 refine ag<|zc rfl (λh2=>?_) (λh2=>?_)
 refine db<|zm<|zf EW rfl<|zl eQ rfl (aI.at rfl)<|zm<|zi bh bA rfl rfl aq<|zl ck rfl (gk.cells 0 _ rfl)<|gD bh bA rfl rfl ?_
 intro pW jR JC aiZ
 have hO:=hO.ext jR;have dk:=dk.ext jR
 refine rZ bh bA rfl rfl rfl rfl rfl rfl hO JC om ?_
 intro v9 g9 pQ dJ wF fL
 have VU:=dk.size
 have dk:=dk.since wF (λx hx=>.inr (gH x (by simpa using hx)))
 have an9:=dk.size
 refine zA<|ag<|db<|zm<|eF rfl rfl rfl (kj (k+1) om _ om)<|zA<|ag ?_
 exact⟨(k+1,v9,g9),⟨rfl,rfl,rfl,rfl,rfl⟩,⟨dk,by show k+1<=_;omega,xs++[aD ns k],dJ,λx hx=>by rcases mA.1 hx with h9|h9;(·exact yN x h9);(·simp only[List.mem_singleton] at h9;rw[h9];exact rS),by show(xs++[aD ns k]).length<=k+1;rw[lA];simp;omega,λb hb=>by rcases fL with h9|h9;(·exact gH b (h9.symm.trans hb));(·rw[h9] at hb;cases hb;omega)⟩,by show ns.length-(k+1)<ns.length-k;omega⟩
 refine bz<|db<|zm<|eF rfl rfl rfl (kj (k+1) om _ om)<|zA<|ag ?_
 exact⟨(k+1,_,gf),⟨rfl,rfl,rfl,rfl,rfl⟩,⟨dk,by show k+1<=_;omega,xs,hO,yN,by show xs.length<=k+1;omega,gH⟩,by show ns.length-(k+1)<ns.length-k;omega⟩
 have cJ:=kt hO
 obtain⟨af,cf,ef⟩:=cJ
 subst ef
 have aG:=hK.mono (L':=[br]) sm
 have ai0:=hK.size
 have DV:∀b,gf=some b->w.heap.size<=b:=(λb hb=>by have:=gH b hb;omega)
 refine gB<|gC rfl<|aQ<|zr<|zm<|dX bh rfl<|jx rfl rfl rfl rfl rfl<|zm<|xo (t:=42) rfl (λh3=>?_) (λh3=>?_)
 replace h3:=bw h3
 have kQ:0<xs.length:=(by simp at h3;omega)
 refine zm<|aC (mF 4 de de br q om w3 h) ?_
 rintro v44 w4 ⟨⟨z,e44,hz⟩,h,jR⟩
 subst e44
 have aG:=aG.trans jR
 have hO:=hO.aO jR (λb hb aZ=>by have:=DV b hb;simp at aZ;omega)
 have ai0:=aG.size
 refine jx rfl rfl rfl rfl rfl<|zp rfl<|ag<|zc rfl (λh4=>?_) (λh4=>?_)
 refine zr<|zm<|zm<|zm<|dX bh rfl<|aC (mF xs.length kQ om br (q+1) om w4 h) ?_
 rintro v51 w5 ⟨⟨z2,Oe,eM⟩,h,ly⟩
 subst Oe
 have aG:=aG.trans ly
 have hO:=hO.aO ly (λb hb aZ=>by have:=DV b hb;simp at aZ;omega)
 have ga:=og hO.rs eM
 obtain⟨b9,oh,e9,gk⟩:=ga
 cases e9
 have rS:=yN _ (List.mem_of_getElem? (ll eM))
 refine zi bh bA rfl rfl eM<|zl ck rfl (gk.cells 0 _ rfl)<|zA<|ag<|aV ?_
 exact⟨_,rfl,⟨_,rfl,hs _ rS⟩,h,aG⟩
 refine bz<|aQ<|zr<|zm<|cW rfl rfl<|ag<|zc rfl (λh5=>?_) (λh5=>?_)
 refine zr<|zm<|So bh bA rfl rfl rfl rfl rfl rfl rfl rfl rfl rfl ?_
 intro w5 aU OF jo
 have h:=h.ext aU;have aG:=aG.ext aU
 refine aC (ml Ey de de br (q+1) om _ w5 h (aY.eD Ey OF (λhx=>by simp at hx;omega) de)) ?_
 rintro Jg w6 ⟨⟨x1,iK,Eo⟩,h,CP⟩
 subst Eo
 have aG:=(aG).trans CP
 have gd:=(show∀x,x∈Ey->x.length<=8000 from by decide) _ iK
 refine zA<|ag<|aV ?_
 exact⟨_,rfl,⟨x1,rfl,gd⟩,h.more om,aG⟩
 refine bz<|zr<|zm<|aC (VT want w4) ?_
 rintro v5 w5 ⟨lk,aU⟩
 have pD:=aU.size
 have h:=h.ext aU;have aG:=aG.ext aU
 have eR:=lk
 obtain⟨x1,ok1,GZ,gd⟩:=eR
 subst GZ
 refine zm<|zx (i:=0) rfl rfl<|zx (i:=1) rfl rfl<|zA<|zA<|ag<|aQ<|zr<|zm<|eJ rfl<|ag<|zc rfl (λh6=>?_) (λh6=>?_)
 refine zr<|zA<|ag<|aV ?_
 exact⟨_,rfl,⟨[48],rfl,by decide⟩,h.more om,aG⟩
 refine bz<|zr<|zm<|zA<|ag<|aV ?_
 exact⟨_,rfl,⟨x1,rfl,gd⟩,h.more om,aG⟩
 replace h3:=bw h3
 have kQ:xs.length=0:=om
 refine zs<|zs<|zs<|zp rfl<|ag<|zc rfl (λh7=>?_) (λh7=>?_)
 simp at h7
 refine bz<|aQ<|zr<|zm<|cW rfl rfl<|ag<|zc rfl (λh8=>?_) (λh8=>?_)
 refine zr<|zm<|So bh bA rfl rfl rfl rfl rfl rfl rfl rfl rfl rfl ?_
 intro w4 aF OF iS
 have hK:=hK.ext aF;have h:=h.ext aF
 refine aC (ml Ey de de br q om _ w4 h (aY.eD Ey OF (λhx=>by simp at hx;omega) de)) ?_
 rintro Jg w5 ⟨⟨x1,iK,Eo⟩,h,CP⟩
 subst Eo
 have aG:=((hK.mono (L':=[br]) sm)).trans CP
 have gd:=(show∀x,x∈Ey->x.length<=8000 from by decide) _ iK
 refine zA<|ag<|aV ?_
 exact⟨_,rfl,⟨x1,rfl,gd⟩,h.more om,aG⟩
 refine bz<|zr<|zm<|aC (VT want w3) ?_
 rintro v4 w4 ⟨eH,aF⟩
 have gI:=aF.size
 have hK:=hK.ext aF;have h:=h.ext aF
 have eR:=eH
 obtain⟨x1,ok1,GZ,gd⟩:=eR
 subst GZ
 refine zm<|zx (i:=0) rfl rfl<|zx (i:=1) rfl rfl<|zA<|zA<|ag<|aQ<|zr<|zm<|eJ rfl<|ag<|zc rfl (λh9=>?_) (λh9=>?_)
 refine zr<|zA<|ag<|aV ?_
 exact⟨_,rfl,⟨[48],rfl,by decide⟩,h.more om,(hK.mono (L':=[br]) sm)⟩
 refine bz<|zr<|zm<|zA<|ag<|aV ?_
 exact⟨_,rfl,⟨x1,rfl,gd⟩,h.more om,(hK.mono (L':=[br]) sm)⟩
end Go.Proofs.YtigijcjccmdmhaaGreatDoor
