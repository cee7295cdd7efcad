/- Lemmas for the law FnProgram, no statement of their own: no conditions. -/
import Derived.Test.YtigijcjccmdmhaaGreatDoorGd
namespace Go.Proofs.YtigijcjccmdmhaaGreatDoor
open Go
variable {m:Mk} {s:da} {b c i k n off q sz x:Nat} {E G L L1:List Nat} {w w' w1 w2:World} {o:Bool} {P0:aj} {e f:Ex} {v:Value} {P:Pk} {vs:List Value} {T:Ty} {t:Tk} {rows:List (List C)} {bs:List Bk}
theorem af8 {a:aj} (h:eP a=true):cG m s a=(m,kT s a):=by unfold cG;rw[iP h]
theorem Cq (m:Mk) (k:aj):(m.dH k).code.length=m.code.length:=rfl
theorem py (m:Mk) (h:aj) (ps:List aj):(m.cY h ps).code.length=m.code.length+1:=by simp[Mk.cY]
def AT (s:da) (aX:List aj) (k:Nat):List aj:=(aX.take k).map λx=>bf (kT s x)
def yD (s:da) (aX:List aj) (k:Nat):List aj:=(aX.take k).map λx=>bL (kE s x)
theorem af9 {aX:List aj} (h:k<aX.length):AT s aX (k+1)=AT s aX k++[bf (kT s (aF aX k))]:=by
 unfold AT;rw[List.take_add_one,lj h];simp
theorem aga {aX:List aj} (h:k<aX.length):yD s aX (k+1)=yD s aX k++[bL (kE s (aF aX k))]:=by
 unfold yD;rw[List.take_add_one,lj h];simp
theorem agb {s:da} {aX:List aj}:(AT s aX k).length<=aX.length:=by unfold AT;rw[List.length_map,List.length_take];omega
theorem agc {s:da} {aX:List aj}:(yD s aX k).length<=aX.length:=by unfold yD;rw[List.length_map,List.length_take];omega
theorem agd (s:da) (aX:List aj):AT s aX aX.length=aX.map λx=>bf (kT s x):=by simp[AT]
theorem age (s:da) (aX:List aj):yD s aX aX.length=aX.map λx=>bL (kE s x):=by simp[yD]
theorem NF {x:aj} (h:(look (fj s) x).isSome=true):oc (ka s) (o9 s) x [] (ka s).length=(kE s x).text:=by
 have h1:=Tw x (fj s)
 rw[UC,UD,Mn h] at h1
 have e:(fj s).length=(ka s).length:=by simp[fj,ka]
 rw[e] at h1
 exact h1
theorem gU.s0 {τ:sH} {vb vt vc vy:Value} {gb gt gc gy:Option Nat} (h:gU τ E L w b o vb vt vc vy gb gt gc gy m) (k:ak G w w') (hG:∀y,y∈G->y∈b::E) (hx:w.heap.size<=x) (uK:x<w'.heap.size):gU τ (x::E) (x::L) w' b o vb vt vc vy gb gt gc gy m:=by
 obtain⟨a1,a2,a3,a4,a5,a6⟩:=h.apart
 have rR:∀x,x∈G->x∈L:=λx hx=>h.mem.2 (by rcases mC.1 (hG x hx) with h1|h1<;>simp[h1])
 have hF:Fr L w (x::L) w':=⟨k.mono rR,λy hy=>by
  rcases mC.1 hy with rfl|hy
  ·exact .inr hx
  ·exact .inl hy⟩
 have out:∀x,x∉E->x≠b->x∉G:=λx h1 h2 h3=>by
  rcases mC.1 (hG x h3) with h4|h4
  ·exact h2 h4
  ·exact h1 h4
 refine⟨h.bl.aO hF k (λx hx=>out x (a3 x hx).1 (a3 x hx).2),h.ta.aO hF k (λx hx=>out x (a4 x hx).1 (a4 x hx).2.1),?_,h.ty.aO k (λx hx=>out x (a6 x (by simp[hx])).1 (a6 x (by simp[hx])).2.1),by rw[h.eL];rfl,List.nodup_cons.2 ⟨λh2=>by have:=h.cZ _ h2;omega,h.nd⟩,λy hy=>?_⟩
 ·rcases h.co with⟨ho,h1⟩|⟨ho,hn,h1⟩
  ·exact .inl ⟨ho,h1.aO k λx hx=>out x (a5 x (by simp[hx])).1 (a5 x (by simp[hx])).2.1⟩
  ·exact .inr ⟨ho,hn,h1.go hF⟩
 ·rcases mC.1 hy with rfl|hy
  ·exact uK
  ·exact lL (h.cZ y hy) k.size
theorem ei.s0 {τ:sH} (h:ei τ E L w b o m) (k:ak G w w') (hG:∀y,y∈G->y∈E) (hx:w.heap.size<=x) (uK:x<w'.heap.size):ei τ (x::E) (x::L) w' b o m:=by
 obtain⟨vb,vt,vc,vy,gb,gt,gc,gy,h1,h2⟩:=h
 exact⟨vb,vt,vc,vy,gb,gt,gc,gy,h1.aO k (λhx=>h2.apart.2.1 (hG b hx)),h2.s0 k (λx hx=>mK _ (hG x hx)) hx uK⟩
theorem ei.UH {τ:sH}:∀{X L:List Nat},ei τ (X++E) L w b o m->∃L',L=X++L'∧ei τ E L' w b o m
 |[],L,h=>⟨L,rfl,h⟩
 |x::X,L,h=>by
  obtain⟨L1,e1,h1⟩:=ei.drop (E:=X++E) h
  obtain⟨L2,e2,h2⟩:=ei.UH h1
  exact⟨L2,by rw[e1,e2];rfl,h2⟩
theorem ei.nd {τ:sH} (h:ei τ E L w b o m):L.Nodup:=by
 obtain⟨_,_,_,_,_,_,_,_,_,h2⟩:=h
 exact h2.nd
theorem ei.sub {τ:sH} (h:ei τ E L w b o m) (hx:x∈E):x∈L:=h.mem.1 x (mK _ hx)
structure qI (E L:List Nat) (w:World) (b:Nat) (m:Mk) (v1:Value) (g1:Option Nat) (rv:List aj) (v2:Value) (g2:Option Nat) (qJ:List aj) (X L1:List Nat) (ww:World):Prop where
 mb:ei t8 (X++E) L1 ww b true m
 fe:eQ E L w L1 ww
 s1:dh ww 9 v1 g1 rv
 s2:dh ww 9 v2 g2 qJ
 x1:∀x,x∈g1.toList->x∈X∧x∉g2.toList
 x2:∀x,x∈g2.toList->x∈X∧x∉g1.toList
 xE:∀x,x∈X->x∉E
def Cr (E L:List Nat) (w:World) (b:Nat) (m:Mk) (v1:Value) (g1:Option Nat) (rv:List aj) (v2:Value) (g2:Option Nat) (qJ:List aj) (ww:World):Prop:=∃X L1,qI E L w b m v1 g1 rv v2 g2 qJ X L1 ww
section
variable {E L X L1 L2:List Nat} {w ww w':World} {b:Nat} {m:Mk} {v1 v2 v:Value} {g1 g2 g:Option Nat} {rv qJ ys:List aj}
theorem qI.ext (h:qI E L w b m v1 g1 rv v2 g2 qJ X L1 ww) (k:ak [] ww w'):qI E L w b m v1 g1 rv v2 g2 qJ X L1 w':=⟨h.mb.ext k,h.fe.ext k,h.s1.ext k,h.s2.ext k,h.x1,h.x2,h.xE⟩
theorem qI.swap (h:qI E L w b m v1 g1 rv v2 g2 qJ X L1 ww):qI E L w b m v2 g2 qJ v1 g1 rv X L1 ww:=⟨h.mb,h.fe,h.s2,h.s1,h.x2,h.x1,h.xE⟩
theorem qI.Gz (h:qI E L w b m v1 g1 rv v2 g2 qJ X L1 ww) (hO:dh w' 9 v g ys) (k:ak g1.toList ww w') (hg:g=g1∨∃x,g=some x∧ww.heap.size<=x):Cr E L w b m v g ys v2 g2 qJ w':=by
 have hX:∀x,x∈g1.toList->x∈X++E:=λx hx=>List.mem_append_left _ (h.x1 x hx).1
 have hL:∀x,x∈g1.toList->x∈L1:=λx hx=>h.mb.sub (hX x hx)
 have hF:eQ E L w L1 w':=h.fe.add (Fr.of k hL) k λx hx=>h.xE x (h.x1 x hx).1
 have h2:dh w' 9 v2 g2 qJ:=h.s2.aO k λx hx hy=>(h.x2 x (by simp[hx])).2 hy
 rcases hg with rfl|⟨x,rfl,hx⟩
 ·exact⟨X,L1,⟨h.mb.aO k hX,hF,hO,h2,h.x1,h.x2,h.xE⟩⟩
 ·have mN:x<w'.heap.size:=hO.lt x sm
  refine⟨x::X,x::L1,⟨h.mb.s0 k hX hx mN,⟨⟨hF.fr.aO,λy hy=>?_⟩,hF.out⟩,hO,h2,λy hy=>?_,λy hy=>?_,λy hy=>?_⟩⟩
  ·rcases mC.1 hy with rfl|hy
   ·exact .inr (Nat.le_trans h.fe.fr.aO.size hx)
   ·exact hF.fr.mem y hy
  ·have e:y=x:=by simpa using hy
   subst e
   exact⟨by simp,λhh=>by have:=h.s2.lt y hh;omega⟩
  ·refine⟨mK _ (h.x2 y hy).1,λhh=>?_⟩
   have e:y=x:=by simpa using hh
   subst e
   have:=h.s2.lt y hy;omega
  ·rcases mC.1 hy with rfl|hy
   ·intro hE
    have:=h.mb.dM y (h.mb.sub (mR _ hE));omega
   ·exact h.xE y hy
theorem qI.AJ (h:qI E L w b m v1 g1 rv v2 g2 qJ X L1 ww) (hO:dh w' 9 v g ys) (k:ak g2.toList ww w') (hg:g=g2∨∃x,g=some x∧ww.heap.size<=x):Cr E L w b m v1 g1 rv v g ys w':=
 let⟨X,L1,h⟩:=h.swap.Gz hO k hg;⟨X,L1,h.swap⟩
theorem qI.call {m':Mk} (h:qI E L w b m v1 g1 rv v2 g2 qJ X L1 ww) (hM:ei t8 (X++E) L2 w' b true m') (k:eQ (X++E) L1 ww L2 w'):qI E L w b m' v1 g1 rv v2 g2 qJ X L2 w':=by
 obtain⟨G,kg,hG⟩:=k.out
 refine⟨hM,h.fe.add k.fr kg λx hx hE=>hG x hx (mR _ hE),h.s1.aO kg λx hx hy=>hG x hy (List.mem_append_left _ (h.x1 x (by simp[hx])).1),h.s2.aO kg λx hx hy=>hG x hy (List.mem_append_left _ (h.x2 x (by simp[hx])).1),h.x1,h.x2,h.xE⟩
theorem qI.done (h:qI E L w b m v1 g1 rv v2 g2 qJ X L1 ww):∃L',ei t8 E L' ww b true m∧eQ E L w L' ww∧bI L' ww v1 rv∧bI L' ww v2 qJ:=by
 obtain⟨L',e,h1⟩:=h.mb.UH
 have jy:=h.mb.nd
 rw[e,List.nodup_append] at jy
 have hs:∀x,x∈L'->x∈L1:=λx hx=>by rw[e];exact mR _ hx
 exact⟨L',h1,⟨⟨h.fe.fr.aO,λx hx=>h.fe.fr.mem x (hs x hx)⟩,h.fe.out⟩,h.s1.rep λx hx hy=>jy.2.2 x (h.x1 x (by simp[hx])).1 x hy rfl,h.s2.rep λx hx hy=>jy.2.2 x (h.x2 x (by simp[hx])).1 x hy rfl⟩
theorem Cr.start (h:ei t8 E L w b true m) (k1:ak [] w w1) (aU:aY w1 w.heap.size #[] 9) (k2:ak [] w1 w2) (aZ:aY w2 w1.heap.size #[] 9):Cr E L w b m (.slice (some ⟨w.heap.size,0,none⟩) 0 0) (some w.heap.size) [] (.slice (some ⟨w1.heap.size,0,none⟩) 0 0) (some w1.heap.size) [] w2:=by
 have h1:=aU.lt
 have h2:=aZ.lt
 have hl:=h.dM
 refine⟨[w1.heap.size,w.heap.size],w1.heap.size::w.heap.size::L,⟨(h.s0 (E:=E) k1 sm (lR _) h1).s0 k2 sm (lR _) h2,⟨⟨(k1.trans k2).any,λx hx=>?_⟩,[],k1.trans k2,sm⟩,(aU.ext k2).ll,aZ.ll,λx hx=>?_,λx hx=>?_,λx hx hE=>?_⟩⟩
 ·rcases mC.1 hx with rfl|hx
  ·right;omega
  ·rcases mC.1 hx with rfl|hx
   ·right;omega
   ·exact .inl hx
 ·simp at hx;subst hx;simp;omega
 ·simp at hx;subst hx;simp;omega
 ·have:=hl x (h.sub hE)
  simp at hx;rcases hx with rfl|rfl<;>omega
end
theorem oq {a:Option Addr} {xs:List aj} (h:bI L w (.slice a n c) xs) (hi:i<xs.length):∃b off,a=some ⟨b,off,none⟩∧ja L w b (off+i*1) [str (aF xs i)]:=by
 obtain⟨b,off,vs,ha,hb,hL,hl,hc,hr⟩:=ze h (Qx (lj hi))
 rw[Qy hr] at hc
 exact⟨b,off,ha,hc,hb,hL⟩
theorem mH {hd:aj} {ps:List aj} (hh:hd.length<=100) (hp:ps.length<=45) (hs:∀p,p∈ps->p.length<=20000):(bP hd ps).length<=1000000:=by
 have h1:=Av (m:=20000) ps hs
 have h2:ps.length*20001<=45*20001:=Nat.mul_le_mul hp (lR _)
 rw[lI];omega
theorem ml (h:n<1000):(bf n).length<=20000:=by have:=sM h;omega
def AU (s:da) (ton:Nat) (aX:List aj) (on:aj):List aj:=aX.map (λx=>bf (kT s x))++(if on≠[] then[bf ton] else[])
theorem agf (hs:kt s) {ton:Nat} (ht:ton<1000) {aX:List aj} {on:aj}:∀p,p∈AU s ton aX on->p.length<=3:=λp hp=>by
 unfold AU at hp
 rcases mA.1 hp with hp|hp
 ·obtain⟨x,_,rfl⟩:=List.mem_map.1 hp
  exact sM (FF hs x)
 ·split at hp
  ·simp only[List.mem_singleton] at hp;rw[hp];exact sM ht
  ·simp at hp
theorem agh (s:da) (ton:Nat) (aX:List aj) (on:aj):(AU s ton aX on).length<=aX.length+1:=by
 unfold AU
 rw[lA,List.length_map]
 split<;>simp
theorem agi (m:Mk) (s:da) (ton:Nat) (aX:List aj) (on aP kind:aj) (cE:List aj) {R TY:List aj} {W C0:aj} {r:Nat} (hR:R=AU s ton aX on) (AV:TY=ma s aX on) (hW:W=bP [116] TY) (hC:C0=bP [99] (W::cE)) (hP:P0=bP [116] [C0,W]) (hr:r=m.types.length):
  o8 m s ton aX on aP kind cE=⟨(((((((m.dH W).cY l5 (bf r::R)).dH C0).cY sD [bf (r+1),aP]).dH P0).cY l5 [bf (r+2),bf (r+1),bf r]).dH kind).cY sE [bf (r+3),bf (r+2),kind,W],r+3,W⟩:=by
 subst hP;subst hC;subst hW;subst AV;subst hR;subst hr;rfl
set_option maxHeartbeats 4000000 in
theorem UI (t:Tk) (m:Mk) (aX:List aj) (on aP kind:aj) (cE:List aj) (gC:∀x,x∈aX->eP x=true∧(look (fj t.sc) x).isSome=true) (hs:kt t.sc) (oZ:t.sc.length<=9000) (oT:aX.length<=40) (ri:t.on<1000) (kM:on.length<=272) (FJ:aP.length<=10) (wF:kind.length<=272) (eN:cE.length<=2) (Mi:∀x,x∈cE->x.length<=272) (ht:m.types.length+4<1000) (hc:m.code.length<=8000) 
  (E L:List Nat) (b bt:Nat) (vn vd:Value) (w:World) (h:ei t8 E L w b true m) (hT:iq L w 130 bt t) (eT:bt∈E) (kh:bI L w vn aX) (tZ:bI L w vd cE):
  bZ Tryz.prog 205 [.pointer (some ⟨b,0,none⟩),.pointer (some ⟨bt,0,none⟩),vn,str on,str aP,str kind,vd] w λr w'=>r= .tuple #[.int .i64 ((o8 m t.sc t.on aX on aP kind cE).r:Int),str (o8 m t.sc t.on aX on aP kind cE).w]∧∃L',ei t8 E L' w' b true (o8 m t.sc t.on aX on aP kind cE).m∧eQ E L w L' w':=by
 obtain⟨an,nn,cn,rfl,rj⟩:=eI kh
 obtain⟨ad,nd,cd,rfl,jy⟩:=eI tZ
 obtain⟨R,GA⟩:∃x,x=AU t.sc t.on aX on:=⟨_,rfl⟩
 obtain⟨TY,AV⟩:∃x,x=ma t.sc aX on:=⟨_,rfl⟩
 obtain⟨W,hW⟩:∃x,x=bP [116] TY:=⟨_,rfl⟩
 obtain⟨C0,Jw⟩:∃x,x=bP [99] (W::cE):=⟨_,rfl⟩
 obtain⟨P0,sf⟩:∃x,x=bP [116] [C0,W]:=⟨_,rfl⟩
 obtain⟨r,GB⟩:∃r,r=m.types.length:=⟨_,rfl⟩
 obtain⟨c,NH⟩:∃c,c=m.code.length:=⟨_,rfl⟩
 have t0:m.types.length=r:=GB.symm
 have c0:m.code.length=c:=NH.symm
 rw[agi m t.sc t.on aX on aP kind cE GA AV hW Jw sf GB]
 have hWl:W.length<=11200:=by rw[hW,AV];exact FG hs oT kM
 have hRl:R.length<=41:=by rw[GA];have:=agh t.sc t.on aX on;omega
 have P5:TY.length<=41:=by rw[AV];have:=SB t.sc aX on;omega
 have NI:∀p,p∈R->p.length<=3:=by rw[GA];exact agf hs ri
 have sh:∀p,p∈TY->p.length<=272:=by rw[AV];exact SC hs kM
 have hCl:C0.length<=12000:=by
  have h1:=Av cE Mi
  have h2:cE.length*(272+1)<=2*(272+1):=Nat.mul_le_mul eN (lR _)
  have h3:jZ (W::cE)=1+W.length+jZ cE:=by unfold jZ;simp;omega
  rw[Jw,lI,h3];simp only[lC,List.length_nil];omega
 have Jx:P0.length<=25000:=by rw[sf,lI,Ax];simp only[lC,List.length_nil];omega
 have agk:=h
 refine cU [.tmp 14,.tmp 15] 131 Tryz.func205 rfl Y1 rfl rfl ?_
 refine zr<|zA<|zA<|ag<|zr<|gM bh bB ?_
 intro w1 aJ BK ae5
 have GC:=aJ
 refine zA<|ag<|zr<|gM bh bB ?_
 intro w2 aq Cs agl
 have hP:=Cr.start agk GC BK aq Cs
 refine zA<|ag<|aQ<|zr<|zA<|ag<|cP ?_
 refine fZ (λq:Nat×(Value×Option Nat)×(Value×Option Nat)=>[(0,.pointer (some ⟨b,0,none⟩)),(1,.pointer (some ⟨bt,0,none⟩)),(2,.slice an nn cn),(3,str on),(4,str aP),(5,str kind),(6,.slice ad nd cd),(16,q.2.1.1),(17,q.2.2.1),(18,.int .i64 (q.1:Int))]) (λq w'=>Cr E L w b m q.2.1.1 q.2.1.2 (AT t.sc aX q.1) q.2.2.1 q.2.2.2 (yD t.sc aX q.1) w'∧q.1<=aX.length) (λq=>aX.length-q.1) ((0,(.slice (some ⟨w.heap.size,0,none⟩) 0 0,some w.heap.size),(.slice (some ⟨w1.heap.size,0,none⟩) 0 0,some w1.heap.size))) (⟨rfl,rfl,rfl,rfl,rfl,rfl,rfl,rfl,rfl,rfl⟩) (⟨hP,sm⟩) ?_
 intro gg w3 e3 hI
 obtain⟨k,⟨vr,gr⟩,vt,gt⟩:=gg
 obtain⟨⟨X,L1,hX⟩,hk⟩:=hI
 dsimp only at hX hk
 refine aQ<|zr<|zm<|zm<|eh bh rfl<|fJ rfl rfl rfl<|ag<|zc rfl (λh1=>?_) (λh1=>?_)
 have aq:k<aX.length:=(by simp at h1;omega)
 have hx:=lj aq
 have Ct:=List.mem_of_getElem? hx
 have mN:=DI (gC _ Ct).1
 have agm:=kh.go hX.fe.fr
 have dd:=hX.fe.tk hT eT
 have aR:=qU agm hx
 obtain⟨b1,ga,e1,bC⟩:=aR
 cases e1
 refine bA<|aQ<|cP<|zr<|zm<|zm<|zm<|zm<|zm<|zi bh bB rfl rfl (by rw[rj];omega)<|zl cg rfl (bC 0 _ rfl)<|aC (z7 (aF aX k) w3) ?_
 rintro v4 w4 ⟨eJ,aD⟩
 have gK:=aD.size
 have hX:=hX.ext aD
 obtain rfl:=eJ
 refine aC (Cp t (aF aX k) m om om om oZ (X++E) L1 b bt _ _ _ w4 hX.mb (hX.fe.tk hT eT) (mR _ eT)) ?_
 rintro v41 w5 ⟨UJ,L2,Gw,jU⟩
 rw[af8 (gC _ Ct).1] at UJ Gw
 subst UJ
 have hX:=hX.call Gw jU
 refine aC (iS (kT t.sc (aF aX k)+1) (kT t.sc (aF aX k)) om (by have:=FF hs (aF aX k);omega) w5) ?_
 rintro v6 w6 ⟨kU,bD⟩
 have ob:=bD.size
 have hX:=hX.ext bD
 obtain rfl:=kU
 refine gA bh bB rfl rfl ?_
 intro w7 cv agn qg
 have hX:=hX.ext cv
 refine r6 bh bB rfl rfl rfl rfl rfl rfl hX.s1 agn (by have:=agb (s:=t.sc) (aX:=aX) (k:=k);omega) ?_
 intro v9 g9 w8 dK cu fN
 rw[<-af9 aq] at dK
 have aR:=hX.Gz dK cu (fN.imp id (λh=>⟨_,h,lR _⟩))
 obtain⟨X2,L2,hX⟩:=aR
 have UK:=hX
 have gh:∀x,x∈gt.toList->x∈L2:=(λx hx=>hX.mb.sub (List.mem_append_left _ (hX.x2 x hx).1))
 have aR:=hX.fe.tk hT eT
 obtain⟨u1,u3,u4,u5,u6,u8,yC,hC⟩:=aR
 have cA:fh gt.toList w8 bt [str t.aP,u1,.int .i64 (t.loads:Int),u3,u4,u5,u6,str t.expr.av.az,u8,.int .i64 (t.on:Int),str t.bm,.int .i64 (t.next:Int)].toArray 130:=⟨yC,λhx=>hX.xE bt (hX.x2 bt hx).1 eT⟩
 have FW:bI gt.toList w8 u4 (ka t.sc):=bI.fresh hC.aX (λx hx=>.inl (gh x hx))
 have NJ:bI gt.toList w8 u6 (o9 t.sc):=bI.fresh hC.types (λx hx=>.inl (gh x hx))
 have yE:bI gt.toList w8 (.slice (some ⟨b1,ga,none⟩) nn cn) aX:=bI.fresh (kh.go hX.fe.fr) (λx hx=>.inl (gh x hx))
 have aR:=oq yE aq
 obtain⟨b2,nk,e2,bX⟩:=aR
 cases e2
 have pY:fy gt.toList w8:=(λx hx=>hX.s2.lt x hx)
 refine zA<|ag ?_
 apply kc eu gt.toList 17 (rA 45 17) (rA 45 17) [[],[],[1],[2],[3],[],[5],[6],[7],[],[],[9,10],[11],[4,8,12],[13],[14],[0,15]] [Ie.v _,Ie.v _,Ie.v _,Ie.v _,Ie.v _,Ie.v _,Ie.v _,Ie.v _,Ie.v _,Ie.v _,Ie.v _,Ie.v _,Ie.v _,Ie.v _,Ie.v _,Ie.p (fun(G:List Nat) (v:Value) (ww:World)=>∃bb,v= .slice (some ⟨bb,0,none⟩) 1 1∧fh G ww bb [str (bL (kE t.sc (aF aX k)))].toArray 9),Ie.e 0] [16] [fun(G:List Nat) (vs:List Value) (ww:World)=>G=gt.toList∧ak [] w8 ww,fun(G:List Nat) (vs:List Value) (ww:World)=>∃g2,dh ww 9 (vs.getD 0 undef) g2 (yD t.sc aX (k+1))∧ak gt.toList w8 ww∧(g2=gt∨∃x,g2=some x∧w8.heap.size<=x)] de rfl pY (by exact⟨λG v w G' w' ⟨bb,e,h⟩ k=>⟨bb,e,h.go k⟩,trivial⟩) (by exact⟨λG vs w w' ⟨h1,h2⟩ k=>⟨h1,h2.ext k⟩,λG vs w w' ⟨g2,h1,h2,h3⟩ k=>⟨g2,h1.ext k,h2.ext k,h3⟩,trivial⟩) (⟨rfl,ak.refl _ _⟩)
 refine cR ?_
 refine cR ?_
 refine vf (λ_ _ _ _ _ _=>di rfl fv) ?_
 refine vf (λ_ _ _ _ _ _=>zf zD rfl fv) ?_
 refine vf (λx w9 G9 aW df lg=>?_) ?_
 have cA:=cA.go df
 refine zl eO rfl (cA.at rfl) ?_
 exact fv
 refine cR ?_
 refine vf (λ_ _ _ _ _ _=>di rfl fv) ?_
 refine vf (λ_ _ _ _ _ _=>zf Db rfl fv) ?_
 refine vf (λx w9 G9 aW df lg=>?_) ?_
 have cA:=cA.go df
 refine zl eO rfl (cA.at rfl) ?_
 exact fv
 refine cR ?_
 refine cR ?_
 refine vf (λ_ _ _ _ _ _=>zi bh bB rfl rfl (by rw[rj];omega) fv) ?_
 refine vf (λx w9 G9 aW df lg=>?_) ?_
 have bX:=bX.go df
 refine zl cg rfl (bX.cells 0 _ rfl) ?_
 exact fv
 refine vf (λx w9 G9 aW df lg=>?_) ?_
 have FW:=FW.go df;have NJ:=NJ.go df
 refine aC (FZ (ka t.sc) (o9 t.sc) (by simp[ka,o9]) (by simp[ka];omega) (aF aX k) _ _ _ _ w9 FW NJ) ?_
 rintro v10 cN ⟨rr,bU⟩
 have Cc:=bU.size
 obtain rfl:=rr
 exact fk bU
 refine vf (λx w9 G9 aW df lg=>?_) ?_
 refine aC ((NF (gC _ Ct).2▸vz (kE t.sc (aF aX k)) (by have:=Iz hs (aF aX k);omega) w9)) ?_
 rintro v10 cN ⟨rr,bU⟩
 have Cc:=bU.size
 obtain rfl:=rr
 exact fk bU
 refine vf (λx w9 G9 aW df lg=>?_) ?_
 refine gA bh bB rfl rfl ?_
 intro cN bU GD Bv
 exact ff bU (⟨_,rfl,GD.o lg⟩)
 refine ve 0 (λx w9 G9 aW df lg hJ hlen=>?_) ?_
 have bo:=jO hlen
 subst bo
 intro vq d15
 obtain⟨bb,e6,gx⟩:=d15
 subst e6
 obtain⟨cz,cB⟩:=hJ
 subst cz
 have ago:=UK.s2.ext cB
 refine r6 bh bB rfl rfl rfl rfl rfl rfl ago gx.ju (by have:=agc (s:=t.sc) (aX:=aX) (k:=k);omega) ?_
 intro v9 g9 cN dK aG fN
 rw[<-aga aq] at dK
 exact fe g9.toList (⟨aG,λx hx=>by rcases fN with h|h;(·rw[h] at hx;exact .inl hx);(·rw[h] at hx;simp at hx;right;omega)⟩) ((λx hx=>dK.lt x hx)) (⟨g9,dK,cB.any.trans aG,fN.imp id (λh=>⟨_,h,cB.size⟩)⟩)
 exact trivial
 intro x j1 D1 aW wS Gf hJ hlen
 have aR:=jP hlen
 obtain⟨q0,bo⟩:=aR
 subst bo
 intro vq d15
 change OW _ _ _ _ _ (aM (aN _ x _) (zZ 45 [_,_,_,_,_,_,_,_,_,_,_,_,_,_,_,_,_])) _
 obtain⟨g2,dK,aG,fN⟩:=hJ
 have NK:=UK.AJ dK aG fN
 refine zA<|ag<|db<|zm<|eE rfl rfl rfl (wrap_i64 _ om om)<|zA<|ag ?_
 exact⟨(k+1,(_,_),(_,g2)),⟨rfl,rfl,rfl,rfl,rfl,rfl,rfl,rfl,rfl,rfl⟩,⟨NK,by show k+1<=_;omega⟩,by show aX.length-(k+1)<aX.length-k;omega⟩
 have fg:k=aX.length:=(by simp at h1;omega)
 subst fg
 rw[agd,age] at hX
 refine gF<|gH rfl<|aQ<|zr<|zm<|jF rfl rfl rfl rfl<|ag ?_
 refine jh (λq:(Value×Option Nat)×(Value×Option Nat)=>[(0,.pointer (some ⟨b,0,none⟩)),(4,str aP),(5,str kind),(6,.slice ad nd cd),(16,q.1.1),(17,q.2.1)]) (λq ww=>Cr E L w b m q.1.1 q.1.2 R q.2.1 q.2.2 TY ww) ?_ ?_
 refine zc rfl (λh2=>?_) (λh2=>?_)
 have GF:on≠[]:=(by simpa using h2)
 have NL:aX.map (λx=>bf (kT t.sc x))++[bf t.on]=R:=(by rw[GA];unfold AU;rw[iP GF])
 have NM:aX.map (λx=>bL (kE t.sc x))++[on]=TY:=(by rw[AV];unfold ma;rw[iP GF])
 have aR:=hX.fe.tk hT eT
 obtain⟨u1,u3,u4,u5,u6,u8,yC,hC⟩:=aR
 have cA:aY w3 bt [str t.aP,u1,.int .i64 (t.loads:Int),u3,u4,u5,u6,str t.expr.av.az,u8,.int .i64 (t.on:Int),str t.bm,.int .i64 (t.next:Int)].toArray 130:=yC
 refine zr<|zm<|zm<|di rfl<|zf HJ rfl<|zl qQ rfl (cA.at rfl)<|aC (iS (t.on+1) t.on om om w3) ?_
 rintro v4 w4 ⟨eJ,aD⟩
 have gK:=aD.size
 have hX:=hX.ext aD
 obtain rfl:=eJ
 refine gA bh bB rfl rfl ?_
 intro w5 aT NN jo
 have hX:=hX.ext aT
 refine r6 bh bB rfl rfl rfl rfl rfl rfl hX.s1 NN so ?_
 intro v9 g9 w6 dK bD fN
 rw[NL] at dK
 have aR:=hX.Gz dK bD (fN.imp id (λh=>⟨_,h,lR _⟩))
 obtain⟨X3,L3,hX⟩:=aR
 refine zA<|ag<|db<|zm<|zm<|gA bh bB rfl rfl ?_
 intro w7 cv NO qg
 have hX:=hX.ext cv
 refine r6 bh bB rfl rfl rfl rfl rfl rfl hX.s2 NO so ?_
 intro v10 g10 w8 UL cu agp
 rw[NM] at UL
 have NK:=hX.AJ UL cu (agp.imp id (λh=>⟨_,h,lR _⟩))
 refine zA<|ag ?_
 exact⟨((_,g9),(_,g10)),⟨rfl,rfl,rfl,rfl,rfl,rfl⟩,NK⟩
 have GF:¬on≠[]:=(by simpa using h2)
 have NL:aX.map (λx=>bf (kT t.sc x))=R:=(by rw[GA];unfold AU;rw[iN GF,List.append_nil])
 have NM:aX.map (λx=>bL (kE t.sc x))=TY:=(by rw[AV];unfold ma;rw[iN GF,List.append_nil])
 rw[NL,NM] at hX
 refine bA ?_
 exact⟨((_,_),(_,_)),⟨rfl,rfl,rfl,rfl,rfl,rfl⟩,_,_,hX⟩
 intro gu w4 e4 hI
 obtain⟨⟨vr2,gr2⟩,BQ,gt2⟩:=gu
 dsimp only at hI⊢
 obtain⟨X2,L2,hX2⟩:=hI
 have aR:=hX2.done
 obtain⟨L0,aw,hR,yF,fD⟩:=aR
 refine zr<|zm<|aC ((show bZ Tryz.prog 75 [str [116],BQ] w4 (λr w'=>r=str W∧ak [] w4 w') from by rw[hW];exact xR [116] TY (by rw[<-hW];omega) _ _ w4 fD)) ?_
 rintro v5 w5 ⟨kQ,aT⟩
 have oW:=aT.size
 have aw:=aw.ext aT;have hR:=hR.ext aT;have yF:=yF.ext aT
 obtain rfl:=kQ
 refine zA<|ag<|zr<|zm<|zm<|aC (se W m om E L0 b true w5 aw) ?_
 rintro v10 w6 ⟨fY,L1,aw,bY⟩
 rw[t0] at fY
 subst fY
 have hR:=hR.go bY
 have iR:∃x,x=m.dH W:=⟨_,rfl⟩
 obtain⟨m1,lO⟩:=iR
 rw[<-lO] at aw
 have t1:m1.types.length=r+1:=(by rw[lO,ye];omega)
 have c1:m1.code.length=c+0:=(by rw[lO,Cq];omega)
 have dC:=aw.dM
 have yF:=yF.go bY.fr
 refine zA<|ag<|zr<|zm<|zm<|aC (iS (r+1) r om om w6) ?_
 rintro v7 w7 ⟨iV,cv⟩
 have pg:=cv.size
 have aw:=aw.ext cv;have hR:=hR.ext cv;have yF:=yF.ext cv
 obtain rfl:=iV
 have dC:=aw.dM
 refine gA bh bB rfl rfl ?_
 intro w8 cu Ef mu
 have aw:=aw.ext cu;have hR:=hR.ext cu;have yF:=yF.ext cu
 refine zm<|aC (tP [bf r] R so _ _ L1 w8 (aY.eF [bf r] Ef (λhx=>by have:=dC _ hx;omega)) yF aw.dM) ?_
 rintro v9 w9 ⟨eR,aG⟩
 have ph:=aG.size
 have aw:=aw.ext aG;have hR:=hR.ext aG;have Ef:=Ef.ext aG
 have UM:=eR
 have aR:=eI UM
 obtain⟨a13,n13,c13,Gy,_⟩:=aR
 subst Gy
 clear Ef
 refine aC (lh l5 ([bf r]++R) (mH de so (by intro p hp;rcases mA.1 hp with hp|hp;(·simp at hp;subst hp;exact ml om);(·have:=NI p hp;omega))) m1 om E L1 b _ w9 aw UM) ?_
 rintro jV cN ⟨L2,aw,bY⟩
 have hR:=hR.go bY
 have fF:∃x,x=m1.cY l5 ([bf r]++R):=⟨_,rfl⟩
 obtain⟨m2,lP⟩:=fF
 rw[<-lP] at aw
 have t2:m2.types.length=r+1:=(by rw[lP,oN];omega)
 have c2:m2.code.length=c+1:=(by rw[lP,py];omega)
 have dC:=aw.dM
 have NP:=tZ.go hR.fr
 refine ag<|zr<|zm<|gA bh bB rfl rfl ?_
 intro eW cL Jy uF
 have aw:=aw.ext cL;have hR:=hR.ext cL;have NP:=NP.ext cL
 refine zm<|aC (tP [W] cE so _ _ L2 eW (aY.eF [W] Jy (λhx=>by have:=dC _ hx;omega)) NP aw.dM) ?_
 rintro v12 gj ⟨sX,dD⟩
 have D5:=dD.size
 have aw:=aw.ext dD;have hR:=hR.ext dD;have Jy:=Jy.ext dD
 have UN:=sX
 have aR:=eI UN
 obtain⟨a14,n14,c14,iE,_⟩:=aR
 subst iE
 clear Jy
 refine aC ((show bZ Tryz.prog 75 [str [99],.slice a14 n14 c14] gj (λr w'=>r=str C0∧ak [] gj w') from by rw[Jw];exact xR [99] (W::cE) (by rw[<-Jw];omega) _ _ gj UN)) ?_
 rintro wP jC ⟨vC,fM⟩
 have Gv:=fM.size
 have aw:=aw.ext fM;have hR:=hR.ext fM
 obtain rfl:=vC
 refine zA<|ag<|zr<|zm<|zm<|aC (se C0 m2 om E L2 b true jC aw) ?_
 rintro v10 jf ⟨fY,L3,aw,bY⟩
 rw[t2] at fY
 subst fY
 have hR:=hR.go bY
 have yG:∃x,x=m2.dH C0:=⟨_,rfl⟩
 obtain⟨m3,lQ⟩:=yG
 rw[<-lQ] at aw
 have t3:m3.types.length=r+2:=(by rw[lQ,ye];omega)
 have c3:m3.code.length=c+1:=(by rw[lQ,Cq];omega)
 have dC:=aw.dM
 refine zA<|ag<|zr<|zm<|zm<|aC (iS ((r+1)+1) (r+1) om om jf) ?_
 rintro vq p6 ⟨Cu,jD⟩
 have NQ:=jD.size
 have aw:=aw.ext jD;have hR:=hR.ext jD
 obtain rfl:=Cu
 have dC:=aw.dM
 refine zm<|lk bh bB rfl rfl rfl rfl ?_
 intro lN kY Cv F8
 have aw:=aw.ext kY;have hR:=hR.ext kY
 refine aC (lh sD [bf (r+1),aP] (mH de sm (by intro p hp;simp at hp;rcases hp with rfl|rfl;(·exact ml om);(·omega))) m3 om E L3 b _ lN aw (aY.eF [bf (r+1),aP] Cv (λhx=>by have:=dC _ hx;omega))) ?_
 rintro jV vD ⟨L4,aw,bY⟩
 have hR:=hR.go bY
 clear Cv
 have Cw:∃x,x=m3.cY sD [bf (r+1),aP]:=⟨_,rfl⟩
 obtain⟨m4,oS⟩:=Cw
 rw[<-oS] at aw
 have t4:m4.types.length=r+2:=(by rw[oS,oN];omega)
 have c4:m4.code.length=c+2:=(by rw[oS,py];omega)
 have dC:=aw.dM
 refine ag<|zr<|zm<|zm<|zm<|lk bh bB rfl rfl rfl rfl ?_
 intro xf ua Jz Nn
 have aw:=aw.ext ua;have hR:=hR.ext ua
 refine aC ((show bZ Tryz.prog 75 [str [116],_] xf (λr w'=>r=str P0∧ak [] xf w') from by rw[sf];exact xR [116] [C0,W] (by rw[<-sf];omega) _ L4 xf (aY.eF [C0,W] Jz (λhx=>by have:=dC _ hx;omega)))) ?_
 rintro Gs Cx ⟨agu,vF⟩
 have amU:=vF.size
 have aw:=aw.ext vF;have hR:=hR.ext vF;have Jz:=Jz.ext vF
 obtain rfl:=agu
 clear Jz
 refine aC (se P0 m4 om E L4 b true Cx aw) ?_
 rintro v10 vG ⟨fY,L5,aw,bY⟩
 rw[t4] at fY
 subst fY
 have hR:=hR.go bY
 have NR:∃x,x=m4.dH P0:=⟨_,rfl⟩
 obtain⟨m5,yH⟩:=NR
 rw[<-yH] at aw
 have t5:m5.types.length=r+3:=(by rw[yH,ye];omega)
 have c5:m5.code.length=c+2:=(by rw[yH,Cq];omega)
 have dC:=aw.dM
 refine zA<|ag<|zr<|zm<|zm<|aC (iS ((r+2)+1) (r+2) om om vG) ?_
 rintro v21 ry ⟨agv,vH⟩
 have amV:=vH.size
 have aw:=aw.ext vH;have hR:=hR.ext vH
 obtain rfl:=agv
 have dC:=aw.dM
 refine zm<|aC (iS ((r+1)+1) (r+1) om om ry) ?_
 rintro GG Eg ⟨agw,Eh⟩
 have amW:=Eh.size
 have aw:=aw.ext Eh;have hR:=hR.ext Eh
 obtain rfl:=agw
 have dC:=aw.dM
 refine zm<|aC (iS (r+1) r om om Eg) ?_
 rintro M9 UO ⟨agx,GH⟩
 have amX:=GH.size
 have aw:=aw.ext GH;have hR:=hR.ext GH
 obtain rfl:=agx
 have dC:=aw.dM
 refine pQ bh bB rfl rfl rfl rfl rfl ?_
 intro w24 yI JA agz
 have aw:=aw.ext yI;have hR:=hR.ext yI
 refine aC (lh l5 [bf (r+2),bf (r+1),bf r] (mH de sm (by intro p hp;simp at hp;rcases hp with rfl|rfl|rfl<;>exact ml om)) m5 om E L5 b _ w24 aw (aY.eF [bf (r+2),bf (r+1),bf r] JA (λhx=>by have:=dC _ hx;omega))) ?_
 rintro jV w25 ⟨L6,aw,bY⟩
 have hR:=hR.go bY
 clear JA
 have NS:∃x,x=m5.cY l5 [bf (r+2),bf (r+1),bf r]:=⟨_,rfl⟩
 obtain⟨m6,yJ⟩:=NS
 rw[<-yJ] at aw
 have t6:m6.types.length=r+3:=(by rw[yJ,oN];omega)
 have c6:m6.code.length=c+3:=(by rw[yJ,py];omega)
 have dC:=aw.dM
 refine ag<|zr<|zm<|zm<|aC (se kind m6 om E L6 b true w25 aw) ?_
 rintro v10 w26 ⟨fY,L7,aw,bY⟩
 rw[t6] at fY
 subst fY
 have hR:=hR.go bY
 have hx7:∃x,x=m6.dH kind:=⟨_,rfl⟩
 obtain⟨m7,JB⟩:=hx7
 rw[<-JB] at aw
 have t7:m7.types.length=r+4:=(by rw[JB,ye];omega)
 have c7:m7.code.length=c+3:=(by rw[JB,Cq];omega)
 have dC:=aw.dM
 refine zA<|ag<|zr<|zm<|zm<|aC (iS ((r+3)+1) (r+3) om om w26) ?_
 rintro v27 w27 ⟨agE,NT⟩
 have amY:=NT.size
 have aw:=aw.ext NT;have hR:=hR.ext NT
 obtain rfl:=agE
 have dC:=aw.dM
 refine zm<|aC (iS ((r+2)+1) (r+2) om om w27) ?_
 rintro v28 w28 ⟨agF,NU⟩
 have am0:=NU.size
 have aw:=aw.ext NU;have hR:=hR.ext NU
 obtain rfl:=agF
 have dC:=aw.dM
 refine zm<|zm<|yc bh bB rfl rfl rfl rfl rfl rfl ?_
 intro w29 UP UQ I4
 have aw:=aw.ext UP;have hR:=hR.ext UP
 refine aC (lh sE [bf (r+3),bf (r+2),kind,W] (mH de sm (by intro p hp;simp at hp;rcases hp with rfl|rfl|rfl|rfl;(·exact ml om);(·exact ml om);(·omega);(·omega))) m7 om E L7 b _ w29 aw (aY.eF [bf (r+3),bf (r+2),kind,W] UQ (λhx=>by have:=dC _ hx;omega))) ?_
 rintro jV w30 ⟨L8,aw,bY⟩
 have hR:=hR.go bY
 clear UQ
 have UR:∃x,x=m7.cY sE [bf (r+3),bf (r+2),kind,W]:=⟨_,rfl⟩
 obtain⟨m8,JC⟩:=UR
 rw[<-JC] at aw
 have t8:m8.types.length=r+4:=(by rw[JC,oN];omega)
 have c8:m8.code.length=c+4:=(by rw[JC,py];omega)
 have dC:=aw.dM
 refine ag<|zr<|zm<|zm<|zA<|zA<|ag<|aV ?_
 subst JC JB yJ yH oS lQ lP lO
 exact⟨_,rfl,rfl,_,aw,hR⟩
theorem UT {aX:List aj} (h:i<aX.length):iT s k (aX.take (i+1)) []=iT s k (aX.take i) []++[(aF aX i,k+i,kE s (aF aX i))]:=by
 unfold iT
 rw[List.take_add_one,lj h]
 simp only[Option.toList_some,List.nil_append,List.zipIdx_append,List.map_append,List.length_take,List.zipIdx_singleton,List.map_cons,List.map_nil]
 rw[Nat.min_eq_left (Nat.le_of_lt h),Nat.zero_add]
def qK:Ex:=.bi [43] (.at [49]) (.at [50])
def JD:aj:=[40,43,32,49,32,50,41]
theorem agH:nU qK=some qK:=rfl
theorem NV:qK.ok:=by refine⟨by decide,?_,?_⟩<;>(show qo _=true;decide+kernel)
theorem UU:qK.av.text=JD:=by decide+kernel
theorem UW:ba JD=some qK.av:=by
 rw[<-UU]
 exact Le (Ex.wf NV) (by decide+kernel) (by decide+kernel)
theorem type12:bM qK []=some .i:=by rfl
theorem agI:(ofM qK .i).wide=false:=by decide+kernel
theorem agJ:jK (ofM qK .i).blocks=true:=by decide+kernel
theorem agK {x:aj} (e:Ex):Fv x e->eP x=true:=by
 induction e with
 |«at» s=>exact λh=>h.2
 |un hd a ih=>exact ih
 |bi hd a b i1 i2=>exact λh=>h.elim i1 i2
 |ite a b c i1 i2 i3=>exact λh=>h.elim i1 λh=>h.elim i2 i3
 |lt y a b i1 i2=>exact λh=>h.elim i1 λh=>i2 h.2
 |fn f y A B e ih=>exact λh=>ih h.2.2
theorem UX {bd:List aj} {x:aj} (h:x∈cF e bd []):eP x=true:=by
 rcases(qp x e bd []).1 h with h|h
 ·simp at h
 ·exact agK _ h.1
theorem UY (x0:ByteArray) (a1:Option Addr) (n1 c1:Nat) (x2:Int) (x7:ByteArray) (a8:Option Addr) (n8 c8:Nat) (x9:Int) (Ei:ByteArray) (UZ:Int) (w:World):(Instr.build 130 #[(0,.string x0),(1,.slice a1 n1 c1),(2,.int .i64 x2),(7,.agg #[.string x7,.slice a8 n8 c8]),(8,.int .i64 x9),(9,.string Ei),(10,.int .i64 UZ)]).run Tryz.prog w= .ok (.agg #[.string x0,.slice a1 n1 c1,.int .i64 x2,.slice none 0 0,.slice none 0 0,.slice none 0 0,.slice none 0 0,.string x7,.slice a8 n8 c8,.int .i64 x9,.string Ei,.int .i64 UZ]) w:=by kernel_rfl
def s5 (X G:List Nat) (w:World) (v:Value) (xs:List aj):Prop:=bI (X++G) w v xs
theorem s5.go {X G':List Nat} {xs:List aj} (h:s5 X G w v xs) (k:Fr G w G' w'):s5 X G' w' v xs:=bI.go h (k.in X)
theorem JE {X:List Nat} {w0:World} (h:∀x,x∈X->x<w0.heap.size) (hs:w0.heap.size<=w.heap.size) (hG:fy G w):∀x,x∈X++G->x<w.heap.size:=λx hx=>by
 rcases mA.1 hx with h1|h1
 ·exact lL (h x h1) hs
 ·exact hG x h1
theorem eQ.more (h:eQ E L w L1 w1) (k:ak G w1 w2) (hG:∀y,y∈G->w1.heap.size<=y) (hx:w1.heap.size<=x) (hE:∀y,y∈E->y<w1.heap.size):eQ E L w (x::L1) w2:=by
 have k2:ak [] w1 w2:=(ak.refl [] w1).since k λy hy=>.inr (hG y hy)
 have h1:=h.ext k2
 exact⟨⟨h1.fr.aO,λy hy=>by
  rcases mC.1 hy with rfl|hy
  ·exact .inr (Nat.le_trans h.fr.aO.size hx)
  ·exact h.fr.mem y hy⟩,h1.out⟩
theorem eQ.sub {L2:List Nat} (h:eQ E L w L1 w1) (hs:∀x,x∈L2->x∈L1):eQ E L w L2 w1:=⟨⟨h.fr.aO,λx hx=>h.fr.mem x (hs x hx)⟩,h.out⟩
def ub (aP:aj) (W:aj) (nd:List aj) (FR:List aj) (rest:Ex) (bm:aj) (sc:da):Tk:=⟨aP,W::nd,FR.length+1,[],sc,rest,2+FR.length,bm,2⟩
theorem agL (m:Mk) (s:da) (ton:Nat) (bm name:aj) (kind:Ty) (rest:Ex) {FR:List aj} (hF:FR=cF rest [name] []) (hP:P=o8 m.lG s ton FR bm m.aP (dX (bL kind)) [bL kind]):
  tH m s ton bm name kind rest=({P.m with bW:=m.bW++[ub m.aP P.w [bL kind] FR rest bm (iT s 2 FR []++[(name,1,kind)])]},P.r,dX (bL kind)):=by
 subst hP;subst hF;rfl
theorem U0 {ton:Nat} {aX:List aj} {on aP kind:aj} {cE:List aj} (hP:P=o8 m.lG s ton aX on aP kind cE):P.m.bW=m.bW∧P.r=m.types.length+3∧P.w=bP [116] (ma s aX on):=by
 subst hP;exact⟨rfl,rfl,rfl⟩
set_option maxHeartbeats 4000000 in
theorem U1 (t:Tk) (m:Mk) (name:aj) (kind:Ty) (rest:Ex) (bF:rest.ok) (rl:rest.n<=1000) (sN:∀x,x∈cF rest [name] []->(look (fj t.sc) x).isSome=true) (pb:(cF rest [name] []).length<=40) (hs:kt t.sc) (oZ:t.sc.length<=9000) (hk:kind.n<=16) (ri:t.on<1000) (kM:t.bm.length<=272) (ht:m.types.length+4<1000) (hc:m.code.length<=8000) (xg:m.count<1000) (gw:m.bW.length<100000) 
  (E L:List Nat) (b bt:Nat) (v:Value) (w:World) (h:ei t8 E L w b true m) (hT:iq L w 130 bt t) (eT:bt∈E) (hv:bS L w v rest.av):
  bZ Tryz.prog 183 [.pointer (some ⟨b,0,none⟩),.pointer (some ⟨bt,0,none⟩),str name,str kind.text,v] w λr w'=>∃L',ei t8 E L' w' b true (tH m t.sc t.on t.bm name kind rest).1∧iq L' w' 130 bt {t with on:=(tH m t.sc t.on t.bm name kind rest).2.1,bm:=(tH m t.sc t.on t.bm name kind rest).2.2}∧Fr L w L' w'∧∃G,ak G w w'∧∀z,z∈G->z∈E->z=bt:=by
 obtain⟨ar,nr,cr,rfl,p9,bc⟩:=dN hv
 have lS:=h.dM
 obtain⟨FR,yK⟩:∃x,x=cF rest [name] []:=⟨_,rfl⟩
 obtain⟨P,hP⟩:∃x,x=o8 m.lG t.sc t.on FR t.bm m.aP (dX (bL kind)) [bL kind]:=⟨_,rfl⟩
 rw[agL m t.sc t.on t.bm name kind rest yK hP]
 obtain⟨GI,AW,hPw⟩:=U0 hP
 rw[<-yK] at pb sN
 have gC:∀x,x∈FR->eP x=true∧(look (fj t.sc) x).isSome=true:=λx hx=>⟨UX (by rw[<-yK];exact hx),sN x hx⟩
 have gS:=pR hk
 have oT:=tM hk
 have GJ:=Ay xg
 have hK:=ak.refl [] w
 have xh:b∉E:=h.mem.2.2.1
 have Ej:b∈L:=h.mem.1 b sm
 refine cU [] 109 Tryz.func183 rfl YR rfl rfl ?_
 refine zr<|fA rfl ?_
 intro w1 aJ cT dV
 have hK:=hK.ext aJ
 refine ag<|zr<|zL bT aH rfl cT.all rfl<|zm<|gA bh bB rfl rfl ?_
 intro w2 aq sY eK
 have hK:=hK.ext aq;have cT:=cT.ext aq
 refine gM bh bB ?_
 intro w3 aK vg iK
 have hK:=hK.ext aK;have cT:=cT.ext aK;have sY:=sY.ext aK
 refine aC (IV rest.n rest (lR _) rl bF [name] [] so so _ _ _ (some w2.heap.size) w3 ((hv.fresh (L':=[w2.heap.size]) (λx hx=>.inr (by simp at hx;omega))).ext hK) (aY.eF [name] sY (λhx=>by simp at hx;omega)) vg.ll) ?_
 rintro GG w4 ⟨g22,GK,ug⟩
 rw[<-yK] at GK
 have kf:ak [] w w4:=(hK.since ug.aO (λx hx=>.inr (by simp at hx;omega)))
 have NW:∀x,x∈g22.toList->w.heap.size<=x:=(λx hx=>by rcases ug.mem x hx with h9|h9;(·simp at h9;omega);(·omega))
 have iF:bI L w4 GG FR:=GK.rep (λx hx NX=>by have:=NW x (by simp[hx]);have:=lS x NX;omega)
 have aR:=eI iF
 obtain⟨NY,n22,NZ,N0,N2⟩:=aR
 subst N0
 subst N2
 have cT:fh L w4 w.heap.size [str rest.av.az,.slice ar nr cr].toArray 66:=⟨cT.aO ug.aO so,λhx=>by have:=lS _ hx;omega⟩
 have aw:=h.ext kf
 have hR:=(eQ.refl E L w).ext kf
 clear sY vg
 refine zA<|ag<|zr<|zm<|aC (NA m om E L b true w4 aw) ?_
 rintro v24 w5 ⟨⟨N3,aw⟩,yI⟩
 subst N3
 have hR:=hR.aL yI Ej xh
 have iF:=cD.aL iF yI (by simpa using Ej)
 have cT:=cT.aL yI (by simpa using Ej)
 refine zA<|ag<|zr<|zm<|aC (vz kind om w5) ?_
 rintro v6 w6 ⟨kU,bD⟩
 have ob:=bD.size
 have cT:=cT.ext bD;have aw:=aw.ext bD;have hR:=hR.ext bD;have iF:=iF.ext bD
 obtain rfl:=kU
 refine aC (Gt (bL kind) om w6) ?_
 rintro v7 w7 ⟨iV,cv⟩
 have pg:=cv.size
 have cT:=cT.ext cv;have aw:=aw.ext cv;have hR:=hR.ext cv;have iF:=iF.ext cv
 obtain rfl:=iV
 have dC:=aw.dM
 refine zA<|ag<|zr<|zm<|aC (vz kind om w7) ?_
 rintro v8 w8 ⟨oP,cu⟩
 have yu:=cu.size
 have cT:=cT.ext cu;have aw:=aw.ext cu;have hR:=hR.ext cu;have iF:=iF.ext cu
 obtain rfl:=oP
 have dC:=aw.dM
 refine gA bh bB rfl rfl ?_
 intro w9 aG AX dP
 have cT:=cT.ext aG;have aw:=aw.ext aG;have hR:=hR.ext aG;have iF:=iF.ext aG
 refine zA<|ag<|zr<|zm<|zm<|zm<|zm<|di rfl<|zf KI rfl ?_
 have tZ:bI L w9 _ [bL kind]:=aY.eF [bL kind] AX (λhx=>by have:=dC _ hx;omega)
 have aR:=hR.tk hT eT
 obtain⟨u1,u3,u4,u5,u6,u8,yC,hC⟩:=aR
 have cA:aY w9 bt [str t.aP,u1,.int .i64 (t.loads:Int),u3,u4,u5,u6,str t.expr.av.az,u8,.int .i64 (t.on:Int),str t.bm,.int .i64 (t.next:Int)].toArray 130:=yC
 refine zl cg rfl (cA.at rfl)<|zm<|zm<|zm<|aC (UI t m.lG FR t.bm m.aP (dX (bL kind)) [bL kind] gC hs oZ pb ri kM om om sm (by intro x hx;simp at hx;subst hx;omega) ht hc E L b bt _ _ w9 aw (hR.tk hT eT) eT iF tZ) ?_
 rintro v42 cN ⟨yl,L1,aw,bY⟩
 rw[<-hP] at yl aw
 subst yl
 have hR:=hR.go bY;have iF:=iF.go bY.fr;have tZ:=tZ.go bY.fr;have cT:=cT.go bY.fr
 have agP:fh [] cN w.heap.size [str rest.av.az,.slice ar nr cr].toArray 66:=⟨cT.ju,sm⟩
 have yE:s5 L1 [] cN _ [bL kind]:=(by unfold s5;rw[List.append_nil];exact tZ)
 have aR:=hR.tk hT eT
 obtain⟨u1,u3,u4,u5,u6,u8,yC,hC⟩:=aR
 have cA:fh [] cN bt [str t.aP,u1,.int .i64 (t.loads:Int),u3,u4,u5,u6,str t.expr.av.az,u8,.int .i64 (t.on:Int),str t.bm,.int .i64 (t.next:Int)].toArray 130:=⟨yC,sm⟩
 have uh:=aw.dM
 have am2:=cT
 have cT:=agP
 have GL:=iF
 have mi:=aw
 have tX:=hR
 clear AX
 refine zm<|zx (i:=0) rfl rfl<|zx (i:=1) rfl rfl<|zA<|zA<|ag<|aQ ?_
 apply kc eu ([]) 18 (rA 45 17++[16]) (rA 45 17++[16]) [[],[],[1],[],[2,3],[],[5],[6],[],[],[9],[10],[],[12],[13],[14],[0,4,7,8,11,15],[]] [Ie.v _,Ie.v _,Ie.p (fun(G:List Nat) (v:Value) (ww:World)=>s5 L1 G ww v [P.w]),Ie.v _,Ie.p (fun(G:List Nat) (v:Value) (ww:World)=>s5 L1 G ww v ([P.w]++[bL kind])),Ie.v _,Ie.v _,Ie.v _,Ie.v _,Ie.v _,Ie.v _,Ie.v _,Ie.v _,Ie.v _,Ie.v _,Ie.v _,Ie.p (fun(G:List Nat) (v:Value) (ww:World)=>∃a4 n4 c4,v= .agg [str m.aP,.slice a4 n4 c4,.int .i64 ((FR.length+1:Nat):Int),.slice none 0 0,.slice none 0 0,.slice none 0 0,.slice none 0 0,str rest.av.az,.slice ar nr cr,.int .i64 ((2+FR.length:Nat):Int),str t.bm,.int .i64 2].toArray∧s5 L1 G ww (.slice a4 n4 c4) ([P.w]++[bL kind])),Ie.e 0] [17] [fun(G:List Nat) (vs:List Value) (ww:World)=>G=[]∧ak [] cN ww,fun(G:List Nat) (vs:List Value) (ww:World)=>∃bb,vs.getD 0 undef= .pointer (some ⟨bb,0,none⟩)∧G=[bb]∧cN.heap.size<=bb∧aY ww bb [str [],.slice none 0 0,.int .i64 0,.slice none 0 0,.slice none 0 0,.slice none 0 0,.slice none 0 0,str [],.slice none 0 0,.int .i64 0,str [],.int .i64 0].toArray 130∧ak [] cN ww] de rfl ((λx hx=>by simp at hx)) (by exact⟨λG v w G' w' h k=>h.go k,λG v w G' w' h k=>h.go k,λG v w G' w' ⟨a4,n4,c4,e,h⟩ k=>⟨a4,n4,c4,e,h.go k⟩,trivial⟩) (by exact⟨λG vs w w' ⟨h1,h2⟩ k=>⟨h1,h2.ext k⟩,λG vs w w' ⟨bb,h1,h2,h3,h4,h5⟩ k=>⟨bb,h1,h2,h3,h4.ext k,h5.ext k⟩,trivial⟩) (⟨rfl,ak.refl _ _⟩)
 refine cR ?_
 refine cR ?_
 refine vf (λx eW GM aW xi Cy=>?_) ?_
 refine gA bh bB rfl rfl ?_
 intro gj dD agQ Nr
 exact ff dD ((aY.eF [P.w] agQ (λhx=>by have:=JE uh xi.aO.size Cy _ hx;omega)))
 refine cR ?_
 refine vf (λx eW GM aW xi Cy=>?_) ?_
 have yE:=yE.go xi
 intro v2 d2
 have fi:=JE uh xi.aO.size Cy
 refine aC (tP [P.w] [bL kind] sm _ _ _ eW d2 yE fi) ?_
 rintro v12 gj ⟨sX,dD⟩
 have D5:=dD.size
 have eR:=sX
 exact ff dD eR
 refine cR ?_
 refine vf (λ_ _ _ _ _ _=>eh bh rfl fv) ?_
 refine vf (λ_ _ _ _ _ _=>eE rfl rfl rfl (wrap_i64 _ om om) fv) ?_
 refine vf (λx eW GM aW xi Cy=>?_) ?_
 have cT:=cT.go xi
 refine zL bT aH rfl cT.all rfl ?_
 exact fv
 refine cR ?_
 refine vf (λ_ _ _ _ _ _=>eh bh rfl fv) ?_
 refine vf (λ_ _ _ _ _ _=>eE rfl rfl rfl (wrap_i64 _ om om) fv) ?_
 refine cR ?_
 refine vf (λ_ _ _ _ _ _=>di rfl fv) ?_
 refine vf (λ_ _ _ _ _ _=>zf KI rfl fv) ?_
 refine vf (λx eW GM aW xi Cy=>?_) ?_
 have cA:=cA.go xi
 refine zl cg rfl (cA.at rfl) ?_
 exact fv
 refine vf (λx eW GM aW xi Cy=>?_) ?_
 intro v4 d4
 have aR:=eI d4
 obtain⟨a4,n4,c4,e4,_⟩:=aR
 subst e4
 refine j6 (UY _ _ _ _ _ _ _ _ _ _ _ _ _) rfl rfl ?_
 exact ff (ak.refl _ _) (⟨a4,n4,c4,rfl,d4⟩)
 refine ve 0 (λx eW GM aW xi Cy hJ hlen=>?_) ?_
 have bo:=jO hlen
 subst bo
 obtain⟨cz,cB⟩:=hJ
 subst cz
 refine eC k8 rfl rfl rfl ?_
 intro gj dD wi F8
 exact fe ([_]) (⟨dD.mono sm,λx hx=>by simp at hx;right;omega⟩) ((λx hx=>by simp at hx;omega)) (⟨_,rfl,rfl,cB.size,wi,cB.trans dD⟩)
 exact trivial
 intro x og G50 aW agR am4 hJ hlen
 have aR:=jP hlen
 obtain⟨q0,bo⟩:=aR
 subst bo
 intro v2 d2
 intro v4 d4
 intro yt d16
 have cA:=cA.go agR
 change OW _ _ _ _ _ (aM (aN _ x _) (zZ 45 [_,_,_,_,_,_,_,_,_,_,_,_,_,_,_,_,_]++[(16,_)])) _
 obtain⟨bk,r8,cz,Cz,fz,cB⟩:=hJ
 have vu:q0=_:=r8
 subst vu
 subst cz
 obtain⟨a4,n4,c4,AY,N4⟩:=d16
 subst AY
 refine dk k8 rfl rfl rfl fz rfl ?_
 intro lK lr fz dP
 have iO:=fz.lt
 have xj:=cB.since lr (λx hx=>.inr (by simp at hx;omega))
 have aw:=mi.s0 xj sm Cz iO
 have hR:=tX.more xj sm Cz (λy hy=>uh y (mi.sub hy))
 have N5:∀x,x∈bk::L1->x∈L1++[bk]:=(λx hx=>by simp at hx⊢;rcases hx with h|h;(·exact .inr h);(·exact .inl h))
 have vI:bk∈bk::L1:=sm
 have Ek:bk∉E:=(λhx=>by have:=uh bk (mi.sub hx);omega)
 have iF:=(GL.fresh (L':=bk::L1) (λx hx=>by rcases mC.1 hx with rfl|hx;(·exact .inr Cz);(·exact .inl hx))).ext xj
 have AO:=fG.go bc hR.fr
 have gz:iq (bk::L1) lK 130 bk (ub m.aP P.w [bL kind] FR rest t.bm (iT t.sc 2 (FR.take 0) [])):=⟨_,_,_,_,_,_,fz,⟨(cD.aL N4 lr sm).fresh (λx hx=>.inl (N5 x hx)),.nil _ _ _,.nil _ _ _,.nil _ _ _,.nil _ _ _,AO⟩⟩
 refine ag<|aQ<|zr<|zA<|ag<|cP ?_
 refine fZ (λi:Nat=>[(0,.pointer (some ⟨b,0,none⟩)),(1,.pointer (some ⟨bt,0,none⟩)),(2,str name),(3,str kind.text),(10,.slice NY FR.length NZ),(12,str (dX (bL kind))),(14,.int .i64 (P.r:Int)),(16,.pointer (some ⟨bk,0,none⟩)),(17,.int .i64 (i:Int))]) (λi w'=>ak [bk] lK w'∧i<=FR.length∧iq (bk::L1) w' 130 bk (ub m.aP P.w [bL kind] FR rest t.bm (iT t.sc 2 (FR.take i) []))) (λi=>FR.length-i) (0) (⟨rfl,rfl,rfl,rfl,rfl,rfl,rfl,rfl,rfl⟩) (⟨ak.refl _ _,Nat.zero_le _,gz⟩) ?_
 intro gg AQ JG hI
 obtain⟨dm,hi,gz⟩:=hI
 have aw:=aw.aO dm sm
 have hR:=hR.aL dm vI Ek
 have iF:=cD.aL iF dm sm
 refine aQ<|zr<|zm<|zm<|eh bh rfl<|fJ rfl rfl rfl<|ag<|zc rfl (λh1=>?_) (λh1=>?_)
 have ky:gg<FR.length:=(by simp at h1;omega)
 have Ct:=List.mem_of_getElem? (lj ky)
 have aR:=hR.tk hT eT
 obtain⟨u1,u3,u4,u5,u6,u8,cA,hC⟩:=aR
 have CA:=hC.aX
 have CB:=hC.types
 have aR:=oq iF ky
 obtain⟨b2,nk,e2,bX⟩:=aR
 cases e2
 have Nk:=aw.dM
 refine bA<|aQ<|cP ?_
 apply mx eu 19 (rA 68 19) (rA 68 19) [[],[],[0,1],[2],[],[4],[],[6],[7],[8],[],[10],[11],[12],[],[],[14,15],[16],[9,13,17]] [It.v _,It.v _,It.v _,It.v _,It.v _,It.v _,It.v _,It.v _,It.v _,It.v _,It.v _,It.v _,It.v _,It.v _,It.v _,It.v _,It.v _,It.v _,It.v _] de rfl
 intro wd aB
 refine eM ?_
 refine eM ?_
 refine vk aB (λx mj pw=>?_) ?_
 refine zi bh bB rfl rfl om ?_
 exact pv
 refine vk aB (λx mj pw=>?_) ?_
 have bX:=bX.ext pw
 refine zl cg rfl (bX.cells 0 _ rfl) ?_
 exact pv
 refine eM ?_
 refine vk aB (λx mj pw=>?_) ?_
 refine eE rfl rfl rfl (wrap_i64 _ om om) ?_
 exact pv
 refine eM ?_
 refine vk aB (λx mj pw=>?_) ?_
 refine di rfl ?_
 exact pv
 refine vc (λ_ _ _=>zf zD rfl pv) ?_
 refine vk aB (λx mj pw=>?_) ?_
 have cA:=cA.ext pw
 refine zl eO rfl (cA.at rfl) ?_
 exact pv
 refine eM ?_
 refine vk aB (λx mj pw=>?_) ?_
 refine di rfl ?_
 exact pv
 refine vc (λ_ _ _=>zf Db rfl pv) ?_
 refine vk aB (λx mj pw=>?_) ?_
 have cA:=cA.ext pw
 refine zl eO rfl (cA.at rfl) ?_
 exact pv
 refine eM ?_
 refine eM ?_
 refine vk aB (λx mj pw=>?_) ?_
 refine zi bh bB rfl rfl om ?_
 exact pv
 refine vk aB (λx mj pw=>?_) ?_
 have bX:=bX.ext pw
 refine zl cg rfl (bX.cells 0 _ rfl) ?_
 exact pv
 refine vk aB (λx mj pw=>?_) ?_
 have CA:=CA.ext pw;have CB:=CB.ext pw
 refine aC (FZ (ka t.sc) (o9 t.sc) (by simp[ka,o9]) (by simp[ka];omega) (aF FR gg) _ _ _ _ mj CA CB) ?_
 rintro v54 ui ⟨agS,AZ⟩
 have am6:=AZ.size
 have eR:=agS
 rw[NF (gC _ Ct).2] at eR
 subst eR
 exact pk AZ
 exact trivial
 intro x Cd vm
 have aw:=aw.ext vm;have gz:=gz.ext vm;have dm:=dm.ext vm
 change OW _ _ _ _ _ (aM (aN _ x _) (zZ 68 [_,_,_,_,_,_,_,_,_,_,_,_,_,_,_,_,_,_,_])) _
 refine aC (Ee (ub m.aP P.w [bL kind] FR rest t.bm (iT t.sc 2 (FR.take gg) [])) (aF FR gg) (2+gg) (kE t.sc (aF FR gg)) (by show(iT t.sc 2 (FR.take gg) []).length<100000;rw[yd,List.length_take];omega) (bk::L1) bk Cd vI aw.dM gz) ?_
 rintro v87 w93 ⟨gz,mI⟩
 have agU:=mI.size
 refine ag<|db<|zm<|eE rfl rfl rfl (wrap_i64 _ om om)<|zA<|ag ?_
 exact⟨gg+1,⟨rfl,rfl,rfl,rfl,rfl,rfl,rfl,rfl,rfl⟩,⟨dm.trans mI,om,by rw[UT ky];exact gz⟩,om⟩
 have Al:gg=FR.length:=(by simp at h1;omega)
 subst Al
 rw[List.take_length] at gz
 refine gF<|gH rfl<|zr<|zm<|zm<|aC (Ee (ub m.aP P.w [bL kind] FR rest t.bm (iT t.sc 2 FR [])) name 1 kind (by show(iT t.sc 2 FR []).length<100000;rw[yd];omega) (bk::L1) bk AQ vI aw.dM gz) ?_
 rintro v90 mj ⟨gz,tR⟩
 have aw:=aw.aO tR sm
 have hR:=hR.aL tR vI Ek
 have gz:iq (bk::L1) mj 130 bk (ub m.aP P.w [bL kind] FR rest t.bm (iT t.sc 2 FR []++[(name,1,kind)])):=gz
 have Jx:P.m.bW.length<100000:=(by rw[GI];exact gw)
 have aR:=aw.open
 obtain⟨vb,vt,vc,vy,gb,gt,gc,gy,tU,hS⟩:=aR
 have aR:=hS.apart
 obtain⟨yA,nH,vA,mG,vB,tW⟩:=aR
 obtain⟨u1,u3,u4,u5,u6,u8,GN,s8⟩:=gz
 have bj:fh gt.toList mj b [vb,vt,.int .i64 ((P.m).count:Int),.bool (P.m).wide,vc,vy].toArray 127:=⟨tU,λhx=>(mG b hx).2.1 rfl⟩
 have fz:fh gt.toList mj bk (pO (ub m.aP P.w [bL kind] FR rest t.bm (iT t.sc 2 FR []++[(name,1,kind)])) u1 u3 u4 u5 u6 u8).toArray 130:=⟨GN,λhx=>(mG bk hx).1 sm⟩
 have pY:fy gt.toList mj:=(λx hx=>hS.cZ x (hS.mem.2 (by simp[hx])))
 have A1:∀x,x∈gt.toList->x∈(bk::L1):=(λx hx=>hS.mem.2 (by simp[hx]))
 refine ag<|aQ ?_
 apply kc eu gt.toList 8 (rA 91 8) (rA 91 8) [[],[],[1],[2],[3],[],[5],[4,6]] [Ie.v _,Ie.v _,Ie.v _,Ie.v _,Ie.v _,Ie.v _,Ie.p (fun(G:List Nat) (v:Value) (ww:World)=>∃bb,v= .slice (some ⟨bb,0,none⟩) 1 1∧fh G ww bb (pO (ub m.aP P.w [bL kind] FR rest t.bm (iT t.sc 2 FR []++[(name,1,kind)])) u1 u3 u4 u5 u6 u8).toArray 130),Ie.e 0] [7] [fun(G:List Nat) (vs:List Value) (ww:World)=>G=gt.toList∧ak [] mj ww,fun(G:List Nat) (vs:List Value) (ww:World)=>∃g2,ey (gt.toList++(g2.toList++(bk::L1))) ww 130 12 (vs.getD 0 undef) g2 (((P.m).bW++[(ub m.aP P.w [bL kind] FR rest t.bm (iT t.sc 2 FR []++[(name,1,kind)]))]).map Tk.enc)∧ak gt.toList mj ww∧(g2=gt∨∃x,g2=some x∧mj.heap.size<=x)] de rfl pY (by exact⟨λG v w G' w' ⟨bb,e,h⟩ k=>⟨bb,e,h.go k⟩,trivial⟩) (by exact⟨λG vs w w' ⟨h1,h2⟩ k=>⟨h1,h2.ext k⟩,λG vs w w' ⟨g2,h1,h2,h3⟩ k=>⟨g2,h1.ext k,h2.ext k,h3⟩,trivial⟩) (⟨rfl,ak.refl _ _⟩)
 refine cR ?_
 refine cR ?_
 refine vf (λ_ _ _ _ _ _=>di rfl fv) ?_
 refine vf (λ_ _ _ _ _ _=>zf zB rfl fv) ?_
 refine vf (λx ui N6 aW GO JH=>?_) ?_
 have bj:=bj.go GO
 refine zl E1 rfl (bj.at rfl) ?_
 exact fv
 refine vf (λx ui N6 aW GO JH=>?_) ?_
 have fz:=fz.go GO
 refine zL C8 k8 rfl fz.all rfl ?_
 exact fv
 refine vf (λx ui N6 aW GO JH=>?_) ?_
 refine sB [_] [pO (ub m.aP P.w [bL kind] FR rest t.bm (iT t.sc 2 FR []++[(name,1,kind)])) u1 u3 u4 u5 u6 u8] xG k8 rfl rfl rfl rfl rfl rfl rfl rfl rfl ?_
 intro JI xk GP U2
 exact ff xk (⟨_,rfl,GP.o JH⟩)
 refine ve 0 (λx ui N6 aW GO JH hJ hlen=>?_) ?_
 have bo:=jO hlen
 subst bo
 intro v6 d6
 obtain⟨bb,e6,gx⟩:=d6
 subst e6
 obtain⟨cz,cB⟩:=hJ
 subst cz
 have x6:=(hS.ta.any cB).sub (L':=gt.toList++(bk::L1)) (λx hx=>.inl (by rcases mA.1 hx with h|h;(·exact A1 x h);(·exact h)))
 have A2:=s8.ext cB
 refine BP (L:=(bk::L1)) (row:=Tk.enc (ub m.aP P.w [bL kind] FR rest t.bm (iT t.sc 2 FR []++[(name,1,kind)]))) xG k8 rfl rfl rfl rfl rfl rfl x6 rfl gx.all (λu hu=>List.all_eq_true.1 A2.one u hu) (A2.go ((Fr.refl _ _).to (L2:=gt.toList++(bk::L1)) (λx hx=>.inl (by rcases mA.1 hx with h|h;(·exact A1 x h);(·exact h))))).BC (by rw[List.length_map];omega) ?_
 intro v9 g9 JI dK tY fN
 exact fe g9.toList (⟨tY.aO,λx hx=>by rcases fN with h|h;(·rw[h] at hx;exact .inl hx);(·rw[h] at hx;simp at hx;right;omega)⟩) ((λx hx=>dK.lt x hx)) (⟨g9,by rw[List.map_append];exact dK,cB.any.trans tY.aO,fN.imp id (λh=>⟨_,h,cB.size⟩)⟩)
 exact trivial
 intro x w93 G93 aW agW am8 hJ hlen
 have aR:=jP hlen
 obtain⟨q0,bo⟩:=aR
 subst bo
 intro v6 d6
 have bj:=bj.go agW
 change OW _ _ _ _ _ (aM (aN _ x _) (zZ 91 [_,_,_,_,_,_,_,_])) _
 obtain⟨g2,dK,fg,iz⟩:=hJ
 have aR:=hS.Ff dK fg iz
 obtain⟨L3,gk,jU⟩:=aR
 have aR:=dK.len
 obtain⟨a3,c3,e3⟩:=aR
 have e4:q0=_:=e3
 subst e4
 have bj:aY _ b [vb,vt,.int .i64 ((P.m).count:Int),.bool (P.m).wide,vc,vy].toArray 127:=tU.aO fg (λhx=>(mG b hx).2.1 rfl)
 refine di rfl<|zf zB rfl<|gX (o:=1) KN rfl rfl rfl bj rfl ?_
 intro w94 U3 bj dP
 have gk:=gk.aO U3 sm
 have aw:ei t8 (bk::E) L3 w94 b true {P.m with bW:=(P.m).bW++[(ub m.aP P.w [bL kind] FR rest t.bm (iT t.sc 2 FR []++[(name,1,kind)]))]}:=⟨_,_,_,_,_,_,_,_,bj,gk⟩
 have hR:=(hR.add jU fg (λx hx vJ=>(mG x hx).1 (by simp[vJ]))).aL U3 (gk.mem.2 (.inr (.inl rfl))) (λvJ=>nH (by simp[vJ]))
 rw[GI] at aw
 have aR:=aw.drop
 obtain⟨L4,N7,aw⟩:=aR
 have hR:=hR.sub (L2:=L4) (λx hx=>by rw[N7];simp[hx])
 have aR:=hR.tk hT eT
 obtain⟨u1,u3,u4,u5,u6,u8,cA,hC⟩:=aR
 have yL:=aw.sub eT
 refine ag<|zr<|zm<|zm<|di rfl<|zf HJ rfl<|gX (o:=9) tt rfl rfl rfl cA rfl ?_
 intro El s9 cA dP
 have hC:=hC.aL s9 (by simpa using yL)
 have aw:=aw.aO s9 (by simpa using eT)
 have hF:=hR.fr.aL s9 (by simpa using yL)
 have tQ:=hR.out
 obtain⟨G0,gN,Gx⟩:=tQ
 have gN:ak (G0++[bt]) w El:=(gN.mono (λz hz=>List.mem_append_left _ hz)).trans (s9.mono (λz hz=>mR _ hz))
 refine ag<|db<|zm<|zm<|di rfl<|zf KI rfl<|gX (o:=10) bB rfl rfl rfl cA rfl ?_
 intro GQ A3 cA dP
 have hC:=hC.aL A3 (by simpa using yL)
 have aw:=aw.aO A3 (by simpa using eT)
 have hF:=hF.aL A3 (by simpa using yL)
 have gN:=gN.trans (A3.mono (λz hz=>mR _ hz))
 refine ag ?_
 exact⟨_,rfl,L4,aw,⟨u1,u3,u4,u5,u6,u8,cA,⟨hC.regs,hC.self,hC.aX,hC.at_,hC.types,hC.au⟩⟩,hF,_,gN,λz hz si=>by rcases mA.1 hz with h9|h9;(·exact absurd si (Gx z h9));(·simpa using h9)⟩
def rz (aP:aj) (W:aj) (nd:List aj) (FR:List aj) (e:Ex) (bm:aj) (self:List aj) (sc:da):Tk:=⟨aP,W::nd,FR.length,self,sc,e,2,bm,3⟩
def sj (s:da) (FR:List aj) (f:aj) (A B:Ty) (e:Ex):da:=if 0<im f e then iT s 3 FR []++[(f,3+FR.length+2,.op true A B)] else iT s 3 FR []
def uj (f:aj) (A B:Ty) (e:Ex) (W:aj):List aj:=if 0<im f e then[bL (.op true A B),W] else[]
theorem agY (m:Mk) (s:da) (ton:Nat) (f x:aj) (A B:Ty) (e:Ex) {FR:List aj} (hF:FR=cF (.fn f x A B e) [] []) (hP:P=o8 m.lG s ton FR [] m.aP (bL (.op true A B)) [bL A,dX (bL B)]):
  Aj m s f x A B e=({P.m with bW:=m.bW++[rz m.aP P.w [bL A,dX (bL B)] FR e (dX (bL B)) (uj f A B e P.w) (sj s FR f A B e++[(x,1,A)])]},P.r):=by
 have h1:oH m s f x A B e=P:=by rw[hP,hF];unfold oH;simp[o8]
 have h2:P.m.bW=m.bW:=by rw[hP];rfl
 unfold Aj Ai Ah
 rw[h1,h2,<-hF];rfl
theorem agZ (t:Tk) (x:aj) (r:Nat) (T:Ty) (s:aj) (hs:s=T.text) (hl:t.sc.length<100000) (L:List Nat) (bt:Nat) (w:World) (qY:bt∈L) (lM:∀x,x∈L->x<w.heap.size) (hT:iq L w 130 bt t):
  bZ Tryz.prog 149 [.pointer (some ⟨bt,0,none⟩),str x,.int .i64 (r:Int),str s] w λ_ w'=>iq L w' 130 bt {t with sc:=t.sc++[(x,r,T)]}∧ak [bt] w w':=by subst hs;exact Ee t x r T hl L bt w qY lM hT
theorem ag0 (h:ja L w b off vs):ja [] w b off vs:=⟨h.cells,h.lt,sm⟩
set_option maxHeartbeats 4000000 in
theorem ag1 (t:Tk) (m:Mk) (f ax:aj) (A B:Ty) (e:Ex) (bF:(Ex.fn f ax A B e).ok) (rl:(Ex.fn f ax A B e).n<=1000) (sN:∀y,y∈cF (.fn f ax A B e) [] []->(look (fj t.sc) y).isSome=true) (pb:(cF (.fn f ax A B e) [] []).length<=40) (hs:kt t.sc) (oZ:t.sc.length<=9000) (Az:1+A.n+B.n<=16) (ri:t.on<1000) (ht:m.types.length+4<1000) (hc:m.code.length<=8000) (xg:m.count<1000) (gw:m.bW.length<100000) 
  (E L:List Nat) (b bt:Nat) (v:Value) (w:World) (h:ei t8 E L w b true m) (hT:iq L w 130 bt t) (eT:bt∈E) (hv:bS L w v (Ex.fn f ax A B e).av):
  bZ Tryz.prog 185 [.pointer (some ⟨b,0,none⟩),.pointer (some ⟨bt,0,none⟩),v] w λr w'=>r= .int .i64 ((Aj m t.sc f ax A B e).2:Int)∧∃L',ei t8 E L' w' b true (Aj m t.sc f ax A B e).1∧eQ E L w L' w':=by
 obtain⟨ar,nr,cr,rfl,p9,bc⟩:=dN hv
 subst p9
 have lS:=h.dM
 obtain⟨FR,yK⟩:∃z:List aj,z=cF (.fn f ax A B e) [] []:=⟨_,rfl⟩
 obtain⟨P,hP⟩:∃z:Pk,z=o8 m.lG t.sc t.on FR [] m.aP (bL (.op true A B)) [bL A,dX (bL B)]:=⟨_,rfl⟩
 rw[agY m t.sc t.on f ax A B e yK hP]
 obtain⟨GI,AW,hPw⟩:=U0 hP
 rw[<-yK] at pb sN
 have gC:∀x,x∈FR->eP x=true∧(look (fj t.sc) x).isSome=true:=λx hx=>⟨UX (by rw[<-yK];exact hx),sN x hx⟩
 obtain⟨GR,hox,ag3,hoA,hoB,U4⟩:=bF
 have kA:=pR (T:=A) om
 have rB:=tM (T:=B) om
 have am9:=pR (T:=B) om
 have JJ:=pR (T:=Ty.op true A B) (show 1+A.n+B.n<=16 from Az)
 have GJ:=Ay xg
 have U5:=A.len
 have U6:=B.len
 have ana:A.av.text.length<=100:=show A.text.length<=100 from by omega
 have anb:B.av.text.length<=100:=show B.text.length<=100 from by omega
 have hzA:=A.size
 have hzB:=B.size
 have wN:(Ex.fn f ax A B e).n=3+A.n+B.n+e.n:=rfl
 have pS:((((([40,62,32]:aj)++A.text)++[32])++B.text)++[41])=(Ty.op true A B).text:=by rw[Ty.H6];simp[ko]
 have I9:(Ex.fn f ax A B e).av.au.length=6:=rfl
 have hK:=ak.refl [] w
 have xh:b∉E:=h.mem.2.2.1
 have Ej:b∈L:=h.mem.1 b sm
 have hR:=eQ.refl E L w
 obtain⟨b1,ga,gY,gZ,e1,bC,dd⟩:=fI bc (i:=1) om
 cases e1
 have bC:ja L w _ _ [str f,.slice gY 0 gZ]:=bC
 obtain⟨b2,nk,jc,jd,e2,bX,eA⟩:=fI bc (i:=2) om
 cases e2
 have bX:ja L w _ _ [str ax,.slice jc 0 jd]:=bX
 obtain⟨b3,B6,pU,pV,e3,ew,eY⟩:=fI bc (i:=3) om
 cases e3
 have eY:bS L _ _ A.av:=eY
 obtain⟨b4,afA,MG,MH,e4,jI,pW⟩:=fI bc (i:=4) om
 cases e4
 have pW:bS L _ _ B.av:=pW
 obtain⟨b5,afB,Eb,Ec,e5,jY,nB⟩:=fI bc (i:=5) om
 cases e5
 have jY:ja L w _ _ [str e.av.az,.slice Eb e.av.au.length Ec]:=jY
 have nB:bS L w (.agg #[str e.av.az,.slice Eb e.av.au.length Ec]) e.av:=nB
 have dz:bS L w _ (Ex.fn f ax A B e).av:=hv
 have hSF:∀w:World,bZ Tryz.prog 111 [str ((((([40,62,32]:aj)++A.text)++[32])++B.text)++[41])] w λr w'=>r=str (bL (.op true A B))∧ak [] w w':=λw=>by rw[pS];exact vz (.op true A B) (show 1+A.n+B.n<=60 from om) w
 refine cU [.tmp 6] 139 Tryz.func185 rfl YT rfl rfl ?_
 refine zr<|fA rfl ?_
 intro w1 aJ bQ dV
 have hK:=hK.ext aJ;have hR:=hR.ext aJ
 refine zA<|ag<|zr<|zf cM rfl<|zl cK rfl (bQ.at rfl)<|zA<|ag<|zr<|zm<|zi (i:=3) cw aH rfl rfl ((show 3<6 from om))<|zL bT aH rfl ((ew.go hR.fr).cells) rfl<|aC (tx A.av.size A.av (lR _) A.oF.wf om (show A.text.length<=100000000 from om) _ _ w1 (eY.go hR.fr)) ?_
 rintro v2 w2 ⟨dz,aq⟩
 have dR:=aq.size
 have hK:=hK.ext aq;have hR:=hR.ext aq;have bQ:=bQ.ext aq
 obtain rfl:=dz
 refine zA<|ag<|zr<|zm<|zi (i:=4) cw aH rfl rfl ((show 4<6 from om))<|zL bT aH rfl ((jI.go hR.fr).cells) rfl<|aC (tx B.av.size B.av (lR _) B.oF.wf om (show B.text.length<=100000000 from om) _ _ w2 (pW.go hR.fr)) ?_
 rintro v3 w3 ⟨et,aK⟩
 have gd:=aK.size
 have hK:=hK.ext aK;have hR:=hR.ext aK;have bQ:=bQ.ext aK
 obtain rfl:=et
 refine zA<|ag<|zr<|zm<|cm rfl rfl so<|cm rfl rfl so<|zm<|cm rfl rfl so<|cm rfl rfl so<|zA<|ag<|zr<|zL bT aH rfl bQ.all rfl<|gM bh bB ?_
 intro w4 aD vE iL
 have hK:=hK.ext aD;have hR:=hR.ext aD;have bQ:=bQ.ext aD
 refine gM bh bB ?_
 intro w5 aT JK jo
 have hK:=hK.ext aT;have hR:=hR.ext aT;have bQ:=bQ.ext aT;have vE:=vE.ext aT
 have anf:=bQ
 refine aC (IV (Ex.fn f ax A B e).n (Ex.fn f ax A B e) (lR _) rl ⟨GR,hox,ag3,hoA,hoB,U4⟩ [] [] so so _ _ _ (some w4.heap.size) w5 ((dz.fresh (L':=[w4.heap.size]) (λx hx=>.inr (by simp at hx;omega))).ext hK) (vE.ll.rep (λx hx=>by simp at hx;subst hx;simp;omega)) JK.ll) ?_
 rintro GG w6 ⟨g22,GK,ug⟩
 rw[<-yK] at GK
 have kf:ak [] w w6:=(hK.since ug.aO (λx hx=>.inr (by simp at hx;omega)))
 have NW:∀x,x∈g22.toList->w.heap.size<=x:=(λx hx=>by rcases ug.mem x hx with h9|h9;(·simp at h9;omega);(·omega))
 have iF:bI L w6 GG FR:=GK.rep (λx hx NX=>by have:=NW x (by simp[hx]);have:=lS x NX;omega)
 have aR:=eI iF
 obtain⟨NY,n22,NZ,N0,N2⟩:=aR
 subst N0
 subst N2
 have aw:=h.ext kf
 have hR:=(eQ.refl E L w).ext kf
 clear vE JK
 refine zA<|ag<|zr<|zm<|aC (NA m om E L b true w6 aw) ?_
 rintro v24 w7 ⟨⟨N3,aw⟩,yI⟩
 subst N3
 have hR:=hR.aL yI Ej xh
 have iF:=cD.aL iF yI (by simpa using Ej)
 refine zA<|ag<|zr<|zm<|aC (hSF w7) ?_
 rintro v8 w8 ⟨oP,cu⟩
 have yu:=cu.size
 have hR:=hR.ext cu;have aw:=aw.ext cu;have iF:=iF.ext cu
 obtain rfl:=oP
 have dC:=aw.dM
 refine zA<|ag<|zr<|zm<|aC (vz A om w8) ?_
 rintro v9 w9 ⟨eR,aG⟩
 have ph:=aG.size
 have hR:=hR.ext aG;have aw:=aw.ext aG;have iF:=iF.ext aG
 obtain rfl:=eR
 have dC:=aw.dM
 refine zm<|aC (vz B om w9) ?_
 rintro v10 cN ⟨rr,bU⟩
 have Cc:=bU.size
 have hR:=hR.ext bU;have aw:=aw.ext bU;have iF:=iF.ext bU
 obtain rfl:=rr
 have dC:=aw.dM
 refine aC (Gt (bL B) om cN) ?_
 rintro v11 eW ⟨rC,cL⟩
 have CC:=cL.size
 have hR:=hR.ext cL;have aw:=aw.ext cL;have iF:=iF.ext cL
 obtain rfl:=rC
 have dC:=aw.dM
 refine lk bh bB rfl rfl rfl rfl ?_
 intro gj dD CD Nr
 have hR:=hR.ext dD;have aw:=aw.ext dD;have iF:=iF.ext dD
 refine zA<|ag<|zr<|zm<|zm<|zm<|zm<|zm<|zm ?_
 have tZ:bI L gj _ [bL A,dX (bL B)]:=aY.eF [bL A,dX (bL B)] CD (λhx=>by have:=dC _ hx;omega)
 refine aC (UI t m.lG FR [] m.aP (bL (.op true A B)) [bL A,dX (bL B)] gC hs oZ pb ri sm om om sm (by intro x hx;simp at hx;rcases hx with rfl|rfl<;>omega) ht hc E L b bt _ _ gj aw (hR.tk hT eT) eT iF tZ) ?_
 rintro v42 jC ⟨yl,L1,aw,bY⟩
 rw[<-hP] at yl aw
 subst yl
 have hR:=hR.go bY;have iF:=iF.go bY.fr;have tZ:=tZ.go bY.fr
 have yE:s5 L1 [] jC _ [bL A,dX (bL B)]:=(by unfold s5;rw[List.append_nil];exact tZ)
 have yM:=ag0 (jY.go hR.fr)
 have uh:=aw.dM
 have GL:=iF
 have mi:=aw
 have tX:=hR
 clear CD
 refine zm<|zx (i:=0) rfl rfl<|zx (i:=1) rfl rfl<|zA<|zA<|ag<|aQ ?_
 apply kc eu ([]) 15 (rA 59 14++[17]) (rA 59 14++[17]) [[],[],[1],[],[2,3],[],[5],[],[7],[8],[],[10],[11],[0,4,6,9,12],[]] [Ie.v _,Ie.v _,Ie.p (fun(G:List Nat) (v:Value) (ww:World)=>s5 L1 G ww v [P.w]),Ie.v _,Ie.p (fun(G:List Nat) (v:Value) (ww:World)=>s5 L1 G ww v ([P.w]++[bL A,dX (bL B)])),Ie.v _,Ie.v _,Ie.v _,Ie.v _,Ie.v _,Ie.v _,Ie.v _,Ie.v _,Ie.p (fun(G:List Nat) (v:Value) (ww:World)=>∃a4 n4 c4,v= .agg [str m.aP,.slice a4 n4 c4,.int .i64 (FR.length:Int),.slice none 0 0,.slice none 0 0,.slice none 0 0,.slice none 0 0,str e.av.az,.slice Eb e.av.au.length Ec,.int .i64 2,str (dX (bL B)),.int .i64 3].toArray∧s5 L1 G ww (.slice a4 n4 c4) ([P.w]++[bL A,dX (bL B)])),Ie.e 0] [14] [fun(G:List Nat) (vs:List Value) (ww:World)=>G=[]∧ak [] jC ww,fun(G:List Nat) (vs:List Value) (ww:World)=>∃bb,vs.getD 0 undef= .pointer (some ⟨bb,0,none⟩)∧G=[bb]∧jC.heap.size<=bb∧aY ww bb [str [],.slice none 0 0,.int .i64 0,.slice none 0 0,.slice none 0 0,.slice none 0 0,.slice none 0 0,str [],.slice none 0 0,.int .i64 0,str [],.int .i64 0].toArray 130∧ak [] jC ww] de rfl ((λx hx=>by simp at hx)) (by exact⟨λG v w G' w' h k=>h.go k,λG v w G' w' h k=>h.go k,λG v w G' w' ⟨a4,n4,c4,e,h⟩ k=>⟨a4,n4,c4,e,h.go k⟩,trivial⟩) (by exact⟨λG vs w w' ⟨h1,h2⟩ k=>⟨h1,h2.ext k⟩,λG vs w w' ⟨bb,h1,h2,h3,h4,h5⟩ k=>⟨bb,h1,h2,h3,h4.ext k,h5.ext k⟩,trivial⟩) (⟨rfl,ak.refl _ _⟩)
 refine cR ?_
 refine cR ?_
 refine vf (λx jf Em aW xl A4=>?_) ?_
 refine gA bh bB rfl rfl ?_
 intro p6 jD JL I0
 exact ff jD ((aY.eF [P.w] JL (λhx=>by have:=JE uh xl.aO.size A4 _ hx;omega)))
 refine cR ?_
 refine vf (λx jf Em aW xl A4=>?_) ?_
 have yE:=yE.go xl
 intro v2 d2
 have fi:=JE uh xl.aO.size A4
 refine aC (tP [P.w] [bL A,dX (bL B)] sm _ _ _ jf d2 yE fi) ?_
 rintro vq p6 ⟨Cu,jD⟩
 have NQ:=jD.size
 have eR:=Cu
 exact ff jD eR
 refine cR ?_
 refine vf (λ_ _ _ _ _ _=>eh bh rfl fv) ?_
 refine cR ?_
 refine vf (λ_ _ _ _ _ _=>zi (i:=5) cw aH rfl rfl ((show 5<6 from om)) fv) ?_
 refine vf (λx jf Em aW xl A4=>?_) ?_
 have yM:=yM.go xl
 refine zL bT aH rfl yM.cells rfl ?_
 exact fv
 refine cR ?_
 refine vf (λx jf Em aW xl A4=>?_) ?_
 refine aC (vz B om jf) ?_
 rintro vq p6 ⟨Cu,jD⟩
 have NQ:=jD.size
 obtain rfl:=Cu
 exact fk jD
 refine vf (λx jf Em aW xl A4=>?_) ?_
 refine aC (Gt (bL B) om jf) ?_
 rintro vq p6 ⟨Cu,jD⟩
 have NQ:=jD.size
 obtain rfl:=Cu
 exact fk jD
 refine vf (λx jf Em aW xl A4=>?_) ?_
 intro v4 d4
 have aR:=eI d4
 obtain⟨a4,n4,c4,e4,_⟩:=aR
 subst e4
 refine j6 (UY ⟨m.aP.toArray⟩ a4 n4 c4 (FR.length:Int) ⟨e.av.az.toArray⟩ Eb e.av.au.length Ec 2 ⟨(dX (bL B)).toArray⟩ 3 _) rfl rfl ?_
 exact ff (ak.refl _ _) (⟨a4,n4,c4,rfl,d4⟩)
 refine ve 0 (λx jf Em aW xl A4 hJ hlen=>?_) ?_
 have bo:=jO hlen
 subst bo
 obtain⟨cz,cB⟩:=hJ
 subst cz
 refine eC k8 rfl rfl rfl ?_
 intro p6 jD wi F8
 exact fe ([_]) (⟨jD.mono sm,λx hx=>by simp at hx;right;omega⟩) ((λx hx=>by simp at hx;omega)) (⟨_,rfl,rfl,cB.size,wi,cB.trans jD⟩)
 exact trivial
 intro x mj G53 aW ag7 anh hJ hlen
 have aR:=jP hlen
 obtain⟨q0,bo⟩:=aR
 subst bo
 intro v2 d2
 intro v4 d4
 intro wP d13
 have yM:=yM.go ag7
 change OW _ _ _ _ _ (aM (aN _ x _) (zZ 59 [_,_,_,_,_,_,_,_,_,_,_,_,_,_]++[(17,_)])) _
 obtain⟨bk,r8,cz,Cz,fz,cB⟩:=hJ
 have vu:q0=_:=r8
 subst vu
 subst cz
 obtain⟨a4,n4,c4,AY,N4⟩:=d13
 subst AY
 refine dk k8 rfl rfl rfl fz rfl ?_
 intro ui AZ fz dP
 have iO:=fz.lt
 have xj:=cB.since AZ (λx hx=>.inr (by simp at hx;omega))
 have aw:=mi.s0 xj sm Cz iO
 have hR:=tX.more xj sm Cz (λy hy=>uh y (mi.sub hy))
 have N5:∀x,x∈bk::L1->x∈L1++[bk]:=(λx hx=>by simp at hx⊢;rcases hx with h|h;(·exact .inr h);(·exact .inl h))
 have vI:bk∈bk::L1:=sm
 have Ek:bk∉E:=(λhx=>by have:=uh bk (mi.sub hx);omega)
 have iF:=(GL.fresh (L':=bk::L1) (λx hx=>by rcases mC.1 hx with rfl|hx;(·exact .inr Cz);(·exact .inl hx))).ext xj
 have AO:fG (bk::L1) ui (.slice Eb e.av.au.length Ec) e.av.au:=(by obtain⟨_,_,_,e9,_,yN⟩:=dN (nB.go hR.fr);cases e9;exact yN)
 have gz:iq (bk::L1) ui 130 bk (rz m.aP P.w [bL A,dX (bL B)] FR e (dX (bL B)) [] (iT t.sc 3 (FR.take 0) [])):=⟨_,_,_,_,_,_,fz,⟨(cD.aL N4 AZ sm).fresh (λx hx=>.inl (N5 x hx)),.nil _ _ _,.nil _ _ _,.nil _ _ _,.nil _ _ _,AO⟩⟩
 refine ag<|aQ<|zr<|zA<|ag<|cP ?_
 refine fZ (λi:Nat=>[(0,.pointer (some ⟨b,0,none⟩)),(1,.pointer (some ⟨bt,0,none⟩)),(7,.slice (some ⟨b1,ga,none⟩) 6 cr),(8,str A.text),(10,str (((((([40,62,32]:aj)++A.text)++[32])++B.text)++[41]))),(11,.slice NY FR.length NZ),(13,str (bL (.op true A B))),(15,.int .i64 (P.r:Int)),(16,str P.w),(17,.pointer (some ⟨bk,0,none⟩)),(18,.int .i64 (i:Int))]) (λi w'=>ak [bk] ui w'∧i<=FR.length∧iq (bk::L1) w' 130 bk (rz m.aP P.w [bL A,dX (bL B)] FR e (dX (bL B)) [] (iT t.sc 3 (FR.take i) []))) (λi=>FR.length-i) (0) (⟨rfl,rfl,rfl,rfl,rfl,rfl,rfl,rfl,rfl,rfl,rfl⟩) (⟨ak.refl _ _,Nat.zero_le _,gz⟩) ?_
 intro gg JI U7 hI
 obtain⟨dm,hi,gz⟩:=hI
 have aw:=aw.aO dm sm
 have hR:=hR.aL dm vI Ek
 have iF:=cD.aL iF dm sm
 refine aQ<|zr<|zm<|zm<|eh bh rfl<|fJ rfl rfl rfl<|ag<|zc rfl (λh1=>?_) (λh1=>?_)
 have ky:gg<FR.length:=(by simp at h1;omega)
 have Ct:=List.mem_of_getElem? (lj ky)
 have aR:=hR.tk hT eT
 obtain⟨u1,u3,u4,u5,u6,u8,cA,hC⟩:=aR
 have CA:=hC.aX
 have CB:=hC.types
 have aR:=oq iF ky
 obtain⟨b9,ot,e9,gq⟩:=aR
 cases e9
 refine bA<|aQ<|cP ?_
 apply mx eu 19 (rA 79 19) (rA 79 19) [[],[],[0,1],[2],[],[4],[],[6],[7],[8],[],[10],[11],[12],[],[],[14,15],[16],[9,13,17]] [It.v _,It.v _,It.v _,It.v _,It.v _,It.v _,It.v _,It.v _,It.v _,It.v _,It.v _,It.v _,It.v _,It.v _,It.v _,It.v _,It.v _,It.v _,It.v _] de rfl
 intro wd aB
 refine eM ?_
 refine eM ?_
 refine vk aB (λx ou kZ=>?_) ?_
 refine zi bh bB rfl rfl om ?_
 exact pv
 refine vk aB (λx ou kZ=>?_) ?_
 have gq:=gq.ext kZ
 refine zl cg rfl (gq.cells 0 _ rfl) ?_
 exact pv
 refine eM ?_
 refine vk aB (λx ou kZ=>?_) ?_
 refine eE rfl rfl rfl (wrap_i64 _ om om) ?_
 exact pv
 refine eM ?_
 refine vk aB (λx ou kZ=>?_) ?_
 refine di rfl ?_
 exact pv
 refine vc (λ_ _ _=>zf zD rfl pv) ?_
 refine vk aB (λx ou kZ=>?_) ?_
 have cA:=cA.ext kZ
 refine zl eO rfl (cA.at rfl) ?_
 exact pv
 refine eM ?_
 refine vk aB (λx ou kZ=>?_) ?_
 refine di rfl ?_
 exact pv
 refine vc (λ_ _ _=>zf Db rfl pv) ?_
 refine vk aB (λx ou kZ=>?_) ?_
 have cA:=cA.ext kZ
 refine zl eO rfl (cA.at rfl) ?_
 exact pv
 refine eM ?_
 refine eM ?_
 refine vk aB (λx ou kZ=>?_) ?_
 refine zi bh bB rfl rfl om ?_
 exact pv
 refine vk aB (λx ou kZ=>?_) ?_
 have gq:=gq.ext kZ
 refine zl cg rfl (gq.cells 0 _ rfl) ?_
 exact pv
 refine vk aB (λx ou kZ=>?_) ?_
 have CA:=CA.ext kZ;have CB:=CB.ext kZ
 refine aC (FZ (ka t.sc) (o9 t.sc) (by simp[ka,o9]) (by simp[ka];omega) (aF FR gg) _ _ _ _ ou CA CB) ?_
 rintro N8 N9 ⟨GS,yO⟩
 have U8:=yO.size
 have eR:=GS
 rw[NF (gC _ Ct).2] at eR
 subst eR
 exact pk yO
 exact trivial
 intro x El s9
 have aw:=aw.ext s9;have gz:=gz.ext s9;have dm:=dm.ext s9
 change OW _ _ _ _ _ (aM (aN _ x _) (zZ 79 [_,_,_,_,_,_,_,_,_,_,_,_,_,_,_,_,_,_,_])) _
 refine aC (Ee (rz m.aP P.w [bL A,dX (bL B)] FR e (dX (bL B)) [] (iT t.sc 3 (FR.take gg) [])) (aF FR gg) (3+gg) (kE t.sc (aF FR gg)) (by show(iT t.sc 3 (FR.take gg) []).length<100000;rw[yd,List.length_take];omega) (bk::L1) bk El vI aw.dM gz) ?_
 rintro v87 GQ ⟨gz,mI⟩
 have agU:=mI.size
 refine ag<|db<|zm<|eE rfl rfl rfl (wrap_i64 _ om om)<|zA<|ag ?_
 exact⟨gg+1,⟨rfl,rfl,rfl,rfl,rfl,rfl,rfl,rfl,rfl,rfl,rfl⟩,⟨dm.trans mI,om,by rw[UT ky];exact gz⟩,om⟩
 have Al:gg=FR.length:=(by simp at h1;omega)
 subst Al
 rw[List.take_length] at gz
 have yM:=jY.go hR.fr
 have xm:=bC.go hR.fr
 have Oa:=nB.go hR.fr
 refine gF<|gH rfl<|aQ<|aQ ?_
 apply mx eu 9 (rA 99 9) (rA 99 9) [[],[0],[1],[],[3],[4],[5],[2,6],[7]] [It.v _,It.v _,It.v _,It.v _,It.v _,It.v _,It.v _,It.v _,It.v _] de rfl
 intro wd aB
 refine eM ?_
 refine vk aB (λx ou kZ=>?_) ?_
 refine zi (i:=5) cw aH rfl rfl ((show 5<6 from om)) ?_
 exact pv
 refine vk aB (λx ou kZ=>?_) ?_
 have yM:=yM.ext kZ
 refine zL bT aH rfl yM.cells rfl ?_
 exact pv
 refine eM ?_
 refine vk aB (λx ou kZ=>?_) ?_
 refine zi (i:=1) cw aH rfl rfl ((show 1<6 from om)) ?_
 exact pv
 refine vc (λ_ _ _=>zf dB rfl pv) ?_
 refine vk aB (λx ou kZ=>?_) ?_
 have xm:=xm.ext kZ
 refine zl cg rfl (xm.cells 0 _ rfl) ?_
 exact pv
 refine vk aB (λx ou kZ=>?_) ?_
 have Oa:=Oa.ext kZ
 refine aC (adB f e.n e (lR _) om U4 _ _ ou Oa) ?_
 rintro N8 N9 ⟨GS,yO⟩
 have U8:=yO.size
 obtain rfl:=GS
 exact pk yO
 refine vk aB (λx ou kZ=>?_) ?_
 refine jx rfl rfl rfl rfl rfl ?_
 exact pv
 exact trivial
 intro x El s9
 have aw:=aw.ext s9;have hR:=hR.ext s9;have xm:=xm.ext s9;have gz:=gz.ext s9
 change OW _ _ _ _ [] (aM (aN _ x _) (zZ 99 [_,_,_,_,_,_,_,_,_])) _
 have ln:=ak.refl [bk] El
 refine ag ?_
 refine jh (λ_:Unit=>[(0,.pointer (some ⟨b,0,none⟩)),(7,.slice (some ⟨b1,ga,none⟩) 6 cr),(8,str A.text),(15,.int .i64 (P.r:Int)),(17,.pointer (some ⟨bk,0,none⟩))]) (λ_ ww=>ak [bk] El ww∧iq (bk::L1) ww 130 bk (rz m.aP P.w [bL A,dX (bL B)] FR e (dX (bL B)) (uj f A B e P.w) (sj t.sc FR f A B e))) ?_ ?_
 refine zc rfl (λh2=>?_) (λh2=>?_)
 have er:0<im f e:=(by simp at h2;omega)
 have dC:=aw.dM
 refine zr<|zm<|zm<|lk bh bB rfl rfl rfl rfl ?_
 intro GQ A3 ag8 ani
 have xm:=xm.ext A3;have gz:=gz.ext A3;have ln:=ln.ext A3
 refine zf Br rfl ?_
 have wh:bI (bk::L1) GQ _ [bL (.op true A B),P.w]:=aY.eF [bL (.op true A B),P.w] ag8 (λhx=>by have:=dC _ hx;omega)
 obtain⟨u1,u3,u4,u5,u6,u8,fz,s8⟩:=gz
 refine gX (o:=3) nL rfl rfl rfl fz rfl ?_
 intro vK JM fz dP
 have s8:=s8.aL JM sm
 have wh:=cD.aL wh JM sm
 have gz:iq (bk::L1) vK 130 bk (rz m.aP P.w [bL A,dX (bL B)] FR e (dX (bL B)) [bL (.op true A B),P.w] (iT t.sc 3 FR [])):=⟨u1,_,u4,u5,u6,u8,fz,⟨s8.regs,wh,s8.aX,s8.at_,s8.types,s8.au⟩⟩
 have xm:=xm.aL JM sm
 have Gu:=ln.trans JM
 have CE:∀x,x∈bk::L1->x<vK.heap.size:=(λx hx=>by have:=dC x hx;omega)
 refine ag<|db<|zm<|zi (i:=1) cw aH rfl rfl ((show 1<6 from om))<|zf dB rfl<|zl cg rfl (xm.cells 0 _ rfl)<|zm<|eh bh rfl<|eE rfl rfl rfl (wrap_i64 _ om om)<|eE rfl rfl rfl (wrap_i64 _ om om)<|zm ?_
 refine aC (agZ (rz m.aP P.w [bL A,dX (bL B)] FR e (dX (bL B)) [bL (.op true A B),P.w] (iT t.sc 3 FR [])) f (3+FR.length+2) (.op true A B) _ pS (by show(iT t.sc 3 FR []).length<100000;rw[yd];omega) (bk::L1) bk vK vI CE gz) ?_
 rintro v87 JN ⟨gz,mI⟩
 have Gu:=Gu.trans mI
 refine ag ?_
 exact⟨(),⟨rfl,rfl,rfl,rfl,rfl⟩,Gu,by unfold sj uj;rw[iP er,iP er];exact gz⟩
 have er:¬0<im f e:=(by simp at h2;omega)
 refine bA ?_
 exact⟨(),⟨rfl,rfl,rfl,rfl,rfl⟩,ak.refl _ _,by unfold sj uj;rw[iN er,iN er];exact gz⟩
 intro gu GQ e96 hI
 obtain⟨U9,gz⟩:=hI
 have aw:=aw.aO U9 sm
 have hR:=hR.aL U9 vI Ek
 have ag9:=bX.go hR.fr
 refine zr<|zm<|zi (i:=2) cw aH rfl rfl ((show 2<6 from om))<|zf dB rfl<|zl cg rfl (ag9.cells 0 _ rfl)<|zm<|aC (Ee (rz m.aP P.w [bL A,dX (bL B)] FR e (dX (bL B)) (uj f A B e P.w) (sj t.sc FR f A B e)) ax 1 A (by show(sj t.sc FR f A B e).length<100000;unfold sj;split;(·rw[lA,yd];simp;omega);(·rw[yd];omega)) (bk::L1) bk GQ vI aw.dM gz) ?_
 rintro v90 vK ⟨gz,tR⟩
 have aw:=aw.aO tR sm
 have hR:=hR.aL tR vI Ek
 have gz:iq (bk::L1) vK 130 bk (rz m.aP P.w [bL A,dX (bL B)] FR e (dX (bL B)) (uj f A B e P.w) ((sj t.sc FR f A B e)++[(ax,1,A)])):=gz
 have Jx:P.m.bW.length<100000:=(by rw[GI];exact gw)
 have aR:=aw.open
 obtain⟨vb,vt,vc,vy,gb,gt,gc,gy,tU,hS⟩:=aR
 have aR:=hS.apart
 obtain⟨yA,nH,vA,mG,vB,tW⟩:=aR
 obtain⟨u1,u3,u4,u5,u6,u8,GN,s8⟩:=gz
 have bj:fh gt.toList vK b [vb,vt,.int .i64 ((P.m).count:Int),.bool (P.m).wide,vc,vy].toArray 127:=⟨tU,λhx=>(mG b hx).2.1 rfl⟩
 have fz:fh gt.toList vK bk (pO (rz m.aP P.w [bL A,dX (bL B)] FR e (dX (bL B)) (uj f A B e P.w) ((sj t.sc FR f A B e)++[(ax,1,A)])) u1 u3 u4 u5 u6 u8).toArray 130:=⟨GN,λhx=>(mG bk hx).1 sm⟩
 have pY:fy gt.toList vK:=(λx hx=>hS.cZ x (hS.mem.2 (by simp[hx])))
 have A1:∀x,x∈gt.toList->x∈(bk::L1):=(λx hx=>hS.mem.2 (by simp[hx]))
 refine ag<|aQ ?_
 apply kc eu gt.toList 8 (rA 128 8) (rA 128 8) [[],[],[1],[2],[3],[],[5],[4,6]] [Ie.v _,Ie.v _,Ie.v _,Ie.v _,Ie.v _,Ie.v _,Ie.p (fun(G:List Nat) (v:Value) (ww:World)=>∃bb,v= .slice (some ⟨bb,0,none⟩) 1 1∧fh G ww bb (pO (rz m.aP P.w [bL A,dX (bL B)] FR e (dX (bL B)) (uj f A B e P.w) ((sj t.sc FR f A B e)++[(ax,1,A)])) u1 u3 u4 u5 u6 u8).toArray 130),Ie.e 0] [7] [fun(G:List Nat) (vs:List Value) (ww:World)=>G=gt.toList∧ak [] vK ww,fun(G:List Nat) (vs:List Value) (ww:World)=>∃g2,ey (gt.toList++(g2.toList++(bk::L1))) ww 130 12 (vs.getD 0 undef) g2 (((P.m).bW++[(rz m.aP P.w [bL A,dX (bL B)] FR e (dX (bL B)) (uj f A B e P.w) ((sj t.sc FR f A B e)++[(ax,1,A)]))]).map Tk.enc)∧ak gt.toList vK ww∧(g2=gt∨∃x,g2=some x∧vK.heap.size<=x)] de rfl pY (by exact⟨λG v w G' w' ⟨bb,e,h⟩ k=>⟨bb,e,h.go k⟩,trivial⟩) (by exact⟨λG vs w w' ⟨h1,h2⟩ k=>⟨h1,h2.ext k⟩,λG vs w w' ⟨g2,h1,h2,h3⟩ k=>⟨g2,h1.ext k,h2.ext k,h3⟩,trivial⟩) (⟨rfl,ak.refl _ _⟩)
 refine cR ?_
 refine cR ?_
 refine vf (λ_ _ _ _ _ _=>di rfl fv) ?_
 refine vf (λ_ _ _ _ _ _=>zf zB rfl fv) ?_
 refine vf (λx JN Ob aW GU JO=>?_) ?_
 have bj:=bj.go GU
 refine zl E1 rfl (bj.at rfl) ?_
 exact fv
 refine vf (λx JN Ob aW GU JO=>?_) ?_
 have fz:=fz.go GU
 refine zL C8 k8 rfl fz.all rfl ?_
 exact fv
 refine vf (λx JN Ob aW GU JO=>?_) ?_
 refine sB [_] [pO (rz m.aP P.w [bL A,dX (bL B)] FR e (dX (bL B)) (uj f A B e P.w) ((sj t.sc FR f A B e)++[(ax,1,A)])) u1 u3 u4 u5 u6 u8] xG k8 rfl rfl rfl rfl rfl rfl rfl rfl rfl ?_
 intro w99 ahb ahc U2
 exact ff ahb (⟨_,rfl,ahc.o JO⟩)
 refine ve 0 (λx JN Ob aW GU JO hJ hlen=>?_) ?_
 have bo:=jO hlen
 subst bo
 intro v6 d6
 obtain⟨bb,e6,gx⟩:=d6
 subst e6
 obtain⟨cz,cB⟩:=hJ
 subst cz
 have x6:=(hS.ta.any cB).sub (L':=gt.toList++(bk::L1)) (λx hx=>.inl (by rcases mA.1 hx with h|h;(·exact A1 x h);(·exact h)))
 have A2:=s8.ext cB
 refine BP (L:=(bk::L1)) (row:=Tk.enc (rz m.aP P.w [bL A,dX (bL B)] FR e (dX (bL B)) (uj f A B e P.w) ((sj t.sc FR f A B e)++[(ax,1,A)]))) xG k8 rfl rfl rfl rfl rfl rfl x6 rfl gx.all (λu hu=>List.all_eq_true.1 A2.one u hu) (A2.go ((Fr.refl _ _).to (L2:=gt.toList++(bk::L1)) (λx hx=>.inl (by rcases mA.1 hx with h|h;(·exact A1 x h);(·exact h))))).BC (by rw[List.length_map];omega) ?_
 intro v9 g9 w99 dK tY fN
 exact fe g9.toList (⟨tY.aO,λx hx=>by rcases fN with h|h;(·rw[h] at hx;exact .inl hx);(·rw[h] at hx;simp at hx;right;omega)⟩) ((λx hx=>dK.lt x hx)) (⟨g9,by rw[List.map_append];exact dK,cB.any.trans tY.aO,fN.imp id (λh=>⟨_,h,cB.size⟩)⟩)
 exact trivial
 intro x ank anl aW ahd anm hJ hlen
 have aR:=jP hlen
 obtain⟨q0,bo⟩:=aR
 subst bo
 intro v6 d6
 have bj:=bj.go ahd
 change OW _ _ _ _ _ (aM (aN _ x _) (zZ 128 [_,_,_,_,_,_,_,_])) _
 obtain⟨g2,dK,fg,iz⟩:=hJ
 have aR:=hS.Ff dK fg iz
 obtain⟨L3,gk,jU⟩:=aR
 have aR:=dK.len
 obtain⟨a3,c3,e3⟩:=aR
 have e4:q0=_:=e3
 subst e4
 have bj:aY _ b [vb,vt,.int .i64 ((P.m).count:Int),.bool (P.m).wide,vc,vy].toArray 127:=tU.aO fg (λhx=>(mG b hx).2.1 rfl)
 refine di rfl<|zf zB rfl<|gX (o:=1) KN rfl rfl rfl bj rfl ?_
 intro ahe Va bj dP
 have gk:=gk.aO Va sm
 have aw:ei t8 (bk::E) L3 ahe b true {P.m with bW:=(P.m).bW++[(rz m.aP P.w [bL A,dX (bL B)] FR e (dX (bL B)) (uj f A B e P.w) ((sj t.sc FR f A B e)++[(ax,1,A)]))]}:=⟨_,_,_,_,_,_,_,_,bj,gk⟩
 have hR:=(hR.add jU fg (λx hx vJ=>(mG x hx).1 (by simp[vJ]))).aL Va (gk.mem.2 (.inr (.inl rfl))) (λvJ=>nH (by simp[vJ]))
 rw[GI] at aw
 have aR:=aw.drop
 obtain⟨L4,N7,aw⟩:=aR
 have hR:=hR.sub (L2:=L4) (λx hx=>by rw[N7];simp[hx])
 refine ag<|zr<|zm<|zA<|ag<|aV ?_
 exact⟨_,rfl,rfl,L4,aw,hR⟩
theorem GV {a:aj} (hs:kt s) (ht:m.types.length<1000):(cG m s a).1.types.length<=m.types.length+1∧(cG m s a).1.code.length<=m.code.length+1∧(cG m s a).1.count=m.count∧(cG m s a).1.bW=m.bW∧(cG m s a).2<1000:=by
 unfold cG
 split
 ·exact⟨Nat.le_succ _,Nat.le_succ _,rfl,rfl,FF hs a⟩
 ·exact⟨by simp[Mk.dH,Mk.cY],by simp[Mk.dH,Mk.cY],rfl,rfl,ht⟩
theorem Vb (h:aj):gT h=(decide (h=[102,115,116])||decide (h=[115,110,100])):=rfl
theorem ahf {T:Ty} (bF:e.ok) (hu:gT e.head=true) {p:Mk×Nat} (hp:p=cG m s (nth e.av.au 1).az):
  mZ m s T e=((p.1.dH (bL T)).cY sF [bf p.1.types.length,bf p.2,if e.head=qZ then[49] else[48]],p.1.types.length):=by
 cases e with
 |un hd a=>rw[hp];show((_:Mk),_)=_;rw[show nth (Ex.un hd a).av.au 1=a.av from rfl,Ex.rh];rfl
 |«at» s=>exact absurd (show gT []=true from hu) de
 |ite a b c=>exact absurd (show gT cC=true from hu) de
 |lt x a b=>exact absurd (show gT gQ=true from hu) de
 |fn f x A B b=>exact absurd (show gT il=true from hu) de
 |bi hd a b=>exact absurd bF.1 (by rcases AB hd with h|h|h|h|h|h<;>simp_all[Ex.head]<;>rfl)
theorem ahg {T:Ty} (bF:e.ok) (fx:e.jk=false) (hf:e.head≠il) (hu:gT e.head=false) {p q:Mk×Nat} (hp:p=cG m s (nth e.av.au 1).az) (hq:q=cG p.1 s (nth e.av.au 2).az):
  mZ m s T e=((q.1.dH (bL T)).cY (qv e.head) [bf q.1.types.length,bf p.2,bf q.2],q.1.types.length):=by
 cases e with
 |un hd a=>exact absurd bF.1 (by simp[Ex.head] at hu;simp[hu])
 |«at» s=>cases fx
 |ite a b c=>rw[hq,hp];rw[show nth (Ex.ite a b c).av.au 1=a.av from rfl,show nth (Ex.ite a b c).av.au 2=b.av from rfl,Ex.rh,Ex.rh];rfl
 |lt x a b=>rw[hq,hp];rw[show nth (Ex.lt x a b).av.au 1=cj x from rfl,show nth (Ex.lt x a b).av.au 2=a.av from rfl,Ex.rh];rfl
 |fn f x A B b=>exact absurd rfl hf
 |bi hd a b=>rw[hq,hp];rw[show nth (Ex.bi hd a b).av.au 1=a.av from rfl,show nth (Ex.bi hd a b).av.au 2=b.av from rfl,Ex.rh,Ex.rh];rfl
theorem ahh (bF:e.ok) (hf:e.head≠il):((nth e.av.au 1).az).length<=5∧((nth e.av.au 2).az).length<=5:=by
 cases e with
 |«at» s=>simp[Ex.av,nth,aA.au,aA.az,cj]
 |un hd a=>rw[show nth (Ex.un hd a).av.au 1=a.av from rfl,Ex.rh];have:=oL bF.2;exact⟨by omega,by simp[Ex.av,nth,aA.au,aA.az]⟩
 |bi hd a b=>rw[show nth (Ex.bi hd a b).av.au 1=a.av from rfl,show nth (Ex.bi hd a b).av.au 2=b.av from rfl,Ex.rh,Ex.rh];have:=oL bF.2.1;have:=oL bF.2.2;omega
 |ite a b c=>rw[show nth (Ex.ite a b c).av.au 1=a.av from rfl,show nth (Ex.ite a b c).av.au 2=b.av from rfl,Ex.rh,Ex.rh];have:=oL bF.1;have:=oL bF.2.1;omega
 |lt x a b=>rw[show nth (Ex.lt x a b).av.au 1=cj x from rfl,show nth (Ex.lt x a b).av.au 2=a.av from rfl,Ex.rh];have:=DI bF.1;have:=oL bF.2.1;exact⟨by show x.length<=5;omega,om⟩
 |fn f x A B b=>exact absurd rfl hf
theorem ahi (h:aj):(qv h).length<=5:=by
 unfold qv
 split
 ·decide
 ·split
  ·decide
  ·split<;>decide
theorem ahj (bF:e.ok) (fx:e.jk=false):1<e.av.au.length∧(gT e.head=false->2<e.av.au.length):=by
 cases e with
 |«at» s=>cases fx
 |un hd a=>exact⟨by simp[Ex.av,aA.au],λh=>absurd bF.1 (by simp[Ex.head] at h;simp[h])⟩
 |_=>exact⟨by simp[Ex.av,aA.au],λ_=>by simp[Ex.av,aA.au]⟩
set_option maxHeartbeats 4000000 in
theorem ahk (t:Tk) (m:Mk) (e:Ex) (T:Ty) (bF:e.ok) (fD:bM e (fj t.sc)=some T) (hs:kt t.sc) (hb:5*t.sc.length+2*e.n<=240) (ri:t.on<1000) (ht:m.types.length+8*e.n<=1000) (hc:m.code.length<=7000) (xg:m.count<1000) (gw:m.bW.length<90000) 
  (E L:List Nat) (b bt:Nat) (v:Value) (w:World) (h:ei t8 E L w b true m) (hT:iq L w 130 bt t) (eT:bt∈E) (hv:bS L w v e.av):
  bZ Tryz.prog 147 [.pointer (some ⟨b,0,none⟩),.pointer (some ⟨bt,0,none⟩),v] w λr w'=>r= .int .i64 ((mZ m t.sc T e).2:Int)∧∃L',ei t8 E L' w' b true (mZ m t.sc T e).1∧eQ E L w L' w':=by
 obtain⟨ar,nr,cr,rfl,p9,bc⟩:=dN hv
 subst p9
 have lS:=h.dM
 have sh:=l4 hs.types fD
 have Df:=pR sh
 have hep:=e.pos
 have aw:=h
 have hR:=eQ.refl E L w
 have dz:bS L w _ e.av:=hv
 obtain⟨p,hp⟩:∃p,p=cG m t.sc (nth e.av.au 1).az:=⟨_,rfl⟩
 obtain⟨q,hq⟩:∃q,q=cG p.1 t.sc (nth e.av.au 2).az:=⟨_,rfl⟩
 have yN:p.1.types.length<=m.types.length+1∧p.1.code.length<=m.code.length+1∧p.1.count=m.count∧p.1.bW=m.bW∧p.2<1000:=by rw[hp];exact GV hs om
 have GW:q.1.types.length<=p.1.types.length+1∧q.1.code.length<=p.1.code.length+1∧q.1.count=p.1.count∧q.1.bW=p.1.bW∧q.2<1000:=by rw[hq];exact GV hs om
 obtain⟨ptl,pcl,_,_,p2⟩:=yN
 obtain⟨qtl,qcl,_,_,q2⟩:=GW
 refine cU [.tmp 6] 84 Tryz.func147 rfl Yt rfl rfl ?_
 refine zr<|fA rfl ?_
 intro w1 aJ bQ dV
 have aw:=aw.ext aJ;have hR:=hR.ext aJ
 refine zA<|ag<|aQ<|zr<|zf dB rfl<|zl cg rfl (bQ.at rfl)<|jF rfl rfl rfl rfl<|ag ?_
 have bQ:fh L w1 w.heap.size [str e.av.az,.slice ar e.av.au.length cr].toArray 66:=⟨bQ,λhx=>by have:=lS _ hx;omega⟩
 refine zc rfl (λh1=>?_) (λh1=>?_)
 have aR:∃a,e= .at a:=(by cases e with|«at» s=>exact⟨s,rfl⟩|_=>exact absurd rfl h1)
 obtain⟨a0,rfl⟩:=aR
 refine zr<|zm<|zm<|zL bT aH rfl bQ.all rfl<|aC (Cp t a0 m (by have:=Mj (show qo a0=true from bF);omega) om om om E L b bt _ _ _ w1 aw (hR.tk hT eT) eT) ?_
 rintro v20 w2 ⟨pz,L1,aw,bY⟩
 subst pz
 have hR:=hR.go bY
 refine zA<|ag<|aV ?_
 exact⟨_,rfl,rfl,L1,aw,hR⟩
 have fx:e.jk=false:=(by cases hh:e.jk;rfl;exact absurd ((vh bF).2 hh) h1)
 have aR:=Ex.au fx
 obtain⟨F2,oX,jG,wK⟩:=aR
 have aR:=ahj bF fx
 obtain⟨gi,iZ⟩:=aR
 have aR:=fI bc (i:=0) om
 obtain⟨b0,AF,xM,xN,e0,er,_⟩:=aR
 cases e0
 rw[jG] at er
 have aR:=fI bc (i:=1) om
 obtain⟨b1,ga,gY,gZ,e1,bC,dd⟩:=aR
 cases e1
 refine bA<|zr<|zf cM rfl<|zl cK rfl (bQ.at rfl)<|zi (i:=0) cw aH rfl rfl ((show 0<_ from om))<|zf dB rfl<|zl cg rfl ((er.go hR.fr).cells 0 _ rfl)<|zA<|ag<|aQ<|zr<|zm<|cW rfl rfl<|ag<|zc rfl (λh2=>?_) (λh2=>?_)
 have aR:=I2 bF h2
 obtain⟨nf,nx,tA,tB,eb,rfl⟩:=aR
 have aR:=SL (m:=m) hs bF fD hb xg
 obtain⟨_,pb,Az⟩:=aR
 refine zr<|zm<|zm<|zL bT aH rfl bQ.all rfl<|aC (ag1 t m nf nx tA tB eb bF om (λy hy=>by rcases(qp y _ [] []).1 hy with h9|h9;(·simp at h9);(·exact pL fD h9.1)) om hs om Az ri (by simp only[Ex.n] at ht;omega) om xg om E L b bt _ w1 aw (hR.tk hT eT) eT (dz.go hR.fr)) ?_
 rintro v31 w2 ⟨yP,L1,aw,bY⟩
 subst yP
 have hR:=hR.go bY
 refine zA<|ag<|aV ?_
 exact⟨_,rfl,rfl,L1,aw,hR⟩
 have rk:e.head≠il:=h2
 have hsh:=ahh bF rk
 refine bA<|zr<|zm<|zL bT aH rfl bQ.all rfl<|aC (Jv t e bF om hs.types om _ L bt w1 aw.dM (hR.tk hT eT) (dz.go hR.fr)) ?_
 rintro v2 w2 ⟨dz,aq⟩
 have dR:=aq.size
 have aw:=aw.ext aq;have hR:=hR.ext aq;have bQ:=bQ.ext aq
 have eR:=dz
 rw[fD] at eR
 subst eR
 refine aC (vz T om w2) ?_
 rintro v3 w3 ⟨et,aK⟩
 have gd:=aK.size
 have aw:=aw.ext aK;have hR:=hR.ext aK;have bQ:=bQ.ext aK
 obtain rfl:=et
 refine zA<|ag<|zr<|zm<|zm<|zf cM rfl<|zl cK rfl (bQ.at rfl)<|zi (i:=1) cw aH rfl rfl om<|zL bT aH rfl ((bC.go hR.fr).cells) rfl<|aC (Cp t (nth e.av.au 1).az m om om om om E L b bt _ _ _ w3 aw (hR.tk hT eT) eT) ?_
 rintro v20 w4 ⟨pz,L1,aw,bY⟩
 rw[<-hp] at pz aw
 subst pz
 have hR:=hR.go bY;have bQ:=bQ.go bY.fr
 refine aC (iS (p.2+1) p.2 om om w4) ?_
 rintro v5 w5 ⟨kQ,aT⟩
 have oW:=aT.size
 have aw:=aw.ext aT;have hR:=hR.ext aT;have bQ:=bQ.ext aT
 obtain rfl:=kQ
 refine zA<|ag<|aQ<|zr<|zm<|cW rfl rfl<|zm ?_
 apply fo 3 46 49 [46,47,48,49] (λw'=>w5=w') rfl
 intro h3
 replace h3:=bu h3
 refine zs<|zs<|zp rfl<|ag ?_
 exact mg rfl rfl
 intro h3
 replace h3:=bu h3
 refine zm<|cW rfl rfl<|zp rfl<|ag ?_
 exact mg rfl rfl
 rintro xx _ rfl
 refine ag<|zc rfl (λh4=>?_) (λh4=>?_)
 have hu:gT e.head=true:=(by rw[Vb];exact h4)
 rw[ahf bF hu hp]
 refine zr<|zm<|zm<|aC (se (bL T) p.1 om E L1 b true w5 aw) ?_
 rintro v52 w6 ⟨JG,L2,aw,bY⟩
 subst JG
 have hR:=hR.go bY
 refine zA<|ag<|zr<|zA<|ag<|aQ<|zr<|zm<|cW rfl rfl<|ag ?_
 refine jh (λ_:Unit=>[(0,.pointer (some ⟨b,0,none⟩)),(9,str (bf p.2)),(10,.int .i64 (p.1.types.length:Int)),(11,str (if e.head=qZ then[49] else[48]))]) (λ_ w'=>ak [] w6 w') ?_ ?_
 refine zc rfl (λh5=>?_) (λh5=>?_)
 have hz:e.head=qZ:=h5
 refine db<|zA<|ag ?_
 exact⟨(),⟨rfl,rfl,rfl,by rw[iP hz];rfl⟩,ak.refl _ _⟩
 have hz:¬e.head=qZ:=h5
 refine bA ?_
 exact⟨(),⟨rfl,rfl,rfl,by rw[iN hz];rfl⟩,ak.refl _ _⟩
 intro gu w7 e7 hI
 have aw:=aw.ext hI;have hR:=hR.ext hI
 refine zr<|zm<|zm<|aC (iS (p.1.types.length+1) p.1.types.length om om w7) ?_
 rintro v8 w8 ⟨oP,cu⟩
 have yu:=cu.size
 have aw:=aw.ext cu;have hR:=hR.ext cu
 obtain rfl:=oP
 have dC:=aw.dM
 have mL:(if e.head=qZ then([49]:aj) else[48]).length<=1:=(by split<;>decide)
 refine zm<|zm<|pQ bh bB rfl rfl rfl rfl rfl ?_
 intro w9 aG GD dP
 have aw:=aw.ext aG;have hR:=hR.ext aG
 refine aC (lh sF [bf p.1.types.length,bf p.2,if e.head=qZ then[49] else[48]] (mH de sm (by intro z hz;simp at hz;rcases hz with rfl|rfl|rfl;(·exact ml om);(·exact ml om);(·omega))) (p.1.dH (bL T)) (show p.1.code.length<100000 from om) E L2 b _ w9 aw (aY.eF [bf p.1.types.length,bf p.2,if e.head=qZ then[49] else[48]] GD (λhx=>by have:=dC _ hx;omega))) ?_
 rintro Vc cN ⟨L3,aw,bY⟩
 have hR:=hR.go bY
 refine ag<|zr<|zm<|zA<|ag<|aV ?_
 exact⟨_,rfl,rfl,L3,aw,hR⟩
 have hu:gT e.head=false:=(by rw[Vb];exact h4)
 have iZ:=iZ hu
 have aR:=fI bc (i:=2) om
 obtain⟨b2,nk,jc,jd,e2,bX,_⟩:=aR
 cases e2
 rw[ahg bF fx rk hu hp hq]
 refine bA<|zr<|zm<|zm<|zf cM rfl<|zl cK rfl (bQ.at rfl)<|zi (i:=2) cw aH rfl rfl om<|zL bT aH rfl ((bX.go hR.fr).cells) rfl<|aC (Cp t (nth e.av.au 2).az p.1 om om om om E L1 b bt _ _ _ w5 aw (hR.tk hT eT) eT) ?_
 rintro v20 w6 ⟨pz,L2,aw,bY⟩
 rw[<-hq] at pz aw
 subst pz
 have hR:=hR.go bY
 refine aC (iS (q.2+1) q.2 om om w6) ?_
 rintro v7 w7 ⟨iV,cv⟩
 have pg:=cv.size
 have aw:=aw.ext cv;have hR:=hR.ext cv
 obtain rfl:=iV
 refine zA<|ag<|zr<|zm<|zm<|aC (se (bL T) q.1 om E L2 b true w7 aw) ?_
 rintro v52 w8 ⟨JG,L3,aw,bY⟩
 subst JG
 have hR:=hR.go bY
 refine zA<|ag<|zr<|zm<|zm<|aC (afS e.head w8) ?_
 rintro v9 w9 ⟨eR,aG⟩
 have ph:=aG.size
 have aw:=aw.ext aG;have hR:=hR.ext aG
 obtain rfl:=eR
 have hol:=ahi e.head
 refine zm<|aC (iS (q.1.types.length+1) q.1.types.length om om w9) ?_
 rintro v10 cN ⟨rr,bU⟩
 have Cc:=bU.size
 have aw:=aw.ext bU;have hR:=hR.ext bU
 obtain rfl:=rr
 have dC:=aw.dM
 refine zm<|zm<|pQ bh bB rfl rfl rfl rfl rfl ?_
 intro eW cL DY uF
 have aw:=aw.ext cL;have hR:=hR.ext cL
 refine aC (lh (qv e.head) [bf q.1.types.length,bf p.2,bf q.2] (mH om sm (by intro z hz;simp at hz;rcases hz with rfl|rfl|rfl<;>exact ml om)) (q.1.dH (bL T)) (show q.1.code.length<100000 from om) E L3 b _ eW aw (aY.eF [bf q.1.types.length,bf p.2,bf q.2] DY (λhx=>by have:=dC _ hx;omega))) ?_
 rintro Vc gj ⟨L4,aw,bY⟩
 have hR:=hR.go bY
 refine ag<|zr<|zm<|zA<|ag<|aV ?_
 exact⟨_,rfl,rfl,L4,aw,hR⟩
theorem Vd {on:Nat} {bm name:aj} {K:Ty} {rest:Ex} (kM:on<1000) (ht:m.types.length+4<1000):(fm m s on bm name K rest).1.types.length<=m.types.length+4∧(fm m s on bm name K rest).1.code.length<=m.code.length+4∧(fm m s on bm name K rest).2.1<1000∧(fm m s on bm name K rest).1.count<=m.count+1∧(fm m s on bm name K rest).1.bW.length<=m.bW.length+1:=by
 unfold fm
 split
 ·have h:=SE m.lG s on (cF rest [name] []) bm m.aP (dX (bL K)) [bL K]
  refine⟨?_,?_,?_,?_,?_⟩
  ·show(oI m s on bm name K rest).m.types.length<=_
   unfold oI;rw[h.types];exact lR _
  ·show(oI m s on bm name K rest).m.code.length<=_
   unfold oI;rw[h.code];exact lR _
  ·show m.types.length+3<1000;omega
  ·exact lR _
  ·show((oI m s on bm name K rest).m.bW++[_]).length<=_
   unfold oI;rw[h.bW,lA];exact lR _
 ·exact⟨by show m.types.length<=_;omega,by show m.code.length<=_;omega,kM,by show m.count<=_;omega,by show m.bW.length<=_;omega⟩
theorem Ve (m:Mk) (s:Nat):(sG m s).types.length=m.types.length+3∧(sG m s).code.length=m.code.length+3:=by
 unfold sG;simp[Mk.dH,Mk.cY]
structure Oc (s:da) (name:aj) (rest:Ex):Prop where
 ok:rest.ok
 n:rest.n<=1000
 fv:∀x,x∈cF rest [name] []->(look (fj s) x).isSome=true
 len:(cF rest [name] []).length<=40
set_option maxHeartbeats 4000000 in
theorem ahn (t:Tk) (m:Mk) (f x:Ex) (name:aj) (rest:Ex) (K:Ty) (bF:(Ex.bi kD f x).ok) (hn:(Ex.bi kD f x).n<=1000) (fD:bM (.bi kD f x) (fj t.sc)=some K) (hs:kt t.sc) (oZ:t.sc.length<=9000) (ri:t.on<1000) (kM:t.bm.length<=272) (Od:name≠[]->Oc t.sc name rest) (ht:m.types.length+9<1000) (hc:m.code.length<=7000) (xg:m.count<1000) (gw:m.bW.length<90000) 
  (E L:List Nat) (b bt:Nat) (v vr:Value) (w:World) (h:ei t8 E L w b true m) (hT:iq L w 130 bt t) (eT:bt∈E) (hv:bS L w v (Ex.bi kD f x).av) (oO:bS L w vr rest.av):
  bZ Tryz.prog 144 [.pointer (some ⟨b,0,none⟩),.pointer (some ⟨bt,0,none⟩),v,str name,vr] w λr w'=>∃L',ei t8 E L' w' b true (xW (fm (cG (cG m t.sc f.az).1 t.sc x.az).1 t.sc t.on t.bm name K rest).1 (cG m t.sc f.az).2 (cG (cG m t.sc f.az).1 t.sc x.az).2 (fm (cG (cG m t.sc f.az).1 t.sc x.az).1 t.sc t.on t.bm name K rest).2.1)∧(∃t',iq L' w' 130 bt t'∧t'.aP=t.aP∧t'.regs=t.regs)∧Fr L w L' w':=by
 obtain⟨ar,nr,cr,rfl,p9,bc⟩:=dN hv
 subst p9
 obtain⟨a9,n9,c9,rfl,AP,_⟩:=dN oO
 subst AP
 have lS:=h.dM
 have jw:=l4 hs.types fD
 have aw:=h
 have hR:=eQ.refl E L w
 have dz:bS L w _ (Ex.bi kD f x).av:=hv
 have pb:=oL bF.2.1
 have mN:=oL bF.2.2
 obtain⟨p,hp⟩:∃p,p=cG m t.sc f.az:=⟨_,rfl⟩
 have yN:p.1.types.length<=m.types.length+1∧p.1.code.length<=m.code.length+1∧p.1.count=m.count∧p.1.bW=m.bW∧p.2<1000:=by rw[hp];exact GV hs om
 obtain⟨ptl,pcl,pcn,ptk,p2⟩:=yN
 rw[<-hp]
 obtain⟨q,hq⟩:∃q,q=cG p.1 t.sc x.az:=⟨_,rfl⟩
 have GW:q.1.types.length<=p.1.types.length+1∧q.1.code.length<=p.1.code.length+1∧q.1.count=p.1.count∧q.1.bW=p.1.bW∧q.2<1000:=by rw[hq];exact GV hs om
 obtain⟨qtl,qcl,qcn,qtk,q2⟩:=GW
 rw[<-hq]
 obtain⟨C,hC⟩:∃C,C=fm q.1 t.sc t.on t.bm name K rest:=⟨_,rfl⟩
 have CF:C.1.types.length<=q.1.types.length+4∧C.1.code.length<=q.1.code.length+4∧C.2.1<1000∧C.1.count<=q.1.count+1∧C.1.bW.length<=q.1.bW.length+1:=by rw[hC];exact Vd ri om
 obtain⟨Ctl,Ccl,C2,_,_⟩:=CF
 rw[<-hC]
 obtain⟨rc,GX⟩:∃r,r=C.1.types.length:=⟨_,rfl⟩
 obtain⟨me,CG⟩:∃z,z=sG C.1 p.2:=⟨_,rfl⟩
 have Oe:me.types.length=C.1.types.length+3∧me.code.length=C.1.code.length+3:=by rw[CG];exact Ve _ _
 obtain⟨met,mec⟩:=Oe
 obtain⟨r,nK⟩:∃r,r=me.types.length:=⟨_,rfl⟩
 obtain⟨c,er⟩:∃c,c=me.code.length:=⟨_,rfl⟩
 have t0:me.types.length=r:=nK.symm
 have c0:me.code.length=c:=er.symm
 have aho:xW C.1 p.2 q.2 C.2.1=(((me.cY nV [[48],bf (rc+2)]).cY nV [[49],bf q.2]).cY nV [[50],bf C.2.1]).cY Af [bf (rc+1)]:=by rw[CG,GX];rfl
 rw[aho]
 have Nz:(Ex.bi kD f x).av.au.length=3:=rfl
 obtain⟨b1,ga,gY,gZ,e1,bC,_⟩:=fI bc (i:=1) om
 cases e1
 have bC:ja L w _ _ [str f.av.az,.slice gY f.av.au.length gZ]:=bC
 rw[Ex.rh] at bC
 obtain⟨b2,nk,jc,jd,e2,bX,_⟩:=fI bc (i:=2) om
 cases e2
 have bX:ja L w _ _ [str x.av.az,.slice jc x.av.au.length jd]:=bX
 rw[Ex.rh] at bX
 refine cU [] 67 Tryz.func144 rfl Yq rfl rfl ?_
 refine zr<|fA rfl ?_
 intro w1 aJ cH dV
 have aw:=aw.ext aJ;have hR:=hR.ext aJ
 refine fA rfl ?_
 intro w2 aq cT eK
 have aw:=aw.ext aq;have hR:=hR.ext aq;have cH:=cH.ext aq
 refine ag<|zr<|zm<|zL bT aH rfl cH.all rfl ?_
 have cH:fh L w2 w.heap.size [str (Ex.bi kD f x).av.az,.slice (some ⟨b1,ga,none⟩) (Ex.bi kD f x).av.au.length cr].toArray 66:=⟨cH,λhx=>by have:=lS _ hx;omega⟩
 have cT:fh L w2 w1.heap.size [str rest.av.az,.slice a9 rest.av.au.length c9].toArray 66:=⟨cT,λhx=>by have:=lS _ hx;omega⟩
 refine aC (Jv t (Ex.bi kD f x) bF hn hs.types om _ L bt w2 aw.dM (hR.tk hT eT) (dz.go hR.fr)) ?_
 rintro v3 w3 ⟨et,aK⟩
 have gd:=aK.size
 have aw:=aw.ext aK;have hR:=hR.ext aK;have cH:=cH.ext aK;have cT:=cT.ext aK
 have eR:=et
 rw[fD] at eR
 subst eR
 refine zA<|ag<|zr<|zm<|zm<|zf cM rfl<|zl cK rfl (cH.at rfl)<|zi (i:=1) cw aH rfl rfl ((show 1<3 from om))<|zL bT aH rfl ((bC.go hR.fr).cells) rfl<|aC (Cp t f.az m om om om oZ E L b bt _ _ _ w3 aw (hR.tk hT eT) eT) ?_
 rintro v20 w4 ⟨pz,L1,aw,bY⟩
 rw[<-hp] at pz aw
 subst pz
 have hR:=hR.go bY;have cH:=cH.go bY.fr;have cT:=cT.go bY.fr
 refine zA<|ag<|zr<|zm<|zm<|zf cM rfl<|zl cK rfl (cH.at rfl)<|zi (i:=2) cw aH rfl rfl ((show 2<3 from om))<|zL bT aH rfl ((bX.go hR.fr).cells) rfl<|aC (Cp t x.az p.1 om om om oZ E L1 b bt _ _ _ w4 aw (hR.tk hT eT) eT) ?_
 rintro v20 w5 ⟨pz,L2,aw,bY⟩
 rw[<-hq] at pz aw
 subst pz
 have hR:=hR.go bY;have cT:=cT.go bY.fr
 refine zA<|ag<|aQ<|zr<|zm<|jF rfl rfl rfl rfl<|ag ?_
 refine jh (λ_:Unit=>[(0,.pointer (some ⟨b,0,none⟩)),(1,.pointer (some ⟨bt,0,none⟩)),(11,.int .i64 (p.2:Int)),(12,.int .i64 (q.2:Int))]) (λ_ ww=>∃L3,ei t8 E L3 ww b true C.1∧iq L3 ww 130 bt {t with on:=C.2.1,bm:=C.2.2}∧Fr L w L3 ww) ?_ ?_
 refine zc rfl (λh1=>?_) (λh1=>?_)
 have gC:name≠[]:=(by simpa using h1)
 have aR:=Od gC
 obtain⟨g1,g2,g3,g4⟩:=aR
 have CH:fm q.1 t.sc t.on t.bm name K rest=tH q.1 t.sc t.on t.bm name K rest:=(by unfold fm;rw[iP gC])
 rw[CH] at hC
 refine db<|zm<|zm<|zm<|zm<|zL bT aH rfl cT.all rfl<|aC (U1 t q.1 name K rest g1 g2 g3 g4 hs oZ jw ri kM om om om (by rw[qtk,ptk];omega) E L2 b bt _ w5 aw (hR.tk hT eT) eT (oO.go hR.fr)) ?_
 rintro v39 w6 ⟨L3,aw,eY,yQ,_⟩
 rw[<-hC] at aw eY
 have hF:=hR.fr.go yQ
 refine ag ?_
 exact⟨(),⟨rfl,rfl,rfl,rfl⟩,L3,aw,eY,hF⟩
 have gC:¬name≠[]:=(by simpa using h1)
 have CH:fm q.1 t.sc t.on t.bm name K rest=(q.1,t.on,t.bm):=(by unfold fm;rw[iN gC])
 rw[CH] at hC
 subst hC
 refine bA ?_
 exact⟨(),⟨rfl,rfl,rfl,rfl⟩,L2,aw,hR.tk hT eT,hR.fr⟩
 intro gu w6 e6 hI
 obtain⟨L3,aw,eY,yQ⟩:=hI
 have hR:=eQ.refl E L3 w6
 refine zr<|zm<|zm<|aC (UB C.1 p.2 om om om E L3 b w6 aw) ?_
 rintro Vf w7 ⟨DO,L0,aw,bY⟩
 rw[<-CG] at aw
 rw[<-GX] at DO
 subst DO
 have hR:=hR.go bY
 have dC:=aw.dM
 refine zm<|zx (i:=0) rfl rfl<|zx (i:=1) rfl rfl<|zA<|zA<|ag<|zr<|zm<|zm<|lk bh bB rfl rfl rfl rfl ?_
 intro w8 cu CD mu
 have aw:=aw.ext cu;have hR:=hR.ext cu
 refine aC (lh nV [[48],bf (rc+2)] (mH de sm (by intro z hz;simp at hz;rcases hz with rfl|rfl;(·decide);(·exact ml om))) me om E L0 b _ w8 aw (aY.eF [[48],bf (rc+2)] CD (λhx=>by have:=dC _ hx;omega))) ?_
 rintro jV w9 ⟨L1,aw,bY⟩
 have hR:=hR.go bY
 clear CD
 have iR:∃x,x=me.cY nV [[48],bf (rc+2)]:=⟨_,rfl⟩
 obtain⟨m1,lO⟩:=iR
 rw[<-lO] at aw
 have t1:m1.types.length=r+0:=(by rw[lO,oN];omega)
 have c1:m1.code.length=c+1:=(by rw[lO,py];omega)
 have dC:=aw.dM
 refine ag<|zr<|zm<|zm<|aC (iS (q.2+1) q.2 om om w9) ?_
 rintro v10 cN ⟨rr,bU⟩
 have Cc:=bU.size
 have aw:=aw.ext bU;have hR:=hR.ext bU
 obtain rfl:=rr
 have dC:=aw.dM
 refine lk bh bB rfl rfl rfl rfl ?_
 intro eW cL Vg uF
 have aw:=aw.ext cL;have hR:=hR.ext cL
 refine aC (lh nV [[49],bf q.2] (mH de sm (by intro z hz;simp at hz;rcases hz with rfl|rfl;(·decide);(·exact ml om))) m1 om E L1 b _ eW aw (aY.eF [[49],bf q.2] Vg (λhx=>by have:=dC _ hx;omega))) ?_
 rintro jV gj ⟨L2,aw,bY⟩
 have hR:=hR.go bY
 clear Vg
 have fF:∃x,x=m1.cY nV [[49],bf q.2]:=⟨_,rfl⟩
 obtain⟨m2,lP⟩:=fF
 rw[<-lP] at aw
 have t2:m2.types.length=r+0:=(by rw[lP,oN];omega)
 have c2:m2.code.length=c+2:=(by rw[lP,py];omega)
 have dC:=aw.dM
 have aR:=hR.tk eY eT
 obtain⟨u1,u3,u4,u5,u6,u8,cA,iv⟩:=aR
 have cA:aY gj bt [str t.aP,u1,.int .i64 (t.loads:Int),u3,u4,u5,u6,str t.expr.av.az,u8,.int .i64 (C.2.1:Int),str C.2.2,.int .i64 (t.next:Int)].toArray 130:=cA
 refine ag<|zr<|zm<|zm<|di rfl<|zf HJ rfl<|zl qQ rfl (cA.at rfl)<|aC (iS (C.2.1+1) C.2.1 om om gj) ?_
 rintro wP jC ⟨vC,fM⟩
 have Gv:=fM.size
 have aw:=aw.ext fM;have hR:=hR.ext fM
 obtain rfl:=vC
 have dC:=aw.dM
 refine lk bh bB rfl rfl rfl rfl ?_
 intro jf dL JL Co
 have aw:=aw.ext dL;have hR:=hR.ext dL
 refine aC (lh nV [[50],bf C.2.1] (mH de sm (by intro z hz;simp at hz;rcases hz with rfl|rfl;(·decide);(·exact ml om))) m2 om E L2 b _ jf aw (aY.eF [[50],bf C.2.1] JL (λhx=>by have:=dC _ hx;omega))) ?_
 rintro jV p6 ⟨L3,aw,bY⟩
 have hR:=hR.go bY
 clear JL
 have yG:∃x,x=m2.cY nV [[50],bf C.2.1]:=⟨_,rfl⟩
 obtain⟨m3,lQ⟩:=yG
 rw[<-lQ] at aw
 have t3:m3.types.length=r+0:=(by rw[lQ,oN];omega)
 have c3:m3.code.length=c+3:=(by rw[lQ,py];omega)
 have dC:=aw.dM
 refine ag<|db<|zm<|zm<|gA bh bB rfl rfl ?_
 intro lN kY Vh F8
 have aw:=aw.ext kY;have hR:=hR.ext kY
 refine aC (lh Af [bf (rc+1)] (mH de sm (by intro z hz;simp at hz;subst hz;exact ml om)) m3 om E L3 b _ lN aw (aY.eF [bf (rc+1)] Vh (λhx=>by have:=dC _ hx;omega))) ?_
 rintro jV vD ⟨L4,aw,bY⟩
 have hR:=hR.go bY
 clear Vh
 have Cw:∃x,x=m3.cY Af [bf (rc+1)]:=⟨_,rfl⟩
 obtain⟨m4,oS⟩:=Cw
 rw[<-oS] at aw
 have t4:m4.types.length=r+0:=(by rw[oS,oN];omega)
 have c4:m4.code.length=c+4:=(by rw[oS,py];omega)
 have dC:=aw.dM
 refine ag ?_
 subst oS lQ lP lO
 exact⟨_,rfl,_,aw,⟨_,hR.tk eY eT,rfl,rfl⟩,yQ.go hR.fr⟩
/-! ### Cells of one block that are written -/
def KW (b:Nat) (T:TypeId) (ws:List (Nat×Value)) (w w':World):Prop:=ak [b] w w'∧∀cs,aY w b cs T->∃cs',aY w' b cs' T∧cs'.size=cs.size∧∀j:Nat,cs'[j]?=cs[j]?∨∃v,(j,v)∈ws∧cs'[j]?=some v
theorem ahq {cs:Array Value} (h:k+vs.length<=cs.size) (j:Nat):(setAt cs k vs)[j]?=if k<=j∧j<k+vs.length then vs[j-k]? else cs[j]?:=by
 rw[<-Array.getElem?_toList,H3 _ _ _ h,List.getElem?_append,List.getElem?_append,List.getElem?_take,List.getElem?_drop,List.length_take,Array.length_toList,Nat.min_eq_left om]
 by_cases h1:j<k
 ·rw[iP h1,iP h1,iN om];simp
 ·rw[iN h1]
  by_cases h2:j<k+vs.length
  ·rw[iP om,iP ⟨by omega,h2⟩]
  ·rw[iN om,iN om]
   have:k+vs.length+(j-k-vs.length)=j:=by omega
   rw[this];simp
def rowAt (o:Nat):List Value->List (Nat×Value)
 |[]=>[]
 |v::vs=>(o,v)::rowAt (o+1) vs
theorem Vi:∀{vs:List Value} {o j:Nat} {v:Value},(j,v)∈rowAt o vs↔o<=j∧vs[j-o]?=some v
 |[],o,j,v=>by simp[rowAt]
 |u::us,o,j,v=>by
  rw[rowAt,mC,Vi]
  constructor
  ·rintro(h|⟨h1,h2⟩)
   ·cases h;simp
   ·refine⟨by omega,?_⟩
    rw[show j-o=(j-(o+1))+1 from by omega];simpa using h2
  ·rintro⟨h1,h2⟩
   rcases Nat.eq_or_lt_of_le h1 with h|h
   ·subst h;left;simp at h2;rw[h2]
   ·right
    refine⟨h,?_⟩
    rw[show j-o=(j-(o+1))+1 from by omega] at h2;simpa using h2
section
variable {P:Program} {n:Nat} {ops:Array Oper} {K:Env->World->Prop} {rest:List Oper} {e:Env} {w:World}
 {dst:Option Nat} {ty:TypeId} {pos:String} {after:Array Edge} {g:Option (Nat×Bool)} {x y:Operand}
theorem ahr {T U bytes:Nat} {z:Value} {vs:List Value} {o:Nat} {cs:Array Value} (kK:TI P T sz bytes z) (hg:gate ops e g=true) (hx:ev e x= .pointer (some ⟨b,o,none⟩)) (hy:ev e y=v) (hv:v.cells=vs.toArray) (hl:Nat.beq vs.length sz=true) (h1:vs.all Value.oneCell'=true) 
  (hb:aY w b cs U) (ho:o+vs.length<=cs.size)
  (k:∀w',ak [b] w w'->aY w' b (setAt cs o vs) U->KW b U (rowAt o vs) w w'->w'.heap.size=w.heap.size->OW P n ops K rest e w'):
  OW P n ops K (⟨none,.store T x y,ty,pos,after,g⟩::rest) e w:=by
 have gL:vs.length=sz:=Nat.eq_of_beq_eq_true hl
 obtain⟨w',kl,hk,gW,hz⟩:=Lp (P:=P) vs 0 w b o U cs hb om (λu hu=>List.all_eq_true.1 h1 u hu)
 rw[Nat.add_zero] at gW
 refine Hz hg (w':=w') (by
  simp[execOp,Instr.storeAt,Instr.sureAddr,hx,hy,storeVar,hv,kK.tj,gL,kl]) (k w' hk gW ⟨hk,λcs2 h2=>?_⟩ hz)
 have e:cs2=cs:=by
  unfold aY at h2 hb
  rw[h2] at hb
  injection hb with h;injection h
 subst e
 refine⟨_,gW,H2 _ _ _,λj=>?_⟩
 rw[ahq ho]
 split
 ·rename_i h
  obtain⟨v,hv⟩:∃v,vs[j-o]?=some v:=⟨vs[j-o]'om,gE om⟩
  exact .inr ⟨v,Vi.2 ⟨h.1,hv⟩,hv⟩
 ·exact .inl rfl
end
section
variable {P:Program} {n:Nat} {ops:Array Oper} {K:Env->World->Prop} {rest:List Oper} {e:Env} {w:World}
 {dst:Option Nat} {ty:TypeId} {pos:String} {after:Array Edge} {g:Option (Nat×Bool)} {x y:Operand}
end
theorem Vj (xs:List aj):∀row,row∈ji xs->∀c,c∈row->∀v,c= .val v->v.oneCell'=true:=by
 intro row hr c hc v hv
 obtain⟨n,_,rfl⟩:=List.mem_map.1 hr
 simp at hc;subst hc;cases hv;rfl
theorem eQ.ju (k:eQ E L w L1 w1) {cs:Array Value} {T:TypeId} (h:aY w b cs T) (hb:b∈E):aY w1 b cs T:=let⟨_,kg,hG⟩:=k.out;h.aO kg λhx=>hG b hx hb
def qL (bt:Nat) (E:List Nat) (w w':World):Prop:=∃G,ak G w w'∧∀z,z∈G->z∈E->z=bt
theorem eQ.ft (k:eQ E L w L1 w1) (bt:Nat):qL bt E w w1:=let⟨G,kg,hG⟩:=k.out;⟨G,kg,λz hz si=>absurd si (hG z hz)⟩
theorem qL.trans {bt:Nat} (h:qL bt E w w1) (k:qL bt E w1 w2):qL bt E w w2:=let⟨G,kg,hG⟩:=h;let⟨G2,kg2,yq⟩:=k;⟨G++G2,(kg.mono λx hx=>List.mem_append_left _ hx).trans (kg2.mono λx hx=>mR _ hx),λz hz si=>(mA.1 hz).elim (λh=>hG z h si) (λh=>yq z h si)⟩
theorem qL.sub {bt:Nat} (h:qL bt (x::E) w w1):qL bt E w w1:=let⟨G,kg,hG⟩:=h;⟨G,kg,λz hz si=>hG z hz (mK _ si)⟩
theorem qL.of {bt:Nat} (k:ak G w w1) (hG:∀z,z∈G->z∈E->z=bt):qL bt E w w1:=⟨G,k,hG⟩
theorem qL.ju {bt:Nat} (k:qL bt E w w1) {cs:Array Value} {T:TypeId} (h:aY w b cs T) (hb:b∈E) (hn:b≠bt):aY w1 b cs T:=let⟨_,kg,hG⟩:=k;h.aO kg λhx=>hn (hG b hx hb)
set_option maxHeartbeats 4000000 in
theorem ahu (t:Tk) (m:Mk) (c xa y:Ex) (name:aj) (rest:Ex) (K:Ty) (bF:(Ex.ite c xa y).ok) (hn:(Ex.ite c xa y).n<=1000) (fD:bM (.ite c xa y) (fj t.sc)=some K) (hs:kt t.sc) (oZ:t.sc.length<=9000) (ri:t.on<1000) (kM:t.bm.length<=272) (Od:name≠[]->Oc t.sc name rest) (ht:m.types.length+9<1000) (hc:m.code.length<=7000) (xg:m.count+1<1000) (gw:m.bW.length<90000) 
  (E L:List Nat) (b bt:Nat) (v vr:Value) (w:World) (h:ei t8 E L w b true m) (hT:iq L w 130 bt t) (eT:bt∈E) (hv:bS L w v (Ex.ite c xa y).av) (oO:bS L w vr rest.av):
  bZ Tryz.prog 145 [.pointer (some ⟨b,0,none⟩),.pointer (some ⟨bt,0,none⟩),v,str name,vr] w λr w'=>∃L',bS L' w' r y.av∧ei t8 E L' w' b true (FO (fm (cG m t.sc c.az).1 t.sc t.on t.bm name K rest).1 t.sc (fm (cG m t.sc c.az).1 t.sc t.on t.bm name K rest).2.1 (fm (cG m t.sc c.az).1 t.sc t.on t.bm name K rest).2.2 (cG m t.sc c.az).2 xa)∧iq L' w' 130 bt {t with on:=(fm (cG m t.sc c.az).1 t.sc t.on t.bm name K rest).2.1,bm:=(fm (cG m t.sc c.az).1 t.sc t.on t.bm name K rest).2.2}∧Fr L w L' w'∧qL bt E w w':=by
 obtain⟨ar,nr,cr,rfl,p9,bc⟩:=dN hv
 subst p9
 obtain⟨a9,n9,c9,rfl,AP,_⟩:=dN oO
 subst AP
 have lS:=h.dM
 have jw:=l4 hs.types fD
 have aw:=h
 have hR:=eQ.refl E L w
 have dz:bS L w _ (Ex.ite c xa y).av:=hv
 have ov:=oL bF.1
 obtain⟨p,hp⟩:∃p,p=cG m t.sc c.az:=⟨_,rfl⟩
 have yN:p.1.types.length<=m.types.length+1∧p.1.code.length<=m.code.length+1∧p.1.count=m.count∧p.1.bW=m.bW∧p.2<1000:=by rw[hp];exact GV hs om
 obtain⟨ptl,pcl,pcn,ptk,p2⟩:=yN
 rw[<-hp]
 obtain⟨C,hC⟩:∃C,C=fm p.1 t.sc t.on t.bm name K rest:=⟨_,rfl⟩
 have CF:C.1.types.length<=p.1.types.length+4∧C.1.code.length<=p.1.code.length+4∧C.2.1<1000∧C.1.count<=p.1.count+1∧C.1.bW.length<=p.1.bW.length+1:=by rw[hC];exact Vd ri om
 obtain⟨Ctl,Ccl,C2,Ccn,Ctk⟩:=CF
 rw[ptk] at Ctk
 rw[<-hC]
 have hCn:C.1.count<1000:=by omega
 have GJ:=Ay hCn
 obtain⟨m1,r7⟩:∃z,z=C.1.lG.cY Fs [bf p.2,C.1.aP]:=⟨_,rfl⟩
 have ahw:m1.types=C.1.types:=by rw[r7];rfl
 have ahx:m1.bW=C.1.bW:=by rw[r7];rfl
 have hif:FO C.1 t.sc C.2.1 C.2.2 p.2 xa={m1 with bW:=m1.bW++[⟨C.1.aP,m1.types,0,[],t.sc,xa,C.2.1,C.2.2,m1.types.length⟩]}:=by rw[r7];rfl
 rw[hif]
 have I5:(Ex.ite c xa y).av.au.length=4:=rfl
 obtain⟨b1,ga,gY,gZ,e1,bC,_⟩:=fI bc (i:=1) om
 cases e1
 have bC:ja L w _ _ [str c.av.az,.slice gY c.av.au.length gZ]:=bC
 rw[Ex.rh] at bC
 obtain⟨b2,nk,jc,jd,e2,bX,eA⟩:=fI bc (i:=2) om
 cases e2
 have bX:ja L w _ _ [str xa.av.az,.slice jc xa.av.au.length jd]:=bX
 have eA:bS L w (.agg #[str xa.av.az,.slice jc xa.av.au.length jd]) xa.av:=eA
 obtain⟨b3,B6,pU,pV,e3,ew,eY⟩:=fI bc (i:=3) om
 cases e3
 have ew:ja L w _ _ [str y.av.az,.slice pU y.av.au.length pV]:=ew
 have eY:bS L w (.agg #[str y.av.az,.slice pU y.av.au.length pV]) y.av:=eY
 refine lz [.cell 10 66] 81 Tryz.func145 rfl Yr rfl rfl rfl ?_
 refine zr<|fA rfl ?_
 intro w1 aJ cH dV
 have aw:=aw.ext aJ;have hR:=hR.ext aJ
 refine fA rfl ?_
 intro w2 aq cT eK
 have aw:=aw.ext aq;have hR:=hR.ext aq;have cH:=cH.ext aq
 refine eC aH rfl rfl rfl ?_
 intro w3 aK pG Bv
 have cH:=cH.ext aK;have cT:=cT.ext aK
 have aw:=aw.s0 aK sm (lR _) pG.lt
 have p8:=(eQ.refl E L w2).more aK sm (lR _) (λz hz=>by have:=lS z (h.sub hz);omega)
 have GY:Fr L w (w2.heap.size::L) w3:=hR.fr.go p8.fr
 have Vk:=(hR.ext aK).ft bt
 have hT:=(hR.tk hT eT)
 have hT:=p8.tk hT eT
 have hR:=eQ.refl (w2.heap.size::E) (w2.heap.size::L) w3
 have rD:bt∈w2.heap.size::E:=mK _ eT
 have En:w2.heap.size∈w2.heap.size::E:=List.mem_cons_self ..
 have Of:=pG
 refine ag<|zr<|zm<|zL bT aH rfl cH.all rfl ?_
 have JP:∀z,z∈w2.heap.size::L->z=w2.heap.size∨z<w.heap.size:=(λz hz=>(mC.1 hz).imp id (lS z))
 have cH:fh (w2.heap.size::L) w3 w.heap.size [str (Ex.ite c xa y).av.az,.slice (some ⟨b1,ga,none⟩) (Ex.ite c xa y).av.au.length cr].toArray 66:=⟨cH,λhx=>by have:=JP _ hx;omega⟩
 have cT:fh (w2.heap.size::L) w3 w1.heap.size [str rest.av.az,.slice a9 rest.av.au.length c9].toArray 66:=⟨cT,λhx=>by have:=JP _ hx;omega⟩
 have kS:aY w3 w2.heap.size [str [],.slice none 0 0].toArray 66:=Of
 refine aC (Jv t (Ex.ite c xa y) bF hn hs.types om _ _ bt w3 aw.dM (hR.tk hT rD) (dz.go (GY.go hR.fr))) ?_
 rintro v4 w4 ⟨eJ,aD⟩
 have gK:=aD.size
 have aw:=aw.ext aD;have hR:=hR.ext aD;have cH:=cH.ext aD;have cT:=cT.ext aD
 have eR:=eJ
 rw[fD] at eR
 subst eR
 refine zA<|ag<|zr<|zm<|zm<|zf cM rfl<|zl cK rfl (cH.at rfl)<|zi (i:=1) cw aH rfl rfl ((show 1<4 from om))<|zL bT aH rfl ((bC.go (GY.go hR.fr)).cells) rfl<|aC (Cp t c.az m om om om oZ (w2.heap.size::E) _ b bt _ _ _ w4 aw (hR.tk hT rD) rD) ?_
 rintro v20 w5 ⟨pz,L1,aw,bY⟩
 rw[<-hp] at pz aw
 subst pz
 have hR:=hR.go bY;have cH:=cH.go bY.fr;have cT:=cT.go bY.fr
 have kS:=hR.ju kS En
 refine zA<|ag<|aQ<|zr<|zm<|jF rfl rfl rfl rfl<|ag ?_
 refine jh (λ_:Unit=>[(0,.pointer (some ⟨b,0,none⟩)),(1,.pointer (some ⟨bt,0,none⟩)),(7,.pointer (some ⟨w.heap.size,0,none⟩)),(10,.pointer (some ⟨w2.heap.size,0,none⟩)),(12,.int .i64 (p.2:Int))]) (λ_ ww=>∃L3,ei t8 (w2.heap.size::E) L3 ww b true C.1∧iq L3 ww 130 bt {t with on:=C.2.1,bm:=C.2.2}∧Fr L w L3 ww∧Fr L1 w5 L3 ww∧aY ww w2.heap.size [str [],.slice none 0 0].toArray 66∧qL bt E w ww) ?_ ?_
 refine zc rfl (λh1=>?_) (λh1=>?_)
 have gC:name≠[]:=(by simpa using h1)
 have aR:=Od gC
 obtain⟨g1,g2,g3,g4⟩:=aR
 have CH:fm p.1 t.sc t.on t.bm name K rest=tH p.1 t.sc t.on t.bm name K rest:=(by unfold fm;rw[iP gC])
 rw[CH] at hC
 have eN:w2.heap.size≠bt:=(λe9=>by have:=lS bt (h.sub eT);omega)
 refine db<|zm<|zm<|zm<|zm<|zL bT aH rfl cT.all rfl<|aC (U1 t p.1 name K rest g1 g2 g3 g4 hs oZ jw ri kM om om om (by rw[ptk];omega) (w2.heap.size::E) L1 b bt _ w5 aw (hR.tk hT rD) rD (oO.go (GY.go hR.fr))) ?_
 rintro v39 w6 ⟨L3,aw,Vl,yQ,G9,aG,Eo⟩
 rw[<-hC] at aw Vl
 have hF:=(GY.go hR.fr).go yQ
 have kS:=(hR.ju Of En).aO aG (λhx=>eN (Eo _ hx En))
 have hOq:=(Vk.trans (hR.ft bt).sub).trans (qL.of aG (λz hz si=>Eo z hz (mK _ si)))
 refine ag ?_
 exact⟨(),⟨rfl,rfl,rfl,rfl,rfl⟩,L3,aw,Vl,hF,yQ,kS,hOq⟩
 have gC:¬name≠[]:=(by simpa using h1)
 have CH:fm p.1 t.sc t.on t.bm name K rest=(p.1,t.on,t.bm):=(by unfold fm;rw[iN gC])
 rw[CH] at hC
 subst hC
 refine bA ?_
 exact⟨(),⟨rfl,rfl,rfl,rfl,rfl⟩,L1,aw,hR.tk hT rD,GY.go hR.fr,Fr.refl _ _,hR.ju Of En,Vk.trans (hR.ft bt).sub⟩
 intro gu w6 e6 hI
 obtain⟨L3,aw,dS,yQ,hF9,kS,hOc⟩:=hI
 have hR:=eQ.refl (w2.heap.size::E) L3 w6
 have Vm:=cH.go hF9
 have ahC:=kS
 refine zr<|zm<|aC (NA C.1 om (w2.heap.size::E) L3 b true w6 aw) ?_
 rintro v34 w7 ⟨⟨e34,aw⟩,ahE⟩
 subst e34
 have ahF:=aw.mem.1 b sm
 have xh:=aw.mem.2.2.1
 have hR:=hR.aL ahE ahF xh
 refine zA<|ag<|zr<|zm<|zm<|aC (iS (p.2+1) p.2 om om w7) ?_
 rintro v8 w8 ⟨oP,cu⟩
 have yu:=cu.size
 have aw:=aw.ext cu;have hR:=hR.ext cu
 obtain rfl:=oP
 have dC:=aw.dM
 refine zm<|lk bh bB rfl rfl rfl rfl ?_
 intro w9 aG ym dP
 have aw:=aw.ext aG;have hR:=hR.ext aG
 refine aC (lh Fs [bf p.2,C.1.aP] (mH de sm (by intro z hz;simp at hz;rcases hz with rfl|rfl;(·exact ml om);(·omega))) C.1.lG (show C.1.code.length<100000 from om) (w2.heap.size::E) L3 b _ w9 aw (aY.eF [bf p.2,C.1.aP] ym (λhx=>by have:=dC _ hx;omega))) ?_
 rintro v40 cN ⟨L4,aw,bY⟩
 rw[<-r7] at aw
 have hR:=hR.go bY
 clear ym
 have kx:=hR.tk dS rD
 obtain⟨u1,u3,u4,u5,u6,u8,cA,iv⟩:=kx
 have dC:=aw.dM
 have tX:=hR
 have mi:=aw
 refine ag<|zr<|zm<|di rfl<|zL C8 k8 rfl cA.all rfl<|eC k8 rfl rfl rfl ?_
 intro eW cL fz Co
 have kA:=cL
 refine dk k8 rfl rfl iv.one fz rfl ?_
 intro gj dD fz dP
 have kA:=kA.since dD (λx hx=>.inr (by simp at hx;omega))
 refine ag<|zr<|zm<|zf KG rfl<|gX (o:=0) bB rfl rfl rfl fz rfl ?_
 intro jC fM fz dP
 have kA:=kA.since fM (λx hx=>.inr (by simp at hx;omega))
 have qD:=mi.ext kA
 have hwq:=kA.size
 have aR:=qD.open
 obtain⟨JQ,vt9,vc9,vy9,gb9,gt9,gc9,gy9,AL,AN⟩:=aR
 have aR:=kr AN.ty
 obtain⟨ay9,Gq,ey9⟩:=aR
 subst ey9
 have hbz:=fz.lt
 have Og:=jC
 refine ag<|zr<|zU jC.heap.size [] bh bB rfl rfl (lR _) sm ?_
 intro jf dL I4 wM
 have fz:=fz.ext dL;have kA:=kA.ext dL
 have rB:=dL
 have AL:=AL.ext dL
 refine zm<|di rfl<|zf zC rfl<|zl eO rfl (AL.at rfl)<|xQ bh bB rfl rfl rfl rfl rfl rfl wM (((AN.ty.ext rB).rep (L:=[jC.heap.size]) (λx hx mN=>by have:=AN.ty.lt x (by simp[hx]);simp at mN;omega)).fresh (λx hx=>.inl (by simpa using hx))) (Vj _) (by rw[rP,ahw];simp;omega) ?_
 intro a4 je g4 p6 kW jD
 rw[List.nil_append] at kW
 have kA:=kA.since jD (λx hx=>.inr (by simp at hx;omega))
 have fz:=fz.aO jD so
 have lq:=kW.wc
 have ke:=kW.low
 refine zf Da rfl<|gX (o:=1) nL rfl rfl rfl fz rfl ?_
 intro lN kY fz dP
 have kA:=kA.since kY (λx hx=>.inr (by simp at hx;omega))
 have lq:=lq.aO kY (λz hz eK=>by have:=ke z hz;simp at eK;omega)
 refine ag<|zr<|zf PZ rfl<|gX (o:=2) tt rfl rfl rfl fz rfl ?_
 intro vD p7 fz dP
 have kA:=kA.since p7 (λx hx=>.inr (by simp at hx;omega))
 have lq:=lq.aO p7 (λz hz eK=>by have:=ke z hz;simp at eK;omega)
 have wi:=fz.lt
 refine ag<|zr<|gM bh bB ?_
 intro xf ua CI ahH
 have fz:=fz.ext ua;have kA:=kA.ext ua;have lq:=lq.ext ua
 refine zf Br rfl<|gX (o:=3) nL rfl rfl rfl fz rfl ?_
 intro Cx vF fz dP
 have kA:=kA.since vF (λx hx=>.inr (by simp at hx;omega))
 have lq:=lq.aO vF (λz hz eK=>by have:=ke z hz;simp at eK;omega)
 have CI:=CI.aO vF so
 have cH:=(Vm.go tX.fr).ext kA
 have Vn:=yQ.go tX.fr
 refine ag<|zr<|zf cM rfl<|zl cK rfl (cH.at rfl)<|zi (i:=2) cw aH rfl rfl ((show 2<4 from om))<|zL bT aH rfl (((bX.go Vn).ext kA).cells) rfl<|zf P1 rfl<|ahr (vs:=[str xa.av.az,.slice jc xa.av.au.length jd]) aH rfl rfl rfl rfl rfl rfl fz (Nat.le_of_ble_eq_true rfl) ?_
 intro vG uk fz anB dP
 have kA:=kA.since uk (λx hx=>.inr (by simp at hx;omega))
 have lq:=lq.aO uk (λz hz eK=>by have:=ke z hz;simp at eK;omega)
 have CI:=CI.aO uk so
 have qD:=mi.ext kA
 have aR:=qD.open
 obtain⟨vb8,vt8,vc8,vy8,gb8,gt8,gc8,gy8,ahI,hS8⟩:=aR
 have aR:=kr hS8.ty
 obtain⟨ay8,cy8,ey8⟩:=aR
 subst ey8
 refine ag<|zr<|zm<|di rfl<|zf zC rfl<|zl eO rfl (ahI.at rfl)<|eh bh rfl<|zf Z5 rfl<|gX (o:=11) tt rfl rfl rfl fz rfl ?_
 intro ry vH fz dP
 have kA:=kA.since vH (λx hx=>.inr (by simp at hx;omega))
 have lq:=lq.aO vH (λz hz eK=>by have:=ke z hz;simp at eK;omega)
 have CI:=CI.aO vH so
 have aw:=mi.s0 kA sm (lR _) fz.lt
 have xo:Fr L4 cN (cN.heap.size::L4) ry:=((eQ.refl [] L4 cN).more kA sm (lR _) sm).fr
 have hR:=tX.more kA sm (lR _) (λz hz=>dC z (mi.sub hz))
 have Vo:∀z,z∈cN.heap.size::L4->z<=cN.heap.size:=(λz hz=>by rcases mC.1 hz with h9|h9;(·omega);(·have:=dC z h9;omega))
 have CJ:fG (cN.heap.size::L4) ry (.slice jc xa.av.au.length jd) xa.av.au:=(by have dP:=dN (eA.go (Vn.go xo));obtain⟨_,_,_,e9,_,yN⟩:=dP;cases e9;exact yN)
 have gz:iq (cN.heap.size::L4) ry 130 cN.heap.size (Tk.mk C.1.aP m1.types 0 [] t.sc xa C.2.1 C.2.2 m1.types.length):=⟨_,_,_,_,_,_,fz,⟨lq.rep (λz hz GZ=>by have:=ke z hz;have:=Vo z GZ;omega),CI.ll.rep (λz hz GZ=>by have:=Vo z GZ;simp at hz;omega),iv.aX.go xo,iv.at_.go xo,iv.types.go xo,CJ⟩⟩
 have Jx:m1.bW.length<100000:=(by rw[ahx];omega)
 have aR:=aw.open
 obtain⟨vb,vt,vc,vy,gb,gt,gc,gy,tU,hS⟩:=aR
 have aR:=hS.apart
 obtain⟨yA,nH,vA,mG,vB,tW⟩:=aR
 obtain⟨u1,u3,u4,u5,u6,u8,GN,s8⟩:=gz
 have bj:fh gt.toList ry b [vb,vt,.int .i64 ((m1).count:Int),.bool (m1).wide,vc,vy].toArray 127:=⟨tU,λhx=>(mG b hx).2.1 rfl⟩
 have fz:fh gt.toList ry cN.heap.size (pO (Tk.mk C.1.aP m1.types 0 [] t.sc xa C.2.1 C.2.2 m1.types.length) u1 u3 u4 u5 u6 u8).toArray 130:=⟨GN,λhx=>(mG cN.heap.size hx).1 sm⟩
 have pY:fy gt.toList ry:=(λx hx=>hS.cZ x (hS.mem.2 (by simp[hx])))
 have A1:∀x,x∈gt.toList->x∈(cN.heap.size::L4):=(λx hx=>hS.mem.2 (by simp[hx]))
 refine ag<|aQ ?_
 apply kc eu gt.toList 8 (rA 67 8) (rA 67 8) [[],[],[1],[2],[3],[],[5],[4,6]] [Ie.v _,Ie.v _,Ie.v _,Ie.v _,Ie.v _,Ie.v _,Ie.p (fun(G:List Nat) (v:Value) (ww:World)=>∃bb,v= .slice (some ⟨bb,0,none⟩) 1 1∧fh G ww bb (pO (Tk.mk C.1.aP m1.types 0 [] t.sc xa C.2.1 C.2.2 m1.types.length) u1 u3 u4 u5 u6 u8).toArray 130),Ie.e 0] [7] [fun(G:List Nat) (vs:List Value) (ww:World)=>G=gt.toList∧ak [] ry ww,fun(G:List Nat) (vs:List Value) (ww:World)=>∃g2,ey (gt.toList++(g2.toList++(cN.heap.size::L4))) ww 130 12 (vs.getD 0 undef) g2 (((m1).bW++[(Tk.mk C.1.aP m1.types 0 [] t.sc xa C.2.1 C.2.2 m1.types.length)]).map Tk.enc)∧ak gt.toList ry ww∧(g2=gt∨∃x,g2=some x∧ry.heap.size<=x)] de rfl pY (by exact⟨λG v w G' w' ⟨bb,e,h⟩ k=>⟨bb,e,h.go k⟩,trivial⟩) (by exact⟨λG vs w w' ⟨h1,h2⟩ k=>⟨h1,h2.ext k⟩,λG vs w w' ⟨g2,h1,h2,h3⟩ k=>⟨g2,h1.ext k,h2.ext k,h3⟩,trivial⟩) (⟨rfl,ak.refl _ _⟩)
 refine cR ?_
 refine cR ?_
 refine vf (λ_ _ _ _ _ _=>di rfl fv) ?_
 refine vf (λ_ _ _ _ _ _=>zf zB rfl fv) ?_
 refine vf (λx Eg Oh aW ug JR=>?_) ?_
 have bj:=bj.go ug
 refine zl E1 rfl (bj.at rfl) ?_
 exact fv
 refine vf (λx Eg Oh aW ug JR=>?_) ?_
 have fz:=fz.go ug
 refine zL C8 k8 rfl fz.all rfl ?_
 exact fv
 refine vf (λx Eg Oh aW ug JR=>?_) ?_
 refine sB [_] [pO (Tk.mk C.1.aP m1.types 0 [] t.sc xa C.2.1 C.2.2 m1.types.length) u1 u3 u4 u5 u6 u8] xG k8 rfl rfl rfl rfl rfl rfl rfl rfl rfl ?_
 intro UO GH MV U2
 exact ff GH (⟨_,rfl,MV.o JR⟩)
 refine ve 0 (λx Eg Oh aW ug JR hJ hlen=>?_) ?_
 have bo:=jO hlen
 subst bo
 intro v6 d6
 obtain⟨bb,e6,gx⟩:=d6
 subst e6
 obtain⟨cz,cB⟩:=hJ
 subst cz
 have x6:=(hS.ta.any cB).sub (L':=gt.toList++(cN.heap.size::L4)) (λx hx=>.inl (by rcases mA.1 hx with h|h;(·exact A1 x h);(·exact h)))
 have A2:=s8.ext cB
 refine BP (L:=(cN.heap.size::L4)) (row:=Tk.enc (Tk.mk C.1.aP m1.types 0 [] t.sc xa C.2.1 C.2.2 m1.types.length)) xG k8 rfl rfl rfl rfl rfl rfl x6 rfl gx.all (λu hu=>List.all_eq_true.1 A2.one u hu) (A2.go ((Fr.refl _ _).to (L2:=gt.toList++(cN.heap.size::L4)) (λx hx=>.inl (by rcases mA.1 hx with h|h;(·exact A1 x h);(·exact h))))).BC (by rw[List.length_map];omega) ?_
 intro v9 g9 UO dK tY fN
 exact fe g9.toList (⟨tY.aO,λx hx=>by rcases fN with h|h;(·rw[h] at hx;exact .inl hx);(·rw[h] at hx;simp at hx;right;omega)⟩) ((λx hx=>dK.lt x hx)) (⟨g9,by rw[List.map_append];exact dK,cB.any.trans tY.aO,fN.imp id (λh=>⟨_,h,cB.size⟩)⟩)
 exact trivial
 intro x Vp G61 aW ahL anN hJ hlen
 have aR:=jP hlen
 obtain⟨q0,bo⟩:=aR
 subst bo
 intro v6 d6
 have bj:=bj.go ahL
 change OW _ _ _ _ _ (aM (aN _ x _) (zZ 67 [_,_,_,_,_,_,_,_])) _
 obtain⟨g2,dK,fg,iz⟩:=hJ
 have aR:=hS.Ff dK fg iz
 obtain⟨L3,gk,jU⟩:=aR
 have aR:=dK.len
 obtain⟨a3,c3,e3⟩:=aR
 have e4:q0=_:=e3
 subst e4
 have bj:aY _ b [vb,vt,.int .i64 ((m1).count:Int),.bool (m1).wide,vc,vy].toArray 127:=tU.aO fg (λhx=>(mG b hx).2.1 rfl)
 refine di rfl<|zf zB rfl<|gX (o:=1) KN rfl rfl rfl bj rfl ?_
 intro sk pA bj dP
 have gk:=gk.aO pA sm
 have aw:ei t8 (cN.heap.size::w2.heap.size::E) L3 sk b true {m1 with bW:=(m1).bW++[(Tk.mk C.1.aP m1.types 0 [] t.sc xa C.2.1 C.2.2 m1.types.length)]}:=⟨_,_,_,_,_,_,_,_,bj,gk⟩
 have hR:=(hR.add jU fg (λx hx vJ=>(mG x hx).1 (by simp[vJ]))).aL pA (gk.mem.2 (.inr (.inl rfl))) (λvJ=>nH (by simp[vJ]))
 have vL:=aw.drop
 obtain⟨L5,eL5,aw⟩:=vL
 have hR:=hR.sub (L2:=L5) (λz hz=>by rw[eL5];simp[hz])
 have cH:=Vm.go hR.fr
 have CK:=yQ.go hR.fr
 have kS:=hR.ju ahC En
 have kx:=hR.tk dS rD
 refine ag<|zr<|zf cM rfl<|zl cK rfl (cH.at rfl)<|zi (i:=3) cw aH rfl rfl ((show 3<4 from om))<|zL bT aH rfl ((ew.go CK).cells) rfl<|dk (vs:=[str y.av.az,.slice pU y.av.au.length pV]) aH rfl rfl rfl kS rfl ?_
 intro CL tb kS dP
 have aw:=aw.aO tb sm
 have hOz:=(hOc.trans (hR.ft bt).sub).trans (qL.of tb (λz hz si=>by simp at hz;have:=lS z (h.sub si);omega))
 have Vq:=aw.sub En
 have kx:iq L5 CL 130 bt {t with on:=C.2.1,bm:=C.2.2}:=kx.go (Fr.of tb (by simpa using Vq)) tb (by simp;intro e9;have:=lS bt (h.sub eT);omega)
 have CK:=CK.aL tb (by simpa using Vq)
 have vL:=aw.drop
 obtain⟨L6,Oi,aw⟩:=vL
 have A5:Fr L5 CL L6 CL:=(Fr.refl L5 CL).to (λz hz=>.inl (by rw[Oi];simp[hz]))
 have CK:=CK.go A5
 refine ag<|aV ?_
 exact⟨[_],gR bT aH rfl kS rfl,L6,eY.go CK,aw,kx.go A5 (ak.refl [] _) sm,CK,hOz⟩
theorem Vr (h:e.ok):cI e.av=e.head:=by
 cases e with
 |«at» s=>unfold cI;rw[iP (.inl (show s≠[] from pJ h))];rfl
 |un hd a=>rfl
 |bi hd a b=>rfl
 |ite a b c=>rfl
 |lt x a b=>rfl
 |fn f x A B b=>rfl
theorem ahO (h:e.ok) (he:e.head=kD):∃f x,e= .bi kD f x:=by
 cases e with
 |bi hd a b=>have he:hd=kD:=he;subst he;exact⟨a,b,rfl⟩
 |un hd a=>have he:hd=kD:=he;rw[he] at h;exact absurd h.1 de
 |«at» s=>cases he
 |ite a b c=>cases he
 |lt x a b=>cases he
 |fn f x A B b=>cases he
theorem ahP {e:Ex} (h:e.head≠gQ):bV e=⟨[],e,e⟩:=by
 cases e with
 |lt x a b=>exact absurd rfl h
 |_=>rfl
theorem ahQ {v1 v3 v4 v5 v6 v8:Value} {T:TypeId} (h:aY w b (pO t v1 v3 v4 v5 v6 v8).toArray T):iH w b 7 [str t.expr.av.az,v8]:=λj v hj=>by
 match j,hj with
 |0,hj=>simp at hj;subst hj;exact h.at rfl
 |1,hj=>simp at hj;subst hj;exact h.at rfl
theorem ahR {on:Nat} {bm:aj} {x:Ex} (g:uS m s on bm e T) (hg:(bV e).s= .bi kD f x):
  kF ⟨m,s,on,bm⟩ e= .inl (xW (fm (cG (cG m s f.az).1 s x.az).1 s on bm (bV e).name T (bV e).rest).1 (cG m s f.az).2 (cG (cG m s f.az).1 s x.az).2 (fm (cG (cG m s f.az).1 s x.az).1 s on bm (bV e).name T (bV e).rest).2.1):=by
 have hY:=g.nW
 unfold kF
 simp only[hg,if_true,IH]
 rw[<-hg,hY]
theorem ahS {on:Nat} {bm:aj} {c x y:Ex} (g:uS m s on bm e T) (hg:(bV e).s= .ite c x y):
  kF ⟨m,s,on,bm⟩ e= .inr (⟨FO (fm (cG m s c.az).1 s on bm (bV e).name T (bV e).rest).1 s (fm (cG m s c.az).1 s on bm (bV e).name T (bV e).rest).2.1 (fm (cG m s c.az).1 s on bm (bV e).name T (bV e).rest).2.2 (cG m s c.az).2 x,s,
    (fm (cG m s c.az).1 s on bm (bV e).name T (bV e).rest).2.1,(fm (cG m s c.az).1 s on bm (bV e).name T (bV e).rest).2.2⟩,y):=by
 have hY:=g.nW
 unfold kF
 simp only[hg,IH]
 rw[<-hg,hY];rfl
theorem Vs {on:Nat} {bm:aj} (g:uS m s on bm e T) (h1:(bV e).s.head≠kD) (h2:(bV e).s.head≠cC):
  kF ⟨m,s,on,bm⟩ e=(if(bV e).name=[] then .inl (xX (mZ m s T (bV e).s).1 on (mZ m s T (bV e).s).2) else .inr (⟨(mZ m s T (bV e).s).1,s++[((bV e).name,(mZ m s T (bV e).s).2,T)],on,bm⟩,(bV e).rest)):=by
 have hY:=g.nW
 rw[<-hY]
 cases hg:(bV e).s with
 |«at» a=>unfold kF;simp only[hg]
 |un a b=>unfold kF;simp only[hg]
 |lt a b c=>unfold kF;simp only[hg]
 |fn a b c d f=>unfold kF;simp only[hg]
 |bi hd f x=>rw[hg] at h1;unfold kF;simp only[hg,iN (show¬hd=kD from h1)]
 |ite a b c=>rw[hg] at h2;exact absurd rfl h2
theorem Vt {a:At} (h:kF a e= .inl m):mz e.n a e=m:=by
 have:=e.pos
 obtain⟨k,hk⟩:∃k,e.n=k+1:=⟨e.n-1,om⟩
 rw[hk];unfold mz;rw[h]
theorem Vu {a:At} {e2:Ex} {m2:Mk} {s2:da} {yh:Nat} {DJ:aj} (h:kF a e= .inr (⟨m2,s2,yh,DJ⟩,e2)) (hi:nZ m2 s2 yh DJ e2) (hn:e2.n+1<=e.n):mz e.n a e=mz e2.n ⟨m2,s2,yh,DJ⟩ e2:=by
 have hp:=e.pos
 obtain⟨k,hk⟩:∃k,e.n=k+1:=⟨e.n-1,om⟩
 rw[hk]
 show(match kF a e with| .inl m=>m| .inr p=>mz k p.1 p.2)=_
 rw[h]
 exact ac4 k hi (show e2.n<=k by omega)
theorem Vv {on:Nat} {bm:aj} (h:nZ m s on bm e) (g:uS m s on bm e T) (hn:(bV e).name≠[]):Oc s (bV e).name (bV e).rest:=by
 obtain⟨gC,FN,⟨U,hU⟩,rj⟩:=g.rest hn
 have hb:=h.bud
 have sN:∀y,Fv y (bV e).rest->y∉[(bV e).name]->(look (fj s) y).isSome=true:=λy hy fu=>by
  have:=pL hU hy
  rw[mX,iN (λe9=>fu (by rw[e9];simp))] at this;exact this
 have hf:=Mo (s:=s) (bd:=[(bV e).name]) om sN
 exact⟨FN,om,λx hx=>by
  rcases(qp x _ [(bV e).name] []).1 hx with h9|h9
  ·simp at h9
  ·exact sN x h9.1 h9.2,om⟩
theorem ahT {s:aj} (h:Aw s):s.length<=272:=by
 obtain⟨T,hT,rfl⟩:=h
 exact tM hT
set_option maxHeartbeats 8000000 in
theorem Vw (t:Tk) (m:Mk) (hI:nZ m t.sc t.on t.bm t.expr) (hn:t.expr.n<=120) (hc:m.code.length<=1100) (gw:m.bW.length<80000) 
  (E L:List Nat) (b bt:Nat) (w:World) (h:ei t8 E L w b true m) (hT:iq L w 130 bt t) (eT:bt∈E):
  bZ Tryz.prog 109 [.pointer (some ⟨b,0,none⟩),.pointer (some ⟨bt,0,none⟩)] w λr w'=>∃L',ei t8 E L' w' b true (mz t.expr.n ⟨m,t.sc,t.on,t.bm⟩ t.expr)∧(∃t',iq L' w' 130 bt t'∧t'.aP=t.aP∧t'.regs=t.regs)∧Fr L w L' w':=by
 have lS:=h.dM
 have Gj:=hT
 obtain⟨u1,u3,u4,u5,u6,u8,cA,iv⟩:=hT
 obtain⟨a8,c8,e8,_⟩:=rK iv.au
 rw[iJ] at e8
 subst e8
 have ahU:bt<w.heap.size:=lS bt (h.sub eT)
 have ahV:=mS iv.au
 refine cU [] 89 Tryz.func109 rfl XT rfl rfl ?_
 refine zr<|zm<|di rfl<|zf P1 rfl<|zL bT aH rfl ((ahQ cA)) rfl<|eC aH rfl rfl rfl ?_
 intro w1 aJ aI iL
 have gN:=aJ
 refine dk aH rfl rfl rfl aI rfl ?_
 intro w2 aq aI dP
 have gN:=gN.since aq (λx hx=>.inr (by simp at hx;omega))
 have aw:=h.s0 gN sm (lR _) aI.lt
 have p8:=(eQ.refl E L w).more gN sm (lR _) (λz hz=>lS z (h.sub hz))
 have dd:=p8.tk Gj eT
 have vv:=ahV.go p8.fr
 have rD:bt∈w.heap.size::E:=mK _ eT
 have JS:w.heap.size∈w.heap.size::E:=List.mem_cons_self ..
 have Vx:w.heap.size≠bt:=om
 refine ag<|cP ?_
 refine fZ (λe':Ex=>[(0,.pointer (some ⟨b,0,none⟩)),(1,.pointer (some ⟨bt,0,none⟩)),(4,.pointer (some ⟨w.heap.size,0,none⟩))]) (λe' ww=>∃(aa:At) (n9:Nat) (new:List Tk) (L1:List Nat) (ae:Option Addr) (ce:Nat),wG m aa.m aa.s aa.on aa.bm t.expr.n n9 e' new∧mz t.expr.n ⟨m,t.sc,t.on,t.bm⟩ t.expr=mz e'.n aa e'∧ei t8 (w.heap.size::E) L1 ww b true aa.m∧iq L1 ww 130 bt {t with sc:=aa.s,on:=aa.on,bm:=aa.bm}∧Fr L w L1 ww∧aY ww w.heap.size [str (e').av.az,.slice ae (e').av.au.length ce].toArray 66∧bS L1 ww (.agg #[str (e').av.az,.slice ae (e').av.au.length ce]) (e').av) (λe'=>e'.n) t.expr (⟨rfl,rfl,rfl⟩) (⟨⟨m,t.sc,t.on,t.bm⟩,0,[],_,_,_,wG.start hI,rfl,aw,dd,p8.fr,aI,vv⟩) ?_
 intro gg w3 e3 hI
 obtain⟨⟨m1,s1,uT,Ep⟩,n9,new,L1,ae,ce,A6,uw,JT,Vy,Oj,CM,Vz⟩:=hI
 dsimp only at A6 uw JT Vy
 have j7:=ak.refl [] w3
 have hA:=A6.inv
 have ahW:=hA.goal
 obtain⟨T,g⟩:=ahW
 have bg:=A6.steps
 have IF:=A6.num
 have anO:=A6.ext.code
 have ahX:=A6.ext.bW
 have hle:=g.le
 have anP:=hA.bud
 have sn:=hA.room
 have zo:=hA.cnt
 have Ok:=hA.on
 have VA:=ahT hA.bm
 have hep:=gg.pos
 have ow:=(bV gg).s.pos
 have nR:=S2 new
 have anQ:m1.code.length<=6500:=om
 have anR:m1.bW.length<85000:=(by rw[ahX,lA];omega)
 have uh:=JT.dM
 have anS:=g.small
 refine cP<|zr<|zA<|ag<|zr<|zL bT aH rfl ((CM.ext j7).all) rfl<|eC aH rfl rfl rfl ?_
 intro w4 aD bR lB
 have j7:=j7.ext aD
 refine dk aH rfl rfl rfl bR rfl ?_
 intro w5 aT bR dP
 have j7:=j7.since aT (λx hx=>.inr (by simp at hx;omega))
 refine ag<|zr<|zL bT aH rfl ((CM.ext j7).all) rfl<|eC aH rfl rfl rfl ?_
 intro w6 bD cH qg
 have j7:=j7.ext bD;have bR:=bR.ext bD
 have anT:=bR.lt
 refine dk aH rfl rfl rfl cH rfl ?_
 intro w7 cv cH dP
 have j7:=j7.since cv (λx hx=>.inr (by simp at hx;omega))
 have bR:=bR.aO cv so
 have aw:=JT.ext j7
 have vv:=Vz.ext j7
 have aI:=CM.ext j7
 refine ag<|aQ<|zr<|zL bT aH rfl aI.all rfl<|aC (HN gg.av _ L1 w7 vv) ?_
 rintro v8 w8 ⟨oP,cu⟩
 have yu:=cu.size
 have j7:=j7.ext cu;have bR:=bR.ext cu;have cH:=cH.ext cu;have vv:=vv.ext cu;have aI:=aI.ext cu
 have eR:=oP
 rw[Vr hA.ok] at eR
 subst eR
 refine cW rfl rfl<|ag ?_
 refine jh (λ_:Unit=>[(0,.pointer (some ⟨b,0,none⟩)),(1,.pointer (some ⟨bt,0,none⟩)),(4,.pointer (some ⟨w.heap.size,0,none⟩)),(5,str (bV gg).name),(6,.pointer (some ⟨w3.heap.size,0,none⟩)),(7,.pointer (some ⟨w5.heap.size,0,none⟩))]) (λ_ ww=>ak [w3.heap.size,w5.heap.size] w8 ww∧∃a6 c6 a7 c7,(aY ww w3.heap.size [str ((bV gg).s).av.az,.slice a6 ((bV gg).s).av.au.length c6].toArray 66∧bS L1 ww (.agg #[str ((bV gg).s).av.az,.slice a6 ((bV gg).s).av.au.length c6]) ((bV gg).s).av)∧aY ww w5.heap.size [str ((bV gg).rest).av.az,.slice a7 ((bV gg).rest).av.au.length c7].toArray 66∧bS L1 ww (.agg #[str ((bV gg).rest).av.az,.slice a7 ((bV gg).rest).av.au.length c7]) ((bV gg).rest).av) ?_ ?_
 refine zc rfl (λh1=>?_) (λh1=>?_)
 have eU:=I1 hA.ok h1
 obtain⟨nx,ea,eb,rfl⟩:=eU
 have I5:(Ex.lt nx ea eb).av.au.length=4:=rfl
 have cJ:=dN Vz
 obtain⟨_,_,_,e9,_,bc⟩:=cJ
 cases e9
 have fK:=fI bc (i:=1) om
 obtain⟨b1,ga,gY,gZ,e1,bC,_⟩:=fK
 cases e1
 have bC:ja L1 w3 _ _ [str nx,.slice gY 0 gZ]:=bC
 have fu:=fI bc (i:=2) om
 obtain⟨b2,nk,jc,jd,e2,bX,eA⟩:=fu
 cases e2
 have bX:ja L1 w3 _ _ [str ea.av.az,.slice jc ea.av.au.length jd]:=bX
 have eA:bS L1 w3 (.agg #[str ea.av.az,.slice jc ea.av.au.length jd]) ea.av:=eA
 have px:=fI bc (i:=3) om
 obtain⟨b3,B6,pU,pV,e3,ew,eY⟩:=px
 cases e3
 have ew:ja L1 w3 _ _ [str eb.av.az,.slice pU eb.av.au.length pV]:=ew
 have eY:bS L1 w3 (.agg #[str eb.av.az,.slice pU eb.av.au.length pV]) eb.av:=eY
 have ln:=ak.refl [w3.heap.size,w5.heap.size] w8
 refine zr<|zf cM rfl<|zl cK rfl ((CM.ext j7).at rfl)<|zi (i:=1) cw aH rfl rfl ((show 1<4 from om))<|zf dB rfl<|zl cg rfl ((bC.ext j7).cells 0 _ rfl)<|zA<|ag<|zr<|zf cM rfl<|zl cK rfl ((CM.ext j7).at rfl)<|zi (i:=2) cw aH rfl rfl ((show 2<4 from om))<|zL bT aH rfl ((bX.ext j7).cells) rfl ?_
 refine dk (vs:=[str ea.av.az,.slice jc ea.av.au.length jd]) aH rfl rfl rfl bR rfl ?_
 intro w9 aG bR dP
 have j7:=j7.since aG (λx hx=>.inr (by simp at hx;omega))
 have cH:=cH.aO aG so
 have ln:=ln.trans (aG.mono sm)
 refine ag<|db<|zf cM rfl<|zl cK rfl ((CM.ext j7).at rfl)<|zi (i:=3) cw aH rfl rfl ((show 3<4 from om))<|zL bT aH rfl ((ew.ext j7).cells) rfl<|dk (vs:=[str eb.av.az,.slice pU eb.av.au.length pV]) aH rfl rfl rfl cH rfl ?_
 intro cN bU cH dP
 have j7:=j7.since bU (λx hx=>.inr (by simp at hx;omega))
 have bR:=bR.aO bU so
 have ln:=ln.trans (bU.mono sm)
 refine ag ?_
 exact⟨(),⟨rfl,rfl,rfl,rfl,rfl,rfl⟩,ln,jc,jd,pU,pV,⟨bR,eA.ext j7⟩,cH,eY.ext j7⟩
 have pd:=ahP (e:=gg) h1
 refine bA ?_
 exact⟨(),⟨rfl,rfl,rfl,by rw[pd];rfl,rfl,rfl⟩,by rw[pd];exact⟨ak.refl _ _,ae,ce,ae,ce,⟨bR,vv⟩,cH,vv⟩⟩
 intro gu w9 e9 hI
 obtain⟨ln,a6,c6,a7,c7,⟨bR,sh⟩,cH,td⟩:=hI
 have xp:=j7.since ln (λx hx=>.inr (by simp at hx;rcases hx with rfl|rfl<;>omega))
 have aw:=JT.ext xp
 have dd:=Vy.ext xp
 have aI:=CM.ext xp
 have cH:fh L1 w9 w5.heap.size _ _:=⟨cH,λhx=>by have:=uh _ hx;omega⟩
 refine aQ<|zr<|zL bT aH rfl bR.all rfl<|aC (HN (bV gg).s.av _ L1 w9 sh) ?_
 rintro v10 cN ⟨rr,bU⟩
 have Cc:=bU.size
 have aw:=aw.ext bU;have dd:=dd.ext bU;have aI:=aI.ext bU;have sh:=sh.ext bU;have td:=td.ext bU;have bR:=bR.ext bU;have cH:=cH.ext bU;have xp:=xp.ext bU
 have eR:=rr
 rw[Vr g.ok] at eR
 subst eR
 refine ag<|cP<|zr<|cW rfl rfl<|zA<|ag<|zc rfl (λh2=>?_) (λh2=>?_)
 have jM:=ahO g.ok h2
 obtain⟨f,x9,jM⟩:=jM
 have gd:3<=(bV gg).s.n:=(by rw[jM];simp only[Ex.n];have:=f.pos;have:=x9.pos;omega)
 have Ms:(bV gg).s.n=(Ex.bi kD f x9).n:=congrArg Ex.n jM
 rw[jM] at bR sh
 have Ha:=g.ok
 have Hb:=g.type
 rw[jM] at Ha Hb
 refine zr<|zm<|zm<|zL bT aH rfl bR.all rfl<|zm<|zL bT aH rfl cH.all rfl<|aC (ahn ({t with sc:=s1,on:=uT,bm:=Ep}:Tk) m1 f x9 (bV gg).name (bV gg).rest T Ha om Hb hA.sc (show s1.length<=9000 from om) Ok VA (λAP=>Vv hA g AP) om om om om (w.heap.size::E) L1 b bt _ _ cN aw dd rD sh td) ?_
 rintro Vf eW ⟨L2,aw,⟨t',eA,iZ,cS⟩,tJ⟩
 have vL:=aw.drop
 obtain⟨L3,eL3,aw⟩:=vL
 have A5:Fr L2 eW L3 eW:=(Fr.refl L2 eW).to (λz hz=>.inl (by rw[eL3];simp[hz]))
 rw[<-Vt (ahR g jM),<-uw] at aw
 refine ag<|aV ?_
 exact⟨_,rfl,L3,aw,⟨t',eA.go A5 (ak.refl [] _) sm,iZ,cS⟩,((Oj.ext xp).go tJ).go A5⟩
 have mM:(bV gg).s.head≠kD:=h2
 refine zr<|cW rfl rfl<|zA<|ag<|zc rfl (λh3=>?_) (λh3=>?_)
 have jM:=TL g.ok h3
 obtain⟨c9,x9,y9,jM⟩:=jM
 have gd:4<=(bV gg).s.n:=(by rw[jM];simp only[Ex.n];have:=c9.pos;have:=x9.pos;have:=y9.pos;omega)
 have Ms:(bV gg).s.n=(Ex.ite c9 x9 y9).n:=congrArg Ex.n jM
 rw[jM] at bR sh
 have Ha:=g.ok
 have Hb:=g.type
 rw[jM] at Ha Hb
 have ahZ:=SU hA g jM
 obtain⟨nw,nw2,_,gP⟩:=ahZ
 have ah1:=gP.num
 refine zr<|zm<|zm<|zL bT aH rfl bR.all rfl<|zm<|zL bT aH rfl cH.all rfl<|aC (ahu ({t with sc:=s1,on:=uT,bm:=Ep}:Tk) m1 c9 x9 y9 (bV gg).name (bV gg).rest T Ha om Hb hA.sc (show s1.length<=9000 from om) Ok VA (λAP=>Vv hA g AP) om om om om (w.heap.size::E) L1 b bt _ _ cN aw dd rD sh td) ?_
 rintro v51 eW ⟨L2,JU,aw,eA,tJ,hFt⟩
 have cJ:=dN JU
 obtain⟨ay,ny,cy,Ol,IE,_⟩:=cJ
 subst Ol
 subst IE
 have aI:=hFt.ju aI JS Vx
 have hF:=(Oj.ext xp).go tJ
 refine dk (vs:=[str y9.av.az,.slice ay y9.av.au.length cy]) aH rfl rfl rfl aI rfl ?_
 intro gj dD aI dP
 have CN:=aw.sub JS
 have aw:=aw.aO dD sm
 have eA:=eA.go (Fr.of dD (by simpa using CN)) dD so;have hF:=hF.aL dD (by simpa using CN);have JU:=JU.go (Fr.of dD (by simpa using CN))
 refine ag<|gF<|WL rfl<|gH rfl ?_
 exact⟨y9,⟨rfl,rfl,rfl⟩,⟨⟨_,_,_,_⟩,_,_,L2,ay,cy,A6.step gP,uw.trans (Vu (ahS g jM) gP.inv om),aw,eA,hF,aI,JU⟩,om⟩
 have ni:(bV gg).s.head≠cC:=h3
 have hpu:=Mq (m:=m1) hA.sml hA.sc g.ok g.type om om om
 obtain⟨nwp,ql⟩:=hpu
 have CJ:∃z,z=mZ m1 s1 T (bV gg).s:=⟨_,rfl⟩
 obtain⟨P,hP⟩:=CJ
 rw[<-hP] at ql
 have anU:=ql.ext.types
 have anV:=ql.ext.code
 have hpr:=ql.dH
 refine bA<|zr<|zm<|zL bT aH rfl bR.all rfl<|aC (Jv ({t with sc:=s1,on:=uT,bm:=Ep}:Tk) (bV gg).s g.ok om hA.sc.types (show s1.length+2*(bV gg).s.n<=100000 from om) _ L1 bt cN aw.dM dd sh) ?_
 rintro v11 eW ⟨rC,cL⟩
 have CC:=cL.size
 have aw:=aw.ext cL;have dd:=dd.ext cL;have aI:=aI.ext cL;have sh:=sh.ext cL;have td:=td.ext cL;have bR:=bR.ext cL;have cH:=cH.ext cL;have xp:=xp.ext cL
 have eR:=rC
 rw[g.type] at eR
 subst eR
 refine zA<|ag<|zr<|zm<|zm<|zL bT aH rfl bR.all rfl<|aC (ahk ({t with sc:=s1,on:=uT,bm:=Ep}:Tk) m1 (bV gg).s T g.ok g.type hA.sc (show 5*s1.length+2*(bV gg).s.n<=240 from om) Ok om om om om (w.heap.size::E) L1 b bt _ eW aw dd rD sh) ?_
 rintro Jo gj ⟨Er,L2,aw,bY⟩
 rw[<-hP] at Er aw
 subst Er
 have eA:=bY.tk dd rD
 have cH:=cH.go bY.fr;have td:=td.go bY.fr
 have aI:=bY.ju aI JS
 have hF:=(Oj.ext xp).go bY.fr
 refine zA<|ag<|aQ<|zr<|zm<|cW rfl rfl<|ag<|zc rfl (λh4=>?_) (λh4=>?_)
 have rj:(bV gg).name=[]:=h4
 have Es:=(Vs g mM ni).trans (iP rj)
 rw[<-hP] at Es
 have Om:∃z,z=sG P.1 uT:=⟨_,rfl⟩
 obtain⟨me,CG⟩:=Om
 have Oe:me.types.length=P.1.types.length+3∧me.code.length=P.1.code.length+3:=(by rw[CG];exact Ve _ _)
 obtain⟨met,mec⟩:=Oe
 have BO:∃z,z=me.types.length:=⟨_,rfl⟩
 obtain⟨r,nK⟩:=BO
 have yR:∃z,z=me.code.length:=⟨_,rfl⟩
 obtain⟨c,er⟩:=yR
 have t0:me.types.length=r:=nK.symm
 have c0:me.code.length=c:=er.symm
 have BO:∃z,z=P.1.types.length:=⟨_,rfl⟩
 obtain⟨rc,GX⟩:=BO
 have Ix:xX P.1 uT P.2=((me.cY nV [[48],bf (rc+2)]).cY nV [[49],bf P.2]).cY Af [bf (rc+1)]:=(by rw[CG,GX];rfl)
 rw[Ix] at Es
 have kx:=eA
 obtain⟨v1,v3,v4,v5,v6,v8,ah4,_⟩:=kx
 refine zr<|zm<|zm<|di rfl<|zf HJ rfl<|zl qQ rfl (ah4.at rfl)<|aC (UB P.1 uT om om om (w.heap.size::E) L2 b gj aw) ?_
 rintro Vf jC ⟨DO,L0,aw,bY⟩
 rw[<-CG] at aw
 rw[<-GX] at DO
 subst DO
 have hR:=bY
 have dC:=aw.dM
 refine zm<|zx (i:=0) rfl rfl<|zx (i:=1) rfl rfl<|zA<|zA<|ag<|zr<|zm<|zm<|lk bh bB rfl rfl rfl rfl ?_
 intro jf dL VB Co
 have aw:=aw.ext dL;have hR:=hR.ext dL
 refine aC (lh nV [[48],bf (rc+2)] (mH de sm (by intro z hz;simp at hz;rcases hz with rfl|rfl;(·decide);(·exact ml om))) me om (w.heap.size::E) L0 b _ jf aw (aY.eF [[48],bf (rc+2)] VB (λhx=>by have:=dC _ hx;omega))) ?_
 rintro jV p6 ⟨L1,aw,bY⟩
 have hR:=hR.go bY
 clear VB
 have iR:∃x,x=me.cY nV [[48],bf (rc+2)]:=⟨_,rfl⟩
 obtain⟨m1,lO⟩:=iR
 rw[<-lO] at aw
 have t1:m1.types.length=r+0:=(by rw[lO,oN];omega)
 have c1:m1.code.length=c+1:=(by rw[lO,py];omega)
 have dC:=aw.dM
 refine ag<|zr<|zm<|zm<|aC (iS (P.2+1) P.2 om om p6) ?_
 rintro yt lN ⟨NB,kY⟩
 have T2:=kY.size
 have aw:=aw.ext kY;have hR:=hR.ext kY
 obtain rfl:=NB
 have dC:=aw.dM
 refine lk bh bB rfl rfl rfl rfl ?_
 intro vD p7 VC ah5
 have aw:=aw.ext p7;have hR:=hR.ext p7
 refine aC (lh nV [[49],bf P.2] (mH de sm (by intro z hz;simp at hz;rcases hz with rfl|rfl;(·decide);(·exact ml om))) m1 om (w.heap.size::E) L1 b _ vD aw (aY.eF [[49],bf P.2] VC (λhx=>by have:=dC _ hx;omega))) ?_
 rintro jV xf ⟨L2,aw,bY⟩
 have hR:=hR.go bY
 clear VC
 have fF:∃x,x=m1.cY nV [[49],bf P.2]:=⟨_,rfl⟩
 obtain⟨m2,lP⟩:=fF
 rw[<-lP] at aw
 have t2:m2.types.length=r+0:=(by rw[lP,oN];omega)
 have c2:m2.code.length=c+2:=(by rw[lP,py];omega)
 have dC:=aw.dM
 refine ag<|zr<|zm<|zm<|gA bh bB rfl rfl ?_
 intro Cx vF DY ae2
 have aw:=aw.ext vF;have hR:=hR.ext vF
 refine aC (lh Af [bf (rc+1)] (mH de sm (by intro z hz;simp at hz;subst hz;exact ml om)) m2 om (w.heap.size::E) L2 b _ Cx aw (aY.eF [bf (rc+1)] DY (λhx=>by have:=dC _ hx;omega))) ?_
 rintro jV vG ⟨L3,aw,bY⟩
 have hR:=hR.go bY
 clear DY
 have yG:∃x,x=m2.cY Af [bf (rc+1)]:=⟨_,rfl⟩
 obtain⟨m3,lQ⟩:=yG
 rw[<-lQ] at aw
 have t3:m3.types.length=r+0:=(by rw[lQ,oN];omega)
 have c3:m3.code.length=c+3:=(by rw[lQ,py];omega)
 have dC:=aw.dM
 have vL:=aw.drop
 obtain⟨L7,eL7,aw⟩:=vL
 have Ns:=hR.tk eA rD
 have A5:Fr L3 vG L7 vG:=(Fr.refl L3 vG).to (λz hz=>.inl (by rw[eL7];simp[hz]))
 refine ag<|aV ?_
 subst lQ lP lO
 rw[<-Vt Es,<-uw] at aw
 exact⟨_,rfl,L7,aw,⟨_,Ns.go A5 (ak.refl [] _) sm,rfl,rfl⟩,(hF.go hR.fr).go A5⟩
 have rj:(bV gg).name≠[]:=h4
 have Es:=(Vs g mM ni).trans (iN rj)
 have Dh:=SS hA g rj
 obtain⟨nw2,gP⟩:=Dh
 rw[<-hP] at Es gP
 have ah1:=gP.num
 have yL:=aw.sub rD
 refine bA<|zr<|zm<|zm<|zm<|zm<|aC (Ee ({t with sc:=s1,on:=uT,bm:=Ep}:Tk) (bV gg).name P.2 T (show s1.length<100000 from om) L2 bt gj yL aw.dM eA) ?_
 rintro v87 jC ⟨eA,mI⟩
 have aw:=aw.aO mI (by simpa using .inr eT)
 have cH:=cH.aL mI (by simpa using yL);have td:=td.go (Fr.of mI (by simpa using yL))
 have aI:=aI.aO mI (by simpa using Vx)
 have hF:=hF.aL mI (by simpa using yL)
 have eA:iq L2 jC 130 bt ({t with sc:=s1++[((bV gg).name,P.2,T)],on:=uT,bm:=Ep}:Tk):=eA
 refine ag<|db<|zL bT aH rfl cH.all rfl<|dk (vs:=[str (bV gg).rest.av.az,.slice a7 (bV gg).rest.av.au.length c7]) aH rfl rfl rfl aI rfl ?_
 intro jf dL aI dP
 have CN:=aw.sub JS
 have aw:=aw.aO dL sm
 have eA:=eA.go (Fr.of dL (by simpa using CN)) dL so;have hF:=hF.aL dL (by simpa using CN);have td:=td.go (Fr.of dL (by simpa using CN))
 refine ag ?_
 exact⟨(bV gg).rest,⟨rfl,rfl,rfl⟩,⟨⟨_,_,_,_⟩,_,_,L2,a7,c7,A6.step gP,uw.trans (Vu Es gP.inv om),aw,eA,hF,aI,td⟩,om⟩
theorem ah7 (h:oM t) (hk:k<t.loads) {hd:aA} (hh:∀t',ba (t.regs.getD 0 [105])=some t'->hd=t'):k+1<hd.au.length∧nth hd.au (k+1)=nth (nj t) k∧WF (nth (nj t) k)∧(nth (nj t) k).size<=12001:=by
 rcases h.loads with h0|⟨ts,hr,hl,hp⟩
 ·omega
 ·obtain⟨e1,e2⟩:=Mu hr hp
  have e3:=hh _ e2
  have dx:=tu e2
  have iY:=By e2
  subst e3
  have hlen:(we [116] ts).au.length=ts.length+1:=rfl
  have h1:k+1<(we [116] ts).au.length:=by rw[hlen];omega
  have e4:nth (we [116] ts).au (k+1)=nth (nj t) k:=by rw[e1];rfl
  have h2:=dx.nth h1
  have h3:=lX h1
  rw[e4] at h2 h3
  have h4:=KX e2
  exact⟨h1,e4,h2,om⟩
theorem ah8 {m:Mk} (h:oM t) (hk:k<=t.loads):BV m (pe (oa m t.regs) (nj t) k) t.regs k:=by
 have hr:=h.room
 rcases h.loads with h0|⟨ts,hh,hl,FP⟩
 ·rw[show k=0 by omega];exact Mv h.regs
 ·obtain⟨e1,_⟩:=Mu hh FP
  rw[e1]
  refine Mw h.regs (λx hx=>?_) _ om om
  have h2:=h.regs _ (List.mem_of_mem_head? hh)
  rw[lI] at h2
  have:=SX (List.mem_map_of_mem (f:=aA.text) hx)
  omega
theorem ah9 (m:Mk) (aP:aj) (regs:List aj) (a b:aj) {CO:aj} {r:Nat} (hC:CO=bP [99] regs) (hP:P0=bP [116] [CO,b]) (hr:r=m.types.length):
  AA m aP regs a b=(((((m.dH CO).cY sD [bf r,aP]).dH P0).cY l5 [bf (r+1),bf r,[48]]).dH a).cY sE [bf (r+2),bf (r+1),a,b]:=by
 subst hP;subst hC;subst hr;rfl
set_option maxHeartbeats 8000000 in
theorem aia (t:Tk) (m:Mk) (Et:oM t) (o:Bool) 
  (E L:List Nat) (b bt:Nat) (w:World) (h:ei t8 E L w b o m) (hT:iq L w 130 bt t) (eT:bt∈E):
  bZ Tryz.prog 112 [.pointer (some ⟨b,0,none⟩),.pointer (some ⟨bt,0,none⟩)] w λr w'=>∃L',ei t8 E L' w' b true (qx m t)∧eQ E L w L' w':=by
 have lS:=h.dM
 have ahU:bt<w.heap.size:=lS bt (h.sub eT)
 have hR:=eQ.refl E L w
 have sn:=Et.room
 have aw:=h
 refine cU [] 137 Tryz.func112 rfl XX rfl rfl ?_
 refine zr<|zm<|gM bh bB ?_
 intro w1 aJ mc Gg
 have yS:=h.open
 obtain⟨xb,xt,xc,xy,gb,gt,gc,gy,bj,hS⟩:=yS
 have yf:=hS.apart
 obtain⟨yA,nH,vA,mG,vB,tW⟩:=yf
 have bj:aY w1 b [xb,xt,.int .i64 (m.count:Int),.bool m.wide,xc,xy].toArray 127:=bj.ext aJ
 have yT:=hS.Ip mc.ll aJ.any (λx hx=>.inr (by cases hx;exact lR _))
 obtain⟨L1,hS,bY⟩:=yT
 have hR:=(eQ.refl E L w).add bY aJ sm
 refine di rfl<|zf C9 rfl<|gX (o:=4) nL rfl rfl rfl bj rfl ?_
 intro w2 aq bj dP
 have hS:=hS.aO aq sm
 have CP:=hS.mem.2 (.inr (.inl rfl))
 have hR:=hR.aL aq CP nH
 have kx:=hR.tk hT eT
 obtain⟨u1,u3,u4,u5,u6,u8,cA,iv⟩:=kx
 have cJ:=eI iv.regs
 obtain⟨a1,n1,c1,e1,fK⟩:=cJ
 subst e1
 subst fK
 have anX:∀x,x∈L1->x<w2.heap.size:=hS.cZ
 refine ag<|zr<|zm<|zU w2.heap.size [] bh bB rfl rfl (lR _) sm ?_
 intro w3 aK ah5 aib
 have rB:=aK
 have cA:=cA.ext aK
 refine zm<|di rfl<|zf Da rfl<|zl eO rfl (cA.at rfl)<|xQ bh bB rfl rfl rfl rfl rfl rfl aib ((cD.fresh iv.regs (L':=[w2.heap.size]) (λx hx=>.inr (by simp at hx;omega))).ext rB |>.fresh (λx hx=>.inl (by simpa using hx))) (Vj _) (by rw[rP];simp;omega) ?_
 intro a4 je g4 w4 kW aD
 rw[List.nil_append] at kW
 have Oo:=rB.since aD (λx hx=>.inr (by simp at hx;omega))
 have lq:=kW.wc
 have ke:=kW.low
 have bj:=bj.ext Oo
 have yT:=hS.LS lq Oo.any (λx hx=>.inr (ke x hx))
 obtain⟨L2,gk,jU⟩:=yT
 have hR:=hR.add jU Oo sm
 refine di rfl<|zf zC rfl<|gX (o:=5) nL rfl rfl rfl bj rfl ?_
 intro w5 aT bj dP
 have gk:=gk.aO aT sm
 have aic:=gk.mem.2 (.inr (.inl rfl))
 have hR:=hR.aL aT aic nH
 have aw:ei t8 E L2 w5 b true (oa m t.regs):=⟨_,_,_,_,_,_,_,_,bj,gk⟩
 have CE:=aw.dM
 refine ag<|zr<|aC (zK [105] L2 w5 CE) ?_
 rintro v6 w6 ⟨kU,bD⟩
 have ob:=bD.size
 have aw:=aw.ext bD;have hR:=hR.ext bD
 have eR:=kU
 obtain⟨t0x,tv,Oq,JV,iy⟩:=eR
 subst Oq
 have cJ:=dN JV
 obtain⟨a5,n5,c5,e5,Jf,_⟩:=cJ
 subst e5
 subst Jf
 have mi:=aw
 have tX:=hR
 have CE:=aw.dM
 refine zm<|zx (i:=0) rfl rfl<|zx (i:=1) rfl rfl<|eC aH rfl rfl rfl ?_
 intro w7 cv aI iL
 have dm:=cv
 refine dk (vs:=[str t0x.az,.slice a5 t0x.au.length c5]) aH rfl rfl rfl aI rfl ?_
 intro w8 cu aI dP
 have dm:=dm.since cu (λx hx=>.inr (by simp at hx;omega))
 have aw:=mi.ext dm
 have hR:=tX.ext dm
 have JV:=JV.ext dm
 have kx:=hR.tk hT eT
 obtain⟨u1,u3,u4,u5,u6,u8,cA,iv⟩:=kx
 have cJ:=eI iv.regs
 obtain⟨a1,n1,c1,e1,fK⟩:=cJ
 subst e1
 subst fK
 have cJ:=eI iv.self
 obtain⟨a3,n3,c3,e3,px⟩:=cJ
 subst e3
 subst px
 have cA:aY w8 bt [str t.aP,.slice a1 t.regs.length c1,.int .i64 (t.loads:Int),.slice a3 t.self.length c3,u4,u5,u6,str t.expr.av.az,u8,.int .i64 (t.on:Int),str t.bm,.int .i64 (t.next:Int)].toArray 130:=cA
 refine zA<|ag<|aQ<|zr<|zm<|di rfl<|zf Da rfl<|zl eO rfl (cA.at rfl)<|eh bh rfl<|jx rfl rfl rfl rfl rfl<|ag ?_
 refine jh (λ_:Unit=>[(0,.pointer (some ⟨b,0,none⟩)),(1,.pointer (some ⟨bt,0,none⟩)),(4,.pointer (some ⟨w6.heap.size,0,none⟩))]) (λ_ ww=>ak [w6.heap.size] w8 ww∧∃(hd:aA) (ah:Option Addr) (ch:Nat),aY ww w6.heap.size [str hd.az,.slice ah hd.au.length ch].toArray 66∧bS L2 ww (.agg #[str hd.az,.slice ah hd.au.length ch]) hd∧∀t',ba (t.regs.getD 0 [105])=some t'->hd=t') ?_ ?_
 refine zc rfl (λh1=>?_) (λh1=>?_)
 have nK:0<t.regs.length:=(by simp at h1;omega)
 have gh:=oq iv.regs nK
 obtain⟨b9,ot,e9,gq⟩:=gh
 cases e9
 have rL:t.regs.getD 0 [105]=aF t.regs 0:=(by unfold aF;rw[gG,gG,gE nK];rfl)
 have ln:=ak.refl [w6.heap.size] w8
 have Eu:=aw.dM
 refine db<|zm<|di rfl<|zf Da rfl<|zl eO rfl (cA.at rfl)<|zi (i:=0) bh bB rfl rfl om<|zl cg rfl (gq.cells 0 _ rfl)<|aC (zK (aF t.regs 0) (w6.heap.size::L2) w8 (λx hx=>by rcases mC.1 hx with h9|h9;(·rw[h9];exact aI.lt);(·exact Eu x h9))) ?_
 rintro v9 w9 ⟨eR,aG⟩
 have ph:=aG.size
 have aI:=aI.ext aG;have ln:=ln.ext aG
 have eR:=eR
 obtain⟨t1x,tv,yl,VD,oY⟩:=eR
 subst yl
 have cJ:=dN VD
 obtain⟨a6,n6,c6,e6,VE,_⟩:=cJ
 subst e6
 subst VE
 refine zm<|zx (i:=0) rfl rfl<|zx (i:=1) rfl rfl<|dk (vs:=[str t1x.az,.slice a6 t1x.au.length c6]) aH rfl rfl rfl aI rfl ?_
 intro cN bU aI dP
 have ln:=ln.trans bU
 have aid:bS L2 cN _ t1x:=(VD.go (Fr.of bU sm)).fresh (λx hx=>.inl (by simp[hx]))
 refine ag ?_
 exact⟨(),⟨rfl,rfl,rfl⟩,ln,t1x,a6,c6,aI,aid,by rw[rL];exact oY⟩
 have nK:t.regs=[]:=(by simpa using h1)
 have rL:t.regs.getD 0 [105]=[105]:=(by rw[nK];rfl)
 refine bA ?_
 exact⟨(),⟨rfl,rfl,rfl⟩,ak.refl _ _,t0x,a5,c5,aI,JV,by rw[rL];exact iy⟩
 intro gu w9 e9 hI
 obtain⟨ln,hd,ah,ch,aI,Ot,jG⟩:=hI
 have dm:=dm.since ln (λx hx=>.inr (by simp at hx;omega))
 have aw:=mi.ext dm
 have hR:=tX.ext dm
 have aI:fh L2 w9 w6.heap.size _ _:=⟨aI,λhx=>by have:=CE _ hx;omega⟩
 refine aQ<|zr<|zA<|ag<|cP ?_
 refine fZ (λk:Nat=>[(0,.pointer (some ⟨b,0,none⟩)),(1,.pointer (some ⟨bt,0,none⟩)),(4,.pointer (some ⟨w6.heap.size,0,none⟩)),(6,.int .i64 (k:Int))]) (λk ww=>∃L3,ei t8 E L3 ww b true (pe (oa m t.regs) (nj t) k)∧eQ E L w L3 ww∧Fr L2 w9 L3 ww∧k<=t.loads) (λk=>t.loads-k) (0) (⟨rfl,rfl,rfl,rfl⟩) (⟨L2,aw,hR,Fr.refl _ _,Nat.zero_le _⟩) ?_
 intro gg cN fY hI
 obtain⟨L3,aw,hR,rE,hk⟩:=hI
 have aI:=aI.go rE;have Ot:=Ot.go rE
 have kx:=hR.tk hT eT
 obtain⟨u1,u3,u4,u5,u6,u8,cA,iv⟩:=kx
 have cJ:=eI iv.regs
 obtain⟨a1,n1,c1,e1,fK⟩:=cJ
 subst e1
 subst fK
 have cJ:=eI iv.self
 obtain⟨a3,n3,c3,e3,px⟩:=cJ
 subst e3
 subst px
 have cA:aY cN bt [str t.aP,.slice a1 t.regs.length c1,.int .i64 (t.loads:Int),.slice a3 t.self.length c3,u4,u5,u6,str t.expr.av.az,u8,.int .i64 (t.on:Int),str t.bm,.int .i64 (t.next:Int)].toArray 130:=cA
 have VF:=ah8 (m:=m) Et hk
 have aie:=VF.types
 have aif:=VF.code
 refine aQ<|zr<|zm<|zm<|di rfl<|zf PZ rfl<|zl qQ rfl (cA.at rfl)<|fJ rfl rfl rfl<|ag<|zc rfl (λh2=>?_) (λh2=>?_)
 have aq:gg<t.loads:=(by simp at h2;omega)
 have aih:=ah7 Et aq jG
 obtain⟨qi,uJ,Dk,VG⟩:=aih
 have cJ:=dN Ot
 obtain⟨_,_,_,e9,_,bc⟩:=cJ
 cases e9
 have fK:=fI bc qi
 obtain⟨b9,ot,pa9,pc9,e9,gq,dS⟩:=fK
 cases e9
 rw[uJ] at gq dS
 have pS:=Lt _ _ (lR _) Dk
 refine bA<|aQ<|cP<|zr<|zm<|zf cM rfl<|zl cK rfl (aI.at rfl)<|zm<|eE rfl rfl rfl (wrap_i64 _ om om)<|zi cw aH rfl rfl om<|zL bT aH rfl gq.cells rfl<|aC (tx (nth (nj t) gg).size _ (lR _) Dk om om _ _ cN dS) ?_
 rintro v11 eW ⟨rC,cL⟩
 have CC:=cL.size
 have aw:=aw.ext cL;have hR:=hR.ext cL;have rE:=rE.ext cL
 obtain rfl:=rC
 refine aC (se (nth (nj t) gg).text (pe (oa m t.regs) (nj t) gg) om E L3 b true eW aw) ?_
 rintro Vc gj ⟨Hc,L4,aw,bY⟩
 subst Hc
 have hR:=hR.go bY;have rE:=rE.go bY.fr
 refine zA<|ag<|db<|zm<|zm<|aC (iS ((pe (oa m t.regs) (nj t) gg).types.length+1) (pe (oa m t.regs) (nj t) gg).types.length om om gj) ?_
 rintro wP jC ⟨vC,fM⟩
 have Gv:=fM.size
 have aw:=aw.ext fM;have hR:=hR.ext fM;have rE:=rE.ext fM
 obtain rfl:=vC
 have dC:=aw.dM
 refine zm<|aC (iS (gg+1) gg om om jC) ?_
 rintro lJ jf ⟨Ou,dL⟩
 have aik:=dL.size
 have aw:=aw.ext dL;have hR:=hR.ext dL;have rE:=rE.ext dL
 obtain rfl:=Ou
 have dC:=aw.dM
 refine pQ bh bB rfl rfl rfl rfl rfl ?_
 intro p6 jD ail I0
 have aw:=aw.ext jD;have hR:=hR.ext jD;have rE:=rE.ext jD
 refine aC (lh sF [bf (pe (oa m t.regs) (nj t) gg).types.length,[48],bf gg] (mH de sm (by intro z hz;simp at hz;rcases hz with rfl|rfl|rfl;(·exact ml om);(·decide);(·exact ml om))) ((pe (oa m t.regs) (nj t) gg).dH (nth (nj t) gg).text) (show(pe (oa m t.regs) (nj t) gg).code.length<100000 from om) E L4 b _ p6 aw (aY.eF [bf (pe (oa m t.regs) (nj t) gg).types.length,[48],bf gg] ail (λhx=>by have:=dC _ hx;omega))) ?_
 rintro v68 lN ⟨L5,aw,bY⟩
 have hR:=hR.go bY;have rE:=rE.go bY.fr
 refine ag<|db<|zm<|eE rfl rfl rfl (wrap_i64 _ om om)<|zA<|ag ?_
 exact⟨gg+1,⟨rfl,rfl,rfl,rfl⟩,⟨L5,aw,hR,rE,om⟩,om⟩
 have Al:gg=t.loads:=om
 subst Al
 have Om:∃z,z=pe (oa m t.regs) (nj t) t.loads:=⟨_,rfl⟩
 obtain⟨m0,ti⟩:=Om
 rw[<-ti] at aw aie aif
 refine gF<|gH rfl<|zr<|zm<|di rfl<|zf Br rfl<|zl eO rfl (cA.at rfl)<|eh bh rfl<|dO rfl rfl rfl<|ag<|zc rfl (λh3=>?_) (λh3=>?_)
 have iZ:t.self.length=2:=om
 have CQ:=Et.self
 have CQ:∃a b,t.self=[a,b]∧a.length<=272∧b.length<=11200∧t.regs.length=3∧∀r,r∈t.regs->r.length<=11200:=(by rcases CQ with h9|h9;(·rw[h9] at iZ;cases iZ);(·exact h9))
 obtain⟨sa,sb,Ov,anZ,an0,h3,oC⟩:=CQ
 have yR:∃z,z=bP [99] t.regs:=⟨_,rfl⟩
 obtain⟨CO,yU⟩:=yR
 have yR:∃z,z=bP [116] [CO,sb]:=⟨_,rfl⟩
 obtain⟨P0,sf⟩:=yR
 have an1:CO.length<=33610:=(by rw[yU];exact SW h3 oC)
 have an2:P0.length<=45000:=(by rw[sf,lI,Ax];simp only[lC,List.length_nil];omega)
 have yR:∃z,z=m0.types.length:=⟨_,rfl⟩
 obtain⟨r,GB⟩:=yR
 have yR:∃z,z=m0.code.length:=⟨_,rfl⟩
 obtain⟨c,NH⟩:=yR
 have t0:m0.types.length=r:=GB.symm
 have c0:m0.code.length=c:=NH.symm
 have Ow:qx m t=(((((m0.dH CO).cY sD [bf r,t.aP]).dH P0).cY l5 [bf (r+1),bf r,[48]]).dH sa).cY sE [bf (r+2),bf (r+1),sa,sb]:=(by unfold qx IG;rw[<-ti,Ov];exact ah9 m0 t.aP t.regs sa sb yU sf GB)
 have FJ:=Et.aP
 have wh:t.self.length=2:=iZ
 have oy:aF t.self 0=sa:=(by rw[Ov];rfl)
 have dy:aF t.self 1=sb:=(by rw[Ov];rfl)
 refine zr<|zm<|di rfl<|zf Da rfl<|zl eO rfl (cA.at rfl)<|aC ((show bZ Tryz.prog 75 [str [99],.slice a1 t.regs.length c1] _ (λr w'=>r=str CO∧ak [] _ w') from by rw[yU];exact xR [99] t.regs (by rw[<-yU];omega) _ _ _ iv.regs)) ?_
 rintro v11 eW ⟨rC,cL⟩
 have CC:=cL.size
 have aw:=aw.ext cL;have hR:=hR.ext cL;have cA:=cA.ext cL
 obtain rfl:=rC
 refine zA<|ag<|zr<|zm<|zm<|aC (se CO m0 om E L3 b true eW aw) ?_
 rintro v10 gj ⟨fY,L1,aw,bY⟩
 rw[t0] at fY
 subst fY
 have hR:=hR.go bY
 have iR:∃x,x=m0.dH CO:=⟨_,rfl⟩
 obtain⟨m1,lO⟩:=iR
 rw[<-lO] at aw
 have t1:m1.types.length=r+1:=(by rw[lO,ye];omega)
 have c1:m1.code.length=c+0:=(by rw[lO,Cq];omega)
 have dC:=aw.dM
 have kx:=hR.tk hT eT
 obtain⟨u1,u3,u4,u5,u6,u8,cA,iv⟩:=kx
 have cJ:=eI iv.self
 obtain⟨a3,n3,c3,e3,px⟩:=cJ
 subst e3
 subst px
 have cA:aY gj bt [str t.aP,u1,.int .i64 (t.loads:Int),.slice a3 t.self.length c3,u4,u5,u6,str t.expr.av.az,u8,.int .i64 (t.on:Int),str t.bm,.int .i64 (t.next:Int)].toArray 130:=cA
 have gh:=oq iv.self (i:=0) om
 obtain⟨b9,ot,e9,gq⟩:=gh
 cases e9
 have gh:=oq iv.self (i:=1) om
 obtain⟨Ox,Oy,fY,vM⟩:=gh
 cases fY
 rw[oy] at gq
 rw[dy] at vM
 refine zA<|ag<|aQ ?_
 apply wC eu 8 (rA 83 8) (rA 83 8) [[],[],[1],[],[3],[4],[5],[2,6]] [It.v _,It.v _,It.v _,It.v _,It.v _,It.v _,It.v _,It.p (fun(v:Value) (ww:World)=>bI L1 ww v [bf r,t.aP])] de (by exact⟨λv w w' h k=>h.ext k,trivial⟩)
 intro wd aB
 refine eM ?_
 refine eM ?_
 refine vk aB (λx jC fM=>?_) ?_
 refine aC (iS (r+1) r om om jC) ?_
 rintro lJ jf ⟨Ou,dL⟩
 have aik:=dL.size
 obtain rfl:=Ou
 exact pk dL
 refine eM ?_
 refine vk aB (λx jC fM=>?_) ?_
 refine di rfl ?_
 exact pv
 refine vc (λ_ _ _=>zf KG rfl pv) ?_
 refine vk aB (λx jC fM=>?_) ?_
 have cA:=cA.ext fM
 refine zl cg rfl (cA.at rfl) ?_
 exact pv
 refine vk aB (λx jC fM=>?_) ?_
 have aim:=fM.size
 refine lk bh bB rfl rfl rfl rfl ?_
 intro jf dL ain Co
 exact pf dL ((aY.eF [bf r,t.aP] ain (λhx=>by have:=dC _ hx;omega)))
 exact trivial
 intro x AQ oR
 intro v7 d7
 have aw:=aw.ext oR;have hR:=hR.ext oR;have cA:=cA.ext oR
 change OW _ _ _ _ _ (aM (aN _ x _) (zZ 83 [_,_,_,_,_,_,_,_])) _
 refine aC (lh sD [bf r,t.aP] (mH de sm (by intro z hz;simp at hz;rcases hz with rfl|rfl;(·exact ml om);(·omega))) m1 om E L1 b _ AQ aw d7) ?_
 rintro jV mj ⟨L2,aw,bY⟩
 have hR:=hR.go bY
 have fF:∃x,x=m1.cY sD [bf r,t.aP]:=⟨_,rfl⟩
 obtain⟨m2,lP⟩:=fF
 rw[<-lP] at aw
 have t2:m2.types.length=r+1:=(by rw[lP,oN];omega)
 have c2:m2.code.length=c+1:=(by rw[lP,py];omega)
 have dC:=aw.dM
 have kx:=hR.tk hT eT
 obtain⟨u1,u3,u4,u5,u6,u8,cA,iv⟩:=kx
 have cJ:=eI iv.self
 obtain⟨a3,n3,c3,e3,px⟩:=cJ
 subst e3
 subst px
 have cA:aY mj bt [str t.aP,u1,.int .i64 (t.loads:Int),.slice a3 t.self.length c3,u4,u5,u6,str t.expr.av.az,u8,.int .i64 (t.on:Int),str t.bm,.int .i64 (t.next:Int)].toArray 130:=cA
 have gh:=oq iv.self (i:=0) om
 obtain⟨b9,ot,e9,gq⟩:=gh
 cases e9
 have gh:=oq iv.self (i:=1) om
 obtain⟨Ox,Oy,fY,vM⟩:=gh
 cases fY
 rw[oy] at gq
 rw[dy] at vM
 refine ag<|zr<|zm<|zm<|zm<|di rfl<|zf Br rfl<|zl eO rfl (cA.at rfl)<|zi (i:=1) bh bB rfl rfl om<|zl cg rfl (vM.cells 0 _ rfl)<|lk bh bB rfl rfl rfl rfl ?_
 intro ui AZ Cv ahH
 have aw:=aw.ext AZ;have hR:=hR.ext AZ
 refine aC ((show bZ Tryz.prog 75 [str [116],_] ui (λr w'=>r=str P0∧ak [] ui w') from by rw[sf];exact xR [116] [CO,sb] (by rw[<-sf];omega) _ L2 ui (aY.eF [CO,sb] Cv (λhx=>by have:=dC _ hx;omega)))) ?_
 rintro v55 JI ⟨aip,xk⟩
 have an3:=xk.size
 have aw:=aw.ext xk;have hR:=hR.ext xk;have Cv:=Cv.ext xk
 obtain rfl:=aip
 clear Cv
 refine aC (se P0 m2 om E L2 b true JI aw) ?_
 rintro v10 ou ⟨fY,L3,aw,bY⟩
 rw[t2] at fY
 subst fY
 have hR:=hR.go bY
 have yG:∃x,x=m2.dH P0:=⟨_,rfl⟩
 obtain⟨m3,lQ⟩:=yG
 rw[<-lQ] at aw
 have t3:m3.types.length=r+2:=(by rw[lQ,ye];omega)
 have c3:m3.code.length=c+1:=(by rw[lQ,Cq];omega)
 have dC:=aw.dM
 refine zA<|ag<|zr<|zm<|zm<|aC (iS ((r+1)+1) (r+1) om om ou) ?_
 rintro N8 N9 ⟨GS,yO⟩
 have U8:=yO.size
 have aw:=aw.ext yO;have hR:=hR.ext yO
 obtain rfl:=GS
 have dC:=aw.dM
 refine zm<|aC (iS (r+1) r om om N9) ?_
 rintro Jo w58 ⟨aiq,CR⟩
 have an5:=CR.size
 have aw:=aw.ext CR;have hR:=hR.ext CR
 obtain rfl:=aiq
 have dC:=aw.dM
 refine pQ bh bB rfl rfl rfl rfl rfl ?_
 intro w59 Ev VH an6
 have aw:=aw.ext Ev;have hR:=hR.ext Ev
 refine aC (lh l5 [bf (r+1),bf r,[48]] (mH de sm (by intro z hz;simp at hz;rcases hz with rfl|rfl|rfl;(·exact ml om);(·exact ml om);(·decide))) m3 om E L3 b _ w59 aw (aY.eF [bf (r+1),bf r,[48]] VH (λhx=>by have:=dC _ hx;omega))) ?_
 rintro jV VI ⟨L4,aw,bY⟩
 have hR:=hR.go bY
 clear VH
 have Cw:∃x,x=m3.cY l5 [bf (r+1),bf r,[48]]:=⟨_,rfl⟩
 obtain⟨m4,oS⟩:=Cw
 rw[<-oS] at aw
 have t4:m4.types.length=r+2:=(by rw[oS,oN];omega)
 have c4:m4.code.length=c+2:=(by rw[oS,py];omega)
 have dC:=aw.dM
 have kx:=hR.tk hT eT
 obtain⟨u1,u3,u4,u5,u6,u8,cA,iv⟩:=kx
 have cJ:=eI iv.self
 obtain⟨a3,n3,c3,e3,px⟩:=cJ
 subst e3
 subst px
 have cA:aY VI bt [str t.aP,u1,.int .i64 (t.loads:Int),.slice a3 t.self.length c3,u4,u5,u6,str t.expr.av.az,u8,.int .i64 (t.on:Int),str t.bm,.int .i64 (t.next:Int)].toArray 130:=cA
 have gh:=oq iv.self (i:=0) om
 obtain⟨b9,ot,e9,gq⟩:=gh
 cases e9
 have gh:=oq iv.self (i:=1) om
 obtain⟨Ox,Oy,fY,vM⟩:=gh
 cases fY
 rw[oy] at gq
 rw[dy] at vM
 refine ag<|zr<|zm<|zm<|di rfl<|zf Br rfl<|zl eO rfl (cA.at rfl)<|zi (i:=0) bh bB rfl rfl om<|zl cg rfl (gq.cells 0 _ rfl)<|aC (se sa m4 om E L4 b true VI aw) ?_
 rintro v10 Vp ⟨fY,L5,aw,bY⟩
 rw[t4] at fY
 subst fY
 have hR:=hR.go bY
 have NR:∃x,x=m4.dH sa:=⟨_,rfl⟩
 obtain⟨m5,yH⟩:=NR
 rw[<-yH] at aw
 have t5:m5.types.length=r+3:=(by rw[yH,ye];omega)
 have c5:m5.code.length=c+2:=(by rw[yH,Cq];omega)
 have dC:=aw.dM
 have kx:=hR.tk hT eT
 obtain⟨u1,u3,u4,u5,u6,u8,cA,iv⟩:=kx
 have cJ:=eI iv.self
 obtain⟨a3,n3,c3,e3,px⟩:=cJ
 subst e3
 subst px
 have cA:aY Vp bt [str t.aP,u1,.int .i64 (t.loads:Int),.slice a3 t.self.length c3,u4,u5,u6,str t.expr.av.az,u8,.int .i64 (t.on:Int),str t.bm,.int .i64 (t.next:Int)].toArray 130:=cA
 have gh:=oq iv.self (i:=0) om
 obtain⟨b9,ot,e9,gq⟩:=gh
 cases e9
 have gh:=oq iv.self (i:=1) om
 obtain⟨Ox,Oy,fY,vM⟩:=gh
 cases fY
 rw[oy] at gq
 rw[dy] at vM
 refine zA<|ag ?_
 apply wC eu 18 (rA 118 18) (rA 118 18) [[],[],[1],[],[3],[],[5],[6],[7],[8],[9],[],[11],[12],[13],[14],[15],[2,4,10,16]] [It.v _,It.v _,It.v _,It.v _,It.v _,It.v _,It.v _,It.v _,It.v _,It.v _,It.v _,It.v _,It.v _,It.v _,It.v _,It.v _,It.v _,It.p (fun(v:Value) (ww:World)=>bI L5 ww v [bf (r+2),bf (r+1),sa,sb])] de (by exact⟨λv w w' h k=>h.ext k,trivial⟩)
 intro wd aB
 refine eM ?_
 refine eM ?_
 refine vk aB (λx sk pA=>?_) ?_
 refine aC (iS (r+2+1) (r+2) om om sk) ?_
 rintro v63 CL ⟨Oz,tb⟩
 have ait:=tb.size
 obtain rfl:=Oz
 exact pk tb
 refine eM ?_
 refine vk aB (λx sk pA=>?_) ?_
 refine aC (iS (r+1+1) (r+1) om om sk) ?_
 rintro v63 CL ⟨Oz,tb⟩
 have ait:=tb.size
 obtain rfl:=Oz
 exact pk tb
 refine eM ?_
 refine vk aB (λx sk pA=>?_) ?_
 refine di rfl ?_
 exact pv
 refine vc (λ_ _ _=>zf Br rfl pv) ?_
 refine vk aB (λx sk pA=>?_) ?_
 have cA:=cA.ext pA
 refine zl eO rfl (cA.at rfl) ?_
 exact pv
 refine vk aB (λx sk pA=>?_) ?_
 refine zi (i:=0) bh bB rfl rfl om ?_
 exact pv
 refine vk aB (λx sk pA=>?_) ?_
 have gq:=gq.ext pA
 refine zl cg rfl (gq.cells 0 _ rfl) ?_
 exact pv
 refine eM ?_
 refine vk aB (λx sk pA=>?_) ?_
 refine di rfl ?_
 exact pv
 refine vc (λ_ _ _=>zf Br rfl pv) ?_
 refine vk aB (λx sk pA=>?_) ?_
 have cA:=cA.ext pA
 refine zl eO rfl (cA.at rfl) ?_
 exact pv
 refine vk aB (λx sk pA=>?_) ?_
 refine zi (i:=1) bh bB rfl rfl om ?_
 exact pv
 refine vk aB (λx sk pA=>?_) ?_
 have vM:=vM.ext pA
 refine zl cg rfl (vM.cells 0 _ rfl) ?_
 exact pv
 refine vk aB (λx sk pA=>?_) ?_
 have aim:=pA.size
 refine yc bh bB rfl rfl rfl rfl rfl rfl ?_
 intro CL tb aiu an7
 exact pf tb ((aY.eF [bf (r+2),bf (r+1),sa,sb] aiu (λhx=>by have:=dC _ hx;omega)))
 exact trivial
 intro x aiv VJ
 intro jV d17
 have aw:=aw.ext VJ;have hR:=hR.ext VJ
 change OW _ _ _ _ _ (aM (aN _ x _) (zZ 118 [_,_,_,_,_,_,_,_,_,_,_,_,_,_,_,_,_,_])) _
 refine aC (lh sE [bf (r+2),bf (r+1),sa,sb] (mH de sm (by intro z hz;simp at hz;rcases hz with rfl|rfl|rfl|rfl;(·exact ml om);(·exact ml om);(·omega);(·omega))) m5 om E L5 b _ aiv aw d17) ?_
 rintro jV an8 ⟨L6,aw,bY⟩
 have hR:=hR.go bY
 have NS:∃x,x=m5.cY sE [bf (r+2),bf (r+1),sa,sb]:=⟨_,rfl⟩
 obtain⟨m6,yJ⟩:=NS
 rw[<-yJ] at aw
 have t6:m6.types.length=r+3:=(by rw[yJ,oN];omega)
 have c6:m6.code.length=c+3:=(by rw[yJ,py];omega)
 have dC:=aw.dM
 refine ag ?_
 subst yJ yH oS lQ lP lO
 rw[<-Ow] at aw
 exact⟨_,rfl,_,aw,hR⟩
 have CQ:=Et.self
 have iZ:t.self.length≠2:=(λh9=>h3 (by rw[h9];rfl))
 have CQ:t.self=[]:=(by rcases CQ with h9|⟨a,b,h9,_⟩;(·exact h9);(·rw[h9] at iZ;exact absurd rfl iZ))
 have Ow:qx m t=m0:=(by unfold qx IG;rw[<-ti,CQ])
 refine bA ?_
 rw[<-Ow] at aw
 exact⟨_,rfl,_,aw,hR⟩
theorem aiw (x0:ByteArray) (x7:ByteArray) (a8:Option Addr) (n8 c8:Nat) (x9:Int) (Ei:ByteArray) (w:World):(Instr.build 130 #[(0,.string x0),(7,.agg #[.string x7,.slice a8 n8 c8]),(8,.int .i64 x9),(9,.string Ei)]).run Tryz.prog w= .ok (.agg #[.string x0,.slice none 0 0,.int .i64 0,.slice none 0 0,.slice none 0 0,.slice none 0 0,.slice none 0 0,.string x7,.slice a8 n8 c8,.int .i64 x9,.string Ei,.int .i64 0]) w:=by kernel_rfl
theorem eQ.aix (h:eQ (x::E) L w L1 w1):eQ E L w L1 w1:=⟨h.fr,let⟨G,k,hG⟩:=h.out;⟨G,k,λz hz si=>hG z hz (mK _ si)⟩⟩
def um:Mk:=⟨[],[],0,false,[],[]⟩
theorem aiy (T:Ty) {ON CO:aj} (hO:ON=dX (bL T)) (hC:CO=bP [99] [sT,bL T]) (hP:P0=bP [116] [CO,sT]):
  sO T=(((({um with types:=[sT,CO,P0,ON]}).cY l5 [[48]]).cY sD [[49],Ag]).cY l5 [[50],[49],[48]]).cY sE [[51],[50],ON,sT]:=by
 subst hP;subst hC;subst hO;rfl
set_option maxHeartbeats 8000000 in
theorem aiz (e:Ex) (T:Ty) (Hd:T.n<=16) 
  (E L:List Nat) (b:Nat) (v:Value) (w:World) (h:ei t8 E L w b true um) (hv:bS L w v e.av):
  bZ Tryz.prog 108 [.pointer (some ⟨b,0,none⟩),v,str T.text] w λr w'=>∃v1 v3 v4 v5 v6 v8 L',r= .agg (pO (FQ e T) v1 v3 v4 v5 v6 v8).toArray∧oJ L' w' (FQ e T) v1 v3 v4 v5 v6 v8∧ei t8 E L' w' b true (sO T)∧eQ E L w L' w':=by
 obtain⟨ar,nr,cr,rfl,p9,bc⟩:=dN hv
 subst p9
 have lS:=h.dM
 obtain⟨ON,JW⟩:∃z,z=dX (bL T):=⟨_,rfl⟩
 obtain⟨CO,yU⟩:∃z,z=bP [99] [sT,bL T]:=⟨_,rfl⟩
 obtain⟨P0,sf⟩:∃z,z=bP [116] [CO,sT]:=⟨_,rfl⟩
 rw[aiy T JW yU sf]
 have aJ:=pR Hd
 have hOl:ON.length<=272:=by rw[JW];exact tM Hd
 have hCl:CO.length<=300:=by rw[yU,lI,Ax];simp only[lC,List.length_nil];omega
 have Jx:P0.length<=400:=by rw[sf,lI,Ax];simp only[lC,List.length_nil];omega
 obtain⟨m0,ti⟩:∃z:Mk,z={um with types:=[sT,CO,P0,ON]}:=⟨_,rfl⟩
 rw[<-ti]
 obtain⟨r,hr4⟩:∃r,r=4:=⟨_,rfl⟩
 obtain⟨c,er⟩:∃c,c=0:=⟨_,rfl⟩
 have t0:m0.types.length=r:=by rw[ti,hr4];rfl
 have c0:m0.code.length=c:=by rw[ti,er];rfl
 have aw:=h
 have hR:=eQ.refl E L w
 refine lz [.cell 6 130] 45 Tryz.func108 rfl XS rfl rfl rfl ?_
 refine zr<|fA rfl ?_
 intro w1 aJ aI dV
 have aw:=aw.ext aJ;have hR:=hR.ext aJ
 refine eC k8 rfl rfl rfl ?_
 intro w2 aq VK lB
 have aw:=aw.s0 aq sm (lR _) VK.lt
 have p8:=hR.more aq sm (lR _) (λz hz=>by have:=lS z (h.sub hz);omega)
 have hR:=eQ.refl (w1.heap.size::E) (w1.heap.size::L) w2
 have JP:∀z,z∈w1.heap.size::L->z=w1.heap.size∨z<w.heap.size:=(λz hz=>(mC.1 hz).imp id (lS z))
 have aI:fh (w1.heap.size::L) w2 w.heap.size [str e.av.az,.slice ar e.av.au.length cr].toArray 66:=⟨aI.ext aq,λhx=>by have:=JP _ hx;omega⟩
 have VL:w1.heap.size∈w1.heap.size::E:=List.mem_cons_self ..
 refine ag<|zr<|zm<|aC (vz T om w2) ?_
 rintro v3 w3 ⟨et,aK⟩
 have gd:=aK.size
 have aw:=aw.ext aK;have hR:=hR.ext aK;have aI:=aI.ext aK
 obtain rfl:=et
 refine aC ((show bZ Tryz.prog 142 [str (bL T)] w3 (λr w'=>r=str ON∧ak [] w3 w') from by rw[JW];exact Gt (bL T) om w3)) ?_
 rintro v4 w4 ⟨eJ,aD⟩
 have gK:=aD.size
 have aw:=aw.ext aD;have hR:=hR.ext aD;have aI:=aI.ext aD
 obtain rfl:=eJ
 refine zA<|ag<|zr<|zm<|gM bh bB ?_
 intro w5 aT mc Gg
 have yS:=aw.open
 obtain⟨xb,xt,xc,xy,gb,gt,gc,gy,bj,hS⟩:=yS
 have yf:=hS.apart
 obtain⟨yA,nH,vA,mG,vB,tW⟩:=yf
 have bj:aY w5 b [xb,xt,.int .i64 (um.count:Int),.bool um.wide,xc,xy].toArray 127:=bj.ext aT
 have yT:=hS.Ip mc.ll aT.any (λx hx=>.inr (by cases hx;exact lR _))
 obtain⟨L1,hS,bY⟩:=yT
 have hR:=hR.add bY aT sm
 have aI:=aI.go bY
 refine di rfl<|zf C9 rfl<|gX (o:=4) nL rfl rfl rfl bj rfl ?_
 intro w6 bD bj dP
 have hS:=hS.aO bD sm
 have CP:=hS.mem.2 (.inr (.inl rfl))
 have hR:=hR.aL bD CP nH;have aI:=aI.aL bD (by simpa using CP)
 have aw:ei t8 (w1.heap.size::E) L1 w6 b true um:=⟨_,_,_,_,_,_,_,_,bj,hS⟩
 refine ag<|zr<|zm<|aC (vz T om w6) ?_
 rintro v7 w7 ⟨iV,cv⟩
 have pg:=cv.size
 have aw:=aw.ext cv;have hR:=hR.ext cv;have aI:=aI.ext cv
 obtain rfl:=iV
 refine lk bh bB rfl rfl rfl rfl ?_
 intro w8 cu kj mu
 have aw:=aw.ext cu;have hR:=hR.ext cu;have aI:=aI.ext cu
 refine aC ((show bZ Tryz.prog 75 [str [99],_] w8 (λr w'=>r=str CO∧ak [] w8 w') from by rw[yU];exact xR [99] [sT,bL T] (by rw[<-yU];omega) _ [] w8 (aY.eF [sT,bL T] kj sm))) ?_
 rintro v9 w9 ⟨eR,aG⟩
 have ph:=aG.size
 have aw:=aw.ext aG;have hR:=hR.ext aG;have aI:=aI.ext aG;have kj:=kj.ext aG
 obtain rfl:=eR
 clear kj
 refine zA<|ag<|zr<|zm<|zm<|zm<|lk bh bB rfl rfl rfl rfl ?_
 intro cN bU A7 Bv
 have aw:=aw.ext bU;have hR:=hR.ext bU;have aI:=aI.ext bU
 refine aC ((show bZ Tryz.prog 75 [str [116],_] cN (λr w'=>r=str P0∧ak [] cN w') from by rw[sf];exact xR [116] [CO,sT] (by rw[<-sf];omega) _ [] cN (aY.eF [CO,sT] A7 sm))) ?_
 rintro v11 eW ⟨rC,cL⟩
 have CC:=cL.size
 have aw:=aw.ext cL;have hR:=hR.ext cL;have aI:=aI.ext cL;have A7:=A7.ext cL
 obtain rfl:=rC
 clear A7
 refine zm<|yc bh bB rfl rfl rfl rfl rfl rfl ?_
 intro gj dD Cs agl
 have yS:=aw.open
 obtain⟨xb,xt,xc,xy,gb,gt,gc,gy,bj,hS⟩:=yS
 have yf:=hS.apart
 obtain⟨yA,nH,vA,mG,vB,tW⟩:=yf
 have bj:aY gj b [xb,xt,.int .i64 (um.count:Int),.bool um.wide,xc,xy].toArray 127:=bj.ext dD
 have yT:=hS.LS (aY.wc [sT,CO,P0,ON] Cs) dD.any (λx hx=>.inr (by cases hx;exact lR _))
 obtain⟨L2,hS,bY⟩:=yT
 have hR:=hR.add bY dD sm
 have aI:=aI.go bY
 refine di rfl<|zf zC rfl<|gX (o:=5) nL rfl rfl rfl bj rfl ?_
 intro jC fM bj dP
 have hS:=hS.aO fM sm
 have CP:=hS.mem.2 (.inr (.inl rfl))
 have hR:=hR.aL fM CP nH;have aI:=aI.aL fM (by simpa using CP)
 have aw:ei t8 (w1.heap.size::E) L2 jC b true {um with types:=[sT,CO,P0,ON]}:=⟨_,_,_,_,_,_,_,_,bj,hS⟩
 rw[<-ti] at aw
 have dC:=aw.dM
 refine ag<|zr<|zm<|gA bh bB rfl rfl ?_
 intro jf dL AX Co
 have aw:=aw.ext dL;have hR:=hR.ext dL;have aI:=aI.ext dL
 refine aC (lh l5 [[48]] (mH de sm (by intro z hz;simp at hz;subst hz;decide)) m0 om (w1.heap.size::E) L2 b _ jf aw (aY.eF [[48]] AX (λhx=>by have:=dC _ hx;omega))) ?_
 rintro jV p6 ⟨L1,aw,bY⟩
 have hR:=hR.go bY
 clear AX
 have iR:∃x,x=m0.cY l5 [[48]]:=⟨_,rfl⟩
 obtain⟨m1,lO⟩:=iR
 rw[<-lO] at aw
 have t1:m1.types.length=r+0:=(by rw[lO,oN];omega)
 have c1:m1.code.length=c+1:=(by rw[lO,py];omega)
 have dC:=aw.dM
 have aI:=aI.go bY.fr
 refine ag<|zr<|zm<|lk bh bB rfl rfl rfl rfl ?_
 intro lN kY IW F8
 have aw:=aw.ext kY;have hR:=hR.ext kY;have aI:=aI.ext kY
 refine aC (lh sD [[49],Ag] (mH de sm (by intro z hz;simp at hz;rcases hz with rfl|rfl;(·decide);(·decide))) m1 om (w1.heap.size::E) L1 b _ lN aw (aY.eF [[49],Ag] IW (λhx=>by have:=dC _ hx;omega))) ?_
 rintro jV vD ⟨L2,aw,bY⟩
 have hR:=hR.go bY
 clear IW
 have fF:∃x,x=m1.cY sD [[49],Ag]:=⟨_,rfl⟩
 obtain⟨m2,lP⟩:=fF
 rw[<-lP] at aw
 have t2:m2.types.length=r+0:=(by rw[lP,oN];omega)
 have c2:m2.code.length=c+2:=(by rw[lP,py];omega)
 have dC:=aw.dM
 have aI:=aI.go bY.fr
 refine ag<|zr<|zm<|pQ bh bB rfl rfl rfl rfl rfl ?_
 intro xf ua vE Nn
 have aw:=aw.ext ua;have hR:=hR.ext ua;have aI:=aI.ext ua
 refine aC (lh l5 [[50],[49],[48]] (mH de sm (by intro z hz;simp at hz;rcases hz with rfl|rfl|rfl;(·decide);(·decide);(·decide))) m2 om (w1.heap.size::E) L2 b _ xf aw (aY.eF [[50],[49],[48]] vE (λhx=>by have:=dC _ hx;omega))) ?_
 rintro jV Cx ⟨L3,aw,bY⟩
 have hR:=hR.go bY
 clear vE
 have yG:∃x,x=m2.cY l5 [[50],[49],[48]]:=⟨_,rfl⟩
 obtain⟨m3,lQ⟩:=yG
 rw[<-lQ] at aw
 have t3:m3.types.length=r+0:=(by rw[lQ,oN];omega)
 have c3:m3.code.length=c+3:=(by rw[lQ,py];omega)
 have dC:=aw.dM
 have aI:=aI.go bY.fr
 refine ag<|zr<|zm<|zm<|yc bh bB rfl rfl rfl rfl rfl rfl ?_
 intro vG uk OA Un
 have aw:=aw.ext uk;have hR:=hR.ext uk;have aI:=aI.ext uk
 refine aC (lh sE [[51],[50],ON,sT] (mH de sm (by intro z hz;simp at hz;rcases hz with rfl|rfl|rfl|rfl;(·decide);(·decide);(·omega);(·decide))) m3 om (w1.heap.size::E) L3 b _ vG aw (aY.eF [[51],[50],ON,sT] OA (λhx=>by have:=dC _ hx;omega))) ?_
 rintro jV ry ⟨L4,aw,bY⟩
 have hR:=hR.go bY
 clear OA
 have Cw:∃x,x=m3.cY sE [[51],[50],ON,sT]:=⟨_,rfl⟩
 obtain⟨m4,oS⟩:=Cw
 rw[<-oS] at aw
 have t4:m4.types.length=r+0:=(by rw[oS,oN];omega)
 have c4:m4.code.length=c+4:=(by rw[oS,py];omega)
 have dC:=aw.dM
 have aI:=aI.go bY.fr
 have kS:=hR.ju VK VL
 refine ag<|zr<|zL bT aH rfl aI.all rfl<|zm<|j6 (aiw _ _ _ _ _ _ _ _) rfl rfl<|dk (vs:=[str BN,.slice none 0 0,.int .i64 0,.slice none 0 0,.slice none 0 0,.slice none 0 0,.slice none 0 0,str e.av.az,.slice ar e.av.au.length cr,.int .i64 3,str ON,.int .i64 0]) k8 rfl rfl rfl kS rfl ?_
 intro Eg Eh kS dP
 have hL6:=aw.sub VL
 have aw:=aw.aO Eh sm
 have vL:=aw.drop
 obtain⟨L6,Oi,aw⟩:=vL
 have h6n:w1.heap.size∉E:=(λhx=>by have:=lS _ (h.sub hx);omega)
 have VM:=((p8.go hR.aix).aL Eh hL6 h6n).sub (L2:=L6) (λz hz=>by rw[Oi];simp[hz])
 have aiD:=fG.go bc VM.fr
 refine ag<|aV ?_
 subst oS lQ lP lO
 exact⟨[_],gR C8 k8 rfl kS rfl,_,_,_,_,_,_,L6,by unfold FQ;rw[<-JW];rfl,⟨.nil _ _ _,.nil _ _ _,.nil _ _ _,.nil _ _ _,.nil _ _ _,aiD⟩,aw,VM⟩
theorem ey.aiE {T:TypeId} {g:Option Nat} {row:List C} (h:ey L w T sz (.slice (some ⟨b,0,none⟩) n c) g rows) (hi:rows[i]?=some row):∃vs,vs.length=sz∧iH w b (0+i*sz) vs∧dQ L w vs row:=by
 obtain⟨xs,dY,ie⟩:=h.own
 have oC:row.length=sz:=h.row row (List.mem_of_getElem? hi)
 have mL:i<rows.length:=(List.getElem?_eq_some_iff.1 hi).1
 rcases dY.2 with⟨h0,_⟩|⟨b',cap,cur,e,hv,hb,mM,mo,cJ,ht⟩
 ·cases h0
 ·cases hv
  have hlen:xs.length=rows.length*sz:=dY.1
  have hmul:(i+1)*sz<=rows.length*sz:=Nat.mul_le_mul_right _ om
  have vR:(i+1)*sz=i*sz+sz:=by rw[Nat.add_mul,Nat.one_mul]
  have hl:((xs.drop (i*sz)).take sz).length=sz:=by rw[List.length_take,List.length_drop];omega
  have jE:∀j v,((xs.drop (i*sz)).take sz)[j]?=some v->j<sz∧xs[i*sz+j]?=some v:=λj v hv=>by
   rw[List.getElem?_take] at hv
   split at hv
   ·rename_i hj
    rw[List.getElem?_drop] at hv
    exact⟨hj,hv⟩
   ·cases hv
  refine⟨(xs.drop (i*sz)).take sz,hl,λj v hv=>?_,dQ.of (by rw[hl,oC]) λj v c hv hc=>?_⟩
  ·obtain⟨_,hx⟩:=jE j v hv
   rw[Nat.zero_add,hb.cell]
   rw[<-ht,List.getElem?_take] at hx
   split at hx
   ·simpa using hx
   ·cases hx
  ·obtain⟨_,hx⟩:=jE j v hv
   exact ie.get hx (EC h.row hi hc)
theorem ei.start {gb gt:Nat} (hb:aY w b [.slice (some ⟨gb,0,none⟩) 0 0,.slice (some ⟨gt,0,none⟩) 0 0,.int .i64 0,.bool false,.slice none 0 0,.slice none 0 0].toArray 127) (h1:aY w gb #[] 29) (h2:aY w gt #[] 130) (h3:gb<gt) (h4:gt<b):ei t8 [] [b,gb,gt] w b true um:=by
 refine⟨_,_,_,_,some gb,some gt,none,none,hb,⟨LZ h1,LZ h2,.inl ⟨rfl,⟨by simp[um],.inl ⟨rfl,rfl,rfl⟩⟩⟩,⟨by simp[um],.inl ⟨rfl,rfl,rfl⟩⟩,rfl,?_,λx hx=>?_⟩⟩
 ·simp;omega
 ·have:=hb.lt
  simp at hx;rcases hx with rfl|rfl|rfl<;>omega
theorem aiF {ts:List Tk} (hi:i<ts.length):(ts.map Tk.enc)[i]?=some (ir ts i).enc:=by
 rw[List.getElem?_map,gE hi];simp[ir,gE hi]
theorem aiG (bF:e.ok) (ht:bM e []=some T) (hn:e.n<=120):(rW e T).blocks=[]∧(rW e T).code.length<10000:=by
 obtain⟨new,h⟩:=S1 bF ht hn
 have h4:=h.ext.code
 have h6:(sO T).code.length=4:=rfl
 exact⟨h.ext.blocks,om⟩
theorem aiH (h:rX m i) (hi:i<m.bW.length):(mz (ir m.bW i).expr.n ⟨qx m (ir m.bW i),(ir m.bW i).sc,(ir m.bW i).on,(ir m.bW i).bm⟩ (ir m.bW i).expr).blocks.length<100000∧(qx m (ir m.bW i)).code.length<=1100∧(qx m (ir m.bW i)).bW.length<80000∧(ir m.bW i).expr.n<=120∧i<999∧oM (ir m.bW i)∧nZ (qx m (ir m.bW i)) (ir m.bW i).sc (ir m.bW i).on (ir m.bW i).bm (ir m.bW i).expr∧(ir m.bW i).regs.length<10000:=by
 obtain⟨hT,hc,hl⟩:=h.task hi
 have hb:=Mx (m:=m) hT
 have hA:=SY hT hc
 obtain⟨new,hF⟩:=II _ hA (lR _)
 have e4:=hF.ext.blocks
 have h1:=hb.code
 have h2:=hT.room
 have h3:=hT.bud
 have h5:=h.bnum
 have h6:(if(ir m.bW i).self=[] then 0 else 3)<=3:=by split<;>omega
 refine⟨by rw[e4,hb.blocks];omega,om,by rw[hb.bW];omega,om,om,hT,hA,om⟩
set_option maxHeartbeats 8000000 in
theorem aiI (e:Ex) (T:Ty) (bF:e.ok) (ht:bM e []=some T) (hn:e.n<=120) (v:Value) (w:World) (hv:bS [] w v e.av):
  bZ Tryz.prog 82 [v,str T.text] w λr w'=>(∃vb g,r= .tuple #[vb,.bool (!(ofM e T).wide)]∧Gr w.heap.size [] w' 29 3 vb g ((ofM e T).blocks.map Bk.enc))∧ak [] w w':=by
 obtain⟨ar,nr,cr,rfl,p9,bc⟩:=dN hv
 subst p9
 have Hd:=l4 (Γ:=[]) (λs T h=>by simp[look] at h) ht
 have dz:bS [] w _ e.av:=hv
 have hK:=ak.refl [] w
 obtain⟨VN,aoa⟩:=aiG bF ht hn
 refine cU [.tmp 4,.tmp 5] 67 Tryz.func82 rfl ZI rfl rfl ?_
 refine zr<|fA rfl ?_
 intro w1 aJ aZ dV
 have hK:=hK.ext aJ
 refine zA<|zA<|ag<|zr<|gM gO fH ?_
 intro w2 aq pG eK
 have hK:=hK.ext aq;have aZ:=aZ.ext aq
 refine gM xG k8 ?_
 intro w3 aK iD iK
 have hK:=hK.ext aK;have aZ:=aZ.ext aK;have pG:=pG.ext aK
 refine j6 (ZY _ _ _ _ _ _ _) rfl rfl<|fA rfl ?_
 intro w4 aD mc iL
 have hK:=hK.ext aD;have aZ:=aZ.ext aD;have pG:=pG.ext aD;have iD:=iD.ext aD
 refine zA<|ag<|zr<|zm<|zL bT aH rfl aZ.all rfl<|zm<|aC (aiz e T Hd [] [w3.heap.size,w1.heap.size,w2.heap.size] w3.heap.size _ w4 (ei.start mc pG iD om om) ((dz.fresh (L':=[w3.heap.size,w1.heap.size,w2.heap.size]) (λx hx=>by right;simp at hx;rcases hx with rfl|rfl|rfl<;>omega)).ext hK)) ?_
 rintro jV w5 ⟨v1,v3,v4,v5,v6,v8,L1,r8,iv,aw,bY⟩
 subst r8
 have hF:=bY.fr
 have xj:=hK
 have uh:=aw.dM
 clear pG iD mc
 refine eC k8 rfl rfl rfl ?_
 intro w6 bD cH qg
 have dm:=bD
 refine dk k8 rfl rfl iv.one cH rfl ?_
 intro w7 cv cH dP
 have dm:=dm.since cv (λx hx=>.inr (by simp at hx;omega))
 have aw:=aw.s0 dm sm (lR _) cH.lt
 have xo:=((eQ.refl [] L1 w5).more dm sm (lR _) sm).fr
 have gz:iq (w5.heap.size::L1) w7 130 w5.heap.size (FQ e T):=⟨_,_,_,_,_,_,cH,iv.go xo⟩
 have hF:=hF.go xo
 refine ag<|zr<|zm<|aC (Vw (FQ e T) (sO T) (S0 bF ht hn) hn (show(sO T).code.length<=1100 from by show 4<=1100;omega) (show(0:Nat)<80000 from om) [w5.heap.size] (w5.heap.size::L1) w3.heap.size w5.heap.size w7 aw gz sm) ?_
 rintro Gs w8 ⟨L2,aw,_,tJ⟩
 have hF:=hF.go tJ
 have aw:ei t8 [w5.heap.size] L2 w8 w3.heap.size true (rW e T):=aw
 have CE:=aw.dM
 refine ag<|zr<|zm<|gM bh bB ?_
 intro w9 aG vg dP
 have aw:=aw.ext aG;have hF:=hF.ext aG
 refine aC (NC BN [] sm (rW e T) (by rw[VN];simp) [w5.heap.size] L2 w3.heap.size _ w9 aw (vg.ll.rep (λx hx mN=>by have:=CE x mN;simp at hx;omega))) ?_
 rintro GG cN ⟨L3,aw,bY⟩
 have hF:=hF.go bY.fr
 clear vg
 refine ag<|zr<|zm<|gA bh bB rfl rfl ?_
 intro eW cL yB agz
 have yS:=aw.open
 obtain⟨xb,xt,xc,xy,gb,gt,gc,gy,bj,hS⟩:=yS
 have yf:=hS.apart
 obtain⟨yA,nH,vA,mG,vB,tW⟩:=yf
 have bj:=bj.ext cL
 have yT:=hS.Ip (aY.wc [[40,104,97,108,116,32,49,41]] yB) cL.any (λx hx=>.inr (by cases hx;exact lR _))
 obtain⟨L4,hS,bY⟩:=yT
 have hF:=hF.go bY
 refine di rfl<|zf C9 rfl<|gX (o:=4) nL rfl rfl rfl bj rfl ?_
 intro gj dD bj dP
 have hS:=hS.aO dD sm
 have hF:=hF.aL dD (by simpa using hS.mem.2 (.inr (.inl rfl)))
 have aw:ei t8 [w5.heap.size] L4 gj w3.heap.size true {(BW (rW e T) BN []) with code:=[[40,104,97,108,116,32,49,41]]}:=⟨_,_,_,_,_,_,_,_,bj,hS⟩
 refine ag<|zr<|zm<|zm<|aC (vz T om gj) ?_
 rintro wP jC ⟨vC,fM⟩
 have Gv:=fM.size
 have aw:=aw.ext fM;have hF:=hF.ext fM
 obtain rfl:=vC
 have aiJ:=aw.dM
 refine lk bh bB rfl rfl rfl rfl ?_
 intro jf dL AX Co
 have aw:=aw.ext dL;have hF:=hF.ext dL
 refine aC (NC Ag [sT,bL T] sm {(BW (rW e T) BN []) with code:=[[40,104,97,108,116,32,49,41]]} (show((rW e T).blocks++[_]).length<100000 from by rw[VN];simp) [w5.heap.size] L4 w3.heap.size _ jf aw (aY.eF [sT,bL T] AX (λhx=>by have:=aiJ _ hx;omega))) ?_
 rintro v31 p6 ⟨L5,aw,bY⟩
 have hF:=hF.go bY.fr
 have aw:ei t8 [w5.heap.size] L5 p6 w3.heap.size false (BX e T):=aw
 clear AX
 refine ag<|aQ<|zr<|zA<|ag<|cP ?_
 refine fZ (λi:Nat=>[(6,.pointer (some ⟨w3.heap.size,0,none⟩)),(8,.int .i64 (i:Int))]) (λi ww=>∃m9 L9,ei t8 [w5.heap.size] L9 ww w3.heap.size false m9∧rX m9 i∧ofM e T=yi (1000-i) m9 i∧Fr [w3.heap.size,w1.heap.size,w2.heap.size] w4 L9 ww∧i<=1000) (λi=>1000-i) (0) (⟨rfl,rfl⟩) (⟨BX e T,L5,aw,Mz bF ht hn,rfl,hF,om⟩) ?_
 intro gg lN AY hI
 obtain⟨m9,L9,aw,VO,GR,hF,hi⟩:=hI
 have yS:=aw.open
 obtain⟨xb,xt,xc,xy,gb,gt,gc,gy,bj,hS⟩:=yS
 have gw:=hS.ta.len
 obtain⟨at9,ct9,et9⟩:=gw
 subst et9
 have bj:aY lN w3.heap.size [xb,.slice at9 (m9.bW.map Tk.enc).length ct9,.int .i64 (m9.count:Int),.bool m9.wide,xc,xy].toArray 127:=bj
 have C5:(m9.bW.map Tk.enc).length=m9.bW.length:=List.length_map ..
 refine aQ<|zr<|zm<|zm<|di rfl<|zf zB rfl<|zl E1 rfl (bj.at rfl)<|eh xG rfl<|fJ rfl rfl rfl<|ag<|zc rfl (λh1=>?_) (λh1=>?_)
 have ky:gg<m9.bW.length:=om
 have oB:=aiH VO ky
 obtain⟨dy,dR,gd,gK,oW,VP,Ea,ob⟩:=oB
 have D8:=hS.ta.form om
 obtain⟨bq,cq,eq9,eg9⟩:=D8
 cases eq9
 have DB:=hS.ta.aiE (aiF ky)
 obtain⟨vs9,aiN,VQ,aiO⟩:=DB
 have OB:=acp aiO
 obtain⟨y1,y3,y4,y5,y6,y8,evs,iv⟩:=OB
 subst evs
 have pS:∃z,z=ir m9.bW gg:=⟨_,rfl⟩
 obtain⟨tz,OC⟩:=pS
 rw[<-OC] at dy dR gd gK VP Ea ob iv VQ aiN
 have mi:=aw
 have GL:=hF
 have Nk:=aw.dM
 have hw9:=ak.refl [] lN
 refine bA<|aQ<|cP<|zr<|zm<|di rfl<|zf zB rfl<|zl E1 rfl (bj.at rfl)<|zm<|zi xG k8 rfl rfl om<|zL C8 k8 rfl VQ rfl<|eC k8 rfl rfl rfl ?_
 intro vD p7 cT aoe
 have dm:=p7
 refine dk k8 rfl rfl iv.one cT rfl ?_
 intro xf ua cT dP
 have dm:=dm.since ua (λx hx=>.inr (by simp at hx;omega))
 have aw:=mi.s0 dm sm (lR _) cT.lt
 have xo:=((eQ.refl [] L9 lN).more dm sm (lR _) sm).fr
 have gz:iq (lN.heap.size::L9) xf 130 lN.heap.size tz:=⟨_,_,_,_,_,_,cT,iv.go xo⟩
 have hF:=GL.go xo
 refine ag<|zr<|zm<|aC (aia tz m9 VP false [lN.heap.size,w5.heap.size] (lN.heap.size::L9) w3.heap.size lN.heap.size xf aw gz sm) ?_
 rintro v49 Cx ⟨L6,aw,bY⟩
 have gz:=bY.tk gz sm
 have hF:=hF.go bY.fr
 refine ag<|zr<|zm<|aC (Vw tz (qx m9 tz) Ea gK dR gd [lN.heap.size,w5.heap.size] L6 w3.heap.size lN.heap.size Cx aw gz sm) ?_
 rintro v51 vG ⟨L7,aw,⟨t',gz,fi,hr9⟩,tJ⟩
 have hF:=hF.go tJ
 have kx:=gz
 obtain⟨u1,u3,u4,u5,u6,u8,cA,CF⟩:=kx
 have CS:=CF.regs
 have cJ:=eI CF.regs
 obtain⟨a1,n1,c1,e1,fK⟩:=cJ
 subst e1
 have CS:=CF.regs
 rw[hr9] at CS
 have cA:aY vG lN.heap.size [str t'.aP,.slice a1 n1 c1,.int .i64 (t'.loads:Int),u3,u4,u5,u6,str t'.expr.av.az,u8,.int .i64 (t'.on:Int),str t'.bm,.int .i64 (t'.next:Int)].toArray 130:=cA
 rw[fi] at cA
 refine ag<|db<|zm<|zf KG rfl<|zl cg rfl (cA.at rfl)<|zf Da rfl<|zl eO rfl (cA.at rfl)<|aC (NC tz.aP tz.regs ob (mz tz.expr.n ⟨qx m9 tz,tz.sc,tz.on,tz.bm⟩ tz.expr) dy [lN.heap.size,w5.heap.size] L7 w3.heap.size _ vG aw CS) ?_
 rintro N8 ry ⟨L8,aw,bY⟩
 have hF:=hF.go bY.fr
 have vL:=aw.drop
 obtain⟨Lx,eLx,aw⟩:=vL
 have hF:=hF.go ((Fr.refl L8 ry).to (L2:=Lx) (λz hz=>.inl (by rw[eLx];simp[hz])))
 have aw:ei t8 [w5.heap.size] Lx ry w3.heap.size false (DK m9 tz):=aw
 have bg:=VO.step ky
 rw[<-OC] at bg
 have VR:=S4 ky (999-gg)
 rw[<-OC,show 999-gg+1=1000-gg from by omega,show 999-gg=1000-(gg+1) from by omega] at VR
 refine ag<|db<|zm<|eE rfl rfl rfl (wrap_i64 _ om om)<|zA<|ag ?_
 exact⟨gg+1,⟨rfl,rfl⟩,⟨DK m9 tz,Lx,aw,bg,GR.trans VR,hF,om⟩,om⟩
 have ky:¬gg<m9.bW.length:=om
 rw[S3 ky] at GR
 have dV:=xj.size
 have eK:=hF.aO.size
 have OD:Gr w.heap.size [] lN 29 3 xb gb (m9.blocks.map Bk.enc):=hS.bl.gr (λx hx=>hS.mem.2 (by simp at hx;simp[hx])) (λb hb=>by have h9:=hF.mem b (hS.mem.2 (by simp[hb]));rcases h9 with h9|h9;(·simp at h9;rcases h9 with rfl|rfl|rfl<;>omega);(·omega)) om
 refine gF<|gH rfl<|aQ ?_
 apply mx eu 11 (rA 58 9++[4,5]) (rA 58 9++[4,5]) [[],[0],[1],[2],[],[4],[5],[6],[7],[3],[8]] [It.v _,It.v _,It.v _,It.v _,It.v _,It.v _,It.v _,It.v _,It.v _,It.v _,It.v _] de rfl
 intro wd aB
 refine eM ?_
 refine vk aB (λx vD p7=>?_) ?_
 refine di rfl ?_
 exact pv
 refine vc (λ_ _ _=>zf KE rfl pv) ?_
 refine vk aB (λx vD p7=>?_) ?_
 have bj:=bj.ext p7
 refine zl P4 rfl (bj.at rfl) ?_
 exact pv
 refine eM ?_
 refine vk aB (λx vD p7=>?_) ?_
 refine di rfl ?_
 exact pv
 refine vc (λ_ _ _=>zf PY rfl pv) ?_
 refine vk aB (λx vD p7=>?_) ?_
 have bj:=bj.ext p7
 refine zl Dd rfl (bj.at rfl) ?_
 exact pv
 refine vc (λ_ _ _=>eH rfl pv) ?_
 refine vc (λ_ _ _=>zA pv) ?_
 refine vc (λ_ _ _=>zA pv) ?_
 exact trivial
 intro x ou kZ
 have hF:=hF.ext kZ;have OD:=OD.ext kZ
 change OW _ _ _ _ [] (aM (aN _ x _) (zZ 58 [_,_,_,_,_,_,_,_,_]++[(4,_),(5,_)])) _
 refine ag<|aV ?_
 rw[GR]
 exact⟨_,rfl,⟨xb,gb,rfl,OD⟩,xj.since hF.aO (λx hx=>.inr (by simp at hx;rcases hx with rfl|rfl|rfl<;>omega))⟩
theorem OE:∀(k:Nat) {m:Mk} {i:Nat},rX m i->∃j,rX (yi k m i) j
 |0,_,i,h=>⟨i,h⟩
 |k+1,m,i,h=>by
  by_cases hi:i<m.bW.length
  ·rw[S4 hi];exact OE k (h.step hi)
  ·rw[S3 hi];exact⟨i,h⟩
theorem aiQ (bF:e.ok) (ht:bM e []=some T) (hn:e.n<=120):xO (ofM e T).blocks:=by
 obtain⟨j,hj⟩:=OE 1000 (Mz bF ht hn)
 exact hj.small
def CT (s:aj) (f:Ex) (T:Ty):Prop:=∃e:Ex,ba s=some e.av∧e.ok∧e.n<=120∧nU e=some f∧mB f.av.text=true∧bM e []=some T
def Ew (s:aj) (ok:Bool) (bs:List Bk):Prop:=(ok=true->∃f T,CT s f T∧(ofM f T).wide=false∧jK (ofM f T).blocks=true∧bs=(ofM f T).blocks)∧(ok=false->bs=[]∧∀f T,CT s f T->¬((ofM f T).wide=false∧jK (ofM f T).blocks=true))
theorem VS (bF:f.ok) (hx:mB f.av.text=true):ba f.av.text=some f.av∧f.n<=120:=by
 obtain⟨e2,h1,h2,h3⟩:=wI.1 hx
 have h4:=(BF h1).2.2.1
 have h5:=Ld (Ex.wf h2) (Ex.wf bF) h4
 have h6:=qB h2 bF h5
 subst h6
 exact⟨h1,h3⟩
theorem aiR {s:aj} (h:CT s f T):f.ok∧bM f []=some T∧f.n<=120∧ba f.av.text=some f.av:=by
 obtain⟨e,h1,h2,h3,h4,h5,h6⟩:=h
 have h7:=LQ h2 h4
 obtain⟨h8,h9⟩:=VS h7 h5
 exact⟨h7,RU h2 h6 h4,h9,h8⟩
theorem JX {s:aj} {f':Ex} {T':Ty} (h:CT s f T) (h':CT s f' T'):f=f'∧T=T':=by
 obtain⟨e,h1,h2,h3,h4,h5,h6⟩:=h
 obtain⟨e',k1,k2,k3,k4,k5,k6⟩:=h'
 have he:=qB h2 k2 (Option.some.inj (h1.symm.trans k1))
 subst he
 rw[h4] at k4
 rw[h6] at k6
 exact⟨Option.some.inj k4,Option.some.inj k6⟩
theorem aiS:CT JD qK .i:=⟨qK,UW,NV,by decide,agH,by
 rw[UU];exact wI.2 ⟨qK,UW,NV,by decide⟩,type12⟩
theorem aiT {ok:Bool} (h:Ew JD ok bs):ok=true:=by
 cases ok with
 |true=>rfl
 |false=>exact absurd ⟨agI,agJ⟩ ((h.2 rfl).2 _ _ aiS)
theorem Ew.aP {s:aj} {ok:Bool} (h:Ew s ok bs):∀b,b∈bs->b.aP.length<=10:=by
 cases ok with
 |true=>
  obtain⟨f,T,h1,_,_,rfl⟩:=h.1 rfl
  obtain⟨h2,h3,h4,_⟩:=aiR h1
  obtain⟨j,hj⟩:=OE 1000 (Mz h2 h3 h4)
  exact hj.labels
 |false=>rw[(h.2 rfl).1];intro b hb;cases hb
theorem Ew.prog {s:aj} (h:Ew s true bs):jK bs=true:=by
 obtain⟨f,T,_,_,h3,rfl⟩:=h.1 rfl
 exact h3
theorem VT (s:aj) (w:World):bZ Tryz.prog 49 [str s] w λr w'=>(∃v ok bs,r= .tuple #[v,.bool ok]∧qV [] w' v bs∧Ew s ok bs∧(ok=true->∃g,Gr w.heap.size [] w' 29 3 v g (bs.map Bk.enc)))∧ak [] w w':=by
 have hK:=ak.refl [] w
 refine cU [.tmp 2,.tmp 3] 44 Tryz.func49 rfl Zk rfl rfl ?_
 refine zr<|zA<|zA<|ag<|zr<|zm<|aC (ae6 s w) ?_
 rintro v1 w1 ⟨fO,aJ⟩
 have dy:=aJ.size
 have hK:=hK.ext aJ
 have eR:=fO
 obtain⟨x0,VU,e0,zn,hx0⟩:=eR
 subst e0
 refine zm<|zx (i:=0) rfl rfl<|zx (i:=1) rfl rfl<|zA<|zA<|ag<|aQ<|zr<|zm<|eH rfl<|zm<|xz (t:=17) rfl (λh1=>?_) (λh1=>?_)
 replace h1:=bu h1
 have gN:VU=false:=by simpa using h1
 refine zs<|zs<|zs<|zp rfl<|ag<|zc rfl (λh2=>?_) (λh2=>?_)
 refine zr<|gM gO fH ?_
 intro w2 aq tT eK
 have hK:=hK.ext aq
 refine zA<|zA<|ag<|aV ?_
 exact⟨_,rfl,⟨_,false,[],rfl,cD.nil _ _ _,⟨λh=>by(cases h),λ_=>⟨rfl,λf T ⟨e,h1,h2,h3,h4,h5,h6⟩=>by rw[zn.2 ⟨e,f,h1,h2,h3,h4,h5⟩] at gN;cases gN⟩⟩,λh=>by(cases h)⟩,hK⟩
 simp at h2
 replace h1:=bu h1
 have gN:VU=true:=(by simpa using h1)
 have hex:=zn.1 gN
 obtain⟨e,f,wR,bF,hn,hf,fF⟩:=hex
 have hxe:=hx0 e f wR bF hf gN
 subst hxe
 have AS:=LQ bF hf
 have MR:=VS AS fF
 obtain⟨ss,Nt⟩:=MR
 have ov:Cm s (fl (bM e [])):=⟨λh=>(by rw[wI.2 ⟨e,wR,bF,hn⟩] at h;cases h),λe' h1 h2 h3=>by rw[qB h2 bF (Option.some.inj (h1.symm.trans wR))]⟩
 refine zm<|aC (afQ s w1) ?_
 rintro v2 w2 ⟨dz,aq⟩
 have dR:=aq.size
 have hK:=hK.ext aq
 have eR:=dz
 obtain⟨b9,e9,cT⟩:=eR
 subst e9
 have cT:=cT _ ov
 refine eH rfl<|zp rfl<|ag<|zc rfl (λh3=>?_) (λh3=>?_)
 have fD:bM e []=none:=Ut (by have jS:b9=false:=(by simpa using h3);rw[jS] at cT;simpa using cT.symm)
 refine zr<|gM gO fH ?_
 intro w3 aK tT iK
 have hK:=hK.ext aK
 refine zA<|zA<|ag<|aV ?_
 exact⟨_,rfl,⟨_,false,[],rfl,cD.nil _ _ _,⟨λh=>by(cases h),λ_=>⟨rfl,λf' T ⟨e',h1,h2,h3,h4,h5,h6⟩=>by rw[qB h2 bF (Option.some.inj (h1.symm.trans wR)),fD] at h6;cases h6⟩⟩,λh=>by(cases h)⟩,hK⟩
 have fD:=Uu (o:=bM e []) (by have jS:b9=true:=(by simpa using h3);rw[jS] at cT;simpa using cT.symm)
 obtain⟨T,fD⟩:=fD
 rw[fD] at ov
 have ov:Cm s T.text:=ov
 have Nu:=RU bF fD hf
 have lp:CT s f T:=⟨e,wR,bF,hn,hf,fF,fD⟩
 refine bA<|zr<|zm<|aC (FY f.av.text [] w2 sm) ?_
 rintro v3 w3 ⟨et,aK⟩
 have gd:=aK.size
 have hK:=hK.ext aK
 have eR:=et
 obtain⟨t,tv,e9,pS,hp⟩:=eR
 subst e9
 have e2:=hp.1 _ ss
 subst e2
 have cJ:=dN pS
 obtain⟨pa,pn,pc,e9,fR,bc⟩:=cJ
 subst e9
 subst fR
 have nu:=hK.size
 refine zm<|zx (i:=0) rfl rfl<|zx (i:=1) rfl rfl<|eC aH rfl rfl rfl ?_
 intro w4 aD bR lB
 have hK:=hK.ext aD
 have dm:=aD
 refine dk (vs:=[str f.av.az,.slice pa f.av.au.length pc]) aH rfl rfl rfl bR rfl ?_
 intro w5 aT bR dP
 have hK:=hK.since aT (λx hx=>.inr (by simp at hx;omega))
 have dm:=dm.since aT (λx hx=>.inr (by simp at hx;omega))
 have pS:=pS.ext dm
 refine zA<|ag<|aQ ?_
 apply wC eu 9 (rA 29 4++[28,33,34,8,9]) (rA 29 4++[28,33,34,8,9]) [[],[],[1],[0,2],[3],[4],[4],[5],[6]] [It.v _,It.v _,It.v _,It.p (fun(v:Value) (ww:World)=>∃vb g,v= .tuple #[vb,.bool (!(ofM f T).wide)]∧Gr w.heap.size [] ww 29 3 vb g ((ofM f T).blocks.map Bk.enc)),It.p (fun(v:Value) (ww:World)=>∃vb g,v= .tuple #[vb,.bool (!(ofM f T).wide)]∧Gr w.heap.size [] ww 29 3 vb g ((ofM f T).blocks.map Bk.enc)),It.p (fun(v:Value) (ww:World)=>∃g,Gr w.heap.size [] ww 29 3 v g ((ofM f T).blocks.map Bk.enc)),It.v _,It.p (fun(v:Value) (ww:World)=>∃g,Gr w.heap.size [] ww 29 3 v g ((ofM f T).blocks.map Bk.enc)),It.v _] de (by exact⟨λv w w' ⟨vb,g,h1,h2⟩ k=>⟨vb,g,h1,h2.ext k⟩,λv w w' ⟨vb,g,h1,h2⟩ k=>⟨vb,g,h1,h2.ext k⟩,λv w w' ⟨g,h⟩ k=>⟨g,h.ext k⟩,λv w w' ⟨g,h⟩ k=>⟨g,h.ext k⟩,trivial⟩)
 intro wd aB
 refine vk aB (λx w6 bD=>?_) ?_
 have bR:=bR.ext bD
 refine zL bT aH rfl bR.all rfl ?_
 exact pv
 refine eM ?_
 refine vk aB (λx w6 bD=>?_) ?_
 refine aC (Uz s w6) ?_
 rintro v7 w7 ⟨iV,cv⟩
 have pg:=cv.size
 have eR:=iV
 obtain⟨x9,e9,gq⟩:=eR
 have gq:=Uy gq ov
 subst gq
 subst e9
 exact pk cv
 refine vk aB (λx w6 bD=>?_) ?_
 have hK:=hK.ext bD;have pS:=pS.ext bD
 have xH:=hK.size
 refine aC (aiI f T AS Nu Nt _ w6 pS) ?_
 rintro v7 w7 ⟨iV,cv⟩
 have pg:=cv.size
 have eR:=iV
 obtain⟨JQ,g9,e9,Eo⟩:=eR
 have Eo:=Eo.down (B':=w.heap.size) om
 exact pf cv (⟨JQ,g9,e9,Eo⟩)
 refine vc (λx w6 bD=>?_) ?_
 intro v3 d3
 refine zm ?_
 exact pf (ak.refl _ _) d3
 refine vc (λx w6 bD=>?_) ?_
 intro v4 d4
 obtain⟨JQ,g9,e9,Og⟩:=d4
 subst e9
 refine zx (i:=0) rfl rfl ?_
 exact pf (ak.refl _ _) (⟨g9,Og⟩)
 refine vc (λx w6 bD=>?_) ?_
 intro v4 d4
 obtain⟨JQ,g9,e9,Og⟩:=d4
 subst e9
 refine zx (i:=1) rfl rfl ?_
 exact pv
 refine vc (λx w6 bD=>?_) ?_
 intro v5 d5
 refine zA ?_
 exact pf (ak.refl _ _) d5
 refine vc (λ_ _ _=>zA pv) ?_
 exact trivial
 intro x qy wJ
 intro v3 d3
 intro v4 d4
 intro v5 d5
 intro v7 d7
 have hK:=hK.ext wJ
 change OW _ _ _ _ [] (aM (aN _ x _) (zZ 29 [_,_,_,_]++[(28,_),(33,_),(34,_),(8,_),(9,_)])) _
 obtain⟨g5,He⟩:=d7
 refine ag<|aQ<|zr<|zm<|eH rfl<|zm<|xz (t:=37) rfl (λh4=>?_) (λh4=>?_)
 replace h4:=bu h4
 have OF:(ofM f T).wide=true:=by simpa using h4
 refine zs<|zs<|zs<|zp rfl<|ag<|zc rfl (λh5=>?_) (λh5=>?_)
 refine zr<|gM gO fH ?_
 intro qG nI aiW aof
 have hK:=hK.ext nI
 refine zA<|zA<|ag<|aV ?_
 exact⟨_,rfl,⟨_,false,[],rfl,cD.nil _ _ _,⟨λh=>by(cases h),λ_=>⟨rfl,λf' T' hc hw=>by rw[(JX hc lp).1,(JX hc lp).2,OF] at hw;cases hw.1⟩⟩,λh=>by(cases h)⟩,hK⟩
 simp at h5
 replace h4:=bu h4
 have OF:(ofM f T).wide=false:=(by simpa using h4)
 refine zm<|aC (QH (ofM f T).blocks (aiQ AS Nu Nt) _ [] qy He.wb) ?_
 rintro v46 qG ⟨yV,nI⟩
 have JY:=nI.size
 have hK:=hK.ext nI;have He:=He.ext nI
 obtain rfl:=yV
 refine eH rfl<|zp rfl<|ag<|zc rfl (λh6=>?_) (λh6=>?_)
 have OG:jK (ofM f T).blocks=false:=(by simpa using h6)
 refine zr<|gM gO fH ?_
 intro wO jl aiW aog
 have hK:=hK.ext jl
 refine zA<|zA<|ag<|aV ?_
 exact⟨_,rfl,⟨_,false,[],rfl,cD.nil _ _ _,⟨λh=>by(cases h),λ_=>⟨rfl,λf' T' hc hw=>by rw[(JX hc lp).1,(JX hc lp).2,OG] at hw;cases hw.2⟩⟩,λh=>by(cases h)⟩,hK⟩
 have OG:jK (ofM f T).blocks=true:=(by simpa using h6)
 refine bA<|zr<|zm<|zA<|zA<|ag<|aV ?_
 exact⟨_,rfl,⟨_,true,_,rfl,He.wb,⟨λ_=>⟨f,T,lp,OF,OG,rfl⟩,λh=>by(cases h)⟩,λ_=>⟨g5,He⟩⟩,hK⟩
theorem aiX {a:Nat} (ha:a<4611686018427387904) (hb:b<4611686018427387904):IntKind.i64.wrap ((a%2^IntKind.i64.bits^^^b%2^IntKind.i64.bits:Nat):Int)=((a^^^b:Nat):Int):=by
 have hx:a^^^b<2^62:=Nat.xor_lt_two_pow om om
 have h1:a%2^IntKind.i64.bits=a:=Nat.mod_eq_of_lt (show a<2^64 by omega)
 have h2:b%2^IntKind.i64.bits=b:=Nat.mod_eq_of_lt (show b<2^64 by omega)
 rw[h1,h2]
 exact wrap_i64 _ om om
section
variable {P:Program} {n:Nat} {ops:Array Oper} {K:Env->World->Prop} {rest:List Oper} {e:Env} {w:World} {dst:Option Nat} {ty T T':TypeId} {pos:String} {after:Array Edge} {g:Option (Nat×Bool)} {x y:Operand}
theorem aiY {a:Nat} (hg:gate ops e g=true) (hd:dw n dst=true) (hx:ev e x= .int .i64 (a:Int)) (hy:ev e y= .int .i64 (b:Int)) (ha:a<4611686018427387904) (hb:b<4611686018427387904) 
  (c':OW P n ops K rest (cO e dst (.int .i64 ((a^^^b:Nat):Int))) w):OW P n ops K (⟨dst,.binOp .xor T x y T',ty,pos,after,g⟩::rest) e w:=
 fT hg hd (by simp[execOp,eqGuard,hx,hy,binOp,Op.intBits,aiX ha hb]) c'
end
theorem OH {len cap size h:Nat} (hr:cD L w (.slice (some ⟨b,off,none⟩) len cap) (.sl size rows)) (hh:h<=len):cD L w (.slice (some ⟨b,off,none⟩) h cap) (.sl size (rows.take h)):=by
 cases hr with
 |nil=>rw[List.take_nil,show h=0 from by omega];exact .nil _ _ _
 |sl _ _ _ _ _ _ f hl hc hb hL hs kJ ie=>
  exact .sl b off h cap size (rows.take h) f (by rw[List.length_take];omega) om hb hL (λrow hr=>hs row (List.mem_of_mem_take hr)) (λk j hk hj=>kJ k j om hj) (λk j row c hk hj=>ie k j row c (by
   rw[List.getElem?_take] at hk
   split at hk
   ·exact hk
   ·cases hk) hj)
section
variable {P:Program} {n:Nat} {ops:Array Oper} {K:Env->World->Prop} {rest:List Oper} {e:Env} {w:World} {dst:Option Nat} {ty T:TypeId} {pos:String} {after:Array Edge} {g:Option (Nat×Bool)} {x:Operand}
theorem OI {L:List Nat} {E:TypeId} {bytes:Nat} {z:Value} {hi:Operand} {b off len cap h:Nat} {k:IntKind} (hT:P.underlying T=some (.slice E)) (hE:TI P E sz bytes z) (hg:gate ops e g=true) (hd:dw n dst=true) 
  (hx:ev e x= .slice (some ⟨b,off,none⟩) len cap) (EF:ev e hi= .int k (h:Int)) (hl:h<=len) {rows:List (List C)} (hr:cD L w (.slice (some ⟨b,off,none⟩) len cap) (.sl sz rows))
  (c:OW P n ops K rest (cO e dst (.slice (some ⟨b,off,none⟩) h cap)) w):OW P n ops K (⟨dst,.slice T x none (some hi) none,ty,pos,after,g⟩::rest) e w:=by
 have C1:len<=cap:=by cases hr with|nil=>exact Nat.zero_le _|sl _ _ _ _ _ _ _ hl hc=>exact hc
 have h2:h<=cap:=Nat.le_trans hl C1
 refine fT hg hd (v:=.slice (some ⟨b,off,none⟩) h cap) (w':=w) ?_ c
 simp[execOp,Instr.sliceAt,Instr.slice,hx,EF,run_underlying hT,Instr.sliceBounds,Instr.sliceBound,asIntOf,h2,hE.tj,vS]
end
def rF (bs:List UInt8):List (List C):=bs.map λc=>[.val (.int .u8 (c.toNat:Int))]
theorem Ey (bs:List UInt8):(rF bs).length=bs.length:=by simp[rF]
theorem JZ {a:Option Addr} {bs:List UInt8} (h:cD L w (.slice a n c) (.sl 1 (rF bs))) (hi:i<bs.length):∃b off x,a=some ⟨b,off,none⟩∧ja L w b (off+i*1) [.int .u8 ((x:UInt8).toNat:Int)]:=by
 obtain⟨b,off,vs,ha,hb,hL,hl,hc,hr⟩:=ze h (i:=i) (row:=[.val (.int .u8 ((bs[i]).toNat:Int))]) (by simp[rF,gE hi])
 obtain⟨u,hu⟩:∃u,vs=[u]:=by
  match vs,hl with
  |[u],_=>exact⟨u,rfl⟩
 subst hu
 obtain⟨h1,_⟩:=hr
 cases h1
 exact⟨b,off,bs[i],ha,hc,hb,hL⟩
def dZ (w:World) (br q:Nat):Prop:=∃a n c p bs,aY w br [.slice a n c,.int .i64 ((p:Nat):Int)].toArray 77∧p<=q∧(∀L:List Nat,(∀x,x∈L->br<=x)->cD L w (.slice a n c) (.sl 1 (rF bs)))∧n<=1000000000
theorem dZ.ext {br:Nat} (h:dZ w br q) (k:ak [] w w'):dZ w' br q:=let⟨a,n,c,p,bs,h1,h2,h3,h4⟩:=h;⟨a,n,c,p,bs,h1.ext k,h2,λL hL=>cD.ext (h3 L hL) k,h4⟩
theorem dZ.more {br q':Nat} (h:dZ w br q) (hq:q<=q'):dZ w br q':=let⟨a,n,c,p,bs,h1,h2,h3,h4⟩:=h;⟨a,n,c,p,bs,h1,Nat.le_trans h2 hq,h3,h4⟩
theorem dZ.lt {br:Nat} (h:dZ w br q):br<w.heap.size:=let⟨_,_,_,_,_,h1,_⟩:=h;h1.lt
theorem VV {br:Nat} (h:∀L:List Nat,(∀x,x∈L->br<=x)->cD L w v (.sl 1 rows)) (k:ak G w w') (hG:∀x,x∈G->br<=x):∀L:List Nat,(∀x,x∈L->br<=x)->cD L w' v (.sl 1 rows):=λL hL=>
 (cD.aO (h (G++L) λx hx=>(mA.1 hx).elim (hG x) (hL x)) (k.mono λx hx=>List.mem_append_left _ hx)).fresh λx hx=>.inl (mR _ hx)
theorem dZ.aO {br:Nat} (h:dZ w br q) (k:ak G w w') (hG:∀x,x∈G->br<x):dZ w' br q:=let⟨a,n,c,p,bs,h1,h2,h3,h4⟩:=h;⟨a,n,c,p,bs,h1.aO k (λhx=>Nat.lt_irrefl _ (hG br hx)),h2,VV h3 k (λx hx=>Nat.le_of_lt (hG x hx)),h4⟩
theorem j5 (z:Nat) (h:z<4611686018427387904) (y:Int) (e:y=(z:Int)):IntKind.i64.wrap y=(z:Int):=by
 rw[e];exact wrap_i64 _ om om
theorem mm (k:Nat) (hk:1<=k) (aq:k<=1000000) (br q:Nat) (hq:q<=1000000000) (w:World) (h:dZ w br q):
  bZ Tryz.prog 29 [.pointer (some ⟨br,0,none⟩),.int .i64 (k:Int)] w λr w'=>(∃z:Nat,r= .int .i64 (z:Int)∧z<k)∧dZ w' br (q+1)∧ak [br] w w':=by
 obtain⟨a,n,c,p,bs,iG,hp,dA,hn⟩:=h
 have ig:=dA [br] sm
 have oT:n=bs.length:=by obtain⟨a',c',e',_⟩:=rK ig;cases e';exact Ey bs
 have hdiv:=Nat.div_le_self p n
 refine cU [.tmp 4] 99 Tryz.func29 rfl Za rfl rfl ?_
 refine zr<|zA<|ag<|zr<|zm<|zm<|di rfl<|zf KM rfl<|zl qQ rfl (iG.at rfl)<|eE rfl rfl rfl (j5 (p+1) om _ om)<|di rfl<|zf KM rfl<|gX (o:=1) tt rfl rfl rfl iG rfl ?_
 intro w1 aJ iG dP
 have ig:=cD.aL ig aJ sm
 have hK:=aJ
 have hQ:dZ w1 br (q+1):=⟨a,n,c,p+1,bs,iG,om,VV dA aJ sm,hn⟩
 refine ag<|aQ<|zr<|zm<|fJ rfl rfl rfl<|zm ?_
 apply fo 7 17 24 [17,18,19,20,21,22,23,24] (λw'=>w1=w') rfl
 intro h1
 replace h1:=bu h1
 refine zs<|zs<|zs<|zs<|zs<|zs<|zp rfl<|ag ?_
 exact mg rfl rfl
 intro h1
 replace h1:=bu h1
 refine zm<|di rfl<|zf zG rfl<|zl zI rfl (iG.at rfl)<|eh qR rfl<|dO rfl rfl rfl<|zp rfl<|ag ?_
 exact mg rfl rfl
 rintro xx _ rfl
 refine ag<|zc rfl (λh2=>?_) (λh2=>?_)
 have h0:n=0:=(by simp at h2;omega)
 refine zr<|zA<|ag<|aV ?_
 exact⟨_,rfl,⟨0,rfl,om⟩,hQ,hK⟩
 have h0:0<n:=(by simp at h2;omega)
 refine bA<|zr<|zm<|di rfl<|zf KM rfl<|zl qQ rfl (iG.at rfl)<|mO rfl rfl rfl rfl rfl (j5 p om _ om)<|zA<|ag<|aQ<|zr<|zm<|zm<|di rfl<|zf zG rfl<|zl zI rfl (iG.at rfl)<|eh qR rfl<|fJ rfl rfl rfl<|ag<|zc rfl (λh3=>?_) (λh3=>?_)
 have h1:p<n:=(by simp at h3;omega)
 have qb:=JZ ig (i:=p) om
 obtain⟨b1,ga,x1,e1,bC⟩:=qb
 cases e1
 have iR:=x1.toNat_lt
 refine zr<|zm<|di rfl<|zf zG rfl<|zl zI rfl (iG.at rfl)<|zm<|zi qR Dc rfl rfl h1<|zl KQ rfl (bC.cells 0 _ rfl)<|xw zH xF rfl rfl rfl (wrap_i64 _ om om)<|zm<|EE rfl rfl rfl rfl rfl om<|zA<|ag<|aV ?_
 exact⟨_,rfl,⟨x1.toNat%k,rfl,Nat.mod_lt _ om⟩,hQ,hK⟩
 have h1:=Nat.mod_lt p h0
 have h2:=Nat.mod_lt (p*7+3) h0
 have qb:=JZ ig (i:=p%n) om
 obtain⟨b1,ga,x1,e1,bC⟩:=qb
 cases e1
 have iR:=x1.toNat_lt
 have iz:=JZ ig (i:=(p*7+3)%n) om
 obtain⟨b2,nk,x2,e2,bX⟩:=iz
 cases e2
 have fF:=x2.toNat_lt
 refine bA<|aQ ?_
 apply mx eu 46 (rA 47 45++[6]) (rA 47 45++[6]) [[],[0],[1],[2],[],[],[5],[6],[7],[8],[4,9],[3,10],[11],[12],[13],[],[15],[16],[17],[],[19],[20],[],[22],[23],[24],[25],[21,26],[18,27],[28],[29],[30],[14,31],[],[33],[32,34],[],[],[37],[38],[39],[40],[36,41],[42],[35,43],[44]] [It.v _,It.v _,It.v _,It.v _,It.v _,It.v _,It.v _,It.v _,It.v _,It.v _,It.v _,It.v _,It.v _,It.v _,It.v _,It.v _,It.v _,It.v _,It.v _,It.v _,It.v _,It.v _,It.v _,It.v _,It.v _,It.v _,It.v _,It.v _,It.v _,It.v _,It.v _,It.v _,It.v _,It.v _,It.v _,It.v _,It.v _,It.v _,It.v _,It.v _,It.v _,It.v _,It.v _,It.v _,It.v _,It.v _] de rfl
 intro wd aB
 refine eM ?_
 refine vk aB (λx w2 aq=>?_) ?_
 refine di rfl ?_
 exact pv
 refine vc (λ_ _ _=>zf zG rfl pv) ?_
 refine vk aB (λx w2 aq=>?_) ?_
 have iG:=iG.ext aq
 refine zl zI rfl (iG.at rfl) ?_
 exact pv
 refine eM ?_
 refine eM ?_
 refine vk aB (λx w2 aq=>?_) ?_
 refine di rfl ?_
 exact pv
 refine vc (λ_ _ _=>zf zG rfl pv) ?_
 refine vk aB (λx w2 aq=>?_) ?_
 have iG:=iG.ext aq
 refine zl zI rfl (iG.at rfl) ?_
 exact pv
 refine vk aB (λx w2 aq=>?_) ?_
 refine eh qR rfl ?_
 exact pv
 refine vk aB (λx w2 aq=>?_) ?_
 refine EE rfl rfl rfl rfl rfl om ?_
 exact pv
 refine vk aB (λx w2 aq=>?_) ?_
 refine zi qR Dc rfl rfl h1 ?_
 exact pv
 refine vk aB (λx w2 aq=>?_) ?_
 have bC:=bC.ext aq
 refine zl KQ rfl (bC.cells 0 _ rfl) ?_
 exact pv
 refine vk aB (λx w2 aq=>?_) ?_
 refine xw zH xF rfl rfl rfl (j5 x1.toNat om _ rfl) ?_
 exact pv
 refine vk aB (λx w2 aq=>?_) ?_
 refine Be rfl rfl rfl rfl rfl (j5 (x1.toNat*131) om _ om) ?_
 exact pv
 refine eM ?_
 refine vk aB (λx w2 aq=>?_) ?_
 refine di rfl ?_
 exact pv
 refine vc (λ_ _ _=>zf zG rfl pv) ?_
 refine vk aB (λx w2 aq=>?_) ?_
 have iG:=iG.ext aq
 refine zl zI rfl (iG.at rfl) ?_
 exact pv
 refine eM ?_
 refine vk aB (λx w2 aq=>?_) ?_
 refine Be rfl rfl rfl rfl rfl (j5 (p*7) om _ om) ?_
 exact pv
 refine vk aB (λx w2 aq=>?_) ?_
 refine eE rfl rfl rfl (j5 (p*7+3) om _ om) ?_
 exact pv
 refine eM ?_
 refine vk aB (λx w2 aq=>?_) ?_
 refine di rfl ?_
 exact pv
 refine vc (λ_ _ _=>zf zG rfl pv) ?_
 refine vk aB (λx w2 aq=>?_) ?_
 have iG:=iG.ext aq
 refine zl zI rfl (iG.at rfl) ?_
 exact pv
 refine vk aB (λx w2 aq=>?_) ?_
 refine eh qR rfl ?_
 exact pv
 refine vk aB (λx w2 aq=>?_) ?_
 refine EE rfl rfl rfl rfl rfl om ?_
 exact pv
 refine vk aB (λx w2 aq=>?_) ?_
 refine zi qR Dc rfl rfl h2 ?_
 exact pv
 refine vk aB (λx w2 aq=>?_) ?_
 have bX:=bX.ext aq
 refine zl KQ rfl (bX.cells 0 _ rfl) ?_
 exact pv
 refine vk aB (λx w2 aq=>?_) ?_
 refine xw zH xF rfl rfl rfl (j5 x2.toNat om _ rfl) ?_
 exact pv
 refine vk aB (λx w2 aq=>?_) ?_
 refine Be rfl rfl rfl rfl rfl (j5 (x2.toNat*1117) om _ om) ?_
 exact pv
 refine vk aB (λx w2 aq=>?_) ?_
 refine eE rfl rfl rfl (j5 (x1.toNat*131+x2.toNat*1117) om _ om) ?_
 exact pv
 refine eM ?_
 refine vk aB (λx w2 aq=>?_) ?_
 refine Be rfl rfl rfl rfl rfl (j5 (p*29) om _ om) ?_
 exact pv
 refine vk aB (λx w2 aq=>?_) ?_
 refine eE rfl rfl rfl (j5 (x1.toNat*131+x2.toNat*1117+p*29) om _ om) ?_
 exact pv
 refine eM ?_
 refine eM ?_
 refine vk aB (λx w2 aq=>?_) ?_
 refine di rfl ?_
 exact pv
 refine vc (λ_ _ _=>zf zG rfl pv) ?_
 refine vk aB (λx w2 aq=>?_) ?_
 have iG:=iG.ext aq
 refine zl zI rfl (iG.at rfl) ?_
 exact pv
 refine vk aB (λx w2 aq=>?_) ?_
 refine eh qR rfl ?_
 exact pv
 refine vk aB (λx w2 aq=>?_) ?_
 refine Kg rfl rfl rfl rfl rfl om (j5 (p/n) om _ rfl) ?_
 exact pv
 refine vk aB (λx w2 aq=>?_) ?_
 refine Be rfl rfl rfl rfl rfl (j5 (p/n*53) om _ sm) ?_
 exact pv
 refine vk aB (λx w2 aq=>?_) ?_
 refine eE rfl rfl rfl (j5 (x1.toNat*131+x2.toNat*1117+p*29+p/n*53) om _ sm) ?_
 exact pv
 refine vc (λ_ _ _=>zA pv) ?_
 exact trivial
 intro x pT iB
 change OW _ _ _ _ [] (aM (aN _ x _) (zZ 47 [_,_,_,_,_,_,_,_,_,_,_,_,_,_,_,_,_,_,_,_,_,_,_,_,_,_,_,_,_,_,_,_,_,_,_,_,_,_,_,_,_,_,_,_,_]++[(6,_)])) _
 have hX:x1.toNat*131+x2.toNat*1117+p*29+p/n*53<4611686018427387904:=om
 have hXx:∃z,z=x1.toNat*131+x2.toNat*1117+p*29+p/n*53:=⟨_,rfl⟩
 obtain⟨X,hXe⟩:=hXx
 rw[<-hXe] at hX⊢
 have hQ:=hQ.ext iB;have hK:=hK.ext iB
 refine ag<|zr<|zm<|zm<|Kg (b:=64) rfl rfl rfl rfl rfl om (j5 (X/64) om _ rfl)<|aiY rfl rfl rfl rfl om om<|zA<|ag<|zr<|zm<|zm<|EE rfl rfl rfl rfl rfl om<|zA<|ag<|aV ?_
 exact⟨_,rfl,⟨(X^^^X/64)%k,rfl,Nat.mod_lt _ om⟩,hQ,hK⟩
theorem ai1 (bs:List UInt8) (hb:bs.length<=1000000000) (v:Value) (w:World) (hv:cD [] w v (.sl 1 (rF bs))):
  bZ Tryz.prog 23 [v] w λr w'=>(∃br,r= .pointer (some ⟨br,0,none⟩)∧w.heap.size<=br∧dZ w' br 0)∧ak [] w w':=by
 obtain⟨a,c,rfl,_⟩:=rK hv
 rw[Ey]
 rw[Ey] at hv
 have hK:=ak.refl [] w
 refine cU [.tmp 2] 11 Tryz.func23 rfl Y4 rfl rfl ?_
 refine zr<|zA<|ag<|aQ<|zr<|zm<|eh qR rfl<|jx rfl rfl rfl rfl rfl<|ag ?_
 refine jh (λq:Option Addr×Nat×Nat=>[(0,.slice q.1 q.2.1 q.2.2)]) (λq ww=>ak [] w ww∧(∃bs',cD [] ww (.slice q.1 q.2.1 q.2.2) (.sl 1 (rF bs')))∧q.2.1<=1000000000) ?_ ?_
 refine zc rfl (λh1=>?_) (λh1=>?_)
 have h2:2000<bs.length:=om
 have hg:=JZ hv (i:=0) om
 obtain⟨b1,ga,x1,e1,_⟩:=hg
 cases e1
 refine db<|zm<|OI (h:=2000) qR Dc rfl rfl rfl rfl om hv<|zA<|ag ?_
 exact⟨(_,2000,_),rfl,hK,⟨bs.take 2000,by have:=OH hv (h:=2000) om;rw[show(rF bs).take 2000=rF (bs.take 2000) from by simp[rF,List.map_take]] at this;exact this⟩,by show 2000<=_;omega⟩
 refine bA ?_
 exact⟨(_,_,_),rfl,hK,⟨bs,hv⟩,hb⟩
 intro gu w1 e1 hI
 obtain⟨a2,n2,c2⟩:=gu
 dsimp only at hI⊢
 obtain⟨hK,⟨VW,OJ⟩,fu⟩:=hI
 have ai2:=OJ
 have nu:=hK.size
 refine zr<|zm<|j6 (Z4 _ _ _ _) rfl rfl<|fA rfl ?_
 intro w2 aq pG eK
 have hK:=hK.ext aq
 refine zA<|ag<|aV ?_
 exact⟨_,rfl,⟨_,rfl,nu,⟨a2,n2,c2,0,VW,pG,lR _,λL hL=>(cD.fresh ai2 (L':=L) (λx hx=>.inr (hL x hx))).ext aq,fu⟩⟩,hK⟩
theorem mJ (xs:List aj) (eN:0<xs.length) (hl:xs.length<=1000000) (br q:Nat) (hq:q<=1000000000) (v:Value) (w:World) (h:dZ w br q) (hv:bI [br] w v xs):
  bZ Tryz.prog 25 [.pointer (some ⟨br,0,none⟩),v] w λr w'=>(∃x,x∈xs∧r=str x)∧dZ w' br (q+1)∧ak [br] w w':=by
 obtain⟨a,n,c,rfl,hn⟩:=eI hv
 subst hn
 refine cU [.tmp 4] 12 Tryz.func25 rfl Y6 rfl rfl ?_
 refine zr<|zA<|ag<|zr<|zm<|zm<|zm<|eh bh rfl<|aC (mm xs.length om om br q hq w h) ?_
 rintro v9 w1 ⟨⟨z,e9,hz⟩,hQ,aG⟩
 subst e9
 have dz:=cD.aL hv aG sm
 have hg:=oq dz hz
 obtain⟨b1,ga,e1,bC⟩:=hg
 cases e1
 refine zi bh bB rfl rfl hz<|zl cg rfl (bC.cells 0 _ rfl)<|zA<|ag<|aV ?_
 exact⟨_,rfl,⟨_,List.mem_of_getElem? (lj hz),rfl⟩,hQ,aG⟩
theorem Hf (br q:Nat) (hq:q<=1000000000) (w:World) (h:dZ w br q):
  bZ Tryz.prog 78 [.pointer (some ⟨br,0,none⟩)] w λr w'=>(∃z,z<6∧r=str (bf z))∧dZ w' br (q+1)∧ak [br] w w':=by
 refine cU [.tmp 2] 6 Tryz.func78 rfl ZD rfl rfl ?_
 refine zr<|zA<|ag<|zr<|zm<|aC (mm 6 de de br q hq w h) ?_
 rintro v9 w1 ⟨⟨z,e9,hz⟩,hQ,aG⟩
 subst e9
 refine aC (iS (z+1) z om om w1) ?_
 rintro v2 w2 ⟨dz,aq⟩
 have dR:=aq.size
 have hQ:=hQ.ext aq;have aG:=aG.ext aq
 obtain rfl:=dz
 refine zA<|ag<|aV ?_
 exact⟨_,rfl,⟨z,hz,rfl⟩,hQ,aG⟩
theorem ai3 {x:aj} (h:x∈([[62],[42]]:List aj)):∃f,x=ko f:=by
 simp only[mC,List.not_mem_nil,or_false] at h
 rcases h with rfl|rfl
 ·exact⟨true,rfl⟩
 ·exact⟨false,rfl⟩
theorem OK (d:Nat):d<=10->∀(br q:Nat),q+3*2^d<=1000000000->∀(w:World),dZ w br q->
  bZ Tryz.prog 84 [.pointer (some ⟨br,0,none⟩),.int .i64 (d:Int)] w λr w'=>(∃T:Ty,r=str T.text∧T.n+1<=2^(d+1))∧dZ w' br (q+(3*2^d-2))∧ak [br] w w':=by
 induction d using Nat.strongRecOn with
 |_ d ih=>
  intro hd br q hq w h
  have qi:1<=2^d:=Nat.one_le_two_pow
  have uJ:2^(d+1)=2*2^d:=by rw[Nat.pow_succ];omega
  have Dk:2^d<=1024:=Nat.pow_le_pow_right (n:=2) de hd
  refine cU [.tmp 4] 29 Tryz.func84 rfl ZK rfl rfl ?_
  refine zr<|zA<|ag<|aQ<|zr<|zm<|dO rfl rfl rfl<|zm<|xz (t:=7) rfl (λh1=>?_) (λh1=>?_)
  replace h1:=bu h1
  have OL:d=0:=(by simp at h1;omega)
  refine zs<|zs<|zs<|zp rfl<|ag<|zc rfl (λh2=>?_) (λh2=>?_)
  refine zr<|zA<|ag<|aV ?_
  exact⟨_,rfl,⟨.i,by rw[Ty.Lv];rfl,by show 1+1<=_;omega⟩,h.more om,ak.refl _ _⟩
  simp at h2
  replace h1:=bu h1
  have OL:1<=d:=(by simp at h1;omega)
  have VG:2^d=2*2^(d-1):=(by rw[<-Nat.pow_succ'];congr 1;omega)
  have hp5:2^(d-1+1)=2^d:=(by congr 1;omega)
  have hp6:1<=2^(d-1):=Nat.one_le_two_pow
  refine zm<|aC (mm 2 de de br q om w h) ?_
  rintro v9 w1 ⟨⟨z,e9,hz⟩,hQ,aG⟩
  subst e9
  refine dO rfl rfl rfl<|zp rfl<|ag<|zc rfl (λh3=>?_) (λh3=>?_)
  refine zr<|zA<|ag<|aV ?_
  exact⟨_,rfl,⟨.i,by rw[Ty.Lv];rfl,by show 1+1<=_;omega⟩,hQ.more om,aG⟩
  have mn:=hQ.lt
  refine bA<|zr<|zm<|lk bh bB rfl rfl rfl rfl ?_
  intro w2 aq mc eK
  have hQ:=hQ.ext aq;have aG:=aG.ext aq
  refine aC (mJ [[62],[42]] de de br (q+1) om _ w2 hQ (aY.eF [[62],[42]] mc (λhx=>by simp at hx;omega))) ?_
  rintro lJ w3 ⟨⟨xx,hi,iE⟩,hQ,dL⟩
  have hf:=ai3 hi
  obtain⟨f,hf⟩:=hf
  rw[hf] at iE
  subst iE
  have aG:=aG.trans dL
  have oZ:=Lw f
  refine cm rfl rfl so<|cm rfl rfl so<|zm<|zm<|mO rfl rfl rfl rfl rfl (j5 (d-1) om _ om)<|aC (ih (d-1) om om br (q+1+1) om w3 hQ) ?_
  rintro v20 w4 ⟨⟨A,pz,hA⟩,hQ,uk⟩
  subst pz
  have aG:=aG.trans uk
  have U5:=A.len
  refine cm rfl rfl so<|cm rfl rfl so<|zm<|zm<|mO rfl rfl rfl rfl rfl (j5 (d-1) om _ om)<|aC (ih (d-1) om om br _ om w4 hQ) ?_
  rintro v26 w5 ⟨⟨B,Oq,hB⟩,hQ,ai4⟩
  subst Oq
  have aG:=aG.trans ai4
  have U6:=B.len
  refine cm rfl rfl so<|cm rfl rfl so<|zA<|ag<|aV ?_
  exact⟨_,rfl,⟨.op f A B,by show str (((((([40]++ko f)++[32])++A.text)++[32])++B.text)++[41])=str _;rw[Ty.H6];simp,by show 1+A.n+B.n+1<=_;omega⟩,hQ.more om,aG⟩
def A8:Ty->aj
 | .i=>[48]
 | .op false a b=>[40,112,97,105,114,32]++A8 a++[32]++A8 b++[41]
 | .op true a b=>[40,102,117,110,32,102,32,120,32]++a.text++[32]++b.text++[32]++A8 b++[41]
theorem A9:∀T:Ty,T.n<=60->(A8 T).length<=500*T.n
 | .i,_=>by simp[A8,Ty.n]
 | .op false a b,h=>by
  simp only[Ty.n] at h⊢
  have:=A9 a om
  have:=A9 b om
  simp only[A8,lA,lC,List.length_nil];omega
 | .op true a b,h=>by
  simp only[Ty.n] at h⊢
  have:=A9 b om
  have:=a.len
  have:=b.len
  simp only[A8,lA,lC,List.length_nil];omega
theorem VX (T:Ty):T.n<=60->∀(v:Value) (L:List Nat) (w:World),bS L w v T.av->bZ Tryz.prog 188 [v] w λr w'=>r=str (A8 T)∧ak [] w w':=by
 induction T with
 |i=>
  intro hn v L w hv
  obtain⟨ar,nr,cr,rfl,p9,bc⟩:=dN hv
  have hK:=ak.refl [] w
  refine cU [.tmp 2] 47 Tryz.func188 rfl Kx rfl rfl ?_
  refine zr<|fA rfl ?_
  intro w1 aJ aU dV
  have hK:=hK.ext aJ
  refine zA<|ag<|aQ<|zr<|zf dB rfl<|zl cg rfl (aU.at rfl)<|jF rfl rfl rfl rfl<|ag<|zc rfl (λh1=>?_) (λh1=>?_)
  refine zr<|zA<|ag<|aV ?_
  exact⟨_,rfl,rfl,hK⟩
  exact absurd h1 de
 |op f a b iha ihb=>
  intro hn v L w hv
  cases f with
  |false=>
   obtain⟨ar,nr,cr,rfl,p9,bc⟩:=dN hv
   subst p9
   have fu:1+a.n+b.n<=60:=hn
   have FE:=A9 a om
   have yW:=A9 b om
   have x6:=a.len
   have htb:=b.len
   have VY:=a.size
   have VZ:=b.size
   have Nz:(Ty.op false a b).av.au.length=3:=rfl
   obtain⟨b0,AF,xM,xN,e0,er,_⟩:=fI bc (i:=0) om
   cases e0
   have er:ja L w _ _ [str (ko false),.slice xM 0 xN]:=er
   obtain⟨b1,ga,gY,gZ,e1,bC,dd⟩:=fI bc (i:=1) om
   cases e1
   have bC:ja L w _ _ [str a.av.az,.slice gY a.av.au.length gZ]:=bC
   have dd:bS L w (.agg #[str a.av.az,.slice gY a.av.au.length gZ]) a.av:=dd
   obtain⟨b2,nk,jc,jd,e2,bX,eA⟩:=fI bc (i:=2) om
   cases e2
   have bX:ja L w _ _ [str b.av.az,.slice jc b.av.au.length jd]:=bX
   have eA:bS L w (.agg #[str b.av.az,.slice jc b.av.au.length jd]) b.av:=eA
   have hK:=ak.refl [] w
   refine cU [.tmp 2] 47 Tryz.func188 rfl Kx rfl rfl ?_
   refine zr<|fA rfl ?_
   intro w1 aJ aU dV
   have hK:=hK.ext aJ;have er:=er.ext aJ;have bC:=bC.ext aJ;have bX:=bX.ext aJ;have dd:=dd.ext aJ;have eA:=eA.ext aJ
   refine zA<|ag<|aQ<|zr<|zf dB rfl<|zl cg rfl (aU.at rfl)<|jF rfl rfl rfl rfl<|ag<|zc rfl (λh1=>?_) (λh1=>?_)
   exact absurd rfl h1
   refine bA<|aQ<|zr<|zf cM rfl<|zl cK rfl (aU.at rfl)<|zi (i:=0) cw aH rfl rfl ((show 0<3 from om))<|zf dB rfl<|zl cg rfl (er.cells 0 _ rfl)<|cW rfl rfl<|ag<|zc rfl (λh2=>?_) (λh2=>?_)
   refine aQ ?_
   apply mx eu 15 (rA 12 14++[2]) (rA 12 14++[2]) [[],[0],[1],[2],[3],[4],[5],[],[7],[8],[9],[10],[6,11],[12],[13]] [It.v _,It.v _,It.v _,It.v _,It.v _,It.v _,It.v _,It.v _,It.v _,It.v _,It.v _,It.v _,It.v _,It.v _,It.v _] de rfl
   intro wd aB
   refine vc (λ_ _ _=>zf cM rfl pv) ?_
   refine vk aB (λx w2 aq=>?_) ?_
   have aU:=aU.ext aq
   refine zl cK rfl (aU.at rfl) ?_
   exact pv
   refine vk aB (λx w2 aq=>?_) ?_
   refine zi (i:=1) cw aH rfl rfl ((show 1<3 from om)) ?_
   exact pv
   refine vk aB (λx w2 aq=>?_) ?_
   have bC:=bC.ext aq
   refine zL bT aH rfl bC.cells rfl ?_
   exact pv
   refine vk aB (λx w2 aq=>?_) ?_
   have dd:=dd.ext aq
   refine aC (iha om _ _ w2 dd) ?_
   rintro v3 w3 ⟨et,aK⟩
   have gd:=aK.size
   obtain rfl:=et
   exact pk aK
   refine vk aB (λx w2 aq=>?_) ?_
   refine cm rfl rfl so ?_
   exact pv
   refine vk aB (λx w2 aq=>?_) ?_
   refine cm rfl rfl so ?_
   exact pv
   refine vc (λ_ _ _=>zf cM rfl pv) ?_
   refine vk aB (λx w2 aq=>?_) ?_
   have aU:=aU.ext aq
   refine zl cK rfl (aU.at rfl) ?_
   exact pv
   refine vk aB (λx w2 aq=>?_) ?_
   refine zi (i:=2) cw aH rfl rfl ((show 2<3 from om)) ?_
   exact pv
   refine vk aB (λx w2 aq=>?_) ?_
   have bX:=bX.ext aq
   refine zL bT aH rfl bX.cells rfl ?_
   exact pv
   refine vk aB (λx w2 aq=>?_) ?_
   have eA:=eA.ext aq
   refine aC (ihb om _ _ w2 eA) ?_
   rintro v3 w3 ⟨et,aK⟩
   have gd:=aK.size
   obtain rfl:=et
   exact pk aK
   refine vk aB (λx w2 aq=>?_) ?_
   refine cm rfl rfl so ?_
   exact pv
   refine vk aB (λx w2 aq=>?_) ?_
   refine cm rfl rfl so ?_
   exact pv
   refine vc (λ_ _ _=>zA pv) ?_
   exact trivial
   intro x pT iB
   have hK:=hK.ext iB
   change OW _ _ _ _ [] (aM (aN _ x _) (zZ 12 [_,_,_,_,_,_,_,_,_,_,_,_,_,_]++[(2,_)])) _
   refine ag<|aV ?_
   exact⟨_,rfl,rfl,hK⟩
   exact absurd rfl h2
  |true=>
   obtain⟨ar,nr,cr,rfl,p9,bc⟩:=dN hv
   subst p9
   have fu:1+a.n+b.n<=60:=hn
   have FE:=A9 a om
   have yW:=A9 b om
   have x6:=a.len
   have htb:=b.len
   have VY:=a.size
   have VZ:=b.size
   have Nz:(Ty.op true a b).av.au.length=3:=rfl
   obtain⟨b0,AF,xM,xN,e0,er,_⟩:=fI bc (i:=0) om
   cases e0
   have er:ja L w _ _ [str (ko true),.slice xM 0 xN]:=er
   obtain⟨b1,ga,gY,gZ,e1,bC,dd⟩:=fI bc (i:=1) om
   cases e1
   have bC:ja L w _ _ [str a.av.az,.slice gY a.av.au.length gZ]:=bC
   have dd:bS L w (.agg #[str a.av.az,.slice gY a.av.au.length gZ]) a.av:=dd
   obtain⟨b2,nk,jc,jd,e2,bX,eA⟩:=fI bc (i:=2) om
   cases e2
   have bX:ja L w _ _ [str b.av.az,.slice jc b.av.au.length jd]:=bX
   have eA:bS L w (.agg #[str b.av.az,.slice jc b.av.au.length jd]) b.av:=eA
   have hK:=ak.refl [] w
   refine cU [.tmp 2] 47 Tryz.func188 rfl Kx rfl rfl ?_
   refine zr<|fA rfl ?_
   intro w1 aJ aU dV
   have hK:=hK.ext aJ;have er:=er.ext aJ;have bC:=bC.ext aJ;have bX:=bX.ext aJ;have dd:=dd.ext aJ;have eA:=eA.ext aJ
   refine zA<|ag<|aQ<|zr<|zf dB rfl<|zl cg rfl (aU.at rfl)<|jF rfl rfl rfl rfl<|ag<|zc rfl (λh1=>?_) (λh1=>?_)
   exact absurd rfl h1
   refine bA<|aQ<|zr<|zf cM rfl<|zl cK rfl (aU.at rfl)<|zi (i:=0) cw aH rfl rfl ((show 0<3 from om))<|zf dB rfl<|zl cg rfl (er.cells 0 _ rfl)<|cW rfl rfl<|ag<|zc rfl (λh2=>?_) (λh2=>?_)
   exact absurd h2 de
   refine bA<|aQ ?_
   apply mx eu 22 (rA 26 21++[2]) (rA 26 21++[2]) [[],[0],[1],[2],[3],[4],[5],[],[7],[8],[9],[10],[6,11],[12],[],[14],[15],[16],[17],[13,18],[19],[20]] [It.v _,It.v _,It.v _,It.v _,It.v _,It.v _,It.v _,It.v _,It.v _,It.v _,It.v _,It.v _,It.v _,It.v _,It.v _,It.v _,It.v _,It.v _,It.v _,It.v _,It.v _,It.v _] de rfl
   intro wd aB
   refine vc (λ_ _ _=>zf cM rfl pv) ?_
   refine vk aB (λx w2 aq=>?_) ?_
   have aU:=aU.ext aq
   refine zl cK rfl (aU.at rfl) ?_
   exact pv
   refine vk aB (λx w2 aq=>?_) ?_
   refine zi (i:=1) cw aH rfl rfl ((show 1<3 from om)) ?_
   exact pv
   refine vk aB (λx w2 aq=>?_) ?_
   have bC:=bC.ext aq
   refine zL bT aH rfl bC.cells rfl ?_
   exact pv
   refine vk aB (λx w2 aq=>?_) ?_
   have dd:=dd.ext aq
   refine aC (tx a.av.size a.av (lR _) a.oF.wf om (show a.text.length<=100000000 from om) _ _ w2 dd) ?_
   rintro v3 w3 ⟨et,aK⟩
   have gd:=aK.size
   obtain rfl:=et
   exact pk aK
   refine vk aB (λx w2 aq=>?_) ?_
   refine cm rfl rfl (by have h9:a.av.text.length=a.text.length:=rfl;simp;omega) ?_
   exact pv
   refine vk aB (λx w2 aq=>?_) ?_
   refine cm rfl rfl (by have h9:a.av.text.length=a.text.length:=rfl;simp;omega) ?_
   exact pv
   refine vc (λ_ _ _=>zf cM rfl pv) ?_
   refine vk aB (λx w2 aq=>?_) ?_
   have aU:=aU.ext aq
   refine zl cK rfl (aU.at rfl) ?_
   exact pv
   refine vk aB (λx w2 aq=>?_) ?_
   refine zi (i:=2) cw aH rfl rfl ((show 2<3 from om)) ?_
   exact pv
   refine vk aB (λx w2 aq=>?_) ?_
   have bX:=bX.ext aq
   refine zL bT aH rfl bX.cells rfl ?_
   exact pv
   refine vk aB (λx w2 aq=>?_) ?_
   have eA:=eA.ext aq
   refine aC (tx b.av.size b.av (lR _) b.oF.wf om (show b.text.length<=100000000 from om) _ _ w2 eA) ?_
   rintro v3 w3 ⟨et,aK⟩
   have gd:=aK.size
   obtain rfl:=et
   exact pk aK
   refine vk aB (λx w2 aq=>?_) ?_
   refine cm rfl rfl (by have h9:a.av.text.length=a.text.length:=rfl;have gI:b.av.text.length=b.text.length:=rfl;simp;omega) ?_
   exact pv
   refine vk aB (λx w2 aq=>?_) ?_
   refine cm rfl rfl (by have h9:a.av.text.length=a.text.length:=rfl;have gI:b.av.text.length=b.text.length:=rfl;simp;omega) ?_
   exact pv
   refine vc (λ_ _ _=>zf cM rfl pv) ?_
   refine vk aB (λx w2 aq=>?_) ?_
   have aU:=aU.ext aq
   refine zl cK rfl (aU.at rfl) ?_
   exact pv
   refine vk aB (λx w2 aq=>?_) ?_
   refine zi (i:=2) cw aH rfl rfl ((show 2<3 from om)) ?_
   exact pv
   refine vk aB (λx w2 aq=>?_) ?_
   have bX:=bX.ext aq
   refine zL bT aH rfl bX.cells rfl ?_
   exact pv
   refine vk aB (λx w2 aq=>?_) ?_
   have eA:=eA.ext aq
   refine aC (ihb om _ _ w2 eA) ?_
   rintro v3 w3 ⟨et,aK⟩
   have gd:=aK.size
   obtain rfl:=et
   exact pk aK
   refine vk aB (λx w2 aq=>?_) ?_
   refine cm rfl rfl (by have h9:a.av.text.length=a.text.length:=rfl;have gI:b.av.text.length=b.text.length:=rfl;simp;omega) ?_
   exact pv
   refine vk aB (λx w2 aq=>?_) ?_
   refine cm rfl rfl (by have h9:a.av.text.length=a.text.length:=rfl;have gI:b.av.text.length=b.text.length:=rfl;simp;omega) ?_
   exact pv
   refine vc (λ_ _ _=>zA pv) ?_
   exact trivial
   intro x pT iB
   have hK:=hK.ext iB
   change OW _ _ _ _ [] (aM (aN _ x _) (zZ 26 [_,_,_,_,_,_,_,_,_,_,_,_,_,_,_,_,_,_,_,_,_]++[(2,_)])) _
   refine ag<|aV ?_
   exact⟨_,rfl,rfl,hK⟩
def OM:List aj:=[[40,43,32,120,56,32,40,99,97,108,108,32,102,56,32,40,45,32,120,56,32,49,41,41,41],[40,99,97,108,108,32,102,56,32,40,45,32,120,56,32,49,41,41],[40,42,32,120,56,32,40,99,97,108,108,32,102,56,32,40,45,32,120,56,32,49,41,41,41],[40,45,32,48,32,40,99,97,108,108,32,102,56,32,40,45,32,120,56,32,49,41,41,41]]
theorem ai6 (br q:Nat) (hq:q<=900000000) (w:World) (h:dZ w br q):
  bZ Tryz.prog 117 [.pointer (some ⟨br,0,none⟩)] w λr w'=>(∃x,r=str x∧x.length<=200)∧dZ w' br (q+3)∧ak [br] w w':=by
 have hQ:=h
 have aG:=ak.refl [br] w
 have mn:=h.lt
 refine cU [.tmp 2] 20 Tryz.func117 rfl X5 rfl rfl ?_
 refine zr<|zA<|ag<|zr<|zm<|yc bh bB rfl rfl rfl rfl rfl rfl ?_
 intro w1 aJ bQ dV
 have hQ:=hQ.ext aJ;have aG:=aG.ext aJ
 refine aC (mJ OM de de br q om _ w1 hQ (aY.eF OM bQ (λhx=>by simp at hx;omega) de)) ?_
 rintro lJ w2 ⟨⟨x1,hi,iE⟩,hQ,dL⟩
 subst iE
 have aG:=aG.trans dL
 have gi:=(show∀x,x∈OM->x.length<=30 from by decide) _ hi
 have mn:=hQ.lt
 clear bQ
 refine zA<|ag<|zr<|zm<|pQ bh bB rfl rfl rfl rfl rfl ?_
 intro w3 aK dv iK
 have hQ:=hQ.ext aK;have aG:=aG.ext aK
 refine aC (mJ [[48],[49],[53]] de de br (q+1) om _ w3 hQ (aY.eF [[48],[49],[53]] dv (λhx=>by simp at hx;omega))) ?_
 rintro vq w4 ⟨⟨x2,hj,D4⟩,hQ,jD⟩
 subst D4
 have aG:=aG.trans jD
 have iZ:=(show∀x,x∈([[48],[49],[53]]:List aj)->x.length<=30 from by decide) _ hj
 clear dv
 refine cm rfl rfl so<|cm rfl rfl so<|zm<|cm rfl rfl so<|cm rfl rfl so<|zm<|aC (mm 7 de de br (q+2) om w4 hQ) ?_
 rintro yt w5 ⟨⟨z,AY,hz⟩,hQ,kY⟩
 subst AY
 have aG:=aG.trans kY
 have EJ:=sM (n:=z) om
 refine aC (iS (z+1) z om om w5) ?_
 rintro v6 w6 ⟨kU,bD⟩
 have ob:=bD.size
 have hQ:=hQ.ext bD;have aG:=aG.ext bD
 obtain rfl:=kU
 refine cm rfl rfl so<|cm rfl rfl so<|zA<|ag<|aV ?_
 exact⟨_,rfl,⟨_,rfl,by simp;omega⟩,hQ,aG⟩
theorem V0 (s:aj) (w:World):bZ Tryz.prog 156 [str s] w λr w'=>(∃x ok,r= .tuple #[str x,.bool ok]∧x.length<=8000)∧ak [] w w':=by
 have hK:=ak.refl [] w
 refine cU [.tmp 2,.tmp 3] 26 Tryz.func156 rfl YB rfl rfl ?_
 refine zr<|zA<|zA<|ag<|zr<|zm<|aC (zK s [] w sm) ?_
 rintro v1 w1 ⟨fO,aJ⟩
 have dy:=aJ.size
 have hK:=hK.ext aJ
 have eR:=fO
 obtain⟨t,tv,e9,ht,hp⟩:=eR
 subst e9
 have cJ:=dN ht
 obtain⟨pa,pn,pc,e9,fR,_⟩:=cJ
 subst e9
 subst fR
 have nu:=hK.size
 refine zm<|zx (i:=0) rfl rfl<|zx (i:=1) rfl rfl<|eC aH rfl rfl rfl ?_
 intro w2 aq aI iL
 have dm:=aq
 refine dk (vs:=[str t.az,.slice pa t.au.length pc]) aH rfl rfl rfl aI rfl ?_
 intro w3 aK aI dP
 have dm:=dm.since aK (λx hx=>.inr (by simp at hx;omega))
 have ht:=ht.ext dm;have hK:=hK.ext dm
 refine zA<|ag<|aQ<|zr<|zm<|eH rfl<|zm<|xz (t:=13) rfl (λh1=>?_) (λh1=>?_)
 replace h1:=bu h1
 refine zs<|zs<|zs<|zp rfl<|zm<|EH (t:=18) (b:=true) rfl<|zs<|zs<|zs<|zs<|zp rfl<|ag<|zc rfl (λh2=>?_) (λh2=>?_)
 refine zr<|zA<|zA<|ag<|aV ?_
 exact⟨_,rfl,⟨[],false,rfl,sm⟩,hK⟩
 simp at h2
 replace h1:=bu h1
 have bF:(ba s).isSome=true:=(by simpa using h1)
 have dx:=Dq hp bF
 refine zL bT aH rfl aI.all rfl<|aC (AE t om dx.1 _ _ w3 ht) ?_
 rintro v4 w4 ⟨eJ,aD⟩
 have gK:=aD.size
 have hK:=hK.ext aD;have aI:=aI.ext aD;have ht:=ht.ext aD
 obtain rfl:=eJ
 refine eH rfl<|zp rfl<|zm<|xz (t:=18) rfl (λh3=>?_) (λh3=>?_)
 replace h3:=bu h3
 refine zs<|zs<|zs<|zs<|zp rfl<|ag<|zc rfl (λh4=>?_) (λh4=>?_)
 refine zr<|zA<|zA<|ag<|aV ?_
 exact⟨_,rfl,⟨[],false,rfl,sm⟩,hK⟩
 simp at h4
 replace h3:=bu h3
 have fD:kq t=true:=(by simpa using h3)
 have hu:=(xT dx.1).1 fD
 obtain⟨T,DH,Hd⟩:=hu
 have pS:=ht
 rw[DH] at pS
 refine zL bT aH rfl aI.all rfl<|aC (VX T om _ _ w4 (ht.eq DH)) ?_
 rintro v5 w5 ⟨kQ,aT⟩
 have oW:=aT.size
 have hK:=hK.ext aT;have aI:=aI.ext aT;have ht:=ht.ext aT
 obtain rfl:=kQ
 have CZ:=A9 T om
 refine aC (MJ _ w5) ?_
 rintro v6 w6 ⟨kU,bD⟩
 have ob:=bD.size
 have hK:=hK.ext bD;have aI:=aI.ext bD;have ht:=ht.ext bD
 obtain rfl:=kU
 refine eH rfl<|zp rfl<|ag<|zc rfl (λh5=>?_) (λh5=>?_)
 refine zr<|zA<|zA<|ag<|aV ?_
 exact⟨_,rfl,⟨[],false,rfl,sm⟩,hK⟩
 refine bA<|zr<|zL bT aH rfl aI.all rfl<|aC (VX T om _ _ w6 (ht.eq DH)) ?_
 rintro v7 w7 ⟨iV,cv⟩
 have pg:=cv.size
 have hK:=hK.ext cv
 obtain rfl:=iV
 refine zA<|zA<|ag<|aV ?_
 exact⟨_,rfl,⟨_,true,rfl,om⟩,hK⟩
theorem ai7:tl Tryz.prog 104=true:=by kernel_rfl
theorem J0 (ns ts:List aj) (nm kd:aj) (gi:ns.length<100000) (iZ:ts.length<100000) (v1 v2:Value) (L:List Nat) (w:World) (hL:∀x,x∈L->x<w.heap.size) (h1:bI L w v1 ns) (h2:bI L w v2 ts):
  bZ Tryz.prog 116 [.agg #[v1,v2],str nm,str kd] w λr w'=>(∃u1 u2,r= .agg #[u1,u2]∧bI L w' u1 (ns++[nm])∧bI L w' u2 (ts++[kd]))∧ak [] w w':=by
 obtain⟨a1,n1,c1,rfl,_⟩:=eI h1
 obtain⟨a2,n2,c2,rfl,_⟩:=eI h2
 have hK:=ak.refl [] w
 refine lz [.cell 6 104] 18 Tryz.func116 rfl X4 rfl rfl rfl ?_
 refine zr<|fA rfl ?_
 intro w1 aJ bO dV
 have hK:=hK.ext aJ;have h1:=h1.ext aJ;have h2:=h2.ext aJ
 refine eC kP rfl rfl rfl ?_
 intro w2 aq bR lB
 have hK:=hK.ext aq
 have h1:=(bI.fresh h1 (L':=w1.heap.size::L) (λx hx=>by rcases mC.1 hx with h9|h9;(·right;omega);(·exact .inl h9))).ext aq
 have h2:=(bI.fresh h2 (L':=w1.heap.size::L) (λx hx=>by rcases mC.1 hx with h9|h9;(·right;omega);(·exact .inl h9))).ext aq
 have J1:∀x,x∈w1.heap.size::L->x<w2.heap.size:=(λx hx=>by rcases mC.1 hx with h9|h9;(·omega);(·have:=hL x h9;omega))
 have bO:=bO.ext aq
 have jw:=hK.size
 refine ag<|aQ ?_
 apply wC eu 11 (rA 7 11) (rA 7 11) [[],[0],[],[2],[1,3],[],[5],[],[7],[6,8],[4,9]] [It.v _,It.v _,It.v _,It.p (fun(v:Value) (ww:World)=>bI (w1.heap.size::L) ww v [nm]),It.p (fun(v:Value) (ww:World)=>bI (w1.heap.size::L) ww v (ns++[nm])),It.v _,It.v _,It.v _,It.p (fun(v:Value) (ww:World)=>bI (w1.heap.size::L) ww v [kd]),It.p (fun(v:Value) (ww:World)=>bI (w1.heap.size::L) ww v (ts++[kd])),It.p (fun(v:Value) (ww:World)=>∃b1 m1 d1 b2 m2 d2,v= .agg #[.slice b1 m1 d1,.slice b2 m2 d2]∧bI (w1.heap.size::L) ww (.slice b1 m1 d1) (ns++[nm])∧bI (w1.heap.size::L) ww (.slice b2 m2 d2) (ts++[kd]))] de (by exact⟨λv w w' h k=>cD.ext h k,λv w w' h k=>cD.ext h k,λv w w' h k=>cD.ext h k,λv w w' h k=>cD.ext h k,λv w w' ⟨b1,m1,d1,b2,m2,d2,e,g1,g2⟩ k=>⟨b1,m1,d1,b2,m2,d2,e,cD.ext g1 k,cD.ext g2 k⟩,trivial⟩)
 intro wd aB
 refine vc (λ_ _ _=>zf EZ rfl pv) ?_
 refine vk aB (λx w3 aK=>?_) ?_
 have bO:=bO.ext aK
 refine zl eO rfl (bO.at rfl) ?_
 exact pv
 refine eM ?_
 refine vk aB (λx w3 aK=>?_) ?_
 refine gA bh bB rfl rfl ?_
 intro w4 aD pG iL
 exact pf aD ((aY.eF [nm] pG (λhx=>by have:=J1 _ hx;have:=aK.size;omega)))
 refine vk aB (λx w3 aK=>?_) ?_
 have h1:=h1.ext aK
 intro v3 d3
 refine aC (tP ns [nm] so _ _ (w1.heap.size::L) w3 h1 d3 (λx hx=>by have:=J1 x hx;have:=aK.size;omega)) ?_
 rintro v4 w4 ⟨eJ,aD⟩
 have gK:=aD.size
 have eR:=eJ
 exact pf aD eR
 refine vc (λ_ _ _=>zf PX rfl pv) ?_
 refine vk aB (λx w3 aK=>?_) ?_
 have bO:=bO.ext aK
 refine zl eO rfl (bO.at rfl) ?_
 exact pv
 refine eM ?_
 refine vk aB (λx w3 aK=>?_) ?_
 refine gA bh bB rfl rfl ?_
 intro w4 aD IZ iL
 exact pf aD ((aY.eF [kd] IZ (λhx=>by have:=J1 _ hx;have:=aK.size;omega)))
 refine vk aB (λx w3 aK=>?_) ?_
 have h2:=h2.ext aK
 intro v8 d8
 refine aC (tP ts [kd] so _ _ (w1.heap.size::L) w3 h2 d8 (λx hx=>by have:=J1 x hx;have:=aK.size;omega)) ?_
 rintro v4 w4 ⟨eJ,aD⟩
 have gK:=aD.size
 have eR:=eJ
 exact pf aD eR
 refine vk aB (λx w3 aK=>?_) ?_
 intro v4 d4
 intro v9 d9
 have bC:=eI d4
 obtain⟨b1,m1,d1,e1,_⟩:=bC
 subst e1
 have bX:=eI d9
 obtain⟨b2,m2,d2,e2,_⟩:=bX
 subst e2
 refine j6 (Ky _ _ _ _ _ _ _) rfl rfl ?_
 exact pf (ak.refl _ _) (⟨_,_,_,_,_,_,rfl,d4,d9⟩)
 exact trivial
 intro x qz tV
 intro v3 d3
 intro v4 d4
 intro v8 d8
 intro v9 d9
 intro v10 d10
 have hK:=hK.ext tV;have bR:=bR.ext tV
 change OW _ _ _ _ _ (aM (aN _ x _) (zZ 7 [_,_,_,_,_,_,_,_,_,_,_])) _
 obtain⟨b1,m1,d1,b2,m2,d2,fY,g1,g2⟩:=d10
 subst fY
 refine dk (vs:=[.slice b1 m1 d1,.slice b2 m2 d2]) kP rfl rfl rfl bR rfl ?_
 intro nP lE bR dP
 have hK:=hK.since lE (λx hx=>.inr (by simp at hx;omega))
 have g1:bI L nP _ (ns++[nm]):=(cD.aL g1 lE sm).fresh (λx hx=>.inl (by simp[hx]))
 have g2:bI L nP _ (ts++[kd]):=(cD.aL g2 lE sm).fresh (λx hx=>.inl (by simp[hx]))
 refine ag<|aV ?_
 exact⟨[_],gR ai7 kP rfl bR rfl,⟨_,_,rfl,g1,g2⟩,hK⟩
def Ez:List aj:=[[48],[49],[50],[51],[55],[45,49],[52,48,48],[45,57,57,57]]
set_option maxHeartbeats 4000000 in
theorem OO (ns ts:List aj) (want:aj) (hl:ns.length=ts.length) (D3:ns.length<=1000) (hs:∀x,x∈ns->x.length<=8000) (br q:Nat) (hq:q<=900000000) (v1 v2:Value) (w:World) (h:dZ w br q) (cV:bI [br] w v1 ns) (cS:bI [br] w v2 ts):
  bZ Tryz.prog 115 [.pointer (some ⟨br,0,none⟩),.agg #[v1,v2],str want] w λr w'=>(∃x,r=str x∧x.length<=8000)∧dZ w' br (q+2)∧ak [br] w w':=by
 obtain⟨a1,n1,c1,rfl,fK⟩:=eI cV
 obtain⟨a2,n2,c2,rfl,fu⟩:=eI cS
 subst fK
 have iO:=h.lt
 have hK:=ak.refl [] w
 refine cU [.tmp 6] 67 Tryz.func115 rfl X0 rfl rfl ?_
 refine zr<|fA rfl ?_
 intro w1 aJ aI dV
 have cV:=cV.ext aJ;have cS:=cS.ext aJ;have hK:=hK.ext aJ;have h:=h.ext aJ
 refine zA<|ag<|zr<|gM bh bB ?_
 intro w2 aq iD uF
 have aJ:=aq
 have ai8:=iD.ll
 have aok:=hK.size
 refine zA<|ag<|aQ<|zr<|zA<|ag<|cP ?_
 refine fZ (λq9:Nat×Value×Option Nat=>[(0,.pointer (some ⟨br,0,none⟩)),(2,str want),(4,.pointer (some ⟨w.heap.size,0,none⟩)),(7,q9.2.1),(8,.int .i64 (q9.1:Int))]) (λq9 w'=>ak [] w1 w'∧q9.1<=ns.length∧∃xs,dh w' 9 q9.2.1 q9.2.2 xs∧(∀x,x∈xs->x∈ns)∧xs.length<=q9.1∧∀b,q9.2.2=some b->w1.heap.size<=b) (λq9=>ns.length-q9.1) ((0,.slice (some ⟨w1.heap.size,0,none⟩) 0 0,some w1.heap.size)) (⟨rfl,rfl,rfl,rfl,rfl⟩) (⟨aJ,sm,[],ai8,sm,sm,by intro b hb;cases hb;exact lR _⟩) ?_
 intro gg w3 e3 hI
 obtain⟨k,vf,gf⟩:=gg
 obtain⟨dm,hk,xs,hO,yX,mN,gJ⟩:=hI
 dsimp only at hk hO mN gJ
 have cV:=cV.ext dm;have cS:=cS.ext dm;have hK:=hK.ext dm;have h:=h.ext dm;have aI:=aI.ext dm
 refine aQ<|zr<|zm<|zf EZ rfl<|zl eO rfl (aI.at rfl)<|eh bh rfl<|fJ rfl rfl rfl<|ag<|zc rfl (λh1=>?_) (λh1=>?_)
 have aq:k<ns.length:=(by simp at h1;omega)
 have gh:=oq cV aq
 obtain⟨b9,ot,e9,gq⟩:=gh
 cases e9
 have rV:=List.mem_of_getElem? (lj aq)
 refine bA<|aQ<|cP<|aQ ?_
 apply mx eu 12 (rA 19 12) (rA 19 12) [[],[0],[],[2],[],[4],[],[5,6],[7],[1,3,8],[],[9,10]] [It.v _,It.v _,It.v _,It.v _,It.v _,It.v _,It.v _,It.v _,It.v _,It.v _,It.v _,It.v _] de rfl
 intro wd aB
 refine vc (λ_ _ _=>zf EZ rfl pv) ?_
 refine vk aB (λx w4 aD=>?_) ?_
 have aI:=aI.ext aD
 refine zl eO rfl (aI.at rfl) ?_
 exact pv
 refine vc (λ_ _ _=>zf PX rfl pv) ?_
 refine vk aB (λx w4 aD=>?_) ?_
 have aI:=aI.ext aD
 refine zl eO rfl (aI.at rfl) ?_
 exact pv
 refine vc (λ_ _ _=>zf EZ rfl pv) ?_
 refine vk aB (λx w4 aD=>?_) ?_
 have aI:=aI.ext aD
 refine zl eO rfl (aI.at rfl) ?_
 exact pv
 refine eM ?_
 refine vk aB (λx w4 aD=>?_) ?_
 refine zi bh bB rfl rfl aq ?_
 exact pv
 refine vk aB (λx w4 aD=>?_) ?_
 have gq:=gq.ext aD
 refine zl cg rfl (gq.cells 0 _ rfl) ?_
 exact pv
 refine vk aB (λx w4 aD=>?_) ?_
 have cV:=cV.ext aD;have cS:=cS.ext aD
 refine aC (FZ ns ts hl om (aF ns k) _ _ _ _ w4 cV cS) ?_
 rintro v5 w5 ⟨kQ,aT⟩
 have oW:=aT.size
 obtain rfl:=kQ
 exact pk aT
 refine eM ?_
 refine vk aB (λx w4 aD=>?_) ?_
 refine cW rfl rfl ?_
 exact pv
 exact trivial
 intro x nP lE
 have aI:=aI.ext lE;have hO:=hO.ext lE;have dm:=dm.ext lE;have gq:=gq.ext lE
 change OW _ _ _ _ [] (aM (aN _ x _) (zZ 19 [_,_,_,_,_,_,_,_,_,_,_,_])) _
 refine ag<|zc rfl (λh2=>?_) (λh2=>?_)
 refine db<|zm<|zf EZ rfl<|zl eO rfl (aI.at rfl)<|zm<|zi bh bB rfl rfl aq<|zl cg rfl (gq.cells 0 _ rfl)<|gA bh bB rfl rfl ?_
 intro pX jR JK ai9
 have hO:=hO.ext jR;have dm:=dm.ext jR
 refine r6 bh bB rfl rfl rfl rfl rfl rfl hO JK om ?_
 intro v9 g9 qy dK wJ fN
 have V1:=dm.size
 have dm:=dm.since wJ (λx hx=>.inr (gJ x (by simpa using hx)))
 have aol:=dm.size
 refine zA<|ag<|db<|zm<|eE rfl rfl rfl (j5 (k+1) om _ om)<|zA<|ag ?_
 exact⟨(k+1,v9,g9),⟨rfl,rfl,rfl,rfl,rfl⟩,⟨dm,by show k+1<=_;omega,xs++[aF ns k],dK,λx hx=>by rcases mA.1 hx with h9|h9;(·exact yX x h9);(·simp only[List.mem_singleton] at h9;rw[h9];exact rV),by show(xs++[aF ns k]).length<=k+1;rw[lA];simp;omega,λb hb=>by rcases fN with h9|h9;(·exact gJ b (h9.symm.trans hb));(·rw[h9] at hb;cases hb;omega)⟩,by show ns.length-(k+1)<ns.length-k;omega⟩
 refine bA<|db<|zm<|eE rfl rfl rfl (j5 (k+1) om _ om)<|zA<|ag ?_
 exact⟨(k+1,_,gf),⟨rfl,rfl,rfl,rfl,rfl⟩,⟨dm,by show k+1<=_;omega,xs,hO,yX,by show xs.length<=k+1;omega,gJ⟩,by show ns.length-(k+1)<ns.length-k;omega⟩
 have cJ:=kr hO
 obtain⟨af,cf,ef⟩:=cJ
 subst ef
 have aG:=hK.mono (L':=[br]) sm
 have aja:=hK.size
 have DW:∀b,gf=some b->w.heap.size<=b:=(λb hb=>by have:=gJ b hb;omega)
 refine gF<|gH rfl<|aQ<|zr<|zm<|eh bh rfl<|jx rfl rfl rfl rfl rfl<|zm<|xz (t:=42) rfl (λh3=>?_) (λh3=>?_)
 replace h3:=bu h3
 have kR:0<xs.length:=(by simp at h3;omega)
 refine zm<|aC (mm 4 de de br q om w3 h) ?_
 rintro v44 w4 ⟨⟨z,e44,hz⟩,h,jR⟩
 subst e44
 have aG:=aG.trans jR
 have hO:=hO.aO jR (λb hb aZ=>by have:=DW b hb;simp at aZ;omega)
 have aja:=aG.size
 refine jx rfl rfl rfl rfl rfl<|zp rfl<|ag<|zc rfl (λh4=>?_) (λh4=>?_)
 refine zr<|zm<|zm<|zm<|eh bh rfl<|aC (mm xs.length kR om br (q+1) om w4 h) ?_
 rintro v51 w5 ⟨⟨z2,Ol,eK⟩,h,lr⟩
 subst Ol
 have aG:=aG.trans lr
 have hO:=hO.aO lr (λb hb aZ=>by have:=DW b hb;simp at aZ;omega)
 have gh:=oq hO.rs eK
 obtain⟨b9,ot,e9,gq⟩:=gh
 cases e9
 have rV:=yX _ (List.mem_of_getElem? (lj eK))
 refine zi bh bB rfl rfl eK<|zl cg rfl (gq.cells 0 _ rfl)<|zA<|ag<|aV ?_
 exact⟨_,rfl,⟨_,rfl,hs _ rV⟩,h,aG⟩
 refine bA<|aQ<|zr<|zm<|cW rfl rfl<|ag<|zc rfl (λh5=>?_) (λh5=>?_)
 refine zr<|zm<|Sz bh bB rfl rfl rfl rfl rfl rfl rfl rfl rfl rfl ?_
 intro w5 aT OP jo
 have h:=h.ext aT;have aG:=aG.ext aT
 refine aC (mJ Ez de de br (q+1) om _ w5 h (aY.eF Ez OP (λhx=>by simp at hx;omega) de)) ?_
 rintro Jo w6 ⟨⟨x1,iR,Er⟩,h,CR⟩
 subst Er
 have aG:=(aG).trans CR
 have gi:=(show∀x,x∈Ez->x.length<=8000 from by decide) _ iR
 refine zA<|ag<|aV ?_
 exact⟨_,rfl,⟨x1,rfl,gi⟩,h.more om,aG⟩
 refine bA<|zr<|zm<|aC (V0 want w4) ?_
 rintro v5 w5 ⟨kQ,aT⟩
 have oW:=aT.size
 have h:=h.ext aT;have aG:=aG.ext aT
 have eR:=kQ
 obtain⟨x1,ok1,Hc,gi⟩:=eR
 subst Hc
 refine zm<|zx (i:=0) rfl rfl<|zx (i:=1) rfl rfl<|zA<|zA<|ag<|aQ<|zr<|zm<|eH rfl<|ag<|zc rfl (λh6=>?_) (λh6=>?_)
 refine zr<|zA<|ag<|aV ?_
 exact⟨_,rfl,⟨[48],rfl,by decide⟩,h.more om,aG⟩
 refine bA<|zr<|zm<|zA<|ag<|aV ?_
 exact⟨_,rfl,⟨x1,rfl,gi⟩,h.more om,aG⟩
 replace h3:=bu h3
 have kR:xs.length=0:=om
 refine zs<|zs<|zs<|zp rfl<|ag<|zc rfl (λh7=>?_) (λh7=>?_)
 simp at h7
 refine bA<|aQ<|zr<|zm<|cW rfl rfl<|ag<|zc rfl (λh8=>?_) (λh8=>?_)
 refine zr<|zm<|Sz bh bB rfl rfl rfl rfl rfl rfl rfl rfl rfl rfl ?_
 intro w4 aD OP iL
 have hK:=hK.ext aD;have h:=h.ext aD
 refine aC (mJ Ez de de br q om _ w4 h (aY.eF Ez OP (λhx=>by simp at hx;omega) de)) ?_
 rintro Jo w5 ⟨⟨x1,iR,Er⟩,h,CR⟩
 subst Er
 have aG:=((hK.mono (L':=[br]) sm)).trans CR
 have gi:=(show∀x,x∈Ez->x.length<=8000 from by decide) _ iR
 refine zA<|ag<|aV ?_
 exact⟨_,rfl,⟨x1,rfl,gi⟩,h.more om,aG⟩
 refine bA<|zr<|zm<|aC (V0 want w3) ?_
 rintro v4 w4 ⟨eJ,aD⟩
 have gK:=aD.size
 have hK:=hK.ext aD;have h:=h.ext aD
 have eR:=eJ
 obtain⟨x1,ok1,Hc,gi⟩:=eR
 subst Hc
 refine zm<|zx (i:=0) rfl rfl<|zx (i:=1) rfl rfl<|zA<|zA<|ag<|aQ<|zr<|zm<|eH rfl<|ag<|zc rfl (λh9=>?_) (λh9=>?_)
 refine zr<|zA<|ag<|aV ?_
 exact⟨_,rfl,⟨[48],rfl,by decide⟩,h.more om,(hK.mono (L':=[br]) sm)⟩
 refine bA<|zr<|zm<|zA<|ag<|aV ?_
 exact⟨_,rfl,⟨x1,rfl,gi⟩,h.more om,(hK.mono (L':=[br]) sm)⟩
end Go.Proofs.YtigijcjccmdmhaaGreatDoor
