/- Lemmas for the law FnStart, no statement of their own: no conditions. -/
import Derived.Test.YthbhobaiopccaaaGreatDoorLi
import Derived.Lib.OthersKept
set_option maxHeartbeats 4000000
set_option linter.unusedVariables false
set_option linter.unusedSimpArgs false
namespace Go.Proofs.YthbhobaiopccaaaGreatDoor
open Go
variable {L:List Nat} {w:World}
theorem alw (s p:ai) (w:World):bz Tryz.prog 108 [str s,str p] w λv w'=>v= .bool (Lib.hasPrefix s p)∧w=w':=
 ⟨r7.mk' Tryz.func108 rfl aaF,Calls.mono (Tryz.strings_HasPrefix ⟨s.toArray⟩ ⟨p.toArray⟩ w) λe w' ⟨he,hw⟩=>⟨_,he,sm,hw.symm⟩⟩
theorem alx (s p:ai) (w:World):bz Tryz.prog 145 [str s,str p] w λv w'=>v=str (Lib.trimPrefix s p)∧w=w':=
 ⟨r7.mk' Tryz.func145 rfl aa5,Calls.mono (Tryz.strings_TrimPrefix ⟨s.toArray⟩ ⟨p.toArray⟩ w) λe w' ⟨he,hw⟩=>⟨_,he,by simp[str],hw.symm⟩⟩
theorem aly (w:World) (o:Obj) (a:Addr) (n:Nat) (ha:a.block=w.heap.size):aj [] w ((w.alloc o).freeze a n):=by
 unfold World.freeze
 split
 ·exact aj.alloc [] w o
 ·refine⟨rfl,rfl,rfl,?_,λk hk _=>?_⟩
  ·show w.heap.size<=Array.size (Array.modify (w.alloc o).heap _ _)
   rw[Array.size_modify];exact(aj.alloc [] w o).size
  ·show(Array.modify (w.alloc o).heap _ _)[k]?=_
   rw[Array.getElem?_modify,iN (by rw[ha];omega)];exact(aj.alloc [] w o).block k hk sm
theorem alz (w:World) (e:TypeId) (s:ByteArray):aj [] w (Lib.bytesWorld w e s):=
 (aj.drew [] w).trans (aly _ _ _ _ rfl)
theorem alA (s:ai) {z:Int} (h:numeral s=some z) (w:World):bz Tryz.prog 144 [str s] w λv w'=>v= .tuple #[.int .i64 z,.nilIface]∧aj [] w w':=
 ⟨r7.mk' Tryz.func144 rfl aa4,Calls.mono (Tryz.strconv_Atoi ⟨s.toArray⟩ z (by have:=Q7 h;simp[ByteArray.size];omega) (by simpa using Zy h) w) λe w' ⟨he,t,hw⟩=>⟨_,he,rfl,by rw[hw];exact alz _ _ _⟩⟩
theorem EV (a b c:Int) (w:World):bz Tryz.prog 57 [.int .i64 a,.int .i64 b,.int .i64 c] w λv w'=>v= .bool (decide (b<=a)&&decide (a<=c))∧w=w':=by
 refine bX [.tmp 6] 15 Tryz.func57 rfl acy rfl rfl ?_
 refine W ?_
 apply oB 4 10 14 rfl oQ
 intro _
 exact oQ
 intro xx
 refine W ?_
 exact⟨_,rfl,rfl,rfl⟩
theorem alB (c:UInt8) (w:World):bz Tryz.prog 109 [.int .u8 c.toNat] w λv w'=>v= .bool (eO c)∧w=w':=by
 refine bX [.tmp 2] 33 Tryz.func109 rfl aaG rfl rfl ?_
 refine W ?_
 apply oB 3 5 8 rfl oQ
 intro _
 exact oQ
 intro xx
 refine WZ ?_
 apply oP 7 9 16 rfl oQ
 intro _
 refine WZ ?_
 apply oB 3 12 15 rfl oQ
 intro _
 exact oQ
 intro xx
 exact oQ
 intro xx
 refine WZ ?_
 apply oP 3 17 20 rfl oQ
 intro _
 exact oQ
 intro xx
 refine WZ ?_
 apply oP 3 21 24 rfl oQ
 intro _
 exact oQ
 intro xx
 refine WZ ?_
 apply oP 3 25 28 rfl oQ
 intro _
 exact oQ
 intro xx
 refine WZ ?_
 apply oP 3 29 32 rfl oQ
 intro _
 exact oQ
 intro xx
 refine W ?_
 exact⟨_,rfl,congrArg Value.bool (Qf c),rfl⟩
theorem alC (s:ai) (hs:s.length<9223372036854775807) (w:World):bz Tryz.prog 146 [str s] w λv w'=>v= .bool (s.all gV)∧w=w':=by
 refine bX [.tmp 2] 20 Tryz.func146 rfl aa6 rfl rfl ?_
 refine W ?_
 refine eH (λk:Nat=>[(0,str s),(5,.int .i64 (s.length:Int)),(6,.int .i64 (k:Int))]) (λk w'=>w'=w∧k<=s.length∧(s.take k).all gV=true) (λk=>s.length-k) (0) (⟨rfl,rfl,rfl⟩) (⟨rfl,om,sm⟩) λgg w1 e1 hI=>?_
 obtain⟨rfl,hk,cP⟩:=hI
 refine W ?_
 refine zc rfl (λh1=>?_) (λh1=>?_)
 have dR:gg<s.length:=by omega
 refine W ?_
 refine jM ia rfl rfl rfl rfl (iW dR)<|WZ ?_
 apply oP 5 13 18 rfl oQ
 intro _
 refine zm<|zm<|jM ia rfl rfl rfl rfl (iW dR) ?_
 exact oQ
 intro xx
 refine aZ<|zc rfl (λh3=>?_) (λh3=>?_)
 have hq:s.all gV=false:=ZB dR (QI h3)
 refine W ?_
 exact⟨_,rfl,by rw[hq];rfl,rfl⟩
 have hc:=QJ h3
 refine W ?_
 exact⟨gg+1,⟨rfl,rfl,rfl⟩,⟨rfl,om,by rw[Ld dR,List.all_append,cP];simp only[List.all_cons,hc.2.2];rfl⟩,om⟩
 have hq:s.all gV=true:=by rw[List.take_of_length_le om] at cP;exact cP
 refine W ?_
 exact⟨_,rfl,by rw[hq];rfl,rfl⟩
theorem Pf (s:ai) (hs:s.length<9223372036854775807) (w:World):bz Tryz.prog 120 [str s] w λv w'=>v= .bool (numeral s).isSome∧w=w':=by
 have hl:(ei s).length<=s.length:=by unfold ei;split<;>simp
 refine bX [.tmp 2] 22 Tryz.func120 rfl aaN rfl rfl ?_
 refine W ?_
 refine aA (alx _ _ _) ?_
 rintro _ _ ⟨rfl,rfl⟩
 refine W ?_
 rw[Zw]
 apply oP 13 8 21 rfl oQ
 intro h1
 refine W ?_
 refine aA (EV _ _ _ _) ?_
 rintro _ _ ⟨rfl,rfl⟩
 refine WZ ?_
 apply oB 3 12 15 rfl oQ
 intro h2
 refine zm<|aA (alC _ om _) ?_
 rintro _ _ ⟨rfl,rfl⟩
 exact oQ
 intro xx
 refine WZ ?_
 apply oB 4 16 20 rfl oQ
 intro h3
 simp at h3
 refine zm<|jM (i:=0) ia rfl rfl rfl rfl (iW om) ?_
 exact oQ
 intro xx
 exact oQ
 intro xx
 refine W ?_
 exact⟨_,rfl,show Value.bool _=Value.bool _ from congrArg _ (ZC s),rfl⟩
theorem EW (s:ai) {z:Int} (h:numeral s=some z) (w:World):bz Tryz.prog 119 [str s] w λv w'=>v= .int .i64 z∧aj [] w w':=by
 have hK:=aj.refl [] w
 refine bX [.tmp 2] 11 Tryz.func119 rfl aaM rfl rfl ?_
 refine W ?_
 refine aA (alA s h w) ?_
 rintro _ w1 ⟨rfl,aI⟩
 have dm:=aI.size
 have hK:=hK.ext aI
 refine W ?_
 exact⟨_,rfl,rfl,hK⟩
theorem alD (s:ai) (hs:s.length<9223372036854775807) (w:World):bz Tryz.prog 137 [str s] w λv w'=>v= .bool (rk s)∧aj [] w w':=by
 have hK:=aj.refl [] w
 refine bX [.tmp 2] 10 Tryz.func137 rfl aaZ rfl rfl ?_
 refine W ?_
 refine aA (Pf s hs _) ?_
 rintro _ _ ⟨rfl,rfl⟩
 refine WZ ?_
 apply oA 4 5 9 (aj [] w) rfl oQ
 intro h1
 obtain⟨z,hz⟩:=Option.isSome_iff_exists.1 h1
 have Ha:z=(numeral s).getD 0:=by rw[hz];rfl
 refine zm<|aA (EW s hz w) ?_
 rintro _ w1 ⟨rfl,aI⟩
 have dm:=aI.size
 rw[Ha]
 refine aA (EV _ _ _ _) ?_
 rintro _ _ ⟨rfl,rfl⟩
 exact oQ
 intro xx w1 aI
 have hK:=hK.ext aI
 refine W ?_
 exact⟨_,rfl,show Value.bool _=Value.bool _ from congrArg _ (ZA s),hK⟩
theorem Xb (s:ai) (hs:s.length<9223372036854775807) (w:World):bz Tryz.prog 96 [str s] w λr w'=>r= .bool (nk s)∧w=w':=by
 refine bX [.tmp 2] 35 Tryz.func96 rfl acZ rfl rfl ?_
 refine W ?_
 refine eH (λk:Nat=>[(0,str s),(6,.int .i64 (s.length:Int)),(7,.int .i64 (k:Int))]) (λk w'=>w'=w∧k<=s.length∧∀j,j<k->Bz s j=true) (λk=>s.length-k) (0) (⟨rfl,rfl,rfl⟩) (⟨rfl,om,by intro j hj;omega⟩) λgg w1 e1 hI=>?_
 obtain⟨rfl,hk,cP⟩:=hI
 refine W ?_
 refine zc rfl (λh1=>?_) (λh1=>?_)
 refine W ?_
 refine jM ia rfl rfl rfl rfl (iW om)<|W ?_
 apply oB 3 15 18 rfl oQ
 intro _
 exact oQ
 intro xx
 refine WZ ?_
 apply oP 11 19 30 rfl oQ
 intro _
 refine WZ ?_
 apply oB 3 22 25 rfl oQ
 intro _
 exact oQ
 intro xx
 refine WZ ?_
 apply oB 3 26 29 rfl oQ
 intro _
 exact oQ
 intro xx
 exact oQ
 intro xx
 refine km rfl rfl rfl<|aZ<|zc rfl (λh6=>?_) (λh6=>?_)
 rw[Ig] at h6
 refine W ?_
 exact⟨_,rfl,by rw[QE om h6];rfl,rfl⟩
 rw[Ig] at h6
 refine W ?_
 exact⟨gg+1,⟨rfl,rfl,rfl⟩,⟨rfl,om,QG cP h6⟩,om⟩
 refine W ?_
 exact⟨_,rfl,by rw[QF (λj hj=>cP j om)];rfl,rfl⟩
theorem Xc (t:au) (v:Value) (L:List Nat) (w:World) (hv:bC L w v t):bz Tryz.prog 71 [v] w λr w'=>r= .bool (decide (t.ak.length=0))∧aj [] w w':=by
 obtain⟨a,n,c,rfl,hn,aQ⟩:=dj hv
 have hK:=aj.refl [] w
 refine bX [.tmp 2] 7 Tryz.func71 rfl acL rfl rfl ?_
 refine zr<|eu rfl λw1 aI aW db=>?_
 have hK:=hK.ext aI
 refine W ?_
 exact⟨_,rfl,show Value.bool _=Value.bool _ from congrArg _ (decide_eq_decide.2 om),hK⟩
theorem Da (t:au) (cL:WF t) (v:Value) (L:List Nat) (w:World) (hv:bC L w v t):bz Tryz.prog 39 [v] w λr w'=>r=str (cg t)∧aj [] w w':=by
 have dd:=hv
 obtain⟨a,n,c,rfl,hn,aQ⟩:=dj hv
 have hK:=aj.refl [] w
 refine bX [.tmp 2] 10 Tryz.func39 rfl acr rfl rfl ?_
 refine zr<|eu rfl λw1 aI aW db=>cG aI hK aQ dd λhK aQ dd=>?_
 refine W ?_
 refine aA (Xc t _ L w1 dd) ?_
 rintro _ w2 ⟨rfl,az⟩
 have dy:=az.size
 refine cG az hK aQ aW λhK aQ aW=>?_
 refine aZ<|zc rfl (λh1=>?_) (λh1=>?_)
 have hh:cg t=[]:=Fy (.inr (List.length_eq_zero_iff.1 h1))
 refine W ?_
 exact⟨_,rfl,by rw[hh];rfl,hK⟩
 have jS:0<t.ak.length:=by omega
 have ha:t.aw=[]:=Classical.byContradiction (λh=>by have:=cL.leaf h;rw[this] at jS;exact absurd jS de)
 have mG:=fK jS
 have hh:cg t=(nth t.ak 0).aw:=Fx ha mG
 obtain⟨b,off,pa,pn,pc,rfl,er,eT,fD⟩:=ik aQ mG
 refine WI ?_
 refine zi (i:=0) p7 fc rfl rfl (by rw[hn];exact jS)<|W ?_
 exact⟨_,rfl,by rw[hh];rfl,hK⟩
theorem alE (t:au) (cL:WF t) (h:ai) (k:Int) (v:Value) (L:List Nat) (w:World) (hv:bC L w v t):
  bz Tryz.prog 40 [v,str h,.int .i64 k] w λr w'=>r= .bool (decide ((t.ak.length:Int)=k)&&decide (cg t=h))∧aj [] w w':=by
 have dd:=hv
 obtain⟨a,n,c,rfl,hn,aQ⟩:=dj hv
 have hK:=aj.refl [] w
 subst hn
 refine bX [.tmp 6] 18 Tryz.func40 rfl acs rfl rfl ?_
 refine zr<|eu rfl λw1 aI cF db=>bI aI hK dd λhK dd=>?_
 refine W ?_
 apply oA 5 12 17 (aj [] w1) rfl oQ
 intro _
 refine W ?_
 refine aA (Da t cL _ L w1 dd) ?_
 rintro _ w2 ⟨rfl,az⟩
 have dy:=az.size
 exact oQ
 intro xx w2 az
 have hK:=hK.ext az
 refine W ?_
 exact⟨_,rfl,rfl,hK⟩
theorem alF (ts:List au) (hlen:ts.length<1000000000) (g:au->Bool) (f:FuncId) (caps:List Value) (v:Value) (L:List Nat) (w:World) (hv:ek L w v ts) 
  (hf:∀i,i<ts.length->∀(u:Value) (w':World),aj [] w w'->bC L w' u (nth ts i)->bz Tryz.prog f (u::caps) w' λr w''=>r= .bool (g (nth ts i))∧aj [] w' w''):
  bz Tryz.prog 202 [v,.func (.func f) #[] caps.toArray] w λr w'=>r= .int .i64 (BA ts g)∧aj [] w w':=by
 obtain⟨a,c,rfl,hlc⟩:=rh hv
 have po:(cX ts).length=ts.length:=gZ ts
 have hK:=aj.refl [] w
 refine bX [.tmp 4] 19 Tryz.func202 rfl abS rfl rfl ?_
 refine W ?_
 refine eH (λk:Nat=>[(0,.slice a (cX ts).length c),(1,.func (.func f) #[] caps.toArray),(7,.int .i64 ((cX ts).length:Int)),(8,.int .i64 (k:Int))]) (λk w'=>aj [] w w'∧k<=ts.length∧∀i,i<k->g (nth ts i)=false) (λk=>ts.length-k) (0) (⟨rfl,rfl,rfl,rfl⟩) (⟨hK,om,by intro i hi;omega⟩) λgg w1 e1 hI=>?_
 obtain⟨hK,hk,cP⟩:=hI
 have hv:=hv.ext hK
 refine W ?_
 refine zc rfl (λh1=>?_) (λh1=>?_)
 have hp:=fK (ps:=ts) (i:=gg) om
 obtain⟨b,off,pa,pn,pc,rfl,hc,eT,fD⟩:=ik hv hp
 refine W ?_
 refine Qq rfl rfl rfl (hf gg om _ w1 hK (lW fD)) ?_
 rintro _ w2 ⟨rfl,az⟩
 have dy:=az.size
 have hK:=hK.ext az
 refine aZ<|zc rfl (λh2=>?_) (λh2=>?_)
 have hq:=ZD om cP h2
 refine W ?_
 exact⟨_,rfl,by rw[hq];rfl,hK⟩
 refine W ?_
 exact⟨gg+1,⟨rfl,rfl,rfl,rfl⟩,⟨hK,om,by intro i hi;rcases Nat.lt_or_ge i gg with h|h;exact cP i h;rw[show i=gg by omega];exact h2⟩,om⟩
 have hq:=ZE (λi hi=>cP i om)
 refine W ?_
 exact⟨_,rfl,by rw[hq];rfl,hK⟩
theorem alG (ts:List au) (hlen:ts.length<1000000000) (g:au->Bool) (f:FuncId) (caps:List Value) (v:Value) (L:List Nat) (w:World) (hv:ek L w v ts) 
  (hf:∀i,i<ts.length->∀(u:Value) (w':World),aj [] w w'->bC L w' u (nth ts i)->bz Tryz.prog f (u::caps) w' λr w''=>r= .bool (g (nth ts i))∧aj [] w' w''):
  bz Tryz.prog 165 [v,.func (.func f) #[] caps.toArray] w λr w'=>r= .bool (ts.any g)∧aj [] w w':=by
 have hK:=aj.refl [] w
 refine bX [.tmp 4] 9 Tryz.func165 rfl abm rfl rfl ?_
 refine W ?_
 refine aA (alF ts hlen g f caps _ L w hv hf) ?_
 rintro _ w1 ⟨rfl,aI⟩
 have dm:=aI.size
 have hK:=hK.ext aI
 refine W ?_
 exact⟨_,rfl,congrArg Value.bool (ZF ts g),hK⟩
def Xd (m:Nat):Prop:=∀(t:au),t.size<=m->t.size<=100000->WF t->∀(hidden:Bool) (v:Value) (L:List Nat) (w:World),bC L w v t->
  bz Tryz.prog 136 [v,.bool hidden,.bool false] w λr w'=>r= .bool (eY hidden t)∧aj [] w w'
theorem alH {m:Nat} (ih:Xd m) (t:au) (h:t.size<=m) (h2:t.size<=100000) (cL:WF t) (hidden:Bool) (b1 b2:Nat) (v:Value) (L:List Nat) (w:World) (hv:bC L w v t) 
  (aW:aJ w b1 #[.bool hidden] 4) (aN:aJ w b2 #[.bool false] 4):
  bz Tryz.prog 166 [v,.pointer (some ⟨b1,0,none⟩),.pointer (some ⟨b2,0,none⟩)] w λr w'=>r= .bool (!eY hidden t)∧aj [] w w':=by
 have dd:=hv
 obtain⟨a,n,c,rfl,hn,aQ⟩:=dj hv
 have hK:=aj.refl [] w
 refine bX [.tmp 4] 10 Tryz.func166 rfl abn rfl rfl ?_
 refine zr<|eu rfl λw1 aI cF db=>gQ aI hK dd aW aN λhK dd aW aN=>?_
 refine W ?_
 refine aA (ih t h h2 cL hidden _ L w1 dd) ?_
 rintro _ w2 ⟨rfl,az⟩
 have dy:=az.size
 have hK:=hK.ext az
 refine W ?_
 exact⟨_,rfl,rfl,hK⟩
theorem alI {b off n c:Nat} {ts:List au} (h:ek L w (.slice (some ⟨b,off,none⟩) n c) ts) (k:Nat) (p:Prop) (hp:p->k<ts.length):
  ∃qa qn qc,Ib p w b (off+k*2) [str (nth ts k).aw,.slice qa qn qc]∧Ic p L w (.slice qa qn qc) (nth ts k).ak:=by
 by_cases h2:p
 ·obtain⟨b',off',qa,qn,qc,fH,hq,hqn,hqp⟩:=ik h (fK (hp h2))
  cases fH
  exact⟨qa,qn,qc,λ_=>hq,λ_=>hqp⟩
 ·exact⟨none,0,0,λhh=>absurd hh h2,λhh=>absurd hh h2⟩
theorem Pg (ts:List au) (k i:Nat):nth (ts.drop k) i=nth ts (i+k):=by
 simp[nth,List.getD,List.getElem?_drop,Nat.add_comm]
theorem alK (ts:List au) (f:au->Bool):(!ts.any λu=>!f u)=ts.all f:=by
 induction ts with
 |nil=>rfl
 |cons t r ih=>simp only[List.any_cons,List.all_cons,Bool.not_or,Bool.not_not,ih]
theorem Ph:∀m,Xd m:=by
 intro m
 induction m with
 |zero=>intro t h;have:=xz t;omega
 |succ m ih=>
  intro t hm rv cL hidden v L w hv
  have dd:=hv
  obtain⟨a,n,c,rfl,hn,aQ⟩:=dj hv
  have hK:=aj.refl [] w
  have mH:=xz t
  refine bX [.tmp 6] 53 Tryz.func136 rfl aaY rfl rfl ?_
  refine zr<|eu rfl λw1 aI cF db=>cG aI hK aQ dd λhK aQ dd=>?_
  refine KQ rfl rfl rfl λw2 az aF dJ=>gQ az hK aQ dd cF λhK aQ dd cF=>?_
  refine KQ rfl rfl rfl λw3 aH cN gv=>la aH hK aQ dd cF aF λhK aQ dd cF aF=>?_
  refine W ?_
  refine aA (Xc t _ L w3 dd) ?_
  rintro _ w4 ⟨rfl,aO⟩
  have fG:=aO.size
  refine sB aO hK aQ dd cF aF cN λhK aQ dd cF aF cN=>?_
  refine aZ<|zc rfl (λh1=>?_) (λh1=>?_)
  have ha:t.aw≠[]:=λh=>by have:=cL.pos h;omega
  refine WZ ?_
  apply oP 7 12 19 rfl oQ
  intro _
  refine WZ ?_
  apply oB 4 14 18 rfl oQ
  intro _
  refine WZ ?_
  exact oQ
  intro xx
  exact oQ
  intro xx
  refine WZ ?_
  apply oP 7 20 27 rfl oQ
  intro _
  refine zl RV rfl (cN.at rfl)<|zm<|sd (t:=22) (b:=false) rfl ?_
  exact oQ
  intro xx
  refine W ?_
  exact⟨_,rfl,show Value.bool _=Value.bool _ from congrArg _ (by rw[QN ha,Bool.or_false]),hK⟩
  have jS:0<t.ak.length:=by omega
  have ha:t.aw=[]:=Classical.byContradiction (λh=>by have:=cL.leaf h;rw[this] at jS;exact absurd jS de)
  have mG:=fK jS
  have hh:cg t=(nth t.ak 0).aw:=Fx ha mG
  refine W ?_
  refine aA (Da t cL _ L w4 dd) ?_
  rintro _ w5 ⟨rfl,aP⟩
  have og:=aP.size
  refine la aP hK aQ cF aF cN λhK aQ cF aF cN=>?_
  obtain⟨b,off,pa,pn,pc,rfl,er,eT,fD⟩:=ik aQ mG
  refine W ?_
  refine zc rfl (λh5=>?_) (λh5=>?_)
  have he:(nth t.ak 0).aw=[101]:=hh.symm.trans h5
  have cN:aJ w5 w2.heap.size #[.bool false] 4:=cN
  obtain⟨qa,qn,qc,j9,Pj⟩:=alI aQ 1 ((n:Int)=2) (λh=>om)
  refine jq<|DP [32,33,34,35,36,37,38,39,40,41,42,43,6] [(6,.bool (decide ((n:Int)=2)&&eY true (nth t.ak 1)))] ?_ ?_
  rcases bE (decide ((n:Int)=2)) with iH|iH
  apply kD cT 13 (rA 32 12++[6]) (rA 32 12++[6]) [[],[0],[1],[2],[3],[4],[4,5],[4,6],[4,7],[4],[4,8,9],[4,10],[11]] [It.v _,It.v _,It.v _,It.v _,It.v (.bool true),It.v _,It.v _,It.v _,It.v _,It.v _,It.v _,It.v _,It.v _] de rfl
  intro wd aB
  refine VA ?_
  refine vc (λx w6 bO=>?_) ?_
  refine WZ ?_
  exact pv (by exact congrArg Value.bool iH)
  refine VA ?_
  refine vk aB (λx w6 bO=>?_) ?_
  have hg:=iH
  refine zi (i:=1) p7 fc rfl rfl (by have:=of_decide_eq_true hg;omega) ?_
  exact pv
  refine vk aB (λx w6 bO=>?_) ?_
  have j9:=j9.ext bO
  have hg:=iH
  refine zL uA fc rfl (j9 (of_decide_eq_true hg)) rfl ?_
  exact pv
  refine VA ?_
  refine vk aB (λx w6 bO=>?_) ?_
  have Pj:=Pj.ext bO
  have hg:=iH
  refine aA (ih (nth t.ak 1) (by have:=of_decide_eq_true hg;have:=kX (t:=t) (i:=1) om;omega) (by have:=of_decide_eq_true hg;have:=kX (t:=t) (i:=1) om;omega) (cL.nth (by have:=of_decide_eq_true hg;omega)) true _ L w6 (lW (Pj (of_decide_eq_true hg)))) ?_
  rintro _ w7 ⟨rfl,bV⟩
  have ov:=bV.size
  exact pk bV
  exact VZ
  intro x pK rI
  change OW _ _ _ _ [] (bm (bg _ x _) (zZ 32 [_,_,_,_,_,_,_,_,_,_,_,_]++[(6,_)])) _
  refine W ?_
  exact kE rI
  apply kD cT 13 (rA 32 12++[6]) (rA 32 12++[6]) [[],[0],[1],[2],[3],[4],[4,5],[4,6],[4,7],[4],[4,8,9],[4,10],[11]] [It.v _,It.v _,It.v _,It.v _,It.v (.bool false),It.v _,It.v _,It.v _,It.v _,It.v _,It.v _,It.v _,It.v _] de rfl
  intro wd aB
  refine VA ?_
  refine vc (λx w6 bO=>?_) ?_
  refine WZ ?_
  exact pv (by exact congrArg Value.bool iH)
  exact VZ
  intro x pK rI
  change OW _ _ _ _ [] (bm (bg _ x _) (zZ 32 [_,_,_,_,_,_,_,_,_,_,_,_]++[(6,_)])) _
  refine W ?_
  exact kE rI
  intro x pK rI
  have hK:=hK.ext rI
  refine jJ<|⟨_,rfl,show Value.bool _=Value.bool _ from congrArg _ ?_,hK⟩
  rw[Lg ha jS he]
  congr 1
  exact decide_eq_decide.2 om
  have dH:(nth t.ak 0).aw≠[101]:=λh=>h5 (hh.trans h)
  refine W ?_
  refine iD (λ_:Unit=>[(3,.pointer (some ⟨w.heap.size,0,none⟩)),(4,.pointer (some ⟨w1.heap.size,0,none⟩)),(5,.pointer (some ⟨w2.heap.size,0,none⟩)),(44,.bool (decide (cg t=[116])||decide (cg t=[99])))]) (λ_ w'=>w'=w5) ?_ ?_
  refine zc rfl (λh6=>?_) (λh6=>?_)
  refine WZ ?_
  exact⟨(),⟨rfl,rfl,rfl,congrArg Value.bool (zj h6)⟩,rfl⟩
  refine W ?_
  exact⟨(),⟨rfl,rfl,rfl,congrArg Value.bool (zk h6)⟩,rfl⟩
  intro gu w6 e6 hI
  obtain rfl:=hI
  refine zc rfl (λh7=>?_) (λh7=>?_)
  have tq:=zn h7
  rw[hh] at tq
  refine W ?_
  refine Dn (l:=1) p7 fc rfl rfl rfl rfl om aQ λwY aV=>?_
  have aV:ek L w6 wY (t.ak.drop 1):=by rw[ek,K8];exact aV
  refine Qp (vs:=[.pointer (some ⟨w1.heap.size,0,none⟩),.pointer (some ⟨w2.heap.size,0,none⟩)]) rfl rfl rfl<|aA (alG (t.ak.drop 1) (by rw[List.length_drop];omega) (λu=>!eY hidden u) 166 [.pointer (some ⟨w1.heap.size,0,none⟩),.pointer (some ⟨w2.heap.size,0,none⟩)] _ L w6 aV (λi hi u w' k hu=>by rw[List.length_drop] at hi;rw[Pg] at hu⊢;exact alH ih (nth t.ak (i+1)) (by have:=kX (t:=t) (i:=i+1) om;omega) (by have:=kX (t:=t) (i:=i+1) om;omega) (cL.nth om) hidden _ _ _ L _ hu (aF.ext k) (cN.ext k))) ?_
  rintro _ w7 ⟨rfl,bV⟩
  have ov:=bV.size
  have hK:=hK.ext bV
  refine W ?_
  exact⟨_,rfl,show Value.bool _=Value.bool _ from congrArg _ (by rw[Lh ha jS tq,alK]),hK⟩
  have tq:=zo h7
  rw[hh] at tq
  refine W ?_
  exact⟨_,rfl,by rw[QO ha jS dH tq];rfl,hK⟩
theorem HO {a b:World} (h:aj [] w a) (k:RowKit.Below w.heap.size a b):aj [] w b:=
 ⟨k.os.trans h.os,k.tape.trans h.tape,k.output.trans h.output,Nat.le_trans h.size k.size,λi hi hl=>(k.block i hi).trans (h.block i hi hl)⟩
theorem alL (x y:Nat) (h:x*y<18446744073709551616) (hx:x<18446744073709551616) (hy:y<18446744073709551616) (w:World):
  bz Tryz.prog 172 [.int .u64 x,.int .u64 y] w λv w'=>v= .tuple #[.int .u64 0,.int .u64 ((x*y:Nat):Int)]∧w=w':=
 ⟨r7.mk' Tryz.func172 rfl abr,Calls.mono (Tryz.bits_Mul x y hx hy w) λ_ _ ⟨he,hw⟩=>⟨_,he,by rw[Nat.div_eq_of_lt h,Nat.mod_eq_of_lt h];rfl,hw.symm⟩⟩
theorem alM (B b n:Nat) (w:World) (hB:B<=b) (fI:aJ w b #[.pointer none,.slice none 0 0] 113) (C9:B<=w.heap.size) (hn:n<=281474976710656):
  bz Tryz.prog 173 [.pointer (some ⟨b,0,none⟩),.int .i64 n] w λv w'=>v= .tuple #[]∧Lib.IsBuilderF 113 5 B b (Lib.byteCells []) w'∧RowKit.Below B w w':=
 ⟨r7.mk' Tryz.func173 rfl abt,Calls.mono (Tryz.Builder_Grow_fresh B b n w hB fI C9 hn) λ_ _ ⟨he,hb,hk⟩=>⟨_,he,rfl,.inr (Lib.BuilderAtF.of hb),hk⟩⟩
theorem Xe (B b:Nat) (l s:ai) (w:World) (h:Lib.IsBuilderF 113 5 B b (Lib.byteCells l) w) (hlen:l.length+s.length<=140737488355328) (C9:B<=w.heap.size):
  bz Tryz.prog 111 [.pointer (some ⟨b,0,none⟩),str s] w λv w'=>(∃u,v=u)∧Lib.IsBuilderF 113 5 B b (Lib.byteCells (l++s)) w'∧RowKit.Below B w w':=
 ⟨r7.mk' Tryz.func111 rfl aaI,Calls.mono (Tryz.Builder_WriteString_f B b _ ⟨s.toArray⟩ w h (by rw[Lib.byteCells_length];simpa[ByteArray.size] using hlen) C9) λ_ _ ⟨he,hb,hk⟩=>⟨_,he,⟨_,rfl⟩,.inr (by have e1:Lib.byteCells (l++s)=Lib.byteCells l++Lib.strCells ⟨s.toArray⟩:=by{simp[Lib.byteCells,Lib.strCells]};rw[e1];exact hb),hk⟩⟩
theorem Pl (B b:Nat) (l:ai) (w:World) (h:Lib.IsBuilderF 113 5 B b (Lib.byteCells l) w):
  bz Tryz.prog 174 [.pointer (some ⟨b,0,none⟩)] w λv w'=>v= .int .i64 (l.length:Int)∧w=w':=
 ⟨r7.mk' Tryz.func174 rfl abu,Calls.mono (Tryz.Builder_Len_f B b _ w h) λ_ _ ⟨he,hw⟩=>⟨_,he,by rw[Lib.byteCells_length],hw.symm⟩⟩
theorem Xf (B b:Nat) (l:ai) (h0:l≠[]) (w:World) (h:Lib.IsBuilderF 113 5 B b (Lib.byteCells l) w):
  bz Tryz.prog 79 [.pointer (some ⟨b,0,none⟩)] w λv w'=>v=str l∧Lib.IsBuilderF 113 5 B b (Lib.byteCells l) w'∧RowKit.Below B w w':=
 ⟨r7.mk' Tryz.func79 rfl acM,Calls.mono (Tryz.Builder_String_f B b l w h h0) λ_ _ ⟨he,hb,hk⟩=>⟨_,he,rfl,hb,hk⟩⟩
theorem alN (c:Nat) (hc:c<=8192) (w:World):bz Tryz.prog 143 [str [115],.int .i64 (c:Int)] w λv w'=>v=str (List.replicate c 115)∧aj [] w w':=by
 have hK:=aj.refl [] w
 refine bX [.tmp 4] 125 Tryz.func143 rfl aa3 rfl rfl ?_
 refine W ?_
 refine zc rfl (λh1=>?_) (λh1=>?_)
 have er:c=0:=by omega
 refine W ?_
 exact⟨_,rfl,by rw[er];rfl,hK⟩
 refine W ?_
 refine zc rfl (λh2=>?_) (λh2=>?_)
 have bF:c=1:=by omega
 refine W ?_
 exact⟨_,rfl,by rw[bF];rfl,hK⟩
 refine W ?_
 refine zc rfl (λh3=>?_) (λh3=>?_)
 exfalso
 omega
 refine W ?_
 refine xk vO Iv rfl rfl rfl (show IntKind.u64.wrap (([115]:ai).length:Int)=((1:Nat):Int) from by decide)<|zm<|xk vO Iv rfl rfl rfl (show IntKind.u64.wrap (c:Int)=((c:Nat):Int) from by rw[wrap_u64 _ om om])<|aA (alL 1 c om om om _) ?_
 rintro _ _ ⟨rfl,rfl⟩
 refine zm<|zx (i:=0) rfl rfl<|zx (i:=1) rfl rfl<|zA<|zA<|aZ<|jq<|zr<|zm<|E7 rfl rfl rfl rfl rfl<|zm ?_
 apply Bj 3 31 34 [31,32,33,34] (λw'=>w=w') rfl
 intro h4
 replace h4:=jG h4
 refine W ?_
 exact mg rfl rfl
 intro h4
 replace h4:=jG h4
 refine W ?_
 exact mg rfl rfl
 rintro xx _ rfl
 refine aZ<|zc rfl (λh5=>?_) (λh5=>?_)
 exfalso
 simp at h5
 omega
 refine gz<|zr<|zm<|xk Iv vO rfl rfl rfl (show IntKind.i64.wrap ((1*c:Nat):Int)=(c:Int) from by rw[wrap_i64 _ om om];omega)<|W ?_
 refine zc rfl (λh6=>?_) (λh6=>?_)
 exact absurd h6 de
 refine W ?_
 refine jM (i:=0) ia rfl rfl rfl rfl (iW de)<|W ?_
 refine zc rfl (λh7=>?_) (λh7=>?_)
 exact absurd h7 de
 refine W ?_
 refine zc rfl (λh8=>?_) (λh8=>?_)
 exact absurd h8 de
 refine W ?_
 refine zc rfl (λh9=>?_) (λh9=>?_)
 exact absurd h9 de
 refine W ?_
 refine zc rfl (λfB=>?_) (λfB=>?_)
 exact absurd fB de
 refine W ?_
 refine zc rfl (λmB=>?_) (λmB=>?_)
 exact absurd mB de
 refine W ?_
 refine zc rfl (λkC=>?_) (λkC=>?_)
 exfalso
 omega
 refine gz<|zr<|dk RR rfl rfl rfl λw1 aI cY db=>?_
 have hK:=hK.ext aI
 refine aZ<|zr<|zm<|aA (alM w.heap.size w.heap.size c w1 (lR _) cY om om) ?_
 rintro _ w2 ⟨rfl,hB,qV⟩
 have hK:=HO hK qV
 refine aZ<|zr<|zm<|aA (Xe w.heap.size w.heap.size [] [115] w2 hB sm (by have:=hK.size;omega)) ?_
 rintro _ w3 ⟨_,hB,qV⟩
 have hK:=HO hK qV
 refine W ?_
 refine eH (λk:Nat=>[(0,str [115]),(7,.int .i64 (c:Int)),(8,.int .i64 (c:Int)),(9,.pointer (some ⟨w.heap.size,0,none⟩))]) (λk w'=>aj [] w w'∧Lib.IsBuilderF 113 5 w.heap.size w.heap.size (Lib.byteCells (List.replicate k 115)) w'∧1<=k∧k<=c) (λk=>c-k) (1) (⟨rfl,rfl,rfl,rfl⟩) (⟨hK,hB,om,om⟩) λgg w4 e4 hI=>?_
 obtain⟨hK,hB,hk,ka⟩:=hI
 have gN:=hK.size
 refine jq<|zr<|aA (Pl _ _ _ _ hB) ?_
 rintro _ _ ⟨rfl,rfl⟩
 rw[List.length_replicate]
 refine W ?_
 refine zc rfl (λmD=>?_) (λmD=>?_)
 have dR:gg<c:=by omega
 refine W ?_
 refine aA (Pl _ _ _ _ hB) ?_
 rintro _ _ ⟨rfl,rfl⟩
 rw[List.length_replicate]
 refine W ?_
 refine aA (Pl _ _ _ _ hB) ?_
 rintro _ _ ⟨rfl,rfl⟩
 rw[List.length_replicate]
 refine zm<|Y6 rfl rfl rfl rfl rfl (show(if(c:Int)<(if(gg:Int)<(c:Int)-gg then(gg:Int) else(c:Int)-gg) then(c:Int) else(if(gg:Int)<(c:Int)-gg then(gg:Int) else(c:Int)-gg))=((min gg (c-gg):Nat):Int) from by repeat' split<;>omega)<|zA<|aZ<|lp<|aA (Xf _ _ _ (by intro h;have:=congrArg List.length h;simp at this;omega) w4 hB) ?_
 rintro _ w5 ⟨rfl,hB,qV⟩
 have hK:=HO hK qV
 refine zm<|Bi ia rfl rfl rfl (.inl ⟨rfl,rfl⟩) (.inr ⟨_,rfl⟩) om (by rw[List.length_replicate];omega)<|aA (Xe w.heap.size w.heap.size _ _ w5 hB so (by have:=hK.size;omega)) ?_
 rintro _ w6 ⟨_,hB,qV⟩
 have hK:=HO hK qV
 refine W ?_
 exact⟨gg+min gg (c-gg),⟨rfl,rfl,rfl,rfl⟩,⟨hK,by have e1:List.replicate gg 115++((List.replicate gg (115:UInt8)).drop 0).take (min gg (c-gg)-0)=List.replicate (gg+min gg (c-gg)) 115:=by{rw[List.drop_zero,Nat.sub_zero,List.take_replicate,List.replicate_append_replicate];congr 1;omega};rw[<-e1];exact hB,om,om⟩,om⟩
 have he:gg=c:=by omega
 refine W ?_
 refine aA (Xf _ _ _ (by intro h;have:=congrArg List.length h;simp at this;omega) w4 hB) ?_
 rintro _ w5 ⟨rfl,hB,qV⟩
 have hK:=HO hK qV
 refine W ?_
 exact⟨_,rfl,by rw[<-he];rfl,hK⟩
theorem Xg (h:ai) (n:Nat) (hn:n<=8000) (w:World):bz Tryz.prog 118 [str h,.int .i64 (n:Int)] w λr w'=>r=str (eZ h n)∧aj [] w w':=by
 have hK:=aj.refl [] w
 refine bX [.tmp 4] 33 Tryz.func118 rfl aaL rfl rfl ?_
 refine W ?_
 refine zc rfl (λh1=>?_) (λh1=>?_)
 have er:=h1
 refine W ?_
 exact⟨_,rfl,show str _=str _ from congrArg _ (by rw[eZ,iP er]),hK⟩
 have er:=h1
 refine W ?_
 refine iD (λ_:Unit=>[(1,.int .i64 (n:Int)),(5,str h),(8,.bool (decide (h=[109,111,118])||decide (h=[111,112,101,110])))]) (λ_ w'=>w'=w) ?_ ?_
 refine zc rfl (λh2=>?_) (λh2=>?_)
 refine WZ ?_
 exact⟨(),⟨rfl,rfl,congrArg Value.bool (zj h2)⟩,rfl⟩
 refine W ?_
 exact⟨(),⟨rfl,rfl,congrArg Value.bool (zk h2)⟩,rfl⟩
 intro gu w1 e1 hI
 obtain rfl:=hI
 refine zc rfl (λh3=>?_) (λh3=>?_)
 have bF:=zn h3
 refine W ?_
 exact⟨_,rfl,show str _=str _ from congrArg _ (by rw[eZ,iN er,iP bF]),hK⟩
 have bF:=zo h3
 refine W ?_
 refine iD (λ_:Unit=>[(1,.int .i64 (n:Int)),(5,str h),(11,.bool (decide (h=[97,100,100])||decide (h=[115,117,98])||decide (h=[109,117,108])))]) (λ_ w'=>w'=w1) ?_ ?_
 refine zc rfl (λh4=>?_) (λh4=>?_)
 refine WZ ?_
 exact⟨(),⟨rfl,rfl,congrArg Value.bool (QS h4)⟩,rfl⟩
 have fi:=h4
 refine W ?_
 refine zc rfl (λh5=>?_) (λh5=>?_)
 refine WZ ?_
 exact⟨(),⟨rfl,rfl,congrArg Value.bool (QT fi h5)⟩,rfl⟩
 refine W ?_
 exact⟨(),⟨rfl,rfl,congrArg Value.bool (QU fi h5)⟩,rfl⟩
 intro gu w2 e2 hI
 obtain rfl:=hI
 refine zc rfl (λh6=>?_) (λh6=>?_)
 have bU:=QV h6
 refine W ?_
 exact⟨_,rfl,show str _=str _ from congrArg _ (by rw[eZ,iN er,iN bF,iP bU]),hK⟩
 have bU:=QW h6
 refine W ?_
 refine zc rfl (λh7=>?_) (λh7=>?_)
 have dM:=h7
 refine W ?_
 refine Y7 rfl rfl rfl rfl (show(if(0:Int)<(n:Int)-2 then(n:Int)-2 else 0)=((n-2:Nat):Int) from by split<;>omega)<|aA (alN (n-2) om w2) ?_
 rintro _ w3 ⟨rfl,aH⟩
 have eU:=aH.size
 have hK:=hK.ext aH
 refine W ?_
 exact⟨_,rfl,show str _=str _ from congrArg _ (by rw[eZ,iN er,iN bF,iN bU,iP dM]),hK⟩
 have dM:=h7
 refine W ?_
 refine zc rfl (λh8=>?_) (λh8=>?_)
 have jv:=h8
 refine W ?_
 exact⟨_,rfl,show str _=str _ from congrArg _ (by rw[eZ,iN er,iN bF,iN bU,iN dM,iP jv]),hK⟩
 have jv:=h8
 refine W ?_
 refine zc rfl (λh9=>?_) (λh9=>?_)
 have j8:=h9
 refine W ?_
 exact⟨_,rfl,show str _=str _ from congrArg _ (by rw[eZ,iN er,iN bF,iN bU,iN dM,iN jv,iP j8]),hK⟩
 have j8:=h9
 refine W ?_
 refine zc rfl (λfB=>?_) (λfB=>?_)
 have qi:=fB
 refine W ?_
 exact⟨_,rfl,show str _=str _ from congrArg _ (by rw[eZ,iN er,iN bF,iN bU,iN dM,iN jv,iN j8,iP qi]),hK⟩
 have qi:=fB
 refine W ?_
 refine zc rfl (λmB=>?_) (λmB=>?_)
 have Al:=mB
 refine W ?_
 exact⟨_,rfl,show str _=str _ from congrArg _ (by rw[eZ,iN er,iN bF,iN bU,iN dM,iN jv,iN j8,iN qi,iP Al]),hK⟩
 have Al:=mB
 refine W ?_
 refine iD (λ_:Unit=>[(5,str h),(30,.bool (decide (h=[106,117,109,112])||decide (h=[104,97,108,116])))]) (λ_ w'=>w'=w2) ?_ ?_
 refine zc rfl (λkC=>?_) (λkC=>?_)
 refine WZ ?_
 exact⟨(),⟨rfl,congrArg Value.bool (zj kC)⟩,rfl⟩
 refine W ?_
 exact⟨(),⟨rfl,congrArg Value.bool (zk kC)⟩,rfl⟩
 intro gu w3 e3 hI
 obtain rfl:=hI
 refine zc rfl (λmD=>?_) (λmD=>?_)
 have HP:=zn mD
 refine W ?_
 exact⟨_,rfl,show str _=str _ from congrArg _ (by rw[eZ,iN er,iN bF,iN bU,iN dM,iN jv,iN j8,iN qi,iN Al,iP HP]),hK⟩
 have HP:=zo mD
 refine W ?_
 exact⟨_,rfl,show str _=str _ from congrArg _ (by rw[eZ,iN er,iN bF,iN bU,iN dM,iN jv,iN j8,iN qi,iN Al,iN HP]),hK⟩
theorem Xh {v:Value} {ts:List au} (h:ek L w v ts):∃a c,v= .slice a ts.length c:=by
 obtain⟨a,c,rfl,_⟩:=rh h
 exact⟨a,c,by rw[gZ]⟩
theorem Xi (t:au) (hs:t.size<=12001) (cL:WF t) (v:Value) (L:List Nat) (w:World) (hv:bC L w v t):
  bz Tryz.prog 98 [v] w λr w'=>r= .bool (lY t)∧aj [] w w':=by
 have dd:=hv
 obtain⟨a,n,c,rfl,hn,aQ⟩:=dj hv
 have hK:=aj.refl [] w
 have hn8:=Rf cL
 subst hn
 have hσ:=Z0 (cg t) t.ak.length
 refine bX [.tmp 2] 78 Tryz.func98 rfl ac1 rfl rfl ?_
 refine zr<|eu rfl λw1 aI aW db=>cG aI hK aQ dd λhK aQ dd=>?_
 refine W ?_
 apply kD cT 7 (rA 7 6++[3]) (rA 7 6++[3]) [[],[0],[],[2],[3],[1,4],[5]] [It.v _,It.v _,It.v _,It.v _,It.v _,It.v _,It.v (str (eZ (cg t) t.ak.length))] de rfl
 intro wd aB
 refine VA ?_
 refine vk aB (λx w2 az=>?_) ?_
 have dd:=dd.ext az
 refine aA (Da t cL _ L w2 dd) ?_
 rintro _ w3 ⟨rfl,aH⟩
 have eU:=aH.size
 exact pk aH
 refine VA ?_
 refine vk aB (λx w2 az=>?_) ?_
 refine aA (Xg (cg t) t.ak.length om w2) ?_
 rintro _ w3 ⟨rfl,aH⟩
 have eU:=aH.size
 exact pk aH
 exact VZ
 intro x nO gi
 refine cG gi hK aQ aW λhK aQ aW=>?_
 change OW _ _ _ _ [] (bm (bg _ x _) (zZ 7 [_,_,_,_,_,_]++[(3,_)])) _
 refine W ?_
 apply oP 8 15 23 rfl oQ
 intro h1
 refine WZ ?_
 exact oQ
 intro xx
 refine aZ<|zc rfl (λh2=>?_) (λh2=>?_)
 have hb:eZ (cg t) t.ak.length=[]∨t.ak.length≠(eZ (cg t) t.ak.length).length+1:=by simp only[oE,dE] at h2;rcases h2 with h|h;exact .inl h;exact .inr om
 refine W ?_
 exact⟨_,rfl,by rw[Ik hb];rfl,hK⟩
 have hb:¬(eZ (cg t) t.ak.length=[]∨t.ak.length≠(eZ (cg t) t.ak.length).length+1):=by simp only[Bool.or_eq_false_iff,decide_eq_false_iff_not] at h2;rintro(h|h);exact h2.1 h;exact h2.2 om
 have dH:=List.length_pos_iff.2 (λh=>hb (.inl h))
 have hl:t.ak.length=(eZ (cg t) t.ak.length).length+1:=Classical.byContradiction λh=>hb (.inr h)
 obtain⟨b0,AA,_,_,_,rfl,_,_,_⟩:=ik aQ (fK (ps:=t.ak) (i:=0) om)
 refine W ?_
 refine Dn (l:=1) p7 fc rfl rfl rfl rfl om aQ λwY aV=>?_
 have aV:ek L nO wY (t.ak.drop 1):=by rw[ek,K8];exact aV
 obtain⟨a1,c1,rfl⟩:=Xh aV
 have Ds:(t.ak.drop 1).length=t.ak.length-1:=List.length_drop
 generalize hσe:eZ (cg t) t.ak.length=σ at*
 refine W ?_
 refine eH (λk:Nat=>[(1,.pointer (some ⟨w.heap.size,0,none⟩)),(3,str σ),(26,.slice a1 (t.ak.drop 1).length c1),(27,.int .i64 ((t.ak.drop 1).length:Int)),(28,.int .i64 (k:Int))]) (λk w'=>aj [] w w'∧aj [] nO w'∧k<=(t.ak.drop 1).length∧∀i,i<k->ga ((σ.getD i 0).toNat:Int) (nth t.ak (i+1))=true) (λk=>(t.ak.drop 1).length-k) (0) (⟨rfl,rfl,rfl,rfl,rfl⟩) (⟨hK,aj.refl [] _,om,by intro i hi;omega⟩) λgg l6 yc hI=>?_
 obtain⟨hK,aI,hk,cP⟩:=hI
 refine bI aI aV aW λaV aW=>?_
 have gN:=hK.size
 have alO:=aI.size
 have ig:=aW.lt
 refine W ?_
 refine zc rfl (λh3=>?_) (λh3=>?_)
 have hp:=fK (ps:=t.ak.drop 1) (i:=gg) om
 obtain⟨b1,eR,pa,pn,pc,rfl,j9,eT,fD⟩:=ik aV hp
 rw[Pg] at j9 eT fD
 have BV:=cL.nth (i:=gg+1) om
 have nV:=kX (t:=t) (i:=gg+1) om
 have oh:=vL (nth t.ak (gg+1))
 refine W ?_
 refine dk fc rfl rfl rfl λmI ie cN alP=>?_
 have hK:=hK.grow;have hK:=hK.ext ie;have aI:=aI.grow;have aI:=aI.ext ie;have fD:=fD.grow;have fD:=fD.ext ie
 refine zA<|cw fc rfl rfl rfl cN rfl λow iJ cN Xj=>?_
 have hK:=hK.aD iJ sx;have aI:=aI.aD iJ sx;have fD:=fD.aD iJ sx
 refine W ?_
 have mc:=aj.refl [] ow
 refine jM ia rfl rfl rfl rfl (iW om)<|W ?_
 refine iD (λ_:Unit=>[(1,.pointer (some ⟨w.heap.size,0,none⟩)),(3,str σ),(5,.pointer (some ⟨l6.heap.size,0,none⟩)),(6,.bool false),(26,.slice (some ⟨b1,eR,none⟩) (t.ak.drop 1).length c1),(27,.int .i64 ((t.ak.drop 1).length:Int)),(28,.int .i64 (gg:Int)),(35,.int .u8 ((σ.getD gg 0).toNat:Int)),(36,.bool (decide (((σ.getD gg 0).toNat:Int)=100)||decide (((σ.getD gg 0).toNat:Int)=115)))]) (λ_ w'=>w'=ow) ?_ ?_
 refine zc rfl (λh4=>?_) (λh4=>?_)
 refine WZ ?_
 exact⟨(),⟨rfl,rfl,rfl,rfl,rfl,rfl,rfl,rfl,congrArg Value.bool (zj h4)⟩,rfl⟩
 refine W ?_
 exact⟨(),⟨rfl,rfl,rfl,rfl,rfl,rfl,rfl,rfl,congrArg Value.bool (zk h4)⟩,rfl⟩
 intro gu pK Vr hI
 obtain rfl:=hI
 refine iD (λ_:Unit=>[(1,.pointer (some ⟨w.heap.size,0,none⟩)),(3,str σ),(6,.bool (ga ((σ.getD gg 0).toNat:Int) (nth t.ak (gg+1)))),(26,.slice (some ⟨b1,eR,none⟩) (t.ak.drop 1).length c1),(27,.int .i64 ((t.ak.drop 1).length:Int)),(28,.int .i64 (gg:Int))]) (λ_ w'=>aj [] pK w') ?_ ?_
 refine zc rfl (λh5=>?_) (λh5=>?_)
 have hz:=zn h5
 refine W ?_
 refine aA (alD _ om pK) ?_
 rintro _ qQ ⟨rfl,nT⟩
 have Kt:=nT.size
 have mc:=mc.ext nT
 refine W ?_
 exact⟨(),⟨rfl,rfl,by rw[ga,iP hz];rfl,rfl,rfl,rfl⟩,mc⟩
 have hz:=zo h5
 refine W ?_
 refine zc rfl (λh6=>?_) (λh6=>?_)
 refine W ?_
 refine aA (Pf _ om _) ?_
 rintro _ _ ⟨rfl,rfl⟩
 refine W ?_
 exact⟨(),⟨rfl,rfl,by rw[ga,iN hz,iP h6];rfl,rfl,rfl,rfl⟩,mc⟩
 have db:=h6
 refine W ?_
 refine zc rfl (λh7=>?_) (λh7=>?_)
 have dJ:=h7
 refine W ?_
 refine aA (Pf _ om _) ?_
 rintro _ _ ⟨rfl,rfl⟩
 refine WZ ?_
 apply oA 5 52 57 (aj [] pK) rfl oQ
 intro h8
 obtain⟨z,Xk⟩:=Option.isSome_iff_exists.1 h8
 have Ha:z=(numeral (nth t.ak (gg+1)).aw).getD 0:=by rw[Xk];rfl
 refine W ?_
 refine aA (EW _ Xk pK) ?_
 rintro _ qQ ⟨rfl,nT⟩
 have Kt:=nT.size
 rw[Ha]
 exact oQ
 intro xx qQ nT
 have mc:=mc.ext nT
 refine W ?_
 exact⟨(),⟨rfl,rfl,by rw[ga,iN hz,iN db,iP dJ];rfl,rfl,rfl,rfl⟩,mc⟩
 have dJ:=h7
 refine W ?_
 refine zc rfl (λh9=>?_) (λh9=>?_)
 refine W ?_
 refine aA (Xb _ om _) ?_
 rintro _ _ ⟨rfl,rfl⟩
 refine W ?_
 exact⟨(),⟨rfl,rfl,by rw[ga,iN hz,iN db,iN dJ,iP h9];rfl,rfl,rfl,rfl⟩,mc⟩
 have gv:=h9
 refine W ?_
 refine zc rfl (λfB=>?_) (λfB=>?_)
 have gC:=fB
 refine W ?_
 refine aA (alE (nth t.ak (gg+1)) BV [101] 2 _ _ pK (lW fD)) ?_
 rintro _ qQ ⟨rfl,nT⟩
 have Kt:=nT.size
 refine cG nT fD cN mc λfD cN mc=>?_
 refine WZ ?_
 apply oA 3 67 70 (aj [] qQ) rfl oQ
 intro mB
 refine W ?_
 refine aA (Ph (nth t.ak (gg+1)).size (nth t.ak (gg+1)) (lR _) om BV false _ _ qQ (lW fD)) ?_
 rintro _ wq ⟨rfl,l7⟩
 have aq5:=l7.size
 exact oQ
 intro xx wq l7
 have mc:=mc.ext l7
 refine W ?_
 exact⟨(),⟨rfl,rfl,by rw[ga,iN hz,iN db,iN dJ,iN gv,iP gC,show decide ((nth t.ak (gg+1)).ak.length=2)=decide (((nth t.ak (gg+1)).ak.length:Int)=2) from decide_eq_decide.2 om];rfl,rfl,rfl,rfl⟩,mc⟩
 have gC:=fB
 refine W ?_
 refine zc rfl (λkC=>?_) (λkC=>?_)
 have iI:=kC
 refine W ?_
 refine aA (Ph (nth t.ak (gg+1)).size (nth t.ak (gg+1)) (lR _) om BV false _ _ pK (lW fD)) ?_
 rintro _ qQ ⟨rfl,nT⟩
 have Kt:=nT.size
 have mc:=mc.ext nT
 refine W ?_
 exact⟨(),⟨rfl,rfl,by rw[ga,iN hz,iN db,iN dJ,iN gv,iN gC,iP iI];rfl,rfl,rfl,rfl⟩,mc⟩
 have iI:=kC
 refine WZ ?_
 exact⟨(),⟨rfl,rfl,by rw[ga,iN hz,iN db,iN dJ,iN gv,iN gC,iN iI];rfl,rfl,rfl,rfl⟩,mc⟩
 intro gu qQ e46 hI
 have hK:=hK.ext hI;have aI:=aI.ext hI
 refine W ?_
 refine zc rfl (λmD=>?_) (λmD=>?_)
 subst hσe
 have hq:ga (((eZ (cg t) t.ak.length).getD gg 0).toNat:Int) (nth t.ak (gg+1))=false:=by simpa using mD
 refine W ?_
 exact⟨_,rfl,by rw[ZG om hq];rfl,hK⟩
 have hq:ga ((σ.getD gg 0).toNat:Int) (nth t.ak (gg+1))=true:=by simpa using mD
 refine W ?_
 exact⟨gg+1,⟨rfl,rfl,rfl,rfl,rfl⟩,⟨hK,aI,om,by intro i hi;rcases Nat.lt_or_ge i gg with h|h;exact cP i h;rw[show i=gg by omega];exact hq⟩,om⟩
 subst hσe
 have hq:=ZH hb (λi hi=>cP i om)
 refine W ?_
 exact⟨_,rfl,by rw[hq];rfl,hK⟩
theorem alQ (t:au) (cL:WF t) (v:Value) (L:List Nat) (w:World) (hv:bC L w v t):
  bz Tryz.prog 99 [v] w λr w'=>r= .bool (FB t)∧aj [] w w':=by
 have dd:=hv
 obtain⟨a,n,c,rfl,hn,aQ⟩:=dj hv
 have hK:=aj.refl [] w
 refine bX [.tmp 2] 11 Tryz.func99 rfl ac2 rfl rfl ?_
 refine zr<|eu rfl λw1 aI aW db=>bI aI hK dd λhK dd=>?_
 refine W ?_
 refine aA (Da t cL _ L w1 dd) ?_
 rintro _ w2 ⟨rfl,az⟩
 have dy:=az.size
 refine cG az hK dd aW λhK dd aW=>?_
 refine WZ ?_
 apply oO 4 6 10 (aj [] w2) rfl oQ
 intro _
 refine W ?_
 refine aA (Da t cL _ L w2 dd) ?_
 rintro _ w3 ⟨rfl,aH⟩
 have eU:=aH.size
 exact oQ
 intro xx w4 aO
 have hK:=hK.ext aO
 refine W ?_
 exact⟨_,rfl,rfl,hK⟩
def alR (L:List Nat) (d:Nat) (s:ai) (v:Value) (w:World):Prop:=
 ∃t tv r ok,v= .tuple #[tv,str r,.bool ok]∧bC L w tv t∧zu d s t r ok
theorem alS:∀(d:Nat) (s:ai) (L:List Nat) (w:World),d<=60->s.length<=12000->(∀x,x∈L->x<w.heap.size)->
  bz Tryz.prog 70 [str s,.int .i64 ((60:Int)-(d:Int))] w λv w'=>alR L d s v w'∧aj [] w w':=by
 intro d
 induction d using Nat.strongRecOn with
 |_ d ih=>
 intro s L w hd hs hL
 have hK:=aj.refl [] w
 refine jr [.cell 4 66,.tmp 5,.tmp 6] 78 Tryz.func70 rfl acK rfl rfl rfl ?_
 refine zr<|dk fc rfl rfl rfl λw1 aI aF db=>?_
 have hK:=hK.grow;have hK:=hK.ext aI
 refine W ?_
 refine aA (alw _ _ _) ?_
 rintro _ _ ⟨rfl,rfl⟩
 refine km rfl rfl rfl<|aZ<|zc rfl (λh1=>?_) (λh1=>?_)
 have zF:=h1
 refine W ?_
 refine eH (λk:Nat=>[(0,str s),(1,.int .i64 ((60:Int)-(d:Int))),(4,.pointer (some ⟨w.heap.size,0,none⟩)),(7,.int .i64 (k:Int))]) (λk w'=>w'=w1∧k<=(s.takeWhile eO).length) (λk=>s.length-k) (0) (⟨rfl,rfl,rfl,rfl⟩) (⟨rfl,om⟩) λgg w2 e2 hI=>?_
 obtain⟨rfl,DW⟩:=hI
 have Gb:=Qj eO s gg DW
 have fE:=Fm eO s
 refine WZ ?_
 apply oB 5 19 24 rfl oQ
 intro h2
 refine zm<|zm<|jM ia rfl rfl rfl rfl (iW om)<|aA (alB _ _) ?_
 rintro _ _ ⟨rfl,rfl⟩
 exact oQ
 intro xx
 refine aZ<|zc rfl (λh3=>?_) (λh3=>?_)
 have dR:=Gb.2 (by simpa using h3)
 refine W ?_
 exact⟨gg+1,⟨rfl,rfl,rfl,rfl⟩,⟨rfl,om⟩,om⟩
 have Gc:gg=(s.takeWhile eO).length:=Nat.le_antisymm DW (Nat.le_of_not_lt (λhh=>by have hx:=Gb.1 hh;rw[hx.2,Bool.and_true,decide_eq_false_iff_not] at h3;omega))
 refine WZ ?_
 refine yZ cT (cu w.heap.size ([str ((s.drop 0).take (gg-0)),.slice none 0 0]) 66) 12 (rA 27 9++[100009,5,6]) (rA 27 9++[100009,5,6]) [[],[],[0,1],[2],[],[],[4,5],[],[7],[3],[6],[8]] [λv _=>v=(str s),λv _=>v=(.int .i64 (gg:Int)),λv _=>v=(str ((s.drop 0).take (gg-0))),λv _=>v=(.agg #[str ((s.drop 0).take (gg-0)),.slice none 0 0]),λv _=>v=(str s),λv _=>v=(.int .i64 (gg:Int)),λv _=>v=(str ((s.drop gg).take (s.length-gg))),λv _=>v=(.int .i64 (gg:Int)),λv _=>v=(.bool (decide ((0:Int)<(gg:Int)))),λ_ ww=>aJ ww w.heap.size ([str ((s.drop 0).take (gg-0)),.slice none 0 0]).toArray 66,λv _=>v=(str ((s.drop gg).take (s.length-gg))),λv _=>v=(.bool (decide ((0:Int)<(gg:Int))))] de (fo (fo (fo (fo (fo (fo (fo (fo (fo (Dq (fo (fo trivial)))))))))))) (λwd aB=>?_) ?_
 refine dY ?_ ?_
 intro x vs w3 e aH hd he
 replace aH:=(cu w.heap.size ([str ((s.drop 0).take (gg-0)),.slice none 0 0]) 66).trans aB aH
 replace he:e=bm (bg _ x _) []:=he
 subst he
 refine W ?_
 exact dn ((cu w.heap.size ([str ((s.drop 0).take (gg-0)),.slice none 0 0]) 66).refl _) rfl
 refine dY ?_ ?_
 intro x vs w3 e aH hd he
 replace aH:=(cu w.heap.size ([str ((s.drop 0).take (gg-0)),.slice none 0 0]) 66).trans aB aH
 replace he:e=bm (bg _ x _) []:=he
 subst he
 refine W ?_
 exact dn ((cu w.heap.size ([str ((s.drop 0).take (gg-0)),.slice none 0 0]) 66).refl _) rfl
 refine dY ?_ ?_
 intro x vs w3 e aH hd he
 have aX:(vs 0=(str s))∧(vs 1=(.int .i64 (gg:Int))):=hd
 obtain⟨d0,d1⟩:=aX
 replace aH:=(cu w.heap.size ([str ((s.drop 0).take (gg-0)),.slice none 0 0]) 66).trans aB aH
 replace he:e=bm (bg _ x _) [(27,vs 0),(28,vs 1)]:=he
 rw[d0,d1] at he
 subst he
 refine Bi ia rfl rfl rfl (.inl ⟨rfl,rfl⟩) (.inr ⟨_,rfl⟩) om om<|aZ ?_
 exact dn ((cu w.heap.size ([str ((s.drop 0).take (gg-0)),.slice none 0 0]) 66).refl _) rfl
 refine dY ?_ ?_
 intro x vs w3 e aH hd he
 have d2:vs 2=(str ((s.drop 0).take (gg-0))):=hd
 replace aH:=(cu w.heap.size ([str ((s.drop 0).take (gg-0)),.slice none 0 0]) 66).trans aB aH
 replace he:e=bm (bg _ x _) [(29,vs 2)]:=he
 rw[d2] at he
 subst he
 refine iO (adb _ _) rfl rfl<|aZ ?_
 exact dn ((cu w.heap.size ([str ((s.drop 0).take (gg-0)),.slice none 0 0]) 66).refl _) rfl
 refine dY ?_ ?_
 intro x vs w3 e aH hd he
 replace aH:=(cu w.heap.size ([str ((s.drop 0).take (gg-0)),.slice none 0 0]) 66).trans aB aH
 replace he:e=bm (bg _ x _) []:=he
 subst he
 refine W ?_
 exact dn ((cu w.heap.size ([str ((s.drop 0).take (gg-0)),.slice none 0 0]) 66).refl _) rfl
 refine dY ?_ ?_
 intro x vs w3 e aH hd he
 replace aH:=(cu w.heap.size ([str ((s.drop 0).take (gg-0)),.slice none 0 0]) 66).trans aB aH
 replace he:e=bm (bg _ x _) []:=he
 subst he
 refine W ?_
 exact dn ((cu w.heap.size ([str ((s.drop 0).take (gg-0)),.slice none 0 0]) 66).refl _) rfl
 refine dY ?_ ?_
 intro x vs w3 e aH hd he
 have aX:(vs 4=(str s))∧(vs 5=(.int .i64 (gg:Int))):=hd
 obtain⟨d4,d5⟩:=aX
 replace aH:=(cu w.heap.size ([str ((s.drop 0).take (gg-0)),.slice none 0 0]) 66).trans aB aH
 replace he:e=bm (bg _ x _) [(31,vs 4),(32,vs 5)]:=he
 rw[d4,d5] at he
 subst he
 refine Bi ia rfl rfl rfl (.inr ⟨_,rfl⟩) (.inl ⟨rfl,rfl⟩) om om<|aZ ?_
 exact dn ((cu w.heap.size ([str ((s.drop 0).take (gg-0)),.slice none 0 0]) 66).refl _) rfl
 refine dY ?_ ?_
 intro x vs w3 e aH hd he
 replace aH:=(cu w.heap.size ([str ((s.drop 0).take (gg-0)),.slice none 0 0]) 66).trans aB aH
 replace he:e=bm (bg _ x _) []:=he
 subst he
 refine W ?_
 exact dn ((cu w.heap.size ([str ((s.drop 0).take (gg-0)),.slice none 0 0]) 66).refl _) rfl
 refine dY ?_ ?_
 intro x vs w3 e aH hd he
 have d7:vs 7=(.int .i64 (gg:Int)):=hd
 replace aH:=(cu w.heap.size ([str ((s.drop 0).take (gg-0)),.slice none 0 0]) 66).trans aB aH
 replace he:e=bm (bg _ x _) [(34,vs 7)]:=he
 rw[d7] at he
 subst he
 refine W ?_
 exact dn ((cu w.heap.size ([str ((s.drop 0).take (gg-0)),.slice none 0 0]) 66).refl _) rfl
 refine dY ?_ ?_
 intro x vs w3 e aH hd he
 have d3:vs 3=(.agg #[str ((s.drop 0).take (gg-0)),.slice none 0 0]):=hd
 replace aH:=(cu w.heap.size ([str ((s.drop 0).take (gg-0)),.slice none 0 0]) 66).trans aB aH
 obtain⟨us,uN,uO⟩:=aH.2.2 ⟨_,(by rfl),aF⟩
 replace he:e=bm (bg _ x _) [(30,vs 3)]:=he
 rw[d3] at he
 subst he
 refine cw fc rfl rfl rfl uO (by rw[uN];rfl) λw4 aO hb gC=>W ?_
 exact dn ⟨aO,λ_=>hb,λ_=>⟨_,rfl,hb⟩⟩ hb
 refine dY ?_ ?_
 intro x vs w3 e aH hd he
 have d6:vs 6=(str ((s.drop gg).take (s.length-gg))):=hd
 replace aH:=(cu w.heap.size ([str ((s.drop 0).take (gg-0)),.slice none 0 0]) 66).trans aB aH
 replace he:e=bm (bg _ x _) [(33,vs 6)]:=he
 rw[d6] at he
 subst he
 refine W ?_
 exact dn ((cu w.heap.size ([str ((s.drop 0).take (gg-0)),.slice none 0 0]) 66).refl _) rfl
 refine dY ?_ ?_
 intro x vs w3 e aH hd he
 have d8:vs 8=(.bool (decide ((0:Int)<(gg:Int)))):=hd
 replace aH:=(cu w.heap.size ([str ((s.drop 0).take (gg-0)),.slice none 0 0]) 66).trans aB aH
 replace he:e=bm (bg _ x _) [(35,vs 8)]:=he
 rw[d8] at he
 subst he
 refine W ?_
 exact dn ((cu w.heap.size ([str ((s.drop 0).take (gg-0)),.slice none 0 0]) 66).refl _) rfl
 exact trivial
 intro x vs l6 rR dO
 have d0:vs 0=(str s):=dO 0 de
 have d1:vs 1=(.int .i64 (gg:Int)):=dO 1 de
 have d2:vs 2=(str ((s.drop 0).take (gg-0))):=dO 2 de
 have d3:vs 3=(.agg #[str ((s.drop 0).take (gg-0)),.slice none 0 0]):=dO 3 de
 have d4:vs 4=(str s):=dO 4 de
 have d5:vs 5=(.int .i64 (gg:Int)):=dO 5 de
 have d6:vs 6=(str ((s.drop gg).take (s.length-gg))):=dO 6 de
 have d7:vs 7=(.int .i64 (gg:Int)):=dO 7 de
 have d8:vs 8=(.bool (decide ((0:Int)<(gg:Int)))):=dO 8 de
 have d9:aJ l6 w.heap.size ([str ((s.drop 0).take (gg-0)),.slice none 0 0]).toArray 66:=dO 9 de
 have d10:vs 10=(str ((s.drop gg).take (s.length-gg))):=dO 10 de
 have d11:vs 11=(.bool (decide ((0:Int)<(gg:Int)))):=dO 11 de
 have hK:=hK.aD rR.1 sx
 have aF:=d9
 change OW _ _ _ _ [] (bm (bg _ x _) (zZ 27 [vs 0,vs 1,vs 2,vs 3,vs 4,vs 5,vs 6,vs 7,vs 8]++[(100009,vs 9),(5,vs 10),(6,vs 11)])) _
 rw[d0,d1,d2,d3,d4,d5,d6,d7,d8,d10,d11]
 refine aZ<|jJ<|⟨[_,_,_],⟨fb uA fc rfl aF rfl,rfl,rfl⟩,⟨.mk (s.takeWhile eO) [],_,s.dropWhile eO,_,by rw[List.drop_zero,Nat.sub_zero,Gc,H8,Ly,Fl];rfl,kW oH,?_⟩,hK⟩
 unfold zu
 rw[aac zF]
 by_cases hz:s.takeWhile eO=[]
 rw[iP hz];exact .inr ⟨rfl,by simp[hz]⟩
 rw[iN hz];refine .inl ⟨rfl,dT ?_⟩;have:=List.length_pos_iff.2 hz;omega
 obtain⟨r0,rfl⟩:=aaa h1
 refine W ?_
 refine zc rfl (λh4=>?_) (λh4=>?_)
 have Pm:d=0:=by omega
 refine zr<|iO (LJ _) rfl rfl<|cw fc rfl rfl rfl aF rfl λw2 az aF dJ=>?_
 have hK:=hK.aD az sx
 refine W ?_
 exact⟨[_,_,_],⟨fb uA fc rfl aF rfl,rfl,rfl⟩,⟨.mk [] [],_,[],_,rfl,kW oH,.inr ⟨by rw[Pm];simp[dZ],rfl⟩⟩,hK⟩
 have aX:∃d',d=d'+1:=⟨d-1,om⟩
 obtain⟨d',rfl⟩:=aX
 refine gz<|zr<|dk fc rfl rfl rfl λw2 az cJ dJ=>?_
 have hK:=hK.grow;have hK:=hK.ext az;have aF:=aF.grow;have aF:=aF.ext az
 refine W ?_
 have aq7:=aF.lt
 refine eH (λq:List au×ai×Option Addr×Nat×Option Nat=>[(0,str q.2.1),(1,.int .i64 ((60:Int)-((d'+1:Nat):Int))),(4,.pointer (some ⟨w.heap.size,0,none⟩)),(8,.pointer (some ⟨w1.heap.size,0,none⟩))]) (λq w'=>aj [] w w'∧aJ w' w.heap.size [str [],.slice none 0 0].toArray 66∧aJ w' w1.heap.size [str [],.slice q.2.2.1 q.1.length q.2.2.2.1].toArray 66∧Gr w.heap.size (w.heap.size::w1.heap.size::L) w' 66 2 (.slice q.2.2.1 q.1.length q.2.2.2.1) q.2.2.2.2 (cX q.1)∧0<q.2.1.length∧q.2.1.length+q.1.length<=12000∧mr (d'+1) r0=(mr (d'+1) (q.2.1.drop 1)).map (λp=>(q.1++p.1,p.2))) (λq=>q.2.1.length) (([],40::r0,none,0,none)) (⟨rfl,rfl,rfl,rfl⟩) (⟨hK,aF,cJ,Gr.nil (by intro x hx;simp at hx;rcases hx with rfl|rfl|hx;omega;omega;have:=hL x hx;omega) om,sm,by simp at hs⊢;omega,sm⟩) λgg w3 e3 hI=>?_
 obtain⟨acc,sc,a,cc,g⟩:=gg
 dsimp only at hI⊢
 obtain⟨hK,aF,cJ,hO,Tx,aq8,sD⟩:=hI
 have gN:=hK.size
 have Xl:=aF.lt
 have aq9:=cJ.lt
 refine r6<|zr<|zm<|Bi (l:=1) ia rfl rfl rfl (.inr ⟨_,rfl⟩) (.inl ⟨rfl,rfl⟩) om om<|zm<|nU rfl rfl rfl rfl rfl (show IntKind.i64.wrap ((60:Int)-((d'+1:Nat):Int)+1)=(60:Int)-(d':Int) by rw[wrap_i64 _ om om];omega) ?_
 rw[Ly]
 refine aA (ih d' om (sc.drop 1) (g.toList++(w.heap.size::w1.heap.size::L)) w3 om so hO.all) ?_
 rintro v4 w4 ⟨jU,aO⟩
 have fG:=aO.size
 refine gQ aO hK aF cJ hO λhK aF cJ hO=>?_
 obtain⟨t,tv,r,ok,rfl,ht,hm⟩:=jU
 obtain⟨pa,pn,pc,rfl,eT,aQ⟩:=dj ht
 subst eT
 refine W ?_
 refine dk fc rfl rfl rfl λw5 aP cY iI=>?_
 have hK:=hK.grow;have hK:=hK.ext aP;have aF:=aF.grow;have aF:=aF.ext aP;have cJ:=cJ.grow;have cJ:=cJ.ext aP;have hO:=hO.alloc aP iI;have ht:=ht.grow;have ht:=ht.ext aP
 refine cw fc rfl rfl rfl cY rfl λw6 bO cY kF=>?_
 have hK:=hK.aD bO sx;have aF:=aF.aD bO sx;have cJ:=cJ.aD bO sx;have hO:=hO.aD bO sx;have ht:=ht.aD bO sx
 refine W ?_
 apply oP 3 50 53 rfl oQ
 intro _
 exact oQ
 intro xx
 refine WZ ?_
 apply oP 9 54 63 rfl oQ
 intro h6
 simp at h6
 have nG:=List.length_pos_iff.2 h6.2
 refine zm<|jM (i:=0) ia rfl rfl rfl rfl (iW nG)<|WZ ?_
 apply oB 4 58 62 rfl oQ
 intro _
 refine zm<|jM (i:=0) ia rfl rfl rfl rfl (iW nG) ?_
 exact oQ
 intro xx
 exact oQ
 intro xx
 refine aZ<|zc rfl (λh8=>?_) (λh8=>?_)
 have hR:dZ (d'+1) (40::r0)=none:=by rw[Dt,sD,aaf hm h8];rfl
 refine zr<|iO (LJ _) rfl rfl<|cw fc rfl rfl rfl aF rfl λw7 bV aF oT=>?_
 have hK:=hK.aD bV sx
 refine W ?_
 exact⟨[_,_,_],⟨fb uA fc rfl aF rfl,rfl,rfl⟩,⟨.mk [] [],_,[],_,rfl,kW oH,.inr ⟨hR,rfl⟩⟩,hK⟩
 obtain⟨lV,nG,fD⟩:=aag hm h8
 refine W ?_
 refine fF p7 fc rfl rfl λw7 bV alT oT=>la bV hK aF cJ hO ht λhK aF cJ hO ht=>?_
 refine K9 p7 fc rfl rfl rfl rfl rfl rfl hO alT ht.Lc om λa2 nH g2 w8 fY cA=>?_
 have dm:=cA.size
 have hK:=hO.since hK cA
 have aF:=aF.aD cA (hO.Dw sm);have cJ:=cJ.aD cA (hO.Dw sm)
 refine zf RQ rfl<|fz Is rfl rfl rfl cJ rfl λw9 aC cJ df=>?_
 have hK:=hK.aD aC sx;have aF:=aF.aD aC sx;have fY:=fY.aD aC sx
 refine W ?_
 refine jM (i:=0) ia rfl rfl rfl rfl (iW lV)<|uj rfl rfl rfl rfl rfl<|aZ<|zc rfl (λh9=>?_) (λh9=>?_)
 have Aj:r.getD 0 0=41:=UInt8.toNat_inj.1 (by have BU:(41:UInt8).toNat=41:=rfl;rw[BU];omega)
 have hR:dZ (d'+1) (40::r0)=some (.mk [] (acc++[t]),r.drop 1):=by rw[Dt,sD,fD,iP Aj];rfl
 refine WZ ?_
 refine yZ cT (cu w.heap.size ([str [],.slice a2 (acc++[t]).length nH]) 66) 6 [75,76,77,100003,5,6] [75,76,77,100003,5,6] [[],[],[1],[0],[2],[]] [λv _=>v=(.agg #[str [],.slice a2 (acc++[t]).length nH]),λv _=>v=(str r),λv _=>v=(str ((r.drop 1).take (r.length-1))),λ_ ww=>aJ ww w.heap.size ([str [],.slice a2 (acc++[t]).length nH]).toArray 66,λv _=>v=(str ((r.drop 1).take (r.length-1))),λv _=>v=(.bool true)] de (fo (fo (fo (Dq (fo (fo trivial)))))) (λwd aB=>?_) ?_
 refine dY ?_ ?_
 intro x vs bZ e cj hd he
 replace cj:=(cu w.heap.size ([str [],.slice a2 (acc++[t]).length nH]) 66).trans aB cj
 have cJ:=cJ.aD cj.1 sx
 replace he:e=bm (bg _ x _) []:=he
 subst he
 refine W ?_
 exact dn ((cu w.heap.size ([str [],.slice a2 (acc++[t]).length nH]) 66).refl _) rfl
 refine dY ?_ ?_
 intro x vs bZ e cj hd he
 replace cj:=(cu w.heap.size ([str [],.slice a2 (acc++[t]).length nH]) 66).trans aB cj
 replace he:e=bm (bg _ x _) []:=he
 subst he
 refine W ?_
 exact dn ((cu w.heap.size ([str [],.slice a2 (acc++[t]).length nH]) 66).refl _) rfl
 refine dY ?_ ?_
 intro x vs bZ e cj hd he
 have d1:vs 1=(str r):=hd
 replace cj:=(cu w.heap.size ([str [],.slice a2 (acc++[t]).length nH]) 66).trans aB cj
 replace he:e=bm (bg _ x _) [(76,vs 1)]:=he
 rw[d1] at he
 subst he
 refine Bi (l:=1) ia rfl rfl rfl (.inr ⟨_,rfl⟩) (.inl ⟨rfl,rfl⟩) om om<|aZ ?_
 exact dn ((cu w.heap.size ([str [],.slice a2 (acc++[t]).length nH]) 66).refl _) rfl
 refine dY ?_ ?_
 intro x vs bZ e cj hd he
 have d0:vs 0=(.agg #[str [],.slice a2 (acc++[t]).length nH]):=hd
 replace cj:=(cu w.heap.size ([str [],.slice a2 (acc++[t]).length nH]) 66).trans aB cj
 obtain⟨us,uN,uO⟩:=cj.2.2 ⟨_,(by rfl),aF⟩
 replace he:e=bm (bg _ x _) [(75,vs 0)]:=he
 rw[d0] at he
 subst he
 refine cw fc rfl rfl rfl uO (by rw[uN];rfl) λey cS hb rC=>W ?_
 exact dn ⟨cS,λ_=>hb,λ_=>⟨_,rfl,hb⟩⟩ hb
 refine dY ?_ ?_
 intro x vs bZ e cj hd he
 have d2:vs 2=(str ((r.drop 1).take (r.length-1))):=hd
 replace cj:=(cu w.heap.size ([str [],.slice a2 (acc++[t]).length nH]) 66).trans aB cj
 replace he:e=bm (bg _ x _) [(77,vs 2)]:=he
 rw[d2] at he
 subst he
 refine W ?_
 exact dn ((cu w.heap.size ([str [],.slice a2 (acc++[t]).length nH]) 66).refl _) rfl
 refine dY ?_ ?_
 intro x vs bZ e cj hd he
 replace cj:=(cu w.heap.size ([str [],.slice a2 (acc++[t]).length nH]) 66).trans aB cj
 replace he:e=bm (bg _ x _) []:=he
 subst he
 refine W ?_
 exact dn ((cu w.heap.size ([str [],.slice a2 (acc++[t]).length nH]) 66).refl _) rfl
 exact trivial
 intro x vs oz iL dO
 have d0:vs 0=(.agg #[str [],.slice a2 (acc++[t]).length nH]):=dO 0 de
 have d1:vs 1=(str r):=dO 1 de
 have d2:vs 2=(str ((r.drop 1).take (r.length-1))):=dO 2 de
 have d3:aJ oz w.heap.size ([str [],.slice a2 (acc++[t]).length nH]).toArray 66:=dO 3 de
 have d4:vs 4=(str ((r.drop 1).take (r.length-1))):=dO 4 de
 have d5:vs 5=(.bool true):=dO 5 de
 have hK:=hK.aD iL.1 sx;have fY:=fY.aD iL.1 sx
 have aF:=d3
 change OW _ _ _ _ [] (bm (bg _ x _) (zZ 75 [vs 0,vs 1,vs 2]++[(100003,vs 3),(5,vs 4),(6,vs 5)])) _
 rw[d0,d1,d2,d4,d5]
 refine W ?_
 exact⟨[_,_,_],⟨fb uA fc rfl aF rfl,rfl,rfl⟩,⟨.mk [] (acc++[t]),_,r.drop 1,_,by rw[Ly];rfl,kW (fY.trees.iF (λx hx=>by simp[hx])),.inl ⟨hR,rfl⟩⟩,hK⟩
 have Aj:r.getD 0 0≠41:=λh=>h9 (by rw[h];rfl)
 refine WZ ?_
 exact⟨(acc++[t],r,a2,nH,g2),⟨rfl,rfl,rfl,rfl⟩,⟨hK,aF,cJ,fY.iF (λx hx=>mK _ hx),lV,by simp at nG⊢;omega,by rw[sD,fD,iN Aj,map_append]⟩,by simp at nG;dsimp only;omega⟩
theorem alU {s:ai} (h:12000<s.length):bB s=none:=by unfold bB;rw[iP h]
def alV (L:List Nat) (s:ai) (v:Value) (w:World):Prop:=∃t tv,v= .tuple #[tv,.bool (bB s).isSome]∧bC L w tv t∧∀t',bB s=some t'->t=t'
theorem Xm (s:ai) (L:List Nat) (w:World) (hL:∀x,x∈L->x<w.heap.size):bz Tryz.prog 38 [str s] w λr w'=>alV L s r w'∧aj [] w w':=by
 have hK:=aj.refl [] w
 refine jr [.cell 2 66,.tmp 3] 23 Tryz.func38 rfl acq rfl rfl rfl ?_
 refine zr<|dk fc rfl rfl rfl λw1 aI aN db=>?_
 have hK:=hK.grow;have hK:=hK.ext aI
 refine W ?_
 refine zc rfl (λh1=>?_) (λh1=>?_)
 have hp:=alU (s:=s) om
 refine zr<|iO (LJ _) rfl rfl<|cw fc rfl rfl rfl aN rfl λw2 az aN dJ=>?_
 have hK:=hK.aD az sx
 refine W ?_
 exact⟨[_,_],⟨fb uA fc rfl aN rfl,rfl⟩,⟨.mk [] [],_,by rw[hp];rfl,kW oH,by rw[hp];intro t' h;cases h⟩,hK⟩
 have hle:s.length<=12000:=by omega
 have hL1:∀x,x∈w.heap.size::L->x<w1.heap.size:=by intro x hx;rcases mC.1 hx with rfl|hx;omega;have:=hL x hx;omega
 refine gz<|zr<|zm<|aA (alS 60 s (w.heap.size::L) w1 om hle hL1) ?_
 rintro v2 w2 ⟨fl,az⟩
 have dy:=az.size
 refine bI az hK aN λhK aN=>?_
 obtain⟨t,tv,r,ok,rfl,ht,hm⟩:=fl
 obtain⟨pa,pn,pc,rfl,eT,aQ⟩:=dj ht
 subst eT
 refine W ?_
 refine dk fc rfl rfl rfl λw3 aH aF gv=>?_
 have hK:=hK.grow;have hK:=hK.ext aH;have aN:=aN.grow;have aN:=aN.ext aH;have ht:=ht.grow;have ht:=ht.ext aH
 refine cw fc rfl rfl rfl aF rfl λw4 aO aF gC=>?_
 have hK:=hK.aD aO sx;have aN:=aN.aD aO sx;have ht:=ht.aD aO sx
 refine W ?_
 apply oB 3 19 22 rfl oQ
 intro _
 exact oQ
 intro xx
 refine cw fc rfl rfl rfl aN rfl λw5 aP aN iI=>?_
 have hK:=hK.aD aP sx;have ht:=ht.aD aP sx
 refine W ?_
 obtain⟨oU,rE⟩:=aah hle hm
 exact⟨[_,_],⟨fb uA fc rfl aN rfl,rfl⟩,⟨t,_,by rw[<-oU];rfl,ht.iF (λx hx=>by simp[hx]),rE⟩,hK⟩
def alX (L:List Nat) (s:ai) (v:Value) (w:World):Prop:=∃t tv,v= .tuple #[tv,.bool (sh s)]∧bC L w tv t∧∀t',bB s=some t'->t=t'
theorem alY (s:ai) (L:List Nat) (w:World) (hL:∀x,x∈L->x<w.heap.size):bz Tryz.prog 97 [str s] w λr w'=>alX L s r w'∧aj [] w w':=by
 have hK:=aj.refl [] w
 refine jr [.cell 2 66,.tmp 3] 17 Tryz.func97 rfl ac0 rfl rfl rfl ?_
 refine zr<|dk fc rfl rfl rfl λw1 aI aN db=>?_
 have hK:=hK.grow;have hK:=hK.ext aI
 refine W ?_
 refine aA (Xm s (w.heap.size::L) w1 (by intro x hx;rcases mC.1 hx with rfl|hx;omega;have:=hL x hx;omega)) ?_
 rintro v2 w2 ⟨fl,az⟩
 have dy:=az.size
 refine bI az hK aN λhK aN=>?_
 obtain⟨t,tv,rfl,ht,hp⟩:=fl
 obtain⟨pa,pn,pc,rfl,eT,aQ⟩:=dj ht
 subst eT
 have cL:=λh=>DB hp h
 refine W ?_
 refine dk fc rfl rfl rfl λw3 aH aF gv=>?_
 have hK:=hK.grow;have hK:=hK.ext aH;have aN:=aN.grow;have aN:=aN.ext aH;have ht:=ht.grow;have ht:=ht.ext aH
 refine cw fc rfl rfl rfl aF rfl λw4 aO aF gC=>?_
 have hK:=hK.aD aO sx;have aN:=aN.aD aO sx;have ht:=ht.aD aO sx
 refine W ?_
 refine yZ cT (cu w.heap.size ([str t.aw,.slice pa t.ak.length pc]) 66) 8 (rA 11 6++[100006,3]) (rA 11 6++[100006,3]) [[],[],[1],[2],[2,3],[2,4],[0],[5]] [λv _=>v=(.agg #[str t.aw,.slice pa t.ak.length pc]),λv _=>v=(.bool ((bB s).isSome)),λv _=>v=(.bool ((bB s).isSome)),λv _=>((bB s).isSome)=true->v=(.agg #[str t.aw,.slice pa t.ak.length pc]),λv _=>((bB s).isSome)=true->v=(.bool (eY false t)),λv _=>v=(.bool ((bB s).isSome&&eY false t)),λ_ ww=>aJ ww w.heap.size ([str t.aw,.slice pa t.ak.length pc]).toArray 66,λv _=>v=(.bool ((bB s).isSome&&eY false t))] de (fo (fo (fo (Bl (Bl (fo (Dq (fo trivial)))))))) (λwd aB=>?_) ?_
 refine dY ?_ ?_
 intro x vs w5 e aP hd he
 replace aP:=(cu w.heap.size ([str t.aw,.slice pa t.ak.length pc]) 66).trans aB aP
 have aF:=aF.aD aP.1 sx
 replace he:e=bm (bg _ x _) []:=he
 subst he
 refine W ?_
 exact dn ((cu w.heap.size ([str t.aw,.slice pa t.ak.length pc]) 66).refl _) rfl
 refine dY ?_ ?_
 intro x vs w5 e aP hd he
 replace aP:=(cu w.heap.size ([str t.aw,.slice pa t.ak.length pc]) 66).trans aB aP
 replace he:e=bm (bg _ x _) []:=he
 subst he
 refine W ?_
 exact dn ((cu w.heap.size ([str t.aw,.slice pa t.ak.length pc]) 66).refl _) rfl
 refine dY ?_ ?_
 intro x vs w5 e aP hd he
 have d1:vs 1=(.bool ((bB s).isSome)):=hd
 replace aP:=(cu w.heap.size ([str t.aw,.slice pa t.ak.length pc]) 66).trans aB aP
 replace he:e=bm (bg _ x _) [(12,vs 1)]:=he
 rw[d1] at he
 subst he
 refine W ?_
 exact dn ((cu w.heap.size ([str t.aw,.slice pa t.ak.length pc]) 66).refl _) rfl
 refine dY ?_ ?_
 intro x vs w5 e aP hd he
 have d2:vs 2=(.bool ((bB s).isSome)):=hd
 replace aP:=(cu w.heap.size ([str t.aw,.slice pa t.ak.length pc]) 66).trans aB aP
 have aF:=aF.aD aP.1 sx
 rcases bE ((bB s).isSome) with hg|hg
 rw[hg] at d2
 replace he:e=bm (bg _ x _) [(13,vs 2)]:=he
 rw[d2] at he
 subst he
 refine W ?_
 exact dn ((cu w.heap.size ([str t.aw,.slice pa t.ak.length pc]) 66).refl _) (show((bB s).isSome)=true->_=((.agg #[str t.aw,.slice pa t.ak.length pc]):Value) from λ_=>rfl)
 rw[hg] at d2
 replace he:e=bm (bg _ x _) [(13,vs 2)]:=he
 rw[d2] at he
 subst he
 refine W ?_
 exact dn ((cu w.heap.size ([str t.aw,.slice pa t.ak.length pc]) 66).refl _) (show((bB s).isSome)=true->_=(_:Value) from λhh=>nomatch hg.symm.trans hh)
 refine dY ?_ ?_
 intro x vs w5 e aP hd he
 have aX:(vs 2=(.bool ((bB s).isSome)))∧(((bB s).isSome)=true->vs 3=(.agg #[str t.aw,.slice pa t.ak.length pc])):=hd
 obtain⟨d2,d3⟩:=aX
 replace aP:=(cu w.heap.size ([str t.aw,.slice pa t.ak.length pc]) 66).trans aB aP
 have ht:=ht.aD aP.1 sx
 rcases bE ((bB s).isSome) with hg|hg
 rw[hg] at d2
 replace d3:=d3 hg
 replace he:e=bm (bg _ x _) [(13,vs 2),(14,vs 3)]:=he
 rw[d2,d3] at he
 subst he
 refine aA (Ph t.size t (lR _) (by have:=(cL hg).2;omega) (cL hg).1 false _ _ w5 ht) ?_
 rintro _ w6 ⟨rfl,bO⟩
 have ox:=bO.size
 refine W ?_
 exact dn ((cu w.heap.size ([str t.aw,.slice pa t.ak.length pc]) 66).of bO) (show((bB s).isSome)=true->_=((.bool (eY false t)):Value) from λ_=>rfl)
 rw[hg] at d2
 replace he:e=bm (bg _ x _) [(13,vs 2),(14,vs 3)]:=he
 rw[d2] at he
 subst he
 refine W ?_
 exact dn ((cu w.heap.size ([str t.aw,.slice pa t.ak.length pc]) 66).refl _) (show((bB s).isSome)=true->_=(_:Value) from λhh=>nomatch hg.symm.trans hh)
 refine dY ?_ ?_
 intro x vs w5 e aP hd he
 have aX:(vs 2=(.bool ((bB s).isSome)))∧(((bB s).isSome)=true->vs 4=(.bool (eY false t))):=hd
 obtain⟨d2,d4⟩:=aX
 replace aP:=(cu w.heap.size ([str t.aw,.slice pa t.ak.length pc]) 66).trans aB aP
 rcases bE ((bB s).isSome) with hg|hg
 rw[hg] at d2
 replace d4:=d4 hg
 replace he:e=bm (bg _ x _) [(13,vs 2),(15,vs 4)]:=he
 rw[d2,d4] at he
 subst he
 refine W ?_
 exact dn ((cu w.heap.size ([str t.aw,.slice pa t.ak.length pc]) 66).refl _) (by first|rfl|(rw[hg];rfl))
 rw[hg] at d2
 replace he:e=bm (bg _ x _) [(13,vs 2),(15,vs 4)]:=he
 rw[d2] at he
 subst he
 refine W ?_
 exact dn ((cu w.heap.size ([str t.aw,.slice pa t.ak.length pc]) 66).refl _) (by first|rfl|(rw[hg];rfl))
 refine dY ?_ ?_
 intro x vs w5 e aP hd he
 have d0:vs 0=(.agg #[str t.aw,.slice pa t.ak.length pc]):=hd
 replace aP:=(cu w.heap.size ([str t.aw,.slice pa t.ak.length pc]) 66).trans aB aP
 obtain⟨us,uN,uO⟩:=aP.2.2 ⟨_,(by rfl),aN⟩
 replace he:e=bm (bg _ x _) [(11,vs 0)]:=he
 rw[d0] at he
 subst he
 refine cw fc rfl rfl rfl uO (by rw[uN];rfl) λw6 bO hb kF=>W ?_
 exact dn ⟨bO,λ_=>hb,λ_=>⟨_,rfl,hb⟩⟩ hb
 refine dY ?_ ?_
 intro x vs w5 e aP hd he
 have d5:vs 5=(.bool ((bB s).isSome&&eY false t)):=hd
 replace aP:=(cu w.heap.size ([str t.aw,.slice pa t.ak.length pc]) 66).trans aB aP
 replace he:e=bm (bg _ x _) [(16,vs 5)]:=he
 rw[d5] at he
 subst he
 refine W ?_
 exact dn ((cu w.heap.size ([str t.aw,.slice pa t.ak.length pc]) 66).refl _) rfl
 exact trivial
 intro x vs ow iJ dO
 have d0:vs 0=(.agg #[str t.aw,.slice pa t.ak.length pc]):=dO 0 de
 have d1:vs 1=(.bool ((bB s).isSome)):=dO 1 de
 have d2:vs 2=(.bool ((bB s).isSome)):=dO 2 de
 have d3:((bB s).isSome)=true->vs 3=(.agg #[str t.aw,.slice pa t.ak.length pc]):=dO 3 de
 have d4:((bB s).isSome)=true->vs 4=(.bool (eY false t)):=dO 4 de
 have d5:vs 5=(.bool ((bB s).isSome&&eY false t)):=dO 5 de
 have d6:aJ ow w.heap.size ([str t.aw,.slice pa t.ak.length pc]).toArray 66:=dO 6 de
 have d7:vs 7=(.bool ((bB s).isSome&&eY false t)):=dO 7 de
 have hK:=hK.aD iJ.1 sx;have ht:=ht.aD iJ.1 sx
 have aN:=d6
 change OW _ _ _ _ [] (bm (bg _ x _) (zZ 11 [vs 0,vs 1,vs 2,vs 3,vs 4,vs 5]++[(100006,vs 6),(3,vs 7)])) _
 rw[d0,d1,d2,d5,d7]
 refine W ?_
 exact⟨[_,_],⟨fb uA fc rfl aN rfl,rfl⟩,⟨t,_,by rw[Ih (f:=eY false) hp];rfl,ht.iF (λx hx=>by simp[hx]),hp⟩,hK⟩
def Xn (L:List Nat) (b:Bk) (v:Value) (w:World):Prop:=∃ib bv,v= .tuple #[bv,.bool (nY b)]∧nJ L w bv ib∧(nY b=true->ib=gW b)
theorem Pn {b:Bk} (h:nY b=false):Xn L b (.tuple #[.agg #[str [],.slice none 0 0,.slice none 0 0],.bool false]) w:=
 ⟨⟨[],[],[]⟩,_,by rw[h],MI oH oH,by rw[h];intro h;cases h⟩
theorem alZ (k:Bk) (hl:k.aM.length<1000000000) (fi:k.ck.length<1000000000) (eK:k.code.length<1000000000) (v:Value) (Li L:List Nat) (w:World) (hv:qC Li w v k) (hL:∀x,x∈L->x<w.heap.size):
  bz Tryz.prog 63 [v] w λr w'=>Xn L k r w'∧aj [] w w':=by
 obtain⟨a1,n1,c1,a2,n2,c2,rfl,oS,mq,dm,dy⟩:=Du hv
 have hK:=aj.refl [] w
 refine jr [.cell 2 56,.tmp 3] 102 Tryz.func63 rfl acF rfl rfl rfl ?_
 refine zr<|eu rfl λw1 aI aW db=>?_
 have hK:=hK.ext aI
 refine dk nq rfl rfl rfl λw2 az aN dJ=>?_
 have hK:=hK.grow;have hK:=hK.ext az;have aW:=aW.grow;have aW:=aW.ext az
 refine W ?_
 refine aA (Xb _ om _) ?_
 rintro _ _ ⟨rfl,rfl⟩
 refine WZ ?_
 apply oP 5 17 22 rfl oQ
 intro _
 refine WZ ?_
 exact oQ
 intro xx
 refine WZ ?_
 apply oP 5 23 28 rfl oQ
 intro _
 refine WZ ?_
 exact oQ
 intro xx
 refine WZ ?_
 apply oP 6 29 35 rfl oQ
 intro _
 refine W ?_
 refine aA (EV _ _ _ _) ?_
 rintro _ _ ⟨rfl,rfl⟩
 exact oQ
 intro xx
 refine aZ<|zc rfl (λh4=>?_) (λh4=>?_)
 have hq:=aai oS mq h4
 refine zr<|iO (LH _) rfl rfl<|cw nq rfl rfl rfl aN rfl λw3 aH aN gv=>?_
 have hK:=hK.aD aH sx
 refine W ?_
 exact⟨[_,_],⟨fb FG nq rfl aN rfl,rfl⟩,Pn hq,hK⟩
 obtain⟨p8,oV⟩:=aaj oS mq h4
 have kh:k.ck.length<=40∧k.code.length<=80:=by simp only[aE,dE] at p8;exact⟨p8.1.2,p8.2.2⟩
 refine W ?_
 refine iO (ada _ _) rfl rfl<|dk nq rfl rfl rfl λw3 aH aF gv=>?_
 have hK:=hK.grow;have hK:=hK.ext aH;have aW:=aW.grow;have aW:=aW.ext aH;have aN:=aN.grow;have aN:=aN.ext aH
 refine cw nq rfl rfl rfl aF rfl λw4 aO aF gC=>?_
 have hK:=hK.aD aO sx;have aW:=aW.aD aO sx;have aN:=aN.aD aO sx
 refine W ?_
 refine eH (λq:Nat×Option Addr×Nat×Option Nat=>[(1,.pointer (some ⟨w.heap.size,0,none⟩)),(2,.pointer (some ⟨w1.heap.size,0,none⟩)),(4,.pointer (some ⟨w2.heap.size,0,none⟩)),(41,.slice a1 n1 c1),(42,.int .i64 (n1:Int)),(43,.int .i64 (q.1:Int))]) (λq w'=>aj [] w w'∧aJ w' w.heap.size [str k.aM,.slice a1 n1 c1,.slice a2 n2 c2].toArray 58∧aJ w' w1.heap.size [str [],.slice none 0 0,.slice none 0 0].toArray 56∧aJ w' w2.heap.size [str k.aM,.slice q.2.1 ((k.ck.take q.1).map tr).length q.2.2.1,.slice none 0 0].toArray 56∧Gr w1.heap.size (w1.heap.size::w2.heap.size::L) w' 66 2 (.slice q.2.1 ((k.ck.take q.1).map tr).length q.2.2.1) q.2.2.2 (cX ((k.ck.take q.1).map tr))∧q.1<=k.ck.length∧∀i,i<q.1->sh (cv k.ck i)=true) (λq=>k.ck.length-q.1) ((0,none,0,none)) (⟨rfl,rfl,rfl,rfl,rfl,rfl⟩) (⟨hK,aW,aN,aF,Gr.nil (by intro x hx;simp at hx;rcases hx with rfl|rfl|hx;omega;omega;have:=hL x hx;omega) om,sm,by intro i hi;simp at hi⟩) λgg w5 e5 hI=>?_
 obtain⟨i,a,cc,g⟩:=gg
 dsimp only at hI⊢
 obtain⟨hK,aW,aN,aF,hO,hk,cP⟩:=hI
 have gN:=hK.size
 have UR:=aW.lt
 have UT:=aN.lt
 have Xl:=aF.lt
 refine W ?_
 refine zc rfl (λh5=>?_) (λh5=>?_)
 have fu:=jN (xs:=k.ck) (i:=i) om
 obtain⟨b,off,rfl,hc⟩:=mu (dm.ext hK) fu
 refine W ?_
 refine aA (alY (cv k.ck i) (g.toList++(w1.heap.size::w2.heap.size::L)) w5 hO.all) ?_
 rintro v6 w6 ⟨Cw,bO⟩
 have ox:=bO.size
 refine la bO hK aW aN aF hO λhK aW aN aF hO=>?_
 obtain⟨t,tv,rfl,ht,hp⟩:=Cw
 obtain⟨pa,pn,pc,rfl,eT,aQ⟩:=dj ht
 subst eT
 refine W ?_
 refine dk fc rfl rfl rfl λw7 bV cQ oT=>?_
 have hK:=hK.grow;have hK:=hK.ext bV;have aW:=aW.grow;have aW:=aW.ext bV;have aN:=aN.grow;have aN:=aN.ext bV;have aF:=aF.grow;have aF:=aF.ext bV;have hO:=hO.alloc bV oT;have ht:=ht.grow;have ht:=ht.ext bV
 refine cw fc rfl rfl rfl cQ rfl λw8 cA cQ kG=>?_
 have hK:=hK.aD cA sx;have aW:=aW.aD cA sx;have aN:=aN.aD cA sx;have aF:=aF.aD cA sx;have hO:=hO.aD cA sx;have ht:=ht.aD cA sx
 refine W ?_
 refine zc rfl (λh6=>?_) (λh6=>?_)
 have hq:=aak (b:=k) (i:=i) om (by simpa using h6)
 refine zr<|iO (LH _) rfl rfl<|cw nq rfl rfl rfl aN rfl λw9 aC aN df=>?_
 have hK:=hK.aD aC sx
 refine W ?_
 exact⟨[_,_],⟨fb FG nq rfl aN rfl,rfl⟩,Pn hq,hK⟩
 have mJ:sh (cv k.ck i)=true:=by simpa using h6
 refine W ?_
 refine fF p7 fc rfl rfl λw9 aC Po df=>sB aC hK aW aN aF hO ht λhK aW aN aF hO ht=>?_
 refine K9 p7 fc rfl rfl rfl rfl rfl rfl hO Po ht.Lc (by rw[Im _ hk];omega) λa3 HQ g3 bZ kO cj=>?_
 have Xo:=cj.size
 have hK:=aj.Qv om hO.low hK cj
 have aW:=aW.aD cj (hO.Qu om);have aN:=aN.aD cj (hO.Dw sm);have aF:=aF.aD cj (hO.Dw sm)
 rw[aam mJ hp,Lz tr fu] at kO⊢
 refine zf RO rfl<|fz Is rfl rfl rfl aF rfl λey cS aF rC=>?_
 have hK:=hK.aD cS sx;have aW:=aW.aD cS sx;have aN:=aN.aD cS sx;have kO:=kO.aD cS sx
 refine W ?_
 exact⟨(i+1,a3,HQ,g3),⟨rfl,rfl,rfl,rfl,rfl,rfl⟩,⟨hK,aW,aN,aF,kO.iF (λx hx=>mK _ hx),by dsimp only;omega,by intro j hj;rcases Nat.lt_or_ge j i with h|h;exact cP j h;rw[show j=i by dsimp only at hj;omega];exact mJ⟩,by dsimp only;omega⟩
 have MH:∀j,j<k.ck.length->sh (cv k.ck j)=true:=λj hj=>cP j om
 rw[LA tr om] at aF hO
 have Of:=hO.trees
 have iK:=aj.refl [w1.heap.size,w2.heap.size] w5
 clear cP hO
 refine W ?_
 refine eH (λq:Nat×Option Addr×Nat×Option Nat=>[(1,.pointer (some ⟨w.heap.size,0,none⟩)),(2,.pointer (some ⟨w1.heap.size,0,none⟩)),(4,.pointer (some ⟨w2.heap.size,0,none⟩)),(63,.slice a2 n2 c2),(64,.int .i64 (n2:Int)),(65,.int .i64 (q.1:Int))]) (λq w'=>aj [] w w'∧aj [w1.heap.size,w2.heap.size] w5 w'∧aJ w' w.heap.size [str k.aM,.slice a1 n1 c1,.slice a2 n2 c2].toArray 58∧aJ w' w1.heap.size [str [],.slice none 0 0,.slice none 0 0].toArray 56∧aJ w' w2.heap.size [str k.aM,.slice a (k.ck.map tr).length cc,.slice q.2.1 ((k.code.take q.1).map tr).length q.2.2.1].toArray 56∧Gr w5.heap.size (w1.heap.size::w2.heap.size::L) w' 66 2 (.slice q.2.1 ((k.code.take q.1).map tr).length q.2.2.1) q.2.2.2 (cX ((k.code.take q.1).map tr))∧q.1<=k.code.length∧∀i,i<q.1->rl k.code i=true) (λq=>k.code.length-q.1) ((0,none,0,none)) (⟨rfl,rfl,rfl,rfl,rfl,rfl⟩) (⟨hK,iK,aW,aN,aF,Gr.nil (by intro x hx;simp at hx;rcases hx with rfl|rfl|hx;omega;omega;have:=hL x hx;omega) om,sm,by intro i hi;simp at hi⟩) λgg w6 e6 hI=>?_
 obtain⟨j,a5,Ur,g⟩:=gg
 dsimp only at hI⊢
 obtain⟨hK,iK,aW,aN,aF,hO,az,cP⟩:=hI
 have gN:=hK.size
 have ara:=iK.size
 have UR:=aW.lt
 have UT:=aN.lt
 have Xl:=aF.lt
 refine W ?_
 refine zc rfl (λh7=>?_) (λh7=>?_)
 have fu:=jN (xs:=k.code) (i:=j) om
 obtain⟨b,off,rfl,hc⟩:=mu (dy.ext hK) fu
 refine W ?_
 refine aA (Xm (cv k.code j) (g.toList++(w1.heap.size::w2.heap.size::L)) w6 hO.all) ?_
 rintro v7 w7 ⟨uS,bV⟩
 have ov:=bV.size
 refine sB bV hK iK aW aN aF hO λhK iK aW aN aF hO=>?_
 obtain⟨t,tv,rfl,ht,hp⟩:=uS
 obtain⟨pa,pn,pc,rfl,eT,aQ⟩:=dj ht
 subst eT
 have cL:=λh=>DB hp h
 refine W ?_
 refine dk fc rfl rfl rfl λw8 cA je kG=>?_
 have hK:=hK.grow;have hK:=hK.ext cA;have iK:=iK.grow;have iK:=iK.ext cA;have aW:=aW.grow;have aW:=aW.ext cA;have aN:=aN.grow;have aN:=aN.ext cA;have aF:=aF.grow;have aF:=aF.ext cA;have hO:=hO.alloc cA kG;have ht:=ht.grow;have ht:=ht.ext cA
 refine cw fc rfl rfl rfl je rfl λw9 aC je df=>?_
 have hK:=hK.aD aC sx;have iK:=iK.aD aC sx;have aW:=aW.aD aC sx;have aN:=aN.aD aC sx;have aF:=aF.aD aC sx;have hO:=hO.aD aC sx;have ht:=ht.aD aC sx
 refine W ?_
 refine DP [75,76,77,78,79,80,81,82,83,84,85,86,87,88,89,90,91,92] [(92,.bool ((!(bB (cv k.code j)).isSome||!lY t)||(FB t !=decide ((j:Int)=(n2:Int)-1))))] ?_ ?_
 rcases bE (!(bB (cv k.code j)).isSome) with iH|iH
 apply kD cT 18 (rA 75 18) (rA 75 18) [[],[0],[1],[2],[2,3],[2,4],[2,5],[6],[7],[7,8],[7],[7],[7,11],[7,12],[7,13],[7,10,14],[7,9,15],[7,16]] [It.v _,It.v _,It.v (.bool true),It.v _,It.v _,It.v _,It.v _,It.v (.bool true),It.v _,It.v _,It.v _,It.v _,It.v _,It.v _,It.v _,It.v _,It.v _,It.v _] de rfl
 intro wd aB
 refine VA ?_
 refine vc (λx bZ cj=>?_) ?_
 refine WZ ?_
 exact pv (by exact congrArg Value.bool iH)
 refine vk aB (λx bZ cj=>?_) ?_
 exact cH pv
 refine vk aB (λx bZ cj=>?_) ?_
 exact cH pv
 refine vc (λx bZ cj=>?_) ?_
 exact cH pv
 refine vc (λ_ _ _=>WZ pv) ?_
 refine vc (λx bZ cj=>?_) ?_
 refine WZ ?_
 exact pv (by rfl)
 exact VZ
 intro x oz iL
 change OW _ _ _ _ [] (bm (bg _ x _) (zZ 75 [_,_,_,_,_,_,_,_,_,_,_,_,_,_,_,_,_,_])) _
 refine W ?_
 exact kE iL
 rcases bE (!(bB (cv k.code j)).isSome||!lY t) with mE|mE
 apply kD cT 18 (rA 75 18) (rA 75 18) [[],[0],[1],[2],[2,3],[2,4],[2,5],[6],[7],[7,8],[7],[7],[7,11],[7,12],[7,13],[7,10,14],[7,9,15],[7,16]] [It.v _,It.v _,It.v (.bool false),It.v _,It.v _,It.v _,It.v _,It.v (.bool true),It.v _,It.v _,It.v _,It.v _,It.v _,It.v _,It.v _,It.v _,It.v _,It.v _] de rfl
 intro wd aB
 refine VA ?_
 refine vc (λx bZ cj=>?_) ?_
 refine WZ ?_
 exact pv (by exact congrArg Value.bool iH)
 refine VA ?_
 refine vk aB (λx bZ cj=>?_) ?_
 have ht:=ht.ext cj
 have hg:=iH
 refine aA (Xi t (cL (by simpa using hg)).2 (cL (by simpa using hg)).1 _ _ bZ ht) ?_
 rintro _ ey ⟨rfl,cS⟩
 have A2:=cS.size
 exact pk cS
 refine VA ?_
 refine vc (λx bZ cj=>?_) ?_
 refine WZ ?_
 exact pv (by first|exact congrArg Value.bool mE|(rw[iH] at mE;exact congrArg Value.bool mE))
 exact VZ
 intro x oz iL
 change OW _ _ _ _ [] (bm (bg _ x _) (zZ 75 [_,_,_,_,_,_,_,_,_,_,_,_,_,_,_,_,_,_])) _
 refine W ?_
 exact kE iL
 apply kD cT 18 (rA 75 18) (rA 75 18) [[],[0],[1],[2],[2,3],[2,4],[2,5],[6],[7],[7,8],[7],[7],[7,11],[7,12],[7,13],[7,10,14],[7,9,15],[7,16]] [It.v _,It.v _,It.v (.bool false),It.v _,It.v _,It.v _,It.v _,It.v (.bool false),It.v _,It.v _,It.v _,It.v _,It.v _,It.v _,It.v _,It.v _,It.v _,It.v _] de rfl
 intro wd aB
 refine VA ?_
 refine vc (λx bZ cj=>?_) ?_
 refine WZ ?_
 exact pv (by exact congrArg Value.bool iH)
 refine VA ?_
 refine vk aB (λx bZ cj=>?_) ?_
 have ht:=ht.ext cj
 have hg:=iH
 refine aA (Xi t (cL (by simpa using hg)).2 (cL (by simpa using hg)).1 _ _ bZ ht) ?_
 rintro _ ey ⟨rfl,cS⟩
 have A2:=cS.size
 exact pk cS
 refine VA ?_
 refine vc (λx bZ cj=>?_) ?_
 refine WZ ?_
 exact pv (by first|exact congrArg Value.bool mE|(rw[iH] at mE;exact congrArg Value.bool mE))
 refine VA ?_
 refine vk aB (λx bZ cj=>?_) ?_
 have ht:=ht.ext cj
 have hg:=mE
 refine aA (alQ t (cL (by rw[Bool.or_eq_false_iff] at hg;simpa using hg.1)).1 _ _ bZ ht) ?_
 rintro _ ey ⟨rfl,cS⟩
 have A2:=cS.size
 exact pk cS
 refine vc (λ_ _ _=>WZ pv) ?_
 refine vc (λ_ _ _=>WZ pv) ?_
 refine vk aB (λx bZ cj=>?_) ?_
 have aW:=aW.ext cj
 refine WZ ?_
 exact pv
 refine vk aB (λx bZ cj=>?_) ?_
 refine WZ ?_
 exact pv
 refine vk aB (λx bZ cj=>?_) ?_
 refine WZ ?_
 exact pv
 refine vk aB (λx bZ cj=>?_) ?_
 refine WZ ?_
 exact pv
 refine vk aB (λx bZ cj=>?_) ?_
 refine WZ ?_
 exact pv
 refine vc (λ_ _ _=>WZ pv) ?_
 exact trivial
 intro x oz iL
 change OW _ _ _ _ [] (bm (bg _ x _) (zZ 75 [_,_,_,_,_,_,_,_,_,_,_,_,_,_,_,_,_,_])) _
 refine W ?_
 exact kE iL
 intro x oz iL
 refine BS iL hK iK aW aN aF hO ht je λhK iK aW aN aF hO ht je=>?_
 refine zc rfl (λh8=>?_) (λh8=>?_)
 rw[Rv mq om hp] at h8
 have hq:=aal (b:=k) (i:=j) om (by simpa using h8)
 refine zr<|iO (LH _) rfl rfl<|cw nq rfl rfl rfl aN rfl λoC lJ aN al0=>?_
 have hK:=hK.aD lJ sx
 refine W ?_
 exact⟨[_,_],⟨fb FG nq rfl aN rfl,rfl⟩,Pn hq,hK⟩
 rw[Rv mq om hp] at h8
 have mJ:rl k.code j=true:=by simpa using h8
 refine W ?_
 refine fF p7 fc rfl rfl λoC lJ Hz al0=>IS lJ hK iK aW aN aF hO ht λhK iK aW aN aF hO ht=>?_
 refine K9 p7 fc rfl rfl rfl rfl rfl rfl hO Hz ht.Lc (by rw[Im _ az];omega) λa3 HQ g3 ld kO kQ=>?_
 have Xo:=kQ.size
 have hK:=aj.Qv om hO.low hK kQ
 have iK:=hO.since iK kQ
 have aW:=aW.aD kQ (hO.Qu om);have aN:=aN.aD kQ (hO.Dw sm);have aF:=aF.aD kQ (hO.Dw sm)
 rw[aan mJ hp,Lz tr fu] at kO⊢
 refine zf RP rfl<|fz Is rfl rfl rfl aF rfl λAM pU aF agW=>?_
 have hK:=hK.aD pU sx;have iK:=iK.aD pU sx;have aW:=aW.aD pU sx;have aN:=aN.aD pU sx;have kO:=kO.aD pU sx
 refine W ?_
 exact⟨(j+1,a3,HQ,g3),⟨rfl,rfl,rfl,rfl,rfl,rfl⟩,⟨hK,iK,aW,aN,aF,kO.iF (λx hx=>mK _ hx),by dsimp only;omega,by intro i2 hj;rcases Nat.lt_or_ge i2 j with h|h;exact cP i2 h;rw[show i2=j by dsimp only at hj;omega];exact mJ⟩,by dsimp only;omega⟩
 have hq:=Q2 p8 MH (λi hi=>cP i om)
 have hqI:nY k=true:=by unfold nY;rw[hq,oV];rfl
 rw[LA tr om] at aF hO
 refine W ?_
 refine cw nq rfl rfl rfl aN rfl λw7 bV aN oT=>?_
 have hK:=hK.aD bV sx;have iK:=iK.aD bV sx;have hO:=hO.aD bV sx
 refine W ?_
 exact⟨[_,_],⟨fb FG nq rfl aN rfl,rfl⟩,⟨gW k,_,by rw[hqI];rfl,MI (l:=k.aM) ((Of.aD iK sm).iF (λx hx=>by simp[hx])) (hO.trees.iF (λx hx=>by simp[hx])),λ_=>rfl⟩,hK⟩
theorem al2 (k:eP) (l:ai) (b1:Nat) (v:Value) (L:List Nat) (w:World) (hv:nJ L w v k) (aW:aJ w b1 [str l].toArray 9):
  bz Tryz.prog 88 [v,.pointer (some ⟨b1,0,none⟩)] w λr w'=>r= .bool (decide (k.aM=l))∧aj [] w w':=by
 obtain⟨a1,c1,a2,c2,rfl,bM,bT⟩:=SY hv
 have hK:=aj.refl [] w
 refine bX [.tmp 3] 8 Tryz.func88 rfl acR rfl rfl ?_
 refine zr<|eu rfl λw1 aI aN db=>bI aI hK aW λhK aW=>?_
 refine W ?_
 exact⟨_,rfl,rfl,hK⟩
theorem al3 (ps:List eP) (hlen:ps.length<1000000000) (g:eP->Bool) (f:FuncId) (caps:List Value) (v:Value) (L:List Nat) (w:World) (hv:nK L w v ps) 
  (hf:∀i,i<ps.length->∀(u:Value) (w':World),aj [] w w'->nJ L w' u (mw ps i)->bz Tryz.prog f (u::caps) w' λr w''=>r= .bool (g (mw ps i))∧aj [] w' w''):
  bz Tryz.prog 87 [v,.func (.func f) #[] caps.toArray] w λr w'=>r= .int .i64 (FE ps g)∧aj [] w w':=by
 obtain⟨a,c,rfl⟩:=IZ hv
 have hK:=aj.refl [] w
 refine bX [.tmp 4] 19 Tryz.func87 rfl acQ rfl rfl ?_
 refine W ?_
 refine eH (λk:Nat=>[(0,.slice a ps.length c),(1,.func (.func f) #[] caps.toArray),(7,.int .i64 (ps.length:Int)),(8,.int .i64 (k:Int))]) (λk w'=>aj [] w w'∧k<=ps.length∧∀i,i<k->g (mw ps i)=false) (λk=>ps.length-k) (0) (⟨rfl,rfl,rfl,rfl⟩) (⟨hK,om,by intro i hi;omega⟩) λgg w1 e1 hI=>?_
 obtain⟨hK,hk,cP⟩:=hI
 have hv:=hv.ext hK
 refine W ?_
 refine zc rfl (λh1=>?_) (λh1=>?_)
 have hp:=DC (ps:=ps) (i:=gg) om
 obtain⟨b,off,a1,c1,a2,c2,rfl,hc,oU,rE⟩:=I0 hv hp
 refine W ?_
 refine Qq rfl rfl rfl (hf gg om _ w1 hK (MI oU rE)) ?_
 rintro _ w2 ⟨rfl,az⟩
 have dy:=az.size
 have hK:=hK.ext az
 refine aZ<|zc rfl (λh2=>?_) (λh2=>?_)
 have hq:=aao om cP h2
 refine W ?_
 exact⟨_,rfl,by rw[hq];rfl,hK⟩
 refine W ?_
 exact⟨gg+1,⟨rfl,rfl,rfl,rfl⟩,⟨hK,om,by intro i hi;rcases Nat.lt_or_ge i gg with h|h;exact cP i h;rw[show i=gg by omega];exact h2⟩,om⟩
 have hq:=aap (λi hi=>cP i om)
 refine W ?_
 exact⟨_,rfl,by rw[hq];rfl,hK⟩
theorem Kw (ps:List eP) (hlen:ps.length<1000000000) (l:ai) (v:Value) (L:List Nat) (w:World) (hv:nK L w v ps):
  bz Tryz.prog 54 [v,str l] w λr w'=>r= .int .i64 (ru ps l)∧aj [] w w':=by
 have hK:=aj.refl [] w
 refine bX [.tmp 4] 8 Tryz.func54 rfl acv rfl rfl ?_
 refine zr<|KQ rfl rfl rfl λw1 aI cF db=>bI aI hK hv λhK hv=>?_
 refine W ?_
 refine Qp (vs:=[.pointer (some ⟨w.heap.size,0,none⟩)]) rfl rfl rfl<|aA (al3 ps hlen (λb=>decide (b.aM=l)) 88 [.pointer (some ⟨w.heap.size,0,none⟩)] _ L w1 hv (λi hi u w' k hu=>al2 (mw ps i) l _ _ L _ hu (cF.ext k))) ?_
 rintro _ w2 ⟨rfl,az⟩
 have dy:=az.size
 have hK:=hK.ext az
 refine W ?_
 exact⟨_,rfl,rfl,hK⟩
def al4 (L:List Nat) (bs:List Bk) (v:Value) (w:World):Prop:=∃ps pv,v= .tuple #[pv,.bool (lv bs)]∧nK L w pv ps∧(lv bs=true->ps=bs.map gW)
theorem Pp (bs:List Bk) (hb:ti bs) (v:Value) (Li L:List Nat) (w:World) (hv:nj Li w v bs) (hL:∀x,x∈L->x<w.heap.size):
  bz Tryz.prog 32 [v] w λr w'=>al4 L bs r w'∧aj [] w w':=by
 obtain⟨a,n,c,rfl,hn⟩:=Ft hv
 have hK:=aj.refl [] w
 have ig:=hb.1
 refine bX [.tmp 2,.tmp 3] 52 Tryz.func32 rfl acn rfl rfl ?_
 refine W ?_
 refine aA (EV _ _ _ _) ?_
 rintro _ _ ⟨rfl,rfl⟩
 refine km rfl rfl rfl<|aZ<|zc rfl (λh1=>?_) (λh1=>?_)
 have hq:lv bs=false:=aas (λh=>by rw[dT (p:=(1:Int)<=(n:Int)) om,dT (p:=(n:Int)<=40) om] at h1;exact absurd h1 de)
 refine W ?_
 exact⟨_,rfl,⟨[],_,by rw[hq];rfl,SZ,by rw[hq];intro h;cases h⟩,hK⟩
 have Xp:1<=bs.length∧bs.length<=40:=by have:=h1;simp only[aE,dE] at this;omega
 refine W ?_
 refine eH (λq:Nat×Option Addr×Nat×Option Nat=>[(0,.slice a n c),(4,.slice q.2.1 ((bs.take q.1).map gW).length q.2.2.1),(13,.slice a n c),(14,.int .i64 (n:Int)),(15,.int .i64 (q.1:Int))]) (λq w'=>aj [] w w'∧Gr w.heap.size L w' 56 3 (.slice q.2.1 ((bs.take q.1).map gW).length q.2.2.1) q.2.2.2 (((bs.take q.1).map gW).map eP.enc)∧q.1<=bs.length∧∀i,i<q.1->nY (bR bs i)=true∧mv bs (bR bs i).aM=i) (λq=>bs.length-q.1) ((0,none,0,none)) (⟨rfl,rfl,rfl,rfl,rfl⟩) (⟨hK,Gr.nil hL om,sm,by intro i hi;simp at hi⟩) λgg w1 e1 hI=>?_
 obtain⟨i,a1,cc,g⟩:=gg
 dsimp only at hI⊢
 obtain⟨hK,hO,hk,cP⟩:=hI
 have gN:=hK.size
 refine W ?_
 refine zc rfl (λh2=>?_) (λh2=>?_)
 have fu:=py (bs:=bs) (i:=i) om
 obtain⟨b,off,ra,rn,rc,ca,cn,c3,rfl,hc,mN,wR,dm,dy⟩:=Dv hv fu
 have qM:=hb.2 i om
 refine WL ?_
 refine zL DD gB rfl (hc.ext hK) rfl<|dk gB rfl rfl rfl λw2 az bA dJ=>?_
 have hK:=hK.grow;have hK:=hK.ext az;have hO:=hO.alloc az dJ
 refine cw gB rfl rfl rfl bA rfl λw3 aH bA gv=>?_
 have hK:=hK.aD aH sx;have hO:=hO.aD aH sx
 refine W ?_
 refine aA (alZ (bR bs i) qM.1 qM.2.1 qM.2.2 _ _ (g.toList++(w1.heap.size::L)) w3 (qC.ext (Bv dm dy) hK) hO.all) ?_
 rintro v4 w4 ⟨jU,aO⟩
 have fG:=aO.size
 refine bI aO hK hO λhK hO=>?_
 obtain⟨ib,bv,rfl,ht,hp⟩:=jU
 obtain⟨b1a,b1c,b2a,b2c,rfl,_,_⟩:=SY ht
 refine W ?_
 refine dk nq rfl rfl rfl λw5 aP cQ iI=>?_
 have hK:=hK.grow;have hK:=hK.ext aP;have hO:=hO.alloc aP iI;have ht:=ht.grow;have ht:=ht.ext aP
 refine cw nq rfl rfl rfl cQ rfl λw6 bO cQ kF=>?_
 have hK:=hK.aD bO sx;have hO:=hO.aD bO sx;have ht:=ht.aD bO sx
 refine W ?_
 apply oO 6 26 32 (aj [] w6) rfl oQ
 intro h3
 have yK:nY (bR bs i)=true:=by simpa using h3
 have hib:=hp yK
 subst hib
 refine W ?_
 refine aA (Kw ((bs.take i).map gW) (by rw[Im _ hk];omega) (bR bs i).aM _ L w6 (hO.prog.iF (λx hx=>by simp[hx]))) ?_
 rintro _ w7 ⟨rfl,bV⟩
 have ov:=bV.size
 exact oQ
 intro xx w8 cA
 refine gQ cA hK hO ht cQ λhK hO ht cQ=>?_
 refine aZ<|zc rfl (λh4=>?_) (λh4=>?_)
 have hq:lv bs=false:=aaq (i:=i) om (by simp only[oE,Bool.not_eq_true'] at h4;rcases h4 with h|h;exact .inl h;rw[Rw om] at h;exact .inr (of_decide_eq_true h))
 refine W ?_
 exact⟨_,rfl,⟨[],_,by rw[hq];rfl,SZ,by rw[hq];intro h;cases h⟩,hK⟩
 have yK:nY (bR bs i)=true∧mv bs (bR bs i).aM=i:=by simp only[Bool.or_eq_false_iff,Bool.not_eq_false'] at h4;rw[Rw om] at h4;exact⟨h4.1,Classical.byContradiction (of_decide_eq_false h4.2)⟩
 refine W ?_
 refine fF BG nq rfl rfl λw9 aC al6 df=>cG aC hK hO ht λhK hO ht=>?_
 refine aeI BG nq rfl rfl rfl rfl rfl rfl hO al6 (ht.iF (λx hx=>by simp at hx⊢;rcases hx with h|h|h<;>simp[h])) (by rw[Im _ hk];omega) λa3 HQ g3 bZ kO cj=>?_
 have Xo:=cj.size
 have hK:=hO.since hK cj
 rw[hp yK.1,Lz gW fu] at kO⊢
 refine W ?_
 exact⟨(i+1,a3,HQ,g3),⟨rfl,rfl,rfl,rfl,rfl⟩,⟨hK,kO.iF (λx hx=>by simp[hx]),by dsimp only;omega,by intro i2 hj;rcases Nat.lt_or_ge i2 i with h|h;exact cP i2 h;rw[show i2=i by dsimp only at hj;omega];exact yK⟩,by dsimp only;omega⟩
 have hq:=aar (λj hj=>cP j om)
 rw[LA gW om] at hO⊢
 obtain⟨b,off,r1,Xq,r2,Xr,rfl,hc,bM,bT⟩:=I0 hO.prog (DC (ps:=bs.map gW) (i:=0) so)
 have e0:mw (bs.map gW) 0=gW (bR bs 0):=by simp[gE (show 0<bs.length by omega)]
 rw[e0] at hc bM bT
 refine W ?_
 refine DP [38,39,40,41,42,43,44,45,46,47,48,49,50,51,2,3] [(2,.slice (some ⟨b,off,none⟩) (bs.map gW).length cc),(3,.bool (decide ((bR bs 0).aM=[109,97,105,110])&&decide (((gW (bR bs 0)).regs.length:Int)=0)))] ?_ ?_
 rcases bE (decide ((bR bs 0).aM=[109,97,105,110])) with iH|iH
 apply kD cT 16 (rA 38 14++[2,3]) (rA 38 14++[2,3]) [[],[],[1],[2],[3],[4],[5],[6],[6,7],[6,8],[6,9],[6,10],[6,11],[6,12],[0],[13]] [It.v _,It.v _,It.v _,It.v _,It.v _,It.v _,It.v (.bool true),It.v _,It.v _,It.v _,It.v _,It.v _,It.v _,It.v _,It.v _,It.v _] de rfl
 intro wd aB
 refine VA ?_
 refine vk aB (λx w2 az=>?_) ?_
 refine zi (i:=0) BG nq rfl rfl so ?_
 exact pv
 refine VA ?_
 refine vc (λx w2 az=>?_) ?_
 refine zm ?_
 exact pv (by exact congrArg Value.bool iH)
 refine VA ?_
 refine vk aB (λx w2 az=>?_) ?_
 refine zi (i:=0) BG nq rfl rfl so ?_
 exact pv
 exact VZ
 intro x nO gi
 change OW _ _ _ _ [] (bm (bg _ x _) (zZ 38 [_,_,_,_,_,_,_,_,_,_,_,_,_,_]++[(2,_),(3,_)])) _
 refine W ?_
 exact kE gi
 apply kD cT 16 (rA 38 14++[2,3]) (rA 38 14++[2,3]) [[],[],[1],[2],[3],[4],[5],[6],[6,7],[6,8],[6,9],[6,10],[6,11],[6,12],[0],[13]] [It.v _,It.v _,It.v _,It.v _,It.v _,It.v _,It.v (.bool false),It.v _,It.v _,It.v _,It.v _,It.v _,It.v _,It.v _,It.v _,It.v _] de rfl
 intro wd aB
 refine VA ?_
 refine vk aB (λx w2 az=>?_) ?_
 refine zi (i:=0) BG nq rfl rfl so ?_
 exact pv
 refine VA ?_
 refine vc (λx w2 az=>?_) ?_
 refine zm ?_
 exact pv (by exact congrArg Value.bool iH)
 exact VZ
 intro x nO gi
 change OW _ _ _ _ [] (bm (bg _ x _) (zZ 38 [_,_,_,_,_,_,_,_,_,_,_,_,_,_]++[(2,_),(3,_)])) _
 refine W ?_
 exact kE gi
 intro x nO gi
 refine bI gi hK hO λhK hO=>?_
 refine jJ<|⟨_,rfl,⟨bs.map gW,_,?_,hO.prog.iF (λx hx=>by simp[hx]),λ_=>rfl⟩,hK⟩
 rw[hq,dT Xp.1,dT Xp.2,show decide (((gW (bR bs 0)).regs.length:Int)=0)=decide ((bR bs 0).ck.length=0) from decide_eq_decide.2 (by have:(gW (bR bs 0)).regs.length=(bR bs 0).ck.length:=List.length_map _;omega)]
 rfl
theorem al7 (bs:List Bk) (hb:ti bs) (v:Value) (Li:List Nat) (w:World) (hv:nj Li w v bs):
  bz Tryz.prog 16 [v] w λr w'=>r= .bool (lv bs)∧aj [] w w':=by
 have hK:=aj.refl [] w
 refine bX [.tmp 2] 11 Tryz.func16 rfl abh rfl rfl ?_
 refine W ?_
 refine aA (Pp bs hb _ Li [] w hv sm) ?_
 rintro v1 w1 ⟨fX,aI⟩
 have dm:=aI.size
 have hK:=hK.ext aI
 obtain⟨ps,pv,rfl,hp,tR⟩:=fX
 refine W ?_
 exact⟨_,rfl,rfl,hK⟩
theorem Xs (xs:List ai) (kV:xs.length<=1000000) (v:Value) (L:List Nat) (w:World) (hv:bc L w v xs):
  bz Tryz.prog 89 [v] w λr w'=>(∃g,cz w' 9 r g xs∧∀x,x∈g.toList->w.heap.size<=x)∧aj [] w w':=by
 have hv:=bN.none hv
 obtain⟨a,n,c,rfl,hn⟩:=dI hv
 subst hn
 have hK:=aj.refl [] w
 refine bX [.tmp 2] 8 Tryz.func89 rfl acS rfl rfl ?_
 refine W ?_
 refine W6 bh rfl rfl rfl rfl<|aZ<|zc rfl (λh1=>?_) (λh1=>?_)
 have Pa:=ak6 hv h1
 refine W ?_
 exact⟨_,rfl,⟨none,by rw[Pa];exact cz.nil,sm⟩,hK⟩
 refine gz<|zr<|xw w.heap.size [] bh bf rfl rfl (lR _) sm λw1 aI db hO=>?_
 have hK:=hK.ext aI
 have eW:=bN.ext (bN.fresh hv (L':=[w.heap.size]++[]) (λx hx=>.inr (by simp at hx;omega))) aI
 refine zm<|wa bh bf rfl rfl rfl rfl rfl rfl hO eW GC (by rw[qB];simp;omega) λa4 ir g4 w2 kO az=>?_
 have hK:=hO.since hK az
 rw[List.nil_append] at kO
 refine W ?_
 exact⟨_,rfl,⟨g4,kO.se,λx hx=>kO.low x (by simpa using hx)⟩,hK⟩
theorem al8 (n c:Nat) (w:World):
  bz Tryz.prog 91 [.slice none n c] w λr w'=>r= .slice none 0 0∧w=w':=by
 refine bX [.tmp 2] 8 Tryz.func91 rfl acU rfl rfl ?_
 refine W ?_
 refine W6 BF rfl rfl rfl rfl<|aZ<|KM (by rfl)<|W ?_
 exact⟨_,rfl,rfl,rfl⟩
theorem Xt (w:World):
  bz Tryz.prog 55 [] w λr w'=>(∃b,r= .agg #[str pX,.int .i64 0,.slice (some ⟨b,0,none⟩) 40 40,.slice none 0 0]∧cz w' 9 (.slice (some ⟨b,0,none⟩) 40 40) (some b) z40∧w.heap.size<=b)∧aj [] w w':=by
 have hK:=aj.refl [] w
 refine jr [.cell 0 43] 3 Tryz.func55 rfl acw rfl rfl rfl ?_
 refine zr<|dk iZ rfl rfl rfl λw1 aI fO db=>?_
 have hK:=hK.grow;have hK:=hK.ext aI
 refine aZ<|zr<|W3 (u:=str []) 40 bh bf rfl rfl rfl rfl rfl rfl de λw2 az hzm hm=>bI az hK fO λhK fO=>?_
 have gN:=fO.lt
 refine iO (ac9 _ _ _ _ _) rfl rfl<|cw iZ rfl rfl rfl fO rfl λw3 aH fO gv=>?_
 have hK:=hK.aD aH sx;have hm:=hm.aD aH sx
 refine W ?_
 exact⟨[_],fb xA iZ rfl fO rfl,⟨_,rfl,aJ.se z40 (by rw[z40,List.map_replicate];exact hm) de,om⟩,hK⟩
theorem ama (w:World):
  bz Tryz.prog 56 [] w λr w'=>(∃b c,r= .agg #[str pX,.int .i64 0,.slice (some ⟨b,0,none⟩) 40 40,.slice (some ⟨c,0,none⟩) 0 0]∧cz w' 9 (.slice (some ⟨b,0,none⟩) 40 40) (some b) z40∧w.heap.size<=b)∧aj [] w w':=by
 have hK:=aj.refl [] w
 refine jr [.cell 0 43] 4 Tryz.func56 rfl acx rfl rfl rfl ?_
 refine zr<|dk iZ rfl rfl rfl λw1 aI fO db=>?_
 have hK:=hK.grow;have hK:=hK.ext aI
 refine aZ<|zr<|W3 (u:=str []) 40 bh bf rfl rfl rfl rfl rfl rfl de λw2 az hzm hm=>bI az hK fO λhK fO=>?_
 have gN:=fO.lt
 refine fN BF kz λw3 aH aN gv=>cG aH hK fO hm λhK fO hm=>?_
 refine iO (ac8 _ _ _ _ _ _ _ _ _) rfl rfl<|cw iZ rfl rfl rfl fO rfl λw4 aO fO gC=>?_
 have hK:=hK.aD aO sx;have hm:=hm.aD aO sx
 refine W ?_
 exact⟨[_],fb xA iZ rfl fO rfl,⟨_,_,rfl,aJ.se z40 (by rw[z40,List.map_replicate];exact hm) de,om⟩,hK⟩
def S0 (ok:Bool) (L:List Nat) (w:World) (v:Value):Prop:=∃ra rc ha hc,v= .agg #[str (if ok then pX else[]),.int .i64 0,.slice ra (if ok then z40 else[]).length rc,.slice ha 0 hc]∧bc L w (.slice ra (if ok then z40 else[]).length rc) (if ok then z40 else[])
theorem amb (bs:List Bk) (hb:ti bs) (v:Value) (Li:List Nat) (w:World) (hv:nj Li w v bs):
  bz Tryz.prog 26 [v] w λr w'=>(∃sv,r= .tuple #[sv,.bool (lv bs)]∧S0 (lv bs) [] w' sv)∧aj [] w w':=by
 have hK:=aj.refl [] w
 refine jr [.cell 2 43,.tmp 3] 9 Tryz.func26 rfl acg rfl rfl rfl ?_
 refine zr<|dk iZ rfl rfl rfl λw1 aI aN db=>?_
 have hK:=hK.grow;have hK:=hK.ext aI;have hv:=hv.grow;have hv:=hv.ext aI
 refine W ?_
 refine aA (al7 bs hb _ _ w1 hv) ?_
 rintro _ w2 ⟨rfl,az⟩
 have dy:=az.size
 refine bI az hK aN λhK aN=>?_
 refine km rfl rfl rfl<|aZ<|zc rfl (λh1=>?_) (λh1=>?_)
 have hq:lv bs=false:=(by simpa using h1)
 rw[hq]
 refine zr<|iO (RH _) rfl rfl<|cw iZ rfl rfl rfl aN rfl λw3 aH aN gv=>?_
 have hK:=hK.aD aH sx
 refine W ?_
 exact⟨[_,_],⟨fb xA iZ rfl aN rfl,rfl⟩,⟨_,rfl,⟨none,0,none,0,rfl,.nil _ _ _⟩⟩,hK⟩
 have hq:lv bs=true:=(by simpa using h1)
 rw[hq]
 refine WZ ?_
 have Xu:=aN.lt
 refine aA (Xt w2) ?_
 rintro v3 w3 ⟨jb,aH⟩
 have eU:=aH.size
 refine bI aH hK aN λhK aN=>?_
 obtain⟨b,e9,hO,xj⟩:=jb
 subst e9
 have hR:=hO.rep (L:=[w.heap.size]) (λb hb hx=>by simp at hb hx;omega)
 refine cw iZ rfl rfl rfl aN rfl λw4 aO aN gC=>?_
 have hK:=hK.aD aO sx;have hR:=hR.aD aO sx
 refine W ?_
 exact⟨[_,_],⟨fb xA iZ rfl aN rfl,rfl⟩,⟨_,rfl,⟨_,_,_,_,rfl,bN.none hR⟩⟩,hK⟩
theorem amc (bs:List Bk) (hb:ti bs) (v:Value) (Li:List Nat) (w:World) (hv:nj Li w v bs):
  bz Tryz.prog 27 [v] w λr w'=>(∃sv,r= .tuple #[sv,.bool (gk bs)]∧S0 (gk bs) [] w' sv)∧aj [] w w':=by
 have hK:=aj.refl [] w
 refine jr [.cell 2 43,.tmp 3] 9 Tryz.func27 rfl ach rfl rfl rfl ?_
 refine zr<|dk iZ rfl rfl rfl λw1 aI aN db=>?_
 have hK:=hK.grow;have hK:=hK.ext aI;have hv:=hv.grow;have hv:=hv.ext aI
 refine W ?_
 refine aA (SW bs hb _ _ w1 hv) ?_
 rintro _ w2 ⟨rfl,az⟩
 have dy:=az.size
 refine bI az hK aN λhK aN=>?_
 refine km rfl rfl rfl<|aZ<|zc rfl (λh1=>?_) (λh1=>?_)
 have hq:gk bs=false:=(by simpa using h1)
 rw[hq]
 refine zr<|iO (RH _) rfl rfl<|cw iZ rfl rfl rfl aN rfl λw3 aH aN gv=>?_
 have hK:=hK.aD aH sx
 refine W ?_
 exact⟨[_,_],⟨fb xA iZ rfl aN rfl,rfl⟩,⟨_,rfl,⟨none,0,none,0,rfl,.nil _ _ _⟩⟩,hK⟩
 have hq:gk bs=true:=(by simpa using h1)
 rw[hq]
 refine WZ ?_
 have Xu:=aN.lt
 refine aA (ama w2) ?_
 rintro v3 w3 ⟨jb,aH⟩
 have eU:=aH.size
 refine bI aH hK aN λhK aN=>?_
 obtain⟨b,c9,e9,hO,xj⟩:=jb
 subst e9
 have hR:=hO.rep (L:=[w.heap.size]) (λb hb hx=>by simp at hb hx;omega)
 refine cw iZ rfl rfl rfl aN rfl λw4 aO aN gC=>?_
 have hK:=hK.aD aO sx;have hR:=hR.aD aO sx
 refine W ?_
 exact⟨[_,_],⟨fb xA iZ rfl aN rfl,rfl⟩,⟨_,rfl,⟨_,_,_,_,rfl,bN.none hR⟩⟩,hK⟩
theorem amd (ok:Bool):(if ok then z40 else[]).length<=40:=by cases ok<;>simp[z40]
theorem Pq (ok:Bool) (va vb:Value) (La Lb:List Nat) (w:World) (ha:S0 ok La w va) (hb:S0 ok Lb w vb):
  bz Tryz.prog 28 [va,vb] w λr w'=>r= .bool true∧aj [] w w':=by
 obtain⟨ra,rc,vi,bF,rfl,hra⟩:=ha
 obtain⟨rb,rd,lN,bU,rfl,Db⟩:=hb
 have hl0:=amd ok
 have hK:=aj.refl [] w
 refine bX [.tmp 4] 54 Tryz.func28 rfl aci rfl rfl ?_
 refine zr<|eu rfl λw1 aI aN db=>?_
 have hK:=hK.ext aI
 refine eu rfl λw2 az cF dJ=>bI az hK aN λhK aN=>?_
 refine W ?_
 apply oP 6 11 17 rfl oQ
 intro _
 refine WZ ?_
 exact oQ
 intro xx
 refine WZ ?_
 apply oO 7 18 25 (aj [] w2) rfl oQ
 intro h2
 refine W ?_
 refine aA (alb (if ok then z40 else[]) om _ _ La Lb w2 (hra.ext hK) (Db.ext hK)) ?_
 rintro _ w3 ⟨rfl,aH⟩
 have eU:=aH.size
 exact oQ
 intro xx w4 aO
 refine cG aO hK aN cF λhK aN cF=>?_
 refine WZ ?_
 apply oP 8 26 34 rfl oQ
 intro _
 refine WZ ?_
 exact oQ
 intro xx
 refine aZ<|zc rfl (λh4=>?_) (λh4=>?_)
 exact absurd h4 sm
 refine W ?_
 refine eH (λk:Nat=>[(2,.pointer (some ⟨w.heap.size,0,none⟩)),(3,.pointer (some ⟨w1.heap.size,0,none⟩)),(5,.int .i64 (k:Int))]) (λk w'=>aj [] w w'∧aJ w' w.heap.size [str (if ok then pX else[]),.int .i64 0,.slice ra (if ok then z40 else[]).length rc,.slice vi 0 bF].toArray 43) (λk=>0-k) (0) (⟨rfl,rfl,rfl⟩) (⟨hK,aN⟩) λgg w5 e5 hI=>?_
 obtain⟨hK,aN⟩:=hI
 refine W ?_
 refine zc rfl (λh5=>?_) (λh5=>?_)
 exfalso
 omega
 refine W ?_
 exact⟨_,rfl,rfl,hK⟩





theorem Xv {s:ai} (h:rk s=true):∃r:Nat,r<40∧numeral s=some (r:Int)∧Lw s=r:=by
 have h0:0<=s9 s:=of_decide_eq_true h
 cases hn:numeral s with
 |none=>unfold s9 at h0;rw[hn] at h0;simp at h0
 |some z=>
  have e:s9 s=if 0<=z∧z<=39 then z else -1:=by unfold s9;rw[hn]
  by_cases hz:0<=z∧z<=39
  ·rw[iP hz] at e
   exact⟨z.toNat,om,by rw[Int.toNat_of_nonneg hz.1],by unfold Lw;rw[e]⟩
  ·rw[iN hz] at e;omega
theorem amf (l:ai) (z:Int) (ra:Option Addr) (rc hn hc:Nat) (xs:List ai) (kV:xs.length<=1000000) (L Lx:List Nat) (w:World) (hr:bc L w (.slice ra xs.length rc) xs) (MD:∀x,x∈Lx->x<w.heap.size):
  bz Tryz.prog 59 [.agg #[str l,.int .i64 z,.slice ra xs.length rc,.slice none hn hc]] w λr w'=>(∃rb rd,r= .agg #[str l,.int .i64 z,.slice rb xs.length rd,.slice none 0 0]∧bc Lx w' (.slice rb xs.length rd) xs)∧aj [] w w':=by
 have hr:=bN.none hr
 have lV:=hr
 have hK:=aj.refl [] w
 have hK0:=aj.refl [] w
 refine jr [.cell 2 43] 29 Tryz.func59 rfl acA rfl rfl rfl ?_
 refine zr<|eu rfl λw1 aI aW db=>?_
 have hK:=hK.grow;have hK:=hK.ext aI
 refine dk iZ rfl rfl rfl λw2 az aN dJ=>?_
 have hK:=hK.grow;have hK:=hK.ext az;have aW:=aW.grow;have aW:=aW.ext az
 refine W ?_
 apply tC cT 7 (rA 5 7) (rA 5 7) [[],[0],[1],[],[3],[4],[]] [It.v _,It.v _,It.p (fun(v:Value) (ww:World)=>∃a c g,v= .slice a xs.length c∧cz ww 9 (.slice a xs.length c) g xs∧∀x,x∈g.toList->w2.heap.size<=x),It.v _,It.v _,It.v _,It.v _] de (by exact⟨λv w w' ⟨a,c,g,e,h1,h2⟩ k=>⟨a,c,g,e,h1.ext k,h2⟩,trivial⟩)
 intro wd aB
 refine VA ?_
 refine vk aB (λx w3 aH=>?_) ?_
 have hK:=hK.ext aH
 refine aA (Xs xs kV _ [] w3 (lV.ext hK)) ?_
 rintro v4 w4 ⟨jU,aO⟩
 have fG:=aO.size
 obtain⟨g9,cO,eA⟩:=jU
 obtain⟨a9,c9,e9⟩:=jw cO
 subst e9
 exact pf aO (⟨_,_,g9,rfl,cO,λx hx=>Nat.le_trans aH.size (eA x hx)⟩)
 refine VA ?_
 refine vk aB (λx w3 aH=>?_) ?_
 refine aA (al8 _ _ _) ?_
 rintro _ _ ⟨rfl,rfl⟩
 exact pv
 exact VZ
 intro x l6 rR
 intro v2 d2
 refine cG rR hK aW aN λhK aW aN=>?_
 change OW _ _ _ _ _ (bm (bg _ x _) (zZ 5 [_,_,_,_,_,_,_])) _
 obtain⟨a9,c9,g9,e9,cO,eA⟩:=d2
 subst e9
 have hR:=cO.rep (L:=w.heap.size::w1.heap.size::Lx) (λb hb hx=>by have:=eA b (by simp[hb]);simp only[mC] at hx;rcases hx with hx|hx|hx;(·omega);(·omega);(·have:=MD b hx;omega))
 refine fz kz rfl rfl rfl aW rfl λmI ie aW alP=>?_
 have hK:=hK.aD ie sx;have aN:=aN.aD ie sx;have hR:=hR.aD ie sx
 refine zf LL rfl<|fz LO rfl rfl rfl aW rfl λow iJ aW Xj=>?_
 have hK:=hK.aD iJ sx;have aN:=aN.aD iJ sx;have hR:=hR.aD iJ sx
 refine W ?_
 refine eH (λk:Nat=>[(1,.pointer (some ⟨w.heap.size,0,none⟩)),(2,.pointer (some ⟨w1.heap.size,0,none⟩)),(14,.slice none 0 0),(15,.int .i64 0),(16,.int .i64 (k:Int))]) (λk w'=>aj [] w w'∧aJ w' w.heap.size [str l,.int .i64 z,.slice a9 xs.length c9,.slice none 0 0].toArray 43∧aJ w' w1.heap.size [str [],.int .i64 0,.slice none 0 0,.slice none 0 0].toArray 43∧bc (w.heap.size::w1.heap.size::Lx) w' (.slice a9 xs.length c9) xs) (λk=>0-k) (0) (⟨rfl,rfl,rfl,rfl,rfl⟩) (⟨hK,aW,aN,hR⟩) λgg pK Vr hI=>?_
 obtain⟨hK,aW,aN,hR⟩:=hI
 have fj:=aW.lt
 have iw:=aN.lt
 refine W ?_
 refine zc rfl (λh1=>?_) (λh1=>?_)
 exfalso
 omega
 refine W ?_
 refine cw iZ rfl rfl rfl aN rfl λqQ nT aN akY=>?_
 have hK:=hK.aD nT sx;have hR:=hR.aD nT sx
 refine W ?_
 exact⟨[_],fb xA iZ rfl aN rfl,⟨_,_,rfl,bN.weaken hR (λx hx=>by simp[hx])⟩,hK⟩
theorem amg (w:World):bz Tryz.prog 122 [.int .i64 ((0:Nat):Int)] w λv w'=>(∃x:ai,v=str x∧x.length<=20)∧aj [] w w':=
 ⟨r7.mk' Tryz.func122 rfl aaO,Calls.mono (Tryz.strconv_Itoa_small 0 de w) λ_ _ ⟨he,hw⟩=>⟨_,he,⟨Lib.decDigits 0,rfl,by unfold Lib.decDigits;simp⟩,hw▸aj.refl _ _⟩⟩
theorem amh (ps:List eP) (mH:ps.length<=1000) (h0:0<ps.length) (HR:ru ps pX=((0:Nat):Int)) (jB:0<(mw ps 0).code.length) (ba:∀b,b∈ps->FL b) (v:Value) (b rb rc:Nat) (w:World) (hp:nK [b,rb] w v ps) (hb:aJ w b [str pX,.int .i64 ((0:Nat):Int),.slice (some ⟨rb,0,none⟩) 40 rc,.slice none 0 0].toArray 43) (hr:cz w 9 (.slice (some ⟨rb,0,none⟩) 40 rc) (some rb) z40) (dH:b≠rb):
  bz Tryz.prog 90 [v,.pointer (some ⟨b,0,none⟩)] w λr w'=>(∃z s,r= .tuple #[.int .i64 z,str s])∧aj [b,rb] w w':=by
 obtain⟨a,c,rfl⟩:=IZ hp
 obtain⟨pb,poff,r1,Xq,r2,Xr,e1,Pr,oU,rE⟩:=I0 hp (DC h0)
 cases e1
 obtain⟨cb,coff,pa,pn,pc,e2,j9,eT,fD⟩:=ik rE (fK jB)
 cases e2
 subst eT
 have hT:=(ba _ (List.mem_of_getElem? (DC h0))).cok _ (List.mem_of_getElem? (fK jB))
 generalize B2:nth (mw ps 0).code 0=t at*
 have hI:=hT.2.2
 have cL:=hT.1.wf
 have ard:=Rf cL
 have Ct:=hT.1.size
 have ami:=FK hI
 have hlen:=ami.2.1
 have jS:0<t.ak.length:=by omega
 obtain⟨tb,toff,q1,q2,q3,e3,arf,nD,Gx⟩:=ik fD (fK jS)
 cases e3
 have ht:=lW fD
 have hK:=aj.refl [] w
 have ig:=hb.lt
 have nG:=hr.lt rb sm
 have Kx:z40.length=40:=by simp[z40]
 refine bX [.tmp 4,.tmp 5] 273 Tryz.func90 rfl acT rfl rfl ?_
 refine W ?_
 apply tC cT 17 (rA 17 16++[6]) (rA 17 16++[6]) [[],[],[],[2],[3],[4],[1,5],[0,6],[7],[8],[],[10],[11],[12],[9,13],[14],[]] [It.v _,It.v _,It.v _,It.v _,It.v _,It.v _,It.v _,It.v _,It.v _,It.v _,It.v _,It.v _,It.v _,It.v _,It.v _,It.v _,It.p (fun(v:Value) (ww:World)=>∃b6,v= .pointer (some ⟨b6,0,none⟩)∧w.heap.size<=b6∧aJ ww b6 [str [],.slice none 0 0].toArray 66)] de (by exact⟨λv w w' ⟨b6,e,h1,h2⟩ k=>⟨b6,e,h1,h2.ext k⟩,trivial⟩)
 intro wd aB
 refine VA ?_
 refine vk aB (λx w1 aI=>?_) ?_
 have hK:=hK.ext aI
 refine aA (Kw ps om pX _ [b,rb] w1 (nK.ext hp hK)) ?_
 rintro v2 w2 ⟨fl,az⟩
 have dy:=az.size
 rw[HR] at fl
 obtain rfl:=fl
 exact pk az
 refine vk aB (λx w1 aI=>?_) ?_
 refine zi BG nq rfl rfl h0 ?_
 exact pv
 refine VA ?_
 refine vk aB (λx w1 aI=>?_) ?_
 have hK:=hK.ext aI
 refine zl LR rfl (Pr.ext hK 2 _ rfl) ?_
 exact pv
 refine vc (λ_ _ _=>WZ pv) ?_
 refine vk aB (λx w1 aI=>?_) ?_
 refine WZ ?_
 exact pv
 refine vc (λ_ _ _=>WZ pv) ?_
 refine vk aB (λx w1 aI=>?_) ?_
 have hK:=hK.ext aI
 refine zl LQ rfl ((hb.ext hK).at rfl) ?_
 exact pv
 refine vk aB (λx w1 aI=>?_) ?_
 refine zi p7 fc rfl rfl jB ?_
 exact pv
 refine vk aB (λx w1 aI=>?_) ?_
 have hK:=hK.ext aI
 refine zL uA fc rfl (j9.ext hK) rfl ?_
 exact pv
 refine vk aB (λx w1 aI=>?_) ?_
 have hK:=hK.ext aI
 refine dk fc rfl rfl rfl ?_
 intro w2 az bA kF
 exact pf az (⟨_,rfl,hK.size,bA⟩)
 exact trivial
 intro x I3 ML
 intro AE d16
 have hK:=hK.ext ML
 change OW _ _ _ _ _ (bm (bg _ x _) (zZ 17 [_,_,_,_,_,_,_,_,_,_,_,_,_,_,_,_]++[(6,_)])) _
 obtain⟨b6,e6,iK,bA⟩:=d16
 subst e6
 refine cw (vs:=[str t.aw,.slice (some ⟨tb,toff,none⟩) t.ak.length pc]) fc rfl rfl rfl bA rfl λnO gi bA oT=>?_
 have hK:=hK.since gi (λx hx=>.inr (by simp at hx;omega))
 refine W ?_
 apply dV cT 6 [33,34,35,36,37,38] [[],[0],[],[2],[3],[1,4]] (it [_,_,_,_,_,_]) de rfl
 intro wd aB
 refine VA ?_
 refine vk aB (λx l6 rR=>?_) ?_
 have hK:=hK.ext rR
 refine aA (Da t cL _ [b,rb] l6 (bC.ext ht hK)) ?_
 rintro _ mI ⟨rfl,ie⟩
 have amj:=ie.size
 exact pk ie
 refine VA ?_
 refine vk aB (λx l6 rR=>?_) ?_
 refine aA (Xg (cg t) t.ak.length om l6) ?_
 rintro _ mI ⟨rfl,ie⟩
 have amj:=ie.size
 exact pk ie
 exact trivial
 intro x Xw amk
 refine bI amk hK bA λhK bA=>?_
 change OW _ _ _ _ _ (bm (bg _ x _) (zZ 33 [_,_,_,_,_,_])) _
 refine W ?_
 refine Dn (l:=1) p7 fc rfl rfl rfl rfl om (ek.ext fD hK) λwY aV=>?_
 have aV:ek [b,rb] Xw wY (t.ak.drop 1):=by rw[ek,K8];exact aV
 obtain⟨a1,c1,rfl⟩:=Xh aV
 have Ds:(t.ak.drop 1).length=t.ak.length-1:=List.length_drop
 refine W ?_
 refine eH (λk:Nat=>[(0,.slice (some ⟨pb,poff,none⟩) ps.length c),(1,.pointer (some ⟨b,0,none⟩)),(6,.pointer (some ⟨b6,0,none⟩)),(7,str (eZ (cg t) t.ak.length)),(8,.slice none 0 0),(41,.slice a1 (t.ak.drop 1).length c1),(42,.int .i64 ((t.ak.drop 1).length:Int)),(43,.int .i64 (k:Int))]) (λk w'=>aj [] w w'∧aj [] Xw w'∧aJ w' b6 [str t.aw,.slice (some ⟨tb,toff,none⟩) t.ak.length pc].toArray 66∧k<=t.ak.length-1∧∀i,i<k->(eZ (cg t) t.ak.length).getD i 0≠115) (λk=>t.ak.length-1-k) (0) (⟨rfl,rfl,rfl,rfl,rfl,rfl,rfl,rfl⟩) (⟨hK,aj.refl [] _,bA,om,by intro i hi;omega⟩) λgg w82 e82 hI=>?_
 obtain⟨hK,aI,bA,hk,cP⟩:=hI
 have gN:=hK.size
 have alO:=aI.size
 have aj3:=bA.lt
 refine W ?_
 refine zc rfl (λh1=>?_) (λh1=>?_)
 have vw:=fK (ps:=t.ak.drop 1) (i:=gg) om
 have oF:=ik aV vw
 obtain⟨b1,eR,gd,pG,gh,e4,bF,qL,nI⟩:=oF
 cases e4
 rw[Pg] at bF qL nI
 refine WL ?_
 refine zL uA fc rfl (bF.ext aI) rfl<|dk fc rfl rfl rfl λEt Eu j7 xN=>cG Eu hK aI bA λhK aI bA=>?_
 refine zA<|cw (vs:=[str (nth t.ak (gg+1)).aw,.slice gd pG gh]) fc rfl rfl rfl j7 rfl λEX wZ j7 rC=>?_
 have hK:=hK.since wZ (λx hx=>.inr (by simp at hx;omega))
 have aI:=aI.since wZ (λx hx=>.inr (by simp at hx;omega))
 have bA:=bA.aG wZ so
 refine W ?_
 refine jM ia rfl rfl rfl rfl (iW om)<|E8 rfl rfl rfl rfl rfl<|aZ<|zc rfl (λh2=>?_) (λh2=>?_)
 have amm:(eZ (cg t) t.ak.length).getD gg 0≠115:=(λe=>by rw[e] at h2;exact h2 rfl)
 refine W ?_
 exact⟨gg+1,⟨rfl,rfl,rfl,rfl,rfl,rfl,rfl,rfl⟩,⟨hK,aI,bA,om,λi hi=>by rcases Nat.lt_or_ge i gg with h9|h9;(·exact cP i h9);(·rw[show i=gg by omega];exact amm)⟩,om⟩
 have hse:(eZ (cg t) t.ak.length).getD gg 0=115:=(UInt8.toNat_inj.1 (by have h9:=h2;show _=115;omega))
 have amo:=ala hI om hse
 obtain⟨r,Xx,mN,_⟩:=Xv amo
 refine WZ ?_
 apply dV cT 9 [52,53,54,55,56,57,58,59,60] [[],[0],[1],[2],[],[4],[5],[3,6],[7]] (it [_,_,_,_,_,_,_,_,_]) de rfl
 intro wd aB
 refine VA ?_
 refine vk aB (λx Dc xd=>?_) ?_
 have hK:=hK.ext xd
 refine zl tl rfl ((hb.ext hK).at rfl) ?_
 exact pv
 refine VA ?_
 refine vk aB (λx Dc xd=>?_) ?_
 refine aA (EW _ mN Dc) ?_
 rintro _ Xy ⟨rfl,Dd⟩
 have amp:=Dd.size
 exact pk Dd
 refine VA ?_
 refine vk aB (λx Dc xd=>?_) ?_
 have hK:=hK.ext xd
 refine zl fA rfl (ak7 (hr.ext hK) Xx 0 _ rfl) ?_
 exact pv
 exact trivial
 intro x Ps EY
 have hK:=hK.ext EY
 change OW _ _ _ _ _ (bm (bg _ x _) (zZ 52 [_,_,_,_,_,_,_,_,_])) _
 refine W ?_
 refine KM (by rfl)<|W ?_
 exact⟨_,rfl,⟨0,[],rfl⟩,aj.any hK⟩
 have k9:gg=t.ak.length-1:=om
 have oh:=ak8 hI (λi hi=>cP i om)
 obtain⟨Pt,bM⟩:=ak9 hI oh
 obtain⟨r,Xx,mN,_⟩:=Xv bM
 refine W ?_
 refine aA (Da t cL _ [b,rb] w82 (bC.ext ht hK)) ?_
 rintro _ Et ⟨rfl,Eu⟩
 have ari:=Eu.size
 refine bI Eu hK bA λhK bA=>?_
 refine W ?_
 refine zc rfl (λh4=>?_) (λh4=>?_)
 have h2:=W7 hI (.inl h4)
 have A9:=ik fD (fK h2)
 obtain⟨_,_,x1,x2,x3,e5,A9,_,_⟩:=A9
 cases e5
 refine WI ?_
 refine zi (i:=2) p7 fc rfl rfl h2<|zf Iq rfl<|zl fA rfl (A9.ext hK 0 _ rfl)<|zA<|aZ<|jq ?_
 have iM:aj [b] w Et:=aj.any hK
 have kh:=hb.ext hK
 have Ba:=ik (ek.aD fD iM (λx hx=>by simp at hx;simp[hx])) (fK Pt)
 obtain⟨_,_,y1,y2,y3,e5,Ba,_,_⟩:=Ba
 cases e5
 have Db:=(hr.aG iM (λx hx=>by cases hx;simp;exact λe=>dH e.symm)).2
 rcases Db with⟨_,_,e6⟩|⟨b9,Xz,XA,e6,e7,jx,XB,XC,XD,_⟩
 (·cases e6)
 cases e6
 cases e7
 have ka:=aj.refl [] Et
 apply dV cT 11 [254,255,256,257,258,259,260,261,262,263,264] [[],[0],[1],[2],[],[4],[5],[6],[7],[8],[]] (it [_,_,_,_,_,_,_,_,_,_,_]) de rfl
 intro wd aB
 refine VA ?_
 refine vk aB (λx EX wZ=>?_) ?_
 refine aA (EW _ mN EX) ?_
 rintro _ Dc ⟨rfl,xd⟩
 have arj:=xd.size
 exact pk xd
 exact VZ
 intro x ark amq
 refine cG amq kh iM jx λkh iM jx=>?_
 change OW _ _ _ _ _ (bm (bg _ x _) (zZ 254 [_,_,_,_,_,_,_,_,_,_,_])) _
 refine W ?_
 refine Dl bf rfl rfl rfl rfl rfl jx om λPs EY XE kG=>?_
 have gL:aj [b,rb] w Ps:=(iM.mono (λx hx=>by simp at hx;simp[hx])).since EY (λx hx=>.inl (by simp at hx;simp[hx]))
 have kh:=kh.aG EY (by simp;exact dH)
 refine W ?_
 refine fz p6 rfl rfl rfl kh rfl λXF Ky XG df=>?_
 have gL:=gL.since Ky (λx hx=>.inl (by simp at hx;simp[hx]))
 refine W ?_
 exact⟨_,rfl,⟨2,[],rfl⟩,gL⟩
 have bF:=h4
 refine W ?_
 refine zc rfl (λh5=>?_) (λh5=>?_)
 exact absurd h5 (by rcases oh with e|e|e<;>rw[e]<;>decide)
 refine W ?_
 refine zc rfl (λh6=>?_) (λh6=>?_)
 exact absurd h6 (by rcases oh with e|e|e<;>rw[e]<;>decide)
 refine W ?_
 refine zc rfl (λh7=>?_) (λh7=>?_)
 exact absurd h7 (by rcases oh with e|e|e<;>rw[e]<;>decide)
 refine W ?_
 refine zc rfl (λh8=>?_) (λh8=>?_)
 exact absurd h8 (by rcases oh with e|e|e<;>rw[e]<;>decide)
 refine W ?_
 refine zc rfl (λh9=>?_) (λh9=>?_)
 exact absurd h9 (by rcases oh with e|e|e<;>rw[e]<;>decide)
 refine W ?_
 refine zc rfl (λfB=>?_) (λfB=>?_)
 exact absurd fB (by rcases oh with e|e|e<;>rw[e]<;>decide)
 refine W ?_
 refine zc rfl (λmB=>?_) (λmB=>?_)
 refine WL ?_
 refine zl FJ rfl ((hb.ext hK).at rfl)<|W ?_
 refine E2 (by rfl)<|WL ?_
 refine zl FJ rfl ((hb.ext hK).at rfl)<|Dm BF rfl rfl rfl<|aA (amg Et) ?_
 rintro v84 EX ⟨amr,wZ⟩
 have ams:=wZ.size
 refine bI wZ hK bA λhK bA=>?_
 obtain⟨xi,e9,hxi⟩:=amr
 subst e9
 refine WL ?_
 refine zl FJ rfl ((hb.ext hK).at rfl)<|zm<|fF BF kz rfl rfl λDc xd amt aro=>bI xd hK bA λhK bA=>?_
 refine Fu (B:=w.heap.size) (L:=[]) (row:=[.sl 1 []]) BF kz rfl rfl rfl rfl rfl rfl (Gr.nil sm hK.size) amt rfl rfl ⟨.nil _ _ _,trivial⟩ sm λa4 ir g4 Xy kO Dd=>bI Dd hK bA λhK bA=>?_
 refine W ?_
 refine fz LO rfl rfl rfl (hb.ext hK) rfl λHb mj kh gv=>?_
 have iM:=(aj.any hK:aj [b] w _).since mj (λx hx=>.inl hx)
 have bA:=bA.aG mj so
 refine W ?_
 have Ba:=ik (ek.aD fD iM (λx hx=>by simp at hx;simp[hx])) (fK Pt)
 obtain⟨_,_,y1,y2,y3,e5,Ba,_,_⟩:=Ba
 cases e5
 have Db:=(hr.aG iM (λx hx=>by cases hx;simp;exact λe=>dH e.symm)).2
 rcases Db with⟨_,_,e6⟩|⟨b9,Xz,XA,e6,e7,jx,XB,XC,XD,_⟩
 (·cases e6)
 cases e6
 cases e7
 have ka:=aj.refl [] Hb
 apply dV cT 11 [254,255,256,257,258,259,260,261,262,263,264] [[],[0],[1],[2],[],[4],[5],[6],[7],[8],[]] (it [_,_,_,_,_,_,_,_,_,_,_]) de rfl
 intro wd aB
 refine VA ?_
 refine vk aB (λx Ch yp=>?_) ?_
 refine aA (EW _ mN Ch) ?_
 rintro _ uT ⟨rfl,sM⟩
 have arp:=sM.size
 exact pk sM
 exact VZ
 intro x arq amu
 refine cG amu kh iM jx λkh iM jx=>?_
 change OW _ _ _ _ _ (bm (bg _ x _) (zZ 254 [_,_,_,_,_,_,_,_,_,_,_])) _
 refine W ?_
 refine Dl bf rfl rfl rfl rfl rfl jx om λVf XH XE kG=>?_
 have gL:aj [b,rb] w Vf:=(iM.mono (λx hx=>by simp at hx;simp[hx])).since XH (λx hx=>.inl (by simp at hx;simp[hx]))
 have kh:=kh.aG XH (by simp;exact dH)
 refine W ?_
 refine fz p6 rfl rfl rfl kh rfl λGP JW XG df=>?_
 have gL:=gL.since JW (λx hx=>.inl (by simp at hx;simp[hx]))
 refine W ?_
 exact⟨_,rfl,⟨2,[],rfl⟩,gL⟩
 have bU:=mB
 refine W ?_
 refine zc rfl (λmD=>?_) (λmD=>?_)
 exact absurd mD (by rcases oh with e|e|e<;>rw[e]<;>decide)
 refine W ?_
 refine zc rfl (λvX=>?_) (λvX=>?_)
 have h2:=W7 hI (.inr vX)
 have A9:=ik fD (fK h2)
 obtain⟨_,_,x1,x2,x3,e5,A9,_,_⟩:=A9
 cases e5
 have eD:=vL (nth t.ak 2)
 have I6:=kX (t:=t) (i:=2) h2
 refine WI ?_
 refine zi (i:=2) p7 fc rfl rfl h2<|zf Iq rfl<|zl fA rfl (A9.ext hK 0 _ rfl)<|aA (Kw ps om _ _ [b,rb] Et (nK.ext hp hK)) ?_
 rintro _ EX ⟨rfl,wZ⟩
 have ams:=wZ.size
 refine bI wZ hK bA λhK bA=>?_
 refine W ?_
 refine zc rfl (λEv=>?_) (λEv=>?_)
 refine W ?_
 exact⟨_,rfl,⟨0,[],rfl⟩,aj.any hK⟩
 refine WI ?_
 refine zi (i:=2) p7 fc rfl rfl h2<|zf Iq rfl<|zl fA rfl (A9.ext hK 0 _ rfl)<|W ?_
 have iM:aj [b] w EX:=aj.any hK
 have kh:=hb.ext hK
 have Ba:=ik (ek.aD fD iM (λx hx=>by simp at hx;simp[hx])) (fK Pt)
 obtain⟨_,_,y1,y2,y3,e5,Ba,_,_⟩:=Ba
 cases e5
 have Db:=(hr.aG iM (λx hx=>by cases hx;simp;exact λe=>dH e.symm)).2
 rcases Db with⟨_,_,e6⟩|⟨b9,Xz,XA,e6,e7,jx,XB,XC,XD,_⟩
 (·cases e6)
 cases e6
 cases e7
 have ka:=aj.refl [] EX
 apply dV cT 11 [254,255,256,257,258,259,260,261,262,263,264] [[],[0],[1],[2],[],[4],[5],[6],[7],[8],[]] (it [_,_,_,_,_,_,_,_,_,_,_]) de rfl
 intro wd aB
 refine VA ?_
 refine vk aB (λx Dc xd=>?_) ?_
 refine aA (EW _ mN Dc) ?_
 rintro _ Xy ⟨rfl,Dd⟩
 have amp:=Dd.size
 exact pk Dd
 exact VZ
 intro x Ps EY
 refine cG EY kh iM jx λkh iM jx=>?_
 change OW _ _ _ _ _ (bm (bg _ x _) (zZ 254 [_,_,_,_,_,_,_,_,_,_,_])) _
 refine W ?_
 refine Dl bf rfl rfl rfl rfl rfl jx om λXF Ky XE kG=>?_
 have gL:aj [b,rb] w XF:=(iM.mono (λx hx=>by simp at hx;simp[hx])).since Ky (λx hx=>.inl (by simp at hx;simp[hx]))
 have kh:=kh.aG Ky (by simp;exact dH)
 refine W ?_
 refine fz p6 rfl rfl rfl kh rfl λars amv XG df=>?_
 have gL:=gL.since amv (λx hx=>.inl (by simp at hx;simp[hx]))
 refine W ?_
 exact⟨_,rfl,⟨2,[],rfl⟩,gL⟩
 have dM:=vX
 refine W ?_
 refine zc rfl (λJZ=>?_) (λJZ=>?_)
 exact absurd JZ (by rcases oh with e|e|e<;>rw[e]<;>decide)
 refine W ?_
 refine zc rfl (λXI=>?_) (λXI=>?_)
 exact absurd XI (by rcases oh with e|e|e<;>rw[e]<;>decide)
 exact absurd oh (by rintro(e|e|e);(·exact bF e);(·exact bU e);(·exact dM e))
theorem kR (z:Nat) (h:z<4611686018427387904) (y:Int) (e:y=(z:Int)):IntKind.i64.wrap y=(z:Int):=by
 rw[e];exact wrap_i64 _ om om
theorem lP (k:Nat) (hk:1<=k) (az:k<=1000000) (br q:Nat) (hq:q<=1000000000) (w:World) (h:dB w br q):
  bz Tryz.prog 62 [.pointer (some ⟨br,0,none⟩),.int .i64 (k:Int)] w λr w'=>(∃z:Nat,r= .int .i64 (z:Int)∧z<k)∧dB w' br (q+1)∧aj [br] w w':=by
 obtain⟨a,n,c,p,bs,jx,hp,cP,hn⟩:=h
 have gj:=cP [br] sm
 have po:n=bs.length:=by obtain⟨a',c',e',_⟩:=rh gj;cases e';exact EU bs
 have hdiv:=Nat.div_le_self p n
 refine bX [.tmp 4] 99 Tryz.func62 rfl acE rfl rfl ?_
 refine WA ?_
 refine nU rfl rfl rfl rfl rfl (kR (p+1) om _ om)<|E6 rfl rfl rfl<|zf RI rfl<|fz (o:=1) p6 rfl rfl rfl jx rfl λw1 aI jx df=>?_
 have gj:=bN.aD gj aI sm
 have hK:=aI
 have hQ:dB w1 br (q+1):=⟨a,n,c,p+1,bs,jx,om,W2 cP aI sm,hn⟩
 refine W ?_
 apply oP 7 17 24 rfl oQ
 intro _
 refine WZ ?_
 exact oQ
 intro xx
 refine aZ<|zc rfl (λh2=>?_) (λh2=>?_)
 have h0:n=0:=(by simp at h2;omega)
 refine W ?_
 exact⟨_,rfl,⟨0,rfl,om⟩,hQ,hK⟩
 have h0:0<n:=(by simp at h2;omega)
 refine WA ?_
 refine xh rfl rfl rfl rfl rfl (kR p om _ om)<|W ?_
 refine zc rfl (λh3=>?_) (λh3=>?_)
 have h1:p<n:=(by simp at h3;omega)
 have pY:=Ku gj (i:=p) om
 obtain⟨b1,eR,x1,e1,bF⟩:=pY
 cases e1
 have ij:=x1.toNat_lt
 refine WI ?_
 refine zi BE FI rfl rfl h1<|W ?_
 refine xk xB vO rfl rfl rfl (wrap_i64 _ om om)<|zm<|E9 rfl rfl rfl rfl rfl om<|zA<|aZ<|jJ ?_
 exact⟨_,rfl,⟨x1.toNat%k,rfl,Nat.mod_lt _ om⟩,hQ,hK⟩
 have h1:=Nat.mod_lt p h0
 have h2:=Nat.mod_lt (p*7+3) h0
 have pY:=Ku gj (i:=p%n) om
 obtain⟨b1,eR,x1,e1,bF⟩:=pY
 cases e1
 have ij:=x1.toNat_lt
 have iT:=Ku gj (i:=(p*7+3)%n) om
 obtain⟨b2,l5,x2,e2,bU⟩:=iT
 cases e2
 have fh:=x2.toNat_lt
 refine WZ ?_
 apply dV cT 46 [47,48,49,50,51,52,53,54,55,56,57,58,59,60,61,62,63,64,65,66,67,68,69,70,71,72,73,74,75,76,77,78,79,80,81,82,83,84,85,86,87,88,89,90,91,6] [[],[0],[1],[2],[],[],[5],[6],[7],[8],[4,9],[3,10],[11],[12],[13],[],[15],[16],[17],[],[19],[20],[],[22],[23],[24],[25],[21,26],[18,27],[28],[29],[30],[14,31],[],[33],[32,34],[],[],[37],[38],[39],[40],[36,41],[42],[35,43],[44]] (it [_,_,_,_,_,_,_,_,_,_,_,_,_,_,_,_,_,_,_,_,_,_,_,_,_,_,_,_,_,_,_,_,_,_,_,_,_,_,_,_,_,_,_,_,_,_]) de rfl
 intro wd aB
 refine VA ?_
 refine vk aB (λx w2 az=>?_) ?_
 refine E9 rfl rfl rfl rfl rfl om ?_
 exact pv
 refine VA ?_
 refine vk aB (λx w2 az=>?_) ?_
 refine xk xB vO rfl rfl rfl (kR x1.toNat om _ rfl) ?_
 exact pv
 refine vk aB (λx w2 az=>?_) ?_
 refine H0 rfl rfl rfl rfl rfl (kR (x1.toNat*131) om _ om) ?_
 exact pv
 refine zW ?_
 refine vk aB (λx w2 az=>?_) ?_
 refine WZ ?_
 exact pv
 refine vc (λ_ _ _=>WZ pv) ?_
 refine vk aB (λx w2 az=>?_) ?_
 have jx:=jx.ext az
 refine WZ ?_
 exact pv
 refine vc (λ_ _ _=>WZ pv) ?_
 refine VA ?_
 refine vk aB (λx w2 az=>?_) ?_
 refine E9 rfl rfl rfl rfl rfl om ?_
 exact pv
 refine VA ?_
 refine vk aB (λx w2 az=>?_) ?_
 refine xk xB vO rfl rfl rfl (kR x2.toNat om _ rfl) ?_
 exact pv
 refine vk aB (λx w2 az=>?_) ?_
 refine H0 rfl rfl rfl rfl rfl (kR (x2.toNat*1117) om _ om) ?_
 exact pv
 refine vk aB (λx w2 az=>?_) ?_
 refine nU rfl rfl rfl rfl rfl (kR (x1.toNat*131+x2.toNat*1117) om _ om) ?_
 exact pv
 refine zW ?_
 refine VA ?_
 refine vk aB (λx w2 az=>?_) ?_
 refine KP rfl rfl rfl rfl rfl om (kR (p/n) om _ rfl) ?_
 exact pv
 refine vk aB (λx w2 az=>?_) ?_
 refine H0 rfl rfl rfl rfl rfl (kR (p/n*53) om _ sm) ?_
 exact pv
 refine vk aB (λx w2 az=>?_) ?_
 refine nU rfl rfl rfl rfl rfl (kR (x1.toNat*131+x2.toNat*1117+p*29+p/n*53) om _ sm) ?_
 exact pv
 exact VZ
 intro x nO gi
 change OW _ _ _ _ [] (bm (bg _ x _) (zZ 47 [_,_,_,_,_,_,_,_,_,_,_,_,_,_,_,_,_,_,_,_,_,_,_,_,_,_,_,_,_,_,_,_,_,_,_,_,_,_,_,_,_,_,_,_,_]++[(6,_)])) _
 have hX:x1.toNat*131+x2.toNat*1117+p*29+p/n*53<4611686018427387904:=om
 have hXx:∃z,z=x1.toNat*131+x2.toNat*1117+p*29+p/n*53:=⟨_,rfl⟩
 obtain⟨X,hXe⟩:=hXx
 rw[<-hXe] at hX⊢
 refine bI gi hQ hK λhQ hK=>?_
 refine W ?_
 refine KP (b:=64) rfl rfl rfl rfl rfl om (kR (X/64) om _ rfl)<|ak0 rfl rfl rfl rfl om om<|zA<|aZ<|zr<|zm<|zm<|E9 rfl rfl rfl rfl rfl om<|zA<|aZ<|jJ ?_
 exact⟨_,rfl,⟨(X^^^X/64)%k,rfl,Nat.mod_lt _ om⟩,hQ,hK⟩
theorem amy (bs:List UInt8) (hb:bs.length<=1000000000) (v:Value) (w:World) (hv:bN [] w v (.sl 1 (qy bs))):
  bz Tryz.prog 37 [v] w λr w'=>(∃br,r= .pointer (some ⟨br,0,none⟩)∧w.heap.size<=br∧dB w' br 0)∧aj [] w w':=by
 obtain⟨a,c,rfl,_⟩:=rh hv
 rw[EU]
 rw[EU] at hv
 have hK:=aj.refl [] w
 refine bX [.tmp 2] 11 Tryz.func37 rfl acp rfl rfl ?_
 refine W ?_
 refine iD (λq:Option Addr×Nat×Nat=>[(0,.slice q.1 q.2.1 q.2.2)]) (λq ww=>aj [] w ww∧(∃bs',bN [] ww (.slice q.1 q.2.1 q.2.2) (.sl 1 (qy bs')))∧q.2.1<=1000000000) ?_ ?_
 refine zc rfl (λh1=>?_) (λh1=>?_)
 have h2:2000<bs.length:=om
 have hg:=Ku hv (i:=0) om
 obtain⟨b1,eR,x1,e1,_⟩:=hg
 cases e1
 refine lp<|zm<|W1 (h:=2000) BE FI rfl rfl rfl rfl om hv<|zA<|aZ ?_
 exact⟨(_,2000,_),rfl,hK,⟨bs.take 2000,by have:=W0 hv (h:=2000) om;rw[show(qy bs).take 2000=qy (bs.take 2000) from by simp[qy,List.map_take]] at this;exact this⟩,by show 2000<=_;omega⟩
 refine WZ ?_
 exact⟨(_,_,_),rfl,hK,⟨bs,hv⟩,hb⟩
 intro gu w1 e1 hI
 obtain⟨a2,n2,c2⟩:=gu
 dsimp only at hI⊢
 obtain⟨hK,⟨XJ,De⟩,eK⟩:=hI
 have amz:=De
 have mM:=hK.size
 refine zr<|zm<|iO (ac4 _ _ _ _) rfl rfl<|eu rfl λw2 az j7 dJ=>?_
 have hK:=hK.ext az
 refine W ?_
 exact⟨_,rfl,⟨_,rfl,mM,⟨a2,n2,c2,0,XJ,j7,lR _,λL hL=>(bN.fresh amz (L':=L) (λx hx=>.inr (hL x hx))).ext az,eK⟩⟩,hK⟩
theorem ml (xs:List ai) (dH:0<xs.length) (hl:xs.length<=1000000) (br q:Nat) (hq:q<=1000000000) (v:Value) (w:World) (h:dB w br q) (hv:bc [br] w v xs):
  bz Tryz.prog 69 [.pointer (some ⟨br,0,none⟩),v] w λr w'=>(∃x,x∈xs∧r=str x)∧dB w' br (q+1)∧aj [br] w w':=by
 obtain⟨a,n,c,rfl,hn⟩:=dI hv
 subst hn
 refine bX [.tmp 4] 12 Tryz.func69 rfl acJ rfl rfl ?_
 refine W ?_
 refine aA (lP xs.length om om br q hq w h) ?_
 rintro v9 w1 ⟨⟨z,e9,hz⟩,hQ,aC⟩
 subst e9
 have fl:=bN.aD hv aC sm
 have hg:=nS fl hz
 obtain⟨b1,eR,e1,bF⟩:=hg
 cases e1
 refine zi bh bf rfl rfl hz<|W ?_
 exact⟨_,rfl,⟨_,List.mem_of_getElem? (jN hz),rfl⟩,hQ,aC⟩
theorem HS (br q:Nat) (hq:q<=1000000000) (w:World) (h:dB w br q):
  bz Tryz.prog 114 [.pointer (some ⟨br,0,none⟩)] w λr w'=>(∃z,z<6∧r=str (aT z))∧dB w' br (q+1)∧aj [br] w w':=by
 refine bX [.tmp 2] 6 Tryz.func114 rfl aaK rfl rfl ?_
 refine W ?_
 refine aA (lP 6 de de br q hq w h) ?_
 rintro v9 w1 ⟨⟨z,e9,hz⟩,hQ,aC⟩
 subst e9
 refine aA (iq (z+1) z om om w1) ?_
 rintro _ w2 ⟨rfl,az⟩
 have dy:=az.size
 refine bI az hQ aC λhQ aC=>?_
 refine W ?_
 exact⟨_,rfl,⟨z,hz,rfl⟩,hQ,aC⟩
theorem amA {x:ai} (h:x∈([[62],[42]]:List ai)):∃f,x=jP f:=by
 simp only[mC,List.not_mem_nil,or_false] at h
 rcases h with rfl|rfl
 ·exact⟨true,rfl⟩
 ·exact⟨false,rfl⟩
theorem Pu (d:Nat):d<=10->∀(br q:Nat),q+3*2^d<=1000000000->∀(w:World),dB w br q->
  bz Tryz.prog 131 [.pointer (some ⟨br,0,none⟩),.int .i64 (d:Int)] w λr w'=>(∃T:Ty,r=str T.text∧T.n+1<=2^(d+1))∧dB w' br (q+(3*2^d-2))∧aj [br] w w':=by
 induction d using Nat.strongRecOn with
 |_ d ih=>
  intro hd br q hq w h
  have oU:1<=2^d:=Nat.one_le_two_pow
  have rE:2^(d+1)=2*2^d:=by rw[Nat.pow_succ];omega
  have DX:2^d<=1024:=Nat.pow_le_pow_right (n:=2) de hd
  refine bX [.tmp 4] 29 Tryz.func131 rfl aaU rfl rfl ?_
  refine W ?_
  refine xl (t:=7) rfl (λh1=>?_) (λh1=>?_)
  replace h1:=jG h1
  have Pm:d=0:=(by simp at h1;omega)
  refine W ?_
  refine zc rfl (λh2=>?_) (λh2=>?_)
  refine W ?_
  exact⟨_,rfl,⟨.i,by rw[Ty.LV];rfl,by show 1+1<=_;omega⟩,h.more om,aj.refl _ _⟩
  simp at h2
  replace h1:=jG h1
  have Pm:1<=d:=(by simp at h1;omega)
  have WH:2^d=2*2^(d-1):=(by rw[<-Nat.pow_succ'];congr 1;omega)
  have hp5:2^(d-1+1)=2^d:=(by congr 1;omega)
  have hp6:1<=2^(d-1):=Nat.one_le_two_pow
  refine zm<|aA (lP 2 de de br q om w h) ?_
  rintro v9 w1 ⟨⟨z,e9,hz⟩,hQ,aC⟩
  subst e9
  refine W ?_
  refine zc rfl (λh3=>?_) (λh3=>?_)
  refine W ?_
  exact⟨_,rfl,⟨.i,by rw[Ty.LV];rfl,by show 1+1<=_;omega⟩,hQ.more om,aC⟩
  have lQ:=hQ.lt
  refine gz<|zr<|zm<|kK bh bf rfl rfl rfl rfl λw2 az lF dJ=>bI az hQ aC λhQ aC=>?_
  refine aA (ml [[62],[42]] de de br (q+1) om _ w2 hQ (aJ.dK [[62],[42]] lF (λhx=>by simp at hx;omega))) ?_
  rintro l9 w3 ⟨⟨xx,hi,gR⟩,hQ,du⟩
  have hf:=amA hi
  obtain⟨f,hf⟩:=hf
  rw[hf] at gR
  subst gR
  have aC:=aC.trans du
  have oV:=LW f
  refine WA ?_
  refine xh rfl rfl rfl rfl rfl (kR (d-1) om _ om)<|aA (ih (d-1) om om br (q+1+1) om w3 hQ) ?_
  rintro v20 w4 ⟨⟨A,pd,hA⟩,hQ,wU⟩
  subst pd
  have aC:=aC.trans wU
  have V3:=A.len
  refine WA ?_
  refine xh rfl rfl rfl rfl rfl (kR (d-1) om _ om)<|aA (ih (d-1) om om br _ om w4 hQ) ?_
  rintro v26 w5 ⟨⟨B,OY,hB⟩,hQ,amB⟩
  subst OY
  have aC:=aC.trans amB
  have V4:=B.len
  refine W ?_
  exact⟨_,rfl,⟨.op f A B,by show str (((((([40]++jP f)++[32])++A.text)++[32])++B.text)++[41])=str _;rw[Ty.Iw];simp,by show 1+A.n+B.n+1<=_;omega⟩,hQ.more om,aC⟩
def Bb:Ty->ai
 | .i=>[48]
 | .op false a b=>[40,112,97,105,114,32]++Bb a++[32]++Bb b++[41]
 | .op true a b=>[40,102,117,110,32,102,32,120,32]++a.text++[32]++b.text++[32]++Bb b++[41]
theorem Bc:∀T:Ty,T.n<=60->(Bb T).length<=500*T.n
 | .i,_=>by simp[Bb,Ty.n]
 | .op false a b,h=>by
  simp only[Ty.n] at h⊢
  have:=Bc a om
  have:=Bc b om
  simp only[Bb,lA,lC,List.length_nil];omega
 | .op true a b,h=>by
  simp only[Ty.n] at h⊢
  have:=Bc b om
  have:=a.len
  have:=b.len
  simp only[Bb,lA,lC,List.length_nil];omega
theorem XK (T:Ty):T.n<=60->∀(v:Value) (L:List Nat) (w:World),bC L w v T.aq->bz Tryz.prog 228 [v] w λr w'=>r=str (Bb T)∧aj [] w w':=by
 induction T with
 |i=>
  intro hn v L w hv
  obtain⟨ar,nr,cr,rfl,pW,aQ⟩:=dj hv
  have hK:=aj.refl [] w
  refine bX [.tmp 2] 47 Tryz.func228 rfl LF rfl rfl ?_
  refine zr<|eu rfl λw1 aI aW db=>?_
  have hK:=hK.ext aI
  refine W ?_
  refine zc rfl (λh1=>?_) (λh1=>?_)
  refine W ?_
  exact⟨_,rfl,rfl,hK⟩
  exact absurd h1 de
 |op f a b iha ihb=>
  intro hn v L w hv
  cases f with
  |false=>
   obtain⟨ar,nr,cr,rfl,pW,aQ⟩:=dj hv
   subst pW
   have eK:1+a.n+b.n<=60:=hn
   have F8:=Bc a om
   have EZ:=Bc b om
   have xU:=a.len
   have htb:=b.len
   have XL:=a.size
   have XM:=b.size
   have N9:(Ty.op false a b).aq.ak.length=3:=rfl
   obtain⟨b0,AA,xP,xQ,e0,er,_⟩:=eS aQ (i:=0) om
   cases e0
   have er:fp L w _ _ [str (jP false),.slice xP 0 xQ]:=er
   obtain⟨b1,eR,gd,gh,e1,bF,cK⟩:=eS aQ (i:=1) om
   cases e1
   have bF:fp L w _ _ [str a.aq.aw,.slice gd a.aq.ak.length gh]:=bF
   have cK:bC L w (.agg #[str a.aq.aw,.slice gd a.aq.ak.length gh]) a.aq:=cK
   obtain⟨b2,l5,iA,iB,e2,bU,dG⟩:=eS aQ (i:=2) om
   cases e2
   have bU:fp L w _ _ [str b.aq.aw,.slice iA b.aq.ak.length iB]:=bU
   have dG:bC L w (.agg #[str b.aq.aw,.slice iA b.aq.ak.length iB]) b.aq:=dG
   have hK:=aj.refl [] w
   refine bX [.tmp 2] 47 Tryz.func228 rfl LF rfl rfl<|zr<|eu rfl λw1 aI aW db=>sB aI hK er bF bU cK dG λhK er bF bU cK dG=>?_
   refine W ?_
   refine zc rfl (λh1=>?_) (λh1=>?_)
   exact absurd rfl h1
   refine WI ?_
   refine zi (i:=0) cB aL rfl rfl ((show 0<3 from om))<|W ?_
   refine zc rfl (λh2=>?_) (λh2=>?_)
   refine WZ ?_
   apply dV cT 15 [12,13,14,15,16,17,18,19,20,21,22,23,24,25,2] [[],[0],[1],[2],[3],[4],[5],[],[7],[8],[9],[10],[6,11],[12],[13]] (it [_,_,_,_,_,_,_,_,_,_,_,_,_,_,_]) de rfl
   intro wd aB
   refine VA ?_
   refine vk aB (λx w2 az=>?_) ?_
   refine zi (i:=1) cB aL rfl rfl ((show 1<3 from om)) ?_
   exact pv
   refine VA ?_
   refine vk aB (λx w2 az=>?_) ?_
   have cK:=cK.ext az
   refine aA (iha om _ _ w2 cK) ?_
   rintro _ w3 ⟨rfl,aH⟩
   have eU:=aH.size
   exact pk aH
   refine VA ?_
   refine vk aB (λx w2 az=>?_) ?_
   refine zi (i:=2) cB aL rfl rfl ((show 2<3 from om)) ?_
   exact pv
   refine VA ?_
   refine vk aB (λx w2 az=>?_) ?_
   have dG:=dG.ext az
   refine aA (ihb om _ _ w2 dG) ?_
   rintro _ w3 ⟨rfl,aH⟩
   have eU:=aH.size
   exact pk aH
   exact VZ
   intro x nO gi
   have hK:=hK.ext gi
   change OW _ _ _ _ [] (bm (bg _ x _) (zZ 12 [_,_,_,_,_,_,_,_,_,_,_,_,_,_]++[(2,_)])) _
   refine W ?_
   exact⟨_,rfl,rfl,hK⟩
   exact absurd rfl h2
  |true=>
   obtain⟨ar,nr,cr,rfl,pW,aQ⟩:=dj hv
   subst pW
   have eK:1+a.n+b.n<=60:=hn
   have F8:=Bc a om
   have EZ:=Bc b om
   have xU:=a.len
   have htb:=b.len
   have XL:=a.size
   have XM:=b.size
   have N9:(Ty.op true a b).aq.ak.length=3:=rfl
   obtain⟨b0,AA,xP,xQ,e0,er,_⟩:=eS aQ (i:=0) om
   cases e0
   have er:fp L w _ _ [str (jP true),.slice xP 0 xQ]:=er
   obtain⟨b1,eR,gd,gh,e1,bF,cK⟩:=eS aQ (i:=1) om
   cases e1
   have bF:fp L w _ _ [str a.aq.aw,.slice gd a.aq.ak.length gh]:=bF
   have cK:bC L w (.agg #[str a.aq.aw,.slice gd a.aq.ak.length gh]) a.aq:=cK
   obtain⟨b2,l5,iA,iB,e2,bU,dG⟩:=eS aQ (i:=2) om
   cases e2
   have bU:fp L w _ _ [str b.aq.aw,.slice iA b.aq.ak.length iB]:=bU
   have dG:bC L w (.agg #[str b.aq.aw,.slice iA b.aq.ak.length iB]) b.aq:=dG
   have hK:=aj.refl [] w
   refine bX [.tmp 2] 47 Tryz.func228 rfl LF rfl rfl<|zr<|eu rfl λw1 aI aW db=>sB aI hK er bF bU cK dG λhK er bF bU cK dG=>?_
   refine W ?_
   refine zc rfl (λh1=>?_) (λh1=>?_)
   exact absurd rfl h1
   refine WI ?_
   refine zi (i:=0) cB aL rfl rfl ((show 0<3 from om))<|W ?_
   refine zc rfl (λh2=>?_) (λh2=>?_)
   exact absurd h2 de
   refine WZ ?_
   apply dV cT 22 [26,27,28,29,30,31,32,33,34,35,36,37,38,39,40,41,42,43,44,45,46,2] [[],[0],[1],[2],[3],[4],[5],[],[7],[8],[9],[10],[6,11],[12],[],[14],[15],[16],[17],[13,18],[19],[20]] (it [_,_,_,_,_,_,_,_,_,_,_,_,_,_,_,_,_,_,_,_,_,_]) de rfl
   intro wd aB
   refine VA ?_
   refine vk aB (λx w2 az=>?_) ?_
   refine zi (i:=1) cB aL rfl rfl ((show 1<3 from om)) ?_
   exact pv
   refine VA ?_
   refine vk aB (λx w2 az=>?_) ?_
   have cK:=cK.ext az
   refine aA (tG a.aq.size a.aq (lR _) a.nZ.wf om (show a.text.length<=100000000 from om) _ _ w2 cK) ?_
   rintro _ w3 ⟨rfl,aH⟩
   have eU:=aH.size
   exact pk aH
   refine vk aB (λx w2 az=>?_) ?_
   refine gU rfl rfl rfl rfl (by have h9:a.aq.text.length=a.text.length:=rfl;simp;omega) ?_
   exact pv
   refine vk aB (λx w2 az=>?_) ?_
   refine gU rfl rfl rfl rfl (by have h9:a.aq.text.length=a.text.length:=rfl;simp;omega) ?_
   exact pv
   refine VA ?_
   refine vk aB (λx w2 az=>?_) ?_
   refine zi (i:=2) cB aL rfl rfl ((show 2<3 from om)) ?_
   exact pv
   refine VA ?_
   refine vk aB (λx w2 az=>?_) ?_
   have dG:=dG.ext az
   refine aA (tG b.aq.size b.aq (lR _) b.nZ.wf om (show b.text.length<=100000000 from om) _ _ w2 dG) ?_
   rintro _ w3 ⟨rfl,aH⟩
   have eU:=aH.size
   exact pk aH
   refine vk aB (λx w2 az=>?_) ?_
   refine gU rfl rfl rfl rfl (by have h9:a.aq.text.length=a.text.length:=rfl;have fB:b.aq.text.length=b.text.length:=rfl;simp;omega) ?_
   exact pv
   refine vk aB (λx w2 az=>?_) ?_
   refine gU rfl rfl rfl rfl (by have h9:a.aq.text.length=a.text.length:=rfl;have fB:b.aq.text.length=b.text.length:=rfl;simp;omega) ?_
   exact pv
   refine VA ?_
   refine vk aB (λx w2 az=>?_) ?_
   refine zi (i:=2) cB aL rfl rfl ((show 2<3 from om)) ?_
   exact pv
   refine VA ?_
   refine vk aB (λx w2 az=>?_) ?_
   have dG:=dG.ext az
   refine aA (ihb om _ _ w2 dG) ?_
   rintro _ w3 ⟨rfl,aH⟩
   have eU:=aH.size
   exact pk aH
   refine vk aB (λx w2 az=>?_) ?_
   refine gU rfl rfl rfl rfl (by have h9:a.aq.text.length=a.text.length:=rfl;have fB:b.aq.text.length=b.text.length:=rfl;simp;omega) ?_
   exact pv
   refine vk aB (λx w2 az=>?_) ?_
   refine gU rfl rfl rfl rfl (by have h9:a.aq.text.length=a.text.length:=rfl;have fB:b.aq.text.length=b.text.length:=rfl;simp;omega) ?_
   exact pv
   exact VZ
   intro x nO gi
   have hK:=hK.ext gi
   change OW _ _ _ _ [] (bm (bg _ x _) (zZ 26 [_,_,_,_,_,_,_,_,_,_,_,_,_,_,_,_,_,_,_,_,_]++[(2,_)])) _
   refine W ?_
   exact⟨_,rfl,rfl,hK⟩
def Pv:List ai:=[[40,43,32,120,56,32,40,99,97,108,108,32,102,56,32,40,45,32,120,56,32,49,41,41,41],[40,99,97,108,108,32,102,56,32,40,45,32,120,56,32,49,41,41],[40,42,32,120,56,32,40,99,97,108,108,32,102,56,32,40,45,32,120,56,32,49,41,41,41],[40,45,32,48,32,40,99,97,108,108,32,102,56,32,40,45,32,120,56,32,49,41,41,41]]
theorem amD (br q:Nat) (hq:q<=900000000) (w:World) (h:dB w br q):
  bz Tryz.prog 162 [.pointer (some ⟨br,0,none⟩)] w λr w'=>(∃x,r=str x∧x.length<=200)∧dB w' br (q+3)∧aj [br] w w':=by
 have hQ:=h
 have aC:=aj.refl [br] w
 have lQ:=h.lt
 refine bX [.tmp 2] 20 Tryz.func162 rfl abk rfl rfl ?_
 refine W ?_
 refine xV bh bf rfl rfl rfl rfl rfl rfl λw1 aI cN db=>bI aI hQ aC λhQ aC=>?_
 refine aA (ml Pv de de br q om _ w1 hQ (aJ.dK Pv cN (λhx=>by simp at hx;omega) de)) ?_
 rintro l9 w2 ⟨⟨x1,hi,gR⟩,hQ,du⟩
 subst gR
 have aC:=aC.trans du
 have fj:=(show∀x,x∈Pv->x.length<=30 from by decide) _ hi
 have lQ:=hQ.lt
 clear cN
 refine W ?_
 refine pI bh bf rfl rfl rfl rfl rfl λw3 aH cJ gv=>bI aH hQ aC λhQ aC=>?_
 refine aA (ml [[48],[49],[53]] de de br (q+1) om _ w3 hQ (aJ.dK [[48],[49],[53]] cJ (λhx=>by simp at hx;omega))) ?_
 rintro AH w4 ⟨⟨x2,hj,Em⟩,hQ,jg⟩
 subst Em
 have aC:=aC.trans jg
 have iw:=(show∀x,x∈([[48],[49],[53]]:List ai)->x.length<=30 from by decide) _ hj
 clear cJ
 refine W ?_
 refine aA (lP 7 de de br (q+2) om w4 hQ) ?_
 rintro AE w5 ⟨⟨z,AW,hz⟩,hQ,mQ⟩
 subst AW
 have aC:=aC.trans mQ
 have Ds:=sE (n:=z) om
 refine aA (iq (z+1) z om om w5) ?_
 rintro _ w6 ⟨rfl,bO⟩
 have ox:=bO.size
 refine bI bO hQ aC λhQ aC=>?_
 refine W ?_
 exact⟨_,rfl,⟨_,rfl,by simp;omega⟩,hQ,aC⟩
theorem XN (s:ai) (w:World):bz Tryz.prog 199 [str s] w λr w'=>(∃x ok,r= .tuple #[str x,.bool ok]∧x.length<=8000)∧aj [] w w':=by
 have hK:=aj.refl [] w
 refine bX [.tmp 2,.tmp 3] 26 Tryz.func199 rfl abO rfl rfl ?_
 refine W ?_
 refine aA (Ak s [] w sm) ?_
 rintro v1 w1 ⟨fX,aI⟩
 have dm:=aI.size
 have hK:=hK.ext aI
 have eN:=fX
 obtain⟨t,tv,e9,ht,hp⟩:=eN
 subst e9
 have bY:=dj ht
 obtain⟨pa,pn,pc,e9,eT,_⟩:=bY
 subst e9
 subst eT
 have mM:=hK.size
 refine W ?_
 refine dk aL rfl rfl rfl λw2 az aF gC=>?_
 have dh:=az
 refine cw (vs:=[str t.aw,.slice pa t.ak.length pc]) aL rfl rfl rfl aF rfl λw3 aH aF df=>?_
 have dh:=dh.since aH (λx hx=>.inr (by simp at hx;omega))
 refine bI dh ht hK λht hK=>?_
 refine W ?_
 refine xl (t:=13) rfl (λh1=>?_) (λh1=>?_)
 replace h1:=jG h1
 refine zs<|zs<|zs<|zp rfl<|zm<|sd (t:=18) (b:=true) rfl<|zs<|zs<|zs<|zs<|zp rfl<|aZ<|zc rfl (λh2=>?_) (λh2=>?_)
 refine W ?_
 exact⟨_,rfl,⟨[],false,rfl,sm⟩,hK⟩
 simp at h2
 replace h1:=jG h1
 have ba:(bB s).isSome=true:=(by simpa using h1)
 have cL:=DB hp ba
 refine W ?_
 refine aA (Az t om cL.1 _ _ w3 ht) ?_
 rintro _ w4 ⟨rfl,aO⟩
 have fG:=aO.size
 refine cG aO hK aF ht λhK aF ht=>?_
 refine W ?_
 refine xl (t:=18) rfl (λh3=>?_) (λh3=>?_)
 replace h3:=jG h3
 refine W ?_
 refine zc rfl (λh4=>?_) (λh4=>?_)
 refine W ?_
 exact⟨_,rfl,⟨[],false,rfl,sm⟩,hK⟩
 simp at h4
 replace h3:=jG h3
 have eM:jQ t=true:=(by simpa using h3)
 have hu:=(zy cL.1).1 eM
 obtain⟨T,B2,HM⟩:=hu
 have pL:=ht
 rw[B2] at pL
 refine W ?_
 refine aA (XK T om _ _ w4 (ht.eq B2)) ?_
 rintro _ w5 ⟨rfl,aP⟩
 have og:=aP.size
 refine cG aP hK aF ht λhK aF ht=>?_
 have xj:=Bc T om
 refine aA (Nl _ w5) ?_
 rintro _ w6 ⟨rfl,bO⟩
 have ox:=bO.size
 refine cG bO hK aF ht λhK aF ht=>?_
 refine W ?_
 refine zc rfl (λh5=>?_) (λh5=>?_)
 refine W ?_
 exact⟨_,rfl,⟨[],false,rfl,sm⟩,hK⟩
 refine W ?_
 refine aA (XK T om _ _ w6 (ht.eq B2)) ?_
 rintro _ w7 ⟨rfl,bV⟩
 have ov:=bV.size
 have hK:=hK.ext bV
 refine W ?_
 exact⟨_,rfl,⟨_,true,rfl,om⟩,hK⟩
theorem amE:ri Tryz.prog 152=true:=by kernel_rfl
theorem Kz (ns ts:List ai) (nm kd:ai) (fj:ns.length<100000) (iw:ts.length<100000) (v1 v2:Value) (L:List Nat) (w:World) (hL:∀x,x∈L->x<w.heap.size) (h1:bc L w v1 ns) (h2:bc L w v2 ts):
  bz Tryz.prog 161 [.agg #[v1,v2],str nm,str kd] w λr w'=>(∃u1 u2,r= .agg #[u1,u2]∧bc L w' u1 (ns++[nm])∧bc L w' u2 (ts++[kd]))∧aj [] w w':=by
 obtain⟨a1,n1,c1,rfl,_⟩:=dI h1
 obtain⟨a2,n2,c2,rfl,_⟩:=dI h2
 have hK:=aj.refl [] w
 refine jr [.cell 6 152] 18 Tryz.func161 rfl abj rfl rfl rfl ?_
 refine zr<|eu rfl λw1 aI cF db=>cG aI hK h1 h2 λhK h1 h2=>?_
 refine dk BD rfl rfl rfl λw2 az bA kF=>?_
 have hK:=hK.ext az
 have h1:=(bc.fresh h1 (L':=w1.heap.size::L) (λx hx=>by rcases mC.1 hx with h9|h9;(·right;omega);(·exact .inl h9))).ext az
 have h2:=(bc.fresh h2 (L':=w1.heap.size::L) (λx hx=>by rcases mC.1 hx with h9|h9;(·right;omega);(·exact .inl h9))).ext az
 have KB:∀x,x∈w1.heap.size::L->x<w2.heap.size:=(λx hx=>by rcases mC.1 hx with h9|h9;(·omega);(·have:=hL x h9;omega))
 have cF:=cF.ext az
 have iK:=hK.size
 refine W ?_
 apply tC cT 11 (rA 7 11) (rA 7 11) [[],[0],[],[2],[1,3],[],[5],[],[7],[6,8],[4,9]] [It.v _,It.v _,It.v _,It.p (fun(v:Value) (ww:World)=>bc (w1.heap.size::L) ww v [nm]),It.p (fun(v:Value) (ww:World)=>bc (w1.heap.size::L) ww v (ns++[nm])),It.v _,It.v _,It.v _,It.p (fun(v:Value) (ww:World)=>bc (w1.heap.size::L) ww v [kd]),It.p (fun(v:Value) (ww:World)=>bc (w1.heap.size::L) ww v (ts++[kd])),It.p (fun(v:Value) (ww:World)=>∃b1 m1 d1 b2 m2 d2,v= .agg #[.slice b1 m1 d1,.slice b2 m2 d2]∧bc (w1.heap.size::L) ww (.slice b1 m1 d1) (ns++[nm])∧bc (w1.heap.size::L) ww (.slice b2 m2 d2) (ts++[kd]))] de (by exact⟨λv w w' h k=>bN.ext h k,λv w w' h k=>bN.ext h k,λv w w' h k=>bN.ext h k,λv w w' h k=>bN.ext h k,λv w w' ⟨b1,m1,d1,b2,m2,d2,e,g1,g2⟩ k=>⟨b1,m1,d1,b2,m2,d2,e,bN.ext g1 k,bN.ext g2 k⟩,trivial⟩)
 intro wd aB
 refine VA ?_
 refine vk aB (λx w3 aH=>?_) ?_
 refine fF bh bf rfl rfl λw4 aO j7 gC=>?_
 exact pf aO ((aJ.dK [nm] j7 (λhx=>by have:=KB _ hx;have:=aH.size;omega)))
 refine vk aB (λx w3 aH=>?_) ?_
 have h1:=h1.ext aH
 intro v3 d3
 refine aA (tL ns [nm] so _ _ (w1.heap.size::L) w3 h1 d3 (λx hx=>by have:=KB x hx;have:=aH.size;omega)) ?_
 rintro v4 w4 ⟨jU,aO⟩
 have fG:=aO.size
 have eN:=jU
 exact pf aO eN
 refine VA ?_
 refine vk aB (λx w3 aH=>?_) ?_
 refine fF bh bf rfl rfl λw4 aO Jr gC=>?_
 exact pf aO ((aJ.dK [kd] Jr (λhx=>by have:=KB _ hx;have:=aH.size;omega)))
 refine vk aB (λx w3 aH=>?_) ?_
 have h2:=h2.ext aH
 intro v8 d8
 refine aA (tL ts [kd] so _ _ (w1.heap.size::L) w3 h2 d8 (λx hx=>by have:=KB x hx;have:=aH.size;omega)) ?_
 rintro v4 w4 ⟨jU,aO⟩
 have fG:=aO.size
 have eN:=jU
 exact pf aO eN
 refine vk aB (λx w3 aH=>?_) ?_
 intro v4 d4
 intro v9 d9
 have bF:=dI d4
 obtain⟨b1,m1,d1,e1,_⟩:=bF
 subst e1
 have bU:=dI d9
 obtain⟨b2,m2,d2,e2,_⟩:=bU
 subst e2
 refine iO (LG _ _ _ _ _ _ _) rfl rfl ?_
 exact pf (aj.refl _ _) (⟨_,_,_,_,_,_,rfl,d4,d9⟩)
 exact trivial
 intro x l6 rR
 intro v3 d3
 intro v4 d4
 intro v8 d8
 intro v9 d9
 intro v10 d10
 refine bI rR hK bA λhK bA=>?_
 change OW _ _ _ _ _ (bm (bg _ x _) (zZ 7 [_,_,_,_,_,_,_,_,_,_,_])) _
 obtain⟨b1,m1,d1,b2,m2,d2,fm,g1,g2⟩:=d10
 subst fm
 refine cw (vs:=[.slice b1 m1 d1,.slice b2 m2 d2]) BD rfl rfl rfl bA rfl λmI ie bA df=>?_
 have hK:=hK.since ie (λx hx=>.inr (by simp at hx;omega))
 have g1:bc L mI _ (ns++[nm]):=(bN.aD g1 ie sm).fresh (λx hx=>.inl (by simp[hx]))
 have g2:bc L mI _ (ts++[kd]):=(bN.aD g2 ie sm).fresh (λx hx=>.inl (by simp[hx]))
 refine W ?_
 exact⟨[_],fb amE BD rfl bA rfl,⟨_,_,rfl,g1,g2⟩,hK⟩
end Go.Proofs.YthbhobaiopccaaaGreatDoor
