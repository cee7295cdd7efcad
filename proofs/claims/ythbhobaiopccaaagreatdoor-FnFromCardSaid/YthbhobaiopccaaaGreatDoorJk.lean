/- Lemmas for the law FnFrom, no statement of their own: no conditions. -/
import Derived.Test.YthbhobaiopccaaaGreatDoorJj
import Derived.Shelf.Bits.Mul64
import Derived.Shelf.LaysM
import Derived.Shelf.Slices.Turned
import Derived.Shelf.Small.Wraps
import Derived.Shelf.Strconv.Atoi
import Derived.Shelf.Strconv.Itoa0
import Derived.Shelf.Strconv.Itoa1
import Derived.Shelf.Strconv.Itoa2
import Derived.Shelf.Strconv.Itoa3
import Derived.Shelf.Strings.Builder1
import Derived.Shelf.Strings.Builder2
import Derived.Shelf.Strings.Builder2Cap
import Derived.Shelf.Strings.BuilderCap
import Derived.Shelf.Strings.BuilderF
import Derived.Shelf.Strings.BuilderK
import Derived.Shelf.Strings.Prefix
import Derived.Shelf.Strings.Repeat
set_option maxHeartbeats 4000000
set_option linter.unusedVariables false
set_option linter.unusedSimpArgs false
namespace Go.Proofs.YthbhobaiopccaaaGreatDoor
open Go
variable {bs:List Bk} {h x:aj} {L:List Nat} {w:World} {v:Value} {B:Nat} {t y:aq}
theorem Yq (h:iB bs=true):bs.length<=40∧1<=bs.length∧∀i,i<bs.length->(bN bs i).bW.length<=40∧1<=(bN bs i).code.length∧(bN bs i).code.length<=80:=by
 have hb:=Aw h
 unfold iB at h
 simp only[aE,dE] at h
 refine⟨h.2.1.1.2,h.2.1.1.1,λi hi=>?_⟩
 have:=hb (bN bs i) (List.mem_of_getElem? (rW hi))
 unfold kO at this
 simp only[aE,dE] at this
 exact⟨this.1.1.1.2,this.1.1.2.1,this.1.1.2.2⟩
theorem ans {i:Nat} (h:i<bs.length):bs.take (i+1)=bs.take i++[bN bs i]:=by
 rw[List.take_succ_eq_append_getElem h];simp[bN,gE h]
theorem ant {h:aj} {ps:List aj} {m:Nat} (hp:∀x,x∈ps->x.length<=m):(cY h ps).length<=h.length+2+ps.length*(m+1):=by
 rw[l6]
 have:iU ps<=ps.length*(m+1):=by
  clear h
  induction ps with
  |nil=>simp[iU]
  |cons p l ih=>
   have h1:=hp p sm
   have h2:=ih (λx hx=>hp x (by simp[hx]))
   simp only[iU,List.map_cons,List.sum_cons,lC,Nat.add_mul,Nat.one_mul] at h2⊢
   omega
 omega
theorem Yr {α:Type} {l:List α} {i:Nat} {y x:α} (h:x∈l.set i y):x∈l∨x=y:=List.mem_or_eq_of_mem_set h
theorem anu (bs:List Bk) (sB:iB bs=true) (br q:Nat) (hq:q<=800000000) (v:Value) (w:World) (h:dM w br q) (hv:mO [] w v bs):
  bC Tryz.prog 95 [.pointer (some ⟨br,0,none⟩),v] w λr w'=>(∃bs' g,Gr w.heap.size [br] w' 58 3 r g (bs'.map Bk.enc)∧wh bs bs')∧dM w' br (q+10)∧ak [br] w w':=by
 obtain⟨a,n0,c,rfl,Bc⟩:=Cp hv
 obtain⟨IG,aT,fN⟩:=Yq sB
 have ir:=h.lt
 have hK:=ak.refl [] w
 have cm:=hv
 have Ui:=h
 refine cj [.tmp 4] 140 Tryz.func95 rfl ad3 rfl rfl ?_
 refine W ?_
 refine gA jH fD λw1 aI mx di=>cO aI hK h hv λhK h hv=>?_
 refine W ?_
 refine eO (λq9:Nat×Value=>[(0,.pointer (some ⟨br,0,none⟩)),(1,.slice a n0 c),(5,q9.2),(6,.int .i64 (q9.1:Int))]) (λq9 w'=>ak [] w w'∧q9.1<=n0∧∃g gss vss,j3 w' 58 9 q9.2 g gss vss (bs.take q9.1)∧∀x,x∈g.toList++eT gss->w.heap.size<=x) (λq9=>n0-q9.1) ((0,.slice (some ⟨w.heap.size,0,none⟩) 0 0)) (⟨rfl,rfl,rfl,rfl⟩) (⟨hK,sm,some w.heap.size,[],[],j3.zero mx,by intro x hx;simp[eT] at hx;omega⟩) λgg w2 e2 hI=>?_
 obtain⟨i,vo⟩:=gg
 obtain⟨hK,hi,g,gss,vss,hO,je⟩:=hI
 dsimp only at hi hO
 have hv:=cm.ext hK
 have h:=Ui.ext hK
 refine W ?_
 refine zc rfl (λh1=>?_) (λh1=>?_)
 have lp:i<bs.length:=(by simp at h1;omega)
 have dR:=rW lp
 have hgv:=yg hv dR
 obtain⟨b,off,ra,rn,rc,ca,cn,c3,e1,hc,rE,xM,df,dz⟩:=hgv
 subst e1
 have xf:=fN i lp
 have asR:=hK.size
 have Qz:∀x,x∈g.toList++eT gss->x<w2.heap.size:=(λx hx=>(mA.1 hx).elim (λh9=>hO.own.lt x (by simpa using h9)) (hO.lt x))
 have fP:(bs.take i).length=i:=(by rw[List.length_take];omega)
 refine W ?_
 refine aA (anr (bN bs i) om om _ [] w2 (wI df dz)) ?_
 rintro v3 w3 ⟨ka,aH⟩
 have eM:=aH.size
 refine bL aH hK hO λhK hO=>?_
 obtain⟨v1,v2,g1,g2,e2,pJ,fW,qw,jc⟩:=ka
 subst e2
 have cG:=j8 pJ
 obtain⟨a1,c1,e1⟩:=cG
 subst e1
 have cG:=j8 fW
 obtain⟨a2,c2,e2⟩:=cG
 subst e2
 refine fo jH fD rfl rfl λw4 aN vY ga=>gH aN hK hO pJ fW λhK hO pJ fW=>?_
 refine am0 (f:=bN bs i) (gs:=(g1,g2)) jH fD rfl rfl rfl rfl rfl rfl hO vY pJ fW (λx hx eA=>by have h8:=Qz x eA;rcases mA.1 hx with h9|h9;(·have:=(qw x h9).1;omega);(·have:=(jc x h9).1;omega)) (List.nodup_append.2 ⟨by cases g1<;>simp,by cases g2<;>simp,λx hx y hy e=>by subst e;exact(qw x hx).2 hy⟩) om λa4 fT g4 w5 hO aJ hg4=>?_
 have Yc:=hK.size
 have anx:∀x,x∈g4.toList++eT (gss++[(g1,g2)])->w.heap.size<=x:=(λx hx=>by rcases mA.1 hx with h9|h9;(·rcases hg4 with h8|⟨z,h8,hz⟩;(·rw[h8] at h9;exact je x (by simp at h9;simp[h9]));(·rw[h8] at h9;simp at h9;omega));(·rw[CS] at h9;rcases mA.1 h9 with h8|h8;(·exact je x (by simp[h8]));(·rcases mA.1 h8 with h7|h7;(·have:=(qw x h7).1;omega);(·have:=(jc x h7).1;omega))))
 have hK:=hK.since aJ (λx hx=>.inr (je x (by simp at hx;simp[hx])))
 refine WA ?_
 refine o3 rfl rfl rfl rfl rfl (lq (i+1) om _ om)<|zA<|aV ?_
 exact⟨(i+1,_),⟨rfl,rfl,rfl,rfl⟩,⟨hK,by show i+1<=n0;omega,g4,_,_,by rw[ans lp];exact hO,anx⟩,by show n0-(i+1)<n0-i;omega⟩
 have cZ:bs.take i=bs:=List.take_of_length_le (by simp at h1;omega)
 rw[cZ] at hO
 have cG:=hO.own.len
 obtain⟨ao,co,eo⟩:=cG
 subst eo
 have eJ:=hK.mono (L':=[br]) sm
 refine W ?_
 refine aA (mh bs.length om om br q om w2 h) ?_
 rintro v31 w3 ⟨⟨k,zJ,hk⟩,h,aC⟩
 subst zJ
 have eJ:=eJ.trans aC
 have hO:=hO.aG aC (λx hx hy=>by have:=je x hx;simp at hy;omega)
 have ik:=hO.get hk
 obtain⟨uN,gs,a1,c1,a2,c2,e1,e2,uz,nY,jA,ba,kz,fj,eQ,LB⟩:=ik
 subst e1
 have zT:∀x,x∈g.toList++eT gss->x∉[br]:=(λx hx hy=>by have:=je x hx;simp at hy;omega)
 have hc:fM [br] w3 uN (0+k*3) _:=⟨kz,uz,λhy=>zT uN (by rw[e2];simp) hy⟩
 have hr:bg [br] w3 _ _:=eQ.rep (λb hb=>zT b (mR _ (CU jA (by simp[gM,hb]))))
 have xf:=fN k hk
 refine WI ?_
 refine zi jH fD rfl rfl hk<|zf Ay rfl<|zl vu rfl (hc.cells 2 _ rfl)<|IU bo rfl rfl rfl<|aA (mh (bN bs k).code.length om om br (q+1) om w3 h) ?_
 rintro v31 w4 ⟨⟨n,zJ,hn⟩,h,aC⟩
 subst zJ
 have eJ:=eJ.trans aC
 have hO:=hO.aG aC (λx hx hy=>by have:=je x hx;simp at hy;omega)
 have hc:=hc.aD aC sm;have hr:=hr.aD aC sm
 have dR:=oq hr hn
 obtain⟨b9,uL,e9,jF⟩:=dR
 subst e9
 refine WI ?_
 refine zi jH fD rfl rfl hk<|zf Ay rfl<|zl vu rfl (hc.cells 2 _ rfl)<|zm<|zi bo bm rfl rfl hn<|WZ ?_
 have hkw:=eJ.size
 have anA:∀x,x∈g.toList++eT gss->x<w4.heap.size:=(λx hx=>(mA.1 hx).elim (λh9=>hO.own.lt x (by simpa using h9)) (hO.lt x))
 refine aA (ano (cJ (bN bs k).code n) w4) ?_
 rintro v5 w5 ⟨CN,aJ⟩
 have mn:=aJ.size
 refine sV aJ h hO eJ hc hr jF λh hO eJ hc hr jF=>?_
 obtain⟨vp,ok,gp,ps,e9,hP,fH,bj,lK,DS⟩:=CN
 subst e9
 have hgp:∀x,x∈gp.toList->x∉g.toList++eT gss:=(λx hx hy=>by have h8:=anA x hy;have h9:=fH x (by simpa using hx);omega)
 have fH:∀b,gp=some b->w.heap.size<=b:=(λb hb=>Nat.le_trans hkw (fH b hb))
 have cG:=j8 hP
 obtain⟨ap,cp,ep⟩:=cG
 subst ep
 refine W ?_
 refine zc rfl (λh2=>?_) (λh2=>?_)
 refine W ?_
 exact⟨_,rfl,⟨bs,_,hO.gr zT (λb hb=>je b (by simp[hb])) (λx hx=>by simp at hx;subst hx;exact h.lt) eJ.size,wh.refl bs⟩,h.more om,eJ⟩
 have mq:0<ps.length:=(by rw[bj] at h2;simpa using h2)
 have Fc:=hP.form mq
 obtain⟨bp,ep,eg⟩:=Fc
 subst ep
 have hbp:=fH bp eg
 have asS:=hP.lt bp (by simp[eg])
 refine W ?_
 refine aA (mh ps.length mq om br (q+2) om w5 h) ?_
 rintro v31 w6 ⟨⟨j,zJ,hj⟩,h,aC⟩
 subst zJ
 have eJ:=eJ.trans aC
 have hO:=hO.aG aC (λx hx hy=>by have:=je x hx;simp at hy;omega)
 have hP:=hP.aG aC (λb hb hy=>by have:=fH b hb;simp at hy;omega)
 refine W ?_
 refine iS (λ_:List aj=>[(0,.pointer (some ⟨br,0,none⟩)),(5,.slice (some ⟨uN,0,none⟩) bs.length co),(7,.int .i64 (k:Int)),(8,.int .i64 (n:Int)),(9,(.slice (some ⟨bp,0,none⟩) ps.length cp))]) (λp2 ww=>ak [br] w ww∧dM ww br (q+5)∧j3 ww 58 9 (.slice (some ⟨uN,0,none⟩) bs.length co) g gss vss bs∧cE ww 9 (.slice (some ⟨bp,0,none⟩) ps.length cp) gp p2∧p2.length=ps.length∧∀x,x∈p2->x.length<=24002) ?_ ?_
 refine zc rfl (λh3=>?_) (λh3=>?_)
 have BO:bg [br] w6 (.slice (some ⟨bp,0,none⟩) ps.length cp) ps:=hP.rep (λb hb hy=>by have:=fH b hb;simp at hy;omega)
 have dR:=oq BO hj
 obtain⟨b8,anD,e8,IL⟩:=dR
 cases e8
 have hxj:=DS _ (List.mem_of_getElem? (kM hj))
 have qj:eZ [br] w6:=(λz hz=>by simp at hz;subst hz;exact h.lt)
 apply jQ du ([br]) 11 (rA 61 11) (rA 61 11) [[],[],[],[],[3],[],[],[5,6],[7],[4,8],[2,9]] [Ie.v _,Ie.v _,Ie.v _,Ie.v _,Ie.q 0 (fun(v:Value)=>∃x,v=str x∧x.length<=24002),Ie.v _,Ie.v _,Ie.v _,Ie.v _,Ie.p (fun(G:List Nat) (v:Value) (ww:World)=>∃x y,x.length<=24002∧y.length<=24002∧bg G ww v [x,[98,48],[101,110,100],[49],[105],y]),Ie.q 1 (fun(v:Value)=>∃x,v=str x∧x.length<=24002)] [4,10] [fun(G:List Nat) (vs:List Value) (ww:World)=>G=[br]∧ak [br] w6 ww∧dM ww br (q+3),fun(G:List Nat) (vs:List Value) (ww:World)=>G=[br]∧ak [br] w6 ww∧dM ww br (q+4),fun(G:List Nat) (vs:List Value) (ww:World)=>G=[br]∧ak [br] w6 ww∧dM ww br (q+5)] de rfl qj (by exact⟨λG v w G' w' ⟨x,y,h1,h2,h3⟩ k=>⟨x,y,h1,h2,bg.go h3 k⟩,trivial⟩) (by exact⟨λG vs w w' ⟨h1,h2,h3⟩ k=>⟨h1,h2.ext k,h3.ext k⟩,λG vs w w' ⟨h1,h2,h3⟩ k=>⟨h1,h2.ext k,h3.ext k⟩,λG vs w w' ⟨h1,h2,h3⟩ k=>⟨h1,h2.ext k,h3.ext k⟩,trivial⟩) (⟨rfl,ak.refl _ _,h⟩)
 refine FA ?_
 refine ve 0 (λx w7 G7 aX nC lO hJ hlen=>?_) ?_
 have ba:=jv hlen
 subst ba
 obtain⟨bX,cg,h⟩:=hJ
 subst bX
 refine aA (II br (q+3) om w7 h) ?_
 rintro v9 w8 ⟨⟨z9,dv,e9⟩,h,aC⟩
 subst e9
 have eN:=s5 (n:=z9) om
 exact fq ([br]) (Fr.of aC sm) ((λz hz=>lL (lO z hz) aC.size)) (⟨rfl,cg.trans aC,h⟩) (⟨_,rfl,om⟩)
 refine FA ?_
 refine vf (λx w7 G7 aX nC lO=>?_) ?_
 intro v4 Qg d4
 obtain⟨y4,e4,Bh⟩:=d4
 subst e4
 refine agj bo bm rfl rfl rfl rfl rfl rfl rfl rfl λw8 aU Pp kV=>?_
 exact ff aU (⟨y4,cJ ps j,Bh,hxj,aL.dS [y4,[98,48],[101,110,100],[49],[105],cJ ps j] Pp (λhx=>by have:=lO _ hx;omega)⟩)
 refine ve 1 (λx w7 G7 aX nC lO hJ hlen=>?_) ?_
 have aY:=jw hlen
 obtain⟨q0,ba⟩:=aY
 subst ba
 intro v9 d9
 obtain⟨bX,cg,h⟩:=hJ
 subst bX
 obtain⟨x8,y8,WU,hy8,hr8⟩:=d9
 refine aA (lV [x8,[98,48],[101,110,100],[49],[105],y8] sm sm br (q+4) om _ w7 h hr8) ?_
 rintro v9 w8 ⟨⟨x9,iW,e9⟩,h,aC⟩
 subst e9
 have eN:x9.length<=24002:=(by simp only[mC,List.not_mem_nil,or_false] at iW;rcases iW with rfl|rfl|rfl|rfl|rfl|rfl<;>first|omega|decide)
 exact fq ([br]) (Fr.of aC sm) ((λz hz=>lL (lO z hz) aC.size)) (⟨rfl,cg.trans aC,h⟩) (⟨_,rfl,eN⟩)
 exact trivial
 intro x qt KL aX xG KM hJ hlen
 have aY:=lJ hlen
 obtain⟨q0,q1,ba⟩:=aY
 subst ba
 intro v4 Qg d4
 intro v9 d9
 intro v10 Yh d10
 change OW _ _ _ _ _ (aS (aR _ x _) (zZ 61 [_,_,_,_,_,_,_,_,_,_,_])) _
 obtain⟨bX,cg,h⟩:=hJ
 subst bX
 obtain⟨Lz,fL,E8⟩:=d10
 subst fL
 have eJ:=eJ.trans cg
 have hO:=hO.aG cg (λx hx hy=>by have:=je x hx;simp at hy;omega)
 have hP:=hP.aG cg (λb hb hy=>by have:=fH b hb;simp at hy;omega)
 refine zi bo bm rfl rfl hj<|Up (i:=j) bm rfl rfl rfl om hP hj λl5 jz hP dv=>?_
 have hO:=hO.aG jz (λx hx hy=>hgp x hy hx)
 have h:=h.aG jz (λx hx=>by have:=fH x (by simpa using hx);omega)
 have eJ:=eJ.since jz (λx hx=>.inr (fH x (by simpa using hx)))
 refine W ?_
 exact⟨ps.set j Lz,⟨rfl,rfl,rfl,rfl,rfl⟩,eJ,h.more om,hO,hP,by rw[List.length_set],λx hx=>by rcases Yr hx with h9|h9;(·exact DS x h9);(·rw[h9];exact E8)⟩
 refine WZ ?_
 exact⟨ps,⟨rfl,rfl,rfl,rfl,rfl⟩,eJ,h.more om,hO,hP,rfl,DS⟩
 intro gu w7 e7 hI
 obtain⟨eJ,h,hO,hP,asU,Ys⟩:=hI
 have ik:=hO.get hk
 obtain⟨uN,gs,a1,c1,a2,c2,e1,e2,uz,nY,jA,ba,kz,fj,eQ,LB⟩:=ik
 cases e1
 have zT:∀x,x∈g.toList++eT gss->x∉[br]:=(λx hx hy=>by have:=je x hx;simp at hy;omega)
 have hc:fM [br] w7 uN (0+k*3) _:=⟨kz,uz,λhy=>zT uN (by rw[e2];simp) hy⟩
 have hr:bg [br] w7 _ _:=eQ.rep (λb hb=>zT b (mR _ (CU jA (by simp[gM,hb]))))
 have dR:=oq hr hn
 obtain⟨b9,uL,e9,jF⟩:=dR
 subst e9
 have BO:bg [] w7 (.slice (some ⟨bp,0,none⟩) ps.length cp) gu:=hP.rep sm
 have dR:=oq BO (i:=0) om
 obtain⟨b8,anD,e8,IL⟩:=dR
 cases e8
 refine WZ ?_
 have BP:(cY (cJ gu 0) (gu.drop 1)).length<=1000000000:=(by have h1:=ant (h:=cJ gu 0) (ps:=gu.drop 1) (m:=24002) (λx hx=>Ys x (List.mem_of_mem_drop hx));have h2:=Ys _ (List.mem_of_getElem? (kM (xs:=gu) (i:=0) om));rw[List.length_drop] at h1;have h3:(gu.length-1)*(24002+1)<=12001*24003:=Nat.mul_le_mul om om;omega)
 apply wX du 6 (rA 73 6) (rA 73 6) [[],[0],[1],[],[3],[2,4]] [It.v _,It.v _,It.v _,It.v _,It.p (fun(v:Value) (ww:World)=>bg [] ww v (gu.drop 1)),It.v _] de (by exact⟨λv w w' h k=>bg.ext h k,trivial⟩)
 intro wd aB
 refine VA ?_
 refine vk aB (λx w8 aU=>?_) ?_
 have BO:=BO.ext aU
 refine xY (l:=1) bo bm rfl rfl rfl rfl om BO λp9 ba=>?_
 exact pf (ak.refl _ _) ((show bg [] _ p9 (gu.drop 1) from by unfold bg gL;rw[List.map_drop];exact ba))
 refine vk aB (λx w8 aU=>?_) ?_
 intro v4 d4
 refine aA (s0 (cJ gu 0) (gu.drop 1) BP _ [] w8 d4) ?_
 rintro _ w9 ⟨rfl,aC⟩
 have lf:=aC.size
 exact pk aC
 exact trivial
 intro x l5 jz
 intro v4 d4
 refine CK jz h eJ hO hc hr jF fj eQ λh eJ hO hc hr jF fj eQ=>?_
 change OW _ _ _ _ _ (aS (aR _ x _) (zZ 73 [_,_,_,_,_,_])) _
 refine W ?_
 refine Ez [79,80,81,82,83,84,85,86,87,88,89,90,91,92,93,94] [(94,.bool (sI (cY (cJ gu 0) (gu.drop 1))&&(decide (Eh (cY (cJ gu 0) (gu.drop 1))=Eh (cJ (bN bs k).code n)))))] ?_ ?_
 rcases bE (sI (cY (cJ gu 0) (gu.drop 1))) with iX|iX
 apply kU du 16 (rA 79 16) (rA 79 16) [[],[0],[1],[2],[2,3],[2],[2],[2,5,6],[2,7],[2,8],[2],[2,9,10],[2,11],[2,12],[2,4,13],[2,14]] [It.v _,It.v _,It.v (.bool true),It.v _,It.v _,It.v _,It.v _,It.v _,It.v _,It.v _,It.v _,It.v _,It.v _,It.v _,It.v _,It.v _] de rfl
 intro wd aB
 refine VA ?_
 refine vk aB (λx kZ iO=>?_) ?_
 refine aA (Hc (cY (cJ gu 0) (gu.drop 1)) kZ) ?_
 rintro _ og ⟨rfl,iE⟩
 have QA:=iE.size
 exact pk iE
 refine vc (λx kZ iO=>?_) ?_
 refine WZ ?_
 exact pv (by exact congrArg Value.bool iX)
 refine VA ?_
 refine vk aB (λx kZ iO=>?_) ?_
 refine aA (JR (cY (cJ gu 0) (gu.drop 1)) kZ) ?_
 rintro _ og ⟨rfl,iE⟩
 have QA:=iE.size
 exact pk iE
 refine vc (λ_ _ _=>WZ pv) ?_
 refine vc (λ_ _ _=>WZ pv) ?_
 refine vk aB (λx kZ iO=>?_) ?_
 refine zi jH fD rfl rfl hk ?_
 exact pv
 refine VA ?_
 refine vk aB (λx kZ iO=>?_) ?_
 have hc:=hc.ext iO
 refine zl vu rfl (hc.cells 2 _ rfl) ?_
 exact pv
 refine vc (λ_ _ _=>WZ pv) ?_
 refine vk aB (λx kZ iO=>?_) ?_
 refine zi bo bm rfl rfl hn ?_
 exact pv
 refine VA ?_
 refine vk aB (λx kZ iO=>?_) ?_
 refine aA (JR (cJ (bN bs k).code n) kZ) ?_
 rintro _ og ⟨rfl,iE⟩
 have QA:=iE.size
 exact pk iE
 exact VZ
 intro x OZ oX
 change OW _ _ _ _ [] (aS (aR _ x _) (zZ 79 [_,_,_,_,_,_,_,_,_,_,_,_,_,_,_,_])) _
 refine W ?_
 exact kE oX
 apply kU du 16 (rA 79 16) (rA 79 16) [[],[0],[1],[2],[2,3],[2],[2],[2,5,6],[2,7],[2,8],[2],[2,9,10],[2,11],[2,12],[2,4,13],[2,14]] [It.v _,It.v _,It.v (.bool false),It.v _,It.v _,It.v _,It.v _,It.v _,It.v _,It.v _,It.v _,It.v _,It.v _,It.v _,It.v _,It.v _] de rfl
 intro wd aB
 refine VA ?_
 refine vk aB (λx kZ iO=>?_) ?_
 refine aA (Hc (cY (cJ gu 0) (gu.drop 1)) kZ) ?_
 rintro _ og ⟨rfl,iE⟩
 have QA:=iE.size
 exact pk iE
 refine vc (λx kZ iO=>?_) ?_
 refine WZ ?_
 exact pv (by exact congrArg Value.bool iX)
 exact VZ
 intro x OZ oX
 change OW _ _ _ _ [] (aS (aR _ x _) (zZ 79 [_,_,_,_,_,_,_,_,_,_,_,_,_,_,_,_])) _
 refine W ?_
 exact kE oX
 intro x OZ oX
 refine CK oX h eJ hO hc hr jF fj eQ λh eJ hO hc hr jF fj eQ=>?_
 refine iS (λ_:List Bk=>[(0,.pointer (some ⟨br,0,none⟩)),(5,.slice (some ⟨uN,0,none⟩) bs.length co),(7,.int .i64 (k:Int)),(8,.int .i64 (n:Int))]) (λcs ww=>ak [br] w ww∧dM ww br (q+5)∧(∃Yt,j3 ww 58 9 (.slice (some ⟨uN,0,none⟩) bs.length co) g gss Yt cs)∧wh bs cs) ?_ ?_
 refine zc rfl (λh4=>?_) (λh4=>?_)
 have anG:sI (cY (cJ gu 0) (gu.drop 1))=true:=(Bool.and_eq_true_iff.1 h4).1
 have Fc:=eQ.form om
 obtain⟨b7,e7,eg2⟩:=Fc
 cases e7
 refine lv<|zm<|zm<|zi jH fD rfl rfl hk<|zf Ay rfl<|zl vu rfl (hc.cells 2 _ rfl)<|zm<|zm<|zi bo bm rfl rfl hn<|Up (i:=n) bm rfl rfl rfl om eQ hn λHN BH eQ dv=>?_
 have hO:=hO.row (f:={bN bs k with code:=(bN bs k).code.set n (cY (cJ gu 0) (gu.drop 1))}) jA ba BH (λx hx=>by simp[gM,hx]) ⟨_,_,rfl,fj.aG BH (λb hb hy=>LB b hb (by simpa using hy)),by rw[show({bN bs k with code:=(bN bs k).code.set n (cY (cJ gu 0) (gu.drop 1))}:Bk).code=(bN bs k).code.set n (cY (cJ gu 0) (gu.drop 1)) from rfl];exact eQ⟩
 have h:=h.aG BH (λx hx=>by have:=je x (mR _ (CU jA (by simp[gM,hx])));omega)
 have eJ:=eJ.since BH (λx hx=>.inr (je x (mR _ (CU jA (by simp[gM,hx])))))
 refine W ?_
 exact⟨_,⟨rfl,rfl,rfl,rfl⟩,eJ,h,⟨_,hO⟩,(wh.refl bs).set hk (by rw[List.length_set];exact lR _) (λx hx=>by rcases Yr hx with h9|h9;(·exact .inl h9);(·rw[h9];exact .inr anG))⟩
 refine WZ ?_
 exact⟨bs,⟨rfl,rfl,rfl,rfl⟩,eJ,h,⟨_,hO⟩,wh.refl bs⟩
 intro gu HN e88 hI
 obtain⟨eJ,h,⟨Yt,hO⟩,hH⟩:=hI
 have lj:k<gu.length:=(by rw[hH.1];exact hk)
 have ik:=hO.get lj
 obtain⟨uN,gs,a1,c1,a2,c2,e1,e2,uz,nY,jA,ba,kz,fj,eQ,LB⟩:=ik
 cases e1
 refine jV<|zr<|zm<|aA (mh 6 de de br (q+5) om HN h) ?_
 rintro v31 xq ⟨⟨z,zJ,hz⟩,h,aC⟩
 subst zJ
 have eJ:=eJ.trans aC
 have hO:=hO.aG aC (λx hx hy=>by have:=je x hx;simp at hy;omega)
 have ik:=hO.get lj
 obtain⟨uN,gs,a1,c1,a2,c2,e1,e2,uz,nY,jA,ba,kz,fj,eQ,LB⟩:=ik
 cases e1
 have zT:∀x,x∈g.toList++eT gss->x∉[br]:=(λx hx hy=>by have:=je x hx;simp at hy;omega)
 have Qz:∀x,x∈g.toList++eT gss->x<xq.heap.size:=(λx hx=>(mA.1 hx).elim (λh9=>hO.own.lt x (by simpa using h9)) (hO.lt x))
 have hc:fM [] xq uN (0+k*3) _:=⟨kz,uz,sm⟩
 have hr:bg [] xq _ _:=eQ.rep sm
 have Yu:=hH.2 k hk
 have ot:(bN gu k).code.length<=80:=Nat.le_trans Yu.2.2.1 (fN k hk).2.2
 have LC:=eJ.size
 refine WZ ?_
 apply oB 10 106 116 rfl oQ
 intro h5
 refine zm<|o3 rfl rfl rfl rfl rfl (lq (n+1) om _ om)<|zm<|zm<|zi jH fD rfl rfl hk<|zf Ay rfl<|zl vu rfl (hc.cells 2 _ rfl) ?_
 exact oQ
 intro xx
 refine aV<|zc rfl (λh6=>?_) (λh6=>?_)
 have pF:n+1<(bN gu k).code.length:=(by have h9:=of_decide_eq_true (Bool.and_eq_true_iff.1 h6).2;omega)
 have dR:=oq hr (i:=n) om
 obtain⟨b9,uL,e9,jF⟩:=dR
 subst e9
 apply jQ du ([]) 20 (rA 117 20) (rA 117 20) [[],[],[],[],[],[3,4],[5],[6],[],[7,8],[2,9],[],[],[11,12],[13],[14],[],[16],[15,17],[10,18]] [Ie.v _,Ie.v _,Ie.p (fun(G:List Nat) (v:Value) (ww:World)=>∃bb,v= .slice (some ⟨bb,0,none⟩) 0 0∧dW G ww bb #[] 9∧xq.heap.size<=bb),Ie.v _,Ie.v _,Ie.v _,Ie.v _,Ie.v _,Ie.v _,Ie.v _,Ie.e 0,Ie.v _,Ie.v _,Ie.v _,Ie.v _,Ie.v _,Ie.v _,Ie.v _,Ie.p (fun(G:List Nat) (v:Value) (ww:World)=>bg G ww v ((bN gu k).code.drop (n+1))),Ie.e 1] [10,19] [fun(G:List Nat) (vs:List Value) (ww:World)=>True,fun(G:List Nat) (vs:List Value) (ww:World)=>∃g7,cE ww 9 (vs.getD 0 undef) g7 ((bN gu k).code.take n)∧qR G ww 9 g7∧(∀x,x∈g7.toList->xq.heap.size<=x),fun(G:List Nat) (vs:List Value) (ww:World)=>∃g7,cE ww 9 (vs.getD 1 undef) g7 ((bN gu k).code.take n++(bN gu k).code.drop (n+1))∧(∀x,x∈g7.toList->xq.heap.size<=x)] de rfl ((λz hz=>by simp at hz)) (by exact⟨λG v w G' w' ⟨bb,e,h,hz⟩ k=>⟨bb,e,h.go k,hz⟩,λG v w G' w' h k=>bg.go h k,trivial⟩) (by exact⟨λ_ _ _ _ _ _=>trivial,λG vs w w' ⟨g7,h2,h3,h4⟩ k=>⟨g7,h2.ext k,h3.ext k,h4⟩,λG vs w w' ⟨g7,h2,h4⟩ k=>⟨g7,h2.ext k,h4⟩,trivial⟩) trivial
 refine FA ?_
 refine vf (λx k8 my aX jL nj=>?_) ?_
 refine gA bo bm λqT zk anH Kr=>?_
 exact ff zk (⟨_,rfl,anH.o nj,jL.aG.size⟩)
 refine vf (λ_ _ _ _ _ _=>WZ fv) ?_
 refine vf (λ_ _ _ _ _ _=>WZ fv) ?_
 refine vf (λ_ _ _ _ _ _=>zi jH fD rfl rfl hk fv) ?_
 refine FA ?_
 refine vf (λx k8 my aX jL nj=>?_) ?_
 have hc:=hc.go jL
 refine zl vu rfl (hc.cells 2 _ rfl) ?_
 exact fv
 refine FA ?_
 refine vf (λx k8 my aX jL nj=>?_) ?_
 have hr:=hr.go jL
 refine X0 (h:=n) bo bm rfl rfl rfl rfl om hr ?_
 exact fv
 refine ve 0 (λx k8 my aX jL nj hJ hlen=>?_) ?_
 have ba:=jv hlen
 subst ba
 have hr:=hr.go jL
 intro v2 d2
 obtain⟨bb,e2,fX,hN⟩:=d2
 subst e2
 have P2:bg my k8 _ ((bN gu k).code.take n):=(show ck _ _ _ (.sl 1 (gL _)) from by have h9:=XZ hr (h:=n) om;unfold gL at h9⊢;rw[List.map_take];exact h9)
 refine EX bo bm rfl rfl rfl rfl rfl rfl fX.iy.lh P2 ‹_› (λx hx=>.inr (by simp at hx;subst hx;exact fX.iy)) (by rw[List.length_take];simp;omega) λv9 g9 qT G9 dm E0 lf kI db eN aC=>?_
 exact fe G9 db eN (⟨g9,dm,E0,λx hx=>(lf x hx).elim (λh9=>by simp at h9;subst h9;exact hN) (λh9=>Nat.le_trans jL.aG.size h9)⟩)
 refine vf (λ_ _ _ _ _ _=>WZ fv) ?_
 refine vf (λ_ _ _ _ _ _=>WZ fv) ?_
 refine vf (λ_ _ _ _ _ _=>zi jH fD rfl rfl hk fv) ?_
 refine FA ?_
 refine vf (λx k8 my aX jL nj=>?_) ?_
 have hc:=hc.go jL
 refine zl vu rfl (hc.cells 2 _ rfl) ?_
 exact fv
 refine vf (λ_ _ _ _ _ _=>WZ fv) ?_
 refine vf (λ_ _ _ _ _ _=>o3 rfl rfl rfl rfl rfl (lq (n+1) om _ om) fv) ?_
 refine vf (λx k8 my aX jL nj=>?_) ?_
 have hr:=hr.go jL
 refine xY bo bm rfl rfl rfl rfl om hr ?_
 intro p9 ba
 exact ff (ak.refl _ _) ((show bg _ _ p9 ((bN gu k).code.drop (n+1)) from by unfold bg gL;rw[List.map_drop];exact ba))
 refine ve 1 (λx k8 my aX jL nj hJ hlen=>?_) ?_
 have aY:=jw hlen
 obtain⟨q0,ba⟩:=aY
 subst ba
 intro xD d18
 have hJ:∃g7,cE k8 9 q0 g7 ((bN gu k).code.take n)∧qR my k8 9 g7∧(∀x,x∈g7.toList->_<=x):=hJ
 obtain⟨g7,r5,HF,Da⟩:=hJ
 refine EX bo bm rfl rfl rfl rfl rfl rfl r5 d18 ‹_› HF (by rw[List.length_take,List.length_drop];omega) λv9 g9 qT G9 dm E0 lf kI db eN aC=>?_
 exact fe G9 db eN (⟨g9,dm,λx hx=>(lf x hx).elim (Da x) (λh9=>Nat.le_trans jL.aG.size h9)⟩)
 exact trivial
 intro x Ks VT aX Oz ahs hJ hlen
 have aY:=lJ hlen
 obtain⟨q0,q1,ba⟩:=aY
 subst ba
 intro v2 d2
 intro xD d18
 change OW _ _ _ _ _ (aS (aR _ x _) (zZ 117 [_,_,_,_,_,_,_,_,_,_,_,_,_,_,_,_,_,_,_,_])) _
 have hJ:∃g7,cE Ks 9 q1 g7 ((bN gu k).code.take n++(bN gu k).code.drop (n+1))∧(∀x,x∈g7.toList->_<=x):=hJ
 obtain⟨g7,r5,Da⟩:=hJ
 have cG:=j8 r5
 obtain⟨a9,c9,e9⟩:=cG
 subst e9
 have W8:ak [] _ Ks:=Oz.aG
 refine cO W8 hO h eJ λhO h eJ=>?_
 refine zi jH fD rfl rfl hk<|zf Ay rfl<|am1 (i:=k) (L:=[br]) mT rfl rfl rfl om hO e2 lj r5 (λx hx hy=>by have h8:=Da x hx;have h9:=Qz x (by simp at hy;simp[hy]);omega) (λx hx hy=>by rcases mA.1 hx with h9|h9;(·exact zT x h9 hy);(·have h8:=Da x h9;have h7:=eJ.size;simp at hy;omega)) λOB Dg hR dv=>?_
 have h:=h.aG Dg (λx hx=>by have:=je x (by simp at hx;simp[hx]);omega)
 have eJ:=eJ.since Dg (λx hx=>.inr (je x (by simp at hx;simp[hx])))
 refine W ?_
 exact⟨_,rfl,⟨_,_,⟨hR,λb hb=>je b (by simp[hb]),λx hx=>by simp at hx;subst hx;exact h.lt,eJ.size⟩,hH.set hk (by rw[lA,List.length_take,List.length_drop];omega) (λx hx=>Yu.2.2.2 x ((mA.1 hx).elim List.mem_of_mem_take List.mem_of_mem_drop))⟩,h.more om,eJ⟩
 refine W ?_
 exact⟨_,rfl,⟨gu,_,hO.gr zT (λb hb=>je b (by simp[hb])) (λx hx=>by simp at hx;subst hx;exact h.lt) eJ.size,hH⟩,h.more om,eJ⟩
theorem anI {br:Nat} {cs:Array Value} {T:TypeId} (hb:aL w br cs T) (hs:∀(i:Nat) (s:aj),cs[i]?≠some (str s)) {a:Option Addr} {n c size:Nat} {rows:List (List C)} (h:ck L w (.slice a n c) (.sl size rows)) (h0:∀row,row∈rows->∃s rest,row= .val (str s)::rest) (Bx:∀row c' u,row∈rows->c'∈row->ck L w u c'->ck (L++[br]) w u c'):ck (L++[br]) w (.slice a n c) (.sl size rows):=by
 cases h with
 |nil=>exact .nil _ _ _
 |sl b off _ _ _ _ f hl hc ir hL fU kz iJ=>
  cases rows with
  |nil=>
   have:n=0:=by rw[<-hl];rfl
   subst this
   exact .nil _ _ _
  |cons row rest=>
   have dY:b≠br:=by
    rintro rfl
    obtain⟨s,r,e⟩:=h0 row sm
    have hz:=fU row sm
    have h1:=iJ 0 0 row (.val (str s)) rfl (by rw[e];rfl)
    have h2:=kz 0 0 (by rw[<-hl];simp) (by rw[<-hz,e];simp)
    rw[hb.cell] at h2
    generalize f 0 0=u at h1 h2
    cases h1
    exact hs _ _ h2
   exact .sl b off n c size _ f hl hc ir (λhx=>(mA.1 hx).elim hL (λh9=>dY (by simpa using h9))) fU kz λi j row c hr hc=>Bx row c _ (List.mem_of_getElem? hr) (List.mem_of_getElem? hc) (iJ i j row c hr hc)
theorem Yv {br:Nat} {cs:Array Value} {T:TypeId} (hb:aL w br cs T) (hs:∀(i:Nat) (s:aj),cs[i]?≠some (str s)) {xs:List aj} (h:bg L w v xs):bg (L++[br]) w v xs:=by
 obtain⟨a,n,c,rfl,_⟩:=dU h
 refine anI hb hs h (λrow hr=>?_) (λrow c' u hr hc hu=>?_)
 ·obtain⟨x,_,rfl⟩:=List.mem_map.1 hr;exact⟨x,[],rfl⟩
 ·obtain⟨x,_,rfl⟩:=List.mem_map.1 hr
  simp only[List.mem_singleton] at hc
  subst hc
  cases hu;exact .val _
theorem Yw {br:Nat} {cs:Array Value} {T:TypeId} (hb:aL w br cs T) (hs:∀(i:Nat) (s:aj),cs[i]?≠some (str s)):∀{bs:List Bk} {xs:List Value},dd L w xs (bs.map Bk.enc).flatten->dd (L++[br]) w xs (bs.map Bk.enc).flatten
 |[],[],_=>trivial
 |f::bs,x0::x1::x2::r,h=>by
  obtain⟨r0,r1,r2,h⟩:=h
  cases r0
  exact⟨.val _,Yv (xs:=f.bW) hb hs r1,Yv (xs:=f.code) hb hs r2,Yw (bs:=bs) hb hs h⟩
theorem dM.gr {br q T:Nat} {g:Option Nat} (h:dM w br q) (hG:Gr B [] w T 3 v g (bs.map Bk.enc)) (hB:br<B):Gr B [br] w T 3 v g (bs.map Bk.enc):=by
 obtain⟨a,n,c,p,xs,h1,_⟩:=h
 obtain⟨ys,dH,iJ,gR,_⟩:=hG.own
 have hs:∀(i:Nat) (s:aj),([.slice a n c,.int .i64 ((p:Nat):Int)]:List Value).toArray[i]?≠some (str s):=λi s hi=>by
  match i with
  |0=>cases hi
  |1=>cases hi
  |i+2=>cases hi
 rw[List.append_nil] at iJ
 exact⟨⟨ys,dH,Yw h1 hs iJ,gR,λb hb hx=>by have:=hG.low b hb;simp at hx;omega⟩,hG.low,λx hx=>by simp at hx;subst hx;exact h1.lt,hG.bsz⟩
theorem anJ (br q:Nat) (hq:q<=700000000) (w:World) (h:dM w br q):
  bC Tryz.prog 94 [.pointer (some ⟨br,0,none⟩)] w λr w'=>(∃x,r=str x)∧dM w' br (q+12000)∧ak [br] w w':=by
 have hk:=ak.refl [br] w
 have ir:=h.lt
 have qM:(4:Nat)^2=16:=rfl
 refine cj [.tmp 2] 28 Tryz.func94 rfl ad2 rfl rfl ?_
 refine W ?_
 refine aA (mh 3 de de br q om w h) ?_
 rintro v9 w1 ⟨⟨z,e9,hz⟩,h,aC⟩
 subst e9
 have hk:=hk.trans aC
 refine W ?_
 refine iS (λx:aj=>[(0,.pointer (some ⟨br,0,none⟩)),(3,str x)]) (λx ww=>ak [br] w ww∧dM ww br (q+20)∧x.length<=100) ?_ ?_
 refine zc rfl (λh1=>?_) (λh1=>?_)
 refine lv<|zm<|aA (P8 2 de br (q+1) om w1 h) ?_
 rintro v9 w2 ⟨⟨T,e9,hT⟩,h,aC⟩
 subst e9
 have Yk:=T.len
 have hT:T.n+1<=8:=hT
 have hk:=hk.trans aC
 refine W ?_
 exact⟨_,⟨rfl,rfl⟩,hk,h.more om,om⟩
 refine WZ ?_
 exact⟨_,⟨rfl,rfl⟩,hk,h.more om,by decide⟩
 intro gu w2 e2 hI
 obtain⟨hk,h,hx⟩:=hI
 have lr:=h.lt
 refine zr<|zm<|gA bo bm λw3 aH iY fS=>bL aH hk h λhk h=>?_
 refine gA bo bm λw4 aN Fo ga=>cO aN hk h iY λhk h iY=>?_
 refine iT (MP _ _ _ _ _ _ _) rfl rfl<|zm<|zm<|aA (mh 3 de de br (q+20) om w4 h) ?_
 rintro v9 w5 ⟨⟨z2,e9,dK⟩,h,aC⟩
 subst e9
 have hk:=hk.trans aC
 have cK:bg [br] w5 _ []:=(iY.lh.aG aC so).rep so
 have cI:bg [br] w5 _ []:=(Fo.lh.aG aC so).rep so
 have hE:=Qj (2+z2) om
 have hp:4^(2+z2)<=4^4:=Nat.pow_le_pow_right de om
 have XM:(4:Nat)^4=256:=rfl
 refine o3 rfl rfl rfl rfl rfl (lq (2+z2) om _ om)<|aA (hE [] [] gu br (q+21) _ _ w5 rfl so sm om om h cK cI) ?_
 rintro v9 w6 ⟨⟨x9,e9,iW⟩,h,aC⟩
 subst e9
 have hk:=hk.trans aC
 have h:=h.more (show _<=q+6000 from om)
 refine W ?_
 refine aA (Oj x9 w6) ?_
 rintro _ w7 ⟨rfl,bJ⟩
 have jd:=bJ.size
 refine bL bJ hk h λhk h=>?_
 refine aV<|zc rfl (λh2=>?_) (λh2=>?_)
 refine W ?_
 exact⟨_,rfl,⟨_,rfl⟩,h.more om,hk⟩
 have lr:=h.lt
 refine gX<|zr<|zm<|gA bo bm λw8 aU xT kV=>bL aU hk h λhk h=>?_
 refine gA bo bm λw9 aC Dx dv=>cO aC hk h xT λhk h xT=>?_
 refine iT (MP _ _ _ _ _ _ _) rfl rfl<|zm<|aA (Qj 2 de [] [] gu br (q+6000) _ _ w9 rfl sm sm om om h (xT.lh.rep so) (Dx.lh.rep so)) ?_
 rintro v9 cB ⟨⟨Fq,e9,asX⟩,h,aC⟩
 subst e9
 have hk:=hk.trans aC
 refine W ?_
 exact⟨_,rfl,⟨_,rfl⟩,h.more om,hk⟩
theorem Gr.two {B b TB:Nat} {x1 x2 x3 y1 y2 y3:Value} {f1 f2:Bk} (hb:aL w b [x1,x2,x3,y1,y2,y3].toArray TB) (h1:nN (b::L) w (.agg #[x1,x2,x3]) f1) (h2:nN (b::L) w (.agg #[y1,y2,y3]) f2) (hB:B<=b) (hL:∀x,x∈L->x<w.heap.size) (p6:b∉L):Gr B L w TB 3 (.slice (some ⟨b,0,none⟩) 2 2) (some b) ([f1,f2].map Bk.enc):=
 ⟨⟨[x1,x2,x3,y1,y2,y3],⟨rfl,.inr ⟨b,2,_,rfl,rfl,hb,lR _,by decide,rfl,rfl⟩⟩,dd.append (vs:=[x1,x2,x3]) h1.ji (dd.append (vs:=[y1,y2,y3]) h2.ji (vs':=[]) (cs':=[]) trivial),by intro row hr;simp at hr;rcases hr with rfl|rfl<;>rfl,by intro c hc;cases hc;exact p6⟩,by intro c hc;cases hc;exact hB,hL,Nat.le_of_lt (Nat.lt_of_le_of_lt hB hb.lt)⟩
structure zU (bs:List Bk):Prop where
 len:1<=bs.length∧bs.length<=40
 bk:∀b,b∈bs->b.aM.length<=100∧b.bW.length<=40∧b.code.length<=80∧(∀x,x∈b.bW->x.length<=12000)∧∀x,x∈b.code->x.length<=12000
theorem zU.smalls (h:zU bs):tU bs:=⟨by have:=h.len;omega,λi hi=>by
 have:=h.bk (bN bs i) (List.mem_of_getElem? (rW hi))
 exact⟨by omega,om,om⟩⟩
theorem Qs.dr {b:Bk} {l:aj} (h:Qs b l) (hl:l.length<=100):b.aM.length<=100∧b.bW.length<=40∧b.code.length<=80∧(∀x,x∈b.bW->x.length<=12000)∧∀x,x∈b.code->x.length<=12000:=
 ⟨by rw[h.aM];exact hl,by have:=h.regs.1;omega,by have:=h.code.2.1;omega,λx hx=>by have:=h.regs.2 x hx;omega,λx hx=>by have:=h.code.2.2 x hx;omega⟩
theorem anK (h:sI x=true):x.length<=12000:=by
 unfold sI seen at h
 cases hp:bA x with
 |none=>rw[hp] at h;cases h
 |some t=>exact(pU hp).2.2.2
theorem Yx (hp:iB bs=true) (hl:∀b,b∈bs->b.aM.length<=10):zU bs:=by
 obtain⟨h1,h2,h3⟩:=Yq hp
 refine⟨⟨h2,h1⟩,λb hb=>?_⟩
 obtain⟨i,hi,rfl⟩:=List.getElem_of_mem hb
 have e:bN bs i=bs[i]:=by unfold bN;rw[gG,gE hi];rfl
 have h4:=h3 i hi
 rw[e] at h4
 obtain⟨_,h5,h6⟩:=MA (Aw hp _ hb)
 refine⟨by have:=hl _ hb;omega,h4.1,h4.2.2,λx hx=>?_,λx hx=>?_⟩
 ·obtain⟨t,ht,_⟩:=h5 x hx;exact(pU ht).2.2.2
 ·obtain⟨t,ht,_⟩:=h6 x hx;exact(pU ht).2.2.2
theorem zU.anL {cs:List Bk} (h:zU bs) (hh:wh bs cs):zU cs:=by
 refine⟨by rw[hh.1];exact h.len,λb hb=>?_⟩
 obtain⟨i,hi,rfl⟩:=List.getElem_of_mem hb
 have lp:i<bs.length:=by rw[<-hh.1];exact hi
 have e:bN cs i=cs[i]:=by unfold bN;rw[gG,gE hi];rfl
 obtain⟨h1,h2,h3,h4⟩:=hh.2 i lp
 rw[e] at h1 h2 h3 h4
 have h5:=h.bk (bN bs i) (List.mem_of_getElem? (rW lp))
 rw[h1,h2]
 exact⟨h5.1,h5.2.1,om,h5.2.2.2.1,λx hx=>(h4 x hx).elim (h5.2.2.2.2 x) anK⟩
def QB:List aj:=[[98,49],[98,48],[101,110,100]]
theorem anM (br q:Nat) (hq:q<=600000000) (w:World) (h:dM w br q):
  bC Tryz.prog 61 [.pointer (some ⟨br,0,none⟩)] w λr w'=>(∃bs g,zU bs∧Gr w.heap.size [br] w' 58 3 r g (bs.map Bk.enc))∧dM w' br (q+20000)∧ak [br] w w':=by
 have hk:=ak.refl [br] w
 have ir:=h.lt
 refine cj [.tmp 2] 49 Tryz.func61 rfl adF rfl rfl ?_
 refine W ?_
 refine aA (mh 3 de de br q om w h) ?_
 rintro v9 w1 ⟨⟨z,e9,hz⟩,h,aC⟩
 subst e9
 have hk:=hk.trans aC
 refine W ?_
 refine zc rfl (λh1=>?_) (λh1=>?_)
 have lr:=h.lt
 refine zr<|zm<|aA (Qu [109,97,105,110] 0 de br (q+1) om w1 h) ?_
 rintro v9 w2 ⟨⟨f1,sh,cK⟩,h,aC⟩
 have hk:=hk.trans aC
 have cK:=cK [br] so
 have cG:=yf cK
 obtain⟨a1,n1,c1,a2,n2,c2,e9,fj,eQ,df,dz⟩:=cG
 subst e9
 refine zm<|zm<|aA (mh 3 de de br (q+101) om w2 h) ?_
 rintro v9 w3 ⟨⟨z2,e9,dK⟩,h,aC⟩
 subst e9
 have hk:=hk.trans aC
 have df:=df.aD aC sm;have dz:=dz.aD aC sm
 have lr:=h.lt
 refine aA (Qu [98,48] z2 om br (q+102) om w3 h) ?_
 rintro v9 w4 ⟨⟨f2,si,cI⟩,h,aC⟩
 have hk:=hk.trans aC
 have df:=df.aD aC sm;have dz:=dz.aD aC sm
 have cI:=cI [br] so
 have cG:=yf cI
 obtain⟨a3,n3,c3,a4,n4,c4,e9,pF,JS,eM,fg⟩:=cG
 subst e9
 refine rz [.tmp 10,.tmp 14] [[str f1.aM,.slice a1 n1 c1,.slice a2 n2 c2],[str f2.aM,.slice a3 n3 c3,.slice a4 n4 c4]] jH fD rfl rfl rfl rfl rfl rfl rfl rfl rfl λw5 aJ E2 HI=>?_
 have lr:=h.lt
 have wA:∀x,x∈w4.heap.size::[br]->x∈[br]∨w4.heap.size<=x:=(λx hx=>by rcases mC.1 hx with h9|h9;(·right;omega);(·exact .inl h9))
 have df:=(df.fresh wA).ext aJ
 have dz:=(dz.fresh wA).ext aJ
 have eM:=(eM.fresh wA).ext aJ
 have fg:=(fg.fresh wA).ext aJ
 have FM:=hk.size
 refine bL aJ hk h λhk h=>?_
 have hO:=Gr.two (B:=w.heap.size) (L:=[br]) E2 (wI df dz) (wI eM fg) om so so
 refine W ?_
 refine aA (mh 3 de de br (q+202) om w5 h) ?_
 rintro v9 w6 ⟨⟨z3,e9,fS⟩,h,aC⟩
 subst e9
 have hk:=hk.trans aC
 have hO:=hO.aD aC sm
 refine W ?_
 refine zc rfl (λh2=>?_) (λh2=>?_)
 have lr:=h.lt
 refine W ?_
 refine qf bo bm rfl rfl rfl rfl rfl λw7 bJ uA l4=>cO bJ hk h hO λhk h hO=>?_
 refine aA (lV QB de de br (q+203) om _ w7 h (aL.dS QB uA (λhx=>by simp at hx;omega) de)) ?_
 rintro l9 w8 ⟨⟨lb,hi,gW⟩,h,aC⟩
 subst gW
 have hk:=hk.trans aC
 have hO:=hO.aD aC sm
 have BP:=(show∀x,x∈QB->x.length<=30 from by decide) _ hi
 refine zm<|aA (mh 2 de de br (q+204) om w8 h) ?_
 rintro v9 w9 ⟨⟨z4,e9,ga⟩,h,aC⟩
 subst e9
 have hk:=hk.trans aC
 have hO:=hO.aD aC sm
 have lr:=h.lt
 have fH:=hO.all
 refine aA (Qu lb z4 om br (q+205) om w9 h) ?_
 rintro v9 cB ⟨⟨f3,vQ,J0⟩,h,aC⟩
 have hk:=hk.trans aC
 have hO:=hO.aD aC sm
 have J0:=J0 _ fH
 have cG:=yf J0
 obtain⟨a5,n5,c5,a6,n6,c6,e9,KC,XK,mn,ku⟩:=cG
 subst e9
 refine fo jH fD rfl rfl λeC dh anN uh=>ld dh hk h hO mn ku λhk h hO mn ku=>?_
 refine Ru jH fD rfl rfl rfl rfl rfl rfl hO anN (wI mn ku) sm λa7 c7 g7 fI fW dw=>?_
 have hk:=hO.since hk dw
 have h:=h.aG dw (λx hx=>by have:=hO.low x (by simp at hx;simp[hx]);omega)
 refine W ?_
 exact⟨_,rfl,⟨[f1,f2]++[f3],_,⟨by simp,λb hb=>by simp at hb;rcases hb with rfl|rfl|rfl;(·exact sh.dr de);(·exact si.dr de);(·exact vQ.dr om)⟩,fW⟩,h.more om,hk⟩
 refine W ?_
 exact⟨_,rfl,⟨[f1,f2],_,⟨by simp,λb hb=>by simp at hb;rcases hb with rfl|rfl;(·exact sh.dr de);(·exact si.dr de)⟩,hO⟩,h.more om,hk⟩
 refine gX<|zr<|zm<|aA (anJ br (q+1) om w1 h) ?_
 rintro v9 w2 ⟨⟨x9,e9⟩,h,aC⟩
 subst e9
 have hk:=hk.trans aC
 have lr:=h.lt
 have FM:=hk.size
 refine aA (XX x9 w2) ?_
 rintro v3 w3 ⟨ka,aH⟩
 have eM:=aH.size
 refine bL aH hk h λhk h=>?_
 obtain⟨v1,ok,bs,e9,_,hC,hR⟩:=ka
 subst e9
 refine W ?_
 refine iS (λv:Value=>[(0,.pointer (some ⟨br,0,none⟩)),(4,v)]) (λv ww=>ak [br] w ww∧dM ww br (q+12001)∧∃bs g,Gr w.heap.size [br] ww 58 3 v g (bs.map Bk.enc)∧iB bs=true∧∀b,b∈bs->b.aM.length<=10) ?_ ?_
 refine zc rfl (λh3=>?_) (λh3=>?_)
 have hf:ok=false:=(by simpa using h3)
 have lr:=h.lt
 have FM:=hk.size
 refine lv<|aA (XX [40,43,32,49,32,50,41] w3) ?_
 rintro v4 w4 ⟨kF,aN⟩
 have fg:=aN.size
 refine bL aN hk h λhk h=>?_
 obtain⟨v2,ok2,X7,e9,_,QC,B2⟩:=kF
 subst e9
 have anO:=amj QC
 subst anO
 have aY:=B2 rfl
 obtain⟨g2,zh⟩:=aY
 refine W ?_
 exact⟨_,⟨rfl,rfl⟩,hk,h.more om,_,g2,(h.gr zh lr).down FM,QC.prog,QC.aM⟩
 have bj:ok=true:=(by simpa using h3)
 subst bj
 have aY:=hR rfl
 obtain⟨g2,zh⟩:=aY
 refine WZ ?_
 exact⟨_,⟨rfl,rfl⟩,hk,h.more om,_,g2,(h.gr zh lr).down FM,hC.prog,hC.aM⟩
 intro gu w4 e4 hI
 obtain⟨hk,h,bs,g,hR,sB,Lq⟩:=hI
 refine jV<|zr<|zm<|aA (mh 2 de de br (q+12001) om w4 h) ?_
 rintro v9 w5 ⟨⟨z5,e9,iq⟩,h,aC⟩
 subst e9
 have hk:=hk.trans aC
 have hR:=hR.aD aC sm
 have FM:=hk.size
 refine W ?_
 refine zc rfl (λh4=>?_) (λh4=>?_)
 refine W ?_
 exact⟨_,rfl,⟨bs,g,Yx sB Lq,hR⟩,h.more om,hk⟩
 have hRn:=ck.none hR.tR
 refine W ?_
 refine aA (anu bs sB br (q+12002) om _ w5 h hRn) ?_
 rintro v9 w6 ⟨⟨cs,gc,hRc,hH⟩,h,aC⟩
 have hk:=hk.trans aC
 refine W ?_
 exact⟨_,rfl,⟨cs,gc,(Yx sB Lq).anL hH,hRc.down FM⟩,h.more om,hk⟩
mutual
def jq (x:aj) (y:aq):aq->aq
 | .mk a ps=>if a≠[] then(if a=x then y else .mk a ps) else .mk [] (IM x y ps)
def IM (x:aj) (y:aq):List aq->List aq
 |[]=>[]
 |t::ts=>jq x y t::IM x y ts
end
theorem LD (x:aj) (y:aq):∀ps,IM x y ps=ps.map (jq x y)
 |[]=>by simp[IM]
 |t::ts=>by simp[IM,LD x y ts]
theorem QD (x:aj) (y t:aq):jq x y t=if t.av≠[] then(if t.av=x then y else t) else .mk [] (t.ai.map (jq x y)):=by
 cases t with
 |mk a ps=>simp only[jq,LD,aq.av,aq.ai];rfl
theorem anR {x:aj} (hy:Good y) (h:Good t):Good (jq x y t):=by
 induction h with
 |av a ha hb=>
  unfold jq
  rw[iP ha]
  split
  ·exact hy
  ·exact .av a ha hb
 |list ps hp hw ih=>
  unfold jq
  rw[iN sm,LD]
  exact .list _ (by simpa using hp) (λp Av=>by obtain⟨q,hq,rfl⟩:=List.mem_map.1 Av;exact ih q hq)
theorem Yy {K:Nat} (h1:1<=K):∀{ps:List aq},(∀p,p∈ps->(jq x y p).text.length<=p.text.length*K)->ps≠[]->(kA (ps.map (jq x y))).length<=(kA ps).length*K
 |[],_,h=>absurd rfl h
 |[t],h,_=>by
  have:=h t sm
  simpa only[List.map_cons,List.map_nil,pT] using this
 |t::u::us,h,_=>by
  have h2:=h t sm
  have h3:=Yy h1 (ps:=u::us) (λp hp=>h p (by simp at hp⊢;exact .inr hp)) sm
  rw[List.map_cons] at h3
  rw[List.map_cons,List.map_cons,o8,o8]
  simp only[lA,lC,Nat.add_mul]
  omega
theorem anS {x:aj} {K:Nat} (h1:1<=K) (hK:y.text.length<=K) (h:Good t):(jq x y t).text.length<=t.text.length*K:=by
 induction h with
 |av a ha hb=>
  have ht:1<=(aq.mk a []).text.length:=by rw[o7 ha];cases a with|nil=>exact absurd rfl ha|cons _ _=>simp
  have hm:=Nat.mul_le_mul ht (lR K)
  have rq:=Nat.mul_le_mul (lR (aq.mk a []).text.length) h1
  unfold jq
  rw[iP ha]
  split<;>omega
 |list ps hp hw ih=>
  have h3:=Yy h1 ih hp
  unfold jq
  rw[iN sm,LD,qC,qC]
  simp only[lA,lC,List.length_nil,Nat.add_mul]
  omega
theorem anT (ax:aj) (y:aq):∀(m:Nat) (t:aq),t.size<=m->t.size<=10000000->WF t->∀(v vy:Value) (L:List Nat) (w:World),bh L w v t->bh L w vy y->(∀x,x∈L->x<w.heap.size)->
  bC Tryz.prog 107 [v,str ax,vy] w λr w'=>bh L w' r (jq ax y t)∧ak [] w w':=by
 intro m
 induction m with
 |zero=>intro t h;have:=qB t;omega
 |succ m ih=>
  intro t hm kW cF v vy L w hv hy hL
  have cm:=hv
  have wj:=hy
  have hyk:=hy
  obtain⟨a,n,c,rfl,hn,aQ⟩:=cS hv
  obtain⟨ya,yn,yc,rfl,hyn,hyp⟩:=cS hy
  subst hn
  have lK:=mP t
  have hK:=ak.refl [] w
  refine j1 [.cell 6 74] 44 Tryz.func107 rfl abG rfl rfl rfl ?_
  refine zr<|ey rfl λw1 aI bU di=>cO aI hK cm wj λhK cm wj=>?_
  refine ey rfl λw2 az bQ dK=>gH az hK cm wj bU λhK cm wj bU=>?_
  refine da aK rfl rfl rfl λw3 aH bK fS=>?_
  have hK:=hK.grow;have hK:=hK.ext aH;have cm:=cm.grow;have cm:=cm.ext aH;have wj:=wj.grow;have wj:=wj.ext aH;have bU:=bU.grow;have bU:=bU.ext aH;have bQ:=bQ.grow;have bQ:=bQ.ext aH
  refine W ?_
  apply oB 3 13 16 rfl oQ
  intro _
  exact oQ
  intro xx
  refine aV<|zc rfl (λh2=>?_) (λh2=>?_)
  obtain⟨q1,q2⟩:=Bool.and_eq_true_iff.1 h2
  have q1:=of_decide_eq_true q1
  have q2:=of_decide_eq_true q2
  have hq:jq ax y t=y:=(by rw[QD,iP (by rw[q1];exact q2),iP q1])
  refine W ?_
  refine cu aK rfl rfl rfl bK rfl λw4 aN bK ga=>?_
  have hK:=hK.aD aN sx;have wj:=wj.aD aN sx
  refine W ?_
  exact⟨[_],fB eK aK rfl bK rfl,by rw[hq];exact bh.fV wj (λx hx=>by simp[hx]),hK⟩
  have wT:=Bool.and_eq_false_iff.1 h2
  refine W ?_
  refine zc rfl (λh3=>?_) (λh3=>?_)
  have Fb:t.av≠ax:=(by rcases wT with h9|h9;(·exact of_decide_eq_false h9);(·intro e;exact of_decide_eq_false h9 (e▸h3)))
  have hq:jq ax y t=t:=(by rw[QD,iP h3,iN Fb])
  refine W ?_
  refine cu aK rfl rfl rfl bK rfl λw4 aN bK ga=>?_
  have hK:=hK.aD aN sx;have cm:=cm.aD aN sx
  refine W ?_
  exact⟨[_],fB eK aK rfl bK rfl,by rw[hq];exact bh.fV cm (λx hx=>by simp[hx]),hK⟩
  have Yz:t.av=[]:=Classical.not_not.1 h3
  have mq:=cF.pos Yz
  have hq:jq ax y t= .mk [] (t.ai.map (jq ax y)):=(by rw[QD,iN (by rw[Yz];simp)])
  have Yl:=hK.size
  have vE:=bQ.lt
  have Bh:=bK.lt
  refine gX<|zr<|iT (El _) rfl rfl<|da aK rfl rfl rfl λw4 aN cL ga=>?_
  have hK:=hK.grow;have hK:=hK.ext aN;have bU:=bU.grow;have bU:=bU.ext aN;have bQ:=bQ.grow;have bQ:=bQ.ext aN;have bK:=bK.grow;have bK:=bK.ext aN
  refine cu aK rfl rfl rfl cL rfl λw5 aJ cL iq=>?_
  have hK:=hK.aD aJ sx;have bU:=bU.aD aJ sx;have bQ:=bQ.aD aJ sx;have bK:=bK.aD aJ sx
  refine W ?_
  refine eO (λq:Nat×Option Addr×Nat×Option Nat=>[(1,str ax),(3,.pointer (some ⟨w.heap.size,0,none⟩)),(5,.pointer (some ⟨w1.heap.size,0,none⟩)),(6,.pointer (some ⟨w2.heap.size,0,none⟩)),(7,.pointer (some ⟨w3.heap.size,0,none⟩)),(8,.int .i64 (q.1:Int))]) (λq w'=>ak [] w w'∧aL w' w.heap.size [str t.av,.slice a t.ai.length c].toArray 74∧aL w' w1.heap.size [str y.av,.slice ya yn yc].toArray 74∧aL w' w2.heap.size [str [],.slice none 0 0].toArray 74∧aL w' w3.heap.size [str [],.slice q.2.1 ((t.ai.take q.1).map (jq ax y)).length q.2.2.1].toArray 74∧Gr w3.heap.size (w3.heap.size::w2.heap.size::L) w' 74 2 (.slice q.2.1 ((t.ai.take q.1).map (jq ax y)).length q.2.2.1) q.2.2.2 (cQ ((t.ai.take q.1).map (jq ax y)))∧q.1<=t.ai.length) (λq=>t.ai.length-q.1) ((0,none,0,none)) (⟨rfl,rfl,rfl,rfl,rfl,rfl⟩) (⟨hK,bU,bQ,bK,cL,Gr.nil (by intro x hx;have:=hK.size;simp at hx;rcases hx with rfl|rfl|hx;omega;omega;have:=hL x hx;omega) om,sm⟩) λgg w6 e6 hI=>?_
  obtain⟨i,a3,cc,g⟩:=gg
  dsimp only at hI⊢
  obtain⟨hK,bU,bQ,bK,cL,hO,hk⟩:=hI
  have fU:=hK.size
  have anV:=bU.lt
  have asZ:=bQ.lt
  have as0:=bK.lt
  have as1:=cL.lt
  refine W ?_
  refine zc rfl (λh4=>?_) (λh4=>?_)
  have dR:=ej (ps:=t.ai) (i:=i) om
  have YA:∀x,x∈g.toList++(w3.heap.size::w2.heap.size::L)->x∈L∨w.heap.size<=x:=by{intro x hx;rcases mA.1 hx with hx|hx;(·right;have:=hO.low x (by simpa using hx);omega);(·simp at hx;rcases hx with rfl|rfl|hx;(·right;omega);(·right;omega);(·exact .inl hx))}
  have anW:cX (g.toList++(w3.heap.size::w2.heap.size::L)) w6 _ t.ai:=cX.ext (ck.fresh aQ YA) hK
  have hY:bh (g.toList++(w3.heap.size::w2.heap.size::L)) w6 _ y:=bh.ext (jW.fresh hyk YA) hK
  obtain⟨b1,eh,pa,pn,pc,rfl,gV,dZ,fG⟩:=fC anW dR
  subst dZ
  have hT:=jh fG
  have lW:=kB (t:=t) (i:=i) om
  refine WZ ?_
  refine sE du bF 11 (rA 30 11) (rA 30 11) [[],[0],[],[2],[],[3,4],[5],[],[],[6,7,8],[9]] [λv _=>v=(.pointer (some ⟨w3.heap.size,0+1,none⟩)),λv _=>v=(.slice a3 ((t.ai.take i).map (jq ax y)).length cc),λv _=>v=(.pointer (some ⟨w.heap.size,0+1,none⟩)),λv _=>v=(.slice (some ⟨b1,eh,none⟩) t.ai.length c),λv _=>v=(.int .i64 (i:Int)),λv _=>v=(.pointer (some ⟨b1,eh+i*2,none⟩)),λv _=>v=(.agg #[str (nth t.ai i).av,.slice pa (nth t.ai i).ai.length pc]),λv _=>v=(str ax),λv _=>v=(.agg #[str y.av,.slice ya yn yc]),fun(v:Value) (ww:World)=>bh (g.toList++(w3.heap.size::w2.heap.size::L)) ww v (jq ax y (nth t.ai i)),fun(v:Value) (ww:World)=>∃b u1 u2,v= .slice (some ⟨b,0,none⟩) 1 1∧aL ww b [u1,u2].toArray 74∧bh (g.toList++(w3.heap.size::w2.heap.size::L)) ww (.agg #[u1,u2]) (jq ax y (nth t.ai i))] de (cR (cR (cR (cR (cR (cR (cR (cR (cR (mL (λv w w' h k=>bh.ext h k) (mL (λv w w' ⟨b,u1,u2,e,h1,h2⟩ k=>⟨b,u1,u2,e,h1.ext k,bh.ext h2 k⟩) trivial))))))))))) (λwd aB=>?_) ?_
  refine bV ?_ ?_
  intro x vs w7 e bJ hd he
  replace bJ:=bF.trans aB bJ
  replace he:e=aS (aR _ x _) []:=he
  subst he
  refine W ?_
  exact dn (bF.refl _) rfl
  refine bV ?_ ?_
  intro x vs w7 e bJ hd he
  have d0:vs 0=(.pointer (some ⟨w3.heap.size,0+1,none⟩)):=hd
  replace bJ:=bF.trans aB bJ
  have cL:=cL.ext bJ
  replace he:e=aS (aR _ x _) [(30,vs 0)]:=he
  rw[d0] at he
  subst he
  refine W ?_
  exact dn (bF.refl _) rfl
  refine bV ?_ ?_
  intro x vs w7 e bJ hd he
  replace bJ:=bF.trans aB bJ
  replace he:e=aS (aR _ x _) []:=he
  subst he
  refine W ?_
  exact dn (bF.refl _) rfl
  refine bV ?_ ?_
  intro x vs w7 e bJ hd he
  have d2:vs 2=(.pointer (some ⟨w.heap.size,0+1,none⟩)):=hd
  replace bJ:=bF.trans aB bJ
  have bU:=bU.ext bJ
  replace he:e=aS (aR _ x _) [(32,vs 2)]:=he
  rw[d2] at he
  subst he
  refine W ?_
  exact dn (bF.refl _) rfl
  refine bV ?_ ?_
  intro x vs w7 e bJ hd he
  replace bJ:=bF.trans aB bJ
  replace he:e=aS (aR _ x _) []:=he
  subst he
  refine W ?_
  exact dn (bF.refl _) rfl
  refine bV ?_ ?_
  intro x vs w7 e bJ hd he
  have aY:(vs 3=(.slice (some ⟨b1,eh,none⟩) t.ai.length c))∧(vs 4=(.int .i64 (i:Int))):=hd
  obtain⟨d3,d4⟩:=aY
  replace bJ:=bF.trans aB bJ
  replace he:e=aS (aR _ x _) [(33,vs 3),(34,vs 4)]:=he
  rw[d3,d4] at he
  subst he
  refine W ?_
  exact dn (bF.refl _) rfl
  refine bV ?_ ?_
  intro x vs w7 e bJ hd he
  have d5:vs 5=(.pointer (some ⟨b1,eh+i*2,none⟩)):=hd
  replace bJ:=bF.trans aB bJ
  have gV:=gV.ext bJ
  replace he:e=aS (aR _ x _) [(35,vs 5)]:=he
  rw[d5] at he
  subst he
  refine W ?_
  exact dn (bF.refl _) rfl
  refine bV ?_ ?_
  intro x vs w7 e bJ hd he
  replace bJ:=bF.trans aB bJ
  replace he:e=aS (aR _ x _) []:=he
  subst he
  refine W ?_
  exact dn (bF.refl _) rfl
  refine bV ?_ ?_
  intro x vs w7 e bJ hd he
  replace bJ:=bF.trans aB bJ
  have bQ:=bQ.ext bJ
  replace he:e=aS (aR _ x _) []:=he
  subst he
  refine W ?_
  exact dn (bF.refl _) rfl
  refine bV ?_ ?_
  intro x vs w7 e bJ hd he
  have aY:(vs 6=(.agg #[str (nth t.ai i).av,.slice pa (nth t.ai i).ai.length pc]))∧(vs 7=(str ax))∧(vs 8=(.agg #[str y.av,.slice ya yn yc])):=hd
  obtain⟨d6,d7,d8⟩:=aY
  replace bJ:=bF.trans aB bJ
  refine cO bJ hO hT hY λhO hT hY=>?_
  replace he:e=aS (aR _ x _) [(36,vs 6),(37,vs 7),(38,vs 8)]:=he
  rw[d6,d7,d8] at he
  subst he
  refine aA (ih (nth t.ai i) om om (cF.nth om) _ _ (g.toList++(w3.heap.size::w2.heap.size::L)) w7 hT hY hO.all) ?_
  rintro v8 w8 ⟨ux,aU⟩
  have oK:=aU.size
  have DN:=ux
  refine W ?_
  exact dn (bF.of aU) DN
  refine bV ?_ ?_
  intro x vs w7 e bJ hd he
  have d9:(fun(v:Value) (ww:World)=>bh (g.toList++(w3.heap.size::w2.heap.size::L)) ww v (jq ax y (nth t.ai i))) (vs 9) w7:=hd
  replace bJ:=bF.trans aB bJ
  replace he:e=aS (aR _ x _) [(39,vs 9)]:=he
  obtain⟨a7,n7,c7,e7,_,_⟩:=cS d9
  rw[e7] at he
  rw[e7] at d9
  subst he
  refine fo cw aK rfl rfl λw8 aU IG kV=>W ?_
  exact dn (bF.of aU) ⟨_,_,_,rfl,IG,bh.ext d9 aU⟩
  exact trivial
  intro x vs qt oY bT
  have d0:vs 0=(.pointer (some ⟨w3.heap.size,0+1,none⟩)):=bT 0 de
  have d1:vs 1=(.slice a3 ((t.ai.take i).map (jq ax y)).length cc):=bT 1 de
  have d2:vs 2=(.pointer (some ⟨w.heap.size,0+1,none⟩)):=bT 2 de
  have d3:vs 3=(.slice (some ⟨b1,eh,none⟩) t.ai.length c):=bT 3 de
  have d4:vs 4=(.int .i64 (i:Int)):=bT 4 de
  have d5:vs 5=(.pointer (some ⟨b1,eh+i*2,none⟩)):=bT 5 de
  have d6:vs 6=(.agg #[str (nth t.ai i).av,.slice pa (nth t.ai i).ai.length pc]):=bT 6 de
  have d7:vs 7=(str ax):=bT 7 de
  have d8:vs 8=(.agg #[str y.av,.slice ya yn yc]):=bT 8 de
  have d9:(fun(v:Value) (ww:World)=>bh (g.toList++(w3.heap.size::w2.heap.size::L)) ww v (jq ax y (nth t.ai i))) (vs 9) qt:=bT 9 de
  have d10:(fun(v:Value) (ww:World)=>∃b u1 u2,v= .slice (some ⟨b,0,none⟩) 1 1∧aL ww b [u1,u2].toArray 74∧bh (g.toList++(w3.heap.size::w2.heap.size::L)) ww (.agg #[u1,u2]) (jq ax y (nth t.ai i))) (vs 10) qt:=bT 10 de
  refine sV oY hK bU bQ bK cL hO λhK bU bQ bK cL hO=>?_
  change OW _ _ _ _ _ (aS (aR _ x _) (zZ 30 [vs 0,vs 1,vs 2,vs 3,vs 4,vs 5,vs 6,vs 7,vs 8,vs 9,vs 10])) _
  rw[d0,d1,d2,d3,d4,d5,d6,d7,d8]
  obtain⟨nb,u1,u2,e7,nY,ht⟩:=d10
  rw[e7]
  refine Gj cw aK rfl rfl rfl rfl rfl rfl hO nY ht (by rw[wK _ hk];omega) λa4 fT g4 l5 gz jz=>?_
  have hK:=ak.Cq om hO.low hK jz
  have bU:=bU.aD jz (hO.Gh om);have bQ:=bQ.aD jz (hO.Gh om);have bK:=bK.aD jz (hO.vg sm);have cL:=cL.aD jz (hO.vg sm)
  rw[yj (jq ax y) dR] at gz⊢
  refine zf ja rfl<|gF Cx rfl rfl rfl cL rfl λkZ iO cL afP=>?_
  have hK:=hK.aD iO sx;have bU:=bU.aD iO sx;have bQ:=bQ.aD iO sx;have bK:=bK.aD iO sx;have gz:=gz.aD iO sx
  refine W ?_
  exact⟨(i+1,a4,fT,g4),⟨rfl,rfl,rfl,rfl,rfl,rfl⟩,⟨hK,bU,bQ,bK,cL,gz.fV (λx hx=>by simpa using hx),by dsimp only;omega⟩,by dsimp only;omega⟩
  rw[yk (jq ax y) om] at cL hO
  refine W ?_
  refine cu aK rfl rfl rfl bK rfl λw7 bJ bK l4=>?_
  have hK:=hK.aD bJ sx;have hO:=hO.aD bJ sx
  refine W ?_
  exact⟨[_],fB eK aK rfl bK rfl,by rw[hq];exact km (hO.trees.fV (λx hx=>by simp[hx])),hK⟩
theorem anX (s a b:aj) (hb:b.length<=1000) (w:World):
  bC Tryz.prog 68 [str s,str a,str b] w λr w'=>(∃x ok,r= .tuple #[str x,.bool ok])∧ak [] w w':=by
 have hK:=ak.refl [] w
 refine cj [.tmp 6,.tmp 7] 54 Tryz.func68 rfl adM rfl rfl ?_
 refine W ?_
 refine aA (sX s [] w sm) ?_
 rintro v1 w1 ⟨fK,aI⟩
 have df:=aI.size
 have hK:=hK.ext aI
 obtain⟨t,tv,rfl,ht,hp⟩:=fK
 obtain⟨pa,pn,pc,rfl,dZ,aQ⟩:=cS ht
 subst dZ
 refine W ?_
 refine da aK rfl rfl rfl λw2 az cz dK=>?_
 have hK:=hK.grow;have hK:=hK.ext az;have ht:=ht.grow;have ht:=ht.ext az
 refine cu aK rfl rfl rfl cz rfl λw3 aH cz fS=>?_
 have hK:=hK.aD aH sx;have ht:=ht.aD aH sx
 refine W ?_
 refine aA (sX a [] w3 sm) ?_
 rintro v4 w4 ⟨kF,aN⟩
 have fg:=aN.size
 refine cO aN hK ht cz λhK ht cz=>?_
 obtain⟨t2,tv2,rfl,Bj,qM⟩:=kF
 obtain⟨iQ,yT,iR,rfl,EV,KO⟩:=cS Bj
 subst EV
 refine W ?_
 refine da aK rfl rfl rfl λw5 aJ kD iq=>?_
 have hK:=hK.grow;have hK:=hK.ext aJ;have ht:=ht.grow;have ht:=ht.ext aJ;have cz:=cz.grow;have cz:=cz.ext aJ
 refine cu aK rfl rfl rfl kD rfl λw6 bB kD jR=>?_
 have hK:=hK.aD bB sx;have ht:=ht.aD bB sx;have cz:=cz.aD bB sx
 refine W ?_
 refine aA (sX b [] w6 sm) ?_
 rintro v7 w7 ⟨vN,bJ⟩
 have jd:=bJ.size
 refine gH bJ hK ht cz kD λhK ht cz kD=>?_
 obtain⟨t3,tv3,rfl,zV,ui⟩:=vN
 obtain⟨pz,Oe,pA,rfl,anY,as3⟩:=cS zV
 subst anY
 refine W ?_
 refine da aK rfl rfl rfl λw8 aU Fo kV=>?_
 have hK:=hK.grow;have hK:=hK.ext aU;have ht:=ht.grow;have ht:=ht.ext aU;have cz:=cz.grow;have cz:=cz.ext aU;have kD:=kD.grow;have kD:=kD.ext aU;have zV:=zV.grow;have zV:=zV.ext aU
 refine cu aK rfl rfl rfl Fo rfl λw9 aC Fo dv=>?_
 have hK:=hK.aD aC sx;have ht:=ht.aD aC sx;have cz:=cz.aD aC sx;have kD:=kD.aD aC sx;have zV:=zV.aD aC sx
 refine W ?_
 apply oP 3 32 35 rfl oQ
 intro _
 exact oQ
 intro xx
 refine WZ ?_
 apply oP 3 36 39 rfl oQ
 intro _
 exact oQ
 intro xx
 refine WZ ?_
 apply oP 4 40 44 rfl oQ
 intro _
 refine WZ ?_
 exact oQ
 intro xx
 refine aV<|zc rfl (λh4=>?_) (λh4=>?_)
 refine W ?_
 exact⟨_,rfl,⟨[],false,rfl⟩,hK⟩
 obtain⟨h5,q4⟩:=Bool.or_eq_false_iff.1 h4
 obtain⟨h6,q3⟩:=Bool.or_eq_false_iff.1 h5
 obtain⟨q1,q2⟩:=Bool.or_eq_false_iff.1 h6
 have e1:=Option.isSome_iff_exists.1 (show(bA s).isSome=true by simpa using q1)
 obtain⟨u1,e1⟩:=e1
 have f1:=hp _ e1
 have g1:=pU (e1.trans (congrArg some f1.symm))
 have e3:=Option.isSome_iff_exists.1 (show(bA b).isSome=true by simpa using q3)
 obtain⟨u3,e3⟩:=e3
 have f3:=ui _ e3
 have g3:=pU (e3.trans (congrArg some f3.symm))
 have z1:=Gv g1.1
 have z3:=anR (x:=a) g3.1 g1.1
 have z4:=anS (x:=a) (K:=1000) de (by rw[g3.2.2.1];exact hb) g1.1
 have z5:=Gv z3
 have z6:=congrArg List.length g1.2.2.1
 have z7:=g1.2.2.2
 refine W ?_
 refine aA (anT a t3 t.size t (lR _) om g1.1.wf _ _ [] w9 (bh.fV ht (λx hx=>nomatch hx)) (bh.fV zV (λx hx=>nomatch hx)) sm) ?_
 rintro v10 cB ⟨PS,cA⟩
 have zn:=cA.size
 have hK:=hK.ext cA
 have mr:=PS
 refine aA (r6 (jq a t3 t).size (jq a t3 t) (lR _) z3.wf om om _ _ cB mr) ?_
 rintro _ eC ⟨rfl,dh⟩
 have zH:=dh.size
 have hK:=hK.ext dh
 refine W ?_
 refine aA (Uk (jq a t3 t).text eC) ?_
 rintro _ fI ⟨rfl,dw⟩
 have BC:=dw.size
 have hK:=hK.ext dw
 refine jY rfl rfl rfl<|aV<|zc rfl (λh5=>?_) (λh5=>?_)
 refine W ?_
 exact⟨_,rfl,⟨[],false,rfl⟩,hK⟩
 refine W ?_
 exact⟨_,rfl,⟨_,true,rfl⟩,hK⟩
theorem QE {xs:List aj} (h:∀x,x∈xs->x.length<=B):iU xs<=xs.length*(B+1):=by
 unfold iU
 induction xs with
 |nil=>simp
 |cons x r ih=>
  have h1:=h x sm
  have h2:=ih (λy hy=>h y (by simp[hy]))
  rw[List.map_cons,List.sum_cons,lC,Nat.succ_mul]
  omega
theorem QF (h:aj) (ps:List aj):(cY h ps).length=h.length+iU ps+2:=by
 unfold cY
 rw[lC,lA,lA,Jm]
 simp
theorem zU.prog (h:zU bs):(lD bs).length<=100000000:=by
 have hb:∀x,x∈bs.map lB->x.length<=1441000:=λx hx=>by
  obtain⟨b,hb,rfl⟩:=List.mem_map.1 hx
  obtain⟨h1,h2,h3,h4,h5⟩:=h.bk b hb
  have h6:=QE h4
  have h7:=QE h5
  have h8:=Nat.mul_le_mul_right (12000+1) h2
  have h9:=Nat.mul_le_mul_right (12000+1) h3
  unfold lB
  rw[QF]
  simp only[iU,lC,List.length_nil,List.map_cons,List.map_nil,List.sum_cons,List.sum_nil,QF] at h6 h7⊢
  omega
 have h1:=QE hb
 have h2:=Nat.mul_le_mul_right (1441000+1) h.len.2
 rw[List.length_map] at h1
 unfold lD
 rw[QF]
 simp only[lC,List.length_nil]
 omega
def YB:List aj:=[[109,97,105,110],[99,111,100,101],[104,97,108,116],[48],[105]]
def QG:List aj:=[[98,48],[105],[49],[40,116,41]]
theorem anZ (br q:Nat) (hq:q<=500000000) (w:World) (h:dM w br q):
  bC Tryz.prog 36 [.pointer (some ⟨br,0,none⟩)] w λr w'=>(∃s,r=str s)∧ak [br] w w':=by
 have hk:=ak.refl [br] w
 have ir:=h.lt
 refine cj [.tmp 2] 34 Tryz.func36 rfl adq rfl rfl ?_
 refine W ?_
 refine aA (anM br q om w h) ?_
 rintro v9 w1 ⟨⟨ps,gp,hP,hG⟩,h,aC⟩
 have hR:=ck.none hG.tR
 have hk:=hk.trans aC
 refine aA (afT ps hP.smalls hP.prog _ [] w1 hR) ?_
 rintro _ w2 ⟨rfl,az⟩
 have dz:=az.size
 refine bL az hk h λhk h=>?_
 refine W ?_
 refine zc rfl (λh1=>?_) (λh1=>?_)
 refine W ?_
 exact⟨_,rfl,⟨_,rfl⟩,hk⟩
 refine zr<|zm<|aA (mh 8 de de br (q+20000) om w2 h) ?_
 rintro v10 w3 ⟨⟨z,fL,hz⟩,h,aC⟩
 subst fL
 have hk:=hk.trans aC
 refine W ?_
 refine zc rfl (λh2=>?_) (λh2=>?_)
 have lr:=h.lt
 refine zr<|zm<|zm<|NP bo bm rfl rfl rfl rfl rfl rfl rfl λw4 aN xT ga=>bL aN hk h λhk h=>?_
 refine aA (lV YB de de br (q+20001) om _ w4 h (aL.dS YB xT (λhx=>by simp at hx;omega) de)) ?_
 rintro l9 w5 ⟨⟨la,hi,gW⟩,h,aC⟩
 subst gW
 have hk:=hk.trans aC
 have lr:=h.lt
 refine zm<|xh bo bm rfl rfl rfl rfl rfl rfl λw6 bB vY jR=>bL bB hk h λhk h=>?_
 refine aA (lV QG de de br (q+20002) om _ w6 h (aL.dS QG vY (λhx=>by simp at hx;omega) de)) ?_
 rintro vR w7 ⟨⟨lb,lp,BB⟩,h,aC⟩
 subst BB
 have hk:=hk.trans aC
 have BP:=(show∀x,x∈QG->x.length<=30 from by decide) _ lp
 refine aA (anX _ la lb om w7) ?_
 rintro v8 w8 ⟨ux,aU⟩
 have oK:=aU.size
 have hk:=hk.ext aU
 obtain⟨x9,ok9,e9⟩:=ux
 subst e9
 refine W ?_
 refine zc rfl (λh3=>?_) (λh3=>?_)
 refine W ?_
 exact⟨_,rfl,⟨_,rfl⟩,hk⟩
 refine W ?_
 exact⟨_,rfl,⟨_,rfl⟩,hk⟩
 refine W ?_
 exact⟨_,rfl,⟨_,rfl⟩,hk⟩
theorem an0 (bs:List UInt8) (hb:bs.length<=1000000000) (v:Value) (w:World) (hv:ck [] w v (.sl 1 (rO bs))):
  bC Tryz.prog 11 [v] w λr w'=>(∃s,r=str s)∧ak [] w w':=by
 have hK:=ak.refl [] w
 refine cj [.tmp 2] 6 Tryz.func11 rfl abJ rfl rfl ?_
 refine W ?_
 refine aA (amu bs hb _ w hv) ?_
 rintro v1 w1 ⟨fK,aI⟩
 have df:=aI.size
 have hK:=hK.ext aI
 obtain⟨br,e9,JX,h⟩:=fK
 subst e9
 refine aA (anZ br 0 de w1 h) ?_
 rintro v9 w2 ⟨⟨x9,e9⟩,aC⟩
 subst e9
 have hK:=hK.since aC (λx hx=>.inr (by simp at hx;omega))
 refine W ?_
 exact⟨_,rfl,⟨_,rfl⟩,hK⟩
theorem LF (hg:Good t) (hh:h≠[]) (e:cH t=h):t=ju h (t.ai.drop 1):=by
 cases hg with
 |av a ha hb=>rw[sF (t:=.mk a []) (.inl ha)] at e;exact absurd e.symm hh
 |list ps hp hw=>
  rw[aaZ] at e
  cases ps with
  |nil=>exact absurd rfl hp
  |cons p ps=>
   have hpg:=hw p sm
   cases hpg with
   |av a ha hb=>have e2:a=h:=e;subst e2;rfl
   |list qs _ _=>have e2:[]=h:=e;exact absurd e2.symm hh
theorem an2 (hg:Good t) (h:t.av≠[]):t.text=t.av:=by
 cases hg with
 |av a ha hb=>exact o7 ha
 |list ps hp hw=>exact absurd rfl h
theorem four {u:aq} (hl:u.ai.length=4) (e:u=ju h (u.ai.drop 1)):u=ju h [nth u.ai 1,nth u.ai 2,nth u.ai 3]:=by
 cases u with
 |mk a ps=>
  match ps,hl with
  |[a1,a2,a3,a4],_=>exact e
theorem an3 {u:aq} (hg:Good u) (h:oy u=true) (hl:(Ej u).aM≠[]):lB (Ej u)=u.text:=by
 have h4:=Gu h
 unfold oy at h
 simp only[aE,dE] at h
 obtain⟨⟨⟨h1,_⟩,h2⟩,h3⟩:=h
 have g1:=hg.sub (ej (ps:=u.ai) (i:=1) om)
 have g2:=hg.sub (ej (ps:=u.ai) (i:=2) om)
 have g3:=hg.sub (ej (ps:=u.ai) (i:=3) om)
 have e:=four h4 (LF hg de h1)
 have e2:=LF g2.1 de h2
 have e3:=LF g3.1 de h3
 have e1:=an2 g1.1 hl
 conv=>rhs;rw[e,wJ de]
 rw[List.map_cons,List.map_cons,List.map_cons,List.map_nil,e1]
 conv=>rhs;rw[e2,e3]
 rw[wJ de,wJ de]
 rfl
theorem an4 {s:aj} (h:nO s=some bs):rl bs=some s∧iB bs=true:=by
 unfold nO at h
 cases hq:bA s with
 |none=>rw[hq] at h;cases h
 |some t=>
  rw[hq] at h
  simp only at h
  split at h
  ·rename_i hc
   cases h
   rw[aE,dE] at hc
   obtain⟨h1,h2⟩:=hc
   obtain⟨g1,_,g3,_⟩:=pU hq
   have e:lD (lE t)=s:=by
    have e0:=LF g1 de h1
    rw[<-g3]
    conv=>rhs;rw[e0]
    rw[wJ de]
    unfold lD lE
    rw[List.map_map]
    congr 1
    refine List.map_congr_left λu hu=>?_
    have hm:kP u∈lE t:=List.mem_map_of_mem hu
    obtain⟨i,hi,rfl⟩:=List.getElem_of_mem (List.mem_of_mem_drop hu)
    have hg:=(g1.sub (gE hi)).1
    cases hb:oy t.ai[i] with
    |false=>rw[MG hb] at hm;rw[Sp hm] at h2;cases h2
    |true=>
     have hl:=Aw h2 _ hm
     rw[Jk hb] at hl
     unfold kO at hl
     simp only[aE] at hl
     have iz:=hl.1.1.1.1
     show lB (kP t.ai[i])=_
     rw[Jk hb]
     exact an3 hg hb (λhn=>by rw[hn] at iz;exact absurd iz de)
   refine⟨?_,h2⟩
   unfold rl
   rw[h2,e,hq]
   rfl
  ·cases h
theorem YC {a:Value} (h:bh L w (.agg #[a,v]) t):cX L w v t.ai:=by
 obtain⟨a',n,c,he,hn,hp⟩:=cS h
 have:v= .slice a' n c:=by
  have:=congrArg (λv=>match v with|Value.agg x=>x.toList|_=>[]) he
  simp at this;exact this.2
 rw[this];exact hp
theorem an5 (s:aj) (w:World):
  bC Tryz.prog 13 [str s] w λr w'=>(∃a n c,r= .tuple #[.slice a n c,.bool (nO s).isSome]∧mO [] w' (.slice a n c) ((nO s).getD []))∧ak [] w w':=by
 have hK:=ak.refl [] w
 refine cj [.tmp 2,.tmp 3] 43 Tryz.func13 rfl abW rfl rfl ?_
 refine W ?_
 refine aA (sX s [] w sm) ?_
 rintro v1 w1 ⟨fK,aI⟩
 have df:=aI.size
 have hK:=hK.ext aI
 obtain⟨t,tv,rfl,ht,hp⟩:=fK
 obtain⟨pa,pn,pc,rfl,dZ,aQ⟩:=cS ht
 subst dZ
 refine W ?_
 refine da aK rfl rfl rfl λw2 az aF dK=>?_
 have hK:=hK.grow;have hK:=hK.ext az;have ht:=ht.grow;have ht:=ht.ext az
 refine cu aK rfl rfl rfl aF rfl λw3 aH aF fS=>?_
 have hK:=hK.aD aH sx;have ht:=ht.aD aH sx
 refine zA<|aV<|zr<|tQ w3.heap.size [] jH fD rfl rfl om sm λw4 aN di hO=>?_
 have ze:=YC ht
 have dC:=aN
 have eM:=hK.size
 refine cO aN hK ht aF λhK ht aF=>?_
 refine W ?_
 apply oO 4 16 20 (ak [] w4) rfl oQ
 intro _
 refine W ?_
 refine aA (Bf t _ _ w4 ht) ?_
 rintro _ w5 ⟨rfl,aJ⟩
 have mn:=aJ.size
 exact oQ
 intro xx w6 bB
 refine gH bB hK aF hO dC λhK aF hO dC=>?_
 refine aV<|zc rfl (λh2=>?_) (λh2=>?_)
 have hq:=SA hp h2
 refine W ?_
 exact⟨_,rfl,⟨_,_,_,by rw[hq];rfl,by rw[hq];exact Gr.tR (bs:=[]) hO⟩,hK⟩
 obtain⟨mr,bI,jS⟩:=SB hp h2
 have B5:=MI mr
 have B6:=(pU mr).1
 have lK:=mP t
 have Oh:=B5.size
 refine W ?_
 refine eO (λq:Nat×Option Addr×Nat×Option Nat=>[(4,.pointer (some ⟨w1.heap.size,0,none⟩)),(6,.slice q.2.1 (((t.ai.drop 1).take q.1).map kP).length q.2.2.1),(7,.int .i64 ((q.1+1:Nat):Int))]) (λq w'=>ak [] w w'∧ak [] w3 w'∧aL w' w1.heap.size [str t.av,.slice pa t.ai.length pc].toArray 74∧Gr w3.heap.size [] w' 58 3 (.slice q.2.1 (((t.ai.drop 1).take q.1).map kP).length q.2.2.1) q.2.2.2 ((((t.ai.drop 1).take q.1).map kP).map Bk.enc)∧q.1+1<=t.ai.length) (λq=>t.ai.length-q.1) ((0,_,_,_)) (⟨rfl,rfl,rfl⟩) (⟨hK,dC,aF,hO,by simp only;omega⟩) λgg w7 e7 hI=>?_
 obtain⟨i,a3,cc,g⟩:=gg
 dsimp only at hI⊢
 obtain⟨hK,dC,aF,hO,hk⟩:=hI
 have fU:=hK.size
 have ir:=aF.lt
 refine W ?_
 refine zc rfl (λh3=>?_) (λh3=>?_)
 have dR:=ej (ps:=t.ai) (i:=i+1) om
 obtain⟨b1,eh,qa,qn,qc,rfl,gV,QH,uO⟩:=fC ze dR
 have tO:=MJ (t:=t) (k:=i) om
 refine WL ?_
 refine zl ix rfl (aF.at rfl)<|zm<|zi cw aK rfl rfl om<|zL eK aK rfl (gV.ext dC) rfl<|aA (afN (nth t.ai (i+1)) (B5.nth B6 om) (B6.nth om) _ _ (g.toList++[]) w7 (bh.ext (jh uO) dC) hO.all) ?_
 rintro v8 w8 ⟨ux,aU⟩
 have oK:=aU.size
 refine gH aU hK dC aF hO λhK dC aF hO=>?_
 obtain⟨a1,n1,c1,a2,n2,c2,rfl,_,_,_,_⟩:=yf ux
 have QI:=ux
 refine fo jH fD rfl rfl λw9 aC tw dv=>ld aC hK dC aF hO QI λhK dC aF hO QI=>?_
 refine Ru jH fD rfl rfl rfl rfl rfl rfl hO tw QI (by rw[wK _ so];omega) λa4 fT g4 cB gz cA=>?_
 have hK:=ak.Cq om hO.low hK cA
 have dC:=hO.since dC cA
 have aF:=aF.aD cA (hO.Gh om)
 rw[yj kP tO] at gz⊢
 refine W ?_
 exact⟨(i+1,a4,fT,g4),⟨rfl,rfl,rfl⟩,⟨hK,dC,aF,gz,by dsimp only;omega⟩,by dsimp only;omega⟩
 have cZ:((t.ai.drop 1).take i).map kP=lE t:=yk kP so
 rw[cZ] at hO⊢
 refine W ?_
 refine aA (NC (lE t) (ML B5 B6) _ _ w7 hO.tR) ?_
 rintro _ w8 ⟨rfl,aU⟩
 have oK:=aU.size
 refine bL aU hK hO λhK hO=>?_
 refine jY rfl rfl rfl<|aV<|zc rfl (λh4=>?_) (λh4=>?_)
 have hq:nO s=none:=by rw[bI,iN (by simpa using h4)]
 refine zr<|tQ w.heap.size [] jH fD rfl rfl (by have:=hK.size;omega) sm λw9 aC dv dm=>?_
 have hK:=hK.ext aC
 refine W ?_
 exact⟨_,rfl,⟨_,_,_,by rw[hq];rfl,by rw[hq];exact Gr.tR (bs:=[]) dm⟩,hK⟩
 have hq:nO s=some (lE t):=by rw[bI,iP (by simpa using h4)]
 refine W ?_
 exact⟨_,rfl,⟨_,_,_,by rw[hq];rfl,by rw[hq];exact hO.tR⟩,hK⟩
end Go.Proofs.YthbhobaiopccaaaGreatDoor
namespace Go.Proofs
open Go.Shelf
def Tryz.an6:Go.Shelf.Ren:=⟨fun|170=>174|n=>n,fun|70=>111|3=>3|0=>0|72=>113|37=>22|5=>5|n=>n,fun|n=>n⟩
theorem Tryz.an7:Go.Proofs.Lays.n170 Tryz.prog Tryz.an6:={
 mixed:=by kernel_rfl
 f170:=Tryz.func174.trans (congrArg some (by kernel_rfl))
 t0:=Tryz.underlying0
 a0:=Tryz.isAgg0
 z0:=Tryz.sizeOf0
 v0:=Tryz.zeroValue0
 t3:=Tryz.underlying3
 a3:=Tryz.isAgg3
 z3:=Tryz.sizeOf3
 v3:=Tryz.zeroValue3
 t37:=Tryz.underlying22
 a37:=Tryz.isAgg22
 z37:=Tryz.sizeOf22
 v37:=Tryz.zeroValue22
 t70:=Tryz.underlying111
 a70:=Tryz.isAgg111
 z70:=Tryz.sizeOf111
 v70:=Tryz.zeroValue111
 t72:=Tryz.underlying113
 a72:=Tryz.isAgg113
 z72:=Tryz.sizeOf113
 v72:=Tryz.zeroValue113}
def Tryz.YD:Go.Shelf.Ren:=⟨fun|169=>79|n=>n,fun|70=>111|9=>9|0=>0|72=>113|37=>22|127=>136|3=>3|5=>5|n=>n,fun|n=>n⟩
theorem Tryz.YE:Go.Proofs.Lays.n169 Tryz.prog Tryz.YD:={
 mixed:=by kernel_rfl
 f169:=Tryz.func79.trans (congrArg some (by kernel_rfl))
 t0:=Tryz.underlying0
 a0:=Tryz.isAgg0
 z0:=Tryz.sizeOf0
 v0:=Tryz.zeroValue0
 t3:=Tryz.underlying3
 a3:=Tryz.isAgg3
 z3:=Tryz.sizeOf3
 v3:=Tryz.zeroValue3
 t9:=Tryz.underlying9
 a9:=Tryz.isAgg9
 z9:=Tryz.sizeOf9
 v9:=Tryz.zeroValue9
 t37:=Tryz.underlying22
 a37:=Tryz.isAgg22
 z37:=Tryz.sizeOf22
 v37:=Tryz.zeroValue22
 t70:=Tryz.underlying111
 a70:=Tryz.isAgg111
 z70:=Tryz.sizeOf111
 v70:=Tryz.zeroValue111
 t72:=Tryz.underlying113
 a72:=Tryz.isAgg113
 z72:=Tryz.sizeOf113
 v72:=Tryz.zeroValue113
 t127:=Tryz.underlying136
 a127:=Tryz.isAgg136
 z127:=Tryz.sizeOf136
 v127:=Tryz.zeroValue136}
theorem Tryz.YF:Builder.Extra Tryz.prog Tryz.YD:={
 sizeBuilder:=by kernel_rfl
 liesBuilder:=by kernel_rfl
 t5:=Tryz.underlying5
 a5:=Tryz.isAgg5
 z5:=Tryz.sizeOf5
 v5:=Tryz.zeroValue5
 infoByte:=by kernel_rfl
 cellsByte:=by kernel_rfl
 sizeByte:=by kernel_rfl
 neB5:=by decide}
def Tryz.YG:Go.Shelf.Ren:=⟨fun|165=>173|240=>141|241=>206|276=>171|277=>230|n=>n,fun|70=>111|3=>3|0=>0|4=>4|9=>9|20=>20|72=>113|37=>22|164=>179|5=>5|n=>n,fun|n=>n⟩
theorem Tryz.an8:Go.Proofs.Lays.n165 Tryz.prog Tryz.YG:={
 mixed:=by kernel_rfl
 f165:=Tryz.func173.trans (congrArg some (by kernel_rfl))
 f240:=Tryz.func141.trans (congrArg some (by kernel_rfl))
 f241:=Tryz.func206.trans (congrArg some (by kernel_rfl))
 f276:=Tryz.func171.trans (congrArg some (by kernel_rfl))
 f277:=Tryz.func230.trans (congrArg some (by kernel_rfl))
 t0:=Tryz.underlying0
 a0:=Tryz.isAgg0
 z0:=Tryz.sizeOf0
 v0:=Tryz.zeroValue0
 t3:=Tryz.underlying3
 a3:=Tryz.isAgg3
 z3:=Tryz.sizeOf3
 v3:=Tryz.zeroValue3
 t4:=Tryz.underlying4
 a4:=Tryz.isAgg4
 z4:=Tryz.sizeOf4
 v4:=Tryz.zeroValue4
 t9:=Tryz.underlying9
 a9:=Tryz.isAgg9
 z9:=Tryz.sizeOf9
 v9:=Tryz.zeroValue9
 t20:=Tryz.underlying20
 a20:=Tryz.isAgg20
 z20:=Tryz.sizeOf20
 v20:=Tryz.zeroValue20
 t37:=Tryz.underlying22
 a37:=Tryz.isAgg22
 z37:=Tryz.sizeOf22
 v37:=Tryz.zeroValue22
 t70:=Tryz.underlying111
 a70:=Tryz.isAgg111
 z70:=Tryz.sizeOf111
 v70:=Tryz.zeroValue111
 t72:=Tryz.underlying113
 a72:=Tryz.isAgg113
 z72:=Tryz.sizeOf113
 v72:=Tryz.zeroValue113
 t164:=Tryz.underlying179
 a164:=Tryz.isAgg179
 z164:=Tryz.sizeOf179
 v164:=Tryz.zeroValue179}
theorem Tryz.an9:Builder.Extra Tryz.prog Tryz.YG:={
 sizeBuilder:=by kernel_rfl
 liesBuilder:=by kernel_rfl
 t5:=Tryz.underlying5
 a5:=Tryz.isAgg5
 z5:=Tryz.sizeOf5
 v5:=Tryz.zeroValue5
 infoByte:=by kernel_rfl
 cellsByte:=by kernel_rfl
 sizeByte:=by kernel_rfl
 neB5:=by decide}
open Go.RowKit in
theorem Tryz.Builder_Grow_fresh (B b n:Nat) (w:World) (hB:B<=b) (fN:w.heap[b]?=some (.cells #[.pointer none,.slice none 0 0] 113 (0,0))) (oZ:B<=w.heap.size) (hn:n<=281474976710656):
  Calls Tryz.prog 173 #[.pointer (some ⟨b,0,none⟩),.int .i64 n] w λe w'=>e= .returned (.tuple #[])∧(Lib.BuilderAt 113 5 B b (.pointer (some ⟨b,0,none⟩)) [] w'∧Below B w w'):=Any.Builder_Grow_fresh Tryz.an8 Tryz.an9 B b n w hB fN oZ hn
def Tryz.as5:Go.Shelf.Ren:=⟨fun|210=>149|206=>140|n=>n,fun|9=>9|4=>4|3=>3|n=>n,fun|n=>n⟩
open Go.RowKit in
theorem Tryz.Builder_Len_f (B b:Nat) (bs:List Value) (w:World) (h:Lib.IsBuilderF 113 5 B b bs w):
  Calls Tryz.prog 174 #[.pointer (some ⟨b,0,none⟩)] w λe w'=>e= .returned (.int .i64 bs.length)∧w'=w:=Any.Builder_Len_f Tryz.an7 B b bs w h
open Go.RowKit in
theorem Tryz.Builder_String_f (B b:Nat) (l:List UInt8) (w:World) (h:Lib.IsBuilderF 113 5 B b (Lib.byteCells l) w) (h0:l≠[]):
  Calls Tryz.prog 79 #[.pointer (some ⟨b,0,none⟩)] w λe w'=>e= .returned (.string ⟨l.toArray⟩)∧(Lib.IsBuilderF 113 5 B b (Lib.byteCells l) w'∧Below B w w'):=Any.Builder_String_f Tryz.YE Tryz.YF B b l w h h0
open Go.RowKit in
theorem Tryz.Builder_String_any_f (B b:Nat) (l:List UInt8) (w:World) (h:Lib.IsBuilderF 113 5 B b (Lib.byteCells l) w) (oZ:B<=w.heap.size):
  Calls Tryz.prog 79 #[.pointer (some ⟨b,0,none⟩)] w λe w'=>e= .returned (.string ⟨l.toArray⟩)∧(Lib.IsBuilderF 113 5 B b (Lib.byteCells l) w'∧Below B w w'):=Any.Builder_String_any_f Tryz.YE Tryz.YF B b l w h oZ
def Tryz.aoa:Go.Shelf.Ren:=⟨fun|172=>144|244=>175|245=>176|247=>207|279=>208|280=>209|281=>210|282=>211|287=>231|316=>232|171=>122|205=>233|321=>245|322=>246|243=>148|246=>178|283=>212|284=>213|285=>214|286=>215|129=>235|317=>234|318=>236|319=>237|320=>238|337=>247|338=>248|n=>n,fun|9=>9|3=>3|75=>132|76=>133|4=>4|5=>5|167=>214|37=>22|0=>0|85=>215|2=>2|168=>217|53=>211|175=>236|46=>181|210=>239|127=>136|145=>253|143=>251|21=>21|171=>220|173=>223|212=>242|51=>208|20=>20|213=>243|232=>256|233=>257|80=>69|n=>n,fun|15=>0|16=>1|17=>2|18=>4|19=>5|n=>n⟩
theorem Tryz.aob:Go.Proofs.Lays.n172 Tryz.prog Tryz.aoa:={
 mixed:=by kernel_rfl
 f129:=Tryz.func235.trans (congrArg some (by kernel_rfl))
 f171:=Tryz.func122.trans (congrArg some (by kernel_rfl))
 f172:=Tryz.func144.trans (congrArg some (by kernel_rfl))
 f205:=Tryz.func233.trans (congrArg some (by kernel_rfl))
 f243:=Tryz.func148.trans (congrArg some (by kernel_rfl))
 f244:=Tryz.func175.trans (congrArg some (by kernel_rfl))
 f245:=Tryz.func176.trans (congrArg some (by kernel_rfl))
 f246:=Tryz.func178.trans (congrArg some (by kernel_rfl))
 f247:=Tryz.func207.trans (congrArg some (by kernel_rfl))
 f279:=Tryz.func208.trans (congrArg some (by kernel_rfl))
 f280:=Tryz.func209.trans (congrArg some (by kernel_rfl))
 f281:=Tryz.func210.trans (congrArg some (by kernel_rfl))
 f282:=Tryz.func211.trans (congrArg some (by kernel_rfl))
 f283:=Tryz.func212.trans (congrArg some (by kernel_rfl))
 f284:=Tryz.func213.trans (congrArg some (by kernel_rfl))
 f285:=Tryz.func214.trans (congrArg some (by kernel_rfl))
 f286:=Tryz.func215.trans (congrArg some (by kernel_rfl))
 f287:=Tryz.func231.trans (congrArg some (by kernel_rfl))
 f316:=Tryz.func232.trans (congrArg some (by kernel_rfl))
 f317:=Tryz.func234.trans (congrArg some (by kernel_rfl))
 f318:=Tryz.func236.trans (congrArg some (by kernel_rfl))
 f319:=Tryz.func237.trans (congrArg some (by kernel_rfl))
 f320:=Tryz.func238.trans (congrArg some (by kernel_rfl))
 f321:=Tryz.func245.trans (congrArg some (by kernel_rfl))
 f322:=Tryz.func246.trans (congrArg some (by kernel_rfl))
 f337:=Tryz.func247.trans (congrArg some (by kernel_rfl))
 f338:=Tryz.func248.trans (congrArg some (by kernel_rfl))
 t0:=Tryz.underlying0
 a0:=Tryz.isAgg0
 z0:=Tryz.sizeOf0
 v0:=Tryz.zeroValue0
 t2:=Tryz.underlying2
 a2:=Tryz.isAgg2
 z2:=Tryz.sizeOf2
 v2:=Tryz.zeroValue2
 t3:=Tryz.underlying3
 a3:=Tryz.isAgg3
 z3:=Tryz.sizeOf3
 v3:=Tryz.zeroValue3
 t4:=Tryz.underlying4
 a4:=Tryz.isAgg4
 z4:=Tryz.sizeOf4
 v4:=Tryz.zeroValue4
 t5:=Tryz.underlying5
 a5:=Tryz.isAgg5
 z5:=Tryz.sizeOf5
 v5:=Tryz.zeroValue5
 t9:=Tryz.underlying9
 a9:=Tryz.isAgg9
 z9:=Tryz.sizeOf9
 v9:=Tryz.zeroValue9
 t20:=Tryz.underlying20
 a20:=Tryz.isAgg20
 z20:=Tryz.sizeOf20
 v20:=Tryz.zeroValue20
 t21:=Tryz.underlying21
 a21:=Tryz.isAgg21
 z21:=Tryz.sizeOf21
 v21:=Tryz.zeroValue21
 t37:=Tryz.underlying22
 a37:=Tryz.isAgg22
 z37:=Tryz.sizeOf22
 v37:=Tryz.zeroValue22
 t46:=Tryz.underlying181
 a46:=Tryz.isAgg181
 z46:=Tryz.sizeOf181
 v46:=Tryz.zeroValue181
 t51:=Tryz.underlying208
 a51:=Tryz.isAgg208
 z51:=Tryz.sizeOf208
 v51:=Tryz.zeroValue208
 t53:=Tryz.underlying211
 a53:=Tryz.isAgg211
 z53:=Tryz.sizeOf211
 v53:=Tryz.zeroValue211
 t75:=Tryz.underlying132
 a75:=Tryz.isAgg132
 z75:=Tryz.sizeOf132
 v75:=Tryz.zeroValue132
 t76:=Tryz.underlying133
 a76:=Tryz.isAgg133
 z76:=Tryz.sizeOf133
 v76:=Tryz.zeroValue133
 t85:=Tryz.underlying215
 a85:=Tryz.isAgg215
 z85:=Tryz.sizeOf215
 v85:=Tryz.zeroValue215
 t127:=Tryz.underlying136
 a127:=Tryz.isAgg136
 z127:=Tryz.sizeOf136
 v127:=Tryz.zeroValue136
 t143:=Tryz.underlying251
 a143:=Tryz.isAgg251
 z143:=Tryz.sizeOf251
 v143:=Tryz.zeroValue251
 t145:=Tryz.underlying253
 a145:=Tryz.isAgg253
 z145:=Tryz.sizeOf253
 v145:=Tryz.zeroValue253
 t167:=Tryz.underlying214
 a167:=Tryz.isAgg214
 z167:=Tryz.sizeOf214
 v167:=Tryz.zeroValue214
 t168:=Tryz.underlying217
 a168:=Tryz.isAgg217
 z168:=Tryz.sizeOf217
 v168:=Tryz.zeroValue217
 t171:=Tryz.underlying220
 a171:=Tryz.isAgg220
 z171:=Tryz.sizeOf220
 v171:=Tryz.zeroValue220
 t173:=Tryz.underlying223
 a173:=Tryz.isAgg223
 z173:=Tryz.sizeOf223
 v173:=Tryz.zeroValue223
 t175:=Tryz.underlying236
 a175:=Tryz.isAgg236
 z175:=Tryz.sizeOf236
 v175:=Tryz.zeroValue236
 t210:=Tryz.underlying239
 a210:=Tryz.isAgg239
 z210:=Tryz.sizeOf239
 v210:=Tryz.zeroValue239
 t212:=Tryz.underlying242
 a212:=Tryz.isAgg242
 z212:=Tryz.sizeOf242
 v212:=Tryz.zeroValue242
 t213:=Tryz.underlying243
 a213:=Tryz.isAgg243
 z213:=Tryz.sizeOf243
 t232:=Tryz.underlying256
 a232:=Tryz.isAgg256
 z232:=Tryz.sizeOf256
 v232:=Tryz.zeroValue256
 t233:=Tryz.underlying257
 a233:=Tryz.isAgg257
 z233:=Tryz.sizeOf257
 v233:=Tryz.zeroValue257
 g15:=by kernel_rfl
 g16:=by kernel_rfl
 g17:=by kernel_rfl
 g18:=by kernel_rfl
 g19:=by kernel_rfl}
open Go.RowKit in
theorem Tryz.strconv_Atoi (s:ByteArray) (n:Int) (hl:s.size<=18) (h:Lib.atoi s.data.toList=some n) (w:World):
  Calls Tryz.prog 144 #[.string s] w λe w'=>e= .returned (.tuple #[.int .i64 n,.nilIface])∧∃t,w'=Lib.bytesWorld w 5 t:=Any.strconv_Atoi Tryz.aob s n hl h w
def Tryz.aoc:Go.Shelf.Ren:=⟨fun|99=>108|206=>140|n=>n,fun|9=>9|4=>4|3=>3|n=>n,fun|n=>n⟩
theorem Tryz.aod:Go.Proofs.Lays.n99 Tryz.prog Tryz.aoc:={
 mixed:=by kernel_rfl
 f99:=Tryz.func108.trans (congrArg some (by kernel_rfl))
 f206:=Tryz.func140.trans (congrArg some (by kernel_rfl))
 t3:=Tryz.underlying3
 a3:=Tryz.isAgg3
 z3:=Tryz.sizeOf3
 v3:=Tryz.zeroValue3
 t4:=Tryz.underlying4
 a4:=Tryz.isAgg4
 z4:=Tryz.sizeOf4
 v4:=Tryz.zeroValue4
 t9:=Tryz.underlying9
 a9:=Tryz.isAgg9
 z9:=Tryz.sizeOf9
 v9:=Tryz.zeroValue9}
open Go.RowKit Go.Lib in
theorem Tryz.strings_HasPrefix (s p:ByteArray) (w:World):
  Calls Tryz.prog 108 #[.string s,.string p] w λe w'=>e= .returned (.bool (Lib.hasPrefix s.data.toList p.data.toList))∧w'=w:=Any.strings_HasPrefix Tryz.aod s p w
def Tryz.aoe:Go.Shelf.Ren:=⟨fun|101=>145|208=>177|206=>140|n=>n,fun|9=>9|4=>4|3=>3|n=>n,fun|n=>n⟩
theorem Tryz.aof:Go.Proofs.Lays.n101 Tryz.prog Tryz.aoe:={
 mixed:=by kernel_rfl
 f101:=Tryz.func145.trans (congrArg some (by kernel_rfl))
 f206:=Tryz.func140.trans (congrArg some (by kernel_rfl))
 f208:=Tryz.func177.trans (congrArg some (by kernel_rfl))
 t3:=Tryz.underlying3
 a3:=Tryz.isAgg3
 z3:=Tryz.sizeOf3
 v3:=Tryz.zeroValue3
 t4:=Tryz.underlying4
 a4:=Tryz.isAgg4
 z4:=Tryz.sizeOf4
 v4:=Tryz.zeroValue4
 t9:=Tryz.underlying9
 a9:=Tryz.isAgg9
 z9:=Tryz.sizeOf9
 v9:=Tryz.zeroValue9}
open Go.RowKit Go.Lib in
theorem Tryz.strings_TrimPrefix (s p:ByteArray) (w:World):
  Calls Tryz.prog 145 #[.string s,.string p] w λe w'=>e= .returned (.string ⟨(Lib.trimPrefix s.data.toList p.data.toList).toArray⟩)∧w'=w:=Any.strings_TrimPrefix Tryz.aof s p w
def Tryz.aog:Go.Shelf.Ren:=⟨fun|212=>172|263=>204|264=>205|n=>n,fun|46=>181|51=>208|146=>209|53=>211|148=>212|n=>n,fun|n=>n⟩
theorem Tryz.aoh:Go.Proofs.Lays.n212 Tryz.prog Tryz.aog:={
 mixed:=by kernel_rfl
 f212:=Tryz.func172.trans (congrArg some (by kernel_rfl))
 f263:=Tryz.func204.trans (congrArg some (by kernel_rfl))
 f264:=Tryz.func205.trans (congrArg some (by kernel_rfl))
 t46:=Tryz.underlying181
 a46:=Tryz.isAgg181
 z46:=Tryz.sizeOf181
 v46:=Tryz.zeroValue181
 t51:=Tryz.underlying208
 a51:=Tryz.isAgg208
 z51:=Tryz.sizeOf208
 v51:=Tryz.zeroValue208
 t53:=Tryz.underlying211
 a53:=Tryz.isAgg211
 z53:=Tryz.sizeOf211
 v53:=Tryz.zeroValue211
 t146:=Tryz.underlying209
 a146:=Tryz.isAgg209
 z146:=Tryz.sizeOf209
 v146:=Tryz.zeroValue209
 t148:=Tryz.underlying212
 a148:=Tryz.isAgg212
 z148:=Tryz.sizeOf212
 v148:=Tryz.zeroValue212}
open Go.RowKit Go.Lib in
theorem Tryz.bits_Mul (x y:Nat) (hx:x<18446744073709551616) (hy:y<18446744073709551616) (w:World):
  Calls Tryz.prog 172 #[.int .u64 x,.int .u64 y] w λe w'=>e= .returned (.tuple #[.int .u64 ((x*y/18446744073709551616:Nat):Int),.int .u64 ((x*y%18446744073709551616:Nat):Int)])∧w'=w:=Any.bits_Mul Tryz.aoh x y hx hy w
def Tryz.YH:Go.Shelf.Ren:=⟨fun|166=>111|240=>141|276=>171|n=>n,fun|70=>111|3=>3|0=>0|4=>4|9=>9|20=>20|72=>113|37=>22|164=>179|5=>5|75=>132|80=>69|n=>n,fun|n=>n⟩
theorem Tryz.YI:Go.Proofs.Lays.n166 Tryz.prog Tryz.YH:={
 mixed:=by kernel_rfl
 f166:=Tryz.func111.trans (congrArg some (by kernel_rfl))
 f240:=Tryz.func141.trans (congrArg some (by kernel_rfl))
 f276:=Tryz.func171.trans (congrArg some (by kernel_rfl))
 t0:=Tryz.underlying0
 a0:=Tryz.isAgg0
 z0:=Tryz.sizeOf0
 v0:=Tryz.zeroValue0
 t3:=Tryz.underlying3
 a3:=Tryz.isAgg3
 z3:=Tryz.sizeOf3
 v3:=Tryz.zeroValue3
 t4:=Tryz.underlying4
 a4:=Tryz.isAgg4
 z4:=Tryz.sizeOf4
 v4:=Tryz.zeroValue4
 t9:=Tryz.underlying9
 a9:=Tryz.isAgg9
 z9:=Tryz.sizeOf9
 v9:=Tryz.zeroValue9
 t20:=Tryz.underlying20
 a20:=Tryz.isAgg20
 z20:=Tryz.sizeOf20
 v20:=Tryz.zeroValue20
 t37:=Tryz.underlying22
 a37:=Tryz.isAgg22
 z37:=Tryz.sizeOf22
 v37:=Tryz.zeroValue22
 t70:=Tryz.underlying111
 a70:=Tryz.isAgg111
 z70:=Tryz.sizeOf111
 v70:=Tryz.zeroValue111
 t72:=Tryz.underlying113
 a72:=Tryz.isAgg113
 z72:=Tryz.sizeOf113
 v72:=Tryz.zeroValue113
 t164:=Tryz.underlying179
 a164:=Tryz.isAgg179
 z164:=Tryz.sizeOf179
 v164:=Tryz.zeroValue179
 t75:=Tryz.underlying132
 a75:=Tryz.isAgg132
 z75:=Tryz.sizeOf132
 v75:=Tryz.zeroValue132}
theorem Tryz.YJ:Builder.Extra Tryz.prog Tryz.YH:={
 sizeBuilder:=by kernel_rfl
 liesBuilder:=by kernel_rfl
 t5:=Tryz.underlying5
 a5:=Tryz.isAgg5
 z5:=Tryz.sizeOf5
 v5:=Tryz.zeroValue5
 infoByte:=by kernel_rfl
 cellsByte:=by kernel_rfl
 sizeByte:=by kernel_rfl
 neB5:=by decide}
open Go.RowKit in
theorem Tryz.Builder_WriteString_f (B b:Nat) (bs:List Value) (s:ByteArray) (w:World) (h:Lib.IsBuilderF 113 5 B b bs w) (hlen:bs.length+s.size<=140737488355328) (oZ:B<=w.heap.size):
  Calls Tryz.prog 111 #[.pointer (some ⟨b,0,none⟩),.string s] w λe w'=>e= .returned (.tuple #[.int .i64 s.size,.nilIface])∧(Lib.BuilderAtF 113 5 B b (.pointer (some ⟨b,0,none⟩)) (bs++Lib.strCells s) w'∧Below B w w'):=Any.Builder_WriteString_f Tryz.YI Tryz.YJ B b bs s w h hlen oZ
def Tryz.YK:Go.Shelf.Ren:=⟨fun|167=>112|240=>141|276=>171|n=>n,fun|70=>111|3=>3|0=>0|4=>4|9=>9|20=>20|72=>113|37=>22|164=>179|5=>5|75=>132|80=>69|n=>n,fun|n=>n⟩
theorem Tryz.aoi:Go.Proofs.Lays.n167 Tryz.prog Tryz.YK:={
 mixed:=by kernel_rfl
 f167:=Tryz.func112.trans (congrArg some (by kernel_rfl))
 f240:=Tryz.func141.trans (congrArg some (by kernel_rfl))
 f276:=Tryz.func171.trans (congrArg some (by kernel_rfl))
 t0:=Tryz.underlying0
 a0:=Tryz.isAgg0
 z0:=Tryz.sizeOf0
 v0:=Tryz.zeroValue0
 t4:=Tryz.underlying4
 a4:=Tryz.isAgg4
 z4:=Tryz.sizeOf4
 v4:=Tryz.zeroValue4
 t5:=Tryz.underlying5
 a5:=Tryz.isAgg5
 z5:=Tryz.sizeOf5
 v5:=Tryz.zeroValue5
 t9:=Tryz.underlying9
 a9:=Tryz.isAgg9
 z9:=Tryz.sizeOf9
 v9:=Tryz.zeroValue9
 t20:=Tryz.underlying20
 a20:=Tryz.isAgg20
 z20:=Tryz.sizeOf20
 v20:=Tryz.zeroValue20
 t37:=Tryz.underlying22
 a37:=Tryz.isAgg22
 z37:=Tryz.sizeOf22
 v37:=Tryz.zeroValue22
 t70:=Tryz.underlying111
 a70:=Tryz.isAgg111
 z70:=Tryz.sizeOf111
 v70:=Tryz.zeroValue111
 t72:=Tryz.underlying113
 a72:=Tryz.isAgg113
 z72:=Tryz.sizeOf113
 v72:=Tryz.zeroValue113
 t75:=Tryz.underlying132
 a75:=Tryz.isAgg132
 z75:=Tryz.sizeOf132
 v75:=Tryz.zeroValue132
 t164:=Tryz.underlying179
 a164:=Tryz.isAgg179
 z164:=Tryz.sizeOf179
 v164:=Tryz.zeroValue179}
theorem Tryz.aoj:Builder.Extra Tryz.prog Tryz.YK:={
 sizeBuilder:=by kernel_rfl
 liesBuilder:=by kernel_rfl
 t5:=Tryz.underlying5
 a5:=Tryz.isAgg5
 z5:=Tryz.sizeOf5
 v5:=Tryz.zeroValue5
 infoByte:=by kernel_rfl
 cellsByte:=by kernel_rfl
 sizeByte:=by kernel_rfl
 neB5:=by decide}
open Go.RowKit in
theorem Tryz.Builder_WriteByte_k (B b:Nat) (bs:List Value) (c:Int) (w:World) (h:Lib.IsBuilderF 113 5 B b bs w) (hlen:bs.length+1<=140737488355328) (oZ:B<=w.heap.size):
  Calls Tryz.prog 112 #[.pointer (some ⟨b,0,none⟩),.int .u8 c] w λe w'=>e= .returned .nilIface∧(Lib.BuilderAtF 113 5 B b (.pointer (some ⟨b,0,none⟩)) (bs++[.int .u8 c]) w'∧Below B w w'∧Lib.OthersKept 5 (some b) w w'):=Any.Builder_WriteByte_k Tryz.aoi Tryz.aoj B b bs c w h hlen oZ
open Go.RowKit in
theorem Tryz.Builder_WriteString_k (B b:Nat) (bs:List Value) (s:ByteArray) (w:World) (h:Lib.IsBuilderF 113 5 B b bs w) (hlen:bs.length+s.size<=140737488355328) (oZ:B<=w.heap.size):
  Calls Tryz.prog 111 #[.pointer (some ⟨b,0,none⟩),.string s] w λe w'=>e= .returned (.tuple #[.int .i64 s.size,.nilIface])∧(Lib.BuilderAtF 113 5 B b (.pointer (some ⟨b,0,none⟩)) (bs++Lib.strCells s) w'∧Below B w w'∧Lib.OthersKept 5 (some b) w w'):=Any.Builder_WriteString_k Tryz.YI Tryz.YJ B b bs s w h hlen oZ
end Go.Proofs
namespace Go.Proofs.YthbhobaiopccaaaGreatDoor
open Go
variable {bs:List Bk} {h x:aj} {L:List Nat} {w:World} {v:Value} {B:Nat} {t y:aq}
theorem aok (s p:aj) (w:World):bC Tryz.prog 108 [str s,str p] w λv w'=>v= .bool (Lib.hasPrefix s p)∧w=w':=
 ⟨rf.mk' Tryz.func108 rfl abH,Calls.mono (Tryz.strings_HasPrefix ⟨s.toArray⟩ ⟨p.toArray⟩ w) λe w' ⟨he,hw⟩=>⟨_,he,sm,hw.symm⟩⟩
theorem aol (s p:aj) (w:World):bC Tryz.prog 145 [str s,str p] w λv w'=>v=str (Lib.trimPrefix s p)∧w=w':=
 ⟨rf.mk' Tryz.func145 rfl aca,Calls.mono (Tryz.strings_TrimPrefix ⟨s.toArray⟩ ⟨p.toArray⟩ w) λe w' ⟨he,hw⟩=>⟨_,he,by simp[str],hw.symm⟩⟩
theorem aom (w:World) (o:Obj) (a:Addr) (n:Nat) (ha:a.block=w.heap.size):ak [] w ((w.alloc o).freeze a n):=by
 unfold World.freeze
 split
 ·exact ak.alloc [] w o
 ·refine⟨rfl,rfl,rfl,?_,λk hk _=>?_⟩
  ·show w.heap.size<=Array.size (Array.modify (w.alloc o).heap _ _)
   rw[Array.size_modify];exact(ak.alloc [] w o).size
  ·show(Array.modify (w.alloc o).heap _ _)[k]?=_
   rw[Array.getElem?_modify,iN (by rw[ha];omega)];exact(ak.alloc [] w o).block k hk sm
theorem aon (w:World) (e:TypeId) (s:ByteArray):ak [] w (Lib.bytesWorld w e s):=
 (ak.drew [] w).trans (aom _ _ _ _ rfl)
theorem aoo (s:aj) {z:Int} (h:numeral s=some z) (w:World):bC Tryz.prog 144 [str s] w λv w'=>v= .tuple #[.int .i64 z,.nilIface]∧ak [] w w':=
 ⟨rf.mk' Tryz.func144 rfl ab9,Calls.mono (Tryz.strconv_Atoi ⟨s.toArray⟩ z (by have:=R3 h;simp[ByteArray.size];omega) (by simpa using aal h) w) λe w' ⟨he,t,hw⟩=>⟨_,he,rfl,by rw[hw];exact aon _ _ _⟩⟩
theorem LG (a b c:Int) (w:World):bC Tryz.prog 57 [.int .i64 a,.int .i64 b,.int .i64 c] w λv w'=>v= .bool (decide (b<=a)&&decide (a<=c))∧w=w':=by
 refine cj [.tmp 6] 15 Tryz.func57 rfl adE rfl rfl ?_
 refine W ?_
 apply oB 4 10 14 rfl oQ
 intro _
 exact oQ
 intro xx
 refine W ?_
 exact⟨_,rfl,rfl,rfl⟩
theorem aop (c:UInt8) (w:World):bC Tryz.prog 109 [.int .u8 c.toNat] w λv w'=>v= .bool (eV c)∧w=w':=by
 refine cj [.tmp 2] 33 Tryz.func109 rfl abI rfl rfl ?_
 refine W ?_
 apply oB 3 5 8 rfl oQ
 intro _
 exact oQ
 intro xx
 refine WZ ?_
 apply oP 7 9 16 rfl oQ
 intro _
 refine WZ ?_
 apply oB 3 12 15 rfl oQ
 intro _
 exact oQ
 intro xx
 exact oQ
 intro xx
 refine WZ ?_
 apply oP 3 17 20 rfl oQ
 intro _
 exact oQ
 intro xx
 refine WZ ?_
 apply oP 3 21 24 rfl oQ
 intro _
 exact oQ
 intro xx
 refine WZ ?_
 apply oP 3 25 28 rfl oQ
 intro _
 exact oQ
 intro xx
 refine WZ ?_
 apply oP 3 29 32 rfl oQ
 intro _
 exact oQ
 intro xx
 refine W ?_
 exact⟨_,rfl,congrArg Value.bool (Rb c),rfl⟩
theorem aoq (s:aj) (hs:s.length<9223372036854775807) (w:World):bC Tryz.prog 146 [str s] w λv w'=>v= .bool (s.all gZ)∧w=w':=by
 refine cj [.tmp 2] 20 Tryz.func146 rfl acb rfl rfl ?_
 refine W ?_
 refine eO (λk:Nat=>[(0,str s),(5,.int .i64 (s.length:Int)),(6,.int .i64 (k:Int))]) (λk w'=>w'=w∧k<=s.length∧(s.take k).all gZ=true) (λk=>s.length-k) (0) (⟨rfl,rfl,rfl⟩) (⟨rfl,om,sm⟩) λgg w1 e1 hI=>?_
 obtain⟨rfl,hk,cZ⟩:=hI
 refine W ?_
 refine zc rfl (λh1=>?_) (λh1=>?_)
 have et:gg<s.length:=by omega
 refine W ?_
 refine kl iG rfl rfl rfl rfl (jt et)<|WZ ?_
 apply oP 5 13 18 rfl oQ
 intro _
 refine zm<|zm<|kl iG rfl rfl rfl rfl (jt et) ?_
 exact oQ
 intro xx
 refine aV<|zc rfl (λh3=>?_) (λh3=>?_)
 have hq:s.all gZ=false:=aao et (RE h3)
 refine W ?_
 exact⟨_,rfl,by rw[hq];rfl,rfl⟩
 have hc:=RF h3
 refine W ?_
 exact⟨gg+1,⟨rfl,rfl,rfl⟩,⟨rfl,om,by rw[Mj et,List.all_append,cZ];simp only[List.all_cons,hc.2.2];rfl⟩,om⟩
 have hq:s.all gZ=true:=by rw[List.take_of_length_le om] at cZ;exact cZ
 refine W ?_
 exact⟨_,rfl,by rw[hq];rfl,rfl⟩
theorem QJ (s:aj) (hs:s.length<9223372036854775807) (w:World):bC Tryz.prog 120 [str s] w λv w'=>v= .bool (numeral s).isSome∧w=w':=by
 have hl:(eH s).length<=s.length:=by unfold eH;split<;>simp
 refine cj [.tmp 2] 22 Tryz.func120 rfl abR rfl rfl ?_
 refine W ?_
 refine aA (aol _ _ _) ?_
 rintro _ _ ⟨rfl,rfl⟩
 refine W ?_
 rw[aaj]
 apply oP 13 8 21 rfl oQ
 intro h1
 refine W ?_
 refine aA (LG _ _ _ _) ?_
 rintro _ _ ⟨rfl,rfl⟩
 refine WZ ?_
 apply oB 3 12 15 rfl oQ
 intro h2
 refine zm<|aA (aoq _ om _) ?_
 rintro _ _ ⟨rfl,rfl⟩
 exact oQ
 intro xx
 refine WZ ?_
 apply oB 4 16 20 rfl oQ
 intro h3
 simp at h3
 refine zm<|kl (i:=0) iG rfl rfl rfl rfl (jt om) ?_
 exact oQ
 intro xx
 exact oQ
 intro xx
 refine W ?_
 exact⟨_,rfl,show Value.bool _=Value.bool _ from congrArg _ (aap s),rfl⟩
theorem YL (s:aj) {z:Int} (h:numeral s=some z) (w:World):bC Tryz.prog 119 [str s] w λv w'=>v= .int .i64 z∧ak [] w w':=by
 have hK:=ak.refl [] w
 refine cj [.tmp 2] 11 Tryz.func119 rfl abP rfl rfl ?_
 refine W ?_
 refine aA (aoo s h w) ?_
 rintro _ w1 ⟨rfl,aI⟩
 have df:=aI.size
 have hK:=hK.ext aI
 refine W ?_
 exact⟨_,rfl,rfl,hK⟩
theorem aor (s:aj) (hs:s.length<9223372036854775807) (w:World):bC Tryz.prog 137 [str s] w λv w'=>v= .bool (vi s)∧ak [] w w':=by
 have hK:=ak.refl [] w
 refine cj [.tmp 2] 10 Tryz.func137 rfl ab3 rfl rfl ?_
 refine W ?_
 refine aA (QJ s hs _) ?_
 rintro _ _ ⟨rfl,rfl⟩
 refine WZ ?_
 apply oA 4 5 9 (ak [] w) rfl oQ
 intro h1
 obtain⟨z,hz⟩:=Option.isSome_iff_exists.1 h1
 have HX:z=(numeral s).getD 0:=by rw[hz];rfl
 refine zm<|aA (YL s hz w) ?_
 rintro _ w1 ⟨rfl,aI⟩
 have df:=aI.size
 rw[HX]
 refine aA (LG _ _ _ _) ?_
 rintro _ _ ⟨rfl,rfl⟩
 exact oQ
 intro xx w1 aI
 have hK:=hK.ext aI
 refine W ?_
 exact⟨_,rfl,show Value.bool _=Value.bool _ from congrArg _ (aan s),hK⟩
theorem YM (s:aj) (hs:s.length<9223372036854775807) (w:World):bC Tryz.prog 96 [str s] w λr w'=>r= .bool (mj s)∧w=w':=by
 refine cj [.tmp 2] 35 Tryz.func96 rfl ad4 rfl rfl ?_
 refine W ?_
 refine eO (λk:Nat=>[(0,str s),(6,.int .i64 (s.length:Int)),(7,.int .i64 (k:Int))]) (λk w'=>w'=w∧k<=s.length∧∀j,j<k->Ak s j=true) (λk=>s.length-k) (0) (⟨rfl,rfl,rfl⟩) (⟨rfl,om,by intro j hj;omega⟩) λgg w1 e1 hI=>?_
 obtain⟨rfl,hk,cZ⟩:=hI
 refine W ?_
 refine zc rfl (λh1=>?_) (λh1=>?_)
 refine W ?_
 refine kl iG rfl rfl rfl rfl (jt om)<|W ?_
 apply oB 3 15 18 rfl oQ
 intro _
 exact oQ
 intro xx
 refine WZ ?_
 apply oP 11 19 30 rfl oQ
 intro _
 refine WZ ?_
 apply oB 3 22 25 rfl oQ
 intro _
 exact oQ
 intro xx
 refine WZ ?_
 apply oB 3 26 29 rfl oQ
 intro _
 exact oQ
 intro xx
 exact oQ
 intro xx
 refine jY rfl rfl rfl<|aV<|zc rfl (λh6=>?_) (λh6=>?_)
 rw[Ja] at h6
 refine W ?_
 exact⟨_,rfl,by rw[RA om h6];rfl,rfl⟩
 rw[Ja] at h6
 refine W ?_
 exact⟨gg+1,⟨rfl,rfl,rfl⟩,⟨rfl,om,RC cZ h6⟩,om⟩
 refine W ?_
 exact⟨_,rfl,by rw[RB (λj hj=>cZ j om)];rfl,rfl⟩
theorem IN (t:aq) (v:Value) (L:List Nat) (w:World) (hv:bh L w v t):bC Tryz.prog 71 [v] w λr w'=>r= .bool (decide (t.ai.length=0))∧ak [] w w':=by
 obtain⟨a,n,c,rfl,hn,aQ⟩:=cS hv
 have hK:=ak.refl [] w
 refine cj [.tmp 2] 7 Tryz.func71 rfl adP rfl rfl ?_
 refine zr<|ey rfl λw1 aI aT di=>?_
 have hK:=hK.ext aI
 refine W ?_
 exact⟨_,rfl,show Value.bool _=Value.bool _ from congrArg _ (decide_eq_decide.2 om),hK⟩
theorem B7 (t:aq) (cF:WF t) (v:Value) (L:List Nat) (w:World) (hv:bh L w v t):bC Tryz.prog 39 [v] w λr w'=>r=str (cH t)∧ak [] w w':=by
 have cm:=hv
 obtain⟨a,n,c,rfl,hn,aQ⟩:=cS hv
 have hK:=ak.refl [] w
 refine cj [.tmp 2] 10 Tryz.func39 rfl adt rfl rfl ?_
 refine zr<|ey rfl λw1 aI aT di=>cO aI hK aQ cm λhK aQ cm=>?_
 refine W ?_
 refine aA (IN t _ L w1 cm) ?_
 rintro _ w2 ⟨rfl,az⟩
 have dz:=az.size
 refine cO az hK aQ aT λhK aQ aT=>?_
 refine aV<|zc rfl (λh1=>?_) (λh1=>?_)
 have hh:cH t=[]:=sF (.inr (List.length_eq_zero_iff.1 h1))
 refine W ?_
 exact⟨_,rfl,by rw[hh];rfl,hK⟩
 have jS:0<t.ai.length:=by omega
 have ha:t.av=[]:=Classical.byContradiction (λh=>by have:=cF.leaf h;rw[this] at jS;exact absurd jS de)
 have mq:=ej jS
 have hh:cH t=(nth t.ai 0).av:=Ef ha mq
 obtain⟨b,off,pa,pn,pc,rfl,eR,dZ,fG⟩:=fC aQ mq
 refine WI ?_
 refine zi (i:=0) lG dD rfl rfl (by rw[hn];exact jS)<|W ?_
 exact⟨_,rfl,by rw[hh];rfl,hK⟩
theorem YN (t:aq) (cF:WF t) (h:aj) (k:Int) (v:Value) (L:List Nat) (w:World) (hv:bh L w v t):
  bC Tryz.prog 40 [v,str h,.int .i64 k] w λr w'=>r= .bool (decide ((t.ai.length:Int)=k)&&decide (cH t=h))∧ak [] w w':=by
 have cm:=hv
 obtain⟨a,n,c,rfl,hn,aQ⟩:=cS hv
 have hK:=ak.refl [] w
 subst hn
 refine cj [.tmp 6] 18 Tryz.func40 rfl adv rfl rfl ?_
 refine zr<|ey rfl λw1 aI bU di=>bL aI hK cm λhK cm=>?_
 refine W ?_
 apply oA 5 12 17 (ak [] w1) rfl oQ
 intro _
 refine W ?_
 refine aA (B7 t cF _ L w1 cm) ?_
 rintro _ w2 ⟨rfl,az⟩
 have dz:=az.size
 exact oQ
 intro xx w2 az
 have hK:=hK.ext az
 refine W ?_
 exact⟨_,rfl,rfl,hK⟩
theorem aos (ts:List aq) (hlen:ts.length<1000000000) (g:aq->Bool) (f:FuncId) (caps:List Value) (v:Value) (L:List Nat) (w:World) (hv:cX L w v ts) 
  (hf:∀i,i<ts.length->∀(u:Value) (w':World),ak [] w w'->bh L w' u (nth ts i)->bC Tryz.prog f (u::caps) w' λr w''=>r= .bool (g (nth ts i))∧ak [] w' w''):
  bC Tryz.prog 202 [v,.func (.func f) #[] caps.toArray] w λr w'=>r= .int .i64 (Cs ts g)∧ak [] w w':=by
 obtain⟨a,c,rfl,hlc⟩:=rS hv
 have pN:(cQ ts).length=ts.length:=gK ts
 have hK:=ak.refl [] w
 refine cj [.tmp 4] 19 Tryz.func202 rfl ac0 rfl rfl ?_
 refine W ?_
 refine eO (λk:Nat=>[(0,.slice a (cQ ts).length c),(1,.func (.func f) #[] caps.toArray),(7,.int .i64 ((cQ ts).length:Int)),(8,.int .i64 (k:Int))]) (λk w'=>ak [] w w'∧k<=ts.length∧∀i,i<k->g (nth ts i)=false) (λk=>ts.length-k) (0) (⟨rfl,rfl,rfl,rfl⟩) (⟨hK,om,by intro i hi;omega⟩) λgg w1 e1 hI=>?_
 obtain⟨hK,hk,cZ⟩:=hI
 have hv:=hv.ext hK
 refine W ?_
 refine zc rfl (λh1=>?_) (λh1=>?_)
 have hp:=ej (ps:=ts) (i:=gg) om
 obtain⟨b,off,pa,pn,pc,rfl,hc,dZ,fG⟩:=fC hv hp
 refine W ?_
 refine Ro rfl rfl rfl (hf gg om _ w1 hK (jh fG)) ?_
 rintro _ w2 ⟨rfl,az⟩
 have dz:=az.size
 have hK:=hK.ext az
 refine aV<|zc rfl (λh2=>?_) (λh2=>?_)
 have hq:=aaq om cZ h2
 refine W ?_
 exact⟨_,rfl,by rw[hq];rfl,hK⟩
 refine W ?_
 exact⟨gg+1,⟨rfl,rfl,rfl,rfl⟩,⟨hK,om,by intro i hi;rcases Nat.lt_or_ge i gg with h|h;exact cZ i h;rw[show i=gg by omega];exact h2⟩,om⟩
 have hq:=aar (λi hi=>cZ i om)
 refine W ?_
 exact⟨_,rfl,by rw[hq];rfl,hK⟩
theorem aot (ts:List aq) (hlen:ts.length<1000000000) (g:aq->Bool) (f:FuncId) (caps:List Value) (v:Value) (L:List Nat) (w:World) (hv:cX L w v ts) 
  (hf:∀i,i<ts.length->∀(u:Value) (w':World),ak [] w w'->bh L w' u (nth ts i)->bC Tryz.prog f (u::caps) w' λr w''=>r= .bool (g (nth ts i))∧ak [] w' w''):
  bC Tryz.prog 165 [v,.func (.func f) #[] caps.toArray] w λr w'=>r= .bool (ts.any g)∧ak [] w w':=by
 have hK:=ak.refl [] w
 refine cj [.tmp 4] 9 Tryz.func165 rfl acv rfl rfl ?_
 refine W ?_
 refine aA (aos ts hlen g f caps _ L w hv hf) ?_
 rintro _ w1 ⟨rfl,aI⟩
 have df:=aI.size
 have hK:=hK.ext aI
 refine W ?_
 exact⟨_,rfl,congrArg Value.bool (aas ts g),hK⟩
def YO (m:Nat):Prop:=∀(t:aq),t.size<=m->t.size<=100000->WF t->∀(hidden:Bool) (v:Value) (L:List Nat) (w:World),bh L w v t->
  bC Tryz.prog 136 [v,.bool hidden,.bool false] w λr w'=>r= .bool (fQ hidden t)∧ak [] w w'
theorem aou {m:Nat} (ih:YO m) (t:aq) (h:t.size<=m) (h2:t.size<=100000) (cF:WF t) (hidden:Bool) (b1 b2:Nat) (v:Value) (L:List Nat) (w:World) (hv:bh L w v t) 
  (aT:aL w b1 #[.bool hidden] 4) (aO:aL w b2 #[.bool false] 4):
  bC Tryz.prog 166 [v,.pointer (some ⟨b1,0,none⟩),.pointer (some ⟨b2,0,none⟩)] w λr w'=>r= .bool (!fQ hidden t)∧ak [] w w':=by
 have cm:=hv
 obtain⟨a,n,c,rfl,hn,aQ⟩:=cS hv
 have hK:=ak.refl [] w
 refine cj [.tmp 4] 10 Tryz.func166 rfl acw rfl rfl ?_
 refine zr<|ey rfl λw1 aI bU di=>gH aI hK cm aT aO λhK cm aT aO=>?_
 refine W ?_
 refine aA (ih t h h2 cF hidden _ L w1 cm) ?_
 rintro _ w2 ⟨rfl,az⟩
 have dz:=az.size
 have hK:=hK.ext az
 refine W ?_
 exact⟨_,rfl,rfl,hK⟩
theorem aov {b off n c:Nat} {ts:List aq} (h:cX L w (.slice (some ⟨b,off,none⟩) n c) ts) (k:Nat) (p:Prop) (hp:p->k<ts.length):
  ∃qa qn qc,I7 p w b (off+k*2) [str (nth ts k).av,.slice qa qn qc]∧I8 p L w (.slice qa qn qc) (nth ts k).ai:=by
 by_cases h2:p
 ·obtain⟨b',off',qa,qn,qc,fX,hq,QH,hqp⟩:=fC h (ej (hp h2))
  cases fX
  exact⟨qa,qn,qc,λ_=>hq,λ_=>hqp⟩
 ·exact⟨none,0,0,λhh=>absurd hh h2,λhh=>absurd hh h2⟩
theorem YP (ts:List aq) (k i:Nat):nth (ts.drop k) i=nth ts (i+k):=by
 simp[nth,List.getD,List.getElem?_drop,Nat.add_comm]
theorem aox (ts:List aq) (f:aq->Bool):(!ts.any λu=>!f u)=ts.all f:=by
 induction ts with
 |nil=>rfl
 |cons t r ih=>simp only[List.any_cons,List.all_cons,Bool.not_or,Bool.not_not,ih]
theorem QK:∀m,YO m:=by
 intro m
 induction m with
 |zero=>intro t h;have:=mP t;omega
 |succ m ih=>
  intro t hm rq cF hidden v L w hv
  have cm:=hv
  obtain⟨a,n,c,rfl,hn,aQ⟩:=cS hv
  have hK:=ak.refl [] w
  have lK:=mP t
  refine cj [.tmp 6] 53 Tryz.func136 rfl ab2 rfl rfl ?_
  refine zr<|ey rfl λw1 aI bU di=>cO aI hK aQ cm λhK aQ cm=>?_
  refine LQ rfl rfl rfl λw2 az aF dK=>gH az hK aQ cm bU λhK aQ cm bU=>?_
  refine LQ rfl rfl rfl λw3 aH bQ fS=>ld aH hK aQ cm bU aF λhK aQ cm bU aF=>?_
  refine W ?_
  refine aA (IN t _ L w3 cm) ?_
  rintro _ w4 ⟨rfl,aN⟩
  have fg:=aN.size
  refine sV aN hK aQ cm bU aF bQ λhK aQ cm bU aF bQ=>?_
  refine aV<|zc rfl (λh1=>?_) (λh1=>?_)
  have ha:t.av≠[]:=λh=>by have:=cF.pos h;omega
  refine WZ ?_
  apply oP 7 12 19 rfl oQ
  intro _
  refine WZ ?_
  apply oB 4 14 18 rfl oQ
  intro _
  refine WZ ?_
  exact oQ
  intro xx
  exact oQ
  intro xx
  refine WZ ?_
  apply oP 7 20 27 rfl oQ
  intro _
  refine zl SZ rfl (bQ.at rfl)<|zm<|F2 (t:=22) (b:=false) rfl ?_
  exact oQ
  intro xx
  refine W ?_
  exact⟨_,rfl,show Value.bool _=Value.bool _ from congrArg _ (by rw[RJ ha,Bool.or_false]),hK⟩
  have jS:0<t.ai.length:=by omega
  have ha:t.av=[]:=Classical.byContradiction (λh=>by have:=cF.leaf h;rw[this] at jS;exact absurd jS de)
  have mq:=ej jS
  have hh:cH t=(nth t.ai 0).av:=Ef ha mq
  refine W ?_
  refine aA (B7 t cF _ L w4 cm) ?_
  rintro _ w5 ⟨rfl,aJ⟩
  have mn:=aJ.size
  refine ld aJ hK aQ bU aF bQ λhK aQ bU aF bQ=>?_
  obtain⟨b,off,pa,pn,pc,rfl,eR,dZ,fG⟩:=fC aQ mq
  refine W ?_
  refine zc rfl (λh5=>?_) (λh5=>?_)
  have he:(nth t.ai 0).av=[101]:=hh.symm.trans h5
  have bQ:aL w5 w2.heap.size #[.bool false] 4:=bQ
  obtain⟨qa,qn,qc,gV,uO⟩:=aov aQ 1 ((n:Int)=2) (λh=>om)
  refine jV<|Ez [32,33,34,35,36,37,38,39,40,41,42,43,6] [(6,.bool (decide ((n:Int)=2)&&fQ true (nth t.ai 1)))] ?_ ?_
  rcases bE (decide ((n:Int)=2)) with iX|iX
  apply kU du 13 (rA 32 12++[6]) (rA 32 12++[6]) [[],[0],[1],[2],[3],[4],[4,5],[4,6],[4,7],[4],[4,8,9],[4,10],[11]] [It.v _,It.v _,It.v _,It.v _,It.v (.bool true),It.v _,It.v _,It.v _,It.v _,It.v _,It.v _,It.v _,It.v _] de rfl
  intro wd aB
  refine VA ?_
  refine vc (λx w6 bB=>?_) ?_
  refine WZ ?_
  exact pv (by exact congrArg Value.bool iX)
  refine VA ?_
  refine vk aB (λx w6 bB=>?_) ?_
  have hg:=iX
  refine zi (i:=1) lG dD rfl rfl (by have:=of_decide_eq_true hg;omega) ?_
  exact pv
  refine vk aB (λx w6 bB=>?_) ?_
  have gV:=gV.ext bB
  have hg:=iX
  refine zL oz dD rfl (gV (of_decide_eq_true hg)) rfl ?_
  exact pv
  refine VA ?_
  refine vk aB (λx w6 bB=>?_) ?_
  have uO:=uO.ext bB
  have hg:=iX
  refine aA (ih (nth t.ai 1) (by have:=of_decide_eq_true hg;have:=kB (t:=t) (i:=1) om;omega) (by have:=of_decide_eq_true hg;have:=kB (t:=t) (i:=1) om;omega) (cF.nth (by have:=of_decide_eq_true hg;omega)) true _ L w6 (jh (uO (of_decide_eq_true hg)))) ?_
  rintro _ w7 ⟨rfl,bJ⟩
  have jd:=bJ.size
  exact pk bJ
  exact VZ
  intro x qb qN
  change OW _ _ _ _ [] (aS (aR _ x _) (zZ 32 [_,_,_,_,_,_,_,_,_,_,_,_]++[(6,_)])) _
  refine W ?_
  exact kE qN
  apply kU du 13 (rA 32 12++[6]) (rA 32 12++[6]) [[],[0],[1],[2],[3],[4],[4,5],[4,6],[4,7],[4],[4,8,9],[4,10],[11]] [It.v _,It.v _,It.v _,It.v _,It.v (.bool false),It.v _,It.v _,It.v _,It.v _,It.v _,It.v _,It.v _,It.v _] de rfl
  intro wd aB
  refine VA ?_
  refine vc (λx w6 bB=>?_) ?_
  refine WZ ?_
  exact pv (by exact congrArg Value.bool iX)
  exact VZ
  intro x qb qN
  change OW _ _ _ _ [] (aS (aR _ x _) (zZ 32 [_,_,_,_,_,_,_,_,_,_,_,_]++[(6,_)])) _
  refine W ?_
  exact kE qN
  intro x qb qN
  have hK:=hK.ext qN
  refine kj<|⟨_,rfl,show Value.bool _=Value.bool _ from congrArg _ ?_,hK⟩
  rw[Mm ha jS he]
  congr 1
  exact decide_eq_decide.2 om
  have dY:(nth t.ai 0).av≠[101]:=λh=>h5 (hh.trans h)
  refine W ?_
  refine iS (λ_:Unit=>[(3,.pointer (some ⟨w.heap.size,0,none⟩)),(4,.pointer (some ⟨w1.heap.size,0,none⟩)),(5,.pointer (some ⟨w2.heap.size,0,none⟩)),(44,.bool (decide (cH t=[116])||decide (cH t=[99])))]) (λ_ w'=>w'=w5) ?_ ?_
  refine zc rfl (λh6=>?_) (λh6=>?_)
  refine WZ ?_
  exact⟨(),⟨rfl,rfl,rfl,congrArg Value.bool (An h6)⟩,rfl⟩
  refine W ?_
  exact⟨(),⟨rfl,rfl,rfl,congrArg Value.bool (Ao h6)⟩,rfl⟩
  intro gu w6 e6 hI
  obtain rfl:=hI
  refine zc rfl (λh7=>?_) (λh7=>?_)
  have vC:=Ap h7
  rw[hh] at vC
  refine W ?_
  refine xY (l:=1) lG dD rfl rfl rfl rfl om aQ λp9 ba=>?_
  have ba:cX L w6 p9 (t.ai.drop 1):=by rw[cX,Co];exact ba
  refine Rm (vs:=[.pointer (some ⟨w1.heap.size,0,none⟩),.pointer (some ⟨w2.heap.size,0,none⟩)]) rfl rfl rfl<|aA (aot (t.ai.drop 1) (by rw[List.length_drop];omega) (λu=>!fQ hidden u) 166 [.pointer (some ⟨w1.heap.size,0,none⟩),.pointer (some ⟨w2.heap.size,0,none⟩)] _ L w6 ba (λi hi u w' k hu=>by rw[List.length_drop] at hi;rw[YP] at hu⊢;exact aou ih (nth t.ai (i+1)) (by have:=kB (t:=t) (i:=i+1) om;omega) (by have:=kB (t:=t) (i:=i+1) om;omega) (cF.nth om) hidden _ _ _ L _ hu (aF.ext k) (bQ.ext k))) ?_
  rintro _ w7 ⟨rfl,bJ⟩
  have jd:=bJ.size
  have hK:=hK.ext bJ
  refine W ?_
  exact⟨_,rfl,show Value.bool _=Value.bool _ from congrArg _ (by rw[Mn ha jS vC,aox]),hK⟩
  have vC:=Aq h7
  rw[hh] at vC
  refine W ?_
  exact⟨_,rfl,by rw[Mo ha jS dY vC];rfl,hK⟩
theorem D3 {a b:World} (h:ak [] w a) (k:RowKit.Below w.heap.size a b):ak [] w b:=
 ⟨k.os.trans h.os,k.tape.trans h.tape,k.output.trans h.output,Nat.le_trans h.size k.size,λi hi hl=>(k.block i hi).trans (h.block i hi hl)⟩
theorem aoy (x y:Nat) (h:x*y<18446744073709551616) (hx:x<18446744073709551616) (hy:y<18446744073709551616) (w:World):
  bC Tryz.prog 172 [.int .u64 x,.int .u64 y] w λv w'=>v= .tuple #[.int .u64 0,.int .u64 ((x*y:Nat):Int)]∧w=w':=
 ⟨rf.mk' Tryz.func172 rfl acA,Calls.mono (Tryz.bits_Mul x y hx hy w) λ_ _ ⟨he,hw⟩=>⟨_,he,by rw[Nat.div_eq_of_lt h,Nat.mod_eq_of_lt h];rfl,hw.symm⟩⟩
theorem aoz (B b n:Nat) (w:World) (hB:B<=b) (fN:aL w b #[.pointer none,.slice none 0 0] 113) (oZ:B<=w.heap.size) (hn:n<=281474976710656):
  bC Tryz.prog 173 [.pointer (some ⟨b,0,none⟩),.int .i64 n] w λv w'=>v= .tuple #[]∧Lib.IsBuilderF 113 5 B b (Lib.byteCells []) w'∧RowKit.Below B w w':=
 ⟨rf.mk' Tryz.func173 rfl acB,Calls.mono (Tryz.Builder_Grow_fresh B b n w hB fN oZ hn) λ_ _ ⟨he,hb,hk⟩=>⟨_,he,rfl,.inr (Lib.BuilderAtF.of hb),hk⟩⟩
theorem YQ (B b:Nat) (l s:aj) (w:World) (h:Lib.IsBuilderF 113 5 B b (Lib.byteCells l) w) (hlen:l.length+s.length<=140737488355328) (oZ:B<=w.heap.size):
  bC Tryz.prog 111 [.pointer (some ⟨b,0,none⟩),str s] w λv w'=>(∃u,v=u)∧Lib.IsBuilderF 113 5 B b (Lib.byteCells (l++s)) w'∧RowKit.Below B w w':=
 ⟨rf.mk' Tryz.func111 rfl SG,Calls.mono (Tryz.Builder_WriteString_f B b _ ⟨s.toArray⟩ w h (by rw[Lib.byteCells_length];simpa[ByteArray.size] using hlen) oZ) λ_ _ ⟨he,hb,hk⟩=>⟨_,he,⟨_,rfl⟩,.inr (by have e1:Lib.byteCells (l++s)=Lib.byteCells l++Lib.strCells ⟨s.toArray⟩:=by{simp[Lib.byteCells,Lib.strCells]};rw[e1];exact hb),hk⟩⟩
theorem QL (B b:Nat) (l:aj) (w:World) (h:Lib.IsBuilderF 113 5 B b (Lib.byteCells l) w):
  bC Tryz.prog 174 [.pointer (some ⟨b,0,none⟩)] w λv w'=>v= .int .i64 (l.length:Int)∧w=w':=
 ⟨rf.mk' Tryz.func174 rfl acC,Calls.mono (Tryz.Builder_Len_f B b _ w h) λ_ _ ⟨he,hw⟩=>⟨_,he,by rw[Lib.byteCells_length],hw.symm⟩⟩
theorem YR (B b:Nat) (l:aj) (h0:l≠[]) (w:World) (h:Lib.IsBuilderF 113 5 B b (Lib.byteCells l) w):
  bC Tryz.prog 79 [.pointer (some ⟨b,0,none⟩)] w λv w'=>v=str l∧Lib.IsBuilderF 113 5 B b (Lib.byteCells l) w'∧RowKit.Below B w w':=
 ⟨rf.mk' Tryz.func79 rfl SL,Calls.mono (Tryz.Builder_String_f B b l w h h0) λ_ _ ⟨he,hb,hk⟩=>⟨_,he,rfl,hb,hk⟩⟩
theorem aoA (c:Nat) (hc:c<=8192) (w:World):bC Tryz.prog 143 [str [115],.int .i64 (c:Int)] w λv w'=>v=str (List.replicate c 115)∧ak [] w w':=by
 have hK:=ak.refl [] w
 refine cj [.tmp 4] 125 Tryz.func143 rfl ab8 rfl rfl ?_
 refine W ?_
 refine zc rfl (λh1=>?_) (λh1=>?_)
 have eR:c=0:=by omega
 refine W ?_
 exact⟨_,rfl,by rw[eR];rfl,hK⟩
 refine W ?_
 refine zc rfl (λh2=>?_) (λh2=>?_)
 have bM:c=1:=by omega
 refine W ?_
 exact⟨_,rfl,by rw[bM];rfl,hK⟩
 refine W ?_
 refine zc rfl (λh3=>?_) (λh3=>?_)
 exfalso
 omega
 refine W ?_
 refine xZ wO Jq rfl rfl rfl (show IntKind.u64.wrap (([115]:aj).length:Int)=((1:Nat):Int) from by decide)<|zm<|xZ wO Jq rfl rfl rfl (show IntKind.u64.wrap (c:Int)=((c:Nat):Int) from by rw[wrap_u64 _ om om])<|aA (aoy 1 c om om om _) ?_
 rintro _ _ ⟨rfl,rfl⟩
 refine zm<|zx (i:=0) rfl rfl<|zx (i:=1) rfl rfl<|zA<|zA<|aV<|jV<|zr<|zm<|FX rfl rfl rfl rfl rfl<|zm ?_
 apply Ce 3 31 34 [31,32,33,34] (λw'=>w=w') rfl
 intro h4
 replace h4:=jy h4
 refine W ?_
 exact mg rfl rfl
 intro h4
 replace h4:=jy h4
 refine W ?_
 exact mg rfl rfl
 rintro xx _ rfl
 refine aV<|zc rfl (λh5=>?_) (λh5=>?_)
 exfalso
 simp at h5
 omega
 refine gX<|zr<|zm<|xZ Jq wO rfl rfl rfl (show IntKind.i64.wrap ((1*c:Nat):Int)=(c:Int) from by rw[wrap_i64 _ om om];omega)<|W ?_
 refine zc rfl (λh6=>?_) (λh6=>?_)
 exact absurd h6 de
 refine W ?_
 refine kl (i:=0) iG rfl rfl rfl rfl (jt de)<|W ?_
 refine zc rfl (λh7=>?_) (λh7=>?_)
 exact absurd h7 de
 refine W ?_
 refine zc rfl (λh8=>?_) (λh8=>?_)
 exact absurd h8 de
 refine W ?_
 refine zc rfl (λh9=>?_) (λh9=>?_)
 exact absurd h9 de
 refine W ?_
 refine zc rfl (λgh=>?_) (λgh=>?_)
 exact absurd gh de
 refine W ?_
 refine zc rfl (λpq=>?_) (λpq=>?_)
 exact absurd pq de
 refine W ?_
 refine zc rfl (λkS=>?_) (λkS=>?_)
 exfalso
 omega
 refine gX<|zr<|da MV rfl rfl rfl λw1 aI dj di=>?_
 have hK:=hK.ext aI
 refine aV<|zr<|zm<|aA (aoz w.heap.size w.heap.size c w1 (lR _) dj om om) ?_
 rintro _ w2 ⟨rfl,hB,rL⟩
 have hK:=D3 hK rL
 refine aV<|zr<|zm<|aA (YQ w.heap.size w.heap.size [] [115] w2 hB sm (by have:=hK.size;omega)) ?_
 rintro _ w3 ⟨_,hB,rL⟩
 have hK:=D3 hK rL
 refine W ?_
 refine eO (λk:Nat=>[(0,str [115]),(7,.int .i64 (c:Int)),(8,.int .i64 (c:Int)),(9,.pointer (some ⟨w.heap.size,0,none⟩))]) (λk w'=>ak [] w w'∧Lib.IsBuilderF 113 5 w.heap.size w.heap.size (Lib.byteCells (List.replicate k 115)) w'∧1<=k∧k<=c) (λk=>c-k) (1) (⟨rfl,rfl,rfl,rfl⟩) (⟨hK,hB,om,om⟩) λgg w4 e4 hI=>?_
 obtain⟨hK,hB,hk,lj⟩:=hI
 have fU:=hK.size
 refine jV<|zr<|aA (QL _ _ _ _ hB) ?_
 rintro _ _ ⟨rfl,rfl⟩
 rw[List.length_replicate]
 refine W ?_
 refine zc rfl (λpr=>?_) (λpr=>?_)
 have et:gg<c:=by omega
 refine W ?_
 refine aA (QL _ _ _ _ hB) ?_
 rintro _ _ ⟨rfl,rfl⟩
 rw[List.length_replicate]
 refine W ?_
 refine aA (QL _ _ _ _ hB) ?_
 rintro _ _ ⟨rfl,rfl⟩
 rw[List.length_replicate]
 refine zm<|ZV rfl rfl rfl rfl rfl (show(if(c:Int)<(if(gg:Int)<(c:Int)-gg then(gg:Int) else(c:Int)-gg) then(c:Int) else(if(gg:Int)<(c:Int)-gg then(gg:Int) else(c:Int)-gg))=((min gg (c-gg):Nat):Int) from by repeat' split<;>omega)<|zA<|aV<|lv<|aA (YR _ _ _ (by intro h;have:=congrArg List.length h;simp at this;omega) w4 hB) ?_
 rintro _ w5 ⟨rfl,hB,rL⟩
 have hK:=D3 hK rL
 refine zm<|Cd iG rfl rfl rfl (.inl ⟨rfl,rfl⟩) (.inr ⟨_,rfl⟩) om (by rw[List.length_replicate];omega)<|aA (YQ w.heap.size w.heap.size _ _ w5 hB so (by have:=hK.size;omega)) ?_
 rintro _ w6 ⟨_,hB,rL⟩
 have hK:=D3 hK rL
 refine W ?_
 exact⟨gg+min gg (c-gg),⟨rfl,rfl,rfl,rfl⟩,⟨hK,by have e1:List.replicate gg 115++((List.replicate gg (115:UInt8)).drop 0).take (min gg (c-gg)-0)=List.replicate (gg+min gg (c-gg)) 115:=by{rw[List.drop_zero,Nat.sub_zero,List.take_replicate,List.replicate_append_replicate];congr 1;omega};rw[<-e1];exact hB,om,om⟩,om⟩
 have he:gg=c:=by omega
 refine W ?_
 refine aA (YR _ _ _ (by intro h;have:=congrArg List.length h;simp at this;omega) w4 hB) ?_
 rintro _ w5 ⟨rfl,hB,rL⟩
 have hK:=D3 hK rL
 refine W ?_
 exact⟨_,rfl,by rw[<-he];rfl,hK⟩
theorem aoB (h:aj) (n:Nat) (hn:n<=8000) (w:World):bC Tryz.prog 118 [str h,.int .i64 (n:Int)] w λr w'=>r=str (iC h n)∧ak [] w w':=by
 have hK:=ak.refl [] w
 refine cj [.tmp 4] 33 Tryz.func118 rfl abO rfl rfl ?_
 refine W ?_
 refine zc rfl (λh1=>?_) (λh1=>?_)
 have eR:=h1
 refine W ?_
 exact⟨_,rfl,show str _=str _ from congrArg _ (by rw[iC,iP eR]),hK⟩
 have eR:=h1
 refine W ?_
 refine iS (λ_:Unit=>[(1,.int .i64 (n:Int)),(5,str h),(8,.bool (decide (h=[109,111,118])||decide (h=[111,112,101,110])))]) (λ_ w'=>w'=w) ?_ ?_
 refine zc rfl (λh2=>?_) (λh2=>?_)
 refine WZ ?_
 exact⟨(),⟨rfl,rfl,congrArg Value.bool (An h2)⟩,rfl⟩
 refine W ?_
 exact⟨(),⟨rfl,rfl,congrArg Value.bool (Ao h2)⟩,rfl⟩
 intro gu w1 e1 hI
 obtain rfl:=hI
 refine zc rfl (λh3=>?_) (λh3=>?_)
 have bM:=Ap h3
 refine W ?_
 exact⟨_,rfl,show str _=str _ from congrArg _ (by rw[iC,iN eR,iP bM]),hK⟩
 have bM:=Aq h3
 refine W ?_
 refine iS (λ_:Unit=>[(1,.int .i64 (n:Int)),(5,str h),(11,.bool (decide (h=[97,100,100])||decide (h=[115,117,98])||decide (h=[109,117,108])))]) (λ_ w'=>w'=w1) ?_ ?_
 refine zc rfl (λh4=>?_) (λh4=>?_)
 refine WZ ?_
 exact⟨(),⟨rfl,rfl,congrArg Value.bool (RO h4)⟩,rfl⟩
 have fj:=h4
 refine W ?_
 refine zc rfl (λh5=>?_) (λh5=>?_)
 refine WZ ?_
 exact⟨(),⟨rfl,rfl,congrArg Value.bool (RP fj h5)⟩,rfl⟩
 refine W ?_
 exact⟨(),⟨rfl,rfl,congrArg Value.bool (RQ fj h5)⟩,rfl⟩
 intro gu w2 e2 hI
 obtain rfl:=hI
 refine zc rfl (λh6=>?_) (λh6=>?_)
 have bZ:=RR h6
 refine W ?_
 exact⟨_,rfl,show str _=str _ from congrArg _ (by rw[iC,iN eR,iN bM,iP bZ]),hK⟩
 have bZ:=RS h6
 refine W ?_
 refine zc rfl (λh7=>?_) (λh7=>?_)
 have dP:=h7
 refine W ?_
 refine Rl rfl rfl rfl rfl (show(if(0:Int)<(n:Int)-2 then(n:Int)-2 else 0)=((n-2:Nat):Int) from by split<;>omega)<|aA (aoA (n-2) om w2) ?_
 rintro _ w3 ⟨rfl,aH⟩
 have eM:=aH.size
 have hK:=hK.ext aH
 refine W ?_
 exact⟨_,rfl,show str _=str _ from congrArg _ (by rw[iC,iN eR,iN bM,iN bZ,iP dP]),hK⟩
 have dP:=h7
 refine W ?_
 refine zc rfl (λh8=>?_) (λh8=>?_)
 have jJ:=h8
 refine W ?_
 exact⟨_,rfl,show str _=str _ from congrArg _ (by rw[iC,iN eR,iN bM,iN bZ,iN dP,iP jJ]),hK⟩
 have jJ:=h8
 refine W ?_
 refine zc rfl (λh9=>?_) (λh9=>?_)
 have kt:=h9
 refine W ?_
 exact⟨_,rfl,show str _=str _ from congrArg _ (by rw[iC,iN eR,iN bM,iN bZ,iN dP,iN jJ,iP kt]),hK⟩
 have kt:=h9
 refine W ?_
 refine zc rfl (λgh=>?_) (λgh=>?_)
 have qL:=gh
 refine W ?_
 exact⟨_,rfl,show str _=str _ from congrArg _ (by rw[iC,iN eR,iN bM,iN bZ,iN dP,iN jJ,iN kt,iP qL]),hK⟩
 have qL:=gh
 refine W ?_
 refine zc rfl (λpq=>?_) (λpq=>?_)
 have Bg:=pq
 refine W ?_
 exact⟨_,rfl,show str _=str _ from congrArg _ (by rw[iC,iN eR,iN bM,iN bZ,iN dP,iN jJ,iN kt,iN qL,iP Bg]),hK⟩
 have Bg:=pq
 refine W ?_
 refine iS (λ_:Unit=>[(5,str h),(30,.bool (decide (h=[106,117,109,112])||decide (h=[104,97,108,116])))]) (λ_ w'=>w'=w2) ?_ ?_
 refine zc rfl (λkS=>?_) (λkS=>?_)
 refine WZ ?_
 exact⟨(),⟨rfl,congrArg Value.bool (An kS)⟩,rfl⟩
 refine W ?_
 exact⟨(),⟨rfl,congrArg Value.bool (Ao kS)⟩,rfl⟩
 intro gu w3 e3 hI
 obtain rfl:=hI
 refine zc rfl (λpr=>?_) (λpr=>?_)
 have IL:=Ap pr
 refine W ?_
 exact⟨_,rfl,show str _=str _ from congrArg _ (by rw[iC,iN eR,iN bM,iN bZ,iN dP,iN jJ,iN kt,iN qL,iN Bg,iP IL]),hK⟩
 have IL:=Aq pr
 refine W ?_
 exact⟨_,rfl,show str _=str _ from congrArg _ (by rw[iC,iN eR,iN bM,iN bZ,iN dP,iN jJ,iN kt,iN qL,iN Bg,iN IL]),hK⟩
theorem QM {ts:List aq} (h:cX L w v ts):∃a c,v= .slice a ts.length c:=by
 obtain⟨a,c,rfl,_⟩:=rS h
 exact⟨a,c,by rw[gK]⟩
theorem YS (t:aq) (hs:t.size<=12001) (cF:WF t) (v:Value) (L:List Nat) (w:World) (hv:bh L w v t):
  bC Tryz.prog 98 [v] w λr w'=>r= .bool (rk t)∧ak [] w w':=by
 have cm:=hv
 obtain⟨a,n,c,rfl,hn,aQ⟩:=cS hv
 have hK:=ak.refl [] w
 have hn8:=aaP cF
 subst hn
 have hσ:=aaO (cH t) t.ai.length
 refine cj [.tmp 2] 78 Tryz.func98 rfl ad6 rfl rfl ?_
 refine zr<|ey rfl λw1 aI aT di=>cO aI hK aQ cm λhK aQ cm=>?_
 refine W ?_
 apply kU du 7 (rA 7 6++[3]) (rA 7 6++[3]) [[],[0],[],[2],[3],[1,4],[5]] [It.v _,It.v _,It.v _,It.v _,It.v _,It.v _,It.v (str (iC (cH t) t.ai.length))] de rfl
 intro wd aB
 refine VA ?_
 refine vk aB (λx w2 az=>?_) ?_
 have cm:=cm.ext az
 refine aA (B7 t cF _ L w2 cm) ?_
 rintro _ w3 ⟨rfl,aH⟩
 have eM:=aH.size
 exact pk aH
 refine VA ?_
 refine vk aB (λx w2 az=>?_) ?_
 refine aA (aoB (cH t) t.ai.length om w2) ?_
 rintro _ w3 ⟨rfl,aH⟩
 have eM:=aH.size
 exact pk aH
 exact VZ
 intro x oc gI
 refine cO gI hK aQ aT λhK aQ aT=>?_
 change OW _ _ _ _ [] (aS (aR _ x _) (zZ 7 [_,_,_,_,_,_]++[(3,_)])) _
 refine W ?_
 apply oP 8 15 23 rfl oQ
 intro h1
 refine WZ ?_
 exact oQ
 intro xx
 refine aV<|zc rfl (λh2=>?_) (λh2=>?_)
 have hb:iC (cH t) t.ai.length=[]∨t.ai.length≠(iC (cH t) t.ai.length).length+1:=by simp only[oE,dE] at h2;rcases h2 with h|h;exact .inl h;exact .inr om
 refine W ?_
 exact⟨_,rfl,by rw[Je hb];rfl,hK⟩
 have hb:¬(iC (cH t) t.ai.length=[]∨t.ai.length≠(iC (cH t) t.ai.length).length+1):=by simp only[Bool.or_eq_false_iff,decide_eq_false_iff_not] at h2;rintro(h|h);exact h2.1 h;exact h2.2 om
 have dY:=List.length_pos_iff.2 (λh=>hb (.inl h))
 have hl:t.ai.length=(iC (cH t) t.ai.length).length+1:=Classical.byContradiction λh=>hb (.inr h)
 obtain⟨b0,yV,_,_,_,rfl,_,_,_⟩:=fC aQ (ej (ps:=t.ai) (i:=0) om)
 refine W ?_
 refine xY (l:=1) lG dD rfl rfl rfl rfl om aQ λp9 ba=>?_
 have ba:cX L oc p9 (t.ai.drop 1):=by rw[cX,Co];exact ba
 obtain⟨a1,c1,rfl⟩:=QM ba
 have Ed:(t.ai.drop 1).length=t.ai.length-1:=List.length_drop
 generalize hσe:iC (cH t) t.ai.length=σ at*
 refine W ?_
 refine eO (λk:Nat=>[(1,.pointer (some ⟨w.heap.size,0,none⟩)),(3,str σ),(26,.slice a1 (t.ai.drop 1).length c1),(27,.int .i64 ((t.ai.drop 1).length:Int)),(28,.int .i64 (k:Int))]) (λk w'=>ak [] w w'∧ak [] oc w'∧k<=(t.ai.drop 1).length∧∀i,i<k->ia ((σ.getD i 0).toNat:Int) (nth t.ai (i+1))=true) (λk=>(t.ai.drop 1).length-k) (0) (⟨rfl,rfl,rfl,rfl,rfl⟩) (⟨hK,ak.refl [] _,om,by intro i hi;omega⟩) λgg qQ yX hI=>?_
 obtain⟨hK,aI,hk,cZ⟩:=hI
 refine bL aI ba aT λba aT=>?_
 have fU:=hK.size
 have as8:=aI.size
 have ir:=aT.lt
 refine W ?_
 refine zc rfl (λh3=>?_) (λh3=>?_)
 have hp:=ej (ps:=t.ai.drop 1) (i:=gg) om
 obtain⟨b1,eh,pa,pn,pc,rfl,gV,dZ,fG⟩:=fC ba hp
 rw[YP] at gV dZ fG
 have yC:=cF.nth (i:=gg+1) om
 have lW:=kB (t:=t) (i:=gg+1) om
 have CQ:=qB (nth t.ai (gg+1))
 refine W ?_
 refine da dD rfl rfl rfl λp7 j7 bQ as9=>?_
 have hK:=hK.grow;have hK:=hK.ext j7;have aI:=aI.grow;have aI:=aI.ext j7;have fG:=fG.grow;have fG:=fG.ext j7
 refine zA<|cu dD rfl rfl rfl bQ rfl λnX jm bQ amC=>?_
 have hK:=hK.aD jm sx;have aI:=aI.aD jm sx;have fG:=fG.aD jm sx
 refine W ?_
 have mB:=ak.refl [] nX
 refine kl iG rfl rfl rfl rfl (jt om)<|W ?_
 refine iS (λ_:Unit=>[(1,.pointer (some ⟨w.heap.size,0,none⟩)),(3,str σ),(5,.pointer (some ⟨qQ.heap.size,0,none⟩)),(6,.bool false),(26,.slice (some ⟨b1,eh,none⟩) (t.ai.drop 1).length c1),(27,.int .i64 ((t.ai.drop 1).length:Int)),(28,.int .i64 (gg:Int)),(35,.int .u8 ((σ.getD gg 0).toNat:Int)),(36,.bool (decide (((σ.getD gg 0).toNat:Int)=100)||decide (((σ.getD gg 0).toNat:Int)=115)))]) (λ_ w'=>w'=nX) ?_ ?_
 refine zc rfl (λh4=>?_) (λh4=>?_)
 refine WZ ?_
 exact⟨(),⟨rfl,rfl,rfl,rfl,rfl,rfl,rfl,rfl,congrArg Value.bool (An h4)⟩,rfl⟩
 refine W ?_
 exact⟨(),⟨rfl,rfl,rfl,rfl,rfl,rfl,rfl,rfl,congrArg Value.bool (Ao h4)⟩,rfl⟩
 intro gu qb e45 hI
 obtain rfl:=hI
 refine iS (λ_:Unit=>[(1,.pointer (some ⟨w.heap.size,0,none⟩)),(3,str σ),(6,.bool (ia ((σ.getD gg 0).toNat:Int) (nth t.ai (gg+1)))),(26,.slice (some ⟨b1,eh,none⟩) (t.ai.drop 1).length c1),(27,.int .i64 ((t.ai.drop 1).length:Int)),(28,.int .i64 (gg:Int))]) (λ_ w'=>ak [] qb w') ?_ ?_
 refine zc rfl (λh5=>?_) (λh5=>?_)
 have hz:=Ap h5
 refine W ?_
 refine aA (aor _ om qb) ?_
 rintro _ qt ⟨rfl,oY⟩
 have Lo:=oY.size
 have mB:=mB.ext oY
 refine W ?_
 exact⟨(),⟨rfl,rfl,by rw[ia,iP hz];rfl,rfl,rfl,rfl⟩,mB⟩
 have hz:=Aq h5
 refine W ?_
 refine zc rfl (λh6=>?_) (λh6=>?_)
 refine W ?_
 refine aA (QJ _ om _) ?_
 rintro _ _ ⟨rfl,rfl⟩
 refine W ?_
 exact⟨(),⟨rfl,rfl,by rw[ia,iN hz,iP h6];rfl,rfl,rfl,rfl⟩,mB⟩
 have di:=h6
 refine W ?_
 refine zc rfl (λh7=>?_) (λh7=>?_)
 have dK:=h7
 refine W ?_
 refine aA (QJ _ om _) ?_
 rintro _ _ ⟨rfl,rfl⟩
 refine WZ ?_
 apply oA 5 52 57 (ak [] qb) rfl oQ
 intro h8
 obtain⟨z,YT⟩:=Option.isSome_iff_exists.1 h8
 have HX:z=(numeral (nth t.ai (gg+1)).av).getD 0:=by rw[YT];rfl
 refine W ?_
 refine aA (YL _ YT qb) ?_
 rintro _ qt ⟨rfl,oY⟩
 have Lo:=oY.size
 rw[HX]
 exact oQ
 intro xx qt oY
 have mB:=mB.ext oY
 refine W ?_
 exact⟨(),⟨rfl,rfl,by rw[ia,iN hz,iN di,iP dK];rfl,rfl,rfl,rfl⟩,mB⟩
 have dK:=h7
 refine W ?_
 refine zc rfl (λh9=>?_) (λh9=>?_)
 refine W ?_
 refine aA (YM _ om _) ?_
 rintro _ _ ⟨rfl,rfl⟩
 refine W ?_
 exact⟨(),⟨rfl,rfl,by rw[ia,iN hz,iN di,iN dK,iP h9];rfl,rfl,rfl,rfl⟩,mB⟩
 have fS:=h9
 refine W ?_
 refine zc rfl (λgh=>?_) (λgh=>?_)
 have ga:=gh
 refine W ?_
 refine aA (YN (nth t.ai (gg+1)) yC [101] 2 _ _ qb (jh fG)) ?_
 rintro _ qt ⟨rfl,oY⟩
 have Lo:=oY.size
 refine cO oY fG bQ mB λfG bQ mB=>?_
 refine WZ ?_
 apply oA 3 67 70 (ak [] qt) rfl oQ
 intro pq
 refine W ?_
 refine aA (QK (nth t.ai (gg+1)).size (nth t.ai (gg+1)) (lR _) om yC false _ _ qt (jh fG)) ?_
 rintro _ l5 ⟨rfl,jz⟩
 have ata:=jz.size
 exact oQ
 intro xx l5 jz
 have mB:=mB.ext jz
 refine W ?_
 exact⟨(),⟨rfl,rfl,by rw[ia,iN hz,iN di,iN dK,iN fS,iP ga,show decide ((nth t.ai (gg+1)).ai.length=2)=decide (((nth t.ai (gg+1)).ai.length:Int)=2) from decide_eq_decide.2 om];rfl,rfl,rfl,rfl⟩,mB⟩
 have ga:=gh
 refine W ?_
 refine zc rfl (λkS=>?_) (λkS=>?_)
 have iq:=kS
 refine W ?_
 refine aA (QK (nth t.ai (gg+1)).size (nth t.ai (gg+1)) (lR _) om yC false _ _ qb (jh fG)) ?_
 rintro _ qt ⟨rfl,oY⟩
 have Lo:=oY.size
 have mB:=mB.ext oY
 refine W ?_
 exact⟨(),⟨rfl,rfl,by rw[ia,iN hz,iN di,iN dK,iN fS,iN ga,iP iq];rfl,rfl,rfl,rfl⟩,mB⟩
 have iq:=kS
 refine WZ ?_
 exact⟨(),⟨rfl,rfl,by rw[ia,iN hz,iN di,iN dK,iN fS,iN ga,iN iq];rfl,rfl,rfl,rfl⟩,mB⟩
 intro gu qt e46 hI
 have hK:=hK.ext hI;have aI:=aI.ext hI
 refine W ?_
 refine zc rfl (λpr=>?_) (λpr=>?_)
 subst hσe
 have hq:ia (((iC (cH t) t.ai.length).getD gg 0).toNat:Int) (nth t.ai (gg+1))=false:=by simpa using pr
 refine W ?_
 exact⟨_,rfl,by rw[aat om hq];rfl,hK⟩
 have hq:ia ((σ.getD gg 0).toNat:Int) (nth t.ai (gg+1))=true:=by simpa using pr
 refine W ?_
 exact⟨gg+1,⟨rfl,rfl,rfl,rfl,rfl⟩,⟨hK,aI,om,by intro i hi;rcases Nat.lt_or_ge i gg with h|h;exact cZ i h;rw[show i=gg by omega];exact hq⟩,om⟩
 subst hσe
 have hq:=aau hb (λi hi=>cZ i om)
 refine W ?_
 exact⟨_,rfl,by rw[hq];rfl,hK⟩
theorem aoC (t:aq) (cF:WF t) (v:Value) (L:List Nat) (w:World) (hv:bh L w v t):
  bC Tryz.prog 99 [v] w λr w'=>r= .bool (Gm t)∧ak [] w w':=by
 have cm:=hv
 obtain⟨a,n,c,rfl,hn,aQ⟩:=cS hv
 have hK:=ak.refl [] w
 refine cj [.tmp 2] 11 Tryz.func99 rfl ad7 rfl rfl ?_
 refine zr<|ey rfl λw1 aI aT di=>bL aI hK cm λhK cm=>?_
 refine W ?_
 refine aA (B7 t cF _ L w1 cm) ?_
 rintro _ w2 ⟨rfl,az⟩
 have dz:=az.size
 refine cO az hK cm aT λhK cm aT=>?_
 refine WZ ?_
 apply oO 4 6 10 (ak [] w2) rfl oQ
 intro _
 refine W ?_
 refine aA (B7 t cF _ L w2 cm) ?_
 rintro _ w3 ⟨rfl,aH⟩
 have eM:=aH.size
 exact oQ
 intro xx w4 aN
 have hK:=hK.ext aN
 refine W ?_
 exact⟨_,rfl,rfl,hK⟩
def aoD (L:List Nat) (d:Nat) (s:aj) (v:Value) (w:World):Prop:=
 ∃t tv r ok,v= .tuple #[tv,str r,.bool ok]∧bh L w tv t∧Ax d s t r ok
theorem aoE:∀(d:Nat) (s:aj) (L:List Nat) (w:World),d<=60->s.length<=12000->(∀x,x∈L->x<w.heap.size)->
  bC Tryz.prog 70 [str s,.int .i64 ((60:Int)-(d:Int))] w λv w'=>aoD L d s v w'∧ak [] w w':=by
 intro d
 induction d using Nat.strongRecOn with
 |_ d ih=>
 intro s L w hd hs hL
 have hK:=ak.refl [] w
 refine j1 [.cell 4 66,.tmp 5,.tmp 6] 78 Tryz.func70 rfl adO rfl rfl rfl ?_
 refine zr<|da dD rfl rfl rfl λw1 aI aF di=>?_
 have hK:=hK.grow;have hK:=hK.ext aI
 refine W ?_
 refine aA (aok _ _ _) ?_
 rintro _ _ ⟨rfl,rfl⟩
 refine jY rfl rfl rfl<|aV<|zc rfl (λh1=>?_) (λh1=>?_)
 have wT:=h1
 refine W ?_
 refine eO (λk:Nat=>[(0,str s),(1,.int .i64 ((60:Int)-(d:Int))),(4,.pointer (some ⟨w.heap.size,0,none⟩)),(7,.int .i64 (k:Int))]) (λk w'=>w'=w1∧k<=(s.takeWhile eV).length) (λk=>s.length-k) (0) (⟨rfl,rfl,rfl,rfl⟩) (⟨rfl,om⟩) λgg w2 e2 hI=>?_
 obtain⟨rfl,EH⟩:=hI
 have GY:=Rf eV s gg EH
 have fP:=Gc eV s
 refine WZ ?_
 apply oB 5 19 24 rfl oQ
 intro h2
 refine zm<|zm<|kl iG rfl rfl rfl rfl (jt om)<|aA (aop _ _) ?_
 rintro _ _ ⟨rfl,rfl⟩
 exact oQ
 intro xx
 refine aV<|zc rfl (λh3=>?_) (λh3=>?_)
 have et:=GY.2 (by simpa using h3)
 refine W ?_
 exact⟨gg+1,⟨rfl,rfl,rfl,rfl⟩,⟨rfl,om⟩,om⟩
 have GZ:gg=(s.takeWhile eV).length:=Nat.le_antisymm EH (Nat.le_of_not_lt (λhh=>by have hx:=GY.1 hh;rw[hx.2,Bool.and_true,decide_eq_false_iff_not] at h3;omega))
 refine WZ ?_
 refine sE du (cD w.heap.size ([str ((s.drop 0).take (gg-0)),.slice none 0 0]) 66) 12 (rA 27 9++[100009,5,6]) (rA 27 9++[100009,5,6]) [[],[],[0,1],[2],[],[],[4,5],[],[7],[3],[6],[8]] [λv _=>v=(str s),λv _=>v=(.int .i64 (gg:Int)),λv _=>v=(str ((s.drop 0).take (gg-0))),λv _=>v=(.agg #[str ((s.drop 0).take (gg-0)),.slice none 0 0]),λv _=>v=(str s),λv _=>v=(.int .i64 (gg:Int)),λv _=>v=(str ((s.drop gg).take (s.length-gg))),λv _=>v=(.int .i64 (gg:Int)),λv _=>v=(.bool (decide ((0:Int)<(gg:Int)))),λ_ ww=>aL ww w.heap.size ([str ((s.drop 0).take (gg-0)),.slice none 0 0]).toArray 66,λv _=>v=(str ((s.drop gg).take (s.length-gg))),λv _=>v=(.bool (decide ((0:Int)<(gg:Int))))] de (cR (cR (cR (cR (cR (cR (cR (cR (cR (Ea (cR (cR trivial)))))))))))) (λwd aB=>?_) ?_
 refine bV ?_ ?_
 intro x vs w3 e aH hd he
 replace aH:=(cD w.heap.size ([str ((s.drop 0).take (gg-0)),.slice none 0 0]) 66).trans aB aH
 replace he:e=aS (aR _ x _) []:=he
 subst he
 refine W ?_
 exact dn ((cD w.heap.size ([str ((s.drop 0).take (gg-0)),.slice none 0 0]) 66).refl _) rfl
 refine bV ?_ ?_
 intro x vs w3 e aH hd he
 replace aH:=(cD w.heap.size ([str ((s.drop 0).take (gg-0)),.slice none 0 0]) 66).trans aB aH
 replace he:e=aS (aR _ x _) []:=he
 subst he
 refine W ?_
 exact dn ((cD w.heap.size ([str ((s.drop 0).take (gg-0)),.slice none 0 0]) 66).refl _) rfl
 refine bV ?_ ?_
 intro x vs w3 e aH hd he
 have aY:(vs 0=(str s))∧(vs 1=(.int .i64 (gg:Int))):=hd
 obtain⟨d0,d1⟩:=aY
 replace aH:=(cD w.heap.size ([str ((s.drop 0).take (gg-0)),.slice none 0 0]) 66).trans aB aH
 replace he:e=aS (aR _ x _) [(27,vs 0),(28,vs 1)]:=he
 rw[d0,d1] at he
 subst he
 refine Cd iG rfl rfl rfl (.inl ⟨rfl,rfl⟩) (.inr ⟨_,rfl⟩) om om<|aV ?_
 exact dn ((cD w.heap.size ([str ((s.drop 0).take (gg-0)),.slice none 0 0]) 66).refl _) rfl
 refine bV ?_ ?_
 intro x vs w3 e aH hd he
 have d2:vs 2=(str ((s.drop 0).take (gg-0))):=hd
 replace aH:=(cD w.heap.size ([str ((s.drop 0).take (gg-0)),.slice none 0 0]) 66).trans aB aH
 replace he:e=aS (aR _ x _) [(29,vs 2)]:=he
 rw[d2] at he
 subst he
 refine iT (SN _ _) rfl rfl<|aV ?_
 exact dn ((cD w.heap.size ([str ((s.drop 0).take (gg-0)),.slice none 0 0]) 66).refl _) rfl
 refine bV ?_ ?_
 intro x vs w3 e aH hd he
 replace aH:=(cD w.heap.size ([str ((s.drop 0).take (gg-0)),.slice none 0 0]) 66).trans aB aH
 replace he:e=aS (aR _ x _) []:=he
 subst he
 refine W ?_
 exact dn ((cD w.heap.size ([str ((s.drop 0).take (gg-0)),.slice none 0 0]) 66).refl _) rfl
 refine bV ?_ ?_
 intro x vs w3 e aH hd he
 replace aH:=(cD w.heap.size ([str ((s.drop 0).take (gg-0)),.slice none 0 0]) 66).trans aB aH
 replace he:e=aS (aR _ x _) []:=he
 subst he
 refine W ?_
 exact dn ((cD w.heap.size ([str ((s.drop 0).take (gg-0)),.slice none 0 0]) 66).refl _) rfl
 refine bV ?_ ?_
 intro x vs w3 e aH hd he
 have aY:(vs 4=(str s))∧(vs 5=(.int .i64 (gg:Int))):=hd
 obtain⟨d4,d5⟩:=aY
 replace aH:=(cD w.heap.size ([str ((s.drop 0).take (gg-0)),.slice none 0 0]) 66).trans aB aH
 replace he:e=aS (aR _ x _) [(31,vs 4),(32,vs 5)]:=he
 rw[d4,d5] at he
 subst he
 refine Cd iG rfl rfl rfl (.inr ⟨_,rfl⟩) (.inl ⟨rfl,rfl⟩) om om<|aV ?_
 exact dn ((cD w.heap.size ([str ((s.drop 0).take (gg-0)),.slice none 0 0]) 66).refl _) rfl
 refine bV ?_ ?_
 intro x vs w3 e aH hd he
 replace aH:=(cD w.heap.size ([str ((s.drop 0).take (gg-0)),.slice none 0 0]) 66).trans aB aH
 replace he:e=aS (aR _ x _) []:=he
 subst he
 refine W ?_
 exact dn ((cD w.heap.size ([str ((s.drop 0).take (gg-0)),.slice none 0 0]) 66).refl _) rfl
 refine bV ?_ ?_
 intro x vs w3 e aH hd he
 have d7:vs 7=(.int .i64 (gg:Int)):=hd
 replace aH:=(cD w.heap.size ([str ((s.drop 0).take (gg-0)),.slice none 0 0]) 66).trans aB aH
 replace he:e=aS (aR _ x _) [(34,vs 7)]:=he
 rw[d7] at he
 subst he
 refine W ?_
 exact dn ((cD w.heap.size ([str ((s.drop 0).take (gg-0)),.slice none 0 0]) 66).refl _) rfl
 refine bV ?_ ?_
 intro x vs w3 e aH hd he
 have d3:vs 3=(.agg #[str ((s.drop 0).take (gg-0)),.slice none 0 0]):=hd
 replace aH:=(cD w.heap.size ([str ((s.drop 0).take (gg-0)),.slice none 0 0]) 66).trans aB aH
 obtain⟨us,vI,vJ⟩:=aH.2.2 ⟨_,(by rfl),aF⟩
 replace he:e=aS (aR _ x _) [(30,vs 3)]:=he
 rw[d3] at he
 subst he
 refine cu dD rfl rfl rfl vJ (by rw[vI];rfl) λw4 aN hb ga=>W ?_
 exact dn ⟨aN,λ_=>hb,λ_=>⟨_,rfl,hb⟩⟩ hb
 refine bV ?_ ?_
 intro x vs w3 e aH hd he
 have d6:vs 6=(str ((s.drop gg).take (s.length-gg))):=hd
 replace aH:=(cD w.heap.size ([str ((s.drop 0).take (gg-0)),.slice none 0 0]) 66).trans aB aH
 replace he:e=aS (aR _ x _) [(33,vs 6)]:=he
 rw[d6] at he
 subst he
 refine W ?_
 exact dn ((cD w.heap.size ([str ((s.drop 0).take (gg-0)),.slice none 0 0]) 66).refl _) rfl
 refine bV ?_ ?_
 intro x vs w3 e aH hd he
 have d8:vs 8=(.bool (decide ((0:Int)<(gg:Int)))):=hd
 replace aH:=(cD w.heap.size ([str ((s.drop 0).take (gg-0)),.slice none 0 0]) 66).trans aB aH
 replace he:e=aS (aR _ x _) [(35,vs 8)]:=he
 rw[d8] at he
 subst he
 refine W ?_
 exact dn ((cD w.heap.size ([str ((s.drop 0).take (gg-0)),.slice none 0 0]) 66).refl _) rfl
 exact trivial
 intro x vs qQ Ds bT
 have d0:vs 0=(str s):=bT 0 de
 have d1:vs 1=(.int .i64 (gg:Int)):=bT 1 de
 have d2:vs 2=(str ((s.drop 0).take (gg-0))):=bT 2 de
 have d3:vs 3=(.agg #[str ((s.drop 0).take (gg-0)),.slice none 0 0]):=bT 3 de
 have d4:vs 4=(str s):=bT 4 de
 have d5:vs 5=(.int .i64 (gg:Int)):=bT 5 de
 have d6:vs 6=(str ((s.drop gg).take (s.length-gg))):=bT 6 de
 have d7:vs 7=(.int .i64 (gg:Int)):=bT 7 de
 have d8:vs 8=(.bool (decide ((0:Int)<(gg:Int)))):=bT 8 de
 have d9:aL qQ w.heap.size ([str ((s.drop 0).take (gg-0)),.slice none 0 0]).toArray 66:=bT 9 de
 have d10:vs 10=(str ((s.drop gg).take (s.length-gg))):=bT 10 de
 have d11:vs 11=(.bool (decide ((0:Int)<(gg:Int)))):=bT 11 de
 have hK:=hK.aD Ds.1 sx
 have aF:=d9
 change OW _ _ _ _ [] (aS (aR _ x _) (zZ 27 [vs 0,vs 1,vs 2,vs 3,vs 4,vs 5,vs 6,vs 7,vs 8]++[(100009,vs 9),(5,vs 10),(6,vs 11)])) _
 rw[d0,d1,d2,d3,d4,d5,d6,d7,d8,d10,d11]
 refine aV<|kj<|⟨[_,_,_],⟨fB oz dD rfl aF rfl,rfl,rfl⟩,⟨.mk (s.takeWhile eV) [],_,s.dropWhile eV,_,by rw[List.drop_zero,Nat.sub_zero,GZ,I4,MC,Gb];rfl,km nM,?_⟩,hK⟩
 unfold Ax
 rw[aa4 wT]
 by_cases hz:s.takeWhile eV=[]
 rw[iP hz];exact .inr ⟨rfl,by simp[hz]⟩
 rw[iN hz];refine .inl ⟨rfl,dT ?_⟩;have:=List.length_pos_iff.2 hz;omega
 obtain⟨r0,rfl⟩:=aa2 h1
 refine W ?_
 refine zc rfl (λh4=>?_) (λh4=>?_)
 have P9:d=0:=by omega
 refine zr<|iT (MR _) rfl rfl<|cu dD rfl rfl rfl aF rfl λw2 az aF dK=>?_
 have hK:=hK.aD az sx
 refine W ?_
 exact⟨[_,_,_],⟨fB oz dD rfl aF rfl,rfl,rfl⟩,⟨.mk [] [],_,[],_,rfl,km nM,.inr ⟨by rw[P9];simp[eE],rfl⟩⟩,hK⟩
 have aY:∃d',d=d'+1:=⟨d-1,om⟩
 obtain⟨d',rfl⟩:=aY
 refine gX<|zr<|da dD rfl rfl rfl λw2 az cz dK=>?_
 have hK:=hK.grow;have hK:=hK.ext az;have aF:=aF.grow;have aF:=aF.ext az
 refine W ?_
 have atc:=aF.lt
 refine eO (λq:List aq×aj×Option Addr×Nat×Option Nat=>[(0,str q.2.1),(1,.int .i64 ((60:Int)-((d'+1:Nat):Int))),(4,.pointer (some ⟨w.heap.size,0,none⟩)),(8,.pointer (some ⟨w1.heap.size,0,none⟩))]) (λq w'=>ak [] w w'∧aL w' w.heap.size [str [],.slice none 0 0].toArray 66∧aL w' w1.heap.size [str [],.slice q.2.2.1 q.1.length q.2.2.2.1].toArray 66∧Gr w.heap.size (w.heap.size::w1.heap.size::L) w' 66 2 (.slice q.2.2.1 q.1.length q.2.2.2.1) q.2.2.2.2 (cQ q.1)∧0<q.2.1.length∧q.2.1.length+q.1.length<=12000∧mN (d'+1) r0=(mN (d'+1) (q.2.1.drop 1)).map (λp=>(q.1++p.1,p.2))) (λq=>q.2.1.length) (([],40::r0,none,0,none)) (⟨rfl,rfl,rfl,rfl⟩) (⟨hK,aF,cz,Gr.nil (by intro x hx;simp at hx;rcases hx with rfl|rfl|hx;omega;omega;have:=hL x hx;omega) om,sm,by simp at hs⊢;omega,sm⟩) λgg w3 e3 hI=>?_
 obtain⟨acc,sc,a,cc,g⟩:=gg
 dsimp only at hI⊢
 obtain⟨hK,aF,cz,hO,UQ,atd,sW⟩:=hI
 have fU:=hK.size
 have QN:=aF.lt
 have ate:=cz.lt
 refine tI<|zr<|zm<|Cd (l:=1) iG rfl rfl rfl (.inr ⟨_,rfl⟩) (.inl ⟨rfl,rfl⟩) om om<|zm<|o3 rfl rfl rfl rfl rfl (show IntKind.i64.wrap ((60:Int)-((d'+1:Nat):Int)+1)=(60:Int)-(d':Int) by rw[wrap_i64 _ om om];omega) ?_
 rw[MC]
 refine aA (ih d' om (sc.drop 1) (g.toList++(w.heap.size::w1.heap.size::L)) w3 om so hO.all) ?_
 rintro v4 w4 ⟨kF,aN⟩
 have fg:=aN.size
 refine gH aN hK aF cz hO λhK aF cz hO=>?_
 obtain⟨t,tv,r,ok,rfl,ht,hm⟩:=kF
 obtain⟨pa,pn,pc,rfl,dZ,aQ⟩:=cS ht
 subst dZ
 refine W ?_
 refine da dD rfl rfl rfl λw5 aJ dj iq=>?_
 have hK:=hK.grow;have hK:=hK.ext aJ;have aF:=aF.grow;have aF:=aF.ext aJ;have cz:=cz.grow;have cz:=cz.ext aJ;have hO:=hO.alloc aJ iq;have ht:=ht.grow;have ht:=ht.ext aJ
 refine cu dD rfl rfl rfl dj rfl λw6 bB dj jR=>?_
 have hK:=hK.aD bB sx;have aF:=aF.aD bB sx;have cz:=cz.aD bB sx;have hO:=hO.aD bB sx;have ht:=ht.aD bB sx
 refine W ?_
 apply oP 3 50 53 rfl oQ
 intro _
 exact oQ
 intro xx
 refine WZ ?_
 apply oP 9 54 63 rfl oQ
 intro h6
 simp at h6
 have oI:=List.length_pos_iff.2 h6.2
 refine zm<|kl (i:=0) iG rfl rfl rfl rfl (jt oI)<|WZ ?_
 apply oB 4 58 62 rfl oQ
 intro _
 refine zm<|kl (i:=0) iG rfl rfl rfl rfl (jt oI) ?_
 exact oQ
 intro xx
 exact oQ
 intro xx
 refine aV<|zc rfl (λh8=>?_) (λh8=>?_)
 have hR:eE (d'+1) (40::r0)=none:=by rw[Ee,sW,aa7 hm h8];rfl
 refine zr<|iT (MR _) rfl rfl<|cu dD rfl rfl rfl aF rfl λw7 bJ aF l4=>?_
 have hK:=hK.aD bJ sx
 refine W ?_
 exact⟨[_,_,_],⟨fB oz dD rfl aF rfl,rfl,rfl⟩,⟨.mk [] [],_,[],_,rfl,km nM,.inr ⟨hR,rfl⟩⟩,hK⟩
 obtain⟨o4,oI,fG⟩:=aa8 hm h8
 refine W ?_
 refine fo lG dD rfl rfl λw7 bJ aoF l4=>ld bJ hK aF cz hO ht λhK aF cz hO ht=>?_
 refine Gj lG dD rfl rfl rfl rfl rfl rfl hO aoF ht.Mi om λa2 mo g2 w8 fW aU=>?_
 have df:=aU.size
 have hK:=hO.since hK aU
 have aF:=aF.aD aU (hO.vg sm);have cz:=cz.aD aU (hO.vg sm)
 refine zf Gy rfl<|gF GA rfl rfl rfl cz rfl λw9 aC cz dv=>?_
 have hK:=hK.aD aC sx;have aF:=aF.aD aC sx;have fW:=fW.aD aC sx
 refine W ?_
 refine kl (i:=0) iG rfl rfl rfl rfl (jt o4)<|wv rfl rfl rfl rfl rfl<|aV<|zc rfl (λh9=>?_) (λh9=>?_)
 have Be:r.getD 0 0=41:=UInt8.toNat_inj.1 (by have CM:(41:UInt8).toNat=41:=rfl;rw[CM];omega)
 have hR:eE (d'+1) (40::r0)=some (.mk [] (acc++[t]),r.drop 1):=by rw[Ee,sW,fG,iP Be];rfl
 refine WZ ?_
 refine sE du (cD w.heap.size ([str [],.slice a2 (acc++[t]).length mo]) 66) 6 [75,76,77,100003,5,6] [75,76,77,100003,5,6] [[],[],[1],[0],[2],[]] [λv _=>v=(.agg #[str [],.slice a2 (acc++[t]).length mo]),λv _=>v=(str r),λv _=>v=(str ((r.drop 1).take (r.length-1))),λ_ ww=>aL ww w.heap.size ([str [],.slice a2 (acc++[t]).length mo]).toArray 66,λv _=>v=(str ((r.drop 1).take (r.length-1))),λv _=>v=(.bool true)] de (cR (cR (cR (Ea (cR (cR trivial)))))) (λwd aB=>?_) ?_
 refine bV ?_ ?_
 intro x vs cB e cA hd he
 replace cA:=(cD w.heap.size ([str [],.slice a2 (acc++[t]).length mo]) 66).trans aB cA
 have cz:=cz.aD cA.1 sx
 replace he:e=aS (aR _ x _) []:=he
 subst he
 refine W ?_
 exact dn ((cD w.heap.size ([str [],.slice a2 (acc++[t]).length mo]) 66).refl _) rfl
 refine bV ?_ ?_
 intro x vs cB e cA hd he
 replace cA:=(cD w.heap.size ([str [],.slice a2 (acc++[t]).length mo]) 66).trans aB cA
 replace he:e=aS (aR _ x _) []:=he
 subst he
 refine W ?_
 exact dn ((cD w.heap.size ([str [],.slice a2 (acc++[t]).length mo]) 66).refl _) rfl
 refine bV ?_ ?_
 intro x vs cB e cA hd he
 have d1:vs 1=(str r):=hd
 replace cA:=(cD w.heap.size ([str [],.slice a2 (acc++[t]).length mo]) 66).trans aB cA
 replace he:e=aS (aR _ x _) [(76,vs 1)]:=he
 rw[d1] at he
 subst he
 refine Cd (l:=1) iG rfl rfl rfl (.inr ⟨_,rfl⟩) (.inl ⟨rfl,rfl⟩) om om<|aV ?_
 exact dn ((cD w.heap.size ([str [],.slice a2 (acc++[t]).length mo]) 66).refl _) rfl
 refine bV ?_ ?_
 intro x vs cB e cA hd he
 have d0:vs 0=(.agg #[str [],.slice a2 (acc++[t]).length mo]):=hd
 replace cA:=(cD w.heap.size ([str [],.slice a2 (acc++[t]).length mo]) 66).trans aB cA
 obtain⟨us,vI,vJ⟩:=cA.2.2 ⟨_,(by rfl),aF⟩
 replace he:e=aS (aR _ x _) [(75,vs 0)]:=he
 rw[d0] at he
 subst he
 refine cu dD rfl rfl rfl vJ (by rw[vI];rfl) λeC dh hb uh=>W ?_
 exact dn ⟨dh,λ_=>hb,λ_=>⟨_,rfl,hb⟩⟩ hb
 refine bV ?_ ?_
 intro x vs cB e cA hd he
 have d2:vs 2=(str ((r.drop 1).take (r.length-1))):=hd
 replace cA:=(cD w.heap.size ([str [],.slice a2 (acc++[t]).length mo]) 66).trans aB cA
 replace he:e=aS (aR _ x _) [(77,vs 2)]:=he
 rw[d2] at he
 subst he
 refine W ?_
 exact dn ((cD w.heap.size ([str [],.slice a2 (acc++[t]).length mo]) 66).refl _) rfl
 refine bV ?_ ?_
 intro x vs cB e cA hd he
 replace cA:=(cD w.heap.size ([str [],.slice a2 (acc++[t]).length mo]) 66).trans aB cA
 replace he:e=aS (aR _ x _) []:=he
 subst he
 refine W ?_
 exact dn ((cD w.heap.size ([str [],.slice a2 (acc++[t]).length mo]) 66).refl _) rfl
 exact trivial
 intro x vs og iE bT
 have d0:vs 0=(.agg #[str [],.slice a2 (acc++[t]).length mo]):=bT 0 de
 have d1:vs 1=(str r):=bT 1 de
 have d2:vs 2=(str ((r.drop 1).take (r.length-1))):=bT 2 de
 have d3:aL og w.heap.size ([str [],.slice a2 (acc++[t]).length mo]).toArray 66:=bT 3 de
 have d4:vs 4=(str ((r.drop 1).take (r.length-1))):=bT 4 de
 have d5:vs 5=(.bool true):=bT 5 de
 have hK:=hK.aD iE.1 sx;have fW:=fW.aD iE.1 sx
 have aF:=d3
 change OW _ _ _ _ [] (aS (aR _ x _) (zZ 75 [vs 0,vs 1,vs 2]++[(100003,vs 3),(5,vs 4),(6,vs 5)])) _
 rw[d0,d1,d2,d4,d5]
 refine W ?_
 exact⟨[_,_,_],⟨fB oz dD rfl aF rfl,rfl,rfl⟩,⟨.mk [] (acc++[t]),_,r.drop 1,_,by rw[MC];rfl,km (fW.trees.fV (λx hx=>by simp[hx])),.inl ⟨hR,rfl⟩⟩,hK⟩
 have Be:r.getD 0 0≠41:=λh=>h9 (by rw[h];rfl)
 refine WZ ?_
 exact⟨(acc++[t],r,a2,mo,g2),⟨rfl,rfl,rfl,rfl⟩,⟨hK,aF,cz,fW.fV (λx hx=>mK _ hx),o4,by simp at oI⊢;omega,by rw[sW,fG,iN Be,map_append]⟩,by simp at oI;dsimp only;omega⟩
end Go.Proofs.YthbhobaiopccaaaGreatDoor
