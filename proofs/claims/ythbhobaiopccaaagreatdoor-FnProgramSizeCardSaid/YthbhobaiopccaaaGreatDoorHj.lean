/- Lemmas for the law FnProgramSize, no statement of their own: no conditions. -/
import Derived.Test.YthbhobaiopccaaaGreatDoorHi
import Derived.Lib.OthersKept
set_option maxHeartbeats 4000000
set_option linter.unusedVariables false
set_option linter.unusedSimpArgs false
namespace Go.Proofs.YthbhobaiopccaaaGreatDoor
open Go
variable {L:List Nat} {w w' w0:World} {B E b bytes g i k off t:Nat} {u v z:Value} {ps:List dw} {xs:List Value} {l:ai}
theorem als {n c:Nat} {ts:List aq} (h:eM L w (.slice (some ⟨b,off,none⟩) n c) ts) (k:Nat) (p:Prop) (hp:p->k<ts.length):
  ∃qa qn qc,Ip p w b (off+k*2) [str (nth ts k).aw,.slice qa qn qc]∧Iq p L w (.slice qa qn qc) (nth ts k).ak:=by
 by_cases h2:p
 ·obtain⟨b',off',qa,qn,qc,fH,hq,hqn,hqp⟩:=iJ h (gh (hp h2))
  cases fH
  exact⟨qa,qn,qc,λ_=>hq,λ_=>hqp⟩
 ·exact⟨none,0,0,λhh=>absurd hh h2,λhh=>absurd hh h2⟩
theorem Xg (ts:List aq) (k i:Nat):nth (ts.drop k) i=nth ts (i+k):=by
 simp[nth,List.getD,List.getElem?_drop,Nat.add_comm]
theorem alv (ts:List aq) (f:aq->Bool):(!ts.any λu=>!f u)=ts.all f:=by
 induction ts with
 |nil=>rfl
 |cons t r ih=>simp only[List.any_cons,List.all_cons,Bool.not_or,Bool.not_not,ih]
theorem Ph:∀m,Xf m:=by
 intro m
 induction m with
 |zero=>intro t h;have:=wj t;omega
 |succ m ih=>
  intro t hm rH cm hidden v L w hv
  have cO:=hv
  obtain⟨a,n,c,rfl,hn,aP⟩:=cU hv
  have hK:=aj.refl [] w
  have ob:=wj t
  refine bS [.tmp 6] 53 Tryz.func136 rfl aaY rfl rfl ?_
  refine zr<|eH rfl λw1 aI cQ dk=>cN aI hK aP cO λhK aP cO=>?_
  refine K3 rfl rfl rfl λw2 az aG dC=>ie az hK aP cO cQ λhK aP cO cQ=>?_
  refine K3 rfl rfl rfl λw3 aH cg gJ=>la aH hK aP cO cQ aG λhK aP cO cQ aG=>?_
  refine W ?_
  refine aA (Pg t _ L w3 cO) ?_
  rintro _ w4 ⟨rfl,aO⟩
  have fE:=aO.size
  refine tS aO hK aP cO cQ aG cg λhK aP cO cQ aG cg=>?_
  refine aZ<|zc rfl (λh1=>?_) (λh1=>?_)
  have ha:t.aw≠[]:=λh=>by have:=cm.pos h;omega
  refine WZ ?_
  apply oP 7 12 19 rfl oQ
  intro _
  refine WZ ?_
  apply oB 4 14 18 rfl oQ
  intro _
  refine WZ ?_
  exact oQ
  intro xx
  exact oQ
  intro xx
  refine WZ ?_
  apply oP 7 20 27 rfl oQ
  intro _
  refine zl IG rfl (cg.at rfl)<|zm<|Fw (t:=22) (b:=false) rfl ?_
  exact oQ
  intro xx
  refine W ?_
  exact⟨_,rfl,show Value.bool _=Value.bool _ from congrArg _ (by rw[QV ha,Bool.or_false]),hK⟩
  have j8:0<t.ak.length:=by omega
  have ha:t.aw=[]:=Classical.byContradiction (λh=>by have:=cm.leaf h;rw[this] at j8;exact absurd j8 de)
  have mz:=gh j8
  have hh:cw t=(nth t.ak 0).aw:=FP ha mz
  refine W ?_
  refine aA (Dy t cm _ L w4 cO) ?_
  rintro _ w5 ⟨rfl,aN⟩
  have l3:=aN.size
  refine la aN hK aP cQ aG cg λhK aP cQ aG cg=>?_
  obtain⟨b,off,pa,pn,pc,rfl,et,eP,fM⟩:=iJ aP mz
  refine W ?_
  refine zc rfl (λh5=>?_) (λh5=>?_)
  have he:(nth t.ak 0).aw=[101]:=hh.symm.trans h5
  have cg:aJ w5 w2.heap.size #[.bool false] 4:=cg
  obtain⟨qa,qn,qc,jl,Pj⟩:=als aP 1 ((n:Int)=2) (λh=>om)
  refine jL<|D8 [32,33,34,35,36,37,38,39,40,41,42,43,6] [(6,.bool (decide ((n:Int)=2)&&fa true (nth t.ak 1)))] ?_ ?_
  rcases bE (decide ((n:Int)=2)) with iD|iD
  apply k8 dj 13 (rA 32 12++[6]) (rA 32 12++[6]) [[],[0],[1],[2],[3],[4],[4,5],[4,6],[4,7],[4],[4,8,9],[4,10],[11]] [It.v _,It.v _,It.v _,It.v _,It.v (.bool true),It.v _,It.v _,It.v _,It.v _,It.v _,It.v _,It.v _,It.v _] de rfl
  intro wd aC
  refine VA ?_
  refine vc (λx w6 bN=>?_) ?_
  refine WZ ?_
  exact pv (by exact congrArg Value.bool iD)
  refine VA ?_
  refine vk aC (λx w6 bN=>?_) ?_
  have hg:=iD
  refine zi (i:=1) sv fg rfl rfl (by have:=of_decide_eq_true hg;omega) ?_
  exact pv
  refine vk aC (λx w6 bN=>?_) ?_
  have jl:=jl.ext bN
  have hg:=iD
  refine zL tJ fg rfl (jl (of_decide_eq_true hg)) rfl ?_
  exact pv
  refine VA ?_
  refine vk aC (λx w6 bN=>?_) ?_
  have Pj:=Pj.ext bN
  have hg:=iD
  refine aA (ih (nth t.ak 1) (by have:=of_decide_eq_true hg;have:=kX (t:=t) (i:=1) om;omega) (by have:=of_decide_eq_true hg;have:=kX (t:=t) (i:=1) om;omega) (cm.nth (by have:=of_decide_eq_true hg;omega)) true _ L w6 (kV (Pj (of_decide_eq_true hg)))) ?_
  rintro _ w7 ⟨rfl,bW⟩
  have lf:=bW.size
  exact pk bW
  exact VZ
  intro x qw rQ
  change OW _ _ _ _ [] (bo (bj _ x _) (zZ 32 [_,_,_,_,_,_,_,_,_,_,_,_]++[(6,_)])) _
  refine W ?_
  exact kE rQ
  apply k8 dj 13 (rA 32 12++[6]) (rA 32 12++[6]) [[],[0],[1],[2],[3],[4],[4,5],[4,6],[4,7],[4],[4,8,9],[4,10],[11]] [It.v _,It.v _,It.v _,It.v _,It.v (.bool false),It.v _,It.v _,It.v _,It.v _,It.v _,It.v _,It.v _,It.v _] de rfl
  intro wd aC
  refine VA ?_
  refine vc (λx w6 bN=>?_) ?_
  refine WZ ?_
  exact pv (by exact congrArg Value.bool iD)
  exact VZ
  intro x qw rQ
  change OW _ _ _ _ [] (bo (bj _ x _) (zZ 32 [_,_,_,_,_,_,_,_,_,_,_,_]++[(6,_)])) _
  refine W ?_
  exact kE rQ
  intro x qw rQ
  have hK:=hK.ext rQ
  refine jZ<|⟨_,rfl,show Value.bool _=Value.bool _ from congrArg _ ?_,hK⟩
  rw[Lq ha j8 he]
  congr 1
  exact decide_eq_decide.2 om
  have dL:(nth t.ak 0).aw≠[101]:=λh=>h5 (hh.trans h)
  refine W ?_
  refine ix (λ_:Unit=>[(3,.pointer (some ⟨w.heap.size,0,none⟩)),(4,.pointer (some ⟨w1.heap.size,0,none⟩)),(5,.pointer (some ⟨w2.heap.size,0,none⟩)),(44,.bool (decide (cw t=[116])||decide (cw t=[99])))]) (λ_ w'=>w'=w5) ?_ ?_
  refine zc rfl (λh6=>?_) (λh6=>?_)
  refine WZ ?_
  exact⟨(),⟨rfl,rfl,rfl,congrArg Value.bool (zM h6)⟩,rfl⟩
  refine W ?_
  exact⟨(),⟨rfl,rfl,rfl,congrArg Value.bool (zN h6)⟩,rfl⟩
  intro gu w6 e6 hI
  obtain rfl:=hI
  refine zc rfl (λh7=>?_) (λh7=>?_)
  have tL:=zO h7
  rw[hh] at tL
  refine W ?_
  refine Fu (l:=1) sv fg rfl rfl rfl rfl om aP λBw aW=>?_
  have aW:eM L w6 Bw (t.ak.drop 1):=by rw[eM,Qq];exact aW
  refine Qx (vs:=[.pointer (some ⟨w1.heap.size,0,none⟩),.pointer (some ⟨w2.heap.size,0,none⟩)]) rfl rfl rfl<|aA (alq (t.ak.drop 1) (by rw[List.length_drop];omega) (λu=>!fa hidden u) 166 [.pointer (some ⟨w1.heap.size,0,none⟩),.pointer (some ⟨w2.heap.size,0,none⟩)] _ L w6 aW (λi hi u w' k hu=>by rw[List.length_drop] at hi;rw[Xg] at hu⊢;exact alr ih (nth t.ak (i+1)) (by have:=kX (t:=t) (i:=i+1) om;omega) (by have:=kX (t:=t) (i:=i+1) om;omega) (cm.nth om) hidden _ _ _ L _ hu (aG.ext k) (cg.ext k))) ?_
  rintro _ w7 ⟨rfl,bW⟩
  have lf:=bW.size
  have hK:=hK.ext bW
  refine W ?_
  exact⟨_,rfl,show Value.bool _=Value.bool _ from congrArg _ (by rw[Ls ha j8 tL,alv]),hK⟩
  have tL:=zP h7
  rw[hh] at tL
  refine W ?_
  exact⟨_,rfl,by rw[QW ha j8 dL tL];rfl,hK⟩
theorem Dz {a b:World} (h:aj [] w a) (k:RowKit.Below w.heap.size a b):aj [] w b:=
 ⟨k.os.trans h.os,k.tape.trans h.tape,k.output.trans h.output,Nat.le_trans h.size k.size,λi hi hl=>(k.block i hi).trans (h.block i hi hl)⟩
theorem alw (x y:Nat) (h:x*y<18446744073709551616) (hx:x<18446744073709551616) (hy:y<18446744073709551616) (w:World):
  bz Tryz.prog 172 [.int .u64 x,.int .u64 y] w λv w'=>v= .tuple #[.int .u64 0,.int .u64 ((x*y:Nat):Int)]∧w=w':=
 ⟨qL.mk' Tryz.func172 rfl abq,Calls.mono (Tryz.bits_Mul x y hx hy w) λ_ _ ⟨he,hw⟩=>⟨_,he,by rw[Nat.div_eq_of_lt h,Nat.mod_eq_of_lt h];rfl,hw.symm⟩⟩
theorem alx (B b n:Nat) (w:World) (hB:B<=b) (fI:aJ w b #[.pointer none,.slice none 0 0] 113) (ox:B<=w.heap.size) (hn:n<=281474976710656):
  bz Tryz.prog 173 [.pointer (some ⟨b,0,none⟩),.int .i64 n] w λv w'=>v= .tuple #[]∧Lib.IsBuilderF 113 5 B b (Lib.byteCells []) w'∧RowKit.Below B w w':=
 ⟨qL.mk' Tryz.func173 rfl abr,Calls.mono (Tryz.Builder_Grow_fresh B b n w hB fI ox hn) λ_ _ ⟨he,hb,hk⟩=>⟨_,he,rfl,.inr (Lib.BuilderAtF.of hb),hk⟩⟩
theorem Xh (B b:Nat) (l s:ai) (w:World) (h:Lib.IsBuilderF 113 5 B b (Lib.byteCells l) w) (hlen:l.length+s.length<=140737488355328) (ox:B<=w.heap.size):
  bz Tryz.prog 111 [.pointer (some ⟨b,0,none⟩),str s] w λv w'=>(∃u,v=u)∧Lib.IsBuilderF 113 5 B b (Lib.byteCells (l++s)) w'∧RowKit.Below B w w':=
 ⟨qL.mk' Tryz.func111 rfl RP,Calls.mono (Tryz.Builder_WriteString_f B b _ ⟨s.toArray⟩ w h (by rw[Lib.byteCells_length];simpa[ByteArray.size] using hlen) ox) λ_ _ ⟨he,hb,hk⟩=>⟨_,he,⟨_,rfl⟩,.inr (by have e1:Lib.byteCells (l++s)=Lib.byteCells l++Lib.strCells ⟨s.toArray⟩:=by{simp[Lib.byteCells,Lib.strCells]};rw[e1];exact hb),hk⟩⟩
theorem Pl (B b:Nat) (l:ai) (w:World) (h:Lib.IsBuilderF 113 5 B b (Lib.byteCells l) w):
  bz Tryz.prog 174 [.pointer (some ⟨b,0,none⟩)] w λv w'=>v= .int .i64 (l.length:Int)∧w=w':=
 ⟨qL.mk' Tryz.func174 rfl abt,Calls.mono (Tryz.Builder_Len_f B b _ w h) λ_ _ ⟨he,hw⟩=>⟨_,he,by rw[Lib.byteCells_length],hw.symm⟩⟩
theorem Xi (B b:Nat) (l:ai) (h0:l≠[]) (w:World) (h:Lib.IsBuilderF 113 5 B b (Lib.byteCells l) w):
  bz Tryz.prog 79 [.pointer (some ⟨b,0,none⟩)] w λv w'=>v=str l∧Lib.IsBuilderF 113 5 B b (Lib.byteCells l) w'∧RowKit.Below B w w':=
 ⟨qL.mk' Tryz.func79 rfl RU,Calls.mono (Tryz.Builder_String_f B b l w h h0) λ_ _ ⟨he,hb,hk⟩=>⟨_,he,rfl,hb,hk⟩⟩
theorem aly (c:Nat) (hc:c<=8192) (w:World):bz Tryz.prog 143 [str [115],.int .i64 (c:Int)] w λv w'=>v=str (List.replicate c 115)∧aj [] w w':=by
 have hK:=aj.refl [] w
 refine bS [.tmp 4] 125 Tryz.func143 rfl aa3 rfl rfl ?_
 refine W ?_
 refine zc rfl (λh1=>?_) (λh1=>?_)
 have et:c=0:=by omega
 refine W ?_
 exact⟨_,rfl,by rw[et];rfl,hK⟩
 refine W ?_
 refine zc rfl (λh2=>?_) (λh2=>?_)
 have bK:c=1:=by omega
 refine W ?_
 exact⟨_,rfl,by rw[bK];rfl,hK⟩
 refine W ?_
 refine zc rfl (λh3=>?_) (λh3=>?_)
 exfalso
 omega
 refine W ?_
 refine xL wo IF rfl rfl rfl (show IntKind.u64.wrap (([115]:ai).length:Int)=((1:Nat):Int) from by decide)<|zm<|xL wo IF rfl rfl rfl (show IntKind.u64.wrap (c:Int)=((c:Nat):Int) from by rw[wrap_u64 _ om om])<|aA (alw 1 c om om om _) ?_
 rintro _ _ ⟨rfl,rfl⟩
 refine zm<|zx (i:=0) rfl rfl<|zx (i:=1) rfl rfl<|zA<|zA<|aZ<|jL<|zr<|zm<|Fs rfl rfl rfl rfl rfl<|zm ?_
 apply BF 3 31 34 [31,32,33,34] (λw'=>w=w') rfl
 intro h4
 replace h4:=jk h4
 refine W ?_
 exact mg rfl rfl
 intro h4
 replace h4:=jk h4
 refine W ?_
 exact mg rfl rfl
 rintro xx _ rfl
 refine aZ<|zc rfl (λh5=>?_) (λh5=>?_)
 exfalso
 simp at h5
 omega
 refine gY<|zr<|zm<|xL IF wo rfl rfl rfl (show IntKind.i64.wrap ((1*c:Nat):Int)=(c:Int) from by rw[wrap_i64 _ om om];omega)<|W ?_
 refine zc rfl (λh6=>?_) (λh6=>?_)
 exact absurd h6 de
 refine W ?_
 refine j3 (i:=0) il rfl rfl rfl rfl (jf de)<|W ?_
 refine zc rfl (λh7=>?_) (λh7=>?_)
 exact absurd h7 de
 refine W ?_
 refine zc rfl (λh8=>?_) (λh8=>?_)
 exact absurd h8 de
 refine W ?_
 refine zc rfl (λh9=>?_) (λh9=>?_)
 exact absurd h9 de
 refine W ?_
 refine zc rfl (λfO=>?_) (λfO=>?_)
 exact absurd fO de
 refine W ?_
 refine zc rfl (λoU=>?_) (λoU=>?_)
 exact absurd oU de
 refine W ?_
 refine zc rfl (λkC=>?_) (λkC=>?_)
 exfalso
 omega
 refine gY<|zr<|dy LV rfl rfl rfl λw1 aI cW dk=>?_
 have hK:=hK.ext aI
 refine aZ<|zr<|zm<|aA (alx w.heap.size w.heap.size c w1 (lR _) cW om om) ?_
 rintro _ w2 ⟨rfl,hB,rr⟩
 have hK:=Dz hK rr
 refine aZ<|zr<|zm<|aA (Xh w.heap.size w.heap.size [] [115] w2 hB sm (by have:=hK.size;omega)) ?_
 rintro _ w3 ⟨_,hB,rr⟩
 have hK:=Dz hK rr
 refine W ?_
 refine eA (λk:Nat=>[(0,str [115]),(7,.int .i64 (c:Int)),(8,.int .i64 (c:Int)),(9,.pointer (some ⟨w.heap.size,0,none⟩))]) (λk w'=>aj [] w w'∧Lib.IsBuilderF 113 5 w.heap.size w.heap.size (Lib.byteCells (List.replicate k 115)) w'∧1<=k∧k<=c) (λk=>c-k) (1) (⟨rfl,rfl,rfl,rfl⟩) (⟨hK,hB,om,om⟩) λgg w4 e4 hI=>?_
 obtain⟨hK,hB,hk,kL⟩:=hI
 have fC:=hK.size
 refine jL<|zr<|aA (Pl _ _ _ _ hB) ?_
 rintro _ _ ⟨rfl,rfl⟩
 rw[List.length_replicate]
 refine W ?_
 refine zc rfl (λoV=>?_) (λoV=>?_)
 have dU:gg<c:=by omega
 refine W ?_
 refine aA (Pl _ _ _ _ hB) ?_
 rintro _ _ ⟨rfl,rfl⟩
 rw[List.length_replicate]
 refine W ?_
 refine aA (Pl _ _ _ _ hB) ?_
 rintro _ _ ⟨rfl,rfl⟩
 rw[List.length_replicate]
 refine zm<|Y5 rfl rfl rfl rfl rfl (show(if(c:Int)<(if(gg:Int)<(c:Int)-gg then(gg:Int) else(c:Int)-gg) then(c:Int) else(if(gg:Int)<(c:Int)-gg then(gg:Int) else(c:Int)-gg))=((min gg (c-gg):Nat):Int) from by repeat' split<;>omega)<|zA<|aZ<|kH<|aA (Xi _ _ _ (by intro h;have:=congrArg List.length h;simp at this;omega) w4 hB) ?_
 rintro _ w5 ⟨rfl,hB,rr⟩
 have hK:=Dz hK rr
 refine zm<|BE il rfl rfl rfl (.inl ⟨rfl,rfl⟩) (.inr ⟨_,rfl⟩) om (by rw[List.length_replicate];omega)<|aA (Xh w.heap.size w.heap.size _ _ w5 hB so (by have:=hK.size;omega)) ?_
 rintro _ w6 ⟨_,hB,rr⟩
 have hK:=Dz hK rr
 refine W ?_
 exact⟨gg+min gg (c-gg),⟨rfl,rfl,rfl,rfl⟩,⟨hK,by have e1:List.replicate gg 115++((List.replicate gg (115:UInt8)).drop 0).take (min gg (c-gg)-0)=List.replicate (gg+min gg (c-gg)) 115:=by{rw[List.drop_zero,Nat.sub_zero,List.take_replicate,List.replicate_append_replicate];congr 1;omega};rw[<-e1];exact hB,om,om⟩,om⟩
 have he:gg=c:=by omega
 refine W ?_
 refine aA (Xi _ _ _ (by intro h;have:=congrArg List.length h;simp at this;omega) w4 hB) ?_
 rintro _ w5 ⟨rfl,hB,rr⟩
 have hK:=Dz hK rr
 refine W ?_
 exact⟨_,rfl,by rw[<-he];rfl,hK⟩
theorem alz (h:ai) (n:Nat) (hn:n<=8000) (w:World):bz Tryz.prog 118 [str h,.int .i64 (n:Int)] w λr w'=>r=str (gi h n)∧aj [] w w':=by
 have hK:=aj.refl [] w
 refine bS [.tmp 4] 33 Tryz.func118 rfl aaM rfl rfl ?_
 refine W ?_
 refine zc rfl (λh1=>?_) (λh1=>?_)
 have et:=h1
 refine W ?_
 exact⟨_,rfl,show str _=str _ from congrArg _ (by rw[gi,iP et]),hK⟩
 have et:=h1
 refine W ?_
 refine ix (λ_:Unit=>[(1,.int .i64 (n:Int)),(5,str h),(8,.bool (decide (h=[109,111,118])||decide (h=[111,112,101,110])))]) (λ_ w'=>w'=w) ?_ ?_
 refine zc rfl (λh2=>?_) (λh2=>?_)
 refine WZ ?_
 exact⟨(),⟨rfl,rfl,congrArg Value.bool (zM h2)⟩,rfl⟩
 refine W ?_
 exact⟨(),⟨rfl,rfl,congrArg Value.bool (zN h2)⟩,rfl⟩
 intro gu w1 e1 hI
 obtain rfl:=hI
 refine zc rfl (λh3=>?_) (λh3=>?_)
 have bK:=zO h3
 refine W ?_
 exact⟨_,rfl,show str _=str _ from congrArg _ (by rw[gi,iN et,iP bK]),hK⟩
 have bK:=zP h3
 refine W ?_
 refine ix (λ_:Unit=>[(1,.int .i64 (n:Int)),(5,str h),(11,.bool (decide (h=[97,100,100])||decide (h=[115,117,98])||decide (h=[109,117,108])))]) (λ_ w'=>w'=w1) ?_ ?_
 refine zc rfl (λh4=>?_) (λh4=>?_)
 refine WZ ?_
 exact⟨(),⟨rfl,rfl,congrArg Value.bool (Q0 h4)⟩,rfl⟩
 have fx:=h4
 refine W ?_
 refine zc rfl (λh5=>?_) (λh5=>?_)
 refine WZ ?_
 exact⟨(),⟨rfl,rfl,congrArg Value.bool (Q1 fx h5)⟩,rfl⟩
 refine W ?_
 exact⟨(),⟨rfl,rfl,congrArg Value.bool (Q2 fx h5)⟩,rfl⟩
 intro gu w2 e2 hI
 obtain rfl:=hI
 refine zc rfl (λh6=>?_) (λh6=>?_)
 have bU:=Q3 h6
 refine W ?_
 exact⟨_,rfl,show str _=str _ from congrArg _ (by rw[gi,iN et,iN bK,iP bU]),hK⟩
 have bU:=Q4 h6
 refine W ?_
 refine zc rfl (λh7=>?_) (λh7=>?_)
 have dO:=h7
 refine W ?_
 refine Y6 rfl rfl rfl rfl (show(if(0:Int)<(n:Int)-2 then(n:Int)-2 else 0)=((n-2:Nat):Int) from by split<;>omega)<|aA (aly (n-2) om w2) ?_
 rintro _ w3 ⟨rfl,aH⟩
 have fm:=aH.size
 have hK:=hK.ext aH
 refine W ?_
 exact⟨_,rfl,show str _=str _ from congrArg _ (by rw[gi,iN et,iN bK,iN bU,iP dO]),hK⟩
 have dO:=h7
 refine W ?_
 refine zc rfl (λh8=>?_) (λh8=>?_)
 have jx:=h8
 refine W ?_
 exact⟨_,rfl,show str _=str _ from congrArg _ (by rw[gi,iN et,iN bK,iN bU,iN dO,iP jx]),hK⟩
 have jx:=h8
 refine W ?_
 refine zc rfl (λh9=>?_) (λh9=>?_)
 have j9:=h9
 refine W ?_
 exact⟨_,rfl,show str _=str _ from congrArg _ (by rw[gi,iN et,iN bK,iN bU,iN dO,iN jx,iP j9]),hK⟩
 have j9:=h9
 refine W ?_
 refine zc rfl (λfO=>?_) (λfO=>?_)
 have qq:=fO
 refine W ?_
 exact⟨_,rfl,show str _=str _ from congrArg _ (by rw[gi,iN et,iN bK,iN bU,iN dO,iN jx,iN j9,iP qq]),hK⟩
 have qq:=fO
 refine W ?_
 refine zc rfl (λoU=>?_) (λoU=>?_)
 have AI:=oU
 refine W ?_
 exact⟨_,rfl,show str _=str _ from congrArg _ (by rw[gi,iN et,iN bK,iN bU,iN dO,iN jx,iN j9,iN qq,iP AI]),hK⟩
 have AI:=oU
 refine W ?_
 refine ix (λ_:Unit=>[(5,str h),(30,.bool (decide (h=[106,117,109,112])||decide (h=[104,97,108,116])))]) (λ_ w'=>w'=w2) ?_ ?_
 refine zc rfl (λkC=>?_) (λkC=>?_)
 refine WZ ?_
 exact⟨(),⟨rfl,congrArg Value.bool (zM kC)⟩,rfl⟩
 refine W ?_
 exact⟨(),⟨rfl,congrArg Value.bool (zN kC)⟩,rfl⟩
 intro gu w3 e3 hI
 obtain rfl:=hI
 refine zc rfl (λoV=>?_) (λoV=>?_)
 have HU:=zO oV
 refine W ?_
 exact⟨_,rfl,show str _=str _ from congrArg _ (by rw[gi,iN et,iN bK,iN bU,iN dO,iN jx,iN j9,iN qq,iN AI,iP HU]),hK⟩
 have HU:=zP oV
 refine W ?_
 exact⟨_,rfl,show str _=str _ from congrArg _ (by rw[gi,iN et,iN bK,iN bU,iN dO,iN jx,iN j9,iN qq,iN AI,iN HU]),hK⟩
theorem Xj {ts:List aq} (h:eM L w v ts):∃a c,v= .slice a ts.length c:=by
 obtain⟨a,c,rfl,_⟩:=rC h
 exact⟨a,c,by rw[ia]⟩
theorem Xk (t:aq) (hs:t.size<=12001) (cm:WF t) (v:Value) (L:List Nat) (w:World) (hv:bB L w v t):
  bz Tryz.prog 98 [v] w λr w'=>r= .bool (nS t)∧aj [] w w':=by
 have cO:=hv
 obtain⟨a,n,c,rfl,hn,aP⟩:=cU hv
 have hK:=aj.refl [] w
 have hn8:=Z0 cm
 subst hn
 have hσ:=ZZ (cw t) t.ak.length
 refine bS [.tmp 2] 78 Tryz.func98 rfl acU rfl rfl ?_
 refine zr<|eH rfl λw1 aI aX dk=>cN aI hK aP cO λhK aP cO=>?_
 refine W ?_
 apply k8 dj 7 (rA 7 6++[3]) (rA 7 6++[3]) [[],[0],[],[2],[3],[1,4],[5]] [It.v _,It.v _,It.v _,It.v _,It.v _,It.v _,It.v (str (gi (cw t) t.ak.length))] de rfl
 intro wd aC
 refine VA ?_
 refine vk aC (λx w2 az=>?_) ?_
 have cO:=cO.ext az
 refine aA (Dy t cm _ L w2 cO) ?_
 rintro _ w3 ⟨rfl,aH⟩
 have fm:=aH.size
 exact pk aH
 refine VA ?_
 refine vk aC (λx w2 az=>?_) ?_
 refine aA (alz (cw t) t.ak.length om w2) ?_
 rintro _ w3 ⟨rfl,aH⟩
 have fm:=aH.size
 exact pk aH
 exact VZ
 intro x o5 gR
 refine cN gR hK aP aX λhK aP aX=>?_
 change OW _ _ _ _ [] (bo (bj _ x _) (zZ 7 [_,_,_,_,_,_]++[(3,_)])) _
 refine W ?_
 apply oP 8 15 23 rfl oQ
 intro h1
 refine WZ ?_
 exact oQ
 intro xx
 refine aZ<|zc rfl (λh2=>?_) (λh2=>?_)
 have hb:gi (cw t) t.ak.length=[]∨t.ak.length≠(gi (cw t) t.ak.length).length+1:=by simp only[oE,dE] at h2;rcases h2 with h|h;exact .inl h;exact .inr om
 refine W ?_
 exact⟨_,rfl,by rw[Ix hb];rfl,hK⟩
 have hb:¬(gi (cw t) t.ak.length=[]∨t.ak.length≠(gi (cw t) t.ak.length).length+1):=by simp only[Bool.or_eq_false_iff,decide_eq_false_iff_not] at h2;rintro(h|h);exact h2.1 h;exact h2.2 om
 have dL:=List.length_pos_iff.2 (λh=>hb (.inl h))
 have hl:t.ak.length=(gi (cw t) t.ak.length).length+1:=Classical.byContradiction λh=>hb (.inr h)
 obtain⟨b0,vv,_,_,_,rfl,_,_,_⟩:=iJ aP (gh (ps:=t.ak) (i:=0) om)
 refine W ?_
 refine Fu (l:=1) sv fg rfl rfl rfl rfl om aP λBw aW=>?_
 have aW:eM L o5 Bw (t.ak.drop 1):=by rw[eM,Qq];exact aW
 obtain⟨a1,c1,rfl⟩:=Xj aW
 have Fz:(t.ak.drop 1).length=t.ak.length-1:=List.length_drop
 generalize hσe:gi (cw t) t.ak.length=σ at*
 refine W ?_
 refine eA (λk:Nat=>[(1,.pointer (some ⟨w.heap.size,0,none⟩)),(3,str σ),(26,.slice a1 (t.ak.drop 1).length c1),(27,.int .i64 ((t.ak.drop 1).length:Int)),(28,.int .i64 (k:Int))]) (λk w'=>aj [] w w'∧aj [] o5 w'∧k<=(t.ak.drop 1).length∧∀i,i<k->gz ((σ.getD i 0).toNat:Int) (nth t.ak (i+1))=true) (λk=>(t.ak.drop 1).length-k) (0) (⟨rfl,rfl,rfl,rfl,rfl⟩) (⟨hK,aj.refl [] _,om,by intro i hi;omega⟩) λgg qx yt hI=>?_
 obtain⟨hK,aI,hk,cL⟩:=hI
 refine bI aI aW aX λaW aX=>?_
 have fC:=hK.size
 have aqZ:=aI.size
 have iq:=aX.lt
 refine W ?_
 refine zc rfl (λh3=>?_) (λh3=>?_)
 have hp:=gh (ps:=t.ak.drop 1) (i:=gg) om
 obtain⟨b1,eX,pa,pn,pc,rfl,jl,eP,fM⟩:=iJ aW hp
 rw[Xg] at jl eP fM
 have yc:=cm.nth (i:=gg+1) om
 have mZ:=kX (t:=t) (i:=gg+1) om
 have Ch:=xQ (nth t.ak (gg+1))
 refine W ?_
 refine dy fg rfl rfl rfl λoZ jy cg aq0=>?_
 have hK:=hK.grow;have hK:=hK.ext jy;have aI:=aI.grow;have aI:=aI.ext jy;have fM:=fM.grow;have fM:=fM.ext jy
 refine zA<|cJ fg rfl rfl rfl cg rfl λo6 iX cg alA=>?_
 have hK:=hK.aD iX sx;have aI:=aI.aD iX sx;have fM:=fM.aD iX sx
 refine W ?_
 have ma:=aj.refl [] o6
 refine j3 il rfl rfl rfl rfl (jf om)<|W ?_
 refine ix (λ_:Unit=>[(1,.pointer (some ⟨w.heap.size,0,none⟩)),(3,str σ),(5,.pointer (some ⟨qx.heap.size,0,none⟩)),(6,.bool false),(26,.slice (some ⟨b1,eX,none⟩) (t.ak.drop 1).length c1),(27,.int .i64 ((t.ak.drop 1).length:Int)),(28,.int .i64 (gg:Int)),(35,.int .u8 ((σ.getD gg 0).toNat:Int)),(36,.bool (decide (((σ.getD gg 0).toNat:Int)=100)||decide (((σ.getD gg 0).toNat:Int)=115)))]) (λ_ w'=>w'=o6) ?_ ?_
 refine zc rfl (λh4=>?_) (λh4=>?_)
 refine WZ ?_
 exact⟨(),⟨rfl,rfl,rfl,rfl,rfl,rfl,rfl,rfl,congrArg Value.bool (zM h4)⟩,rfl⟩
 refine W ?_
 exact⟨(),⟨rfl,rfl,rfl,rfl,rfl,rfl,rfl,rfl,congrArg Value.bool (zN h4)⟩,rfl⟩
 intro gu qw e45 hI
 obtain rfl:=hI
 refine ix (λ_:Unit=>[(1,.pointer (some ⟨w.heap.size,0,none⟩)),(3,str σ),(6,.bool (gz ((σ.getD gg 0).toNat:Int) (nth t.ak (gg+1)))),(26,.slice (some ⟨b1,eX,none⟩) (t.ak.drop 1).length c1),(27,.int .i64 ((t.ak.drop 1).length:Int)),(28,.int .i64 (gg:Int))]) (λ_ w'=>aj [] qw w') ?_ ?_
 refine zc rfl (λh5=>?_) (λh5=>?_)
 have hz:=zO h5
 refine W ?_
 refine aA (aln _ om qw) ?_
 rintro _ r5 ⟨rfl,p5⟩
 have KF:=p5.size
 have ma:=ma.ext p5
 refine W ?_
 exact⟨(),⟨rfl,rfl,by rw[gz,iP hz];rfl,rfl,rfl,rfl⟩,ma⟩
 have hz:=zP h5
 refine W ?_
 refine zc rfl (λh6=>?_) (λh6=>?_)
 refine W ?_
 refine aA (Pf _ om _) ?_
 rintro _ _ ⟨rfl,rfl⟩
 refine W ?_
 exact⟨(),⟨rfl,rfl,by rw[gz,iN hz,iP h6];rfl,rfl,rfl,rfl⟩,ma⟩
 have dk:=h6
 refine W ?_
 refine zc rfl (λh7=>?_) (λh7=>?_)
 have dC:=h7
 refine W ?_
 refine aA (Pf _ om _) ?_
 rintro _ _ ⟨rfl,rfl⟩
 refine WZ ?_
 apply oA 5 52 57 (aj [] qw) rfl oQ
 intro h8
 obtain⟨z,Bx⟩:=Option.isSome_iff_exists.1 h8
 have A5:z=(numeral (nth t.ak (gg+1)).aw).getD 0:=by rw[Bx];rfl
 refine W ?_
 refine aA (Xd _ Bx qw) ?_
 rintro _ r5 ⟨rfl,p5⟩
 have KF:=p5.size
 rw[A5]
 exact oQ
 intro xx r5 p5
 have ma:=ma.ext p5
 refine W ?_
 exact⟨(),⟨rfl,rfl,by rw[gz,iN hz,iN dk,iP dC];rfl,rfl,rfl,rfl⟩,ma⟩
 have dC:=h7
 refine W ?_
 refine zc rfl (λh9=>?_) (λh9=>?_)
 refine W ?_
 refine aA (Xe _ om _) ?_
 rintro _ _ ⟨rfl,rfl⟩
 refine W ?_
 exact⟨(),⟨rfl,rfl,by rw[gz,iN hz,iN dk,iN dC,iP h9];rfl,rfl,rfl,rfl⟩,ma⟩
 have gJ:=h9
 refine W ?_
 refine zc rfl (λfO=>?_) (λfO=>?_)
 have gQ:=fO
 refine W ?_
 refine aA (alo (nth t.ak (gg+1)) yc [101] 2 _ _ qw (kV fM)) ?_
 rintro _ r5 ⟨rfl,p5⟩
 have KF:=p5.size
 refine cN p5 fM cg ma λfM cg ma=>?_
 refine WZ ?_
 apply oA 3 67 70 (aj [] r5) rfl oQ
 intro oU
 refine W ?_
 refine aA (Ph (nth t.ak (gg+1)).size (nth t.ak (gg+1)) (lR _) om yc false _ _ r5 (kV fM)) ?_
 rintro _ wZ ⟨rfl,l6⟩
 have aq1:=l6.size
 exact oQ
 intro xx wZ l6
 have ma:=ma.ext l6
 refine W ?_
 exact⟨(),⟨rfl,rfl,by rw[gz,iN hz,iN dk,iN dC,iN gJ,iP gQ,show decide ((nth t.ak (gg+1)).ak.length=2)=decide (((nth t.ak (gg+1)).ak.length:Int)=2) from decide_eq_decide.2 om];rfl,rfl,rfl,rfl⟩,ma⟩
 have gQ:=fO
 refine W ?_
 refine zc rfl (λkC=>?_) (λkC=>?_)
 have ig:=kC
 refine W ?_
 refine aA (Ph (nth t.ak (gg+1)).size (nth t.ak (gg+1)) (lR _) om yc false _ _ qw (kV fM)) ?_
 rintro _ r5 ⟨rfl,p5⟩
 have KF:=p5.size
 have ma:=ma.ext p5
 refine W ?_
 exact⟨(),⟨rfl,rfl,by rw[gz,iN hz,iN dk,iN dC,iN gJ,iN gQ,iP ig];rfl,rfl,rfl,rfl⟩,ma⟩
 have ig:=kC
 refine WZ ?_
 exact⟨(),⟨rfl,rfl,by rw[gz,iN hz,iN dk,iN dC,iN gJ,iN gQ,iN ig];rfl,rfl,rfl,rfl⟩,ma⟩
 intro gu r5 e46 hI
 have hK:=hK.ext hI;have aI:=aI.ext hI
 refine W ?_
 refine zc rfl (λoV=>?_) (λoV=>?_)
 subst hσe
 have hq:gz (((gi (cw t) t.ak.length).getD gg 0).toNat:Int) (nth t.ak (gg+1))=false:=by simpa using oV
 refine W ?_
 exact⟨_,rfl,by rw[ZF om hq];rfl,hK⟩
 have hq:gz ((σ.getD gg 0).toNat:Int) (nth t.ak (gg+1))=true:=by simpa using oV
 refine W ?_
 exact⟨gg+1,⟨rfl,rfl,rfl,rfl,rfl⟩,⟨hK,aI,om,by intro i hi;rcases Nat.lt_or_ge i gg with h|h;exact cL i h;rw[show i=gg by omega];exact hq⟩,om⟩
 subst hσe
 have hq:=ZG hb (λi hi=>cL i om)
 refine W ?_
 exact⟨_,rfl,by rw[hq];rfl,hK⟩
theorem alB (t:aq) (cm:WF t) (v:Value) (L:List Nat) (w:World) (hv:bB L w v t):
  bz Tryz.prog 99 [v] w λr w'=>r= .bool (FU t)∧aj [] w w':=by
 have cO:=hv
 obtain⟨a,n,c,rfl,hn,aP⟩:=cU hv
 have hK:=aj.refl [] w
 refine bS [.tmp 2] 11 Tryz.func99 rfl acV rfl rfl ?_
 refine zr<|eH rfl λw1 aI aX dk=>bI aI hK cO λhK cO=>?_
 refine W ?_
 refine aA (Dy t cm _ L w1 cO) ?_
 rintro _ w2 ⟨rfl,az⟩
 have dm:=az.size
 refine cN az hK cO aX λhK cO aX=>?_
 refine WZ ?_
 apply oO 4 6 10 (aj [] w2) rfl oQ
 intro _
 refine W ?_
 refine aA (Dy t cm _ L w2 cO) ?_
 rintro _ w3 ⟨rfl,aH⟩
 have fm:=aH.size
 exact oQ
 intro xx w4 aO
 have hK:=hK.ext aO
 refine W ?_
 exact⟨_,rfl,rfl,hK⟩
def alC (L:List Nat) (d:Nat) (s:ai) (v:Value) (w:World):Prop:=
 ∃t tv r ok,v= .tuple #[tv,str r,.bool ok]∧bB L w tv t∧zS d s t r ok
theorem alD:∀(d:Nat) (s:ai) (L:List Nat) (w:World),d<=60->s.length<=12000->(∀x,x∈L->x<w.heap.size)->
  bz Tryz.prog 70 [str s,.int .i64 ((60:Int)-(d:Int))] w λv w'=>alC L d s v w'∧aj [] w w':=by
 intro d
 induction d using Nat.strongRecOn with
 |_ d ih=>
 intro s L w hd hs hL
 have hK:=aj.refl [] w
 refine kW [.cell 4 66,.tmp 5,.tmp 6] 78 Tryz.func70 rfl acD rfl rfl rfl ?_
 refine zr<|dy fg rfl rfl rfl λw1 aI aG dk=>?_
 have hK:=hK.grow;have hK:=hK.ext aI
 refine W ?_
 refine aA (alf _ _ _) ?_
 rintro _ _ ⟨rfl,rfl⟩
 refine kx rfl rfl rfl<|aZ<|zc rfl (λh1=>?_) (λh1=>?_)
 have wG:=h1
 refine W ?_
 refine eA (λk:Nat=>[(0,str s),(1,.int .i64 ((60:Int)-(d:Int))),(4,.pointer (some ⟨w.heap.size,0,none⟩)),(7,.int .i64 (k:Int))]) (λk w'=>w'=w1∧k<=(s.takeWhile eT).length) (λk=>s.length-k) (0) (⟨rfl,rfl,rfl,rfl⟩) (⟨rfl,om⟩) λgg w2 e2 hI=>?_
 obtain⟨rfl,Ef⟩:=hI
 have Gp:=Qp eT s gg Ef
 have fF:=FI eT s
 refine WZ ?_
 apply oB 5 19 24 rfl oQ
 intro h2
 refine zm<|zm<|j3 il rfl rfl rfl rfl (jf om)<|aA (alk _ _) ?_
 rintro _ _ ⟨rfl,rfl⟩
 exact oQ
 intro xx
 refine aZ<|zc rfl (λh3=>?_) (λh3=>?_)
 have dU:=Gp.2 (by simpa using h3)
 refine W ?_
 exact⟨gg+1,⟨rfl,rfl,rfl,rfl⟩,⟨rfl,om⟩,om⟩
 have Gq:gg=(s.takeWhile eT).length:=Nat.le_antisymm Ef (Nat.le_of_not_lt (λhh=>by have hx:=Gp.1 hh;rw[hx.2,Bool.and_true,decide_eq_false_iff_not] at h3;omega))
 refine WZ ?_
 refine zB dj (cj w.heap.size ([str ((s.drop 0).take (gg-0)),.slice none 0 0]) 66) 12 (rA 27 9++[100009,5,6]) (rA 27 9++[100009,5,6]) [[],[],[0,1],[2],[],[],[4,5],[],[7],[3],[6],[8]] [λv _=>v=(str s),λv _=>v=(.int .i64 (gg:Int)),λv _=>v=(str ((s.drop 0).take (gg-0))),λv _=>v=(.agg #[str ((s.drop 0).take (gg-0)),.slice none 0 0]),λv _=>v=(str s),λv _=>v=(.int .i64 (gg:Int)),λv _=>v=(str ((s.drop gg).take (s.length-gg))),λv _=>v=(.int .i64 (gg:Int)),λv _=>v=(.bool (decide ((0:Int)<(gg:Int)))),λ_ ww=>aJ ww w.heap.size ([str ((s.drop 0).take (gg-0)),.slice none 0 0]).toArray 66,λv _=>v=(str ((s.drop gg).take (s.length-gg))),λv _=>v=(.bool (decide ((0:Int)<(gg:Int))))] de (fu (fu (fu (fu (fu (fu (fu (fu (fu (DH (fu (fu trivial)))))))))))) (λwd aC=>?_) ?_
 refine eh ?_ ?_
 intro x vs w3 e aH hd he
 replace aH:=(cj w.heap.size ([str ((s.drop 0).take (gg-0)),.slice none 0 0]) 66).trans aC aH
 replace he:e=bo (bj _ x _) []:=he
 subst he
 refine W ?_
 exact dn ((cj w.heap.size ([str ((s.drop 0).take (gg-0)),.slice none 0 0]) 66).refl _) rfl
 refine eh ?_ ?_
 intro x vs w3 e aH hd he
 replace aH:=(cj w.heap.size ([str ((s.drop 0).take (gg-0)),.slice none 0 0]) 66).trans aC aH
 replace he:e=bo (bj _ x _) []:=he
 subst he
 refine W ?_
 exact dn ((cj w.heap.size ([str ((s.drop 0).take (gg-0)),.slice none 0 0]) 66).refl _) rfl
 refine eh ?_ ?_
 intro x vs w3 e aH hd he
 have aQ:(vs 0=(str s))∧(vs 1=(.int .i64 (gg:Int))):=hd
 obtain⟨d0,d1⟩:=aQ
 replace aH:=(cj w.heap.size ([str ((s.drop 0).take (gg-0)),.slice none 0 0]) 66).trans aC aH
 replace he:e=bo (bj _ x _) [(27,vs 0),(28,vs 1)]:=he
 rw[d0,d1] at he
 subst he
 refine BE il rfl rfl rfl (.inl ⟨rfl,rfl⟩) (.inr ⟨_,rfl⟩) om om<|aZ ?_
 exact dn ((cj w.heap.size ([str ((s.drop 0).take (gg-0)),.slice none 0 0]) 66).refl _) rfl
 refine eh ?_ ?_
 intro x vs w3 e aH hd he
 have d2:vs 2=(str ((s.drop 0).take (gg-0))):=hd
 replace aH:=(cj w.heap.size ([str ((s.drop 0).take (gg-0)),.slice none 0 0]) 66).trans aC aH
 replace he:e=bo (bj _ x _) [(29,vs 2)]:=he
 rw[d2] at he
 subst he
 refine js (ac2 _ _) rfl rfl<|aZ ?_
 exact dn ((cj w.heap.size ([str ((s.drop 0).take (gg-0)),.slice none 0 0]) 66).refl _) rfl
 refine eh ?_ ?_
 intro x vs w3 e aH hd he
 replace aH:=(cj w.heap.size ([str ((s.drop 0).take (gg-0)),.slice none 0 0]) 66).trans aC aH
 replace he:e=bo (bj _ x _) []:=he
 subst he
 refine W ?_
 exact dn ((cj w.heap.size ([str ((s.drop 0).take (gg-0)),.slice none 0 0]) 66).refl _) rfl
 refine eh ?_ ?_
 intro x vs w3 e aH hd he
 replace aH:=(cj w.heap.size ([str ((s.drop 0).take (gg-0)),.slice none 0 0]) 66).trans aC aH
 replace he:e=bo (bj _ x _) []:=he
 subst he
 refine W ?_
 exact dn ((cj w.heap.size ([str ((s.drop 0).take (gg-0)),.slice none 0 0]) 66).refl _) rfl
 refine eh ?_ ?_
 intro x vs w3 e aH hd he
 have aQ:(vs 4=(str s))∧(vs 5=(.int .i64 (gg:Int))):=hd
 obtain⟨d4,d5⟩:=aQ
 replace aH:=(cj w.heap.size ([str ((s.drop 0).take (gg-0)),.slice none 0 0]) 66).trans aC aH
 replace he:e=bo (bj _ x _) [(31,vs 4),(32,vs 5)]:=he
 rw[d4,d5] at he
 subst he
 refine BE il rfl rfl rfl (.inr ⟨_,rfl⟩) (.inl ⟨rfl,rfl⟩) om om<|aZ ?_
 exact dn ((cj w.heap.size ([str ((s.drop 0).take (gg-0)),.slice none 0 0]) 66).refl _) rfl
 refine eh ?_ ?_
 intro x vs w3 e aH hd he
 replace aH:=(cj w.heap.size ([str ((s.drop 0).take (gg-0)),.slice none 0 0]) 66).trans aC aH
 replace he:e=bo (bj _ x _) []:=he
 subst he
 refine W ?_
 exact dn ((cj w.heap.size ([str ((s.drop 0).take (gg-0)),.slice none 0 0]) 66).refl _) rfl
 refine eh ?_ ?_
 intro x vs w3 e aH hd he
 have d7:vs 7=(.int .i64 (gg:Int)):=hd
 replace aH:=(cj w.heap.size ([str ((s.drop 0).take (gg-0)),.slice none 0 0]) 66).trans aC aH
 replace he:e=bo (bj _ x _) [(34,vs 7)]:=he
 rw[d7] at he
 subst he
 refine W ?_
 exact dn ((cj w.heap.size ([str ((s.drop 0).take (gg-0)),.slice none 0 0]) 66).refl _) rfl
 refine eh ?_ ?_
 intro x vs w3 e aH hd he
 have d3:vs 3=(.agg #[str ((s.drop 0).take (gg-0)),.slice none 0 0]):=hd
 replace aH:=(cj w.heap.size ([str ((s.drop 0).take (gg-0)),.slice none 0 0]) 66).trans aC aH
 obtain⟨us,vz,vA⟩:=aH.2.2 ⟨_,(by rfl),aG⟩
 replace he:e=bo (bj _ x _) [(30,vs 3)]:=he
 rw[d3] at he
 subst he
 refine cJ fg rfl rfl rfl vA (by rw[vz];rfl) λw4 aO hb gQ=>W ?_
 exact dn ⟨aO,λ_=>hb,λ_=>⟨_,rfl,hb⟩⟩ hb
 refine eh ?_ ?_
 intro x vs w3 e aH hd he
 have d6:vs 6=(str ((s.drop gg).take (s.length-gg))):=hd
 replace aH:=(cj w.heap.size ([str ((s.drop 0).take (gg-0)),.slice none 0 0]) 66).trans aC aH
 replace he:e=bo (bj _ x _) [(33,vs 6)]:=he
 rw[d6] at he
 subst he
 refine W ?_
 exact dn ((cj w.heap.size ([str ((s.drop 0).take (gg-0)),.slice none 0 0]) 66).refl _) rfl
 refine eh ?_ ?_
 intro x vs w3 e aH hd he
 have d8:vs 8=(.bool (decide ((0:Int)<(gg:Int)))):=hd
 replace aH:=(cj w.heap.size ([str ((s.drop 0).take (gg-0)),.slice none 0 0]) 66).trans aC aH
 replace he:e=bo (bj _ x _) [(35,vs 8)]:=he
 rw[d8] at he
 subst he
 refine W ?_
 exact dn ((cj w.heap.size ([str ((s.drop 0).take (gg-0)),.slice none 0 0]) 66).refl _) rfl
 exact trivial
 intro x vs qx CT dP
 have d0:vs 0=(str s):=dP 0 de
 have d1:vs 1=(.int .i64 (gg:Int)):=dP 1 de
 have d2:vs 2=(str ((s.drop 0).take (gg-0))):=dP 2 de
 have d3:vs 3=(.agg #[str ((s.drop 0).take (gg-0)),.slice none 0 0]):=dP 3 de
 have d4:vs 4=(str s):=dP 4 de
 have d5:vs 5=(.int .i64 (gg:Int)):=dP 5 de
 have d6:vs 6=(str ((s.drop gg).take (s.length-gg))):=dP 6 de
 have d7:vs 7=(.int .i64 (gg:Int)):=dP 7 de
 have d8:vs 8=(.bool (decide ((0:Int)<(gg:Int)))):=dP 8 de
 have d9:aJ qx w.heap.size ([str ((s.drop 0).take (gg-0)),.slice none 0 0]).toArray 66:=dP 9 de
 have d10:vs 10=(str ((s.drop gg).take (s.length-gg))):=dP 10 de
 have d11:vs 11=(.bool (decide ((0:Int)<(gg:Int)))):=dP 11 de
 have hK:=hK.aD CT.1 sx
 have aG:=d9
 change OW _ _ _ _ [] (bo (bj _ x _) (zZ 27 [vs 0,vs 1,vs 2,vs 3,vs 4,vs 5,vs 6,vs 7,vs 8]++[(100009,vs 9),(5,vs 10),(6,vs 11)])) _
 rw[d0,d1,d2,d3,d4,d5,d6,d7,d8,d10,d11]
 refine aZ<|jZ<|⟨[_,_,_],⟨ga tJ fg rfl aG rfl,rfl,rfl⟩,⟨.mk (s.takeWhile eT) [],_,s.dropWhile eT,_,by rw[List.drop_zero,Nat.sub_zero,Gq,Il,LI,FH];rfl,kU oH,?_⟩,hK⟩
 unfold zS
 rw[aac wG]
 by_cases hz:s.takeWhile eT=[]
 rw[iP hz];exact .inr ⟨rfl,by simp[hz]⟩
 rw[iN hz];refine .inl ⟨rfl,dT ?_⟩;have:=List.length_pos_iff.2 hz;omega
 obtain⟨r0,rfl⟩:=aaa h1
 refine W ?_
 refine zc rfl (λh4=>?_) (λh4=>?_)
 have Pm:d=0:=by omega
 refine zr<|js (LQ _) rfl rfl<|cJ fg rfl rfl rfl aG rfl λw2 az aG dC=>?_
 have hK:=hK.aD az sx
 refine W ?_
 exact⟨[_,_,_],⟨ga tJ fg rfl aG rfl,rfl,rfl⟩,⟨.mk [] [],_,[],_,rfl,kU oH,.inr ⟨by rw[Pm];simp[ei],rfl⟩⟩,hK⟩
 have aQ:∃d',d=d'+1:=⟨d-1,om⟩
 obtain⟨d',rfl⟩:=aQ
 refine gY<|zr<|dy fg rfl rfl rfl λw2 az dh dC=>?_
 have hK:=hK.grow;have hK:=hK.ext az;have aG:=aG.grow;have aG:=aG.ext az
 refine W ?_
 have aq3:=aG.lt
 refine eA (λq:List aq×ai×Option Addr×Nat×Option Nat=>[(0,str q.2.1),(1,.int .i64 ((60:Int)-((d'+1:Nat):Int))),(4,.pointer (some ⟨w.heap.size,0,none⟩)),(8,.pointer (some ⟨w1.heap.size,0,none⟩))]) (λq w'=>aj [] w w'∧aJ w' w.heap.size [str [],.slice none 0 0].toArray 66∧aJ w' w1.heap.size [str [],.slice q.2.2.1 q.1.length q.2.2.2.1].toArray 66∧Gr w.heap.size (w.heap.size::w1.heap.size::L) w' 66 2 (.slice q.2.2.1 q.1.length q.2.2.2.1) q.2.2.2.2 (cT q.1)∧0<q.2.1.length∧q.2.1.length+q.1.length<=12000∧mq (d'+1) r0=(mq (d'+1) (q.2.1.drop 1)).map (λp=>(q.1++p.1,p.2))) (λq=>q.2.1.length) (([],40::r0,none,0,none)) (⟨rfl,rfl,rfl,rfl⟩) (⟨hK,aG,dh,Gr.nil (by intro x hx;simp at hx;rcases hx with rfl|rfl|hx;omega;omega;have:=hL x hx;omega) om,sm,by simp at hs⊢;omega,sm⟩) λgg w3 e3 hI=>?_
 obtain⟨acc,sc,a,cc,g⟩:=gg
 dsimp only at hI⊢
 obtain⟨hK,aG,dh,hO,TQ,aq4,sI⟩:=hI
 have fC:=hK.size
 have Xl:=aG.lt
 have aq5:=dh.lt
 refine tj<|zr<|zm<|BE (l:=1) il rfl rfl rfl (.inr ⟨_,rfl⟩) (.inl ⟨rfl,rfl⟩) om om<|zm<|mY rfl rfl rfl rfl rfl (show IntKind.i64.wrap ((60:Int)-((d'+1:Nat):Int)+1)=(60:Int)-(d':Int) by rw[wrap_i64 _ om om];omega) ?_
 rw[LI]
 refine aA (ih d' om (sc.drop 1) (g.toList++(w.heap.size::w1.heap.size::L)) w3 om so hO.all) ?_
 rintro v4 w4 ⟨jT,aO⟩
 have fE:=aO.size
 refine ie aO hK aG dh hO λhK aG dh hO=>?_
 obtain⟨t,tv,r,ok,rfl,ht,hm⟩:=jT
 obtain⟨pa,pn,pc,rfl,eP,aP⟩:=cU ht
 subst eP
 refine W ?_
 refine dy fg rfl rfl rfl λw5 aN cW ig=>?_
 have hK:=hK.grow;have hK:=hK.ext aN;have aG:=aG.grow;have aG:=aG.ext aN;have dh:=dh.grow;have dh:=dh.ext aN;have hO:=hO.alloc aN ig;have ht:=ht.grow;have ht:=ht.ext aN
 refine cJ fg rfl rfl rfl cW rfl λw6 bN cW kI=>?_
 have hK:=hK.aD bN sx;have aG:=aG.aD bN sx;have dh:=dh.aD bN sx;have hO:=hO.aD bN sx;have ht:=ht.aD bN sx
 refine W ?_
 apply oP 3 50 53 rfl oQ
 intro _
 exact oQ
 intro xx
 refine WZ ?_
 apply oP 9 54 63 rfl oQ
 intro h6
 simp at h6
 have nZ:=List.length_pos_iff.2 h6.2
 refine zm<|j3 (i:=0) il rfl rfl rfl rfl (jf nZ)<|WZ ?_
 apply oB 4 58 62 rfl oQ
 intro _
 refine zm<|j3 (i:=0) il rfl rfl rfl rfl (jf nZ) ?_
 exact oQ
 intro xx
 exact oQ
 intro xx
 refine aZ<|zc rfl (λh8=>?_) (λh8=>?_)
 have hR:ei (d'+1) (40::r0)=none:=by rw[DJ,sI,aaf hm h8];rfl
 refine zr<|js (LQ _) rfl rfl<|cJ fg rfl rfl rfl aG rfl λw7 bW aG oX=>?_
 have hK:=hK.aD bW sx
 refine W ?_
 exact⟨[_,_,_],⟨ga tJ fg rfl aG rfl,rfl,rfl⟩,⟨.mk [] [],_,[],_,rfl,kU oH,.inr ⟨hR,rfl⟩⟩,hK⟩
 obtain⟨nh,nZ,fM⟩:=aag hm h8
 refine W ?_
 refine fc sv fg rfl rfl λw7 bW alE oX=>la bW hK aG dh hO ht λhK aG dh hO ht=>?_
 refine Ll sv fg rfl rfl rfl rfl rfl rfl hO alE ht.Lm om λa2 nC g2 w8 fZ cE=>?_
 have cV:=cE.size
 have hK:=hO.since hK cE
 have aG:=aG.aD cE (hO.DL sm);have dh:=dh.aD cE (hO.DL sm)
 refine zf R2 rfl<|gd IE rfl rfl rfl dh rfl λw9 aB dh df=>?_
 have hK:=hK.aD aB sx;have aG:=aG.aD aB sx;have fZ:=fZ.aD aB sx
 refine W ?_
 refine j3 (i:=0) il rfl rfl rfl rfl (jf nh)<|vY rfl rfl rfl rfl rfl<|aZ<|zc rfl (λh9=>?_) (λh9=>?_)
 have AG:r.getD 0 0=41:=UInt8.toNat_inj.1 (by have Cf:(41:UInt8).toNat=41:=rfl;rw[Cf];omega)
 have hR:ei (d'+1) (40::r0)=some (.mk [] (acc++[t]),r.drop 1):=by rw[DJ,sI,fM,iP AG];rfl
 refine WZ ?_
 refine zB dj (cj w.heap.size ([str [],.slice a2 (acc++[t]).length nC]) 66) 6 [75,76,77,100003,5,6] [75,76,77,100003,5,6] [[],[],[1],[0],[2],[]] [λv _=>v=(.agg #[str [],.slice a2 (acc++[t]).length nC]),λv _=>v=(str r),λv _=>v=(str ((r.drop 1).take (r.length-1))),λ_ ww=>aJ ww w.heap.size ([str [],.slice a2 (acc++[t]).length nC]).toArray 66,λv _=>v=(str ((r.drop 1).take (r.length-1))),λv _=>v=(.bool true)] de (fu (fu (fu (DH (fu (fu trivial)))))) (λwd aC=>?_) ?_
 refine eh ?_ ?_
 intro x vs cu e cB hd he
 replace cB:=(cj w.heap.size ([str [],.slice a2 (acc++[t]).length nC]) 66).trans aC cB
 have dh:=dh.aD cB.1 sx
 replace he:e=bo (bj _ x _) []:=he
 subst he
 refine W ?_
 exact dn ((cj w.heap.size ([str [],.slice a2 (acc++[t]).length nC]) 66).refl _) rfl
 refine eh ?_ ?_
 intro x vs cu e cB hd he
 replace cB:=(cj w.heap.size ([str [],.slice a2 (acc++[t]).length nC]) 66).trans aC cB
 replace he:e=bo (bj _ x _) []:=he
 subst he
 refine W ?_
 exact dn ((cj w.heap.size ([str [],.slice a2 (acc++[t]).length nC]) 66).refl _) rfl
 refine eh ?_ ?_
 intro x vs cu e cB hd he
 have d1:vs 1=(str r):=hd
 replace cB:=(cj w.heap.size ([str [],.slice a2 (acc++[t]).length nC]) 66).trans aC cB
 replace he:e=bo (bj _ x _) [(76,vs 1)]:=he
 rw[d1] at he
 subst he
 refine BE (l:=1) il rfl rfl rfl (.inr ⟨_,rfl⟩) (.inl ⟨rfl,rfl⟩) om om<|aZ ?_
 exact dn ((cj w.heap.size ([str [],.slice a2 (acc++[t]).length nC]) 66).refl _) rfl
 refine eh ?_ ?_
 intro x vs cu e cB hd he
 have d0:vs 0=(.agg #[str [],.slice a2 (acc++[t]).length nC]):=hd
 replace cB:=(cj w.heap.size ([str [],.slice a2 (acc++[t]).length nC]) 66).trans aC cB
 obtain⟨us,vz,vA⟩:=cB.2.2 ⟨_,(by rfl),aG⟩
 replace he:e=bo (bj _ x _) [(75,vs 0)]:=he
 rw[d0] at he
 subst he
 refine cJ fg rfl rfl rfl vA (by rw[vz];rfl) λeD dd hb vj=>W ?_
 exact dn ⟨dd,λ_=>hb,λ_=>⟨_,rfl,hb⟩⟩ hb
 refine eh ?_ ?_
 intro x vs cu e cB hd he
 have d2:vs 2=(str ((r.drop 1).take (r.length-1))):=hd
 replace cB:=(cj w.heap.size ([str [],.slice a2 (acc++[t]).length nC]) 66).trans aC cB
 replace he:e=bo (bj _ x _) [(77,vs 2)]:=he
 rw[d2] at he
 subst he
 refine W ?_
 exact dn ((cj w.heap.size ([str [],.slice a2 (acc++[t]).length nC]) 66).refl _) rfl
 refine eh ?_ ?_
 intro x vs cu e cB hd he
 replace cB:=(cj w.heap.size ([str [],.slice a2 (acc++[t]).length nC]) 66).trans aC cB
 replace he:e=bo (bj _ x _) []:=he
 subst he
 refine W ?_
 exact dn ((cj w.heap.size ([str [],.slice a2 (acc++[t]).length nC]) 66).refl _) rfl
 exact trivial
 intro x vs ot iE dP
 have d0:vs 0=(.agg #[str [],.slice a2 (acc++[t]).length nC]):=dP 0 de
 have d1:vs 1=(str r):=dP 1 de
 have d2:vs 2=(str ((r.drop 1).take (r.length-1))):=dP 2 de
 have d3:aJ ot w.heap.size ([str [],.slice a2 (acc++[t]).length nC]).toArray 66:=dP 3 de
 have d4:vs 4=(str ((r.drop 1).take (r.length-1))):=dP 4 de
 have d5:vs 5=(.bool true):=dP 5 de
 have hK:=hK.aD iE.1 sx;have fZ:=fZ.aD iE.1 sx
 have aG:=d3
 change OW _ _ _ _ [] (bo (bj _ x _) (zZ 75 [vs 0,vs 1,vs 2]++[(100003,vs 3),(5,vs 4),(6,vs 5)])) _
 rw[d0,d1,d2,d4,d5]
 refine W ?_
 exact⟨[_,_,_],⟨ga tJ fg rfl aG rfl,rfl,rfl⟩,⟨.mk [] (acc++[t]),_,r.drop 1,_,by rw[LI];rfl,kU (fZ.trees.gP (λx hx=>by simp[hx])),.inl ⟨hR,rfl⟩⟩,hK⟩
 have AG:r.getD 0 0≠41:=λh=>h9 (by rw[h];rfl)
 refine WZ ?_
 exact⟨(acc++[t],r,a2,nC,g2),⟨rfl,rfl,rfl,rfl⟩,⟨hK,aG,dh,fZ.gP (λx hx=>mK _ hx),nh,by simp at nZ⊢;omega,by rw[sI,fM,iN AG,map_append]⟩,by simp at nZ;dsimp only;omega⟩
theorem alF {s:ai} (h:12000<s.length):bA s=none:=by unfold bA;rw[iP h]
def alG (L:List Nat) (s:ai) (v:Value) (w:World):Prop:=∃t tv,v= .tuple #[tv,.bool (bA s).isSome]∧bB L w tv t∧∀t',bA s=some t'->t=t'
theorem Xm (s:ai) (L:List Nat) (w:World) (hL:∀x,x∈L->x<w.heap.size):bz Tryz.prog 38 [str s] w λr w'=>alG L s r w'∧aj [] w w':=by
 have hK:=aj.refl [] w
 refine kW [.cell 2 66,.tmp 3] 23 Tryz.func38 rfl ack rfl rfl rfl ?_
 refine zr<|dy fg rfl rfl rfl λw1 aI aU dk=>?_
 have hK:=hK.grow;have hK:=hK.ext aI
 refine W ?_
 refine zc rfl (λh1=>?_) (λh1=>?_)
 have hp:=alF (s:=s) om
 refine zr<|js (LQ _) rfl rfl<|cJ fg rfl rfl rfl aU rfl λw2 az aU dC=>?_
 have hK:=hK.aD az sx
 refine W ?_
 exact⟨[_,_],⟨ga tJ fg rfl aU rfl,rfl⟩,⟨.mk [] [],_,by rw[hp];rfl,kU oH,by rw[hp];intro t' h;cases h⟩,hK⟩
 have hle:s.length<=12000:=by omega
 have hL1:∀x,x∈w.heap.size::L->x<w1.heap.size:=by intro x hx;rcases mC.1 hx with rfl|hx;omega;have:=hL x hx;omega
 refine gY<|zr<|zm<|aA (alD 60 s (w.heap.size::L) w1 om hle hL1) ?_
 rintro v2 w2 ⟨ij,az⟩
 have dm:=az.size
 refine bI az hK aU λhK aU=>?_
 obtain⟨t,tv,r,ok,rfl,ht,hm⟩:=ij
 obtain⟨pa,pn,pc,rfl,eP,aP⟩:=cU ht
 subst eP
 refine W ?_
 refine dy fg rfl rfl rfl λw3 aH aG gJ=>?_
 have hK:=hK.grow;have hK:=hK.ext aH;have aU:=aU.grow;have aU:=aU.ext aH;have ht:=ht.grow;have ht:=ht.ext aH
 refine cJ fg rfl rfl rfl aG rfl λw4 aO aG gQ=>?_
 have hK:=hK.aD aO sx;have aU:=aU.aD aO sx;have ht:=ht.aD aO sx
 refine W ?_
 apply oB 3 19 22 rfl oQ
 intro _
 exact oQ
 intro xx
 refine cJ fg rfl rfl rfl aU rfl λw5 aN aU ig=>?_
 have hK:=hK.aD aN sx;have ht:=ht.aD aN sx
 refine W ?_
 obtain⟨mB,pK⟩:=aah hle hm
 exact⟨[_,_],⟨ga tJ fg rfl aU rfl,rfl⟩,⟨t,_,by rw[<-mB];rfl,ht.gP (λx hx=>by simp[hx]),pK⟩,hK⟩
def alI (L:List Nat) (s:ai) (v:Value) (w:World):Prop:=∃t tv,v= .tuple #[tv,.bool (sn s)]∧bB L w tv t∧∀t',bA s=some t'->t=t'
theorem alJ (s:ai) (L:List Nat) (w:World) (hL:∀x,x∈L->x<w.heap.size):bz Tryz.prog 97 [str s] w λr w'=>alI L s r w'∧aj [] w w':=by
 have hK:=aj.refl [] w
 refine kW [.cell 2 66,.tmp 3] 17 Tryz.func97 rfl acT rfl rfl rfl ?_
 refine zr<|dy fg rfl rfl rfl λw1 aI aU dk=>?_
 have hK:=hK.grow;have hK:=hK.ext aI
 refine W ?_
 refine aA (Xm s (w.heap.size::L) w1 (by intro x hx;rcases mC.1 hx with rfl|hx;omega;have:=hL x hx;omega)) ?_
 rintro v2 w2 ⟨ij,az⟩
 have dm:=az.size
 refine bI az hK aU λhK aU=>?_
 obtain⟨t,tv,rfl,ht,hp⟩:=ij
 obtain⟨pa,pn,pc,rfl,eP,aP⟩:=cU ht
 subst eP
 have cm:=λh=>DS hp h
 refine W ?_
 refine dy fg rfl rfl rfl λw3 aH aG gJ=>?_
 have hK:=hK.grow;have hK:=hK.ext aH;have aU:=aU.grow;have aU:=aU.ext aH;have ht:=ht.grow;have ht:=ht.ext aH
 refine cJ fg rfl rfl rfl aG rfl λw4 aO aG gQ=>?_
 have hK:=hK.aD aO sx;have aU:=aU.aD aO sx;have ht:=ht.aD aO sx
 refine W ?_
 refine zB dj (cj w.heap.size ([str t.aw,.slice pa t.ak.length pc]) 66) 8 (rA 11 6++[100006,3]) (rA 11 6++[100006,3]) [[],[],[1],[2],[2,3],[2,4],[0],[5]] [λv _=>v=(.agg #[str t.aw,.slice pa t.ak.length pc]),λv _=>v=(.bool ((bA s).isSome)),λv _=>v=(.bool ((bA s).isSome)),λv _=>((bA s).isSome)=true->v=(.agg #[str t.aw,.slice pa t.ak.length pc]),λv _=>((bA s).isSome)=true->v=(.bool (fa false t)),λv _=>v=(.bool ((bA s).isSome&&fa false t)),λ_ ww=>aJ ww w.heap.size ([str t.aw,.slice pa t.ak.length pc]).toArray 66,λv _=>v=(.bool ((bA s).isSome&&fa false t))] de (fu (fu (fu (BG (BG (fu (DH (fu trivial)))))))) (λwd aC=>?_) ?_
 refine eh ?_ ?_
 intro x vs w5 e aN hd he
 replace aN:=(cj w.heap.size ([str t.aw,.slice pa t.ak.length pc]) 66).trans aC aN
 have aG:=aG.aD aN.1 sx
 replace he:e=bo (bj _ x _) []:=he
 subst he
 refine W ?_
 exact dn ((cj w.heap.size ([str t.aw,.slice pa t.ak.length pc]) 66).refl _) rfl
 refine eh ?_ ?_
 intro x vs w5 e aN hd he
 replace aN:=(cj w.heap.size ([str t.aw,.slice pa t.ak.length pc]) 66).trans aC aN
 replace he:e=bo (bj _ x _) []:=he
 subst he
 refine W ?_
 exact dn ((cj w.heap.size ([str t.aw,.slice pa t.ak.length pc]) 66).refl _) rfl
 refine eh ?_ ?_
 intro x vs w5 e aN hd he
 have d1:vs 1=(.bool ((bA s).isSome)):=hd
 replace aN:=(cj w.heap.size ([str t.aw,.slice pa t.ak.length pc]) 66).trans aC aN
 replace he:e=bo (bj _ x _) [(12,vs 1)]:=he
 rw[d1] at he
 subst he
 refine W ?_
 exact dn ((cj w.heap.size ([str t.aw,.slice pa t.ak.length pc]) 66).refl _) rfl
 refine eh ?_ ?_
 intro x vs w5 e aN hd he
 have d2:vs 2=(.bool ((bA s).isSome)):=hd
 replace aN:=(cj w.heap.size ([str t.aw,.slice pa t.ak.length pc]) 66).trans aC aN
 have aG:=aG.aD aN.1 sx
 rcases bE ((bA s).isSome) with hg|hg
 rw[hg] at d2
 replace he:e=bo (bj _ x _) [(13,vs 2)]:=he
 rw[d2] at he
 subst he
 refine W ?_
 exact dn ((cj w.heap.size ([str t.aw,.slice pa t.ak.length pc]) 66).refl _) (show((bA s).isSome)=true->_=((.agg #[str t.aw,.slice pa t.ak.length pc]):Value) from λ_=>rfl)
 rw[hg] at d2
 replace he:e=bo (bj _ x _) [(13,vs 2)]:=he
 rw[d2] at he
 subst he
 refine W ?_
 exact dn ((cj w.heap.size ([str t.aw,.slice pa t.ak.length pc]) 66).refl _) (show((bA s).isSome)=true->_=(_:Value) from λhh=>nomatch hg.symm.trans hh)
 refine eh ?_ ?_
 intro x vs w5 e aN hd he
 have aQ:(vs 2=(.bool ((bA s).isSome)))∧(((bA s).isSome)=true->vs 3=(.agg #[str t.aw,.slice pa t.ak.length pc])):=hd
 obtain⟨d2,d3⟩:=aQ
 replace aN:=(cj w.heap.size ([str t.aw,.slice pa t.ak.length pc]) 66).trans aC aN
 have ht:=ht.aD aN.1 sx
 rcases bE ((bA s).isSome) with hg|hg
 rw[hg] at d2
 replace d3:=d3 hg
 replace he:e=bo (bj _ x _) [(13,vs 2),(14,vs 3)]:=he
 rw[d2,d3] at he
 subst he
 refine aA (Ph t.size t (lR _) (by have:=(cm hg).2;omega) (cm hg).1 false _ _ w5 ht) ?_
 rintro _ w6 ⟨rfl,bN⟩
 have oo:=bN.size
 refine W ?_
 exact dn ((cj w.heap.size ([str t.aw,.slice pa t.ak.length pc]) 66).of bN) (show((bA s).isSome)=true->_=((.bool (fa false t)):Value) from λ_=>rfl)
 rw[hg] at d2
 replace he:e=bo (bj _ x _) [(13,vs 2),(14,vs 3)]:=he
 rw[d2] at he
 subst he
 refine W ?_
 exact dn ((cj w.heap.size ([str t.aw,.slice pa t.ak.length pc]) 66).refl _) (show((bA s).isSome)=true->_=(_:Value) from λhh=>nomatch hg.symm.trans hh)
 refine eh ?_ ?_
 intro x vs w5 e aN hd he
 have aQ:(vs 2=(.bool ((bA s).isSome)))∧(((bA s).isSome)=true->vs 4=(.bool (fa false t))):=hd
 obtain⟨d2,d4⟩:=aQ
 replace aN:=(cj w.heap.size ([str t.aw,.slice pa t.ak.length pc]) 66).trans aC aN
 rcases bE ((bA s).isSome) with hg|hg
 rw[hg] at d2
 replace d4:=d4 hg
 replace he:e=bo (bj _ x _) [(13,vs 2),(15,vs 4)]:=he
 rw[d2,d4] at he
 subst he
 refine W ?_
 exact dn ((cj w.heap.size ([str t.aw,.slice pa t.ak.length pc]) 66).refl _) (by first|rfl|(rw[hg];rfl))
 rw[hg] at d2
 replace he:e=bo (bj _ x _) [(13,vs 2),(15,vs 4)]:=he
 rw[d2] at he
 subst he
 refine W ?_
 exact dn ((cj w.heap.size ([str t.aw,.slice pa t.ak.length pc]) 66).refl _) (by first|rfl|(rw[hg];rfl))
 refine eh ?_ ?_
 intro x vs w5 e aN hd he
 have d0:vs 0=(.agg #[str t.aw,.slice pa t.ak.length pc]):=hd
 replace aN:=(cj w.heap.size ([str t.aw,.slice pa t.ak.length pc]) 66).trans aC aN
 obtain⟨us,vz,vA⟩:=aN.2.2 ⟨_,(by rfl),aU⟩
 replace he:e=bo (bj _ x _) [(11,vs 0)]:=he
 rw[d0] at he
 subst he
 refine cJ fg rfl rfl rfl vA (by rw[vz];rfl) λw6 bN hb kI=>W ?_
 exact dn ⟨bN,λ_=>hb,λ_=>⟨_,rfl,hb⟩⟩ hb
 refine eh ?_ ?_
 intro x vs w5 e aN hd he
 have d5:vs 5=(.bool ((bA s).isSome&&fa false t)):=hd
 replace aN:=(cj w.heap.size ([str t.aw,.slice pa t.ak.length pc]) 66).trans aC aN
 replace he:e=bo (bj _ x _) [(16,vs 5)]:=he
 rw[d5] at he
 subst he
 refine W ?_
 exact dn ((cj w.heap.size ([str t.aw,.slice pa t.ak.length pc]) 66).refl _) rfl
 exact trivial
 intro x vs o6 iX dP
 have d0:vs 0=(.agg #[str t.aw,.slice pa t.ak.length pc]):=dP 0 de
 have d1:vs 1=(.bool ((bA s).isSome)):=dP 1 de
 have d2:vs 2=(.bool ((bA s).isSome)):=dP 2 de
 have d3:((bA s).isSome)=true->vs 3=(.agg #[str t.aw,.slice pa t.ak.length pc]):=dP 3 de
 have d4:((bA s).isSome)=true->vs 4=(.bool (fa false t)):=dP 4 de
 have d5:vs 5=(.bool ((bA s).isSome&&fa false t)):=dP 5 de
 have d6:aJ o6 w.heap.size ([str t.aw,.slice pa t.ak.length pc]).toArray 66:=dP 6 de
 have d7:vs 7=(.bool ((bA s).isSome&&fa false t)):=dP 7 de
 have hK:=hK.aD iX.1 sx;have ht:=ht.aD iX.1 sx
 have aU:=d6
 change OW _ _ _ _ [] (bo (bj _ x _) (zZ 11 [vs 0,vs 1,vs 2,vs 3,vs 4,vs 5]++[(100006,vs 6),(3,vs 7)])) _
 rw[d0,d1,d2,d5,d7]
 refine W ?_
 exact⟨[_,_],⟨ga tJ fg rfl aU rfl,rfl⟩,⟨t,_,by rw[Is (f:=fa false) hp];rfl,ht.gP (λx hx=>by simp[hx]),hp⟩,hK⟩
def Xn (L:List Nat) (b:Bk) (v:Value) (w:World):Prop:=∃ib bv,v= .tuple #[bv,.bool (nT b)]∧nG L w bv ib∧(nT b=true->ib=dQ b)
theorem Pn {b:Bk} (h:nT b=false):Xn L b (.tuple #[.agg #[str [],.slice none 0 0,.slice none 0 0],.bool false]) w:=
 ⟨⟨[],[],[]⟩,_,by rw[h],MK oH oH,by rw[h];intro h;cases h⟩
theorem alK (k:Bk) (hl:k.aM.length<1000000000) (fx:k.bY.length<1000000000) (eU:k.code.length<1000000000) (v:Value) (Li L:List Nat) (w:World) (hv:qP Li w v k) (hL:∀x,x∈L->x<w.heap.size):
  bz Tryz.prog 63 [v] w λr w'=>Xn L k r w'∧aj [] w w':=by
 obtain⟨a1,n1,c1,a2,n2,c2,rfl,oW,mo,cV,dm⟩:=DK hv
 have hK:=aj.refl [] w
 refine kW [.cell 2 56,.tmp 3] 102 Tryz.func63 rfl acx rfl rfl rfl ?_
 refine zr<|eH rfl λw1 aI aX dk=>?_
 have hK:=hK.ext aI
 refine dy jg rfl rfl rfl λw2 az aU dC=>?_
 have hK:=hK.grow;have hK:=hK.ext az;have aX:=aX.grow;have aX:=aX.ext az
 refine W ?_
 refine aA (Xe _ om _) ?_
 rintro _ _ ⟨rfl,rfl⟩
 refine WZ ?_
 apply oP 5 17 22 rfl oQ
 intro _
 refine WZ ?_
 exact oQ
 intro xx
 refine WZ ?_
 apply oP 5 23 28 rfl oQ
 intro _
 refine WZ ?_
 exact oQ
 intro xx
 refine WZ ?_
 apply oP 6 29 35 rfl oQ
 intro _
 refine W ?_
 refine aA (KH _ _ _ _) ?_
 rintro _ _ ⟨rfl,rfl⟩
 exact oQ
 intro xx
 refine aZ<|zc rfl (λh4=>?_) (λh4=>?_)
 have hq:=aai oW mo h4
 refine zr<|js (LO _) rfl rfl<|cJ jg rfl rfl rfl aU rfl λw3 aH aU gJ=>?_
 have hK:=hK.aD aH sx
 refine W ?_
 exact⟨[_,_],⟨ga zT jg rfl aU rfl,rfl⟩,Pn hq,hK⟩
 obtain⟨qf,nD⟩:=aaj oW mo h4
 have uq:k.bY.length<=40∧k.code.length<=80:=by simp only[aE,dE] at qf;exact⟨qf.1.2,qf.2.2⟩
 refine W ?_
 refine js (ac1 _ _) rfl rfl<|dy jg rfl rfl rfl λw3 aH aG gJ=>?_
 have hK:=hK.grow;have hK:=hK.ext aH;have aX:=aX.grow;have aX:=aX.ext aH;have aU:=aU.grow;have aU:=aU.ext aH
 refine cJ jg rfl rfl rfl aG rfl λw4 aO aG gQ=>?_
 have hK:=hK.aD aO sx;have aX:=aX.aD aO sx;have aU:=aU.aD aO sx
 refine W ?_
 refine eA (λq:Nat×Option Addr×Nat×Option Nat=>[(1,.pointer (some ⟨w.heap.size,0,none⟩)),(2,.pointer (some ⟨w1.heap.size,0,none⟩)),(4,.pointer (some ⟨w2.heap.size,0,none⟩)),(41,.slice a1 n1 c1),(42,.int .i64 (n1:Int)),(43,.int .i64 (q.1:Int))]) (λq w'=>aj [] w w'∧aJ w' w.heap.size [str k.aM,.slice a1 n1 c1,.slice a2 n2 c2].toArray 58∧aJ w' w1.heap.size [str [],.slice none 0 0,.slice none 0 0].toArray 56∧aJ w' w2.heap.size [str k.aM,.slice q.2.1 ((k.bY.take q.1).map tr).length q.2.2.1,.slice none 0 0].toArray 56∧Gr w1.heap.size (w1.heap.size::w2.heap.size::L) w' 66 2 (.slice q.2.1 ((k.bY.take q.1).map tr).length q.2.2.1) q.2.2.2 (cT ((k.bY.take q.1).map tr))∧q.1<=k.bY.length∧∀i,i<q.1->sn (bX k.bY i)=true) (λq=>k.bY.length-q.1) ((0,none,0,none)) (⟨rfl,rfl,rfl,rfl,rfl,rfl⟩) (⟨hK,aX,aU,aG,Gr.nil (by intro x hx;simp at hx;rcases hx with rfl|rfl|hx;omega;omega;have:=hL x hx;omega) om,sm,by intro i hi;simp at hi⟩) λgg w5 e5 hI=>?_
 obtain⟨i,a,cc,g⟩:=gg
 dsimp only at hI⊢
 obtain⟨hK,aX,aU,aG,hO,hk,cL⟩:=hI
 have fC:=hK.size
 have UZ:=aX.lt
 have U0:=aU.lt
 have Xl:=aG.lt
 refine W ?_
 refine zc rfl (λh5=>?_) (λh5=>?_)
 have ey:=km (xs:=k.bY) (i:=i) om
 obtain⟨b,off,rfl,hc⟩:=pB (cV.ext hK) ey
 refine W ?_
 refine aA (alJ (bX k.bY i) (g.toList++(w1.heap.size::w2.heap.size::L)) w5 hO.all) ?_
 rintro v6 w6 ⟨CU,bN⟩
 have oo:=bN.size
 refine la bN hK aX aU aG hO λhK aX aU aG hO=>?_
 obtain⟨t,tv,rfl,ht,hp⟩:=CU
 obtain⟨pa,pn,pc,rfl,eP,aP⟩:=cU ht
 subst eP
 refine W ?_
 refine dy fg rfl rfl rfl λw7 bW cM oX=>?_
 have hK:=hK.grow;have hK:=hK.ext bW;have aX:=aX.grow;have aX:=aX.ext bW;have aU:=aU.grow;have aU:=aU.ext bW;have aG:=aG.grow;have aG:=aG.ext bW;have hO:=hO.alloc bW oX;have ht:=ht.grow;have ht:=ht.ext bW
 refine cJ fg rfl rfl rfl cM rfl λw8 cE cM ld=>?_
 have hK:=hK.aD cE sx;have aX:=aX.aD cE sx;have aU:=aU.aD cE sx;have aG:=aG.aD cE sx;have hO:=hO.aD cE sx;have ht:=ht.aD cE sx
 refine W ?_
 refine zc rfl (λh6=>?_) (λh6=>?_)
 have hq:=aak (b:=k) (i:=i) om (by simpa using h6)
 refine zr<|js (LO _) rfl rfl<|cJ jg rfl rfl rfl aU rfl λw9 aB aU df=>?_
 have hK:=hK.aD aB sx
 refine W ?_
 exact⟨[_,_],⟨ga zT jg rfl aU rfl,rfl⟩,Pn hq,hK⟩
 have lD:sn (bX k.bY i)=true:=by simpa using h6
 refine W ?_
 refine fc sv fg rfl rfl λw9 aB Po df=>tS aB hK aX aU aG hO ht λhK aX aU aG hO ht=>?_
 refine Ll sv fg rfl rfl rfl rfl rfl rfl hO Po ht.Lm (by rw[DR _ hk];omega) λa3 HV g3 cu iY cB=>?_
 have Xo:=cB.size
 have hK:=aj.Lk om hO.low hK cB
 have aX:=aX.aD cB (hO.QC om);have aU:=aU.aD cB (hO.DL sm);have aG:=aG.aD cB (hO.DL sm)
 rw[aam lD hp,DQ tr ey] at iY⊢
 refine zf R0 rfl<|gd IE rfl rfl rfl aG rfl λeD dd aG vj=>?_
 have hK:=hK.aD dd sx;have aX:=aX.aD dd sx;have aU:=aU.aD dd sx;have iY:=iY.aD dd sx
 refine W ?_
 exact⟨(i+1,a3,HV,g3),⟨rfl,rfl,rfl,rfl,rfl,rfl⟩,⟨hK,aX,aU,aG,iY.gP (λx hx=>mK _ hx),by dsimp only;omega,by intro j hj;rcases Nat.lt_or_ge j i with h|h;exact cL j h;rw[show j=i by dsimp only at hj;omega];exact lD⟩,by dsimp only;omega⟩
 have MJ:∀j,j<k.bY.length->sn (bX k.bY j)=true:=λj hj=>cL j om
 rw[FY tr om] at aG hO
 have Oj:=hO.trees
 have jb:=aj.refl [w1.heap.size,w2.heap.size] w5
 clear cL hO
 refine W ?_
 refine eA (λq:Nat×Option Addr×Nat×Option Nat=>[(1,.pointer (some ⟨w.heap.size,0,none⟩)),(2,.pointer (some ⟨w1.heap.size,0,none⟩)),(4,.pointer (some ⟨w2.heap.size,0,none⟩)),(63,.slice a2 n2 c2),(64,.int .i64 (n2:Int)),(65,.int .i64 (q.1:Int))]) (λq w'=>aj [] w w'∧aj [w1.heap.size,w2.heap.size] w5 w'∧aJ w' w.heap.size [str k.aM,.slice a1 n1 c1,.slice a2 n2 c2].toArray 58∧aJ w' w1.heap.size [str [],.slice none 0 0,.slice none 0 0].toArray 56∧aJ w' w2.heap.size [str k.aM,.slice a (k.bY.map tr).length cc,.slice q.2.1 ((k.code.take q.1).map tr).length q.2.2.1].toArray 56∧Gr w5.heap.size (w1.heap.size::w2.heap.size::L) w' 66 2 (.slice q.2.1 ((k.code.take q.1).map tr).length q.2.2.1) q.2.2.2 (cT ((k.code.take q.1).map tr))∧q.1<=k.code.length∧∀i,i<q.1->rF k.code i=true) (λq=>k.code.length-q.1) ((0,none,0,none)) (⟨rfl,rfl,rfl,rfl,rfl,rfl⟩) (⟨hK,jb,aX,aU,aG,Gr.nil (by intro x hx;simp at hx;rcases hx with rfl|rfl|hx;omega;omega;have:=hL x hx;omega) om,sm,by intro i hi;simp at hi⟩) λgg w6 e6 hI=>?_
 obtain⟨j,a5,Jz,g⟩:=gg
 dsimp only at hI⊢
 obtain⟨hK,jb,aX,aU,aG,hO,az,cL⟩:=hI
 have fC:=hK.size
 have aq6:=jb.size
 have UZ:=aX.lt
 have U0:=aU.lt
 have Xl:=aG.lt
 refine W ?_
 refine zc rfl (λh7=>?_) (λh7=>?_)
 have ey:=km (xs:=k.code) (i:=j) om
 obtain⟨b,off,rfl,hc⟩:=pB (dm.ext hK) ey
 refine W ?_
 refine aA (Xm (bX k.code j) (g.toList++(w1.heap.size::w2.heap.size::L)) w6 hO.all) ?_
 rintro v7 w7 ⟨yA,bW⟩
 have lf:=bW.size
 refine tS bW hK jb aX aU aG hO λhK jb aX aU aG hO=>?_
 obtain⟨t,tv,rfl,ht,hp⟩:=yA
 obtain⟨pa,pn,pc,rfl,eP,aP⟩:=cU ht
 subst eP
 have cm:=λh=>DS hp h
 refine W ?_
 refine dy fg rfl rfl rfl λw8 cE iF ld=>?_
 have hK:=hK.grow;have hK:=hK.ext cE;have jb:=jb.grow;have jb:=jb.ext cE;have aX:=aX.grow;have aX:=aX.ext cE;have aU:=aU.grow;have aU:=aU.ext cE;have aG:=aG.grow;have aG:=aG.ext cE;have hO:=hO.alloc cE ld;have ht:=ht.grow;have ht:=ht.ext cE
 refine cJ fg rfl rfl rfl iF rfl λw9 aB iF df=>?_
 have hK:=hK.aD aB sx;have jb:=jb.aD aB sx;have aX:=aX.aD aB sx;have aU:=aU.aD aB sx;have aG:=aG.aD aB sx;have hO:=hO.aD aB sx;have ht:=ht.aD aB sx
 refine W ?_
 refine D8 [75,76,77,78,79,80,81,82,83,84,85,86,87,88,89,90,91,92] [(92,.bool ((!(bA (bX k.code j)).isSome||!nS t)||(FU t !=decide ((j:Int)=(n2:Int)-1))))] ?_ ?_
 rcases bE (!(bA (bX k.code j)).isSome) with iD|iD
 apply k8 dj 18 (rA 75 18) (rA 75 18) [[],[0],[1],[2],[2,3],[2,4],[2,5],[6],[7],[7,8],[7],[7],[7,11],[7,12],[7,13],[7,10,14],[7,9,15],[7,16]] [It.v _,It.v _,It.v (.bool true),It.v _,It.v _,It.v _,It.v _,It.v (.bool true),It.v _,It.v _,It.v _,It.v _,It.v _,It.v _,It.v _,It.v _,It.v _,It.v _] de rfl
 intro wd aC
 refine VA ?_
 refine vc (λx cu cB=>?_) ?_
 refine WZ ?_
 exact pv (by exact congrArg Value.bool iD)
 refine vk aC (λx cu cB=>?_) ?_
 exact cF pv
 refine vk aC (λx cu cB=>?_) ?_
 exact cF pv
 refine vc (λx cu cB=>?_) ?_
 exact cF pv
 refine vc (λ_ _ _=>WZ pv) ?_
 refine vc (λx cu cB=>?_) ?_
 refine WZ ?_
 exact pv (by rfl)
 exact VZ
 intro x ot iE
 change OW _ _ _ _ [] (bo (bj _ x _) (zZ 75 [_,_,_,_,_,_,_,_,_,_,_,_,_,_,_,_,_,_])) _
 refine W ?_
 exact kE iE
 rcases bE (!(bA (bX k.code j)).isSome||!nS t) with mx|mx
 apply k8 dj 18 (rA 75 18) (rA 75 18) [[],[0],[1],[2],[2,3],[2,4],[2,5],[6],[7],[7,8],[7],[7],[7,11],[7,12],[7,13],[7,10,14],[7,9,15],[7,16]] [It.v _,It.v _,It.v (.bool false),It.v _,It.v _,It.v _,It.v _,It.v (.bool true),It.v _,It.v _,It.v _,It.v _,It.v _,It.v _,It.v _,It.v _,It.v _,It.v _] de rfl
 intro wd aC
 refine VA ?_
 refine vc (λx cu cB=>?_) ?_
 refine WZ ?_
 exact pv (by exact congrArg Value.bool iD)
 refine VA ?_
 refine vk aC (λx cu cB=>?_) ?_
 have ht:=ht.ext cB
 have hg:=iD
 refine aA (Xk t (cm (by simpa using hg)).2 (cm (by simpa using hg)).1 _ _ cu ht) ?_
 rintro _ eD ⟨rfl,dd⟩
 have Bo:=dd.size
 exact pk dd
 refine VA ?_
 refine vc (λx cu cB=>?_) ?_
 refine WZ ?_
 exact pv (by first|exact congrArg Value.bool mx|(rw[iD] at mx;exact congrArg Value.bool mx))
 exact VZ
 intro x ot iE
 change OW _ _ _ _ [] (bo (bj _ x _) (zZ 75 [_,_,_,_,_,_,_,_,_,_,_,_,_,_,_,_,_,_])) _
 refine W ?_
 exact kE iE
 apply k8 dj 18 (rA 75 18) (rA 75 18) [[],[0],[1],[2],[2,3],[2,4],[2,5],[6],[7],[7,8],[7],[7],[7,11],[7,12],[7,13],[7,10,14],[7,9,15],[7,16]] [It.v _,It.v _,It.v (.bool false),It.v _,It.v _,It.v _,It.v _,It.v (.bool false),It.v _,It.v _,It.v _,It.v _,It.v _,It.v _,It.v _,It.v _,It.v _,It.v _] de rfl
 intro wd aC
 refine VA ?_
 refine vc (λx cu cB=>?_) ?_
 refine WZ ?_
 exact pv (by exact congrArg Value.bool iD)
 refine VA ?_
 refine vk aC (λx cu cB=>?_) ?_
 have ht:=ht.ext cB
 have hg:=iD
 refine aA (Xk t (cm (by simpa using hg)).2 (cm (by simpa using hg)).1 _ _ cu ht) ?_
 rintro _ eD ⟨rfl,dd⟩
 have Bo:=dd.size
 exact pk dd
 refine VA ?_
 refine vc (λx cu cB=>?_) ?_
 refine WZ ?_
 exact pv (by first|exact congrArg Value.bool mx|(rw[iD] at mx;exact congrArg Value.bool mx))
 refine VA ?_
 refine vk aC (λx cu cB=>?_) ?_
 have ht:=ht.ext cB
 have hg:=mx
 refine aA (alB t (cm (by rw[Bool.or_eq_false_iff] at hg;simpa using hg.1)).1 _ _ cu ht) ?_
 rintro _ eD ⟨rfl,dd⟩
 have Bo:=dd.size
 exact pk dd
 refine vc (λ_ _ _=>WZ pv) ?_
 refine vc (λ_ _ _=>WZ pv) ?_
 refine vk aC (λx cu cB=>?_) ?_
 have aX:=aX.ext cB
 refine WZ ?_
 exact pv
 refine vk aC (λx cu cB=>?_) ?_
 refine WZ ?_
 exact pv
 refine vk aC (λx cu cB=>?_) ?_
 refine WZ ?_
 exact pv
 refine vk aC (λx cu cB=>?_) ?_
 refine WZ ?_
 exact pv
 refine vk aC (λx cu cB=>?_) ?_
 refine WZ ?_
 exact pv
 refine vc (λ_ _ _=>WZ pv) ?_
 exact trivial
 intro x ot iE
 change OW _ _ _ _ [] (bo (bj _ x _) (zZ 75 [_,_,_,_,_,_,_,_,_,_,_,_,_,_,_,_,_,_])) _
 refine W ?_
 exact kE iE
 intro x ot iE
 refine Cd iE hK jb aX aU aG hO ht iF λhK jb aX aU aG hO ht iF=>?_
 refine zc rfl (λh8=>?_) (λh8=>?_)
 rw[RD mo om hp] at h8
 have hq:=aal (b:=k) (i:=j) om (by simpa using h8)
 refine zr<|js (LO _) rfl rfl<|cJ jg rfl rfl rfl aU rfl λou lM aU alL=>?_
 have hK:=hK.aD lM sx
 refine W ?_
 exact⟨[_,_],⟨ga zT jg rfl aU rfl,rfl⟩,Pn hq,hK⟩
 rw[RD mo om hp] at h8
 have lD:rF k.code j=true:=by simpa using h8
 refine W ?_
 refine fc sv fg rfl rfl λou lM HG alL=>I4 lM hK jb aX aU aG hO ht λhK jb aX aU aG hO ht=>?_
 refine Ll sv fg rfl rfl rfl rfl rfl rfl hO HG ht.Lm (by rw[DR _ az];omega) λa3 HV g3 lg iY kP=>?_
 have Xo:=kP.size
 have hK:=aj.Lk om hO.low hK kP
 have jb:=hO.since jb kP
 have aX:=aX.aD kP (hO.QC om);have aU:=aU.aD kP (hO.DL sm);have aG:=aG.aD kP (hO.DL sm)
 rw[aan lD hp,DQ tr ey] at iY⊢
 refine zf R1 rfl<|gd IE rfl rfl rfl aG rfl λA6 pY aG agQ=>?_
 have hK:=hK.aD pY sx;have jb:=jb.aD pY sx;have aX:=aX.aD pY sx;have aU:=aU.aD pY sx;have iY:=iY.aD pY sx
 refine W ?_
 exact⟨(j+1,a3,HV,g3),⟨rfl,rfl,rfl,rfl,rfl,rfl⟩,⟨hK,jb,aX,aU,aG,iY.gP (λx hx=>mK _ hx),by dsimp only;omega,by intro i2 hj;rcases Nat.lt_or_ge i2 j with h|h;exact cL i2 h;rw[show i2=j by dsimp only at hj;omega];exact lD⟩,by dsimp only;omega⟩
 have hq:=Rb qf MJ (λi hi=>cL i om)
 have hqI:nT k=true:=by unfold nT;rw[hq,nD];rfl
 rw[FY tr om] at aG hO
 refine W ?_
 refine cJ jg rfl rfl rfl aU rfl λw7 bW aU oX=>?_
 have hK:=hK.aD bW sx;have jb:=jb.aD bW sx;have hO:=hO.aD bW sx
 refine W ?_
 exact⟨[_,_],⟨ga zT jg rfl aU rfl,rfl⟩,⟨dQ k,_,by rw[hqI];rfl,MK (l:=k.aM) ((Oj.aD jb sm).gP (λx hx=>by simp[hx])) (hO.trees.gP (λx hx=>by simp[hx])),λ_=>rfl⟩,hK⟩
theorem alN (k:dw) (l:ai) (b1:Nat) (v:Value) (L:List Nat) (w:World) (hv:nG L w v k) (aX:aJ w b1 [str l].toArray 9):
  bz Tryz.prog 88 [v,.pointer (some ⟨b1,0,none⟩)] w λr w'=>r= .bool (decide (k.aM=l))∧aj [] w w':=by
 obtain⟨a1,c1,a2,c2,rfl,cv,ck⟩:=S7 hv
 have hK:=aj.refl [] w
 refine bS [.tmp 3] 8 Tryz.func88 rfl acN rfl rfl ?_
 refine zr<|eH rfl λw1 aI aU dk=>bI aI hK aX λhK aX=>?_
 refine W ?_
 exact⟨_,rfl,rfl,hK⟩
theorem alO (ps:List dw) (hlen:ps.length<1000000000) (g:dw->Bool) (f:FuncId) (caps:List Value) (v:Value) (L:List Nat) (w:World) (hv:mD L w v ps) 
  (hf:∀i,i<ps.length->∀(u:Value) (w':World),aj [] w w'->nG L w' u (eC ps i)->bz Tryz.prog f (u::caps) w' λr w''=>r= .bool (g (eC ps i))∧aj [] w' w''):
  bz Tryz.prog 87 [v,.func (.func f) #[] caps.toArray] w λr w'=>r= .int .i64 (F0 ps g)∧aj [] w w':=by
 obtain⟨a,c,rfl⟩:=Ei hv
 have hK:=aj.refl [] w
 refine bS [.tmp 4] 19 Tryz.func87 rfl acM rfl rfl ?_
 refine W ?_
 refine eA (λk:Nat=>[(0,.slice a ps.length c),(1,.func (.func f) #[] caps.toArray),(7,.int .i64 (ps.length:Int)),(8,.int .i64 (k:Int))]) (λk w'=>aj [] w w'∧k<=ps.length∧∀i,i<k->g (eC ps i)=false) (λk=>ps.length-k) (0) (⟨rfl,rfl,rfl,rfl⟩) (⟨hK,om,by intro i hi;omega⟩) λgg w1 e1 hI=>?_
 obtain⟨hK,hk,cL⟩:=hI
 have hv:=hv.ext hK
 refine W ?_
 refine zc rfl (λh1=>?_) (λh1=>?_)
 have hp:=su (ps:=ps) (i:=gg) om
 obtain⟨b,off,a1,c1,a2,c2,rfl,hc,mB,pK⟩:=Cj hv hp
 refine W ?_
 refine Qy rfl rfl rfl (hf gg om _ w1 hK (MK mB pK)) ?_
 rintro _ w2 ⟨rfl,az⟩
 have dm:=az.size
 have hK:=hK.ext az
 refine aZ<|zc rfl (λh2=>?_) (λh2=>?_)
 have hq:=aao om cL h2
 refine W ?_
 exact⟨_,rfl,by rw[hq];rfl,hK⟩
 refine W ?_
 exact⟨gg+1,⟨rfl,rfl,rfl,rfl⟩,⟨hK,om,by intro i hi;rcases Nat.lt_or_ge i gg with h|h;exact cL i h;rw[show i=gg by omega];exact h2⟩,om⟩
 have hq:=aap (λi hi=>cL i om)
 refine W ?_
 exact⟨_,rfl,by rw[hq];rfl,hK⟩
theorem Xp (ps:List dw) (hlen:ps.length<1000000000) (l:ai) (v:Value) (L:List Nat) (w:World) (hv:mD L w v ps):
  bz Tryz.prog 54 [v,str l] w λr w'=>r= .int .i64 (uR ps l)∧aj [] w w':=by
 have hK:=aj.refl [] w
 refine bS [.tmp 4] 8 Tryz.func54 rfl acs rfl rfl ?_
 refine zr<|K3 rfl rfl rfl λw1 aI cQ dk=>bI aI hK hv λhK hv=>?_
 refine W ?_
 refine Qx (vs:=[.pointer (some ⟨w.heap.size,0,none⟩)]) rfl rfl rfl<|aA (alO ps hlen (λb=>decide (b.aM=l)) 88 [.pointer (some ⟨w.heap.size,0,none⟩)] _ L w1 hv (λi hi u w' k hu=>alN (eC ps i) l _ _ L _ hu (cQ.ext k))) ?_
 rintro _ w2 ⟨rfl,az⟩
 have dm:=az.size
 have hK:=hK.ext az
 refine W ?_
 exact⟨_,rfl,rfl,hK⟩
def alP (L:List Nat) (bs:List Bk) (v:Value) (w:World):Prop:=∃ps pv,v= .tuple #[pv,.bool (nj bs)]∧mD L w pv ps∧(nj bs=true->ps=bs.map dQ)
theorem Xq (bs:List Bk) (hb:tI bs) (v:Value) (Li L:List Nat) (w:World) (hv:nR Li w v bs) (hL:∀x,x∈L->x<w.heap.size):
  bz Tryz.prog 32 [v] w λr w'=>alP L bs r w'∧aj [] w w':=by
 obtain⟨a,n,c,rfl,hn⟩:=zG hv
 have hK:=aj.refl [] w
 have iq:=hb.1
 refine bS [.tmp 2,.tmp 3] 52 Tryz.func32 rfl acf rfl rfl ?_
 refine W ?_
 refine aA (KH _ _ _ _) ?_
 rintro _ _ ⟨rfl,rfl⟩
 refine kx rfl rfl rfl<|aZ<|zc rfl (λh1=>?_) (λh1=>?_)
 have hq:nj bs=false:=aat (λh=>by rw[dT (p:=(1:Int)<=(n:Int)) om,dT (p:=(n:Int)<=40) om] at h1;exact absurd h1 de)
 refine W ?_
 exact⟨_,rfl,⟨[],_,by rw[hq];rfl,S8,by rw[hq];intro h;cases h⟩,hK⟩
 have Xr:1<=bs.length∧bs.length<=40:=by have:=h1;simp only[aE,dE] at this;omega
 refine W ?_
 refine eA (λq:Nat×Option Addr×Nat×Option Nat=>[(0,.slice a n c),(4,.slice q.2.1 ((bs.take q.1).map dQ).length q.2.2.1),(13,.slice a n c),(14,.int .i64 (n:Int)),(15,.int .i64 (q.1:Int))]) (λq w'=>aj [] w w'∧Gr w.heap.size L w' 56 3 (.slice q.2.1 ((bs.take q.1).map dQ).length q.2.2.1) q.2.2.2 (((bs.take q.1).map dQ).map dw.enc)∧q.1<=bs.length∧∀i,i<q.1->nT (bR bs i)=true∧oI bs (bR bs i).aM=i) (λq=>bs.length-q.1) ((0,none,0,none)) (⟨rfl,rfl,rfl,rfl,rfl⟩) (⟨hK,Gr.nil hL om,sm,by intro i hi;simp at hi⟩) λgg w1 e1 hI=>?_
 obtain⟨i,a1,cc,g⟩:=gg
 dsimp only at hI⊢
 obtain⟨hK,hO,hk,cL⟩:=hI
 have fC:=hK.size
 refine W ?_
 refine zc rfl (λh2=>?_) (λh2=>?_)
 have ey:=pC (bs:=bs) (i:=i) om
 obtain⟨b,off,ra,rn,rc,ca,cn,c3,rfl,hc,rj,xw,cV,dm⟩:=BQ hv ey
 have qt:=hb.2 i om
 refine WL ?_
 refine zL DU fV rfl (hc.ext hK) rfl<|dy fV rfl rfl rfl λw2 az bL dC=>?_
 have hK:=hK.grow;have hK:=hK.ext az;have hO:=hO.alloc az dC
 refine cJ fV rfl rfl rfl bL rfl λw3 aH bL gJ=>?_
 have hK:=hK.aD aH sx;have hO:=hO.aD aH sx
 refine W ?_
 refine aA (alK (bR bs i) qt.1 qt.2.1 qt.2.2 _ _ (g.toList++(w1.heap.size::L)) w3 (qP.ext (BP cV dm) hK) hO.all) ?_
 rintro v4 w4 ⟨jT,aO⟩
 have fE:=aO.size
 refine bI aO hK hO λhK hO=>?_
 obtain⟨ib,bv,rfl,ht,hp⟩:=jT
 obtain⟨b1a,b1c,b2a,b2c,rfl,_,_⟩:=S7 ht
 refine W ?_
 refine dy jg rfl rfl rfl λw5 aN cM ig=>?_
 have hK:=hK.grow;have hK:=hK.ext aN;have hO:=hO.alloc aN ig;have ht:=ht.grow;have ht:=ht.ext aN
 refine cJ jg rfl rfl rfl cM rfl λw6 bN cM kI=>?_
 have hK:=hK.aD bN sx;have hO:=hO.aD bN sx;have ht:=ht.aD bN sx
 refine W ?_
 apply oO 6 26 32 (aj [] w6) rfl oQ
 intro h3
 have xG:nT (bR bs i)=true:=by simpa using h3
 have hib:=hp xG
 subst hib
 refine W ?_
 refine aA (Xp ((bs.take i).map dQ) (by rw[DR _ hk];omega) (bR bs i).aM _ L w6 (hO.prog.gP (λx hx=>by simp[hx]))) ?_
 rintro _ w7 ⟨rfl,bW⟩
 have lf:=bW.size
 exact oQ
 intro xx w8 cE
 refine ie cE hK hO ht cM λhK hO ht cM=>?_
 refine aZ<|zc rfl (λh4=>?_) (λh4=>?_)
 have hq:nj bs=false:=aar (i:=i) om (by simp only[oE,Bool.not_eq_true'] at h4;rcases h4 with h|h;exact .inl h;rw[RE om] at h;exact .inr (of_decide_eq_true h))
 refine W ?_
 exact⟨_,rfl,⟨[],_,by rw[hq];rfl,S8,by rw[hq];intro h;cases h⟩,hK⟩
 have xG:nT (bR bs i)=true∧oI bs (bR bs i).aM=i:=by simp only[Bool.or_eq_false_iff,Bool.not_eq_false'] at h4;rw[RE om] at h4;exact⟨h4.1,Classical.byContradiction (of_decide_eq_false h4.2)⟩
 refine W ?_
 refine fc wq jg rfl rfl λw9 aB alR df=>cN aB hK hO ht λhK hO ht=>?_
 refine aeA wq jg rfl rfl rfl rfl rfl rfl hO alR (ht.gP (λx hx=>by simp at hx⊢;rcases hx with h|h|h<;>simp[h])) (by rw[DR _ hk];omega) λa3 HV g3 cu iY cB=>?_
 have Xo:=cB.size
 have hK:=hO.since hK cB
 rw[hp xG.1,DQ dQ ey] at iY⊢
 refine W ?_
 exact⟨(i+1,a3,HV,g3),⟨rfl,rfl,rfl,rfl,rfl⟩,⟨hK,iY.gP (λx hx=>by simp[hx]),by dsimp only;omega,by intro i2 hj;rcases Nat.lt_or_ge i2 i with h|h;exact cL i2 h;rw[show i2=i by dsimp only at hj;omega];exact xG⟩,by dsimp only;omega⟩
 have hq:=aas (λj hj=>cL j om)
 rw[FY dQ om] at hO⊢
 obtain⟨b,off,r1,KI,r2,HW,rfl,hc,cv,ck⟩:=Cj hO.prog (su (ps:=bs.map dQ) (i:=0) so)
 have e0:eC (bs.map dQ) 0=dQ (bR bs 0):=by simp[gE (show 0<bs.length by omega)]
 rw[e0] at hc cv ck
 refine W ?_
 refine D8 [38,39,40,41,42,43,44,45,46,47,48,49,50,51,2,3] [(2,.slice (some ⟨b,off,none⟩) (bs.map dQ).length cc),(3,.bool (decide ((bR bs 0).aM=[109,97,105,110])&&decide (((dQ (bR bs 0)).regs.length:Int)=0)))] ?_ ?_
 rcases bE (decide ((bR bs 0).aM=[109,97,105,110])) with iD|iD
 apply k8 dj 16 (rA 38 14++[2,3]) (rA 38 14++[2,3]) [[],[],[1],[2],[3],[4],[5],[6],[6,7],[6,8],[6,9],[6,10],[6,11],[6,12],[0],[13]] [It.v _,It.v _,It.v _,It.v _,It.v _,It.v _,It.v (.bool true),It.v _,It.v _,It.v _,It.v _,It.v _,It.v _,It.v _,It.v _,It.v _] de rfl
 intro wd aC
 refine VA ?_
 refine vk aC (λx w2 az=>?_) ?_
 refine zi (i:=0) wq jg rfl rfl so ?_
 exact pv
 refine VA ?_
 refine vc (λx w2 az=>?_) ?_
 refine zm ?_
 exact pv (by exact congrArg Value.bool iD)
 refine VA ?_
 refine vk aC (λx w2 az=>?_) ?_
 refine zi (i:=0) wq jg rfl rfl so ?_
 exact pv
 exact VZ
 intro x o5 gR
 change OW _ _ _ _ [] (bo (bj _ x _) (zZ 38 [_,_,_,_,_,_,_,_,_,_,_,_,_,_]++[(2,_),(3,_)])) _
 refine W ?_
 exact kE gR
 apply k8 dj 16 (rA 38 14++[2,3]) (rA 38 14++[2,3]) [[],[],[1],[2],[3],[4],[5],[6],[6,7],[6,8],[6,9],[6,10],[6,11],[6,12],[0],[13]] [It.v _,It.v _,It.v _,It.v _,It.v _,It.v _,It.v (.bool false),It.v _,It.v _,It.v _,It.v _,It.v _,It.v _,It.v _,It.v _,It.v _] de rfl
 intro wd aC
 refine VA ?_
 refine vk aC (λx w2 az=>?_) ?_
 refine zi (i:=0) wq jg rfl rfl so ?_
 exact pv
 refine VA ?_
 refine vc (λx w2 az=>?_) ?_
 refine zm ?_
 exact pv (by exact congrArg Value.bool iD)
 exact VZ
 intro x o5 gR
 change OW _ _ _ _ [] (bo (bj _ x _) (zZ 38 [_,_,_,_,_,_,_,_,_,_,_,_,_,_]++[(2,_),(3,_)])) _
 refine W ?_
 exact kE gR
 intro x o5 gR
 refine bI gR hK hO λhK hO=>?_
 refine jZ<|⟨_,rfl,⟨bs.map dQ,_,?_,hO.prog.gP (λx hx=>by simp[hx]),λ_=>rfl⟩,hK⟩
 rw[hq,dT Xr.1,dT Xr.2,show decide (((dQ (bR bs 0)).regs.length:Int)=0)=decide ((bR bs 0).bY.length=0) from decide_eq_decide.2 (by have:(dQ (bR bs 0)).regs.length=(bR bs 0).bY.length:=List.length_map _;omega)]
 rfl
def uz (t:aq):Option ai:=if cw t=[108,97,98]∨cw t=[122,101,114,111] then some (nth t.ak 2).aw else none
def addN (out:List ai) (t:aq):List ai:=match uz t with
 |some s=>if s∈out then out else out++[s]
 |none=>out
theorem alS (out:List ai) (t:aq):(addN out t).length<=out.length+1:=by
 unfold addN;split
 ·split<;>simp
 ·omega
theorem Pp:∀(ts:List aq) (out:List ai),(ts.foldl addN out).length<=out.length+ts.length
 |[],out=>by simp
 |t::ts,out=>by
  have h1:=Pp ts (addN out t)
  have h2:=alS out t
  simp only[List.foldl_cons,lC];omega
theorem Xs {α β:Type} (f:β->α->β) (a:β) {l:List α} {x:α} (h:l[k]?=some x):(l.take (k+1)).foldl f a=f ((l.take k).foldl f a) x:=by
 rw[List.take_add_one,h,List.foldl_append];rfl
def HX (out:List ai) (b:dw):List ai:=b.code.foldl addN out
def qK (ps:List dw):List ai:=ps.foldl HX []
def jc (ps:List dw):Nat:=(ps.map λb=>b.code.length).sum
theorem HY (hk:k<ps.length):jc (ps.take (k+1))=jc (ps.take k)+(eC ps k).code.length:=by
 unfold jc
 rw[List.take_add_one,su hk,List.map_append,List.sum_append];simp
theorem Xt:∀ps:List dw,(qK ps).length<=jc ps:=by
 have key:∀(ps:List dw) (out:List ai),(ps.foldl HX out).length<=out.length+jc ps:=by
  intro ps
  induction ps with
  |nil=>intro out;simp[jc]
  |cons b ps ih=>
   intro out
   have h1:=ih (HX out b)
   have h2:=Pp b.code out
   simp only[List.foldl_cons,jc,List.map_cons,List.sum_cons] at h1⊢
   unfold HX at h1⊢
   omega
 intro ps;have:=key ps [];unfold qK;simpa using this
theorem KJ (ps:List dw) (k:Nat):jc (ps.take k)<=jc ps:=by
 have h:jc ps=jc (ps.take k)+jc (ps.drop k):=by
  unfold jc
  rw[<-List.sum_append,<-List.map_append,List.take_append_drop]
 omega
theorem Xu (bs:List Bk):jc (bs.map dQ)=lines bs:=by
 unfold jc lines
 rw[List.map_map];congr 1
 exact List.map_congr_left λb _=>List.length_map _
def By (ms:List Bool):Nat:=(ms.filter λb=>!b).length
theorem Xv:∀{ms:List Bool} {k:Nat},ms[k]?=some false->By (ms.set k true)+1=By ms
 |b::ms,0,h=>by
  have hb:b=false:=by simpa using h
  subst hb;simp[By]
 |b::ms,k+1,h=>by
  have ih:=Xv (ms:=ms) (k:=k) (by simpa using h)
  unfold By at ih⊢
  cases b<;>simp[List.filter_cons] at ih⊢<;>omega
theorem alT (n:Nat):By (List.replicate n false)=n:=by simp[By,List.filter_replicate]
theorem alU (ps:List dw) (l:ai): -1<=uR ps l∧uR ps l<ps.length∨ps.length=0∧uR ps l= -1:=by
 unfold uR
 cases h:ps.findIdx? (λb=>decide (b.aM=l)) with
 |none=>
  rcases Nat.eq_zero_or_pos ps.length with h0|h0
  ·exact .inr ⟨h0,rfl⟩
  ·exact .inl ⟨by show(-1:Int)<= -1;omega,by show(-1:Int)<_;omega⟩
 |some i=>
  have:=(List.findIdx?_eq_some_iff_getElem.1 h).1
  exact .inl ⟨by show(-1:Int)<=(i:Int);omega,by show(i:Int)<_;omega⟩
theorem alV {t:aq} (h:nS t=true) (hn:cw t=[108,97,98]∨cw t=[122,101,114,111]):2<t.ak.length:=by
 obtain⟨h1,h2,_⟩:=adD h
 rcases hn with e|e<;>rw[e] at h1 h2<;>simp[gi] at h1 h2⊢<;>omega
def mW (p:dw):Bk:=⟨p.aM,p.regs.map aq.text,p.code.map aq.text⟩
def jK (ms:List Bool) (ps:List dw):Nat->List Bk
 |0=>[]
 |k+1=>jK ms ps k++if ms.getD k false=true then[mW (eC ps k)] else[]
theorem Pq (ms:List Bool) (ps:List dw):∀k,(jK ms ps k).length<=k
 |0=>by simp[jK]
 |k+1=>by
  have:=Pq ms ps k
  rw[jK,lA];split<;>simp<;>omega
theorem Xw {ms:List Bool}:∀{k:Nat} {b:Bk},b∈jK ms ps k->∃i,i<k∧b=mW (eC ps i)
 |0,b,h=>by simp[jK] at h
 |k+1,b,h=>by
  rw[jK,mA] at h
  rcases h with h|h
  ·obtain⟨i,hi,e⟩:=Xw h;exact⟨i,om,e⟩
  ·split at h
   ·exact⟨k,om,by simpa using h⟩
   ·cases h
theorem alW (a b:List Bk):lines (a++b)=lines a+lines b:=by unfold lines;rw[List.map_append,List.sum_append]
theorem Xx (ms:List Bool) (ps:List dw):∀k,k<=ps.length->lines (jK ms ps k)<=jc (ps.take k)
 |0,_=>by simp[jK,lines]
 |k+1,h=>by
  have ih:=Xx ms ps k om
  rw[jK,alW,HY om]
  split
  ·simp[lines,mW] at ih⊢;omega
  ·simp[lines] at ih⊢;omega
def s8 (bs:List Bk):Int:=if nj bs then(lines bs:Int) else -1
theorem alX (bs:List Bk):s8 bs<=(lines bs:Int):=by unfold s8;split<;>omega
theorem alY (t:aq) (cm:WF t) (hn:(cw t=[108,97,98]∨cw t=[122,101,114,111])->2<t.ak.length) (v:Value) (L:List Nat) (w:World) (hv:bB L w v t):
  bz Tryz.prog 84 [v] w λr w'=>r= .tuple #[str ((uz t).getD []),.bool (uz t).isSome]∧aj [] w w':=by
 have cO:=hv
 obtain⟨a,n,c,rfl,wO,aP⟩:=cU hv
 subst wO
 have hK:=aj.refl [] w
 refine bS [.tmp 2,.tmp 3] 17 Tryz.func84 rfl acK rfl rfl ?_
 refine zr<|eH rfl λw1 aI aX dk=>cN aI hK cO aP λhK cO aP=>?_
 refine W ?_
 refine aA (Dy t cm _ _ w1 cO) ?_
 rintro _ w2 ⟨rfl,az⟩
 have dm:=az.size
 refine ie az hK cO aP aX λhK cO aP aX=>?_
 refine WZ ?_
 apply oO 4 7 11 (aj [] w2) rfl oQ
 intro _
 refine W ?_
 refine aA (Dy t cm _ _ w2 cO) ?_
 rintro _ w3 ⟨rfl,aH⟩
 have fm:=aH.size
 exact oQ
 intro xx w4 aO
 refine cN aO hK aP aX λhK aP aX=>?_
 refine aZ<|zc rfl (λh2=>?_) (λh2=>?_)
 have hh:cw t=[108,97,98]∨cw t=[122,101,114,111]:=by simpa using h2
 have hl:=hn hh
 have ey:=iJ aP (gh (ps:=t.ak) (i:=2) hl)
 obtain⟨b2,lG,pa,pn,pc,rfl,bU,eP,fM⟩:=ey
 refine WI ?_
 refine zi (i:=2) sv fg rfl rfl hl<|W ?_
 exact⟨_,rfl,by unfold uz;rw[iP hh];rfl,hK⟩
 have hh:¬(cw t=[108,97,98]∨cw t=[122,101,114,111]):=by simpa using h2
 refine W ?_
 exact⟨_,rfl,by unfold uz;rw[iN hh];rfl,hK⟩
theorem alZ (xs:List ai) (hl:xs.length<1000000000) (s:ai) (v:Value) (L:List Nat) (w:World) (hv:bc L w v xs):
  bz Tryz.prog 117 [v,str s] w λr w'=>(∃z:Int,r= .int .i64 z∧decide (z≥0)=decide (s∈xs))∧w=w':=by
 obtain⟨a,n,c,rfl,hn⟩:=dJ hv
 subst hn
 refine bS [.tmp 4] 19 Tryz.func117 rfl aaL rfl rfl ?_
 refine W ?_
 refine eA (λk:Nat=>[(0,.slice a xs.length c),(1,str s),(7,.int .i64 (xs.length:Int)),(8,.int .i64 (k:Int))]) (λk w'=>w'=w∧k<=xs.length∧∀i,i<k->bX xs i≠s) (λk=>xs.length-k) (0) (⟨rfl,rfl,rfl,rfl⟩) (⟨rfl,om,by intro i hi;omega⟩) λgg w1 e1 hI=>?_
 obtain⟨rfl,hk,cL⟩:=hI
 refine W ?_
 refine zc rfl (λh1=>?_) (λh1=>?_)
 have hg:=km (xs:=xs) (i:=gg) om
 have aQ:=pB hv hg
 obtain⟨b,off,rfl,hc⟩:=aQ
 refine W ?_
 refine zc rfl (λh2=>?_) (λh2=>?_)
 have he:s=bX xs gg:=by simpa using h2
 refine W ?_
 exact⟨_,rfl,⟨(gg:Int),rfl,by rw[dT (p:=s∈xs) (by rw[he];exact List.mem_of_getElem? hg),dT om]⟩,rfl⟩
 have he:¬s=bX xs gg:=by simpa using h2
 refine W ?_
 exact⟨gg+1,⟨rfl,rfl,rfl,rfl⟩,⟨rfl,om,by intro i hi;rcases Nat.lt_or_ge i gg with h|h;exact cL i h;rw[show i=gg by omega];exact λe=>he e.symm⟩,om⟩
 have wG:¬s∈xs:=λhm=>by obtain⟨i,hi,e⟩:=List.getElem_of_mem hm;exact cL i om (by rw[<-e];simp[bX,gE hi])
 refine W ?_
 exact⟨_,rfl,⟨-1,rfl,by rw[dF wG];decide⟩,rfl⟩
theorem al0 (xs:List ai) (hl:xs.length<1000000000) (s:ai) (v:Value) (L:List Nat) (w:World) (hv:bc L w v xs):
  bz Tryz.prog 85 [v,str s] w λr w'=>r= .bool (decide (s∈xs))∧w=w':=by
 refine bS [.tmp 4] 9 Tryz.func85 rfl acL rfl rfl ?_
 refine W ?_
 refine aA (alZ xs hl s _ L _ hv) ?_
 rintro _ _ ⟨⟨z,rfl,hz⟩,rfl⟩
 refine W ?_
 exact⟨_,rfl,congrArg Value.bool hz,rfl⟩
def oy (ps:List dw) (i j:Nat):List ai:=((eC ps i).code.take j).foldl addN (qK (ps.take i))
theorem al1 {j:Nat} (hi:i<ps.length) (hj:j<=(eC ps i).code.length):(oy ps i j).length<=jc ps:=by
 have h1:=Pp ((eC ps i).code.take j) (qK (ps.take i))
 have h2:=Xt (ps.take i)
 have h3:=HY hi
 have h4:=KJ ps (i+1)
 rw[List.length_take] at h1
 unfold oy
 omega
theorem al2 (hi:i<ps.length):oy ps i (eC ps i).code.length=qK (ps.take (i+1)):=by
 unfold oy
 rw[List.take_length]
 unfold qK
 rw[Xs HX [] (su hi)];rfl
theorem al3 {j:Nat} (hj:j<(eC ps i).code.length):oy ps i (j+1)=addN (oy ps i j) (nth (eC ps i).code j):=by
 unfold oy
 exact Xs addN _ (gh hj)
def KL (ps:List dw):Prop:=∀b,b∈ps->∀t,t∈b.code->WF t∧((cw t=[108,97,98]∨cw t=[122,101,114,111])->2<t.ak.length)
theorem al4 (ps:List dw) (aP:ps.length<=1000) (Eh:jc ps<=1000000) (ba:KL ps) (v:Value) (L:List Nat) (w:World) (hv:mD L w v ps) (hL:∀x,x∈L->x<w.heap.size):
  bz Tryz.prog 51 [v] w λr w'=>(∃g,Gr w.heap.size L w' 9 1 r g (fU (qK ps)))∧aj [] w w':=by
 obtain⟨a,c,rfl⟩:=Ei hv
 have hK:=aj.refl [] w
 refine bS [.tmp 2] 42 Tryz.func51 rfl acr rfl rfl ?_
 refine W ?_
 refine eA (λq:Nat×Option Addr×Nat×Option Nat=>[(3,.slice q.2.1 (qK (ps.take q.1)).length q.2.2.1),(10,.slice a ps.length c),(11,.int .i64 (ps.length:Int)),(12,.int .i64 (q.1:Int))]) (λq w'=>aj [] w w'∧Gr w.heap.size L w' 9 1 (.slice q.2.1 (qK (ps.take q.1)).length q.2.2.1) q.2.2.2 (fU (qK (ps.take q.1)))∧q.1<=ps.length) (λq=>ps.length-q.1) ((0,none,0,none)) (⟨rfl,rfl,rfl,rfl⟩) (⟨hK,Gr.nil hL (lR _),sm⟩) λgg w1 e1 hI=>?_
 obtain⟨i,a3,cc,g⟩:=gg
 dsimp only at hI⊢
 obtain⟨hK,hO,hk⟩:=hI
 have fC:=hK.size
 refine W ?_
 refine zc rfl (λh1=>?_) (λh1=>?_)
 have hi:i<ps.length:=by omega
 have hp:=su (ps:=ps) hi
 have aQ:=Cj hv hp
 obtain⟨b,off,r1,KI,r2,HW,rfl,hc,mB,pK⟩:=aQ
 have Dv:=List.mem_of_getElem? hp
 have lW:(eC ps i).code.length<=1000000:=by have h3:=HY hi;have h4:=KJ ps (i+1);omega
 refine WI ?_
 refine zi wq jg rfl rfl hi<|zL zT jg rfl (hc.ext hK) rfl<|dy jg rfl rfl rfl λw2 az cg dC=>?_
 have hK:=hK.grow;have hK:=hK.ext az;have hO:=hO.alloc az dC
 refine cJ jg rfl rfl rfl cg rfl λw3 aH cg gJ=>?_
 have hK:=hK.aD aH sx;have hO:=hO.aD aH sx
 refine W ?_
 refine eA (λq:Nat×Option Addr×Nat×Option Nat=>[(3,.slice q.2.1 (oy ps i q.1).length q.2.2.1),(10,.slice (some ⟨b,off,none⟩) ps.length c),(11,.int .i64 (ps.length:Int)),(12,.int .i64 (i:Int)),(17,.slice r2 (eC ps i).code.length HW),(18,.int .i64 ((eC ps i).code.length:Int)),(19,.int .i64 (q.1:Int))]) (λq w'=>aj [] w w'∧Gr w.heap.size L w' 9 1 (.slice q.2.1 (oy ps i q.1).length q.2.2.1) q.2.2.2 (fU (oy ps i q.1))∧q.1<=(eC ps i).code.length) (λq=>(eC ps i).code.length-q.1) ((0,a3,cc,g)) (⟨rfl,rfl,rfl,rfl,rfl,rfl,rfl⟩) (⟨hK,hO.gP (λx hx=>by simp[hx]),sm⟩) λgg w4 e4 hI=>?_
 obtain⟨j,a4,fR,g4⟩:=gg
 dsimp only at hI⊢
 obtain⟨hK,hO,hj⟩:=hI
 have fC:=hK.size
 refine W ?_
 refine zc rfl (λh2=>?_) (λh2=>?_)
 have oz:j<(eC ps i).code.length:=by omega
 have ey:=gh (ps:=(eC ps i).code) oz
 have aQ:=iJ pK ey
 obtain⟨b1,eX,pa,pn,pc,rfl,jl,eP,fM⟩:=aQ
 have qo:=ba _ Dv _ (List.mem_of_getElem? ey)
 have CI:=al1 hi hj
 have Xy:=al3 oz
 refine WI ?_
 refine zi sv fg rfl rfl oz<|zL tJ fg rfl (jl.ext hK) rfl<|dy fg rfl rfl rfl λw5 aN cM ig=>?_
 have hK:=hK.grow;have hK:=hK.ext aN;have hO:=hO.alloc aN ig
 refine cJ fg rfl rfl rfl cM rfl λw6 bN cM kI=>?_
 have hK:=hK.aD bN sx;have hO:=hO.aD bN sx
 refine W ?_
 refine aA (alY (nth (eC ps i).code j) qo.1 qo.2 _ L w6 ((kV fM).ext hK)) ?_
 rintro _ w7 ⟨rfl,bW⟩
 have lf:=bW.size
 refine bI bW hK hO λhK hO=>?_
 refine W ?_
 apply oB 5 29 34 rfl oQ
 intro h3
 refine zm<|zm<|aA (al0 (oy ps i j) om _ _ _ _ hO.done) ?_
 rintro _ _ ⟨rfl,rfl⟩
 exact oQ
 intro xx
 refine aZ<|zc rfl (λh4=>?_) (λh4=>?_)
 have tX:(uz (nth (eC ps i).code j)).isSome=true∧¬(uz (nth (eC ps i).code j)).getD []∈oy ps i j:=by simpa using h4
 have hs:oy ps i j++[(uz (nth (eC ps i).code j)).getD []]=oy ps i (j+1):=by rw[Xy];unfold addN;revert tX;cases uz (nth (eC ps i).code j) with|none=>intro h;cases h.1|some s=>intro h;exact(iN h.2).symm
 refine kH<|zm<|zm<|fc bh bf rfl rfl λw8 cE E4 ld=>bI cE hK hO λhK hO=>?_
 refine QD bh bf rfl rfl rfl rfl rfl rfl hO E4 om λa5 Jz g5 w9 iY aB=>?_
 have hK:=hO.since hK aB
 rw[hs] at iY⊢
 refine W ?_
 exact⟨(j+1,a5,Jz,g5),⟨rfl,rfl,rfl,rfl,rfl,rfl,rfl⟩,⟨hK,iY.gP (λx hx=>by simp[hx]),by dsimp only;omega⟩,by dsimp only;omega⟩
 have hs:oy ps i (j+1)=oy ps i j:=by rw[Xy];unfold addN;have tX:¬((uz (nth (eC ps i).code j)).isSome=true∧¬(uz (nth (eC ps i).code j)).getD []∈oy ps i j):=(by simpa using h4);revert tX;cases uz (nth (eC ps i).code j) with|none=>intro _;rfl|some s=>intro h;exact iP (Classical.byContradiction λhh=>h ⟨rfl,hh⟩)
 refine W ?_
 refine⟨(j+1,a4,fR,g4),⟨congrArg (λn=>Value.slice a4 n fR) (congrArg List.length hs.symm),rfl,rfl,rfl,rfl,rfl,rfl⟩,⟨hK,?_,by dsimp only;omega⟩,by dsimp only;omega⟩
 (show Gr _ _ _ _ _ (.slice a4 (oy ps i (j+1)).length fR) _ (fU (oy ps i (j+1))))
 rw[hs]
 exact hO.gP (λx hx=>by simp[hx])
 have oz:j=(eC ps i).code.length:=by omega
 subst oz
 rw[al2 hi] at hO⊢
 refine W ?_
 exact⟨(i+1,a4,fR,g4),⟨rfl,rfl,rfl,rfl⟩,⟨hK,hO.gP (λx hx=>by simp[hx]),by dsimp only;omega⟩,by dsimp only;omega⟩
 have wQ:ps.take i=ps:=List.take_of_length_le om
 rw[wQ] at hO⊢
 refine W ?_
 exact⟨_,rfl,⟨_,hO⟩,hK⟩
theorem al5 (ps:List dw) (aP:ps.length<=1000) (Eh:jc ps<=1000000) (ba:KL ps) (v:Value) (L:List Nat) (w:World) (hv:mD L w v ps) (hL:∀x,x∈L->x<w.heap.size):
  bz Tryz.prog 51 [v] w λr w'=>bc L w' r (qK ps)∧aj [] w w':=
 (al4 ps aP Eh ba v L w hv hL).mono λ_ _ ⟨⟨_,hO⟩,hK⟩=>⟨hO.done,hK⟩
section
variable {P:Program} (w:World)
theorem al6 (t ty e:TypeId) (i:TypeInfo) (ht:P.underlying t=some (.slice e)) (hi:P.info? e=some i) 
  (g off sLen sCap:Nat) (cur:Array Value) (hg:w.heap[g]?=some (.cells cur e (0,0)))
  (a:Addr) (m c:Nat) (news:List Value) (hl:news.length=m*i.size) (tl:∀j u,news[j]?=some u->w.cell? (a.add j)=some u) (h1:∀u∈news,u.oneCell'=true)
  (oD:sLen+m<=sCap) (kv:off+sLen*i.size+news.length<=cur.size):
  (Builtin.append_ #[t,t] ty #[.slice (some ⟨g,off,none⟩) sLen sCap,.slice (some a) m c]).run P w=
   .ok (.slice (some ⟨g,off,none⟩) (sLen+m) sCap) (w.setRow g (cur.toList.take (off+sLen*i.size)++news++cur.toList.drop (off+sLen*i.size+news.length)).toArray):=by
 have hf:=run_firstCells_some (P:=P) w i.size m a m c news hl tl
 have aR:=run_storeCells_at P g (off+sLen*i.size) e news 0 cur w hg (by simpa using kv) h1
 simp only[Nat.add_zero] at aR
 simp[Builtin.append_,run_underlying ht,sizeOf,typeInfo,hi,Builtin.lenOf,oD,hf,qM,aR]
end
def Qu (w:World) (T:TypeId) (v:Value) (g:Nat) (xs:List Value):Prop:=
 ∃off cap cur,v= .slice (some ⟨g,off,none⟩) xs.length cap∧aJ w g cur T∧xs.length<=cap∧off+cap<=cur.size∧∀i x,xs[i]?=some x->cur[off+i]?=some x
theorem Qu.aF {T:TypeId} (h:Qu w T v g xs) (k:aj L w w') (hg:g∉L):Qu w' T v g xs:=
 let⟨off,cap,cur,e,hb,r⟩:=h;⟨off,cap,cur,e,hb.aF k hg,r⟩
theorem Qu.ext {T:TypeId} (h:Qu w T v g xs) (k:aj [] w w'):Qu w' T v g xs:=h.aF k sm
theorem Qu.lt {T:TypeId} (h:Qu w T v g xs):g<w.heap.size:=let⟨_,_,_,_,hb,_⟩:=h;hb.lt
theorem Qu.form {T:TypeId} (h:Qu w T v g xs):∃off cap,v= .slice (some ⟨g,off,none⟩) xs.length cap:=let⟨off,cap,_,e,_⟩:=h;⟨off,cap,e⟩
theorem Qu.one {T:Nat} {x:Value} (h:aJ w b [x].toArray T):Qu w T (.slice (some ⟨b,0,none⟩) 1 1) b [x]:=
 ⟨0,1,_,rfl,h,sm,sm,λi y hy=>by simpa using hy⟩
theorem Qu.head {T:TypeId} {cap n:Nat} {x:Value} (h:Qu w T (.slice (some ⟨g,off,none⟩) n cap) g (x::xs)):w.cell? ⟨g,off+0*1,none⟩=some x:=by
 obtain⟨o,c,cur,e,hb,_,_,h3⟩:=h
 cases e
 rw[Nat.zero_mul,Nat.add_zero,hb.cell]
 simpa using h3 0 x rfl
section
variable {P:Program} {n:Nat} {ops:Array Oper} {K:Env->World->Prop} {rest:List Oper} {e:Env} {w:World}
 {dst:Option Nat} {ty:TypeId} {pos:String} {after:Array Edge} {g:Option (Nat×Bool)} {x y:Operand}
theorem al7 {lo:Operand} {ki:IntKind} {v u:Value} {gq:Nat} {xs:List Value} (hT:P.underlying t=some (.slice E)) (hE:TI P E 1 bytes z) (hg:gate ops e g=true) (hd:bV n dst=true) 
  (hx:ev e x=v) (tu:ev e lo= .int ki 1) (hq:Qu w E v gq (u::xs)) (k:∀v',Qu w E v' gq xs->OW P n ops K rest (bM e dst v') w):
  OW P n ops K (⟨dst,.slice t x (some lo) none none,ty,pos,after,g⟩::rest) e w:=by
 obtain⟨off,cap,cur,rfl,hb,h1,h2,h3⟩:=hq
 simp only[lC] at h1
 have key:∀l:Nat,l<=(u::xs).length->ev e lo= .int ki (l:Int)->(execOp (ev e) ⟨dst,.slice t x (some lo) none none,ty,pos,after,g⟩).run P w= .ok (.value (.slice (if cap=l then some ⟨gq,off,none⟩ else some ⟨gq,off+l*1,none⟩) ((u::xs).length-l) (cap-l))) w:=λl hl tu=>by
  have Lf:l<=xs.length+1:=hl
  simp[execOp,Instr.sliceAt,Instr.slice,hx,tu,run_underlying hT,Instr.sliceBounds,Instr.sliceBound,asIntOf,Lf,hE.rD,qM]
 refine eQ hg hd (v:=.slice (if cap=1 then some ⟨gq,off,none⟩ else some ⟨gq,off+1*1,none⟩) xs.length (cap-1)) (w':=w) (key 1 sm tu) (k _ ?_)
 by_cases hc:cap=1
 ·rw[iP hc]
  refine⟨off,cap-1,cur,rfl,hb,om,om,λi y hy=>?_⟩
  have:=(List.getElem?_eq_some_iff.1 hy).1
  omega
 ·rw[iN hc]
  refine⟨off+1*1,cap-1,cur,rfl,hb,om,om,λi y hy=>?_⟩
  have:=h3 (i+1) y (by simpa using hy)
  rw[<-this];congr 1;omega
theorem al8 {v u:Value} {gq b U:Nat} {xs:List Value} (hT:P.underlying t=some (.slice E)) (hE:TI P E 1 bytes z) (hg:gate ops e g=true) (hd:bV n dst=true) (hz:Nat.beq z.cells.size 1=true) (fK:Nat.ble bytes 1000=true) 
  (hx:ev e x=v) (hy:ev e y= .slice (some ⟨b,0,none⟩) 1 1) (hq:Qu w E v gq xs) (hb:aJ w b [u].toArray U) (h1:u.oneCell'=true) (hn:xs.length<100000000)
  (k:∀v' g' w',Qu w' E v' g' (xs++[u])->aj [gq] w w'->(g'=gq∨g'=w.heap.size)->OW P n ops K rest (bM e dst v') w'):
  OW P n ops K (⟨dst,.call {callee:=.builtin .append,args:=#[x,y],argTypes:=#[t,t]},ty,pos,after,g⟩::rest) e w:=by
 obtain⟨i,hi,uO,fC,xG⟩:=hE.get
 have zH:bytes<=1000:=Nat.le_of_ble_eq_true fK
 obtain⟨off,cap,cur,rfl,Pr,hc,hs,uA⟩:=hq
 have tl:∀j u',[u][j]?=some u'->w.cell? ((⟨b,0,none⟩:Addr).add j)=some u':=λj u' hj=>by
  rw[qM,hb.cell]
  simpa using hj
 have al9:∀u'∈[u],u'.oneCell'=true:=λu' h=>by rw[List.mem_singleton.1 h];exact h1
 have run:∀{v':Value} {w':World},(Builtin.append_ #[t,t] ty #[.slice (some ⟨gq,off,none⟩) xs.length cap,.slice (some ⟨b,0,none⟩) 1 1]).run P w= .ok v' w'->
   (execOp (ev e) ⟨dst,.call {callee:=.builtin .append,args:=#[x,y],argTypes:=#[t,t]},ty,pos,after,g⟩).run P w= .ok (.value v') w':=λhr=>by
  simp only[execOp,resolve,invoke,builtin,Sem.run_bind,Sem.run_pure,Result.andThen_ok,List.map_toArray,List.map_cons,List.map_nil,hx,hy,hr]
 by_cases oD:xs.length+1<=cap
 ·have hr:=al6 (P:=P) w t ty E i hT hi gq off xs.length cap cur Pr ⟨b,0,none⟩ 1 1 [u] (by rw[fC];rfl) tl al9 oD (by rw[fC];simp;omega)
  rw[fC] at hr
  refine eQ hg hd (run hr) (k _ gq _ ⟨off,cap,_,by rw[lA];rfl,setRow_heap w gq cur _ E _ Pr,by simpa using oD,?_,λj y hj=>?_⟩ ⟨rfl,rfl,rfl,sm,λk' _ hk=>setRow_other w gq k' _ (by simpa using hk)⟩ (.inl rfl))
  ·simp;omega
  ·rcases Nat.lt_or_ge j xs.length with h|h
   ·rw[List.getElem?_append_left h] at hj
    have:=uA j y hj
    simp only[List.getElem?_toArray]
    rw[List.append_assoc,List.getElem?_append_left so,List.getElem?_take_of_lt om]
    simpa using this
   ·rw[List.getElem?_append_right h] at hj
    have BL:j-xs.length=0:=by have:=(List.getElem?_eq_some_iff.1 hj).1;simpa using this
    rw[BL] at hj
    simp only[List.getElem?_toArray]
    rw[List.append_assoc,List.getElem?_append_right so]
    rw[show off+j-(List.take (off+xs.length*1) cur.toList).length=0 by simp;omega]
    simpa using hj
 ·have holds:∀j u',xs[j]?=some u'->w.cell? ((⟨gq,off,none⟩:Addr).add j)=some u':=λj u' hj=>by
   rw[qM,Pr.cell];exact uA j u' hj
  have hr:=run_append_grow (P:=P) w t ty E i z hT hi uO ⟨gq,off,none⟩ xs.length cap xs (by rw[fC];omega) holds ⟨b,0,none⟩ 1 1 [u] (by rw[fC];rfl) tl om om
   (growslice_fits om (Nat.le_trans (Nat.mul_le_mul (show xs.length+1<=100000000 by omega) (show i.bytes<=1000 by omega)) de))
  have oC:=grownCap_ge w (xs.length+1) cap E
  refine eQ hg hd (run hr) (k _ w.heap.size _ ⟨0,_,_,by rw[lA];rfl,heap_alloc_new w.drew _,by simpa using oC,?_,λj y hj=>?_⟩ ⟨rfl,rfl,rfl,sm,λk' hk _=>(aj.alloc [] w.drew _).block k' hk sm⟩ (.inr rfl))
  ·have dC:z.cells.size=1:=Nat.eq_of_beq_eq_true hz
   simp only[Array.size_append,List.size_toArray,size_zeroCells,dC,lC,List.length_nil]
   omega
  ·have dU:=(List.getElem?_eq_some_iff.1 hj).1
   rw[Nat.zero_add,Array.getElem?_append_left (by simp at dU⊢;omega)]
   simpa using hj
theorem ama {u:Value} {kl kc:IntKind} (N:Nat) (hT:P.underlying t=some (.slice E)) (hE:TI P E 1 bytes z) (hg:gate ops e g=true) (hd:bV n dst=true) 
  (hz:z.cells=[u].toArray) (fK:Nat.ble bytes 1000=true) (hx:ev e x= .int kl (N:Int)) (hy:ev e y= .int kc (N:Int)) (hN:N<=100000000000)
  (k:∀w',aj [] w w'->w'.heap.size=w.heap.size+1->aJ w' w.heap.size (List.replicate N u).toArray E->OW P n ops K rest (bM e dst (.slice (some ⟨w.heap.size,0,none⟩) N N)) w'):
  OW P n ops K (⟨dst,.makeSlice t x y,ty,pos,after,g⟩::rest) e w:=by
 obtain⟨i,hi,uO,fC,xG⟩:=hE.get
 have zH:bytes<=1000:=Nat.le_of_ble_eq_true fK
 have hb:(i.bytes:Int)*(N:Int)<=281474976710656:=by
  have:i.bytes*N<=1000*100000000000:=Nat.mul_le_mul om hN
  have h:((i.bytes*N:Nat):Int)<=281474976710656:=by omega
  rwa [Int.natCast_mul] at h
 have hr:=run_make (P:=P) w t E i z hT hi uO kl kc (N:Int) (N:Int) om (Int.le_refl _) hb om
 simp only[Int.toNat_natCast] at hr
 have tE:=SR z.cells N
 rw[hz] at tE
 have e1:(madeCells [u].toArray (N*1))=(List.replicate N u).toArray:=by
  apply Array.toList_inj.1
  have:([u].toArray).size=1:=rfl
  rw[this] at tE
  rw[tE]
  induction N with
  |zero=>rfl
  |succ N ih=>simp[List.replicate_succ]
 refine eQ hg hd (w':=w.alloc (.cells (madeCells z.cells (N*1)) E)) (by rw[fC] at hr;simp[execOp,hx,hy,hr]) (k _ (aj.alloc _ _ _) sm ?_)
 rw[hz,e1]
 exact aJ.alloc _ _ _
theorem Xz {L:List Nat} {E:TypeId} {T sz:Nat} {lo hi:Operand} {b off len cap l h:Nat} {k k':IntKind} (hT:P.underlying T=some (.slice E)) (hE:TI P E sz bytes z) (hg:gate ops e g=true) (hd:bV n dst=true) 
  (hx:ev e x= .slice (some ⟨b,off,none⟩) len cap) (tu:ev e lo= .int k (l:Int)) (BD:ev e hi= .int k' (h:Int)) (h1:l<=h) (h2:h<=len) {rows:List (List C)} (hr:bQ L w (.slice (some ⟨b,off,none⟩) len cap) (.sl sz rows))
  (c:∀v,bQ L w v (.sl sz ((rows.take h).drop l))->OW P n ops K rest (bM e dst v) w):OW P n ops K (⟨dst,.slice T x (some lo) (some hi) none,ty,pos,after,g⟩::rest) e w:=by
 have zq:len<=cap:=by cases hr with|nil=>exact Nat.zero_le _|sl _ _ _ _ _ _ _ hl hc=>exact hc
 have h3:h<=cap:=Nat.le_trans h2 zq
 have ck:=Pe hr h2
 refine eQ hg hd (v:=.slice (if cap=l then some ⟨b,off,none⟩ else some ⟨b,off+l*sz,none⟩) (h-l) (cap-l)) (w':=w) ?_ (c _ (P6 ck l h1 _ (λh=>iN om) (λh=>iP om)))
 simp[execOp,Instr.sliceAt,Instr.slice,hx,tu,BD,run_underlying hT,Instr.sliceBounds,Instr.sliceBound,asIntOf,h1,h3,hE.rD,qM]
end
theorem take_one {α:Type} {l:List α} {x:α} (h:l[k]?=some x):(l.take (k+1)).drop k=[x]:=by
 rw[List.take_add_one,h,List.drop_append_of_le_length (by have:=(List.getElem?_eq_some_iff.1 h).1;rw[List.length_take];omega),List.drop_eq_nil_of_le (by rw[List.length_take];omega)];rfl
def zV (z:Int):Value:=.int .i64 z
structure vV (ps:List dw) (w0 w:World) (ms:List Bool) (qv:Value) (gq:Nat) (zints:List Int):Prop where
 kp:aj [] w0 w
 out:aJ w w0.heap.size (ms.map Value.bool).toArray 4
 que:Qu w 3 qv gq (zints.map zV)
 len:ms.length=ps.length
 ne:w0.heap.size<gq
 rng:∀z,z∈zints-> -1<=z∧z<ps.length
theorem vV.pop {ms:List Bool} {qv qv':Value} {gq:Nat} {z:Int} {zints:List Int} (h:vV ps w0 w ms qv gq (z::zints)) (hq:Qu w 3 qv' gq (zints.map zV)):vV ps w0 w ms qv' gq zints:=
 ⟨h.kp,h.out,hq,h.len,h.ne,λx hx=>h.rng x (mK _ hx)⟩
theorem vV.ext {ms:List Bool} {qv:Value} {gq:Nat} {zints:List Int} (h:vV ps w0 w ms qv gq zints) (k:aj [] w w'):vV ps w0 w' ms qv gq zints:=
 ⟨h.kp.trans k,h.out.ext k,h.que.ext k,h.len,h.ne,h.rng⟩
theorem vV.push {ms:List Bool} {qv qv':Value} {gq g':Nat} {z:Int} {zints:List Int} (h:vV ps w0 w ms qv gq zints) (hq:Qu w' 3 qv' g' (zints.map zV++[zV z])) (k:aj [gq] w w') (hg:g'=gq∨g'=w.heap.size) 
  (hz: -1<=z∧z<ps.length):vV ps w0 w' ms qv' g' (zints++[z]):=by
 have hn:=h.ne
 have hl:=h.out.lt
 refine⟨h.kp.since k (λx hx=>.inr (by simp at hx;omega)),h.out.aF k so,by rw[List.map_append];exact hq,h.len,om,λx hx=>?_⟩
 rcases mA.1 hx with hx|hx
 ·exact h.rng x hx
 ·rw[List.mem_singleton.1 hx];exact hz
theorem amb {xs:List ai} {g':Nat} (h:bc [g] w v xs) (k:aj [g] w w') (hg:g'=g∨g'=w.heap.size):bc [g'] w' v xs:=
 bQ.weaken (bc.aD (bc.fresh h (L':=[g,g']) (λx hx=>by simp at hx;rcases hx with rfl|rfl;(·exact .inl sm);(·rcases hg with e|e;(·exact .inl (by simp[e]));(·exact .inr om)))) k sm) sm
theorem XA {ms:List Bool} (h:k<ms.length):(ms.map Value.bool)[0+k*1]?=some (.bool (ms.getD k false)):=by
 rw[Nat.mul_one,Nat.zero_add,List.getElem?_map,gE h,gG,gE h];rfl
theorem amc (ps:List dw) (h0:0<ps.length) (aP:ps.length<=40) (Eh:jc ps<=100000) (ba:KL ps) (v:Value) (w:World) (hv:mD [] w v ps):
  bz Tryz.prog 34 [v] w λr w'=>(∃ms:List Bool,ms.length=ps.length∧r= .slice (some ⟨w.heap.size,0,none⟩) ps.length ps.length∧aJ w' w.heap.size (ms.map Value.bool).toArray 4)∧aj [] w w':=by
 obtain⟨a,c,rfl⟩:=Ei hv
 obtain⟨b0,vv,r1,KI,r2,HW,rfl,et,mB,pK⟩:=Cj hv (su (ps:=ps) h0)
 have hK:=aj.refl [] w
 refine bS [.tmp 2] 50 Tryz.func34 rfl ach rfl rfl ?_
 refine W ?_
 refine ama (u:=.bool false) ps.length IH DV rfl rfl rfl rfl rfl rfl om λw1 aI dk vi=>?_
 have hK:=hK.ext aI
 refine W ?_
 refine fc uV oJ rfl rfl λw2 az iF dC=>?_
 have hK:=hK.ext az
 refine W ?_
 have aq7:=vi
 refine eA (λq:List Bool×Value×Nat×List Int=>[(0,.slice (some ⟨b0,vv,none⟩) ps.length c),(3,.slice (some ⟨w.heap.size,0,none⟩) ps.length ps.length),(4,q.2.1)]) (λq w'=>vV ps w w' q.1 q.2.1 q.2.2.1 q.2.2.2∧By q.1*(jc ps+1)+q.2.2.2.length<=ps.length*(jc ps+1)+1) (λq=>By q.1*(jc ps+1)+q.2.2.2.length) ((List.replicate ps.length false,.slice (some ⟨w1.heap.size,0,none⟩) 1 1,w1.heap.size,[0])) (⟨rfl,rfl,rfl⟩) (⟨⟨hK,by rw[List.map_replicate];exact vi.ext az,Qu.one iF,sm,by rw[dk];exact Nat.lt_succ_self _,by intro z hz;simp at hz;subst hz;omega⟩,by rw[alT];simp⟩) λgg w3 e3 hI=>?_
 obtain⟨ms,qv,gq,zints⟩:=gg
 dsimp only at hI⊢
 obtain⟨hI,EK⟩:=hI
 have aQ:=hI.que.form
 obtain⟨off,cap,rfl⟩:=aQ
 rw[List.length_map] at hI⊢
 have hK:=hI.kp
 refine W ?_
 refine zc rfl (λh1=>?_) (λh1=>?_)
 have dL:zints≠[]:=(by intro e;subst e;simp at h1)
 have aQ:=List.exists_cons_of_ne_nil dL
 obtain⟨z,zints,rfl⟩:=aQ
 have hzr:=hI.rng z (List.mem_cons_self ..)
 refine WI ?_
 refine zi (i:=0) uV oJ rfl rfl sm<|zl LW rfl hI.que.head<|zA<|aZ<|zr<|zm<|al7 uV oJ rfl rfl rfl rfl hI.que λqv hQ=>?_
 have hI:=hI.pop hQ
 have aQ:∃kk:Nat,kk=z.toNat:=⟨_,rfl⟩
 obtain⟨kk,ej⟩:=aQ
 refine W ?_
 apply oP 5 22 27 rfl oQ
 intro h2
 have Bx:z=(kk:Int):=(by simp at h2;omega)
 subst Bx
 refine WL ?_
 refine zl IG rfl (hI.out.at (XA (by rw[hI.len];omega))) ?_
 exact oQ
 intro xx
 refine aZ<|zc rfl (λh3=>?_) (λh3=>?_)
 refine WZ ?_
 exact⟨(ms,qv,gq,zints),⟨rfl,rfl,rfl⟩,⟨hI,by simp only[lC] at EK;dsimp only;omega⟩,by simp only[lC];omega⟩
 have Bx:z=(kk:Int)∧ms.getD kk false=false:=(by simp at h3;exact⟨by omega,by simpa using h3.2⟩)
 obtain⟨Bx,wb⟩:=Bx
 subst Bx
 have fb:kk<ps.length:=by omega
 refine WI ?_
 refine zi IH DV rfl rfl fb<|gd (o:=0+kk*1) (v:=.bool true) DV rfl rfl rfl hI.out (by rw[List.length_map,hI.len];simpa[Nat.blt_eq] using fb) λw4 aO vi df=>?_
 have hQ:=hQ.aF aO (by have:=hI.ne;simp;omega)
 have hKo:=hI.kp
 have hK:=hKo.since aO (λx hx=>.inr (by simp at hx;omega))
 have vi:aJ w4 w.heap.size ((ms.set kk true).map Value.bool).toArray 4:=by rw[List.map_set];simpa using vi
 refine WA ?_
 refine mY rfl rfl rfl rfl rfl (show IntKind.i64.wrap ((kk:Int)+1)=((kk+1:Nat):Int) from wrap_i64 _ om om)<|Xz (L:=[gq]) (l:=kk) (h:=kk+1) wq jg rfl rfl rfl rfl rfl om om (mD.ext (bQ.fresh hv (λx hx=>.inr (by have:=hI.ne;simp at hx;omega))) hK) λvs aW=>?_
 rw[take_one (show(ps.map dw.enc)[kk]?=some (dw.enc (eC ps kk)) from by rw[List.getElem?_map,su fb];rfl)] at aW
 have fl:jc [eC ps kk]<=jc ps:=by have h3:=HY fb;have h4:=KJ ps (kk+1);simp[jc] at h3 h4⊢;omega
 have oF:=Xt [eC ps kk]
 have tC:zints.length<=5000000:=by have:=Nat.mul_le_mul aP (show jc ps+1<=100001 by omega);simp only[lC] at EK;omega
 refine aA (al5 [eC ps kk] sm om (λb hb=>by simp at hb;subst hb;exact ba _ (List.mem_of_getElem? (su fb))) _ [gq] w4 aW (by have:=hQ.lt;simpa using this)) ?_
 rintro v5 w5 ⟨sJ,aN⟩
 have l3:=aN.size
 refine cN aN hK vi hQ λhK vi hQ=>?_
 have eK:=sJ
 have aQ:=dJ eK
 obtain⟨an,nn,cn,e9,rN⟩:=aQ
 subst e9
 refine W ?_
 refine eA (λq:Nat×Value×Nat×List Int=>[(0,.slice (some ⟨b0,vv,none⟩) ps.length c),(3,.slice (some ⟨w.heap.size,0,none⟩) ps.length ps.length),(4,q.2.1),(36,.slice an nn cn),(37,.int .i64 (nn:Int)),(38,.int .i64 (q.1:Int))]) (λq w'=>vV ps w w' (ms.set kk true) q.2.1 q.2.2.1 q.2.2.2∧bc [q.2.2.1] w' (.slice an nn cn) (qK [eC ps kk])∧q.1<=nn∧q.2.2.2.length=zints.length+q.1) (λq=>nn-q.1) ((0,qv,gq,zints)) (⟨rfl,rfl,rfl,rfl,rfl,rfl⟩) (⟨⟨hK,vi,hQ,by rw[List.length_set];exact hI.len,hI.ne,λz hz=>hI.rng z (mK _ hz)⟩,eK,Nat.zero_le _,rfl⟩) λgg w6 e6 hI=>?_
 obtain⟨j,qv2,g2,XB⟩:=gg
 dsimp only at hI⊢
 obtain⟨yZ,eK,hj,E8⟩:=hI
 have aQ:=yZ.que.form
 obtain⟨lG,ara,rfl⟩:=aQ
 have hK:=yZ.kp
 refine W ?_
 refine zc rfl (λh4=>?_) (λh4=>?_)
 have oz:j<nn:=(by simp at h4;omega)
 have hg:=km (xs:=qK [eC ps kk]) (i:=j) om
 have aQ:=pB eK hg
 obtain⟨b3,AW,rfl,dO⟩:=aQ
 refine WI ?_
 refine zi bh bf rfl rfl oz<|W ?_
 refine aA (Xp ps om (bX (qK [eC ps kk]) j) _ [] w6 (mD.ext hv hK)) ?_
 rintro _ w7 ⟨rfl,bW⟩
 have lf:=bW.size
 refine bI bW yZ eK λyZ eK=>?_
 refine fc uV oJ rfl rfl λw8 cE ame ld=>bI cE yZ eK λyZ eK=>?_
 refine al8 uV oJ rfl rfl rfl rfl rfl rfl yZ.que ame rfl (by rw[List.length_map];omega) λqv3 g3 w9 hQ3 aB I7=>?_
 have hI3:=yZ.push hQ3 aB I7 (by rcases alU ps (bX (qK [eC ps kk]) j) with h9|h9;(·exact h9);(·omega))
 have eK:=amb eK aB I7
 refine W ?_
 exact⟨(j+1,qv3,g3,XB++[uR ps (bX (qK [eC ps kk]) j)]),⟨rfl,rfl,rfl,rfl,rfl,rfl⟩,⟨hI3,eK,by dsimp only;omega,by rw[lA];simp;omega⟩,by dsimp only;omega⟩
 have XC:=Xv (ms:=ms) (k:=kk) (by rw[gE (by rw[hI.len];exact fb)];rw[gG,gE (by rw[hI.len];exact fb)] at wb;simpa using wb)
 rw[<-XC,Nat.add_mul] at EK
 simp only[lC] at EK
 refine WZ ?_
 exact⟨(ms.set kk true,_,g2,XB),⟨rfl,rfl,rfl⟩,⟨yZ,by dsimp only;omega⟩,by dsimp only;rw[<-XC,Nat.add_mul];simp only[lC];omega⟩
 refine W ?_
 exact⟨_,rfl,⟨ms,hI.len,rfl,hI.out⟩,hI.kp⟩
def Bd (B b:Nat) (l:ai) (w:World):Prop:=Lib.IsBuilderF 113 5 B b (Lib.byteCells l) w
theorem Bd.ext (h:Bd B b l w) (k:aj [] w w'):Bd B b l w':=by
 have cell:∀{i:Nat} {o:Obj},w.heap[i]?=some o->w'.heap[i]?=some o:=fun{i o} hi=>(k.block i (Array.getElem?_eq_some_iff.1 hi).1 sm).trans hi
 have key:∀p,Lib.BuilderAtF 113 5 B b p (Lib.byteCells l) w->Lib.BuilderAtF 113 5 B b p (Lib.byteCells l) w':=by
  rintro p ⟨hB,v,hb,dv,dL⟩
  refine⟨hB,v,cell hb,⟨dv.1,?_⟩,dL⟩
  rcases dv.2 with h|⟨g,cap,cur,fz,h1,h2,h3,h4⟩
  ·exact .inl h
  ·exact .inr ⟨g,cap,cur,fz,h1,h2,cell h3,h4⟩
 exact h.imp (key _) (key _)
structure pq (B b:Nat) (w w':World):Prop where
 below:RowKit.Below B w w'
 others:Lib.OthersKept 5 (some b) w w'
theorem pq.trans {w'':World} (h:pq B b w w') (k:pq B b w' w''):pq B b w w'':=⟨h.below.trans k.below,h.others.trans k.others⟩
theorem pq.of {b:Nat} (h:aj [] w w') (hB:B<=w.heap.size):pq B b w w':=
 ⟨h.below hB sm,λk o hk _ _=>(h.block k (Array.getElem?_eq_some_iff.1 hk).1 sm).trans hk⟩
theorem pq.aF (k:pq w0.heap.size b w w') (h:aj [] w0 w):aj [] w0 w':=Dz h k.below
theorem aJ.others {c:Nat} {cs:Array Value} {T:TypeId} (h:aJ w c cs T) (k:pq B b w w') (hc:c≠b) (hT:T≠5):aJ w' c cs T:=
 k.others c _ h (by simpa using hc) (by intro c' fz he;cases he;exact hT rfl)
theorem ami (B b:Nat) (l s:ai) (w:World) (h:Bd B b l w) (hlen:l.length+s.length<=140737488355328) (ox:B<=w.heap.size):
  bz Tryz.prog 111 [.pointer (some ⟨b,0,none⟩),str s] w λ_ w'=>Bd B b (l++s) w'∧pq B b w w':=
 ⟨qL.mk' Tryz.func111 rfl RP,Calls.mono (Tryz.Builder_WriteString_k B b _ ⟨s.toArray⟩ w h (by rw[Lib.byteCells_length];simpa[ByteArray.size] using hlen) ox) λ_ _ ⟨he,hb,hk,ho⟩=>⟨_,he,.inr (by have e1:Lib.byteCells (l++s)=Lib.byteCells l++Lib.strCells ⟨s.toArray⟩:=by{simp[Lib.byteCells,Lib.strCells]};rw[e1];exact hb),hk,ho⟩⟩
theorem Ps (B b:Nat) (l:ai) (c:Nat) (hc:c<256) (w:World) (h:Bd B b l w) (hlen:l.length+1<=140737488355328) (ox:B<=w.heap.size):
  bz Tryz.prog 112 [.pointer (some ⟨b,0,none⟩),.int .u8 (c:Int)] w λ_ w'=>Bd B b (l++[UInt8.ofNat c]) w'∧pq B b w w':=
 ⟨qL.mk' Tryz.func112 rfl aaI,Calls.mono (Tryz.Builder_WriteByte_k B b _ (c:Int) w h (by rw[Lib.byteCells_length];exact hlen) ox) λ_ _ ⟨he,hb,hk,ho⟩=>⟨_,he,.inr (by have e1:Lib.byteCells (l++[UInt8.ofNat c])=Lib.byteCells l++[.int .u8 (c:Int)]:=by{simp[Lib.byteCells];omega};rw[e1];exact hb),hk,ho⟩⟩
theorem amj (B b:Nat) (l:ai) (w:World) (h:Bd B b l w) (ox:B<=w.heap.size):
  bz Tryz.prog 79 [.pointer (some ⟨b,0,none⟩)] w λv w'=>v=str l∧RowKit.Below B w w':=
 ⟨qL.mk' Tryz.func79 rfl RU,Calls.mono (Tryz.Builder_String_any_f B b l w h ox) λ_ _ ⟨he,hb,hk⟩=>⟨_,he,rfl,hk⟩⟩
theorem amk:∀(m:Nat) (t:aq),t.size<=m->WF t->∀(v:Value) (L:List Nat) (w0 w:World) (b:Nat) (l:ai),bB L w0 v t->aj [] w0 w->b<w.heap.size->Bd w0.heap.size b l w->l.length+t.text.length<=1000000000->t.size<=1000000000->
  bz Tryz.prog 78 [v,.pointer (some ⟨b,0,none⟩)] w λr w'=>r= .tuple #[]∧Bd w0.heap.size b (l++t.text) w'∧pq w0.heap.size b w w':=by
 intro m
 induction m with
 |zero=>intro t h cm;have:=LA cm;omega
 |succ m ih=>
  intro t hm cm v L w0 w b l hv hK Je vW hlen lD
  have cO:=hv
  obtain⟨a,n,c,rfl,hn,aP⟩:=cU hv
  subst hn
  have ob:=wj t
  have iR:=aj.refl [] w
  have XD:=hK.size
  refine bS [] 32 Tryz.func78 rfl acF rfl rfl ?_
  refine zr<|eH rfl λw1 aI aU dk=>bI aI hK iR λhK iR=>?_
  refine W ?_
  refine aA (Pg t _ L w1 (cO.ext hK)) ?_
  rintro _ w2 ⟨rfl,az⟩
  have dm:=az.size
  refine cN az hK iR aU λhK iR aU=>?_
  refine aZ<|zc rfl (λh1=>?_) (λh1=>?_)
  have yj:=RH cm h1
  refine W ?_
  refine aA (ami w0.heap.size b l t.aw w2 (vW.ext iR) (by rw[<-yj];omega) (by have:=hK.size;omega)) ?_
  rintro _ w3 ⟨y0,hF⟩
  refine W ?_
  exact⟨_,rfl,rfl,by rw[yj];exact y0,(pq.of iR XD).trans hF⟩
  have XE:=vW.ext iR
  have hF:=pq.of (b:=b) iR XD
  have arb:w.heap.size≠b:=by omega
  refine W ?_
  refine eA (λk:Nat=>[(1,.pointer (some ⟨b,0,none⟩)),(2,.pointer (some ⟨w.heap.size,0,none⟩)),(13,.slice a t.ak.length c),(14,.int .i64 (t.ak.length:Int)),(15,.int .i64 (k:Int))]) (λk w'=>aj [] w0 w'∧Bd w0.heap.size b (l++pre (t.ak.take k)) w'∧pq w0.heap.size b w w'∧k<=t.ak.length∧w.heap.size<=w'.heap.size) (λk=>t.ak.length-k) (0) (⟨rfl,rfl,rfl,rfl,rfl⟩) (⟨hK,by simpa[pre] using XE,hF,om,iR.size⟩) λgg w3 e3 hI=>?_
  obtain⟨hK,vW,hF,hk,fC⟩:=hI
  clear iR XE
  refine W ?_
  refine zc rfl (λh2=>?_) (λh2=>?_)
  have ey:=gh (ps:=t.ak) (i:=gg) om
  obtain⟨b1,eX,pa,pn,pc,rfl,jl,eP,fM⟩:=iJ aP ey
  subst eP
  have yc:=cm.nth (i:=gg) om
  have mZ:=kX (t:=t) (i:=gg) om
  have arc:=RI cm hk
  have ard:=RI cm (k:=gg+1) om
  have N6:=RF (ps:=t.ak) (k:=gg) om
  have yb:=congrArg List.length N6
  rw[lA,lC] at yb
  refine WZ ?_
  have iR:=aj.refl [] w3
  refine WL ?_
  refine zL tJ fg rfl (jl.ext hK) rfl<|dy fg rfl rfl rfl λw4 aO cg gQ=>?_
  have hK:=hK.grow;have hK:=hK.ext aO;have iR:=iR.grow;have iR:=iR.ext aO
  refine zA<|cJ fg rfl rfl rfl cg rfl λw5 aN cg ig=>?_
  have hK:=hK.aD aN sx;have iR:=iR.aD aN sx
  refine W ?_
  refine ix (λ_:Unit=>[(1,.pointer (some ⟨b,0,none⟩)),(2,.pointer (some ⟨w.heap.size,0,none⟩)),(5,.pointer (some ⟨w3.heap.size,0,none⟩)),(13,.slice (some ⟨b1,eX,none⟩) t.ak.length c),(14,.int .i64 (t.ak.length:Int)),(15,.int .i64 (gg:Int))]) (λ_ w'=>aj [] w0 w'∧Bd w0.heap.size b (l++pre (t.ak.take gg)++[if gg=0 then 40 else 32]) w'∧pq w0.heap.size b w w'∧w.heap.size<=w'.heap.size∧aJ w' w3.heap.size [str (nth t.ak gg).aw,.slice pa (nth t.ak gg).ak.length pc].toArray 66) ?_ ?_
  refine zc rfl (λh3=>?_) (λh3=>?_)
  have yd:gg=0:=by omega
  refine kH<|zm<|aA (Ps w0.heap.size b _ 40 de w5 (vW.ext iR) so (by have:=hK.size;omega)) ?_
  rintro _ w6 ⟨y0,ka⟩
  have dm:=ka.below.size
  refine W ?_
  exact⟨(),⟨rfl,rfl,rfl,rfl,rfl,rfl⟩,ka.aF hK,by rw[iP yd];exact y0,(hF.trans (pq.of iR (by have:=hF.below.size;omega))).trans ka,by have:=iR.size;omega,cg.others ka om de⟩
  have yd:¬gg=0:=by omega
  refine kH<|zm<|aA (Ps w0.heap.size b _ 32 de w5 (vW.ext iR) so (by have:=hK.size;omega)) ?_
  rintro _ w6 ⟨y0,ka⟩
  have dm:=ka.below.size
  refine W ?_
  exact⟨(),⟨rfl,rfl,rfl,rfl,rfl,rfl⟩,ka.aF hK,by rw[iN yd];exact y0,(hF.trans (pq.of iR (by have:=hF.below.size;omega))).trans ka,by have:=iR.size;omega,cg.others ka om de⟩
  intro gu w7 e7 hI
  clear hK vW hF cg iR
  obtain⟨hK,vW,hF,arf,cg⟩:=hI
  refine W ?_
  refine aA (ih (nth t.ak gg) om yc _ L w0 w7 b _ (kV fM) hK om vW so om) ?_
  rintro _ w8 ⟨rfl,y0,ka⟩
  have dm:=ka.below.size
  have hK:=ka.aF hK
  refine W ?_
  exact⟨gg+1,⟨rfl,rfl,rfl,rfl,rfl⟩,⟨hK,by rw[N6];simpa using y0,hF.trans ka,om,om⟩,om⟩
  have fG:gg=t.ak.length:=by omega
  have wQ:=RG cm om
  have mE:=congrArg List.length wQ
  rw[lA] at mE
  subst fG
  refine W ?_
  refine aA (Ps w0.heap.size b _ 41 de w3 vW (by simp at mE⊢;omega) (by have:=hK.size;omega)) ?_
  rintro _ w4 ⟨y0,ka⟩
  refine W ?_
  exact⟨_,rfl,rfl,by rw[<-wQ,<-List.append_assoc];exact y0,hF.trans ka⟩
theorem aml (t:aq) (cm:WF t) (lD:t.size<=100000000) (hl:t.text.length<=100000000) (v:Value) (L:List Nat) (w:World) (hv:bB L w v t):
  bz Tryz.prog 48 [v] w λr w'=>r=str t.text∧aj [] w w':=by
 have cO:=hv
 obtain⟨a,n,c,rfl,hn,aP⟩:=cU hv
 have hK:=aj.refl [] w
 refine bS [.tmp 2] 7 Tryz.func48 rfl acq rfl rfl ?_
 refine zr<|eH rfl λw1 aI aX dk=>zA<|aZ<|zr<|dy LV rfl rfl rfl λw2 az cQ dC=>?_
 have aX:=aX.ext az
 refine W ?_
 refine aA (amk t.size t (lR _) cm _ L w1 w2 w1.heap.size [] (cO.ext aI) az om (.inl ⟨lR _,_,cQ,⟨rfl,.inl ⟨rfl,rfl⟩⟩,by simp[Value.ownBlock]⟩) so om) ?_
 rintro _ w3 ⟨rfl,vW,hF⟩
 refine aZ<|zr<|aA (amj w1.heap.size w1.heap.size _ w3 vW (by have:=hF.below.size;omega)) ?_
 rintro _ w4 ⟨rfl,aO⟩
 refine W ?_
 exact⟨_,rfl,rfl,aI.trans (Dz (hF.aF az) aO)⟩
theorem XF (ts:List aq) (h:DT ts) (v:Value) (L:List Nat) (w:World) (hv:eM L w v ts):
  bz Tryz.prog 41 [v] w λr w'=>(∃a n c g,r= .slice a n c∧n=ts.length∧cG w' 9 (.slice a n c) g (ts.map aq.text)∧(∀b,g=some b->w.heap.size<=b)∧(ts=[]->g=none))∧aj [] w w':=by
 obtain⟨a,c,rfl⟩:=Xj hv
 have hK:=aj.refl [] w
 have hl:=h.1
 refine bS [.tmp 2] 19 Tryz.func41 rfl aco rfl rfl ?_
 refine W ?_
 refine eA (λq:Nat×Option Addr×Nat×Option Nat=>[(3,.slice q.2.1 ((ts.take q.1).map aq.text).length q.2.2.1),(6,.slice a ts.length c),(7,.int .i64 (ts.length:Int)),(8,.int .i64 (q.1:Int))]) (λq w'=>aj [] w w'∧Gr w.heap.size [] w' 9 1 (.slice q.2.1 ((ts.take q.1).map aq.text).length q.2.2.1) q.2.2.2 (fU ((ts.take q.1).map aq.text))∧q.1<=ts.length∧(q.1=0->q.2.2.2=none)) (λq=>ts.length-q.1) ((0,none,0,none)) (⟨rfl,rfl,rfl,rfl⟩) (⟨hK,Gr.nil sm om,sm,λ_=>rfl⟩) λgg w1 e1 hI=>?_
 obtain⟨i,a3,cc,g⟩:=gg
 dsimp only at hI⊢
 obtain⟨hK,hO,hk,yd⟩:=hI
 have fC:=hK.size
 refine W ?_
 refine zc rfl (λh1=>?_) (λh1=>?_)
 have ey:=gh (ps:=ts) (i:=i) om
 obtain⟨b1,eX,pa,pn,pc,rfl,jl,eP,fM⟩:=iJ hv ey
 obtain⟨cm,cV,dm⟩:=h.2 (nth ts i) (List.mem_of_getElem? ey)
 refine WL ?_
 refine zL tJ fg rfl (jl.ext hK) rfl<|dy fg rfl rfl rfl λw2 az cg dC=>?_
 have hK:=hK.grow;have hK:=hK.ext az;have hO:=hO.alloc az dC
 refine cJ fg rfl rfl rfl cg rfl λw3 aH cg gJ=>?_
 have hK:=hK.aD aH sx;have hO:=hO.aD aH sx
 refine W ?_
 refine aA (aml (nth ts i) cm cV dm _ L w3 ((kV fM).ext hK)) ?_
 rintro _ w4 ⟨rfl,aO⟩
 have fE:=aO.size
 refine bI aO hK hO λhK hO=>?_
 refine fc bh bf rfl rfl λw5 aN EB ig=>bI aN hK hO λhK hO=>?_
 refine QD bh bf rfl rfl rfl rfl rfl rfl hO EB (by rw[DR _ hk];omega) λa4 fR g4 w6 iY bN=>?_
 have hK:=hO.since hK bN
 rw[DQ aq.text ey] at iY⊢
 refine W ?_
 exact⟨(i+1,a4,fR,g4),⟨rfl,rfl,rfl,rfl⟩,⟨hK,iY.gP sm,by dsimp only;omega,by dsimp only;intro h;omega⟩,by dsimp only;omega⟩
 rw[FY aq.text om] at hO⊢
 refine W ?_
 exact⟨_,rfl,⟨_,_,_,g,rfl,List.length_map _,hO.uP,hO.low,λh=>yd (by rw[h] at hk;simp at hk;omega)⟩,hK⟩
def s9 (B:Nat) (xs:List ai) (v:Value) (w:World):Prop:=∃a n c g,v= .slice a n c∧cG w 9 (.slice a n c) g xs∧∀b,g=some b->B<=b
theorem s9.ext {xs:List ai} (h:s9 B xs v w) (k:aj [] w w'):s9 B xs v w':=let⟨a,n,c,g,e,h1,h2⟩:=h;⟨a,n,c,g,e,h1.ext k,h2⟩
theorem s9.rs {xs:List ai} (h:s9 B xs v w) (hL:∀x,x∈L->x<B):bc L w v xs:=by
 obtain⟨a,n,c,g,rfl,h1,h2⟩:=h
 exact h1.rep λb hb hx=>by have:=hL b hx;have:=h2 b hb;omega
def HZ (B:Nat) (l:ai) (xs ys:List ai) (v:Value) (w:World):Prop:=∃a1 n1 c1 a2 n2 c2,v= .agg #[str l,.slice a1 n1 c1,.slice a2 n2 c2]∧s9 B xs (.slice a1 n1 c1) w∧s9 B ys (.slice a2 n2 c2) w
theorem HZ.ext {xs ys:List ai} (h:HZ B l xs ys v w) (k:aj [] w w'):HZ B l xs ys v w':=
 let⟨a1,n1,c1,a2,n2,c2,e,h1,h2⟩:=h;⟨a1,n1,c1,a2,n2,c2,e,h1.ext k,h2.ext k⟩
def H0 (B:Nat) (l:ai) (xs ys:List ai) (v:Value) (w:World):Prop:=∃b a1 n1 c1 a2 n2 c2,v= .slice (some ⟨b,0,none⟩) 1 1∧aJ w b [str l,.slice a1 n1 c1,.slice a2 n2 c2].toArray 58∧s9 B xs (.slice a1 n1 c1) w∧s9 B ys (.slice a2 n2 c2) w
theorem H0.ext {xs ys:List ai} (h:H0 B l xs ys v w) (k:aj [] w w'):H0 B l xs ys v w':=
 let⟨b,a1,n1,c1,a2,n2,c2,e,hb,h1,h2⟩:=h;⟨b,a1,n1,c1,a2,n2,c2,e,hb.ext k,h1.ext k,h2.ext k⟩
theorem amm (ps:List dw) (aP:ps.length<=1000) (nD:∀b,b∈ps->DT b.regs∧DT b.code) (v:Value) (L Lv:List Nat) (w:World) (hv:mD Lv w v ps) (hL:∀x,x∈L->x<w.heap.size):
  bz Tryz.prog 35 [v] w λr w'=>nR L w' r (ps.map mW)∧aj [] w w':=by
 obtain⟨a,c,rfl⟩:=Ei hv
 have hK:=aj.refl [] w
 refine bS [.tmp 2] 26 Tryz.func35 rfl aci rfl rfl ?_
 refine W ?_
 refine eA (λq:Nat×Option Addr×Nat×Option Nat=>[(3,.slice q.2.1 ((ps.take q.1).map mW).length q.2.2.1),(6,.slice a ps.length c),(7,.int .i64 (ps.length:Int)),(8,.int .i64 (q.1:Int))]) (λq w'=>aj [] w w'∧Gr w.heap.size L w' 58 3 (.slice q.2.1 ((ps.take q.1).map mW).length q.2.2.1) q.2.2.2 (((ps.take q.1).map mW).map Bk.enc)∧q.1<=ps.length) (λq=>ps.length-q.1) ((0,none,0,none)) (⟨rfl,rfl,rfl,rfl⟩) (⟨hK,Gr.nil hL (lR _),sm⟩) λgg w1 e1 hI=>?_
 obtain⟨i,a3,cc,g⟩:=gg
 dsimp only at hI⊢
 obtain⟨hK,hO,hk⟩:=hI
 have fC:=hK.size
 refine W ?_
 refine zc rfl (λh1=>?_) (λh1=>?_)
 have hi:i<ps.length:=by omega
 have hp:=su (ps:=ps) hi
 have aQ:=Cj hv hp
 obtain⟨b,off,r1,KI,r2,HW,rfl,hc,mB,pK⟩:=aQ
 have XG:=nD _ (List.mem_of_getElem? hp)
 refine WI ?_
 refine zi wq jg rfl rfl hi<|zL zT jg rfl (hc.ext hK) rfl<|dy jg rfl rfl rfl λw2 az cg dC=>?_
 have hK:=hK.grow;have hK:=hK.ext az;have hO:=hO.alloc az dC
 refine cJ jg rfl rfl rfl cg rfl λw3 aH cg gJ=>?_
 have hK:=hK.aD aH sx;have hO:=hO.aD aH sx
 refine W ?_
 have aQ:∃B:Nat,B=w3.heap.size:=⟨_,rfl⟩
 obtain⟨B,hB⟩:=aQ
 have iR:=aj.refl [] w3
 have cL:=hO.all
 rw[<-hB] at cL
 apply uZ dj 11 (rA 12 11) (rA 12 11) [[],[],[1],[],[3],[4],[],[6],[7],[2,5,8],[9]] [It.v _,It.v _,It.v _,It.v _,It.v _,It.p (fun(v:Value) (ww:World)=>s9 B ((eC ps i).regs.map aq.text) v ww),It.v _,It.v _,It.p (fun(v:Value) (ww:World)=>s9 B ((eC ps i).code.map aq.text) v ww),It.p (fun(v:Value) (ww:World)=>HZ B (eC ps i).aM ((eC ps i).regs.map aq.text) ((eC ps i).code.map aq.text) v ww),It.p (fun(v:Value) (ww:World)=>H0 B (eC ps i).aM ((eC ps i).regs.map aq.text) ((eC ps i).code.map aq.text) v ww)] de (by exact⟨λv w w' h k=>s9.ext h k,λv w w' h k=>s9.ext h k,λv w w' h k=>HZ.ext h k,λv w w' h k=>H0.ext h k,trivial⟩)
 intro wd aC
 refine VA ?_
 refine vk aC (λx w4 aO=>?_) ?_
 have hK:=hK.ext aO
 refine aA (XF _ XG.1 _ _ w4 (mB.ext hK)) ?_
 rintro v5 w5 ⟨sJ,aN⟩
 have l3:=aN.size
 obtain⟨a7,n7,c7,g7,rfl,hn7,lf,Pt,oX⟩:=sJ
 exact pf aN (⟨a7,n7,c7,g7,rfl,lf,λb hb=>by have:=Pt b hb;have:=aO.size;omega⟩)
 refine VA ?_
 refine vk aC (λx w4 aO=>?_) ?_
 have hK:=hK.ext aO
 refine aA (XF _ XG.2 _ _ w4 (pK.ext hK)) ?_
 rintro v5 w5 ⟨sJ,aN⟩
 have l3:=aN.size
 obtain⟨a7,n7,c7,g7,rfl,hn7,lf,Pt,oX⟩:=sJ
 exact pf aN (⟨a7,n7,c7,g7,rfl,lf,λb hb=>by have:=Pt b hb;have:=aO.size;omega⟩)
 refine vk aC (λx w4 aO=>?_) ?_
 intro v5 d5
 intro v8 d8
 have d5z:=d5
 have d8z:=d8
 obtain⟨a7,n7,c7,g7,e7,h7⟩:=d5
 obtain⟨a8,n8,c8,g8,e8,h8⟩:=d8
 subst e7
 subst e8
 refine js (IB _ _ _ _ _ _ _ _) rfl rfl ?_
 exact pf (aj.refl _ _) (⟨_,_,_,_,_,_,rfl,d5z,d8z⟩)
 refine vk aC (λx w4 aO=>?_) ?_
 intro v9 d9
 obtain⟨a7,n7,c7,a8,n8,c8,e9,h7,h8⟩:=d9
 subst e9
 refine fc iL fV rfl rfl λw5 aN rW ig=>?_
 exact pf aN (⟨_,_,_,_,_,_,_,rfl,rW,h7.ext aN,h8.ext aN⟩)
 exact trivial
 intro x oZ jy
 intro v5 d5
 intro v8 d8
 intro v9 d9
 intro v10 d10
 refine bI jy hK hO λhK hO=>?_
 change OW _ _ _ _ _ (bo (bj _ x _) (zZ 12 [_,_,_,_,_,_,_,_,_,_,_])) _
 obtain⟨nb,a7,n7,c7,a8,n8,c8,e9,uq,h7,h8⟩:=d10
 subst e9
 refine DM (row:=Bk.enc (mW (eC ps i))) iL fV rfl rfl rfl rfl rfl rfl hO uq rfl rfl ⟨.val _,h7.rs cL,h8.rs cL,trivial⟩ (by rw[List.length_map,DR _ hk];omega) λa4 fR g4 o6 iY iX=>?_
 have hK:=hO.since hK iX
 have e1:((ps.take i).map mW).map Bk.enc++[Bk.enc (mW (eC ps i))]=((ps.take (i+1)).map mW).map Bk.enc:=by rw[<-DQ mW hp,List.map_append];rfl
 have e2:(((ps.take i).map mW).map Bk.enc).length+1=((ps.take (i+1)).map mW).length:=by rw[<-DQ mW hp];simp
 rw[e1,e2] at iY
 rw[e2]
 refine W ?_
 exact⟨(i+1,a4,fR,g4),⟨rfl,rfl,rfl,rfl⟩,⟨hK,iY.gP (λx hx=>by simp[hx]),by dsimp only;omega⟩,by dsimp only;omega⟩
 rw[FY mW om] at hO⊢
 refine W ?_
 exact⟨_,rfl,hO.tF,hK⟩
theorem kQ (z:Nat) (h:z<4611686018427387904) (y:Int) (e:y=(z:Int)):IntKind.i64.wrap y=(z:Int):=by
 rw[e];exact wrap_i64 _ om om
theorem lQ (k:Nat) (hk:1<=k) (az:k<=1000000) (br q:Nat) (hq:q<=1000000000) (w:World) (h:dD w br q):
  bz Tryz.prog 62 [.pointer (some ⟨br,0,none⟩),.int .i64 (k:Int)] w λr w'=>(∃z:Nat,r= .int .i64 (z:Int)∧z<k)∧dD w' br (q+1)∧aj [br] w w':=by
 obtain⟨a,n,c,p,bs,oh,hp,cL,hn⟩:=h
 have fK:=cL [br] sm
 have oF:n=bs.length:=by obtain⟨a',c',e',_⟩:=rC fK;cases e';exact Fh bs
 have hdiv:=Nat.div_le_self p n
 refine bS [.tmp 4] 99 Tryz.func62 rfl acw rfl rfl ?_
 refine WA ?_
 refine mY rfl rfl rfl rfl rfl (kQ (p+1) om _ om)<|Fp rfl rfl rfl<|zf RW rfl<|gd (o:=1) oJ rfl rfl rfl oh rfl λw1 aI oh df=>?_
 have fK:=bQ.aD fK aI sm
 have hK:=aI
 have hQ:dD w1 br (q+1):=⟨a,n,c,p+1,bs,oh,om,W4 cL aI sm,hn⟩
 refine W ?_
 apply oP 7 17 24 rfl oQ
 intro _
 refine WZ ?_
 exact oQ
 intro xx
 refine aZ<|zc rfl (λh2=>?_) (λh2=>?_)
 have h0:n=0:=(by simp at h2;omega)
 refine W ?_
 exact⟨_,rfl,⟨0,rfl,om⟩,hQ,hK⟩
 have h0:0<n:=(by simp at h2;omega)
 refine WA ?_
 refine xK rfl rfl rfl rfl rfl (kQ p om _ om)<|W ?_
 refine zc rfl (λh3=>?_) (λh3=>?_)
 have h1:p<n:=(by simp at h3;omega)
 have p6:=KG fK (i:=p) om
 obtain⟨b1,eX,x1,e1,bK⟩:=p6
 cases e1
 have ik:=x1.toNat_lt
 refine WI ?_
 refine zi BZ F3 rfl rfl h1<|W ?_
 refine xL xR wo rfl rfl rfl (wrap_i64 _ om om)<|zm<|Ft rfl rfl rfl rfl rfl om<|zA<|aZ<|jZ ?_
 exact⟨_,rfl,⟨x1.toNat%k,rfl,Nat.mod_lt _ om⟩,hQ,hK⟩
 have h1:=Nat.mod_lt p h0
 have h2:=Nat.mod_lt (p*7+3) h0
 have p6:=KG fK (i:=p%n) om
 obtain⟨b1,eX,x1,e1,bK⟩:=p6
 cases e1
 have ik:=x1.toNat_lt
 have iO:=KG fK (i:=(p*7+3)%n) om
 obtain⟨b2,lG,x2,e2,bU⟩:=iO
 cases e2
 have fj:=x2.toNat_lt
 refine WZ ?_
 apply dV dj 46 [47,48,49,50,51,52,53,54,55,56,57,58,59,60,61,62,63,64,65,66,67,68,69,70,71,72,73,74,75,76,77,78,79,80,81,82,83,84,85,86,87,88,89,90,91,6] [[],[0],[1],[2],[],[],[5],[6],[7],[8],[4,9],[3,10],[11],[12],[13],[],[15],[16],[17],[],[19],[20],[],[22],[23],[24],[25],[21,26],[18,27],[28],[29],[30],[14,31],[],[33],[32,34],[],[],[37],[38],[39],[40],[36,41],[42],[35,43],[44]] (it [_,_,_,_,_,_,_,_,_,_,_,_,_,_,_,_,_,_,_,_,_,_,_,_,_,_,_,_,_,_,_,_,_,_,_,_,_,_,_,_,_,_,_,_,_,_]) de rfl
 intro wd aC
 refine VA ?_
 refine vk aC (λx w2 az=>?_) ?_
 refine Ft rfl rfl rfl rfl rfl om ?_
 exact pv
 refine VA ?_
 refine vk aC (λx w2 az=>?_) ?_
 refine xL xR wo rfl rfl rfl (kQ x1.toNat om _ rfl) ?_
 exact pv
 refine vk aC (λx w2 az=>?_) ?_
 refine Ib rfl rfl rfl rfl rfl (kQ (x1.toNat*131) om _ om) ?_
 exact pv
 refine Ap ?_
 refine vk aC (λx w2 az=>?_) ?_
 refine WZ ?_
 exact pv
 refine vc (λ_ _ _=>WZ pv) ?_
 refine vk aC (λx w2 az=>?_) ?_
 have oh:=oh.ext az
 refine WZ ?_
 exact pv
 refine vc (λ_ _ _=>WZ pv) ?_
 refine VA ?_
 refine vk aC (λx w2 az=>?_) ?_
 refine Ft rfl rfl rfl rfl rfl om ?_
 exact pv
 refine VA ?_
 refine vk aC (λx w2 az=>?_) ?_
 refine xL xR wo rfl rfl rfl (kQ x2.toNat om _ rfl) ?_
 exact pv
 refine vk aC (λx w2 az=>?_) ?_
 refine Ib rfl rfl rfl rfl rfl (kQ (x2.toNat*1117) om _ om) ?_
 exact pv
 refine vk aC (λx w2 az=>?_) ?_
 refine mY rfl rfl rfl rfl rfl (kQ (x1.toNat*131+x2.toNat*1117) om _ om) ?_
 exact pv
 refine Ap ?_
 refine VA ?_
 refine vk aC (λx w2 az=>?_) ?_
 refine K1 rfl rfl rfl rfl rfl om (kQ (p/n) om _ rfl) ?_
 exact pv
 refine vk aC (λx w2 az=>?_) ?_
 refine Ib rfl rfl rfl rfl rfl (kQ (p/n*53) om _ sm) ?_
 exact pv
 refine vk aC (λx w2 az=>?_) ?_
 refine mY rfl rfl rfl rfl rfl (kQ (x1.toNat*131+x2.toNat*1117+p*29+p/n*53) om _ sm) ?_
 exact pv
 exact VZ
 intro x o5 gR
 change OW _ _ _ _ [] (bo (bj _ x _) (zZ 47 [_,_,_,_,_,_,_,_,_,_,_,_,_,_,_,_,_,_,_,_,_,_,_,_,_,_,_,_,_,_,_,_,_,_,_,_,_,_,_,_,_,_,_,_,_]++[(6,_)])) _
 have hX:x1.toNat*131+x2.toNat*1117+p*29+p/n*53<4611686018427387904:=om
 have hXx:∃z,z=x1.toNat*131+x2.toNat*1117+p*29+p/n*53:=⟨_,rfl⟩
 obtain⟨X,hXe⟩:=hXx
 rw[<-hXe] at hX⊢
 refine bI gR hQ hK λhQ hK=>?_
 refine W ?_
 refine K1 (b:=64) rfl rfl rfl rfl rfl om (kQ (X/64) om _ rfl)<|akY rfl rfl rfl rfl om om<|zA<|aZ<|zr<|zm<|zm<|Ft rfl rfl rfl rfl rfl om<|zA<|aZ<|jZ ?_
 exact⟨_,rfl,⟨(X^^^X/64)%k,rfl,Nat.mod_lt _ om⟩,hQ,hK⟩
theorem amq (bs:List UInt8) (hb:bs.length<=1000000000) (v:Value) (w:World) (hv:bQ [] w v (.sl 1 (qJ bs))):
  bz Tryz.prog 37 [v] w λr w'=>(∃br,r= .pointer (some ⟨br,0,none⟩)∧w.heap.size<=br∧dD w' br 0)∧aj [] w w':=by
 obtain⟨a,c,rfl,_⟩:=rC hv
 rw[Fh]
 rw[Fh] at hv
 have hK:=aj.refl [] w
 refine bS [.tmp 2] 11 Tryz.func37 rfl acj rfl rfl ?_
 refine W ?_
 refine ix (λq:Option Addr×Nat×Nat=>[(0,.slice q.1 q.2.1 q.2.2)]) (λq ww=>aj [] w ww∧(∃bs',bQ [] ww (.slice q.1 q.2.1 q.2.2) (.sl 1 (qJ bs')))∧q.2.1<=1000000000) ?_ ?_
 refine zc rfl (λh1=>?_) (λh1=>?_)
 have h2:2000<bs.length:=om
 have hg:=KG hv (i:=0) om
 obtain⟨b1,eX,x1,e1,_⟩:=hg
 cases e1
 refine kH<|zm<|W3 (h:=2000) BZ F3 rfl rfl rfl rfl om hv<|zA<|aZ ?_
 exact⟨(_,2000,_),rfl,hK,⟨bs.take 2000,by have:=Pe hv (h:=2000) om;rw[show(qJ bs).take 2000=qJ (bs.take 2000) from by simp[qJ,List.map_take]] at this;exact this⟩,by show 2000<=_;omega⟩
 refine WZ ?_
 exact⟨(_,_,_),rfl,hK,⟨bs,hv⟩,hb⟩
 intro gu w1 e1 hI
 obtain⟨a2,n2,c2⟩:=gu
 dsimp only at hI⊢
 obtain⟨hK,⟨XH,Pu⟩,eU⟩:=hI
 have amr:=Pu
 have mG:=hK.size
 refine zr<|zm<|js (acX _ _ _ _) rfl rfl<|eH rfl λw2 az qp dC=>?_
 have hK:=hK.ext az
 refine W ?_
 exact⟨_,rfl,⟨_,rfl,mG,⟨a2,n2,c2,0,XH,qp,lR _,λL hL=>(bQ.fresh amr (L':=L) (λx hx=>.inr (hL x hx))).ext az,eU⟩⟩,hK⟩
theorem mi (xs:List ai) (dL:0<xs.length) (hl:xs.length<=1000000) (br q:Nat) (hq:q<=1000000000) (v:Value) (w:World) (h:dD w br q) (hv:bc [br] w v xs):
  bz Tryz.prog 69 [.pointer (some ⟨br,0,none⟩),v] w λr w'=>(∃x,x∈xs∧r=str x)∧dD w' br (q+1)∧aj [br] w w':=by
 obtain⟨a,n,c,rfl,hn⟩:=dJ hv
 subst hn
 refine bS [.tmp 4] 12 Tryz.func69 rfl acB rfl rfl ?_
 refine W ?_
 refine aA (lQ xs.length om om br q hq w h) ?_
 rintro v9 w1 ⟨⟨z,e9,hz⟩,hQ,aB⟩
 subst e9
 have ij:=bQ.aD hv aB sm
 have hg:=nN ij hz
 obtain⟨b1,eX,e1,bK⟩:=hg
 cases e1
 refine zi bh bf rfl rfl hz<|W ?_
 exact⟨_,rfl,⟨_,List.mem_of_getElem? (km hz),rfl⟩,hQ,aB⟩
theorem H2 (br q:Nat) (hq:q<=1000000000) (w:World) (h:dD w br q):
  bz Tryz.prog 114 [.pointer (some ⟨br,0,none⟩)] w λr w'=>(∃z,z<6∧r=str (aT z))∧dD w' br (q+1)∧aj [br] w w':=by
 refine bS [.tmp 2] 6 Tryz.func114 rfl aaK rfl rfl ?_
 refine W ?_
 refine aA (lQ 6 de de br q hq w h) ?_
 rintro v9 w1 ⟨⟨z,e9,hz⟩,hQ,aB⟩
 subst e9
 refine aA (ir (z+1) z om om w1) ?_
 rintro _ w2 ⟨rfl,az⟩
 have dm:=az.size
 refine bI az hQ aB λhQ aB=>?_
 refine W ?_
 exact⟨_,rfl,⟨z,hz,rfl⟩,hQ,aB⟩
theorem ams {x:ai} (h:x∈([[62],[42]]:List ai)):∃f,x=jO f:=by
 simp only[mC,List.not_mem_nil,or_false] at h
 rcases h with rfl|rfl
 ·exact⟨true,rfl⟩
 ·exact⟨false,rfl⟩
theorem Pv (d:Nat):d<=10->∀(br q:Nat),q+3*2^d<=1000000000->∀(w:World),dD w br q->
  bz Tryz.prog 131 [.pointer (some ⟨br,0,none⟩),.int .i64 (d:Int)] w λr w'=>(∃T:Ty,r=str T.text∧T.n+1<=2^(d+1))∧dD w' br (q+(3*2^d-2))∧aj [br] w w':=by
 induction d using Nat.strongRecOn with
 |_ d ih=>
  intro hd br q hq w h
  have mB:1<=2^d:=Nat.one_le_two_pow
  have pK:2^(d+1)=2*2^d:=by rw[Nat.pow_succ];omega
  have Eg:2^d<=1024:=Nat.pow_le_pow_right (n:=2) de hd
  refine bS [.tmp 4] 29 Tryz.func131 rfl aaU rfl rfl ?_
  refine W ?_
  refine xM (t:=7) rfl (λh1=>?_) (λh1=>?_)
  replace h1:=jk h1
  have Pm:d=0:=(by simp at h1;omega)
  refine W ?_
  refine zc rfl (λh2=>?_) (λh2=>?_)
  refine W ?_
  exact⟨_,rfl,⟨.i,by rw[Ty.LY];rfl,by show 1+1<=_;omega⟩,h.more om,aj.refl _ _⟩
  simp at h2
  replace h1:=jk h1
  have Pm:1<=d:=(by simp at h1;omega)
  have WN:2^d=2*2^(d-1):=(by rw[<-Nat.pow_succ'];congr 1;omega)
  have hp5:2^(d-1+1)=2^d:=(by congr 1;omega)
  have hp6:1<=2^(d-1):=Nat.one_le_two_pow
  refine zm<|aA (lQ 2 de de br q om w h) ?_
  rintro v9 w1 ⟨⟨z,e9,hz⟩,hQ,aB⟩
  subst e9
  refine W ?_
  refine zc rfl (λh3=>?_) (λh3=>?_)
  refine W ?_
  exact⟨_,rfl,⟨.i,by rw[Ty.LY];rfl,by show 1+1<=_;omega⟩,hQ.more om,aB⟩
  have lS:=hQ.lt
  refine gY<|zr<|zm<|kJ bh bf rfl rfl rfl rfl λw2 az lH dC=>bI az hQ aB λhQ aB=>?_
  refine aA (mi [[62],[42]] de de br (q+1) om _ w2 hQ (aJ.dK [[62],[42]] lH (λhx=>by simp at hx;omega))) ?_
  rintro l8 w3 ⟨⟨xx,hi,gS⟩,hQ,dA⟩
  have hf:=ams hi
  obtain⟨f,hf⟩:=hf
  rw[hf] at gS
  subst gS
  have aB:=aB.trans dA
  have nD:=LZ f
  refine WA ?_
  refine xK rfl rfl rfl rfl rfl (kQ (d-1) om _ om)<|aA (ih (d-1) om om br (q+1+1) om w3 hQ) ?_
  rintro v20 w4 ⟨⟨A,pj,hA⟩,hQ,xB⟩
  subst pj
  have aB:=aB.trans xB
  have V6:=A.len
  refine WA ?_
  refine xK rfl rfl rfl rfl rfl (kQ (d-1) om _ om)<|aA (ih (d-1) om om br _ om w4 hQ) ?_
  rintro v26 w5 ⟨⟨B,O2,hB⟩,hQ,amt⟩
  subst O2
  have aB:=aB.trans amt
  have V7:=B.len
  refine W ?_
  exact⟨_,rfl,⟨.op f A B,by show str (((((([40]++jO f)++[32])++A.text)++[32])++B.text)++[41])=str _;rw[Ty.II];simp,by show 1+A.n+B.n+1<=_;omega⟩,hQ.more om,aB⟩
end Go.Proofs.YthbhobaiopccaaaGreatDoor
