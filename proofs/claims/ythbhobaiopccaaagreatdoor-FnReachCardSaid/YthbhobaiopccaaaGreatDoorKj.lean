/- Lemmas for the law FnReach, no statement of their own: no conditions. -/
import Derived.Test.YthbhobaiopccaaaGreatDoorKi
import Derived.Lib.OthersKept
set_option maxHeartbeats 4000000
set_option linter.unusedVariables false
set_option linter.unusedSimpArgs false
namespace Go.Proofs.YthbhobaiopccaaaGreatDoor
open Go
variable {L:List Nat} {w w' w0:World} {B E b bytes g i k off t:Nat} {u v z:Value} {ps:List cI} {xs:List Value} {l:ai}
theorem amX {n c:Nat} {ts:List aq} (h:eU L w (.slice (some ⟨b,off,none⟩) n c) ts) (k:Nat) (p:Prop) (hp:p->k<ts.length):
  ∃qa qn qc,Jq p w b (off+k*2) [str (nth ts k).aw,.slice qa qn qc]∧Jr p L w (.slice qa qn qc) (nth ts k).ak:=by
 by_cases h2:p
 ·obtain⟨b',off',qa,qn,qc,fT,hq,hqn,hqp⟩:=iM h (gh (hp h2))
  cases fT
  exact⟨qa,qn,qc,λ_=>hq,λ_=>hqp⟩
 ·exact⟨none,0,0,λhh=>absurd hh h2,λhh=>absurd hh h2⟩
theorem YF (ts:List aq) (k i:Nat):nth (ts.drop k) i=nth ts (i+k):=by
 simp[nth,List.getD,List.getElem?_drop,Nat.add_comm]
theorem amZ (ts:List aq) (f:aq->Bool):(!ts.any λu=>!f u)=ts.all f:=by
 induction ts with
 |nil=>rfl
 |cons t r ih=>simp only[List.any_cons,List.all_cons,Bool.not_or,Bool.not_not,ih]
theorem Qr:∀m,YE m:=by
 intro m
 induction m with
 |zero=>intro t h;have:=xo t;omega
 |succ m ih=>
  intro t hm pz cB hidden v L w hv
  have cQ:=hv
  obtain⟨a,n,c,rfl,hn,aO⟩:=cY hv
  have hK:=aj.refl [] w
  have nj:=xo t
  refine bU [.tmp 6] 53 Tryz.func136 rfl acz rfl rfl ?_
  refine zr<|eK rfl λw1 aI cW dh=>cJ aI hK aO cQ λhK aO cQ=>?_
  refine Mg rfl rfl rfl λw2 az aG dD=>gY az hK aO cQ cW λhK aO cQ cW=>?_
  refine Mg rfl rfl rfl λw3 aH cu gL=>kJ aH hK aO cQ cW aG λhK aO cQ cW aG=>?_
  refine W ?_
  refine aA (Qq t _ L w3 cQ) ?_
  rintro _ w4 ⟨rfl,aP⟩
  have fH:=aP.size
  refine tC aP hK aO cQ cW aG cu λhK aO cQ cW aG cu=>?_
  refine aV<|zc rfl (λh1=>?_) (λh1=>?_)
  have ha:t.aw≠[]:=λh=>by have:=cB.pos h;omega
  refine WZ ?_
  apply oP 7 12 19 rfl oQ
  intro _
  refine WZ ?_
  apply oB 4 14 18 rfl oQ
  intro _
  refine WZ ?_
  exact oQ
  intro xx
  exact oQ
  intro xx
  refine WZ ?_
  apply oP 7 20 27 rfl oQ
  intro _
  refine zl GP rfl (cu.at rfl)<|zm<|yH (t:=22) (b:=false) rfl ?_
  exact oQ
  intro xx
  refine W ?_
  exact⟨_,rfl,show Value.bool _=Value.bool _ from congrArg _ (by rw[Sm ha,Bool.or_false]),hK⟩
  have kK:0<t.ak.length:=by omega
  have ha:t.aw=[]:=Classical.byContradiction (λh=>by have:=cB.leaf h;rw[this] at kK;exact absurd kK de)
  have mf:=gh kK
  have hh:bX t=(nth t.ak 0).aw:=GC ha mf
  refine W ?_
  refine aA (Ei t cB _ L w4 cQ) ?_
  rintro _ w5 ⟨rfl,aN⟩
  have iR:=aN.size
  refine kJ aN hK aO cW aG cu λhK aO cW aG cu=>?_
  obtain⟨b,off,pa,pn,pc,rfl,eD,eO,ga⟩:=iM aO mf
  refine W ?_
  refine zc rfl (λh5=>?_) (λh5=>?_)
  have he:(nth t.ak 0).aw=[101]:=hh.symm.trans h5
  have cu:aK w5 w2.heap.size #[.bool false] 4:=cu
  obtain⟨qa,qn,qc,jz,Qs⟩:=amX aO 1 ((n:Int)=2) (λh=>om)
  refine j3<|ER [32,33,34,35,36,37,38,39,40,41,42,43,6] [(6,.bool (decide ((n:Int)=2)&&fl true (nth t.ak 1)))] ?_ ?_
  rcases bE (decide ((n:Int)=2)) with iX|iX
  apply lh dv 13 (rA 32 12++[6]) (rA 32 12++[6]) [[],[0],[1],[2],[3],[4],[4,5],[4,6],[4,7],[4],[4,8,9],[4,10],[11]] [It.v _,It.v _,It.v _,It.v _,It.v (.bool true),It.v _,It.v _,It.v _,It.v _,It.v _,It.v _,It.v _,It.v _] de rfl
  intro wd aC
  refine VA ?_
  refine vc (λx w6 bN=>?_) ?_
  refine WZ ?_
  exact pv (by exact congrArg Value.bool iX)
  refine VA ?_
  refine vk aC (λx w6 bN=>?_) ?_
  have hg:=iX
  refine zi (i:=1) s9 fx rfl rfl (by have:=of_decide_eq_true hg;omega) ?_
  exact pv
  refine vk aC (λx w6 bN=>?_) ?_
  have jz:=jz.ext bN
  have hg:=iX
  refine zL ux fx rfl (jz (of_decide_eq_true hg)) rfl ?_
  exact pv
  refine VA ?_
  refine vk aC (λx w6 bN=>?_) ?_
  have Qs:=Qs.ext bN
  have hg:=iX
  refine aA (ih (nth t.ak 1) (by have:=of_decide_eq_true hg;have:=lI (t:=t) (i:=1) om;omega) (by have:=of_decide_eq_true hg;have:=lI (t:=t) (i:=1) om;omega) (cB.nth (by have:=of_decide_eq_true hg;omega)) true _ L w6 (lF (Qs (of_decide_eq_true hg)))) ?_
  rintro _ w7 ⟨rfl,bW⟩
  have lp:=bW.size
  exact pk bW
  exact VZ
  intro x qX sB
  change OW _ _ _ _ [] (bo (bm _ x _) (zZ 32 [_,_,_,_,_,_,_,_,_,_,_,_]++[(6,_)])) _
  refine W ?_
  exact kE sB
  apply lh dv 13 (rA 32 12++[6]) (rA 32 12++[6]) [[],[0],[1],[2],[3],[4],[4,5],[4,6],[4,7],[4],[4,8,9],[4,10],[11]] [It.v _,It.v _,It.v _,It.v _,It.v (.bool false),It.v _,It.v _,It.v _,It.v _,It.v _,It.v _,It.v _,It.v _] de rfl
  intro wd aC
  refine VA ?_
  refine vc (λx w6 bN=>?_) ?_
  refine WZ ?_
  exact pv (by exact congrArg Value.bool iX)
  exact VZ
  intro x qX sB
  change OW _ _ _ _ [] (bo (bm _ x _) (zZ 32 [_,_,_,_,_,_,_,_,_,_,_,_]++[(6,_)])) _
  refine W ?_
  exact kE sB
  intro x qX sB
  have hK:=hK.ext sB
  refine j4<|⟨_,rfl,show Value.bool _=Value.bool _ from congrArg _ ?_,hK⟩
  rw[MF ha kK he]
  congr 1
  exact decide_eq_decide.2 om
  have dN:(nth t.ak 0).aw≠[101]:=λh=>h5 (hh.trans h)
  refine W ?_
  refine iS (λ_:Unit=>[(3,.pointer (some ⟨w.heap.size,0,none⟩)),(4,.pointer (some ⟨w1.heap.size,0,none⟩)),(5,.pointer (some ⟨w2.heap.size,0,none⟩)),(44,.bool (decide (bX t=[116])||decide (bX t=[99])))]) (λ_ w'=>w'=w5) ?_ ?_
  refine zc rfl (λh6=>?_) (λh6=>?_)
  refine WZ ?_
  exact⟨(),⟨rfl,rfl,rfl,congrArg Value.bool (AH h6)⟩,rfl⟩
  refine W ?_
  exact⟨(),⟨rfl,rfl,rfl,congrArg Value.bool (AI h6)⟩,rfl⟩
  intro gu w6 e6 hI
  obtain rfl:=hI
  refine zc rfl (λh7=>?_) (λh7=>?_)
  have uy:=AJ h7
  rw[hh] at uy
  refine W ?_
  refine Jg (l:=1) s9 fx rfl rfl rfl rfl om aO λEj aX=>?_
  have aX:eU L w6 Ej (t.ak.drop 1):=by rw[eU,RU];exact aX
  refine My (vs:=[.pointer (some ⟨w1.heap.size,0,none⟩),.pointer (some ⟨w2.heap.size,0,none⟩)]) rfl rfl rfl<|aA (amV (t.ak.drop 1) (by rw[List.length_drop];omega) (λu=>!fl hidden u) 166 [.pointer (some ⟨w1.heap.size,0,none⟩),.pointer (some ⟨w2.heap.size,0,none⟩)] _ L w6 aX (λi hi u w' k hu=>by rw[List.length_drop] at hi;rw[YF] at hu⊢;exact amW ih (nth t.ak (i+1)) (by have:=lI (t:=t) (i:=i+1) om;omega) (by have:=lI (t:=t) (i:=i+1) om;omega) (cB.nth om) hidden _ _ _ L _ hu (aG.ext k) (cu.ext k))) ?_
  rintro _ w7 ⟨rfl,bW⟩
  have lp:=bW.size
  have hK:=hK.ext bW
  refine W ?_
  exact⟨_,rfl,show Value.bool _=Value.bool _ from congrArg _ (by rw[MG ha kK uy,amZ]),hK⟩
  have uy:=AK h7
  rw[hh] at uy
  refine W ?_
  exact⟨_,rfl,by rw[Sn ha kK dN uy];rfl,hK⟩
theorem Ek {a b:World} (h:aj [] w a) (k:RowKit.Below w.heap.size a b):aj [] w b:=
 ⟨k.os.trans h.os,k.tape.trans h.tape,k.output.trans h.output,Nat.le_trans h.size k.size,λi hi hl=>(k.block i hi).trans (h.block i hi hl)⟩
theorem am0 (x y:Nat) (h:x*y<18446744073709551616) (hx:x<18446744073709551616) (hy:y<18446744073709551616) (w:World):
  bw Tryz.prog 172 [.int .u64 x,.int .u64 y] w λv w'=>v= .tuple #[.int .u64 0,.int .u64 ((x*y:Nat):Int)]∧w=w':=
 ⟨ru.mk' Tryz.func172 rfl ac2,Calls.mono (Tryz.bits_Mul x y hx hy w) λ_ _ ⟨he,hw⟩=>⟨_,he,by rw[Nat.div_eq_of_lt h,Nat.mod_eq_of_lt h];rfl,hw.symm⟩⟩
theorem am1 (B b n:Nat) (w:World) (hB:B<=b) (fp:aK w b #[.pointer none,.slice none 0 0] 113) (o7:B<=w.heap.size) (hn:n<=281474976710656):
  bw Tryz.prog 173 [.pointer (some ⟨b,0,none⟩),.int .i64 n] w λv w'=>v= .tuple #[]∧Lib.IsBuilderF 113 5 B b (Lib.byteCells []) w'∧RowKit.Below B w w':=
 ⟨ru.mk' Tryz.func173 rfl ac3,Calls.mono (Tryz.Builder_Grow_fresh B b n w hB fp o7 hn) λ_ _ ⟨he,hb,hk⟩=>⟨_,he,rfl,.inr (Lib.BuilderAtF.of hb),hk⟩⟩
theorem YG (B b:Nat) (l s:ai) (w:World) (h:Lib.IsBuilderF 113 5 B b (Lib.byteCells l) w) (hlen:l.length+s.length<=140737488355328) (o7:B<=w.heap.size):
  bw Tryz.prog 111 [.pointer (some ⟨b,0,none⟩),str s] w λv w'=>(∃u,v=u)∧Lib.IsBuilderF 113 5 B b (Lib.byteCells (l++s)) w'∧RowKit.Below B w w':=
 ⟨ru.mk' Tryz.func111 rfl Tb,Calls.mono (Tryz.Builder_WriteString_f B b _ ⟨s.toArray⟩ w h (by rw[Lib.byteCells_length];simpa[ByteArray.size] using hlen) o7) λ_ _ ⟨he,hb,hk⟩=>⟨_,he,⟨_,rfl⟩,.inr (by have e1:Lib.byteCells (l++s)=Lib.byteCells l++Lib.strCells ⟨s.toArray⟩:=by{simp[Lib.byteCells,Lib.strCells]};rw[e1];exact hb),hk⟩⟩
theorem Qt (B b:Nat) (l:ai) (w:World) (h:Lib.IsBuilderF 113 5 B b (Lib.byteCells l) w):
  bw Tryz.prog 174 [.pointer (some ⟨b,0,none⟩)] w λv w'=>v= .int .i64 (l.length:Int)∧w=w':=
 ⟨ru.mk' Tryz.func174 rfl ac4,Calls.mono (Tryz.Builder_Len_f B b _ w h) λ_ _ ⟨he,hw⟩=>⟨_,he,by rw[Lib.byteCells_length],hw.symm⟩⟩
theorem YH (B b:Nat) (l:ai) (h0:l≠[]) (w:World) (h:Lib.IsBuilderF 113 5 B b (Lib.byteCells l) w):
  bw Tryz.prog 79 [.pointer (some ⟨b,0,none⟩)] w λv w'=>v=str l∧Lib.IsBuilderF 113 5 B b (Lib.byteCells l) w'∧RowKit.Below B w w':=
 ⟨ru.mk' Tryz.func79 rfl Tg,Calls.mono (Tryz.Builder_String_f B b l w h h0) λ_ _ ⟨he,hb,hk⟩=>⟨_,he,rfl,hb,hk⟩⟩
theorem am2 (c:Nat) (hc:c<=8192) (w:World):bw Tryz.prog 143 [str [115],.int .i64 (c:Int)] w λv w'=>v=str (List.replicate c 115)∧aj [] w w':=by
 have hK:=aj.refl [] w
 refine bU [.tmp 4] 125 Tryz.func143 rfl acE rfl rfl ?_
 refine W ?_
 refine zc rfl (λh1=>?_) (λh1=>?_)
 have eD:c=0:=by omega
 refine W ?_
 exact⟨_,rfl,by rw[eD];rfl,hK⟩
 refine W ?_
 refine zc rfl (λh2=>?_) (λh2=>?_)
 have bK:c=1:=by omega
 refine W ?_
 exact⟨_,rfl,by rw[bK];rfl,hK⟩
 refine W ?_
 refine zc rfl (λh3=>?_) (λh3=>?_)
 exfalso
 omega
 refine W ?_
 refine yF xq JH rfl rfl rfl (show IntKind.u64.wrap (([115]:ai).length:Int)=((1:Nat):Int) from by decide)<|zm<|yF xq JH rfl rfl rfl (show IntKind.u64.wrap (c:Int)=((c:Nat):Int) from by rw[wrap_u64 _ om om])<|aA (am0 1 c om om om _) ?_
 rintro _ _ ⟨rfl,rfl⟩
 refine zm<|zx (i:=0) rfl rfl<|zx (i:=1) rfl rfl<|zA<|zA<|aV<|j3<|zr<|zm<|Gi rfl rfl rfl rfl rfl<|zm ?_
 apply Cs 3 31 34 [31,32,33,34] (λw'=>w=w') rfl
 intro h4
 replace h4:=jW h4
 refine W ?_
 exact mg rfl rfl
 intro h4
 replace h4:=jW h4
 refine W ?_
 exact mg rfl rfl
 rintro xx _ rfl
 refine aV<|zc rfl (λh5=>?_) (λh5=>?_)
 exfalso
 simp at h5
 omega
 refine gT<|zr<|zm<|yF JH xq rfl rfl rfl (show IntKind.i64.wrap ((1*c:Nat):Int)=(c:Int) from by rw[wrap_i64 _ om om];omega)<|W ?_
 refine zc rfl (λh6=>?_) (λh6=>?_)
 exact absurd h6 de
 refine W ?_
 refine ko (i:=0) iE rfl rfl rfl rfl (jv de)<|W ?_
 refine zc rfl (λh7=>?_) (λh7=>?_)
 exact absurd h7 de
 refine W ?_
 refine zc rfl (λh8=>?_) (λh8=>?_)
 exact absurd h8 de
 refine W ?_
 refine zc rfl (λh9=>?_) (λh9=>?_)
 exact absurd h9 de
 refine W ?_
 refine zc rfl (λgi=>?_) (λgi=>?_)
 exact absurd gi de
 refine W ?_
 refine zc rfl (λpC=>?_) (λpC=>?_)
 exact absurd pC de
 refine W ?_
 refine zc rfl (λkW=>?_) (λkW=>?_)
 exfalso
 omega
 refine gT<|zr<|dz M6 rfl rfl rfl λw1 aI cT dh=>?_
 have hK:=hK.ext aI
 refine aV<|zr<|zm<|aA (am1 w.heap.size w.heap.size c w1 (lR _) cT om om) ?_
 rintro _ w2 ⟨rfl,hB,rX⟩
 have hK:=Ek hK rX
 refine aV<|zr<|zm<|aA (YG w.heap.size w.heap.size [] [115] w2 hB sm (by have:=hK.size;omega)) ?_
 rintro _ w3 ⟨_,hB,rX⟩
 have hK:=Ek hK rX
 refine W ?_
 refine dR (λk:Nat=>[(0,str [115]),(7,.int .i64 (c:Int)),(8,.int .i64 (c:Int)),(9,.pointer (some ⟨w.heap.size,0,none⟩))]) (λk w'=>aj [] w w'∧Lib.IsBuilderF 113 5 w.heap.size w.heap.size (Lib.byteCells (List.replicate k 115)) w'∧1<=k∧k<=c) (λk=>c-k) (1) (⟨rfl,rfl,rfl,rfl⟩) (⟨hK,hB,om,om⟩) λgg w4 e4 hI=>?_
 obtain⟨hK,hB,hk,lq⟩:=hI
 have fR:=hK.size
 refine j3<|zr<|aA (Qt _ _ _ _ hB) ?_
 rintro _ _ ⟨rfl,rfl⟩
 rw[List.length_replicate]
 refine W ?_
 refine zc rfl (λpD=>?_) (λpD=>?_)
 have dY:gg<c:=by omega
 refine W ?_
 refine aA (Qt _ _ _ _ hB) ?_
 rintro _ _ ⟨rfl,rfl⟩
 rw[List.length_replicate]
 refine W ?_
 refine aA (Qt _ _ _ _ hB) ?_
 rintro _ _ ⟨rfl,rfl⟩
 rw[List.length_replicate]
 refine zm<|aaE rfl rfl rfl rfl rfl (show(if(c:Int)<(if(gg:Int)<(c:Int)-gg then(gg:Int) else(c:Int)-gg) then(c:Int) else(if(gg:Int)<(c:Int)-gg then(gg:Int) else(c:Int)-gg))=((min gg (c-gg):Nat):Int) from by repeat' split<;>omega)<|zA<|aV<|jF<|aA (YH _ _ _ (by intro h;have:=congrArg List.length h;simp at this;omega) w4 hB) ?_
 rintro _ w5 ⟨rfl,hB,rX⟩
 have hK:=Ek hK rX
 refine zm<|Cr iE rfl rfl rfl (.inl ⟨rfl,rfl⟩) (.inr ⟨_,rfl⟩) om (by rw[List.length_replicate];omega)<|aA (YG w.heap.size w.heap.size _ _ w5 hB so (by have:=hK.size;omega)) ?_
 rintro _ w6 ⟨_,hB,rX⟩
 have hK:=Ek hK rX
 refine W ?_
 exact⟨gg+min gg (c-gg),⟨rfl,rfl,rfl,rfl⟩,⟨hK,by have e1:List.replicate gg 115++((List.replicate gg (115:UInt8)).drop 0).take (min gg (c-gg)-0)=List.replicate (gg+min gg (c-gg)) 115:=by{rw[List.drop_zero,Nat.sub_zero,List.take_replicate,List.replicate_append_replicate];congr 1;omega};rw[<-e1];exact hB,om,om⟩,om⟩
 have he:gg=c:=by omega
 refine W ?_
 refine aA (YH _ _ _ (by intro h;have:=congrArg List.length h;simp at this;omega) w4 hB) ?_
 rintro _ w5 ⟨rfl,hB,rX⟩
 have hK:=Ek hK rX
 refine W ?_
 exact⟨_,rfl,by rw[<-he];rfl,hK⟩
theorem am3 (h:ai) (n:Nat) (hn:n<=8000) (w:World):bw Tryz.prog 118 [str h,.int .i64 (n:Int)] w λr w'=>r=str (gI h n)∧aj [] w w':=by
 have hK:=aj.refl [] w
 refine bU [.tmp 4] 33 Tryz.func118 rfl acm rfl rfl ?_
 refine W ?_
 refine zc rfl (λh1=>?_) (λh1=>?_)
 have eD:=h1
 refine W ?_
 exact⟨_,rfl,show str _=str _ from congrArg _ (by rw[gI,iP eD]),hK⟩
 have eD:=h1
 refine W ?_
 refine iS (λ_:Unit=>[(1,.int .i64 (n:Int)),(5,str h),(8,.bool (decide (h=[109,111,118])||decide (h=[111,112,101,110])))]) (λ_ w'=>w'=w) ?_ ?_
 refine zc rfl (λh2=>?_) (λh2=>?_)
 refine WZ ?_
 exact⟨(),⟨rfl,rfl,congrArg Value.bool (AH h2)⟩,rfl⟩
 refine W ?_
 exact⟨(),⟨rfl,rfl,congrArg Value.bool (AI h2)⟩,rfl⟩
 intro gu w1 e1 hI
 obtain rfl:=hI
 refine zc rfl (λh3=>?_) (λh3=>?_)
 have bK:=AJ h3
 refine W ?_
 exact⟨_,rfl,show str _=str _ from congrArg _ (by rw[gI,iN eD,iP bK]),hK⟩
 have bK:=AK h3
 refine W ?_
 refine iS (λ_:Unit=>[(1,.int .i64 (n:Int)),(5,str h),(11,.bool (decide (h=[97,100,100])||decide (h=[115,117,98])||decide (h=[109,117,108])))]) (λ_ w'=>w'=w1) ?_ ?_
 refine zc rfl (λh4=>?_) (λh4=>?_)
 refine WZ ?_
 exact⟨(),⟨rfl,rfl,congrArg Value.bool (Sr h4)⟩,rfl⟩
 have fu:=h4
 refine W ?_
 refine zc rfl (λh5=>?_) (λh5=>?_)
 refine WZ ?_
 exact⟨(),⟨rfl,rfl,congrArg Value.bool (Ss fu h5)⟩,rfl⟩
 refine W ?_
 exact⟨(),⟨rfl,rfl,congrArg Value.bool (St fu h5)⟩,rfl⟩
 intro gu w2 e2 hI
 obtain rfl:=hI
 refine zc rfl (λh6=>?_) (λh6=>?_)
 have bY:=Su h6
 refine W ?_
 exact⟨_,rfl,show str _=str _ from congrArg _ (by rw[gI,iN eD,iN bK,iP bY]),hK⟩
 have bY:=Sv h6
 refine W ?_
 refine zc rfl (λh7=>?_) (λh7=>?_)
 have dS:=h7
 refine W ?_
 refine aaF rfl rfl rfl rfl (show(if(0:Int)<(n:Int)-2 then(n:Int)-2 else 0)=((n-2:Nat):Int) from by split<;>omega)<|aA (am2 (n-2) om w2) ?_
 rintro _ w3 ⟨rfl,aH⟩
 have fh:=aH.size
 have hK:=hK.ext aH
 refine W ?_
 exact⟨_,rfl,show str _=str _ from congrArg _ (by rw[gI,iN eD,iN bK,iN bY,iP dS]),hK⟩
 have dS:=h7
 refine W ?_
 refine zc rfl (λh8=>?_) (λh8=>?_)
 have jK:=h8
 refine W ?_
 exact⟨_,rfl,show str _=str _ from congrArg _ (by rw[gI,iN eD,iN bK,iN bY,iN dS,iP jK]),hK⟩
 have jK:=h8
 refine W ?_
 refine zc rfl (λh9=>?_) (λh9=>?_)
 have kx:=h9
 refine W ?_
 exact⟨_,rfl,show str _=str _ from congrArg _ (by rw[gI,iN eD,iN bK,iN bY,iN dS,iN jK,iP kx]),hK⟩
 have kx:=h9
 refine W ?_
 refine zc rfl (λgi=>?_) (λgi=>?_)
 have qU:=gi
 refine W ?_
 exact⟨_,rfl,show str _=str _ from congrArg _ (by rw[gI,iN eD,iN bK,iN bY,iN dS,iN jK,iN kx,iP qU]),hK⟩
 have qU:=gi
 refine W ?_
 refine zc rfl (λpC=>?_) (λpC=>?_)
 have Bz:=pC
 refine W ?_
 exact⟨_,rfl,show str _=str _ from congrArg _ (by rw[gI,iN eD,iN bK,iN bY,iN dS,iN jK,iN kx,iN qU,iP Bz]),hK⟩
 have Bz:=pC
 refine W ?_
 refine iS (λ_:Unit=>[(5,str h),(30,.bool (decide (h=[106,117,109,112])||decide (h=[104,97,108,116])))]) (λ_ w'=>w'=w2) ?_ ?_
 refine zc rfl (λkW=>?_) (λkW=>?_)
 refine WZ ?_
 exact⟨(),⟨rfl,congrArg Value.bool (AH kW)⟩,rfl⟩
 refine W ?_
 exact⟨(),⟨rfl,congrArg Value.bool (AI kW)⟩,rfl⟩
 intro gu w3 e3 hI
 obtain rfl:=hI
 refine zc rfl (λpD=>?_) (λpD=>?_)
 have IS:=AJ pD
 refine W ?_
 exact⟨_,rfl,show str _=str _ from congrArg _ (by rw[gI,iN eD,iN bK,iN bY,iN dS,iN jK,iN kx,iN qU,iN Bz,iP IS]),hK⟩
 have IS:=AK pD
 refine W ?_
 exact⟨_,rfl,show str _=str _ from congrArg _ (by rw[gI,iN eD,iN bK,iN bY,iN dS,iN jK,iN kx,iN qU,iN Bz,iN IS]),hK⟩
theorem YI {ts:List aq} (h:eU L w v ts):∃a c,v= .slice a ts.length c:=by
 obtain⟨a,c,rfl,_⟩:=sh h
 exact⟨a,c,by rw[iz]⟩
theorem YJ (t:aq) (hs:t.size<=12001) (cB:WF t) (v:Value) (L:List Nat) (w:World) (hv:bC L w v t):
  bw Tryz.prog 98 [v] w λr w'=>r= .bool (oD t)∧aj [] w w':=by
 have cQ:=hv
 obtain⟨a,n,c,rfl,hn,aO⟩:=cY hv
 have hK:=aj.refl [] w
 have hn8:=abz cB
 subst hn
 have hσ:=aby (bX t) t.ak.length
 refine bU [.tmp 2] 78 Tryz.func98 rfl aeD rfl rfl ?_
 refine zr<|eK rfl λw1 aI aY dh=>cJ aI hK aO cQ λhK aO cQ=>?_
 refine W ?_
 apply lh dv 7 (rA 7 6++[3]) (rA 7 6++[3]) [[],[0],[],[2],[3],[1,4],[5]] [It.v _,It.v _,It.v _,It.v _,It.v _,It.v _,It.v (str (gI (bX t) t.ak.length))] de rfl
 intro wd aC
 refine VA ?_
 refine vk aC (λx w2 az=>?_) ?_
 have cQ:=cQ.ext az
 refine aA (Ei t cB _ L w2 cQ) ?_
 rintro _ w3 ⟨rfl,aH⟩
 have fh:=aH.size
 exact pk aH
 refine VA ?_
 refine vk aC (λx w2 az=>?_) ?_
 refine aA (am3 (bX t) t.ak.length om w2) ?_
 rintro _ w3 ⟨rfl,aH⟩
 have fh:=aH.size
 exact pk aH
 exact VZ
 intro x oW gS
 refine cJ gS hK aO aY λhK aO aY=>?_
 change OW _ _ _ _ [] (bo (bm _ x _) (zZ 7 [_,_,_,_,_,_]++[(3,_)])) _
 refine W ?_
 apply oP 8 15 23 rfl oQ
 intro h1
 refine WZ ?_
 exact oQ
 intro xx
 refine aV<|zc rfl (λh2=>?_) (λh2=>?_)
 have hb:gI (bX t) t.ak.length=[]∨t.ak.length≠(gI (bX t) t.ak.length).length+1:=by simp only[oE,dE] at h2;rcases h2 with h|h;exact .inl h;exact .inr om
 refine W ?_
 exact⟨_,rfl,by rw[Jy hb];rfl,hK⟩
 have hb:¬(gI (bX t) t.ak.length=[]∨t.ak.length≠(gI (bX t) t.ak.length).length+1):=by simp only[Bool.or_eq_false_iff,decide_eq_false_iff_not] at h2;rintro(h|h);exact h2.1 h;exact h2.2 om
 have dN:=List.length_pos_iff.2 (λh=>hb (.inl h))
 have hl:t.ak.length=(gI (bX t) t.ak.length).length+1:=Classical.byContradiction λh=>hb (.inr h)
 obtain⟨b0,wj,_,_,_,rfl,_,_,_⟩:=iM aO (gh (ps:=t.ak) (i:=0) om)
 refine W ?_
 refine Jg (l:=1) s9 fx rfl rfl rfl rfl om aO λEj aX=>?_
 have aX:eU L oW Ej (t.ak.drop 1):=by rw[eU,RU];exact aX
 obtain⟨a1,c1,rfl⟩:=YI aX
 have Gm:(t.ak.drop 1).length=t.ak.length-1:=List.length_drop
 generalize hσe:gI (bX t) t.ak.length=σ at*
 refine W ?_
 refine dR (λk:Nat=>[(1,.pointer (some ⟨w.heap.size,0,none⟩)),(3,str σ),(26,.slice a1 (t.ak.drop 1).length c1),(27,.int .i64 ((t.ak.drop 1).length:Int)),(28,.int .i64 (k:Int))]) (λk w'=>aj [] w w'∧aj [] oW w'∧k<=(t.ak.drop 1).length∧∀i,i<k->gP ((σ.getD i 0).toNat:Int) (nth t.ak (i+1))=true) (λk=>(t.ak.drop 1).length-k) (0) (⟨rfl,rfl,rfl,rfl,rfl⟩) (⟨hK,aj.refl [] _,om,by intro i hi;omega⟩) λgg qY zz hI=>?_
 obtain⟨hK,aI,hk,cC⟩:=hI
 refine bI aI aX aY λaX aY=>?_
 have fR:=hK.size
 have atc:=aI.size
 have ix:=aY.lt
 refine W ?_
 refine zc rfl (λh3=>?_) (λh3=>?_)
 have hp:=gh (ps:=t.ak.drop 1) (i:=gg) om
 obtain⟨b1,eX,pa,pn,pc,rfl,jz,eO,ga⟩:=iM aX hp
 rw[YF] at jz eO ga
 have yY:=cB.nth (i:=gg+1) om
 have nV:=lI (t:=t) (i:=gg+1) om
 have C8:=yL (nth t.ak (gg+1))
 refine W ?_
 refine dz fx rfl rfl rfl λpG jL cu atd=>?_
 have hK:=hK.grow;have hK:=hK.ext jL;have aI:=aI.grow;have aI:=aI.ext jL;have ga:=ga.grow;have ga:=ga.ext jL
 refine zA<|cL fx rfl rfl rfl cu rfl λpL jq cu am4=>?_
 have hK:=hK.aD jq sx;have aI:=aI.aD jq sx;have ga:=ga.aD jq sx
 refine W ?_
 have mM:=aj.refl [] pL
 refine ko iE rfl rfl rfl rfl (jv om)<|W ?_
 refine iS (λ_:Unit=>[(1,.pointer (some ⟨w.heap.size,0,none⟩)),(3,str σ),(5,.pointer (some ⟨qY.heap.size,0,none⟩)),(6,.bool false),(26,.slice (some ⟨b1,eX,none⟩) (t.ak.drop 1).length c1),(27,.int .i64 ((t.ak.drop 1).length:Int)),(28,.int .i64 (gg:Int)),(35,.int .u8 ((σ.getD gg 0).toNat:Int)),(36,.bool (decide (((σ.getD gg 0).toNat:Int)=100)||decide (((σ.getD gg 0).toNat:Int)=115)))]) (λ_ w'=>w'=pL) ?_ ?_
 refine zc rfl (λh4=>?_) (λh4=>?_)
 refine WZ ?_
 exact⟨(),⟨rfl,rfl,rfl,rfl,rfl,rfl,rfl,rfl,congrArg Value.bool (AH h4)⟩,rfl⟩
 refine W ?_
 exact⟨(),⟨rfl,rfl,rfl,rfl,rfl,rfl,rfl,rfl,congrArg Value.bool (AI h4)⟩,rfl⟩
 intro gu qX e45 hI
 obtain rfl:=hI
 refine iS (λ_:Unit=>[(1,.pointer (some ⟨w.heap.size,0,none⟩)),(3,str σ),(6,.bool (gP ((σ.getD gg 0).toNat:Int) (nth t.ak (gg+1)))),(26,.slice (some ⟨b1,eX,none⟩) (t.ak.drop 1).length c1),(27,.int .i64 ((t.ak.drop 1).length:Int)),(28,.int .i64 (gg:Int))]) (λ_ w'=>aj [] qX w') ?_ ?_
 refine zc rfl (λh5=>?_) (λh5=>?_)
 have hz:=AJ h5
 refine W ?_
 refine aA (amS _ om qX) ?_
 rintro _ sJ ⟨rfl,qC⟩
 have LF:=qC.size
 have mM:=mM.ext qC
 refine W ?_
 exact⟨(),⟨rfl,rfl,by rw[gP,iP hz];rfl,rfl,rfl,rfl⟩,mM⟩
 have hz:=AK h5
 refine W ?_
 refine zc rfl (λh6=>?_) (λh6=>?_)
 refine W ?_
 refine aA (Qp _ om _) ?_
 rintro _ _ ⟨rfl,rfl⟩
 refine W ?_
 exact⟨(),⟨rfl,rfl,by rw[gP,iN hz,iP h6];rfl,rfl,rfl,rfl⟩,mM⟩
 have dh:=h6
 refine W ?_
 refine zc rfl (λh7=>?_) (λh7=>?_)
 have dD:=h7
 refine W ?_
 refine aA (Qp _ om _) ?_
 rintro _ _ ⟨rfl,rfl⟩
 refine WZ ?_
 apply oA 5 52 57 (aj [] qX) rfl oQ
 intro h8
 obtain⟨z,Af⟩:=Option.isSome_iff_exists.1 h8
 have BW:z=(numeral (nth t.ak (gg+1)).aw).getD 0:=by rw[Af];rfl
 refine W ?_
 refine aA (YC _ Af qX) ?_
 rintro _ sJ ⟨rfl,qC⟩
 have LF:=qC.size
 rw[BW]
 exact oQ
 intro xx sJ qC
 have mM:=mM.ext qC
 refine W ?_
 exact⟨(),⟨rfl,rfl,by rw[gP,iN hz,iN dh,iP dD];rfl,rfl,rfl,rfl⟩,mM⟩
 have dD:=h7
 refine W ?_
 refine zc rfl (λh9=>?_) (λh9=>?_)
 refine W ?_
 refine aA (YD _ om _) ?_
 rintro _ _ ⟨rfl,rfl⟩
 refine W ?_
 exact⟨(),⟨rfl,rfl,by rw[gP,iN hz,iN dh,iN dD,iP h9];rfl,rfl,rfl,rfl⟩,mM⟩
 have gL:=h9
 refine W ?_
 refine zc rfl (λgi=>?_) (λgi=>?_)
 have gQ:=gi
 refine W ?_
 refine aA (amT (nth t.ak (gg+1)) yY [101] 2 _ _ qX (lF ga)) ?_
 rintro _ sJ ⟨rfl,qC⟩
 have LF:=qC.size
 refine cJ qC ga cu mM λga cu mM=>?_
 refine WZ ?_
 apply oA 3 67 70 (aj [] sJ) rfl oQ
 intro pC
 refine W ?_
 refine aA (Qr (nth t.ak (gg+1)).size (nth t.ak (gg+1)) (lR _) om yY false _ _ sJ (lF ga)) ?_
 rintro _ xV ⟨rfl,mH⟩
 have ate:=mH.size
 exact oQ
 intro xx xV mH
 have mM:=mM.ext mH
 refine W ?_
 exact⟨(),⟨rfl,rfl,by rw[gP,iN hz,iN dh,iN dD,iN gL,iP gQ,show decide ((nth t.ak (gg+1)).ak.length=2)=decide (((nth t.ak (gg+1)).ak.length:Int)=2) from decide_eq_decide.2 om];rfl,rfl,rfl,rfl⟩,mM⟩
 have gQ:=gi
 refine W ?_
 refine zc rfl (λkW=>?_) (λkW=>?_)
 have gZ:=kW
 refine W ?_
 refine aA (Qr (nth t.ak (gg+1)).size (nth t.ak (gg+1)) (lR _) om yY false _ _ qX (lF ga)) ?_
 rintro _ sJ ⟨rfl,qC⟩
 have LF:=qC.size
 have mM:=mM.ext qC
 refine W ?_
 exact⟨(),⟨rfl,rfl,by rw[gP,iN hz,iN dh,iN dD,iN gL,iN gQ,iP gZ];rfl,rfl,rfl,rfl⟩,mM⟩
 have gZ:=kW
 refine WZ ?_
 exact⟨(),⟨rfl,rfl,by rw[gP,iN hz,iN dh,iN dD,iN gL,iN gQ,iN gZ];rfl,rfl,rfl,rfl⟩,mM⟩
 intro gu sJ e46 hI
 have hK:=hK.ext hI;have aI:=aI.ext hI
 refine W ?_
 refine zc rfl (λpD=>?_) (λpD=>?_)
 subst hσe
 have hq:gP (((gI (bX t) t.ak.length).getD gg 0).toNat:Int) (nth t.ak (gg+1))=false:=by simpa using pD
 refine W ?_
 exact⟨_,rfl,by rw[abd om hq];rfl,hK⟩
 have hq:gP ((σ.getD gg 0).toNat:Int) (nth t.ak (gg+1))=true:=by simpa using pD
 refine W ?_
 exact⟨gg+1,⟨rfl,rfl,rfl,rfl,rfl⟩,⟨hK,aI,om,by intro i hi;rcases Nat.lt_or_ge i gg with h|h;exact cC i h;rw[show i=gg by omega];exact hq⟩,om⟩
 subst hσe
 have hq:=abe hb (λi hi=>cC i om)
 refine W ?_
 exact⟨_,rfl,by rw[hq];rfl,hK⟩
theorem am5 (t:aq) (cB:WF t) (v:Value) (L:List Nat) (w:World) (hv:bC L w v t):
  bw Tryz.prog 99 [v] w λr w'=>r= .bool (GG t)∧aj [] w w':=by
 have cQ:=hv
 obtain⟨a,n,c,rfl,hn,aO⟩:=cY hv
 have hK:=aj.refl [] w
 refine bU [.tmp 2] 11 Tryz.func99 rfl aeE rfl rfl ?_
 refine zr<|eK rfl λw1 aI aY dh=>bI aI hK cQ λhK cQ=>?_
 refine W ?_
 refine aA (Ei t cB _ L w1 cQ) ?_
 rintro _ w2 ⟨rfl,az⟩
 have dx:=az.size
 refine cJ az hK cQ aY λhK cQ aY=>?_
 refine WZ ?_
 apply oO 4 6 10 (aj [] w2) rfl oQ
 intro _
 refine W ?_
 refine aA (Ei t cB _ L w2 cQ) ?_
 rintro _ w3 ⟨rfl,aH⟩
 have fh:=aH.size
 exact oQ
 intro xx w4 aP
 have hK:=hK.ext aP
 refine W ?_
 exact⟨_,rfl,rfl,hK⟩
def am6 (L:List Nat) (d:Nat) (s:ai) (v:Value) (w:World):Prop:=
 ∃t tv r ok,v= .tuple #[tv,str r,.bool ok]∧bC L w tv t∧AO d s t r ok
theorem am7:∀(d:Nat) (s:ai) (L:List Nat) (w:World),d<=60->s.length<=12000->(∀x,x∈L->x<w.heap.size)->
  bw Tryz.prog 70 [str s,.int .i64 ((60:Int)-(d:Int))] w λv w'=>am6 L d s v w'∧aj [] w w':=by
 intro d
 induction d using Nat.strongRecOn with
 |_ d ih=>
 intro s L w hd hs hL
 have hK:=aj.refl [] w
 refine lG [.cell 4 66,.tmp 5,.tmp 6] 78 Tryz.func70 rfl aem rfl rfl rfl ?_
 refine zr<|dz fx rfl rfl rfl λw1 aI aG dh=>?_
 have hK:=hK.grow;have hK:=hK.ext aI
 refine W ?_
 refine aA (amL _ _ _) ?_
 rintro _ _ ⟨rfl,rfl⟩
 refine kF rfl rfl rfl<|aV<|zc rfl (λh1=>?_) (λh1=>?_)
 have uz:=h1
 refine W ?_
 refine dR (λk:Nat=>[(0,str s),(1,.int .i64 ((60:Int)-(d:Int))),(4,.pointer (some ⟨w.heap.size,0,none⟩)),(7,.int .i64 (k:Int))]) (λk w'=>w'=w1∧k<=(s.takeWhile fa).length) (λk=>s.length-k) (0) (⟨rfl,rfl,rfl,rfl⟩) (⟨rfl,om⟩) λgg w2 e2 hI=>?_
 obtain⟨rfl,EY⟩:=hI
 have Hp:=RT fa s gg EY
 have fL:=Gw fa s
 refine WZ ?_
 apply oB 5 19 24 rfl oQ
 intro h2
 refine zm<|zm<|ko iE rfl rfl rfl rfl (jv om)<|aA (amQ _ _) ?_
 rintro _ _ ⟨rfl,rfl⟩
 exact oQ
 intro xx
 refine aV<|zc rfl (λh3=>?_) (λh3=>?_)
 have dY:=Hp.2 (by simpa using h3)
 refine W ?_
 exact⟨gg+1,⟨rfl,rfl,rfl,rfl⟩,⟨rfl,om⟩,om⟩
 have Hq:gg=(s.takeWhile fa).length:=Nat.le_antisymm EY (Nat.le_of_not_lt (λhh=>by have hx:=Hp.1 hh;rw[hx.2,Bool.and_true,decide_eq_false_iff_not] at h3;omega))
 refine WZ ?_
 refine Ax dv (cA w.heap.size ([str ((s.drop 0).take (gg-0)),.slice none 0 0]) 66) 12 (rA 27 9++[100009,5,6]) (rA 27 9++[100009,5,6]) [[],[],[0,1],[2],[],[],[4,5],[],[7],[3],[6],[8]] [λv _=>v=(str s),λv _=>v=(.int .i64 (gg:Int)),λv _=>v=(str ((s.drop 0).take (gg-0))),λv _=>v=(.agg #[str ((s.drop 0).take (gg-0)),.slice none 0 0]),λv _=>v=(str s),λv _=>v=(.int .i64 (gg:Int)),λv _=>v=(str ((s.drop gg).take (s.length-gg))),λv _=>v=(.int .i64 (gg:Int)),λv _=>v=(.bool (decide ((0:Int)<(gg:Int)))),λ_ ww=>aK ww w.heap.size ([str ((s.drop 0).take (gg-0)),.slice none 0 0]).toArray 66,λv _=>v=(str ((s.drop gg).take (s.length-gg))),λv _=>v=(.bool (decide ((0:Int)<(gg:Int))))] de (fE (fE (fE (fE (fE (fE (fE (fE (fE (Es (fE (fE trivial)))))))))))) (λwd aC=>?_) ?_
 refine et ?_ ?_
 intro x vs w3 e aH hd he
 replace aH:=(cA w.heap.size ([str ((s.drop 0).take (gg-0)),.slice none 0 0]) 66).trans aC aH
 replace he:e=bo (bm _ x _) []:=he
 subst he
 refine W ?_
 exact dn ((cA w.heap.size ([str ((s.drop 0).take (gg-0)),.slice none 0 0]) 66).refl _) rfl
 refine et ?_ ?_
 intro x vs w3 e aH hd he
 replace aH:=(cA w.heap.size ([str ((s.drop 0).take (gg-0)),.slice none 0 0]) 66).trans aC aH
 replace he:e=bo (bm _ x _) []:=he
 subst he
 refine W ?_
 exact dn ((cA w.heap.size ([str ((s.drop 0).take (gg-0)),.slice none 0 0]) 66).refl _) rfl
 refine et ?_ ?_
 intro x vs w3 e aH hd he
 have aQ:(vs 0=(str s))∧(vs 1=(.int .i64 (gg:Int))):=hd
 obtain⟨d0,d1⟩:=aQ
 replace aH:=(cA w.heap.size ([str ((s.drop 0).take (gg-0)),.slice none 0 0]) 66).trans aC aH
 replace he:e=bo (bm _ x _) [(27,vs 0),(28,vs 1)]:=he
 rw[d0,d1] at he
 subst he
 refine Cr iE rfl rfl rfl (.inl ⟨rfl,rfl⟩) (.inr ⟨_,rfl⟩) om om<|aV ?_
 exact dn ((cA w.heap.size ([str ((s.drop 0).take (gg-0)),.slice none 0 0]) 66).refl _) rfl
 refine et ?_ ?_
 intro x vs w3 e aH hd he
 have d2:vs 2=(str ((s.drop 0).take (gg-0))):=hd
 replace aH:=(cA w.heap.size ([str ((s.drop 0).take (gg-0)),.slice none 0 0]) 66).trans aC aH
 replace he:e=bo (bm _ x _) [(29,vs 2)]:=he
 rw[d2] at he
 subst he
 refine jG (aeL _ _) rfl rfl<|aV ?_
 exact dn ((cA w.heap.size ([str ((s.drop 0).take (gg-0)),.slice none 0 0]) 66).refl _) rfl
 refine et ?_ ?_
 intro x vs w3 e aH hd he
 replace aH:=(cA w.heap.size ([str ((s.drop 0).take (gg-0)),.slice none 0 0]) 66).trans aC aH
 replace he:e=bo (bm _ x _) []:=he
 subst he
 refine W ?_
 exact dn ((cA w.heap.size ([str ((s.drop 0).take (gg-0)),.slice none 0 0]) 66).refl _) rfl
 refine et ?_ ?_
 intro x vs w3 e aH hd he
 replace aH:=(cA w.heap.size ([str ((s.drop 0).take (gg-0)),.slice none 0 0]) 66).trans aC aH
 replace he:e=bo (bm _ x _) []:=he
 subst he
 refine W ?_
 exact dn ((cA w.heap.size ([str ((s.drop 0).take (gg-0)),.slice none 0 0]) 66).refl _) rfl
 refine et ?_ ?_
 intro x vs w3 e aH hd he
 have aQ:(vs 4=(str s))∧(vs 5=(.int .i64 (gg:Int))):=hd
 obtain⟨d4,d5⟩:=aQ
 replace aH:=(cA w.heap.size ([str ((s.drop 0).take (gg-0)),.slice none 0 0]) 66).trans aC aH
 replace he:e=bo (bm _ x _) [(31,vs 4),(32,vs 5)]:=he
 rw[d4,d5] at he
 subst he
 refine Cr iE rfl rfl rfl (.inr ⟨_,rfl⟩) (.inl ⟨rfl,rfl⟩) om om<|aV ?_
 exact dn ((cA w.heap.size ([str ((s.drop 0).take (gg-0)),.slice none 0 0]) 66).refl _) rfl
 refine et ?_ ?_
 intro x vs w3 e aH hd he
 replace aH:=(cA w.heap.size ([str ((s.drop 0).take (gg-0)),.slice none 0 0]) 66).trans aC aH
 replace he:e=bo (bm _ x _) []:=he
 subst he
 refine W ?_
 exact dn ((cA w.heap.size ([str ((s.drop 0).take (gg-0)),.slice none 0 0]) 66).refl _) rfl
 refine et ?_ ?_
 intro x vs w3 e aH hd he
 have d7:vs 7=(.int .i64 (gg:Int)):=hd
 replace aH:=(cA w.heap.size ([str ((s.drop 0).take (gg-0)),.slice none 0 0]) 66).trans aC aH
 replace he:e=bo (bm _ x _) [(34,vs 7)]:=he
 rw[d7] at he
 subst he
 refine W ?_
 exact dn ((cA w.heap.size ([str ((s.drop 0).take (gg-0)),.slice none 0 0]) 66).refl _) rfl
 refine et ?_ ?_
 intro x vs w3 e aH hd he
 have d3:vs 3=(.agg #[str ((s.drop 0).take (gg-0)),.slice none 0 0]):=hd
 replace aH:=(cA w.heap.size ([str ((s.drop 0).take (gg-0)),.slice none 0 0]) 66).trans aC aH
 obtain⟨us,wm,wo⟩:=aH.2.2 ⟨_,(by rfl),aG⟩
 replace he:e=bo (bm _ x _) [(30,vs 3)]:=he
 rw[d3] at he
 subst he
 refine cL fx rfl rfl rfl wo (by rw[wm];rfl) λw4 aP hb gQ=>W ?_
 exact dn ⟨aP,λ_=>hb,λ_=>⟨_,rfl,hb⟩⟩ hb
 refine et ?_ ?_
 intro x vs w3 e aH hd he
 have d6:vs 6=(str ((s.drop gg).take (s.length-gg))):=hd
 replace aH:=(cA w.heap.size ([str ((s.drop 0).take (gg-0)),.slice none 0 0]) 66).trans aC aH
 replace he:e=bo (bm _ x _) [(33,vs 6)]:=he
 rw[d6] at he
 subst he
 refine W ?_
 exact dn ((cA w.heap.size ([str ((s.drop 0).take (gg-0)),.slice none 0 0]) 66).refl _) rfl
 refine et ?_ ?_
 intro x vs w3 e aH hd he
 have d8:vs 8=(.bool (decide ((0:Int)<(gg:Int)))):=hd
 replace aH:=(cA w.heap.size ([str ((s.drop 0).take (gg-0)),.slice none 0 0]) 66).trans aC aH
 replace he:e=bo (bm _ x _) [(35,vs 8)]:=he
 rw[d8] at he
 subst he
 refine W ?_
 exact dn ((cA w.heap.size ([str ((s.drop 0).take (gg-0)),.slice none 0 0]) 66).refl _) rfl
 exact trivial
 intro x vs qY DH dU
 have d0:vs 0=(str s):=dU 0 de
 have d1:vs 1=(.int .i64 (gg:Int)):=dU 1 de
 have d2:vs 2=(str ((s.drop 0).take (gg-0))):=dU 2 de
 have d3:vs 3=(.agg #[str ((s.drop 0).take (gg-0)),.slice none 0 0]):=dU 3 de
 have d4:vs 4=(str s):=dU 4 de
 have d5:vs 5=(.int .i64 (gg:Int)):=dU 5 de
 have d6:vs 6=(str ((s.drop gg).take (s.length-gg))):=dU 6 de
 have d7:vs 7=(.int .i64 (gg:Int)):=dU 7 de
 have d8:vs 8=(.bool (decide ((0:Int)<(gg:Int)))):=dU 8 de
 have d9:aK qY w.heap.size ([str ((s.drop 0).take (gg-0)),.slice none 0 0]).toArray 66:=dU 9 de
 have d10:vs 10=(str ((s.drop gg).take (s.length-gg))):=dU 10 de
 have d11:vs 11=(.bool (decide ((0:Int)<(gg:Int)))):=dU 11 de
 have hK:=hK.aD DH.1 sx
 have aG:=d9
 change OW _ _ _ _ [] (bo (bm _ x _) (zZ 27 [vs 0,vs 1,vs 2,vs 3,vs 4,vs 5,vs 6,vs 7,vs 8]++[(100009,vs 9),(5,vs 10),(6,vs 11)])) _
 rw[d0,d1,d2,d3,d4,d5,d6,d7,d8,d10,d11]
 refine aV<|j4<|⟨[_,_,_],⟨gC ux fx rfl aG rfl,rfl,rfl⟩,⟨.mk (s.takeWhile fa) [],_,s.dropWhile fa,_,by rw[List.drop_zero,Nat.sub_zero,Hq,Jm,MU,Gv];rfl,lE pj,?_⟩,hK⟩
 unfold AO
 rw[abK uz]
 by_cases hz:s.takeWhile fa=[]
 rw[iP hz];exact .inr ⟨rfl,by simp[hz]⟩
 rw[iN hz];refine .inl ⟨rfl,dT ?_⟩;have:=List.length_pos_iff.2 hz;omega
 obtain⟨r0,rfl⟩:=abI h1
 refine W ?_
 refine zc rfl (λh4=>?_) (λh4=>?_)
 have Qv:d=0:=by omega
 refine zr<|jG (M1 _) rfl rfl<|cL fx rfl rfl rfl aG rfl λw2 az aG dD=>?_
 have hK:=hK.aD az sx
 refine W ?_
 exact⟨[_,_,_],⟨gC ux fx rfl aG rfl,rfl,rfl⟩,⟨.mk [] [],_,[],_,rfl,lE pj,.inr ⟨by rw[Qv];simp[eu],rfl⟩⟩,hK⟩
 have aQ:∃d',d=d'+1:=⟨d-1,om⟩
 obtain⟨d',rfl⟩:=aQ
 refine gT<|zr<|dz fx rfl rfl rfl λw2 az db dD=>?_
 have hK:=hK.grow;have hK:=hK.ext az;have aG:=aG.grow;have aG:=aG.ext az
 refine W ?_
 have atg:=aG.lt
 refine dR (λq:List aq×ai×Option Addr×Nat×Option Nat=>[(0,str q.2.1),(1,.int .i64 ((60:Int)-((d'+1:Nat):Int))),(4,.pointer (some ⟨w.heap.size,0,none⟩)),(8,.pointer (some ⟨w1.heap.size,0,none⟩))]) (λq w'=>aj [] w w'∧aK w' w.heap.size [str [],.slice none 0 0].toArray 66∧aK w' w1.heap.size [str [],.slice q.2.2.1 q.1.length q.2.2.2.1].toArray 66∧Gr w.heap.size (w.heap.size::w1.heap.size::L) w' 66 2 (.slice q.2.2.1 q.1.length q.2.2.2.1) q.2.2.2.2 (da q.1)∧0<q.2.1.length∧q.2.1.length+q.1.length<=12000∧mU (d'+1) r0=(mU (d'+1) (q.2.1.drop 1)).map (λp=>(q.1++p.1,p.2))) (λq=>q.2.1.length) (([],40::r0,none,0,none)) (⟨rfl,rfl,rfl,rfl⟩) (⟨hK,aG,db,Gr.nil (by intro x hx;simp at hx;rcases hx with rfl|rfl|hx;omega;omega;have:=hL x hx;omega) om,sm,by simp at hs⊢;omega,sm⟩) λgg w3 e3 hI=>?_
 obtain⟨acc,sc,a,cc,g⟩:=gg
 dsimp only at hI⊢
 obtain⟨hK,aG,db,hO,Vg,ath,tF⟩:=hI
 have fR:=hK.size
 have YK:=aG.lt
 have ati:=db.lt
 refine sV<|zr<|zm<|Cr (l:=1) iE rfl rfl rfl (.inr ⟨_,rfl⟩) (.inl ⟨rfl,rfl⟩) om om<|zm<|kR rfl rfl rfl rfl rfl (show IntKind.i64.wrap ((60:Int)-((d'+1:Nat):Int)+1)=(60:Int)-(d':Int) by rw[wrap_i64 _ om om];omega) ?_
 rw[MU]
 refine aA (ih d' om (sc.drop 1) (g.toList++(w.heap.size::w1.heap.size::L)) w3 om so hO.all) ?_
 rintro v4 w4 ⟨ke,aP⟩
 have fH:=aP.size
 refine gY aP hK aG db hO λhK aG db hO=>?_
 obtain⟨t,tv,r,ok,rfl,ht,hm⟩:=ke
 obtain⟨pa,pn,pc,rfl,eO,aO⟩:=cY ht
 subst eO
 refine W ?_
 refine dz fx rfl rfl rfl λw5 aN cT gZ=>?_
 have hK:=hK.grow;have hK:=hK.ext aN;have aG:=aG.grow;have aG:=aG.ext aN;have db:=db.grow;have db:=db.ext aN;have hO:=hO.alloc aN gZ;have ht:=ht.grow;have ht:=ht.ext aN
 refine cL fx rfl rfl rfl cT rfl λw6 bN cT lj=>?_
 have hK:=hK.aD bN sx;have aG:=aG.aD bN sx;have db:=db.aD bN sx;have hO:=hO.aD bN sx;have ht:=ht.aD bN sx
 refine W ?_
 apply oP 3 50 53 rfl oQ
 intro _
 exact oQ
 intro xx
 refine WZ ?_
 apply oP 9 54 63 rfl oQ
 intro h6
 simp at h6
 have oN:=List.length_pos_iff.2 h6.2
 refine zm<|ko (i:=0) iE rfl rfl rfl rfl (jv oN)<|WZ ?_
 apply oB 4 58 62 rfl oQ
 intro _
 refine zm<|ko (i:=0) iE rfl rfl rfl rfl (jv oN) ?_
 exact oQ
 intro xx
 exact oQ
 intro xx
 refine aV<|zc rfl (λh8=>?_) (λh8=>?_)
 have hR:eu (d'+1) (40::r0)=none:=by rw[Eu,tF,abN hm h8];rfl
 refine zr<|jG (M1 _) rfl rfl<|cL fx rfl rfl rfl aG rfl λw7 bW aG oe=>?_
 have hK:=hK.aD bW sx
 refine W ?_
 exact⟨[_,_,_],⟨gC ux fx rfl aG rfl,rfl,rfl⟩,⟨.mk [] [],_,[],_,rfl,lE pj,.inr ⟨hR,rfl⟩⟩,hK⟩
 obtain⟨pg,oN,ga⟩:=abO hm h8
 refine W ?_
 refine eR s9 fx rfl rfl λw7 bW am8 oe=>kJ bW hK aG db hO ht λhK aG db hO ht=>?_
 refine Mz s9 fx rfl rfl rfl rfl rfl rfl hO am8 ht.MB om λa2 og g2 w8 fO cg=>?_
 have dk:=cg.size
 have hK:=hO.since hK cg
 have aG:=aG.aD cg (hO.AD sm);have db:=db.aD cg (hO.AD sm)
 refine zf Tq rfl<|gD JG rfl rfl rfl db rfl λw9 aB db du=>?_
 have hK:=hK.aD aB sx;have aG:=aG.aD aB sx;have fO:=fO.aD aB sx
 refine W ?_
 refine ko (i:=0) iE rfl rfl rfl rfl (jv pg)<|xf rfl rfl rfl rfl rfl<|aV<|zc rfl (λh9=>?_) (λh9=>?_)
 have By:r.getD 0 0=41:=UInt8.toNat_inj.1 (by have C7:(41:UInt8).toNat=41:=rfl;rw[C7];omega)
 have hR:eu (d'+1) (40::r0)=some (.mk [] (acc++[t]),r.drop 1):=by rw[Eu,tF,ga,iP By];rfl
 refine WZ ?_
 refine Ax dv (cA w.heap.size ([str [],.slice a2 (acc++[t]).length og]) 66) 6 [75,76,77,100003,5,6] [75,76,77,100003,5,6] [[],[],[1],[0],[2],[]] [λv _=>v=(.agg #[str [],.slice a2 (acc++[t]).length og]),λv _=>v=(str r),λv _=>v=(str ((r.drop 1).take (r.length-1))),λ_ ww=>aK ww w.heap.size ([str [],.slice a2 (acc++[t]).length og]).toArray 66,λv _=>v=(str ((r.drop 1).take (r.length-1))),λv _=>v=(.bool true)] de (fE (fE (fE (Es (fE (fE trivial)))))) (λwd aC=>?_) ?_
 refine et ?_ ?_
 intro x vs cv e cw hd he
 replace cw:=(cA w.heap.size ([str [],.slice a2 (acc++[t]).length og]) 66).trans aC cw
 have db:=db.aD cw.1 sx
 replace he:e=bo (bm _ x _) []:=he
 subst he
 refine W ?_
 exact dn ((cA w.heap.size ([str [],.slice a2 (acc++[t]).length og]) 66).refl _) rfl
 refine et ?_ ?_
 intro x vs cv e cw hd he
 replace cw:=(cA w.heap.size ([str [],.slice a2 (acc++[t]).length og]) 66).trans aC cw
 replace he:e=bo (bm _ x _) []:=he
 subst he
 refine W ?_
 exact dn ((cA w.heap.size ([str [],.slice a2 (acc++[t]).length og]) 66).refl _) rfl
 refine et ?_ ?_
 intro x vs cv e cw hd he
 have d1:vs 1=(str r):=hd
 replace cw:=(cA w.heap.size ([str [],.slice a2 (acc++[t]).length og]) 66).trans aC cw
 replace he:e=bo (bm _ x _) [(76,vs 1)]:=he
 rw[d1] at he
 subst he
 refine Cr (l:=1) iE rfl rfl rfl (.inr ⟨_,rfl⟩) (.inl ⟨rfl,rfl⟩) om om<|aV ?_
 exact dn ((cA w.heap.size ([str [],.slice a2 (acc++[t]).length og]) 66).refl _) rfl
 refine et ?_ ?_
 intro x vs cv e cw hd he
 have d0:vs 0=(.agg #[str [],.slice a2 (acc++[t]).length og]):=hd
 replace cw:=(cA w.heap.size ([str [],.slice a2 (acc++[t]).length og]) 66).trans aC cw
 obtain⟨us,wm,wo⟩:=cw.2.2 ⟨_,(by rfl),aG⟩
 replace he:e=bo (bm _ x _) [(75,vs 0)]:=he
 rw[d0] at he
 subst he
 refine cL fx rfl rfl rfl wo (by rw[wm];rfl) λew cR hb vY=>W ?_
 exact dn ⟨cR,λ_=>hb,λ_=>⟨_,rfl,hb⟩⟩ hb
 refine et ?_ ?_
 intro x vs cv e cw hd he
 have d2:vs 2=(str ((r.drop 1).take (r.length-1))):=hd
 replace cw:=(cA w.heap.size ([str [],.slice a2 (acc++[t]).length og]) 66).trans aC cw
 replace he:e=bo (bm _ x _) [(77,vs 2)]:=he
 rw[d2] at he
 subst he
 refine W ?_
 exact dn ((cA w.heap.size ([str [],.slice a2 (acc++[t]).length og]) 66).refl _) rfl
 refine et ?_ ?_
 intro x vs cv e cw hd he
 replace cw:=(cA w.heap.size ([str [],.slice a2 (acc++[t]).length og]) 66).trans aC cw
 replace he:e=bo (bm _ x _) []:=he
 subst he
 refine W ?_
 exact dn ((cA w.heap.size ([str [],.slice a2 (acc++[t]).length og]) 66).refl _) rfl
 exact trivial
 intro x vs oZ iY dU
 have d0:vs 0=(.agg #[str [],.slice a2 (acc++[t]).length og]):=dU 0 de
 have d1:vs 1=(str r):=dU 1 de
 have d2:vs 2=(str ((r.drop 1).take (r.length-1))):=dU 2 de
 have d3:aK oZ w.heap.size ([str [],.slice a2 (acc++[t]).length og]).toArray 66:=dU 3 de
 have d4:vs 4=(str ((r.drop 1).take (r.length-1))):=dU 4 de
 have d5:vs 5=(.bool true):=dU 5 de
 have hK:=hK.aD iY.1 sx;have fO:=fO.aD iY.1 sx
 have aG:=d3
 change OW _ _ _ _ [] (bo (bm _ x _) (zZ 75 [vs 0,vs 1,vs 2]++[(100003,vs 3),(5,vs 4),(6,vs 5)])) _
 rw[d0,d1,d2,d4,d5]
 refine W ?_
 exact⟨[_,_,_],⟨gC ux fx rfl aG rfl,rfl,rfl⟩,⟨.mk [] (acc++[t]),_,r.drop 1,_,by rw[MU];rfl,lE (fO.trees.gm (λx hx=>by simp[hx])),.inl ⟨hR,rfl⟩⟩,hK⟩
 have By:r.getD 0 0≠41:=λh=>h9 (by rw[h];rfl)
 refine WZ ?_
 exact⟨(acc++[t],r,a2,og,g2),⟨rfl,rfl,rfl,rfl⟩,⟨hK,aG,db,fO.gm (λx hx=>mK _ hx),pg,by simp at oN⊢;omega,by rw[tF,ga,iN By,map_append]⟩,by simp at oN;dsimp only;omega⟩
theorem am9 {s:ai} (h:12000<s.length):bB s=none:=by unfold bB;rw[iP h]
def ana (L:List Nat) (s:ai) (v:Value) (w:World):Prop:=∃t tv,v= .tuple #[tv,.bool (bB s).isSome]∧bC L w tv t∧∀t',bB s=some t'->t=t'
theorem YL (s:ai) (L:List Nat) (w:World) (hL:∀x,x∈L->x<w.heap.size):bw Tryz.prog 38 [str s] w λr w'=>ana L s r w'∧aj [] w w':=by
 have hK:=aj.refl [] w
 refine lG [.cell 2 66,.tmp 3] 23 Tryz.func38 rfl ad1 rfl rfl rfl ?_
 refine zr<|dz fx rfl rfl rfl λw1 aI aR dh=>?_
 have hK:=hK.grow;have hK:=hK.ext aI
 refine W ?_
 refine zc rfl (λh1=>?_) (λh1=>?_)
 have hp:=am9 (s:=s) om
 refine zr<|jG (M1 _) rfl rfl<|cL fx rfl rfl rfl aR rfl λw2 az aR dD=>?_
 have hK:=hK.aD az sx
 refine W ?_
 exact⟨[_,_],⟨gC ux fx rfl aR rfl,rfl⟩,⟨.mk [] [],_,by rw[hp];rfl,lE pj,by rw[hp];intro t' h;cases h⟩,hK⟩
 have hle:s.length<=12000:=by omega
 have hL1:∀x,x∈w.heap.size::L->x<w1.heap.size:=by intro x hx;rcases mC.1 hx with rfl|hx;omega;have:=hL x hx;omega
 refine gT<|zr<|zm<|aA (am7 60 s (w.heap.size::L) w1 om hle hL1) ?_
 rintro v2 w2 ⟨gz,az⟩
 have dx:=az.size
 refine bI az hK aR λhK aR=>?_
 obtain⟨t,tv,r,ok,rfl,ht,hm⟩:=gz
 obtain⟨pa,pn,pc,rfl,eO,aO⟩:=cY ht
 subst eO
 refine W ?_
 refine dz fx rfl rfl rfl λw3 aH aG gL=>?_
 have hK:=hK.grow;have hK:=hK.ext aH;have aR:=aR.grow;have aR:=aR.ext aH;have ht:=ht.grow;have ht:=ht.ext aH
 refine cL fx rfl rfl rfl aG rfl λw4 aP aG gQ=>?_
 have hK:=hK.aD aP sx;have aR:=aR.aD aP sx;have ht:=ht.aD aP sx
 refine W ?_
 apply oB 3 19 22 rfl oQ
 intro _
 exact oQ
 intro xx
 refine cL fx rfl rfl rfl aR rfl λw5 aN aR gZ=>?_
 have hK:=hK.aD aN sx;have ht:=ht.aD aN sx
 refine W ?_
 obtain⟨nk,qh⟩:=abP hle hm
 exact⟨[_,_],⟨gC ux fx rfl aR rfl,rfl⟩,⟨t,_,by rw[<-nk];rfl,ht.gm (λx hx=>by simp[hx]),qh⟩,hK⟩
def anc (L:List Nat) (s:ai) (v:Value) (w:World):Prop:=∃t tv,v= .tuple #[tv,.bool (s0 s)]∧bC L w tv t∧∀t',bB s=some t'->t=t'
theorem ane (s:ai) (L:List Nat) (w:World) (hL:∀x,x∈L->x<w.heap.size):bw Tryz.prog 97 [str s] w λr w'=>anc L s r w'∧aj [] w w':=by
 have hK:=aj.refl [] w
 refine lG [.cell 2 66,.tmp 3] 17 Tryz.func97 rfl aeC rfl rfl rfl ?_
 refine zr<|dz fx rfl rfl rfl λw1 aI aR dh=>?_
 have hK:=hK.grow;have hK:=hK.ext aI
 refine W ?_
 refine aA (YL s (w.heap.size::L) w1 (by intro x hx;rcases mC.1 hx with rfl|hx;omega;have:=hL x hx;omega)) ?_
 rintro v2 w2 ⟨gz,az⟩
 have dx:=az.size
 refine bI az hK aR λhK aR=>?_
 obtain⟨t,tv,rfl,ht,hp⟩:=gz
 obtain⟨pa,pn,pc,rfl,eO,aO⟩:=cY ht
 subst eO
 have cB:=λh=>EC hp h
 refine W ?_
 refine dz fx rfl rfl rfl λw3 aH aG gL=>?_
 have hK:=hK.grow;have hK:=hK.ext aH;have aR:=aR.grow;have aR:=aR.ext aH;have ht:=ht.grow;have ht:=ht.ext aH
 refine cL fx rfl rfl rfl aG rfl λw4 aP aG gQ=>?_
 have hK:=hK.aD aP sx;have aR:=aR.aD aP sx;have ht:=ht.aD aP sx
 refine W ?_
 refine Ax dv (cA w.heap.size ([str t.aw,.slice pa t.ak.length pc]) 66) 8 (rA 11 6++[100006,3]) (rA 11 6++[100006,3]) [[],[],[1],[2],[2,3],[2,4],[0],[5]] [λv _=>v=(.agg #[str t.aw,.slice pa t.ak.length pc]),λv _=>v=(.bool ((bB s).isSome)),λv _=>v=(.bool ((bB s).isSome)),λv _=>((bB s).isSome)=true->v=(.agg #[str t.aw,.slice pa t.ak.length pc]),λv _=>((bB s).isSome)=true->v=(.bool (fl false t)),λv _=>v=(.bool ((bB s).isSome&&fl false t)),λ_ ww=>aK ww w.heap.size ([str t.aw,.slice pa t.ak.length pc]).toArray 66,λv _=>v=(.bool ((bB s).isSome&&fl false t))] de (fE (fE (fE (Ct (Ct (fE (Es (fE trivial)))))))) (λwd aC=>?_) ?_
 refine et ?_ ?_
 intro x vs w5 e aN hd he
 replace aN:=(cA w.heap.size ([str t.aw,.slice pa t.ak.length pc]) 66).trans aC aN
 have aG:=aG.aD aN.1 sx
 replace he:e=bo (bm _ x _) []:=he
 subst he
 refine W ?_
 exact dn ((cA w.heap.size ([str t.aw,.slice pa t.ak.length pc]) 66).refl _) rfl
 refine et ?_ ?_
 intro x vs w5 e aN hd he
 replace aN:=(cA w.heap.size ([str t.aw,.slice pa t.ak.length pc]) 66).trans aC aN
 replace he:e=bo (bm _ x _) []:=he
 subst he
 refine W ?_
 exact dn ((cA w.heap.size ([str t.aw,.slice pa t.ak.length pc]) 66).refl _) rfl
 refine et ?_ ?_
 intro x vs w5 e aN hd he
 have d1:vs 1=(.bool ((bB s).isSome)):=hd
 replace aN:=(cA w.heap.size ([str t.aw,.slice pa t.ak.length pc]) 66).trans aC aN
 replace he:e=bo (bm _ x _) [(12,vs 1)]:=he
 rw[d1] at he
 subst he
 refine W ?_
 exact dn ((cA w.heap.size ([str t.aw,.slice pa t.ak.length pc]) 66).refl _) rfl
 refine et ?_ ?_
 intro x vs w5 e aN hd he
 have d2:vs 2=(.bool ((bB s).isSome)):=hd
 replace aN:=(cA w.heap.size ([str t.aw,.slice pa t.ak.length pc]) 66).trans aC aN
 have aG:=aG.aD aN.1 sx
 rcases bE ((bB s).isSome) with hg|hg
 rw[hg] at d2
 replace he:e=bo (bm _ x _) [(13,vs 2)]:=he
 rw[d2] at he
 subst he
 refine W ?_
 exact dn ((cA w.heap.size ([str t.aw,.slice pa t.ak.length pc]) 66).refl _) (show((bB s).isSome)=true->_=((.agg #[str t.aw,.slice pa t.ak.length pc]):Value) from λ_=>rfl)
 rw[hg] at d2
 replace he:e=bo (bm _ x _) [(13,vs 2)]:=he
 rw[d2] at he
 subst he
 refine W ?_
 exact dn ((cA w.heap.size ([str t.aw,.slice pa t.ak.length pc]) 66).refl _) (show((bB s).isSome)=true->_=(_:Value) from λhh=>nomatch hg.symm.trans hh)
 refine et ?_ ?_
 intro x vs w5 e aN hd he
 have aQ:(vs 2=(.bool ((bB s).isSome)))∧(((bB s).isSome)=true->vs 3=(.agg #[str t.aw,.slice pa t.ak.length pc])):=hd
 obtain⟨d2,d3⟩:=aQ
 replace aN:=(cA w.heap.size ([str t.aw,.slice pa t.ak.length pc]) 66).trans aC aN
 have ht:=ht.aD aN.1 sx
 rcases bE ((bB s).isSome) with hg|hg
 rw[hg] at d2
 replace d3:=d3 hg
 replace he:e=bo (bm _ x _) [(13,vs 2),(14,vs 3)]:=he
 rw[d2,d3] at he
 subst he
 refine aA (Qr t.size t (lR _) (by have:=(cB hg).2;omega) (cB hg).1 false _ _ w5 ht) ?_
 rintro _ w6 ⟨rfl,bN⟩
 have iJ:=bN.size
 refine W ?_
 exact dn ((cA w.heap.size ([str t.aw,.slice pa t.ak.length pc]) 66).of bN) (show((bB s).isSome)=true->_=((.bool (fl false t)):Value) from λ_=>rfl)
 rw[hg] at d2
 replace he:e=bo (bm _ x _) [(13,vs 2),(14,vs 3)]:=he
 rw[d2] at he
 subst he
 refine W ?_
 exact dn ((cA w.heap.size ([str t.aw,.slice pa t.ak.length pc]) 66).refl _) (show((bB s).isSome)=true->_=(_:Value) from λhh=>nomatch hg.symm.trans hh)
 refine et ?_ ?_
 intro x vs w5 e aN hd he
 have aQ:(vs 2=(.bool ((bB s).isSome)))∧(((bB s).isSome)=true->vs 4=(.bool (fl false t))):=hd
 obtain⟨d2,d4⟩:=aQ
 replace aN:=(cA w.heap.size ([str t.aw,.slice pa t.ak.length pc]) 66).trans aC aN
 rcases bE ((bB s).isSome) with hg|hg
 rw[hg] at d2
 replace d4:=d4 hg
 replace he:e=bo (bm _ x _) [(13,vs 2),(15,vs 4)]:=he
 rw[d2,d4] at he
 subst he
 refine W ?_
 exact dn ((cA w.heap.size ([str t.aw,.slice pa t.ak.length pc]) 66).refl _) (by first|rfl|(rw[hg];rfl))
 rw[hg] at d2
 replace he:e=bo (bm _ x _) [(13,vs 2),(15,vs 4)]:=he
 rw[d2] at he
 subst he
 refine W ?_
 exact dn ((cA w.heap.size ([str t.aw,.slice pa t.ak.length pc]) 66).refl _) (by first|rfl|(rw[hg];rfl))
 refine et ?_ ?_
 intro x vs w5 e aN hd he
 have d0:vs 0=(.agg #[str t.aw,.slice pa t.ak.length pc]):=hd
 replace aN:=(cA w.heap.size ([str t.aw,.slice pa t.ak.length pc]) 66).trans aC aN
 obtain⟨us,wm,wo⟩:=aN.2.2 ⟨_,(by rfl),aR⟩
 replace he:e=bo (bm _ x _) [(11,vs 0)]:=he
 rw[d0] at he
 subst he
 refine cL fx rfl rfl rfl wo (by rw[wm];rfl) λw6 bN hb lj=>W ?_
 exact dn ⟨bN,λ_=>hb,λ_=>⟨_,rfl,hb⟩⟩ hb
 refine et ?_ ?_
 intro x vs w5 e aN hd he
 have d5:vs 5=(.bool ((bB s).isSome&&fl false t)):=hd
 replace aN:=(cA w.heap.size ([str t.aw,.slice pa t.ak.length pc]) 66).trans aC aN
 replace he:e=bo (bm _ x _) [(16,vs 5)]:=he
 rw[d5] at he
 subst he
 refine W ?_
 exact dn ((cA w.heap.size ([str t.aw,.slice pa t.ak.length pc]) 66).refl _) rfl
 exact trivial
 intro x vs pL jq dU
 have d0:vs 0=(.agg #[str t.aw,.slice pa t.ak.length pc]):=dU 0 de
 have d1:vs 1=(.bool ((bB s).isSome)):=dU 1 de
 have d2:vs 2=(.bool ((bB s).isSome)):=dU 2 de
 have d3:((bB s).isSome)=true->vs 3=(.agg #[str t.aw,.slice pa t.ak.length pc]):=dU 3 de
 have d4:((bB s).isSome)=true->vs 4=(.bool (fl false t)):=dU 4 de
 have d5:vs 5=(.bool ((bB s).isSome&&fl false t)):=dU 5 de
 have d6:aK pL w.heap.size ([str t.aw,.slice pa t.ak.length pc]).toArray 66:=dU 6 de
 have d7:vs 7=(.bool ((bB s).isSome&&fl false t)):=dU 7 de
 have hK:=hK.aD jq.1 sx;have ht:=ht.aD jq.1 sx
 have aR:=d6
 change OW _ _ _ _ [] (bo (bm _ x _) (zZ 11 [vs 0,vs 1,vs 2,vs 3,vs 4,vs 5]++[(100006,vs 6),(3,vs 7)])) _
 rw[d0,d1,d2,d5,d7]
 refine W ?_
 exact⟨[_,_],⟨gC ux fx rfl aR rfl,rfl⟩,⟨t,_,by rw[Jv (f:=fl false) hp];rfl,ht.gm (λx hx=>by simp[hx]),hp⟩,hK⟩
def YM (L:List Nat) (b:Bk) (v:Value) (w:World):Prop:=∃ib bv,v= .tuple #[bv,.bool (oF b)]∧oo L w bv ib∧(oF b=true->ib=cP b)
theorem Qw {b:Bk} (h:oF b=false):YM L b (.tuple #[.agg #[str [],.slice none 0 0,.slice none 0 0],.bool false]) w:=
 ⟨⟨[],[],[]⟩,_,by rw[h],NQ pj pj,by rw[h];intro h;cases h⟩
theorem anf (k:Bk) (hl:k.aJ.length<1000000000) (fu:k.ck.length<1000000000) (eS:k.code.length<1000000000) (v:Value) (Li L:List Nat) (w:World) (hv:qI Li w v k) (hL:∀x,x∈L->x<w.heap.size):
  bw Tryz.prog 63 [v] w λr w'=>YM L k r w'∧aj [] w w':=by
 obtain⟨a1,n1,c1,a2,n2,c2,rfl,pE,mT,dk,dx⟩:=AB hv
 have hK:=aj.refl [] w
 refine lG [.cell 2 56,.tmp 3] 102 Tryz.func63 rfl aeh rfl rfl rfl ?_
 refine zr<|eK rfl λw1 aI aY dh=>?_
 have hK:=hK.ext aI
 refine dz jT rfl rfl rfl λw2 az aR dD=>?_
 have hK:=hK.grow;have hK:=hK.ext az;have aY:=aY.grow;have aY:=aY.ext az
 refine W ?_
 refine aA (YD _ om _) ?_
 rintro _ _ ⟨rfl,rfl⟩
 refine WZ ?_
 apply oP 5 17 22 rfl oQ
 intro _
 refine WZ ?_
 exact oQ
 intro xx
 refine WZ ?_
 apply oP 5 23 28 rfl oQ
 intro _
 refine WZ ?_
 exact oQ
 intro xx
 refine WZ ?_
 apply oP 6 29 35 rfl oQ
 intro _
 refine W ?_
 refine aA (LH _ _ _ _) ?_
 rintro _ _ ⟨rfl,rfl⟩
 exact oQ
 intro xx
 refine aV<|zc rfl (λh4=>?_) (λh4=>?_)
 have hq:=abQ pE mT h4
 refine zr<|jG (M0 _) rfl rfl<|cL jT rfl rfl rfl aR rfl λw3 aH aR gL=>?_
 have hK:=hK.aD aH sx
 refine W ?_
 exact⟨[_,_],⟨gC CJ jT rfl aR rfl,rfl⟩,Qw hq,hK⟩
 obtain⟨nX,oh⟩:=abR pE mT h4
 have vi:k.ck.length<=40∧k.code.length<=80:=by simp only[aE,dE] at nX;exact⟨nX.1.2,nX.2.2⟩
 refine W ?_
 refine jG (aeK _ _) rfl rfl<|dz jT rfl rfl rfl λw3 aH aG gL=>?_
 have hK:=hK.grow;have hK:=hK.ext aH;have aY:=aY.grow;have aY:=aY.ext aH;have aR:=aR.grow;have aR:=aR.ext aH
 refine cL jT rfl rfl rfl aG rfl λw4 aP aG gQ=>?_
 have hK:=hK.aD aP sx;have aY:=aY.aD aP sx;have aR:=aR.aD aP sx
 refine W ?_
 refine dR (λq:Nat×Option Addr×Nat×Option Nat=>[(1,.pointer (some ⟨w.heap.size,0,none⟩)),(2,.pointer (some ⟨w1.heap.size,0,none⟩)),(4,.pointer (some ⟨w2.heap.size,0,none⟩)),(41,.slice a1 n1 c1),(42,.int .i64 (n1:Int)),(43,.int .i64 (q.1:Int))]) (λq w'=>aj [] w w'∧aK w' w.heap.size [str k.aJ,.slice a1 n1 c1,.slice a2 n2 c2].toArray 58∧aK w' w1.heap.size [str [],.slice none 0 0,.slice none 0 0].toArray 56∧aK w' w2.heap.size [str k.aJ,.slice q.2.1 ((k.ck.take q.1).map tr).length q.2.2.1,.slice none 0 0].toArray 56∧Gr w1.heap.size (w1.heap.size::w2.heap.size::L) w' 66 2 (.slice q.2.1 ((k.ck.take q.1).map tr).length q.2.2.1) q.2.2.2 (da ((k.ck.take q.1).map tr))∧q.1<=k.ck.length∧∀i,i<q.1->s0 (bD k.ck i)=true) (λq=>k.ck.length-q.1) ((0,none,0,none)) (⟨rfl,rfl,rfl,rfl,rfl,rfl⟩) (⟨hK,aY,aR,aG,Gr.nil (by intro x hx;simp at hx;rcases hx with rfl|rfl|hx;omega;omega;have:=hL x hx;omega) om,sm,by intro i hi;simp at hi⟩) λgg w5 e5 hI=>?_
 obtain⟨i,a,cc,g⟩:=gg
 dsimp only at hI⊢
 obtain⟨hK,aY,aR,aG,hO,hk,cC⟩:=hI
 have fR:=hK.size
 have Wp:=aY.lt
 have Wq:=aR.lt
 have YK:=aG.lt
 refine W ?_
 refine zc rfl (λh5=>?_) (λh5=>?_)
 have ej:=ik (xs:=k.ck) (i:=i) om
 obtain⟨b,off,rfl,hc⟩:=lf (dk.ext hK) ej
 refine W ?_
 refine aA (ane (bD k.ck i) (g.toList++(w1.heap.size::w2.heap.size::L)) w5 hO.all) ?_
 rintro v6 w6 ⟨wL,bN⟩
 have iJ:=bN.size
 refine kJ bN hK aY aR aG hO λhK aY aR aG hO=>?_
 obtain⟨t,tv,rfl,ht,hp⟩:=wL
 obtain⟨pa,pn,pc,rfl,eO,aO⟩:=cY ht
 subst eO
 refine W ?_
 refine dz fx rfl rfl rfl λw7 bW cS oe=>?_
 have hK:=hK.grow;have hK:=hK.ext bW;have aY:=aY.grow;have aY:=aY.ext bW;have aR:=aR.grow;have aR:=aR.ext bW;have aG:=aG.grow;have aG:=aG.ext bW;have hO:=hO.alloc bW oe;have ht:=ht.grow;have ht:=ht.ext bW
 refine cL fx rfl rfl rfl cS rfl λw8 cg cS kX=>?_
 have hK:=hK.aD cg sx;have aY:=aY.aD cg sx;have aR:=aR.aD cg sx;have aG:=aG.aD cg sx;have hO:=hO.aD cg sx;have ht:=ht.aD cg sx
 refine W ?_
 refine zc rfl (λh6=>?_) (λh6=>?_)
 have hq:=abS (b:=k) (i:=i) om (by simpa using h6)
 refine zr<|jG (M0 _) rfl rfl<|cL jT rfl rfl rfl aR rfl λw9 aB aR du=>?_
 have hK:=hK.aD aB sx
 refine W ?_
 exact⟨[_,_],⟨gC CJ jT rfl aR rfl,rfl⟩,Qw hq,hK⟩
 have mh:s0 (bD k.ck i)=true:=by simpa using h6
 refine W ?_
 refine eR s9 fx rfl rfl λw9 aB Qx du=>tC aB hK aY aR aG hO ht λhK aY aR aG hO ht=>?_
 refine Mz s9 fx rfl rfl rfl rfl rfl rfl hO Qx ht.MB (by rw[EB _ hk];omega) λa3 IT g3 cv fP cw=>?_
 have YN:=cw.size
 have hK:=aj.Jt om hO.low hK cw
 have aY:=aY.aD cw (hO.R3 om);have aR:=aR.aD cw (hO.AD sm);have aG:=aG.aD cw (hO.AD sm)
 rw[abU mh hp,AP tr ej] at fP⊢
 refine zf To rfl<|gD JG rfl rfl rfl aG rfl λew cR aG vY=>?_
 have hK:=hK.aD cR sx;have aY:=aY.aD cR sx;have aR:=aR.aD cR sx;have fP:=fP.aD cR sx
 refine W ?_
 exact⟨(i+1,a3,IT,g3),⟨rfl,rfl,rfl,rfl,rfl,rfl⟩,⟨hK,aY,aR,aG,fP.gm (λx hx=>mK _ hx),by dsimp only;omega,by intro j hj;rcases Nat.lt_or_ge j i with h|h;exact cC j h;rw[show j=i by dsimp only at hj;omega];exact mh⟩,by dsimp only;omega⟩
 have NP:∀j,j<k.ck.length->s0 (bD k.ck j)=true:=λj hj=>cC j om
 rw[CI tr om] at aG hO
 have Px:=hO.trees
 have jg:=aj.refl [w1.heap.size,w2.heap.size] w5
 clear cC hO
 refine W ?_
 refine dR (λq:Nat×Option Addr×Nat×Option Nat=>[(1,.pointer (some ⟨w.heap.size,0,none⟩)),(2,.pointer (some ⟨w1.heap.size,0,none⟩)),(4,.pointer (some ⟨w2.heap.size,0,none⟩)),(63,.slice a2 n2 c2),(64,.int .i64 (n2:Int)),(65,.int .i64 (q.1:Int))]) (λq w'=>aj [] w w'∧aj [w1.heap.size,w2.heap.size] w5 w'∧aK w' w.heap.size [str k.aJ,.slice a1 n1 c1,.slice a2 n2 c2].toArray 58∧aK w' w1.heap.size [str [],.slice none 0 0,.slice none 0 0].toArray 56∧aK w' w2.heap.size [str k.aJ,.slice a (k.ck.map tr).length cc,.slice q.2.1 ((k.code.take q.1).map tr).length q.2.2.1].toArray 56∧Gr w5.heap.size (w1.heap.size::w2.heap.size::L) w' 66 2 (.slice q.2.1 ((k.code.take q.1).map tr).length q.2.2.1) q.2.2.2 (da ((k.code.take q.1).map tr))∧q.1<=k.code.length∧∀i,i<q.1->sq k.code i=true) (λq=>k.code.length-q.1) ((0,none,0,none)) (⟨rfl,rfl,rfl,rfl,rfl,rfl⟩) (⟨hK,jg,aY,aR,aG,Gr.nil (by intro x hx;simp at hx;rcases hx with rfl|rfl|hx;omega;omega;have:=hL x hx;omega) om,sm,by intro i hi;simp at hi⟩) λgg w6 e6 hI=>?_
 obtain⟨j,a5,Fc,g⟩:=gg
 dsimp only at hI⊢
 obtain⟨hK,jg,aY,aR,aG,hO,az,cC⟩:=hI
 have fR:=hK.size
 have atj:=jg.size
 have Wp:=aY.lt
 have Wq:=aR.lt
 have YK:=aG.lt
 refine W ?_
 refine zc rfl (λh7=>?_) (λh7=>?_)
 have ej:=ik (xs:=k.code) (i:=j) om
 obtain⟨b,off,rfl,hc⟩:=lf (dx.ext hK) ej
 refine W ?_
 refine aA (YL (bD k.code j) (g.toList++(w1.heap.size::w2.heap.size::L)) w6 hO.all) ?_
 rintro v7 w7 ⟨wy,bW⟩
 have lp:=bW.size
 refine tC bW hK jg aY aR aG hO λhK jg aY aR aG hO=>?_
 obtain⟨t,tv,rfl,ht,hp⟩:=wy
 obtain⟨pa,pn,pc,rfl,eO,aO⟩:=cY ht
 subst eO
 have cB:=λh=>EC hp h
 refine W ?_
 refine dz fx rfl rfl rfl λw8 cg iZ kX=>?_
 have hK:=hK.grow;have hK:=hK.ext cg;have jg:=jg.grow;have jg:=jg.ext cg;have aY:=aY.grow;have aY:=aY.ext cg;have aR:=aR.grow;have aR:=aR.ext cg;have aG:=aG.grow;have aG:=aG.ext cg;have hO:=hO.alloc cg kX;have ht:=ht.grow;have ht:=ht.ext cg
 refine cL fx rfl rfl rfl iZ rfl λw9 aB iZ du=>?_
 have hK:=hK.aD aB sx;have jg:=jg.aD aB sx;have aY:=aY.aD aB sx;have aR:=aR.aD aB sx;have aG:=aG.aD aB sx;have hO:=hO.aD aB sx;have ht:=ht.aD aB sx
 refine W ?_
 refine ER [75,76,77,78,79,80,81,82,83,84,85,86,87,88,89,90,91,92] [(92,.bool ((!(bB (bD k.code j)).isSome||!oD t)||(GG t !=decide ((j:Int)=(n2:Int)-1))))] ?_ ?_
 rcases bE (!(bB (bD k.code j)).isSome) with iX|iX
 apply lh dv 18 (rA 75 18) (rA 75 18) [[],[0],[1],[2],[2,3],[2,4],[2,5],[6],[7],[7,8],[7],[7],[7,11],[7,12],[7,13],[7,10,14],[7,9,15],[7,16]] [It.v _,It.v _,It.v (.bool true),It.v _,It.v _,It.v _,It.v _,It.v (.bool true),It.v _,It.v _,It.v _,It.v _,It.v _,It.v _,It.v _,It.v _,It.v _,It.v _] de rfl
 intro wd aC
 refine VA ?_
 refine vc (λx cv cw=>?_) ?_
 refine WZ ?_
 exact pv (by exact congrArg Value.bool iX)
 refine vk aC (λx cv cw=>?_) ?_
 exact cK pv
 refine vk aC (λx cv cw=>?_) ?_
 exact cK pv
 refine vc (λx cv cw=>?_) ?_
 exact cK pv
 refine vc (λ_ _ _=>WZ pv) ?_
 refine vc (λx cv cw=>?_) ?_
 refine WZ ?_
 exact pv (by rfl)
 exact VZ
 intro x oZ iY
 change OW _ _ _ _ [] (bo (bm _ x _) (zZ 75 [_,_,_,_,_,_,_,_,_,_,_,_,_,_,_,_,_,_])) _
 refine W ?_
 exact kE iY
 rcases bE (!(bB (bD k.code j)).isSome||!oD t) with mZ|mZ
 apply lh dv 18 (rA 75 18) (rA 75 18) [[],[0],[1],[2],[2,3],[2,4],[2,5],[6],[7],[7,8],[7],[7],[7,11],[7,12],[7,13],[7,10,14],[7,9,15],[7,16]] [It.v _,It.v _,It.v (.bool false),It.v _,It.v _,It.v _,It.v _,It.v (.bool true),It.v _,It.v _,It.v _,It.v _,It.v _,It.v _,It.v _,It.v _,It.v _,It.v _] de rfl
 intro wd aC
 refine VA ?_
 refine vc (λx cv cw=>?_) ?_
 refine WZ ?_
 exact pv (by exact congrArg Value.bool iX)
 refine VA ?_
 refine vk aC (λx cv cw=>?_) ?_
 have ht:=ht.ext cw
 have hg:=iX
 refine aA (YJ t (cB (by simpa using hg)).2 (cB (by simpa using hg)).1 _ _ cv ht) ?_
 rintro _ ew ⟨rfl,cR⟩
 have yo:=cR.size
 exact pk cR
 refine VA ?_
 refine vc (λx cv cw=>?_) ?_
 refine WZ ?_
 exact pv (by first|exact congrArg Value.bool mZ|(rw[iX] at mZ;exact congrArg Value.bool mZ))
 exact VZ
 intro x oZ iY
 change OW _ _ _ _ [] (bo (bm _ x _) (zZ 75 [_,_,_,_,_,_,_,_,_,_,_,_,_,_,_,_,_,_])) _
 refine W ?_
 exact kE iY
 apply lh dv 18 (rA 75 18) (rA 75 18) [[],[0],[1],[2],[2,3],[2,4],[2,5],[6],[7],[7,8],[7],[7],[7,11],[7,12],[7,13],[7,10,14],[7,9,15],[7,16]] [It.v _,It.v _,It.v (.bool false),It.v _,It.v _,It.v _,It.v _,It.v (.bool false),It.v _,It.v _,It.v _,It.v _,It.v _,It.v _,It.v _,It.v _,It.v _,It.v _] de rfl
 intro wd aC
 refine VA ?_
 refine vc (λx cv cw=>?_) ?_
 refine WZ ?_
 exact pv (by exact congrArg Value.bool iX)
 refine VA ?_
 refine vk aC (λx cv cw=>?_) ?_
 have ht:=ht.ext cw
 have hg:=iX
 refine aA (YJ t (cB (by simpa using hg)).2 (cB (by simpa using hg)).1 _ _ cv ht) ?_
 rintro _ ew ⟨rfl,cR⟩
 have yo:=cR.size
 exact pk cR
 refine VA ?_
 refine vc (λx cv cw=>?_) ?_
 refine WZ ?_
 exact pv (by first|exact congrArg Value.bool mZ|(rw[iX] at mZ;exact congrArg Value.bool mZ))
 refine VA ?_
 refine vk aC (λx cv cw=>?_) ?_
 have ht:=ht.ext cw
 have hg:=mZ
 refine aA (am5 t (cB (by rw[Bool.or_eq_false_iff] at hg;simpa using hg.1)).1 _ _ cv ht) ?_
 rintro _ ew ⟨rfl,cR⟩
 have yo:=cR.size
 exact pk cR
 refine vc (λ_ _ _=>WZ pv) ?_
 refine vc (λ_ _ _=>WZ pv) ?_
 refine vk aC (λx cv cw=>?_) ?_
 have aY:=aY.ext cw
 refine WZ ?_
 exact pv
 refine vk aC (λx cv cw=>?_) ?_
 refine WZ ?_
 exact pv
 refine vk aC (λx cv cw=>?_) ?_
 refine WZ ?_
 exact pv
 refine vk aC (λx cv cw=>?_) ?_
 refine WZ ?_
 exact pv
 refine vk aC (λx cv cw=>?_) ?_
 refine WZ ?_
 exact pv
 refine vc (λ_ _ _=>WZ pv) ?_
 exact trivial
 intro x oZ iY
 change OW _ _ _ _ [] (bo (bm _ x _) (zZ 75 [_,_,_,_,_,_,_,_,_,_,_,_,_,_,_,_,_,_])) _
 refine W ?_
 exact kE iY
 intro x oZ iY
 refine C5 iY hK jg aY aR aG hO ht iZ λhK jg aY aR aG hO ht iZ=>?_
 refine zc rfl (λh8=>?_) (λh8=>?_)
 rw[S0 mT om hp] at h8
 have hq:=abT (b:=k) (i:=j) om (by simpa using h8)
 refine zr<|jG (M0 _) rfl rfl<|cL jT rfl rfl rfl aR rfl λo3 mo aR ang=>?_
 have hK:=hK.aD mo sx
 refine W ?_
 exact⟨[_,_],⟨gC CJ jT rfl aR rfl,rfl⟩,Qw hq,hK⟩
 rw[S0 mT om hp] at h8
 have mh:sq k.code j=true:=by simpa using h8
 refine W ?_
 refine eR s9 fx rfl rfl λo3 mo IC ang=>J2 mo hK jg aY aR aG hO ht λhK jg aY aR aG hO ht=>?_
 refine Mz s9 fx rfl rfl rfl rfl rfl rfl hO IC ht.MB (by rw[EB _ az];omega) λa3 IT g3 lQ fP lv=>?_
 have YN:=lv.size
 have hK:=aj.Jt om hO.low hK lv
 have jg:=hO.since jg lv
 have aY:=aY.aD lv (hO.R3 om);have aR:=aR.aD lv (hO.AD sm);have aG:=aG.aD lv (hO.AD sm)
 rw[abV mh hp,AP tr ej] at fP⊢
 refine zf Tp rfl<|gD JG rfl rfl rfl aG rfl λBX qz aG aiq=>?_
 have hK:=hK.aD qz sx;have jg:=jg.aD qz sx;have aY:=aY.aD qz sx;have aR:=aR.aD qz sx;have fP:=fP.aD qz sx
 refine W ?_
 exact⟨(j+1,a3,IT,g3),⟨rfl,rfl,rfl,rfl,rfl,rfl⟩,⟨hK,jg,aY,aR,aG,fP.gm (λx hx=>mK _ hx),by dsimp only;omega,by intro i2 hj;rcases Nat.lt_or_ge i2 j with h|h;exact cC i2 h;rw[show i2=j by dsimp only at hj;omega];exact mh⟩,by dsimp only;omega⟩
 have hq:=SB nX NP (λi hi=>cC i om)
 have hqI:oF k=true:=by unfold oF;rw[hq,oh];rfl
 rw[CI tr om] at aG hO
 refine W ?_
 refine cL jT rfl rfl rfl aR rfl λw7 bW aR oe=>?_
 have hK:=hK.aD bW sx;have jg:=jg.aD bW sx;have hO:=hO.aD bW sx
 refine W ?_
 exact⟨[_,_],⟨gC CJ jT rfl aR rfl,rfl⟩,⟨cP k,_,by rw[hqI];rfl,NQ (l:=k.aJ) ((Px.aD jg sm).gm (λx hx=>by simp[hx])) (hO.trees.gm (λx hx=>by simp[hx])),λ_=>rfl⟩,hK⟩
theorem ani (k:cI) (l:ai) (b1:Nat) (v:Value) (L:List Nat) (w:World) (hv:oo L w v k) (aY:aK w b1 [str l].toArray 9):
  bw Tryz.prog 88 [v,.pointer (some ⟨b1,0,none⟩)] w λr w'=>r= .bool (decide (k.aJ=l))∧aj [] w w':=by
 obtain⟨a1,c1,a2,c2,rfl,cz,bZ⟩:=UH hv
 have hK:=aj.refl [] w
 refine bU [.tmp 3] 8 Tryz.func88 rfl aex rfl rfl ?_
 refine zr<|eK rfl λw1 aI aR dh=>bI aI hK aY λhK aY=>?_
 refine W ?_
 exact⟨_,rfl,rfl,hK⟩
theorem anj (ps:List cI) (hlen:ps.length<1000000000) (g:cI->Bool) (f:FuncId) (caps:List Value) (v:Value) (L:List Nat) (w:World) (hv:ky L w v ps) 
  (hf:∀i,i<ps.length->∀(u:Value) (w':World),aj [] w w'->oo L w' u (dJ ps i)->bw Tryz.prog f (u::caps) w' λr w''=>r= .bool (g (dJ ps i))∧aj [] w' w''):
  bw Tryz.prog 87 [v,.func (.func f) #[] caps.toArray] w λr w'=>r= .int .i64 (GL ps g)∧aj [] w w':=by
 obtain⟨a,c,rfl⟩:=BB hv
 have hK:=aj.refl [] w
 refine bU [.tmp 4] 19 Tryz.func87 rfl aew rfl rfl ?_
 refine W ?_
 refine dR (λk:Nat=>[(0,.slice a ps.length c),(1,.func (.func f) #[] caps.toArray),(7,.int .i64 (ps.length:Int)),(8,.int .i64 (k:Int))]) (λk w'=>aj [] w w'∧k<=ps.length∧∀i,i<k->g (dJ ps i)=false) (λk=>ps.length-k) (0) (⟨rfl,rfl,rfl,rfl⟩) (⟨hK,om,by intro i hi;omega⟩) λgg w1 e1 hI=>?_
 obtain⟨hK,hk,cC⟩:=hI
 have hv:=hv.ext hK
 refine W ?_
 refine zc rfl (λh1=>?_) (λh1=>?_)
 have hp:=rE (ps:=ps) (i:=gg) om
 obtain⟨b,off,a1,c1,a2,c2,rfl,hc,nk,qh⟩:=BC hv hp
 refine W ?_
 refine Jp rfl rfl rfl (hf gg om _ w1 hK (NQ nk qh)) ?_
 rintro _ w2 ⟨rfl,az⟩
 have dx:=az.size
 have hK:=hK.ext az
 refine aV<|zc rfl (λh2=>?_) (λh2=>?_)
 have hq:=abW om cC h2
 refine W ?_
 exact⟨_,rfl,by rw[hq];rfl,hK⟩
 refine W ?_
 exact⟨gg+1,⟨rfl,rfl,rfl,rfl⟩,⟨hK,om,by intro i hi;rcases Nat.lt_or_ge i gg with h|h;exact cC i h;rw[show i=gg by omega];exact h2⟩,om⟩
 have hq:=abX (λi hi=>cC i om)
 refine W ?_
 exact⟨_,rfl,by rw[hq];rfl,hK⟩
theorem Qy (ps:List cI) (hlen:ps.length<1000000000) (l:ai) (v:Value) (L:List Nat) (w:World) (hv:ky L w v ps):
  bw Tryz.prog 54 [v,str l] w λr w'=>r= .int .i64 (iO ps l)∧aj [] w w':=by
 have hK:=aj.refl [] w
 refine bU [.tmp 4] 8 Tryz.func54 rfl aed rfl rfl ?_
 refine zr<|Mg rfl rfl rfl λw1 aI cW dh=>bI aI hK hv λhK hv=>?_
 refine W ?_
 refine My (vs:=[.pointer (some ⟨w.heap.size,0,none⟩)]) rfl rfl rfl<|aA (anj ps hlen (λb=>decide (b.aJ=l)) 88 [.pointer (some ⟨w.heap.size,0,none⟩)] _ L w1 hv (λi hi u w' k hu=>ani (dJ ps i) l _ _ L _ hu (cW.ext k))) ?_
 rintro _ w2 ⟨rfl,az⟩
 have dx:=az.size
 have hK:=hK.ext az
 refine W ?_
 exact⟨_,rfl,rfl,hK⟩
def ank (L:List Nat) (bs:List Bk) (v:Value) (w:World):Prop:=∃ps pv,v= .tuple #[pv,.bool (lg bs)]∧ky L w pv ps∧(lg bs=true->ps=bs.map cP)
theorem LI (bs:List Bk) (hb:ur bs) (v:Value) (Li L:List Nat) (w:World) (hv:lH Li w v bs) (hL:∀x,x∈L->x<w.heap.size):
  bw Tryz.prog 32 [v] w λr w'=>ank L bs r w'∧aj [] w w':=by
 obtain⟨a,n,c,rfl,hn⟩:=vI hv
 have hK:=aj.refl [] w
 have ix:=hb.1
 refine bU [.tmp 2,.tmp 3] 52 Tryz.func32 rfl adW rfl rfl ?_
 refine W ?_
 refine aA (LH _ _ _ _) ?_
 rintro _ _ ⟨rfl,rfl⟩
 refine kF rfl rfl rfl<|aV<|zc rfl (λh1=>?_) (λh1=>?_)
 have hq:lg bs=false:=ab0 (λh=>by rw[dT (p:=(1:Int)<=(n:Int)) om,dT (p:=(n:Int)<=40) om] at h1;exact absurd h1 de)
 refine W ?_
 exact⟨_,rfl,⟨[],_,by rw[hq];rfl,UI,by rw[hq];intro h;cases h⟩,hK⟩
 have YO:1<=bs.length∧bs.length<=40:=by have:=h1;simp only[aE,dE] at this;omega
 refine W ?_
 refine dR (λq:Nat×Option Addr×Nat×Option Nat=>[(0,.slice a n c),(4,.slice q.2.1 ((bs.take q.1).map cP).length q.2.2.1),(13,.slice a n c),(14,.int .i64 (n:Int)),(15,.int .i64 (q.1:Int))]) (λq w'=>aj [] w w'∧Gr w.heap.size L w' 56 3 (.slice q.2.1 ((bs.take q.1).map cP).length q.2.2.1) q.2.2.2 (((bs.take q.1).map cP).map cI.enc)∧q.1<=bs.length∧∀i,i<q.1->oF (bR bs i)=true∧lJ bs (bR bs i).aJ=i) (λq=>bs.length-q.1) ((0,none,0,none)) (⟨rfl,rfl,rfl,rfl,rfl⟩) (⟨hK,Gr.nil hL om,sm,by intro i hi;simp at hi⟩) λgg w1 e1 hI=>?_
 obtain⟨i,a1,cc,g⟩:=gg
 dsimp only at hI⊢
 obtain⟨hK,hO,hk,cC⟩:=hI
 have fR:=hK.size
 refine W ?_
 refine zc rfl (λh2=>?_) (λh2=>?_)
 have ej:=kq (bs:=bs) (i:=i) om
 obtain⟨b,off,ra,rn,rc,ca,cn,c3,rfl,hc,rP,vh,dk,dx⟩:=xm hv ej
 have pH:=hb.2 i om
 refine WL ?_
 refine zL CK fm rfl (hc.ext hK) rfl<|dz fm rfl rfl rfl λw2 az bO dD=>?_
 have hK:=hK.grow;have hK:=hK.ext az;have hO:=hO.alloc az dD
 refine cL fm rfl rfl rfl bO rfl λw3 aH bO gL=>?_
 have hK:=hK.aD aH sx;have hO:=hO.aD aH sx
 refine W ?_
 refine aA (anf (bR bs i) pH.1 pH.2.1 pH.2.2 _ _ (g.toList++(w1.heap.size::L)) w3 (qI.ext (vH dk dx) hK) hO.all) ?_
 rintro v4 w4 ⟨ke,aP⟩
 have fH:=aP.size
 refine bI aP hK hO λhK hO=>?_
 obtain⟨ib,bv,rfl,ht,hp⟩:=ke
 obtain⟨b1a,b1c,b2a,b2c,rfl,_,_⟩:=UH ht
 refine W ?_
 refine dz jT rfl rfl rfl λw5 aN cS gZ=>?_
 have hK:=hK.grow;have hK:=hK.ext aN;have hO:=hO.alloc aN gZ;have ht:=ht.grow;have ht:=ht.ext aN
 refine cL jT rfl rfl rfl cS rfl λw6 bN cS lj=>?_
 have hK:=hK.aD bN sx;have hO:=hO.aD bN sx;have ht:=ht.aD bN sx
 refine W ?_
 apply oO 6 26 32 (aj [] w6) rfl oQ
 intro h3
 have yu:oF (bR bs i)=true:=by simpa using h3
 have hib:=hp yu
 subst hib
 refine W ?_
 refine aA (Qy ((bs.take i).map cP) (by rw[EB _ hk];omega) (bR bs i).aJ _ L w6 (hO.prog.gm (λx hx=>by simp[hx]))) ?_
 rintro _ w7 ⟨rfl,bW⟩
 have lp:=bW.size
 exact oQ
 intro xx w8 cg
 refine gY cg hK hO ht cS λhK hO ht cS=>?_
 refine aV<|zc rfl (λh4=>?_) (λh4=>?_)
 have hq:lg bs=false:=abY (i:=i) om (by simp only[oE,Bool.not_eq_true'] at h4;rcases h4 with h|h;exact .inl h;rw[S1 om] at h;exact .inr (of_decide_eq_true h))
 refine W ?_
 exact⟨_,rfl,⟨[],_,by rw[hq];rfl,UI,by rw[hq];intro h;cases h⟩,hK⟩
 have yu:oF (bR bs i)=true∧lJ bs (bR bs i).aJ=i:=by simp only[Bool.or_eq_false_iff,Bool.not_eq_false'] at h4;rw[S1 om] at h4;exact⟨h4.1,Classical.byContradiction (of_decide_eq_false h4.2)⟩
 refine W ?_
 refine eR vO jT rfl rfl λw9 aB anm du=>cJ aB hK hO ht λhK hO ht=>?_
 refine agc vO jT rfl rfl rfl rfl rfl rfl hO anm (ht.gm (λx hx=>by simp at hx⊢;rcases hx with h|h|h<;>simp[h])) (by rw[EB _ hk];omega) λa3 IT g3 cv fP cw=>?_
 have YN:=cw.size
 have hK:=hO.since hK cw
 rw[hp yu.1,AP cP ej] at fP⊢
 refine W ?_
 exact⟨(i+1,a3,IT,g3),⟨rfl,rfl,rfl,rfl,rfl⟩,⟨hK,fP.gm (λx hx=>by simp[hx]),by dsimp only;omega,by intro i2 hj;rcases Nat.lt_or_ge i2 i with h|h;exact cC i2 h;rw[show i2=i by dsimp only at hj;omega];exact yu⟩,by dsimp only;omega⟩
 have hq:=abZ (λj hj=>cC j om)
 rw[CI cP om] at hO⊢
 obtain⟨b,off,r1,LJ,r2,IU,rfl,hc,cz,bZ⟩:=BC hO.prog (rE (ps:=bs.map cP) (i:=0) so)
 have e0:dJ (bs.map cP) 0=cP (bR bs 0):=by simp[gE (show 0<bs.length by omega)]
 rw[e0] at hc cz bZ
 refine W ?_
 refine ER [38,39,40,41,42,43,44,45,46,47,48,49,50,51,2,3] [(2,.slice (some ⟨b,off,none⟩) (bs.map cP).length cc),(3,.bool (decide ((bR bs 0).aJ=[109,97,105,110])&&decide (((cP (bR bs 0)).regs.length:Int)=0)))] ?_ ?_
 rcases bE (decide ((bR bs 0).aJ=[109,97,105,110])) with iX|iX
 apply lh dv 16 (rA 38 14++[2,3]) (rA 38 14++[2,3]) [[],[],[1],[2],[3],[4],[5],[6],[6,7],[6,8],[6,9],[6,10],[6,11],[6,12],[0],[13]] [It.v _,It.v _,It.v _,It.v _,It.v _,It.v _,It.v (.bool true),It.v _,It.v _,It.v _,It.v _,It.v _,It.v _,It.v _,It.v _,It.v _] de rfl
 intro wd aC
 refine VA ?_
 refine vk aC (λx w2 az=>?_) ?_
 refine zi (i:=0) vO jT rfl rfl so ?_
 exact pv
 refine VA ?_
 refine vc (λx w2 az=>?_) ?_
 refine zm ?_
 exact pv (by exact congrArg Value.bool iX)
 refine VA ?_
 refine vk aC (λx w2 az=>?_) ?_
 refine zi (i:=0) vO jT rfl rfl so ?_
 exact pv
 exact VZ
 intro x oW gS
 change OW _ _ _ _ [] (bo (bm _ x _) (zZ 38 [_,_,_,_,_,_,_,_,_,_,_,_,_,_]++[(2,_),(3,_)])) _
 refine W ?_
 exact kE gS
 apply lh dv 16 (rA 38 14++[2,3]) (rA 38 14++[2,3]) [[],[],[1],[2],[3],[4],[5],[6],[6,7],[6,8],[6,9],[6,10],[6,11],[6,12],[0],[13]] [It.v _,It.v _,It.v _,It.v _,It.v _,It.v _,It.v (.bool false),It.v _,It.v _,It.v _,It.v _,It.v _,It.v _,It.v _,It.v _,It.v _] de rfl
 intro wd aC
 refine VA ?_
 refine vk aC (λx w2 az=>?_) ?_
 refine zi (i:=0) vO jT rfl rfl so ?_
 exact pv
 refine VA ?_
 refine vc (λx w2 az=>?_) ?_
 refine zm ?_
 exact pv (by exact congrArg Value.bool iX)
 exact VZ
 intro x oW gS
 change OW _ _ _ _ [] (bo (bm _ x _) (zZ 38 [_,_,_,_,_,_,_,_,_,_,_,_,_,_]++[(2,_),(3,_)])) _
 refine W ?_
 exact kE gS
 intro x oW gS
 refine bI gS hK hO λhK hO=>?_
 refine j4<|⟨_,rfl,⟨bs.map cP,_,?_,hO.prog.gm (λx hx=>by simp[hx]),λ_=>rfl⟩,hK⟩
 rw[hq,dT YO.1,dT YO.2,show decide (((cP (bR bs 0)).regs.length:Int)=0)=decide ((bR bs 0).ck.length=0) from decide_eq_decide.2 (by have:(cP (bR bs 0)).regs.length=(bR bs 0).ck.length:=List.length_map _;omega)]
 rfl
def nR (t:aq):Option ai:=if bX t=[108,97,98]∨bX t=[122,101,114,111] then some (nth t.ak 2).aw else none
def addN (out:List ai) (t:aq):List ai:=match nR t with
 |some s=>if s∈out then out else out++[s]
 |none=>out
theorem ann (out:List ai) (t:aq):(addN out t).length<=out.length+1:=by
 unfold addN;split
 ·split<;>simp
 ·omega
theorem LK:∀(ts:List aq) (out:List ai),(ts.foldl addN out).length<=out.length+ts.length
 |[],out=>by simp
 |t::ts,out=>by
  have h1:=LK ts (addN out t)
  have h2:=ann out t
  simp only[List.foldl_cons,lC];omega
theorem YP {α β:Type} (f:β->α->β) (a:β) {l:List α} {x:α} (h:l[k]?=some x):(l.take (k+1)).foldl f a=f ((l.take k).foldl f a) x:=by
 rw[List.take_add_one,h,List.foldl_append];rfl
def r6 (out:List ai) (b:cI):List ai:=b.code.foldl addN out
def iB (ps:List cI):List ai:=ps.foldl r6 []
def kC (ps:List cI):Nat:=(ps.map λb=>b.code.length).sum
theorem Qz (hk:k<ps.length):kC (ps.take (k+1))=kC (ps.take k)+(dJ ps k).code.length:=by
 unfold kC
 rw[List.take_add_one,rE hk,List.map_append,List.sum_append];simp
theorem F7:∀ps:List cI,(iB ps).length<=kC ps:=by
 have key:∀(ps:List cI) (out:List ai),(ps.foldl r6 out).length<=out.length+kC ps:=by
  intro ps
  induction ps with
  |nil=>intro out;simp[kC]
  |cons b ps ih=>
   intro out
   have h1:=ih (r6 out b)
   have h2:=LK b.code out
   simp only[List.foldl_cons,kC,List.map_cons,List.sum_cons] at h1⊢
   unfold r6 at h1⊢
   omega
 intro ps;have:=key ps [];unfold iB;simpa using this
theorem QA (ps:List cI) (k:Nat):kC (ps.take k)<=kC ps:=by
 have h:kC ps=kC (ps.take k)+kC (ps.drop k):=by
  unfold kC
  rw[<-List.sum_append,<-List.map_append,List.take_append_drop]
 omega
def Cj (ms:List Bool):Nat:=(ms.filter λb=>!b).length
theorem YQ:∀{ms:List Bool} {k:Nat},ms[k]?=some false->Cj (ms.set k true)+1=Cj ms
 |b::ms,0,h=>by
  have hb:b=false:=by simpa using h
  subst hb;simp[Cj]
 |b::ms,k+1,h=>by
  have ih:=YQ (ms:=ms) (k:=k) (by simpa using h)
  unfold Cj at ih⊢
  cases b<;>simp[List.filter_cons] at ih⊢<;>omega
theorem ano (n:Nat):Cj (List.replicate n false)=n:=by simp[Cj,List.filter_replicate]
theorem YR (ps:List cI) (l:ai): -1<=iO ps l∧iO ps l<ps.length∨ps.length=0∧iO ps l= -1:=by
 unfold iO
 cases h:ps.findIdx? (λb=>decide (b.aJ=l)) with
 |none=>
  rcases Nat.eq_zero_or_pos ps.length with h0|h0
  ·exact .inr ⟨h0,rfl⟩
  ·exact .inl ⟨by show(-1:Int)<= -1;omega,by show(-1:Int)<_;omega⟩
 |some i=>
  have:=(List.findIdx?_eq_some_iff_getElem.1 h).1
  exact .inl ⟨by show(-1:Int)<=(i:Int);omega,by show(i:Int)<_;omega⟩
theorem YS {t:aq} (h:oD t=true) (hn:bX t=[108,97,98]∨bX t=[122,101,114,111]):2<t.ak.length:=by
 obtain⟨h1,h2,_⟩:=Tu h
 rcases hn with e|e<;>rw[e] at h1 h2<;>simp[gI] at h1 h2⊢<;>omega
def o8 (p:cI):Bk:=⟨p.aJ,p.regs.map aq.text,p.code.map aq.text⟩
def nS (ms:List Bool) (ps:List cI):Nat->List Bk
 |0=>[]
 |k+1=>nS ms ps k++if ms.getD k false=true then[o8 (dJ ps k)] else[]
theorem YT (ms:List Bool) (ps:List cI):∀k,(nS ms ps k).length<=k
 |0=>by simp[nS]
 |k+1=>by
  have:=YT ms ps k
  rw[nS,lA];split<;>simp<;>omega
theorem anp (t:aq) (cB:WF t) (hn:(bX t=[108,97,98]∨bX t=[122,101,114,111])->2<t.ak.length) (v:Value) (L:List Nat) (w:World) (hv:bC L w v t):
  bw Tryz.prog 84 [v] w λr w'=>r= .tuple #[str ((nR t).getD []),.bool (nR t).isSome]∧aj [] w w':=by
 have cQ:=hv
 obtain⟨a,n,c,rfl,vX,aO⟩:=cY hv
 subst vX
 have hK:=aj.refl [] w
 refine bU [.tmp 2,.tmp 3] 17 Tryz.func84 rfl aet rfl rfl ?_
 refine zr<|eK rfl λw1 aI aY dh=>cJ aI hK cQ aO λhK cQ aO=>?_
 refine W ?_
 refine aA (Ei t cB _ _ w1 cQ) ?_
 rintro _ w2 ⟨rfl,az⟩
 have dx:=az.size
 refine gY az hK cQ aO aY λhK cQ aO aY=>?_
 refine WZ ?_
 apply oO 4 7 11 (aj [] w2) rfl oQ
 intro _
 refine W ?_
 refine aA (Ei t cB _ _ w2 cQ) ?_
 rintro _ w3 ⟨rfl,aH⟩
 have fh:=aH.size
 exact oQ
 intro xx w4 aP
 refine cJ aP hK aO aY λhK aO aY=>?_
 refine aV<|zc rfl (λh2=>?_) (λh2=>?_)
 have hh:bX t=[108,97,98]∨bX t=[122,101,114,111]:=by simpa using h2
 have hl:=hn hh
 have ej:=iM aO (gh (ps:=t.ak) (i:=2) hl)
 obtain⟨b2,lP,pa,pn,pc,rfl,bY,eO,ga⟩:=ej
 refine WI ?_
 refine zi (i:=2) s9 fx rfl rfl hl<|W ?_
 exact⟨_,rfl,by unfold nR;rw[iP hh];rfl,hK⟩
 have hh:¬(bX t=[108,97,98]∨bX t=[122,101,114,111]):=by simpa using h2
 refine W ?_
 exact⟨_,rfl,by unfold nR;rw[iN hh];rfl,hK⟩
theorem anq (xs:List ai) (hl:xs.length<1000000000) (s:ai) (v:Value) (L:List Nat) (w:World) (hv:bf L w v xs):
  bw Tryz.prog 117 [v,str s] w λr w'=>(∃z:Int,r= .int .i64 z∧decide (z≥0)=decide (s∈xs))∧w=w':=by
 obtain⟨a,n,c,rfl,hn⟩:=dH hv
 subst hn
 refine bU [.tmp 4] 19 Tryz.func117 rfl ack rfl rfl ?_
 refine W ?_
 refine dR (λk:Nat=>[(0,.slice a xs.length c),(1,str s),(7,.int .i64 (xs.length:Int)),(8,.int .i64 (k:Int))]) (λk w'=>w'=w∧k<=xs.length∧∀i,i<k->bD xs i≠s) (λk=>xs.length-k) (0) (⟨rfl,rfl,rfl,rfl⟩) (⟨rfl,om,by intro i hi;omega⟩) λgg w1 e1 hI=>?_
 obtain⟨rfl,hk,cC⟩:=hI
 refine W ?_
 refine zc rfl (λh1=>?_) (λh1=>?_)
 have hg:=ik (xs:=xs) (i:=gg) om
 have aQ:=lf hv hg
 obtain⟨b,off,rfl,hc⟩:=aQ
 refine W ?_
 refine zc rfl (λh2=>?_) (λh2=>?_)
 have he:s=bD xs gg:=by simpa using h2
 refine W ?_
 exact⟨_,rfl,⟨(gg:Int),rfl,by rw[dT (p:=s∈xs) (by rw[he];exact List.mem_of_getElem? hg),dT om]⟩,rfl⟩
 have he:¬s=bD xs gg:=by simpa using h2
 refine W ?_
 exact⟨gg+1,⟨rfl,rfl,rfl,rfl⟩,⟨rfl,om,by intro i hi;rcases Nat.lt_or_ge i gg with h|h;exact cC i h;rw[show i=gg by omega];exact λe=>he e.symm⟩,om⟩
 have uz:¬s∈xs:=λhm=>by obtain⟨i,hi,e⟩:=List.getElem_of_mem hm;exact cC i om (by rw[<-e];simp[bD,gE hi])
 refine W ?_
 exact⟨_,rfl,⟨-1,rfl,by rw[dF uz];decide⟩,rfl⟩
theorem anr (xs:List ai) (hl:xs.length<1000000000) (s:ai) (v:Value) (L:List Nat) (w:World) (hv:bf L w v xs):
  bw Tryz.prog 85 [v,str s] w λr w'=>r= .bool (decide (s∈xs))∧w=w':=by
 refine bU [.tmp 4] 9 Tryz.func85 rfl aeu rfl rfl ?_
 refine W ?_
 refine aA (anq xs hl s _ L _ hv) ?_
 rintro _ _ ⟨⟨z,rfl,hz⟩,rfl⟩
 refine W ?_
 exact⟨_,rfl,congrArg Value.bool hz,rfl⟩
def o9 (ps:List cI) (i j:Nat):List ai:=((dJ ps i).code.take j).foldl addN (iB (ps.take i))
theorem ans {j:Nat} (hi:i<ps.length) (hj:j<=(dJ ps i).code.length):(o9 ps i j).length<=kC ps:=by
 have h1:=LK ((dJ ps i).code.take j) (iB (ps.take i))
 have h2:=F7 (ps.take i)
 have h3:=Qz hi
 have h4:=QA ps (i+1)
 rw[List.length_take] at h1
 unfold o9
 omega
theorem ant (hi:i<ps.length):o9 ps i (dJ ps i).code.length=iB (ps.take (i+1)):=by
 unfold o9
 rw[List.take_length]
 unfold iB
 rw[YP r6 [] (rE hi)];rfl
theorem anu {j:Nat} (hj:j<(dJ ps i).code.length):o9 ps i (j+1)=addN (o9 ps i j) (nth (dJ ps i).code j):=by
 unfold o9
 exact YP addN _ (gh hj)
def LL (ps:List cI):Prop:=∀b,b∈ps->∀t,t∈b.code->WF t∧((bX t=[108,97,98]∨bX t=[122,101,114,111])->2<t.ak.length)
theorem YU (ps:List cI) (aO:ps.length<=1000) (QB:kC ps<=1000000) (bh:LL ps) (v:Value) (L:List Nat) (w:World) (hv:ky L w v ps) (hL:∀x,x∈L->x<w.heap.size):
  bw Tryz.prog 51 [v] w λr w'=>(∃g,Gr w.heap.size L w' 9 1 r g (fb (iB ps)))∧aj [] w w':=by
 obtain⟨a,c,rfl⟩:=BB hv
 have hK:=aj.refl [] w
 refine bU [.tmp 2] 42 Tryz.func51 rfl aea rfl rfl ?_
 refine W ?_
 refine dR (λq:Nat×Option Addr×Nat×Option Nat=>[(3,.slice q.2.1 (iB (ps.take q.1)).length q.2.2.1),(10,.slice a ps.length c),(11,.int .i64 (ps.length:Int)),(12,.int .i64 (q.1:Int))]) (λq w'=>aj [] w w'∧Gr w.heap.size L w' 9 1 (.slice q.2.1 (iB (ps.take q.1)).length q.2.2.1) q.2.2.2 (fb (iB (ps.take q.1)))∧q.1<=ps.length) (λq=>ps.length-q.1) ((0,none,0,none)) (⟨rfl,rfl,rfl,rfl⟩) (⟨hK,Gr.nil hL (lR _),sm⟩) λgg w1 e1 hI=>?_
 obtain⟨i,a3,cc,g⟩:=gg
 dsimp only at hI⊢
 obtain⟨hK,hO,hk⟩:=hI
 have fR:=hK.size
 refine W ?_
 refine zc rfl (λh1=>?_) (λh1=>?_)
 have hi:i<ps.length:=by omega
 have hp:=rE (ps:=ps) hi
 have aQ:=BC hv hp
 obtain⟨b,off,r1,LJ,r2,IU,rfl,hc,nk,qh⟩:=aQ
 have Ef:=List.mem_of_getElem? hp
 have ld:(dJ ps i).code.length<=1000000:=by have h3:=Qz hi;have h4:=QA ps (i+1);omega
 refine WI ?_
 refine zi vO jT rfl rfl hi<|zL CJ jT rfl (hc.ext hK) rfl<|dz jT rfl rfl rfl λw2 az cu dD=>?_
 have hK:=hK.grow;have hK:=hK.ext az;have hO:=hO.alloc az dD
 refine cL jT rfl rfl rfl cu rfl λw3 aH cu gL=>?_
 have hK:=hK.aD aH sx;have hO:=hO.aD aH sx
 refine W ?_
 refine dR (λq:Nat×Option Addr×Nat×Option Nat=>[(3,.slice q.2.1 (o9 ps i q.1).length q.2.2.1),(10,.slice (some ⟨b,off,none⟩) ps.length c),(11,.int .i64 (ps.length:Int)),(12,.int .i64 (i:Int)),(17,.slice r2 (dJ ps i).code.length IU),(18,.int .i64 ((dJ ps i).code.length:Int)),(19,.int .i64 (q.1:Int))]) (λq w'=>aj [] w w'∧Gr w.heap.size L w' 9 1 (.slice q.2.1 (o9 ps i q.1).length q.2.2.1) q.2.2.2 (fb (o9 ps i q.1))∧q.1<=(dJ ps i).code.length) (λq=>(dJ ps i).code.length-q.1) ((0,a3,cc,g)) (⟨rfl,rfl,rfl,rfl,rfl,rfl,rfl⟩) (⟨hK,hO.gm (λx hx=>by simp[hx]),sm⟩) λgg w4 e4 hI=>?_
 obtain⟨j,a4,fU,g4⟩:=gg
 dsimp only at hI⊢
 obtain⟨hK,hO,hj⟩:=hI
 have fR:=hK.size
 refine W ?_
 refine zc rfl (λh2=>?_) (λh2=>?_)
 have lZ:j<(dJ ps i).code.length:=by omega
 have ej:=gh (ps:=(dJ ps i).code) lZ
 have aQ:=iM qh ej
 obtain⟨b1,eX,pa,pn,pc,rfl,jz,eO,ga⟩:=aQ
 have qS:=bh _ Ef _ (List.mem_of_getElem? ej)
 have BQ:=ans hi hj
 have pV:=anu lZ
 refine WI ?_
 refine zi s9 fx rfl rfl lZ<|zL ux fx rfl (jz.ext hK) rfl<|dz fx rfl rfl rfl λw5 aN cS gZ=>?_
 have hK:=hK.grow;have hK:=hK.ext aN;have hO:=hO.alloc aN gZ
 refine cL fx rfl rfl rfl cS rfl λw6 bN cS lj=>?_
 have hK:=hK.aD bN sx;have hO:=hO.aD bN sx
 refine W ?_
 refine aA (anp (nth (dJ ps i).code j) qS.1 qS.2 _ L w6 ((lF ga).ext hK)) ?_
 rintro _ w7 ⟨rfl,bW⟩
 have lp:=bW.size
 refine bI bW hK hO λhK hO=>?_
 refine W ?_
 apply oB 5 29 34 rfl oQ
 intro h3
 refine zm<|zm<|aA (anr (o9 ps i j) om _ _ _ _ hO.done) ?_
 rintro _ _ ⟨rfl,rfl⟩
 exact oQ
 intro xx
 refine aV<|zc rfl (λh4=>?_) (λh4=>?_)
 have nz:(nR (nth (dJ ps i).code j)).isSome=true∧¬(nR (nth (dJ ps i).code j)).getD []∈o9 ps i j:=by simpa using h4
 have hs:o9 ps i j++[(nR (nth (dJ ps i).code j)).getD []]=o9 ps i (j+1):=by rw[pV];unfold addN;revert nz;cases nR (nth (dJ ps i).code j) with|none=>intro h;cases h.1|some s=>intro h;exact(iN h.2).symm
 refine jF<|zm<|zm<|eR bg ba rfl rfl λw8 cg FP kX=>bI cg hK hO λhK hO=>?_
 refine Ew bg ba rfl rfl rfl rfl rfl rfl hO FP om λa5 Fc g5 w9 fP aB=>?_
 have hK:=hO.since hK aB
 rw[hs] at fP⊢
 refine W ?_
 exact⟨(j+1,a5,Fc,g5),⟨rfl,rfl,rfl,rfl,rfl,rfl,rfl⟩,⟨hK,fP.gm (λx hx=>by simp[hx]),by dsimp only;omega⟩,by dsimp only;omega⟩
 have hs:o9 ps i (j+1)=o9 ps i j:=by rw[pV];unfold addN;have nz:¬((nR (nth (dJ ps i).code j)).isSome=true∧¬(nR (nth (dJ ps i).code j)).getD []∈o9 ps i j):=(by simpa using h4);revert nz;cases nR (nth (dJ ps i).code j) with|none=>intro _;rfl|some s=>intro h;exact iP (Classical.byContradiction λhh=>h ⟨rfl,hh⟩)
 refine W ?_
 refine⟨(j+1,a4,fU,g4),⟨congrArg (λn=>Value.slice a4 n fU) (congrArg List.length hs.symm),rfl,rfl,rfl,rfl,rfl,rfl⟩,⟨hK,?_,by dsimp only;omega⟩,by dsimp only;omega⟩
 (show Gr _ _ _ _ _ (.slice a4 (o9 ps i (j+1)).length fU) _ (fb (o9 ps i (j+1))))
 rw[hs]
 exact hO.gm (λx hx=>by simp[hx])
 have lZ:j=(dJ ps i).code.length:=by omega
 subst lZ
 rw[ant hi] at hO⊢
 refine W ?_
 exact⟨(i+1,a4,fU,g4),⟨rfl,rfl,rfl,rfl⟩,⟨hK,hO.gm (λx hx=>by simp[hx]),by dsimp only;omega⟩,by dsimp only;omega⟩
 have xK:ps.take i=ps:=List.take_of_length_le om
 rw[xK] at hO⊢
 refine W ?_
 exact⟨_,rfl,⟨_,hO⟩,hK⟩
theorem YV (ps:List cI) (aO:ps.length<=1000) (QB:kC ps<=1000000) (bh:LL ps) (v:Value) (L:List Nat) (w:World) (hv:ky L w v ps) (hL:∀x,x∈L->x<w.heap.size):
  bw Tryz.prog 51 [v] w λr w'=>bf L w' r (iB ps)∧aj [] w w':=
 (YU ps aO QB bh v L w hv hL).mono λ_ _ ⟨⟨_,hO⟩,hK⟩=>⟨hO.done,hK⟩
section
variable {P:Program} (w:World)
theorem anv (t ty e:TypeId) (i:TypeInfo) (ht:P.underlying t=some (.slice e)) (hi:P.info? e=some i) 
  (g off sLen sCap:Nat) (cur:Array Value) (hg:w.heap[g]?=some (.cells cur e (0,0)))
  (a:Addr) (m c:Nat) (news:List Value) (hl:news.length=m*i.size) (ub:∀j u,news[j]?=some u->w.cell? (a.add j)=some u) (h1:∀u∈news,u.oneCell'=true)
  (pe:sLen+m<=sCap) (kQ:off+sLen*i.size+news.length<=cur.size):
  (Builtin.append_ #[t,t] ty #[.slice (some ⟨g,off,none⟩) sLen sCap,.slice (some a) m c]).run P w=
   .ok (.slice (some ⟨g,off,none⟩) (sLen+m) sCap) (w.setRow g (cur.toList.take (off+sLen*i.size)++news++cur.toList.drop (off+sLen*i.size+news.length)).toArray):=by
 have hf:=run_firstCells_some (P:=P) w i.size m a m c news hl ub
 have aS:=run_storeCells_at P g (off+sLen*i.size) e news 0 cur w hg (by simpa using kQ) h1
 simp only[Nat.add_zero] at aS
 simp[Builtin.append_,run_underlying ht,sizeOf,typeInfo,hi,Builtin.lenOf,pe,hf,p4,aS]
end
def Qu (w:World) (T:TypeId) (v:Value) (g:Nat) (xs:List Value):Prop:=
 ∃off cap cur,v= .slice (some ⟨g,off,none⟩) xs.length cap∧aK w g cur T∧xs.length<=cap∧off+cap<=cur.size∧∀i x,xs[i]?=some x->cur[off+i]?=some x
theorem Qu.aF {T:TypeId} (h:Qu w T v g xs) (k:aj L w w') (hg:g∉L):Qu w' T v g xs:=
 let⟨off,cap,cur,e,hb,r⟩:=h;⟨off,cap,cur,e,hb.aF k hg,r⟩
theorem Qu.ext {T:TypeId} (h:Qu w T v g xs) (k:aj [] w w'):Qu w' T v g xs:=h.aF k sm
theorem Qu.lt {T:TypeId} (h:Qu w T v g xs):g<w.heap.size:=let⟨_,_,_,_,hb,_⟩:=h;hb.lt
theorem Qu.form {T:TypeId} (h:Qu w T v g xs):∃off cap,v= .slice (some ⟨g,off,none⟩) xs.length cap:=let⟨off,cap,_,e,_⟩:=h;⟨off,cap,e⟩
theorem Qu.one {T:Nat} {x:Value} (h:aK w b [x].toArray T):Qu w T (.slice (some ⟨b,0,none⟩) 1 1) b [x]:=
 ⟨0,1,_,rfl,h,sm,sm,λi y hy=>by simpa using hy⟩
theorem Qu.head {T:TypeId} {cap n:Nat} {x:Value} (h:Qu w T (.slice (some ⟨g,off,none⟩) n cap) g (x::xs)):w.cell? ⟨g,off+0*1,none⟩=some x:=by
 obtain⟨o,c,cur,e,hb,_,_,h3⟩:=h
 cases e
 rw[Nat.zero_mul,Nat.add_zero,hb.cell]
 simpa using h3 0 x rfl
section
variable {P:Program} {n:Nat} {ops:Array Oper} {K:Env->World->Prop} {rest:List Oper} {e:Env} {w:World}
 {dst:Option Nat} {ty:TypeId} {pos:String} {after:Array Edge} {g:Option (Nat×Bool)} {x y:Operand}
theorem anw {lo:Operand} {ki:IntKind} {v u:Value} {gq:Nat} {xs:List Value} (hT:P.underlying t=some (.slice E)) (hE:TI P E 1 bytes z) (hg:gate ops e g=true) (hd:cj n dst=true) 
  (hx:ev e x=v) (si:ev e lo= .int ki 1) (hq:Qu w E v gq (u::xs)) (k:∀v',Qu w E v' gq xs->OW P n ops K rest (bQ e dst v') w):
  OW P n ops K (⟨dst,.slice t x (some lo) none none,ty,pos,after,g⟩::rest) e w:=by
 obtain⟨off,cap,cur,rfl,hb,h1,h2,h3⟩:=hq
 simp only[lC] at h1
 have key:∀l:Nat,l<=(u::xs).length->ev e lo= .int ki (l:Int)->(execOp (ev e) ⟨dst,.slice t x (some lo) none none,ty,pos,after,g⟩).run P w= .ok (.value (.slice (if cap=l then some ⟨gq,off,none⟩ else some ⟨gq,off+l*1,none⟩) ((u::xs).length-l) (cap-l))) w:=λl hl si=>by
  have Mu:l<=xs.length+1:=hl
  simp[execOp,Instr.sliceAt,Instr.slice,hx,si,run_underlying hT,Instr.sliceBounds,Instr.sliceBound,asIntOf,Mu,hE.qG,p4]
 refine eJ hg hd (v:=.slice (if cap=1 then some ⟨gq,off,none⟩ else some ⟨gq,off+1*1,none⟩) xs.length (cap-1)) (w':=w) (key 1 sm si) (k _ ?_)
 by_cases hc:cap=1
 ·rw[iP hc]
  refine⟨off,cap-1,cur,rfl,hb,om,om,λi y hy=>?_⟩
  have:=(List.getElem?_eq_some_iff.1 hy).1
  omega
 ·rw[iN hc]
  refine⟨off+1*1,cap-1,cur,rfl,hb,om,om,λi y hy=>?_⟩
  have:=h3 (i+1) y (by simpa using hy)
  rw[<-this];congr 1;omega
theorem anx {v u:Value} {gq b U:Nat} {xs:List Value} (hT:P.underlying t=some (.slice E)) (hE:TI P E 1 bytes z) (hg:gate ops e g=true) (hd:cj n dst=true) (hz:Nat.beq z.cells.size 1=true) (fY:Nat.ble bytes 1000=true) 
  (hx:ev e x=v) (hy:ev e y= .slice (some ⟨b,0,none⟩) 1 1) (hq:Qu w E v gq xs) (hb:aK w b [u].toArray U) (h1:u.oneCell'=true) (hn:xs.length<100000000)
  (k:∀v' g' w',Qu w' E v' g' (xs++[u])->aj [gq] w w'->(g'=gq∨g'=w.heap.size)->OW P n ops K rest (bQ e dst v') w'):
  OW P n ops K (⟨dst,.call {callee:=.builtin .append,args:=#[x,y],argTypes:=#[t,t]},ty,pos,after,g⟩::rest) e w:=by
 obtain⟨i,hi,vG,fR,yu⟩:=hE.get
 have AE:bytes<=1000:=Nat.le_of_ble_eq_true fY
 obtain⟨off,cap,cur,rfl,QC,hc,hs,sS⟩:=hq
 have ub:∀j u',[u][j]?=some u'->w.cell? ((⟨b,0,none⟩:Addr).add j)=some u':=λj u' hj=>by
  rw[p4,hb.cell]
  simpa using hj
 have anz:∀u'∈[u],u'.oneCell'=true:=λu' h=>by rw[List.mem_singleton.1 h];exact h1
 have run:∀{v':Value} {w':World},(Builtin.append_ #[t,t] ty #[.slice (some ⟨gq,off,none⟩) xs.length cap,.slice (some ⟨b,0,none⟩) 1 1]).run P w= .ok v' w'->
   (execOp (ev e) ⟨dst,.call {callee:=.builtin .append,args:=#[x,y],argTypes:=#[t,t]},ty,pos,after,g⟩).run P w= .ok (.value v') w':=λhr=>by
  simp only[execOp,resolve,invoke,builtin,Sem.run_bind,Sem.run_pure,Result.andThen_ok,List.map_toArray,List.map_cons,List.map_nil,hx,hy,hr]
 by_cases pe:xs.length+1<=cap
 ·have hr:=anv (P:=P) w t ty E i hT hi gq off xs.length cap cur QC ⟨b,0,none⟩ 1 1 [u] (by rw[fR];rfl) ub anz pe (by rw[fR];simp;omega)
  rw[fR] at hr
  refine eJ hg hd (run hr) (k _ gq _ ⟨off,cap,_,by rw[lA];rfl,setRow_heap w gq cur _ E _ QC,by simpa using pe,?_,λj y hj=>?_⟩ ⟨rfl,rfl,rfl,sm,λk' _ hk=>setRow_other w gq k' _ (by simpa using hk)⟩ (.inl rfl))
  ·simp;omega
  ·rcases Nat.lt_or_ge j xs.length with h|h
   ·rw[List.getElem?_append_left h] at hj
    have:=sS j y hj
    simp only[List.getElem?_toArray]
    rw[List.append_assoc,List.getElem?_append_left so,List.getElem?_take_of_lt om]
    simpa using this
   ·rw[List.getElem?_append_right h] at hj
    have Cy:j-xs.length=0:=by have:=(List.getElem?_eq_some_iff.1 hj).1;simpa using this
    rw[Cy] at hj
    simp only[List.getElem?_toArray]
    rw[List.append_assoc,List.getElem?_append_right so]
    rw[show off+j-(List.take (off+xs.length*1) cur.toList).length=0 by simp;omega]
    simpa using hj
 ·have holds:∀j u',xs[j]?=some u'->w.cell? ((⟨gq,off,none⟩:Addr).add j)=some u':=λj u' hj=>by
   rw[p4,QC.cell];exact sS j u' hj
  have hr:=run_append_grow (P:=P) w t ty E i z hT hi vG ⟨gq,off,none⟩ xs.length cap xs (by rw[fR];omega) holds ⟨b,0,none⟩ 1 1 [u] (by rw[fR];rfl) ub om om
   (growslice_fits om (Nat.le_trans (Nat.mul_le_mul (show xs.length+1<=100000000 by omega) (show i.bytes<=1000 by omega)) de))
  have qE:=grownCap_ge w (xs.length+1) cap E
  refine eJ hg hd (run hr) (k _ w.heap.size _ ⟨0,_,_,by rw[lA];rfl,heap_alloc_new w.drew _,by simpa using qE,?_,λj y hj=>?_⟩ ⟨rfl,rfl,rfl,sm,λk' hk _=>(aj.alloc [] w.drew _).block k' hk sm⟩ (.inr rfl))
  ·have dD:z.cells.size=1:=Nat.eq_of_beq_eq_true hz
   simp only[Array.size_append,List.size_toArray,size_zeroCells,dD,lC,List.length_nil]
   omega
  ·have dY:=(List.getElem?_eq_some_iff.1 hj).1
   rw[Nat.zero_add,Array.getElem?_append_left (by simp at dY⊢;omega)]
   simpa using hj
theorem anA {u:Value} {kl kc:IntKind} (N:Nat) (hT:P.underlying t=some (.slice E)) (hE:TI P E 1 bytes z) (hg:gate ops e g=true) (hd:cj n dst=true) 
  (hz:z.cells=[u].toArray) (fY:Nat.ble bytes 1000=true) (hx:ev e x= .int kl (N:Int)) (hy:ev e y= .int kc (N:Int)) (hN:N<=100000000000)
  (k:∀w',aj [] w w'->w'.heap.size=w.heap.size+1->aK w' w.heap.size (List.replicate N u).toArray E->OW P n ops K rest (bQ e dst (.slice (some ⟨w.heap.size,0,none⟩) N N)) w'):
  OW P n ops K (⟨dst,.makeSlice t x y,ty,pos,after,g⟩::rest) e w:=by
 obtain⟨i,hi,vG,fR,yu⟩:=hE.get
 have AE:bytes<=1000:=Nat.le_of_ble_eq_true fY
 have hb:(i.bytes:Int)*(N:Int)<=281474976710656:=by
  have:i.bytes*N<=1000*100000000000:=Nat.mul_le_mul om hN
  have h:((i.bytes*N:Nat):Int)<=281474976710656:=by omega
  rwa [Int.natCast_mul] at h
 have hr:=run_make (P:=P) w t E i z hT hi vG kl kc (N:Int) (N:Int) om (Int.le_refl _) hb om
 simp only[Int.toNat_natCast] at hr
 have sj:=Ur z.cells N
 rw[hz] at sj
 have e1:(madeCells [u].toArray (N*1))=(List.replicate N u).toArray:=by
  apply Array.toList_inj.1
  have:([u].toArray).size=1:=rfl
  rw[this] at sj
  rw[sj]
  induction N with
  |zero=>rfl
  |succ N ih=>simp[List.replicate_succ]
 refine eJ hg hd (w':=w.alloc (.cells (madeCells z.cells (N*1)) E)) (by rw[fR] at hr;simp[execOp,hx,hy,hr]) (k _ (aj.alloc _ _ _) sm ?_)
 rw[hz,e1]
 exact aK.alloc _ _ _
theorem YW {L:List Nat} {E:TypeId} {T sz:Nat} {lo hi:Operand} {b off len cap l h:Nat} {k k':IntKind} (hT:P.underlying T=some (.slice E)) (hE:TI P E sz bytes z) (hg:gate ops e g=true) (hd:cj n dst=true) 
  (hx:ev e x= .slice (some ⟨b,off,none⟩) len cap) (si:ev e lo= .int k (l:Int)) (yE:ev e hi= .int k' (h:Int)) (h1:l<=h) (h2:h<=len) {rows:List (List C)} (hr:bP L w (.slice (some ⟨b,off,none⟩) len cap) (.sl sz rows))
  (c:∀v,bP L w v (.sl sz ((rows.take h).drop l))->OW P n ops K rest (bQ e dst v) w):OW P n ops K (⟨dst,.slice T x (some lo) (some hi) none,ty,pos,after,g⟩::rest) e w:=by
 have xg:len<=cap:=by cases hr with|nil=>exact Nat.zero_le _|sl _ _ _ _ _ _ _ hl hc=>exact hc
 have h3:h<=cap:=Nat.le_trans h2 xg
 have bZ:=Qo hr h2
 refine eJ hg hd (v:=.slice (if cap=l then some ⟨b,off,none⟩ else some ⟨b,off+l*sz,none⟩) (h-l) (cap-l)) (w':=w) ?_ (c _ (Ry bZ l h1 _ (λh=>iN om) (λh=>iP om)))
 simp[execOp,Instr.sliceAt,Instr.slice,hx,si,yE,run_underlying hT,Instr.sliceBounds,Instr.sliceBound,asIntOf,h1,h3,hE.qG,p4]
end
theorem take_one {α:Type} {l:List α} {x:α} (h:l[k]?=some x):(l.take (k+1)).drop k=[x]:=by
 rw[List.take_add_one,h,List.drop_append_of_le_length (by have:=(List.getElem?_eq_some_iff.1 h).1;rw[List.length_take];omega),List.drop_eq_nil_of_le (by rw[List.length_take];omega)];rfl
def zV (z:Int):Value:=.int .i64 z
structure wY (ps:List cI) (w0 w:World) (ms:List Bool) (qv:Value) (gq:Nat) (zints:List Int):Prop where
 kp:aj [] w0 w
 out:aK w w0.heap.size (ms.map Value.bool).toArray 4
 que:Qu w 3 qv gq (zints.map zV)
 len:ms.length=ps.length
 ne:w0.heap.size<gq
 rng:∀z,z∈zints-> -1<=z∧z<ps.length
theorem wY.pop {ms:List Bool} {qv qv':Value} {gq:Nat} {z:Int} {zints:List Int} (h:wY ps w0 w ms qv gq (z::zints)) (hq:Qu w 3 qv' gq (zints.map zV)):wY ps w0 w ms qv' gq zints:=
 ⟨h.kp,h.out,hq,h.len,h.ne,λx hx=>h.rng x (mK _ hx)⟩
theorem wY.ext {ms:List Bool} {qv:Value} {gq:Nat} {zints:List Int} (h:wY ps w0 w ms qv gq zints) (k:aj [] w w'):wY ps w0 w' ms qv gq zints:=
 ⟨h.kp.trans k,h.out.ext k,h.que.ext k,h.len,h.ne,h.rng⟩
theorem wY.push {ms:List Bool} {qv qv':Value} {gq g':Nat} {z:Int} {zints:List Int} (h:wY ps w0 w ms qv gq zints) (hq:Qu w' 3 qv' g' (zints.map zV++[zV z])) (k:aj [gq] w w') (hg:g'=gq∨g'=w.heap.size) 
  (hz: -1<=z∧z<ps.length):wY ps w0 w' ms qv' g' (zints++[z]):=by
 have hn:=h.ne
 have hl:=h.out.lt
 refine⟨h.kp.since k (λx hx=>.inr (by simp at hx;omega)),h.out.aF k so,by rw[List.map_append];exact hq,h.len,om,λx hx=>?_⟩
 rcases mA.1 hx with hx|hx
 ·exact h.rng x hx
 ·rw[List.mem_singleton.1 hx];exact hz
theorem anB {xs:List ai} {g':Nat} (h:bf [g] w v xs) (k:aj [g] w w') (hg:g'=g∨g'=w.heap.size):bf [g'] w' v xs:=
 bP.weaken (bf.aD (bf.fresh h (L':=[g,g']) (λx hx=>by simp at hx;rcases hx with rfl|rfl;(·exact .inl sm);(·rcases hg with e|e;(·exact .inl (by simp[e]));(·exact .inr om)))) k sm) sm
theorem QD {ms:List Bool} (h:k<ms.length):(ms.map Value.bool)[0+k*1]?=some (.bool (ms.getD k false)):=by
 rw[Nat.mul_one,Nat.zero_add,List.getElem?_map,gE h,gG,gE h];rfl
def Bd (B b:Nat) (l:ai) (w:World):Prop:=Lib.IsBuilderF 113 5 B b (Lib.byteCells l) w
theorem Bd.ext (h:Bd B b l w) (k:aj [] w w'):Bd B b l w':=by
 have cell:∀{i:Nat} {o:Obj},w.heap[i]?=some o->w'.heap[i]?=some o:=fun{i o} hi=>(k.block i (Array.getElem?_eq_some_iff.1 hi).1 sm).trans hi
 have key:∀p,Lib.BuilderAtF 113 5 B b p (Lib.byteCells l) w->Lib.BuilderAtF 113 5 B b p (Lib.byteCells l) w':=by
  rintro p ⟨hB,v,hb,dm,dN⟩
  refine⟨hB,v,cell hb,⟨dm.1,?_⟩,dN⟩
  rcases dm.2 with h|⟨g,cap,cur,fz,h1,h2,h3,h4⟩
  ·exact .inl h
  ·exact .inr ⟨g,cap,cur,fz,h1,h2,cell h3,h4⟩
 exact h.imp (key _) (key _)
structure pW (B b:Nat) (w w':World):Prop where
 below:RowKit.Below B w w'
 others:Lib.OthersKept 5 (some b) w w'
theorem pW.trans {w'':World} (h:pW B b w w') (k:pW B b w' w''):pW B b w w'':=⟨h.below.trans k.below,h.others.trans k.others⟩
theorem pW.of {b:Nat} (h:aj [] w w') (hB:B<=w.heap.size):pW B b w w':=
 ⟨h.below hB sm,λk o hk _ _=>(h.block k (Array.getElem?_eq_some_iff.1 hk).1 sm).trans hk⟩
theorem pW.aF (k:pW w0.heap.size b w w') (h:aj [] w0 w):aj [] w0 w':=Ek h k.below
theorem aK.others {c:Nat} {cs:Array Value} {T:TypeId} (h:aK w c cs T) (k:pW B b w w') (hc:c≠b) (hT:T≠5):aK w' c cs T:=
 k.others c _ h (by simpa using hc) (by intro c' fz he;cases he;exact hT rfl)
theorem anC (B b:Nat) (l s:ai) (w:World) (h:Bd B b l w) (hlen:l.length+s.length<=140737488355328) (o7:B<=w.heap.size):
  bw Tryz.prog 111 [.pointer (some ⟨b,0,none⟩),str s] w λ_ w'=>Bd B b (l++s) w'∧pW B b w w':=
 ⟨ru.mk' Tryz.func111 rfl Tb,Calls.mono (Tryz.Builder_WriteString_k B b _ ⟨s.toArray⟩ w h (by rw[Lib.byteCells_length];simpa[ByteArray.size] using hlen) o7) λ_ _ ⟨he,hb,hk,ho⟩=>⟨_,he,.inr (by have e1:Lib.byteCells (l++s)=Lib.byteCells l++Lib.strCells ⟨s.toArray⟩:=by{simp[Lib.byteCells,Lib.strCells]};rw[e1];exact hb),hk,ho⟩⟩
theorem QE (B b:Nat) (l:ai) (c:Nat) (hc:c<256) (w:World) (h:Bd B b l w) (hlen:l.length+1<=140737488355328) (o7:B<=w.heap.size):
  bw Tryz.prog 112 [.pointer (some ⟨b,0,none⟩),.int .u8 (c:Int)] w λ_ w'=>Bd B b (l++[UInt8.ofNat c]) w'∧pW B b w w':=
 ⟨ru.mk' Tryz.func112 rfl acg,Calls.mono (Tryz.Builder_WriteByte_k B b _ (c:Int) w h (by rw[Lib.byteCells_length];exact hlen) o7) λ_ _ ⟨he,hb,hk,ho⟩=>⟨_,he,.inr (by have e1:Lib.byteCells (l++[UInt8.ofNat c])=Lib.byteCells l++[.int .u8 (c:Int)]:=by{simp[Lib.byteCells];omega};rw[e1];exact hb),hk,ho⟩⟩
theorem anD (B b:Nat) (l:ai) (w:World) (h:Bd B b l w) (o7:B<=w.heap.size):
  bw Tryz.prog 79 [.pointer (some ⟨b,0,none⟩)] w λv w'=>v=str l∧RowKit.Below B w w':=
 ⟨ru.mk' Tryz.func79 rfl Tg,Calls.mono (Tryz.Builder_String_any_f B b l w h o7) λ_ _ ⟨he,hb,hk⟩=>⟨_,he,rfl,hk⟩⟩
theorem anE:∀(m:Nat) (t:aq),t.size<=m->WF t->∀(v:Value) (L:List Nat) (w0 w:World) (b:Nat) (l:ai),bC L w0 v t->aj [] w0 w->b<w.heap.size->Bd w0.heap.size b l w->l.length+t.text.length<=1000000000->t.size<=1000000000->
  bw Tryz.prog 78 [v,.pointer (some ⟨b,0,none⟩)] w λr w'=>r= .tuple #[]∧Bd w0.heap.size b (l++t.text) w'∧pW w0.heap.size b w w':=by
 intro m
 induction m with
 |zero=>intro t h cB;have:=MN cB;omega
 |succ m ih=>
  intro t hm cB v L w0 w b l hv hK Kd wZ hlen mh
  have cQ:=hv
  obtain⟨a,n,c,rfl,hn,aO⟩:=cY hv
  subst hn
  have nj:=xo t
  have jh:=aj.refl [] w
  have YX:=hK.size
  refine bU [] 32 Tryz.func78 rfl aeo rfl rfl ?_
  refine zr<|eK rfl λw1 aI aR dh=>bI aI hK jh λhK jh=>?_
  refine W ?_
  refine aA (Qq t _ L w1 (cQ.ext hK)) ?_
  rintro _ w2 ⟨rfl,az⟩
  have dx:=az.size
  refine cJ az hK jh aR λhK jh aR=>?_
  refine aV<|zc rfl (λh1=>?_) (λh1=>?_)
  have wb:=S4 cB h1
  refine W ?_
  refine aA (anC w0.heap.size b l t.aw w2 (wZ.ext jh) (by rw[<-wb];omega) (by have:=hK.size;omega)) ?_
  rintro _ w3 ⟨Ag,hF⟩
  refine W ?_
  exact⟨_,rfl,rfl,by rw[wb];exact Ag,(pW.of jh YX).trans hF⟩
  have YY:=wZ.ext jh
  have hF:=pW.of (b:=b) jh YX
  have atk:w.heap.size≠b:=by omega
  refine W ?_
  refine dR (λk:Nat=>[(1,.pointer (some ⟨b,0,none⟩)),(2,.pointer (some ⟨w.heap.size,0,none⟩)),(13,.slice a t.ak.length c),(14,.int .i64 (t.ak.length:Int)),(15,.int .i64 (k:Int))]) (λk w'=>aj [] w0 w'∧Bd w0.heap.size b (l++pre (t.ak.take k)) w'∧pW w0.heap.size b w w'∧k<=t.ak.length∧w.heap.size<=w'.heap.size) (λk=>t.ak.length-k) (0) (⟨rfl,rfl,rfl,rfl,rfl⟩) (⟨hK,by simpa[pre] using YY,hF,om,jh.size⟩) λgg w3 e3 hI=>?_
  obtain⟨hK,wZ,hF,hk,fR⟩:=hI
  clear jh YY
  refine W ?_
  refine zc rfl (λh2=>?_) (λh2=>?_)
  have ej:=gh (ps:=t.ak) (i:=gg) om
  obtain⟨b1,eX,pa,pn,pc,rfl,jz,eO,ga⟩:=iM aO ej
  subst eO
  have yY:=cB.nth (i:=gg) om
  have nV:=lI (t:=t) (i:=gg) om
  have atl:=S5 cB hk
  have atm:=S5 cB (k:=gg+1) om
  have Pf:=S2 (ps:=t.ak) (k:=gg) om
  have B6:=congrArg List.length Pf
  rw[lA,lC] at B6
  refine WZ ?_
  have jh:=aj.refl [] w3
  refine WL ?_
  refine zL ux fx rfl (jz.ext hK) rfl<|dz fx rfl rfl rfl λw4 aP cu gQ=>?_
  have hK:=hK.grow;have hK:=hK.ext aP;have jh:=jh.grow;have jh:=jh.ext aP
  refine zA<|cL fx rfl rfl rfl cu rfl λw5 aN cu gZ=>?_
  have hK:=hK.aD aN sx;have jh:=jh.aD aN sx
  refine W ?_
  refine iS (λ_:Unit=>[(1,.pointer (some ⟨b,0,none⟩)),(2,.pointer (some ⟨w.heap.size,0,none⟩)),(5,.pointer (some ⟨w3.heap.size,0,none⟩)),(13,.slice (some ⟨b1,eX,none⟩) t.ak.length c),(14,.int .i64 (t.ak.length:Int)),(15,.int .i64 (gg:Int))]) (λ_ w'=>aj [] w0 w'∧Bd w0.heap.size b (l++pre (t.ak.take gg)++[if gg=0 then 40 else 32]) w'∧pW w0.heap.size b w w'∧w.heap.size<=w'.heap.size∧aK w' w3.heap.size [str (nth t.ak gg).aw,.slice pa (nth t.ak gg).ak.length pc].toArray 66) ?_ ?_
  refine zc rfl (λh3=>?_) (λh3=>?_)
  have yZ:gg=0:=by omega
  refine jF<|zm<|aA (QE w0.heap.size b _ 40 de w5 (wZ.ext jh) so (by have:=hK.size;omega)) ?_
  rintro _ w6 ⟨Ag,kz⟩
  have dx:=kz.below.size
  refine W ?_
  exact⟨(),⟨rfl,rfl,rfl,rfl,rfl,rfl⟩,kz.aF hK,by rw[iP yZ];exact Ag,(hF.trans (pW.of jh (by have:=hF.below.size;omega))).trans kz,by have:=jh.size;omega,cu.others kz om de⟩
  have yZ:¬gg=0:=by omega
  refine jF<|zm<|aA (QE w0.heap.size b _ 32 de w5 (wZ.ext jh) so (by have:=hK.size;omega)) ?_
  rintro _ w6 ⟨Ag,kz⟩
  have dx:=kz.below.size
  refine W ?_
  exact⟨(),⟨rfl,rfl,rfl,rfl,rfl,rfl⟩,kz.aF hK,by rw[iN yZ];exact Ag,(hF.trans (pW.of jh (by have:=hF.below.size;omega))).trans kz,by have:=jh.size;omega,cu.others kz om de⟩
  intro gu w7 e7 hI
  clear hK wZ hF cu jh
  obtain⟨hK,wZ,hF,atn,cu⟩:=hI
  refine W ?_
  refine aA (ih (nth t.ak gg) om yY _ L w0 w7 b _ (lF ga) hK om wZ so om) ?_
  rintro _ w8 ⟨rfl,Ag,kz⟩
  have dx:=kz.below.size
  have hK:=kz.aF hK
  refine W ?_
  exact⟨gg+1,⟨rfl,rfl,rfl,rfl,rfl⟩,⟨hK,by rw[Pf];simpa using Ag,hF.trans kz,om,om⟩,om⟩
  have fG:gg=t.ak.length:=by omega
  have xK:=S3 cB om
  have nq:=congrArg List.length xK
  rw[lA] at nq
  subst fG
  refine W ?_
  refine aA (QE w0.heap.size b _ 41 de w3 wZ (by simp at nq⊢;omega) (by have:=hK.size;omega)) ?_
  rintro _ w4 ⟨Ag,kz⟩
  refine W ?_
  exact⟨_,rfl,rfl,by rw[<-xK,<-List.append_assoc];exact Ag,hF.trans kz⟩
theorem anF (t:aq) (cB:WF t) (mh:t.size<=100000000) (hl:t.text.length<=100000000) (v:Value) (L:List Nat) (w:World) (hv:bC L w v t):
  bw Tryz.prog 48 [v] w λr w'=>r=str t.text∧aj [] w w':=by
 have cQ:=hv
 obtain⟨a,n,c,rfl,hn,aO⟩:=cY hv
 have hK:=aj.refl [] w
 refine bU [.tmp 2] 7 Tryz.func48 rfl ad6 rfl rfl ?_
 refine zr<|eK rfl λw1 aI aY dh=>zA<|aV<|zr<|dz M6 rfl rfl rfl λw2 az cW dD=>?_
 have aY:=aY.ext az
 refine W ?_
 refine aA (anE t.size t (lR _) cB _ L w1 w2 w1.heap.size [] (cQ.ext aI) az om (.inl ⟨lR _,_,cW,⟨rfl,.inl ⟨rfl,rfl⟩⟩,by simp[Value.ownBlock]⟩) so om) ?_
 rintro _ w3 ⟨rfl,wZ,hF⟩
 refine aV<|zr<|aA (anD w1.heap.size w1.heap.size _ w3 wZ (by have:=hF.below.size;omega)) ?_
 rintro _ w4 ⟨rfl,aP⟩
 refine W ?_
 exact⟨_,rfl,rfl,aI.trans (Ek (hF.aF az) aP)⟩
theorem YZ (ts:List aq) (h:ED ts) (v:Value) (L:List Nat) (w:World) (hv:eU L w v ts):
  bw Tryz.prog 41 [v] w λr w'=>(∃a n c g,r= .slice a n c∧n=ts.length∧cG w' 9 (.slice a n c) g (ts.map aq.text)∧(∀b,g=some b->w.heap.size<=b)∧(ts=[]->g=none))∧aj [] w w':=by
 obtain⟨a,c,rfl⟩:=YI hv
 have hK:=aj.refl [] w
 have hl:=h.1
 refine bU [.tmp 2] 19 Tryz.func41 rfl ad4 rfl rfl ?_
 refine W ?_
 refine dR (λq:Nat×Option Addr×Nat×Option Nat=>[(3,.slice q.2.1 ((ts.take q.1).map aq.text).length q.2.2.1),(6,.slice a ts.length c),(7,.int .i64 (ts.length:Int)),(8,.int .i64 (q.1:Int))]) (λq w'=>aj [] w w'∧Gr w.heap.size [] w' 9 1 (.slice q.2.1 ((ts.take q.1).map aq.text).length q.2.2.1) q.2.2.2 (fb ((ts.take q.1).map aq.text))∧q.1<=ts.length∧(q.1=0->q.2.2.2=none)) (λq=>ts.length-q.1) ((0,none,0,none)) (⟨rfl,rfl,rfl,rfl⟩) (⟨hK,Gr.nil sm om,sm,λ_=>rfl⟩) λgg w1 e1 hI=>?_
 obtain⟨i,a3,cc,g⟩:=gg
 dsimp only at hI⊢
 obtain⟨hK,hO,hk,yZ⟩:=hI
 have fR:=hK.size
 refine W ?_
 refine zc rfl (λh1=>?_) (λh1=>?_)
 have ej:=gh (ps:=ts) (i:=i) om
 obtain⟨b1,eX,pa,pn,pc,rfl,jz,eO,ga⟩:=iM hv ej
 obtain⟨cB,dk,dx⟩:=h.2 (nth ts i) (List.mem_of_getElem? ej)
 refine WL ?_
 refine zL ux fx rfl (jz.ext hK) rfl<|dz fx rfl rfl rfl λw2 az cu dD=>?_
 have hK:=hK.grow;have hK:=hK.ext az;have hO:=hO.alloc az dD
 refine cL fx rfl rfl rfl cu rfl λw3 aH cu gL=>?_
 have hK:=hK.aD aH sx;have hO:=hO.aD aH sx
 refine W ?_
 refine aA (anF (nth ts i) cB dk dx _ L w3 ((lF ga).ext hK)) ?_
 rintro _ w4 ⟨rfl,aP⟩
 have fH:=aP.size
 refine bI aP hK hO λhK hO=>?_
 refine eR bg ba rfl rfl λw5 aN Fj gZ=>bI aN hK hO λhK hO=>?_
 refine Ew bg ba rfl rfl rfl rfl rfl rfl hO Fj (by rw[EB _ hk];omega) λa4 fU g4 w6 fP bN=>?_
 have hK:=hO.since hK bN
 rw[AP aq.text ej] at fP⊢
 refine W ?_
 exact⟨(i+1,a4,fU,g4),⟨rfl,rfl,rfl,rfl⟩,⟨hK,fP.gm sm,by dsimp only;omega,by dsimp only;intro h;omega⟩,by dsimp only;omega⟩
 rw[CI aq.text om] at hO⊢
 refine W ?_
 exact⟨_,rfl,⟨_,_,_,g,rfl,List.length_map _,hO.sn,hO.low,λh=>yZ (by rw[h] at hk;simp at hk;omega)⟩,hK⟩
def tY (B:Nat) (xs:List ai) (v:Value) (w:World):Prop:=∃a n c g,v= .slice a n c∧cG w 9 (.slice a n c) g xs∧∀b,g=some b->B<=b
theorem tY.ext {xs:List ai} (h:tY B xs v w) (k:aj [] w w'):tY B xs v w':=let⟨a,n,c,g,e,h1,h2⟩:=h;⟨a,n,c,g,e,h1.ext k,h2⟩
theorem tY.rs {xs:List ai} (h:tY B xs v w) (hL:∀x,x∈L->x<B):bf L w v xs:=by
 obtain⟨a,n,c,g,rfl,h1,h2⟩:=h
 exact h1.rep λb hb hx=>by have:=hL b hx;have:=h2 b hb;omega
def IV (B:Nat) (l:ai) (xs ys:List ai) (v:Value) (w:World):Prop:=∃a1 n1 c1 a2 n2 c2,v= .agg #[str l,.slice a1 n1 c1,.slice a2 n2 c2]∧tY B xs (.slice a1 n1 c1) w∧tY B ys (.slice a2 n2 c2) w
theorem IV.ext {xs ys:List ai} (h:IV B l xs ys v w) (k:aj [] w w'):IV B l xs ys v w':=
 let⟨a1,n1,c1,a2,n2,c2,e,h1,h2⟩:=h;⟨a1,n1,c1,a2,n2,c2,e,h1.ext k,h2.ext k⟩
def IW (B:Nat) (l:ai) (xs ys:List ai) (v:Value) (w:World):Prop:=∃b a1 n1 c1 a2 n2 c2,v= .slice (some ⟨b,0,none⟩) 1 1∧aK w b [str l,.slice a1 n1 c1,.slice a2 n2 c2].toArray 58∧tY B xs (.slice a1 n1 c1) w∧tY B ys (.slice a2 n2 c2) w
theorem IW.ext {xs ys:List ai} (h:IW B l xs ys v w) (k:aj [] w w'):IW B l xs ys v w':=
 let⟨b,a1,n1,c1,a2,n2,c2,e,hb,h1,h2⟩:=h;⟨b,a1,n1,c1,a2,n2,c2,e,hb.ext k,h1.ext k,h2.ext k⟩
theorem anG (ps:List cI) (aO:ps.length<=1000) (oh:∀b,b∈ps->ED b.regs∧ED b.code) (v:Value) (L Lv:List Nat) (w:World) (hv:ky Lv w v ps) (hL:∀x,x∈L->x<w.heap.size):
  bw Tryz.prog 35 [v] w λr w'=>lH L w' r (ps.map o8)∧aj [] w w':=by
 obtain⟨a,c,rfl⟩:=BB hv
 have hK:=aj.refl [] w
 refine bU [.tmp 2] 26 Tryz.func35 rfl adZ rfl rfl ?_
 refine W ?_
 refine dR (λq:Nat×Option Addr×Nat×Option Nat=>[(3,.slice q.2.1 ((ps.take q.1).map o8).length q.2.2.1),(6,.slice a ps.length c),(7,.int .i64 (ps.length:Int)),(8,.int .i64 (q.1:Int))]) (λq w'=>aj [] w w'∧Gr w.heap.size L w' 58 3 (.slice q.2.1 ((ps.take q.1).map o8).length q.2.2.1) q.2.2.2 (((ps.take q.1).map o8).map Bk.enc)∧q.1<=ps.length) (λq=>ps.length-q.1) ((0,none,0,none)) (⟨rfl,rfl,rfl,rfl⟩) (⟨hK,Gr.nil hL (lR _),sm⟩) λgg w1 e1 hI=>?_
 obtain⟨i,a3,cc,g⟩:=gg
 dsimp only at hI⊢
 obtain⟨hK,hO,hk⟩:=hI
 have fR:=hK.size
 refine W ?_
 refine zc rfl (λh1=>?_) (λh1=>?_)
 have hi:i<ps.length:=by omega
 have hp:=rE (ps:=ps) hi
 have aQ:=BC hv hp
 obtain⟨b,off,r1,LJ,r2,IU,rfl,hc,nk,qh⟩:=aQ
 have Y0:=oh _ (List.mem_of_getElem? hp)
 refine WI ?_
 refine zi vO jT rfl rfl hi<|zL CJ jT rfl (hc.ext hK) rfl<|dz jT rfl rfl rfl λw2 az cu dD=>?_
 have hK:=hK.grow;have hK:=hK.ext az;have hO:=hO.alloc az dD
 refine cL jT rfl rfl rfl cu rfl λw3 aH cu gL=>?_
 have hK:=hK.aD aH sx;have hO:=hO.aD aH sx
 refine W ?_
 have aQ:∃B:Nat,B=w3.heap.size:=⟨_,rfl⟩
 obtain⟨B,hB⟩:=aQ
 have jh:=aj.refl [] w3
 have cC:=hO.all
 rw[<-hB] at cC
 apply vT dv 11 (rA 12 11) (rA 12 11) [[],[],[1],[],[3],[4],[],[6],[7],[2,5,8],[9]] [It.v _,It.v _,It.v _,It.v _,It.v _,It.p (fun(v:Value) (ww:World)=>tY B ((dJ ps i).regs.map aq.text) v ww),It.v _,It.v _,It.p (fun(v:Value) (ww:World)=>tY B ((dJ ps i).code.map aq.text) v ww),It.p (fun(v:Value) (ww:World)=>IV B (dJ ps i).aJ ((dJ ps i).regs.map aq.text) ((dJ ps i).code.map aq.text) v ww),It.p (fun(v:Value) (ww:World)=>IW B (dJ ps i).aJ ((dJ ps i).regs.map aq.text) ((dJ ps i).code.map aq.text) v ww)] de (by exact⟨λv w w' h k=>tY.ext h k,λv w w' h k=>tY.ext h k,λv w w' h k=>IV.ext h k,λv w w' h k=>IW.ext h k,trivial⟩)
 intro wd aC
 refine VA ?_
 refine vk aC (λx w4 aP=>?_) ?_
 have hK:=hK.ext aP
 refine aA (YZ _ Y0.1 _ _ w4 (nk.ext hK)) ?_
 rintro v5 w5 ⟨tG,aN⟩
 have iR:=aN.size
 obtain⟨a7,n7,c7,g7,rfl,hn7,lp,QF,oe⟩:=tG
 exact pf aN (⟨a7,n7,c7,g7,rfl,lp,λb hb=>by have:=QF b hb;have:=aP.size;omega⟩)
 refine VA ?_
 refine vk aC (λx w4 aP=>?_) ?_
 have hK:=hK.ext aP
 refine aA (YZ _ Y0.2 _ _ w4 (qh.ext hK)) ?_
 rintro v5 w5 ⟨tG,aN⟩
 have iR:=aN.size
 obtain⟨a7,n7,c7,g7,rfl,hn7,lp,QF,oe⟩:=tG
 exact pf aN (⟨a7,n7,c7,g7,rfl,lp,λb hb=>by have:=QF b hb;have:=aP.size;omega⟩)
 refine vk aC (λx w4 aP=>?_) ?_
 intro v5 d5
 intro v8 d8
 have d5z:=d5
 have d8z:=d8
 obtain⟨a7,n7,c7,g7,e7,h7⟩:=d5
 obtain⟨a8,n8,c8,g8,e8,h8⟩:=d8
 subst e7
 subst e8
 refine jG (JC _ _ _ _ _ _ _ _) rfl rfl ?_
 exact pf (aj.refl _ _) (⟨_,_,_,_,_,_,rfl,d5z,d8z⟩)
 refine vk aC (λx w4 aP=>?_) ?_
 intro v9 d9
 obtain⟨a7,n7,c7,a8,n8,c8,e9,h7,h8⟩:=d9
 subst e9
 refine eR iD fm rfl rfl λw5 aN sG gZ=>?_
 exact pf aN (⟨_,_,_,_,_,_,_,rfl,sG,h7.ext aN,h8.ext aN⟩)
 exact trivial
 intro x pG jL
 intro v5 d5
 intro v8 d8
 intro v9 d9
 intro v10 d10
 refine bI jL hK hO λhK hO=>?_
 change OW _ _ _ _ _ (bo (bm _ x _) (zZ 12 [_,_,_,_,_,_,_,_,_,_,_])) _
 obtain⟨nb,a7,n7,c7,a8,n8,c8,e9,vi,h7,h8⟩:=d10
 subst e9
 refine Ev (row:=Bk.enc (o8 (dJ ps i))) iD fm rfl rfl rfl rfl rfl rfl hO vi rfl rfl ⟨.val _,h7.rs cC,h8.rs cC,trivial⟩ (by rw[List.length_map,EB _ hk];omega) λa4 fU g4 pL fP jq=>?_
 have hK:=hO.since hK jq
 have e1:((ps.take i).map o8).map Bk.enc++[Bk.enc (o8 (dJ ps i))]=((ps.take (i+1)).map o8).map Bk.enc:=by rw[<-AP o8 hp,List.map_append];rfl
 have e2:(((ps.take i).map o8).map Bk.enc).length+1=((ps.take (i+1)).map o8).length:=by rw[<-AP o8 hp];simp
 rw[e1,e2] at fP
 rw[e2]
 refine W ?_
 exact⟨(i+1,a4,fU,g4),⟨rfl,rfl,rfl,rfl⟩,⟨hK,fP.gm (λx hx=>by simp[hx]),by dsimp only;omega⟩,by dsimp only;omega⟩
 rw[CI o8 om] at hO⊢
 refine W ?_
 exact⟨_,rfl,hO.um,hK⟩
theorem lx (z:Nat) (h:z<4611686018427387904) (y:Int) (e:y=(z:Int)):IntKind.i64.wrap y=(z:Int):=by
 rw[e];exact wrap_i64 _ om om
theorem mv (k:Nat) (hk:1<=k) (az:k<=1000000) (br q:Nat) (hq:q<=1000000000) (w:World) (h:dB w br q):
  bw Tryz.prog 62 [.pointer (some ⟨br,0,none⟩),.int .i64 (k:Int)] w λr w'=>(∃z:Nat,r= .int .i64 (z:Int)∧z<k)∧dB w' br (q+1)∧aj [br] w w':=by
 obtain⟨a,n,c,p,bs,oV,hp,cC,hn⟩:=h
 have fY:=cC [br] sm
 have mQ:n=bs.length:=by obtain⟨a',c',e',_⟩:=sh fY;cases e';exact F6 bs
 have hdiv:=Nat.div_le_self p n
 refine bU [.tmp 4] 99 Tryz.func62 rfl aeg rfl rfl ?_
 refine WA ?_
 refine kR rfl rfl rfl rfl rfl (lx (p+1) om _ om)<|Gh rfl rfl rfl<|zf Ti rfl<|gD (o:=1) pq rfl rfl rfl oV rfl λw1 aI oV du=>?_
 have fY:=bP.aD fY aI sm
 have hK:=aI
 have hQ:dB w1 br (q+1):=⟨a,n,c,p+1,bs,oV,om,Yt cC aI sm,hn⟩
 refine W ?_
 apply oP 7 17 24 rfl oQ
 intro _
 refine WZ ?_
 exact oQ
 intro xx
 refine aV<|zc rfl (λh2=>?_) (λh2=>?_)
 have h0:n=0:=(by simp at h2;omega)
 refine W ?_
 exact⟨_,rfl,⟨0,rfl,om⟩,hQ,hK⟩
 have h0:0<n:=(by simp at h2;omega)
 refine WA ?_
 refine yD rfl rfl rfl rfl rfl (lx p om _ om)<|W ?_
 refine zc rfl (λh3=>?_) (λh3=>?_)
 have h1:p<n:=(by simp at h3;omega)
 have pd:=LG fY (i:=p) om
 obtain⟨b1,eX,x1,e1,bK⟩:=pd
 cases e1
 have il:=x1.toNat_lt
 refine WI ?_
 refine zi CN GO rfl rfl h1<|W ?_
 refine yF yM xq rfl rfl rfl (wrap_i64 _ om om)<|zm<|Gj rfl rfl rfl rfl rfl om<|zA<|aV<|j4 ?_
 exact⟨_,rfl,⟨x1.toNat%k,rfl,Nat.mod_lt _ om⟩,hQ,hK⟩
 have h1:=Nat.mod_lt p h0
 have h2:=Nat.mod_lt (p*7+3) h0
 have pd:=LG fY (i:=p%n) om
 obtain⟨b1,eX,x1,e1,bK⟩:=pd
 cases e1
 have il:=x1.toNat_lt
 have iT:=LG fY (i:=(p*7+3)%n) om
 obtain⟨b2,lP,x2,e2,bY⟩:=iT
 cases e2
 have fC:=x2.toNat_lt
 refine WZ ?_
 apply dV dv 46 [47,48,49,50,51,52,53,54,55,56,57,58,59,60,61,62,63,64,65,66,67,68,69,70,71,72,73,74,75,76,77,78,79,80,81,82,83,84,85,86,87,88,89,90,91,6] [[],[0],[1],[2],[],[],[5],[6],[7],[8],[4,9],[3,10],[11],[12],[13],[],[15],[16],[17],[],[19],[20],[],[22],[23],[24],[25],[21,26],[18,27],[28],[29],[30],[14,31],[],[33],[32,34],[],[],[37],[38],[39],[40],[36,41],[42],[35,43],[44]] (it [_,_,_,_,_,_,_,_,_,_,_,_,_,_,_,_,_,_,_,_,_,_,_,_,_,_,_,_,_,_,_,_,_,_,_,_,_,_,_,_,_,_,_,_,_,_]) de rfl
 intro wd aC
 refine VA ?_
 refine vk aC (λx w2 az=>?_) ?_
 refine Gj rfl rfl rfl rfl rfl om ?_
 exact pv
 refine VA ?_
 refine vk aC (λx w2 az=>?_) ?_
 refine yF yM xq rfl rfl rfl (lx x1.toNat om _ rfl) ?_
 exact pv
 refine vk aC (λx w2 az=>?_) ?_
 refine Jf rfl rfl rfl rfl rfl (lx (x1.toNat*131) om _ om) ?_
 exact pv
 refine Bg ?_
 refine vk aC (λx w2 az=>?_) ?_
 refine WZ ?_
 exact pv
 refine vc (λ_ _ _=>WZ pv) ?_
 refine vk aC (λx w2 az=>?_) ?_
 have oV:=oV.ext az
 refine WZ ?_
 exact pv
 refine vc (λ_ _ _=>WZ pv) ?_
 refine VA ?_
 refine vk aC (λx w2 az=>?_) ?_
 refine Gj rfl rfl rfl rfl rfl om ?_
 exact pv
 refine VA ?_
 refine vk aC (λx w2 az=>?_) ?_
 refine yF yM xq rfl rfl rfl (lx x2.toNat om _ rfl) ?_
 exact pv
 refine vk aC (λx w2 az=>?_) ?_
 refine Jf rfl rfl rfl rfl rfl (lx (x2.toNat*1117) om _ om) ?_
 exact pv
 refine vk aC (λx w2 az=>?_) ?_
 refine kR rfl rfl rfl rfl rfl (lx (x1.toNat*131+x2.toNat*1117) om _ om) ?_
 exact pv
 refine Bg ?_
 refine VA ?_
 refine vk aC (λx w2 az=>?_) ?_
 refine Me rfl rfl rfl rfl rfl om (lx (p/n) om _ rfl) ?_
 exact pv
 refine vk aC (λx w2 az=>?_) ?_
 refine Jf rfl rfl rfl rfl rfl (lx (p/n*53) om _ sm) ?_
 exact pv
 refine vk aC (λx w2 az=>?_) ?_
 refine kR rfl rfl rfl rfl rfl (lx (x1.toNat*131+x2.toNat*1117+p*29+p/n*53) om _ sm) ?_
 exact pv
 exact VZ
 intro x oW gS
 change OW _ _ _ _ [] (bo (bm _ x _) (zZ 47 [_,_,_,_,_,_,_,_,_,_,_,_,_,_,_,_,_,_,_,_,_,_,_,_,_,_,_,_,_,_,_,_,_,_,_,_,_,_,_,_,_,_,_,_,_]++[(6,_)])) _
 have hX:x1.toNat*131+x2.toNat*1117+p*29+p/n*53<4611686018427387904:=om
 have hXx:∃z,z=x1.toNat*131+x2.toNat*1117+p*29+p/n*53:=⟨_,rfl⟩
 obtain⟨X,hXe⟩:=hXx
 rw[<-hXe] at hX⊢
 refine bI gS hQ hK λhQ hK=>?_
 refine W ?_
 refine Me (b:=64) rfl rfl rfl rfl rfl om (lx (X/64) om _ rfl)<|amu rfl rfl rfl rfl om om<|zA<|aV<|zr<|zm<|zm<|Gj rfl rfl rfl rfl rfl om<|zA<|aV<|j4 ?_
 exact⟨_,rfl,⟨(X^^^X/64)%k,rfl,Nat.mod_lt _ om⟩,hQ,hK⟩
theorem anK (bs:List UInt8) (hb:bs.length<=1000000000) (v:Value) (w:World) (hv:bP [] w v (.sl 1 (r5 bs))):
  bw Tryz.prog 37 [v] w λr w'=>(∃br,r= .pointer (some ⟨br,0,none⟩)∧w.heap.size<=br∧dB w' br 0)∧aj [] w w':=by
 obtain⟨a,c,rfl,_⟩:=sh hv
 rw[F6]
 rw[F6] at hv
 have hK:=aj.refl [] w
 refine bU [.tmp 2] 11 Tryz.func37 rfl ad0 rfl rfl ?_
 refine W ?_
 refine iS (λq:Option Addr×Nat×Nat=>[(0,.slice q.1 q.2.1 q.2.2)]) (λq ww=>aj [] w ww∧(∃bs',bP [] ww (.slice q.1 q.2.1 q.2.2) (.sl 1 (r5 bs')))∧q.2.1<=1000000000) ?_ ?_
 refine zc rfl (λh1=>?_) (λh1=>?_)
 have h2:2000<bs.length:=om
 have hg:=LG hv (i:=0) om
 obtain⟨b1,eX,x1,e1,_⟩:=hg
 cases e1
 refine jF<|zm<|Ys (h:=2000) CN GO rfl rfl rfl rfl om hv<|zA<|aV ?_
 exact⟨(_,2000,_),rfl,hK,⟨bs.take 2000,by have:=Qo hv (h:=2000) om;rw[show(r5 bs).take 2000=r5 (bs.take 2000) from by simp[r5,List.map_take]] at this;exact this⟩,by show 2000<=_;omega⟩
 refine WZ ?_
 exact⟨(_,_,_),rfl,hK,⟨bs,hv⟩,hb⟩
 intro gu w1 e1 hI
 obtain⟨a2,n2,c2⟩:=gu
 dsimp only at hI⊢
 obtain⟨hK,⟨Y1,QG⟩,eS⟩:=hI
 have anL:=QG
 have nB:=hK.size
 refine zr<|zm<|jG (aeG _ _ _ _) rfl rfl<|eK rfl λw2 az qT dD=>?_
 have hK:=hK.ext az
 refine W ?_
 exact⟨_,rfl,⟨_,rfl,nB,⟨a2,n2,c2,0,Y1,qT,lR _,λL hL=>(bP.fresh anL (L':=L) (λx hx=>.inr (hL x hx))).ext az,eS⟩⟩,hK⟩
theorem mw (xs:List ai) (dN:0<xs.length) (hl:xs.length<=1000000) (br q:Nat) (hq:q<=1000000000) (v:Value) (w:World) (h:dB w br q) (hv:bf [br] w v xs):
  bw Tryz.prog 69 [.pointer (some ⟨br,0,none⟩),v] w λr w'=>(∃x,x∈xs∧r=str x)∧dB w' br (q+1)∧aj [br] w w':=by
 obtain⟨a,n,c,rfl,hn⟩:=dH hv
 subst hn
 refine bU [.tmp 4] 12 Tryz.func69 rfl ael rfl rfl ?_
 refine W ?_
 refine aA (mv xs.length om om br q hq w h) ?_
 rintro v9 w1 ⟨⟨z,e9,hz⟩,hQ,aB⟩
 subst e9
 have gz:=bP.aD hv aB sm
 have hg:=oy gz hz
 obtain⟨b1,eX,e1,bK⟩:=hg
 cases e1
 refine zi bg ba rfl rfl hz<|W ?_
 exact⟨_,rfl,⟨_,List.mem_of_getElem? (ik hz),rfl⟩,hQ,aB⟩
theorem IX (br q:Nat) (hq:q<=1000000000) (w:World) (h:dB w br q):
  bw Tryz.prog 114 [.pointer (some ⟨br,0,none⟩)] w λr w'=>(∃z,z<6∧r=str (aU z))∧dB w' br (q+1)∧aj [br] w w':=by
 refine bU [.tmp 2] 6 Tryz.func114 rfl aci rfl rfl ?_
 refine W ?_
 refine aA (mv 6 de de br q hq w h) ?_
 rintro v9 w1 ⟨⟨z,e9,hz⟩,hQ,aB⟩
 subst e9
 refine aA (iH (z+1) z om om w1) ?_
 rintro _ w2 ⟨rfl,az⟩
 have dx:=az.size
 refine bI az hQ aB λhQ aB=>?_
 refine W ?_
 exact⟨_,rfl,⟨z,hz,rfl⟩,hQ,aB⟩
theorem anM {x:ai} (h:x∈([[62],[42]]:List ai)):∃f,x=j7 f:=by
 simp only[mC,List.not_mem_nil,or_false] at h
 rcases h with rfl|rfl
 ·exact⟨true,rfl⟩
 ·exact⟨false,rfl⟩
theorem QH (d:Nat):d<=10->∀(br q:Nat),q+3*2^d<=1000000000->∀(w:World),dB w br q->
  bw Tryz.prog 131 [.pointer (some ⟨br,0,none⟩),.int .i64 (d:Int)] w λr w'=>(∃T:Ty,r=str T.text∧T.n+1<=2^(d+1))∧dB w' br (q+(3*2^d-2))∧aj [br] w w':=by
 induction d using Nat.strongRecOn with
 |_ d ih=>
  intro hd br q hq w h
  have nk:1<=2^d:=Nat.one_le_two_pow
  have qh:2^(d+1)=2*2^d:=by rw[Nat.pow_succ];omega
  have BA:2^d<=1024:=Nat.pow_le_pow_right (n:=2) de hd
  refine bU [.tmp 4] 29 Tryz.func131 rfl acv rfl rfl ?_
  refine W ?_
  refine yG (t:=7) rfl (λh1=>?_) (λh1=>?_)
  replace h1:=jW h1
  have Qv:d=0:=(by simp at h1;omega)
  refine W ?_
  refine zc rfl (λh2=>?_) (λh2=>?_)
  refine W ?_
  exact⟨_,rfl,⟨.i,by rw[Ty.Na];rfl,by show 1+1<=_;omega⟩,h.more om,aj.refl _ _⟩
  simp at h2
  replace h1:=jW h1
  have Qv:1<=d:=(by simp at h1;omega)
  have Yf:2^d=2*2^(d-1):=(by rw[<-Nat.pow_succ'];congr 1;omega)
  have hp5:2^(d-1+1)=2^d:=(by congr 1;omega)
  have hp6:1<=2^(d-1):=Nat.one_le_two_pow
  refine zm<|aA (mv 2 de de br q om w h) ?_
  rintro v9 w1 ⟨⟨z,e9,hz⟩,hQ,aB⟩
  subst e9
  refine W ?_
  refine zc rfl (λh3=>?_) (λh3=>?_)
  refine W ?_
  exact⟨_,rfl,⟨.i,by rw[Ty.Na];rfl,by show 1+1<=_;omega⟩,hQ.more om,aB⟩
  have k8:=hQ.lt
  refine gT<|zr<|zm<|lk bg ba rfl rfl rfl rfl λw2 az mG dD=>bI az hQ aB λhQ aB=>?_
  refine aA (mw [[62],[42]] de de br (q+1) om _ w2 hQ (aK.dO [[62],[42]] mG (λhx=>by simp at hx;omega))) ?_
  rintro mJ w3 ⟨⟨xx,hi,im⟩,hQ,dG⟩
  have hf:=anM hi
  obtain⟨f,hf⟩:=hf
  rw[hf] at im
  subst im
  have aB:=aB.trans dG
  have oh:=Nb f
  refine WA ?_
  refine yD rfl rfl rfl rfl rfl (lx (d-1) om _ om)<|aA (ih (d-1) om om br (q+1+1) om w3 hQ) ?_
  rintro v20 w4 ⟨⟨A,pT,hA⟩,hQ,yp⟩
  subst pT
  have aB:=aB.trans yp
  have XB:=A.len
  refine WA ?_
  refine yD rfl rfl rfl rfl rfl (lx (d-1) om _ om)<|aA (ih (d-1) om om br _ om w4 hQ) ?_
  rintro v26 w5 ⟨⟨B,Qb,hB⟩,hQ,anN⟩
  subst Qb
  have aB:=aB.trans anN
  have XC:=B.len
  refine W ?_
  exact⟨_,rfl,⟨.op f A B,by show str (((((([40]++j7 f)++[32])++A.text)++[32])++B.text)++[41])=str _;rw[Ty.JI];simp,by show 1+A.n+B.n+1<=_;omega⟩,hQ.more om,aB⟩
def Ck:Ty->ai
 | .i=>[48]
 | .op false a b=>[40,112,97,105,114,32]++Ck a++[32]++Ck b++[41]
 | .op true a b=>[40,102,117,110,32,102,32,120,32]++a.text++[32]++b.text++[32]++Ck b++[41]
theorem Cl:∀T:Ty,T.n<=60->(Ck T).length<=500*T.n
 | .i,_=>by simp[Ck,Ty.n]
 | .op false a b,h=>by
  simp only[Ty.n] at h⊢
  have:=Cl a om
  have:=Cl b om
  simp only[Ck,lA,lC,List.length_nil];omega
 | .op true a b,h=>by
  simp only[Ty.n] at h⊢
  have:=Cl b om
  have:=a.len
  have:=b.len
  simp only[Ck,lA,lC,List.length_nil];omega
theorem Y2 (T:Ty):T.n<=60->∀(v:Value) (L:List Nat) (w:World),bC L w v T.au->bw Tryz.prog 228 [v] w λr w'=>r=str (Ck T)∧aj [] w w':=by
 induction T with
 |i=>
  intro hn v L w hv
  obtain⟨ar,nr,cr,rfl,qB,aO⟩:=cY hv
  have hK:=aj.refl [] w
  refine bU [.tmp 2] 47 Tryz.func228 rfl MY rfl rfl ?_
  refine zr<|eK rfl λw1 aI aY dh=>?_
  have hK:=hK.ext aI
  refine W ?_
  refine zc rfl (λh1=>?_) (λh1=>?_)
  refine W ?_
  exact⟨_,rfl,rfl,hK⟩
  exact absurd h1 de
 |op f a b iha ihb=>
  intro hn v L w hv
  cases f with
  |false=>
   obtain⟨ar,nr,cr,rfl,qB,aO⟩:=cY hv
   subst qB
   have eS:1+a.n+b.n<=60:=hn
   have Hm:=Cl a om
   have Ah:=Cl b om
   have zh:=a.len
   have LM:=b.len
   have Y3:=a.size
   have Y4:=b.size
   have Pq:(Ty.op false a b).au.ak.length=3:=rfl
   obtain⟨b0,wj,xI,xJ,e0,eD,_⟩:=fg aO (i:=0) om
   cases e0
   have eD:fF L w _ _ [str (j7 false),.slice xI 0 xJ]:=eD
   obtain⟨b1,eX,gR,gF,e1,bK,cN⟩:=fg aO (i:=1) om
   cases e1
   have bK:fF L w _ _ [str a.au.aw,.slice gR a.au.ak.length gF]:=bK
   have cN:bC L w (.agg #[str a.au.aw,.slice gR a.au.ak.length gF]) a.au:=cN
   obtain⟨b2,lP,iI,iy,e2,bY,dM⟩:=fg aO (i:=2) om
   cases e2
   have bY:fF L w _ _ [str b.au.aw,.slice iI b.au.ak.length iy]:=bY
   have dM:bC L w (.agg #[str b.au.aw,.slice iI b.au.ak.length iy]) b.au:=dM
   have hK:=aj.refl [] w
   refine bU [.tmp 2] 47 Tryz.func228 rfl MY rfl rfl<|zr<|eK rfl λw1 aI aY dh=>tC aI hK eD bK bY cN dM λhK eD bK bY cN dM=>?_
   refine W ?_
   refine zc rfl (λh1=>?_) (λh1=>?_)
   exact absurd rfl h1
   refine WI ?_
   refine zi (i:=0) cD aM rfl rfl ((show 0<3 from om))<|W ?_
   refine zc rfl (λh2=>?_) (λh2=>?_)
   refine WZ ?_
   apply dV dv 15 [12,13,14,15,16,17,18,19,20,21,22,23,24,25,2] [[],[0],[1],[2],[3],[4],[5],[],[7],[8],[9],[10],[6,11],[12],[13]] (it [_,_,_,_,_,_,_,_,_,_,_,_,_,_,_]) de rfl
   intro wd aC
   refine VA ?_
   refine vk aC (λx w2 az=>?_) ?_
   refine zi (i:=1) cD aM rfl rfl ((show 1<3 from om)) ?_
   exact pv
   refine VA ?_
   refine vk aC (λx w2 az=>?_) ?_
   have cN:=cN.ext az
   refine aA (iha om _ _ w2 cN) ?_
   rintro _ w3 ⟨rfl,aH⟩
   have fh:=aH.size
   exact pk aH
   refine VA ?_
   refine vk aC (λx w2 az=>?_) ?_
   refine zi (i:=2) cD aM rfl rfl ((show 2<3 from om)) ?_
   exact pv
   refine VA ?_
   refine vk aC (λx w2 az=>?_) ?_
   have dM:=dM.ext az
   refine aA (ihb om _ _ w2 dM) ?_
   rintro _ w3 ⟨rfl,aH⟩
   have fh:=aH.size
   exact pk aH
   exact VZ
   intro x oW gS
   have hK:=hK.ext gS
   change OW _ _ _ _ [] (bo (bm _ x _) (zZ 12 [_,_,_,_,_,_,_,_,_,_,_,_,_,_]++[(2,_)])) _
   refine W ?_
   exact⟨_,rfl,rfl,hK⟩
   exact absurd rfl h2
  |true=>
   obtain⟨ar,nr,cr,rfl,qB,aO⟩:=cY hv
   subst qB
   have eS:1+a.n+b.n<=60:=hn
   have Hm:=Cl a om
   have Ah:=Cl b om
   have zh:=a.len
   have LM:=b.len
   have Y3:=a.size
   have Y4:=b.size
   have Pq:(Ty.op true a b).au.ak.length=3:=rfl
   obtain⟨b0,wj,xI,xJ,e0,eD,_⟩:=fg aO (i:=0) om
   cases e0
   have eD:fF L w _ _ [str (j7 true),.slice xI 0 xJ]:=eD
   obtain⟨b1,eX,gR,gF,e1,bK,cN⟩:=fg aO (i:=1) om
   cases e1
   have bK:fF L w _ _ [str a.au.aw,.slice gR a.au.ak.length gF]:=bK
   have cN:bC L w (.agg #[str a.au.aw,.slice gR a.au.ak.length gF]) a.au:=cN
   obtain⟨b2,lP,iI,iy,e2,bY,dM⟩:=fg aO (i:=2) om
   cases e2
   have bY:fF L w _ _ [str b.au.aw,.slice iI b.au.ak.length iy]:=bY
   have dM:bC L w (.agg #[str b.au.aw,.slice iI b.au.ak.length iy]) b.au:=dM
   have hK:=aj.refl [] w
   refine bU [.tmp 2] 47 Tryz.func228 rfl MY rfl rfl<|zr<|eK rfl λw1 aI aY dh=>tC aI hK eD bK bY cN dM λhK eD bK bY cN dM=>?_
   refine W ?_
   refine zc rfl (λh1=>?_) (λh1=>?_)
   exact absurd rfl h1
   refine WI ?_
   refine zi (i:=0) cD aM rfl rfl ((show 0<3 from om))<|W ?_
   refine zc rfl (λh2=>?_) (λh2=>?_)
   exact absurd h2 de
   refine WZ ?_
   apply dV dv 22 [26,27,28,29,30,31,32,33,34,35,36,37,38,39,40,41,42,43,44,45,46,2] [[],[0],[1],[2],[3],[4],[5],[],[7],[8],[9],[10],[6,11],[12],[],[14],[15],[16],[17],[13,18],[19],[20]] (it [_,_,_,_,_,_,_,_,_,_,_,_,_,_,_,_,_,_,_,_,_,_]) de rfl
   intro wd aC
   refine VA ?_
   refine vk aC (λx w2 az=>?_) ?_
   refine zi (i:=1) cD aM rfl rfl ((show 1<3 from om)) ?_
   exact pv
   refine VA ?_
   refine vk aC (λx w2 az=>?_) ?_
   have cN:=cN.ext az
   refine aA (uJ a.au.size a.au (lR _) a.l4.wf om (show a.text.length<=100000000 from om) _ _ w2 cN) ?_
   rintro _ w3 ⟨rfl,aH⟩
   have fh:=aH.size
   exact pk aH
   refine vk aC (λx w2 az=>?_) ?_
   refine iu rfl rfl rfl rfl (by have h9:a.au.text.length=a.text.length:=rfl;simp;omega) ?_
   exact pv
   refine vk aC (λx w2 az=>?_) ?_
   refine iu rfl rfl rfl rfl (by have h9:a.au.text.length=a.text.length:=rfl;simp;omega) ?_
   exact pv
   refine VA ?_
   refine vk aC (λx w2 az=>?_) ?_
   refine zi (i:=2) cD aM rfl rfl ((show 2<3 from om)) ?_
   exact pv
   refine VA ?_
   refine vk aC (λx w2 az=>?_) ?_
   have dM:=dM.ext az
   refine aA (uJ b.au.size b.au (lR _) b.l4.wf om (show b.text.length<=100000000 from om) _ _ w2 dM) ?_
   rintro _ w3 ⟨rfl,aH⟩
   have fh:=aH.size
   exact pk aH
   refine vk aC (λx w2 az=>?_) ?_
   refine iu rfl rfl rfl rfl (by have h9:a.au.text.length=a.text.length:=rfl;have gi:b.au.text.length=b.text.length:=rfl;simp;omega) ?_
   exact pv
   refine vk aC (λx w2 az=>?_) ?_
   refine iu rfl rfl rfl rfl (by have h9:a.au.text.length=a.text.length:=rfl;have gi:b.au.text.length=b.text.length:=rfl;simp;omega) ?_
   exact pv
   refine VA ?_
   refine vk aC (λx w2 az=>?_) ?_
   refine zi (i:=2) cD aM rfl rfl ((show 2<3 from om)) ?_
   exact pv
   refine VA ?_
   refine vk aC (λx w2 az=>?_) ?_
   have dM:=dM.ext az
   refine aA (ihb om _ _ w2 dM) ?_
   rintro _ w3 ⟨rfl,aH⟩
   have fh:=aH.size
   exact pk aH
   refine vk aC (λx w2 az=>?_) ?_
   refine iu rfl rfl rfl rfl (by have h9:a.au.text.length=a.text.length:=rfl;have gi:b.au.text.length=b.text.length:=rfl;simp;omega) ?_
   exact pv
   refine vk aC (λx w2 az=>?_) ?_
   refine iu rfl rfl rfl rfl (by have h9:a.au.text.length=a.text.length:=rfl;have gi:b.au.text.length=b.text.length:=rfl;simp;omega) ?_
   exact pv
   exact VZ
   intro x oW gS
   have hK:=hK.ext gS
   change OW _ _ _ _ [] (bo (bm _ x _) (zZ 26 [_,_,_,_,_,_,_,_,_,_,_,_,_,_,_,_,_,_,_,_,_]++[(2,_)])) _
   refine W ?_
   exact⟨_,rfl,rfl,hK⟩
def QI:List ai:=[[40,43,32,120,56,32,40,99,97,108,108,32,102,56,32,40,45,32,120,56,32,49,41,41,41],[40,99,97,108,108,32,102,56,32,40,45,32,120,56,32,49,41,41],[40,42,32,120,56,32,40,99,97,108,108,32,102,56,32,40,45,32,120,56,32,49,41,41,41],[40,45,32,48,32,40,99,97,108,108,32,102,56,32,40,45,32,120,56,32,49,41,41,41]]
theorem anO (br q:Nat) (hq:q<=900000000) (w:World) (h:dB w br q):
  bw Tryz.prog 162 [.pointer (some ⟨br,0,none⟩)] w λr w'=>(∃x,r=str x∧x.length<=200)∧dB w' br (q+3)∧aj [br] w w':=by
 have hQ:=h
 have aB:=aj.refl [br] w
 have k8:=h.lt
 refine bU [.tmp 2] 20 Tryz.func162 rfl acU rfl rfl ?_
 refine W ?_
 refine zj bg ba rfl rfl rfl rfl rfl rfl λw1 aI cu dh=>bI aI hQ aB λhQ aB=>?_
 refine aA (mw QI de de br q om _ w1 hQ (aK.dO QI cu (λhx=>by simp at hx;omega) de)) ?_
 rintro mJ w2 ⟨⟨x1,hi,im⟩,hQ,dG⟩
 subst im
 have aB:=aB.trans dG
 have fD:=(show∀x,x∈QI->x.length<=30 from by decide) _ hi
 have k8:=hQ.lt
 clear cu
 refine W ?_
 refine pJ bg ba rfl rfl rfl rfl rfl λw3 aH db gL=>bI aH hQ aB λhQ aB=>?_
 refine aA (mw [[48],[49],[53]] de de br (q+1) om _ w3 hQ (aK.dO [[48],[49],[53]] db (λhx=>by simp at hx;omega))) ?_
 rintro zM w4 ⟨⟨x2,hj,BS⟩,hQ,jZ⟩
 subst BS
 have aB:=aB.trans jZ
 have iG:=(show∀x,x∈([[48],[49],[53]]:List ai)->x.length<=30 from by decide) _ hj
 clear db
 refine W ?_
 refine aA (mv 7 de de br (q+2) om w4 hQ) ?_
 rintro Du w5 ⟨⟨z,B8,hz⟩,hQ,nG⟩
 subst B8
 have aB:=aB.trans nG
 have Gm:=tI (n:=z) om
 refine aA (iH (z+1) z om om w5) ?_
 rintro _ w6 ⟨rfl,bN⟩
 have iJ:=bN.size
 refine bI bN hQ aB λhQ aB=>?_
 refine W ?_
 exact⟨_,rfl,⟨_,rfl,by simp;omega⟩,hQ,aB⟩
end Go.Proofs.YthbhobaiopccaaaGreatDoor
