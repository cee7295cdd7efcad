/- Lemmas for the law FnProgramSize, no statement of their own: no conditions. -/
import Derived.Test.YtkcegcjelmmilaaGreatDoorHe
import Derived.Deep.Strs
import Derived.JoinedOf
import Derived.OpenShut
import Derived.SevenTiedAt
import Derived.Test.YtkcegcjelmmilaaGreatDoorRows
namespace Go.Proofs.YtkcegcjelmmilaaGreatDoor
open Go
set_option maxHeartbeats 4000000
variable {B b b6 b7 i q q':Nat} {xs ys:List ai} {v v1 v2:Value} {w w':World} {L:List Nat} {l x:ai} {g g1 g2:Option Nat} {gss:List (Option Nat×Option Nat)} {vss:List (List Value)} {bs:List Bk} {ps:List dy}
theorem amg (t:aq) (cm:WF t) (lD:t.size<=100000000) (hl:t.text.length<=100000000) (v:Value) (L:List Nat) (w:World) (hv:bB L w v t):
  bz Tryz.prog 42 [v] w λr w'=>r=str t.text∧aj [] w w':=by
 have cO:=hv
 obtain⟨a,n,c,rfl,hn,aP⟩:=cU hv
 have hK:=aj.refl [] w
 refine bS [.tmp 2] 7 Tryz.func42 rfl aaw rfl rfl ?_
 refine zr<|eH rfl λw1 aI aX dk=>zA<|aZ<|zr<|dx Lq rfl rfl rfl λw2 az cQ dC=>?_
 have aX:=aX.ext az
 refine W ?_
 refine aA (amf t.size t (lR _) cm _ L w1 w2 w1.heap.size [] (cO.ext aI) az om (.inl ⟨lR _,_,cQ,⟨rfl,.inl ⟨rfl,rfl⟩⟩,by simp[Value.ownBlock]⟩) so om) ?_
 rintro _ w3 ⟨rfl,vW,hF⟩
 refine aZ<|zr<|aA (ame w1.heap.size w1.heap.size _ w3 vW (by have:=hF.below.size;omega)) ?_
 rintro _ w4 ⟨rfl,aO⟩
 refine W ?_
 exact⟨_,rfl,rfl,aI.trans (Ck (hF.aF az) aO)⟩
theorem XF (ts:List aq) (h:DW ts) (v:Value) (L:List Nat) (w:World) (hv:eM L w v ts):
  bz Tryz.prog 23 [v] w λr w'=>(∃a n c g,r= .slice a n c∧n=ts.length∧cG w' 9 (.slice a n c) g (ts.map aq.text)∧(∀b,g=some b->w.heap.size<=b)∧(ts=[]->g=none))∧aj [] w w':=by
 obtain⟨a,c,rfl⟩:=Ta hv
 have hK:=aj.refl [] w
 have hl:=h.1
 refine bS [.tmp 2] 19 Tryz.func23 rfl aab rfl rfl ?_
 refine W ?_
 refine eA (λq:Nat×Option Addr×Nat×Option Nat=>[(3,.slice q.2.1 ((ts.take q.1).map aq.text).length q.2.2.1),(6,.slice a ts.length c),(7,.int .i64 (ts.length:Int)),(8,.int .i64 (q.1:Int))]) (λq w'=>aj [] w w'∧Gr w.heap.size [] w' 9 1 (.slice q.2.1 ((ts.take q.1).map aq.text).length q.2.2.1) q.2.2.2 (ga ((ts.take q.1).map aq.text))∧q.1<=ts.length∧(q.1=0->q.2.2.2=none)) (λq=>ts.length-q.1) ((0,none,0,none)) (⟨rfl,rfl,rfl,rfl⟩) (⟨hK,Gr.nil sm om,sm,λ_=>rfl⟩) λgg w1 e1 hI=>?_
 obtain⟨i,a3,cc,g⟩:=gg
 dsimp only at hI⊢
 obtain⟨hK,hO,hk,yf⟩:=hI
 have fC:=hK.size
 refine W ?_
 refine zc rfl (λh1=>?_) (λh1=>?_)
 have ey:=gh (ps:=ts) (i:=i) om
 obtain⟨b1,eX,pa,pn,pc,rfl,jk,eP,fM⟩:=iJ hv ey
 obtain⟨cm,cV,dm⟩:=h.2 (nth ts i) (List.mem_of_getElem? ey)
 refine WL ?_
 refine zL tF fg rfl (jk.ext hK) rfl<|dx fg rfl rfl rfl λw2 az cg dC=>?_
 have hK:=hK.grow;have hK:=hK.ext az;have hO:=hO.alloc az dC
 refine cJ fg rfl rfl rfl cg rfl λw3 aH cg gJ=>?_
 have hK:=hK.aD aH sx;have hO:=hO.aD aH sx
 refine W ?_
 refine aA (amg (nth ts i) cm cV dm _ L w3 ((kV fM).ext hK)) ?_
 rintro _ w4 ⟨rfl,aO⟩
 have fE:=aO.size
 refine bI aO hK hO λhK hO=>?_
 refine fc bh bf rfl rfl λw5 aN EB ig=>bI aN hK hO λhK hO=>?_
 refine Rv bh bf rfl rfl rfl rfl rfl rfl hO EB (by rw[DU _ hk];omega) λa4 fP g4 w6 iY bN=>?_
 have hK:=hO.since hK bN
 rw[DT aq.text ey] at iY⊢
 refine W ?_
 exact⟨(i+1,a4,fP,g4),⟨rfl,rfl,rfl,rfl⟩,⟨hK,iY.gP sm,by dsimp only;omega,by dsimp only;intro h;omega⟩,by dsimp only;omega⟩
 rw[F0 aq.text om] at hO⊢
 refine W ?_
 exact⟨_,rfl,⟨_,_,_,g,rfl,List.length_map _,hO.uR,hO.low,λh=>yf (by rw[h] at hk;simp at hk;omega)⟩,hK⟩
def s9 (B:Nat) (xs:List ai) (v:Value) (w:World):Prop:=∃a n c g,v= .slice a n c∧cG w 9 (.slice a n c) g xs∧∀b,g=some b->B<=b
theorem s9.ext (h:s9 B xs v w) (k:aj [] w w'):s9 B xs v w':=let⟨a,n,c,g,e,h1,h2⟩:=h;⟨a,n,c,g,e,h1.ext k,h2⟩
theorem s9.rs (h:s9 B xs v w) (hL:∀x,x∈L->x<B):bc L w v xs:=by
 obtain⟨a,n,c,g,rfl,h1,h2⟩:=h
 exact h1.rep λb hb hx=>by have:=hL b hx;have:=h2 b hb;omega
def HY (B:Nat) (l:ai) (xs ys:List ai) (v:Value) (w:World):Prop:=∃a1 n1 c1 a2 n2 c2,v= .agg #[str l,.slice a1 n1 c1,.slice a2 n2 c2]∧s9 B xs (.slice a1 n1 c1) w∧s9 B ys (.slice a2 n2 c2) w
theorem HY.ext (h:HY B l xs ys v w) (k:aj [] w w'):HY B l xs ys v w':=
 let⟨a1,n1,c1,a2,n2,c2,e,h1,h2⟩:=h;⟨a1,n1,c1,a2,n2,c2,e,h1.ext k,h2.ext k⟩
def HZ (B:Nat) (l:ai) (xs ys:List ai) (v:Value) (w:World):Prop:=∃b a1 n1 c1 a2 n2 c2,v= .slice (some ⟨b,0,none⟩) 1 1∧aJ w b [str l,.slice a1 n1 c1,.slice a2 n2 c2].toArray 39∧s9 B xs (.slice a1 n1 c1) w∧s9 B ys (.slice a2 n2 c2) w
theorem HZ.ext (h:HZ B l xs ys v w) (k:aj [] w w'):HZ B l xs ys v w':=
 let⟨b,a1,n1,c1,a2,n2,c2,e,hb,h1,h2⟩:=h;⟨b,a1,n1,c1,a2,n2,c2,e,hb.ext k,h1.ext k,h2.ext k⟩
theorem amh (ps:List dy) (aP:ps.length<=1000) (nC:∀b,b∈ps->DW b.regs∧DW b.code) (v:Value) (L Lv:List Nat) (w:World) (hv:nG Lv w v ps) (hL:∀x,x∈L->x<w.heap.size):
  bz Tryz.prog 12 [v] w λr w'=>nR L w' r (ps.map mD)∧aj [] w w':=by
 obtain⟨a,c,rfl⟩:=Eh hv
 have hK:=aj.refl [] w
 refine bS [.tmp 2] 26 Tryz.func12 rfl Zs rfl rfl ?_
 refine W ?_
 refine eA (λq:Nat×Option Addr×Nat×Option Nat=>[(3,.slice q.2.1 ((ps.take q.1).map mD).length q.2.2.1),(6,.slice a ps.length c),(7,.int .i64 (ps.length:Int)),(8,.int .i64 (q.1:Int))]) (λq w'=>aj [] w w'∧Gr w.heap.size L w' 39 3 (.slice q.2.1 ((ps.take q.1).map mD).length q.2.2.1) q.2.2.2 (((ps.take q.1).map mD).map Bk.enc)∧q.1<=ps.length) (λq=>ps.length-q.1) ((0,none,0,none)) (⟨rfl,rfl,rfl,rfl⟩) (⟨hK,Gr.nil hL (lR _),sm⟩) λgg w1 e1 hI=>?_
 obtain⟨i,a3,cc,g⟩:=gg
 dsimp only at hI⊢
 obtain⟨hK,hO,hk⟩:=hI
 have fC:=hK.size
 refine W ?_
 refine zc rfl (λh1=>?_) (λh1=>?_)
 have hi:i<ps.length:=by omega
 have hp:=sv (ps:=ps) hi
 have aQ:=Cm hv hp
 obtain⟨b,off,r1,Jd,r2,Gx,rfl,hc,mB,pL⟩:=aQ
 have XG:=nC _ (List.mem_of_getElem? hp)
 refine WI ?_
 refine zi wk jf rfl rfl hi<|zL zG jf rfl (hc.ext hK) rfl<|dx jf rfl rfl rfl λw2 az cg dC=>?_
 have hK:=hK.grow;have hK:=hK.ext az;have hO:=hO.alloc az dC
 refine cJ jf rfl rfl rfl cg rfl λw3 aH cg gJ=>?_
 have hK:=hK.aD aH sx;have hO:=hO.aD aH sx
 refine W ?_
 have aQ:∃B:Nat,B=w3.heap.size:=⟨_,rfl⟩
 obtain⟨B,hB⟩:=aQ
 have iR:=aj.refl [] w3
 have cL:=hO.all
 rw[<-hB] at cL
 apply uZ dj 11 (rA 12 11) (rA 12 11) [[],[],[1],[],[3],[4],[],[6],[7],[2,5,8],[9]] [It.v _,It.v _,It.v _,It.v _,It.v _,It.p (fun(v:Value) (ww:World)=>s9 B ((eC ps i).regs.map aq.text) v ww),It.v _,It.v _,It.p (fun(v:Value) (ww:World)=>s9 B ((eC ps i).code.map aq.text) v ww),It.p (fun(v:Value) (ww:World)=>HY B (eC ps i).aM ((eC ps i).regs.map aq.text) ((eC ps i).code.map aq.text) v ww),It.p (fun(v:Value) (ww:World)=>HZ B (eC ps i).aM ((eC ps i).regs.map aq.text) ((eC ps i).code.map aq.text) v ww)] de (by exact⟨λv w w' h k=>s9.ext h k,λv w w' h k=>s9.ext h k,λv w w' h k=>HY.ext h k,λv w w' h k=>HZ.ext h k,trivial⟩)
 intro wd aC
 refine VA ?_
 refine vk aC (λx w4 aO=>?_) ?_
 have hK:=hK.ext aO
 refine aA (XF _ XG.1 _ _ w4 (mB.ext hK)) ?_
 rintro v5 w5 ⟨sI,aN⟩
 have l3:=aN.size
 obtain⟨a7,n7,c7,g7,rfl,hn7,lf,Pt,oX⟩:=sI
 exact pf aN (⟨a7,n7,c7,g7,rfl,lf,λb hb=>by have:=Pt b hb;have:=aO.size;omega⟩)
 refine VA ?_
 refine vk aC (λx w4 aO=>?_) ?_
 have hK:=hK.ext aO
 refine aA (XF _ XG.2 _ _ w4 (pL.ext hK)) ?_
 rintro v5 w5 ⟨sI,aN⟩
 have l3:=aN.size
 obtain⟨a7,n7,c7,g7,rfl,hn7,lf,Pt,oX⟩:=sI
 exact pf aN (⟨a7,n7,c7,g7,rfl,lf,λb hb=>by have:=Pt b hb;have:=aO.size;omega⟩)
 refine vk aC (λx w4 aO=>?_) ?_
 intro v5 d5
 intro v8 d8
 have d5z:=d5
 have d8z:=d8
 obtain⟨a7,n7,c7,g7,e7,h7⟩:=d5
 obtain⟨a8,n8,c8,g8,e8,h8⟩:=d8
 subst e7
 subst e8
 refine js (Ip _ _ _ _ _ _ _ _) rfl rfl ?_
 exact pf (aj.refl _ _) (⟨_,_,_,_,_,_,rfl,d5z,d8z⟩)
 refine vk aC (λx w4 aO=>?_) ?_
 intro v9 d9
 obtain⟨a7,n7,c7,a8,n8,c8,e9,h7,h8⟩:=d9
 subst e9
 refine fc iK fU rfl rfl λw5 aN rX ig=>?_
 exact pf aN (⟨_,_,_,_,_,_,_,rfl,rX,h7.ext aN,h8.ext aN⟩)
 exact trivial
 intro x oZ jy
 intro v5 d5
 intro v8 d8
 intro v9 d9
 intro v10 d10
 refine bI jy hK hO λhK hO=>?_
 change OW _ _ _ _ _ (bo (bj _ x _) (zZ 12 [_,_,_,_,_,_,_,_,_,_,_])) _
 obtain⟨nb,a7,n7,c7,a8,n8,c8,e9,tT,h7,h8⟩:=d10
 subst e9
 refine DR (row:=Bk.enc (mD (eC ps i))) iK fU rfl rfl rfl rfl rfl rfl hO tT rfl rfl ⟨.val _,h7.rs cL,h8.rs cL,trivial⟩ (by rw[List.length_map,DU _ hk];omega) λa4 fP g4 o4 iY iX=>?_
 have hK:=hO.since hK iX
 have e1:((ps.take i).map mD).map Bk.enc++[Bk.enc (mD (eC ps i))]=((ps.take (i+1)).map mD).map Bk.enc:=by rw[<-DT mD hp,List.map_append];rfl
 have e2:(((ps.take i).map mD).map Bk.enc).length+1=((ps.take (i+1)).map mD).length:=by rw[<-DT mD hp];simp
 rw[e1,e2] at iY
 rw[e2]
 refine W ?_
 exact⟨(i+1,a4,fP,g4),⟨rfl,rfl,rfl,rfl⟩,⟨hK,iY.gP (λx hx=>by simp[hx]),by dsimp only;omega⟩,by dsimp only;omega⟩
 rw[F0 mD om] at hO⊢
 refine W ?_
 exact⟨_,rfl,hO.tK,hK⟩
theorem kQ (z:Nat) (h:z<4611686018427387904) (y:Int) (e:y=(z:Int)):IntKind.i64.wrap y=(z:Int):=by
 rw[e];exact wrap_i64 _ om om
theorem lQ (k:Nat) (hk:1<=k) (az:k<=1000000) (br q:Nat) (hq:q<=1000000000) (w:World) (h:dD w br q):
  bz Tryz.prog 15 [.pointer (some ⟨br,0,none⟩),.int .i64 (k:Int)] w λr w'=>(∃z:Nat,r= .int .i64 (z:Int)∧z<k)∧dD w' br (q+1)∧aj [br] w w':=by
 obtain⟨a,n,c,p,bs,ov,hp,cL,hn⟩:=h
 have fK:=cL [br] sm
 have oF:n=bs.length:=by obtain⟨a',c',e',_⟩:=rC fK;cases e';exact Fg bs
 have hdiv:=Nat.div_le_self p n
 refine bS [.tmp 4] 99 Tryz.func15 rfl ZS rfl rfl ?_
 refine WA ?_
 refine mX rfl rfl rfl rfl rfl (kQ (p+1) om _ om)<|Fo rfl rfl rfl<|zf QL rfl<|gd (o:=1) oI rfl rfl rfl ov rfl λw1 aI ov df=>?_
 have fK:=bQ.aD fK aI sm
 have hK:=aI
 have hQ:dD w1 br (q+1):=⟨a,n,c,p+1,bs,ov,om,Xy cL aI sm,hn⟩
 refine W ?_
 apply oP 7 17 24 rfl oQ
 intro _
 refine WZ ?_
 exact oQ
 intro xx
 refine aZ<|zc rfl (λh2=>?_) (λh2=>?_)
 have h0:n=0:=(by simp at h2;omega)
 refine W ?_
 exact⟨_,rfl,⟨0,rfl,om⟩,hQ,hK⟩
 have h0:0<n:=(by simp at h2;omega)
 refine WA ?_
 refine xK rfl rfl rfl rfl rfl (kQ p om _ om)<|W ?_
 refine zc rfl (λh3=>?_) (λh3=>?_)
 have h1:p<n:=(by simp at h3;omega)
 have p6:=KJ fK (i:=p) om
 obtain⟨b1,eX,x1,e1,bK⟩:=p6
 cases e1
 have ik:=x1.toNat_lt
 refine WI ?_
 refine zi BQ FN rfl rfl h1<|W ?_
 refine xL xQ wj rfl rfl rfl (wrap_i64 _ om om)<|zm<|Fs rfl rfl rfl rfl rfl om<|zA<|aZ<|jZ ?_
 exact⟨_,rfl,⟨x1.toNat%k,rfl,Nat.mod_lt _ om⟩,hQ,hK⟩
 have h1:=Nat.mod_lt p h0
 have h2:=Nat.mod_lt (p*7+3) h0
 have p6:=KJ fK (i:=p%n) om
 obtain⟨b1,eX,x1,e1,bK⟩:=p6
 cases e1
 have ik:=x1.toNat_lt
 have iO:=KJ fK (i:=(p*7+3)%n) om
 obtain⟨b2,lF,x2,e2,bU⟩:=iO
 cases e2
 have fj:=x2.toNat_lt
 refine WZ ?_
 apply dV dj 46 [47,48,49,50,51,52,53,54,55,56,57,58,59,60,61,62,63,64,65,66,67,68,69,70,71,72,73,74,75,76,77,78,79,80,81,82,83,84,85,86,87,88,89,90,91,6] [[],[0],[1],[2],[],[],[5],[6],[7],[8],[4,9],[3,10],[11],[12],[13],[],[15],[16],[17],[],[19],[20],[],[22],[23],[24],[25],[21,26],[18,27],[28],[29],[30],[14,31],[],[33],[32,34],[],[],[37],[38],[39],[40],[36,41],[42],[35,43],[44]] (it [_,_,_,_,_,_,_,_,_,_,_,_,_,_,_,_,_,_,_,_,_,_,_,_,_,_,_,_,_,_,_,_,_,_,_,_,_,_,_,_,_,_,_,_,_,_]) de rfl
 intro wd aC
 refine VA ?_
 refine vk aC (λx w2 az=>?_) ?_
 refine Fs rfl rfl rfl rfl rfl om ?_
 exact pv
 refine VA ?_
 refine vk aC (λx w2 az=>?_) ?_
 refine xL xQ wj rfl rfl rfl (kQ x1.toNat om _ rfl) ?_
 exact pv
 refine vk aC (λx w2 az=>?_) ?_
 refine Ia rfl rfl rfl rfl rfl (kQ (x1.toNat*131) om _ om) ?_
 exact pv
 refine Ap ?_
 refine vk aC (λx w2 az=>?_) ?_
 refine WZ ?_
 exact pv
 refine vc (λ_ _ _=>WZ pv) ?_
 refine vk aC (λx w2 az=>?_) ?_
 have ov:=ov.ext az
 refine WZ ?_
 exact pv
 refine vc (λ_ _ _=>WZ pv) ?_
 refine VA ?_
 refine vk aC (λx w2 az=>?_) ?_
 refine Fs rfl rfl rfl rfl rfl om ?_
 exact pv
 refine VA ?_
 refine vk aC (λx w2 az=>?_) ?_
 refine xL xQ wj rfl rfl rfl (kQ x2.toNat om _ rfl) ?_
 exact pv
 refine vk aC (λx w2 az=>?_) ?_
 refine Ia rfl rfl rfl rfl rfl (kQ (x2.toNat*1117) om _ om) ?_
 exact pv
 refine vk aC (λx w2 az=>?_) ?_
 refine mX rfl rfl rfl rfl rfl (kQ (x1.toNat*131+x2.toNat*1117) om _ om) ?_
 exact pv
 refine Ap ?_
 refine VA ?_
 refine vk aC (λx w2 az=>?_) ?_
 refine K0 rfl rfl rfl rfl rfl om (kQ (p/n) om _ rfl) ?_
 exact pv
 refine vk aC (λx w2 az=>?_) ?_
 refine Ia rfl rfl rfl rfl rfl (kQ (p/n*53) om _ sm) ?_
 exact pv
 refine vk aC (λx w2 az=>?_) ?_
 refine mX rfl rfl rfl rfl rfl (kQ (x1.toNat*131+x2.toNat*1117+p*29+p/n*53) om _ sm) ?_
 exact pv
 exact VZ
 intro x o3 gR
 change OW _ _ _ _ [] (bo (bj _ x _) (zZ 47 [_,_,_,_,_,_,_,_,_,_,_,_,_,_,_,_,_,_,_,_,_,_,_,_,_,_,_,_,_,_,_,_,_,_,_,_,_,_,_,_,_,_,_,_,_]++[(6,_)])) _
 have hX:x1.toNat*131+x2.toNat*1117+p*29+p/n*53<4611686018427387904:=om
 have hXx:∃z,z=x1.toNat*131+x2.toNat*1117+p*29+p/n*53:=⟨_,rfl⟩
 obtain⟨X,hXe⟩:=hXx
 rw[<-hXe] at hX⊢
 refine bI gR hQ hK λhQ hK=>?_
 refine W ?_
 refine K0 (b:=64) rfl rfl rfl rfl rfl om (kQ (X/64) om _ rfl)<|al0 rfl rfl rfl rfl om om<|zA<|aZ<|zr<|zm<|zm<|Fs rfl rfl rfl rfl rfl om<|zA<|aZ<|jZ ?_
 exact⟨_,rfl,⟨(X^^^X/64)%k,rfl,Nat.mod_lt _ om⟩,hQ,hK⟩
theorem aml (bs:List UInt8) (hb:bs.length<=1000000000) (v:Value) (w:World) (hv:bQ [] w v (.sl 1 (qJ bs))):
  bz Tryz.prog 13 [v] w λr w'=>(∃br,r= .pointer (some ⟨br,0,none⟩)∧w.heap.size<=br∧dD w' br 0)∧aj [] w w':=by
 obtain⟨a,c,rfl,_⟩:=rC hv
 rw[Fg]
 rw[Fg] at hv
 have hK:=aj.refl [] w
 refine bS [.tmp 2] 11 Tryz.func13 rfl ZB rfl rfl ?_
 refine W ?_
 refine ix (λq:Option Addr×Nat×Nat=>[(0,.slice q.1 q.2.1 q.2.2)]) (λq ww=>aj [] w ww∧(∃bs',bQ [] ww (.slice q.1 q.2.1 q.2.2) (.sl 1 (qJ bs')))∧q.2.1<=1000000000) ?_ ?_
 refine zc rfl (λh1=>?_) (λh1=>?_)
 have h2:2000<bs.length:=om
 have hg:=KJ hv (i:=0) om
 obtain⟨b1,eX,x1,e1,_⟩:=hg
 cases e1
 refine kH<|zm<|Xx (h:=2000) BQ FN rfl rfl rfl rfl om hv<|zA<|aZ ?_
 exact⟨(_,2000,_),rfl,hK,⟨bs.take 2000,by have:=Pq hv (h:=2000) om;rw[show(qJ bs).take 2000=qJ (bs.take 2000) from by simp[qJ,List.map_take]] at this;exact this⟩,by show 2000<=_;omega⟩
 refine WZ ?_
 exact⟨(_,_,_),rfl,hK,⟨bs,hv⟩,hb⟩
 intro gu w1 e1 hI
 obtain⟨a2,n2,c2⟩:=gu
 dsimp only at hI⊢
 obtain⟨hK,⟨XH,Pu⟩,eV⟩:=hI
 have amm:=Pu
 have mG:=hK.size
 refine zr<|zm<|js (abw _ _ _ _) rfl rfl<|eH rfl λw2 az qp dC=>?_
 have hK:=hK.ext az
 refine W ?_
 exact⟨_,rfl,⟨_,rfl,mG,⟨a2,n2,c2,0,XH,qp,lR _,λL hL=>(bQ.fresh amm (L':=L) (λx hx=>.inr (hL x hx))).ext az,eV⟩⟩,hK⟩
theorem mi (xs:List ai) (dL:0<xs.length) (hl:xs.length<=1000000) (br q:Nat) (hq:q<=1000000000) (v:Value) (w:World) (h:dD w br q) (hv:bc [br] w v xs):
  bz Tryz.prog 25 [.pointer (some ⟨br,0,none⟩),v] w λr w'=>(∃x,x∈xs∧r=str x)∧dD w' br (q+1)∧aj [br] w w':=by
 obtain⟨a,n,c,rfl,hn⟩:=dJ hv
 subst hn
 refine bS [.tmp 4] 12 Tryz.func25 rfl aad rfl rfl ?_
 refine W ?_
 refine aA (lQ xs.length om om br q hq w h) ?_
 rintro v9 w1 ⟨⟨z,e9,hz⟩,hQ,aB⟩
 subst e9
 have ij:=bQ.aD hv aB sm
 have hg:=nN ij hz
 obtain⟨b1,eX,e1,bK⟩:=hg
 cases e1
 refine zi bh bf rfl rfl hz<|W ?_
 exact⟨_,rfl,⟨_,List.mem_of_getElem? (km hz),rfl⟩,hQ,aB⟩
theorem H0 (br q:Nat) (hq:q<=1000000000) (w:World) (h:dD w br q):
  bz Tryz.prog 44 [.pointer (some ⟨br,0,none⟩)] w λr w'=>(∃z,z<6∧r=str (aT z))∧dD w' br (q+1)∧aj [br] w w':=by
 refine bS [.tmp 2] 6 Tryz.func44 rfl aay rfl rfl ?_
 refine W ?_
 refine aA (lQ 6 de de br q hq w h) ?_
 rintro v9 w1 ⟨⟨z,e9,hz⟩,hQ,aB⟩
 subst e9
 refine aA (ir (z+1) z om om w1) ?_
 rintro _ w2 ⟨rfl,az⟩
 have dm:=az.size
 refine bI az hQ aB λhQ aB=>?_
 refine W ?_
 exact⟨_,rfl,⟨z,hz,rfl⟩,hQ,aB⟩
theorem amn (h:x∈([[62],[42]]:List ai)):∃f,x=jO f:=by
 simp only[mC,List.not_mem_nil,or_false] at h
 rcases h with rfl|rfl
 ·exact⟨true,rfl⟩
 ·exact⟨false,rfl⟩
theorem Pv (d:Nat):d<=10->∀(br q:Nat),q+3*2^d<=1000000000->∀(w:World),dD w br q->
  bz Tryz.prog 50 [.pointer (some ⟨br,0,none⟩),.int .i64 (d:Int)] w λr w'=>(∃T:Ty,r=str T.text∧T.n+1<=2^(d+1))∧dD w' br (q+(3*2^d-2))∧aj [br] w w':=by
 induction d using Nat.strongRecOn with
 |_ d ih=>
  intro hd br q hq w h
  have mB:1<=2^d:=Nat.one_le_two_pow
  have pL:2^(d+1)=2*2^d:=by rw[Nat.pow_succ];omega
  have Eg:2^d<=1024:=Nat.pow_le_pow_right (n:=2) de hd
  refine bS [.tmp 4] 29 Tryz.func50 rfl aaF rfl rfl ?_
  refine W ?_
  refine xM (t:=7) rfl (λh1=>?_) (λh1=>?_)
  replace h1:=jj h1
  have ML:d=0:=(by simp at h1;omega)
  refine W ?_
  refine zc rfl (λh2=>?_) (λh2=>?_)
  refine W ?_
  exact⟨_,rfl,⟨.i,by rw[Ty.LX];rfl,by show 1+1<=_;omega⟩,h.more om,aj.refl _ _⟩
  simp at h2
  replace h1:=jj h1
  have ML:1<=d:=(by simp at h1;omega)
  have Xk:2^d=2*2^(d-1):=(by rw[<-Nat.pow_succ'];congr 1;omega)
  have hp5:2^(d-1+1)=2^d:=(by congr 1;omega)
  have hp6:1<=2^(d-1):=Nat.one_le_two_pow
  refine zm<|aA (lQ 2 de de br q om w h) ?_
  rintro v9 w1 ⟨⟨z,e9,hz⟩,hQ,aB⟩
  subst e9
  refine W ?_
  refine zc rfl (λh3=>?_) (λh3=>?_)
  refine W ?_
  exact⟨_,rfl,⟨.i,by rw[Ty.LX];rfl,by show 1+1<=_;omega⟩,hQ.more om,aB⟩
  have lS:=hQ.lt
  refine gY<|zr<|zm<|kL bh bf rfl rfl rfl rfl λw2 az lI dC=>bI az hQ aB λhQ aB=>?_
  refine aA (mi [[62],[42]] de de br (q+1) om _ w2 hQ (aJ.dK [[62],[42]] lI (λhx=>by simp at hx;omega))) ?_
  rintro l9 w3 ⟨⟨xx,hi,gS⟩,hQ,dA⟩
  have hf:=amn hi
  obtain⟨f,hf⟩:=hf
  rw[hf] at gS
  subst gS
  have aB:=aB.trans dA
  have nC:=LY f
  refine WA ?_
  refine xK rfl rfl rfl rfl rfl (kQ (d-1) om _ om)<|aA (ih (d-1) om om br (q+1+1) om w3 hQ) ?_
  rintro v20 w4 ⟨⟨A,pj,hA⟩,hQ,xC⟩
  subst pj
  have aB:=aB.trans xC
  have WB:=A.len
  refine WA ?_
  refine xK rfl rfl rfl rfl rfl (kQ (d-1) om _ om)<|aA (ih (d-1) om om br _ om w4 hQ) ?_
  rintro v26 w5 ⟨⟨B,Pc,hB⟩,hQ,amo⟩
  subst Pc
  have aB:=aB.trans amo
  have WC:=B.len
  refine W ?_
  exact⟨_,rfl,⟨.op f A B,by show str (((((([40]++jO f)++[32])++A.text)++[32])++B.text)++[41])=str _;rw[Ty.IH];simp,by show 1+A.n+B.n+1<=_;omega⟩,hQ.more om,aB⟩
def Bz:Ty->ai
 | .i=>[48]
 | .op false a b=>[40,112,97,105,114,32]++Bz a++[32]++Bz b++[41]
 | .op true a b=>[40,102,117,110,32,102,32,120,32]++a.text++[32]++b.text++[32]++Bz b++[41]
theorem BA:∀T:Ty,T.n<=60->(Bz T).length<=500*T.n
 | .i,_=>by simp[Bz,Ty.n]
 | .op false a b,h=>by
  simp only[Ty.n] at h⊢
  have:=BA a om
  have:=BA b om
  simp only[Bz,lA,lC,List.length_nil];omega
 | .op true a b,h=>by
  simp only[Ty.n] at h⊢
  have:=BA b om
  have:=a.len
  have:=b.len
  simp only[Bz,lA,lC,List.length_nil];omega
theorem XI (T:Ty):T.n<=60->∀(v:Value) (L:List Nat) (w:World),bB L w v T.au->bz Tryz.prog 153 [v] w λr w'=>r=str (Bz T)∧aj [] w w':=by
 induction T with
 |i=>
  intro hn v L w hv
  obtain⟨ar,nr,cr,rfl,p5,aP⟩:=cU hv
  have hK:=aj.refl [] w
  refine bS [.tmp 2] 47 Tryz.func153 rfl Lj rfl rfl ?_
  refine zr<|eH rfl λw1 aI aX dk=>?_
  have hK:=hK.ext aI
  refine W ?_
  refine zc rfl (λh1=>?_) (λh1=>?_)
  refine W ?_
  exact⟨_,rfl,rfl,hK⟩
  exact absurd h1 de
 |op f a b iha ihb=>
  intro hn v L w hv
  cases f with
  |false=>
   obtain⟨ar,nr,cr,rfl,p5,aP⟩:=cU hv
   subst p5
   have eV:1+a.n+b.n<=60:=hn
   have Gk:=BA a om
   have Fh:=BA b om
   have sM:=a.len
   have htb:=b.len
   have XJ:=a.size
   have XK:=b.size
   have Oq:(Ty.op false a b).au.ak.length=3:=rfl
   obtain⟨b0,vj,x6,ya,e0,et,_⟩:=eW aP (i:=0) om
   cases e0
   have et:fy L w _ _ [str (jO false),.slice x6 0 ya]:=et
   obtain⟨b1,eX,gA,gm,e1,bK,cI⟩:=eW aP (i:=1) om
   cases e1
   have bK:fy L w _ _ [str a.au.aw,.slice gA a.au.ak.length gm]:=bK
   have cI:bB L w (.agg #[str a.au.aw,.slice gA a.au.ak.length gm]) a.au:=cI
   obtain⟨b2,lF,iA,iw,e2,bU,dI⟩:=eW aP (i:=2) om
   cases e2
   have bU:fy L w _ _ [str b.au.aw,.slice iA b.au.ak.length iw]:=bU
   have dI:bB L w (.agg #[str b.au.aw,.slice iA b.au.ak.length iw]) b.au:=dI
   have hK:=aj.refl [] w
   refine bS [.tmp 2] 47 Tryz.func153 rfl Lj rfl rfl<|zr<|eH rfl λw1 aI aX dk=>tS aI hK et bK bU cI dI λhK et bK bU cI dI=>?_
   refine W ?_
   refine zc rfl (λh1=>?_) (λh1=>?_)
   exact absurd rfl h1
   refine WI ?_
   refine zi (i:=0) cz aL rfl rfl ((show 0<3 from om))<|W ?_
   refine zc rfl (λh2=>?_) (λh2=>?_)
   refine WZ ?_
   apply dV dj 15 [12,13,14,15,16,17,18,19,20,21,22,23,24,25,2] [[],[0],[1],[2],[3],[4],[5],[],[7],[8],[9],[10],[6,11],[12],[13]] (it [_,_,_,_,_,_,_,_,_,_,_,_,_,_,_]) de rfl
   intro wd aC
   refine VA ?_
   refine vk aC (λx w2 az=>?_) ?_
   refine zi (i:=1) cz aL rfl rfl ((show 1<3 from om)) ?_
   exact pv
   refine VA ?_
   refine vk aC (λx w2 az=>?_) ?_
   have cI:=cI.ext az
   refine aA (iha om _ _ w2 cI) ?_
   rintro _ w3 ⟨rfl,aH⟩
   have fm:=aH.size
   exact pk aH
   refine VA ?_
   refine vk aC (λx w2 az=>?_) ?_
   refine zi (i:=2) cz aL rfl rfl ((show 2<3 from om)) ?_
   exact pv
   refine VA ?_
   refine vk aC (λx w2 az=>?_) ?_
   have dI:=dI.ext az
   refine aA (ihb om _ _ w2 dI) ?_
   rintro _ w3 ⟨rfl,aH⟩
   have fm:=aH.size
   exact pk aH
   exact VZ
   intro x o3 gR
   have hK:=hK.ext gR
   change OW _ _ _ _ [] (bo (bj _ x _) (zZ 12 [_,_,_,_,_,_,_,_,_,_,_,_,_,_]++[(2,_)])) _
   refine W ?_
   exact⟨_,rfl,rfl,hK⟩
   exact absurd rfl h2
  |true=>
   obtain⟨ar,nr,cr,rfl,p5,aP⟩:=cU hv
   subst p5
   have eV:1+a.n+b.n<=60:=hn
   have Gk:=BA a om
   have Fh:=BA b om
   have sM:=a.len
   have htb:=b.len
   have XJ:=a.size
   have XK:=b.size
   have Oq:(Ty.op true a b).au.ak.length=3:=rfl
   obtain⟨b0,vj,x6,ya,e0,et,_⟩:=eW aP (i:=0) om
   cases e0
   have et:fy L w _ _ [str (jO true),.slice x6 0 ya]:=et
   obtain⟨b1,eX,gA,gm,e1,bK,cI⟩:=eW aP (i:=1) om
   cases e1
   have bK:fy L w _ _ [str a.au.aw,.slice gA a.au.ak.length gm]:=bK
   have cI:bB L w (.agg #[str a.au.aw,.slice gA a.au.ak.length gm]) a.au:=cI
   obtain⟨b2,lF,iA,iw,e2,bU,dI⟩:=eW aP (i:=2) om
   cases e2
   have bU:fy L w _ _ [str b.au.aw,.slice iA b.au.ak.length iw]:=bU
   have dI:bB L w (.agg #[str b.au.aw,.slice iA b.au.ak.length iw]) b.au:=dI
   have hK:=aj.refl [] w
   refine bS [.tmp 2] 47 Tryz.func153 rfl Lj rfl rfl<|zr<|eH rfl λw1 aI aX dk=>tS aI hK et bK bU cI dI λhK et bK bU cI dI=>?_
   refine W ?_
   refine zc rfl (λh1=>?_) (λh1=>?_)
   exact absurd rfl h1
   refine WI ?_
   refine zi (i:=0) cz aL rfl rfl ((show 0<3 from om))<|W ?_
   refine zc rfl (λh2=>?_) (λh2=>?_)
   exact absurd h2 de
   refine WZ ?_
   apply dV dj 22 [26,27,28,29,30,31,32,33,34,35,36,37,38,39,40,41,42,43,44,45,46,2] [[],[0],[1],[2],[3],[4],[5],[],[7],[8],[9],[10],[6,11],[12],[],[14],[15],[16],[17],[13,18],[19],[20]] (it [_,_,_,_,_,_,_,_,_,_,_,_,_,_,_,_,_,_,_,_,_,_]) de rfl
   intro wd aC
   refine VA ?_
   refine vk aC (λx w2 az=>?_) ?_
   refine zi (i:=1) cz aL rfl rfl ((show 1<3 from om)) ?_
   exact pv
   refine VA ?_
   refine vk aC (λx w2 az=>?_) ?_
   have cI:=cI.ext az
   refine aA (tW a.au.size a.au (lR _) a.lu.wf om (show a.text.length<=100000000 from om) _ _ w2 cI) ?_
   rintro _ w3 ⟨rfl,aH⟩
   have fm:=aH.size
   exact pk aH
   refine vk aC (λx w2 az=>?_) ?_
   refine gV rfl rfl rfl rfl (by have h9:a.au.text.length=a.text.length:=rfl;simp;omega) ?_
   exact pv
   refine vk aC (λx w2 az=>?_) ?_
   refine gV rfl rfl rfl rfl (by have h9:a.au.text.length=a.text.length:=rfl;simp;omega) ?_
   exact pv
   refine VA ?_
   refine vk aC (λx w2 az=>?_) ?_
   refine zi (i:=2) cz aL rfl rfl ((show 2<3 from om)) ?_
   exact pv
   refine VA ?_
   refine vk aC (λx w2 az=>?_) ?_
   have dI:=dI.ext az
   refine aA (tW b.au.size b.au (lR _) b.lu.wf om (show b.text.length<=100000000 from om) _ _ w2 dI) ?_
   rintro _ w3 ⟨rfl,aH⟩
   have fm:=aH.size
   exact pk aH
   refine vk aC (λx w2 az=>?_) ?_
   refine gV rfl rfl rfl rfl (by have h9:a.au.text.length=a.text.length:=rfl;have fO:b.au.text.length=b.text.length:=rfl;simp;omega) ?_
   exact pv
   refine vk aC (λx w2 az=>?_) ?_
   refine gV rfl rfl rfl rfl (by have h9:a.au.text.length=a.text.length:=rfl;have fO:b.au.text.length=b.text.length:=rfl;simp;omega) ?_
   exact pv
   refine VA ?_
   refine vk aC (λx w2 az=>?_) ?_
   refine zi (i:=2) cz aL rfl rfl ((show 2<3 from om)) ?_
   exact pv
   refine VA ?_
   refine vk aC (λx w2 az=>?_) ?_
   have dI:=dI.ext az
   refine aA (ihb om _ _ w2 dI) ?_
   rintro _ w3 ⟨rfl,aH⟩
   have fm:=aH.size
   exact pk aH
   refine vk aC (λx w2 az=>?_) ?_
   refine gV rfl rfl rfl rfl (by have h9:a.au.text.length=a.text.length:=rfl;have fO:b.au.text.length=b.text.length:=rfl;simp;omega) ?_
   exact pv
   refine vk aC (λx w2 az=>?_) ?_
   refine gV rfl rfl rfl rfl (by have h9:a.au.text.length=a.text.length:=rfl;have fO:b.au.text.length=b.text.length:=rfl;simp;omega) ?_
   exact pv
   exact VZ
   intro x o3 gR
   have hK:=hK.ext gR
   change OW _ _ _ _ [] (bo (bj _ x _) (zZ 26 [_,_,_,_,_,_,_,_,_,_,_,_,_,_,_,_,_,_,_,_,_]++[(2,_)])) _
   refine W ?_
   exact⟨_,rfl,rfl,hK⟩
def Pw:List ai:=[[40,43,32,120,56,32,40,99,97,108,108,32,102,56,32,40,45,32,120,56,32,49,41,41,41],[40,99,97,108,108,32,102,56,32,40,45,32,120,56,32,49,41,41],[40,42,32,120,56,32,40,99,97,108,108,32,102,56,32,40,45,32,120,56,32,49,41,41,41],[40,45,32,48,32,40,99,97,108,108,32,102,56,32,40,45,32,120,56,32,49,41,41,41]]
theorem amq (br q:Nat) (hq:q<=900000000) (w:World) (h:dD w br q):
  bz Tryz.prog 84 [.pointer (some ⟨br,0,none⟩)] w λr w'=>(∃x,r=str x∧x.length<=200)∧dD w' br (q+3)∧aj [br] w w':=by
 have hQ:=h
 have aB:=aj.refl [br] w
 have lS:=h.lt
 refine bS [.tmp 2] 20 Tryz.func84 rfl abd rfl rfl ?_
 refine W ?_
 refine yj bh bf rfl rfl rfl rfl rfl rfl λw1 aI cg dk=>bI aI hQ aB λhQ aB=>?_
 refine aA (mi Pw de de br q om _ w1 hQ (aJ.dK Pw cg (λhx=>by simp at hx;omega) de)) ?_
 rintro l9 w2 ⟨⟨x1,hi,gS⟩,hQ,dA⟩
 subst gS
 have aB:=aB.trans dA
 have fl:=(show∀x,x∈Pw->x.length<=30 from by decide) _ hi
 have lS:=hQ.lt
 clear cg
 refine W ?_
 refine pO bh bf rfl rfl rfl rfl rfl λw3 aH dh gJ=>bI aH hQ aB λhQ aB=>?_
 refine aA (mi [[48],[49],[53]] de de br (q+1) om _ w3 hQ (aJ.dK [[48],[49],[53]] dh (λhx=>by simp at hx;omega))) ?_
 rintro A7 w4 ⟨⟨x2,hj,EL⟩,hQ,jJ⟩
 subst EL
 have aB:=aB.trans jJ
 have iy:=(show∀x,x∈([[48],[49],[53]]:List ai)->x.length<=30 from by decide) _ hj
 clear dh
 refine W ?_
 refine aA (lQ 7 de de br (q+2) om w4 hQ) ?_
 rintro CK w5 ⟨⟨z,Bn,hz⟩,hQ,mJ⟩
 subst Bn
 have aB:=aB.trans mJ
 have Fy:=sN (n:=z) om
 refine aA (ir (z+1) z om om w5) ?_
 rintro _ w6 ⟨rfl,bN⟩
 have od:=bN.size
 refine bI bN hQ aB λhQ aB=>?_
 refine W ?_
 exact⟨_,rfl,⟨_,rfl,by simp;omega⟩,hQ,aB⟩
theorem XL (s:ai) (w:World):bz Tryz.prog 125 [str s] w λr w'=>(∃x ok,r= .tuple #[str x,.bool ok]∧x.length<=8000)∧aj [] w w':=by
 have hK:=aj.refl [] w
 refine bS [.tmp 2,.tmp 3] 26 Tryz.func125 rfl Zx rfl rfl ?_
 refine W ?_
 refine aA (AH s [] w sm) ?_
 rintro v1 w1 ⟨fX,aI⟩
 have cV:=aI.size
 have hK:=hK.ext aI
 have eS:=fX
 obtain⟨t,tv,e9,ht,hp⟩:=eS
 subst e9
 have bZ:=cU ht
 obtain⟨pa,pn,pc,e9,eP,_⟩:=bZ
 subst e9
 subst eP
 have mG:=hK.size
 refine W ?_
 refine dx aL rfl rfl rfl λw2 az aG gQ=>?_
 have da:=az
 refine cJ (vs:=[str t.aw,.slice pa t.ak.length pc]) aL rfl rfl rfl aG rfl λw3 aH aG df=>?_
 have da:=da.since aH (λx hx=>.inr (by simp at hx;omega))
 refine bI da ht hK λht hK=>?_
 refine W ?_
 refine xM (t:=13) rfl (λh1=>?_) (λh1=>?_)
 replace h1:=jj h1
 refine zs<|zs<|zs<|zp rfl<|zm<|Fu (t:=18) (b:=true) rfl<|zs<|zs<|zs<|zs<|zp rfl<|aZ<|zc rfl (λh2=>?_) (λh2=>?_)
 refine W ?_
 exact⟨_,rfl,⟨[],false,rfl,sm⟩,hK⟩
 simp at h2
 replace h1:=jj h1
 have ba:(bA s).isSome=true:=(by simpa using h1)
 have cm:=DV hp ba
 refine W ?_
 refine aA (A1 t om cm.1 _ _ w3 ht) ?_
 rintro _ w4 ⟨rfl,aO⟩
 have fE:=aO.size
 refine cN aO hK aG ht λhK aG ht=>?_
 refine W ?_
 refine xM (t:=18) rfl (λh3=>?_) (λh3=>?_)
 replace h3:=jj h3
 refine W ?_
 refine zc rfl (λh4=>?_) (λh4=>?_)
 refine W ?_
 exact⟨_,rfl,⟨[],false,rfl,sm⟩,hK⟩
 simp at h4
 replace h3:=jj h3
 have eR:jP t=true:=(by simpa using h3)
 have hu:=(zX cm.1).1 eR
 obtain⟨T,yl,HW⟩:=hu
 have pQ:=ht
 rw[yl] at pQ
 refine W ?_
 refine aA (XI T om _ _ w4 (ht.eq yl)) ?_
 rintro _ w5 ⟨rfl,aN⟩
 have l3:=aN.size
 refine cN aN hK aG ht λhK aG ht=>?_
 have tu:=BA T om
 refine aA (Ny _ w5) ?_
 rintro _ w6 ⟨rfl,bN⟩
 have od:=bN.size
 refine cN bN hK aG ht λhK aG ht=>?_
 refine W ?_
 refine zc rfl (λh5=>?_) (λh5=>?_)
 refine W ?_
 exact⟨_,rfl,⟨[],false,rfl,sm⟩,hK⟩
 refine W ?_
 refine aA (XI T om _ _ w6 (ht.eq yl)) ?_
 rintro _ w7 ⟨rfl,bW⟩
 have lf:=bW.size
 have hK:=hK.ext bW
 refine W ?_
 exact⟨_,rfl,⟨_,true,rfl,om⟩,hK⟩
theorem amr:sj Tryz.prog 86=true:=by kernel_rfl
theorem KL (ns ts:List ai) (nm kd:ai) (fl:ns.length<100000) (iy:ts.length<100000) (v1 v2:Value) (L:List Nat) (w:World) (hL:∀x,x∈L->x<w.heap.size) (h1:bc L w v1 ns) (h2:bc L w v2 ts):
  bz Tryz.prog 83 [.agg #[v1,v2],str nm,str kd] w λr w'=>(∃u1 u2,r= .agg #[u1,u2]∧bc L w' u1 (ns++[nm])∧bc L w' u2 (ts++[kd]))∧aj [] w w':=by
 obtain⟨a1,n1,c1,rfl,_⟩:=dJ h1
 obtain⟨a2,n2,c2,rfl,_⟩:=dJ h2
 have hK:=aj.refl [] w
 refine kW [.cell 6 86] 18 Tryz.func83 rfl abc rfl rfl rfl ?_
 refine zr<|eH rfl λw1 aI cQ dk=>cN aI hK h1 h2 λhK h1 h2=>?_
 refine dx BP rfl rfl rfl λw2 az bL kI=>?_
 have hK:=hK.ext az
 have h1:=(bc.fresh h1 (L':=w1.heap.size::L) (λx hx=>by rcases mC.1 hx with h9|h9;(·right;omega);(·exact .inl h9))).ext az
 have h2:=(bc.fresh h2 (L':=w1.heap.size::L) (λx hx=>by rcases mC.1 hx with h9|h9;(·right;omega);(·exact .inl h9))).ext az
 have KM:∀x,x∈w1.heap.size::L->x<w2.heap.size:=(λx hx=>by rcases mC.1 hx with h9|h9;(·omega);(·have:=hL x h9;omega))
 have cQ:=cQ.ext az
 have iZ:=hK.size
 refine W ?_
 apply uZ dj 11 (rA 7 11) (rA 7 11) [[],[0],[],[2],[1,3],[],[5],[],[7],[6,8],[4,9]] [It.v _,It.v _,It.v _,It.p (fun(v:Value) (ww:World)=>bc (w1.heap.size::L) ww v [nm]),It.p (fun(v:Value) (ww:World)=>bc (w1.heap.size::L) ww v (ns++[nm])),It.v _,It.v _,It.v _,It.p (fun(v:Value) (ww:World)=>bc (w1.heap.size::L) ww v [kd]),It.p (fun(v:Value) (ww:World)=>bc (w1.heap.size::L) ww v (ts++[kd])),It.p (fun(v:Value) (ww:World)=>∃b1 m1 d1 b2 m2 d2,v= .agg #[.slice b1 m1 d1,.slice b2 m2 d2]∧bc (w1.heap.size::L) ww (.slice b1 m1 d1) (ns++[nm])∧bc (w1.heap.size::L) ww (.slice b2 m2 d2) (ts++[kd]))] de (by exact⟨λv w w' h k=>bQ.ext h k,λv w w' h k=>bQ.ext h k,λv w w' h k=>bQ.ext h k,λv w w' h k=>bQ.ext h k,λv w w' ⟨b1,m1,d1,b2,m2,d2,e,g1,g2⟩ k=>⟨b1,m1,d1,b2,m2,d2,e,bQ.ext g1 k,bQ.ext g2 k⟩,trivial⟩)
 intro wd aC
 refine VA ?_
 refine vk aC (λx w3 aH=>?_) ?_
 refine fc bh bf rfl rfl λw4 aO qp gQ=>?_
 exact pf aO ((aJ.dK [nm] qp (λhx=>by have:=KM _ hx;have:=aH.size;omega)))
 refine vk aC (λx w3 aH=>?_) ?_
 have h1:=h1.ext aH
 intro v3 d3
 refine aA (ua ns [nm] so _ _ (w1.heap.size::L) w3 h1 d3 (λx hx=>by have:=KM x hx;have:=aH.size;omega)) ?_
 rintro v4 w4 ⟨jR,aO⟩
 have fE:=aO.size
 have eS:=jR
 exact pf aO eS
 refine VA ?_
 refine vk aC (λx w3 aH=>?_) ?_
 refine fc bh bf rfl rfl λw4 aO EB gQ=>?_
 exact pf aO ((aJ.dK [kd] EB (λhx=>by have:=KM _ hx;have:=aH.size;omega)))
 refine vk aC (λx w3 aH=>?_) ?_
 have h2:=h2.ext aH
 intro v8 d8
 refine aA (ua ts [kd] so _ _ (w1.heap.size::L) w3 h2 d8 (λx hx=>by have:=KM x hx;have:=aH.size;omega)) ?_
 rintro v4 w4 ⟨jR,aO⟩
 have fE:=aO.size
 have eS:=jR
 exact pf aO eS
 refine vk aC (λx w3 aH=>?_) ?_
 intro v4 d4
 intro v9 d9
 have bK:=dJ d4
 obtain⟨b1,m1,d1,e1,_⟩:=bK
 subst e1
 have bU:=dJ d9
 obtain⟨b2,m2,d2,e2,_⟩:=bU
 subst e2
 refine js (Ln _ _ _ _ _ _ _) rfl rfl ?_
 exact pf (aj.refl _ _) (⟨_,_,_,_,_,_,rfl,d4,d9⟩)
 exact trivial
 intro x qw Cl
 intro v3 d3
 intro v4 d4
 intro v8 d8
 intro v9 d9
 intro v10 d10
 refine bI Cl hK bL λhK bL=>?_
 change OW _ _ _ _ _ (bo (bj _ x _) (zZ 7 [_,_,_,_,_,_,_,_,_,_,_])) _
 obtain⟨b1,m1,d1,b2,m2,d2,fo,g1,g2⟩:=d10
 subst fo
 refine cJ (vs:=[.slice b1 m1 d1,.slice b2 m2 d2]) BP rfl rfl rfl bL rfl λoZ jy bL df=>?_
 have hK:=hK.since jy (λx hx=>.inr (by simp at hx;omega))
 have g1:bc L oZ _ (ns++[nm]):=(bQ.aD g1 jy sm).fresh (λx hx=>.inl (by simp[hx]))
 have g2:bc L oZ _ (ts++[kd]):=(bQ.aD g2 jy sm).fresh (λx hx=>.inl (by simp[hx]))
 refine W ?_
 exact⟨[_],fZ amr BP rfl bL rfl,⟨_,_,rfl,g1,g2⟩,hK⟩
def Fi:List ai:=[[48],[49],[50],[51],[55],[45,49],[52,48,48],[45,57,57,57]]
theorem Px (ns ts:List ai) (want:ai) (hl:ns.length=ts.length) (Cp:ns.length<=1000) (hs:∀x,x∈ns->x.length<=8000) (br q:Nat) (hq:q<=900000000) (v1 v2:Value) (w:World) (h:dD w br q) (cv:bc [br] w v1 ns) (ck:bc [br] w v2 ts):
  bz Tryz.prog 82 [.pointer (some ⟨br,0,none⟩),.agg #[v1,v2],str want] w λr w'=>(∃x,r=str x∧x.length<=8000)∧dD w' br (q+2)∧aj [br] w w':=by
 obtain⟨a1,n1,c1,rfl,fx⟩:=dJ cv
 obtain⟨a2,n2,c2,rfl,eV⟩:=dJ ck
 subst fx
 have iq:=h.lt
 have hK:=aj.refl [] w
 refine bS [.tmp 6] 67 Tryz.func82 rfl abb rfl rfl ?_
 refine zr<|eH rfl λw1 aI aG dk=>ie aI cv ck hK h λcv ck hK h=>?_
 refine zA<|aZ<|zr<|fR bh bf λw2 az iF vi=>?_
 have aI:=az
 have ams:=iF.kM
 have ari:=hK.size
 refine W ?_
 refine eA (λq9:Nat×Value×Option Nat=>[(0,.pointer (some ⟨br,0,none⟩)),(2,str want),(4,.pointer (some ⟨w.heap.size,0,none⟩)),(7,q9.2.1),(8,.int .i64 (q9.1:Int))]) (λq9 w'=>aj [] w1 w'∧q9.1<=ns.length∧∃xs,cG w' 9 q9.2.1 q9.2.2 xs∧(∀x,x∈xs->x∈ns)∧xs.length<=q9.1∧∀b,q9.2.2=some b->w1.heap.size<=b) (λq9=>ns.length-q9.1) ((0,.slice (some ⟨w1.heap.size,0,none⟩) 0 0,some w1.heap.size)) (⟨rfl,rfl,rfl,rfl,rfl⟩) (⟨aI,sm,[],ams,sm,sm,by intro b hb;cases hb;exact lR _⟩) λgg w3 e3 hI=>?_
 obtain⟨k,vf,gf⟩:=gg
 obtain⟨da,hk,xs,hO,uA,mm,fG⟩:=hI
 dsimp only at hk hO mm fG
 refine la da cv ck hK h aG λcv ck hK h aG=>?_
 refine W ?_
 refine zc rfl (λh1=>?_) (λh1=>?_)
 have az:k<ns.length:=(by simp at h1;omega)
 have ey:=nN cv az
 obtain⟨b9,uy,e9,jr⟩:=ey
 cases e9
 have rO:=List.mem_of_getElem? (km az)
 refine WZ ?_
 apply dV dj 12 [19,20,21,22,23,24,25,26,27,28,29,30] [[],[0],[],[2],[],[4],[],[5,6],[7],[1,3,8],[],[9,10]] (it [_,_,_,_,_,_,_,_,_,_,_,_]) de rfl
 intro wd aC
 refine vc (λ_ _ _=>WZ pv) ?_
 refine vk aC (λx w4 aO=>?_) ?_
 have aG:=aG.ext aO
 refine WZ ?_
 exact pv
 refine vc (λ_ _ _=>WZ pv) ?_
 refine vk aC (λx w4 aO=>?_) ?_
 have aG:=aG.ext aO
 refine WZ ?_
 exact pv
 refine vc (λ_ _ _=>WZ pv) ?_
 refine vk aC (λx w4 aO=>?_) ?_
 have aG:=aG.ext aO
 refine WZ ?_
 exact pv
 refine vc (λ_ _ _=>WZ pv) ?_
 refine VA ?_
 refine vk aC (λx w4 aO=>?_) ?_
 refine bI aO cv ck λcv ck=>?_
 refine aA (GS ns ts hl om (bX ns k) _ _ _ _ w4 cv ck) ?_
 rintro _ w5 ⟨rfl,aN⟩
 have l3:=aN.size
 exact pk aN
 exact VZ
 intro x oZ jy
 refine ie jy aG hO da jr λaG hO da jr=>?_
 change OW _ _ _ _ [] (bo (bj _ x _) (zZ 19 [_,_,_,_,_,_,_,_,_,_,_,_])) _
 refine aZ<|zc rfl (λh2=>?_) (λh2=>?_)
 refine WI ?_
 refine zi bh bf rfl rfl az<|W ?_
 refine fc bh bf rfl rfl λo4 iX Ei ae0=>bI iX hO da λhO da=>?_
 refine rW bh bf rfl rfl rfl rfl rfl rfl hO Ei om λv9 g9 qu cZ rM eZ=>?_
 have XM:=da.size
 have da:=da.since rM (λx hx=>.inr (fG x (by simpa using hx)))
 have arj:=da.size
 refine WA ?_
 refine mX rfl rfl rfl rfl rfl (kQ (k+1) om _ om)<|zA<|aZ ?_
 exact⟨(k+1,v9,g9),⟨rfl,rfl,rfl,rfl,rfl⟩,⟨da,by show k+1<=_;omega,xs++[bX ns k],cZ,λx hx=>by rcases mA.1 hx with h9|h9;(·exact uA x h9);(·simp only[List.mem_singleton] at h9;rw[h9];exact rO),by show(xs++[bX ns k]).length<=k+1;rw[lA];simp;omega,λb hb=>by rcases eZ with h9|h9;(·exact fG b (h9.symm.trans hb));(·rw[h9] at hb;cases hb;omega)⟩,by show ns.length-(k+1)<ns.length-k;omega⟩
 refine gY<|kH<|zm<|mX rfl rfl rfl rfl rfl (kQ (k+1) om _ om)<|zA<|aZ ?_
 exact⟨(k+1,_,gf),⟨rfl,rfl,rfl,rfl,rfl⟩,⟨da,by show k+1<=_;omega,xs,hO,uA,by show xs.length<=k+1;omega,fG⟩,by show ns.length-(k+1)<ns.length-k;omega⟩
 have bZ:=jS hO
 obtain⟨af,cf,ef⟩:=bZ
 subst ef
 have aB:=hK.mono (L':=[br]) sm
 have amt:=hK.size
 have EE:∀b,gf=some b->w.heap.size<=b:=(λb hb=>by have:=fG b hb;omega)
 refine W ?_
 refine xM (t:=42) rfl (λh3=>?_) (λh3=>?_)
 replace h3:=jj h3
 have j8:0<xs.length:=(by simp at h3;omega)
 refine zm<|aA (lQ 4 de de br q om w3 h) ?_
 rintro v44 w4 ⟨⟨z,e44,hz⟩,h,iX⟩
 subst e44
 have aB:=aB.trans iX
 have hO:=hO.aF iX (λb hb aU=>by have:=EE b hb;simp at aU;omega)
 have amt:=aB.size
 refine W ?_
 refine zc rfl (λh4=>?_) (λh4=>?_)
 refine W ?_
 refine aA (lQ xs.length j8 om br (q+1) om w4 h) ?_
 rintro v51 w5 ⟨⟨z2,O9,dC⟩,h,kK⟩
 subst O9
 have aB:=aB.trans kK
 have hO:=hO.aF kK (λb hb aU=>by have:=EE b hb;simp at aU;omega)
 have ey:=nN hO.rs dC
 obtain⟨b9,uy,e9,jr⟩:=ey
 cases e9
 have rO:=uA _ (List.mem_of_getElem? (km dC))
 refine zi bh bf rfl rfl dC<|W ?_
 exact⟨_,rfl,⟨_,rfl,hs _ rO⟩,h,aB⟩
 refine W ?_
 refine zc rfl (λh5=>?_) (λh5=>?_)
 refine zr<|zm<|Uc bh bf rfl rfl rfl rfl rfl rfl rfl rfl rfl rfl λw5 aN Py ig=>bI aN h aB λh aB=>?_
 refine aA (mi Fi de de br (q+1) om _ w5 h (aJ.dK Fi Py (λhx=>by simp at hx;omega) de)) ?_
 rintro N8 w6 ⟨⟨x1,ik,E9⟩,h,Fe⟩
 subst E9
 have aB:=(aB).trans Fe
 have fl:=(show∀x,x∈Fi->x.length<=8000 from by decide) _ ik
 refine W ?_
 exact⟨_,rfl,⟨x1,rfl,fl⟩,h.more om,aB⟩
 refine gY<|zr<|zm<|aA (XL want w4) ?_
 rintro v5 w5 ⟨sI,aN⟩
 have l3:=aN.size
 refine bI aN h aB λh aB=>?_
 have eS:=sI
 obtain⟨x1,ok1,HU,fl⟩:=eS
 subst HU
 refine W ?_
 refine zc rfl (λh6=>?_) (λh6=>?_)
 refine W ?_
 exact⟨_,rfl,⟨[48],rfl,by decide⟩,h.more om,aB⟩
 refine W ?_
 exact⟨_,rfl,⟨x1,rfl,fl⟩,h.more om,aB⟩
 replace h3:=jj h3
 have j8:xs.length=0:=om
 refine W ?_
 refine zc rfl (λh7=>?_) (λh7=>?_)
 simp at h7
 refine W ?_
 refine zc rfl (λh8=>?_) (λh8=>?_)
 refine zr<|zm<|Uc bh bf rfl rfl rfl rfl rfl rfl rfl rfl rfl rfl λw4 aO Py gQ=>bI aO hK h λhK h=>?_
 refine aA (mi Fi de de br q om _ w4 h (aJ.dK Fi Py (λhx=>by simp at hx;omega) de)) ?_
 rintro N8 w5 ⟨⟨x1,ik,E9⟩,h,Fe⟩
 subst E9
 have aB:=((hK.mono (L':=[br]) sm)).trans Fe
 have fl:=(show∀x,x∈Fi->x.length<=8000 from by decide) _ ik
 refine W ?_
 exact⟨_,rfl,⟨x1,rfl,fl⟩,h.more om,aB⟩
 refine gY<|zr<|zm<|aA (XL want w3) ?_
 rintro v4 w4 ⟨jR,aO⟩
 have fE:=aO.size
 refine bI aO hK h λhK h=>?_
 have eS:=jR
 obtain⟨x1,ok1,HU,fl⟩:=eS
 subst HU
 refine W ?_
 refine zc rfl (λh9=>?_) (λh9=>?_)
 refine W ?_
 exact⟨_,rfl,⟨[48],rfl,by decide⟩,h.more om,(hK.mono (L':=[br]) sm)⟩
 refine W ?_
 exact⟨_,rfl,⟨x1,rfl,fl⟩,h.more om,(hK.mono (L':=[br]) sm)⟩
def Pz:List ai:=[[97],[98],[99],[120,49],[121,48]]
def PA:List ai:=[[102],[103],[102,49]]
def PB:List ai:=[[120],[122],[120,50]]
def KN:List ai:=[[43],[45],[42]]
def H2 (d P:Nat):Prop:=∀(ns ts:List ai) (want:ai) (br q:Nat) (v1 v2:Value) (w:World),ns.length=ts.length->ns.length+2*d<=100->(∀x,x∈ns->x.length<=8000)->want.length+100*d<=26000->q+20*P<=800000000->dD w br q->bc [br] w v1 ns->bc [br] w v2 ts->
  bz Tryz.prog 51 [.pointer (some ⟨br,0,none⟩),.agg #[v1,v2],str want,.int .i64 (d:Int)] w λr w'=>(∃x,r=str x∧x.length<=100000*P)∧dD w' br (q+20*P)∧aj [br] w w'
theorem KO {ns:List ai} (h:∀x,x∈ns->x.length<=8000) (hx:x.length<=8000):∀y,y∈ns++[x]->y.length<=8000:=λy hy=>by
 rcases mA.1 hy with h9|h9
 ·exact h y h9
 ·simp only[List.mem_singleton] at h9;rw[h9];exact hx
theorem XN {s sg:ai} {o:Option (Ty×Ty)} (h:Cz s sg o):(sQ o).length<=100∧(yt o).length<=100:=by
 cases o with
 |none=>exact⟨by decide,by decide⟩
 |some p=>
  obtain⟨g,_,_,h3⟩:=h
  have e:(Ty.op g p.1 p.2).n=1+p.1.n+p.2.n:=rfl
  have h1:=p.1.len
  have h2:=p.2.len
  exact⟨by show p.1.text.length<=100;omega,by show p.2.text.length<=100;omega⟩
def BuP (d P:Nat):Prop:=∀(ns ts:List ai) (want:ai) (br q:Nat) (v1 v2:Value) (w:World),ns.length=ts.length->ns.length+2*(d+1)<=100->(∀x,x∈ns->x.length<=8000)->want.length+100*(d+1)<=26000->q+40*P+20<=800000000->dD w br q->bc [br] w v1 ns->bc [br] w v2 ts->
  bz Tryz.prog 85 [.pointer (some ⟨br,0,none⟩),.agg #[v1,v2],str want,.int .i64 ((d+1:Nat):Int)] w λr w'=>(∃x,r=str x∧x.length<=200000*P+30000)∧dD w' br (q+40*P+10)∧aj [br] w w'
theorem amx (d P:Nat) (hd:d<=10) (hP:1<=P) (XO:P<=1000000) (ih:H2 d P):BuP d P:=by
 intro ns ts want br q v1 v2 w hl Cp hs hw hq h cv ck
 obtain⟨a1,n1,c1,rfl,fx⟩:=dJ cv
 obtain⟨a2,n2,c2,rfl,eV⟩:=dJ ck
 subst fx
 subst eV
 have iq:=h.lt
 have hk:=aj.refl [br] w
 refine bS [.tmp 8] 119 Tryz.func85 rfl abe rfl rfl ?_
 refine zr<|eH rfl λw1 aI cg dk=>ie aI hk h cv ck λhk h cv ck=>?_
 refine W ?_
 have cg:dM [br] w1 w.heap.size _ _:=⟨cg,by simp;omega⟩
 refine aA (UO want w1) ?_
 rintro v2 w2 ⟨ij,az⟩
 have dm:=az.size
 refine la az hk h cv ck cg λhk h cv ck cg=>?_
 obtain⟨o1,xu,rfl⟩:=ij
 have hAB:=XN xu
 refine W ?_
 refine aA (UN want w2) ?_
 rintro v3 w3 ⟨ko,aH⟩
 have fm:=aH.size
 refine la aH hk h cv ck cg λhk h cv ck cg=>?_
 obtain⟨o2,vJ,rfl⟩:=ko
 have hCE:=XN vJ
 refine WA ?_
 refine xK rfl rfl rfl rfl rfl (kQ d om _ om)<|W ?_
 refine zc rfl (λh1=>?_) (λh1=>?_)
 refine WZ ?_
 apply jF dj ([br]) 14 (rA 35 14) (rA 35 14) [[],[],[],[],(rA 0 4),[4],[5],[],[],[],[],(rA 7 4),[6,11],[12]] [Ie.v _,Ie.v _,Ie.v _,Ie.v _,Ie.q 0 (fun(v:Value)=>∃x,v=str x∧x.length<=100000*P),Ie.p (fun(G:List Nat) (v:Value) (ww:World)=>∃x,v=str x∧x.length<=100000*P+100),Ie.p (fun(G:List Nat) (v:Value) (ww:World)=>∃x,v=str x∧x.length<=100000*P+200),Ie.v _,Ie.v _,Ie.v _,Ie.v _,Ie.q 1 (fun(v:Value)=>∃x,v=str x∧x.length<=100000*P),Ie.p (fun(G:List Nat) (v:Value) (ww:World)=>∃x,v=str x∧x.length<=200000*P+300),Ie.p (fun(G:List Nat) (v:Value) (ww:World)=>∃x,v=str x∧x.length<=200000*P+400)] [4,11] [fun(G:List Nat) (vs:List Value) (ww:World)=>G=[br]∧aj [br] w3 ww∧dD ww br q,fun(G:List Nat) (vs:List Value) (ww:World)=>G=[br]∧aj [br] w3 ww∧dD ww br (q+20*P),fun(G:List Nat) (vs:List Value) (ww:World)=>G=[br]∧aj [br] w3 ww∧dD ww br (q+40*P)] de rfl ((λz hz=>by simp at hz;subst hz;exact h.lt)) (by exact⟨λG v w G' w' h k=>h,λG v w G' w' h k=>h,λG v w G' w' h k=>h,λG v w G' w' h k=>h,trivial⟩) (by exact⟨λG vs w w' ⟨h1,h2,h3⟩ k=>⟨h1,h2.ext k,h3.ext k⟩,λG vs w w' ⟨h1,h2,h3⟩ k=>⟨h1,h2.ext k,h3.ext k⟩,λG vs w w' ⟨h1,h2,h3⟩ k=>⟨h1,h2.ext k,h3.ext k⟩,trivial⟩) (⟨rfl,aj.refl _ _,h⟩)
 refine FA ?_
 refine ve 0 (λx w4 G4 aS ze DA hJ hlen=>?_) ?_
 have aW:=jg hlen
 subst aW
 have cv:=cv.go ze;have ck:=ck.go ze
 obtain⟨bO,bP,h⟩:=hJ
 subst bO
 refine aA (ih ns ts (sQ o1) br q _ _ w4 hl om hs om om h cv ck) ?_
 rintro v9 w5 ⟨⟨x9,e9,iB⟩,h,aB⟩
 subst e9
 exact fq ([br]) (Fr.of aB sm) ((λz hz=>lL (DA z hz) aB.size)) (⟨rfl,bP.trans aB,h.more om⟩) (⟨_,rfl,iB⟩)
 refine vf (λx w4 G4 aS ze DA=>?_) ?_
 intro v4 PC d4
 obtain⟨y4,e4,Ci⟩:=d4
 subst e4
 refine gV rfl rfl rfl rfl (by(try simp);omega) ?_
 exact ff (aj.refl _ _) (⟨_,rfl,by simp;omega⟩)
 refine vf (λx w4 G4 aS ze DA=>?_) ?_
 intro v5 d5
 obtain⟨y5,e5,hl5⟩:=d5
 subst e5
 refine gV rfl rfl rfl rfl (by(try simp);omega) ?_
 exact ff (aj.refl _ _) (⟨_,rfl,by simp;omega⟩)
 refine FA ?_
 refine ve 1 (λx w4 G4 aS ze DA hJ hlen=>?_) ?_
 have aQ:=jh hlen
 obtain⟨q0,aW⟩:=aQ
 subst aW
 have cv:=cv.go ze;have ck:=ck.go ze
 obtain⟨bO,bP,h⟩:=hJ
 subst bO
 refine aA (ih ns ts (yt o1) br (q+20*P) _ _ w4 hl om hs om om h cv ck) ?_
 rintro v9 w5 ⟨⟨x9,e9,iB⟩,h,aB⟩
 subst e9
 exact fq ([br]) (Fr.of aB sm) ((λz hz=>lL (DA z hz) aB.size)) (⟨rfl,bP.trans aB,h.more om⟩) (⟨_,rfl,iB⟩)
 refine vf (λx w4 G4 aS ze DA=>?_) ?_
 intro v6 d6
 intro v11 amz d11
 obtain⟨y6,e6,hl6⟩:=d6
 subst e6
 obtain⟨XP,C1,XQ⟩:=d11
 subst C1
 refine gV rfl rfl rfl rfl (by(try simp);omega) ?_
 exact ff (aj.refl _ _) (⟨_,rfl,by simp;omega⟩)
 refine vf (λx w4 G4 aS ze DA=>?_) ?_
 intro v12 d12
 obtain⟨y12,qH,amB⟩:=d12
 subst qH
 refine gV rfl rfl rfl rfl (by(try simp);omega) ?_
 exact ff (aj.refl _ _) (⟨_,rfl,by simp;omega⟩)
 exact trivial
 intro x oZ G43 aS arp arq hJ hlen
 have aQ:=k9 hlen
 obtain⟨q0,q1,aW⟩:=aQ
 subst aW
 intro v4 PC d4
 intro v5 d5
 intro v6 d6
 intro v11 amz d11
 intro v12 d12
 intro Hk d13
 change OW _ _ _ _ _ (bo (bj _ x _) (zZ 35 [_,_,_,_,_,_,_,_,_,_,_,_,_,_])) _
 obtain⟨bO,bP,h⟩:=hJ
 subst bO
 obtain⟨yz,ez,Fc⟩:=d13
 subst ez
 refine W ?_
 exact⟨_,rfl,⟨yz,rfl,om⟩,h.more om,hk.trans bP⟩
 refine W ?_
 refine zc rfl (λh2=>?_) (λh2=>?_)
 refine zr<|zm<|pO bh bf rfl rfl rfl rfl rfl λw4 aO amC gQ=>la aO hk h cv ck cg λhk h cv ck cg=>?_
 have lS:=h.lt
 refine aA (mi PA de de br q om _ w4 h (aJ.dK PA amC (λhx=>by simp at hx;omega) de)) ?_
 rintro l9 w5 ⟨⟨fn,amD,gS⟩,h,aB⟩
 subst gS
 have ars:=(show∀x,x∈PA->x.length<=30 from by decide) _ amD
 have hk:=hk.trans aB
 have cv:=cv.aD aB sm;have ck:=ck.aD aB sm;have cg:=cg.aD aB sm
 have lS:=h.lt
 refine W ?_
 refine pO bh bf rfl rfl rfl rfl rfl λw6 bN CD kI=>la bN hk h cv ck cg λhk h cv ck cg=>?_
 refine aA (mi PB de de br (q+1) om _ w6 h (aJ.dK PB CD (λhx=>by simp at hx;omega) de)) ?_
 rintro l9 w7 ⟨⟨xn,amE,gS⟩,h,aB⟩
 subst gS
 have art:=(show∀x,x∈PB->x.length<=30 from by decide) _ amE
 have hk:=hk.trans aB
 have cv:=cv.aD aB sm;have ck:=ck.aD aB sm;have cg:=cg.aD aB sm
 have lS:=h.lt
 refine W ?_
 refine aA (KL ns ts xn (sQ o2) om om _ _ [br] w7 (λx hx=>by simp at hx;subst hx;exact h.lt) cv ck) ?_
 rintro v8 w8 ⟨Hh,cE⟩
 have A4:=cE.size
 refine la cE hk h cv ck cg λhk h cv ck cg=>?_
 obtain⟨u1,u2,e9,ry,rz⟩:=Hh
 subst e9
 have bZ:=dJ ry
 obtain⟨b1,m1,d1,e1,_⟩:=bZ
 subst e1
 have bZ:=dJ rz
 obtain⟨b2,m2,d2,e2,_⟩:=bZ
 subst e2
 refine dx BP rfl rfl rfl λw9 aB jW Ob=>?_
 have hsb:=h.lt
 have aru:br<w8.heap.size:=hsb
 have arv:w.heap.size<w8.heap.size:=cg.lt
 have arw:w.heap.size<=w8.heap.size:=hk.size
 refine bI aB hk h λhk h=>?_
 have cv:=(bc.fresh cv (L':=w8.heap.size::[br]) (λx hx=>by rcases mC.1 hx with h9|h9;(·right;omega);(·exact .inl h9))).ext aB
 have ck:=(bc.fresh ck (L':=w8.heap.size::[br]) (λx hx=>by rcases mC.1 hx with h9|h9;(·right;omega);(·exact .inl h9))).ext aB
 have ry:=(bc.fresh ry (L':=w8.heap.size::[br]) (λx hx=>by rcases mC.1 hx with h9|h9;(·right;omega);(·exact .inl h9))).ext aB
 have rz:=(bc.fresh rz (L':=w8.heap.size::[br]) (λx hx=>by rcases mC.1 hx with h9|h9;(·right;omega);(·exact .inl h9))).ext aB
 have cg:=(cg.ext aB)
 refine cJ (vs:=[.slice b1 m1 d1,.slice b2 m2 d2]) BP rfl rfl rfl jW rfl λcu cB jW df=>?_
 have hk:=hk.since cB (λx hx=>.inr (by simp at hx;omega))
 have h:=h.aF cB (λx hx=>by simp at hx;omega)
 have cv:=bc.aD cv cB sm
 have ck:=bc.aD ck cB sm
 have ry:=bc.aD ry cB sm
 have rz:=bc.aD rz cB sm
 have cg:dM [br] cu _ _ _:=⟨cg.gX.aF cB so,cg.out⟩
 refine W ?_
 refine aA (lQ 6 de de br (q+2) om cu h) ?_
 rintro v9 eD ⟨⟨z,e9,hz⟩,h,aB⟩
 subst e9
 have ry:=bc.aD ry aB sm
 have rz:=bc.aD rz aB sm
 have jW:=jW.aF aB so
 have hk:=hk.trans aB
 have cv:=cv.aD aB sm;have ck:=ck.aD aB sm;have cg:=cg.aD aB sm
 have lS:=h.lt
 refine W ?_
 refine ix (λg:List ai×List ai×Value×Value=>[(0,.pointer (some ⟨br,0,none⟩)),(12,str (sQ o2)),(13,str (yt o2)),(15,.int .i64 (d:Int)),(16,str fn),(17,str xn),(18,.pointer (some ⟨w8.heap.size,0,none⟩))]) (λg ww=>aj [br] w ww∧dD ww br (q+3)∧aJ ww w8.heap.size [g.2.2.1,g.2.2.2].toArray 86∧bc [br] ww g.2.2.1 g.1∧bc [br] ww g.2.2.2 g.2.1∧g.1.length=g.2.1.length∧g.1.length+2*d<=100∧∀x,x∈g.1->x.length<=8000) ?_ ?_
 refine zc rfl (λh3=>?_) (λh3=>?_)
 refine W ?_
 refine aA (KL ns ts fn want om om _ _ (w8.heap.size::[br]) eD (λx hx=>by have:=jW.lt;simp at hx;rcases hx with hx|hx<;>omega) cv ck) ?_
 rintro v12 fA ⟨HE,di⟩
 have EM:=di.size
 refine cN di hk h jW λhk h jW=>?_
 obtain⟨u3,u4,e9,ry,rz⟩:=HE
 subst e9
 have bZ:=dJ ry
 obtain⟨b3,m3,d3,e1,_⟩:=bZ
 subst e1
 have bZ:=dJ rz
 obtain⟨b4,m4,d4,e2,_⟩:=bZ
 subst e2
 refine zm<|zm<|aA (KL (ns++[fn]) (ts++[want]) xn (sQ o2) so so _ _ (w8.heap.size::[br]) fA (λx hx=>by have:=jW.lt;simp at hx;rcases hx with hx|hx<;>omega) ry rz) ?_
 rintro Hk jB ⟨amG,gv⟩
 have Hu:=gv.size
 refine cN gv hk h jW λhk h jW=>?_
 obtain⟨u5,u6,e9,KP,KQ⟩:=amG
 subst e9
 have bZ:=dJ KP
 obtain⟨b5,m5,d5,e1,_⟩:=bZ
 subst e1
 have bZ:=dJ KQ
 obtain⟨b6,m6,d6,e2,_⟩:=bZ
 subst e2
 refine cJ (vs:=[.slice b5 m5 d5,.slice b6 m6 d6]) BP rfl rfl rfl jW rfl λiG dA jW df=>?_
 have hk:=hk.since dA (λx hx=>.inr (by simp at hx;omega))
 have h:=h.aF dA (λx hx=>by simp at hx;omega)
 have KP:=bc.aD KP dA sm
 have KQ:=bc.aD KQ dA sm
 refine W ?_
 exact⟨((ns++[fn])++[xn],(ts++[want])++[sQ o2],_,_),⟨rfl,rfl,rfl,rfl,rfl,rfl,rfl⟩,hk,h,jW,bc.fresh KP (λx hx=>.inl (by simp at hx;simp[hx])),bc.fresh KQ (λx hx=>.inl (by simp at hx;simp[hx])),by simp;omega,by simp;omega,KO (KO hs om) om⟩
 refine WZ ?_
 exact⟨(ns++[xn],ts++[sQ o2],_,_),⟨rfl,rfl,rfl,rfl,rfl,rfl,rfl⟩,hk,h,jW,bc.fresh ry (λx hx=>.inl (by simp at hx;simp[hx])),bc.fresh rz (λx hx=>.inl (by simp at hx;simp[hx])),by simp;omega,by simp;omega,KO hs om⟩
 intro gu fA qH hI
 obtain⟨zs,us,p1,p2⟩:=gu
 dsimp only at hI⊢
 obtain⟨hk,h,jW,mB,pL,E7,hzn,xI⟩:=hI
 have bZ:=dJ mB
 obtain⟨b1,m1,d1,e1,_⟩:=bZ
 subst e1
 have bZ:=dJ pL
 obtain⟨b2,m2,d2,e2,_⟩:=bZ
 subst e2
 refine WZ ?_
 refine aA (ih zs us (yt o2) br (q+3) _ _ fA E7 om xI om om h mB pL) ?_
 rintro v9 jB ⟨⟨x9,e9,iB⟩,h,aB⟩
 subst e9
 have hk:=hk.trans aB
 refine W ?_
 exact⟨_,rfl,⟨_,rfl,by simp;omega⟩,h.more om,hk⟩
 refine W ?_
 refine xM (t:=93) rfl (λh4=>?_) (λh4=>?_)
 replace h4:=jj h4
 refine zm<|aA (lQ 3 de de br q om w3 h) ?_
 rintro v9 w4 ⟨⟨z,e9,hz⟩,h,aB⟩
 subst e9
 have hk:=hk.trans aB
 have cv:=cv.aD aB sm;have ck:=ck.aD aB sm;have cg:=cg.aD aB sm
 have lS:=h.lt
 refine W ?_
 refine zc rfl (λh5=>?_) (λh5=>?_)
 refine WZ ?_
 apply jF dj ([br]) 17 (rA 98 17) (rA 98 17) [[],[],[0,1],[2],[3],[],[],[],[5,6,7],[4,8],[9],[],[],[],[11,12,13],[10,14],[15]] [Ie.v _,Ie.p (fun(G:List Nat) (v:Value) (ww:World)=>bc G ww v KN),Ie.q 0 (fun(v:Value)=>∃x,v=str x∧x.length<=30),Ie.p (fun(G:List Nat) (v:Value) (ww:World)=>∃x,v=str x∧x.length<=40),Ie.p (fun(G:List Nat) (v:Value) (ww:World)=>∃x,v=str x∧x.length<=50),Ie.v _,Ie.v _,Ie.v _,Ie.q 1 (fun(v:Value)=>∃x,v=str x∧x.length<=100000*P),Ie.p (fun(G:List Nat) (v:Value) (ww:World)=>∃x,v=str x∧x.length<=100000*P+100),Ie.p (fun(G:List Nat) (v:Value) (ww:World)=>∃x,v=str x∧x.length<=100000*P+200),Ie.v _,Ie.v _,Ie.v _,Ie.q 2 (fun(v:Value)=>∃x,v=str x∧x.length<=100000*P),Ie.p (fun(G:List Nat) (v:Value) (ww:World)=>∃x,v=str x∧x.length<=200000*P+300),Ie.p (fun(G:List Nat) (v:Value) (ww:World)=>∃x,v=str x∧x.length<=200000*P+400)] [2,8,14] [fun(G:List Nat) (vs:List Value) (ww:World)=>G=[br]∧aj [br] w4 ww∧dD ww br (q+1),fun(G:List Nat) (vs:List Value) (ww:World)=>G=[br]∧aj [br] w4 ww∧dD ww br (q+2),fun(G:List Nat) (vs:List Value) (ww:World)=>G=[br]∧aj [br] w4 ww∧dD ww br (q+2+20*P),fun(G:List Nat) (vs:List Value) (ww:World)=>G=[br]∧aj [br] w4 ww∧dD ww br (q+2+40*P)] de rfl ((λz hz=>by simp at hz;subst hz;exact h.lt)) (by exact⟨λG v w G' w' h k=>bc.go h k,λG v w G' w' h k=>h,λG v w G' w' h k=>h,λG v w G' w' h k=>h,λG v w G' w' h k=>h,λG v w G' w' h k=>h,λG v w G' w' h k=>h,trivial⟩) (by exact⟨λG vs w w' ⟨h1,h2,h3⟩ k=>⟨h1,h2.ext k,h3.ext k⟩,λG vs w w' ⟨h1,h2,h3⟩ k=>⟨h1,h2.ext k,h3.ext k⟩,λG vs w w' ⟨h1,h2,h3⟩ k=>⟨h1,h2.ext k,h3.ext k⟩,λG vs w w' ⟨h1,h2,h3⟩ k=>⟨h1,h2.ext k,h3.ext k⟩,trivial⟩) (⟨rfl,aj.refl _ _,h⟩)
 refine FA ?_
 refine vf (λx w5 G5 aS pV th=>?_) ?_
 refine pO bh bf rfl rfl rfl rfl rfl λw6 bN Oo kI=>?_
 exact ff bN ((aJ.dK KN Oo (λhx=>by have:=th _ hx;omega) de))
 refine ve 0 (λx w5 G5 aS pV th hJ hlen=>?_) ?_
 have aW:=jg hlen
 subst aW
 intro v1 d1
 obtain⟨bO,bP,h⟩:=hJ
 subst bO
 refine aA (mi KN de de br (q+1) om _ w5 h d1) ?_
 rintro l9 w6 ⟨⟨x9,iB,gS⟩,h,aB⟩
 subst gS
 have eu:=(show∀x,x∈KN->x.length<=30 from by decide) _ iB
 exact fq ([br]) (Fr.of aB sm) ((λz hz=>lL (th z hz) aB.size)) (⟨rfl,bP.trans aB,h⟩) (⟨_,rfl,eu⟩)
 refine vf (λx w5 G5 aS pV th=>?_) ?_
 intro v2 nY d2
 obtain⟨y2,e2,iy⟩:=d2
 subst e2
 refine gV rfl rfl rfl rfl (by(try simp);omega) ?_
 exact ff (aj.refl _ _) (⟨_,rfl,by simp;omega⟩)
 refine vf (λx w5 G5 aS pV th=>?_) ?_
 intro v3 d3
 obtain⟨y3,e3,wU⟩:=d3
 subst e3
 refine gV rfl rfl rfl rfl (by(try simp);omega) ?_
 exact ff (aj.refl _ _) (⟨_,rfl,by simp;omega⟩)
 refine FA ?_
 refine ve 1 (λx w5 G5 aS pV th hJ hlen=>?_) ?_
 have aQ:=jh hlen
 obtain⟨q0,aW⟩:=aQ
 subst aW
 have cv:=cv.go pV;have ck:=ck.go pV
 obtain⟨bO,bP,h⟩:=hJ
 subst bO
 refine aA (ih ns ts ([105]) br (q+2) _ _ w5 hl om hs so om h cv ck) ?_
 rintro v9 w6 ⟨⟨x9,e9,iB⟩,h,aB⟩
 subst e9
 exact fq ([br]) (Fr.of aB sm) ((λz hz=>lL (th z hz) aB.size)) (⟨rfl,bP.trans aB,h.more om⟩) (⟨_,rfl,iB⟩)
 refine vf (λx w5 G5 aS pV th=>?_) ?_
 intro v4 d4
 intro v8 hq8 d8
 obtain⟨y4,e4,Ci⟩:=d4
 subst e4
 obtain⟨y8,e8,hl8⟩:=d8
 subst e8
 refine gV rfl rfl rfl rfl (by(try simp);omega) ?_
 exact ff (aj.refl _ _) (⟨_,rfl,by simp;omega⟩)
 refine vf (λx w5 G5 aS pV th=>?_) ?_
 intro v9 d9
 obtain⟨y9,e9,eu⟩:=d9
 subst e9
 refine gV rfl rfl rfl rfl (by(try simp);omega) ?_
 exact ff (aj.refl _ _) (⟨_,rfl,by simp;omega⟩)
 refine FA ?_
 refine ve 2 (λx w5 G5 aS pV th hJ hlen=>?_) ?_
 have aQ:=k9 hlen
 obtain⟨q0,q1,aW⟩:=aQ
 subst aW
 have cv:=cv.go pV;have ck:=ck.go pV
 obtain⟨bO,bP,h⟩:=hJ
 subst bO
 refine aA (ih ns ts ([105]) br (q+2+20*P) _ _ w5 hl om hs so om h cv ck) ?_
 rintro v9 w6 ⟨⟨x9,e9,iB⟩,h,aB⟩
 subst e9
 exact fq ([br]) (Fr.of aB sm) ((λz hz=>lL (th z hz) aB.size)) (⟨rfl,bP.trans aB,h.more om⟩) (⟨_,rfl,iB⟩)
 refine vf (λx w5 G5 aS pV th=>?_) ?_
 intro v10 d10
 intro l9 amJ d14
 obtain⟨KR,fo,EH⟩:=d10
 subst fo
 obtain⟨y14,gS,arz⟩:=d14
 subst gS
 refine gV rfl rfl rfl rfl (by(try simp);omega) ?_
 exact ff (aj.refl _ _) (⟨_,rfl,by simp;omega⟩)
 refine vf (λx w5 G5 aS pV th=>?_) ?_
 intro A7 d15
 obtain⟨y15,EL,arB⟩:=d15
 subst EL
 refine gV rfl rfl rfl rfl (by(try simp);omega) ?_
 exact ff (aj.refl _ _) (⟨_,rfl,by simp;omega⟩)
 exact trivial
 intro x o4 G44 aS arD arE hJ hlen
 have aQ:=Aj hlen
 obtain⟨q0,q1,q2,aW⟩:=aQ
 subst aW
 intro v1 d1
 intro v2 nY d2
 intro v3 d3
 intro v4 d4
 intro v8 hq8 d8
 intro v9 d9
 intro v10 d10
 intro l9 amJ d14
 intro A7 d15
 intro CK d16
 change OW _ _ _ _ _ (bo (bj _ x _) (zZ 98 [_,_,_,_,_,_,_,_,_,_,_,_,_,_,_,_,_])) _
 obtain⟨bO,bP,h⟩:=hJ
 subst bO
 obtain⟨yz,ez,Fc⟩:=d16
 subst ez
 refine W ?_
 exact⟨_,rfl,⟨yz,rfl,om⟩,h.more om,hk.trans bP⟩
 refine W ?_
 refine aA (Px ns ts want hl om hs br (q+1) om _ _ w4 h cv ck) ?_
 rintro v9 w5 ⟨⟨x9,e9,iB⟩,h,aB⟩
 subst e9
 refine W ?_
 exact⟨_,rfl,⟨x9,rfl,om⟩,h.more om,hk.trans aB⟩
 replace h4:=jj h4
 refine W ?_
 refine zc rfl (λh6=>?_) (λh6=>?_)
 simp at h6
 refine W ?_
 refine aA (Px ns ts want hl om hs br q om _ _ w3 h cv ck) ?_
 rintro v9 w4 ⟨⟨x9,e9,iB⟩,h,aB⟩
 subst e9
 refine W ?_
 exact⟨_,rfl,⟨x9,rfl,om⟩,h.more om,hk.trans aB⟩
theorem amK:H2 0 1:=by
 intro ns ts want br q v1 v2 w hl Cp hs hw hq h cv ck
 obtain⟨a1,n1,c1,rfl,fx⟩:=dJ cv
 obtain⟨a2,n2,c2,rfl,eV⟩:=dJ ck
 subst fx
 subst eV
 have iq:=h.lt
 have hk:=aj.refl [br] w
 refine bS [.tmp 8] 130 Tryz.func51 rfl QB rfl rfl ?_
 refine zr<|eH rfl λw1 aI cg dk=>ie aI hk h cv ck λhk h cv ck=>?_
 refine W ?_
 refine zc rfl (λh1=>?_) (λh1=>?_)
 refine W ?_
 refine aA (Px ns ts want hl om hs br q om _ _ w1 h cv ck) ?_
 rintro v9 w2 ⟨⟨x9,e9,iB⟩,h,aB⟩
 subst e9
 refine W ?_
 exact⟨_,rfl,⟨x9,rfl,om⟩,h.more om,hk.trans aB⟩
 simp at h1
theorem amL (d P:Nat) (hd:d<=10) (hP:1<=P) (XO:P<=1000000) (ih:H2 d P):H2 (d+1) (4*P):=by
 have hB:=amx d P hd hP XO ih
 intro ns ts want br q v1 v2 w hl Cp hs hw hq h cv ck
 obtain⟨a1,n1,c1,rfl,fx⟩:=dJ cv
 obtain⟨a2,n2,c2,rfl,eV⟩:=dJ ck
 subst fx
 subst eV
 have iq:=h.lt
 have hk:=aj.refl [br] w
 refine bS [.tmp 8] 130 Tryz.func51 rfl QB rfl rfl ?_
 refine zr<|eH rfl λw1 aI cg dk=>ie aI hk h cv ck λhk h cv ck=>?_
 refine W ?_
 refine zc rfl (λh1=>?_) (λh1=>?_)
 simp at h1;omega
 have cg:dM [br] w1 w.heap.size _ _:=⟨cg,by simp;omega⟩
 refine gY<|zr<|zm<|xK rfl rfl rfl rfl rfl (kQ d om _ om)<|zA<|aZ<|jL<|zr<|zm<|aA (lQ 12 de de br q om w1 h) ?_
 rintro v9 w2 ⟨⟨z,e9,hz⟩,h,aB⟩
 subst e9
 have hk:=hk.trans aB
 have cv:=cv.aD aB sm;have ck:=ck.aD aB sm;have cg:=cg.aD aB sm
 have lS:=h.lt
 refine W ?_
 refine zc rfl (λh2=>?_) (λh2=>?_)
 refine WZ ?_
 apply jF dj ([br]) 20 (rA 25 20) (rA 25 20) [[],[],[],[0,1,2],[3],[4],[],[],[],[],(rA 6 4),[5,10],[11],[],[],[],[],(rA 13 4),[12,17],[18]] [Ie.v _,Ie.v _,Ie.v _,Ie.q 0 (fun(v:Value)=>∃x,v=str x∧x.length<=100000*P),Ie.p (fun(G:List Nat) (v:Value) (ww:World)=>∃x,v=str x∧x.length<=100000*P+100),Ie.p (fun(G:List Nat) (v:Value) (ww:World)=>∃x,v=str x∧x.length<=100000*P+200),Ie.v _,Ie.v _,Ie.v _,Ie.v _,Ie.q 1 (fun(v:Value)=>∃x,v=str x∧x.length<=100000*P),Ie.p (fun(G:List Nat) (v:Value) (ww:World)=>∃x,v=str x∧x.length<=200000*P+300),Ie.p (fun(G:List Nat) (v:Value) (ww:World)=>∃x,v=str x∧x.length<=200000*P+400),Ie.v _,Ie.v _,Ie.v _,Ie.v _,Ie.q 2 (fun(v:Value)=>∃x,v=str x∧x.length<=100000*P),Ie.p (fun(G:List Nat) (v:Value) (ww:World)=>∃x,v=str x∧x.length<=300000*P+500),Ie.p (fun(G:List Nat) (v:Value) (ww:World)=>∃x,v=str x∧x.length<=300000*P+600)] [3,10,17] [fun(G:List Nat) (vs:List Value) (ww:World)=>G=[br]∧aj [br] w2 ww∧dD ww br (q+1),fun(G:List Nat) (vs:List Value) (ww:World)=>G=[br]∧aj [br] w2 ww∧dD ww br (q+1+20*P),fun(G:List Nat) (vs:List Value) (ww:World)=>G=[br]∧aj [br] w2 ww∧dD ww br (q+1+40*P),fun(G:List Nat) (vs:List Value) (ww:World)=>G=[br]∧aj [br] w2 ww∧dD ww br (q+1+60*P)] de rfl ((λz hz=>by simp at hz;subst hz;exact h.lt)) (by exact⟨λG v w G' w' h k=>h,λG v w G' w' h k=>h,λG v w G' w' h k=>h,λG v w G' w' h k=>h,λG v w G' w' h k=>h,λG v w G' w' h k=>h,trivial⟩) (by exact⟨λG vs w w' ⟨h1,h2,h3⟩ k=>⟨h1,h2.ext k,h3.ext k⟩,λG vs w w' ⟨h1,h2,h3⟩ k=>⟨h1,h2.ext k,h3.ext k⟩,λG vs w w' ⟨h1,h2,h3⟩ k=>⟨h1,h2.ext k,h3.ext k⟩,λG vs w w' ⟨h1,h2,h3⟩ k=>⟨h1,h2.ext k,h3.ext k⟩,trivial⟩) (⟨rfl,aj.refl _ _,h⟩)
 refine FA ?_
 refine ve 0 (λx w3 G3 aS jo kr hJ hlen=>?_) ?_
 have aW:=jg hlen
 subst aW
 have cv:=cv.go jo;have ck:=ck.go jo
 obtain⟨bO,bP,h⟩:=hJ
 subst bO
 refine aA (ih ns ts ([105]) br (q+1) _ _ w3 hl om hs so om h cv ck) ?_
 rintro v9 w4 ⟨⟨x9,e9,iB⟩,h,aB⟩
 subst e9
 exact fq ([br]) (Fr.of aB sm) ((λz hz=>lL (kr z hz) aB.size)) (⟨rfl,bP.trans aB,h.more om⟩) (⟨_,rfl,iB⟩)
 refine vf (λx w3 G3 aS jo kr=>?_) ?_
 intro v3 JB d3
 obtain⟨y3,e3,wU⟩:=d3
 subst e3
 refine gV rfl rfl rfl rfl (by(try simp);omega) ?_
 exact ff (aj.refl _ _) (⟨_,rfl,by simp;omega⟩)
 refine vf (λx w3 G3 aS jo kr=>?_) ?_
 intro v4 d4
 obtain⟨y4,e4,Ci⟩:=d4
 subst e4
 refine gV rfl rfl rfl rfl (by(try simp);omega) ?_
 exact ff (aj.refl _ _) (⟨_,rfl,by simp;omega⟩)
 refine FA ?_
 refine ve 1 (λx w3 G3 aS jo kr hJ hlen=>?_) ?_
 have aQ:=jh hlen
 obtain⟨q0,aW⟩:=aQ
 subst aW
 have cv:=cv.go jo;have ck:=ck.go jo
 obtain⟨bO,bP,h⟩:=hJ
 subst bO
 refine aA (ih ns ts want br (q+1+20*P) _ _ w3 hl om hs om om h cv ck) ?_
 rintro v9 w4 ⟨⟨x9,e9,iB⟩,h,aB⟩
 subst e9
 exact fq ([br]) (Fr.of aB sm) ((λz hz=>lL (kr z hz) aB.size)) (⟨rfl,bP.trans aB,h.more om⟩) (⟨_,rfl,iB⟩)
 refine vf (λx w3 G3 aS jo kr=>?_) ?_
 intro v5 d5
 intro v10 XR d10
 obtain⟨y5,e5,hl5⟩:=d5
 subst e5
 obtain⟨KR,fo,EH⟩:=d10
 subst fo
 refine gV rfl rfl rfl rfl (by(try simp);omega) ?_
 exact ff (aj.refl _ _) (⟨_,rfl,by simp;omega⟩)
 refine vf (λx w3 G3 aS jo kr=>?_) ?_
 intro v11 d11
 obtain⟨XP,C1,XQ⟩:=d11
 subst C1
 refine gV rfl rfl rfl rfl (by(try simp);omega) ?_
 exact ff (aj.refl _ _) (⟨_,rfl,by simp;omega⟩)
 refine FA ?_
 refine ve 2 (λx w3 G3 aS jo kr hJ hlen=>?_) ?_
 have aQ:=k9 hlen
 obtain⟨q0,q1,aW⟩:=aQ
 subst aW
 have cv:=cv.go jo;have ck:=ck.go jo
 obtain⟨bO,bP,h⟩:=hJ
 subst bO
 refine aA (ih ns ts want br (q+1+40*P) _ _ w3 hl om hs om om h cv ck) ?_
 rintro v9 w4 ⟨⟨x9,e9,iB⟩,h,aB⟩
 subst e9
 exact fq ([br]) (Fr.of aB sm) ((λz hz=>lL (kr z hz) aB.size)) (⟨rfl,bP.trans aB,h.more om⟩) (⟨_,rfl,iB⟩)
 refine vf (λx w3 G3 aS jo kr=>?_) ?_
 intro v12 d12
 intro jC PD d17
 obtain⟨y12,qH,amB⟩:=d12
 subst qH
 obtain⟨XS,rZ,XT⟩:=d17
 subst rZ
 refine gV rfl rfl rfl rfl (by(try simp);omega) ?_
 exact ff (aj.refl _ _) (⟨_,rfl,by simp;omega⟩)
 refine vf (λx w3 G3 aS jo kr=>?_) ?_
 intro xo d18
 obtain⟨y18,vH,Oc⟩:=d18
 subst vH
 refine gV rfl rfl rfl rfl (by(try simp);omega) ?_
 exact ff (aj.refl _ _) (⟨_,rfl,by simp;omega⟩)
 exact trivial
 intro x qw GY aS EA NB hJ hlen
 have aQ:=Aj hlen
 obtain⟨q0,q1,q2,aW⟩:=aQ
 subst aW
 intro v3 JB d3
 intro v4 d4
 intro v5 d5
 intro v10 XR d10
 intro v11 d11
 intro v12 d12
 intro jC PD d17
 intro xo d18
 intro Kh d19
 change OW _ _ _ _ _ (bo (bj _ x _) (zZ 25 [_,_,_,_,_,_,_,_,_,_,_,_,_,_,_,_,_,_,_,_])) _
 obtain⟨bO,bP,h⟩:=hJ
 subst bO
 obtain⟨yz,ez,Fc⟩:=d19
 subst ez
 refine W ?_
 exact⟨_,rfl,⟨yz,rfl,om⟩,h.more om,hk.trans bP⟩
 refine W ?_
 refine ix (λb:Bool=>[(0,.pointer (some ⟨br,0,none⟩)),(2,str want),(3,.int .i64 ((d+1:Nat):Int)),(5,.pointer (some ⟨w.heap.size,0,none⟩)),(9,.int .i64 (d:Int)),(22,.int .i64 (z:Int)),(45,.bool b)]) (λb ww=>ww=w2) ?_ ?_
 refine zc rfl (λh3=>?_) (λh3=>?_)
 refine WZ ?_
 exact⟨_,⟨rfl,rfl,rfl,rfl,rfl,rfl,rfl⟩,rfl⟩
 refine W ?_
 exact⟨_,⟨rfl,rfl,rfl,rfl,rfl,rfl,rfl⟩,rfl⟩
 intro gu w3 e3 hI
 have PE:w3=_:=hI
 subst PE
 refine zc rfl (λh4=>?_) (λh4=>?_)
 refine zr<|zm<|aA (Pv 1 de br (q+1) om w3 h) ?_
 rintro v9 w4 ⟨⟨T,e9,hT⟩,h,aB⟩
 subst e9
 have XU:=T.len
 have hT:T.n+1<=4:=hT
 have h:=h.more (show _<=q+5 from om)
 have hk:=hk.trans aB
 have cv:=cv.aD aB sm;have ck:=ck.aD aB sm;have cg:=cg.aD aB sm
 have lS:=h.lt
 refine W ?_
 refine Ub bh bf rfl rfl rfl rfl rfl rfl rfl λw5 aN Om ig=>la aN cv ck cg h hk λcv ck cg h hk=>?_
 refine aA (mi Pz de de br (q+5) om _ w5 h (aJ.dK Pz Om (λhx=>by simp at hx;omega) de)) ?_
 rintro l9 w6 ⟨⟨nm,amN,gS⟩,h,aB⟩
 subst gS
 have arF:=(show∀x,x∈Pz->x.length<=30 from by decide) _ amN
 have hk:=hk.trans aB
 have cv:=cv.aD aB sm;have ck:=ck.aD aB sm;have cg:=cg.aD aB sm
 have lS:=h.lt
 refine W ?_
 apply jF dj ([br]) 20 (rA 53 20) (rA 53 20) [[],[0],[1],[],[],[],[],(rA 3 4),[2,7],[8],[],[],[],[],[11,12,13],[],[],[10,14,15,16],[9,17],[18]] [Ie.v _,Ie.v _,Ie.v _,Ie.v _,Ie.v _,Ie.v _,Ie.v _,Ie.q 0 (fun(v:Value)=>∃x,v=str x∧x.length<=100000*P),Ie.p (fun(G:List Nat) (v:Value) (ww:World)=>∃x,v=str x∧x.length<=100000*P+200),Ie.p (fun(G:List Nat) (v:Value) (ww:World)=>∃x,v=str x∧x.length<=100000*P+300),Ie.v _,Ie.v _,Ie.v _,Ie.v _,Ie.e 1,Ie.v _,Ie.v _,Ie.q 2 (fun(v:Value)=>∃x,v=str x∧x.length<=100000*P),Ie.p (fun(G:List Nat) (v:Value) (ww:World)=>∃x,v=str x∧x.length<=200000*P+400),Ie.p (fun(G:List Nat) (v:Value) (ww:World)=>∃x,v=str x∧x.length<=200000*P+500)] [7,14,17] [fun(G:List Nat) (vs:List Value) (ww:World)=>G=[br]∧aj [br] w6 ww∧dD ww br (q+6),fun(G:List Nat) (vs:List Value) (ww:World)=>G=[br]∧aj [br] w6 ww∧dD ww br (q+6+20*P),fun(G:List Nat) (vs:List Value) (ww:World)=>G=[br]∧aj [br] w6 ww∧dD ww br (q+6+20*P)∧∃u1 u2,vs.getD 1 undef= .agg #[u1,u2]∧bc [br] ww u1 (ns++[nm])∧bc [br] ww u2 (ts++[T.text]),fun(G:List Nat) (vs:List Value) (ww:World)=>G=[br]∧aj [br] w6 ww∧dD ww br (q+6+40*P)] de rfl ((λz hz=>by simp at hz;subst hz;exact h.lt)) (by exact⟨λG v w G' w' h k=>h,λG v w G' w' h k=>h,λG v w G' w' h k=>h,λG v w G' w' h k=>h,trivial⟩) (by exact⟨λG vs w w' ⟨h1,h2,h3⟩ k=>⟨h1,h2.ext k,h3.ext k⟩,λG vs w w' ⟨h1,h2,h3⟩ k=>⟨h1,h2.ext k,h3.ext k⟩,λG vs w w' ⟨h1,h2,h3,u1,u2,e,g1,g2⟩ k=>⟨h1,h2.ext k,h3.ext k,u1,u2,e,g1.ext k,g2.ext k⟩,λG vs w w' ⟨h1,h2,h3⟩ k=>⟨h1,h2.ext k,h3.ext k⟩,trivial⟩) (⟨rfl,aj.refl _ _,h⟩)
 refine FA ?_
 refine ve 0 (λx w7 G7 aS mQ lj hJ hlen=>?_) ?_
 have aW:=jg hlen
 subst aW
 have cv:=cv.go mQ;have ck:=ck.go mQ
 obtain⟨bO,bP,h⟩:=hJ
 subst bO
 refine aA (ih ns ts T.text br (q+6) _ _ w7 hl om hs om om h cv ck) ?_
 rintro v9 w8 ⟨⟨x9,e9,iB⟩,h,aB⟩
 subst e9
 exact fq ([br]) (Fr.of aB sm) ((λz hz=>lL (lj z hz) aB.size)) (⟨rfl,bP.trans aB,h.more om⟩) (⟨_,rfl,iB⟩)
 refine vf (λx w7 G7 aS mQ lj=>?_) ?_
 intro v7 hq7 d7
 obtain⟨y7,e7,VM⟩:=d7
 subst e7
 refine gV rfl rfl rfl rfl (by(try simp);omega) ?_
 exact ff (aj.refl _ _) (⟨_,rfl,by simp;omega⟩)
 refine vf (λx w7 G7 aS mQ lj=>?_) ?_
 intro v8 d8
 obtain⟨y8,e8,hl8⟩:=d8
 subst e8
 refine gV rfl rfl rfl rfl (by(try simp);omega) ?_
 exact ff (aj.refl _ _) (⟨_,rfl,by simp;omega⟩)
 refine FA ?_
 refine ve 1 (λx w7 G7 aS mQ lj hJ hlen=>?_) ?_
 have aQ:=jh hlen
 obtain⟨q0,aW⟩:=aQ
 subst aW
 have cv:=cv.go mQ;have ck:=ck.go mQ
 obtain⟨bO,bP,h⟩:=hJ
 subst bO
 refine aA (KL ns ts nm T.text om om _ _ [br] w7 (λx hx=>by simp at hx;subst hx;exact h.lt) cv ck) ?_
 rintro v9 w8 ⟨⟨u1,u2,e9,ry,rz⟩,aB⟩
 subst e9
 exact fe ([br]) (Fr.of aB sm) ((λz hz=>lL (lj z hz) aB.size)) (⟨rfl,bP.ext aB,h.ext aB,u1,u2,rfl,ry,rz⟩)
 refine FA ?_
 refine ve 2 (λx w7 G7 aS mQ lj hJ hlen=>?_) ?_
 have aQ:=k9 hlen
 obtain⟨q0,q1,aW⟩:=aQ
 subst aW
 obtain⟨bO,bP,h,u1,u2,e1,ry,rz⟩:=hJ
 subst bO
 have e2:q1=_:=e1
 subst e2
 refine aA (ih (ns++[nm]) (ts++[T.text]) want br (q+6+20*P) _ _ w7 so so (KO hs om) om om h ry rz) ?_
 rintro v9 w8 ⟨⟨x9,e9,iB⟩,h,aB⟩
 subst e9
 exact fq ([br]) (Fr.of aB sm) ((λz hz=>lL (lj z hz) aB.size)) (⟨rfl,bP.trans aB,h.more om⟩) (⟨_,rfl,iB⟩)
 refine vf (λx w7 G7 aS mQ lj=>?_) ?_
 intro v9 d9
 intro jC PD d17
 obtain⟨y9,e9,eu⟩:=d9
 subst e9
 obtain⟨XS,rZ,XT⟩:=d17
 subst rZ
 refine gV rfl rfl rfl rfl (by(try simp);omega) ?_
 exact ff (aj.refl _ _) (⟨_,rfl,by simp;omega⟩)
 refine vf (λx w7 G7 aS mQ lj=>?_) ?_
 intro xo d18
 obtain⟨y18,vH,Oc⟩:=d18
 subst vH
 refine gV rfl rfl rfl rfl (by(try simp);omega) ?_
 exact ff (aj.refl _ _) (⟨_,rfl,by simp;omega⟩)
 exact trivial
 intro x rN Kc aS xq Kd hJ hlen
 have aQ:=Aj hlen
 obtain⟨q0,q1,q2,aW⟩:=aQ
 subst aW
 intro v7 hq7 d7
 intro v8 d8
 intro v9 d9
 intro jC PD d17
 intro xo d18
 intro Kh d19
 change OW _ _ _ _ _ (bo (bj _ x _) (zZ 53 [_,_,_,_,_,_,_,_,_,_,_,_,_,_,_,_,_,_,_,_])) _
 obtain⟨bO,bP,h⟩:=hJ
 subst bO
 obtain⟨yz,ez,Fc⟩:=d19
 subst ez
 refine W ?_
 exact⟨_,rfl,⟨yz,rfl,om⟩,h.more om,hk.trans bP⟩
 refine W ?_
 refine ix (λb:Bool=>[(0,.pointer (some ⟨br,0,none⟩)),(2,str want),(3,.int .i64 ((d+1:Nat):Int)),(5,.pointer (some ⟨w.heap.size,0,none⟩)),(9,.int .i64 (d:Int)),(22,.int .i64 (z:Int)),(73,.bool b)]) (λb ww=>ww=w3) ?_ ?_
 refine zc rfl (λh5=>?_) (λh5=>?_)
 refine WZ ?_
 exact⟨_,⟨rfl,rfl,rfl,rfl,rfl,rfl,rfl⟩,rfl⟩
 refine W ?_
 exact⟨_,⟨rfl,rfl,rfl,rfl,rfl,rfl,rfl⟩,rfl⟩
 intro gu w4 e4 hI
 have PE:w4=_:=hI
 subst PE
 refine zc rfl (λh6=>?_) (λh6=>?_)
 refine zr<|zm<|aA (Pv 1 de br (q+1) om w4 h) ?_
 rintro v9 w5 ⟨⟨T,e9,hT⟩,h,aB⟩
 subst e9
 have XU:=T.len
 have hT:T.n+1<=4:=hT
 have h:=h.more (show _<=q+5 from om)
 have hk:=hk.trans aB
 have cv:=cv.aD aB sm;have ck:=ck.aD aB sm;have cg:=cg.aD aB sm
 have lS:=h.lt
 refine W ?_
 apply jF dj ([br]) 19 (rA 78 19) (rA 78 19) [[],[],[],[2],[3],[],[4,5],[6],[],[0,1,7,8],[9],[10],[],[],[],[],(rA 12 4),[11,16],[17]] [Ie.v _,Ie.v _,Ie.v _,Ie.v _,Ie.v _,Ie.v _,Ie.v _,Ie.v _,Ie.v _,Ie.q 0 (fun(v:Value)=>∃x,v=str x∧x.length<=100000*P),Ie.p (fun(G:List Nat) (v:Value) (ww:World)=>∃x,v=str x∧x.length<=100000*P+200),Ie.p (fun(G:List Nat) (v:Value) (ww:World)=>∃x,v=str x∧x.length<=100000*P+300),Ie.v _,Ie.v _,Ie.v _,Ie.v _,Ie.q 1 (fun(v:Value)=>∃x,v=str x∧x.length<=100000*P),Ie.p (fun(G:List Nat) (v:Value) (ww:World)=>∃x,v=str x∧x.length<=200000*P+400),Ie.p (fun(G:List Nat) (v:Value) (ww:World)=>∃x,v=str x∧x.length<=200000*P+500)] [9,16] [fun(G:List Nat) (vs:List Value) (ww:World)=>G=[br]∧aj [br] w5 ww∧dD ww br (q+5),fun(G:List Nat) (vs:List Value) (ww:World)=>G=[br]∧aj [br] w5 ww∧dD ww br (q+5+20*P),fun(G:List Nat) (vs:List Value) (ww:World)=>G=[br]∧aj [br] w5 ww∧dD ww br (q+5+40*P)] de rfl ((λz hz=>by simp at hz;subst hz;exact h.lt)) (by exact⟨λG v w G' w' h k=>h,λG v w G' w' h k=>h,λG v w G' w' h k=>h,λG v w G' w' h k=>h,trivial⟩) (by exact⟨λG vs w w' ⟨h1,h2,h3⟩ k=>⟨h1,h2.ext k,h3.ext k⟩,λG vs w w' ⟨h1,h2,h3⟩ k=>⟨h1,h2.ext k,h3.ext k⟩,λG vs w w' ⟨h1,h2,h3⟩ k=>⟨h1,h2.ext k,h3.ext k⟩,trivial⟩) (⟨rfl,aj.refl _ _,h⟩)
 refine FA ?_
 refine ve 0 (λx w6 G6 aS zg DB hJ hlen=>?_) ?_
 have aW:=jg hlen
 subst aW
 have cv:=cv.go zg;have ck:=ck.go zg
 obtain⟨bO,bP,h⟩:=hJ
 subst bO
 refine aA (ih ns ts (((([40,62,32]++T.text)++[32])++want)++[41]) br (q+5) _ _ w6 hl om hs so om h cv ck) ?_
 rintro v9 w7 ⟨⟨x9,e9,iB⟩,h,aB⟩
 subst e9
 exact fq ([br]) (Fr.of aB sm) ((λz hz=>lL (DB z hz) aB.size)) (⟨rfl,bP.trans aB,h.more om⟩) (⟨_,rfl,iB⟩)
 refine vf (λx w6 G6 aS zg DB=>?_) ?_
 intro v9 HP d9
 obtain⟨y9,e9,eu⟩:=d9
 subst e9
 refine gV rfl rfl rfl rfl (by(try simp);omega) ?_
 exact ff (aj.refl _ _) (⟨_,rfl,by simp;omega⟩)
 refine vf (λx w6 G6 aS zg DB=>?_) ?_
 intro v10 d10
 obtain⟨KR,fo,EH⟩:=d10
 subst fo
 refine gV rfl rfl rfl rfl (by(try simp);omega) ?_
 exact ff (aj.refl _ _) (⟨_,rfl,by simp;omega⟩)
 refine FA ?_
 refine ve 1 (λx w6 G6 aS zg DB hJ hlen=>?_) ?_
 have aQ:=jh hlen
 obtain⟨q0,aW⟩:=aQ
 subst aW
 have cv:=cv.go zg;have ck:=ck.go zg
 obtain⟨bO,bP,h⟩:=hJ
 subst bO
 refine aA (ih ns ts T.text br (q+5+20*P) _ _ w6 hl om hs om om h cv ck) ?_
 rintro v9 w7 ⟨⟨x9,e9,iB⟩,h,aB⟩
 subst e9
 exact fq ([br]) (Fr.of aB sm) ((λz hz=>lL (DB z hz) aB.size)) (⟨rfl,bP.trans aB,h.more om⟩) (⟨_,rfl,iB⟩)
 refine vf (λx w6 G6 aS zg DB=>?_) ?_
 intro v11 d11
 intro CK amP d16
 obtain⟨XP,C1,XQ⟩:=d11
 subst C1
 obtain⟨y16,Bn,arH⟩:=d16
 subst Bn
 refine gV rfl rfl rfl rfl (by(try simp);omega) ?_
 exact ff (aj.refl _ _) (⟨_,rfl,by simp;omega⟩)
 refine vf (λx w6 G6 aS zg DB=>?_) ?_
 intro jC d17
 obtain⟨XS,rZ,XT⟩:=d17
 subst rZ
 refine gV rfl rfl rfl rfl (by(try simp);omega) ?_
 exact ff (aj.refl _ _) (⟨_,rfl,by simp;omega⟩)
 exact trivial
 intro x qu G45 aS arJ arK hJ hlen
 have aQ:=k9 hlen
 obtain⟨q0,q1,aW⟩:=aQ
 subst aW
 intro v9 HP d9
 intro v10 d10
 intro v11 d11
 intro CK amP d16
 intro jC d17
 intro xo d18
 change OW _ _ _ _ _ (bo (bj _ x _) (zZ 78 [_,_,_,_,_,_,_,_,_,_,_,_,_,_,_,_,_,_,_])) _
 obtain⟨bO,bP,h⟩:=hJ
 subst bO
 obtain⟨yz,ez,Fc⟩:=d18
 subst ez
 refine W ?_
 exact⟨_,rfl,⟨yz,rfl,om⟩,h.more om,hk.trans bP⟩
 refine W ?_
 refine zc rfl (λh7=>?_) (λh7=>?_)
 refine W ?_
 refine aA (ih ns ts (([40,42,32]++want)++[32,105,41]) br (q+1) _ _ w4 hl om hs so om h cv ck) ?_
 rintro v9 w5 ⟨⟨x9,e9,iB⟩,h,aB⟩
 subst e9
 refine W ?_
 exact⟨_,rfl,⟨_,rfl,by simp;omega⟩,h.more om,hk.trans aB⟩
 refine W ?_
 refine zc rfl (λh8=>?_) (λh8=>?_)
 refine W ?_
 refine aA (ih ns ts (([40,42,32,105,32]++want)++[41]) br (q+1) _ _ w4 hl om hs so om h cv ck) ?_
 rintro v9 w5 ⟨⟨x9,e9,iB⟩,h,aB⟩
 subst e9
 refine W ?_
 exact⟨_,rfl,⟨_,rfl,by simp;omega⟩,h.more om,hk.trans aB⟩
 refine W ?_
 refine zc rfl (λh9=>?_) (λh9=>?_)
 refine W ?_
 refine zc rfl (λfO=>?_) (λfO=>?_)
 refine zr<|zm<|aA (amq br (q+1) om w4 h) ?_
 rintro v9 w5 ⟨⟨x9,e9,iB⟩,h,aB⟩
 subst e9
 refine W ?_
 exact⟨_,rfl,⟨x9,rfl,om⟩,h.more om,hk.trans aB⟩
 refine W ?_
 refine aA (hB ns ts want br (q+1) _ _ w4 hl om hs om om h cv ck) ?_
 rintro v9 w5 ⟨⟨x9,e9,iB⟩,h,aB⟩
 subst e9
 refine W ?_
 exact⟨_,rfl,⟨x9,rfl,om⟩,h.more om,hk.trans aB⟩
 refine W ?_
 refine aA (hB ns ts want br (q+1) _ _ w4 hl om hs om om h cv ck) ?_
 rintro v9 w5 ⟨⟨x9,e9,iB⟩,h,aB⟩
 subst e9
 refine W ?_
 exact⟨_,rfl,⟨x9,rfl,om⟩,h.more om,hk.trans aB⟩
theorem PF:∀d,d<=9->H2 d (4^d)
 |0,_=>amK
 |d+1,h=>by
  have h2:4^d<=4^9:=Nat.pow_le_pow_right de om
  have:=amL d (4^d) om (Nat.pos_of_ne_zero sm) (Nat.le_trans h2 de) (PF d om)
  rw[Nat.pow_succ,Nat.mul_comm]
  exact this
theorem lZ.zero {TB TS:TypeId} (h:aJ w b #[] TB):lZ w TB TS (.slice (some ⟨b,0,none⟩) 0 0) (some b) [] [] []:=
 ⟨⟨by simp,.inr ⟨b,0,#[],rfl,rfl,h,lR _,by decide,rfl,rfl⟩⟩,trivial,by simp[gx],by simp[gx]⟩
theorem lZ.gr {TB TS:TypeId} (h:lZ w TB TS v g gss vss bs) (hL:∀x,x∈g.toList++gx gss->x∉L) (hB:∀b,g=some b->B<=b) (hl:∀x,x∈L->x<w.heap.size) (hs:B<=w.heap.size):Gr B L w TB 3 v g (bs.map Bk.enc):=by
 have hd:=(List.nodup_append.1 h.nodup).2.2
 refine⟨⟨vss.flatten,by simpa using h.own,h.rows.BX λx hx hc=>?_,?_,λb hb=>hL b (by simp[hb])⟩,hB,hl,hs⟩
 ·rcases mA.1 hc with hc|hc
  ·exact hd x hc x hx rfl
  ·exact hL x (by simp[hx]) hc
 ·intro row hr
  obtain⟨c,_,rfl⟩:=List.mem_map.1 hr
  rfl
theorem Gr.amQ {T:TypeId} (h:Gr B L w T 3 v g (bs.map Bk.enc)) (hb:0<bs.length):∃b a1 n1 c1 a2 n2 c2 cap,v= .slice (some ⟨b,0,none⟩) bs.length cap∧fS w b 0 [str (bR bs 0).aM,.slice a1 n1 c1,.slice a2 n2 c2]∧bc (g.toList++L) w (.slice a1 n1 c1) (bR bs 0).bY∧bc (g.toList++L) w (.slice a2 n2 c2) (bR bs 0).code:=by
 obtain⟨xs,⟨hl,dv⟩,gB,gZ,vu⟩:=h.own
 cases bs with
 |nil=>simp at hb
 |cons f bs=>
  rcases dv with⟨_,h0,_⟩|⟨b,cap,cur,hg,rfl,amR,ml,lU,bZ,ht⟩
  ·simp at h0
  ·simp only[List.map_cons,List.flatten_cons,Bk.enc] at gB
   match xs,gB with
   |x0::x1::x2::r,gB=>
    obtain⟨r0,r1,r2,_⟩:=gB
    cases r0
    obtain⟨a1,n1,c1,rfl,_⟩:=dJ (xs:=f.bY) r1
    obtain⟨a2,n2,c2,rfl,_⟩:=dJ (xs:=f.code) r2
    refine⟨b,a1,n1,c1,a2,n2,c2,cap,sm,λj u hj=>?_,r1,r2⟩
    have CE:j<3:=(List.getElem?_eq_some_iff.1 hj).1
    have h1:cur.toList[j]?=some u:=by
     have h2:=congrArg (λl=>l[j]?) ht
     simp only[List.getElem?_take] at h2
     rw[iP so] at h2
     rw[h2,<-hj]
     match j,CE with
     |0,_=>rfl
     |1,_=>rfl
     |2,_=>rfl
    rw[Nat.zero_add,amR.cell]
    simpa using h1
section
variable {P:Program} {n:Nat} {ops:Array Oper} {K:Env->World->Prop} {rest:List Oper} {e:Env} {w:World}
 {dst:Option Nat} {ty:TypeId} {pos:String} {after:Array Edge} {g:Option (Nat×Bool)} {x y:Operand}
theorem amS {t E TS bytes:Nat} {z:Value} {v:Value} {gb:Option Nat} {gss:List (Option Nat×Option Nat)} {vss:List (List Value)} {bs:List Bk} {f:Bk} {gs:Option Nat×Option Nat} {a1 a2:Option Addr} {n1 c1 n2 c2:Nat} {b U:Nat} (hT:P.underlying t=some (.slice E)) (hE:TI P E 3 bytes z) (hg:gate ops e g=true) (hd:bV n dst=true) (hz:Nat.beq z.cells.size 3=true) (fK:Nat.ble bytes 1000=true) 
  (hx:ev e x=v) (hy:ev e y= .slice (some ⟨b,0,none⟩) 1 1) (hP:lZ w E TS v gb gss vss bs) (hb:aJ w b [str f.aM,.slice a1 n1 c1,.slice a2 n2 c2].toArray U)
  (h1:cG w TS (.slice a1 n1 c1) gs.1 f.bY) (h2:cG w TS (.slice a2 n2 c2) gs.2 f.code) (nv:∀x,x∈iV gs->x∉gb.toList++gx gss) (iS:(iV gs).Nodup) (hn:bs.length<100000000)
  (k:∀a' cap' g' w',lZ w' E TS (.slice a' (bs++[f]).length cap') g' (gss++[gs]) (vss++[[str f.aM,.slice a1 n1 c1,.slice a2 n2 c2]]) (bs++[f])->aj gb.toList w w'->(g'=gb∨∃z,g'=some z∧w.heap.size<=z)->OW P n ops K rest (bM e dst (.slice a' (bs++[f]).length cap')) w'):
  OW P n ops K (⟨dst,.call {callee:=.builtin .append,args:=#[x,y],argTypes:=#[t,t]},ty,pos,after,g⟩::rest) e w:=by
 obtain⟨i,hi,uO,fC,wQ⟩:=hE.get
 have zR:bytes<=1000:=Nat.le_of_ble_eq_true fK
 have H6:(bs.length+1)*bytes<=140737488355328:=Nat.le_trans (Nat.mul_le_mul (show bs.length+1<=100000000 by omega) zR) de
 obtain⟨v',g',w',jM,dv,hk,kz⟩:=P7 (P:=P) (w:=w) (ty:=ty) hT hi uO fC wQ (Nat.eq_of_beq_eq_true hz) hP.own b 0 1 1 [str f.aM,.slice a1 n1 c1,.slice a2 n2 c2] rfl (by have:=hb.all;simpa using this)
  (by intro u hu;simp at hu;rcases hu with rfl|rfl|rfl<;>rfl) de (by unfold maxLen;omega) H6
 have xP:iH w' E 3 v' g' (bs++[f]).length (vss++[[str f.aM,.slice a1 n1 c1,.slice a2 n2 c2]]).flatten:=by
  simpa using dv
 obtain⟨a',cap',he⟩:=xP.len
 subst he
 have H3:=(List.nodup_append.1 hP.nodup)
 have XV:∀x,x∈iV gs->x<w.heap.size:=λx hx=>by
  simp only[iV,mA] at hx
  rcases hx with hx|hx
  ·exact iH.lt h1 x (by simpa using hx)
  ·exact iH.lt h2 x (by simpa using hx)
 refine eQ hg hd (w':=w') (by
  simp only[execOp,resolve,invoke,builtin,Sem.run_bind,Sem.run_pure,Result.andThen_ok,List.map_toArray,List.map_cons,List.map_nil,hx,hy,jM]) (k a' cap' g' w' ⟨xP,?_,?_,?_⟩ hk (kz.imp id λh=>⟨_,h,lR _⟩))
 ·refine iL.snoc (hP.rows.aF hk λx hx hg=>H3.2.2 x hg x hx rfl) ⟨_,_,rfl,h1.aF hk λb hb hx=>?_,h2.aF hk λb hb hx=>?_⟩
  ·exact nv b (by simp[iV,hb]) (by simp at hx;simp[hx])
  ·exact nv b (by simp[iV,hb]) (by simp at hx;simp[hx])
 ·rw[MW,<-List.append_assoc]
  refine List.nodup_append.2 ⟨List.nodup_append.2 ⟨by cases g'<;>simp,H3.2.1,λa ha c hc=>?_⟩,iS,λa ha c hc=>?_⟩
  ·rintro rfl
   rcases kz with h|h
   ·rw[h] at ha;exact H3.2.2 a ha a hc rfl
   ·rw[h] at ha;simp at ha;have:=hP.lt a hc;omega
  ·rintro rfl
   rcases mA.1 ha with ha|ha
   ·rcases kz with h|h
    ·rw[h] at ha;exact nv a hc (by simp at ha;simp[ha])
    ·rw[h] at ha;simp at ha;have:=XV a hc;omega
   ·exact nv a hc (by simp[ha])
 ·intro x hx
  rw[MW,mA] at hx
  rcases hx with hx|hx
  ·exact lL (hP.lt x hx) hk.size
  ·exact lL (XV x hx) hk.size
theorem iL.PG {w:World} {T:TypeId}:∀{gss:List (Option Nat×Option Nat)} {vss:List (List Value)} {bs:List Bk} {i:Nat} {g:Option Nat×Option Nat} {v:List Value} {f:Bk},iL w T gss vss bs->qd w' T g v f->
  (∀(g2:Option Nat×Option Nat) (v2:List Value) (b2:Bk),(∀x,x∈iV g2->x∈gx gss)->qd w T g2 v2 b2->qd w' T g2 v2 b2)->iL w' T (gss.set i g) (vss.set i v) (bs.set i f)
 |[],[],[],i,g,v,f,_,_,_=>trivial
 |g0::gs,v0::vs,b0::bs,0,g,v,f,h,hf,hk=>by
  refine⟨hf,?_⟩
  have:=iL.PG (i:=gs.length) (g:=g) (v:=v) (f:=f) h.2 hf λg2 v2 b2 hg ho=>hk g2 v2 b2 (λx hx=>by rw[Jh];exact mR _ (hg x hx)) ho
  have hl:=iL.lens h.2
  rwa [List.set_eq_of_length_le om,List.set_eq_of_length_le om,List.set_eq_of_length_le om] at this
 |g0::gs,v0::vs,b0::bs,i+1,g,v,f,h,hf,hk=>
  ⟨hk g0 v0 b0 (λx hx=>by rw[Jh];exact List.mem_append_left _ hx) h.1,iL.PG h.2 hf λg2 v2 b2 hg ho=>hk g2 v2 b2 (λx hx=>by rw[Jh];exact mR _ (hg x hx)) ho⟩
theorem amT {T TB TS bytes:Nat} {z:Value} {v:Value} {gb:Option Nat} {gss:List (Option Nat×Option Nat)} {vss:List (List Value)} {bs:List Bk} {a2:Option Addr} {n2 c2:Nat} {g2:Option Nat} {ys:List ai} {L:List Nat} {o i:Nat} (jN:TI P T 1 bytes z) (hg:gate ops e g=true) (hx:ev e x= .pointer (some ⟨b,o,none⟩)) (hy:ev e y= .slice a2 n2 c2) (ho:o=i*3+2) 
  (hO:lZ w TB TS v gb gss vss bs) (oh:gb=some b) (hi:i<bs.length) (h2:cG w TS (.slice a2 n2 c2) g2 ys) (nv:∀x,x∈g2.toList->x∉gb.toList) (hL:∀x,x∈gb.toList++gx gss++g2.toList->x∉L)
  (k:∀w',aj gb.toList w w'->(∃xs,gO L w' TB 3 v gb ((bs.set i {bR bs i with code:=ys}).map Bk.enc) xs)->w'.heap.size=w.heap.size->OW P n ops K rest e w'):OW P n ops K (⟨none,.store T x y,ty,pos,after,g⟩::rest) e w:=by
 subst ho
 have hd:=List.nodup_append.1 hO.nodup
 have dv:=hO.own
 obtain⟨gs,vs,jm,aW,v1,v2,MV,cV,dm⟩:=hO.rows.get (pC hi)
 obtain⟨fl,iy,wU⟩:=hO.rows.lens
 subst oh
 obtain⟨hl,h|⟨b',cap,cur,oh,hv,hb,ml,lU,bZ,ht⟩⟩:=dv
 ·obtain⟨_,_,h⟩:=h;cases h
 ·cases oh
  subst hv
  refine KZ jN rfl hg hx hy rfl hb (by rw[bZ];omega) λw' hk gN hz=>?_
  have mE:(vss.set i [str (bR bs i).aM,v1,.slice a2 n2 c2]).flatten=vss.flatten.set (i*3+2) (.slice a2 n2 c2):=by
   have:=TX (a:=.slice a2 n2 c2) (j:=2) wU aW de
   rw[this,MV];rfl
  have jn:∀x,x∈gx gss->x∉[b]:=λq hq h=>by simp at h;subst h;exact hd.2.2 q sm q hq rfl
  have gZ:qd w' TS (gs.1,g2) [str (bR bs i).aM,v1,.slice a2 n2 c2] {bR bs i with code:=ys}:=
   ⟨v1,_,rfl,cV.aF hk (λb hb=>jn b (Cq jm (by simp[iV,hb]))),h2.aF hk (λb hb hx=>nv b (by simp[hb]) (by simpa using hx))⟩
  have amU:=iL.PG (i:=i) hO.rows gZ λg2 v2 b2 iO ho=>ho.aF hk λx hx=>jn x (iO x hx)
  have rO:∀x,x∈gx (gss.set i (gs.1,g2))->x∈gx gss∨x∈g2.toList:=λx hx=>by
   simp only[gx,List.mem_flatMap] at hx⊢
   obtain⟨q,hq,PH⟩:=hx
   rcases List.mem_or_eq_of_mem_set hq with h|h
   ·exact .inl ⟨q,h,PH⟩
   ·subst h
    simp only[iV,mA] at PH
    rcases PH with h|h
    ·exact .inl ⟨gs,List.mem_of_getElem? jm,by simp only[iV,mA];exact .inl h⟩
    ·exact .inr h
  have H3:∀x,x∈gx (gss.set i (gs.1,g2))->x≠b:=λx hx e=>by
   rcases rO x hx with h|h
   ·exact jn x h (by simp[e])
   ·exact nv x h (by simp[e])
  refine k w' (by simpa using hk) ?_ hz
  refine⟨(vss.set i [str (bR bs i).aM,v1,.slice a2 n2 c2]).flatten,⟨?_,.inr ⟨b,_,_,rfl,sm,gN,by simpa using ml,lU,by simpa using bZ,?_⟩⟩,amU.BX λx hx hc=>?_,?_,λc hc=>hL c (by simp[hc])⟩
  ·rw[mE,List.length_set,hl,List.length_map,List.length_set]
  ·rw[Array.toList_setIfInBounds,List.length_map,List.length_set,List.take_set,ht,mE]
  ·rcases mA.1 hc with hc|hc
   ·simp at hc;exact H3 x hx hc
   ·rcases rO x hx with h|h
    ·exact hL x (by simp[h]) hc
    ·exact hL x (by simp[h]) hc
  ·intro row hr
   obtain⟨c,_,rfl⟩:=List.mem_map.1 hr
   rfl
end
def vX (bs bs':List Bk):Prop:=bs'.length=bs.length∧∀i,i<bs.length->(bR bs' i).aM=(bR bs i).aM∧(bR bs' i).bY=(bR bs i).bY∧(bR bs' i).code.length<=(bR bs i).code.length∧∀x,x∈(bR bs' i).code->x∈(bR bs i).code∨sr x=true
theorem vX.refl (bs:List Bk):vX bs bs:=⟨rfl,λ_ _=>⟨rfl,rfl,lR _,λ_ h=>.inl h⟩⟩
theorem amV {j:Nat} {f:Bk} (hi:i<bs.length):bR (bs.set i f) j=if j=i then f else bR bs j:=by
 unfold bR
 rw[gG,gG,List.getElem?_set]
 by_cases h:i=j
 ·subst h;simp[hi]
 ·rw[iN h,iN (λe=>h e.symm)]
theorem vX.set {cs:List Bk} (h:vX bs cs) (hi:i<bs.length) (hl:ys.length<=(bR bs i).code.length) (hy:∀x,x∈ys->x∈(bR bs i).code∨sr x=true):vX bs (cs.set i {bR cs i with code:=ys}):=by
 refine⟨by rw[List.length_set];exact h.1,λj hj=>?_⟩
 rw[amV (by rw[h.1];exact hi)]
 by_cases e:j=i
 ·subst e
  rw[iP rfl]
  obtain⟨h1,h2,_,_⟩:=h.2 j hj
  exact⟨h1,h2,hl,hy⟩
 ·rw[iN e];exact h.2 j hj
def Fj:List ai:=[[48],[49],[45,55],[57,57,57]]
def PI:List ai:=[[97,100,100],[115,117,98],[109,117,108]]
def PJ:List ai:=[[48],[49],[50]]
def PK:List ai:=[[109,97,105,110],[98,48],[98,49],[101,110,100]]
def PL:List ai:=[[40,101,32,118,41,32,105],[40,101,32,40,116,32,118,32,118,41,41,32,105],[40,101,32,40,116,32,40,99,32,118,32,105,41,32,118,41,41,32,40,116,41],[40,101,32,118,41,32,40,116,32,105,32,105,41]]
def PM:List ai:=[[98,48],[98,49],[109,97,105,110]]
def PN:List ai:=[[40,104,97,108,116,32,52,48,41],[40,99,111,110,115,116,32,49,32,120,41],[40,109,111,118,32,49,41],[40,110,101,119,41],[40,112,97,99,107,32,49,32,50,32,105,32,105,41],[],[40,103,101,116,32,49,32,50,32,45,49,41],[40,122,101,114,111,32,49,32,50,41],[40,108,97,98,32,48,32,109,97,105,110,41],[40,104,97,108,116,32,48,41]]
theorem amW (br q:Nat) (hq:q<=900000000) (w:World) (h:dD w br q):
  bz Tryz.prog 43 [.pointer (some ⟨br,0,none⟩)] w λr w'=>(∃x,r=str x∧x.length<=100)∧dD w' br (q+5)∧aj [br] w w':=by
 refine bS [.tmp 2] 133 Tryz.func43 rfl aax rfl rfl ?_
 refine W ?_
 refine aA (H0 br (q+0) om w h) ?_
 rintro v7 w1 ⟨⟨za,XJ,e7⟩,h,bW⟩
 have hxA:∃x,x=aT za:=⟨_,rfl⟩
 obtain⟨tA,etA⟩:=hxA
 rw[<-etA] at e7
 subst e7
 have WB:tA.length<=3:=(by rw[etA];exact sN om)
 have aB:=bW
 refine W ?_
 refine aA (H0 br (q+1) om w1 h) ?_
 rintro v7 w2 ⟨⟨zb,XK,e7⟩,h,bW⟩
 have hxB:∃x,x=aT zb:=⟨_,rfl⟩
 obtain⟨tB,etB⟩:=hxB
 rw[<-etB] at e7
 subst e7
 have WC:tB.length<=3:=(by rw[etB];exact sN om)
 have aB:=aB.trans bW
 refine W ?_
 refine aA (H0 br (q+2) om w2 h) ?_
 rintro v7 w3 ⟨⟨zd,hzd,e7⟩,h,bW⟩
 have hxD:∃x,x=aT zd:=⟨_,rfl⟩
 obtain⟨tD,etD⟩:=hxD
 rw[<-etD] at e7
 subst e7
 have hlD:tD.length<=3:=(by rw[etD];exact sN om)
 have aB:=aB.trans bW
 refine W ?_
 refine aA (lQ 14 de de br (q+3) om w3 h) ?_
 rintro Hk w4 ⟨⟨z,Hx,hz⟩,h,gv⟩
 subst Hx
 have aB:=aB.trans gv
 have lS:=h.lt
 refine W ?_
 refine zc rfl (λh1=>?_) (λh1=>?_)
 refine gY<|zc rfl (λh2=>?_) (λh2=>?_)
 refine W ?_
 refine yj bh bf rfl rfl rfl rfl rfl rfl λw5 aN vC ig=>bI aN h aB λh aB=>?_
 refine aA (mi Fj de de br (q+4) om _ w5 h (aJ.dK Fj vC (λhx=>by simp at hx;omega) de)) ?_
 rintro l9 w6 ⟨⟨x1,ik,gS⟩,h,dA⟩
 subst gS
 have aB:=aB.trans dA
 have eu:=(show∀x,x∈Fj->x.length<=30 from by decide) _ ik
 refine W ?_
 exact⟨_,rfl,⟨_,rfl,by simp;omega⟩,h.more om,aB⟩
 omega
 refine W ?_
 refine zc rfl (λh3=>?_) (λh3=>?_)
 refine W ?_
 refine yj bh bf rfl rfl rfl rfl rfl rfl λw5 aN vC ig=>bI aN h aB λh aB=>?_
 refine aA (mi Fj de de br (q+4) om _ w5 h (aJ.dK Fj vC (λhx=>by simp at hx;omega) de)) ?_
 rintro l9 w6 ⟨⟨x1,ik,gS⟩,h,dA⟩
 subst gS
 have aB:=aB.trans dA
 have eu:=(show∀x,x∈Fj->x.length<=30 from by decide) _ ik
 refine W ?_
 exact⟨_,rfl,⟨_,rfl,by simp;omega⟩,h.more om,aB⟩
 refine W ?_
 refine zc rfl (λh4=>?_) (λh4=>?_)
 refine W ?_
 exact⟨_,rfl,⟨_,rfl,by simp;omega⟩,h.more om,aB⟩
 refine W ?_
 refine zc rfl (λh5=>?_) (λh5=>?_)
 refine zr<|zm<|pO bh bf rfl rfl rfl rfl rfl λw5 aN vN ig=>bI aN h aB λh aB=>?_
 refine aA (mi PI de de br (q+4) om _ w5 h (aJ.dK PI vN (λhx=>by simp at hx;omega) de)) ?_
 rintro l9 w6 ⟨⟨x1,ik,gS⟩,h,dA⟩
 subst gS
 have aB:=aB.trans dA
 have eu:=(show∀x,x∈PI->x.length<=30 from by decide) _ ik
 refine W ?_
 exact⟨_,rfl,⟨_,rfl,by simp;omega⟩,h.more om,aB⟩
 refine W ?_
 refine zc rfl (λh6=>?_) (λh6=>?_)
 refine W ?_
 exact⟨_,rfl,⟨_,rfl,by simp;omega⟩,h.more om,aB⟩
 refine W ?_
 refine zc rfl (λh7=>?_) (λh7=>?_)
 refine W ?_
 exact⟨_,rfl,⟨_,rfl,by simp;omega⟩,h.more om,aB⟩
 refine W ?_
 refine zc rfl (λh8=>?_) (λh8=>?_)
 refine W ?_
 refine pO bh bf rfl rfl rfl rfl rfl λw5 aN OE ig=>bI aN h aB λh aB=>?_
 refine aA (mi PJ de de br (q+4) om _ w5 h (aJ.dK PJ OE (λhx=>by simp at hx;omega) de)) ?_
 rintro l9 w6 ⟨⟨x1,ik,gS⟩,h,dA⟩
 subst gS
 have aB:=aB.trans dA
 have eu:=(show∀x,x∈PJ->x.length<=30 from by decide) _ ik
 refine W ?_
 exact⟨_,rfl,⟨_,rfl,by simp;omega⟩,h.more om,aB⟩
 refine W ?_
 refine zc rfl (λh9=>?_) (λh9=>?_)
 refine W ?_
 refine yj bh bf rfl rfl rfl rfl rfl rfl λw5 aN EX ig=>bI aN h aB λh aB=>?_
 refine aA (mi PK de de br (q+4) om _ w5 h (aJ.dK PK EX (λhx=>by simp at hx;omega) de)) ?_
 rintro l9 w6 ⟨⟨x1,ik,gS⟩,h,dA⟩
 subst gS
 have aB:=aB.trans dA
 have eu:=(show∀x,x∈PK->x.length<=30 from by decide) _ ik
 refine W ?_
 exact⟨_,rfl,⟨_,rfl,by simp;omega⟩,h.more om,aB⟩
 refine W ?_
 refine zc rfl (λfO=>?_) (λfO=>?_)
 refine W ?_
 refine yj bh bf rfl rfl rfl rfl rfl rfl λw5 aN Gw ig=>bI aN h aB λh aB=>?_
 refine aA (mi PL de de br (q+4) om _ w5 h (aJ.dK PL Gw (λhx=>by simp at hx;omega) de)) ?_
 rintro l9 w6 ⟨⟨x1,ik,gS⟩,h,dA⟩
 subst gS
 have aB:=aB.trans dA
 have eu:=(show∀x,x∈PL->x.length<=30 from by decide) _ ik
 refine W ?_
 exact⟨_,rfl,⟨_,rfl,by simp;omega⟩,h.more om,aB⟩
 refine W ?_
 refine zc rfl (λoU=>?_) (λoU=>?_)
 refine W ?_
 exact⟨_,rfl,⟨_,rfl,by simp;omega⟩,h.more om,aB⟩
 refine W ?_
 refine zc rfl (λkC=>?_) (λkC=>?_)
 refine W ?_
 refine pO bh bf rfl rfl rfl rfl rfl λw5 aN Kq ig=>bI aN h aB λh aB=>?_
 refine aA (mi PM de de br (q+4) om _ w5 h (aJ.dK PM Kq (λhx=>by simp at hx;omega) de)) ?_
 rintro l9 w6 ⟨⟨x1,ik,gS⟩,h,dA⟩
 subst gS
 have aB:=aB.trans dA
 have eu:=(show∀x,x∈PM->x.length<=30 from by decide) _ ik
 refine W ?_
 exact⟨_,rfl,⟨_,rfl,by simp;omega⟩,h.more om,aB⟩
 refine W ?_
 refine zc rfl (λoV=>?_) (λoV=>?_)
 refine W ?_
 refine kL bh bf rfl rfl rfl rfl λw5 aN NP ig=>bI aN h aB λh aB=>?_
 refine aA (mi [[40,106,117,109,112,32]++tA++[41],[40,104,97,108,116,32]++tA++[41]] sm sm br (q+4) om _ w5 h (aJ.dK [[40,106,117,109,112,32]++tA++[41],[40,104,97,108,116,32]++tA++[41]] NP (λhx=>by simp at hx;omega))) ?_
 rintro l9 w6 ⟨⟨x1,ik,gS⟩,h,dA⟩
 subst gS
 have aB:=aB.trans dA
 have eu:x1.length<=30:=(by simp only[mC,List.not_mem_nil,or_false] at ik;rcases ik with rfl|rfl<;>simp<;>omega)
 refine W ?_
 exact⟨_,rfl,⟨_,rfl,om⟩,h.more om,aB⟩
 refine gY<|zr<|zm<|afU bh bf rfl rfl rfl rfl rfl rfl rfl rfl rfl rfl rfl rfl λw5 aN am0 ig=>bI aN h aB λh aB=>?_
 refine aA (mi PN de de br (q+4) om _ w5 h (aJ.dK PN am0 (λhx=>by simp at hx;omega) de)) ?_
 rintro l9 w6 ⟨⟨x1,ik,gS⟩,h,dA⟩
 subst gS
 have aB:=aB.trans dA
 have eu:=(show∀x,x∈PN->x.length<=30 from by decide) _ ik
 refine W ?_
 exact⟨_,rfl,⟨_,rfl,om⟩,h.more om,aB⟩
def KT:List ai:=[[105],[105],[40,116,41],[40,116,32,105,32,105,41],[40,101,32,118,41]]
theorem am1 {α:Type} {l:List α} (h:l.length=7):∃a b c d e f g,l=[a,b,c,d,e,f,g]:=by
 match l,h with|[a,b,c,d,e,f,g],_=>exact⟨a,b,c,d,e,f,g,rfl⟩
structure PO (b:Bk) (aM:ai):Prop where
 aM:b.aM=aM
 regs:b.bY.length<=10∧∀x,x∈b.bY->x.length<=100
 code:1<=b.code.length∧b.code.length<=10∧∀x,x∈b.code->x.length<=100
structure rB (br:Nat) (w:World) (b6 b7:Nat) (aM:ai) (v1:Value) (g1:Option Nat) (xs:List ai) (v2:Value) (g2:Option Nat) (ys:List ai) (q:Nat) (ww:World):Prop where
 box:aJ ww b7 [str aM,v1,v2].toArray 39
 res:aJ ww b6 [str [],.slice none 0 0,.slice none 0 0].toArray 39
 o1:cG ww 9 v1 g1 xs
 o2:cG ww 9 v2 g2 ys
 rd:dD ww br q
 kp:aj [br] w ww
 f1:∀x,x∈g1.toList->w.heap.size<=x∧x≠b6∧x≠b7∧x∉g2.toList
 f2:∀x,x∈g2.toList->w.heap.size<=x∧x≠b6∧x≠b7∧x∉g1.toList
theorem rB.ext {br:Nat} {aM:ai} {ww:World} (h:rB br w b6 b7 aM v1 g1 xs v2 g2 ys q ww) (k:aj [] ww w'):rB br w b6 b7 aM v1 g1 xs v2 g2 ys q w':=
 ⟨h.box.ext k,h.res.ext k,h.o1.ext k,h.o2.ext k,h.rd.ext k,h.kp.ext k,h.f1,h.f2⟩
theorem rB.Hy {br:Nat} {aM:ai} {ww wx:World} {zs:List ai} (h:rB br w b6 b7 aM v1 g1 xs v2 g2 ys q ww) (iq:br<w.heap.size) (h6:w.heap.size<=b6) (h7:w.heap.size<=b7) (PQ:b6≠b7) (hO:cG wx 9 v g zs) (eI:dD wx br q') (k:aj (br::g1.toList) ww wx) (hg:g=g1∨∃z,g=some z∧ww.heap.size<=z) (k2:aj [b7] wx w') (hb:aJ w' b7 [str aM,v,v2].toArray 39):rB br w b6 b7 aM v g zs v2 g2 ys q' w':=by
 have iO:∀x,x∈g.toList->x∈g1.toList∨ww.heap.size<=x:=λx hx=>by
  rcases hg with rfl|⟨z,rfl,hz⟩
  ·exact .inl hx
  ·simp at hx;right;omega
 have s7:=h.box.lt
 have s6:=h.res.lt
 have fC:=h.kp.size
 have f1:∀x,x∈g.toList->w.heap.size<=x∧x≠b6∧x≠b7∧x∉g2.toList:=λx hx=>by
  rcases iO x hx with h9|h9
  ·exact h.f1 x h9
  ·exact⟨by omega,om,om,λhy=>by have:=h.o2.lt x hy;omega⟩
 have n6:b6∉br::g1.toList:=λhx=>by
  rcases mC.1 hx with h9|h9
  ·omega
  ·exact(h.f1 b6 h9).2.1 rfl
 refine⟨hb,(h.res.aF k n6).aF k2 (by simpa using PQ),hO.aF k2 (λx hx hy=>(f1 x (by simp[hx])).2.2.1 (by simpa using hy)),(h.o2.aF k (λx hx hy=>?_)).aF k2 (λx hx hy=>(h.f2 x (by simp[hx])).2.2.1 (by simpa using hy)),eI.aF k2 (λx hx=>by simp at hx;omega),?_,f1,λx hx=>⟨(h.f2 x hx).1,(h.f2 x hx).2.1,(h.f2 x hx).2.2.1,λhy=>(f1 x hy).2.2.2 hx⟩⟩
 ·rcases mC.1 hy with h9|h9
  ·have:=(h.f2 x (by simp[hx])).1;omega
  ·exact(h.f2 x (by simp[hx])).2.2.2 h9
 ·refine(h.kp.since k λx hx=>?_).since k2 λx hx=>.inr (by simp at hx;omega)
  rcases mC.1 hx with h9|h9
  ·exact .inl (by simp[h9])
  ·exact .inr (h.f1 x h9).1
theorem rB.A5 {br:Nat} {aM:ai} {ww wx:World} {zs:List ai} (h:rB br w b6 b7 aM v1 g1 xs v2 g2 ys q ww) (iq:br<w.heap.size) (h6:w.heap.size<=b6) (h7:w.heap.size<=b7) (PQ:b6≠b7) (hO:cG wx 9 v g zs) (eI:dD wx br q') (k:aj (br::g2.toList) ww wx) (hg:g=g2∨∃z,g=some z∧ww.heap.size<=z) (k2:aj [b7] wx w') (hb:aJ w' b7 [str aM,v1,v].toArray 39):rB br w b6 b7 aM v1 g1 xs v g zs q' w':=by
 have iO:∀x,x∈g.toList->x∈g2.toList∨ww.heap.size<=x:=λx hx=>by
  rcases hg with rfl|⟨z,rfl,hz⟩
  ·exact .inl hx
  ·simp at hx;right;omega
 have s7:=h.box.lt
 have s6:=h.res.lt
 have fC:=h.kp.size
 have f1:∀x,x∈g.toList->w.heap.size<=x∧x≠b6∧x≠b7∧x∉g1.toList:=λx hx=>by
  rcases iO x hx with h9|h9
  ·exact h.f2 x h9
  ·exact⟨by omega,om,om,λhy=>by have:=h.o1.lt x hy;omega⟩
 have n6:b6∉br::g2.toList:=λhx=>by
  rcases mC.1 hx with h9|h9
  ·omega
  ·exact(h.f2 b6 h9).2.1 rfl
 refine⟨hb,(h.res.aF k n6).aF k2 (by simpa using PQ),(h.o1.aF k (λx hx hy=>?_)).aF k2 (λx hx hy=>(h.f1 x (by simp[hx])).2.2.1 (by simpa using hy)),hO.aF k2 (λx hx hy=>(f1 x (by simp[hx])).2.2.1 (by simpa using hy)),eI.aF k2 (λx hx=>by simp at hx;omega),?_,λx hx=>⟨(h.f1 x hx).1,(h.f1 x hx).2.1,(h.f1 x hx).2.2.1,λhy=>(f1 x hy).2.2.2 hx⟩,f1⟩
 ·rcases mC.1 hy with h9|h9
  ·have:=(h.f1 x (by simp[hx])).1;omega
  ·exact(h.f1 x (by simp[hx])).2.2.2 h9
 ·refine(h.kp.since k λx hx=>?_).since k2 λx hx=>.inr (by simp at hx;omega)
  rcases mC.1 hx with h9|h9
  ·exact .inl (by simp[h9])
  ·exact .inr (h.f2 x h9).1
theorem rB.call {br:Nat} {aM:ai} {ww:World} (h:rB br w b6 b7 aM v1 g1 xs v2 g2 ys q ww) (iq:br<w.heap.size) (h6:w.heap.size<=b6) (h7:w.heap.size<=b7) (eI:dD w' br q') (k:aj [br] ww w'):rB br w b6 b7 aM v1 g1 xs v2 g2 ys q' w':=
 ⟨h.box.aF k so,h.res.aF k so,h.o1.aF k (λx hx hy=>by have:=(h.f1 x (by simp[hx])).1;simp at hy;omega),h.o2.aF k (λx hx hy=>by have:=(h.f2 x (by simp[hx])).1;simp at hy;omega),eI,h.kp.trans k,h.f1,h.f2⟩
theorem PR (aM:ai) (k:Nat) (hk:k<=10) (br q:Nat) (hq:q<=800000000) (w:World) (h:dD w br q):
  bz Tryz.prog 24 [.pointer (some ⟨br,0,none⟩),str aM,.int .i64 (k:Int)] w λr w'=>(∃bk,PO bk aM∧∀L:List Nat,(∀x,x∈L->x<w.heap.size)->qP L w' r bk)∧dD w' br (q+100)∧aj [br] w w':=by
 have iq:=h.lt
 have hK:=aj.refl [] w
 refine kW [.cell 6 39] 64 Tryz.func24 rfl aac rfl rfl rfl ?_
 refine zr<|dx fU rfl rfl rfl λw1 aI bL kI=>?_
 have hK:=hK.ext aI
 refine aZ<|zr<|zm<|fR bh bf λw2 az lI Hl=>bI az hK bL λhK bL=>?_
 refine fR bh bf λw3 aH xi C3=>cN aH hK bL lI λhK bL lI=>?_
 refine js (Ip _ _ _ _ _ _ _ _) rfl rfl<|dx fU rfl rfl rfl λw4 aO cM oX=>ie aO hK bL lI xi λhK bL lI xi=>?_
 refine cJ fU rfl rfl rfl cM rfl λw5 aN cM df=>?_
 have hK:=hK.since aN (λx hx=>.inr (by simp at hx;omega))
 have bL:=bL.aF aN so
 have lI:=lI.aF aN so
 have xi:=xi.aF aN so
 have hS:rB br w w.heap.size w3.heap.size aM (.slice (some ⟨w1.heap.size,0,none⟩) 0 0) (some w1.heap.size) [] (.slice (some ⟨w2.heap.size,0,none⟩) 0 0) (some w2.heap.size) [] q w5:=⟨cM,bL,lI.kM,xi.kM,h.ext hK,hK.any,λx hx=>by simp at hx;subst hx;simp;omega,λx hx=>by simp at hx;subst hx;simp;omega⟩
 refine W ?_
 refine eA (λi:Nat=>[(0,.pointer (some ⟨br,0,none⟩)),(6,.pointer (some ⟨w.heap.size,0,none⟩)),(7,.pointer (some ⟨w3.heap.size,0,none⟩)),(2,.int .i64 (k:Int)),(8,.int .i64 (i:Int))]) (λi ww=>i<=k∧∃v1 g1 xs v2 g2,rB br w w.heap.size w3.heap.size aM v1 g1 xs v2 g2 [] (q+i) ww∧xs.length=i∧∀x,x∈xs->x.length<=100) (λi=>k-i) (0) (⟨rfl,rfl,rfl,rfl,rfl⟩) (⟨Nat.zero_le _,_,_,_,_,_,hS,rfl,sm⟩) λgg w6 e6 hI=>?_
 obtain⟨hi,v1,g1,xs,v2,g2,hS,XW,uA⟩:=hI
 refine W ?_
 refine zc rfl (λh1=>?_) (λh1=>?_)
 have lN:gg<k:=(by simp at h1;omega)
 have bZ:=jS hS.o1
 obtain⟨a1,c1,e1⟩:=bZ
 subst e1
 have am2:br∉g1.toList:=(λhx=>by have:=(hS.f1 br hx).1;omega)
 have bg:dM (br::g1.toList) w6 w3.heap.size [str aM,.slice a1 xs.length c1,v2].toArray 39:=⟨hS.box,λhx=>by rcases mC.1 hx with h9|h9;(·omega);(·exact(hS.f1 _ h9).2.2.1 rfl)⟩
 have uj:=bg.out
 have pU:eO (br::g1.toList) w6:=(λz hz=>by rcases mC.1 hz with h9|h9;(·rw[h9];exact hS.rd.lt);(·exact hS.o1.lt z h9))
 refine WZ ?_
 apply jF dj ((br::g1.toList)) 7 (rA 21 7) (rA 21 7) [[],[0],[],[],[2,3],[4],[1,5]] [Ie.v _,Ie.v _,Ie.v _,Ie.p (fun(G:List Nat) (v:Value) (ww:World)=>bc G ww v KT),Ie.e 0,Ie.e 1,Ie.e 2] [4,5,6] [fun(G:List Nat) (vs:List Value) (ww:World)=>G=br::g1.toList∧aj [] w6 ww,fun(G:List Nat) (vs:List Value) (ww:World)=>G=br::g1.toList∧aj [br] w6 ww∧dD ww br (q+gg+1)∧∃x,vs.getD 0 undef=str x∧x.length<=100,fun(G:List Nat) (vs:List Value) (ww:World)=>G=br::g1.toList∧aj [br] w6 ww∧dD ww br (q+gg+1)∧∃x bb,vs.getD 0 undef=str x∧x.length<=100∧vs.getD 1 undef= .slice (some ⟨bb,0,none⟩) 1 1∧aJ ww bb [str x].toArray 9,fun(G:List Nat) (vs:List Value) (ww:World)=>aj (br::g1.toList) w6 ww∧dD ww br (q+gg+1)∧∃x g9,x.length<=100∧cG ww 9 (vs.getD 2 undef) g9 (xs++[x])∧(g9=g1∨∃z,g9=some z∧w6.heap.size<=z)] de rfl pU (by exact⟨λG v w G' w' h k=>bc.go h k,trivial⟩) (by exact⟨λG vs w w' ⟨h1,h2⟩ k=>⟨h1,h2.ext k⟩,λG vs w w' ⟨h1,h2,h3,h4⟩ k=>⟨h1,h2.ext k,h3.ext k,h4⟩,λG vs w w' ⟨h1,h2,h3,x,bb,h4,h5,h6,h7⟩ k=>⟨h1,h2.ext k,h3.ext k,x,bb,h4,h5,h6,h7.ext k⟩,λG vs w w' ⟨h1,h2,x,g9,h3,h4,h5⟩ k=>⟨h1.ext k,h2.ext k,x,g9,h3,h4.ext k,h5⟩,trivial⟩) (⟨rfl,aj.refl _ _⟩)
 refine FA ?_
 refine vf (λx w7 G7 aS mQ lj=>?_) ?_
 refine Ub bh bf rfl rfl rfl rfl rfl rfl rfl λw8 cE yJ ld=>?_
 exact ff cE ((aJ.dK KT yJ (λhx=>by have:=lj _ hx;omega) de))
 refine ve 0 (λx w7 G7 aS mQ lj hJ hlen=>?_) ?_
 have aW:=jg hlen
 subst aW
 intro v3 d3
 obtain⟨bO,bP⟩:=hJ
 subst bO
 have eI:=hS.rd.ext bP
 refine aA (mi KT de de br (q+gg) om _ w7 eI (bc.fresh d3 (λx hx=>.inl (by simp at hx;simp[hx])))) ?_
 rintro v25 w8 ⟨⟨x1,ik,Oe⟩,eI,HB⟩
 subst Oe
 have fl:=(show∀x,x∈KT->x.length<=100 from by decide) _ ik
 exact fe _ (Fr.of HB sm) ((λz hz=>lL (lj z hz) HB.size)) (⟨rfl,bP.any.trans HB,eI,x1,rfl,fl⟩)
 refine ve 1 (λx w7 G7 aS mQ lj hJ hlen=>?_) ?_
 have aQ:=jh hlen
 obtain⟨q0,aW⟩:=aQ
 subst aW
 obtain⟨bO,bP,eI,x1,e1,fl⟩:=hJ
 subst bO
 have e2:q0=_:=e1
 subst e2
 refine fc bh bf rfl rfl λw8 cE C8 ld=>?_
 exact fe _ (Fr.of cE sm) ((λz hz=>lL (lj z hz) (aj.size cE))) (⟨rfl,bP.ext cE,eI.ext cE,x1,_,rfl,fl,rfl,C8⟩)
 refine ve 2 (λx w7 G7 aS mQ lj hJ hlen=>?_) ?_
 have aQ:=k9 hlen
 obtain⟨q0,q1,aW⟩:=aQ
 subst aW
 obtain⟨bO,bP,eI,x1,bb,e1,fl,e2,fH⟩:=hJ
 subst bO
 have e3:q0=_:=e1
 subst e3
 have e4:q1=_:=e2
 subst e4
 have ho:=hS.o1.aF bP (λx hx hy=>am2 (by simp at hy;subst hy;simp[hx]))
 refine rW bh bf rfl rfl rfl rfl rfl rfl ho fH om λv9 g9 w8 cZ aB eZ=>?_
 have PS:=bP.size
 exact fe ((br::g9.toList)) (⟨aB.mono (λz hz=>mK _ hz),λz hz=>by rcases mC.1 hz with h9|h9;(·exact .inl (by simp[h9]));(·rcases eZ with h8|h8;(·rw[h8] at h9;exact .inl (mK _ h9));(·rw[h8] at h9;simp at h9;right;omega))⟩) ((λz hz=>by rcases mC.1 hz with h9|h9;(·rw[h9];exact lL eI.lt aB.size);(·exact cZ.lt z h9))) (⟨(bP.mono sm).trans (aB.mono (λz hz=>mK _ hz)),eI.aF aB (λz hz=>by have:=(hS.f1 z hz).1;omega),x1,g9,fl,cZ,eZ.imp id (λh8=>⟨_,h8,PS⟩)⟩)
 exact trivial
 intro x rN Kc aS xq Kd hJ hlen
 have aQ:=Aj hlen
 obtain⟨q0,q1,q2,aW⟩:=aQ
 subst aW
 intro v3 d3
 have bg:=bg.go xq
 change OW _ _ _ _ _ (bo (bj _ x _) (zZ 21 [_,_,_,_,_,_,_])) _
 obtain⟨ej,eI,x1,g9,fl,cZ,eZ⟩:=hJ
 have bZ:=jS cZ
 obtain⟨a9,c9,e9⟩:=bZ
 have e8:q2=_:=e9
 subst e8
 have bg:=hS.box.aF ej uj
 refine zf Lp rfl<|gd (o:=1) mu rfl rfl rfl bg rfl λwO l5 bg df=>?_
 have hS:=hS.Hy iq (lR _) om om cZ eI ej eZ l5 bg
 refine aZ<|kH<|zm<|mX rfl rfl rfl rfl rfl (kQ (gg+1) om _ om)<|zA<|aZ ?_
 exact⟨gg+1,⟨rfl,rfl,rfl,rfl,rfl⟩,⟨by omega,_,_,_,_,_,hS,by rw[lA,XW];rfl,λx hx=>by rcases mA.1 hx with h9|h9;(·exact uA x h9);(·simp only[List.mem_singleton] at h9;rw[h9];exact fl)⟩,om⟩
 have CB:=hS.rd.more (show q+gg<=q+10 from om)
 have am3:xs.length<=10:=om
 refine W ?_
 refine aA (lQ 5 de de br (q+10) om w6 CB) ?_
 rintro v30 w7 ⟨⟨n,e30,hn⟩,eI,am5⟩
 subst e30
 have hS:=hS.call iq (lR _) om eI am5
 refine W ?_
 refine eA (λj:Nat=>[(0,.pointer (some ⟨br,0,none⟩)),(6,.pointer (some ⟨w.heap.size,0,none⟩)),(7,.pointer (some ⟨w3.heap.size,0,none⟩)),(9,.int .i64 (n:Int)),(10,.int .i64 (j:Int))]) (λj ww=>j<=n∧∃v1 g1 v2 g2 ys,rB br w w.heap.size w3.heap.size aM v1 g1 xs v2 g2 ys (q+11+5*j) ww∧ys.length<=j∧∀x,x∈ys->x.length<=100) (λj=>n-j) (0) (⟨rfl,rfl,rfl,rfl,rfl⟩) (⟨Nat.zero_le _,_,_,_,_,[],hS,sm,sm⟩) λgg w8 e8 hI=>?_
 obtain⟨hj,v1,g1,v2,g2,ys,hS,hyn,PT⟩:=hI
 refine W ?_
 refine zc rfl (λh2=>?_) (λh2=>?_)
 have rK:gg<n:=om
 refine W ?_
 refine aA (amW br (q+11+5*gg) om w8 hS.rd) ?_
 rintro v37 w9 ⟨⟨x1,e37,fl⟩,eI,am7⟩
 subst e37
 have hS:=hS.call iq (lR _) om eI am7
 refine W ?_
 refine aA (Gt x1 w9) ?_
 rintro _ cu ⟨rfl,cB⟩
 have CM:=cB.size
 have hS:=hS.ext cB
 refine WZ ?_
 apply oA 4 40 44 (aj [] cu) rfl oQ
 intro _
 refine zm<|aA (I7 x1 cu) ?_
 rintro _ eD ⟨rfl,dd⟩
 have AM:=dd.size
 exact oQ
 intro xx eD dd
 have hS:=hS.ext dd
 refine aZ<|zc rfl (λh4=>?_) (λh4=>?_)
 have bZ:=jS hS.o2
 obtain⟨a2,c2,e2⟩:=bZ
 subst e2
 have bg:=hS.box
 refine W ?_
 refine fc bh bf rfl rfl λfA di Di Of=>?_
 have hS:=hS.ext di
 refine rW bh bf rfl rfl rfl rfl rfl rfl hS.o2 Di om λv9 g9 jB cZ gv eZ=>?_
 have bZ:=jS cZ
 obtain⟨a9,c9,e9⟩:=bZ
 subst e9
 have ej:aj (br::g2.toList) _ jB:=(gv).mono (λz hz=>mK _ hz)
 have am8:=hS.rd.aF gv (λz hz=>by have:=(hS.f2 z hz).1;omega)
 have bg:=hS.box.aF gv (λhx=>(hS.f2 _ hx).2.2.1 rfl)
 refine zf zH rfl<|gd (o:=2) mu rfl rfl rfl bg rfl λiG dA bg df=>?_
 have hS:=hS.A5 iq (lR _) om om cZ am8 ej (eZ.imp id (λh8=>⟨_,h8,lR _⟩)) dA bg
 refine aZ<|kH<|zm<|mX rfl rfl rfl rfl rfl (kQ (gg+1) om _ om)<|zA<|aZ ?_
 exact⟨gg+1,⟨rfl,rfl,rfl,rfl,rfl⟩,⟨by omega,_,_,_,_,_,hS,by rw[lA];simp;omega,λx hx=>by rcases mA.1 hx with h9|h9;(·exact PT x h9);(·simp only[List.mem_singleton] at h9;rw[h9];exact fl)⟩,om⟩
 refine gY<|kH<|zm<|mX rfl rfl rfl rfl rfl (kQ (gg+1) om _ om)<|zA<|aZ ?_
 exact⟨gg+1,⟨rfl,rfl,rfl,rfl,rfl⟩,⟨by omega,_,_,_,_,_,hS,om,PT⟩,om⟩
 have am9:=hS.rd.more (show q+11+5*gg<=q+31 from om)
 have bZ:=jS hS.o2
 obtain⟨a2,c2,e2⟩:=bZ
 subst e2
 have ana:br∉g2.toList:=(λhx=>by have:=(hS.f2 br hx).1;omega)
 have bg:dM (br::g2.toList) w8 w3.heap.size [str aM,v1,.slice a2 ys.length c2].toArray 39:=⟨hS.box,λhx=>by rcases mC.1 hx with h9|h9;(·omega);(·exact(hS.f2 _ h9).2.2.1 rfl)⟩
 have uj:=bg.out
 have pU:eO (br::g2.toList) w8:=(λz hz=>by rcases mC.1 hz with h9|h9;(·rw[h9];exact hS.rd.lt);(·exact hS.o2.lt z h9))
 have arO:ys.length<=4:=om
 refine WZ ?_
 apply jF dj ((br::g2.toList)) 11 (rA 51 11) (rA 51 11) [[],[0],[],[],[3],[4],[5],[6],[2,7],[8],[1,9]] [Ie.v _,Ie.v _,Ie.v _,Ie.v _,Ie.e 0,Ie.e 1,Ie.e 2,Ie.e 3,Ie.e 4,Ie.e 5,Ie.e 6] (rA 4 7) [fun(G:List Nat) (vs:List Value) (ww:World)=>G=br::g2.toList∧aj [] w8 ww,fun(G:List Nat) (vs:List Value) (ww:World)=>G=br::g2.toList∧aj [br] w8 ww∧dD ww br (q+32)∧∃x,vs.getD 0 undef=str x∧x.length<=10,fun(G:List Nat) (vs:List Value) (ww:World)=>G=br::g2.toList∧aj [br] w8 ww∧dD ww br (q+32)∧∃x,vs.getD 1 undef=str x∧x.length<=30,fun(G:List Nat) (vs:List Value) (ww:World)=>G=br::g2.toList∧aj [br] w8 ww∧dD ww br (q+32)∧∃x,vs.getD 2 undef=str x∧x.length<=40,fun(G:List Nat) (vs:List Value) (ww:World)=>G=br::g2.toList∧aj [br] w8 ww∧dD ww br (q+32)∧∃x,x.length<=40∧bc (br::g2.toList) ww (vs.getD 3 undef) [x,[40,104,97,108,116,32,48,41],[40,106,117,109,112,32,49,41]],fun(G:List Nat) (vs:List Value) (ww:World)=>G=br::g2.toList∧aj [br] w8 ww∧dD ww br (q+33)∧∃x,vs.getD 4 undef=str x∧x.length<=100,fun(G:List Nat) (vs:List Value) (ww:World)=>G=br::g2.toList∧aj [br] w8 ww∧dD ww br (q+33)∧∃x bb,x.length<=100∧vs.getD 5 undef= .slice (some ⟨bb,0,none⟩) 1 1∧aJ ww bb [str x].toArray 9,fun(G:List Nat) (vs:List Value) (ww:World)=>aj (br::g2.toList) w8 ww∧dD ww br (q+33)∧∃x g9,x.length<=100∧cG ww 9 (vs.getD 6 undef) g9 (ys++[x])∧(g9=g2∨∃z,g9=some z∧w8.heap.size<=z)] de rfl pU (by exact trivial) (by exact⟨λG vs w w' ⟨h1,h2⟩ k=>⟨h1,h2.ext k⟩,λG vs w w' ⟨h1,h2,h3,h4⟩ k=>⟨h1,h2.ext k,h3.ext k,h4⟩,λG vs w w' ⟨h1,h2,h3,h4⟩ k=>⟨h1,h2.ext k,h3.ext k,h4⟩,λG vs w w' ⟨h1,h2,h3,h4⟩ k=>⟨h1,h2.ext k,h3.ext k,h4⟩,λG vs w w' ⟨h1,h2,h3,x,h4,h5⟩ k=>⟨h1,h2.ext k,h3.ext k,x,h4,h5.ext k⟩,λG vs w w' ⟨h1,h2,h3,h4⟩ k=>⟨h1,h2.ext k,h3.ext k,h4⟩,λG vs w w' ⟨h1,h2,h3,x,bb,h4,h5,h6⟩ k=>⟨h1,h2.ext k,h3.ext k,x,bb,h4,h5,h6.ext k⟩,λG vs w w' ⟨h1,h2,x,g9,h3,h4,h5⟩ k=>⟨h1.ext k,h2.ext k,x,g9,h3,h4.ext k,h5⟩,trivial⟩) (⟨rfl,aj.refl _ _⟩)
 refine FA ?_
 refine ve 0 (λx w9 G9 aS cP mI hJ hlen=>?_) ?_
 have aW:=jg hlen
 subst aW
 obtain⟨bO,bP⟩:=hJ
 subst bO
 have eI:=am9.ext bP
 refine aA (H0 br (q+31) om w9 eI) ?_
 rintro v55 cu ⟨⟨z9,df,WD⟩,eI,Bp⟩
 subst WD
 have fl:=sN (n:=z9) om
 exact fe _ (Fr.of Bp sm) ((λz hz=>lL (mI z hz) Bp.size)) (⟨rfl,bP.any.trans Bp,eI,_,rfl,om⟩)
 refine ve 1 (λx w9 G9 aS cP mI hJ hlen=>?_) ?_
 have aQ:=jh hlen
 obtain⟨q0,aW⟩:=aQ
 subst aW
 obtain⟨bO,bP,eI,x1,e1,fl⟩:=hJ
 subst bO
 have e2:q0=_:=e1
 subst e2
 refine WZ ?_
 exact fe _ (Fr.refl _ _) mI (⟨rfl,bP,eI,_,rfl,by simp;omega⟩)
 refine ve 2 (λx w9 G9 aS cP mI hJ hlen=>?_) ?_
 have aQ:=k9 hlen
 obtain⟨q0,q1,aW⟩:=aQ
 subst aW
 obtain⟨bO,bP,eI,x1,e1,fl⟩:=hJ
 subst bO
 have e2:q1=_:=e1
 subst e2
 refine WZ ?_
 exact fe _ (Fr.refl _ _) mI (⟨rfl,bP,eI,_,rfl,by simp;omega⟩)
 refine ve 3 (λx w9 G9 aS cP mI hJ hlen=>?_) ?_
 have aQ:=Aj hlen
 obtain⟨q0,q1,q2,aW⟩:=aQ
 subst aW
 obtain⟨bO,bP,eI,x1,e1,fl⟩:=hJ
 subst bO
 have e2:q2=_:=e1
 subst e2
 refine pO bh bf rfl rfl rfl rfl rfl λcu cB MO Cg=>?_
 exact fe _ (Fr.of cB sm) ((λz hz=>lL (mI z hz) (aj.size cB))) (⟨rfl,bP.ext cB,eI.ext cB,x1,fl,aJ.dK [x1,[40,104,97,108,116,32,48,41],[40,106,117,109,112,32,49,41]] MO (λhx=>by have:=mI _ hx;omega)⟩)
 refine ve 4 (λx w9 G9 aS cP mI hJ hlen=>?_) ?_
 have aQ:=Mw hlen
 obtain⟨q0,q1,q2,q3,aW⟩:=aQ
 subst aW
 obtain⟨bO,bP,eI,x1,fl,Dy⟩:=hJ
 subst bO
 have Dy:bc (br::g2.toList) _ q3 _:=Dy
 refine aA (mi [x1,[40,104,97,108,116,32,48,41],[40,106,117,109,112,32,49,41]] sm sm br (q+32) om _ w9 eI (bc.fresh Dy (λx hx=>.inl (by simp at hx;simp[hx])))) ?_
 rintro v59 cu ⟨⟨x2,fj,e59⟩,eI,HV⟩
 subst e59
 have iy:x2.length<=100:=(by simp only[mC,List.not_mem_nil,or_false] at fj;rcases fj with rfl|rfl|rfl;(·omega);(·decide);(·decide))
 exact fe _ (Fr.of HV sm) ((λz hz=>lL (mI z hz) HV.size)) (⟨rfl,bP.trans HV,eI,x2,rfl,iy⟩)
 refine ve 5 (λx w9 G9 aS cP mI hJ hlen=>?_) ?_
 have aQ:=SG hlen
 obtain⟨q0,q1,q2,q3,q4,aW⟩:=aQ
 subst aW
 obtain⟨bO,bP,eI,x1,e1,fl⟩:=hJ
 subst bO
 have e2:q4=_:=e1
 subst e2
 refine fc bh bf rfl rfl λcu cB HC Cg=>?_
 exact fe _ (Fr.of cB sm) ((λz hz=>lL (mI z hz) (aj.size cB))) (⟨rfl,bP.ext cB,eI.ext cB,x1,_,fl,rfl,HC⟩)
 refine ve 6 (λx w9 G9 aS cP mI hJ hlen=>?_) ?_
 have aQ:=aec hlen
 obtain⟨q0,q1,q2,q3,q4,q5,aW⟩:=aQ
 subst aW
 obtain⟨bO,bP,eI,x1,bb,fl,e2,fH⟩:=hJ
 subst bO
 have e4:q5=_:=e2
 subst e4
 have ho:=hS.o2.aF bP (λx hx hy=>ana (by simp at hy;subst hy;simp[hx]))
 refine rW bh bf rfl rfl rfl rfl rfl rfl ho fH om λv9 g9 cu cZ aB eZ=>?_
 have PS:=bP.size
 exact fe ((br::g9.toList)) (⟨aB.mono (λz hz=>mK _ hz),λz hz=>by rcases mC.1 hz with h9|h9;(·exact .inl (by simp[h9]));(·rcases eZ with h8|h8;(·rw[h8] at h9;exact .inl (mK _ h9));(·rw[h8] at h9;simp at h9;right;omega))⟩) ((λz hz=>by rcases mC.1 hz with h9|h9;(·rw[h9];exact lL eI.lt aB.size);(·exact cZ.lt z h9))) (⟨(bP.mono sm).trans (aB.mono (λz hz=>mK _ hz)),eI.aF aB (λz hz=>by have:=(hS.f2 z hz).1;omega),x1,g9,fl,cZ,eZ.imp id (λh8=>⟨_,h8,PS⟩)⟩)
 exact trivial
 intro x lK JX aS EI NQ hJ hlen
 have aQ:=am1 hlen
 obtain⟨q0,q1,q2,q3,q4,q5,q6,aW⟩:=aQ
 subst aW
 have bg:=bg.go EI
 change OW _ _ _ _ _ (bo (bj _ x _) (zZ 51 [_,_,_,_,_,_,_,_,_,_,_])) _
 obtain⟨ej,eI,x1,g9,fl,cZ,eZ⟩:=hJ
 have bZ:=jS cZ
 obtain⟨a9,c9,e9⟩:=bZ
 have e8:q6=_:=e9
 subst e8
 have bg:=hS.box.aF ej uj
 refine zf zH rfl<|gd (o:=2) mu rfl rfl rfl bg rfl λoc iE bg df=>?_
 have hS:=hS.A5 iq (lR _) om om cZ eI ej eZ iE bg
 have PU:=hS.res
 have bZ:=jS hS.o1
 obtain⟨a1,c1,e1⟩:=bZ
 subst e1
 refine aZ<|zr<|zL DK fU rfl hS.box.all rfl<|cJ (vs:=[str aM,.slice a1 xs.length c1,.slice a9 (ys++[x1]).length c9]) fU rfl rfl rfl PU rfl λoe lE PU df=>?_
 have xu:=hS.o1.aF lE (λx hx hy=>(hS.f1 x (by simp[hx])).2.1 (by simpa using hy))
 have vJ:=hS.o2.aF lE (λx hx hy=>(hS.f2 x (by simp[hx])).2.1 (by simpa using hy))
 have anc:=hS.rd.aF lE (λx hx=>by simp at hx;omega)
 have da:=hS.kp.since lE (λx hx=>.inr (by simp at hx;omega))
 have cv:=(fun(L:List Nat) (hL:∀x,x∈L->x<w.heap.size)=>xu.rep (L:=L) (λx hx hy=>by have:=(hS.f1 x (by simp[hx])).1;have:=hL x hy;omega))
 have ck:=(fun(L:List Nat) (hL:∀x,x∈L->x<w.heap.size)=>vJ.rep (L:=L) (λx hx hy=>by have:=(hS.f2 x (by simp[hx])).1;have:=hL x hy;omega))
 refine W ?_
 exact⟨[_],fZ DK fU rfl PU rfl,⟨⟨aM,xs,ys++[x1]⟩,⟨rfl,⟨am3,uA⟩,⟨by simp,by simp;omega,λx hx=>by rcases mA.1 hx with h9|h9;(·exact PT x h9);(·simp only[List.mem_singleton] at h9;rw[h9];exact fl)⟩⟩,λL hL=>⟨_,rfl,⟨.val _,cv L hL,ck L hL,trivial⟩⟩⟩,anc.more om,da⟩
theorem XX (t:aq):t.ak.length<=t.size:=by
 cases t with
 |mk a ps=>
  have key:∀l:List aq,l.length<=aq.size.sizes l:=by
   intro l
   induction l with
   |nil=>simp
   |cons p l ih=>have:=size_pos p;simp only[aq.size.sizes,lC];omega
  have:=key ps
  show ps.length<=1+a.length+aq.size.sizes ps
  omega
theorem ane (s:ai) (w:World):bz Tryz.prog 54 [str s] w λr w'=>(∃v ok g xs,r= .tuple #[v,.bool ok]∧cG w' 9 v g xs∧(∀b,g=some b->w.heap.size<=b)∧ok=decide (0<xs.length)∧xs.length<=12001∧∀x,x∈xs->x.length<=24002)∧aj [] w w':=by
 have hK:=aj.refl [] w
 refine bS [.tmp 2,.tmp 3] 37 Tryz.func54 rfl aaI rfl rfl ?_
 refine W ?_
 refine aA (AH s [] w sm) ?_
 rintro v1 w1 ⟨fX,aI⟩
 have cV:=aI.size
 have hK:=hK.ext aI
 have eS:=fX
 obtain⟨t,tv,e9,ht,hp⟩:=eS
 subst e9
 have bZ:=cU ht
 obtain⟨pa,pn,pc,e9,eP,aP⟩:=bZ
 subst e9
 subst eP
 have mG:=hK.size
 refine W ?_
 refine dx aL rfl rfl rfl λw2 az aG gQ=>?_
 have da:=az
 refine cJ (vs:=[str t.aw,.slice pa t.ak.length pc]) aL rfl rfl rfl aG rfl λw3 aH aG df=>?_
 have da:=da.since aH (λx hx=>.inr (by simp at hx;omega))
 refine bI da aP hK λaP hK=>?_
 refine zA<|aZ<|zr<|fR bh bf λw4 aO lI Hl=>?_
 have anf:=lI.kM
 have aI:=aO
 have iZ:=hK.size
 refine W ?_
 refine eA (λq9:Nat×Value×Option Nat=>[(4,.pointer (some ⟨w1.heap.size,0,none⟩)),(5,.bool ((bA s).isSome)),(6,q9.2.1),(7,.int .i64 (q9.1:Int))]) (λq9 w'=>aj [] w3 w'∧q9.1<=t.ak.length∧(0<q9.1->(bA s).isSome=true)∧∃xs,cG w' 9 q9.2.1 q9.2.2 xs∧xs.length=q9.1∧(∀x,x∈xs->x.length<=24002)∧∀b,q9.2.2=some b->w3.heap.size<=b) (λq9=>t.ak.length-q9.1) ((0,.slice (some ⟨w3.heap.size,0,none⟩) 0 0,some w3.heap.size)) (⟨rfl,rfl,rfl,rfl⟩) (⟨aI,sm,sm,[],anf,rfl,sm,by intro b hb;cases hb;exact lR _⟩) λgg w5 e5 hI=>?_
 obtain⟨k,vf,gf⟩:=gg
 obtain⟨da,hk,BI,xs,hO,mm,uA,fG⟩:=hI
 dsimp only at hk BI hO mm fG
 refine cN da aP hK aG λaP hK aG=>?_
 refine WZ ?_
 apply oB 2 19 21 rfl oQ
 intro _
 exact oQ
 intro xx
 refine aZ<|zc rfl (λh2=>?_) (λh2=>?_)
 have hh:=Bool.and_eq_true_iff.1 h2
 have az:k<t.ak.length:=(by have:=hh.1;simp at this;omega)
 have ba:(bA s).isSome=true:=hh.2
 have cm:=DV hp ba
 have hw2:=cm.2
 have nZ:=XX t
 have fx:=eW aP az
 obtain⟨b9,uy,pa9,pc9,e9,jr,du⟩:=fx
 cases e9
 have XY:=cm.1.nth az
 have GM:=kY az
 have rL:=LW _ _ (lR _) XY
 refine WI ?_
 refine zi cz aL rfl rfl az<|W ?_
 refine aA (tW (nth t.ak k).size _ (lR _) XY om om _ _ w5 du) ?_
 rintro _ w6 ⟨rfl,bN⟩
 have od:=bN.size
 refine bI bN hO da λhO da=>?_
 refine fc bh bf rfl rfl λw7 bW ang oX=>bI bW hO da λhO da=>?_
 refine rW bh bf rfl rfl rfl rfl rfl rfl hO ang om λv9 g9 w8 cZ cE eZ=>?_
 have XM:=da.size
 have da:=da.since cE (λx hx=>.inr (fG x (by simpa using hx)))
 refine WA ?_
 refine mX rfl rfl rfl rfl rfl (kQ (k+1) om _ om)<|zA<|aZ ?_
 exact⟨(k+1,v9,g9),⟨rfl,rfl,rfl,rfl⟩,⟨da,az,λ_=>ba,xs++[(nth t.ak k).text],cZ,by show(xs++[_]).length=k+1;rw[lA,mm];rfl,λx hx=>by rcases mA.1 hx with h9|h9;(·exact uA x h9);(·simp only[List.mem_singleton] at h9;rw[h9];omega),λb hb=>by rcases eZ with h9|h9;(·exact fG b (h9.symm.trans hb));(·rw[h9] at hb;cases hb;omega)⟩,by show t.ak.length-(k+1)<t.ak.length-k;omega⟩
 have bZ:=jS hO
 obtain⟨af,cf,ef⟩:=bZ
 subst ef
 have nZ:=XX t
 have hxb:xs.length<=12001:=(by by_cases h0:0<k;(·have:=(DV hp (BI h0)).2;omega);(·omega))
 refine W ?_
 exact⟨_,rfl,⟨_,_,gf,xs,rfl,hO,λb hb=>by have:=fG b hb;omega,sm,hxb,uA⟩,hK⟩
theorem XZ (xs ys:List ai) (hx:xs.length+ys.length<100000000) (v u:Value) (L:List Nat) (w:World) (hv:bc L w v xs) (hu:bc L w u ys):
  bz Tryz.prog 86 [v,u] w λr w'=>(∃g,cG w' 9 r g (xs++ys)∧∀b,g=some b->w.heap.size<=b)∧aj [] w w':=by
 have hv:bc [] w v xs:=hv.fresh sm
 have hu:bc [] w u ys:=hu.fresh sm
 obtain⟨a,n,c,rfl,hn⟩:=dJ hv
 obtain⟨a2,n2,c2,rfl,eV⟩:=dJ hu
 subst hn eV
 have hK:=aj.refl [] w
 refine bS [.tmp 4] 10 Tryz.func86 rfl QE rfl rfl ?_
 refine W ?_
 refine zS w.heap.size [] bh bf rfl rfl (lR _) sm λw1 aI dk hO=>?_
 have hK:=hK.ext aI
 have fi:=bQ.ext (bQ.fresh hv (L':=w.heap.size::[]) zD) aI
 refine zm<|wT bh bf rfl rfl rfl rfl rfl rfl hO fi JD (by rw[qb];simp;omega) λa4 fP g4 w2 iY az=>?_
 have hK:=hO.since hK az
 have NA:=bQ.ext (bQ.fresh hu (L':=g4.toList++[]) (λx hx=>by rcases mA.1 hx with hx|hx;(·exact .inr (iY.low x (by simpa using hx)));(·exact .inl hx))) hK
 refine zm<|wT bh bf rfl rfl rfl rfl rfl rfl iY NA JD (by simp only[lA,qb];simp;omega) λa5 Jc g5 w3 kP aH=>?_
 have hK:=iY.since hK aH
 have jH:=kP.low
 rw[List.nil_append,U7] at kP
 refine W ?_
 exact⟨_,rfl,⟨g5,kP.uR,jH⟩,hK⟩
theorem ani (bk:Bk) (h1:bk.bY.length<=1000000) (h2:bk.code.length<=1000000) (v:Value) (L:List Nat) (w:World) (hv:qP L w v bk):
  bz Tryz.prog 53 [v] w λr w'=>(∃v1 v2 g1 g2,r= .agg #[str bk.aM,v1,v2]∧cG w' 9 v1 g1 bk.bY∧cG w' 9 v2 g2 bk.code∧(∀x,x∈g1.toList->w.heap.size<=x∧x∉g2.toList)∧∀x,x∈g2.toList->w.heap.size<=x∧x∉g1.toList)∧aj [] w w':=by
 obtain⟨b1,n1,c1,b2,n2,c2,rfl,fx,eV,cv,ck⟩:=DP hv
 have cv:bc [] w _ bk.bY:=bc.fresh cv sm
 have ck:bc [] w _ bk.code:=bc.fresh ck sm
 have hK:=aj.refl [] w
 refine kW [.cell 2 39] 12 Tryz.func53 rfl aaH rfl rfl rfl ?_
 refine zr<|eH rfl λw1 aI aX dk=>cN aI hK cv ck λhK cv ck=>?_
 refine dx fU rfl rfl rfl λw2 az aU dC=>?_
 have mG:=hK.ext az
 refine cN az cv ck aX λcv ck aX=>?_
 have aX:dM [] w2 w.heap.size _ _:=⟨aX,sm⟩
 have iZ:=mG.size
 have arR:=aU.lt
 refine W ?_
 apply jF dj ([]) 9 (rA 3 9) (rA 3 9) [[],[0],[],[2],[3],[],[5],[6],[1,4,7]] [Ie.v _,Ie.v _,Ie.v _,Ie.v _,Ie.e 0,Ie.v _,Ie.v _,Ie.e 1,Ie.e 2] [4,7,8] [fun(G:List Nat) (vs:List Value) (ww:World)=>G=[]∧aj [] w2 ww,fun(G:List Nat) (vs:List Value) (ww:World)=>G=[]∧aj [] w2 ww∧∃g1,cG ww 9 (vs.getD 0 undef) g1 bk.bY∧∀x,x∈g1.toList->w2.heap.size<=x,fun(G:List Nat) (vs:List Value) (ww:World)=>G=[]∧aj [] w2 ww∧∃g1 g2,cG ww 9 (vs.getD 0 undef) g1 bk.bY∧cG ww 9 (vs.getD 1 undef) g2 bk.code∧(∀x,x∈g1.toList->w2.heap.size<=x∧x∉g2.toList)∧∀x,x∈g2.toList->w2.heap.size<=x∧x∉g1.toList,fun(G:List Nat) (vs:List Value) (ww:World)=>aj [] w2 ww∧∃g1 g2 b3 m3 d3 b4 m4 d4,vs.getD 2 undef= .agg #[str bk.aM,.slice b3 m3 d3,.slice b4 m4 d4]∧cG ww 9 (.slice b3 m3 d3) g1 bk.bY∧cG ww 9 (.slice b4 m4 d4) g2 bk.code∧(∀x,x∈g1.toList->w2.heap.size<=x∧x∉g2.toList)∧∀x,x∈g2.toList->w2.heap.size<=x∧x∉g1.toList] de rfl ((λx hx=>by simp at hx)) (by exact trivial) (by exact⟨λG vs w w' ⟨h1,h2⟩ k=>⟨h1,h2.ext k⟩,λG vs w w' ⟨h1,h2,g1,h3,h4⟩ k=>⟨h1,h2.ext k,g1,h3.ext k,h4⟩,λG vs w w' ⟨h1,h2,g1,g2,h3,h4,h5,h6⟩ k=>⟨h1,h2.ext k,g1,g2,h3.ext k,h4.ext k,h5,h6⟩,λG vs w w' ⟨h2,g1,g2,b3,m3,d3,b4,m4,d4,e,h3,h4,h5,h6⟩ k=>⟨h2.ext k,g1,g2,b3,m3,d3,b4,m4,d4,e,h3.ext k,h4.ext k,h5,h6⟩,trivial⟩) (⟨rfl,aj.refl _ _⟩)
 refine FA ?_
 refine ve 0 (λx w3 G3 aS jo kr hJ hlen=>?_) ?_
 have aW:=jg hlen
 subst aW
 have cv:=cv.go jo
 obtain⟨bO,bP⟩:=hJ
 subst bO
 refine aA (XZ bk.bY [] so _ _ [] w3 cv (.nil _ _ _)) ?_
 rintro v20 w4 ⟨⟨g1,pr,p6⟩,xC⟩
 rw[List.append_nil] at pr
 exact fe ([]) (Fr.of xC sm) ((λz hz=>by simp at hz)) (⟨rfl,bP.trans xC,g1,pr,λx hx=>Nat.le_trans bP.size (p6 x (by simpa using hx))⟩)
 refine FA ?_
 refine ve 1 (λx w3 G3 aS jo kr hJ hlen=>?_) ?_
 have aQ:=jh hlen
 obtain⟨q0,aW⟩:=aQ
 subst aW
 have ck:=ck.go jo
 obtain⟨bO,bP,g1,pr,p6⟩:=hJ
 subst bO
 refine aA (XZ bk.code [] so _ _ [] w3 ck (.nil _ _ _)) ?_
 rintro v21 w4 ⟨⟨g2,fY,iO⟩,xz⟩
 rw[List.append_nil] at fY
 exact fe ([]) (Fr.of xz sm) ((λz hz=>by simp at hz)) (⟨rfl,bP.trans xz,g1,g2,pr.ext xz,fY,λx hx=>⟨p6 x hx,λhy=>by have h8:=pr.lt x hx;have h9:=iO x (by simpa using hy);omega⟩,λx hx=>⟨Nat.le_trans bP.size (iO x (by simpa using hx)),λhy=>by have h8:=pr.lt x hy;have h9:=iO x (by simpa using hx);omega⟩⟩)
 refine ve 2 (λx w3 G3 aS jo kr hJ hlen=>?_) ?_
 have aQ:=k9 hlen
 obtain⟨q0,q1,aW⟩:=aQ
 subst aW
 obtain⟨bO,bP,g1,g2,pr,fY,p6,iO⟩:=hJ
 subst bO
 have bZ:=jS pr
 obtain⟨b3,d3,e3⟩:=bZ
 have e5:q0=_:=e3
 subst e5
 have bZ:=jS fY
 obtain⟨b4,d4,e4⟩:=bZ
 have e6:q1=_:=e4
 subst e6
 refine js (Ip _ _ _ _ _ _ _ _) rfl rfl ?_
 exact fe ([]) (Fr.refl _ _) kr (⟨bP,g1,g2,_,_,_,_,_,_,rfl,pr,fY,p6,iO⟩)
 exact trivial
 intro x qw GY aS EA NB hJ hlen
 have aQ:=Aj hlen
 obtain⟨q0,q1,q2,aW⟩:=aQ
 subst aW
 change OW _ _ _ _ _ (bo (bj _ x _) (zZ 3 [_,_,_,_,_,_,_,_,_])) _
 obtain⟨bP,g1,g2,b3,m3,d3,b4,m4,d4,e9,pr,fY,p6,iO⟩:=hJ
 have e8:q2=_:=e9
 subst e8
 have aU:=aU.ext bP
 refine cJ (vs:=[str bk.aM,.slice b3 m3 d3,.slice b4 m4 d4]) fU rfl rfl rfl aU rfl λoZ jy aU df=>?_
 have pr:=pr.aF jy (λx hx hy=>by have:=(p6 x (by simp[hx])).1;simp at hy;omega)
 have fY:=fY.aF jy (λx hx hy=>by have:=(iO x (by simp[hx])).1;simp at hy;omega)
 have fp:=(mG.ext bP).since jy (λx hx=>.inr (by simp at hx;omega))
 refine W ?_
 exact⟨[_],fZ DK fU rfl aU rfl,⟨_,_,g1,g2,rfl,pr,fY,λx hx=>⟨by have:=(p6 x hx).1;omega,(p6 x hx).2⟩,λx hx=>⟨by have:=(iO x hx).1;omega,(iO x hx).2⟩⟩,fp⟩
theorem X0 (h:ju bs=true):bs.length<=40∧1<=bs.length∧∀i,i<bs.length->(bR bs i).bY.length<=40∧1<=(bR bs i).code.length∧(bR bs i).code.length<=80:=by
 have hb:=FW h
 unfold ju at h
 simp only[aE,dE] at h
 refine⟨h.2.1.1.2,h.2.1.1.1,λi hi=>?_⟩
 have:=hb (bR bs i) (List.mem_of_getElem? (pC hi))
 unfold lY at this
 simp only[aE,dE] at this
 exact⟨this.1.1.1.2,this.1.1.2.1,this.1.1.2.2⟩
theorem anj (h:i<bs.length):bs.take (i+1)=bs.take i++[bR bs i]:=by
 rw[List.take_succ_eq_append_getElem h];simp[bR,gE h]
theorem ank {h:ai} {ps:List ai} {m:Nat} (hp:∀x,x∈ps->x.length<=m):(dR h ps).length<=h.length+2+ps.length*(m+1):=by
 rw[lG]
 have:jv ps<=ps.length*(m+1):=by
  clear h
  induction ps with
  |nil=>simp[jv]
  |cons p l ih=>
   have h1:=hp p sm
   have h2:=ih (λx hx=>hp x (by simp[hx]))
   simp only[jv,List.map_cons,List.sum_cons,lC,Nat.add_mul,Nat.one_mul] at h2⊢
   omega
 omega
theorem X4 {α:Type} {l:List α} {y x:α} (h:x∈l.set i y):x∈l∨x=y:=List.mem_or_eq_of_mem_set h
theorem anl (bs:List Bk) (nO:ju bs=true) (br q:Nat) (hq:q<=800000000) (v:Value) (w:World) (h:dD w br q) (hv:nR [] w v bs):
  bz Tryz.prog 28 [.pointer (some ⟨br,0,none⟩),v] w λr w'=>(∃bs' g,Gr w.heap.size [br] w' 39 3 r g (bs'.map Bk.enc)∧vX bs bs')∧dD w' br (q+10)∧aj [br] w w':=by
 obtain⟨a,n0,c,rfl,wR⟩:=zQ hv
 obtain⟨Ph,aX,fI⟩:=X0 nO
 have iq:=h.lt
 have hK:=aj.refl [] w
 have cO:=hv
 have TU:=h
 refine bS [.tmp 4] 140 Tryz.func28 rfl aag rfl rfl ?_
 refine W ?_
 refine fR iK fU λw1 aI lI dk=>cN aI hK h hv λhK h hv=>?_
 refine W ?_
 refine eA (λq9:Nat×Value=>[(0,.pointer (some ⟨br,0,none⟩)),(1,.slice a n0 c),(5,q9.2),(6,.int .i64 (q9.1:Int))]) (λq9 w'=>aj [] w w'∧q9.1<=n0∧∃g gss vss,lZ w' 39 9 q9.2 g gss vss (bs.take q9.1)∧∀x,x∈g.toList++gx gss->w.heap.size<=x) (λq9=>n0-q9.1) ((0,.slice (some ⟨w.heap.size,0,none⟩) 0 0)) (⟨rfl,rfl,rfl,rfl⟩) (⟨hK,sm,some w.heap.size,[],[],lZ.zero lI,by intro x hx;simp[gx] at hx;omega⟩) λgg w2 e2 hI=>?_
 obtain⟨i,vo⟩:=gg
 obtain⟨hK,hi,g,gss,vss,hO,jH⟩:=hI
 dsimp only at hi hO
 have hv:=cO.ext hK
 have h:=TU.ext hK
 refine W ?_
 refine zc rfl (λh1=>?_) (λh1=>?_)
 have lN:i<bs.length:=(by simp at h1;omega)
 have ey:=pC lN
 have hgv:=BU hv ey
 obtain⟨b,off,ra,rn,rc,ca,cn,c3,e1,hc,rf,wP,cV,dm⟩:=hgv
 subst e1
 have wQ:=fI i lN
 have arS:=hK.size
 have PV:∀x,x∈g.toList++gx gss->x<w2.heap.size:=(λx hx=>(mA.1 hx).elim (λh9=>hO.own.lt x (by simpa using h9)) (hO.lt x))
 have fF:(bs.take i).length=i:=(by rw[List.length_take];omega)
 refine W ?_
 refine aA (ani (bR bs i) om om _ [] w2 (BT cV dm)) ?_
 rintro v3 w3 ⟨ko,aH⟩
 have fm:=aH.size
 refine bI aH hK hO λhK hO=>?_
 obtain⟨v1,v2,g1,g2,e2,pr,fY,p6,iO⟩:=ko
 subst e2
 have bZ:=jS pr
 obtain⟨a1,c1,e1⟩:=bZ
 subst e1
 have bZ:=jS fY
 obtain⟨a2,c2,e2⟩:=bZ
 subst e2
 refine fc iK fU rfl rfl λw4 aO C8 gQ=>ie aO hK hO pr fY λhK hO pr fY=>?_
 refine amS (f:=bR bs i) (gs:=(g1,g2)) iK fU rfl rfl rfl rfl rfl rfl hO C8 pr fY (λx hx fj=>by have h8:=PV x fj;rcases mA.1 hx with h9|h9;(·have:=(p6 x h9).1;omega);(·have:=(iO x h9).1;omega)) (List.nodup_append.2 ⟨by cases g1<;>simp,by cases g2<;>simp,λx hx y hy e=>by subst e;exact(p6 x hx).2 hy⟩) om λa4 fP g4 w5 hO aN hg4=>?_
 have XM:=hK.size
 have ano:∀x,x∈g4.toList++gx (gss++[(g1,g2)])->w.heap.size<=x:=(λx hx=>by rcases mA.1 hx with h9|h9;(·rcases hg4 with h8|⟨z,h8,hz⟩;(·rw[h8] at h9;exact jH x (by simp at h9;simp[h9]));(·rw[h8] at h9;simp at h9;omega));(·rw[MW] at h9;rcases mA.1 h9 with h8|h8;(·exact jH x (by simp[h8]));(·rcases mA.1 h8 with h7|h7;(·have:=(p6 x h7).1;omega);(·have:=(iO x h7).1;omega))))
 have hK:=hK.since aN (λx hx=>.inr (jH x (by simp at hx;simp[hx])))
 refine WA ?_
 refine mX rfl rfl rfl rfl rfl (kQ (i+1) om _ om)<|zA<|aZ ?_
 exact⟨(i+1,_),⟨rfl,rfl,rfl,rfl⟩,⟨hK,by show i+1<=n0;omega,g4,_,_,by rw[anj lN];exact hO,ano⟩,by show n0-(i+1)<n0-i;omega⟩
 have cL:bs.take i=bs:=List.take_of_length_le (by simp at h1;omega)
 rw[cL] at hO
 have bZ:=hO.own.len
 obtain⟨ao,co,eo⟩:=bZ
 subst eo
 have ej:=hK.mono (L':=[br]) sm
 refine W ?_
 refine aA (lQ bs.length om om br q om w2 h) ?_
 rintro v31 w3 ⟨⟨k,yU,hk⟩,h,aB⟩
 subst yU
 have ej:=ej.trans aB
 have hO:=hO.aF aB (λx hx hy=>by have:=jH x hx;simp at hy;omega)
 have gL:=hO.get hk
 obtain⟨uC,gs,a1,c1,a2,c2,e1,e2,uj,tT,jm,aW,kh,fx,eV,KU⟩:=gL
 subst e1
 have zh:∀x,x∈g.toList++gx gss->x∉[br]:=(λx hx hy=>by have:=jH x hx;simp at hy;omega)
 have hc:fy [br] w3 uC (0+k*3) _:=⟨kh,uj,λhy=>zh uC (by rw[e2];simp) hy⟩
 have hr:bc [br] w3 _ _:=eV.rep (λb hb=>zh b (mR _ (Cq jm (by simp[iV,hb]))))
 have wQ:=fI k hk
 refine WI ?_
 refine zi iK fU rfl rfl hk<|zf zH rfl<|zl tG rfl (hc.cells 2 _ rfl)<|Fp bh rfl rfl rfl<|aA (lQ (bR bs k).code.length om om br (q+1) om w3 h) ?_
 rintro v31 w4 ⟨⟨n,yU,hn⟩,h,aB⟩
 subst yU
 have ej:=ej.trans aB
 have hO:=hO.aF aB (λx hx hy=>by have:=jH x hx;simp at hy;omega)
 have hc:=hc.aD aB sm;have hr:=hr.aD aB sm
 have ey:=nN hr hn
 obtain⟨b9,uy,e9,jr⟩:=ey
 subst e9
 refine WI ?_
 refine zi iK fU rfl rfl hk<|zf zH rfl<|zl tG rfl (hc.cells 2 _ rfl)<|zm<|zi bh bf rfl rfl hn<|WZ ?_
 have hkw:=ej.size
 have anq:∀x,x∈g.toList++gx gss->x<w4.heap.size:=(λx hx=>(mA.1 hx).elim (λh9=>hO.own.lt x (by simpa using h9)) (hO.lt x))
 refine aA (ane (bX (bR bs k).code n) w4) ?_
 rintro v5 w5 ⟨sI,aN⟩
 have l3:=aN.size
 refine tS aN h hO ej hc hr jr λh hO ej hc hr jr=>?_
 obtain⟨vp,ok,gp,ps,e9,hP,fG,ba,nZ,Dr⟩:=sI
 subst e9
 have hgp:∀x,x∈gp.toList->x∉g.toList++gx gss:=(λx hx hy=>by have h8:=anq x hy;have h9:=fG x (by simpa using hx);omega)
 have fG:∀b,gp=some b->w.heap.size<=b:=(λb hb=>Nat.le_trans hkw (fG b hb))
 have bZ:=jS hP
 obtain⟨ap,cp,ep⟩:=bZ
 subst ep
 refine W ?_
 refine zc rfl (λh2=>?_) (λh2=>?_)
 refine W ?_
 exact⟨_,rfl,⟨bs,_,hO.gr zh (λb hb=>jH b (by simp[hb])) (λx hx=>by simp at hx;subst hx;exact h.lt) ej.size,vX.refl bs⟩,h.more om,ej⟩
 have mz:0<ps.length:=(by rw[ba] at h2;simpa using h2)
 have EN:=hP.form mz
 obtain⟨bp,ep,eg⟩:=EN
 subst ep
 have hbp:=fG bp eg
 have arU:=hP.lt bp (by simp[eg])
 refine W ?_
 refine aA (lQ ps.length mz om br (q+2) om w5 h) ?_
 rintro v31 w6 ⟨⟨j,yU,hj⟩,h,aB⟩
 subst yU
 have ej:=ej.trans aB
 have hO:=hO.aF aB (λx hx hy=>by have:=jH x hx;simp at hy;omega)
 have hP:=hP.aF aB (λb hb hy=>by have:=fG b hb;simp at hy;omega)
 refine W ?_
 refine ix (λ_:List ai=>[(0,.pointer (some ⟨br,0,none⟩)),(5,.slice (some ⟨uC,0,none⟩) bs.length co),(7,.int .i64 (k:Int)),(8,.int .i64 (n:Int)),(9,(.slice (some ⟨bp,0,none⟩) ps.length cp))]) (λp2 ww=>aj [br] w ww∧dD ww br (q+5)∧lZ ww 39 9 (.slice (some ⟨uC,0,none⟩) bs.length co) g gss vss bs∧cG ww 9 (.slice (some ⟨bp,0,none⟩) ps.length cp) gp p2∧p2.length=ps.length∧∀x,x∈p2->x.length<=24002) ?_ ?_
 refine zc rfl (λh3=>?_) (λh3=>?_)
 have Bj:bc [br] w6 (.slice (some ⟨bp,0,none⟩) ps.length cp) ps:=hP.rep (λb hb hy=>by have:=fG b hb;simp at hy;omega)
 have ey:=nN Bj hj
 obtain⟨b8,ans,e8,Gu⟩:=ey
 cases e8
 have hxj:=Dr _ (List.mem_of_getElem? (km hj))
 have pU:eO [br] w6:=(λz hz=>by simp at hz;subst hz;exact h.lt)
 apply jF dj ([br]) 11 (rA 61 11) (rA 61 11) [[],[],[],[],[3],[],[],[5,6],[7],[4,8],[2,9]] [Ie.v _,Ie.v _,Ie.v _,Ie.v _,Ie.q 0 (fun(v:Value)=>∃x,v=str x∧x.length<=24002),Ie.v _,Ie.v _,Ie.v _,Ie.v _,Ie.p (fun(G:List Nat) (v:Value) (ww:World)=>∃x y,x.length<=24002∧y.length<=24002∧bc G ww v [x,[98,48],[101,110,100],[49],[105],y]),Ie.q 1 (fun(v:Value)=>∃x,v=str x∧x.length<=24002)] [4,10] [fun(G:List Nat) (vs:List Value) (ww:World)=>G=[br]∧aj [br] w6 ww∧dD ww br (q+3),fun(G:List Nat) (vs:List Value) (ww:World)=>G=[br]∧aj [br] w6 ww∧dD ww br (q+4),fun(G:List Nat) (vs:List Value) (ww:World)=>G=[br]∧aj [br] w6 ww∧dD ww br (q+5)] de rfl pU (by exact⟨λG v w G' w' ⟨x,y,h1,h2,h3⟩ k=>⟨x,y,h1,h2,bc.go h3 k⟩,trivial⟩) (by exact⟨λG vs w w' ⟨h1,h2,h3⟩ k=>⟨h1,h2.ext k,h3.ext k⟩,λG vs w w' ⟨h1,h2,h3⟩ k=>⟨h1,h2.ext k,h3.ext k⟩,λG vs w w' ⟨h1,h2,h3⟩ k=>⟨h1,h2.ext k,h3.ext k⟩,trivial⟩) (⟨rfl,aj.refl _ _,h⟩)
 refine FA ?_
 refine ve 0 (λx w7 G7 aS mQ lj hJ hlen=>?_) ?_
 have aW:=jg hlen
 subst aW
 obtain⟨bO,bP,h⟩:=hJ
 subst bO
 refine aA (H0 br (q+3) om w7 h) ?_
 rintro v9 w8 ⟨⟨z9,df,e9⟩,h,aB⟩
 subst e9
 have eu:=sN (n:=z9) om
 exact fq ([br]) (Fr.of aB sm) ((λz hz=>lL (lj z hz) aB.size)) (⟨rfl,bP.trans aB,h⟩) (⟨_,rfl,om⟩)
 refine FA ?_
 refine vf (λx w7 G7 aS mQ lj=>?_) ?_
 intro v4 PC d4
 obtain⟨y4,e4,Ci⟩:=d4
 subst e4
 refine afT bh bf rfl rfl rfl rfl rfl rfl rfl rfl λw8 cE OD ld=>?_
 exact ff cE (⟨y4,bX ps j,Ci,hxj,aJ.dK [y4,[98,48],[101,110,100],[49],[105],bX ps j] OD (λhx=>by have:=lj _ hx;omega)⟩)
 refine ve 1 (λx w7 G7 aS mQ lj hJ hlen=>?_) ?_
 have aQ:=jh hlen
 obtain⟨q0,aW⟩:=aQ
 subst aW
 intro v9 d9
 obtain⟨bO,bP,h⟩:=hJ
 subst bO
 obtain⟨x8,y8,Wm,hy8,hr8⟩:=d9
 refine aA (mi [x8,[98,48],[101,110,100],[49],[105],y8] sm sm br (q+4) om _ w7 h hr8) ?_
 rintro v9 w8 ⟨⟨x9,iB,e9⟩,h,aB⟩
 subst e9
 have eu:x9.length<=24002:=(by simp only[mC,List.not_mem_nil,or_false] at iB;rcases iB with rfl|rfl|rfl|rfl|rfl|rfl<;>first|omega|decide)
 exact fq ([br]) (Fr.of aB sm) ((λz hz=>lL (lj z hz) aB.size)) (⟨rfl,bP.trans aB,h⟩) (⟨_,rfl,eu⟩)
 exact trivial
 intro x rN Kc aS xq Kd hJ hlen
 have aQ:=k9 hlen
 obtain⟨q0,q1,aW⟩:=aQ
 subst aW
 intro v4 PC d4
 intro v9 d9
 intro v10 XR d10
 change OW _ _ _ _ _ (bo (bj _ x _) (zZ 61 [_,_,_,_,_,_,_,_,_,_,_])) _
 obtain⟨bO,bP,h⟩:=hJ
 subst bO
 obtain⟨KR,fo,EH⟩:=d10
 subst fo
 have ej:=ej.trans bP
 have hO:=hO.aF bP (λx hx hy=>by have:=jH x hx;simp at hy;omega)
 have hP:=hP.aF bP (λb hb hy=>by have:=fG b hb;simp at hy;omega)
 refine zi bh bf rfl rfl hj<|TW (i:=j) bf rfl rfl rfl om hP hj λwO l5 hP df=>?_
 have hO:=hO.aF l5 (λx hx hy=>hgp x hy hx)
 have h:=h.aF l5 (λx hx=>by have:=fG x (by simpa using hx);omega)
 have ej:=ej.since l5 (λx hx=>.inr (fG x (by simpa using hx)))
 refine W ?_
 exact⟨ps.set j KR,⟨rfl,rfl,rfl,rfl,rfl⟩,ej,h.more om,hO,hP,by rw[List.length_set],λx hx=>by rcases X4 hx with h9|h9;(·exact Dr x h9);(·rw[h9];exact EH)⟩
 refine WZ ?_
 exact⟨ps,⟨rfl,rfl,rfl,rfl,rfl⟩,ej,h.more om,hO,hP,rfl,Dr⟩
 intro gu w7 e7 hI
 obtain⟨ej,h,hO,hP,arW,X5⟩:=hI
 have gL:=hO.get hk
 obtain⟨uC,gs,a1,c1,a2,c2,e1,e2,uj,tT,jm,aW,kh,fx,eV,KU⟩:=gL
 cases e1
 have zh:∀x,x∈g.toList++gx gss->x∉[br]:=(λx hx hy=>by have:=jH x hx;simp at hy;omega)
 have hc:fy [br] w7 uC (0+k*3) _:=⟨kh,uj,λhy=>zh uC (by rw[e2];simp) hy⟩
 have hr:bc [br] w7 _ _:=eV.rep (λb hb=>zh b (mR _ (Cq jm (by simp[iV,hb]))))
 have ey:=nN hr hn
 obtain⟨b9,uy,e9,jr⟩:=ey
 subst e9
 have Bj:bc [] w7 (.slice (some ⟨bp,0,none⟩) ps.length cp) gu:=hP.rep sm
 have ey:=nN Bj (i:=0) om
 obtain⟨b8,ans,e8,Gu⟩:=ey
 cases e8
 refine WZ ?_
 have yb:(dR (bX gu 0) (gu.drop 1)).length<=1000000000:=(by have h1:=ank (h:=bX gu 0) (ps:=gu.drop 1) (m:=24002) (λx hx=>X5 x (List.mem_of_mem_drop hx));have h2:=X5 _ (List.mem_of_getElem? (km (xs:=gu) (i:=0) om));rw[List.length_drop] at h1;have h3:(gu.length-1)*(24002+1)<=12001*24003:=Nat.mul_le_mul om om;omega)
 apply uZ dj 6 (rA 73 6) (rA 73 6) [[],[0],[1],[],[3],[2,4]] [It.v _,It.v _,It.v _,It.v _,It.p (fun(v:Value) (ww:World)=>bc [] ww v (gu.drop 1)),It.v _] de (by exact⟨λv w w' h k=>bc.ext h k,trivial⟩)
 intro wd aC
 refine VA ?_
 refine vk aC (λx w8 cE=>?_) ?_
 have Bj:=Bj.ext cE
 refine Ft (l:=1) bh bf rfl rfl rfl rfl om Bj λAK aW=>?_
 exact pf (aj.refl _ _) ((show bc [] _ AK (gu.drop 1) from by unfold bc ga;rw[List.map_drop];exact aW))
 refine vk aC (λx w8 cE=>?_) ?_
 intro v4 d4
 refine aA (yg (bX gu 0) (gu.drop 1) yb _ [] w8 d4) ?_
 rintro _ w9 ⟨rfl,aB⟩
 have o7:=aB.size
 exact pk aB
 exact trivial
 intro x wO l5
 intro v4 d4
 refine Cd l5 h ej hO hc hr jr fx eV λh ej hO hc hr jr fx eV=>?_
 change OW _ _ _ _ _ (bo (bj _ x _) (zZ 73 [_,_,_,_,_,_])) _
 refine W ?_
 refine D8 [79,80,81,82,83,84,85,86,87,88,89,90,91,92,93,94] [(94,.bool (sr (dR (bX gu 0) (gu.drop 1))&&(decide (DO (dR (bX gu 0) (gu.drop 1))=DO (bX (bR bs k).code n)))))] ?_ ?_
 rcases bE (sr (dR (bX gu 0) (gu.drop 1))) with iD|iD
 apply k8 dj 16 (rA 79 16) (rA 79 16) [[],[0],[1],[2],[2,3],[2],[2],[2,5,6],[2,7],[2,8],[2],[2,9,10],[2,11],[2,12],[2,4,13],[2,14]] [It.v _,It.v _,It.v (.bool true),It.v _,It.v _,It.v _,It.v _,It.v _,It.v _,It.v _,It.v _,It.v _,It.v _,It.v _,It.v _,It.v _] de rfl
 intro wd aC
 refine VA ?_
 refine vk aC (λx lK lM=>?_) ?_
 refine aA (Gt (dR (bX gu 0) (gu.drop 1)) lK) ?_
 rintro _ oc ⟨rfl,iE⟩
 have PW:=iE.size
 exact pk iE
 refine vc (λx lK lM=>?_) ?_
 refine WZ ?_
 exact pv (by exact congrArg Value.bool iD)
 refine VA ?_
 refine vk aC (λx lK lM=>?_) ?_
 refine aA (I7 (dR (bX gu 0) (gu.drop 1)) lK) ?_
 rintro _ oc ⟨rfl,iE⟩
 have PW:=iE.size
 exact pk iE
 refine vc (λ_ _ _=>WZ pv) ?_
 refine vc (λ_ _ _=>WZ pv) ?_
 refine vk aC (λx lK lM=>?_) ?_
 refine zi iK fU rfl rfl hk ?_
 exact pv
 refine VA ?_
 refine vk aC (λx lK lM=>?_) ?_
 have hc:=hc.ext lM
 refine zl tG rfl (hc.cells 2 _ rfl) ?_
 exact pv
 refine vc (λ_ _ _=>WZ pv) ?_
 refine vk aC (λx lK lM=>?_) ?_
 refine zi bh bf rfl rfl hn ?_
 exact pv
 refine VA ?_
 refine vk aC (λx lK lM=>?_) ?_
 refine aA (I7 (bX (bR bs k).code n) lK) ?_
 rintro _ oc ⟨rfl,iE⟩
 have PW:=iE.size
 exact pk iE
 exact VZ
 intro x N9 oy
 change OW _ _ _ _ [] (bo (bj _ x _) (zZ 79 [_,_,_,_,_,_,_,_,_,_,_,_,_,_,_,_])) _
 refine W ?_
 exact kE oy
 apply k8 dj 16 (rA 79 16) (rA 79 16) [[],[0],[1],[2],[2,3],[2],[2],[2,5,6],[2,7],[2,8],[2],[2,9,10],[2,11],[2,12],[2,4,13],[2,14]] [It.v _,It.v _,It.v (.bool false),It.v _,It.v _,It.v _,It.v _,It.v _,It.v _,It.v _,It.v _,It.v _,It.v _,It.v _,It.v _,It.v _] de rfl
 intro wd aC
 refine VA ?_
 refine vk aC (λx lK lM=>?_) ?_
 refine aA (Gt (dR (bX gu 0) (gu.drop 1)) lK) ?_
 rintro _ oc ⟨rfl,iE⟩
 have PW:=iE.size
 exact pk iE
 refine vc (λx lK lM=>?_) ?_
 refine WZ ?_
 exact pv (by exact congrArg Value.bool iD)
 exact VZ
 intro x N9 oy
 change OW _ _ _ _ [] (bo (bj _ x _) (zZ 79 [_,_,_,_,_,_,_,_,_,_,_,_,_,_,_,_])) _
 refine W ?_
 exact kE oy
 intro x N9 oy
 refine Cd oy h ej hO hc hr jr fx eV λh ej hO hc hr jr fx eV=>?_
 refine ix (λ_:List Bk=>[(0,.pointer (some ⟨br,0,none⟩)),(5,.slice (some ⟨uC,0,none⟩) bs.length co),(7,.int .i64 (k:Int)),(8,.int .i64 (n:Int))]) (λcs ww=>aj [br] w ww∧dD ww br (q+5)∧(∃X6,lZ ww 39 9 (.slice (some ⟨uC,0,none⟩) bs.length co) g gss X6 cs)∧vX bs cs) ?_ ?_
 refine zc rfl (λh4=>?_) (λh4=>?_)
 have anv:sr (dR (bX gu 0) (gu.drop 1))=true:=(Bool.and_eq_true_iff.1 h4).1
 have EN:=eV.form om
 obtain⟨b7,e7,eg2⟩:=EN
 cases e7
 refine kH<|zm<|zm<|zi iK fU rfl rfl hk<|zf zH rfl<|zl tG rfl (hc.cells 2 _ rfl)<|zm<|zm<|zi bh bf rfl rfl hn<|TW (i:=n) bf rfl rfl rfl om eV hn λHf Bb eV df=>?_
 have hO:=hO.row (f:={bR bs k with code:=(bR bs k).code.set n (dR (bX gu 0) (gu.drop 1))}) jm aW Bb (λx hx=>by simp[iV,hx]) ⟨_,_,rfl,fx.aF Bb (λb hb hy=>KU b hb (by simpa using hy)),by rw[show({bR bs k with code:=(bR bs k).code.set n (dR (bX gu 0) (gu.drop 1))}:Bk).code=(bR bs k).code.set n (dR (bX gu 0) (gu.drop 1)) from rfl];exact eV⟩
 have h:=h.aF Bb (λx hx=>by have:=jH x (mR _ (Cq jm (by simp[iV,hx])));omega)
 have ej:=ej.since Bb (λx hx=>.inr (jH x (mR _ (Cq jm (by simp[iV,hx])))))
 refine W ?_
 exact⟨_,⟨rfl,rfl,rfl,rfl⟩,ej,h,⟨_,hO⟩,(vX.refl bs).set hk (by rw[List.length_set];exact lR _) (λx hx=>by rcases X4 hx with h9|h9;(·exact .inl h9);(·rw[h9];exact .inr anv))⟩
 refine WZ ?_
 exact⟨bs,⟨rfl,rfl,rfl,rfl⟩,ej,h,⟨_,hO⟩,vX.refl bs⟩
 intro gu Hf e88 hI
 obtain⟨ej,h,⟨X6,hO⟩,hH⟩:=hI
 have kJ:k<gu.length:=(by rw[hH.1];exact hk)
 have gL:=hO.get kJ
 obtain⟨uC,gs,a1,c1,a2,c2,e1,e2,uj,tT,jm,aW,kh,fx,eV,KU⟩:=gL
 cases e1
 refine jL<|zr<|zm<|aA (lQ 6 de de br (q+5) om Hf h) ?_
 rintro v31 xf ⟨⟨z,yU,hz⟩,h,aB⟩
 subst yU
 have ej:=ej.trans aB
 have hO:=hO.aF aB (λx hx hy=>by have:=jH x hx;simp at hy;omega)
 have gL:=hO.get kJ
 obtain⟨uC,gs,a1,c1,a2,c2,e1,e2,uj,tT,jm,aW,kh,fx,eV,KU⟩:=gL
 cases e1
 have zh:∀x,x∈g.toList++gx gss->x∉[br]:=(λx hx hy=>by have:=jH x hx;simp at hy;omega)
 have PV:∀x,x∈g.toList++gx gss->x<xf.heap.size:=(λx hx=>(mA.1 hx).elim (λh9=>hO.own.lt x (by simpa using h9)) (hO.lt x))
 have hc:fy [] xf uC (0+k*3) _:=⟨kh,uj,sm⟩
 have hr:bc [] xf _ _:=eV.rep sm
 have X7:=hH.2 k hk
 have lW:(bR gu k).code.length<=80:=Nat.le_trans X7.2.2.1 (fI k hk).2.2
 have arZ:=ej.size
 refine WZ ?_
 apply oB 10 106 116 rfl oQ
 intro h5
 refine zm<|mX rfl rfl rfl rfl rfl (kQ (n+1) om _ om)<|zm<|zm<|zi iK fU rfl rfl hk<|zf zH rfl<|zl tG rfl (hc.cells 2 _ rfl) ?_
 exact oQ
 intro xx
 refine aZ<|zc rfl (λh6=>?_) (λh6=>?_)
 have pg:n+1<(bR gu k).code.length:=(by have h9:=of_decide_eq_true (Bool.and_eq_true_iff.1 h6).2;omega)
 have ey:=nN hr (i:=n) om
 obtain⟨b9,uy,e9,jr⟩:=ey
 subst e9
 apply jF dj ([]) 20 (rA 117 20) (rA 117 20) [[],[],[],[],[],[3,4],[5],[6],[],[7,8],[2,9],[],[],[11,12],[13],[14],[],[16],[15,17],[10,18]] [Ie.v _,Ie.v _,Ie.p (fun(G:List Nat) (v:Value) (ww:World)=>∃bb,v= .slice (some ⟨bb,0,none⟩) 0 0∧dM G ww bb #[] 9∧xf.heap.size<=bb),Ie.v _,Ie.v _,Ie.v _,Ie.v _,Ie.v _,Ie.v _,Ie.v _,Ie.e 0,Ie.v _,Ie.v _,Ie.v _,Ie.v _,Ie.v _,Ie.v _,Ie.v _,Ie.p (fun(G:List Nat) (v:Value) (ww:World)=>bc G ww v ((bR gu k).code.drop (n+1))),Ie.e 1] [10,19] [fun(G:List Nat) (vs:List Value) (ww:World)=>True,fun(G:List Nat) (vs:List Value) (ww:World)=>∃g7,cG ww 9 (vs.getD 0 undef) g7 ((bR gu k).code.take n)∧qy G ww 9 g7∧(∀x,x∈g7.toList->xf.heap.size<=x),fun(G:List Nat) (vs:List Value) (ww:World)=>∃g7,cG ww 9 (vs.getD 1 undef) g7 ((bR gu k).code.take n++(bR gu k).code.drop (n+1))∧(∀x,x∈g7.toList->xf.heap.size<=x)] de rfl ((λz hz=>by simp at hz)) (by exact⟨λG v w G' w' ⟨bb,e,h,hz⟩ k=>⟨bb,e,h.go k,hz⟩,λG v w G' w' h k=>bc.go h k,trivial⟩) (by exact⟨λ_ _ _ _ _ _=>trivial,λG vs w w' ⟨g7,h2,h3,h4⟩ k=>⟨g7,h2.ext k,h3.ext k,h4⟩,λG vs w w' ⟨g7,h2,h4⟩ k=>⟨g7,h2.ext k,h4⟩,trivial⟩) trivial
 refine FA ?_
 refine vf (λx kF l8 aS jz mH=>?_) ?_
 refine fR bh bf λqB yC anw JS=>?_
 exact ff yC (⟨_,rfl,anw.o mH,jz.aF.size⟩)
 refine vf (λ_ _ _ _ _ _=>WZ fv) ?_
 refine vf (λ_ _ _ _ _ _=>WZ fv) ?_
 refine vf (λ_ _ _ _ _ _=>zi iK fU rfl rfl hk fv) ?_
 refine FA ?_
 refine vf (λx kF l8 aS jz mH=>?_) ?_
 have hc:=hc.go jz
 refine zl tG rfl (hc.cells 2 _ rfl) ?_
 exact fv
 refine FA ?_
 refine vf (λx kF l8 aS jz mH=>?_) ?_
 have hr:=hr.go jz
 refine Xx (h:=n) bh bf rfl rfl rfl rfl om hr ?_
 exact fv
 refine ve 0 (λx kF l8 aS jz mH hJ hlen=>?_) ?_
 have aW:=jg hlen
 subst aW
 have hr:=hr.go jz
 intro v2 d2
 obtain⟨bb,e2,fH,hN⟩:=d2
 subst e2
 have Pj:bc l8 kF _ ((bR gu k).code.take n):=(show bQ _ _ _ (.sl 1 (ga _)) from by have h9:=Pq hr (h:=n) om;unfold ga at h9⊢;rw[List.map_take];exact h9)
 refine Ev bh bf rfl rfl rfl rfl rfl rfl fH.gX.kM Pj ‹_› (λx hx=>.inr (by simp at hx;subst hx;exact fH.gX)) (by rw[List.length_take];simp;omega) λv9 g9 qB G9 cZ Ez o7 kt cP eu aB=>?_
 exact fe G9 cP eu (⟨g9,cZ,Ez,λx hx=>(o7 x hx).elim (λh9=>by simp at h9;subst h9;exact hN) (λh9=>Nat.le_trans jz.aF.size h9)⟩)
 refine vf (λ_ _ _ _ _ _=>WZ fv) ?_
 refine vf (λ_ _ _ _ _ _=>WZ fv) ?_
 refine vf (λ_ _ _ _ _ _=>zi iK fU rfl rfl hk fv) ?_
 refine FA ?_
 refine vf (λx kF l8 aS jz mH=>?_) ?_
 have hc:=hc.go jz
 refine zl tG rfl (hc.cells 2 _ rfl) ?_
 exact fv
 refine vf (λ_ _ _ _ _ _=>WZ fv) ?_
 refine vf (λ_ _ _ _ _ _=>mX rfl rfl rfl rfl rfl (kQ (n+1) om _ om) fv) ?_
 refine vf (λx kF l8 aS jz mH=>?_) ?_
 have hr:=hr.go jz
 refine Ft bh bf rfl rfl rfl rfl om hr ?_
 intro AK aW
 exact ff (aj.refl _ _) ((show bc _ _ AK ((bR gu k).code.drop (n+1)) from by unfold bc ga;rw[List.map_drop];exact aW))
 refine ve 1 (λx kF l8 aS jz mH hJ hlen=>?_) ?_
 have aQ:=jh hlen
 obtain⟨q0,aW⟩:=aQ
 subst aW
 intro xo d18
 have hJ:∃g7,cG kF 9 q0 g7 ((bR gu k).code.take n)∧qy l8 kF 9 g7∧(∀x,x∈g7.toList->_<=x):=hJ
 obtain⟨g7,rK,CE,CF⟩:=hJ
 refine Ev bh bf rfl rfl rfl rfl rfl rfl rK d18 ‹_› CE (by rw[List.length_take,List.length_drop];omega) λv9 g9 qB G9 cZ Ez o7 kt cP eu aB=>?_
 exact fe G9 cP eu (⟨g9,cZ,λx hx=>(o7 x hx).elim (CF x) (λh9=>Nat.le_trans jz.aF.size h9)⟩)
 exact trivial
 intro x JT Vr aS NM ag4 hJ hlen
 have aQ:=k9 hlen
 obtain⟨q0,q1,aW⟩:=aQ
 subst aW
 intro v2 d2
 intro xo d18
 change OW _ _ _ _ _ (bo (bj _ x _) (zZ 117 [_,_,_,_,_,_,_,_,_,_,_,_,_,_,_,_,_,_,_,_])) _
 have hJ:∃g7,cG JT 9 q1 g7 ((bR gu k).code.take n++(bR gu k).code.drop (n+1))∧(∀x,x∈g7.toList->_<=x):=hJ
 obtain⟨g7,rK,CF⟩:=hJ
 have bZ:=jS rK
 obtain⟨a9,c9,e9⟩:=bZ
 subst e9
 have Wz:aj [] _ JT:=NM.aF
 refine cN Wz hO h ej λhO h ej=>?_
 refine zi iK fU rfl rfl hk<|zf zH rfl<|amT (i:=k) (L:=[br]) mu rfl rfl rfl om hO e2 kJ rK (λx hx hy=>by have h8:=CF x hx;have h9:=PV x (by simp at hy;simp[hy]);omega) (λx hx hy=>by rcases mA.1 hx with h9|h9;(·exact zh x h9 hy);(·have h8:=CF x h9;have h7:=ej.size;simp at hy;omega)) λNN CL hR df=>?_
 have h:=h.aF CL (λx hx=>by have:=jH x (by simp at hx;simp[hx]);omega)
 have ej:=ej.since CL (λx hx=>.inr (jH x (by simp at hx;simp[hx])))
 refine W ?_
 exact⟨_,rfl,⟨_,_,⟨hR,λb hb=>jH b (by simp[hb]),λx hx=>by simp at hx;subst hx;exact h.lt,ej.size⟩,hH.set hk (by rw[lA,List.length_take,List.length_drop];omega) (λx hx=>X7.2.2.2 x ((mA.1 hx).elim List.mem_of_mem_take List.mem_of_mem_drop))⟩,h.more om,ej⟩
 refine W ?_
 exact⟨_,rfl,⟨gu,_,hO.gr zh (λb hb=>jH b (by simp[hb])) (λx hx=>by simp at hx;subst hx;exact h.lt) ej.size,hH⟩,h.more om,ej⟩
theorem anx {br:Nat} {cs:Array Value} {T:TypeId} (hb:aJ w br cs T) (hs:∀(i:Nat) (s:ai),cs[i]?≠some (str s)) {a:Option Addr} {n c size:Nat} {rows:List (List C)} (h:bQ L w (.slice a n c) (.sl size rows)) (h0:∀row,row∈rows->∃s rest,row= .val (str s)::rest) (tV:∀row c' u,row∈rows->c'∈row->bQ L w u c'->bQ (L++[br]) w u c'):bQ (L++[br]) w (.slice a n c) (.sl size rows):=by
 cases h with
 |nil=>exact .nil _ _ _
 |sl b off _ _ _ _ f hl hc iq hL fC kh gB=>
  cases rows with
  |nil=>
   have:n=0:=by rw[<-hl];rfl
   subst this
   exact .nil _ _ _
  |cons row rest=>
   have dL:b≠br:=by
    rintro rfl
    obtain⟨s,r,e⟩:=h0 row sm
    have hz:=fC row sm
    have h1:=gB 0 0 row (.val (str s)) rfl (by rw[e];rfl)
    have h2:=kh 0 0 (by rw[<-hl];simp) (by rw[<-hz,e];simp)
    rw[hb.cell] at h2
    generalize f 0 0=u at h1 h2
    cases h1
    exact hs _ _ h2
   exact .sl b off n c size _ f hl hc iq (λhx=>(mA.1 hx).elim hL (λh9=>dL (by simpa using h9))) fC kh λi j row c hr hc=>tV row c _ (List.mem_of_getElem? hr) (List.mem_of_getElem? hc) (gB i j row c hr hc)
theorem X8 {br:Nat} {cs:Array Value} {T:TypeId} (hb:aJ w br cs T) (hs:∀(i:Nat) (s:ai),cs[i]?≠some (str s)) {xs:List ai} (h:bc L w v xs):bc (L++[br]) w v xs:=by
 obtain⟨a,n,c,rfl,_⟩:=dJ h
 refine anx hb hs h (λrow hr=>?_) (λrow c' u hr hc hu=>?_)
 ·obtain⟨x,_,rfl⟩:=List.mem_map.1 hr;exact⟨x,[],rfl⟩
 ·obtain⟨x,_,rfl⟩:=List.mem_map.1 hr
  simp only[List.mem_singleton] at hc
  subst hc
  cases hu;exact .val _
theorem X9 {br:Nat} {cs:Array Value} {T:TypeId} (hb:aJ w br cs T) (hs:∀(i:Nat) (s:ai),cs[i]?≠some (str s)):∀{bs:List Bk} {xs:List Value},cS L w xs (bs.map Bk.enc).flatten->cS (L++[br]) w xs (bs.map Bk.enc).flatten
 |[],[],_=>trivial
 |f::bs,x0::x1::x2::r,h=>by
  obtain⟨r0,r1,r2,h⟩:=h
  cases r0
  exact⟨.val _,X8 (xs:=f.bY) hb hs r1,X8 (xs:=f.code) hb hs r2,X9 (bs:=bs) hb hs h⟩
theorem dD.gr {br T:Nat} (h:dD w br q) (hG:Gr B [] w T 3 v g (bs.map Bk.enc)) (hB:br<B):Gr B [br] w T 3 v g (bs.map Bk.enc):=by
 obtain⟨a,n,c,p,xs,h1,_⟩:=h
 obtain⟨ys,dv,gB,gZ,_⟩:=hG.own
 have hs:∀(i:Nat) (s:ai),([.slice a n c,.int .i64 ((p:Nat):Int)]:List Value).toArray[i]?≠some (str s):=λi s hi=>by
  match i with
  |0=>cases hi
  |1=>cases hi
  |i+2=>cases hi
 rw[List.append_nil] at gB
 exact⟨⟨ys,dv,X9 h1 hs gB,gZ,λb hb hx=>by have:=hG.low b hb;simp at hx;omega⟩,hG.low,λx hx=>by simp at hx;subst hx;exact h1.lt,hG.bsz⟩
theorem anz (br q:Nat) (hq:q<=700000000) (w:World) (h:dD w br q):
  bz Tryz.prog 27 [.pointer (some ⟨br,0,none⟩)] w λr w'=>(∃x,r=str x)∧dD w' br (q+12000)∧aj [br] w w':=by
 have hk:=aj.refl [br] w
 have iq:=h.lt
 have pL:(4:Nat)^2=16:=rfl
 refine bS [.tmp 2] 28 Tryz.func27 rfl aaf rfl rfl ?_
 refine W ?_
 refine aA (lQ 3 de de br q om w h) ?_
 rintro v9 w1 ⟨⟨z,e9,hz⟩,h,aB⟩
 subst e9
 have hk:=hk.trans aB
 refine W ?_
 refine ix (λx:ai=>[(0,.pointer (some ⟨br,0,none⟩)),(3,str x)]) (λx ww=>aj [br] w ww∧dD ww br (q+20)∧x.length<=100) ?_ ?_
 refine zc rfl (λh1=>?_) (λh1=>?_)
 refine kH<|zm<|aA (Pv 2 de br (q+1) om w1 h) ?_
 rintro v9 w2 ⟨⟨T,e9,hT⟩,h,aB⟩
 subst e9
 have XU:=T.len
 have hT:T.n+1<=8:=hT
 have hk:=hk.trans aB
 refine W ?_
 exact⟨_,⟨rfl,rfl⟩,hk,h.more om,om⟩
 refine WZ ?_
 exact⟨_,⟨rfl,rfl⟩,hk,h.more om,by decide⟩
 intro gu w2 e2 hI
 obtain⟨hk,h,hx⟩:=hI
 have lS:=h.lt
 refine zr<|zm<|fR bh bf λw3 aH iF gJ=>bI aH hk h λhk h=>?_
 refine fR bh bf λw4 aO Ov gQ=>cN aO hk h iF λhk h iF=>?_
 refine js (Ln _ _ _ _ _ _ _) rfl rfl<|zm<|zm<|aA (lQ 3 de de br (q+20) om w4 h) ?_
 rintro v9 w5 ⟨⟨z2,e9,dC⟩,h,aB⟩
 subst e9
 have hk:=hk.trans aB
 have cv:bc [br] w5 _ []:=(iF.kM.aF aB so).rep so
 have ck:bc [br] w5 _ []:=(Ov.kM.aF aB so).rep so
 have hE:=PF (2+z2) om
 have hp:4^(2+z2)<=4^4:=Nat.pow_le_pow_right de om
 have Xk:(4:Nat)^4=256:=rfl
 refine mX rfl rfl rfl rfl rfl (kQ (2+z2) om _ om)<|aA (hE [] [] gu br (q+21) _ _ w5 rfl so sm om om h cv ck) ?_
 rintro v9 w6 ⟨⟨x9,e9,iB⟩,h,aB⟩
 subst e9
 have hk:=hk.trans aB
 have h:=h.more (show _<=q+6000 from om)
 refine W ?_
 refine aA (Ny x9 w6) ?_
 rintro _ w7 ⟨rfl,bW⟩
 have lf:=bW.size
 refine bI bW hk h λhk h=>?_
 refine aZ<|zc rfl (λh2=>?_) (λh2=>?_)
 refine W ?_
 exact⟨_,rfl,⟨_,rfl⟩,h.more om,hk⟩
 have lS:=h.lt
 refine gY<|zr<|zm<|fR bh bf λw8 cE By ld=>bI cE hk h λhk h=>?_
 refine fR bh bf λw9 aB yJ df=>cN aB hk h By λhk h By=>?_
 refine js (Ln _ _ _ _ _ _ _) rfl rfl<|zm<|aA (PF 2 de [] [] gu br (q+6000) _ _ w9 rfl sm sm om om h (By.kM.rep so) (yJ.kM.rep so)) ?_
 rintro v9 cu ⟨⟨EY,e9,ar0⟩,h,aB⟩
 subst e9
 have hk:=hk.trans aB
 refine W ?_
 exact⟨_,rfl,⟨_,rfl⟩,h.more om,hk⟩
theorem Gr.two {B TB:Nat} {x1 x2 x3 y1 y2 y3:Value} {f1 f2:Bk} (hb:aJ w b [x1,x2,x3,y1,y2,y3].toArray TB) (h1:qP (b::L) w (.agg #[x1,x2,x3]) f1) (h2:qP (b::L) w (.agg #[y1,y2,y3]) f2) (hB:B<=b) (hL:∀x,x∈L->x<w.heap.size) (ri:b∉L):Gr B L w TB 3 (.slice (some ⟨b,0,none⟩) 2 2) (some b) ([f1,f2].map Bk.enc):=
 ⟨⟨[x1,x2,x3,y1,y2,y3],⟨rfl,.inr ⟨b,2,_,rfl,rfl,hb,lR _,by decide,rfl,rfl⟩⟩,cS.append (vs:=[x1,x2,x3]) h1.kj (cS.append (vs:=[y1,y2,y3]) h2.kj (vs':=[]) (cs':=[]) trivial),by intro row hr;simp at hr;rcases hr with rfl|rfl<;>rfl,by intro c hc;cases hc;exact ri⟩,by intro c hc;cases hc;exact hB,hL,Nat.le_of_lt (Nat.lt_of_le_of_lt hB hb.lt)⟩
structure DC (bs:List Bk):Prop where
 len:1<=bs.length∧bs.length<=40
 bk:∀b,b∈bs->b.aM.length<=100∧b.bY.length<=40∧b.code.length<=80∧(∀x,x∈b.bY->x.length<=12000)∧∀x,x∈b.code->x.length<=12000
theorem DC.smalls (h:DC bs):tJ bs:=⟨by have:=h.len;omega,λi hi=>by
 have:=h.bk (bR bs i) (List.mem_of_getElem? (pC hi))
 exact⟨by omega,om,om⟩⟩
theorem PO.dr {b:Bk} (h:PO b l) (hl:l.length<=100):b.aM.length<=100∧b.bY.length<=40∧b.code.length<=80∧(∀x,x∈b.bY->x.length<=12000)∧∀x,x∈b.code->x.length<=12000:=
 ⟨by rw[h.aM];exact hl,by have:=h.regs.1;omega,by have:=h.code.2.1;omega,λx hx=>by have:=h.regs.2 x hx;omega,λx hx=>by have:=h.code.2.2 x hx;omega⟩
theorem anA (h:sr x=true):x.length<=12000:=by
 unfold sr seen at h
 cases hp:bA x with
 |none=>rw[hp] at h;cases h
 |some t=>exact(wo hp).2.2.2
theorem Ya (hp:ju bs=true) (hl:∀b,b∈bs->b.aM.length<=10):DC bs:=by
 obtain⟨h1,h2,h3⟩:=X0 hp
 refine⟨⟨h2,h1⟩,λb hb=>?_⟩
 obtain⟨i,hi,rfl⟩:=List.getElem_of_mem hb
 have e:bR bs i=bs[i]:=by unfold bR;rw[gG,gE hi];rfl
 have h4:=h3 i hi
 rw[e] at h4
 obtain⟨_,h5,h6⟩:=RQ (FW hp _ hb)
 refine⟨by have:=hl _ hb;omega,h4.1,h4.2.2,λx hx=>?_,λx hx=>?_⟩
 ·obtain⟨t,ht,_⟩:=h5 x hx;exact(wo ht).2.2.2
 ·obtain⟨t,ht,_⟩:=h6 x hx;exact(wo ht).2.2.2
theorem DC.anB {cs:List Bk} (h:DC bs) (hh:vX bs cs):DC cs:=by
 refine⟨by rw[hh.1];exact h.len,λb hb=>?_⟩
 obtain⟨i,hi,rfl⟩:=List.getElem_of_mem hb
 have lN:i<bs.length:=by rw[<-hh.1];exact hi
 have e:bR cs i=cs[i]:=by unfold bR;rw[gG,gE hi];rfl
 obtain⟨h1,h2,h3,h4⟩:=hh.2 i lN
 rw[e] at h1 h2 h3 h4
 have h5:=h.bk (bR bs i) (List.mem_of_getElem? (pC lN))
 rw[h1,h2]
 exact⟨h5.1,h5.2.1,om,h5.2.2.2.1,λx hx=>(h4 x hx).elim (h5.2.2.2.2 x) anA⟩
def PX:List ai:=[[98,49],[98,48],[101,110,100]]
theorem anC (br q:Nat) (hq:q<=600000000) (w:World) (h:dD w br q):
  bz Tryz.prog 14 [.pointer (some ⟨br,0,none⟩)] w λr w'=>(∃bs g,DC bs∧Gr w.heap.size [br] w' 39 3 r g (bs.map Bk.enc))∧dD w' br (q+20000)∧aj [br] w w':=by
 have hk:=aj.refl [br] w
 have iq:=h.lt
 refine bS [.tmp 2] 49 Tryz.func14 rfl ZH rfl rfl ?_
 refine W ?_
 refine aA (lQ 3 de de br q om w h) ?_
 rintro v9 w1 ⟨⟨z,e9,hz⟩,h,aB⟩
 subst e9
 have hk:=hk.trans aB
 refine W ?_
 refine zc rfl (λh1=>?_) (λh1=>?_)
 have lS:=h.lt
 refine zr<|zm<|aA (PR [109,97,105,110] 0 de br (q+1) om w1 h) ?_
 rintro v9 w2 ⟨⟨f1,rU,cv⟩,h,aB⟩
 have hk:=hk.trans aB
 have cv:=cv [br] so
 have bZ:=DP cv
 obtain⟨a1,n1,c1,a2,n2,c2,e9,fx,eV,cV,dm⟩:=bZ
 subst e9
 refine zm<|zm<|aA (lQ 3 de de br (q+101) om w2 h) ?_
 rintro v9 w3 ⟨⟨z2,e9,dC⟩,h,aB⟩
 subst e9
 have hk:=hk.trans aB
 have cV:=cV.aD aB sm;have dm:=dm.aD aB sm
 have lS:=h.lt
 refine aA (PR [98,48] z2 om br (q+102) om w3 h) ?_
 rintro v9 w4 ⟨⟨f2,rV,ck⟩,h,aB⟩
 have hk:=hk.trans aB
 have cV:=cV.aD aB sm;have dm:=dm.aD aB sm
 have ck:=ck [br] so
 have bZ:=DP ck
 obtain⟨a3,n3,c3,a4,n4,c4,e9,pg,VC,fm,fE⟩:=bZ
 subst e9
 refine sL [.tmp 10,.tmp 14] [[str f1.aM,.slice a1 n1 c1,.slice a2 n2 c2],[str f2.aM,.slice a3 n3 c3,.slice a4 n4 c4]] iK fU rfl rfl rfl rfl rfl rfl rfl rfl rfl λw5 aN EB JL=>?_
 have lS:=h.lt
 have we:∀x,x∈w4.heap.size::[br]->x∈[br]∨w4.heap.size<=x:=(λx hx=>by rcases mC.1 hx with h9|h9;(·right;omega);(·exact .inl h9))
 have cV:=(cV.fresh we).ext aN
 have dm:=(dm.fresh we).ext aN
 have fm:=(fm.fresh we).ext aN
 have fE:=(fE.fresh we).ext aN
 have DD:=hk.size
 refine bI aN hk h λhk h=>?_
 have hO:=Gr.two (B:=w.heap.size) (L:=[br]) EB (BT cV dm) (BT fm fE) om so so
 refine W ?_
 refine aA (lQ 3 de de br (q+202) om w5 h) ?_
 rintro v9 w6 ⟨⟨z3,e9,gJ⟩,h,aB⟩
 subst e9
 have hk:=hk.trans aB
 have hO:=hO.aD aB sm
 refine W ?_
 refine zc rfl (λh2=>?_) (λh2=>?_)
 have lS:=h.lt
 refine W ?_
 refine pO bh bf rfl rfl rfl rfl rfl λw7 bW rX oX=>cN bW hk h hO λhk h hO=>?_
 refine aA (mi PX de de br (q+203) om _ w7 h (aJ.dK PX rX (λhx=>by simp at hx;omega) de)) ?_
 rintro l9 w8 ⟨⟨lb,hi,gS⟩,h,aB⟩
 subst gS
 have hk:=hk.trans aB
 have hO:=hO.aD aB sm
 have yb:=(show∀x,x∈PX->x.length<=30 from by decide) _ hi
 refine zm<|aA (lQ 2 de de br (q+204) om w8 h) ?_
 rintro v9 w9 ⟨⟨z4,e9,gQ⟩,h,aB⟩
 subst e9
 have hk:=hk.trans aB
 have hO:=hO.aD aB sm
 have lS:=h.lt
 have fG:=hO.all
 refine aA (PR lb z4 om br (q+205) om w9 h) ?_
 rintro v9 cu ⟨⟨f3,vF,Jm⟩,h,aB⟩
 have hk:=hk.trans aB
 have hO:=hO.aD aB sm
 have Jm:=Jm _ fG
 have bZ:=DP Jm
 obtain⟨a5,n5,c5,a6,n6,c6,e9,J2,Xi,l3,od⟩:=bZ
 subst e9
 refine fc iK fU rfl rfl λeD dd anD vi=>la dd hk h hO l3 od λhk h hO l3 od=>?_
 refine Rx iK fU rfl rfl rfl rfl rfl rfl hO anD (BT l3 od) sm λa7 c7 g7 fA fY di=>?_
 have hk:=hO.since hk di
 have h:=h.aF di (λx hx=>by have:=hO.low x (by simp at hx;simp[hx]);omega)
 refine W ?_
 exact⟨_,rfl,⟨[f1,f2]++[f3],_,⟨by simp,λb hb=>by simp at hb;rcases hb with rfl|rfl|rfl;(·exact rU.dr de);(·exact rV.dr de);(·exact vF.dr om)⟩,fY⟩,h.more om,hk⟩
 refine W ?_
 exact⟨_,rfl,⟨[f1,f2],_,⟨by simp,λb hb=>by simp at hb;rcases hb with rfl|rfl;(·exact rU.dr de);(·exact rV.dr de)⟩,hO⟩,h.more om,hk⟩
 refine gY<|zr<|zm<|aA (anz br (q+1) om w1 h) ?_
 rintro v9 w2 ⟨⟨x9,e9⟩,h,aB⟩
 subst e9
 have hk:=hk.trans aB
 have lS:=h.lt
 have DD:=hk.size
 refine aA (Xv x9 w2) ?_
 rintro v3 w3 ⟨ko,aH⟩
 have fm:=aH.size
 refine bI aH hk h λhk h=>?_
 obtain⟨v1,ok,bs,e9,_,hC,hR⟩:=ko
 subst e9
 refine W ?_
 refine ix (λv:Value=>[(0,.pointer (some ⟨br,0,none⟩)),(4,v)]) (λv ww=>aj [br] w ww∧dD ww br (q+12001)∧∃bs g,Gr w.heap.size [br] ww 39 3 v g (bs.map Bk.enc)∧ju bs=true∧∀b,b∈bs->b.aM.length<=10) ?_ ?_
 refine zc rfl (λh3=>?_) (λh3=>?_)
 have hf:ok=false:=(by simpa using h3)
 have lS:=h.lt
 have DD:=hk.size
 refine kH<|aA (Xv [40,43,32,49,32,50,41] w3) ?_
 rintro v4 w4 ⟨jR,aO⟩
 have fE:=aO.size
 refine bI aO hk h λhk h=>?_
 obtain⟨v2,ok2,XH,e9,_,PY,Pu⟩:=jR
 subst e9
 have anE:=alV PY
 subst anE
 have aQ:=Pu rfl
 obtain⟨g2,yA⟩:=aQ
 refine W ?_
 exact⟨_,⟨rfl,rfl⟩,hk,h.more om,_,g2,(h.gr yA lS).down DD,PY.prog,PY.aM⟩
 have ba:ok=true:=(by simpa using h3)
 subst ba
 have aQ:=hR rfl
 obtain⟨g2,yA⟩:=aQ
 refine WZ ?_
 exact⟨_,⟨rfl,rfl⟩,hk,h.more om,_,g2,(h.gr yA lS).down DD,hC.prog,hC.aM⟩
 intro gu w4 e4 hI
 obtain⟨hk,h,bs,g,hR,nO,Fh⟩:=hI
 refine jL<|zr<|zm<|aA (lQ 2 de de br (q+12001) om w4 h) ?_
 rintro v9 w5 ⟨⟨z5,e9,ig⟩,h,aB⟩
 subst e9
 have hk:=hk.trans aB
 have hR:=hR.aD aB sm
 have DD:=hk.size
 refine W ?_
 refine zc rfl (λh4=>?_) (λh4=>?_)
 refine W ?_
 exact⟨_,rfl,⟨bs,g,Ya nO Fh,hR⟩,h.more om,hk⟩
 have hRn:=bQ.none hR.tK
 refine W ?_
 refine aA (anl bs nO br (q+12002) om _ w5 h hRn) ?_
 rintro v9 w6 ⟨⟨cs,gc,hRc,hH⟩,h,aB⟩
 have hk:=hk.trans aB
 refine W ?_
 exact⟨_,rfl,⟨cs,gc,(Ya nO Fh).anB hH,hRc.down DD⟩,h.more om,hk⟩
structure KV (bs:List Bk):Prop where
 len:bs.length<=41
 bk:∀b,b∈bs->b.aM.length<=100∧b.bY.length<=40∧b.code.length<=80∧(∀x,x∈b.bY->x.length<=12000)∧∀x,x∈b.code->x.length<=12000
theorem KV.smalls (h:KV bs):tJ bs:=⟨by have:=h.len;omega,λi hi=>by
 have:=h.bk (bR bs i) (List.mem_of_getElem? (pC hi))
 exact⟨by omega,om,om⟩⟩
theorem anH (bs:List UInt8) (hb:bs.length<=1000000000) (v:Value) (w:World) (hv:bQ [] w v (.sl 1 (qJ bs))):
  bz Tryz.prog 8 [v] w λr w'=>(∃ps,KV ps∧nR [] w' r ps)∧aj [] w w':=by
 have hK:=aj.refl [] w
 refine bS [.tmp 2] 27 Tryz.func8 rfl nm8 rfl rfl ?_
 refine W ?_
 refine aA (aml bs hb _ w hv) ?_
 rintro v1 w1 ⟨fX,aI⟩
 have cV:=aI.size
 have hK:=hK.ext aI
 obtain⟨br,e9,Jj,h⟩:=fX
 subst e9
 have DD:=hK.size
 refine W ?_
 refine aA (anC br 0 de w1 h) ?_
 rintro v9 w2 ⟨⟨ps,gp,hP,hG⟩,h,aB⟩
 have hK:=hK.since aB (λx hx=>.inr (by simp at hx;omega))
 have nZ:=hP.len
 refine W ?_
 refine aA (lQ 12 de de br _ de w2 h) ?_
 rintro v10 w3 ⟨⟨z,fo,hz⟩,h,aB⟩
 subst fo
 have hK:=hK.since aB (λx hx=>.inr (by simp at hx;omega))
 have hG:=hG.aD aB sm
 have mZ:=hG.amQ om
 obtain⟨b0,a1,n1,c1,a2,n2,c2,pc,e9,et,cV,dm⟩:=mZ
 subst e9
 refine W ?_
 refine zc rfl (λh1=>?_) (λh1=>?_)
 refine zr<|fR iK fU λw4 aO lI gQ=>?_
 have hK:=hK.ext aO
 refine W ?_
 exact⟨_,rfl,⟨[],⟨by simp,sm⟩,.nil _ _ _⟩,hK⟩
 refine W ?_
 refine zc rfl (λh2=>?_) (λh2=>?_)
 refine zr<|zm<|Ft (l:=1) iK fU rfl rfl rfl rfl om (bQ.none hG.tK) λAK aW=>W ?_
 exact⟨_,rfl,⟨ps.drop 1,⟨by rw[List.length_drop];omega,λb hb=>hP.bk b (List.mem_of_mem_drop hb)⟩,show bQ _ _ _ (.sl 3 ((ps.drop 1).map Bk.enc)) from by rw[List.map_drop];exact aW⟩,hK⟩
 refine W ?_
 refine zc rfl (λh3=>?_) (λh3=>?_)
 refine zr<|zm<|zm<|zi (i:=0) iK fU rfl rfl om<|zL DK fU rfl ((show fS _ b0 (0+0*3) _ from by simpa using et)) rfl<|fc iK fU rfl rfl ?_
 intro w4 aO yJ gQ
 refine ie aO hK hG cV dm λhK hG cV dm=>?_
 refine Rx iK fU rfl rfl rfl rfl rfl rfl hG yJ (BT cV dm) om λa7 c7 g7 w5 fY aN=>?_
 have hK:=hK.since aN (λx hx=>.inr (by have:=hG.low x (by simpa using hx);omega))
 refine W ?_
 exact⟨_,rfl,⟨ps++[bR ps 0],⟨by simp;omega,λb hb=>by rcases mA.1 hb with h9|h9;(·exact hP.bk b h9);(·simp only[List.mem_singleton] at h9;rw[h9];exact hP.bk _ (List.mem_of_getElem? (pC om)))⟩,bQ.none fY.tK⟩,hK⟩
 refine W ?_
 exact⟨_,rfl,⟨ps,⟨by omega,hP.bk⟩,bQ.none hG.tK⟩,hK⟩
theorem Yb {ts:List aq} {n:Nat} (hn:ts.length<=n) (h9:n<1000000) (h:∀t,t∈ts->WF t∧t.size<=24000∧t.text.length<=12000):DW ts:=
 ⟨by omega,λt ht=>by obtain⟨h1,h2,h3⟩:=h t ht;exact⟨h1,om,om⟩⟩
theorem B1.anI {b:dy} (h:B1 b):DW b.regs∧DW b.code:=
 ⟨Yb h.regs om λt ht=>⟨(h.rok t ht).lu.wf,(h.rok t ht).size,(h.rok t ht).short⟩,Yb h.code om λt ht=>⟨(h.cok t ht).1.wf,by have:=(h.cok t ht).1.size;omega,(h.cok t ht).1.text⟩⟩
theorem anJ (h:∀b,b∈ps->B1 b):MS ps:=λb hb t ht=>⟨((h b hb).cok t ht).1.wf,afo ((h b hb).cok t ht).2.2⟩
theorem Yc (h:∀b,b∈ps->B1 b):jl ps<=80*ps.length:=by
 induction ps with
 |nil=>simp[jl]
 |cons b ps ih=>
  have h1:=ih λb hb=>h b (mK _ hb)
  have h2:=(h b (List.mem_cons_self ..)).code
  simp only[jl,List.map_cons,List.sum_cons,lC] at h1⊢
  omega
theorem anK (bs:List Bk):∀row,row∈bs.map Bk.enc->∀c,c∈row->∀v,c= .val v->v.oneCell'=true:=by
 intro row hr c hc v hv
 obtain⟨b,_,rfl⟩:=List.mem_map.1 hr
 simp only[Bk.enc,mC,List.not_mem_nil,or_false] at hc
 rcases hc with h|h|h
 ·subst h;cases hv;rfl
 ·subst h;cases hv
 ·subst h;cases hv
theorem anL (bs:List Bk) (hb:tJ bs) (ti:ni bs=true) (v:Value) (Li L:List Nat) (w:World) (hv:nR Li w v bs) (hL:∀x,x∈L->x<w.heap.size):
  bz Tryz.prog 7 [v] w λr w'=>(∃xv ms,r= .tuple #[xv,.bool true]∧nR L w' xv (jG ms (bs.map dQ) bs.length))∧aj [] w w':=by
 have hK:=aj.refl [] w
 have nO:ju bs=true:=by unfold ni at ti;exact(aE _ _▸ti).1
 have PZ:=(R5 nO).2
 have hlen:1<=bs.length∧bs.length<=40:=by unfold ju at nO;simp only[aE,dE] at nO;exact nO.2.1.1
 have EJ:=Yc PZ
 rw[List.length_map] at EJ
 refine bS [.tmp 2,.tmp 3] 35 Tryz.func7 rfl nm7 rfl rfl ?_
 refine W ?_
 refine aA (To bs hb _ Li [] w hv sm) ?_
 rintro v1 w1 ⟨fX,aI⟩
 have cV:=aI.size
 have hK:=hK.ext aI
 obtain⟨ps,pv,rfl,hp,vG⟩:=fX
 have aP:=vG ti
 subst aP
 refine W ?_
 refine Yi (congrArg Value.bool (by rw[ti];rfl))<|W ?_
 refine aA (al7 (bs.map dQ) (by rw[List.length_map];omega) (by rw[List.length_map];omega) om (anJ PZ) _ w1 hp) ?_
 rintro v2 w2 ⟨ij,az⟩
 have dm:=az.size
 refine bI az hK hp λhK hp=>?_
 obtain⟨ms,tE,e9,hms⟩:=ij
 subst e9
 rw[List.length_map] at tE⊢
 have lT:=aj.refl [] w2
 have aQ:=Eh hp
 obtain⟨pa,pc,e8⟩:=aQ
 subst e8
 have aQ:=Cm hp (sv (ps:=bs.map dQ) (i:=0) (by rw[List.length_map];omega))
 obtain⟨pb,poff,p1,gm,p2,iw,e7,_,_,_⟩:=aQ
 subst e7
 refine W ?_
 refine eA (λq:Nat×Option Addr×Nat×Option Nat=>[(4,.slice (some ⟨pb,poff,none⟩) (bs.map dQ).length pc),(6,.slice q.2.1 (jG ms (bs.map dQ) q.1).length q.2.2.1),(17,.slice (some ⟨w1.heap.size,0,none⟩) bs.length bs.length),(18,.int .i64 (bs.length:Int)),(19,.int .i64 (q.1:Int))]) (λq w'=>aj [] w w'∧aj [] w2 w'∧Gr w2.heap.size L w' 39 3 (.slice q.2.1 (jG ms (bs.map dQ) q.1).length q.2.2.1) q.2.2.2 ((jG ms (bs.map dQ) q.1).map Bk.enc)∧q.1<=bs.length) (λq=>bs.length-q.1) ((0,none,0,none)) (⟨rfl,rfl,rfl,rfl,rfl⟩) (⟨hK,lT,Gr.nil (λx hx=>lL (hL x hx) hK.size) (lR _),sm⟩) λgg w3 e3 hI=>?_
 obtain⟨i,a3,cc,g⟩:=gg
 dsimp only at hI⊢
 obtain⟨hK,lT,hO,hk⟩:=hI
 have nZ:=MR ms (bs.map dQ) i
 refine W ?_
 refine zc rfl (λh2=>?_) (λh2=>?_)
 have hi:i<bs.length:=by omega
 have Yd:(bs.map dQ)[i]?=some (eC (bs.map dQ) i):=sv (by rw[List.length_map];exact hi)
 have Co:=List.mem_of_getElem? Yd
 refine WI ?_
 refine zi Ix DL rfl rfl hi<|zl Iw rfl ((hms.ext lT).at (XA om))<|zA<|zA<|aZ<|zr<|zm<|aZ<|zc rfl (λh3=>?_) (λh3=>?_)
 have hmi:ms.getD i false=true:=h3
 refine WA ?_
 refine mX rfl rfl rfl rfl rfl (show IntKind.i64.wrap ((i:Int)+1)=((i+1:Nat):Int) from wrap_i64 _ om om)<|Xz (L:=[]) (l:=i) (h:=i+1) wk jf rfl rfl rfl rfl rfl om (by rw[List.length_map];omega) (nG.ext hp lT) λvs aW=>?_
 rw[take_one (show((bs.map dQ).map dy.enc)[i]?=some (dy.enc (eC (bs.map dQ) i)) from by rw[List.getElem?_map,Yd];rfl)] at aW
 refine aA (amh [eC (bs.map dQ) i] sm (λb hb=>by rw[List.mem_singleton.1 hb];exact(PZ _ Co).anI) _ (g.toList++L) [] w3 aW hO.all) ?_
 rintro v4 w4 ⟨jR,aO⟩
 have fE:=aO.size
 refine cN aO hK lT hO λhK lT hO=>?_
 have Ye:=jR
 have aQ:=zQ Ye
 obtain⟨wa,wn,wc,e6,hwn⟩:=aQ
 subst e6
 have qz:jG ms (bs.map dQ) (i+1)=jG ms (bs.map dQ) i++[mD (eC (bs.map dQ) i)]:=by rw[jG,iP hmi]
 refine wT iK fU rfl rfl rfl rfl rfl rfl hO Ye (anK _) so λa4 fP g4 w5 iY aN=>?_
 have fp:=hK
 have hK:=aj.LF (by have:=lT.size;omega) hO.low hK aN
 have lT:=hO.since lT aN
 have e1:(jG ms (bs.map dQ) i).map Bk.enc++([eC (bs.map dQ) i].map mD).map Bk.enc=(jG ms (bs.map dQ) (i+1)).map Bk.enc:=by rw[qz,List.map_append];rfl
 have e2:((jG ms (bs.map dQ) i).map Bk.enc).length+(([eC (bs.map dQ) i].map mD).map Bk.enc).length=(jG ms (bs.map dQ) (i+1)).length:=by rw[qz];simp
 rw[e1] at iY
 rw[e2] at iY⊢
 refine W ?_
 exact⟨(i+1,a4,fP,g4),⟨rfl,rfl,rfl,rfl,rfl⟩,⟨hK,lT,iY,by dsimp only;omega⟩,by dsimp only;omega⟩
 have qz:jG ms (bs.map dQ) (i+1)=jG ms (bs.map dQ) i:=by rw[jG,iN (by intro hh;rw[hh] at h3;cases h3)];simp
 refine W ?_
 refine⟨(i+1,a3,cc,g),⟨rfl,congrArg (λn=>Value.slice a3 n cc) (congrArg List.length qz.symm),rfl,rfl,rfl⟩,⟨hK,lT,?_,by dsimp only;omega⟩,by dsimp only;omega⟩
 (show Gr _ _ _ _ _ (.slice a3 (jG ms (bs.map dQ) (i+1)).length cc) _ ((jG ms (bs.map dQ) (i+1)).map Bk.enc))
 rw[qz]
 exact hO
 have hie:i=bs.length:=by omega
 subst hie
 refine W ?_
 exact⟨_,rfl,⟨_,ms,rfl,hO.tK⟩,hK⟩
theorem Yf (bs:List Bk) (hb:tJ bs) (v:Value) (Li:List Nat) (w:World) (hv:nR Li w v bs):
  bz Tryz.prog 5 [v] w λr w'=>r= .int .i64 (sK bs)∧aj [] w w':=by
 have hK:=aj.refl [] w
 refine bS [.tmp 2] 28 Tryz.func5 rfl nm5 rfl rfl ?_
 refine W ?_
 refine aA (To bs hb _ Li [] w hv sm) ?_
 rintro v1 w1 ⟨fX,aI⟩
 have cV:=aI.size
 have hK:=hK.ext aI
 obtain⟨ps,pv,rfl,hp,vG⟩:=fX
 refine W ?_
 refine zc rfl (λh1=>?_) (λh1=>?_)
 have hq:ni bs=false:=by simpa using h1
 refine W ?_
 exact⟨_,rfl,by unfold sK;rw[hq];rfl,hK⟩
 have ti:ni bs=true:=(by simpa using h1)
 have aP:=vG ti
 subst aP
 have nO:ju bs=true:=(by unfold ni at ti;exact(aE _ _▸ti).1)
 have EJ:=Yc (R5 nO).2
 have hlen:1<=bs.length∧bs.length<=40:=(by unfold ju at nO;simp only[aE,dE] at nO;exact nO.2.1.1)
 rw[List.length_map] at EJ
 have aQ:=Eh hp
 obtain⟨pa,pc,e8⟩:=aQ
 subst e8
 have lT:=aj.refl [] w1
 rw[List.length_map]
 refine W ?_
 refine eA (λi:Nat=>[(5,.int .i64 (jl ((bs.map dQ).take i):Nat)),(15,.slice pa bs.length pc),(16,.int .i64 (bs.length:Int)),(17,.int .i64 (i:Int))]) (λi w'=>aj [] w w'∧aj [] w1 w'∧i<=bs.length) (λi=>bs.length-i) (0) (⟨rfl,rfl,rfl,rfl⟩) (⟨hK,lT,om⟩) λgg w2 e2 hI=>?_
 obtain⟨hK,lT,hk⟩:=hI
 have ar3:=lT.size
 have ar4:=hK.size
 refine W ?_
 refine zc rfl (λh2=>?_) (λh2=>?_)
 have hi:gg<(bs.map dQ).length:=(by rw[List.length_map];omega)
 have aQ:=Cm hp (sv hi)
 obtain⟨b,off,r1,Jd,r2,Gx,rfl,hc,mB,pL⟩:=aQ
 have I8:=Gz hi
 have yb:=Je (bs.map dQ) (gg+1)
 have uF:jl ((bs.map dQ).take gg)+(eC (bs.map dQ) gg).code.length<=3200:=by omega
 refine WL ?_
 refine zL zG jf rfl (hc.ext lT) rfl<|dx jf rfl rfl rfl λw3 aH cM gJ=>?_
 have hK:=hK.grow;have hK:=hK.ext aH;have lT:=lT.grow;have lT:=lT.ext aH
 refine cJ jf rfl rfl rfl cM rfl λw4 aO cM gQ=>?_
 have hK:=hK.aD aO sx;have lT:=lT.aD aO sx
 refine W ?_
 exact⟨gg+1,⟨by show Value.int _ _=Value.int _ _;congr 1;rw[I8];omega,rfl,rfl,rfl⟩,⟨hK,lT,om⟩,om⟩
 have sM:(bs.map dQ).take gg=bs.map dQ:=List.take_of_length_le (by rw[List.length_map];omega)
 refine W ?_
 exact⟨_,rfl,(show Value.int .i64 ((jl ((bs.map dQ).take gg):Nat):Int)= .int .i64 (sK bs) from by unfold sK;rw[iP ti,sM,Tt]),hK⟩
theorem anP (bs:List UInt8) (hn:bs.length<=1048576) (v:Value) (w:World) (hv:bQ [] w v (.sl 1 (qJ bs))):
  bz Tryz.prog 4 [v] w λr w'=>(∃ps,KV ps∧nR [] w' r ps)∧aj [] w w':=by
 have hK:=aj.refl [] w
 refine bS [.tmp 2] 5 Tryz.func4 rfl nm4 rfl rfl ?_
 refine W ?_
 refine aA (anH bs om _ w hv) ?_
 rintro v1 w1 ⟨fX,aI⟩
 have cV:=aI.size
 have hK:=hK.ext aI
 have hd:=fX
 refine W ?_
 exact⟨_,rfl,hd,hK⟩
theorem anQ (h:∀b,b∈bs->b.aM.length<=12000):ni bs=ju bs:=by
 unfold ni
 rw[show bs.all BZ=true from List.all_eq_true.2 λb hb=>dT (h b hb),Bool.and_true]
theorem anR (h:∀b,b∈bs->1<=b.code.length):bs.length<=lines bs:=by
 induction bs with
 |nil=>simp
 |cons b bs ih=>
  have h1:=ih λb hb=>h b (mK _ hb)
  have h2:=h b (List.mem_cons_self ..)
  simp only[lines,List.map_cons,List.sum_cons,lC] at h1⊢
  omega
theorem anS {ms:List Bool} (hl:∀b,b∈ps->b.aM.length<1000000000∧b.regs.length<1000000000∧b.code.length<1000000000) {k:Nat} (hk:k<=ps.length) (hp:ps.length<1000000000):tJ (jG ms ps k):=by
 have h1:=MR ms ps k
 refine⟨by omega,λi hi=>?_⟩
 obtain⟨j,hj,e⟩:=Tv (List.mem_of_getElem? (pC hi))
 have h2:=hl _ (List.mem_of_getElem? (sv (ps:=ps) (i:=j) om))
 rw[e]
 exact⟨h2.1,by simpa[mD] using h2.2.1,by simpa[mD] using h2.2.2⟩
theorem ar5 (bs:List UInt8) (v:Value) (w:World) (hv:bQ [] w v (.sl 1 (qJ bs))):
  bz Tryz.prog 3 [v] w λr w'=>r= .bool true∧aj [] w w':=by
 obtain⟨a,c,rfl,_⟩:=rC hv
 have iq:(qJ bs).length=bs.length:=Fg bs
 have hK:=aj.refl [] w
 refine bS [.tmp 2] 45 Tryz.func3 rfl nm3 rfl rfl ?_
 refine W ?_
 refine zc rfl (λh1=>?_) (λh1=>?_)
 refine W ?_
 exact⟨_,rfl,rfl,hK⟩
 refine gY<|zr<|zm<|aA (anP bs om _ w hv) ?_
 rintro v1 w1 ⟨fX,aI⟩
 have cV:=aI.size
 have hK:=hK.ext aI
 obtain⟨ps,hP,hR⟩:=fX
 have bZ:=zQ hR
 obtain⟨pa,pn,pc,e8,eP⟩:=bZ
 subst e8
 have hS:=hP.smalls
 have Fh:∀b,b∈ps->b.aM.length<=12000:=(λb hb=>by have:=(hP.bk b hb).1;omega)
 have P1:=anQ Fh
 refine W ?_
 refine aA (Yf ps hS _ [] w1 hR) ?_
 rintro _ w2 ⟨rfl,az⟩
 have dm:=az.size
 refine bI az hK hR λhK hR=>?_
 refine W ?_
 refine aA (aes ps hS _ [] w2 hR) ?_
 rintro _ w3 ⟨rfl,aH⟩
 have fm:=aH.size
 refine bI aH hK hR λhK hR=>?_
 refine W ?_
 apply oP 3 20 23 rfl oQ
 intro _
 exact oQ
 intro xx
 refine aZ<|zc rfl (λh3=>?_) (λh3=>?_)
 have AJ:sK ps=BV ps:=(by unfold sK BV;rw[P1])
 refine W ?_
 exact⟨_,rfl,congrArg Value.bool (dT AJ),hK⟩
 have AJ:sK ps=BV ps:=(by unfold sK BV;rw[P1])
 have oC:¬sK ps<0:=(by have h8:=(Bool.or_eq_false_iff.1 h3).2;simpa using h8)
 have ti:ni ps=true:=(by cases hq:ni ps with|true=>rfl|false=>exact absurd (by unfold sK;rw[iN (by rw[hq];simp)];omega) oC)
 have nO:ju ps=true:=P1.symm.trans ti
 have hlen:1<=ps.length∧ps.length<=40:=(by unfold ju at nO;simp only[aE,dE] at nO;exact nO.2.1.1)
 have fC:sK ps=(lines ps:Int):=iP ti
 have lW:∀b,b∈ps->1<=b.code.length:=(λb hb=>by obtain⟨k,hk,e⟩:=List.getElem_of_mem hb;have h9:=FW nO (bR ps k) (List.mem_of_getElem? (pC hk));unfold lY at h9;simp only[aE,dE] at h9;have h8:=h9.1.1.2.1;have e2:bR ps k=b:=by{simp[bR,gE hk,e]};rw[e2] at h8;exact h8)
 have j8:=anR lW
 refine gY<|zr<|zm<|aA (anL ps hS ti _ [] [] w3 hR sm) ?_
 rintro v4 w4 ⟨jR,aO⟩
 have fE:=aO.size
 have hK:=hK.ext aO
 obtain⟨xv,ms,e7,hX⟩:=jR
 subst e7
 have vU:=zQ hX
 obtain⟨xa,xn,xc,e6,XW⟩:=vU
 subst e6
 have hSx:tJ (jG ms (ps.map dQ) ps.length):=anS (λb hb=>by obtain⟨q,hq,e⟩:=List.mem_map.1 hb;have h9:=hP.bk q hq;subst e;exact⟨by show q.aM.length<_;omega,by show(q.bY.map tr).length<_;rw[List.length_map];omega,by show(q.code.map tr).length<_;rw[List.length_map];omega⟩) (by rw[List.length_map];exact lR _) (by rw[List.length_map];omega)
 have hle:=Tw ms (ps.map dQ) ps.length (by rw[List.length_map];exact lR _)
 have sM:(ps.map dQ).take ps.length=ps.map dQ:=List.take_of_length_le (by rw[List.length_map];exact lR _)
 rw[sM,Tt] at hle
 have hsx:=afq (jG ms (ps.map dQ) ps.length)
 refine zm<|zx (i:=0) rfl rfl<|zx (i:=1) rfl rfl<|zA<|zA<|aZ<|zr<|zm<|zm ?_
 apply Ic 5 33 38 [33,34,35,36,37,38] (λw'=>w4=w') rfl
 intro h4
 replace h4:=jj h4
 refine zm<|zm<|Fp iK rfl rfl rfl<|Qg rfl rfl rfl rfl rfl<|zp rfl<|aZ ?_
 exact mg rfl rfl
 intro h4
 replace h4:=jj h4
 refine W ?_
 exact mg rfl rfl
 rintro xx _ rfl
 refine WZ ?_
 apply oA 5 39 44 (aj [] w4) rfl oQ
 intro _
 refine zm<|aA (Yf (jG ms (ps.map dQ) ps.length) hSx _ [] w4 hX) ?_
 rintro _ w5 ⟨rfl,aN⟩
 have l3:=aN.size
 exact oQ
 intro xx w5 aN
 have hK:=hK.ext aN
 refine W ?_
 exact⟨_,rfl,congrArg Value.bool (by rw[aE,aE];exact⟨⟨rfl,dT om⟩,dT om⟩),hK⟩
section
open Go Go.ChangeShapes Go.WideShapes
theorem anU {a:Addr} (h:w.cell? a=some v):a=⟨a.block,a.off,none⟩∧a.block<w.heap.size:=by
 obtain⟨b,o,s⟩:=a
 unfold World.cell? at h
 split at h
 ·rename_i c _ _ he
  cases s with
  |some s=>simp at h
  |none=>exact⟨rfl,(Array.getElem?_eq_some_iff.1 he).1⟩
 ·cases h
theorem anV {a:Addr} (h:a=⟨a.block,a.off,none⟩) (i:Nat):a.add i=⟨a.block,a.off+i,none⟩:=by rw[h];exact qL _ _ _
section
variable {H:Type} {enc:TypeId×Value->H} {P:Program} {w:World} {held:Bool}
end
end
section
open Go Go.ChangeShapes Go.WideShapes
theorem anW {zs:List Int} (h:∀n,n∈zs->(Lit.int .u8 n).wf=true) (hi:i<zs.length):Value.int .u8 (zs.getD i 0)= .int .u8 (((UInt8.ofNat (zs.getD i 0).toNat).toNat:Nat):Int):=by
 have:=range_u8 h i
 rw[<-gG] at this
 congr 1
 simp only[UInt8.toNat_ofNat']
 omega
section
variable {H:Type} {enc:TypeId×Value->H} {P:Program} {w:World} {held:Bool}
theorem ar7 {t e:TypeId} {fuel:Nat} {cs:List Value} {x:DataW H×List MemPlace} (ht:P.underlying t=some (.slice e)) (he:P.underlying e=some (.int .u8)) (hc:P.cellsOf e=1) 
  (h:DataW.trod enc P w 0 (λ_=>true) held fuel t cs=some x):∃a len cap bs,cs=[.slice a len cap]∧bQ [] w (.slice a len cap) (.sl 1 (qJ bs)):=by
 rcases open_ints ht he hc h with⟨rfl,_⟩|⟨a,len,cap,zs,rfl,_,hl,hm,hz,_,kh,cm⟩
 ·exact⟨none,0,0,[],rfl,.nil _ _ _⟩
 ·simp only[if_true] at hz
  rcases Nat.eq_zero_or_pos len with h0|hp
  ·subst h0
   exact⟨some a,0,cap,[],rfl,.nil _ _ _⟩
  ·have h0:=kh 0 om
   rw[show a.add 0=a from by simp[Addr.add]] at h0
   obtain⟨ha,hb⟩:=anU h0
   have iq:((zs.take len).map λn=>UInt8.ofNat n.toNat).length=len:=by simp;omega
   refine⟨some a,len,cap,(zs.take len).map λn=>UInt8.ofNat n.toNat,rfl,?_⟩
   rw[ha]
   refine .sl a.block a.off len cap 1 _ (λi _=>.int .u8 (zs.getD i 0)) (by rw[Fg,iq]) hl hb sm (λrow hr=>?_) (λi j hi hj=>?_) (λi j row c gZ hc=>?_)
   ·obtain⟨_,_,rfl⟩:=List.mem_map.1 hr;rfl
   ·have h1:=kh i om
    rw[anV ha] at h1
    rw[show a.off+i*1+j=a.off+i from by omega]
    exact h1
   ·have hi:i<len:=by
     have:=(List.getElem?_eq_some_iff.1 gZ).1
     rw[Fg,iq] at this;exact this
    have hrw:row=[.val (.int .u8 (((UInt8.ofNat (zs.getD i 0).toNat).toNat:Nat):Int))]:=by
     simp only[qJ,List.map_map,List.getElem?_map,List.getElem?_take,iP hi,gE (show i<zs.length by omega),Option.map_some,Function.comp,Option.some.injEq] at gZ
     rw[<-gZ]
     simp[gG,gE (show i<zs.length by omega)]
    subst hrw
    match j,hc with
    |0,hc=>
     simp only[List.getElem?_cons_zero,Option.some.injEq] at hc
     subst hc
     rw[anW cm om]
     exact .val _
    |j+1,hc=>simp at hc
end
end
theorem ar8:(fun(_:Program) (_:FuncId) (_:Func) (s:ChangeSpec) (c:OpenClaim)=>(c.wf (OpenSpec.ofChange s):Bool)) Tryz.pinned.checked.prog 3 Tryz.f3 Rows.fnProgramSizeSpec Rows.fnProgramSizeRow=true:=by kernel_rfl
theorem ar9:(fun(P:Program) (_:FuncId) (_:Func) (_:ChangeSpec) (_:OpenClaim)=>(laidOutB P:Bool)) Tryz.pinned.checked.prog 3 Tryz.f3 Rows.fnProgramSizeSpec Rows.fnProgramSizeRow=true:=by kernel_rfl
theorem asa:(fun(P:Program) (_:FuncId) (_:Func) (_:ChangeSpec) (_:OpenClaim)=>(mapsRowed P:Bool)) Tryz.pinned.checked.prog 3 Tryz.f3 Rows.fnProgramSizeSpec Rows.fnProgramSizeRow=true:=by kernel_rfl
theorem asb:(fun(P:Program) (_:FuncId) (fn:Func) (_:ChangeSpec) (_:OpenClaim)=>(fn.params.all (P.readableRec ·):Bool)) Tryz.pinned.checked.prog 3 Tryz.f3 Rows.fnProgramSizeSpec Rows.fnProgramSizeRow=true:=by kernel_rfl
theorem asc:(fun(P:Program) (_:FuncId) (_:Func) (s:ChangeSpec) (c:OpenClaim)=>(namedTie P c.named s.vars:Bool)) Tryz.pinned.checked.prog 3 Tryz.f3 Rows.fnProgramSizeSpec Rows.fnProgramSizeRow=true:=by kernel_rfl
theorem asd:(fun(_:Program) (_:FuncId) (_:Func) (_:ChangeSpec) (c:OpenClaim)=>((c.stops==[]):Bool)) Tryz.pinned.checked.prog 3 Tryz.f3 Rows.fnProgramSizeSpec Rows.fnProgramSizeRow=true:=by kernel_rfl
theorem ase:(fun(P:Program) (_:FuncId) (_:Func) (_:ChangeSpec) (_:OpenClaim)=>((P.stops==[]):Bool)) Tryz.pinned.checked.prog 3 Tryz.f3 Rows.fnProgramSizeSpec Rows.fnProgramSizeRow=true:=by kernel_rfl
theorem asf:(fun(_:Program) (_:FuncId) (_:Func) (_:ChangeSpec) (c:OpenClaim)=>((c.knobs==[]):Bool)) Tryz.pinned.checked.prog 3 Tryz.f3 Rows.fnProgramSizeSpec Rows.fnProgramSizeRow=true:=by kernel_rfl
theorem asg:(fun(P:Program) (_:FuncId) (_:Func) (_:ChangeSpec) (_:OpenClaim)=>((P.stopKnobs==[]):Bool)) Tryz.pinned.checked.prog 3 Tryz.f3 Rows.fnProgramSizeSpec Rows.fnProgramSizeRow=true:=by kernel_rfl
theorem ash:(fun(P:Program) (f:FuncId) (_:Func) (_:ChangeSpec) (c:OpenClaim)=>((c.inPlace==P.inPlace f):Bool)) Tryz.pinned.checked.prog 3 Tryz.f3 Rows.fnProgramSizeSpec Rows.fnProgramSizeRow=true:=by kernel_rfl
theorem asi:(fun(P:Program) (f:FuncId) (_:Func) (_:ChangeSpec) (c:OpenClaim)=>((c.unfollowed==P.unfollowed f):Bool)) Tryz.pinned.checked.prog 3 Tryz.f3 Rows.fnProgramSizeSpec Rows.fnProgramSizeRow=true:=by kernel_rfl
theorem asj:(fun(P:Program) (f:FuncId) (_:Func) (_:ChangeSpec) (c:OpenClaim)=>((c.recurses==P.recurses f):Bool)) Tryz.pinned.checked.prog 3 Tryz.f3 Rows.fnProgramSizeSpec Rows.fnProgramSizeRow=true:=by kernel_rfl
theorem asl:(fun(P:Program) (f:FuncId) (_:Func) (_:ChangeSpec) (c:OpenClaim)=>((c.named==P.varsNamed f):Bool)) Tryz.pinned.checked.prog 3 Tryz.f3 Rows.fnProgramSizeSpec Rows.fnProgramSizeRow=true:=by kernel_rfl
theorem asm:(fun(P:Program) (_:FuncId) (fn:Func) (s:ChangeSpec) (c:OpenClaim)=>((c.maps==(fn.params.toList++s.plain.varTypes P).any (P.mapsRec ·)):Bool)) Tryz.pinned.checked.prog 3 Tryz.f3 Rows.fnProgramSizeSpec Rows.fnProgramSizeRow=true:=by kernel_rfl
theorem asn:(fun(P:Program) (_:FuncId) (fn:Func) (s:ChangeSpec) (c:OpenClaim)=>((c.ifaces==(fn.params.toList++s.plain.varTypes P).any (P.ifacesRec ·)):Bool)) Tryz.pinned.checked.prog 3 Tryz.f3 Rows.fnProgramSizeSpec Rows.fnProgramSizeRow=true:=by kernel_rfl
theorem aso:(fun(P:Program) (_:FuncId) (fn:Func) (_:ChangeSpec) (c:OpenClaim)=>((c.mapsOut==P.mapsAmong fn.resultTypes.toList):Bool)) Tryz.pinned.checked.prog 3 Tryz.f3 Rows.fnProgramSizeSpec Rows.fnProgramSizeRow=true:=by kernel_rfl
theorem asp:(fun(P:Program) (_:FuncId) (fn:Func) (s:ChangeSpec) (c:OpenClaim)=>((c.loops==(fn.params.toList++s.plain.varTypes P).any (P.loopsFrom ·)):Bool)) Tryz.pinned.checked.prog 3 Tryz.f3 Rows.fnProgramSizeSpec Rows.fnProgramSizeRow=true:=by kernel_rfl
theorem asq:(fun(P:Program) (_:FuncId) (fn:Func) (s:ChangeSpec) (c:OpenClaim)=>((c.wideKeys==(fn.params.toList++s.plain.varTypes P++fn.resultTypes.toList).any (P.wideKeysFrom ·)):Bool)) Tryz.pinned.checked.prog 3 Tryz.f3 Rows.fnProgramSizeSpec Rows.fnProgramSizeRow=true:=by kernel_rfl
theorem asr:(fun(P:Program) (_:FuncId) (_:Func) (s:ChangeSpec) (_:OpenClaim)=>(s.vars.all (P.varReadable ·):Bool)) Tryz.pinned.checked.prog 3 Tryz.f3 Rows.fnProgramSizeSpec Rows.fnProgramSizeRow=true:=by kernel_rfl
theorem ass:(fun(P:Program) (_:FuncId) (fn:Func) (_:ChangeSpec) (_:OpenClaim)=>(fn.resultTypes.all (λt=>P.readableRec t&&decide (t<P.types.size)):Bool)) Tryz.pinned.checked.prog 3 Tryz.f3 Rows.fnProgramSizeSpec Rows.fnProgramSizeRow=true:=by kernel_rfl
theorem ast:(fun(P:Program) (_:FuncId) (fn:Func) (_:ChangeSpec) (c:OpenClaim)=>((c.ifacesOut==fn.resultTypes.toList.any (P.ifacesRec ·)):Bool)) Tryz.pinned.checked.prog 3 Tryz.f3 Rows.fnProgramSizeSpec Rows.fnProgramSizeRow=true:=by kernel_rfl
theorem asu:(fun(P:Program) (_:FuncId) (fn:Func) (_:ChangeSpec) (c:OpenClaim)=>((c.loopsOut==fn.resultTypes.toList.any (P.loopsFrom ·)):Bool)) Tryz.pinned.checked.prog 3 Tryz.f3 Rows.fnProgramSizeSpec Rows.fnProgramSizeRow=true:=by kernel_rfl
theorem asv:(fun(P:Program) (_:FuncId) (_:Func) (_:ChangeSpec) (c:OpenClaim)=>((c.plainKeys==P.plainKeys):Bool)) Tryz.pinned.checked.prog 3 Tryz.f3 Rows.fnProgramSizeSpec Rows.fnProgramSizeRow=true:=by kernel_rfl
theorem asw:Tryz.pinned.checked.prog.funcNamed "loop.example/typedassembly/laws.FnProgramSize"=some 3:=by kernel_rfl
theorem asx:(Tryz.f3).isInstance Tryz.pinned.checked.prog Rows.fnProgramSizeRow.origin Rows.fnProgramSizeRow.targs:=of_decide_eq_true (by kernel_rfl)
theorem asy:(Tryz.f3).isWrapper Tryz.pinned.checked.prog Rows.fnProgramSizeRow.wrapper Rows.fnProgramSizeRow.mainSum:=by unfold Func.isWrapper;first|(rw[iP (by decide+kernel)];kernel_rfl)|(rw[iN (by decide+kernel)];exact⟨rfl,rfl⟩)
theorem asz:Rows.fnProgramSizeRow.wfByText (OpenSpec.ofChange Rows.fnProgramSizeSpec)=true:=by kernel_rfl
theorem asA:(fun(_:Program) (_:FuncId) (_:Func) (_:ChangeSpec) (c:OpenClaim)=>(c.shortTexts.isNone:Bool)) Tryz.pinned.checked.prog 3 Tryz.f3 Rows.fnProgramSizeSpec Rows.fnProgramSizeRow=true:=by kernel_rfl
theorem asB:(fun(P:Program) (_:FuncId) (_:Func) (_:ChangeSpec) (_:OpenClaim)=>(P.stopsHeard:Bool)) Tryz.pinned.checked.prog 3 Tryz.f3 Rows.fnProgramSizeSpec Rows.fnProgramSizeRow=true:=by kernel_rfl
theorem asC:(fun(P:Program) (_:FuncId) (_:Func) (_:ChangeSpec) (_:OpenClaim)=>(P.mayEnter:Bool)) Tryz.pinned.checked.prog 3 Tryz.f3 Rows.fnProgramSizeSpec Rows.fnProgramSizeRow=true:=by kernel_rfl
theorem asD:(fun(P:Program) (_:FuncId) (_:Func) (_:ChangeSpec) (c:OpenClaim)=>((c.lifted==P.liftsFinal):Bool)) Tryz.pinned.checked.prog 3 Tryz.f3 Rows.fnProgramSizeSpec Rows.fnProgramSizeRow=true:=by kernel_rfl
theorem asE:(fun(P:Program) (_:FuncId) (_:Func) (_:ChangeSpec) (c:OpenClaim)=>((P.make==some c.make):Bool)) Tryz.pinned.checked.prog 3 Tryz.f3 Rows.fnProgramSizeSpec Rows.fnProgramSizeRow=true:=by kernel_rfl
theorem asF:(fun(P:Program) (_:FuncId) (fn:Func) (_:ChangeSpec) (c:OpenClaim)=>((c.kinds==(if c.domain.isEmpty then[] else fn.params.toList.map λt=>match P.underlying t with|some (.int k)=>some k|_=>none)):Bool)) Tryz.pinned.checked.prog 3 Tryz.f3 Rows.fnProgramSizeSpec Rows.fnProgramSizeRow=true:=by kernel_rfl
theorem asG:(fun(_:Program) (_:FuncId) (_:Func) (_:ChangeSpec) (c:OpenClaim)=>((c.pinned==c.pinnedBy):Bool)) Tryz.pinned.checked.prog 3 Tryz.f3 Rows.fnProgramSizeSpec Rows.fnProgramSizeRow=true:=by kernel_rfl
theorem asH:(fun(P:Program) (_:FuncId) (fn:Func) (s:ChangeSpec) (c:OpenClaim)=>((c.veiled==(fn.params.toList++s.plain.varTypes P++fn.resultTypes.toList).any (P.veiledRec ·)):Bool)) Tryz.pinned.checked.prog 3 Tryz.f3 Rows.fnProgramSizeSpec Rows.fnProgramSizeRow=true:=by kernel_rfl
theorem asI:(fun(P:Program) (_:FuncId) (fn:Func) (s:ChangeSpec) (c:OpenClaim)=>(c.veiledFits P fn.params.toList (fn.params.toList++s.plain.varTypes P++fn.resultTypes.toList):Bool)) Tryz.pinned.checked.prog 3 Tryz.f3 Rows.fnProgramSizeSpec Rows.fnProgramSizeRow=true:=by kernel_rfl
theorem asJ:Tryz.pinned.checked.prog.mainIs=some (true, "8cf6ec4b5c0535602936fc9a5a3a00b31f8e23cd3d9fef377e8ba26a8870482f".toList):=by kernel_rfl
theorem asK:true=Tryz.pinned.checked.prog.looks []:=by kernel_rfl
theorem asL:Tryz.pinned.checked.prog.wantsStandIn 22=false:=by kernel_rfl
theorem asM:false=Rows.fnProgramSizeRow.goesBy Tryz.pinned.checked.prog:=by kernel_rfl
end Go.Proofs.YtkcegcjelmmilaaGreatDoor
