/- Lemmas for the law FnLink, no statement of their own: no conditions. -/
import Derived.Test.YtcildnfcpkpomaaGreatDoorHk
import Derived.Lib.SliceRun
set_option maxHeartbeats 4000000
set_option linter.unusedVariables false
set_option linter.unusedSimpArgs false
namespace Go.Proofs.YtcildnfcpkpomaaGreatDoor
open Go
variable {bs:List Bk} {B E T b bytes c i j k m n:Nat} {L:List Nat} {w w':World} {a:Option Addr} {v z:Value} {xs:List ak} {ps:List cw} {s:ak} {q:List Int} {p:ak->Bool} {t y:aq}
theorem H6 (h:gP bs=true):bs.length<=40/\1<=bs.length/\∀i,i<bs.length->(cm bs i).cQ.length<=40/\1<=(cm bs i).code.length/\(cm bs i).code.length<=80:=by have hb:=Cd h;unfold gP at h;simp only[aE,dE] at h;refine⟨h.2.1.1.2,h.2.1.1.1,λi a=>?_⟩;have:=hb (cm bs i) (List.mem_of_getElem?<|l8 a);unfold mo at this;simp only[aE,dE] at this;exact⟨this.1.1.1.2,this.1.1.2.1,this.1.1.2.2⟩
theorem ast (h:i<bs.length):bs.take (i+1)=bs.take i++[cm bs i]:=by rw[List.take_succ_eq_append_getElem h];simp[cm,gE h]
theorem asu {h:ak} {ps:List ak} (a:∀x∈ps,x.length<=m):(eN h ps).length<=h.length+2+ps.length*(m+1):=by
 rw[nJ];have:kB ps<=ps.length*(m+1):=by
  clear h;induction ps with
  |nil=>simp[kB]
  |cons p l d=>have e:=a p sm;have b:=d λx c=>a x (by simp[c]);simp only[kB,List.map_cons,List.sum_cons,lC,Nat.add_mul,Nat.one_mul] at b⊢;omega
 omega
theorem ab4 {a:Type} {l:List a} {y x:a} (h:x∈l.set i y):x∈l\/x=y:=List.mem_or_eq_of_mem_set h
theorem asv (bs:List Bk) (jB:gP bs=true) (t q:Nat) (hq:q<=800000000) (v:Value) (w:World) (h:dU w t q) (hv:kh [] w v bs):
  bu Tryz.prog 61 [.pointer<|some ⟨t,0,none⟩,v] w λr w'=>(∃bs' g,Gr w.heap.size [t] w' 39 3 r g (bs'.map Bk.enc)/\yN bs bs')/\dU w' t (q+10)/\aj [t] w w':=by
 obtain⟨a,n0,c,rfl,_⟩:=uS hv;obtain⟨_,_,gD⟩:=H6 jB;have jo:=h.lt;have N:=aj.refl [] w;have bP:=hv;have Xs:=h;refine cg [.tmp 4] 140 Tryz.func61 rfl ahA rfl rfl ?_;refine W ?_;refine iq jb fR λ_ aI oo _=>cV aI N h hv λN h hv=>?_;refine W ?_;refine et (λq9:Nat×Value=>[(0,.pointer<|some ⟨t,0,none⟩),(1,.slice a n0 c),(5,q9.2),(6,.int .i64 (q9.1:Int))]) (λq9 w'=>aj [] w w'/\q9.1<=n0/\∃g E vss,nY w' 39 9 q9.2 g E vss (bs.take q9.1)/\∀x,x∈g.toList++iC E->w.heap.size<=x) (λq9=>n0-q9.1) ((0,.slice (some ⟨w.heap.size,0,none⟩) 0 0)) (⟨rfl,rfl,rfl,rfl⟩) (⟨N,sm,some w.heap.size,[],[],nY.zero oo,by intro x d;simp[iC] at d;omega⟩) λgg w2 S hI=>?_;obtain⟨i,_⟩:=gg;obtain⟨N,hi,g,E,vss,o,K⟩:=hI;dsimp only at hi o;have hv:=bP.ext N;have h:=Xs.ext N;refine W ?_;refine zc rfl (λU=>?_) λU=>?_;have nP:i<bs.length:=(by simp at U;omega);have ei:=l8 nP;have hgv:=xT hv ei;obtain⟨b,_,_,rn,_,_,_,_,e1,F,_,_,cz,di⟩:=hgv;subst e1;have Ab:=gD i nP;have ayi:=N.size;have Tt:∀x,x∈g.toList++iC E->x<w2.heap.size:=(λx d=>(mA.1 d).elim (λs=>o.own.lt x<|by simpa using s)<|o.lt x);have gF:(bs.take i).length=i:=(by rw[List.length_take];omega);refine W ?_;refine aA (Tr (cm bs i) om om _ [] w2 (tO cz di)) ?_;rintro _ w3 ⟨lk,aH⟩;have eP:=aH.size;refine bJ aH N o λN o=>?_;obtain⟨_,v2,g1,g2,S,mV,gL,nS,je⟩:=lk;subst S;have cu:=jL mV;obtain⟨a1,c1,e1⟩:=cu;subst e1;have cu:=jL gL;obtain⟨a2,c2,S⟩:=cu;subst S;refine fM jb fR rfl rfl λw4 aJ Br _=>gK aJ N o mV gL λN o mV gL=>?_;refine ar4 (f:=cm bs i) (gs:=(g1,g2)) jb fR rfl rfl rfl rfl rfl rfl o Br mV gL (λx d gv=>by have h8:=Tt x gv;rcases mA.1 d with s|s;(·have:=(nS x s).1;omega);(·have:=(je x s).1;omega)) (List.nodup_append.2 ⟨by cases g1<;>simp,by cases g2<;>simp,λx d y A e=>by subst e;exact(nS x d).2 A⟩) om λ_ _ g4 w5 o aQ Tu=>?_;have abP:=N.size;have asx:∀x,x∈g4.toList++iC (E++[(g1,g2)])->w.heap.size<=x:=(λx d=>by rcases mA.1 d with s|s;(·rcases Tu with h8|⟨z,h8,Y⟩;(·rw[h8] at s;exact K x (by simp at s;simp[s]));(·rw[h8] at s;simp at s;omega));(·rw[Qt] at s;rcases mA.1 s with h8|h8;(·exact K x (by simp[h8]));(·rcases mA.1 h8 with h7|h7;(·have:=(nS x h7).1;omega);(·have:=(je x h7).1;omega))));have N:=N.since aQ λx d=>.inr<|K x (by simp at d;simp[d]);refine WA ?_;refine lx rfl rfl rfl rfl rfl (mz (i+1) om _ om)<|zA<|aV ?_;exact⟨(i+1,_),⟨rfl,rfl,rfl,rfl⟩,⟨N,by show i+1<=n0;omega,g4,_,_,by rw[ast nP];exact o,asx⟩,by show n0-(i+1)<n0-i;omega⟩;have cR:bs.take i=bs:=List.take_of_length_le (by simp at U;omega);rw[cR] at o;have cu:=o.own.len;obtain⟨_,co,eo⟩:=cu;subst eo;have u:=N.mono (L':=[t]) sm;refine W ?_;refine aA (mU bs.length om om t q om w2 h) ?_;rintro v31 w3 ⟨⟨k,BA,hk⟩,h,D⟩;subst BA;have u:=u.trans D;have o:=o.aG D (λx d A=>by have:=K x d;simp at A;omega);have iM:=o.get hk;obtain⟨xD,gs,a1,c1,a2,c2,e1,S,xi,uF,kr,I,lN,fB,O,Om⟩:=iM;subst e1;have BM:∀x,x∈g.toList++iC E->x∉[t]:=(λx d A=>by have:=K x d;simp at A;omega);have F:gC [t] w3 xD (0+k*3) _:=⟨lN,xi,λA=>BM xD (by rw[S];simp) A⟩;have H:bo [t] w3 _ _:=O.rep λb hb=>BM b<|mR _ (EI kr<|by simp[jY,hb]);have Ab:=gD k hk;refine WI ?_;refine zi jb fR rfl rfl hk<|zf Ci rfl<|zl vh rfl (F.cells 2 _ rfl)<|K8 bz rfl rfl rfl<|aA (mU (cm bs k).code.length om om t (q+1) om w3 h) ?_;rintro v31 w4 ⟨⟨n,BA,hn⟩,h,D⟩;subst BA;have u:=u.trans D;have o:=o.aG D (λx d A=>by have:=K x d;simp at A;omega);have F:=F.aB D sm;have H:=H.aB D sm;have ei:=pG H hn;obtain⟨b9,xw,T,jQ⟩:=ei;subst T;refine WI ?_;refine zi jb fR rfl rfl hk<|zf Ci rfl<|zl vh rfl (F.cells 2 _ rfl)<|zm<|zi bz bw rfl rfl hn<|WZ ?_;have uK:=u.size;have asy:∀x,x∈g.toList++iC E->x<w4.heap.size:=(λx d=>(mA.1 d).elim (λs=>o.own.lt x<|by simpa using s)<|o.lt x);refine aA (asq (bV (cm bs k).code n) w4) ?_;rintro _ w5 ⟨vD,aQ⟩;have kF:=aQ.size;refine vB aQ h o u F H jQ λh o u F H jQ=>?_;obtain⟨_,ok,gp,ps,T,Q,gh,bj,_,FN⟩:=vD;subst T;have hgp:∀x∈gp.toList,x∉g.toList++iC E:=(λx d A=>by have h8:=asy x A;have s:=gh x (by simpa using d);omega);have gh:∀b,gp=some b->w.heap.size<=b:=(λb hb=>Nat.le_trans uK<|gh b hb);have cu:=jL Q;obtain⟨_,cp,ep⟩:=cu;subst ep;refine W ?_;refine zc rfl (λM=>?_) λM=>?_;refine W ?_;exact⟨_,rfl,⟨bs,_,o.gr BM (λb hb=>K b<|by simp[hb]) (λx d=>by simp at d;subst d;exact h.lt) u.size,yN.refl bs⟩,h.more om,u⟩;have nH:0<ps.length:=(by rw[bj] at M;simpa using M);have Hw:=Q.form nH;obtain⟨bp,ep,eg⟩:=Hw;subst ep;have hbp:=gh bp eg;have ayk:=Q.lt bp (by simp[eg]);refine W ?_;refine aA (mU ps.length nH om t (q+2) om w5 h) ?_;rintro v31 w6 ⟨⟨j,BA,hj⟩,h,D⟩;subst BA;have u:=u.trans D;have o:=o.aG D (λx d A=>by have:=K x d;simp at A;omega);have Q:=Q.aG D (λb hb A=>by have:=gh b hb;simp at A;omega);refine W ?_;refine jl (λ_:List ak=>[(0,.pointer<|some ⟨t,0,none⟩),(5,.slice (some ⟨xD,0,none⟩) bs.length co),(7,.int .i64 (k:Int)),(8,.int .i64 (n:Int)),(9,(.slice (some ⟨bp,0,none⟩) ps.length cp))]) (λp2 C=>aj [t] w C/\dU C t (q+5)/\nY C 39 9 (.slice (some ⟨xD,0,none⟩) bs.length co) g E vss bs/\cZ C 9 (.slice (some ⟨bp,0,none⟩) ps.length cp) gp p2/\p2.length=ps.length/\∀x∈p2,x.length<=24002) ?_ ?_;refine zc rfl (λX=>?_) λX=>?_;have Dy:bo [t] w6 (.slice (some ⟨bp,0,none⟩) ps.length cp) ps:=Q.rep (λb hb A=>by have:=gh b hb;simp at A;omega);have ei:=pG Dy hj;obtain⟨b8,asA,e8,F5⟩:=ei;cases e8;have hxj:=FN _ (List.mem_of_getElem?<|jW hj);have p5:fL [t] w6:=(λz Y=>by simp at Y;subst Y;exact h.lt);apply kP dh ([t]) 11 (rA 61 11) (rA 61 11) [[],[],[],[],[3],[],[],[5,6],[7],[4,8],[2,9]] [Ie.v _,Ie.v _,Ie.v _,Ie.v _,Ie.q 0 (fun(v:Value)=>∃x,v=str x/\x.length<=24002),Ie.v _,Ie.v _,Ie.v _,Ie.v _,Ie.p (fun(G:List Nat) (v:Value) (C:World)=>∃x y,x.length<=24002/\y.length<=24002/\bo G C v [x,[98,48],[101,110,100],[49],[105],y]),Ie.q 1 (fun(v:Value)=>∃x,v=str x/\x.length<=24002)] [4,10] [fun(G:List Nat) (Z:List Value) (C:World)=>G=[t]/\aj [t] w6 C/\dU C t (q+3),fun(G:List Nat) (Z:List Value) (C:World)=>G=[t]/\aj [t] w6 C/\dU C t (q+4),fun(G:List Nat) (Z:List Value) (C:World)=>G=[t]/\aj [t] w6 C/\dU C t (q+5)] de rfl p5 (by exact⟨λG v w G' w' ⟨x,y,U,M,X⟩ k=>⟨x,y,U,M,bo.go X k⟩,trivial⟩) (by exact⟨λG Z w w' ⟨U,M,X⟩ k=>⟨U,M.ext k,X.ext k⟩,λG Z w w' ⟨U,M,X⟩ k=>⟨U,M.ext k,X.ext k⟩,λG Z w w' ⟨U,M,X⟩ k=>⟨U,M.ext k,X.ext k⟩,trivial⟩) (⟨rfl,aj.refl _ _,h⟩);refine FA ?_;refine ve 0 (λx w7 G7 aU o5 mN P B=>?_) ?_;have I:=km B;subst I;obtain⟨cv,cD,h⟩:=P;subst cv;refine aA (KH t (q+3) om w7 h) ?_;rintro v9 w8 ⟨⟨z9,dC,T⟩,h,D⟩;subst T;have fo:=vE (n:=z9) om;exact fq ([t]) (Fr.of D sm) ((λz Y=>lL (mN z Y) D.size)) (⟨rfl,cD.trans D,h⟩)<|⟨_,rfl,om⟩;refine FA ?_;refine vf (λx w7 G7 aU o5 mN=>?_) ?_;intro v4 S7 d4;obtain⟨y4,e4,AL⟩:=d4;subst e4;refine akf bz bw rfl rfl rfl rfl rfl rfl rfl rfl λw8 cL RZ _=>?_;exact ff cL<|⟨y4,bV ps j,AL,hxj,aK.eu [y4,[98,48],[101,110,100],[49],[105],bV ps j] RZ λd=>by have:=mN _ d;omega⟩;refine ve 1 (λx w7 G7 aU o5 mN P B=>?_) ?_;have aL:=kn B;obtain⟨q0,I⟩:=aL;subst I;intro v9 d9;obtain⟨cv,cD,h⟩:=P;subst cv;obtain⟨x8,y8,_,_,hr8⟩:=d9;refine aA (nT [x8,[98,48],[101,110,100],[49],[105],y8] sm sm t (q+4) om _ w7 h hr8) ?_;rintro v9 w8 ⟨⟨x9,jA,T⟩,h,D⟩;subst T;have fo:x9.length<=24002:=(by simp only[mC,List.not_mem_nil,or_false] at jA;rcases jA with rfl|rfl|rfl|rfl|rfl|rfl<;>first|omega|decide);exact fq ([t]) (Fr.of D sm) ((λz Y=>lL (mN z Y) D.size)) (⟨rfl,cD.trans D,h⟩) (⟨_,rfl,fo⟩);exact trivial;intro x _ _ aU _ _ P B;have aL:=mJ B;obtain⟨q0,q1,I⟩:=aL;subst I;intro v4 S7 d4;intro v9 d9;intro _ _ d10;change OW _ _ _ _ _ (ba (aZ _ x _) (zZ 61 [_,_,_,_,_,_,_,_,_,_,_])) _;obtain⟨cv,cD,h⟩:=P;subst cv;obtain⟨Ok,gO,Hp⟩:=d10;subst gO;have u:=u.trans cD;have o:=o.aG cD (λx d A=>by have:=K x d;simp at A;omega);have Q:=Q.aG cD (λb hb A=>by have:=gh b hb;simp at A;omega);refine zi bz bw rfl rfl hj<|Xu (i:=j) bw rfl rfl rfl om Q hj λnO lI Q dC=>?_;have o:=o.aG lI λx d A=>hgp x A d;have h:=h.aG lI (λx d=>by have:=gh x (by simpa using d);omega);have u:=u.since lI λx d=>.inr (gh x<|by simpa using d);refine W ?_;exact⟨ps.set j Ok,⟨rfl,rfl,rfl,rfl,rfl⟩,u,h.more om,o,Q,by rw[List.length_set],λx d=>by rcases ab4 d with s|s;(·exact FN x s);(·rw[s];exact Hp)⟩;refine WZ ?_;exact⟨ps,⟨rfl,rfl,rfl,rfl,rfl⟩,u,h.more om,o,Q,rfl,FN⟩;intro p w7 e7 hI;obtain⟨u,h,o,Q,_,ab5⟩:=hI;have iM:=o.get hk;obtain⟨xD,gs,a1,c1,a2,c2,e1,S,xi,uF,kr,I,lN,fB,O,Om⟩:=iM;cases e1;have BM:∀x,x∈g.toList++iC E->x∉[t]:=(λx d A=>by have:=K x d;simp at A;omega);have F:gC [t] w7 xD (0+k*3) _:=⟨lN,xi,λA=>BM xD (by rw[S];simp) A⟩;have H:bo [t] w7 _ _:=O.rep λb hb=>BM b<|mR _ (EI kr<|by simp[jY,hb]);have ei:=pG H hn;obtain⟨b9,xw,T,jQ⟩:=ei;subst T;have Dy:bo [] w7 (.slice (some ⟨bp,0,none⟩) ps.length cp) p:=Q.rep sm;have ei:=pG Dy (i:=0) om;obtain⟨b8,asA,e8,F5⟩:=ei;cases e8;refine WZ ?_;have qS:(eN (bV p 0)<|p.drop 1).length<=1000000000:=(by have U:=asu (h:=bV p 0) (ps:=p.drop 1) (m:=24002) λx d=>ab5 x<|List.mem_of_mem_drop d;have M:=ab5 _ (List.mem_of_getElem?<|jW (xs:=p) (i:=0) om);rw[List.length_drop] at U;have X:(p.length-1)*(24002+1)<=12001*24003:=Nat.mul_le_mul om om;omega);apply wK dh 6 (rA 73 6) (rA 73 6) [[],[0],[1],[],[3],[2,4]] [It.v _,It.v _,It.v _,It.v _,It.p<|fun(v:Value) (C:World)=>bo [] C v (p.drop 1),It.v _] de (by exact⟨λv w w' h k=>bo.ext h k,trivial⟩);intro wd aC;refine VA ?_;refine vk aC (λx w8 cL=>?_) ?_;have Dy:=Dy.ext cL;refine DX (l:=1) bz bw rfl rfl rfl rfl om Dy λxC I=>?_;exact pf (aj.refl _ _)<|(show bo [] _ xC (p.drop 1) from by unfold bo ic;rw[List.map_drop];exact I);refine vk aC (λx w8 cL=>?_) ?_;intro v4 d4;refine aA (AR (bV p 0) (p.drop 1) qS _ [] w8 d4) ?_;rintro _ _ ⟨rfl,D⟩;have pC:=D.size;exact pk D;exact trivial;intro x nO lI;intro v4 d4;refine EE lI h u o F H jQ fB O λh u o F H jQ fB O=>?_;change OW _ _ _ _ _ (ba (aZ _ x _)<|zZ 73 [_,_,_,_,_,_]) _;refine W ?_;refine Ek [79,80,81,82,83,84,85,86,87,88,89,90,91,92,93,94] [(94,.bool<|uZ (eN (bV p 0)<|p.drop 1)&&(decide<|Gs (eN (bV p 0)<|p.drop 1)=Gs (bV (cm bs k).code n)))] ?_ ?_;rcases bE (uZ (eN (bV p 0) (p.drop 1))) with ig|ig
 apply j1 dh 16 (rA 79 16) (rA 79 16) [[],[0],[1],[2],[2,3],[2],[2],[2,5,6],[2,7],[2,8],[2],[2,9,10],[2,11],[2,12],[2,4,13],[2,14]] [It.v _,It.v _,It.v<|.bool true,It.v _,It.v _,It.v _,It.v _,It.v _,It.v _,It.v _,It.v _,It.v _,It.v _,It.v _,It.v _,It.v _] de rfl;intro wd aC;refine VA ?_;refine vk aC (λx V cH=>?_) ?_;refine aA (Jj (eN (bV p 0)<|p.drop 1) V) ?_;rintro _ jO ⟨rfl,ew⟩;have BN:=ew.size;exact pk ew;refine vc (λx V cH=>?_) ?_;refine WZ ?_;exact pv (by exact congrArg Value.bool ig);refine VA ?_;refine vk aC (λx V cH=>?_) ?_;refine aA (Mr (eN (bV p 0)<|p.drop 1) V) ?_;rintro _ jO ⟨rfl,ew⟩;have BN:=ew.size;exact pk ew;refine vc (λ_ _ _=>WZ pv) ?_;refine vc (λ_ _ _=>WZ pv) ?_;refine vk aC (λx V cH=>?_) ?_;refine zi jb fR rfl rfl hk ?_;exact pv;refine VA ?_;refine vk aC (λx V cH=>?_) ?_;have F:=F.ext cH;refine zl vh rfl (F.cells 2 _ rfl) ?_;exact pv;refine vc (λ_ _ _=>WZ pv) ?_;refine vk aC (λx V cH=>?_) ?_;refine zi bz bw rfl rfl hn ?_;exact pv;refine VA ?_;refine vk aC (λx V cH=>?_) ?_;refine aA (Mr (bV (cm bs k).code n) V) ?_;rintro _ jO ⟨rfl,ew⟩;have BN:=ew.size;exact pk ew;exact VZ;intro x sG my;change OW _ _ _ _ [] (ba (aZ _ x _) (zZ 79 [_,_,_,_,_,_,_,_,_,_,_,_,_,_,_,_])) _;refine W ?_;exact kE my;apply j1 dh 16 (rA 79 16) (rA 79 16) [[],[0],[1],[2],[2,3],[2],[2],[2,5,6],[2,7],[2,8],[2],[2,9,10],[2,11],[2,12],[2,4,13],[2,14]] [It.v _,It.v _,It.v (.bool false),It.v _,It.v _,It.v _,It.v _,It.v _,It.v _,It.v _,It.v _,It.v _,It.v _,It.v _,It.v _,It.v _] de rfl;intro wd aC;refine VA ?_;refine vk aC (λx V cH=>?_) ?_;refine aA (Jj (eN (bV p 0)<|p.drop 1) V) ?_;rintro _ jO ⟨rfl,ew⟩;have BN:=ew.size;exact pk ew;refine vc (λx V cH=>?_) ?_;refine WZ ?_;exact pv (by exact congrArg Value.bool ig);exact VZ;intro x sG my;change OW _ _ _ _ [] (ba (aZ _ x _) (zZ 79 [_,_,_,_,_,_,_,_,_,_,_,_,_,_,_,_])) _;refine W ?_;exact kE my;intro x sG my;refine EE my h u o F H jQ fB O λh u o F H jQ fB O=>?_;refine jl (λ_:List Bk=>[(0,.pointer<|some ⟨t,0,none⟩),(5,.slice (some ⟨xD,0,none⟩) bs.length co),(7,.int .i64 (k:Int)),(8,.int .i64 (n:Int))]) (λcs C=>aj [t] w C/\dU C t (q+5)/\(∃ab6,nY C 39 9 (.slice (some ⟨xD,0,none⟩) bs.length co) g E ab6 cs)/\yN bs cs) ?_ ?_;refine zc rfl (λh4=>?_) λh4=>?_;have asD:uZ (eN (bV p 0)<|p.drop 1)=true:=(Bool.and_eq_true_iff.1 h4).1;have Hw:=O.form om;obtain⟨_,e7,_⟩:=Hw;cases e7;refine lv<|zm<|zm<|zi jb fR rfl rfl hk<|zf Ci rfl<|zl vh rfl (F.cells 2 _ rfl)<|zm<|zm<|zi bz bw rfl rfl hn<|Xu (i:=n) bw rfl rfl rfl om O hn λqL jz O dC=>?_;have o:=o.row (f:={cm bs k with code:=(cm bs k).code.set n (eN (bV p 0)<|p.drop 1)}) kr I jz (λx d=>by simp[jY,d]) ⟨_,_,rfl,fB.aG jz λb hb A=>Om b hb<|by simpa using A,by rw[show({cm bs k with code:=(cm bs k).code.set n (eN (bV p 0)<|p.drop 1)}:Bk).code=(cm bs k).code.set n (eN (bV p 0)<|p.drop 1) from rfl];exact O⟩;have h:=h.aG jz (λx d=>by have:=K x<|mR _ (EI kr<|by simp[jY,d]);omega);have u:=u.since jz λx d=>.inr (K x<|mR _ (EI kr<|by simp[jY,d]));refine W ?_;exact⟨_,⟨rfl,rfl,rfl,rfl⟩,u,h,⟨_,o⟩,(yN.refl bs).set hk (by rw[List.length_set];exact lR _) (λx d=>by rcases ab4 d with s|s;(·exact .inl s);(·rw[s];exact .inr asD))⟩;refine WZ ?_;exact⟨bs,⟨rfl,rfl,rfl,rfl⟩,u,h,⟨_,o⟩,yN.refl bs⟩;intro p qL _ hI;obtain⟨u,h,⟨ab6,o⟩,hH⟩:=hI;have mw:k<p.length:=(by rw[hH.1];exact hk);have iM:=o.get mw;obtain⟨xD,gs,a1,c1,a2,c2,e1,S,xi,uF,kr,I,lN,fB,O,Om⟩:=iM;cases e1;refine ka<|zr<|zm<|aA (mU 6 de de t (q+5) om qL h) ?_;rintro v31 p8 ⟨⟨z,BA,Y⟩,h,D⟩;subst BA;have u:=u.trans D;have o:=o.aG D (λx d A=>by have:=K x d;simp at A;omega);have iM:=o.get mw;obtain⟨xD,gs,a1,c1,a2,c2,e1,S,xi,uF,kr,I,lN,fB,O,Om⟩:=iM;cases e1;have BM:∀x,x∈g.toList++iC E->x∉[t]:=(λx d A=>by have:=K x d;simp at A;omega);have Tt:∀x,x∈g.toList++iC E->x<p8.heap.size:=(λx d=>(mA.1 d).elim (λs=>o.own.lt x<|by simpa using s)<|o.lt x);have F:gC [] p8 xD (0+k*3) _:=⟨lN,xi,sm⟩;have H:bo [] p8 _ _:=O.rep sm;have hH3:=hH.2 k hk;have mZ:(cm p k).code.length<=80:=Nat.le_trans hH3.2.2.1 (gD k hk).2.2;have ayp:=u.size;refine WZ ?_;apply oB 10 106 116 rfl oQ;intro _;refine zm<|lx rfl rfl rfl rfl rfl (mz (n+1) om _ om)<|zm<|zm<|zi jb fR rfl rfl hk<|zf Ci rfl<|zl vh rfl (F.cells 2 _ rfl) ?_;exact oQ;intro _;refine aV<|zc rfl (λh6=>?_) λh6=>?_;have qd:n+1<(cm p k).code.length:=(by have s:=of_decide_eq_true (Bool.and_eq_true_iff.1 h6).2;omega);have ei:=pG H (i:=n) om;obtain⟨b9,xw,T,jQ⟩:=ei;subst T;apply kP dh ([]) 20 (rA 117 20) (rA 117 20) [[],[],[],[],[],[3,4],[5],[6],[],[7,8],[2,9],[],[],[11,12],[13],[14],[],[16],[15,17],[10,18]] [Ie.v _,Ie.v _,Ie.p (fun(G:List Nat) (v:Value) (C:World)=>∃bb,v= .slice (some ⟨bb,0,none⟩) 0 0/\eC G C bb #[] 9/\p8.heap.size<=bb),Ie.v _,Ie.v _,Ie.v _,Ie.v _,Ie.v _,Ie.v _,Ie.v _,Ie.e 0,Ie.v _,Ie.v _,Ie.v _,Ie.v _,Ie.v _,Ie.v _,Ie.v _,Ie.p<|fun(G:List Nat) (v:Value) (C:World)=>bo G C v ((cm p k).code.drop<|n+1),Ie.e 1] [10,19] [fun(G:List Nat) (Z:List Value) (C:World)=>True,fun(G:List Nat) (Z:List Value) (C:World)=>∃J,cZ C 9 (Z.getD 0 undef) J ((cm p k).code.take n)/\sn G C 9 J/\(∀x∈J.toList,p8.heap.size<=x),fun(G:List Nat) (Z:List Value) (C:World)=>∃J,cZ C 9 (Z.getD 1 undef) J ((cm p k).code.take n++(cm p k).code.drop (n+1))/\(∀x∈J.toList,p8.heap.size<=x)] de rfl ((λz Y=>by simp at Y)) (by exact⟨λG v w G' w' ⟨bb,e,h,Y⟩ k=>⟨bb,e,h.go k,Y⟩,λG v w G' w' h k=>bo.go h k,trivial⟩) (by exact⟨λ_ _ _ _ _ _=>trivial,λG Z w w' ⟨J,M,X,h4⟩ k=>⟨J,M.ext k,X.ext k,h4⟩,λG Z w w' ⟨J,M,h4⟩ k=>⟨J,M.ext k,h4⟩,trivial⟩) trivial;refine FA ?_;refine vf (λx l3 oq aU R oV=>?_) ?_;refine iq bz bw λsw Be asE _=>?_;exact ff Be<|⟨_,rfl,asE.o oV,R.aG.size⟩;refine vf (λ_ _ _ _ _ _=>WZ fv) ?_;refine vf (λ_ _ _ _ _ _=>WZ fv) ?_;refine vf (λ_ _ _ _ _ _=>zi jb fR rfl rfl hk fv) ?_;refine FA ?_;refine vf (λx l3 oq aU R oV=>?_) ?_;have F:=F.go R;refine zl vh rfl (F.cells 2 _ rfl) ?_;exact fv;refine FA ?_;refine vf (λx l3 oq aU R oV=>?_) ?_;have H:=H.go R;refine aa6 (h:=n) bz bw rfl rfl rfl rfl om H ?_;exact fv;refine ve 0 (λx l3 oq aU R oV P B=>?_) ?_;have I:=km B;subst I;have H:=H.go R;intro v2 d2;obtain⟨bb,S,gi,hN⟩:=d2;subst S;have SF:bo oq l3 _ ((cm p k).code.take n):=(show cj _ _ _ (.sl 1<|ic _) from by have s:=SL H (h:=n) om;unfold ic at s⊢;rw[List.map_take];exact s);refine Hf bz bw rfl rfl rfl rfl rfl rfl gi.jd.mv SF ‹_› (λx d=>.inr (by simp at d;subst d;exact gi.jd)) (by rw[List.length_take];simp;omega) λv9 g9 sw G9 dB Hh pC lZ dA fo D=>?_;exact fe G9 dA fo<|⟨g9,dB,Hh,λx d=>(pC x d).elim (λs=>by simp at s;subst s;exact hN) λs=>Nat.le_trans R.aG.size s⟩;refine vf (λ_ _ _ _ _ _=>WZ fv) ?_;refine vf (λ_ _ _ _ _ _=>WZ fv) ?_;refine vf (λ_ _ _ _ _ _=>zi jb fR rfl rfl hk fv) ?_;refine FA ?_;refine vf (λx l3 oq aU R oV=>?_) ?_;have F:=F.go R;refine zl vh rfl (F.cells 2 _ rfl) ?_;exact fv;refine vf (λ_ _ _ _ _ _=>WZ fv) ?_;refine vf (λ_ _ _ _ _ _=>lx rfl rfl rfl rfl rfl (mz (n+1) om _ om) fv) ?_;refine vf (λx l3 oq aU R oV=>?_) ?_;have H:=H.go R;refine DX bz bw rfl rfl rfl rfl om H ?_;intro xC I;exact ff (aj.refl _ _) ((show bo _ _ xC ((cm p k).code.drop (n+1)) from by unfold bo ic;rw[List.map_drop];exact I));refine ve 1 (λx l3 oq aU R oV P B=>?_) ?_;have aL:=kn B;obtain⟨q0,I⟩:=aL;subst I;intro zO d18;have P:∃J,cZ l3 9 q0 J ((cm p k).code.take n)/\sn oq l3 9 J/\(∀x∈J.toList,_<=x):=P;obtain⟨J,tW,JJ,EV⟩:=P;refine Hf bz bw rfl rfl rfl rfl rfl rfl tW d18 ‹_› JJ (by rw[List.length_take,List.length_drop];omega) λv9 g9 sw G9 dB Hh pC lZ dA fo D=>?_;exact fe G9 dA fo<|⟨g9,dB,λx d=>(pC x d).elim (EV x) λs=>Nat.le_trans R.aG.size s⟩;exact trivial;intro x M8 _ aU Rb _ P B;have aL:=mJ B;obtain⟨q0,q1,I⟩:=aL;subst I;intro v2 d2;intro zO d18;change OW _ _ _ _ _ (ba (aZ _ x _) (zZ 117 [_,_,_,_,_,_,_,_,_,_,_,_,_,_,_,_,_,_,_,_])) _;have P:∃J,cZ M8 9 q1 J ((cm p k).code.take n++(cm p k).code.drop (n+1))/\(∀x∈J.toList,_<=x):=P;obtain⟨J,tW,EV⟩:=P;have cu:=jL tW;obtain⟨_,_,T⟩:=cu;subst T;have Z7:aj [] _ M8:=Rb.aG;refine cV Z7 o h u λo h u=>?_;refine zi jb fR rfl rfl hk<|zf Ci rfl<|ar5 (i:=k) (L:=[t]) oH rfl rfl rfl om o S mw tW (λx d A=>by have h8:=EV x d;have s:=Tt x (by simp at A;simp[A]);omega) (λx d A=>by rcases mA.1 d with s|s;(·exact BM x s A);(·have h8:=EV x s;have h7:=u.size;simp at A;omega)) λ_ E0 hR dC=>?_;have h:=h.aG E0 (λx d=>by have:=K x (by simp at d;simp[d]);omega);have u:=u.since E0 λx d=>.inr<|K x (by simp at d;simp[d]);refine W ?_;exact⟨_,rfl,⟨_,_,⟨hR,λb hb=>K b<|by simp[hb],λx d=>by simp at d;subst d;exact h.lt,u.size⟩,hH.set hk (by rw[lA,List.length_take,List.length_drop];omega) λx d=>hH3.2.2.2 x<|(mA.1 d).elim List.mem_of_mem_take List.mem_of_mem_drop⟩,h.more om,u⟩;refine W ?_;exact⟨_,rfl,⟨p,_,o.gr BM (λb hb=>K b<|by simp[hb]) (λx d=>by simp at d;subst d;exact h.lt) u.size,hH⟩,h.more om,u⟩
theorem asF {d:Nat} {q:Array Value} {T:TypeId} (hb:aK w d q T) (H:∀(i:Nat) (s:ak),q[i]?≠some (str s)) {size:Nat} {rows:List (List C)} (h:cj L w (.slice a n c) (.sl size rows)) (D:∀row∈rows,∃s rest,row= .val (str s)::rest) (M:∀row l u,row∈rows->l∈row->cj L w u l->cj (L++[d]) w u l):cj (L++[d]) w (.slice a n c) (.sl size rows):=by
 cases h with
 |nil=>exact .nil _ _ _
 |sl b p _ _ _ _ f o g K F t A z=>
  cases rows with
  |nil=>
   have:n=0:=by rw[<-o];rfl
   subst this;exact .nil _ _ _
  |cons row rest=>
   have B:b≠d:=by rintro rfl;obtain⟨s,r,e⟩:=D row sm;have J:=t row sm;have v:=z 0 0 row (.val<|str s) rfl (by rw[e];rfl);have m:=A 0 0 (by rw[<-o];simp) (by rw[<-J,e];simp);rw[hb.cell] at m;generalize f 0 0=u at v m;cases v;exact H _ _ m
   exact .sl b p n c size _ f o g K (λI=>(mA.1 I).elim F λE=>B<|by simpa using E) t A λi j row c y g=>M row c _ (List.mem_of_getElem? y) (List.mem_of_getElem? g)<|z i j row c y g
theorem ab8 {d:Nat} {e:Array Value} {T:TypeId} (hb:aK w d e T) (g:∀(i:Nat) (s:ak),e[i]?≠some (str s)) {xs:List ak} (h:bo L w v xs):bo (L++[d]) w v xs:=by
 obtain⟨a,n,c,rfl,_⟩:=er h;refine asF hb g h (λrow b=>?_) λrow _ u b f j=>?_
 .obtain⟨x,_,rfl⟩:=List.mem_map.1 b;exact⟨x,[],rfl⟩
 .obtain⟨x,_,rfl⟩:=List.mem_map.1 b;simp only[List.mem_singleton] at f;subst f;cases j;exact .val _
theorem ab9 {b:Nat} {c:Array Value} {T:TypeId} (hb:aK w b c T) (a:∀(i:Nat) (s:ak),c[i]?≠some (str s)):∀{bs:List Bk} {xs:List Value},dG L w xs (bs.map Bk.enc).flatten->dG (L++[b]) w xs (bs.map Bk.enc).flatten
 |[],[],_=>trivial
 |f::bs,x0::x1::x2::r,h=>by obtain⟨d,e,g,h⟩:=h;cases d;exact⟨.val _,ab8 (xs:=f.cQ) hb a e,ab8 (xs:=f.code) hb a g,ab9 (bs:=bs) hb a h⟩
theorem dU.gr {f q:Nat} {g:Option Nat} (h:dU w f q) (d:Gr B [] w T 3 v g (bs.map Bk.enc)) (y:f<B):Gr B [f] w T 3 v g (bs.map Bk.enc):=by
 obtain⟨a,n,c,p,xs,l,_⟩:=h;obtain⟨u,o,m,t,_⟩:=d.own;have r:∀(i:Nat) (s:ak),([.slice a n c,.int .i64 ((p:Nat):Int)]:List Value).toArray[i]?≠some (str s):=λi s j=>by
  match i with
  |0=>cases j
  |1=>cases j
  |i+2=>cases j
 rw[List.append_nil] at m;exact⟨⟨u,o,ab9 l r m,t,λb hb e=>by have:=d.low b hb;simp at e;omega⟩,d.low,λx e=>by simp at e;subst e;exact l.lt,d.bsz⟩
theorem asG (a q:Nat) (O:q<=700000000) (w:World) (h:dU w a q):
  bu Tryz.prog 60 [.pointer (some ⟨a,0,none⟩)] w λr w'=>(∃x,r=str x)/\dU w' a (q+12000)/\aj [a] w w':=by
 have hk:=aj.refl [a] w;have P:=h.lt;have Q:(4:Nat)^2=16:=rfl;refine cg [.tmp 2] 28 Tryz.func60 rfl ahz rfl rfl ?_;refine W ?_;refine aA (mU 3 de de a q om w h) ?_;rintro d H ⟨⟨z,c,_⟩,h,b⟩;subst c;have hk:=hk.trans b;refine W ?_;refine jl (λx:ak=>[(0,.pointer<|some ⟨a,0,none⟩),(3,str x)]) (λx n=>aj [a] w n/\dU n a (q+20)/\x.length<=100) ?_ ?_;refine zc rfl (λA=>?_) λA=>?_;refine lv<|zm<|aA (S0 2 de a (q+1) om H h) ?_;rintro d I ⟨⟨T,c,m⟩,h,b⟩;subst c;have E:=T.len;have m:T.n+1<=8:=m;have hk:=hk.trans b;refine W ?_;exact⟨_,⟨rfl,rfl⟩,hk,h.more om,om⟩;refine WZ ?_;exact⟨_,⟨rfl,rfl⟩,hk,h.more om,by decide⟩;intro l I _ D;obtain⟨hk,h,_⟩:=D;have F:=h.lt;refine zr<|zm<|iq bz bw λ_ s f _=>bJ s hk h λhk h=>?_;refine iq bz bw λJ t p _=>cV t hk h f λhk h f=>?_;refine jF (Py _ _ _ _ _ _ _) rfl rfl<|zm<|zm<|aA (mU 3 de de a (q+20) om J h) ?_;rintro d g ⟨⟨i,c,_⟩,h,b⟩;subst c;have hk:=hk.trans b;have u:bo [a] g _ []:=(f.mv.aG b so).rep so;have v:bo [a] g _ []:=(p.mv.aG b so).rep so;have C:=Tb (2+i) om;have N:4^(2+i)<=4^4:=Nat.pow_le_pow_right de om;have S:(4:Nat)^4=256:=rfl;refine lx rfl rfl rfl rfl rfl (mz (2+i) om _ om)<|aA (C [] [] l a (q+21) _ _ g rfl so sm om om h u v) ?_;rintro d K ⟨⟨M,c,_⟩,h,b⟩;subst c;have hk:=hk.trans b;have h:=h.more<|show _<=q+6000 from om;refine W ?_;refine aA (QZ M K) ?_;rintro _ _ ⟨rfl,j⟩;have R:=j.size;refine bJ j hk h λhk h=>?_;refine aV<|zc rfl (λB=>?_) λB=>?_;refine W ?_;exact⟨_,rfl,⟨_,rfl⟩,h.more om,hk⟩;have F:=h.lt;refine iF<|zr<|zm<|iq bz bw λ_ y e _=>bJ y hk h λhk h=>?_;refine iq bz bw λL b o _=>cV b hk h e λhk h e=>?_;refine jF (Py _ _ _ _ _ _ _) rfl rfl<|zm<|aA (Tb 2 de [] [] l a (q+6000) _ _ L rfl sm sm om om h (e.mv.rep so) (o.mv.rep so)) ?_;rintro d _ ⟨⟨_,c,_⟩,h,b⟩;subst c;have hk:=hk.trans b;refine W ?_;exact⟨_,rfl,⟨_,rfl⟩,h.more om,hk⟩
theorem Gr.two {B i:Nat} {x1 x2 a d e f:Value} {f1 f2:Bk} (hb:aK w b [x1,x2,a,d,e,f].toArray i) (m:pL (b::L) w (.agg #[x1,x2,a]) f1) (n:pL (b::L) w (.agg #[d,e,f]) f2) (j:B<=b) (o:∀x∈L,x<w.heap.size) (p:b∉L):Gr B L w i 3 (.slice (some ⟨b,0,none⟩) 2 2) (some b) ([f1,f2].map Bk.enc):=
 ⟨⟨[x1,x2,a,d,e,f],⟨rfl,.inr ⟨b,2,_,rfl,rfl,hb,lR _,by decide,rfl,rfl⟩⟩,dG.append (vs:=[x1,x2,a]) m.lP<|dG.append (vs:=[d,e,f]) n.lP (vs':=[]) (cs':=[]) trivial,by intro row l;simp at l;rcases l with rfl|rfl<;>rfl,by intro c g;cases g;exact p⟩,by intro c g;cases g;exact j,o,Nat.le_of_lt (Nat.lt_of_le_of_lt j hb.lt)⟩
structure Ad (bs:List Bk):Prop where
 len:1<=bs.length/\bs.length<=40
 bk:∀b∈bs,b.aM.length<=100/\b.cQ.length<=40/\b.code.length<=80/\(∀x∈b.cQ,x.length<=12000)/\∀x∈b.code,x.length<=12000
theorem Ad.smalls (h:Ad bs):mE bs:=⟨by have:=h.len;omega,λi a=>by have:=h.bk (cm bs i) (List.mem_of_getElem?<|l8 a);exact⟨by omega,om,om⟩⟩
theorem Tl.dr {b:Bk} {l:ak} (h:Tl b l) (c:l.length<=100):b.aM.length<=100/\b.cQ.length<=40/\b.code.length<=80/\(∀x∈b.cQ,x.length<=12000)/\∀x∈b.code,x.length<=12000:=
 ⟨by rw[h.aM];exact c,by have:=h.regs.1;omega,by have:=h.code.2.1;omega,λx a=>by have:=h.regs.2 x a;omega,λx a=>by have:=h.code.2.2 x a;omega⟩
theorem asH {x:ak} (h:uZ x=true):x.length<=12000:=by
 unfold uZ seen at h;cases a:bT x with
 |none=>rw[a] at h;cases h
 |some t=>exact(wI a).2.2.2
theorem aca (g:gP bs=true) (p:∀b∈bs,b.aM.length<=10):Ad bs:=by
 obtain⟨j,l,m⟩:=H6 g;refine⟨⟨l,j⟩,λb hb=>?_⟩;obtain⟨i,f,rfl⟩:=List.getElem_of_mem hb;have e:cm bs i=bs[i]:=by unfold cm;rw[gG,gE f];rfl
 have a:=m i f;rw[e] at a;obtain⟨_,n,o⟩:=LF<|Cd g _ hb;refine⟨by have:=p _ hb;omega,a.1,a.2.2,λx d=>?_,λx d=>?_⟩
 .obtain⟨t,c,_⟩:=n x d;exact(wI c).2.2.2
 .obtain⟨t,c,_⟩:=o x d;exact(wI c).2.2.2
theorem Ad.asI {a:List Bk} (h:Ad bs) (d:yN bs a):Ad a:=by
 refine⟨by rw[d.1];exact h.len,λb hb=>?_⟩;obtain⟨i,l,rfl⟩:=List.getElem_of_mem hb;have m:i<bs.length:=by rw[<-d.1];exact l
 have e:cm a i=a[i]:=by unfold cm;rw[gG,gE l];rfl
 obtain⟨f,g,n,j⟩:=d.2 i m;rw[e] at f g n j;have c:=h.bk (cm bs i) (List.mem_of_getElem?<|l8 m);rw[f,g];exact⟨c.1,c.2.1,om,c.2.2.2.1,λx o=>(j x o).elim (c.2.2.2.2 x) asH⟩
def Tv:List ak:=[[98,49],[98,48],[101,110,100]]
theorem acb (c q:Nat) (hq:q<=600000000) (w:World) (h:dU w c q):
  bu Tryz.prog 29 [.pointer (some ⟨c,0,none⟩)] w λr w'=>(∃bs g,Ad bs/\Gr w.heap.size [c] w' 39 3 r g (bs.map Bk.enc))/\dU w' c (q+20000)/\aj [c] w w':=by
 have hk:=aj.refl [c] w;have jo:=h.lt;refine cg [.tmp 2] 49 Tryz.func29 rfl ag8 rfl rfl ?_;refine W ?_;refine aA (mU 3 de de c q om w h) ?_;rintro f w1 ⟨⟨z,d,_⟩,h,a⟩;subst d;have hk:=hk.trans a;refine W ?_;refine zc rfl (λh1=>?_) λh1=>?_;have i:=h.lt;refine zr<|zm<|aA (KL [109,97,105,110] 0 de c (q+1) om w1 h) ?_;rintro f T ⟨⟨f1,sA,I⟩,h,a⟩;have hk:=hk.trans a;have I:=I [c] so;have s:=yU I;obtain⟨a1,n1,c1,a2,n2,c2,d,_,_,j,l⟩:=s;subst d;refine zm<|zm<|aA (mU 3 de de c (q+101) om T h) ?_;rintro f U ⟨⟨z2,d,_⟩,h,a⟩;subst d;have hk:=hk.trans a;have j:=j.aB a sm;have l:=l.aB a sm;have i:=h.lt;refine aA (KL [98,48] z2 om c (q+102) om U h) ?_;rintro f t ⟨⟨f2,sB,J⟩,h,a⟩;have hk:=hk.trans a;have j:=j.aB a sm;have l:=l.aB a sm;have J:=J [c] so;have s:=yU J;obtain⟨a3,n3,c3,a4,n4,c4,d,_,_,u,y⟩:=s;subst d;refine tX [.tmp 10,.tmp 14] [[str f1.aM,.slice a1 n1 c1,.slice a2 n2 c2],[str f2.aM,.slice a3 n3 c3,.slice a4 n4 c4]] jb fR rfl rfl rfl rfl rfl rfl rfl rfl rfl λV p Hj _=>?_;have i:=h.lt;have A:∀x∈t.heap.size::[c],x∈[c]\/t.heap.size<=x:=(λx o=>by rcases mC.1 o with h9|h9;(·right;omega);(·exact .inl h9));have j:=(j.fresh A).ext p;have l:=(l.fresh A).ext p;have u:=(u.fresh A).ext p;have y:=(y.fresh A).ext p;have m:=hk.size;refine bJ p hk h λhk h=>?_;have e:=Gr.two (B:=w.heap.size) (L:=[c]) Hj (tO j l) (tO u y) om so so;refine W ?_;refine aA (mU 3 de de c (q+202) om V h) ?_;rintro f w6 ⟨⟨_,d,_⟩,h,a⟩;subst d;have hk:=hk.trans a;have e:=e.aB a sm;refine W ?_;refine zc rfl (λh2=>?_) λh2=>?_;have i:=h.lt;refine W ?_;refine qI bz bw rfl rfl rfl rfl rfl λw7 cF ur _=>cV cF hk h e λhk h e=>?_;refine aA (nT Tv de de c (q+203) om _ w7 h<|aK.eu Tv ur (λo=>by simp at o;omega) de) ?_;rintro _ w8 ⟨⟨lb,hi,iE⟩,h,a⟩;subst iE;have hk:=hk.trans a;have e:=e.aB a sm;have qS:=(show∀x∈Tv,x.length<=30 from by decide) _ hi;refine zm<|aA (mU 2 de de c (q+204) om w8 h) ?_;rintro f w9 ⟨⟨z4,d,_⟩,h,a⟩;subst d;have hk:=hk.trans a;have e:=e.aB a sm;have i:=h.lt;have gh:=e.all;refine aA (KL lb z4 om c (q+205) om w9 h) ?_;rintro f _ ⟨⟨f3,sC,D⟩,h,a⟩;have hk:=hk.trans a;have e:=e.aB a sm;have D:=D _ gh;have s:=yU D;obtain⟨_,_,_,_,_,_,d,_,_,R,Q⟩:=s;subst d;refine fM jb fR rfl rfl λ_ cP F _=>kq cP hk h e R Q λhk h e R Q=>?_;refine OT jb fR rfl rfl rfl rfl rfl rfl e F (tO R Q) sm λ_ _ _ _ gL dS=>?_;have hk:=e.since hk dS;have h:=h.aG dS (λx o=>by have:=e.low x (by simp at o;simp[o]);omega);refine W ?_;exact⟨_,rfl,⟨[f1,f2]++[f3],_,⟨by simp,λb hb=>by simp at hb;rcases hb with rfl|rfl|rfl;(·exact sA.dr de);(·exact sB.dr de);(·exact sC.dr om)⟩,gL⟩,h.more om,hk⟩;refine W ?_;exact⟨_,rfl,⟨[f1,f2],_,⟨by simp,λb hb=>by simp at hb;rcases hb with rfl|rfl;(·exact sA.dr de);(·exact sB.dr de)⟩,e⟩,h.more om,hk⟩;refine iF<|zr<|zm<|aA (asG c (q+1) om w1 h) ?_;rintro f T ⟨⟨x9,d⟩,h,a⟩;subst d;have hk:=hk.trans a;have i:=h.lt;have m:=hk.size;refine aA (aa3 x9 T) ?_;rintro _ U ⟨lk,Z⟩;have u:=Z.size;refine bJ Z hk h λhk h=>?_;obtain⟨_,ok,bs,d,_,hC,n⟩:=lk;subst d;refine W ?_;refine jl (λv:Value=>[(0,.pointer<|some ⟨c,0,none⟩),(4,v)]) (λv X=>aj [c] w X/\dU X c (q+12001)/\∃bs g,Gr w.heap.size [c] X 39 3 v g (bs.map Bk.enc)/\gP bs=true/\∀b∈bs,b.aM.length<=10) ?_ ?_;refine zc rfl (λM=>?_) λM=>?_;have hf:ok=false:=(by simpa using M);have i:=h.lt;have m:=hk.size;refine lv<|aA (aa3 [40,43,32,49,32,50,41] U) ?_;rintro _ t ⟨kG,aJ⟩;have y:=aJ.size;refine bJ aJ hk h λhk h=>?_;obtain⟨_,_,_,d,_,S,SZ⟩:=kG;subst d;have H:=aqb S;subst H;have E:=SZ rfl;obtain⟨K,C⟩:=E;refine W ?_;exact⟨_,⟨rfl,rfl⟩,hk,h.more om,_,K,(h.gr C i).down m,S.prog,S.aM⟩;have bj:ok=true:=(by simpa using M);subst bj;have E:=n rfl;obtain⟨K,C⟩:=E;refine WZ ?_;exact⟨_,⟨rfl,rfl⟩,hk,h.more om,_,K,(h.gr C i).down m,hC.prog,hC.aM⟩;intro _ t _ hI;obtain⟨hk,h,bs,g,n,P,Y⟩:=hI;refine ka<|zr<|zm<|aA (mU 2 de de c (q+12001) om t h) ?_;rintro f V ⟨⟨_,d,_⟩,h,a⟩;subst d;have hk:=hk.trans a;have n:=n.aB a sm;have m:=hk.size;refine W ?_;refine zc rfl (λh4=>?_) λh4=>?_;refine W ?_;exact⟨_,rfl,⟨bs,g,aca P Y,n⟩,h.more om,hk⟩;have O:=cj.none n.uT;refine W ?_;refine aA (asv bs P c (q+12002) om _ V h O) ?_;rintro f w6 ⟨⟨cs,gc,N,hH⟩,h,a⟩;have hk:=hk.trans a;refine W ?_;exact⟨_,rfl,⟨cs,gc,(aca P Y).asI hH,N.down m⟩,h.more om,hk⟩
theorem acd {a:List aq} (e:a.length<=n) (d:n<1000000) (h:∀t∈a,WF t/\t.size<=24000/\t.text.length<=12000):Cg a:=
 ⟨by omega,λt c=>by obtain⟨b,_,_⟩:=h t c;exact⟨b,om,om⟩⟩
theorem yY.Tw {b:cw} (h:yY b):Cg b.regs/\Cg b.code:=
 ⟨acd h.regs om λt a=>⟨(h.rok t a).fG.wf,(h.rok t a).size,(h.rok t a).short⟩,acd h.code om λt a=>⟨(h.cok t a).1.wf,by have:=(h.cok t a).1.size;omega,(h.cok t a).1.text⟩⟩
theorem ace (h:∀b∈ps,yY b):Ob ps:=λb hb t a=>⟨((h b hb).cok t a).1.wf,ard ((h b hb).cok t a).2.2⟩
theorem Oo (h:∀b∈ps,yY b):kx ps<=80*ps.length:=by
 induction ps with
 |nil=>simp[kx]
 |cons b ps c=>have a:=c λb hb=>h b<|mK _ hb;have d:=(h b<|List.mem_cons_self ..).code;simp only[kx,List.map_cons,List.sum_cons,lC] at a⊢;omega
theorem acf (bs:List Bk):∀row,row∈bs.map Bk.enc->∀c∈row,∀v,c= .val v->v.oneCell'=true:=by
 intro row e c d v a;obtain⟨b,_,rfl⟩:=List.mem_map.1 e;simp only[Bk.enc,mC,List.not_mem_nil,or_false] at d;rcases d with h|h|h
 .subst h;cases a;rfl
 .subst h;cases a
 .subst h;cases a
theorem H8 (bs:List Bk) (hb:mE bs) (v:Value) (l:List Nat) (w:World) (K:kh l w v bs):
  bu Tryz.prog 28 [v] w λr w'=>r= .int .i64 (qi bs)/\aj [] w w':=by
 have a:=aj.refl [] w;refine cg [.tmp 2] 28 Tryz.func28 rfl ag7 rfl rfl ?_;refine W ?_;refine aA (F6 bs hb _ l [] w K sm) ?_;rintro _ u ⟨E,n⟩;have P:=n.size;have a:=a.ext n;obtain⟨ps,pv,rfl,t,L⟩:=E;refine W ?_;refine zc rfl (λj=>?_) λj=>?_;have J:iU bs=false:=by simpa using j
 refine W ?_;exact⟨_,rfl,by unfold qi;rw[J];rfl,a⟩;have f:iU bs=true:=(by simpa using j);have A:=L f;subst A;have e:gP bs=true:=(by unfold iU at f;exact(aE _ _▸f).1);have z:=Oo (Ck e).2;have s:1<=bs.length/\bs.length<=40:=(by unfold gP at e;simp only[aE,dE] at e;exact e.2.1.1);rw[List.length_map] at z;have g:=ua t;obtain⟨M,N,D⟩:=g;subst D;have c:=aj.refl [] u;rw[List.length_map];refine W ?_;refine et (λi:Nat=>[(5,.int .i64 (kx ((bs.map dz).take i):Nat)),(15,.slice M bs.length N),(16,.int .i64 (bs.length:Int)),(17,.int .i64 (i:Int))]) (λi w'=>aj [] w w'/\aj [] u w'/\i<=bs.length) (λi=>bs.length-i) (0) (⟨rfl,rfl,rfl,rfl⟩) (⟨a,c,om⟩) λd _ _ H=>?_;obtain⟨a,c,hk⟩:=H;have B:=c.size;have C:=a.size;refine W ?_;refine zc rfl (λF=>?_) λF=>?_;have q:d<(bs.map dz).length:=(by rw[List.length_map];omega);have g:=yj t<|pN q;obtain⟨b,_,_,_,_,_,rfl,I,_,_⟩:=g;have y:=N9 q;have Q:=Oa (bs.map dz)<|d+1;have R:kx ((bs.map dz).take d)+(dv (bs.map dz) d).code.length<=3200:=by omega
 refine WL ?_;refine zL Ch j3 rfl (I.ext c) rfl<|dy j3 rfl rfl rfl λ_ m p _=>?_;have a:=a.grow;have a:=a.ext m;have c:=c.grow;have c:=c.ext m;refine cN j3 rfl rfl rfl p rfl λ_ o p _=>?_;have a:=a.aB o sx;have c:=c.aB o sx;refine W ?_;exact⟨d+1,⟨by show Value.int _ _=Value.int _ _;congr 1;rw[y];omega,rfl,rfl,rfl⟩,⟨a,c,om⟩,om⟩;have O:(bs.map dz).take d=bs.map dz:=List.take_of_length_le (by rw[List.length_map];omega);refine W ?_;exact⟨_,rfl,(show Value.int .i64 ((kx ((bs.map dz).take d):Nat):Int)= .int .i64 (qi bs) from by unfold qi;rw[iP f,O,abw]),a⟩
theorem KN (h:∀b∈bs,b.aM.length<=12000):iU bs=gP bs:=by unfold iU;rw[show bs.all Eg=true from List.all_eq_true.2 λb hb=>dT<|h b hb,Bool.and_true]
section
variable {p:List cw} {st:TS} {o:Nat} {t:aq}
end
theorem asN {b:Bk} (h:mo b=true):(b.cQ.map tr).map aq.text=b.cQ:=by
 have c:=(LF h).2.1;rw[List.map_map]
 conv=>rhs;rw[<-List.map_id b.cQ]
 refine List.map_congr_left λs d=>?_;obtain⟨t,a,_⟩:=c s d;show(tr s).text=s;rw[LC a,(wI a).2.2.1]
inductive uL (ps:List cw):Nat->Prop
 |main:uL ps 0
 |step {k j:Nat} {s:ak}:uL ps k->s∈kK [dv ps k]->kM ps s=(j:Int)->uL ps j
theorem asO (h:kM ps s=(j:Int)):j<ps.length:=by rcases aby ps s with a|a<;>omega
theorem uL.lt (a:0<ps.length) (h:uL ps k):k<ps.length:=by
 cases h with
 |main=>exact a
 |step _ _ e=>exact asO e
structure Ga (ps:List cw) (ms:List Bool) (q:List Int) (kk n:Nat):Prop where
 snd:∀k,ms.getD k false=true->uL ps k
 sndq:∀k:Nat,(k:Int)∈q->uL ps k
 main:ms.getD 0 false=true\/((0:Nat):Int)∈q
 cl:∀k,ms.getD k false=true->∀i s,(kK [dv ps k])[i]?=some s->(k=kk->i<n)->∀j:Nat,kM ps s=(j:Int)->ms.getD j false=true\/(j:Int)∈q
structure uM (ps:List cw) (ms:List Bool) (q:List Int):Prop where
 snd:∀k,ms.getD k false=true->uL ps k
 sndq:∀k:Nat,(k:Int)∈q->uL ps k
 main:ms.getD 0 false=true\/((0:Nat):Int)∈q
 cl:∀k,ms.getD k false=true->∀s,s∈kK [dv ps k]->∀j:Nat,kM ps s=(j:Int)->ms.getD j false=true\/(j:Int)∈q
theorem acg (n k:Nat):(List.replicate n false).getD k false=false:=by rw[gG,List.getElem?_replicate];split<;>rfl
theorem uM.init (a:List cw) (n:Nat):uM a (List.replicate n false) [0]:=
 ⟨λk h=>absurd h (by rw[acg];decide),λk h=>by
  have:(k:Int)=0:=by simpa using h
  have:k=0:=by omega
  subst this;exact .main,.inr sm,λk h=>absurd h (by rw[acg];decide)⟩
theorem uM.skip {b:List Bool} {z:Int} (h:uM ps b (z::q)) (c:∀k:Nat,z=(k:Int)->b.getD k false=true):uM ps b q:=
 ⟨h.snd,λk hk=>h.sndq k<|mK _ hk,by
  rcases h.main with a|a
  .exact .inl a
  .rcases mC.1 a with a|a
   .exact .inl<|c 0 a.symm
   .exact .inr a,λk hk s e j d=>by
  rcases h.cl k hk s e j d with a|a
  .exact .inl a
  .rcases mC.1 a with a|a
   .exact .inl<|c j a.symm
   .exact .inr a⟩
theorem KO {b:List Bool} {a:Nat} (hk:a<b.length) (k:Nat):(b.set a true).getD k false=if k=a then true else b.getD k false:=by
 rw[gG,List.getElem?_set];by_cases h:k=a
 .subst h;rw[iP rfl,iP hk,iP rfl];rfl
 .rw[iN λe=>h e.symm,iN h,gG]
theorem uM.mark {d:List Bool} {b:Nat} (h:uM ps d ((b:Int)::q)) (hk:b<d.length) (m:d.getD b false=false):Ga ps (d.set b true) q b 0:=
 ⟨λk a=>by
  rw[KO hk] at a;split at a
  .next e=>rw[e];exact h.sndq b<|List.mem_cons_self ..
  .exact h.snd k a,λk a=>h.sndq k<|mK _ a,by
  rw[KO hk];split
  .exact .inl rfl
  .next ne=>
   rcases h.main with a|a
   .exact .inl a
   .rcases mC.1 a with a|a
    .exact absurd (show 0=b by omega) ne
    .exact .inr a,λk a i s l f j g=>by
  by_cases e:k=b
  .exact absurd (f e)<|Nat.not_lt_zero _
  .rw[KO hk,iN e] at a;rw[KO hk];split
   .exact .inl rfl
   .next ne=>
    rcases h.cl k a s (List.mem_of_getElem? l) j g with c|c
    .exact .inl c
    .rcases mC.1 c with c|c
     .exact absurd (show j=b by omega) ne
     .exact .inr c⟩
theorem Ga.push {d:List Bool} {b:Nat} (h:Ga ps d q b n) (p:d.getD b false=true) (l:n<(kK [dv ps b]).length):Ga ps d (q++[kM ps (bV (kK [dv ps b]) n)]) b (n+1):=
 ⟨h.snd,λk hk=>by
  rcases mA.1 hk with hk|hk
  .exact h.sndq k hk
  .exact .step (h.snd b p) (List.mem_of_getElem?<|jW l) (List.mem_singleton.1 hk).symm,
  by rcases h.main with a|a;(·exact .inl a);(·exact .inr (List.mem_append_left _ a)),λk hk i s c o j g=>by
  by_cases e:k=b/\i=n
  .obtain⟨rfl,rfl⟩:=e;rw[jW l] at c;cases c;exact .inr<|mR _ (by rw[g];simp)
  .rcases h.cl k hk i s c (λf=>by have:=o f;have:i≠n:=λm=>e ⟨f,m⟩;omega) j g with a|a
   .exact .inl a
   .exact .inr<|List.mem_append_left _ a⟩
theorem Ga.done {b:List Bool} {a:Nat} (h:Ga ps b q a n) (l:(kK [dv ps a]).length<=n):uM ps b q:=
 ⟨h.snd,h.sndq,h.main,λk hk s g j f=>by obtain⟨i,d,e⟩:=List.getElem_of_mem g;exact h.cl k hk i s (by rw[gE d,e]) (λc=>by subst c;omega) j f⟩
theorem uM.fin {b:List Bool} (h:uM ps b []) (k:Nat):b.getD k false=true↔uL ps k:=
 ⟨h.snd k,λd=>by
  induction d with
  |main=>rcases h.main with a|a;(·exact a);(·cases a)
  |step _ e c f=>rcases h.cl _ f _ e _ c with a|a;(·exact a);(·cases a)⟩
theorem asP (out:List ak) (t:aq) (s:ak):s∈addN out t↔s∈out\/rN t=some s:=by
 unfold addN;cases h:rN t with
 |none=>simp
 |some r=>
  dsimp only;split
  .next b=>exact⟨.inl,λa=>a.elim id λe=>by cases e;exact b⟩
  .rw[mA,List.mem_singleton];exact⟨λa=>a.imp_right λe=>by rw[e],λa=>a.imp_right λe=>by cases e;rfl⟩
theorem ach (s:ak):∀(c:List aq) (out:List ak),s∈c.foldl addN out↔s∈out\/∃t∈c,rN t=some s
 |[],out=>by simp
 |t::c,out=>by
  rw[List.foldl_cons,ach s c,asP];constructor
  .rintro((h|h)|⟨u,a,b⟩)
   .exact .inl h
   .exact .inr ⟨t,List.mem_cons_self ..,h⟩
   .exact .inr ⟨u,mK _ a,b⟩
  .rintro(h|⟨u,a,b⟩)
   .exact .inl<|.inl h
   .rcases mC.1 a with rfl|a
    .exact .inl<|.inr b
    .exact .inr ⟨u,a,b⟩
theorem aci (s:ak) (a:List cw):s∈kK a↔∃b∈a,∃t∈b.code,rN t=some s:=by
 have f:∀(a:List cw) (out:List ak),s∈a.foldl F7 out↔s∈out\/∃b∈a,∃t∈b.code,rN t=some s:=by
  intro a;induction a with
  |nil=>intro out;simp
  |cons b a g=>
   intro out;rw[List.foldl_cons,g,F7,ach];constructor
   .rintro((h|h)|⟨c,d,e⟩)
    .exact .inl h
    .exact .inr ⟨b,List.mem_cons_self ..,h⟩
    .exact .inr ⟨c,mK _ d,e⟩
   .rintro(h|⟨c,d,e⟩)
    .exact .inl<|.inl h
    .rcases mC.1 d with rfl|d
     .exact .inl<|.inr e
     .exact .inr ⟨c,d,e⟩
 unfold kK;rw[f];simp
theorem asQ (hk:k<ps.length) (h:s∈kK [dv ps k]):s∈kK ps:=by obtain⟨b,hb,h⟩:=(aci s _).1 h;rw[List.mem_singleton.1 hb] at h;exact(aci s _).2 ⟨_,List.mem_of_getElem?<|pN hk,h⟩
def mW (a:List Bool) (bs:List Bk):Nat->List Bk
 |0=>[]
 |k+1=>mW a bs k++if a.getD k false=true then[cm bs k] else[]
def RM (bs:List Bk) (a:List Bool):Prop:=∀k,a.getD k false=true↔uL (bs.map dz) k
theorem acj {d:List Bool}:∀{k:Nat} {b:Bk},b∈mW d bs k↔∃i,i<k/\d.getD i false=true/\b=cm bs i
 |0,b=>by simp[mW]
 |k+1,b=>by
  rw[mW,mA,acj];constructor
  .rintro(⟨i,f,a,c⟩|h)
   .exact⟨i,om,a,c⟩
   .split at h
    .next g=>exact⟨k,om,g,List.mem_singleton.1 h⟩
    .cases h
  .rintro⟨i,f,a,c⟩;by_cases e:i=k
   .subst e;exact .inr (by rw[iP a];exact List.mem_singleton.2 c)
   .exact .inl ⟨i,om,a,c⟩
theorem asR (a:List Bool) (bs:List Bk):∀k,k<=bs.length->(mW a bs k).Sublist (bs.take k)
 |0,_=>by simp[mW]
 |k+1,h=>by
  rw[mW,List.take_add_one,l8 om];refine List.Sublist.append (asR a bs k om) ?_;split
  .exact List.Sublist.refl _
  .exact List.nil_sublist _
theorem asS {b:Bk} (h:mo b=true):(b.code.map tr).map aq.text=b.code:=by
 have c:=(LF h).2.2;rw[List.map_map]
 conv=>rhs;rw[<-List.map_id b.code]
 refine List.map_congr_left λs d=>?_;obtain⟨t,a,_⟩:=c s d;show(tr s).text=s;rw[LC a,(wI a).2.2.1]
theorem ack {b:Bk} (h:mo b=true):o8 (dz b)=b:=by have a:=asN h;have c:=asS h;unfold o8 dz;dsimp only;rw[a,c]
theorem acm (hk:k<bs.length):dv (bs.map dz) k=dz (cm bs k):=by have:=pN (ps:=bs.map dz) (i:=k) (by rw[List.length_map];exact hk);rw[List.getElem?_map,l8 hk] at this;exact(Option.some.inj this).symm
theorem Tx (h:gP bs=true) (a:List Bool):∀k,k<=bs.length->o9 a (bs.map dz) k=mW a bs k
 |0,_=>rfl
 |k+1,hk=>by rw[o9,mW,Tx h a k om];rw[acm om,ack (Cd h _ (List.mem_of_getElem?<|l8 om))]
theorem aK.setCells {T:TypeId}:∀(d:List Value) (o:Nat) {w:World} {c:Array Value},aK w b c T->∃a,aK (w.setCells b o d) b a T/\a.size=c.size/\(∀x,x<o->a[x]?=c[x]?)/\aj [b] w (w.setCells b o d)/\(w.setCells b o d).heap.size=w.heap.size
 |[],o,w,c,h=>⟨c,h,rfl,λ_ _=>rfl,aj.refl _ _,rfl⟩
 |v::d,o,w,c,h=>by obtain⟨a,e,f,g,i,j⟩:=aK.setCells d (o+1)<|h.set o v;refine⟨a,e,by rw[f];simp,λx _=>?_,(aj.setCell _ _ _ _).trans i,j.trans<|by simp[World.setCell]⟩;rw[g x om,Array.getElem?_setIfInBounds_ne om]
section
variable {P:Program} {n:Nat} {ops:Array Oper} {K:Env->World->Prop} {rest:List Oper} {e:Env} {w:World}
 {dst:Option Nat} {ty:TypeId} {pos:String} {after:Array Edge} {g:Option (Nat×Bool)} {x y:Operand}
theorem asT {b o m c:Nat} {d:Array Value} {U:TypeId} (u:P.underlying T=some (.slice E)) (t:TI P E 1 bytes z) (A:gate ops e g=true) 
  (y:cJ n dst=true) (F:z.cells=#[z]) (f:z.oneCell'=true) (D:ev e x= .slice (some ⟨b,o,none⟩) m c) (hb:aK w b d U) (B:0<m) (H:o+m<=d.size)
  (k:∀w' a,aj [b] w w'->aK w' b a U->a.size=d.size->(∀i,i<o->a[i]?=d[i]?)->w'.heap.size=w.heap.size->OW P n ops K rest (bU e dst<|.tuple #[]) w'):
  OW P n ops K (⟨dst,.call {callee:=.builtin .clear,args:=#[x],argTypes:=#[T]},ty,pos,after,g⟩::rest) e w:=by
 have C:=Lib.run_clear_slice (P:=P) w T E ty z u t.K6 F f b o m c B (λj _=>by rw[hb.cell,Array.getElem?_eq_getElem om];rfl) λj _=>hb.frozen _;obtain⟨a,l,p,q,r,s⟩:=hb.setCells (List.replicate m z) o;refine fp A y (v:=.tuple #[]) (w':=w.setCells b o<|List.replicate m z) ?_<|k _ a r l p q s;simp[execOp,resolve,invoke,builtin,D,C]
theorem asU {a:Operand} {b m c l:Nat} {r:IntKind} (j:P.underlying T=some (.slice E)) (i:TI P E 1 bytes z) (p:gate ops e g=true) (o:cJ n dst=true) 
  (q:ev e x= .slice (some ⟨b,0,none⟩) m c) (s:ev e a= .int r (l:Int)) (u:l<m) (t:m<=c)
  (k:OW P n ops K rest (bU e dst (.slice (some ⟨b,0+l*1,none⟩) (m-l)<|c-l)) w):OW P n ops K (⟨dst,.slice T x (some a) none none,ty,pos,after,g⟩::rest) e w:=by
 have d:l<=m:=by omega
 have f:¬c=l:=by omega
 refine fp p o (v:=.slice (some ⟨b,0+l*1,none⟩) (m-l)<|c-l) (w':=w) ?_ k;simp[execOp,Instr.sliceAt,Instr.slice,q,s,run_underlying j,Instr.sliceBounds,Instr.sliceBound,asIntOf,d,f,i.qZ,qq]
theorem asV {a:Operand} {b m c l:Nat} {r:IntKind} (i:P.underlying T=some (.slice E)) (f:TI P E 1 bytes z) (o:gate ops e g=true) (j:cJ n dst=true) 
  (q:ev e x= .slice (some ⟨b,0,none⟩) m c) (d:ev e a= .int r (l:Int)) (p:l<=c)
  (k:OW P n ops K rest (bU e dst<|.slice (some ⟨b,0,none⟩) l c) w):OW P n ops K (⟨dst,.slice T x none (some a) none,ty,pos,after,g⟩::rest) e w:=by
 refine fp o j (v:=.slice (some ⟨b,0,none⟩) l c) (w':=w) ?_ k;simp[execOp,Instr.sliceAt,Instr.slice,q,d,run_underlying i,Instr.sliceBounds,Instr.sliceBound,asIntOf,p,f.qZ,qq]
end
structure rP (xs:List ak) (p:ak->Bool) (b c T:Nat) (i j:Nat) (w:World):Prop where
 ne:∃cs:Array Value,aK w b cs T/\cs.size=c/\(∀(x:Nat) (s:ak),((xs.take j).filter λs=>!p s)[x]?=some s->cs[x]?=some (str s))/\∀x:Nat,j<=x->x<xs.length->cs[x]?=some (str<|bV xs x)
 ij:((xs.take j).filter λs=>!p s).length=i
 lt:i<j
 le:j<=xs.length
 cap:xs.length<=c/\c<=maxLen
theorem rP.ext (h:rP xs p b c T i j w) (k:aj [] w w'):rP xs p b c T i j w':=by obtain⟨⟨a,d,e⟩,f,g,l,m⟩:=h;exact⟨⟨a,d.ext k,e⟩,f,g,l,m⟩
theorem rP.at (h:rP xs p b c T i j w) (e:j<xs.length):w.cell? ⟨b,0+j*1,none⟩=some (str<|bV xs j):=by obtain⟨_,a,_,_,d⟩:=h.ne;rw[a.cell,show 0+j*1=j by omega];exact d j (lR _) e
theorem Tz (q:ak->Bool) (a:j<xs.length):(xs.take<|j+1).filter q=(xs.take j).filter q++if q (bV xs j)=true then[bV xs j] else[]:=by
 rw[List.take_add_one,jW a,List.filter_append]
 congr 1
 show List.filter q [bV xs j]=_;rw[List.filter_cons];split<;>simp
theorem rP.skip (h:rP xs p b c T i j w) (a:j<xs.length) (q:p (bV xs j)=true):rP xs p b c T i (j+1) w:=by
 have e:(xs.take<|j+1).filter (λs=>!p s)=(xs.take j).filter λs=>!p s:=by rw[Tz _ a,q];simp
 obtain⟨⟨d,f,g,l,m⟩,n,_,_,o⟩:=h;exact⟨⟨d,f,g,by rw[e];exact l,λx _=>m x om⟩,by rw[e];exact n,om,a,o⟩
theorem rP.put (h:rP xs p b c T i j w) (l:j<xs.length) (v:p (bV xs j)=false) {d:Array Value} (hb:aK w b d T) (y:aK w' b (d.setIfInBounds i (str<|bV xs j)) T):rP xs p b c T (i+1) (j+1) w':=by
 have e:(xs.take<|j+1).filter (λs=>!p s)=((xs.take j).filter λs=>!p s)++[bV xs j]:=by rw[Tz _ l,v];simp
 obtain⟨⟨z,n,o,q,r⟩,g,_,_,t⟩:=h;have m:z=d:=by have:=n.symm.trans hb;cases this;rfl
 subst m;refine⟨⟨_,y,by simpa using o,λx s a=>?_,λx a u=>?_⟩,by rw[e,lA,g];rfl,om,l,t⟩
 .rw[e] at a;by_cases f:x=i
  .subst f;rw[List.getElem?_append_right om,g,Nat.sub_self] at a;cases a;rw[Array.getElem?_setIfInBounds_self_of_lt om]
  .rw[Array.getElem?_setIfInBounds_ne om];refine q x s ?_;rw[List.getElem?_append] at a;split at a
   .exact a
   .have:=(List.getElem?_eq_some_iff.1 a).1;simp at this;omega
 .rw[Array.getElem?_setIfInBounds_ne om];exact r x om u
theorem rP.start {d:Array Value} (hb:aK w b d T) (q:d.size=c) (v:d.toList.take xs.length=xs.map λx=>str x) (y:xs.length<=c/\c<=maxLen) (m:i<xs.length) (t:p (bV xs i)=true) (n:∀j,j<i->p (bV xs j)=false):rP xs p b c T i (i+1) w:=by
 have hk:∀k,k<=i->(xs.take k).filter (λs=>!p s)=xs.take k:=λk hk=>by
  rw[List.filter_eq_self];intro s u;obtain⟨j,r,e⟩:=List.getElem_of_mem u;rw[List.length_take] at r;rw[List.getElem_take] at e;have f:=n j om;have o:bV xs j=s:=by unfold bV;rw[gG,gE om,<-e];rfl
  rw[o] at f;rw[f];rfl
 have e:(xs.take<|i+1).filter (λs=>!p s)=xs.take i:=by rw[Tz _ m,t,hk i (lR _)];simp
 have l:∀x,x<xs.length->d[x]?=some (str<|bV xs x):=λx a=>by
  have f:(d.toList.take xs.length)[x]?=some (str<|bV xs x):=by rw[v,List.getElem?_map,jW a];rfl
  rw[List.getElem?_take] at f;split at f
  .simpa using f
  .omega
 refine⟨⟨d,hb,q,λx s a=>?_,λx _ g=>l x g⟩,by rw[e,List.length_take];omega,om,m,y⟩;rw[e,List.getElem?_take] at a;split at a
 .have g:=(List.getElem?_eq_some_iff.1 a).1;rw[l x g];unfold bV;rw[gG,a];rfl
 .cases a
theorem rP.fin (h:rP xs p b c T i xs.length w) {e a:Array Value} (hb:aK w b e T) (q:aK w' b a T) (t:a.size=e.size) (f:∀x,x<i->a[x]?=e[x]?):cZ w' T (.slice (some ⟨b,0,none⟩) i c) (some b) (xs.filter λs=>!p s):=by
 obtain⟨⟨r,n,_,g,_⟩,j,_,_,o⟩:=h;have m:r=e:=by have:=n.symm.trans hb;cases this;rfl
 subst m;rw[List.take_length] at g j;subst j;refine⟨by simp,.inr ⟨b,c,a,rfl,rfl,q,om,o.2,om,?_⟩⟩;apply List.ext_getElem?;intro x;rw[List.getElem?_take,List.getElem?_map];split
 .next d=>
  rw[Nat.mul_one] at d;have l:(xs.filter λs=>!p s)[x]?=some (xs.filter λs=>!p s)[x]:=gE d;rw[l,Array.getElem?_toList,f x d,g x _ l];rfl
 .next d=>rw[Nat.mul_one] at d;rw[List.getElem?_eq_none om];rfl
theorem asY (ps:List cw) (h0:0<ps.length) (aO:ps.length<=40) (BI:kx ps<=100000) (bj:Ob ps) (v:Value) (w:World) (O:jf [] w v ps):
  bu Tryz.prog 56 [v] w λr w'=>(∃ms:List Bool,ms.length=ps.length/\(∀k,ms.getD k false=true↔uL ps k)/\r= .slice (some ⟨w.heap.size,0,none⟩) ps.length ps.length/\aK w' w.heap.size (ms.map Value.bool).toArray 4)/\aj [] w w':=by
 obtain⟨a,c,rfl⟩:=ua O;obtain⟨b0,qK,_,_,_,_,rfl,_,_,_⟩:=yj O<|pN (ps:=ps) h0;have m:=aj.refl [] w;refine cg [.tmp 2] 50 Tryz.func56 rfl ahu rfl rfl ?_;refine W ?_;refine art (u:=.bool false) ps.length LN vg rfl rfl rfl rfl rfl rfl om λw1 aI dw A=>?_;have m:=m.ext aI;refine W ?_;refine fM xZ pO rfl rfl λ_ aw gM _=>?_;have m:=m.ext aw;refine W ?_;have ayu:=A;refine et (λq:List Bool×Value×Nat×List Int=>[(0,.slice (some ⟨b0,qK,none⟩) ps.length c),(3,.slice (some ⟨w.heap.size,0,none⟩) ps.length ps.length),(4,q.2.1)]) (λq w'=>(yL ps w w' q.1 q.2.1 q.2.2.1 q.2.2.2/\uM ps q.1 q.2.2.2)/\DN q.1*(kx ps+1)+q.2.2.2.length<=ps.length*(kx ps+1)+1) (λq=>DN q.1*(kx ps+1)+q.2.2.2.length) ((List.replicate ps.length false,.slice (some ⟨w1.heap.size,0,none⟩) 1 1,w1.heap.size,[0])) (⟨rfl,rfl,rfl⟩) (⟨⟨⟨m,by rw[List.map_replicate];exact A.ext aw,Qu.one gM,sm,by rw[dw];exact Nat.lt_succ_self _,by intro z P;simp at P;subst P;omega⟩,uM.init ps ps.length⟩,by rw[arc];simp⟩) λS _ _ f=>?_;obtain⟨ms,qv,M,d⟩:=S;dsimp only at f⊢;obtain⟨⟨f,H⟩,K⟩:=f;have n:=f.que.form;obtain⟨_,cap,rfl⟩:=n;rw[List.length_map] at f⊢;have m:=f.kp;refine W ?_;refine zc rfl (λT=>?_) λT=>?_;have dH:d≠[]:=(by intro e;subst e;simp at T);have n:=List.exists_cons_of_ne_nil dH;obtain⟨z,d,rfl⟩:=n;have hzr:=f.rng z<|List.mem_cons_self ..;refine WI ?_;refine zi (i:=0) xZ pO rfl rfl sm<|zl IX rfl f.que.head<|zA<|aV<|zr<|zm<|arp xZ pO rfl rfl rfl rfl f.que λqv B=>?_;have f:=f.pop B;have n:∃g:Nat,g=z.toNat:=⟨_,rfl⟩;obtain⟨g,_⟩:=n;refine W ?_;apply oP 5 22 27 rfl oQ;intro h2;have E:z=(g:Int):=(by simp at h2;omega);subst E;refine WL ?_;refine zl Em rfl (f.out.at<|abC (by rw[f.len];omega)) ?_;exact oQ;intro _;refine aV<|zc rfl (λC=>?_) λC=>?_;refine WZ ?_;have H:=H.skip (λk hk=>by subst hk;have R:g=k:=om;subst R;have y:=C;simp at y;rcases y with y|y;(·omega);(·simpa using y));exact⟨(ms,qv,M,d),⟨rfl,rfl,rfl⟩,⟨⟨f,H⟩,by simp only[lC] at K;dsimp only;omega⟩,by simp only[lC];omega⟩;have E:z=(g:Int)/\ms.getD g false=false:=(by simp at C;exact⟨by omega,by simpa using C.2⟩);obtain⟨E,xN⟩:=E;subst E;have t:g<ps.length:=by omega
 have N:=uM.mark H (by rw[f.len];exact t) xN;refine WI ?_;refine zi LN vg rfl rfl t<|ia (o:=0+g*1) (v:=.bool true) vg rfl rfl rfl f.out (by rw[List.length_map,f.len];simpa[Nat.blt_eq] using t) λw4 aJ A _=>?_;have B:=B.aG aJ (by have:=f.ne;simp;omega);have X:=f.kp;have m:=X.since aJ λx Z=>.inr (by simp at Z;omega);have A:aK w4 w.heap.size ((ms.set g true).map Value.bool).toArray 4:=by rw[List.map_set];simpa using A
 refine WA ?_;refine lx rfl rfl rfl rfl rfl (show IntKind.i64.wrap ((g:Int)+1)=((g+1:Nat):Int) from wrap_i64 _ om om)<|abB (L:=[M]) (l:=g) (h:=g+1) x5 j3 rfl rfl rfl rfl rfl om om (jf.ext (cj.fresh O λx Z=>.inr (by have:=f.ne;simp at Z;omega)) m) λ_ aW=>?_;rw[take_one (show(ps.map cw.enc)[g]?=some (cw.enc<|dv ps g) from by rw[List.getElem?_map,pN t];rfl)] at aW;have gd:kx [dv ps g]<=kx ps:=by have C:=N9 t;have F:=Oa ps<|g+1;simp[kx] at C F⊢;omega
 have pd:=SV [dv ps g];have wu:d.length<=5000000:=by have:=Nat.mul_le_mul aO (show kx ps+1<=100001 by omega);simp only[lC] at K;omega
 refine aA (arn [dv ps g] sm om (λb hb=>by simp at hb;subst hb;exact bj _ (List.mem_of_getElem?<|pN t)) _ [M] w4 aW (by have:=B.lt;simpa using this)) ?_;rintro _ _ ⟨vD,aQ⟩;have kF:=aQ.size;refine cV aQ m A B λm A B=>?_;have p:=vD;have n:=er p;obtain⟨an,D,cn,R,_⟩:=n;subst R;refine W ?_;refine et (λq:Nat×Value×Nat×List Int=>[(0,.slice (some ⟨b0,qK,none⟩) ps.length c),(3,.slice (some ⟨w.heap.size,0,none⟩) ps.length ps.length),(4,q.2.1),(36,.slice an D cn),(37,.int .i64 (D:Int)),(38,.int .i64 (q.1:Int))]) (λq w'=>yL ps w w' (ms.set g true) q.2.1 q.2.2.1 q.2.2.2/\bo [q.2.2.1] w' (.slice an D cn) (kK [dv ps g])/\q.1<=D/\q.2.2.2.length=d.length+q.1/\Ga ps (ms.set g true) q.2.2.2 g q.1) (λq=>D-q.1) ((0,qv,M,d)) (⟨rfl,rfl,rfl,rfl,rfl,rfl⟩) (⟨⟨m,A,B,by rw[List.length_set];exact f.len,f.ne,λz P=>f.rng z<|mK _ P⟩,p,Nat.zero_le _,rfl,N⟩) λS w6 _ f=>?_;obtain⟨j,_,g2,J⟩:=S;dsimp only at f⊢;obtain⟨s,p,_,_,N⟩:=f;have n:=s.que.form;obtain⟨_,_,rfl⟩:=n;have m:=s.kp;refine W ?_;refine zc rfl (λF=>?_) λF=>?_;have pI:j<D:=(by simp at F;omega);have hg:=jW (xs:=kK [dv ps g]) (i:=j) om;have n:=pg p hg;obtain⟨_,_,rfl,_⟩:=n;refine WI ?_;refine zi bz bw rfl rfl pI<|W ?_;refine aA (N8 ps om (bV (kK [dv ps g]) j) _ [] w6 (jf.ext O m)) ?_;rintro _ _ ⟨rfl,cF⟩;have lU:=cF.size;refine bJ cF s p λs p=>?_;refine fM xZ pO rfl rfl λ_ cL Q _=>bJ cL s p λs p=>?_;refine arq xZ pO rfl rfl rfl rfl rfl rfl s.que Q rfl (by rw[List.length_map];omega) λqv3 g3 _ Y aD yX=>?_;have V:=s.push Y aD yX (by rcases aby ps (bV (kK [dv ps g]) j) with y|y;(·exact y);(·omega));have p:=aru p aD yX;refine W ?_;exact⟨(j+1,qv3,g3,J++[kM ps (bV (kK [dv ps g]) j)]),⟨rfl,rfl,rfl,rfl,rfl,rfl⟩,⟨V,p,by dsimp only;omega,by rw[lA];simp;omega,N.push (by rw[KO (by rw[f.len];exact t),iP rfl]) om⟩,by dsimp only;omega⟩;have U:=F;have I:=abx (ms:=ms) (k:=g) (by rw[gE (by rw[f.len];exact t)];rw[gG,gE (by rw[f.len];exact t)] at xN;simpa using xN);rw[<-I,Nat.add_mul] at K;simp only[lC] at K;refine WZ ?_;exact⟨(ms.set g true,_,g2,J),⟨rfl,rfl,rfl⟩,⟨⟨s,N.done (by simp at U;omega)⟩,by dsimp only;omega⟩,by dsimp only;rw[<-I,Nat.add_mul];simp only[lC];omega⟩;have hze:d=[]:=(by cases d with|nil=>rfl|cons z9 zs9=>simp at T);have qe:uM ps ms []:=hze▸H;refine W ?_;exact⟨_,rfl,⟨ms,f.len,qe.fin,rfl,f.out⟩,f.kp⟩
theorem acp (bs:List Bk) (hb:mE bs) (t:iU bs=true) (v:Value) (H L:List Nat) (w:World) (hv:kh H w v bs) (hL:∀x∈L,x<w.heap.size):
  bu Tryz.prog 26 [v] w λr w'=>(∃T a,r= .tuple #[T,.bool true]/\RM bs a/\kh L w' T (mW a bs bs.length))/\aj [] w w':=by
 have c:=aj.refl [] w;have j:gP bs=true:=by unfold iU at t;exact(aE _ _▸t).1
 have u:=(Ck j).2;have R:1<=bs.length/\bs.length<=40:=by unfold gP at j;simp only[aE,dE] at j;exact j.2.1.1
 have U:=Oo u;rw[List.length_map] at U;refine cg [.tmp 2,.tmp 3] 35 Tryz.func26 rfl ag5 rfl rfl ?_;refine W ?_;refine aA (F6 bs hb _ H [] w hv sm) ?_;rintro _ S ⟨fl,I⟩;have cz:=I.size;have c:=c.ext I;obtain⟨ps,pv,rfl,f,oW⟩:=fl;have aO:=oW t;subst aO;refine W ?_;refine ac7 (congrArg Value.bool (by rw[t];rfl))<|W ?_;refine aA (asY (bs.map dz) (by rw[List.length_map];omega) (by rw[List.length_map];omega) om (ace u) _ S f) ?_;rintro _ D ⟨gz,N⟩;have di:=N.size;refine bJ N c f λc f=>?_;obtain⟨a,wy,B,e9,X⟩:=gz;subst e9;rw[List.length_map] at wy⊢;have d:=aj.refl [] D;have m:=ua f;obtain⟨_,pc,e8⟩:=m;subst e8;have m:=yj f<|pN (ps:=bs.map dz) (i:=0) (by rw[List.length_map];omega);obtain⟨pb,o,_,_,_,_,e7,_,_,_⟩:=m;subst e7;refine W ?_;refine et (λq:Nat×Option Addr×Nat×Option Nat=>[(4,.slice (some ⟨pb,o,none⟩) (bs.map dz).length pc),(6,.slice q.2.1 (o9 a (bs.map dz) q.1).length q.2.2.1),(17,.slice (some ⟨S.heap.size,0,none⟩) bs.length bs.length),(18,.int .i64 (bs.length:Int)),(19,.int .i64 (q.1:Int))]) (λq w'=>aj [] w w'/\aj [] D w'/\Gr D.heap.size L w' 39 3 (.slice q.2.1 (o9 a (bs.map dz) q.1).length q.2.2.1) q.2.2.2 ((o9 a (bs.map dz) q.1).map Bk.enc)/\q.1<=bs.length) (λq=>bs.length-q.1) ((0,none,0,none)) (⟨rfl,rfl,rfl,rfl,rfl⟩) (⟨c,d,Gr.nil (λx hx=>lL (hL x hx) c.size)<|lR _,sm⟩) λgg w3 _ P=>?_;obtain⟨i,y,z,g⟩:=gg;dsimp only at P⊢;obtain⟨c,d,e,hk⟩:=P;have od:=abz a (bs.map dz) i;refine W ?_;refine zc rfl (λh2=>?_) λh2=>?_;have Q:i<bs.length:=by omega
 have E:(bs.map dz)[i]?=some (dv (bs.map dz) i):=pN (by rw[List.length_map];exact Q);have V:=List.mem_of_getElem? E;refine WI ?_;refine zi LN vg rfl rfl Q<|zl Em rfl ((X.ext d).at<|abC om)<|zA<|zA<|aV<|zr<|zm<|aV<|zc rfl (λs=>?_) λs=>?_;have C:a.getD i false=true:=s;refine WA ?_;refine lx rfl rfl rfl rfl rfl (show IntKind.i64.wrap ((i:Int)+1)=((i+1:Nat):Int) from wrap_i64 _ om om)<|abB (L:=[]) (l:=i) (h:=i+1) x5 j3 rfl rfl rfl rfl rfl om (by rw[List.length_map];omega) (jf.ext f d) λ_ M=>?_;rw[take_one (show((bs.map dz).map cw.enc)[i]?=some (cw.enc<|dv (bs.map dz) i) from by rw[List.getElem?_map,E];rfl)] at M;refine aA (abJ [dv (bs.map dz) i] sm (λb hb=>by rw[List.mem_singleton.1 hb];exact(u _ V).Tw) _ (g.toList++L) [] w3 M e.all) ?_;rintro _ _ ⟨kG,J⟩;have fy:=J.size;refine cV J c d e λc d e=>?_;have F:=kG;have m:=uS F;obtain⟨_,_,_,e6,_⟩:=m;subst e6;have p:o9 a (bs.map dz) (i+1)=o9 a (bs.map dz) i++[o8 (dv (bs.map dz) i)]:=by rw[o9,iP C]
 refine wV jb fR rfl rfl rfl rfl rfl rfl e F (acf _) so λZ fX g4 _ A K=>?_;have gA:=c;have c:=aj.IF (by have:=d.size;omega) e.low c K;have d:=e.since d K;have e1:(o9 a (bs.map dz) i).map Bk.enc++([dv (bs.map dz) i].map o8).map Bk.enc=(o9 a (bs.map dz)<|i+1).map Bk.enc:=by rw[p,List.map_append];rfl
 have e2:((o9 a (bs.map dz) i).map Bk.enc).length+(([dv (bs.map dz) i].map o8).map Bk.enc).length=(o9 a (bs.map dz)<|i+1).length:=by rw[p];simp
 rw[e1] at A;rw[e2] at A⊢;refine W ?_;exact⟨(i+1,Z,fX,g4),⟨rfl,rfl,rfl,rfl,rfl⟩,⟨c,d,A,by dsimp only;omega⟩,by dsimp only;omega⟩;have p:o9 a (bs.map dz) (i+1)=o9 a (bs.map dz) i:=by rw[o9,iN (by intro hh;rw[hh] at s;cases s)];simp
 refine W ?_;refine⟨(i+1,y,z,g),⟨rfl,congrArg (λn=>Value.slice y n z)<|congrArg List.length p.symm,rfl,rfl,rfl⟩,⟨c,d,?_,by dsimp only;omega⟩,by dsimp only;omega⟩
 (show Gr _ _ _ _ _ (.slice y (o9 a (bs.map dz)<|i+1).length z) _ ((o9 a (bs.map dz)<|i+1).map Bk.enc))
 rw[p];exact e;have Y:i=bs.length:=by omega
 subst Y;refine W ?_;exact⟨_,rfl,⟨_,a,rfl,B,by have O:=e.uT;rw[Tx j a _ (lR _)] at O;rw[Tx j a _ (lR _)];exact O⟩,c⟩
theorem as9 (xs:List ak) (t:xs.length<1000000000) (p:ak->Bool) (f:FuncId) (d:List Value) (v:Value) (L:List Nat) (w:World) (u:bo L w v xs) 
  (D:∀i,i<xs.length->∀w',aj [] w w'->bu Tryz.prog f (str (bV xs i)::d) w' λr o=>r= .bool (p<|bV xs i)/\aj [] w' o):
  bu Tryz.prog 69 [v,.func (.func f) #[] d.toArray] w λr w'=>(∃z:Int,r= .int .i64 z/\(z= -1/\(∀i,i<xs.length->p (bV xs i)=false)\/∃i:Nat,z=(i:Int)/\i<xs.length/\p (bV xs i)=true/\∀j,j<i->p (bV xs j)=false))/\aj [] w w':=by
 obtain⟨a,n,c,rfl,F⟩:=er u;subst F;have e:=aj.refl [] w;refine cg [.tmp 4] 19 Tryz.func69 rfl ahH rfl rfl ?_;refine W ?_;refine et (λk:Nat=>[(0,.slice a xs.length c),(1,.func (.func f) #[] d.toArray),(7,.int .i64 (xs.length:Int)),(8,.int .i64 (k:Int))]) (λk w'=>aj [] w w'/\k<=xs.length/\∀i,i<k->p (bV xs i)=false) (λk=>xs.length-k) (0) (⟨rfl,rfl,rfl,rfl⟩) (⟨e,om,by intro i s;omega⟩) λg I _ B=>?_;obtain⟨e,hk,l⟩:=B;refine W ?_;refine zc rfl (λA=>?_) λA=>?_;have E:=jW (xs:=xs) (i:=g) om;have y:=pg u E;obtain⟨b,_,rfl,C⟩:=y;refine WL ?_;refine zl gH rfl (C.ext e 0 _ rfl)<|IE rfl rfl rfl (D g om I e) ?_;rintro _ _ ⟨rfl,q⟩;have J:=q.size;have e:=e.ext q;refine aV<|zc rfl (λm=>?_) λm=>?_;have H:=m;refine W ?_;exact⟨_,rfl,⟨_,rfl,.inr ⟨g,rfl,om,H,l⟩⟩,e⟩;refine W ?_;exact⟨g+1,⟨rfl,rfl,rfl,rfl⟩,⟨e,om,by intro i s;rcases Nat.lt_or_ge i g with h|h;exact l i h;rw[show i=g by omega];exact m⟩,om⟩;refine W ?_;exact⟨_,rfl,⟨-1,rfl,.inl ⟨rfl,λi s=>l i om⟩⟩,e⟩
theorem ata (d:List ak) (A:d.length<1000000000) (p:ak->Bool) (f:FuncId) (m:List Value) (v:Value) (u:Option Nat) (w:World) (o:cZ w 9 v u d) 
  (S:∀i,i<d.length->∀w',aj u.toList w w'->bu Tryz.prog f (str (bV d i)::m) w' λr P=>r= .bool (p<|bV d i)/\aj [] w' P):
  bu Tryz.prog 35 [v,.func (.func f) #[] m.toArray] w λr w'=>cZ w' 9 r u (d.filter λs=>!p s)/\aj u.toList w w':=by
 have bP:=o;obtain⟨a,c,rfl⟩:=jL o;have l:=aj.refl u.toList w;refine cg [.tmp 4] 42 Tryz.func35 rfl ahd rfl rfl ?_;refine W ?_;refine aA (as9 d A p f m _ [] w o.rs λi E w' k=>S i E w'<|k.mono sm) ?_;rintro _ _ ⟨⟨z,e9,T⟩,V⟩;subst e9;refine bJ V o l λo l=>?_;refine W ?_;refine zc rfl (λn=>?_) λn=>?_;have Q:z= -1:=(by simpa using n);have Y:d.filter (λs=>!p s)=d:=List.filter_eq_self.2 (λs hs=>by obtain⟨i,E,e⟩:=List.getElem_of_mem hs;rcases T with⟨_,n⟩|⟨i9,n,_⟩;(·have D:=n i E;have y:bV d i=s:=(by unfold bV;rw[gG,gE E,<-e];rfl);rw[y] at D;rw[D];rfl);(·omega));refine W ?_;exact⟨_,rfl,by rw[Y];exact o,l⟩;have Q:z≠ -1:=(by simpa using n);have O:∃i:Nat,z=(i:Int)/\i<d.length/\p (bV d i)=true/\∀j,j<i->p (bV d j)=false:=(by rcases T with⟨n,_⟩|n;(·exact absurd n Q);(·exact n));obtain⟨H,K,M,nH,L⟩:=O;subst K;have dO:=o.2;rcases dO with⟨e8,yi,_⟩|⟨b,cap,cur,nG,e8,gD,nV,mY,cu,nB⟩
 (·omega)
 cases e8;subst nG;have g:=rP.start gD om (by rw[Nat.mul_one] at nB;exact nB) ⟨nV,mY⟩ M nH L;refine WA ?_;refine lx rfl rfl rfl rfl rfl (show IntKind.i64.wrap ((H:Int)+1)=((H+1:Nat):Int) from wrap_i64 _ om om)<|zA<|aV<|uO<|et (λq:Nat×Nat=>[(0,.slice (some ⟨b,0,none⟩) d.length c),(1,.func (.func f) #[] m.toArray),(5,.int .i64 (q.1:Int)),(6,.int .i64 (q.2:Int))]) (λq w'=>aj [b] w w'/\rP d p b c 9 q.1 q.2 w') (λq=>d.length-q.2) ((H,H+1)) (⟨rfl,rfl,rfl,rfl⟩) (⟨l,g⟩) λgg w2 _ R=>?_;obtain⟨i,j⟩:=gg;dsimp only at R⊢;obtain⟨l,g⟩:=R;have pI:=g.le;have ni:=g.lt;refine W ?_;refine zc rfl (λD=>?_) λD=>?_;have F:j<d.length:=by omega
 refine WL ?_;refine zl gH rfl (g.at F)<|zA<|aV<|zr<|zm<|zm<|IE rfl rfl rfl (S j F w2 l) ?_;rintro _ w3 ⟨rfl,B⟩;have eP:=B.size;refine bJ B l g λl g=>?_;refine kz rfl rfl rfl<|aV<|zc rfl (λy=>?_) λy=>?_;have I:p (bV d j)=false:=(by simpa using y);have J:=g.ne;obtain⟨Z,t,pC,_,_⟩:=J;have U:=g.cap;refine W ?_;refine K7 bw rfl rfl rfl rfl rfl t om λ_ X C ld=>?_;have l:=l.trans X;have g:=g.put F I t (by rw[show 0+i*1=i by omega] at C;exact C);refine aV<|lv<|zm<|lx rfl rfl rfl rfl rfl (show IntKind.i64.wrap ((i:Int)+1)=((i+1:Nat):Int) from wrap_i64 _ om om)<|zA<|aV<|lv<|zm<|lx rfl rfl rfl rfl rfl (show IntKind.i64.wrap ((j:Int)+1)=((j+1:Nat):Int) from wrap_i64 _ om om)<|zA<|aV ?_;exact⟨(i+1,j+1),⟨rfl,rfl,rfl,rfl⟩,⟨l,g⟩,by dsimp only;omega⟩;have I:p (bV d j)=true:=(by simpa using y);have g:=g.skip F I;refine iF<|lv<|zm<|lx rfl rfl rfl rfl rfl (show IntKind.i64.wrap ((j:Int)+1)=((j+1:Nat):Int) from wrap_i64 _ om om)<|zA<|aV ?_;exact⟨(i,j+1),⟨rfl,rfl,rfl,rfl⟩,⟨l,g⟩,by dsimp only;omega⟩;have N:j=d.length:=om;subst N;have J:=g.ne;obtain⟨Z,t,pC,_,_⟩:=J;have U:=g.cap;refine W ?_;refine asU bz bw rfl rfl rfl rfl om om<|asT bz bw rfl rfl rfl rfl rfl t om om λw3 _ B C yu qG ld=>?_;have l:=l.trans B;have hO:=g.fin t C yu λx _=>qG x om;refine W ?_;refine asV bz bw rfl rfl rfl rfl om<|zA<|aV<|kW ?_;exact⟨_,rfl,hO,l⟩
theorem atg (d:List cw) (b:d.length<1000000000) (l:ak) (g:Nat) (pv:Value) (L:List Nat) (w:World) (i:jf L w pv d) (j:aK w g [pv].toArray 50):
  bu Tryz.prog 36 [str l,.pointer (some ⟨g,0,none⟩)] w λr w'=>r= .bool (decide<|kM d l≥0)/\aj [] w w':=by
 obtain⟨a,c,rfl⟩:=ua i;have e:=aj.refl [] w;refine cg [.tmp 3] 8 Tryz.func36 rfl ahe rfl rfl ?_;refine W ?_;refine aA (N8 d b l _ L w i) ?_;rintro _ _ ⟨rfl,f⟩;have m:=f.size;have e:=e.ext f;refine W ?_;exact⟨_,rfl,rfl,e⟩
theorem acq {b:Bk} (h:mo b=true):b.cQ.length<=40/\b.code.length<=80:=by have a:=(PN h).regs;have c:=(PN h).code;rw[show(dz b).regs=b.cQ.map tr from rfl,List.length_map] at a;rw[show(dz b).code=b.code.map tr from rfl,List.length_map] at c;exact⟨a,c⟩

theorem ath:∀(m:Nat) (t:aq),t.size<=m->t.size<=1000000000->∀(v:Value) (L:List Nat) (w:World),bg L w v t->
  bu Tryz.prog 74 [v] w λr w'=>r= .int .i64 (t.depth:Int)/\aj [] w w':=by
 intro m;induction m with
 |zero=>intro t h;have:=sQ t;omega
 |succ m M=>
  intro t _ _ v L w p;have B:=p;obtain⟨a,n,c,rfl,J,y⟩:=db p;subst J;have T:=oF t;have b:=aj.refl [] w;have q:=λk=>afg (t:=t) (k:=k);refine cg [.tmp 2] 22 Tryz.func74 rfl ahM rfl rfl ?_;refine zr<|eJ rfl λN s g _=>?_;have b:=b.ext s;refine W ?_;refine aA (F3 t _ L N<|B.ext b) ?_;rintro _ _ ⟨rfl,j⟩;have P:=j.size;refine bJ j b g λb g=>?_;refine aV<|zc rfl (λe=>?_) λe=>?_;have f:=afd e;refine W ?_;exact⟨_,rfl,by rw[f];rfl,b⟩;have f:=afe e;refine W ?_;refine et (λk:Nat=>[(3,.int .i64 (maxD (t.ag.take k):Int)),(9,.slice a t.ag.length c),(10,.int .i64 (t.ag.length:Int)),(11,.int .i64 (k:Int))]) (λk w'=>aj [] w w'/\k<=t.ag.length) (λk=>t.ag.length-k) (0) (⟨rfl,rfl,rfl,rfl⟩) (⟨b,om⟩) λd _ _ I=>?_;obtain⟨b,hk⟩:=I;have Q:=b.size;have U:=q d;refine W ?_;refine zc rfl (λH=>?_) λH=>?_;have D:=eK (ps:=t.ag) (i:=d) om;obtain⟨_,_,_,_,_,rfl,K,C,E⟩:=iB y D;subst C;have S:=kZ (t:=t) (i:=d) om;have A:=afc (ps:=t.ag) (k:=d) om;refine WL ?_;refine zL jh bZ rfl (K.ext b) rfl<|dy bZ rfl rfl rfl λ_ u o _=>?_;have b:=b.grow;have b:=b.ext u;refine cN bZ rfl rfl rfl o rfl λO z o _=>?_;have b:=b.aB z sx;refine W ?_;refine aA (M (nth t.ag d) om om _ L O<|(kA E).ext b) ?_;rintro _ _ ⟨rfl,l⟩;have R:=l.size;have b:=b.ext l;refine UF rfl rfl rfl rfl (show(if((maxD (t.ag.take d):Nat):Int)<((nth t.ag d).depth:Int) then((nth t.ag d).depth:Int) else((maxD (t.ag.take d):Nat):Int))=((maxD (t.ag.take<|d+1):Nat):Int) from by rw[A];split<;>omega)<|W ?_;exact⟨d+1,⟨rfl,rfl,rfl,rfl⟩,⟨b,om⟩,om⟩;have F:d=t.ag.length:=by omega
  subst F;refine W ?_;exact⟨_,rfl,by rw[f];rfl,b⟩
theorem ati:∀(m:Nat) (t:aq),t.size<=m->t.size<=1000000000->t.len<=1000000000->∀(v:Value) (L:List Nat) (w:World),bg L w v t->
  bu Tryz.prog 75 [v] w λr w'=>r= .int .i64 (t.len:Int)/\aj [] w w':=by
 intro m;induction m with
 |zero=>intro t h;have:=sQ t;omega
 |succ m K=>
  intro t _ _ _ v L w q;have A:=q;obtain⟨a,n,c,rfl,I,y⟩:=db q;subst I;have U:=oF t;have b:=aj.refl [] w;refine cg [.tmp 2] 25 Tryz.func75 rfl ahN rfl rfl ?_;refine zr<|eJ rfl λM s j _=>?_;have b:=b.ext s;refine W ?_;refine aA (F3 t _ L M<|A.ext b) ?_;rintro _ _ ⟨rfl,l⟩;have P:=l.size;refine bJ l b j λb j=>?_;refine aV<|zc rfl (λe=>?_) λe=>?_;have f:=afi e;refine W ?_;exact⟨_,rfl,by rw[f];rfl,b⟩;have f:=VJ e;have g:=λk=>afj (k:=k) e;refine W ?_;refine et (λk:Nat=>[(3,.int .i64 ((1+aq.len.lens (t.ag.take k):Nat):Int)),(12,.slice a t.ag.length c),(13,.int .i64 (t.ag.length:Int)),(14,.int .i64 (k:Int))]) (λk w'=>aj [] w w'/\k<=t.ag.length) (λk=>t.ag.length-k) (0) (⟨rfl,rfl,rfl,rfl⟩) (⟨b,om⟩) λd _ _ H=>?_;obtain⟨b,hk⟩:=H;have Q:=b.size;refine W ?_;refine zc rfl (λF=>?_) λF=>?_;have C:=eK (ps:=t.ag) (i:=d) om;obtain⟨_,_,_,_,_,rfl,J,B,D⟩:=iB y C;subst B;have T:=kZ (t:=t) (i:=d) om;have O:=afh (ps:=t.ag) (k:=d) om;have R:=g<|d+1;refine WL ?_;refine zL jh bZ rfl (J.ext b) rfl<|dy bZ rfl rfl rfl λ_ u p _=>?_;have b:=b.grow;have b:=b.ext u;refine cN bZ rfl rfl rfl p rfl λN z p _=>?_;have b:=b.aB z sx;refine W ?_;refine aA (K (nth t.ag d) om om om _ L N<|(kA D).ext b) ?_;rintro _ _ ⟨rfl,o⟩;have S:=o.size;have b:=b.ext o;refine W ?_;exact⟨d+1,⟨congrArg (Value.int .i64) om,rfl,rfl,rfl⟩,⟨b,om⟩,om⟩;have E:d=t.ag.length:=by omega
  subst E;refine W ?_;exact⟨_,rfl,by rw[f];rfl,b⟩
theorem atj (t:aq) (j:t.size<=1000000000) (o:t.len<=1000000000) (v:Value) (L:List Nat) (w:World) (i:bg L w v t):
  bu Tryz.prog 40 [v] w λr w'=>r= .bool (sS t)/\aj [] w w':=by
 have d:=i;obtain⟨a,n,c,rfl,_,_⟩:=db i;have b:=aj.refl [] w;refine cg [.tmp 2] 11 Tryz.func40 rfl ahg rfl rfl ?_;refine zr<|eJ rfl λp m f _=>bJ m b d λb d=>?_;refine W ?_;refine aA (ath t.size t (lR _) j _ L p d) ?_;rintro _ l ⟨rfl,g⟩;have s:=g.size;refine cV g b d f λb d f=>?_;refine WZ ?_;apply oA 4 6 10 (aj [] l) rfl oQ;intro _;refine W ?_;refine aA (ati t.size t (lR _) j o _ L l d) ?_;rintro _ q ⟨rfl,e⟩;have u:=e.size;exact oQ;intro _ q e;have b:=b.ext e;refine W ?_;exact⟨_,rfl,congrArg Value.bool (by unfold sS;rw[show decide ((t.depth:Int)<=60)=decide (t.depth<=60) from decide_eq_decide.2 om,show decide ((t.len:Int)<=12000)=decide (t.len<=12000) from decide_eq_decide.2 om]),b⟩
theorem TO (s:ak) (w:World):bu Tryz.prog 73 [str s] w λr w'=>r= .agg #[str s,.slice none 0 0]/\aj [] w w':=by have a:=aj.refl [] w;refine ly [.cell 2 61] 5 Tryz.func73 rfl ahL rfl rfl rfl ?_;refine zr<|dy bZ rfl rfl rfl λ_ c b _=>?_;have a:=a.grow;have a:=a.ext c;refine aV<|zr<|zm<|jF (VW _ _) rfl rfl<|cN bZ rfl rfl rfl b rfl λ_ d b _=>?_;have a:=a.aB d sx;refine W ?_;exact⟨[_],gB jh bZ rfl b rfl,rfl,a⟩
def KP (B:Nat) (L:List Nat) (h:ak) (b:List aq) (v:Value) (w:World):Prop:=∃a c g,v= .agg #[str [],.slice a (bK h::b).length c]/\Gr B L w 61 2 (.slice a (bK h::b).length c) g (du (bK h::b))
theorem KP.av {h:ak} {b:List aq} (e:KP B L h b v w):bg L w v (mF h b):=by obtain⟨a,c,g,rfl,d⟩:=e;exact jV d.trees
theorem acr (h:ak) (g:List aq) (H:g.length<=1000000) (v:Value) (L:List Nat) (w:World) (f:da L w v g) (q:∀x∈L,x<w.heap.size):
  bu Tryz.prog 72 [str h,v] w λr w'=>KP w.heap.size L h g r w'/\aj [] w w':=by
 obtain⟨a,c,rfl⟩:=zy f;have b:=aj.refl [] w;refine ly [.cell 4 61] 11 Tryz.func72 rfl ahK rfl rfl rfl ?_;refine zr<|dy bZ rfl rfl rfl λA n e _=>?_;have b:=b.grow;have b:=b.ext n;have f:=f.grow;have f:=f.ext n;refine aV<|zr<|zm<|aA (TO h A) ?_;rintro _ C ⟨rfl,j⟩;have E:=j.size;refine cV j b f e λb f e=>?_;have l:=cj.fresh f<|uR (w:=C);refine fM iH bZ rfl rfl λ_ t u _=>cV t b e l λb e l=>?_;refine WZ ?_;have I:=j.size;have F:=b.size;have D:=e.lt;have m:=ajK (B:=w.heap.size) (L:=w.heap.size::L) (sz:=2) (N:=1) (rows:=du [bK h]) u ⟨.val _,.nil _ _ _,trivial⟩ (Uz _) rfl om om (by intro d;simp at d;rcases d with d|d;omega;have:=q _ d;omega) (by intro x d;simp at d;rcases d with rfl|d;omega;have:=q x d;omega);refine wV iH bZ rfl rfl rfl rfl rfl rfl m (cj.weaken l sm) ajL (by rw[iG,iG];simp;omega) λs y z _ i o=>?_;have e:=e.aB o<|m.As sm;have b:=m.since b o;rw[show(du [bK h]).length+(du g).length=(bK h::g).length from by simp[iG,Nat.add_comm]] at i⊢;rw[show du [bK h]++du g=du (bK h::g) from by simp[du]] at i;refine jF (aie _ _ _ _) rfl rfl<|cN bZ rfl rfl rfl e rfl λ_ p e _=>?_;have b:=b.aB p sx;have i:=i.aB p sx;refine W ?_;exact⟨[_],gB jh bZ rfl e rfl,⟨s,y,z,rfl,i.dY (L':=L) λx d=>by simp[d]⟩,b⟩
mutual
def bF:aq->aq->Bool
 | .mk a ps,.mk b c=>decide (a=b)&&uN ps c
def uN:List aq->List aq->Bool
 |[],[]=>true
 |p::ps,q::qs=>bF p q&&uN ps qs
 |[],_::_=>false
 |_::_,[]=>false
end
mutual
theorem Gb:∀x y:aq,bF x y=true↔x=y
 | .mk a ps,.mk b c=>by rw[bF,aE,dE,KQ ps c,aq.mk.injEq]
theorem KQ:∀ps a:List aq,uN ps a=true↔ps=a
 |[],[]=>by simp[uN]
 |p::ps,q::a=>by rw[uN,aE,Gb p q,KQ ps a,List.cons.injEq]
 |[],_::_=>by simp[uN]
 |_::_,[]=>by simp[uN]
end
theorem atk (x y:aq):bF x y=(decide (x.au=y.au)&&uN x.ag y.ag):=by cases x;cases y;rw[bF];rfl
theorem atl {ps qs:List aq} (h:ps.length≠qs.length):uN ps qs=false:=by
 cases a:uN ps qs with
 |false=>rfl
 |true=>rw[(KQ ps qs).1 a] at h;exact absurd rfl h
theorem atm {ps qs:List aq} (b:i<ps.length) (c:ps.length=qs.length) (h:bF (nth ps i) (nth qs i)=false):uN ps qs=false:=by
 cases a:uN ps qs with
 |false=>rfl
 |true=>rw[(KQ ps qs).1 a,(Gb _ _).2 rfl] at h;cases h
theorem atn {a b:List aq} (e:a.length=b.length) (h:∀i,i<a.length->bF (nth a i) (nth b i)=true):uN a b=true:=
 (KQ a b).2 (List.ext_getElem e λi c d=>by have:=(Gb _ _).1<|h i c;rwa [xU c,xU d] at this)
theorem ato (ps qs:List aq) (B:ps.length<1000000000) (f:FuncId) (E F:Value) (o p:List Nat) (w:World) (y:da o w E ps) (z:da p w F qs) 
  (O:∀i,i<ps.length->i<qs.length->∀(C D:Value) (w':World),aj [] w w'->bg o w' C (nth ps i)->bg p w' D (nth qs i)->bu Tryz.prog f [C,D] w' λr n=>r= .bool (bF (nth ps i)<|nth qs i)/\aj [] w' n):
  bu Tryz.prog 182 [E,F,.func (.func f) #[] #[]] w λr w'=>r= .bool (uN ps qs)/\aj [] w w':=by
 obtain⟨H,c1,rfl⟩:=zy y;obtain⟨I,c2,rfl⟩:=zy z;have a:=aj.refl [] w;refine cg [.tmp 6] 32 Tryz.func182 rfl agC rfl rfl ?_;refine W ?_;refine zc rfl (λK=>?_) λK=>?_;have g:=atl (ps:=ps) (qs:=qs) om;refine W ?_;exact⟨_,rfl,by rw[g];rfl,a⟩;have e:ps.length=qs.length:=by omega
 refine W ?_;refine et (λk:Nat=>[(1,.slice I qs.length c2),(2,.func (.func f) #[] #[]),(15,.slice H ps.length c1),(16,.int .i64 (ps.length:Int)),(17,.int .i64 (k:Int))]) (λk w'=>aj [] w w'/\k<=ps.length/\∀i,i<k->bF (nth ps i) (nth qs i)=true) (λk=>ps.length-k) (0) (⟨rfl,rfl,rfl,rfl,rfl⟩) (⟨a,om,by intro i A;omega⟩) λc V _ M=>?_;obtain⟨a,hk,u⟩:=M;have Z:=a.size;refine W ?_;refine zc rfl (λL=>?_) λL=>?_;have S:=eK (ps:=ps) (i:=c) om;have P:=eK (ps:=qs) (i:=c) om;obtain⟨_,_,_,_,_,rfl,_,_,Q⟩:=iB (y.ext a) S;obtain⟨_,_,_,_,_,rfl,J,_,R⟩:=iB (z.ext a) P;have T:=kA Q;have U:=kA R;have N:=a;have b:=aj.refl [] V;refine W ?_;refine dy bZ rfl rfl rfl λ_ s d _=>?_;have a:=a.grow;have a:=a.ext s;have b:=b.grow;have b:=b.ext s;refine zA<|cN bZ rfl rfl rfl d rfl λ_ q d _=>?_;have a:=a.aB q sx;have b:=b.aB q sx;refine WL ?_;refine zL jh bZ rfl (J.ext b) rfl<|dy bZ rfl rfl rfl λ_ j v _=>?_;have a:=a.grow;have a:=a.ext j;have b:=b.grow;have b:=b.ext j;have d:=d.grow;have d:=d.ext j;refine cN bZ rfl rfl rfl v rfl λX l v _=>?_;have a:=a.aB l sx;have b:=b.aB l sx;have d:=d.aB l sx;refine W ?_;refine IE rfl rfl rfl (O c om om _ _ X a (bg.ext T b)<|bg.ext U b) ?_;rintro _ _ ⟨rfl,t⟩;have jM:=t.size;have a:=a.ext t;refine kz rfl rfl rfl<|aV<|zc rfl (λm=>?_) λm=>?_;have g:=atm (ps:=ps) (qs:=qs) (i:=c) om e (by simpa using m);refine W ?_;exact⟨_,rfl,by rw[g];rfl,a⟩;have Y:bF (nth ps c) (nth qs c)=true:=by simpa using m
 refine W ?_;exact⟨c+1,⟨rfl,rfl,rfl,rfl,rfl⟩,⟨a,om,by intro i A;rcases Nat.lt_or_ge i c with h|h;exact u i h;rw[show i=c by omega];exact Y⟩,om⟩;have g:=atn e λi A=>u i om;refine W ?_;exact⟨_,rfl,by rw[g];rfl,a⟩
theorem KR:∀(m:Nat) (x:aq),x.size<=m->x.size<=1000000000->∀(y:aq) (f g:Value) (b c:List Nat) (w:World),bg b w f x->bg c w g y->
  bu Tryz.prog 145 [f,g] w λr w'=>r= .bool (bF x y)/\aj [] w w':=by
 intro m;induction m with
 |zero=>intro x h;have:=sQ x;omega
 |succ m v=>intro x _ _ y f g b c w s u;obtain⟨_,_,c1,rfl,_,e⟩:=db s;obtain⟨_,_,c2,rfl,_,o⟩:=db u;have F:=oF x;have a:=aj.refl [] w;refine cg [.tmp 4] 17 Tryz.func145 rfl af4 rfl rfl ?_;refine zr<|eJ rfl λ_ p j _=>?_;have a:=a.ext p;refine eJ rfl λn q _ _=>bJ q a j λa j=>?_;refine W ?_;apply oA 6 10 16 (aj [] n) rfl oQ;intro _;refine W ?_;refine aA (ato x.ag y.ag om 145 _ _ b c n (e.ext a) (o.ext a) λi l _ B C w' _ z A=>v (nth x.ag i) (by have:=kZ (t:=x) (i:=i) l;omega) (by have:=kZ (t:=x) (i:=i) l;omega) _ B C b c w' z A) ?_;rintro _ D ⟨rfl,d⟩;have E:=d.size;exact oQ;intro _ D d;have a:=a.ext d;refine W ?_;exact⟨_,rfl,congrArg Value.bool (atk x y).symm,a⟩
theorem TP (y t:aq):dW y t=if t.au=[118] then y else if t.au≠[]\/Au t.ag=[101] then t else .mk [] (t.ag.map<|dW y):=by
 cases t with
 |mk a ps=>rw[dW,LG];rfl
theorem atq {y:aq} (h:(decide (t.ag.length=0)&&decide (t.au=[118]))=true):dW y t=y:=by rw[aE,dE,dE] at h;rw[TP,iP h.2]
theorem atr {y:aq} (c:WF t) (d:(decide (t.ag.length=0)&&decide (t.au=[118]))=false) (h:(decide (t.ag.length=0)||decide (bC t=[101]))=true):dW y t=t:=by
 rw[oE,dE,dE] at h;rw[TP];cases c with
 |au a e=>
  have b:¬a=[118]:=by intro b;subst b;simp[aq.ag,aq.au] at d
  rw[iN<|show¬(aq.mk a []).au=[118] from b,iP (.inl e)]
 |list ps f _=>
  rw[iN (by intro h;cases h)];rcases h with h|h
  .exact absurd (List.length_eq_zero_iff.1 h) f
  .rw[Pl] at h;rw[iP (.inr h)]
theorem att {y:aq} (c:WF t) (h:(decide (t.ag.length=0)||decide (bC t=[101]))=false):dW y t= .mk [] (t.ag.map<|dW y):=by
 rw[Bool.or_eq_false_iff,decide_eq_false_iff_not,decide_eq_false_iff_not] at h;rw[TP];cases c with
 |au a _=>exact absurd rfl h.1
 |list ps _ _=>rw[iN (by intro h;cases h),iN (by rintro(b|b);(·exact b rfl);(·rw[Pl] at h;exact h.2 b))]
theorem acu (y:aq):∀(m:Nat) (t:aq),t.size<=m->t.size<=10000000->WF t->∀(v vy:Value) (L:List Nat) (w:World),bg L w v t->bg L w vy y->(∀x∈L,x<w.heap.size)->
  bu Tryz.prog 146 [v,vy] w λr w'=>bg L w' r (dW y t)/\aj [] w w':=by
 intro m;induction m with
 |zero=>intro t h;have:=sQ t;omega
 |succ m ih=>
  intro t _ _ Z v vy L w hv hy hL;have o:=hv;have z:=hy;have KT:=hy;obtain⟨a,n,c,rfl,hn,aO⟩:=db hv;obtain⟨ya,yn,yc,rfl,_,_⟩:=db hy;subst hn;have od:=oF t;have d:=aj.refl [] w;refine ly [.cell 4 61] 43 Tryz.func146 rfl af5 rfl rfl rfl ?_;refine zr<|eJ rfl λw1 aI u _=>cV aI d o z λd o z=>?_;refine eJ rfl λC aw j _=>gK aw d o z u λd o z u=>?_;refine dy bZ rfl rfl rfl λw3 R f _=>?_;have d:=d.grow;have d:=d.ext R;have o:=o.grow;have o:=o.ext R;have z:=z.grow;have z:=z.ext R;have u:=u.grow;have u:=u.ext R;have j:=j.grow;have j:=j.ext R;refine W ?_;refine aA (F3 t _ _ w3 o) ?_;rintro _ w4 ⟨rfl,aJ⟩;have fy:=aJ.size;refine vB aJ d o z u j f λd o z u j f=>?_;refine WZ ?_;apply oB 4 11 15 rfl oQ;intro _;refine WZ ?_;exact oQ;intro xx;refine zA<|aV<|zc rfl (λU=>?_) λU=>?_;have X:=atq (y:=y) U;refine W ?_;refine cN bZ rfl rfl rfl f rfl λw5 S f _=>?_;have d:=d.aB S sx;have z:=z.aB S sx;refine W ?_;exact⟨[_],gB jh bZ rfl f rfl,by rw[X];exact bg.dY z λx l=>by simp[l],d⟩;have mc:=U;refine W ?_;refine aA (F3 t _ _ w4 o) ?_;rintro _ w5 ⟨rfl,S⟩;have kF:=S.size;refine kq S d o u j f λd o u j f=>?_;refine WZ ?_;apply oO 4 20 24 (aj [] w5) rfl oQ;intro _;refine W ?_;refine aA (vY t Z _ _ w5 o) ?_;rintro _ _ ⟨rfl,bR⟩;have jM:=bR.size;exact oQ;intro xx A cF;refine kq cF d o u j f λd o u j f=>?_;refine zA<|aV<|zc rfl (λh4=>?_) λh4=>?_;have X:=atr (y:=y) Z mc h4;refine W ?_;refine cN bZ rfl rfl rfl f rfl λw8 N f ld=>?_;have d:=d.aB N sx;have o:=o.aB N sx;refine W ?_;exact⟨[_],gB jh bZ rfl f rfl,by rw[X];exact bg.dY o λx l=>by simp[l],d⟩;have X:=att (y:=y) Z h4;have hq7:=d.size;have ug:=j.lt;have AL:=f.lt;refine iF<|zr<|dy bZ rfl rfl rfl λw8 N p ld=>?_;have d:=d.grow;have d:=d.ext N;have u:=u.grow;have u:=u.ext N;have j:=j.grow;have j:=j.ext N;have f:=f.grow;have f:=f.ext N;refine W ?_;refine et (λq:Nat×Option Addr×Nat×Option Nat=>[(3,.pointer<|some ⟨w1.heap.size,0,none⟩),(4,.pointer<|some ⟨C.heap.size,0,none⟩),(5,.pointer<|some ⟨A.heap.size,0,none⟩),(27,.slice a t.ag.length c),(28,.int .i64 (t.ag.length:Int)),(29,.int .i64 (q.1:Int))]) (λq w'=>aj [] w w'/\aK w' w1.heap.size [str y.au,.slice ya yn yc].toArray 61/\aK w' C.heap.size [str [],.slice none 0 0].toArray 61/\aK w' A.heap.size [str [],.slice q.2.1 ((t.ag.take q.1).map<|dW y).length q.2.2.1].toArray 61/\Gr A.heap.size (A.heap.size::C.heap.size::L) w' 61 2 (.slice q.2.1 ((t.ag.take q.1).map<|dW y).length q.2.2.1) q.2.2.2 (du ((t.ag.take q.1).map<|dW y))/\q.1<=t.ag.length) (λq=>t.ag.length-q.1) ((0,none,0,none)) (⟨rfl,rfl,rfl,rfl,rfl,rfl⟩) (⟨d,j,f,p,Gr.nil (by intro x l;have:=d.size;simp at l;rcases l with rfl|rfl|l;omega;omega;have:=hL x l;omega) om,sm⟩) λgg M _ hI=>?_;obtain⟨i,_,_,g⟩:=gg;dsimp only at hI⊢;obtain⟨d,j,f,p,s,hk⟩:=hI;have fi:=d.size;have atu:=j.lt;have N7:=f.lt;have ayB:=p.lt;refine W ?_;refine zc rfl (λh5=>?_) λh5=>?_;have ei:=eK (ps:=t.ag) (i:=i) om;have V:∀x∈g.toList++(A.heap.size::C.heap.size::L),x∈L\/w.heap.size<=x:=by{intro x l;rcases mA.1 l with l|l;(·right;have:=s.low x (by simpa using l);omega);(·simp at l;rcases l with rfl|rfl|l;(·right;omega);(·right;omega);(·exact .inl l))}
  have atv:da (g.toList++(A.heap.size::C.heap.size::L)) M _ t.ag:=da.ext (cj.fresh aO V) d;have H:bg (g.toList++(A.heap.size::C.heap.size::L)) M _ y:=bg.ext (jg.fresh KT V) d;obtain⟨_,_,pa,_,pc,rfl,_,eD,fH⟩:=iB atv ei;subst eD;have F:=kA fH;have nh:=kZ (t:=t) (i:=i) om;refine W ?_;refine dy bZ rfl rfl rfl λbW E cS zv=>?_;have d:=d.grow;have d:=d.ext E;have j:=j.grow;have j:=j.ext E;have f:=f.grow;have f:=f.ext E;have p:=p.grow;have p:=p.ext E;have s:=s.alloc E zv;have F:=F.grow;have F:=F.ext E;have H:=H.grow;have H:=H.ext E;refine cN bZ rfl rfl rfl cS rfl λ_ O cS _=>?_;have d:=d.aB O sx;have j:=j.aB O sx;have f:=f.aB O sx;have p:=p.aB O sx;have s:=s.aB O sx;have F:=F.aB O sx;have H:=H.aB O sx;refine W ?_;apply rk dh cM 6 (rA 33 6) (rA 33 6) [[],[0],[],[],[2,3],[4]] [.v _,.v _,.v _,.v _,.p<|fun(v:Value) (D:World)=>bg (g.toList++(M.heap.size::A.heap.size::C.heap.size::L)) D v (dW y<|nth t.ag i),.p (fun(v:Value) (D:World)=>∃b J K,v= .slice (some ⟨b,0,none⟩) 1 1/\aK D b [J,K].toArray 61/\bg (g.toList++(M.heap.size::A.heap.size::C.heap.size::L)) D (.agg #[J,K]) (dW y<|nth t.ag i))] de (by exact(bS<|bS (bS<|bS (rf (λv w w' h k=>bg.ext h k)<|rf (λv w w' ⟨b,J,K,e,h1,U⟩ k=>⟨b,J,K,e,h1.ext k,bg.ext U k⟩) trivial))));intro _ aC;refine dd (λ_ _ _=>WZ<|cA cM) ?_;refine ju cM aC (λx Q B=>?_) ?_;have p:=p.ext B;refine WZ ?_;exact cA cM;refine ju cM aC (λx Q B=>?_) ?_;have cS:=cS.ext B;refine WZ ?_;exact cA cM;refine ju cM aC (λx Q B=>?_) ?_;have j:=j.ext B;refine WZ ?_;exact cA cM;refine fJ ?_ ?_;intro x P Q e B hd I;have aL:(P 2=(.agg #[str (nth t.ag i).au,.slice pa (nth t.ag i).ag.length pc]))/\(P 3=(.agg #[str y.au,.slice ya yn yc])):=hd;obtain⟨d2,d3⟩:=aL;replace B:=cM.trans aC B;refine cV B s F H λs F H=>?_;replace I:e=ba (aZ _ x _) [(35,P 2),(36,P 3)]:=I;rw[d2,d3] at I;subst I;refine aA (ih (nth t.ag i) om om (Z.nth om) _ _ (g.toList++(M.heap.size::A.heap.size::C.heap.size::L)) Q (bg.dY F (by intro x l;simp at l⊢;rcases l with h|h|h|h|h<;>simp[h])) (bg.dY H (by intro x l;simp at l⊢;rcases l with h|h|h|h|h<;>simp[h])) s.all) ?_;rintro _ j9 ⟨S8,T⟩;have HF:=T.size;have yH:=S8;refine W ?_;exact dn (cM.of T) yH;refine fJ ?_ ?_;intro x P Q e B hd I;have d4:(fun(v:Value) (D:World)=>bg (g.toList++(M.heap.size::A.heap.size::C.heap.size::L)) D v (dW y<|nth t.ag i)) (P 4) Q:=hd;replace B:=cM.trans aC B;replace I:e=ba (aZ _ x _) [(37,P 4)]:=I;obtain⟨_,_,_,e7,_,_⟩:=db d4;rw[e7] at I;rw[e7] at d4;subst I;refine fM iH bZ rfl rfl λj9 T atw _=>W ?_;exact dn (cM.of T) ⟨_,_,_,rfl,atw,bg.ext d4 T⟩;exact trivial;intro x j8 iO;intro v4 d4;intro v5 d5;replace d4:(fun(v:Value) (D:World)=>bg (g.toList++(M.heap.size::A.heap.size::C.heap.size::L)) D v (dW y<|nth t.ag i)) v4 j8:=d4;replace d5:(fun(v:Value) (D:World)=>∃b J K,v= .slice (some ⟨b,0,none⟩) 1 1/\aK D b [J,K].toArray 61/\bg (g.toList++(M.heap.size::A.heap.size::C.heap.size::L)) D (.agg #[J,K]) (dW y<|nth t.ag i)) v5 j8:=d5;refine kq iO d j f p s λd j f p s=>?_;change OW _ _ _ _ _ (ba (aZ _ x _)<|zZ 33 [_,_,_,_,v4,v5]) _;obtain⟨_,J,K,e7,uF,ht⟩:=d5;rw[e7];refine IG iH bZ rfl rfl rfl rfl rfl rfl s uF ht (by rw[Ej _ hk];omega) λa4 fX g4 _ fY ov=>?_;have d:=aj.IF om s.low d ov;have j:=j.aB ov<|s.Lq om;have f:=f.aB ov<|s.As sm;have p:=p.aB ov<|s.As sm;rw[Ei (dW y) ei] at fY⊢;refine zf Az rfl<|ia IW rfl rfl rfl p rfl λ_ Y p _=>?_;have d:=d.aB Y sx;have j:=j.aB Y sx;have f:=f.aB Y sx;have fY:=fY.aB Y sx;refine W ?_;exact⟨(i+1,a4,fX,g4),⟨rfl,rfl,rfl,rfl,rfl,rfl⟩,⟨d,j,f,p,fY.dY λx l=>mK _ l,by dsimp only;omega⟩,by dsimp only;omega⟩;rw[Gu (dW y) om] at p s;refine W ?_;refine cN bZ rfl rfl rfl f rfl λbW E f zv=>?_;have d:=d.aB E sx;have s:=s.aB E sx;refine W ?_;exact⟨[_],gB jh bZ rfl f rfl,by rw[X];exact jV<|s.trees.dY λx l=>by simp[l],d⟩
theorem acw (h:rj s=true):∃r:Nat,r<40/\numeral s=some (r:Int)/\ie s=r:=by
 have a:0<=uV s:=of_decide_eq_true h;cases c:numeral s with
 |none=>unfold uV at a;rw[c] at a;simp at a
 |some z=>
  have e:uV s=if 0<=z/\z<=39 then z else -1:=by unfold uV;rw[c]
  by_cases b:0<=z/\z<=39
  .rw[iP b] at e;exact⟨z.toNat,om,by rw[Int.toNat_of_nonneg b.1],by unfold ie;rw[e]⟩
  .rw[iN b] at e;omega
theorem acx (l:ak):∀ps:List cw,(kM ps l= -1/\bQ ps l=none)\/∃k,k<ps.length/\kM ps l=(k:Int)/\bQ ps l=some (dv ps k).regs:=by
 intro ps;have a:∀ps:List cw,(ps.findIdx? (λb=>decide<|b.aM=l)=none/\bQ ps l=none)\/∃k,k<ps.length/\ps.findIdx? (λb=>decide<|b.aM=l)=some k/\bQ ps l=some (dv ps k).regs:=by
  intro ps;induction ps with
  |nil=>exact .inl ⟨rfl,rfl⟩
  |cons b ps c=>
   unfold bQ at c⊢;rw[List.findIdx?_cons,List.find?_cons];by_cases h:b.aM=l
   .rw[iP (dT h)];refine .inr ⟨0,sm,rfl,?_⟩;rw[dT h];simp
   .rw[iN<|by simpa using h,dF h];rcases c with⟨h1,h2⟩|⟨k,hk,h1,h2⟩
    .exact .inl ⟨by rw[h1];rfl,h2⟩
    .refine .inr ⟨k+1,by simpa using hk,by rw[h1];rfl,?_⟩;simp only[h2];simp
 unfold kM;rcases a ps with⟨h1,h2⟩|⟨k,hk,h1,h2⟩
 .exact .inl ⟨by rw[h1],h2⟩
 .exact .inr ⟨k,hk,by rw[h1],h2⟩
theorem acy (d:List cw) (g:d.length<1000000000) (l:ak) (v:Value) (L:List Nat) (w:World) (j:jf L w v d):
  bu Tryz.prog 113 [v,str l] w λr w'=>(∃a c,r= .tuple #[.slice a ((bQ d l).getD []).length c,.bool (bQ d l).isSome]/\da L w' (.slice a ((bQ d l).getD []).length c) ((bQ d l).getD []))/\aj [] w w':=by
 obtain⟨a,c,rfl⟩:=ua j;have e:=aj.refl [] w;refine cg [.tmp 4,.tmp 5] 17 Tryz.func113 rfl afA rfl rfl ?_;refine W ?_;refine aA (N8 d g l _ L w<|j.ext e) ?_;rintro _ _ ⟨rfl,m⟩;have p:=m.size;have e:=e.ext m;refine W ?_;refine zc rfl (λf=>?_) λf=>?_;have i:bQ d l=none:=by rcases acx l d with⟨_,h2⟩|⟨k,_,f,_⟩;exact h2;omega
 refine W ?_;rw[i];exact⟨_,rfl,⟨_,_,rfl,l6⟩,e⟩;have n:∃k,k<d.length/\kM d l=(k:Int)/\bQ d l=some (dv d k).regs:=by rcases acx l d with⟨f,_⟩|h;omega;exact h
 obtain⟨k,hk,f,i⟩:=n;rw[f];obtain⟨b,_,_,_,_,_,rfl,_,o,_⟩:=yj (j.ext e)<|pN hk;refine W ?_;rw[i];exact⟨_,rfl,⟨_,_,rfl,o⟩,e⟩
theorem atx (s:ak) (I:rj s=true) (L:List Nat) (b:Nat) (m:TS) (opens:Nat) (fv:Value) (w:World) (j:fE L w b 161 m opens fv):
  bu Tryz.prog 143 [.pointer<|some ⟨b,0,none⟩,str s] w λr w'=>(∃t z,r= .tuple #[z,.bool (eV m s).isSome]/\bg (b::L) w' z t/\∀y,eV m s=some y->t=y)/\aj [] w w':=by
 obtain⟨r,H,F,M⟩:=acw I;have f:=aj.refl [] w;have o:eV m s=m.getD r none:=by unfold eV;rw[M]
 rw[o];refine ly [.cell 4 61,.tmp 5] 21 Tryz.func143 rfl af2 rfl rfl rfl ?_;refine zr<|dy bZ rfl rfl rfl λP q l _=>?_;have f:=f.grow;have f:=f.ext q;have j:=j.grow;have j:=j.ext q;refine W ?_;refine aA (KB s F P) ?_;rintro _ _ ⟨rfl,u⟩;have R:=u.size;refine cV u f j l λf j l=>?_;refine W ?_;obtain⟨t,a,c,g,J⟩:=j.aaq H;have d:=(D0 w.heap.size ([str t.au,.slice a t.ag.length c]) 61);apply rk dh d 13 (rA 9 12++[100012]) (rA 9 12++[100012]) [[],[],[0],[2],[1,3],[4],[],[],[6],[8],[7,9],[10],[5]] [.v _,.v _,.v _,.v _,.v _,.v _,.v _,.v _,.v _,.v _,.v _,.v _,.p λ_ Q=>aK Q w.heap.size ([str t.au,.slice a t.ag.length c]).toArray 61] de (by exact(bS (bS<|bS (bS<|bS (bS<|bS (bS<|bS (bS<|bS (bS<|D1 trivial))))))));intro _ aC;refine dd (λ_ _ _=>WZ<|cA d) ?_;refine dd (λ_ _ _=>WZ<|cA d) ?_;refine dd (λ_ _ _=>WZ<|cA d) ?_;refine dd (λ_ _ _=>WZ<|cA d) ?_;refine dd (λ_ _ _=>BC IT bZ rfl rfl rfl rfl om<|cA d) ?_;refine ju d aC (λx B i=>?_) ?_;have g:=g.aB i.1 sx;refine zL jh bZ rfl g.c1 rfl ?_;exact cA d;refine dd (λ_ _ _=>WZ<|cA d) ?_;refine dd (λ_ _ _=>WZ<|cA d) ?_;refine dd (λ_ _ _=>WZ<|cA d) ?_;refine dd (λ_ _ _=>WZ<|cA d) ?_;refine dd (λ_ _ _=>BC Gx vg rfl rfl rfl rfl om<|cA d) ?_;refine ju d aC (λx B i=>?_) ?_;have g:=g.aB i.1 sx;refine zl Em rfl (g.c2 0 _ rfl) ?_;exact cA d;refine fJ ?_ ?_;intro x A B e i E n;have d5:A 5=(.agg #[str t.au,.slice a t.ag.length c]):=E;replace i:=d.trans aC i;obtain⟨_,N,O⟩:=i.2.2 ⟨_,(by rfl),l⟩;replace n:e=ba (aZ _ x _) [(14,A 5)]:=n;rw[d5] at n;subst n;refine cN bZ rfl rfl rfl O (by rw[N];rfl) λ_ D hb _=>W ?_;exact dn ⟨D,λ_=>hb,λ_=>⟨_,rfl,hb⟩⟩ hb;exact trivial;intro x K C;intro p d12;replace d12:aK K w.heap.size ([str t.au,.slice a t.ag.length c]).toArray 61:=d12;have f:=f.aB C.1 sx;have g:=g.aB C.1 sx;have l:=d12;change OW _ _ _ _ _ (ba (aZ _ x _)<|zZ 9 [_,_,_,_,_,_,_,_,_,_,_,_]++[(100012,p)]) _;refine W ?_;exact⟨[_,_],⟨gB jh bZ rfl l rfl,rfl⟩,⟨t,_,rfl,bg.dY g.av (by intro x v;simp at v⊢;rcases v with h|h<;>simp[h]),J⟩,f⟩
theorem DQ (s:ak) (Z:rj s=true) (L:List Nat) (b:Nat) (g:TS) (opens:Nat) (fv:Value) (w:World) (c:fE L w b 161 g opens fv) (t:aq) (s8:t.size<=1000000000) (la:t.len<=1000000000) (N:Value) (K:bg (b::L) w N t):
  bu Tryz.prog 144 [.pointer<|some ⟨b,0,none⟩,str s,N] w λv w'=>v= .bool (eW g (ie s)<|some t).isSome/\fE L w' b 161 ((eW g (ie s)<|some t).getD g) opens fv/\aj [b] w w':=by
 obtain⟨r,Y,X,p7⟩:=acw Z;rw[p7];have f:=K;obtain⟨o,_,p,rfl,T,_⟩:=db K;subst T;have d:=aj.refl [] w;have eI:=c.lt;refine cg [.tmp 6] 24 Tryz.func144 rfl af3 rfl rfl ?_;refine zr<|eJ rfl λw1 Q i _=>cV Q d c f λd c f=>?_;refine W ?_;refine aA (atj t s8 la _ _ w1 f) ?_;rintro _ w2 ⟨rfl,I⟩;have di:=I.size;refine gK I d c f i λd c f i=>?_;refine kz rfl rfl rfl<|aV<|zc rfl (λB=>?_) λB=>?_;have l:eW g r (some t)=none:=by simp only[eW,Option.bind_some];rw[iN (by simpa using B)]
 refine W ?_;exact⟨_,rfl,by rw[l];rfl,by rw[l];exact c,d.any⟩;have l:eW g r (some t)=some (g.set r<|some t):=by simp only[eW,Option.bind_some];rw[iP (by simpa using B)]
 refine iF<|zr<|zm<|aA (KB s X w2) ?_;rintro _ _ ⟨rfl,H⟩;have eP:=H.size;refine gK H d c f i λd c f i=>?_;have kH:=d;have C:=c;have O:=f;refine W ?_;have a:=(aak b 161<|rowAt (0+0+r*2) [str t.au,.slice o t.ag.length p]);apply rk dh a 12 (rA 13 8++[100008,21,22,23]) (rA 13 8++[100008,21,22,23]) [[],[],[],[],[],[0],[5],[1,6],[4,7],[2],[9],[3,10]] [.v _,.v _,.v _,.v _,.v _,.v _,.v _,.v _,.p λ_ D=>yI b 161 (rowAt (0+0+r*2) [str t.au,.slice o t.ag.length p]) D,.v (.pointer<|some ⟨b,0,none⟩),.v (.pointer<|some ⟨b,0+80,none⟩),.v (.pointer<|some ⟨b,0+80+r*1,none⟩)] de (by exact(bS<|bS (bS<|bS (bS<|bS (bS<|bS (rf (λv w w' h k=>yI.rU (aam _ _) h k)<|bS (bS<|bS trivial)))))));intro _ aC;refine dd (λ_ _ _=>WZ<|cA a) ?_;refine dd (λ_ _ _=>WZ<|cA a) ?_;refine dd (λ_ _ _=>WZ<|cA a) ?_;refine dd (λ_ _ _=>WZ<|cA a) ?_;refine ju a aC (λx w4 j=>?_) ?_;have i:=i.aB j.1 sx;refine WZ ?_;exact cA a;refine dd (λ_ _ _=>WZ<|cA a) ?_;refine dd (λ_ _ _=>WZ<|cA a) ?_;refine dd (λ_ _ _=>BC IT bZ rfl rfl rfl rfl om<|cA a) ?_;refine fJ ?_ ?_;intro x u w4 e j V m;have R:(u 4=(.agg #[str t.au,.slice o t.ag.length p]))/\(u 7=(.pointer<|some ⟨b,0+0+r*2,none⟩)):=V;obtain⟨d4,d7⟩:=R;replace j:=a.trans aC j;replace m:e=ba (aZ _ x _) [(17,u 4),(20,u 7)]:=m;rw[d4,d7] at m;subst m;obtain⟨E,y,z⟩:=C.ex;obtain⟨xz,n,P,_⟩:=j.2 E y;have rH:=z.size;refine HR bZ rfl rfl rfl rfl rfl rfl n (by simp only[lC,List.length_nil];omega) λ_ _ A q S=>W ?_;exact dn q<|aan A (by simp only[lC,List.length_nil];omega);refine dd (λ_ _ _=>WZ<|cA a) ?_;refine dd (λ_ _ _=>WZ<|cA a) ?_;refine dd (λ_ _ _=>BC Gx vg rfl rfl rfl rfl om<|cA a) ?_;exact trivial;intro x U J;intro M d8;replace d8:(λ_ D=>yI b 161 (rowAt (0+0+r*2) [str t.au,.slice o t.ag.length p]) D) M U:=d8;change OW _ _ _ _ _ (ba (aZ _ x _)<|zZ 13 [_,_,_,_,_,_,_,_]++[(100008,M),(21,_),(22,_),(23,_)]) _;obtain⟨E,y,z⟩:=C.ex;obtain⟨xz,n,P,_⟩:=J.2 E y;have rH:=z.size;have F:=J;refine HR vg rfl rfl rfl rfl rfl rfl n (by simp only[lC,List.length_nil];omega) λ_ _ A q S=>W ?_;exact⟨_,rfl,by rw[l];rfl,by rw[l];exact C.put Y F d8 (λ_ h=>by cases Ss h n;exact⟨q.1,A⟩) O,(kH.any.trans F.1).trans q.1⟩
def BS (a:List aq) (k:Nat):TS:=(List.range 40).map λi=>if i<k then some (nth a i) else none
theorem atz (a:List aq):BS a 0=List.replicate 40 none:=by
 refine List.ext_getElem? λi=>?_;rw[BS,List.getElem?_map,List.getElem?_replicate];by_cases h:i<40
 .rw[List.getElem?_range h,iP h];rfl
 .rw[List.getElem?_eq_none<|by simpa using h,iN h];rfl
theorem atA (a:List aq) (hk:k<40):(BS a k).set k (some<|nth a k)=BS a (k+1):=by
 refine List.ext_getElem (by simp[BS]) λi _ _=>?_;rw[List.getElem_set];simp only[BS,List.getElem_map,List.getElem_range];by_cases h:k=i
 .subst h;rw[iP rfl,iP om]
 .rw[iN h];by_cases b:i<k
  .rw[iP b,iP om]
  .rw[iN b,iN om]
theorem atB (d:List aq) (zu:d.length<=40) (fn:Fn) (J K:Array Value) (v:Value) (L:List Nat) (w:World) (O:da L w v d) (hL:∀x∈L,x<w.heap.size):
  bu Tryz.prog 112 [v,.func fn J K] w λr w'=>(∃b,r= .pointer (some ⟨b,0,none⟩)/\w.heap.size<=b/\fE L w' b 161 (BS d d.length) 0 (.func fn J K))/\aj [] w w':=by
 obtain⟨a,c,rfl⟩:=zy O;have j:=aj.refl [] w;have oU:da (w.heap.size::L) w _ d:=cj.fresh O uR;refine cg [.tmp 4] 31 Tryz.func112 rfl afz rfl rfl ?_;refine W ?_;refine jF (aib _ _ _ _) rfl rfl<|eJ rfl λ_ S qD _=>?_;have j:=j.ext S;refine W ?_;have l:=aoM (L:=L) qD (λm=>by have:=hL _ m;omega) rfl;rw[<-atz d] at l;refine et (λk:Nat=>[(5,.pointer<|some ⟨w.heap.size,0,none⟩),(11,.slice a d.length c),(12,.int .i64 (d.length:Int)),(13,.int .i64 (k:Int))]) (λk w'=>aj [] w w'/\fE L w' w.heap.size 161 (BS d k) 0 (.func fn J K)/\k<=d.length) (λk=>d.length-k) (0) (⟨rfl,rfl,rfl,rfl⟩) (⟨j,l,om⟩) λf _ _ hI=>?_;obtain⟨j,l,hk⟩:=hI;have fi:=j.size;have eI:=l.lt;refine W ?_;refine zc rfl (λZ=>?_) λZ=>?_;have X:=eK (ps:=d) (i:=f) om;obtain⟨_,_,t,_,u,rfl,_,V,Y⟩:=iB (oU.ext j) X;subst V;have n:=kA Y;refine W ?_;refine dy bZ rfl rfl rfl λ_ D q _=>?_;have j:=j.grow;have j:=j.ext D;have l:=l.grow;have l:=l.ext D;have n:=n.grow;have n:=n.ext D;refine zA<|cN bZ rfl rfl rfl q rfl λ_ E q _=>?_;have j:=j.aB E sx;have l:=l.aB E sx;have n:=n.aB E sx;refine W ?_;have kH:=j;have F:=l;have Q:=n;have g:=(aak w.heap.size 161<|rowAt (0+0+f*2) [str (nth d f).au,.slice t (nth d f).ag.length u]);apply rk dh g 12 (rA 18 8++[100008,26,27,28]) (rA 18 8++[100008,26,27,28]) [[],[],[],[],[],[0],[5],[1,6],[4,7],[2],[9],[3,10]] [.v _,.v _,.v _,.v _,.v _,.v _,.v _,.v _,.p λ_ H=>yI w.heap.size 161 (rowAt (0+0+f*2) [str (nth d f).au,.slice t (nth d f).ag.length u]) H,.v (.pointer<|some ⟨w.heap.size,0,none⟩),.v (.pointer<|some ⟨w.heap.size,0+80,none⟩),.v (.pointer<|some ⟨w.heap.size,0+80+f*1,none⟩)] de (by exact(bS<|bS (bS<|bS (bS<|bS (bS<|bS (rf (λv w w' h k=>yI.rU (aam _ _) h k)<|bS (bS<|bS trivial)))))));intro _ aC;refine dd (λ_ _ _=>WZ<|cA g) ?_;refine dd (λ_ _ _=>WZ<|cA g) ?_;refine dd (λ_ _ _=>WZ<|cA g) ?_;refine dd (λ_ _ _=>WZ<|cA g) ?_;refine ju g aC (λx w5 p=>?_) ?_;have q:=q.aB p.1 sx;refine WZ ?_;exact cA g;refine dd (λ_ _ _=>WZ<|cA g) ?_;refine dd (λ_ _ _=>WZ<|cA g) ?_;refine dd (λ_ _ _=>BC IT bZ rfl rfl rfl rfl om<|cA g) ?_;refine fJ ?_ ?_;intro x z w5 e p hd o;have T:(z 4=(.agg #[str (nth d f).au,.slice t (nth d f).ag.length u]))/\(z 7=(.pointer<|some ⟨w.heap.size,0+0+f*2,none⟩)):=hd;obtain⟨d4,d7⟩:=T;replace p:=g.trans aC p;replace o:e=ba (aZ _ x _) [(22,z 4),(25,z 7)]:=o;rw[d4,d7] at o;subst o;obtain⟨I,A,B⟩:=F.ex;obtain⟨xz,s,R,_⟩:=p.2 I A;have rH:=B.size;refine HR bZ rfl rfl rfl rfl rfl rfl s (by simp only[lC,List.length_nil];omega) λ_ _ C y U=>W ?_;exact dn y<|aan C (by simp only[lC,List.length_nil];omega);refine dd (λ_ _ _=>WZ<|cA g) ?_;refine dd (λ_ _ _=>WZ<|cA g) ?_;refine dd (λ_ _ _=>BC Gx vg rfl rfl rfl rfl om<|cA g) ?_;exact trivial;intro x lX N;intro P d8;replace d8:(λ_ H=>yI w.heap.size 161 (rowAt (0+0+f*2) [str (nth d f).au,.slice t (nth d f).ag.length u]) H) P lX:=d8;change OW _ _ _ _ _ (ba (aZ _ x _)<|zZ 18 [_,_,_,_,_,_,_,_]++[(100008,P),(26,_),(27,_),(28,_)]) _;obtain⟨I,A,B⟩:=F.ex;obtain⟨xz,s,R,_⟩:=N.2 I A;have rH:=B.size;have M:=N;refine HR vg rfl rfl rfl rfl rfl rfl s (by simp only[lC,List.length_nil];omega) λ_ _ C y U=>W ?_;exact⟨f+1,⟨rfl,rfl,rfl,rfl⟩,⟨(kH.since M.1 λx m=>.inr (by simp at m;omega)).since y.1 λx m=>.inr (by simp at m;omega),by rw[<-atA d om];exact(F.put om M d8 (λ_ h=>by cases Ss h s;exact⟨y.1,C⟩)<|bg.dY Q (by intro x m;simp at m⊢;rcases m with h|h|h<;>simp[h])).dY λx m=>mK _ m,om⟩,om⟩;have o:f=d.length:=by omega
 subst o;refine W ?_;exact⟨_,rfl,⟨_,rfl,lR _,l⟩,j⟩
/-! ### What stands -/
def TQ (a:TS):Prop:=∀i t,a.getD i none=some t->Good t/\sS t=true
theorem Af (a:Good t) (h:sS t=true):t.size<=24000/\t.len<=12000/\t.text.length<=12000:=by unfold sS at h;rw[aE,dE,dE] at h;have b:=VK a;have c:=Cc a.wf;omega
theorem KU {x:aq} (b:Good x) (c:Good y):bF x y=xV x y:=by
 unfold xV;by_cases h:x=y
 .subst h;rw[(Gb x x).2 rfl,dT rfl]
 .rw[dF λe=>h (LB b c e)];cases a:bF x y with
  |false=>rfl
  |true=>exact absurd ((Gb x y).1 a) h
theorem atC {a:TS} (b:a.length=40) (h:40<=i):a.getD i none=none:=by rw[gG,List.getElem?_eq_none om];rfl
theorem acz {a:TS} (f:a.length=40) (e:TQ a) (g:Good y) (d:∀b,a.getD (min i 39) none=some b->t=b):
  ((decide ((40:Int)<=(i:Int))||!(a.getD (min i 39) none).isSome)||!bF t y)=!tR (a.getD i none) y:=by
 by_cases h:40<=i
 .rw[atC f h,dT (show(40:Int)<=(i:Int) by omega)];rfl
 .rw[show min i 39=i from by omega] at d⊢;rw[dF<|show¬(40:Int)<=(i:Int) by omega,Bool.false_or];cases c:a.getD i none with
  |none=>rfl
  |some b=>rw[d b c,KU (e i b c).1 g];rfl
theorem uI.yd {r:Nat} {o:Bool} (h:uI L w b r o t a c) (e:r=i):fZ w b (0+0+i*2) [str t.au,.slice a t.ag.length c]:=e▸h.c1
theorem uI.at2 {r:Nat} {o:Bool} (h:uI L w b r o t a c) (e:r=i):fZ w b (0+80+i*1) [.bool o]:=e▸h.c2
theorem acB (d:List aq) (M:d.length<1000000000) (J:∀i,i<d.length->Good (nth d i)) (L:List Nat) (b:Nat) (o:TS) (opens:Nat) (fv:Value) (w:World) (n:fE L w b 161 o opens fv) (z:TQ o) (P:Value) (R:List Nat) (N:da R w P d):
  bu Tryz.prog 148 [.pointer<|some ⟨b,0,none⟩,P] w λv w'=>v= .bool (meets o d)/\aj [] w w':=by
 obtain⟨a,c,rfl⟩:=zy N;have l:=aj.refl [] w;have D:o.length=40:=by obtain⟨_,_,h⟩:=n.ex;exact h.len
 refine cg [.tmp 4] 37 Tryz.func148 rfl af7 rfl rfl ?_;refine W ?_;refine et (λk:Nat=>[(0,.pointer<|some ⟨b,0,none⟩),(7,.slice a d.length c),(8,.int .i64 (d.length:Int)),(9,.int .i64 (k:Int))]) (λk w'=>aj [] w w'/\fE L w' b 161 o opens fv/\k<=d.length/\∀i,i<k->tR (o.getD i none) (nth d i)=true) (λk=>d.length-k) (0) (⟨rfl,rfl,rfl,rfl⟩) (⟨l,n,om,by intro i K;omega⟩) λg _ _ X=>?_;obtain⟨l,n,hk,F⟩:=X;have fi:=l.size;refine W ?_;refine zc rfl (λV=>?_) λV=>?_;have T:=eK (ps:=d) (i:=g) om;obtain⟨_,_,_,_,_,rfl,_,S,U⟩:=iB (N.ext l) T;subst S;have p:=kA U;obtain⟨t0,_,_,j,C⟩:=n.aaq (r:=min g 39) om;refine W ?_;refine dy bZ rfl rfl rfl λ_ u H _=>?_;have l:=l.grow;have l:=l.ext u;have n:=n.grow;have n:=n.ext u;have p:=p.grow;have p:=p.ext u;have j:=j.grow;have j:=j.ext u;refine zA<|cN bZ rfl rfl rfl H rfl λ_ t H _=>?_;have l:=l.aB t sx;have n:=n.aB t sx;have p:=p.aB t sx;have j:=j.aB t sx;refine aV<|ka<|Ek [14,15,16,17,18,19,20,21,22,23,24,25,26,27,28,29,30,31,32,33,34,35] [(35,.bool ((decide ((40:Int)<=(g:Int))||!(o.getD (min g 39) none).isSome)||!bF t0 (nth d g)))] ?_ ?_;rcases bE (decide ((40:Int)<=(g:Int))) with ig|ig;apply j1 dh 22 (rA 14 22) (rA 14 22) [[],[0],[1],[2],[2],[2,3],[2,5],[2,4,6],[2,7],[2,8],[2,9],[10],[11],[11],[11,12],[11,14],[11,13,15],[11,16],[11],[11,17,18],[11,19],[11,20]] [It.v _,It.v _,It.v<|.bool true,It.v _,It.v _,It.v _,It.v _,It.v _,It.v _,It.v _,It.v _,It.v<|.bool true,It.v _,It.v _,It.v _,It.v _,It.v _,It.v _,It.v _,It.v _,It.v _,It.v _] de rfl;intro Q aC;refine VA ?_;refine vc (λx f e=>?_) ?_;refine WZ ?_;exact pv (by exact congrArg Value.bool ig);refine vc (λx f e=>?_) ?_;exact cT pv;refine vc (λx f e=>?_) ?_;exact cT pv;refine vk aC (λx f e=>?_) ?_;exact cT pv;refine vc (λx f e=>?_) ?_;exact cT pv;refine vk aC (λx f e=>?_) ?_;exact cT pv;refine vk aC (λx f e=>?_) ?_;exact cT pv;refine vc (λx f e=>?_) ?_;exact cT pv;refine vc (λ_ _ _=>WZ pv) ?_;refine vc (λx f e=>?_) ?_;refine WZ ?_;exact pv (by rfl);exact VZ;intro x y q;change OW _ _ _ _ [] (ba (aZ _ x _) (zZ 14 [_,_,_,_,_,_,_,_,_,_,_,_,_,_,_,_,_,_,_,_,_,_])) _;refine W ?_;exact kE q;rcases bE (decide ((40:Int)<=(g:Int))||!(o.getD (min g 39) none).isSome) with kj|kj;apply j1 dh 22 (rA 14 22) (rA 14 22) [[],[0],[1],[2],[2],[2,3],[2,5],[2,4,6],[2,7],[2,8],[2,9],[10],[11],[11],[11,12],[11,14],[11,13,15],[11,16],[11],[11,17,18],[11,19],[11,20]] [It.v _,It.v _,It.v<|.bool false,It.v _,It.v _,It.v _,It.v _,It.v _,It.v _,It.v _,It.v _,It.v<|.bool true,It.v _,It.v _,It.v _,It.v _,It.v _,It.v _,It.v _,It.v _,It.v _,It.v _] de rfl;intro Q aC;refine VA ?_;refine vc (λx f e=>?_) ?_;refine WZ ?_;exact pv (by exact congrArg Value.bool ig);refine VA ?_;refine vk aC (λx f e=>?_) ?_;have m:=ig;refine BC Gx vg rfl rfl rfl rfl (by simp at m;omega) ?_;exact pv;refine vk aC (λx f e=>?_) ?_;have j:=j.ext e;have m:=ig;refine zl Em rfl (j.at2 (by simp at m;omega) 0 _ rfl) ?_;exact pv;refine VA ?_;refine vc (λx f e=>?_) ?_;refine WZ ?_;exact pv (by first|exact congrArg Value.bool kj|(rw[ig] at kj;exact congrArg Value.bool kj));exact VZ;intro x y q;change OW _ _ _ _ [] (ba (aZ _ x _) (zZ 14 [_,_,_,_,_,_,_,_,_,_,_,_,_,_,_,_,_,_,_,_,_,_])) _;refine W ?_;exact kE q;apply j1 dh 22 (rA 14 22) (rA 14 22) [[],[0],[1],[2],[2],[2,3],[2,5],[2,4,6],[2,7],[2,8],[2,9],[10],[11],[11],[11,12],[11,14],[11,13,15],[11,16],[11],[11,17,18],[11,19],[11,20]] [It.v _,It.v _,It.v (.bool false),It.v _,It.v _,It.v _,It.v _,It.v _,It.v _,It.v _,It.v _,It.v (.bool false),It.v _,It.v _,It.v _,It.v _,It.v _,It.v _,It.v _,It.v _,It.v _,It.v _] de rfl;intro Q aC;refine VA ?_;refine vc (λx f e=>?_) ?_;refine WZ ?_;exact pv (by exact congrArg Value.bool ig);refine VA ?_;refine vk aC (λx f e=>?_) ?_;have m:=ig;refine BC Gx vg rfl rfl rfl rfl (by simp at m;omega) ?_;exact pv;refine vk aC (λx f e=>?_) ?_;have j:=j.ext e;have m:=ig;refine zl Em rfl (j.at2 (by simp at m;omega) 0 _ rfl) ?_;exact pv;refine VA ?_;refine vc (λx f e=>?_) ?_;refine WZ ?_;exact pv (by first|exact congrArg Value.bool kj|(rw[ig] at kj;exact congrArg Value.bool kj));refine VA ?_;refine vk aC (λx f e=>?_) ?_;have m:=kj;refine BC IT bZ rfl rfl rfl rfl (by simp at m;omega) ?_;exact pv;refine vk aC (λx f e=>?_) ?_;have j:=j.ext e;have m:=kj;refine zL jh bZ rfl (j.yd (by simp at m;omega)) rfl ?_;exact pv;refine VA ?_;refine vk aC (λx f e=>?_) ?_;refine bJ e p j λp j=>?_;have m:=kj;refine aA (KR t0.size t0 (lR _) (by rw[Bool.or_eq_false_iff] at m;cases A:o.getD (min g 39) none with|none=>rw[A] at m;simp at m|some O=>rw[C O A];have I:=z _ O A;have:=Af I.1 I.2;omega) (nth d g) _ _ _ _ f j.av p) ?_;rintro _ _ ⟨rfl,E⟩;have kF:=E.size;exact pk E;exact VZ;intro x y q;change OW _ _ _ _ [] (ba (aZ _ x _) (zZ 14 [_,_,_,_,_,_,_,_,_,_,_,_,_,_,_,_,_,_,_,_,_,_])) _;refine W ?_;exact kE q;intro x y q;refine bJ q l n λl n=>?_;refine zc rfl (λs=>?_) λs=>?_;rw[acz D z (J g om) C] at s;have B:meets o d=false:=dF (λY=>by rw[Y g om] at s;cases s);refine W ?_;exact⟨_,rfl,by rw[B];rfl,l⟩;rw[acz D z (J g om) C] at s;have we:tR (o.getD g none) (nth d g)=true:=by simpa using s
 refine W ?_;exact⟨g+1,⟨rfl,rfl,rfl,rfl⟩,⟨l,n.dY λx Z=>mK _ Z,om,by intro i K;rcases Nat.lt_or_ge i g with h|h;exact F i h;rw[show i=g by omega];exact we⟩,om⟩;have B:meets o d=true:=dT λi K=>F i om;refine W ?_;exact⟨_,rfl,by rw[B];rfl,l⟩
theorem acC (s:ak) (g:rj s=true) (L:List Nat) (b:Nat) (a:TS) (opens:Nat) (fv:Value) (w:World) (t:aq) (c:fE L w b 161 a opens fv\/fE L w b 161 ((eW a (ie s)<|some t).getD a) opens fv) (l:t.size<=1000000000) (j:t.len<=1000000000) (d:Value) (i:bg (b::L) w d t):
  bu Tryz.prog 144 [.pointer<|some ⟨b,0,none⟩,str s,d] w λv w'=>v= .bool (eW a (ie s)<|some t).isSome/\fE L w' b 161 ((eW a (ie s)<|some t).getD a) opens fv/\aj [b] w w':=by
 rcases c with c|c
 .exact DQ s g L b a opens fv w c t l j d i
 .have:=DQ s g L b _ opens fv w c t l j d i;have e:(eW ((eW a (ie s)<|some t).getD a) (ie s)<|some t).isSome=(eW a (ie s)<|some t).isSome/\(eW ((eW a (ie s)<|some t).getD a) (ie s)<|some t).getD ((eW a (ie s)<|some t).getD a)=(eW a (ie s)<|some t).getD a:=by
   unfold eW;simp only[Option.bind_some];by_cases f:sS t=true
   .simp[f]
   .simp[f]
  rw[e.1,e.2] at this;exact this
theorem xH {a:Value} (h:bg L w (.agg #[a,v]) t):da L w v t.ag:=by
 obtain⟨b,n,c,d,_,e⟩:=db h;have:v= .slice b n c:=by have:=congrArg (λv=>match v with|Value.agg x=>x.toList|_=>[]) d;simp at this;exact this.2
 rw[this];exact e
end Go.Proofs.YtcildnfcpkpomaaGreatDoor
