/- Lemmas for the law FnProgramText, no statement of their own: no conditions. -/
import Derived.Test.YtcildnfcpkpomaaGreatDoorAd
import Derived.Laws.IdiomStrings
set_option maxHeartbeats 4000000
set_option linter.unusedVariables false
set_option linter.unusedSimpArgs false
namespace Go.Proofs.YtcildnfcpkpomaaGreatDoor
open Go
variable {L L':List Nat} {w w':World} {v z:Value} {B E U b bytes c i n sz t x:Nat} {vs:List Value} {ps:List dM} {a:Option Addr} {g gb:Option Nat} {bs:List Bk} {gss:List (Option Nat×Option Nat)} {vss:List (List Value)} {xs:List ak} {s:cY} {rows:List (List C)} {q1 q2 q3 q4 q5 q6:Operand} {a1 a2 a3 a4 a5 a6:ak} {m:Mk} {e:Ex}
theorem aiV (t:aq) (D:t.size<=100000) (B:WF t) (z:Int) (v:Value) (L:List Nat) (w:World) (E:aV L w v t):
  bD Tryz.prog 141 [v,.int .u8 z] w λr w'=>r= .bool (jT z t)/\aj [] w w':=by
 have e:=E;obtain⟨a,n,c,rfl,_,_⟩:=cW E;have b:=aj.refl [] w;have K:=pZ t;refine cu [.tmp 4] 39 Tryz.func141 rfl aeZ rfl rfl ?_;refine zr<|eK rfl λI F A _=>bQ F b e λb e=>?_;refine W ?_;refine jq (λ_:Unit=>[(2,.pointer<|some ⟨w.heap.size,0,none⟩),(7,.int .u8 z),(8,.bool (decide (z=114)||decide (z=42)))]) (λ_ w'=>w'=I) ?_ ?_;refine zc rfl (λo=>?_) λo=>?_;refine WZ ?_;exact⟨(),⟨rfl,rfl,congrArg Value.bool<|BH o⟩,rfl⟩;refine W ?_;exact⟨(),⟨rfl,rfl,congrArg Value.bool<|BI o⟩,rfl⟩;intro _ y _ H;obtain rfl:=H;refine zc rfl (λp=>?_) λp=>?_;have f:=BJ p;refine W ?_;refine aA (aiU t _ L y e) ?_;rintro _ j ⟨rfl,d⟩;have C:=d.size;have b:=b.ext d;refine W ?_;exact⟨_,rfl,show Value.bool _=Value.bool _ from congrArg _ (by rw[jT,iP f];rfl),b⟩;have f:=BK p;refine W ?_;refine zc rfl (λq=>?_) λq=>?_;have g:=q;refine W ?_;refine aA (LJ _ _) ?_;rintro _ _ ⟨rfl,rfl⟩;refine W ?_;exact⟨_,rfl,show Value.bool _=Value.bool _ from congrArg _<|by rw[jT,iN f,iP g],b⟩;have g:=q;refine W ?_;refine zc rfl (λs=>?_) λs=>?_;have i:=s;refine W ?_;refine aA (Wp _ om _) ?_;rintro _ _ ⟨rfl,rfl⟩;refine W ?_;exact⟨_,rfl,show Value.bool _=Value.bool _ from congrArg _<|by rw[jT,iN f,iN g,iP i],b⟩;have i:=s;refine W ?_;refine zc rfl (λu=>?_) λu=>?_;have m:=u;refine W ?_;refine aA (LI t _ L y e) ?_;rintro _ j ⟨rfl,d⟩;have C:=d.size;refine cQ d b e A λb e A=>?_;refine WZ ?_;apply oA 3 33 36 (aj [] j) rfl oQ;intro _;refine W ?_;refine aA (PV t.size t (lR _) D B false _ L j e) ?_;rintro _ J ⟨rfl,l⟩;have M:=l.size;exact oQ;intro _ J l;have b:=b.ext l;refine W ?_;exact⟨_,rfl,show Value.bool _=Value.bool _ from congrArg _<|by rw[jT,iN f,iN g,iN i,iP m],b⟩;have m:=u;refine W ?_;refine aA (PV t.size t (lR _) D B false _ L y e) ?_;rintro _ j ⟨rfl,d⟩;have C:=d.size;have b:=b.ext d;refine W ?_;exact⟨_,rfl,show Value.bool _=Value.bool _ from congrArg _<|by rw[jT,iN f,iN g,iN i,iN m],b⟩
theorem aiW (h:ak) (w:World):bD Tryz.prog 139 [str h] w λr w'=>r=str (shapeOf h)/\w=w':=by refine cu [.tmp 2] 25 Tryz.func139 rfl aeW rfl rfl ?_;refine W ?_;refine zc rfl (λm=>?_) λm=>?_;have a:=m;refine W ?_;exact⟨_,rfl,show str _=str _ from congrArg _<|by rw[shapeOf,iP a],rfl⟩;have a:=m;refine W ?_;refine jq (λ_:Unit=>[(3,str h),(6,.bool (decide (h=[109,111,118])||decide (h=[111,112,101,110])))]) (λ_ w'=>w'=w) ?_ ?_;refine zc rfl (λn=>?_) λn=>?_;refine WZ ?_;exact⟨(),⟨rfl,congrArg Value.bool<|BH n⟩,rfl⟩;refine W ?_;exact⟨(),⟨rfl,congrArg Value.bool<|BI n⟩,rfl⟩;intro l D _ e;obtain rfl:=e;refine zc rfl (λo=>?_) λo=>?_;have b:=BJ o;refine W ?_;exact⟨_,rfl,show str _=str _ from congrArg _<|by rw[shapeOf,iN a,iP b],rfl⟩;have b:=BK o;refine W ?_;refine jq (λ_:Unit=>[(3,str h),(9,.bool (decide (h=[97,100,100])||decide (h=[115,117,98])||decide (h=[109,117,108])))]) (λ_ w'=>w'=D) ?_ ?_;refine zc rfl (λp=>?_) λp=>?_;refine WZ ?_;exact⟨(),⟨rfl,congrArg Value.bool<|Ow p⟩,rfl⟩;have C:=p;refine W ?_;refine zc rfl (λq=>?_) λq=>?_;refine WZ ?_;exact⟨(),⟨rfl,congrArg Value.bool<|Ox C q⟩,rfl⟩;refine W ?_;exact⟨(),⟨rfl,congrArg Value.bool<|Oy C q⟩,rfl⟩;intro l E _ e;obtain rfl:=e;refine zc rfl (λs=>?_) λs=>?_;have c:=Oz s;refine W ?_;exact⟨_,rfl,show str _=str _ from congrArg _<|by rw[shapeOf,iN a,iN b,iP c],rfl⟩;have c:=OB s;refine W ?_;refine zc rfl (λt=>?_) λt=>?_;have d:=t;refine W ?_;exact⟨_,rfl,show str _=str _ from congrArg _<|by rw[shapeOf,iN a,iN b,iN c,iP d],rfl⟩;have d:=t;refine W ?_;refine zc rfl (λu=>?_) λu=>?_;have f:=u;refine W ?_;exact⟨_,rfl,show str _=str _ from congrArg _<|by rw[shapeOf,iN a,iN b,iN c,iN d,iP f],rfl⟩;have f:=u;refine W ?_;refine jq (λ_:Unit=>[(3,str h),(17,.bool (decide (h=[108,97,98])||decide (h=[122,101,114,111])))]) (λ_ w'=>w'=E) ?_ ?_;refine zc rfl (λv=>?_) λv=>?_;refine WZ ?_;exact⟨(),⟨rfl,congrArg Value.bool<|BH v⟩,rfl⟩;refine W ?_;exact⟨(),⟨rfl,congrArg Value.bool<|BI v⟩,rfl⟩;intro l F _ e;obtain rfl:=e;refine zc rfl (λj=>?_) λj=>?_;have g:=BJ j;refine W ?_;exact⟨_,rfl,show str _=str _ from congrArg _<|by rw[shapeOf,iN a,iN b,iN c,iN d,iN f,iP g],rfl⟩;have g:=BK j;refine W ?_;refine zc rfl (λA=>?_) λA=>?_;have i:=A;refine W ?_;exact⟨_,rfl,show str _=str _ from congrArg _<|by rw[shapeOf,iN a,iN b,iN c,iN d,iN f,iN g,iP i],rfl⟩;have i:=A;refine W ?_;refine jq (λ_:Unit=>[(3,str h),(22,.bool (decide (h=[106,117,109,112])||decide (h=[104,97,108,116])))]) (λ_ w'=>w'=F) ?_ ?_;refine zc rfl (λy=>?_) λy=>?_;refine WZ ?_;exact⟨(),⟨rfl,congrArg Value.bool<|BH y⟩,rfl⟩;refine W ?_;exact⟨(),⟨rfl,congrArg Value.bool<|BI y⟩,rfl⟩;intro l _ _ e;obtain rfl:=e;refine zc rfl (λz=>?_) λz=>?_;have B:=BJ z;refine W ?_;exact⟨_,rfl,show str _=str _ from congrArg _<|by rw[shapeOf,iN a,iN b,iN c,iN d,iN f,iN g,iN i,iP B],rfl⟩;have B:=BK z;refine W ?_;exact⟨_,rfl,show str _=str _ from congrArg _<|by rw[shapeOf,iN a,iN b,iN c,iN d,iN f,iN g,iN i,iN B],rfl⟩
theorem Wq (t:aq) (hs:t.size<=100000) (O:WF t) (v:Value) (L:List Nat) (w:World) (M:aV L w v t):
  bD Tryz.prog 110 [v] w λr w'=>r= .bool (mj t)/\aj [] w w':=by
 have u:=M;obtain⟨a,n,c,rfl,C,f⟩:=cW M;have e:=aj.refl [] w;have Ec:=lD t;have oZ:=ac0<|bC t;refine cu [.tmp 2] 67 Tryz.func110 rfl aev rfl rfl ?_;refine zr<|eK rfl λw1 g l _=>cQ g e f u λe f u=>?_;refine W ?_;refine aA (LI t _ L w1 u) ?_;rintro _ w2 ⟨rfl,I⟩;have dA:=I.size;refine cQ I e f l λe f l=>?_;refine aA (aiW _ _) ?_;rintro _ _ ⟨rfl,rfl⟩;refine W ?_;refine zc rfl (λj=>?_) λj=>?_;refine W ?_;exact⟨_,rfl,by rw[OE j];rfl,e⟩;have y:=j;refine WZ ?_;apply oB 8 14 22 rfl oQ;intro S;refine WZ ?_;exact oQ;intro xx;refine WZ ?_;apply oP 5 23 28 rfl oQ;intro _;refine WZ ?_;exact oQ;intro xx;refine bf<|zc rfl (λz=>?_) λz=>?_;have hb:=(Ua C).symm.trans z;refine W ?_;exact⟨_,rfl,by rw[OF hb];rfl,e⟩;have hb:=(Ua C).symm.trans z;have S:=acZ hb;have q:=OD y;refine W ?_;refine eW (λk:Nat=>[(1,.pointer<|some ⟨w.heap.size,0,none⟩),(3,str (shapeOf<|bC t)),(4,.int .i64 (k:Int))]) (λk w'=>aj [] w w'/\aj [] w2 w'/\1<=k/\k<=t.ag.length/\∀i,i<k->1<=i->vJ t i=true) (λk=>t.ag.length-k) (1) (⟨rfl,rfl,rfl⟩) (⟨e,aj.refl [] _,om,om,by intro i K j;omega⟩) λd _ _ U=>?_;obtain⟨e,g,hk,_,J⟩:=U;refine bQ g f l λf l=>?_;refine W ?_;refine zc rfl (λT=>?_) λT=>?_;have V:=ek (ps:=t.ag) (i:=d) om;obtain⟨b,E,Z,pn,pc,rfl,_,P,o⟩:=gB f V;have mG:=List.length_pos_iff.2 y;refine WZ ?_;apply km dh 14 (rA 36 14) (rA 36 14) [[],[0],[],[1,2],[3],[],[],[],[7],[6,8],[9],[5,10],[4,11],[12]] [It.v _,It.v _,It.v _,It.v _,It.v _,It.v _,It.v _,It.v _,It.v _,It.v _,It.v _,It.v _,It.v _,It.v (.bool<|!vJ t d)] de rfl;intro _ aC;refine VA ?_;refine vk aC (λx s m=>?_) ?_;refine acG rfl rfl rfl rfl (show(if((shapeOf<|bC t).length:Int)<(d:Int) then((shapeOf<|bC t).length:Int) else(d:Int))=((min d (shapeOf<|bC t).length:Nat):Int) from by split<;>omega) ?_;exact pv;refine vk aC (λx s m=>?_) ?_;refine x4 rfl rfl rfl rfl rfl (show IntKind.i64.wrap (((min d (shapeOf<|bC t).length:Nat):Int)-1)=((min d (shapeOf<|bC t).length-1:Nat):Int) from by rw[wrap_i64 _ om om];omega) ?_;exact pv;refine vk aC (λx s m=>?_) ?_;refine kJ ji rfl rfl rfl rfl (jP om) ?_;exact pv;refine vk aC (λx s m=>?_) ?_;have o:=o.ext m;refine aA (aiV (nth t.ag d) (by have:=kP (t:=t) (i:=d) om;omega) (O.nth om) _ _ L s<|jQ o) ?_;rintro _ _ ⟨rfl,H⟩;have mq:=H.size;exact pk H;exact VZ;intro x _ Q;refine bQ Q e g λe g=>?_;change OW _ _ _ _ [] (aY (aX _ x _)<|zZ 36 [_,_,_,_,_,_,_,_,_,_,_,_,_,_]) _;refine bf<|zc rfl (λA=>?_) λA=>?_;have D:vJ t d=false:=by simpa using A
 refine W ?_;exact⟨_,rfl,by rw[ac1 om hk D];rfl,e⟩;have D:vJ t d=true:=by simpa using A
 refine W ?_;exact⟨d+1,⟨rfl,rfl,rfl⟩,⟨e,g,om,om,by intro i K j;rcases Nat.lt_or_ge i d with h|h;exact J i h j;rw[show i=d by omega];exact D⟩,om⟩;have F:=ac2 y hb λi K=>J i om;have Y:=ek q.2.1;obtain⟨b,E,Z,pn,pc,rfl,_,P,o⟩:=gB f Y;refine WI ?_;refine zi (i:=0) cT aO rfl rfl (by rw[C];exact q.2.1)<|W ?_;refine zc rfl (λB=>?_) λB=>?_;have p:bC t=[103,101,116]:=q.2.2.trans B;have Ac:=acY hb p;have X:=ek (ps:=t.ag) (i:=3) om;obtain⟨_,_,_,_,_,R,N,_,_⟩:=gB f X;cases R;refine zr<|zf kn rfl<|zl jC rfl (l.at rfl)<|zi (i:=3) cT aO rfl rfl om<|zf ml rfl<|zl gI rfl (N 0 _ rfl)<|aA (LJ _ _) ?_;rintro _ _ ⟨rfl,rfl⟩;refine W ?_;exact⟨_,rfl,show Value.bool _=Value.bool _ from congrArg _<|by rw[F,show decide (bC t≠[103,101,116])=false from dF λh=>h p,Bool.false_or],e⟩;have p:bC t≠[103,101,116]:=λh=>B<|q.2.2.symm.trans h;refine W ?_;exact⟨_,rfl,by rw[F,dT p];rfl,e⟩
theorem aiX (s:ak) (w:World):bD Tryz.prog 103 [str s] w λr w'=>r= .bool (uh s)/\aj [] w w':=by have a:=aj.refl [] w;refine cu [.tmp 2] 15 Tryz.func103 rfl aeq rfl rfl ?_;refine W ?_;refine aA (Ab s [] w sm) ?_;rintro _ _ ⟨p,f⟩;have y:=f.size;have a:=a.ext f;obtain⟨t,_,rfl,b,l⟩:=p;obtain⟨_,_,_,rfl,_,_⟩:=cW b;refine W ?_;refine dj aO rfl rfl rfl λ_ g i _=>?_;have a:=a.grow;have a:=a.ext g;have b:=b.grow;have b:=b.ext g;refine cF aO rfl rfl rfl i rfl λm e i _=>?_;have a:=a.aB e sx;have b:=b.aB e sx;refine W ?_;apply oA 3 11 14 (aj [] m) rfl oQ;intro q;obtain⟨u,d⟩:=Option.isSome_iff_exists.1 q;have n:=l u d;have j:=vI d;have o:=BG d;rw[<-n] at j o;refine W ?_;refine aA (PV t.size t (lR _) om j false _ _ m b) ?_;rintro _ v ⟨rfl,c⟩;have z:=c.size;exact oQ;intro _ v c;have a:=a.ext c;refine W ?_;exact⟨_,rfl,show Value.bool _=Value.bool _ from congrArg _<|KP l,a⟩
theorem IP (s:ak) (w:World):bD Tryz.prog 83 [str s] w λr w'=>r= .bool (ui s)/\aj [] w w':=by have a:=aj.refl [] w;refine cu [.tmp 2] 15 Tryz.func83 rfl agM rfl rfl ?_;refine W ?_;refine aA (Ab s [] w sm) ?_;rintro _ _ ⟨p,f⟩;have y:=f.size;have a:=a.ext f;obtain⟨t,_,rfl,b,l⟩:=p;obtain⟨_,_,_,rfl,_,_⟩:=cW b;refine W ?_;refine dj aO rfl rfl rfl λ_ g i _=>?_;have a:=a.grow;have a:=a.ext g;have b:=b.grow;have b:=b.ext g;refine cF aO rfl rfl rfl i rfl λm e i _=>?_;have a:=a.aB e sx;have b:=b.aB e sx;refine W ?_;apply oA 3 11 14 (aj [] m) rfl oQ;intro q;obtain⟨u,d⟩:=Option.isSome_iff_exists.1 q;have n:=l u d;have j:=vI d;have o:=BG d;rw[<-n] at j o;refine W ?_;refine aA (Wq t om j _ _ m b) ?_;rintro _ v ⟨rfl,c⟩;have z:=c.size;exact oQ;intro _ v c;have a:=a.ext c;refine W ?_;exact⟨_,rfl,show Value.bool _=Value.bool _ from congrArg _<|KP l,a⟩
theorem LK (s:ak) (w:World):bD Tryz.prog 84 [str s] w λr w'=>r= .bool (FV s)/\aj [] w w':=by have a:=aj.refl [] w;refine cu [.tmp 2] 31 Tryz.func84 rfl agN rfl rfl ?_;refine W ?_;refine aA (Ab s [] w sm) ?_;rintro _ _ ⟨C,o⟩;have I:=o.size;have a:=a.ext o;obtain⟨t,_,rfl,d,v⟩:=C;obtain⟨_,_,_,rfl,q,c⟩:=cW d;refine W ?_;refine dj aO rfl rfl rfl λ_ l e _=>?_;have a:=a.grow;have a:=a.ext l;have d:=d.grow;have d:=d.ext l;have c:=c.grow;have c:=c.ext l;refine cF aO rfl rfl rfl e rfl λy g e _=>?_;have a:=a.aB g sx;have d:=d.aB g sx;have c:=c.aB g sx;refine W ?_;apply oA 3 11 14 (aj [] y) rfl oQ;intro D;obtain⟨F,n⟩:=Option.isSome_iff_exists.1 D;have A:=v F n;have p:=vI n;have B:=BG n;rw[<-A] at p B;refine W ?_;refine aA (Wq t om p _ _ y d) ?_;rintro _ H ⟨rfl,j⟩;have J:=j.size;exact oQ;intro z H j;refine cQ j a c e λa c e=>?_;refine WZ ?_;apply oB 15 15 30 rfl oQ;intro u;simp only[aE] at u;have m:=ac3 u.2;have E:=ek m;obtain⟨b,_,_,_,_,rfl,_,_,_⟩:=gB c E;refine WI ?_;refine zi (i:=0) cT aO rfl rfl (by rw[q];exact m)<|WZ ?_;apply oP 7 22 29 rfl oQ;intro _;refine WI ?_;refine zi (i:=0) cT aO rfl rfl (by rw[q];exact m)<|WZ ?_;exact oQ;intro z;exact oQ;intro z;refine W ?_;exact⟨_,rfl,show Value.bool _=Value.bool _ from congrArg _ (by rw[Bool.and_assoc];exact KP (f:=KQ) v),a⟩
theorem aiY (bs:List Bk) (hb:bs.length<9223372036854775807) (l:ak) (v:Value) (L:List Nat) (w:World) (m:l0 L w v bs):
  bD Tryz.prog 50 [v,str l] w λr w'=>r= .int .i64 (p4 bs l)/\w=w':=by
 obtain⟨a,n,c,rfl,_⟩:=BC m;refine cu [.tmp 4] 20 Tryz.func50 rfl ago rfl rfl ?_;refine W ?_;refine eW (λk:Nat=>[(0,.slice a n c),(1,str l),(5,.int .i64 (k:Int))]) (λk w'=>w'=w/\k<=bs.length/\∀i,i<k->(bX bs i).aL≠l) (λk=>bs.length-k) (0) (⟨rfl,rfl,rfl⟩) (⟨rfl,om,by intro i j;omega⟩) λd _ _ p=>?_;obtain⟨rfl,hk,e⟩:=p;refine W ?_;refine zc rfl (λo=>?_) λo=>?_;have q:=s0 (bs:=bs) (i:=d) om;obtain⟨b,_,a1,_,c1,a2,_,c2,rfl,_,_,_,_,_⟩:=zJ m q;refine W ?_;refine zc rfl (λf=>?_) λf=>?_;have g:=Ub om e f;refine W ?_;exact⟨_,rfl,by rw[g];rfl,rfl⟩;refine W ?_;exact⟨d+1,⟨rfl,rfl,rfl⟩,⟨rfl,om,by intro i j;rcases Nat.lt_or_ge i d with h|h;exact e i h;rw[show i=d by omega];exact f⟩,om⟩;have g:=ac4 λi j=>e i om;refine W ?_;exact⟨_,rfl,by rw[g];rfl,rfl⟩
theorem aiZ (k:Bk) (Z:k.aL.length<1000000000) (V:k.ck.length<1000000000) (Y:k.code.length<1000000000) (v:Value) (L:List Nat) (w:World) (P:pq L w v k):
  bD Tryz.prog 66 [v] w λr w'=>r= .bool (kA k)/\aj [] w w':=by
 obtain⟨a1,_,c1,a2,Q,c2,rfl,H,y,m,f⟩:=BA P;have a:=aj.refl [] w;refine cu [.tmp 2] 65 Tryz.func66 rfl agz rfl rfl ?_;refine zr<|eK rfl λR d u _=>cQ d a m f λa m f=>?_;refine W ?_;refine aA (Wp _ om _) ?_;rintro _ _ ⟨rfl,rfl⟩;refine WZ ?_;apply oP 5 9 14 rfl oQ;intro _;refine WZ ?_;exact oQ;intro U;refine WZ ?_;apply oP 6 15 21 rfl oQ;intro _;refine W ?_;refine aA (IK _ _ _ _) ?_;rintro _ _ ⟨rfl,rfl⟩;exact oQ;intro U;refine bf<|zc rfl (λo=>?_) λo=>?_;rw[KR H y] at o;have hb:=Uc (b:=k)<|T9 o;refine W ?_;exact⟨_,rfl,by rw[hb];rfl,a⟩;rw[KR H y] at o;have hb:(nu k.aL&&decide (k.ck.length<=40)&&(decide (1<=k.code.length)&&decide (k.code.length<=80)))=true:=T8 o;refine W ?_;refine eW (λi:Nat=>[(1,.pointer<|some ⟨w.heap.size,0,none⟩),(3,.int .i64 (i:Int))]) (λi w'=>aj [] w w'/\aj [] R w'/\i<=k.ck.length/\∀j,j<i->uh (cO k.ck j)=true) (λi=>k.ck.length-i) (0) (⟨rfl,rfl⟩) (⟨a,aj.refl [] _,om,by intro i q;omega⟩) λc I _ A=>?_;obtain⟨a,d,hk,l⟩:=A;refine cQ d m f u λm f u=>?_;refine W ?_;refine zc rfl (λM=>?_) λM=>?_;have B:=lP (xs:=k.ck) (i:=c) om;obtain⟨b,C,rfl,O⟩:=qJ m B;refine W ?_;refine aA (aiX _ I) ?_;rintro _ S ⟨rfl,D⟩;have X:=D.size;refine bQ D a d λa d=>?_;refine kj rfl rfl rfl<|bf<|zc rfl (λz=>?_) λz=>?_;have s:=Ud (b:=k) (i:=c) om (by simpa using z);refine W ?_;exact⟨_,rfl,by rw[s];rfl,a⟩;refine W ?_;exact⟨c+1,⟨rfl,rfl⟩,⟨a,d,om,by intro i q;rcases Nat.lt_or_ge i c with h|h;exact l i h;rw[show i=c by omega];simpa using z⟩,om⟩;have K:∀i,i<k.ck.length->uh (cO k.ck i)=true:=λi q=>l i om;clear l d hk;refine W ?_;refine eW (λi:Nat=>[(1,.pointer<|some ⟨w.heap.size,0,none⟩),(4,.int .i64 (i:Int))]) (λi w'=>aj [] w w'/\aj [] I w'/\i<=k.code.length/\∀j,j<i->s5 k.code j=true) (λi=>k.code.length-i) (0) (⟨rfl,rfl⟩) (⟨a,aj.refl [] _,om,by intro i q;omega⟩) λc S _ A=>?_;obtain⟨a,d,hk,l⟩:=A;refine bQ d f u λf u=>?_;refine W ?_;refine zc rfl (λN=>?_) λN=>?_;have B:=lP (xs:=k.code) (i:=c) om;obtain⟨b,C,rfl,O⟩:=qJ f B;refine W ?_;refine DQ [43,44,45,46,47,48,49,50,51,52,53,54,55,56,57,58,59,60,61,62,63,64] [(64,.bool (!ui (cO k.code c)||(FV (cO k.code c) !=decide ((c:Int)=(Q:Int)-1))))] ?_ ?_;rcases bE (!ui (cO k.code c)) with ia|ia;apply km dh 22 (rA 43 22) (rA 43 22) [[],[0],[],[1,2],[3],[4],[5],[6],[7],[7,8],[7],[7,9,10],[7,11],[7,12],[7],[7],[7,15],[7,16],[7,17],[7,14,18],[7,13,19],[7,20]] [It.v _,It.v _,It.v _,It.v _,It.v _,It.v _,It.v _,It.v (.bool true),It.v _,It.v _,It.v _,It.v _,It.v _,It.v _,It.v _,It.v _,It.v _,It.v _,It.v _,It.v _,It.v _,It.v _] de rfl;intro T aC;refine VA ?_;refine vk aC (λx g t=>?_) ?_;refine aA (IP _ g) ?_;rintro _ J ⟨rfl,e⟩;have F:=e.size;exact pk e;refine VA ?_;refine vc (λx g t=>?_) ?_;refine WZ ?_;exact pv (by exact congrArg Value.bool ia);exact VZ;intro x E n;change OW _ _ _ _ [] (aY (aX _ x _) (zZ 43 [_,_,_,_,_,_,_,_,_,_,_,_,_,_,_,_,_,_,_,_,_,_])) _;refine W ?_;exact kE n;apply km dh 22 (rA 43 22) (rA 43 22) [[],[0],[],[1,2],[3],[4],[5],[6],[7],[7,8],[7],[7,9,10],[7,11],[7,12],[7],[7],[7,15],[7,16],[7,17],[7,14,18],[7,13,19],[7,20]] [It.v _,It.v _,It.v _,It.v _,It.v _,It.v _,It.v _,It.v (.bool false),It.v _,It.v _,It.v _,It.v _,It.v _,It.v _,It.v _,It.v _,It.v _,It.v _,It.v _,It.v _,It.v _,It.v _] de rfl;intro T aC;refine VA ?_;refine vk aC (λx g t=>?_) ?_;refine aA (IP _ g) ?_;rintro _ J ⟨rfl,e⟩;have F:=e.size;exact pk e;refine VA ?_;refine vc (λx g t=>?_) ?_;refine WZ ?_;exact pv (by exact congrArg Value.bool ia);refine VA ?_;refine vk aC (λx g t=>?_) ?_;refine aA (LK _ g) ?_;rintro _ J ⟨rfl,e⟩;have F:=e.size;exact pk e;exact VZ;intro x E n;change OW _ _ _ _ [] (aY (aX _ x _) (zZ 43 [_,_,_,_,_,_,_,_,_,_,_,_,_,_,_,_,_,_,_,_,_,_])) _;refine W ?_;exact kE n;intro x E n;refine bQ n a d λa d=>?_;refine zc rfl (λp=>?_) λp=>?_;rw[OG y om] at p;have s:=Ue (b:=k) (i:=c) om (by simpa using p);refine W ?_;exact⟨_,rfl,by rw[s];rfl,a⟩;rw[OG y om] at p;refine W ?_;exact⟨c+1,⟨rfl,rfl⟩,⟨a,d,om,by intro i q;rcases Nat.lt_or_ge i c with h|h;exact l i h;rw[show i=c by omega];simpa using p⟩,om⟩;have s:=Uf hb K λi q=>l i om;refine W ?_;exact⟨_,rfl,by rw[s];rfl,a⟩
theorem Wr (bs:List Bk) (hb:uj bs) (v:Value) (L:List Nat) (w:World) (d:l0 L w v bs):
  bD Tryz.prog 33 [v] w λr w'=>r= .bool (iK bs)/\aj [] w w':=by
 obtain⟨a,n,c,rfl,N⟩:=BC d;have e:=aj.refl [] w;have P:=hb.1;refine cu [.tmp 2] 45 Tryz.func33 rfl af8 rfl rfl ?_;refine W ?_;refine eW (λi:Nat=>[(0,.slice a n c),(3,.int .i64 (i:Int))]) (λi w'=>aj [] w w'/\i<=bs.length/\∀j,j<i->kA (bX bs j)=true/\p4 bs (bX bs j).aL=(j:Int)) (λi=>bs.length-i) (0) (⟨rfl,rfl⟩) (⟨e,om,by intro i C;omega⟩) λf O _ K=>?_;obtain⟨e,hk,q⟩:=K;have d:=d.ext e;refine W ?_;refine zc rfl (λH=>?_) λH=>?_;have M:=s0 (bs:=bs) (i:=f) om;obtain⟨b,m,a1,D,c1,a2,E,c2,rfl,g,s,A,p,o⟩:=zJ d M;have y:=hb.2 f om;refine W ?_;refine aA (aiZ (bX bs f) y.1 y.2.1 y.2.2 _ _ O<|BB p o) ?_;rintro _ _ ⟨rfl,z⟩;have o:=z.size;refine cQ z e d g λe d g=>?_;refine WZ ?_;apply oP 10 16 26 rfl oQ;intro _;refine zm<|zm<|zm<|zi lE ix rfl rfl om<|zf O9 rfl<|zl gI rfl (g 0 _ rfl)<|aA (aiY bs om _ _ _ _ d) ?_;rintro _ _ ⟨rfl,rfl⟩;exact oQ;intro F;refine bf<|zc rfl (λl=>?_) λl=>?_;have u:=Ug (bs:=bs) (i:=f) om (λB=>by rw[B.1,B.2] at l;simp at l);refine W ?_;exact⟨_,rfl,by rw[u];rfl,e⟩;simp only[Bool.or_eq_false_iff,Bool.not_eq_false',decide_eq_false_iff_not,ne_eq,Classical.not_not] at l;refine W ?_;exact⟨f+1,⟨rfl,rfl⟩,⟨e,om,by intro i C;rcases Nat.lt_or_ge i f with h|h;exact q i h;rw[show i=f by omega];exact l⟩,om⟩;have u:=Uh λi C=>q i om;clear q;refine W ?_;refine aA (IK _ _ _ _) ?_;rintro _ _ ⟨rfl,rfl⟩;refine WZ ?_;apply oB 6 30 36 rfl oQ;intro I;simp at I;have t:=s0 (bs:=bs) (i:=0) om;obtain⟨b,m,a1,D,c1,a2,E,c2,rfl,g,s,A,p,o⟩:=zJ d t;refine zm<|zi (i:=0) lE ix rfl rfl om<|zf O9 rfl<|zl gI rfl (g 0 _ rfl) ?_;exact oQ;intro F;refine WZ ?_;apply oB 7 37 44 rfl oQ;intro J;simp at J;have t:=s0 (bs:=bs) (i:=0) om;obtain⟨b,m,a1,D,c1,a2,E,c2,rfl,g,s,A,p,o⟩:=zJ d t;subst s;refine zm<|zi (i:=0) lE ix rfl rfl om<|zf Pa rfl<|zl wZ rfl (g 1 _ rfl) ?_;exact oQ;intro F;refine W ?_;exact⟨_,rfl,show Value.bool _=Value.bool _ from congrArg _ (by rw[u];exact ac5 N λ_=>rfl),e⟩
def dM.enc (b:dM):List C:=[.val<|str b.aL,.sl 2<|da b.regs,.sl 2 (da b.code)]
def o3 (L:List Nat) (w:World) (v:Value) (b:dM):Prop:=jh L w v b.enc
theorem o3.ext {b:dM} (h:o3 L w v b) (k:aj [] w w'):o3 L w' v b:=jh.ext h k
theorem o3.grow {b:dM} (h:o3 L w v b):o3 (w.heap.size::L) w v b:=jh.fresh h ua
theorem o3.aB {b:dM} (h:o3 L w v b) (k:aj L' w w') (a:∀x∈L',x∈L):o3 L w' v b:=jh.aG h<|k.mono a
theorem o3.dY {b:dM} (h:o3 L w v b) (a:∀x∈L',x∈L):o3 L' w v b:=jh.fresh h λx c=>.inl<|a x c
theorem Ws {b:dM} (h:dy L w vs b.enc):∃a c,vs=[str b.aL,a,c]/\cD L w a b.regs/\cD L w c b.code:=by
 rw[dM.enc] at h
 match vs,h with
 |[_,a,c],h=>obtain⟨d,e,f,_⟩:=h;cases d;exact⟨a,c,rfl,e,f⟩
 |[],h=>exact h.elim
 |[_],h=>exact h.2.elim
 |[_,_],h=>exact h.2.2.elim
 |_::_::_::_::_,h=>exact h.2.2.2.elim
theorem yy {b:List aq} (h:cD L w v b):∃a c,v= .slice a b.length c:=by grind [cD,sX,iu]
theorem Wt {b:dM} (h:o3 L w v b):∃a1 c1 a2 c2,v= .agg #[str b.aL,.slice a1 b.regs.length c1,.slice a2 b.code.length c2]/\
  cD L w (.slice a1 b.regs.length c1) b.regs/\cD L w (.slice a2 b.code.length c2) b.code:=by
 obtain⟨vs,rfl,d⟩:=h;obtain⟨_,_,rfl,a,c⟩:=Ws d;obtain⟨a1,c1,rfl⟩:=yy a;obtain⟨a2,c2,rfl⟩:=yy c;exact⟨a1,c1,a2,c2,rfl,a,c⟩
theorem PX {l:ak} {r c:List aq} {a b:Value} (d:cD L w a r) (e:cD L w b c):o3 L w (.agg #[str l,a,b]) ⟨l,r,c⟩:=
 ⟨[str l,a,b],rfl,.val _,d,e,trivial⟩
theorem o3.jR {x y:Value} {b:dM} (h:o3 L w (.agg #[x,y,z]) b):dy L w [x,y,z] b.enc:=by
 obtain⟨vs,a,c⟩:=h;have d:vs=[x,y,z]:=by have:=congrArg (λv=>match v with|Value.agg x=>x.toList|_=>[]) a;simpa using this.symm
 rw[<-d];exact c
def j9 (L:List Nat) (w:World) (v:Value) (a:List dM):Prop:=cA L w v (.sl 3<|a.map dM.enc)
theorem j9.ext (h:j9 L w v ps) (k:aj [] w w'):j9 L w' v ps:=cA.ext h k
theorem j9.grow {b:List dM} (h:j9 L w v b):j9 (w.heap.size::L) w v b:=cA.fresh h ua
theorem j9.aB {b:List dM} (h:j9 L w v b) (k:aj L' w w') (a:∀x∈L',x∈L):j9 L w' v b:=cA.aG h<|k.mono a
theorem j9.dY {b:List dM} (h:j9 L w v b) (a:∀x∈L',x∈L):j9 L' w v b:=cA.fresh h λx c=>.inl<|a x c
theorem Wu:j9 L w (.slice none 0 0) []:=.nil _ _ _
theorem Gq (h:j9 L w v ps):∃a c,v= .slice a ps.length c:=by grind [j9,sX]
theorem Gs {k:dM} (h:j9 L w (.slice a n c) ps) (l:ps[i]?=some k):
  ∃b d a1 c1 a2 c2,a=some ⟨b,d,none⟩/\fZ w b (d+i*3) [str k.aL,.slice a1 k.regs.length c1,.slice a2 k.code.length c2]/\cD L w (.slice a1 k.regs.length c1) k.regs/\cD L w (.slice a2 k.code.length c2) k.code:=by
 obtain⟨b,d,vs,g,hb,_,_,j,m⟩:=zw h (show(ps.map dM.enc)[i]?=some k.enc by simp[l]);obtain⟨_,_,rfl,e,f⟩:=Ws m;obtain⟨a1,c1,rfl⟩:=yy e;obtain⟨a2,c2,rfl⟩:=yy f;exact⟨b,d,a1,c1,a2,c2,g,j,e,f⟩
theorem Gr.prog {T:TypeId} (h:Gr B L w T 3 v g (ps.map dM.enc)):j9 L w v ps:=h.done
section
variable {P:Program} {n:Nat} {ops:Array Oper} {K:Env->World->Prop} {rest:List Oper} {e:Env} {w:World}
 {dst:Option Nat} {ty:TypeId} {pos:String} {after:Array Edge} {g:Option (Nat×Bool)} {x y:Operand}
theorem ai0 {B:Nat} {L:List Nat} {v r s A:Value} {m:Option Nat} {d:List dM} {f:dM} {b U:Nat} (J:P.underlying t=some (.slice E)) (H:TI P E 3 bytes z) (N:gate ops e g=true) (M:cK n dst=true) (T:Nat.beq z.cells.size 3=true) (F:Nat.ble bytes 1000=true) 
  (R:ev e x=v) (S:ev e y= .slice (some ⟨b,0,none⟩) 1 1) (I:Gr B L w E 3 v m (d.map dM.enc)) (hb:aK w b [r,s,A].toArray U)
  (q:o3 (m.toList++L) w (.agg #[r,s,A]) f) (O:d.length<100000000)
  (k:∀j a l w',Gr B L w' E 3 (.slice j (d++[f]).length a) l ((d++[f]).map dM.enc)->aj m.toList w w'->OW P n ops K rest (cj e dst (.slice j (d++[f]).length a)) w'):
  OW P n ops K (⟨dst,.call {callee:=.builtin .append,args:=#[x,y],argTypes:=#[t,t]},ty,pos,after,g⟩::rest) e w:=by
 refine H8 J H N M T F R S I hb rfl ?_ q.jR (by simpa using O) ?_
 .rw[List.all_eq_true];refine λu Q=>dy.H6 q.jR (λc o v i=>?_) u Q;rw[dM.enc] at o;simp only[mC,List.not_mem_nil,or_false] at o;rcases o with h|h|h
  .rw[h] at i;cases i;rfl
  .rw[h] at i;cases i
  .rw[h] at i;cases i
 .intro j a l w' p hk;have C:(d.map dM.enc).length+1=(d++[f]).length:=by simp
  have D:d.map dM.enc++[f.enc]=(d++[f]).map dM.enc:=by simp
  rw[C] at p⊢;rw[D] at p;exact k j a l w' p hk
end
theorem vU:∀(m:Nat) (t:aq),t.size<=m->WF t->t.size<=100000000->t.text.length<=100000000->∀(v:Value) (L:List Nat) (w:World),aV L w v t->
  bD Tryz.prog 116 [v] w λr w'=>r=str t.text/\aj [] w w':=by
 intro m;induction m with
 |zero=>intro t h e;have:=OL e;omega
 |succ m O=>
  intro t _ e _ _ v L w M;obtain⟨a,n,c,rfl,J,B⟩:=cW M;subst J;have T:=lD t;have d:=aj.refl [] w;refine cu [.tmp 2] 31 Tryz.func116 rfl aeB rfl rfl ?_;refine zr<|eK rfl λ_ A f _=>?_;have d:=d.ext A;refine W ?_;refine zc rfl (λo=>?_) λo=>?_;have K:=UG e (by rw[e.leaf o];rfl);refine W ?_;exact⟨_,rfl,show str _=str _ from congrArg _ K.symm,d⟩;have j:t.au=[]:=Classical.not_not.1 o;refine W ?_;refine eW (λk:Nat=>[(1,.pointer<|some ⟨w.heap.size,0,none⟩),(3,str (wX<|t.ag.take k)),(4,.int .i64 (k:Int))]) (λk w'=>aj [] w w'/\aK w' w.heap.size [str t.au,.slice a t.ag.length c].toArray 103/\k<=t.ag.length) (λk=>t.ag.length-k) (0) (⟨rfl,rfl,rfl⟩) (⟨d,f,om⟩) λb P _ p=>?_;obtain⟨d,f,hk⟩:=p;refine W ?_;refine zc rfl (λH=>?_) λH=>?_;have D:=ek (ps:=t.ag) (i:=b) om;obtain⟨_,_,_,_,_,rfl,N,C,E⟩:=gB B D;subst C;have y:=e.nth (i:=b) om;have S:=kP (t:=t) (i:=b) om;have u:=OX e j hk;have U:=OX e j (k:=b+1) om;have s:=UI (ps:=t.ag) (k:=b) om;have g:=congrArg List.length s;rw[lA] at g;refine W ?_;refine jq (λ_:Unit=>[(1,.pointer<|some ⟨w.heap.size,0,none⟩),(3,str<|wX (t.ag.take b)++(if b=0 then[] else[32])),(4,.int .i64 (b:Int))]) (λ_ w'=>w'=P) ?_ ?_;refine zc rfl (λI=>?_) λI=>?_;have l:¬b=0:=by omega
  refine W ?_;exact⟨(),⟨rfl,by rw[iN l];rfl,rfl⟩,rfl⟩;have l:b=0:=by omega
  refine WZ ?_;exact⟨(),⟨rfl,by rw[iP l,List.append_nil];rfl,rfl⟩,rfl⟩;intro _ Q _ p;obtain rfl:=p;refine WL ?_;refine zl jC rfl (f.at rfl)<|zm<|zi cT aO rfl rfl om<|zL fN aO rfl (N.ext d) rfl<|aA (O (nth t.ag b) om y om om _ L Q<|(jQ E).ext d) ?_;rintro _ _ ⟨rfl,q⟩;have R:=q.size;refine bQ q d f λd f=>?_;refine jd rfl rfl om<|W ?_;exact⟨b+1,⟨rfl,by rw[s];rfl,rfl⟩,⟨d,f,om⟩,om⟩;have F:b=t.ag.length:=by omega
  have z:=UJ e j;have u:=OX e j hk;subst F;refine WS ?_;refine jd rfl rfl (by simp at u⊢;omega)<|zA<|bf<|la ?_;exact⟨_,rfl,show str _=str _ from congrArg _ z,d⟩
theorem uK (h:ak) (ps:List ak) (y:(dz h ps).length<=1000000000) (v:Value) (L:List Nat) (w:World) (l:bo L w v ps):bD Tryz.prog 79 [str h,v] w λr w'=>r=str (dz h ps)/\aj [] w w':=by
 obtain⟨a,n,c,rfl,t⟩:=eD l;subst t;have d:=aj.refl [] w;have f:=λk=>aem (h:=h) (ps:=ps) k;have u:(wY h ps 0).length=h.length+1:=by simp[wY,pw]
 have o:=f 0;have z:ps.length<=(dz h ps).length:=by simp only[dz,lC,lA,K5,jv];omega
 refine cu [.tmp 4] 24 Tryz.func79 rfl agI rfl rfl ?_;refine WS ?_;refine jd rfl rfl (by simp only[lC,List.length_nil];omega)<|W ?_;refine eW (λk:Nat=>[(1,.slice a ps.length c),(5,str<|wY h ps k),(6,.int .i64 (k:Int))]) (λk w'=>aj [] w w'/\k<=ps.length) (λk=>ps.length-k) (0) (⟨rfl,show str _=str _ from congrArg _<|by simp[wY,pw],rfl⟩) (⟨d,om⟩) λb _ _ q=>?_;obtain⟨d,hk⟩:=q;refine W ?_;refine zc rfl (λp=>?_) λp=>?_;have s:=lP (xs:=ps) (i:=b) om;obtain⟨_,_,rfl,m⟩:=qJ l s;have j:=aek (h:=h) (ps:=ps) (k:=b) om;have e:=congrArg List.length j;simp only[lA,lC,List.length_nil] at e;have g:=f<|b+1;refine WS ?_;refine jd rfl rfl (by simp only[lC,List.length_nil];omega)<|WL ?_;refine zl gI rfl (m.ext d 0 _ rfl)<|jd rfl rfl (by simp only[lA,lC,List.length_nil];omega)<|W ?_;exact⟨b+1,⟨rfl,show str _=str _ from congrArg _ j.symm,rfl⟩,⟨d,om⟩,om⟩;have g:=f b;refine WS ?_;refine jd rfl rfl (by simp only[lC,List.length_nil];omega)<|zA<|bf<|la ?_;exact⟨_,rfl,show str _=str _ from congrArg _<|ael om,d⟩
theorem Ww (bs:List Bk) (hs:uj bs) (Y:(oN bs).length<=100000000) (v:Value) (A:List Nat) (w:World) (F:l0 A w v bs):bD Tryz.prog 43 [v] w λr w'=>r=str (oN bs)/\aj [] w w':=by
 obtain⟨a,n,c,rfl,hn⟩:=BC F;subst hn;have d:=aj.refl [] w;have oZ:=hs.1;have mP:bs.length<=(oN bs).length:=by unfold oN dz;rw[lC,lA,lA,K5];unfold jv;rw[List.length_map];omega
 refine cu [.tmp 2] 32 Tryz.func43 rfl agh rfl rfl ?_;refine W ?_;refine zK w.heap.size [] bA bw rfl rfl (lR _) sm λ_ L _ m=>?_;have d:=d.ext L;refine W ?_;refine eW (λq:Nat×Option Addr×Nat×Option Nat=>[(0,.slice a bs.length c),(3,.slice q.2.1 ((bs.take q.1).map px).length q.2.2.1),(4,.int .i64 (q.1:Int))]) (λq w'=>aj [] w w'/\Gr w.heap.size [] w' 9 1 (.slice q.2.1 ((bs.take q.1).map px).length q.2.2.1) q.2.2.2 (iG<|(bs.take q.1).map px)/\q.1<=bs.length) (λq=>bs.length-q.1) ((0,_,_,_)) (⟨rfl,rfl,rfl⟩) (⟨d,m,sm⟩) λS w2 _ E=>?_;obtain⟨i,a3,_,g⟩:=S;dsimp only at E⊢;obtain⟨d,m,hk⟩:=E;have fR:=d.size;refine W ?_;refine zc rfl (λX=>?_) λX=>?_;have D:=s0 (bs:=bs) (i:=i) om;obtain⟨_,_,_,_,_,_,_,_,rfl,N,_,_,ka,U⟩:=zJ F D;have Z:=aiK<|Wn (bs:=bs) (i:=i) om;have fO:=aiL<|bX bs i;have iI:=aiM<|bX bs i;refine WL ?_;refine zL BT ix rfl (N.ext d) rfl<|dj ix rfl rfl rfl λw3 t s T=>?_;have d:=d.grow;have d:=d.ext t;have m:=m.alloc t T;refine cF ix rfl rfl rfl s rfl λ_ C s _=>?_;have d:=d.aB C sx;have m:=m.aB C sx;refine W ?_;apply oS dh bz 12 (rA 17 12) (rA 17 12) [[],[],[1],[],[3],[4],[],[6],[7],[2,5,8],[9],[10]] [.v _,.v _,.v _,.v _,.v _,.v _,.v _,.v _,.v _,.p<|fun(v:Value) (p:World)=>bo [] p v [(bX bs i).aL,dz [114,101,103,115] (bX bs i).ck,dz [99,111,100,101] (bX bs i).code],.v<|str (px<|bX bs i),.p (fun(v:Value) (p:World)=>∃b,v= .slice (some ⟨b,0,none⟩) 1 1/\aK p b [str (px<|bX bs i)].toArray 9)] de (by exact(bJ<|bJ (bJ<|bJ (bJ<|bJ (bJ<|bJ (bJ<|ky (λv w w' h k=>bo.ext h k) (bJ<|ky (λv w w' ⟨b,e,h⟩ k=>⟨b,e,h.ext k⟩) trivial)))))));intro _ aC;refine cI (λ_ _ _=>WZ<|bR bz) ?_;refine cI (λ_ _ _=>WZ<|bR bz) ?_;refine ga bz aC (λx o f=>?_) ?_;have s:=s.ext f;refine WZ ?_;exact bR bz;refine cI (λ_ _ _=>WZ<|bR bz) ?_;refine ga bz aC (λx o f=>?_) ?_;have s:=s.ext f;refine WZ ?_;exact bR bz;refine ga bz aC (λx o f=>?_) ?_;have d:=d.ext f;refine aA (uK [114,101,103,115] (bX bs i).ck om _ A o (ka.ext d)) ?_;rintro _ z ⟨rfl,l⟩;have J:=l.size;exact BS bz l;refine cI (λ_ _ _=>WZ<|bR bz) ?_;refine ga bz aC (λx o f=>?_) ?_;have s:=s.ext f;refine WZ ?_;exact bR bz;refine ga bz aC (λx o f=>?_) ?_;have d:=d.ext f;refine aA (uK [99,111,100,101] (bX bs i).code om _ A o (U.ext d)) ?_;rintro _ z ⟨rfl,l⟩;have J:=l.size;exact BS bz l;refine eH ?_ ?_;intro x vs o e f u j;have M:(vs 2=(str (bX bs i).aL))/\(vs 5=(str<|dz [114,101,103,115] (bX bs i).ck))/\(vs 8=(str<|dz [99,111,100,101] (bX bs i).code)):=u;obtain⟨d2,d5,d8⟩:=M;replace f:=bz.trans aC f;replace j:e=aY (aX _ x _) [(19,vs 2),(22,vs 5),(25,vs 8)]:=j;rw[d2,d5,d8] at j;subst j;refine sD [.tmp 19,.tmp 22,.tmp 25] [[str (bX bs i).aL],[str (dz [114,101,103,115] (bX bs i).ck)],[str (dz [99,111,100,101] (bX bs i).code)]] bA bw rfl rfl rfl rfl rfl rfl rfl rfl rfl λz l O _=>W ?_;exact dn (bz.of l)<|aiG (xs:=[(bX bs i).aL,dz [114,101,103,115] (bX bs i).ck,dz [99,111,100,101] (bX bs i).code]) O sm sm;refine eH ?_ ?_;intro x vs o e f u j;have d9:(fun(v:Value) (p:World)=>bo [] p v [(bX bs i).aL,dz [114,101,103,115] (bX bs i).ck,dz [99,111,100,101] (bX bs i).code]) (vs 9) o:=u;replace f:=bz.trans aC f;replace j:e=aY (aX _ x _) [(26,vs 9)]:=j;subst j;refine aA (uK [98,108,111,99,107] [(bX bs i).aL,dz [114,101,103,115] (bX bs i).ck,dz [99,111,100,101] (bX bs i).code] (show(px<|bX bs i).length<=_ by omega) _ [] o d9) ?_;rintro _ z ⟨rfl,l⟩;have J:=l.size;refine W ?_;exact dn (bz.of l) rfl;refine eH ?_ ?_;intro x vs o e f u j;have d10:vs 10=(str (px<|bX bs i)):=u;replace f:=bz.trans aC f;replace j:e=aY (aX _ x _) [(27,vs 10)]:=j;rw[d10] at j;subst j;refine fW bA bw rfl rfl λz l B _=>W ?_;exact dn (bz.of l) ⟨_,rfl,B⟩;exact trivial;intro x I V;intro K d9;intro y d11;replace d9:(fun(v:Value) (p:World)=>bo [] p v [(bX bs i).aL,dz [114,101,103,115] (bX bs i).ck,dz [99,111,100,101] (bX bs i).code]) K I:=d9;replace d11:(fun(v:Value) (p:World)=>∃b,v= .slice (some ⟨b,0,none⟩) 1 1/\aK p b [str (px<|bX bs i)].toArray 9) y I:=d11;refine bQ V d m λd m=>?_;change OW _ _ _ _ _ (aY (aX _ x _)<|zZ 17 [_,_,_,_,_,_,_,_,_,K,_,y]) _;obtain⟨_,P,o4⟩:=d11;rw[P];refine TP bA bw rfl rfl rfl rfl rfl rfl m o4 (by rw[BR _ hk];omega) λa4 R Q _ H lp=>?_;have d:=m.since d lp;rw[DM px D] at H⊢;refine W ?_;exact⟨(i+1,a4,R,Q),⟨rfl,rfl,rfl⟩,⟨d,H.dY sm,by dsimp only;omega⟩,by dsimp only;omega⟩;rw[DN px om] at m⊢;refine W ?_;refine aA (uK [112,114,111,103,114,97,109] (bs.map px) (Nat.le_trans Y de) _ [] w2 m.done) ?_;rintro _ w3 ⟨rfl,t⟩;have fl:=t.size;have d:=d.ext t;refine W ?_;exact⟨_,rfl,rfl,d⟩
theorem ai4 (s:ak) (w:World):bD Tryz.prog 42 [str s] w λr w'=>r= .bool (bP s).isSome/\aj [] w w':=by have a:=aj.refl [] w;refine cu [.tmp 2] 11 Tryz.func42 rfl agf rfl rfl ?_;refine W ?_;refine aA (Ab s [] w sm) ?_;rintro _ _ ⟨g,b⟩;have j:=b.size;have a:=a.ext b;obtain⟨t,_,rfl,i,_⟩:=g;obtain⟨_,_,_,rfl,f,_⟩:=cW i;subst f;refine W ?_;refine dj aO rfl rfl rfl λ_ e c _=>?_;have a:=a.grow;have a:=a.ext e;refine cF aO rfl rfl rfl c rfl λ_ d c _=>?_;have a:=a.aB d sx;refine W ?_;exact⟨_,rfl,rfl,a⟩
theorem ai5 (h:(!iK bs||!(bP<|oN bs).isSome)=true):p6 bs=none:=by unfold p6;rw[iN (by intro a;rw[aE] at a;rw[a.1,a.2] at h;cases h)]
theorem ai6 (h:(!iK bs||!(bP<|oN bs).isSome)=false):p6 bs=some (oN bs):=by unfold p6;rw[Bool.or_eq_false_iff] at h;rw[iP (by rw[aE];exact⟨by simpa using h.1,by simpa using h.2⟩)]
theorem ai7 (bs:List Bk) (f:uj bs) (o:(oN bs).length<=100000000) (v:Value) (c:List Nat) (w:World) (g:l0 c w v bs):
  bD Tryz.prog 17 [v] w λr w'=>r= .tuple #[str<|(p6 bs).getD [],.bool (p6 bs).isSome]/\aj [] w w':=by
 have a:=aj.refl [] w;refine cu [.tmp 2,.tmp 3] 15 Tryz.func17 rfl aft rfl rfl ?_;refine W ?_;refine aA (Wr bs f _ c w g) ?_;rintro _ i ⟨rfl,l⟩;have t:=l.size;have a:=a.ext l;refine WZ ?_;apply oO 5 7 12 (aj [] i) rfl oQ;intro _;have b:=aj.refl [] i;refine zm<|aA (Ww bs f o _ c i<|g.ext a) ?_;rintro _ q ⟨rfl,n⟩;have u:=n.size;have b:=b.ext n;refine aA (ai4 (oN bs) q) ?_;rintro _ _ ⟨rfl,j⟩;have y:=j.size;have b:=b.ext j;exact oQ;intro _ s p;have a:=a.ext p;refine bf<|zc rfl (λd=>?_) λd=>?_;have e:=ai5 d;refine W ?_;exact⟨_,rfl,by rw[e];rfl,a⟩;have e:=ai6 d;refine iD<|zr<|zm<|aA (Ww bs f o _ c s<|g.ext a) ?_;rintro _ _ ⟨rfl,m⟩;have z:=m.size;have a:=a.ext m;refine W ?_;exact⟨_,rfl,by rw[e];rfl,a⟩
theorem ai8 {t:aq} (h:fX false t=true):mj t=false:=by
 refine OE ?_;by_cases a:t.au=[]
 .rcases Nat.eq_zero_or_pos t.ag.length with f|d
  .rw[vH (.inr<|List.length_eq_zero_iff.1 f)];rfl
  .have c:=FU a<|ek d;by_cases b:(nth t.ag 0).au=[101]
   .rw[c,b];rfl
   .by_cases e:(nth t.ag 0).au=[116]\/(nth t.ag 0).au=[99]
    .rcases e with h|h<;>rw[c,h]<;>rfl
    .rw[Ov a d b e] at h;cases h
 .rw[vH (.inl a)];rfl
def IQ:List (Option Nat×Option Nat)->List Bk->Prop
 |[],[]=>True
 |g::gs,b::bs=>((b.ck=[]->g.1=none)/\(b.code=[]->g.2=none))/\IQ gs bs
 |_,_=>False
theorem Wx:∀{gss:List (Option Nat×Option Nat)} {bs:List Bk} {g:Option Nat×Option Nat} {b:Bk},IQ gss bs->((b.ck=[]->g.1=none)/\(b.code=[]->g.2=none))->IQ (gss++[g]) (bs++[b])
 |[],[],_,_,_,h=>⟨h,trivial⟩
 |_::_,_::_,_,_,h,k=>⟨h.1,Wx h.2 k⟩
def apart:List (Option Nat×Option Nat)->Prop
 |[]=>True
 |g::gs=>(∀x,x∈iv g->x∉fC gs)/\apart gs
theorem Ee (g:Option Nat×Option Nat) (a:List (Option Nat×Option Nat)):fC (g::a)=iv g++fC a:=by simp[fC]
theorem Ef (a:List (Option Nat×Option Nat)) (g:Option Nat×Option Nat):fC (a++[g])=fC a++iv g:=by simp[fC]
theorem Wy:∀{gss:List (Option Nat×Option Nat)} {g:Option Nat×Option Nat},apart gss->(∀x,x∈iv g->x∉fC gss)->apart (gss++[g])
 |[],_,_,_=>⟨by simp[fC],trivial⟩
 |p::gs,g,h,k=>by
  refine⟨λx b a=>?_,Wy h.2 λx b a=>k x b (by rw[Ee];simp[a])⟩;change x∈fC (gs++[g]) at a;rw[Ef,mA] at a;rcases a with a|a
  .exact h.1 x b a
  .exact k x a (by rw[Ee];simp[b])
structure rP (B:Nat) (w:World) (TB TS:TypeId) (v:Value) (g:Option Nat) (gss:List (Option Nat×Option Nat)) (vss:List (List Value)) (bs:List Bk):Prop where
 own:iX w TB 3 v g bs.length vss.flatten
 rows:jt w TS gss vss bs
 sep:∀b,g=some b->b∉fC gss
 low:∀x,x∈g.toList++fC gss->B<=x
 lt:∀x,x∈fC gss->x<w.heap.size
 apart:apart gss
 nils:IQ gss bs
 bsz:B<=w.heap.size
theorem rP.nil {a TS:TypeId} (h:B<=w.heap.size):rP B w a TS (.slice none 0 0) none [] [] []:=
 ⟨iX.nil _ _ _,trivial,sm,by simp[fC],by simp[fC],trivial,trivial,h⟩
theorem rP.aG {c TS:TypeId} (h:rP B w c TS v g gss vss bs) (k:aj L w w') (d:∀x∈L,x<B\/w.heap.size<=x):rP B w' c TS v g gss vss bs:=by
 have a:∀x,x∈g.toList++fC gss->x∉L:=λx a e=>by
  have f:=h.low x a;have i:x<w.heap.size:=by
   rcases mA.1 a with a|a
   .exact h.own.lt x<|by simpa using a
   .exact h.lt x a
  rcases d x e with h|h<;>omega
 exact⟨h.own.aG k λb hb=>a b<|by simp[hb],h.rows.aG k λx h=>a x<|by simp[h],h.sep,h.low,λx a=>lL (h.lt x a) k.size,h.apart,h.nils,Nat.le_trans h.bsz k.size⟩
theorem rP.ext {a TS:TypeId} (h:rP B w a TS v g gss vss bs) (k:aj [] w w'):rP B w' a TS v g gss vss bs:=h.aG k sm
theorem rP.rep {a TS:TypeId} (h:rP B w a TS v g gss vss bs):l0 [] w v bs:=by
 refine iF.done (L:=[]) (w:=w) (T:=a) (g:=g) (xs:=vss.flatten) ⟨by simpa using h.own,h.rows.zM λx e c=>?_,?_,sm⟩
 .simp at c;exact h.sep x c e
 .intro row d;obtain⟨b,_,rfl⟩:=List.mem_map.1 d;rfl
theorem cN.head {T:TypeId} (h:cN w T v (some b) xs) (d:xs≠[]):∃a,aK w b a T/\a[0]?=some (str<|xs.headD []):=by
 rcases h.2 with⟨_,_,h⟩|⟨b',cap,a,e,_,hb,nW,_,cL,ht⟩
 .cases h
 .cases e;refine⟨a,hb,?_⟩;cases xs with
  |nil=>exact absurd rfl d
  |cons x r=>have c:=congrArg (λl=>l[0]?) ht;simp only[List.map_cons,List.getElem?_cons_zero] at c;rw[List.getElem?_take,iP sm] at c;simpa using c
theorem ai9 {T:TypeId} {g:Option Nat×Option Nat} {b:Bk} (h:qK w T g vs b) (hb:kA b=true) (p:(b.ck=[]->g.1=none)/\(b.code=[]->g.2=none)):(iv g).Nodup:=by
 obtain⟨_,_,_,u,v⟩:=h;obtain⟨t,n⟩:=g;cases t with
 |none=>cases n<;>simp[iv]
 |some x=>
  cases n with
  |none=>simp[iv]
  |some y=>
   have d:x≠y:=by
    rintro rfl;have l:b.ck≠[]:=λh=>by have:=p.1 h;cases this
    have m:b.code≠[]:=λh=>by have:=p.2 h;cases this
    obtain⟨c1,i,s⟩:=cN.head u l;obtain⟨c2,c,j⟩:=cN.head v m;have:c1=c2:=by unfold aK at i c;rw[i] at c;injection c with h;injection h
    subst this;rw[s] at j;have z:b.ck.headD []=b.code.headD []:=by injection j with h;injection h with h;injection h with h;simpa using congrArg Array.toList h
    obtain⟨_,B,C⟩:=F0 hb;obtain⟨t1,f,A⟩:=B (b.ck.headD []) (by cases e:b.ck with|nil=>exact absurd e l|cons a r=>simp);obtain⟨t2,q,o⟩:=C (b.code.headD []) (by cases e:b.code with|nil=>exact absurd e m|cons a r=>simp);rw[z,q] at f;cases f;rw[ai8 A] at o;cases o
   simp[iv,d]
theorem Wz {T:TypeId}:∀{gss:List (Option Nat×Option Nat)} {vss:List (List Value)} {bs:List Bk},jt w T gss vss bs->apart gss->IQ gss bs->(∀b∈bs,kA b=true)->(fC gss).Nodup
 |[],[],[],_,_,_,_=>by simp[fC]
 |g::gs,v::vs,b::bs,h,ha,hn,hb=>by rw[Ee,List.nodup_append];refine⟨ai9 h.1 (hb b sm) hn.1,Wz h.2 ha.2 hn.2 λb h=>hb b<|by simp[h],λx a y c e=>?_⟩;subst e;exact ha.1 x a c
theorem rP.full {a TS:TypeId} (h:rP B w a TS v g gss vss bs) (b:iK bs=true):kO w a TS v g gss vss bs:=
 ⟨h.own,h.rows,by rw[List.nodup_append];refine⟨by cases g<;>simp,Wz h.rows h.apart h.nils<|zO b,λx c y d e=>?_⟩;subst e;exact h.sep x (by simpa using c) d,h.lt⟩
section
variable {P:Program} {n:Nat} {ops:Array Oper} {K:Env->World->Prop} {rest:List Oper} {e:Env} {w:World}
 {dst:Option Nat} {ty:TypeId} {pos:String} {after:Array Edge} {g:Option (Nat×Bool)} {x y:Operand}
theorem ajb {B:Nat} {TS:Nat} {v:Value} {D:Option Nat} {j:List (Option Nat×Option Nat)} {l:List (List Value)} {bs:List Bk} {f:Bk} {gs:Option Nat×Option Nat} {m o:Option Addr} {q c1 r c2:Nat} {b U:Nat} (Y:P.underlying t=some (.slice E)) (X:TI P E 3 bytes z) (F:gate ops e g=true) (Z:cK n dst=true) (hz:Nat.beq z.cells.size 3=true) (V:Nat.ble bytes 1000=true) 
  (a:ev e x=v) (hy:ev e y= .slice (some ⟨b,0,none⟩) 1 1) (d:rP B w E TS v D j l bs) (hb:aK w b [str f.aL,.slice m q c1,.slice o r c2].toArray U)
  (I:cN w TS (.slice m q c1) gs.1 f.ck) (J:cN w TS (.slice o r c2) gs.2 f.code) (p:∀x,x∈iv gs->B<=x/\x∉D.toList++fC j) (C:(f.ck=[]->gs.1=none)/\(f.code=[]->gs.2=none)) (hn:bs.length<100000000)
  (k:∀s c A w',rP B w' E TS (.slice s (bs++[f]).length c) A (j++[gs]) (l++[[str f.aL,.slice m q c1,.slice o r c2]]) (bs++[f])->aj D.toList w w'->OW P n ops K rest (cj e dst (.slice s (bs++[f]).length c)) w'):
  OW P n ops K (⟨dst,.call {callee:=.builtin .append,args:=#[x,y],argTypes:=#[t,t]},ty,pos,after,g⟩::rest) e w:=by
 obtain⟨i,hi,zI,T,yA⟩:=X.get;have O:bytes<=1000:=Nat.le_of_ble_eq_true V;have Q:(bs.length+1)*bytes<=140737488355328:=Nat.le_trans (Nat.mul_le_mul (show bs.length+1<=100000000 by omega) O) de;obtain⟨v',A,w',jN,R,hk,M⟩:=NW (P:=P) (w:=w) (ty:=ty) Y hi zI T yA (Nat.eq_of_beq_eq_true hz) d.own b 0 1 1 [str f.aL,.slice m q c1,.slice o r c2] rfl (by have:=hb.all;simpa using this)
  (by intro u L;simp at L;rcases L with rfl|rfl|rfl<;>rfl) de (by unfold maxLen;omega) Q
 have N:iX w' E 3 v' A (bs++[f]).length (l++[[str f.aL,.slice m q c1,.slice o r c2]]).flatten:=by simpa using R
 obtain⟨s,c,he⟩:=N.len;subst he;have H:∀x,x∈iv gs->x<w.heap.size:=λx a=>by
  simp only[iv,mA] at a;rcases a with a|a
  .exact iX.lt I x<|by simpa using a
  .exact iX.lt J x<|by simpa using a
 refine fS F Z (w':=w') (by simp only[execOp,resolve,invoke,builtin,Sem.run_bind,Sem.run_pure,Result.andThen_ok,List.map_toArray,List.map_cons,List.map_nil,a,hy,jN])<|k s c A w' ⟨N,?_,?_,?_,?_,?_,?_,?_⟩ hk
 .refine jt.snoc (d.rows.aG hk λx a F=>d.sep x (by simpa using F) a) ⟨_,_,rfl,I.aG hk λb hb a=>?_,J.aG hk λb hb a=>?_⟩
  .exact(p b<|by simp[iv,hb]).2 (by simp at a;simp[a])
  .exact(p b<|by simp[iv,hb]).2 (by simp at a;simp[a])
 .intro b hb a;rw[Ef,mA] at a;rcases M with h|h
  .rw[h] at hb;rcases a with a|a
   .exact d.sep b hb a
   .exact(p b a).2 (by simp[hb])
  .rw[h] at hb;cases hb;rcases a with a|a
   .have:=d.lt _ a;omega
   .have:=H _ a;omega
 .intro x a;rw[Ef] at a;simp only[mA] at a;rcases a with a|a|a
  .rcases M with h|h
   .rw[h] at a;exact d.low x (by simp only[mA];exact .inl a)
   .rw[h] at a;simp at a;have:=d.bsz;omega
  .exact d.low x (by simp only[mA];exact .inr a)
  .exact(p x a).1
 .intro x a;rw[Ef,mA] at a;rcases a with a|a
  .exact lL (d.lt x a) hk.size
  .exact lL (H x a) hk.size
 .exact Wy d.apart λx a S=>(p x a).2<|by simp[S]
 .exact Wx d.nils C
 .exact Nat.le_trans d.bsz hk.size
end
theorem ajd {t:aq} (h:uo t) (a:Good t):lf (oR t)=iK (oR t):=by
 unfold lf;rw[show(oR t).all vK=true from ?_,Bool.and_true];refine List.all_eq_true.2 λb hb=>?_;obtain⟨u,g,rfl⟩:=List.mem_map.1 hb;obtain⟨i,c,rfl⟩:=List.getElem_of_mem<|List.mem_of_mem_drop g;have d:=h.part a<|gE c;have e:=a.part<|gE c;unfold vK;refine dT ?_;unfold py;split
 .rename_i f;have j:=K2 f;have f1:=d.nth (i:=1) e om;have f2:=f1.size;have:=pZ<|nth t.ag[i].ag 1;show(nth t.ag[i].ag 1).au.length<=12000;omega
 .simp[BL]
theorem aje {t:aq} (a:i+1<t.ag.length) (h:uk (nth t.ag<|i+1)=false):iK (oR t)=false:=by refine adL ?_;refine List.mem_map.2 ⟨nth t.ag<|i+1,List.mem_of_getElem?<|OY a,ad6 h⟩
/-! ### Operations -/
section
variable {P:Program} {n:Nat} {ops:Array Oper} {K:Env->World->Prop} {rest:List Oper} {e:Env} {w:World}
 {dst:Option Nat} {ty:TypeId} {pos:String} {after:Array Edge} {g:Option (Nat×Bool)} {x y:Operand}
theorem WB {S D b a:Nat} {z:Int} {c:UInt8} {U:TypeId} (i:P.underlying S=some (.slice E)) (f:P.underlying E=some (.int .u8)) (d:P.underlying D=some .string) (m:gate ops e g=true) (l:cK n dst=true) 
  (p:ev e x= .slice (some ⟨b,0,none⟩) 1 a) (hb:aK w b [.int .u8 z].toArray U) (q:z=(c.toNat:Int)) (k:OW P n ops K rest (cj e dst<|str [c]) w):OW P n ops K (⟨dst,.convert S D x,ty,pos,after,g⟩::rest) e w:=by
 have r:=run_convert_bytes_back (P:=P) w S D E ⟨b,0,none⟩ a [c] i f d (by
  intro j o;have:j=0:=by simpa using o
  subst this;have:=hb.cell 0;simpa[Addr.add,q] using this)
 exact fS m l (v:=str [c]) (w':=w) (by have s:ev e x= .slice (some ⟨b,0,none⟩) ([c]:List UInt8).length a:=p;simp only[execOp,s,Sem.run_bind,r,Result.andThen_ok,Sem.run_pure]) k
theorem WC {T TS:Nat} {a:Option Nat} {d:List ak} {s:ak} {o j c:Nat} (B:TI P T 1 bytes z) (m:gate ops e g=true) (t:ev e x= .pointer (some ⟨b,o,none⟩)) (u:ev e y=str s) (p:o=i) 
  (l:cN w TS (.slice (some ⟨b,0,none⟩) j c) a d) (F:i<d.length)
  (k:∀w',aj a.toList w w'->cN w' TS (.slice (some ⟨b,0,none⟩) j c) a (d.set i s)->w'.heap.size=w.heap.size->OW P n ops K rest e w'):OW P n ops K (⟨none,.store T x y,ty,pos,after,g⟩::rest) e w:=by
 subst p;obtain⟨_,h|⟨_,_,_,E,r,hb,D,C,f,q⟩⟩:=l
 .obtain⟨h,_⟩:=h;cases h
 .cases r;subst E;refine N2 B rfl m t u rfl hb (by rw[f];omega) λw' hk A v=>?_;refine k w' (by simpa using hk) ⟨by simp,.inr ⟨b,_,_,rfl,sm,A,by simpa using D,C,by simpa using f,?_⟩⟩ v;rw[Array.toList_setIfInBounds,List.length_set,List.take_set,q,List.map_set]
end
theorem WD {c:Type}:∀{rows:List (List c)} {i j:Nat} {a:c} {row:List c},(∀row∈rows,row.length=sz)->rows[i]?=some row->j<sz->rows.flatten.set (i*sz+j) a=(rows.set i<|row.set j a).flatten
 |r::rows,0,j,a,row,h,hi,hj=>by simp only[List.getElem?_cons_zero,Option.some.injEq] at hi;subst hi;have b:r.length=sz:=h r sm;rw[List.flatten_cons,Nat.zero_mul,Nat.zero_add,List.set_cons_zero,List.flatten_cons,List.set_append_left _ _ om]
 |r::rows,i+1,j,a,row,h,hi,hj=>by
  have b:r.length=sz:=h r sm;have:=WD (rows:=rows) (a:=a) (λrow b=>h row<|by simp[b]) (by simpa using hi) hj;rw[List.flatten_cons,List.set_cons_succ,List.flatten_cons,List.set_append_right _ _ (by rw[b,Nat.add_mul];omega),b,<-this]
  congr 2
  rw[Nat.add_mul];omega
theorem jt.set {T:TypeId}:∀{gss:List (Option Nat×Option Nat)} {vss:List (List Value)} {bs:List Bk} {i:Nat} {g:Option Nat×Option Nat} {v:List Value} {f:Bk},jt w T gss vss bs->gss[i]?=some g->qK w' T g v f->
  (∀(j:Nat) (a:Option Nat×Option Nat) (d:List Value) (c:Bk),j≠i->gss[j]?=some a->qK w T a d c->qK w' T a d c)->jt w' T gss (vss.set i v) (bs.set i f)
 |[],[],[],i,g,v,f,_,l,_,_=>by simp at l
 |g0::e,v0::vs,b0::bs,0,g,v,f,h,l,hf,hk=>by
  simp only[List.getElem?_cons_zero,Option.some.injEq] at l;subst l;refine⟨hf,?_⟩;have o:∀{e:List (Option Nat×Option Nat)} {vs:List (List Value)} {bs:List Bk},(∀(j:Nat) (a:Option Nat×Option Nat) (d:List Value) (c:Bk),e[j]?=some a->qK w T a d c->qK w' T a d c)->jt w T e vs bs->jt w' T e vs bs:=by
   intro e;induction e with
   |nil=>intro vs bs _ h;cases vs<;>cases bs<;>first|trivial|exact h.elim
   |cons g e p=>
    intro vs bs hk h;cases vs with
    |nil=>cases bs<;>exact h.elim
    |cons v vs=>
     cases bs with
     |nil=>exact h.elim
     |cons b bs=>exact⟨hk 0 _ _ _ rfl h.1,p (λj a d c m=>hk (j+1) a d c<|by simpa using m) h.2⟩
  exact o (λj a d c m n=>hk (j+1) a d c om (by simpa using m) n) h.2
 |g0::e,v0::vs,b0::bs,i+1,g,v,f,h,l,hf,hk=>
  ⟨hk 0 _ _ _ om rfl h.1,jt.set h.2 (by simpa using l) hf λj a d c m q n=>hk (j+1) a d c om (by simpa using q) n⟩
theorem Eh {g:Option Nat×Option Nat} (a:gss[i]?=some g) (b:x∈iv g):x∈fC gss:=by grind [fC]
theorem ajf:∀{gss:List (Option Nat×Option Nat)} {i j:Nat} {g a:Option Nat×Option Nat} {x:Nat},(fC gss).Nodup->i≠j->gss[i]?=some g->gss[j]?=some a->x∈iv g->x∉iv a:=by intro x;induction x<;>grind [fC,iv]
theorem kO.row {w w':World} {n TS:TypeId} {v:Value} {g:Option Nat} {c:List (Option Nat×Option Nat)} {a:List (List Value)} {bs:List Bk} {i:Nat} {e:Option Nat×Option Nat} {m:List Value} {f:Bk} {L:List Nat} 
  (h:kO w n TS v g c a bs) (l:c[i]?=some e) (r:a[i]?=some m) (hk:aj L w w') (o:∀x∈L,x∈iv e) (u:qK w' TS e m f):kO w' n TS v g c a (bs.set i f):=by
 have p:=(List.nodup_append.1 h.nodup);have s:a.set i m=a:=by
  refine List.ext_getElem sm λj _ t=>?_;rw[List.getElem_set];split
  .rename_i C;subst C;rw[gE t] at r;simpa using r.symm
  .rfl
 have q:=jt.set (w':=w') h.rows l u λj _ _ _ y A z=>z.aG hk λx d B=>ajf p.2.1 y A l d<|o x B;rw[s] at q;exact⟨by rw[List.length_set];exact h.own.aG hk λb hb d=>p.2.2 b (by simp[hb]) b (Eh l<|o b d) rfl,q,h.nodup,λx d=>lL (h.lt x d) hk.size⟩
section
variable {P:Program} {n:Nat} {ops:Array Oper} {K:Env->World->Prop} {rest:List Oper} {e:Env} {w:World}
 {dst:Option Nat} {ty:TypeId} {pos:String} {after:Array Edge} {g:Option (Nat×Bool)} {x y:Operand}
end
theorem WE (k:Nat):(48:Int)+((k%10:Nat):Int)=((UInt8.ofNat<|48+k%10).toNat:Int):=by simp_all[Nat.mod_eq_of_lt,Nat.reducePow];omega
theorem cN.form {T:TypeId} (h:cN w T (.slice a n c) g xs) (d:0<xs.length):∃b,a=some ⟨b,0,none⟩/\g=some b:=by cases h.2<;>grind
theorem cN.cases {T:TypeId} (h:cN w T v g xs):∃a c,v= .slice a xs.length c:=iX.len h
theorem kO.get {B TS:TypeId} (h:kO w B TS (.slice a n c) g gss vss bs) (D:i<bs.length):
  ∃b d a1 c1 a2 c2,a=some ⟨b,0,none⟩/\g=some b/\b<w.heap.size/\b∉iv d/\gss[i]?=some d/\vss[i]?=some [str (bX bs i).aL,.slice a1 (bX bs i).ck.length c1,.slice a2 (bX bs i).code.length c2]/\
   fZ w b (0+i*3) [str (bX bs i).aL,.slice a1 (bX bs i).ck.length c1,.slice a2 (bX bs i).code.length c2]/\
   cN w TS (.slice a1 (bX bs i).ck.length c1) d.1 (bX bs i).ck/\cN w TS (.slice a2 (bX bs i).code.length c2) d.2 (bX bs i).code/\(∀x,d.1=some x->d.2=some x->False):=by
 have u:=List.nodup_append.1 h.nodup;obtain⟨_,_,K⟩:=h.rows.lens;obtain⟨d,vs,m,o,_,_,rfl,r,s⟩:=h.rows.get<|s0 D;obtain⟨a1,c1,rfl⟩:=cN.cases r;obtain⟨a2,c2,rfl⟩:=cN.cases s;obtain⟨_,A|⟨b,_,f,J,F,hb,_,_,_,z⟩⟩:=h.own
 .obtain⟨_,A,_⟩:=A;omega
 .cases F;subst J;refine⟨b,d,a1,c1,a2,c2,rfl,rfl,hb.lt,λH=>u.2.2 b sm b (Eh m H) rfl,m,o,λj v E=>?_,r,s,λx C t=>?_⟩
  .have y:=Dv K o E;have L:i*3+j<vss.flatten.length:=(List.getElem?_eq_some_iff.1 y).1;rw[hb.cell,Nat.zero_add];have t:=z;have:(f.toList.take<|bs.length*3)[i*3+j]?=some v:=by rw[z];exact y
   rw[List.getElem?_take] at this;split at this
   .simpa using this
   .cases this
  .have e:(iv d).Nodup:=by
    have:∀{gss:List (Option Nat×Option Nat)} {i:Nat},(fC gss).Nodup->gss[i]?=some d->(iv d).Nodup:=by
     intro gss;induction gss with
     |nil=>intro i _ h;simp at h
     |cons p q I=>
      intro i e l;rw[Ee,List.nodup_append] at e;cases i with
      |zero=>simp at l;subst l;exact e.1
      |succ i=>exact I e.2.1<|by simpa using l
    exact this u.2.1 m
   simp[iv,C,t] at e
theorem ajg (s:ak):uj ((kl s).getD [])/\((kl s).getD []).length<=12001:=by
 unfold kl;cases c:bP s with
 |none=>exact⟨⟨by simp,by intro i a;simp at a⟩,sm⟩
 |some t=>
  simp only;split
  .have b:=K3 c;refine⟨UN b (p5 c).1,?_⟩;have d:=lD t;have e:=b.size;simp[oR];omega
  .exact⟨⟨by simp,by intro i a;simp at a⟩,sm⟩
theorem ajh (w:World):bD Tryz.prog 107 [str [],.int .i64 0,.int .i64 0] w λr w'=>r= .tuple #[.agg #[str [],.slice none 0 0],.int .i64 (-1)]/\aj [] w w':=by have a:=aj.refl [] w;refine kM [.cell 6 103,.tmp 7] 87 Tryz.func107 rfl K6 rfl rfl rfl ?_;refine zr<|dj aO rfl rfl rfl λ_ i b _=>?_;have a:=a.grow;have a:=a.ext i;refine zA<|bf<|zr<|jE (Ip _) rfl rfl<|dj aO rfl rfl rfl λ_ e f _=>?_;have a:=a.grow;have a:=a.ext e;have b:=b.grow;have b:=b.ext e;refine cF aO rfl rfl rfl f rfl λl d f _=>?_;have a:=a.aB d sx;have b:=b.aB d sx;refine bf<|j1<|zr<|zm<|HO rfl rfl rfl rfl rfl<|zm ?_;apply Dx 5 15 20 [15,16,17,18,19,20] (λw'=>l=w') rfl;intro c;replace c:=jw c;refine W ?_;exact mg rfl rfl;intro c;replace c:=jw c;refine W ?_;exact mg rfl rfl;rintro _ _ rfl;refine bf<|zc rfl (λg=>?_) λg=>?_;refine W ?_;refine cF aO rfl rfl rfl b rfl λ_ j b _=>?_;have a:=a.aB j sx;refine W ?_;exact⟨[_,_],⟨gh fN aO rfl b rfl,rfl⟩,rfl,a⟩;simp at g
theorem LM (s:ak) (L:List Nat) (w:World) (p:∀x∈L,x<w.heap.size):
  bD Tryz.prog 78 [str s] w λv w'=>(∃t d,v= .tuple #[d,.bool (bP s).isSome]/\aV L w' d t/\Ga s t)/\aj [] w w':=by
 by_cases l:s=[]
 .subst l;have a:=aj.refl [] w;refine kM [.cell 2 103,.tmp 3] 20 Tryz.func78 rfl UZ rfl rfl rfl ?_;refine zr<|dj aO rfl rfl rfl λz m b _=>?_;have a:=a.grow;have a:=a.ext m;refine W ?_;refine zc rfl (λc=>?_) λc=>?_;simp at c;refine iD<|zr<|zm<|aA (ajh z) ?_;rintro _ _ ⟨rfl,j⟩;have A:=j.size;refine bQ j a b λa b=>?_;refine W ?_;refine dj aO rfl rfl rfl λ_ g f _=>?_;have a:=a.grow;have a:=a.ext g;have b:=b.grow;have b:=b.ext g;refine cF aO rfl rfl rfl f rfl λ_ i f _=>?_;have a:=a.aB i sx;have b:=b.aB i sx;refine W ?_;refine cF aO rfl rfl rfl b rfl λ_ n b _=>?_;have a:=a.aB n sx;refine W ?_;exact⟨[_,_],⟨gh fN aO rfl b rfl,rfl⟩,⟨.mk [] [],_,by rw[Vt];rfl,jB ld,λ_ h=>(by rw[Vt] at h;cases h),λ_=>rfl⟩,a⟩
 .obtain⟨c,o⟩:=Ab s L w p;exact⟨c,Calls.mono o λe w' ⟨v,q,⟨t,d,y,u,r⟩,hk⟩=>⟨v,q,⟨t,d,y,u,r,λe=>absurd e l⟩,hk⟩⟩
theorem Gr.form {T:TypeId} (h:Gr B L w T sz (.slice a n c) g rows) (f:0<rows.length):∃b,a=some ⟨b,0,none⟩/\g=some b:=by
 obtain⟨xs,d⟩:=h.own;rcases d.own.2 with⟨_,h0,_⟩|⟨b,_,_,e,hv,_⟩
 .omega
 .cases hv;exact⟨b,rfl,e⟩
theorem CC (b:List ak) (B:b.length<=1000000000) (s:ak) (v:Value) (L:List Nat) (w:World) (p:bo L w v b):bD Tryz.prog 104 [v,str s] w λr w'=>r= .bool (decide<|s∈b)/\aj [] w w':=by obtain⟨a,n,c,rfl,A⟩:=eD p;subst A;have d:=aj.refl [] w;refine cu [.tmp 4] 18 Tryz.func104 rfl aer rfl rfl ?_;refine W ?_;refine eW (λk:Nat=>[(0,.slice a b.length c),(1,str s),(5,.int .i64 (k:Int))]) (λk w'=>aj [] w w'/\k<=b.length/\∀i,i<k->cO b i≠s) (λk=>b.length-k) (0) (⟨rfl,rfl,rfl⟩) (⟨d,om,by intro i j;omega⟩) λf _ _ y=>?_;obtain⟨d,hk,m⟩:=y;refine W ?_;refine zc rfl (λu=>?_) λu=>?_;have o:=lP (xs:=b) (i:=f) om;obtain⟨_,_,rfl,q⟩:=qJ p o;refine WL ?_;refine zl gI rfl (q.ext d 0 _ rfl)<|zm<|FK rfl rfl rfl rfl<|bf<|zc rfl (λg=>?_) λg=>?_;have l:s∈b:=(by rw[<-g];exact List.mem_of_getElem? o);refine W ?_;exact⟨_,rfl,by rw[dT l];rfl,d⟩;have t:=g;refine W ?_;exact⟨f+1,⟨rfl,rfl,rfl⟩,⟨d,om,by intro i j;rcases Nat.lt_or_ge i f with h|h;exact m i h;rw[show i=f by omega];exact t⟩,om⟩;have l:¬s∈b:=(λz=>by obtain⟨i,j,e⟩:=List.getElem_of_mem z;exact m i om<|by simp[cO,gE j,e]);refine W ?_;exact⟨_,rfl,by rw[dF l];rfl,d⟩
theorem aji (h:n<10):(48:Int)+(n:Int)=((UInt8.ofNat<|48+n).toNat:Int):=by have:=WE n;rwa [Nat.mod_eq_of_lt h] at this
def Ei (z:Int) (v:Value) (w:World):Prop:=∃b,v= .slice (some ⟨b,0,none⟩) 1 1/\aK w b [.int .u8 z].toArray 5
theorem Ei.ext {z:Int} (h:Ei z v w) (k:aj [] w w'):Ei z v w':=by obtain⟨b,e,h⟩:=h;exact⟨b,e,h.ext k⟩
theorem Gv:∀(m n:Nat),n<=m->(aS n).length<=n+1
 |m,n,h=>by
  rw[aS];by_cases a:n<10
  .rw[iP a];simp
  .rw[iN a];cases m with
   |zero=>omega
   |succ m=>have:=Gv m (n/10) om;simp only[lA,List.length_singleton];omega
theorem jm:∀(m n:Nat),n<m->n<=1000000->∀w:World,bD Tryz.prog 111 [.int .i64 (n:Int)] w λr w'=>r=str (aS n)/\aj [] w w':=by
 intro m;induction m with
 |zero=>intro n A;omega
 |succ m B=>
  intro n A _ w;have d:=aj.refl [] w;have F:=Gv _ (n/10)<|lR _;refine cu [.tmp 2] 28 Tryz.func111 rfl aew rfl rfl ?_;refine W ?_;refine zc rfl (λu=>?_) λu=>?_;omega;refine W ?_;refine zc rfl (λy=>?_) λy=>?_;omega;refine W ?_;refine zc rfl (λz=>?_) λz=>?_;refine W ?_;refine zD yh zS rfl rfl rfl (wrap_u8 _ om om)<|fW DS Iq rfl rfl λf c C _=>?_;have d:=d.ext c;refine WB DS zS ji rfl rfl rfl C (aji om)<|zA<|bf<|la ?_;exact⟨_,rfl,congrArg str<|show[UInt8.ofNat (48+n)]=aS n from by rw[aS,iP om],d⟩;have t:¬n<10:=by omega
  refine WZ ?_;apply oS dh bz 10 (rA 18 10) (rA 18 10) [[],[0],[1],[],[3],[4],[5],[6],[7],[2,8]] [.v _,.v _,.v _,.v _,.v _,.v _,.v _,.p<|fun(v:Value) (g:World)=>Ei ((48:Int)+((n%10:Nat):Int)) v g,.v<|str [UInt8.ofNat (48+n%10)],.v (str<|aS (n/10)++[UInt8.ofNat (48+n%10)])] de (by exact(bJ<|bJ (bJ<|bJ (bJ<|bJ (bJ<|ky (λv w w' h k=>Ei.ext h k) (bJ<|bJ trivial))))));intro _ aC;refine cI (λ_ _ _=>WZ<|bR bz) ?_;refine cI (λ_ _ _=>N3 (b:=10) rfl rfl rfl rfl rfl om (wrap_i64 _ om om)<|bR bz) ?_;refine ga bz aC (λx f c=>?_) ?_;refine aA (B (n/10) om om f) ?_;rintro _ D ⟨rfl,i⟩;have E:=i.size;exact BS bz i;refine cI (λ_ _ _=>WZ<|bR bz) ?_;refine cI (λ_ _ _=>HQ (b:=10) rfl rfl rfl rfl rfl om<|bR bz) ?_;refine cI (λ_ _ _=>WZ<|bR bz) ?_;refine cI (λ_ _ _=>zD yh zS rfl rfl rfl (wrap_u8 _ om om)<|bR bz) ?_;refine eH ?_ ?_;intro x vs f e c l a;have d6:vs 6=(.int .u8<|(48:Int)+((n%10:Nat):Int)):=l;replace c:=bz.trans aC c;replace a:e=aY (aX _ x _) [(24,vs 6)]:=a;rw[d6] at a;subst a;refine fW DS Iq rfl rfl λD i j _=>W ?_;exact dn (bz.of i) ⟨_,rfl,j⟩;refine eH ?_ ?_;intro x vs f e c l a;have d7:(fun(v:Value) (g:World)=>Ei ((48:Int)+((n%10:Nat):Int)) v g) (vs 7) f:=l;replace c:=bz.trans aC c;replace a:e=aY (aX _ x _) [(25,vs 7)]:=a;obtain⟨_,s,j⟩:=d7;rw[s] at a;subst a;refine WB DS zS ji rfl rfl rfl j (WE n)<|bf ?_;exact dn (bz.refl _) rfl;refine cI (λ_ _ _=>WZ<|bR bz) ?_;exact trivial;intro x p q;intro o d7;replace d7:(fun(v:Value) (g:World)=>Ei ((48:Int)+((n%10:Nat):Int)) v g) o p:=d7;have d:=d.ext q;change OW _ _ _ _ _ (aY (aX _ x _)<|zZ 18 [_,_,_,_,_,_,_,o,_,_]) _;refine W ?_;exact⟨_,rfl,congrArg str<|show aS (n/10)++[UInt8.ofNat (48+n%10)]=aS n from by conv=>(rhs;rw[aS,iN t]),d⟩
theorem CD (s:ak) (w:World):bD Tryz.prog 188 [str s] w λr w'=>r= .agg #[str s,.slice none 0 0]/\aj [] w w':=by have a:=aj.refl [] w;refine kM [.cell 2 103] 5 Tryz.func188 rfl afJ rfl rfl rfl ?_;refine zr<|dj aO rfl rfl rfl λ_ c b _=>?_;have a:=a.grow;have a:=a.ext c;refine bf<|zr<|zm<|jE (ag2 _ _) rfl rfl<|cF aO rfl rfl rfl b rfl λ_ d b _=>?_;have a:=a.aB d sx;refine W ?_;exact⟨[_],gh fN aO rfl b rfl,rfl,a⟩
theorem et.sub {T:TypeId} (h:et L w T sz v g rows) (c:∀x∈L',x∈L\/w.heap.size<=x):et L' w T sz v g rows:=by obtain⟨xs,a,b⟩:=h.own;exact⟨⟨xs,a,b.fresh c⟩,h.row⟩
structure KA (L:List Nat) (T:TypeId) (sz:Nat) (g:Option Nat) (rows rows':List (List C)) (w w':World):Prop where
 aG:aj g.toList w w'
 old:∀v,et (g.toList++L) w T sz v g rows->et (g.toList++L) w' T sz v g rows
 new:∀v g',et (g.toList++(g'.toList++L)) w T sz v g' rows'->et (g.toList++(g'.toList++L)) w' T sz v g' rows'
theorem et.any {T:TypeId} (h:et L w T sz v g rows) (k:aj [] w w'):et L w' T sz v g rows:=h.aG (Fr.of k sm) k sm
theorem WG (L:List Nat) (T:TypeId) (c:Nat) (g:Option Nat) (rows a:List (List C)):Kept (KA L T c g rows a):=
 ⟨λ_=>⟨aj.refl _ _,λ_ h=>h,λ_ _ h=>h⟩,λh k=>⟨h.aG.trans k.aG,λv x=>k.old v<|h.old v x,λv b x=>k.new v b<|h.new v b x⟩,
  λh=>⟨h.any,λ_ x=>x.any h,λ_ _ x=>x.any h⟩⟩
section
variable {P:Program} {w:World}
theorem ajj {t ty T:TypeId} {i:TypeInfo} {K bytes:Nat} (U:P.underlying t=some (.slice T)) (S:P.info? T=some i) (hz:i.zero=some z) 
  (Dt:i.size=K) (gW:i.bytes=bytes) (zz:z.cells.size=K) {L:List Nat}
  {v:Value} {g:Option Nat} {rows:List (List C)} {row:List C} (hO:et (g.toList++L) w T K v g rows)
  (E c:Nat) (a:List Value) (iE:row.length=K) (Du:fZ w E 0 a) (y:∀u∈a,u.oneCell'=true) (q:dy (g.toList++L) w a row)
  (hb:(rows.length+1)*(bytes+1)<=140737488355328):
  ∃v' H w',(Builtin.append_ #[t,t] ty #[v,.slice (some ⟨E,0,none⟩) 1 c]).run P w= .ok v' w'/\et (g.toList++(H.toList++L)) w' T K v' H (rows++[row])/\KA L T K g rows (rows++[row]) w w'/\
   (H=g\/H=some w.heap.size):=by
 subst Dt;subst gW;obtain⟨xs,F,X⟩:=hO.own;have aZ:(rows.length+1)*i.bytes+(rows.length+1)<=140737488355328:=by rw[Nat.mul_add,Nat.mul_one] at hb;exact hb
 have Bp:rows.length+1<=maxLen:=by unfold maxLen;omega
 have zB:(rows.length+1)*i.bytes<=140737488355328:=by omega
 have I:a.length=1*i.size:=by rw[q.length,iE,Nat.one_mul]
 have FH:rows.length+1<=9223372036854775807:=by simp only[maxLen] at Bp;omega
 have f:(xs++a).length=(rows.length+1)*i.size:=by rw[lA,F.1,I,Nat.add_mul]
 have xY:∀b o j:Nat,(⟨b,o,none⟩:Addr).add j=⟨b,o+j,none⟩:=λb o j=>by unfold Addr.add;split<;>simp_all
 have wI:∀j u,a[j]?=some u->w.cell? ((⟨E,0,none⟩:Addr).add j)=some u:=λj u J=>by rw[xY];exact Du j u J
 have z7:∀r∈rows++[row],r.length=i.size:=λr e=>by
  rcases mA.1 e with e|e
  .exact hO.row r e
  .simp at e;rw[e];exact iE
 have V:(rows++[row]).flatten=rows.flatten++row:=by simp
 have p:∀(old:Nat),old<rows.length+1->
   et (g.toList++((some w.heap.size).toList++L)) (w.drew.alloc<|.cells (xs.toArray++a.toArray++Builtin.zeroCells z.cells (grownCap w (rows.length+1) old T-(rows.length+1))) T) T i.size
    (.slice (some ⟨w.heap.size,0,none⟩) (rows.length+1)<|grownCap w (rows.length+1) old T) (some w.heap.size) (rows++[row])/\
   aj [] w (w.drew.alloc<|.cells (xs.toArray++a.toArray++Builtin.zeroCells z.cells (grownCap w (rows.length+1) old T-(rows.length+1))) T):=by
  intro old _;have sY:=grownCap_ge w (rows.length+1) old T;have Y:grownCap w (rows.length+1) old T<=maxLen:=grownCap_le_maxLen w (rows.length+1) old T Bp;have hk:aj [] w (w.drew.alloc<|.cells (xs.toArray++a.toArray++Builtin.zeroCells z.cells (grownCap w (rows.length+1) old T-(rows.length+1))) T):=⟨rfl,rfl,rfl,sm,λk hk _=>(aj.alloc [] w.drew _).block k hk sm⟩;refine⟨⟨⟨xs++a,⟨by simpa using f,.inr ⟨w.heap.size,_,_,rfl,?_,heap_alloc_new w.drew _,?_,Y,?_,?_⟩⟩,?_⟩,z7⟩,hk⟩
  .simp
  .simpa using sY
  .simp only[Array.size_append,List.size_toArray,size_zeroCells,zz,F.1,I,<-Nat.add_mul]
   congr 1
   omega
  .simp only[Array.toList_append,List.append_assoc];rw[<-List.append_assoc,lA,List.length_singleton,<-f];exact List.take_left
  .rw[V];refine((X.append q).fresh (L':=g.toList++((some w.heap.size).toList++L)) λx e=>?_).aG hk.any;rcases mA.1 e with e|e
   .exact .inl<|by simp[e]
   .rcases mA.1 e with e|e
    .right;simp at e;omega
    .exact .inl<|by simp[e]
 rcases F.2 with⟨rfl,Cz,rfl⟩|⟨b,cap,cur,rfl,rfl,hb,nW,Y,cL,vz⟩
 .have e:xs=[]:=List.eq_nil_of_length_eq_zero (by rw[F.1,Cz];simp);subst e;have q:=run_append_nil (P:=P) w t ty T i z U S hz ⟨E,0,none⟩ 1 c a I wI om om (by rw[Cz] at zB;simp only[Nat.zero_add] at zB;omega);have B:=p 0 om;rw[Cz] at B;simp only[Nat.zero_add,List.nil_append,Array.empty_append] at B⊢;exact⟨_,some w.heap.size,_,q,B.1,(WG L T i.size none rows<|rows++[row]).of B.2,.inr rfl⟩
 .by_cases tW:rows.length+1<=cap
  .have mh:rows.length*i.size+a.length<=cur.size:=by rw[I,cL,<-Nat.add_mul];exact Nat.mul_le_mul_right _ tW
   have jN:=run_append_room (P:=P) w t ty T i U S b rows.length cap cur hb ⟨E,0,none⟩ 1 c a I wI y tW mh;have D:aj [b] w (w.setRow b (cur.toList.take (rows.length*i.size)++a++cur.toList.drop (rows.length*i.size+a.length)).toArray):=⟨rfl,rfl,rfl,sm,λk _ hk=>setRow_other w b k _<|by simpa using hk⟩;have LO:aK (w.setRow b (cur.toList.take (rows.length*i.size)++a++cur.toList.drop (rows.length*i.size+a.length)).toArray) b (cur.toList.take (rows.length*i.size)++a++cur.toList.drop (rows.length*i.size+a.length)).toArray T:=setRow_heap w b cur _ T _ hb;have fR:(cur.toList.take (rows.length*i.size)++a++cur.toList.drop (rows.length*i.size+a.length)).toArray.size=cap*i.size:=by simp only[List.size_toArray,lA,List.length_take,List.length_drop,Array.length_toList];omega
   have WH:(cur.toList.take (rows.length*i.size)++a++cur.toList.drop (rows.length*i.size+a.length)).take ((rows.length+1)*i.size)=xs++a:=by rw[vz,<-f];exact List.take_left
   have R:(cur.toList.take (rows.length*i.size)++a++cur.toList.drop (rows.length*i.size+a.length)).take (rows.length*i.size)=xs:=by rw[vz,<-F.1,List.append_assoc];exact List.take_left
   -- whoever owns block b,owns it with this size
   have l:∀(v:Value) (n:Nat) (m:List Value),iX w T i.size v (some b) n m->∃d,v= .slice (some ⟨b,0,none⟩) n d/\n<=d/\d<=maxLen/\d*i.size=cap*i.size/\m=cur.toList.take (n*i.size):=by
    intro v n m s;rcases s.2 with⟨_,_,h⟩|⟨b',d,cur',e',N,im,O,Z,Q,po⟩
    .cases h
    .cases e';have:cur'=cur:=by have M:=im.symm.trans hb;simpa using M
     subst this;exact⟨d,N,O,Z,by rw[<-Q,cL],po.symm⟩
   have wr:∀(v:Value) (n:Nat),(∃d,v=Value.slice (some ⟨b,0,none⟩) n d/\n<=d/\d<=maxLen/\d*i.size=cap*i.size)->∀m:List Value,m.length=n*i.size->(cur.toList.take (rows.length*i.size)++a++cur.toList.drop (rows.length*i.size+a.length)).take (n*i.size)=m->
     iX (w.setRow b (cur.toList.take (rows.length*i.size)++a++cur.toList.drop (rows.length*i.size+a.length)).toArray) T i.size v (some b) n m:=by
    rintro v n ⟨d,N,O,Z,Q⟩ m hy fL;exact⟨hy,.inr ⟨b,d,_,rfl,N,LO,O,Z,by rw[fR,Q],fL⟩⟩
   refine⟨_,some b,_,jN,⟨⟨xs++a,wr _ _ ⟨cap,sm,by simpa using tW,Y,rfl⟩ _ (by simpa using f)<|by simpa using WH,?_⟩,z7⟩,⟨D,λv s=>?_,λv H s=>?_⟩,.inl rfl⟩
   .rw[V];exact((X.append q).fresh λx e=>.inl (by simp only[mA] at e⊢;rcases e with h|h|h;exact .inl h;exact .inl h;exact .inr h)).aG (D.mono λx e=>by simp at e;simp[e])
   .obtain⟨m,y,M⟩:=s.own;obtain⟨d,a1,a2,a3,a4,a5⟩:=l _ _ _ y;refine⟨⟨m,wr _ _ ⟨d,a1,a2,a3,a4⟩ _ y.1 ?_,M.aG (D.mono λx e=>by simp at e;simp[e])⟩,s.row⟩;rw[R,a5,vz]
   .obtain⟨m,y,M⟩:=s.own;by_cases CE:H=some b
    .subst CE;obtain⟨d,a1,a2,a3,a4,a5⟩:=l _ _ _ y;refine⟨⟨xs++a,wr _ _ ⟨d,a1,a2,a3,a4⟩ _ (by simpa using f)<|by simpa using WH,?_⟩,s.row⟩;rw[V];exact((X.append q).fresh λx e=>.inl (by simp only[mA] at e⊢;rcases e with h|h|h;exact .inl h;exact .inl h;exact .inr h)).aG (D.mono λx e=>by simp at e;simp[e])
    .exact⟨⟨m,y.aG D λx e eX=>CE (by simp at eX;rw[e,eX]),M.aG (D.mono λx e=>by simp at e;simp[e])⟩,s.row⟩
  .have A:∀j u,xs[j]?=some u->w.cell? ((⟨b,0,none⟩:Addr).add j)=some u:=λj u J=>by
    rw[xY,hb.cell];rw[<-vz,List.getElem?_take] at J;split at J
    .simpa using J
    .cases J
   have q:=run_append_grow (P:=P) w t ty T i z U S hz ⟨b,0,none⟩ rows.length cap xs F.1 A ⟨E,0,none⟩ 1 c a I wI om om<|growslice_fits om zB;have B:=p cap om;exact⟨_,some w.heap.size,_,q,B.1,(WG L T i.size (some b) rows<|rows++[row]).of B.2,.inr rfl⟩
end
section
variable {P:Program} {n:Nat} {ops:Array Oper} {K:Env->World->Prop} {rest:List Oper} {e:Env} {w:World}
 {dst:Option Nat} {ty:TypeId} {pos:String} {after:Array Edge} {g:Option (Nat×Bool)} {x y:Operand}
theorem Ek {L:List Nat} {v:Value} {f:Option Nat} {rows:List (List C)} {row:List C} {a:List Value} {b c:Nat} (s:P.underlying t=some (.slice E)) (q:TI P E sz bytes z) (D:gate ops e g=true) (B:cK n dst=true) (M:Nat.beq z.cells.size sz=true) (o:Nat.ble bytes 1000=true) 
  (I:ev e x=v) (J:ev e y= .slice (some ⟨b,0,none⟩) 1 c) (r:et (f.toList++L) w E sz v f rows) (N:row.length=sz) (A:fZ w b 0 a) (p:∀u∈a,u.oneCell'=true)
  (H:dy (f.toList++L) w a row) (U:rows.length<100000000)
  (k:∀j d w',et (f.toList++(d.toList++L)) w' E sz j d (rows++[row])->KA L E sz f rows (rows++[row]) w w'->(d=f\/d=some w.heap.size)->OW P n ops K rest (cj e dst j) w'):
  OW P n ops K (⟨dst,.call {callee:=.builtin .append,args:=#[x,y],argTypes:=#[t,t]},ty,pos,after,g⟩::rest) e w:=by
 obtain⟨i,F,S,m,l⟩:=q.get;have T:bytes<=1000:=Nat.le_of_ble_eq_true o;obtain⟨j,d,w',O,R,hk,Q⟩:=ajj (P:=P) (ty:=ty) s F S m l (Nat.eq_of_beq_eq_true M) r b c a N A p H
  (Nat.le_trans (Nat.mul_le_mul (show rows.length+1<=100000000 by omega)<|show bytes+1<=1001 by omega) de)
 exact fS D B (w':=w') (by simp only[execOp,resolve,invoke,builtin,Sem.run_bind,Sem.run_pure,Result.andThen_ok,List.map_toArray,List.map_cons,List.map_nil,I,J,O])<|k j d w' R hk Q
end
/-! ### Behind it -/
theorem P1:∀{vs:List Value} {xs:List ak},dy L w vs (iG xs).flatten->vs=xs.map λx=>str x
 |[],[],_=>rfl
 |v::vs,x::xs,h=>by obtain⟨a,b⟩:=h;cases a;rw[P1 (xs:=xs) b];rfl
theorem et.wT {T:TypeId} (h:et L w T 1 v g (iG xs)):cN w T v g xs:=by obtain⟨vs,a,b⟩:=h.own;rw[rB,P1 b] at a;exact a
theorem WJ (L:List Nat) (w:World):∀xs:List ak,dy L w (xs.map λx=>str x) (iG xs).flatten
 |[]=>trivial
 |_::xs=>⟨.val _,WJ L w xs⟩
theorem cN.WK {T:TypeId} (h:cN w T v g xs) (L:List Nat):et L w T 1 v g (iG xs):=
 ⟨⟨_,h.air,WJ L w xs⟩,λrow a=>by obtain⟨x,_,rfl⟩:=List.mem_map.1 a;rfl⟩
theorem WM (a:List ak) (x:ak):iG a++[[.val (str x)]]=iG (a++[x]):=by simp[iG]
theorem ajl (a:List Nat) (x:Nat):vR a++[[.val (.int .i64 (x:Int))]]=vR (a++[x]):=by simp[vR]
section
variable {τ:uz} {E L:List Nat} {w w':World} {b:Nat} {o:Bool} {vb vt vc vy:Value} {gb gt gc gy:Option Nat} {m:Mk}
def qY (E:List Nat) (b:Nat) (a c d:Option Nat):List Nat:=E++b::(a.toList++(c.toList++d.toList))
theorem Aj:x∈qY E b gb gt gy↔x∈E\/x=b\/x∈gb.toList\/x∈gt.toList\/x∈gy.toList:=by simp[qY]
theorem iz.P2 (h:iz τ E L w b o vb vt vc vy gb gt gc gy m):bo (qY E b gb gt gy) w vc m.code:=by
 obtain⟨a1,a2,a3,a4,a5,a6⟩:=h.apart;rcases h.co with⟨_,h1⟩|⟨_,hn,h1⟩
 .refine h1.rep λx d a=>?_;have c:x∈gc.toList:=by simp[d]
  rw[Aj] at a;rcases a with a|a|a|a|a
  .exact(a5 x c).1 a
  .exact(a5 x c).2.1 a
  .exact(a5 x c).2.2.1 a
  .exact(a5 x c).2.2.2 a
  .exact(a6 x a).2.2.2.2 c
 .exact h1.fresh λx d=>.inl<|h.mem.2 (by rw[Aj] at d;rcases d with h|h|h|h|h<;>simp[h])
theorem iz.WN (h:iz τ E L w b o vb vt vc vy gb gt gc gy m):∀x,x∈qY E b gb gt gy->x∈L:=λx a=>h.mem.2 (by rw[Aj] at a;rcases a with h|h|h|h|h<;>simp[h])
theorem iz.ajm (h:iz τ E L w b o vb vt vc vy gb gt gc gy m) (c:et (gb.toList++(g.toList++qY E b gb gt gy)) w' τ.B 3 v g (bs.map Bk.enc)) (k:aj gb.toList w w') (i:g=gb\/∃x,g=some x/\w.heap.size<=x):
  ∃L',iz τ E L' w' b false v vt vc vy g gt none gy {m with blocks:=bs}/\Fr L w L' w':=by
 obtain⟨a1,a2,a3,a4,a5,a6⟩:=h.apart;have q:∀x∈g.toList,x∈gb.toList\/w.heap.size<=x/\x∉gt.toList/\x∉(none:Option Nat).toList/\x∉gy.toList:=λx a=>by
  rcases i with rfl|⟨y,rfl,c⟩
  .exact .inl a
  .have a:x=y:=by simpa using a
   refine .inr ⟨by omega,λj=>?_,sm,λj=>?_⟩<;>have:=h.Lz (x:=x) (by simp[j])<;>omega
 obtain⟨f,p⟩:=h.swap k (λx a=>⟨h.mem.2<|by simp[a],(a3 x a).2,(a3 x a).1⟩) (gb':=g) (gt':=gt) (gc':=none) (gy':=gy) q (λx a=>.inl a) (λx a=>by simp at a) λx a=>.inl a;have e:bo (E++b::(g.toList++(gt.toList++((none:Option Nat).toList++gy.toList)))) w' vc m.code:=by
  have l:bo (qY E b gb gt gy) w' vc m.code:=cA.aB h.P2 k λx a=>Aj.2 (by simp[a]);have n:bo (g.toList++qY E b gb gt gy) w' vc m.code:=by
   rcases i with rfl|⟨y,rfl,c⟩
   .exact l.fresh λx a=>.inl (by rcases mA.1 a with h|h;exact Aj.2 (by simp[h]);exact h)
   .exact cA.aB (h.P2.fresh (L':=(some y).toList++qY E b gb gt gy) λx a=>by
     rcases mA.1 a with h|h
     .simp at h;right;omega
     .exact .inl h) k λx a=>mR _ (Aj.2<|by simp[a])
  exact n.fresh λx a=>.inl (by
   rw[z1] at a;rw[mA,Aj];rcases a with h|h|h|h|h|h
   .simp[h]
   .simp[h]
   .simp[h]
   .simp[h]
   .simp at h
   .simp[h])
 refine⟨_,⟨c.sub λx a=>.inl ?_,h.ta.aG f k λx a c=>(a4 x a).2.2 c,.inr ⟨rfl,rfl,e⟩,h.ty.aG k λx a c=>(a6 x<|by simp[a]).2.2.1 c,rfl,p,?_⟩,f⟩
 .rw[z1] at a;rw[mA,mA,Aj];rcases a with h|h|h|h|h|h
  .simp[h]
  .simp[h]
  .simp[h]
  .simp[h]
  .simp at h
  .simp[h]
 .intro x a;rw[z1] at a;have d:=k.size;rcases a with a|a|a|a|a|a
  .exact lL (h.cP x (h.mem.2<|by simp[a])) d
  .exact lL (h.cP x (h.mem.2<|by simp[a])) d
  .exact c.lt x a
  .exact lL (h.cP x (h.mem.2<|by simp[a])) d
  .simp at a
  .exact lL (h.cP x (h.mem.2<|by simp[a])) d
theorem iz.dZ (h:iz τ E L w b o vb vt vc vy gb gt gc gy m) {i:List Tk} (c:et (gt.toList++(g.toList++L)) w' τ.T 12 v g (i.map Tk.enc)) (k:aj gt.toList w w') (l:g=gt\/∃x,g=some x/\w.heap.size<=x):
  ∃L',iz τ E L' w' b o vb v vc vy gb g gc gy {m with bT:=i}/\Fr L w L' w':=by
 obtain⟨a1,a2,a3,a4,a5,a6⟩:=h.apart;have n:∀x∈g.toList,x∈gt.toList\/w.heap.size<=x/\x∉gb.toList/\x∉gc.toList/\x∉gy.toList:=λx a=>by
  rcases l with rfl|⟨y,rfl,c⟩
  .exact .inl a
  .have a:x=y:=by simpa using a
   refine .inr ⟨by omega,λf=>?_,λf=>?_,λf=>?_⟩<;>have:=h.Lz (x:=x) (by simp[f])<;>omega
 obtain⟨e,j⟩:=h.swap k (λx a=>⟨h.mem.2<|by simp[a],(a4 x a).2.1,(a4 x a).1⟩) (gb':=gb) (gt':=g) (gc':=gc) (gy':=gy) (λx a=>.inl a) n (λx a=>.inl a) λx a=>.inl a;refine⟨_,⟨h.bl.aG e k λx a c=>(a4 x c).2.2 a,c.sub λx a=>.inl ?_,?_,h.ty.aG k λx a c=>(a6 x<|by simp[a]).2.2.2.1 c,rfl,j,?_⟩,e⟩
 .rw[z1] at a;rw[mA,mA,h.mem];rcases a with h|h|h|h|h|h<;>simp[h]
 .rcases h.co with⟨ho,h1⟩|⟨ho,hn,h1⟩
  .exact .inl ⟨ho,h1.aG k λx a c=>(a5 x<|by simp[a]).2.2.2 c⟩
  .exact .inr ⟨ho,hn,h1.go e⟩
 .intro x a;rw[z1] at a;have d:=k.size;rcases a with a|a|a|a|a|a
  .exact lL (h.cP x (h.mem.2<|by simp[a])) d
  .exact lL (h.cP x (h.mem.2<|by simp[a])) d
  .exact lL (h.cP x (h.mem.2<|by simp[a])) d
  .exact c.lt x a
  .exact lL (h.cP x (h.mem.2<|by simp[a])) d
  .exact lL (h.cP x (h.mem.2<|by simp[a])) d
theorem iz.num (h:iz τ E L w b o vb vt vc vy gb gt gc gy m) (c:Nat) (q:Bool):iz τ E L w b o vb vt vc vy gb gt gc gy {m with count:=c,wide:=q}:=⟨h.bl,h.ta,h.co,h.ty,h.eL,h.nd,h.cP⟩
end
theorem Fr.in {G c:List Nat} (h:Fr G w c w') (E:List Nat):Fr (E++G) w (E++c) w':=
 ⟨h.aG.mono λx a=>mR _ a,λx a=>by
  rcases mA.1 a with a|a
  .exact .inl<|List.mem_append_left _ a
  .rcases h.mem x a with b|b
   .exact .inl<|mR _ b
   .exact .inr b⟩
structure Ak where
 M:TypeId
 S:TypeId
 T:TypeId
structure jy (τ:Ak) (E G:List Nat) (w:World) (b:Nat) (vt vn ve:Value) (gn ge:Option Nat) (ai aN:List ak) (exprs:List aq):Prop where
 ta:bo (E++G) w vt ai
 na:cN w τ.S vn gn aN
 ex:et (E++G) w τ.T 2 ve ge (da exprs)
 eG:G=b::(gn.toList++ge.toList)
 nd:(E++G).Nodup
 cP:∀x∈E++G,x<w.heap.size
section
variable {τ:Ak} {E G:List Nat} {w w':World} {b:Nat} {vt vn ve:Value} {gn ge:Option Nat} {ai aN:List ak} {exprs:List aq}
theorem jy.mem (h:jy τ E G w b vt vn ve gn ge ai aN exprs):x∈G↔x=b\/x∈gn.toList\/x∈ge.toList:=by rw[h.eG];simp
theorem jy.apart (h:jy τ E G w b vt vn ve gn ge ai aN exprs):E.Nodup/\b∉E/\(∀x∈gn.toList,x∉E/\x≠b)/\(∀x∈ge.toList,x∉E/\x≠b/\x∉gn.toList):=by have g:=h.nd;rw[h.eG,List.nodup_append,List.nodup_cons,List.nodup_append] at g;obtain⟨i,⟨f,_,_,j⟩,c⟩:=g;refine⟨i,λhb=>c b hb b sm rfl,λx a=>⟨λd=>c x d x (by simp[a]) rfl,λe=>f<|by simp[<-e,a]⟩,λx a=>⟨λd=>c x d x (by simp[a]) rfl,λe=>f<|by simp[<-e,a],λl=>j x l x a rfl⟩⟩
theorem WO {A B:Option Nat} {F:List Nat} {b:Nat} (a:F.Nodup) (c:b∉F) (d:∀x∈A.toList,x∉F/\x≠b) (hb:∀x∈B.toList,x∉F/\x≠b/\x∉A.toList):(F++b::(A.toList++B.toList)).Nodup:=by grind
theorem jy.WQ (h:jy τ E G w b vt vn ve gn ge ai aN exprs) {n:List ak} (d:cN w' τ.S v g n) (k:aj gn.toList w w') (q:g=gn\/g=some w.heap.size):
  ∃m,jy τ E m w' b vt v ve g ge ai n exprs/\Fr G w m w':=by
 obtain⟨a1,a2,a3,a4⟩:=h.apart;have l:∀x∈g.toList,x∈gn.toList\/x=w.heap.size:=λx a=>by
  rcases q with rfl|rfl
  .exact .inl a
  .right;simpa using a
 have f:∀x∈E++G,x≠w.heap.size:=λx a e=>by have:=h.cP x a;omega
 have i:Fr G w (b::(g.toList++ge.toList)) w':=⟨k.mono λx a=>h.mem.2<|by simp[a],λx a=>by
  rcases mC.1 a with rfl|a
  .exact .inl (h.mem.2<|.inl rfl)
  .rcases mA.1 a with a|a
   .rcases l x a with c|c
    .exact .inl (h.mem.2<|by simp[c])
    .right;omega
   .exact .inl (h.mem.2<|by simp[a])⟩
 have o:(E++b::(g.toList++ge.toList)).Nodup:=WO a1 a2 (λx a=>by
  rcases l x a with c|c
  .exact a3 x c
  .exact⟨λp=>f x (by simp[p]) c,λe=>f x (mR _ (h.mem.2<|.inl e)) c⟩) (λx a=>⟨(a4 x a).1,(a4 x a).2.1,λd=>by
  rcases l x d with c|c
  .exact(a4 x a).2.2 c
  .exact f x (mR _ (h.mem.2<|by simp[a])) c⟩)
 refine⟨_,⟨h.ta.go<|i.in E,d,h.ex.aG (i.in E) k λx a d=>(a4 x a).2.2 d,rfl,o,λx a=>?_⟩,i⟩;have j:=k.size;rcases mA.1 a with a|a
 .exact lL (h.cP x<|by simp[a]) j
 .rcases mC.1 a with rfl|a
  .exact lL (h.cP x<|mR _ (h.mem.2<|.inl rfl)) j
  .rcases mA.1 a with a|a
   .exact d.lt x a
   .exact lL (h.cP x<|mR _ (h.mem.2<|by simp[a])) j
theorem jy.aG (h:jy τ E G w b vt vn ve gn ge ai aN exprs) {H:List Nat} (k:aj H w w') (c:∀x∈H,x=b):jy τ E G w' b vt vn ve gn ge ai aN exprs:=by obtain⟨a1,a2,a3,a4⟩:=h.apart;have e:Fr (E++G) w (E++G) w':=Fr.of k λx a=>mR _<|h.mem.2 (.inl<|c x a);exact⟨h.ta.go e,h.na.aG k λx a d=>(a3 x<|by simp[a]).2<|c x d,h.ex.aG e k λx a d=>(a4 x a).2.1<|c x d,h.eG,h.nd,λx a=>lL (h.cP x a) k.size⟩
theorem P3 {w:World} {T:TypeId} (a:aK w x #[] T):iX w T sz (.slice (some ⟨x,0,none⟩) 0 0) (some x) 0 []:=by grind [aK,iX]
theorem WR {w:World} {T:TypeId} (a:aK w x #[] T):cN w T (.slice (some ⟨x,0,none⟩) 0 0) (some x) []:=P3 a
theorem P4 {w:World} {T:TypeId} (a:aK w x #[] T):et L w T sz (.slice (some ⟨x,0,none⟩) 0 0) (some x) []:=⟨⟨[],P3 a,trivial⟩,sm⟩
theorem jy.opened (h:jy τ E G w b vt vn ve gn ge ai aN exprs) (k:aj [b] w w') {y:Nat} (m:aK w' x #[] τ.S) (f:aK w' y #[] τ.T) (r:w.heap.size<=x) (s:x<y):
  jy τ (gn.toList++(ge.toList++E)) (b::[x,y]) w' b vt (.slice (some ⟨x,0,none⟩) 0 0) (.slice (some ⟨y,0,none⟩) 0 0) (some x) (some y) ai [] []/\
   cN w' τ.S vn gn aN/\et (E++G) w' τ.T 2 ve ge (da exprs)/\Fr G w (b::[x,y]) w':=by
 obtain⟨a1,a2,a3,a4⟩:=h.apart;have g:∀z∈E++G,z<w.heap.size:=h.cP;have n:Fr (E++G) w ((gn.toList++(ge.toList++E))++(b::[x,y])) w':=⟨k.mono λz a=>mR _<|h.mem.2 (.inl<|by simpa using a),λz a=>by
  simp only[mA,mC,List.not_mem_nil,or_false] at a;rcases a with(a|a|a)|a|a|a
  .exact .inl (mR _<|h.mem.2 (.inr<|.inl a))
  .exact .inl (mR _<|h.mem.2 (.inr<|.inr a))
  .exact .inl<|List.mem_append_left _ a
  .exact .inl<|mR _ (h.mem.2<|.inl a)
  .right;omega
  .right;omega⟩
 have o:Fr (E++G) w (E++G) w':=Fr.of k λz a=>mR _<|h.mem.2 (.inl<|by simpa using a);have hb:b<w.heap.size:=g b<|mR _ (h.mem.2<|.inl rfl);have j:∀z∈gn.toList,z<w.heap.size:=λz a=>g z (mR _<|h.mem.2 (.inr<|.inl a));have l:∀z∈ge.toList,z<w.heap.size:=λz a=>g z (mR _<|h.mem.2 (.inr<|.inr a));have i:∀z∈E,z<w.heap.size:=λz a=>g z<|List.mem_append_left _ a;refine⟨⟨h.ta.go n,WR m,P4 f,rfl,?_,?_⟩,h.na.aG k λz a f=>(a3 z<|by simp[a]).2<|by simpa using f,h.ex.aG o k λz a f=>(a4 z a).2.1<|by simpa using f,⟨k.mono λz a=>h.mem.2 (.inl<|by simpa using a),λz a=>?_⟩⟩
 .rw[List.nodup_append,List.nodup_append,List.nodup_append];refine⟨⟨PG gn,⟨PG ge,a1,λp d q c e=>(a4 p d).1<|e▸c⟩,λp d q c e=>?_⟩,?_,λp d q c e=>?_⟩
  .subst e;rcases mA.1 c with c|c
   .exact(a4 p c).2.2 d
   .exact(a3 p d).1 c
  .simp only[List.nodup_cons,mC,List.not_mem_nil,or_false,not_false_eq_true,List.nodup_nil,and_true];omega
  .subst e;simp only[mC,List.not_mem_nil,or_false] at c;simp only[mA] at d;rcases d with d|d|d
   .rcases c with c|c|c
    .exact(a3 p d).2 c
    .have:=j p d;omega
    .have:=j p d;omega
   .rcases c with c|c|c
    .exact(a4 p d).2.1 c
    .have:=l p d;omega
    .have:=l p d;omega
   .rcases c with c|c|c
    .subst c;exact a2 d
    .have:=i p d;omega
    .have:=i p d;omega
 .intro z a;simp only[mA,mC,List.not_mem_nil,or_false] at a;have t:=k.size;rcases a with(a|a|a)|a|a|a
  .have:=j z a;omega
  .have:=l z a;omega
  .have:=i z a;omega
  .omega
  .rw[a];exact m.lt
  .rw[a];exact f.lt
 .simp only[mC,List.not_mem_nil,or_false] at a;rcases a with a|a|a
  .exact .inl (h.mem.2<|.inl a)
  .right;omega
  .right;omega
theorem jy.closed {d:List Nat} {c m l:Value} {i g:Option Nat} {e:List ak} {f:List aq} {n:World} (h:jy τ E G n b vt vn ve gn ge ai aN exprs) 
  (p:jy τ (gn.toList++(ge.toList++E)) d w b c m l i g ai e f) (t:cN w τ.S vn gn aN) (s:et (E++G) w τ.T 2 ve ge (da exprs)) (hk:Fr G n d w) (k:aj [b] w w'):
  jy τ E G w' b c vn ve gn ge ai aN exprs/\Fr G n G w':=by
 obtain⟨a1,a2,a3,a4⟩:=h.apart;have o:aj G w w':=k.mono λz a=>h.mem.2 (.inl<|by simpa using a);have q:Fr (E++G) w (E++G) w':=Fr.of o λz a=>mR _ a;have u:∀z∈E++G,z∈(gn.toList++(ge.toList++E))++d:=λz a=>by
  rcases mA.1 a with a|a
  .simp[a]
  .rcases h.mem.1 a with a|a|a
   .exact mR _ (p.mem.2<|.inl a)
   .simp[a]
   .simp[a]
 have r:bo (E++G) w c ai:=p.ta.fresh λz a=>.inl<|u z a;refine⟨⟨r.go q,t.aG k λz a j=>(a3 z<|by simp[a]).2<|by simpa using j,s.aG q k λz a j=>(a4 z a).2.1<|by simpa using j,h.eG,h.nd,λz a=>?_⟩,⟨hk.aG.since o λz a=>.inl a,λz a=>.inl a⟩⟩;have:=h.cP z a;have v:=hk.aG.size;have y:=k.size;omega
def m5V (n:Nat) (b a ve:Value):List Value:=[b,.int .i64 (n:Int),a,ve]
def M5 (c:Ak) (E G:List Nat) (w:World) (b:Nat) (d:List ak) (n:Nat) (aN:List ak) (a:List aq):Prop:=∃vt vn ve gn ge,aK w b (m5V n vt vn ve).toArray c.M/\jy c E G w b vt vn ve gn ge d aN a
theorem jy.ext (h:jy τ E G w b vt vn ve gn ge ai aN exprs) (k:aj [] w w'):jy τ E G w' b vt vn ve gn ge ai aN exprs:=h.aG k sm
theorem M5.ext (h:M5 τ E G w b ai n aN exprs) (k:aj [] w w'):M5 τ E G w' b ai n aN exprs:=by obtain⟨vt,vn,ve,gn,ge,a,c⟩:=h;exact⟨vt,vn,ve,gn,ge,a.aG k sm,c.ext k⟩
end
structure eE (L:List Nat) (w:World) (b:Nat) (vs:Array Value) (T:TypeId):Prop where
 je:aK w b vs T
 out:b∉L
theorem eE.lt {a:Array Value} {T:TypeId} (h:eE L w b a T):b<w.heap.size:=h.je.lt
theorem eE.at {T:TypeId} (h:eE L w b vs.toArray T) (a:vs[i]?=some v):w.cell? ⟨b,i,none⟩=some v:=h.je.at a
theorem eE.all {T:TypeId} (h:eE L w b vs.toArray T):fZ w b 0 vs:=h.je.all
theorem eE.go {c:Array Value} {T:TypeId} (h:eE L w b c T) (k:Fr L w L' w'):eE L' w' b c T:=
 ⟨h.je.aG k.aG h.out,λd=>by
  rcases k.mem b d with a|a
  .exact h.out a
  .have:=h.je.lt;omega⟩
theorem eE.ext {a:Array Value} {T:TypeId} (h:eE L w b a T) (k:aj [] w w'):eE L w' b a T:=⟨h.je.ext k,h.out⟩
theorem eE.aB {G:List Nat} {a:Array Value} {T:TypeId} (h:eE L w b a T) (k:aj G w w') (c:∀x∈G,x∈L):eE L w' b a T:=h.go<|Fr.of k c
theorem aK.o {a:Array Value} {T:TypeId} (h:aK w b a T) (c:∀x∈L,x<b):eE L w b a T:=⟨h,λd=>by have:=c b d;omega⟩
theorem cN.rs {T:TypeId} (h:cN w T v g xs):bo [] w v xs:=h.rep sm
theorem kV {T:TypeId} (h:cN w T v g xs):∃a c,v= .slice a xs.length c:=iX.len h
section
variable {P:Program} {n:Nat} {ops:Array Oper} {K:Env->World->Prop} {rest:List Oper} {e:Env} {w:World} {dst:Option Nat} {ty:TypeId} {pos:String} {after:Array Edge} {g:Option (Nat×Bool)} {x y:Operand}
theorem WT {v:Value} {f:Option Nat} {i:List ak} {s:ak} {b U:Nat} (p:P.underlying t=some (.slice E)) (m:TI P E 1 bytes z) (u:gate ops e g=true) (r:cK n dst=true) (D:Nat.beq z.cells.size 1=true) (l:Nat.ble bytes 1000=true) 
  (B:ev e x=v) (C:ev e y= .slice (some ⟨b,0,none⟩) 1 1) (o:cN w E v f i) (hb:aK w b [str s].toArray U) (A:i.length<100000000)
  (k:∀d a w',cN w' E d a (i++[s])->aj f.toList w w'->Fr f.toList w a.toList w'->OW P n ops K rest (cj e dst d) w'):
  OW P n ops K (⟨dst,.call {callee:=.builtin .append,args:=#[x,y],argTypes:=#[t,t]},ty,pos,after,g⟩::rest) e w:=by
 refine Ek (L:=[]) (row:=[.val (str s)]) p m u r D l B C (o.WK _) rfl hb.all (by simp[Value.oneCell']) ⟨.val _,trivial⟩ (by rw[rB];exact A) ?_;intro d a w' j hk F;rw[WM] at j;refine k d a w' j.wT hk.aG ⟨hk.aG,λq c=>?_⟩;rcases F with h|h
 .rw[h] at c;exact .inl c
 .rw[h] at c;simp at c;right;omega
theorem l4 {T:Nat} (d:P.underlying T=some (.slice E)) (c:TI P E 1 bytes z) (i:gate ops e g=true) (f:cK n dst=true) (a:ev e q1=str a1) (b:ev e q2=str a2) 
  (k:∀w',aj [] w w'->aK w' w.heap.size [str a1,str a2].toArray E->w'.heap.size=w.heap.size+1->OW P n ops K rest (cj e dst<|.slice (some ⟨w.heap.size,0,none⟩) 2 2) w'):
  OW P n ops K (⟨dst,.buildSlice T 2 #[(0,q1),(1,q2)],ty,pos,after,g⟩::rest) e w:=
 sD [q1,q2] [[str a1],[str a2]] d c i f rfl rfl rfl rfl rfl (by simp[a,b,Value.cells]) rfl k
theorem qZ {T:Nat} (f:P.underlying T=some (.slice E)) (d:TI P E 1 bytes z) (j:gate ops e g=true) (i:cK n dst=true) (a:ev e q1=str a1) (b:ev e q2=str a2) (c:ev e q3=str a3) 
  (k:∀w',aj [] w w'->aK w' w.heap.size [str a1,str a2,str a3].toArray E->w'.heap.size=w.heap.size+1->OW P n ops K rest (cj e dst<|.slice (some ⟨w.heap.size,0,none⟩) 3 3) w'):
  OW P n ops K (⟨dst,.buildSlice T 3 #[(0,q1),(1,q2),(2,q3)],ty,pos,after,g⟩::rest) e w:=
 sD [q1,q2,q3] [[str a1],[str a2],[str a3]] f d j i rfl rfl rfl rfl rfl (by simp[a,b,c,Value.cells]) rfl k
theorem Am {T:Nat} (i:P.underlying T=some (.slice E)) (f:TI P E 1 bytes z) (l:gate ops e g=true) (j:cK n dst=true) (a:ev e q1=str a1) (b:ev e q2=str a2) (c:ev e q3=str a3) (d:ev e q4=str a4) 
  (k:∀w',aj [] w w'->aK w' w.heap.size [str a1,str a2,str a3,str a4].toArray E->w'.heap.size=w.heap.size+1->OW P n ops K rest (cj e dst<|.slice (some ⟨w.heap.size,0,none⟩) 4 4) w'):
  OW P n ops K (⟨dst,.buildSlice T 4 #[(0,q1),(1,q2),(2,q3),(3,q4)],ty,pos,after,g⟩::rest) e w:=
 sD [q1,q2,q3,q4] [[str a1],[str a2],[str a3],[str a4]] i f l j rfl rfl rfl rfl rfl (by simp[a,b,c,d,Value.cells]) rfl k
theorem WU {T:Nat} (j:P.underlying T=some (.slice E)) (i:TI P E 1 bytes z) (m:gate ops e g=true) (l:cK n dst=true) (a:ev e q1=str a1) (b:ev e q2=str a2) (c:ev e q3=str a3) (d:ev e q4=str a4) (f:ev e q5=str a5) 
  (k:∀w',aj [] w w'->aK w' w.heap.size [str a1,str a2,str a3,str a4,str a5].toArray E->w'.heap.size=w.heap.size+1->OW P n ops K rest (cj e dst<|.slice (some ⟨w.heap.size,0,none⟩) 5 5) w'):
  OW P n ops K (⟨dst,.buildSlice T 5 #[(0,q1),(1,q2),(2,q3),(3,q4),(4,q5)],ty,pos,after,g⟩::rest) e w:=
 sD [q1,q2,q3,q4,q5] [[str a1],[str a2],[str a3],[str a4],[str a5]] j i m l rfl rfl rfl rfl rfl (by simp[a,b,c,d,f,Value.cells]) rfl k
theorem ajv {T:Nat} (l:P.underlying T=some (.slice E)) (j:TI P E 1 bytes z) (o:gate ops e g=true) (m:cK n dst=true) (a:ev e q1=str a1) (b:ev e q2=str a2) (c:ev e q3=str a3) (d:ev e q4=str a4) (f:ev e q5=str a5) (i:ev e q6=str a6) 
  (k:∀w',aj [] w w'->aK w' w.heap.size [str a1,str a2,str a3,str a4,str a5,str a6].toArray E->w'.heap.size=w.heap.size+1->OW P n ops K rest (cj e dst<|.slice (some ⟨w.heap.size,0,none⟩) 6 6) w'):
  OW P n ops K (⟨dst,.buildSlice T 6 #[(0,q1),(1,q2),(2,q3),(3,q4),(4,q5),(5,q6)],ty,pos,after,g⟩::rest) e w:=
 sD [q1,q2,q3,q4,q5,q6] [[str a1],[str a2],[str a3],[str a4],[str a5],[str a6]] l j o m rfl rfl rfl rfl rfl (by simp[a,b,c,d,f,i,Value.cells]) rfl k
theorem WV {T:Nat} {c d:Operand} {a b:ak} (s:P.underlying T=some (.slice E)) (r:TI P E 1 bytes z) (u:gate ops e g=true) (t:cK n dst=true) (f:ev e q1=str a1) (i:ev e q2=str a2) (j:ev e q3=str a3) (l:ev e q4=str a4) (m:ev e q5=str a5) (o:ev e q6=str a6) (p:ev e c=str a) (q:ev e d=str b) 
  (k:∀w',aj [] w w'->aK w' w.heap.size [str a1,str a2,str a3,str a4,str a5,str a6,str a,str b].toArray E->w'.heap.size=w.heap.size+1->OW P n ops K rest (cj e dst<|.slice (some ⟨w.heap.size,0,none⟩) 8 8) w'):
  OW P n ops K (⟨dst,.buildSlice T 8 #[(0,q1),(1,q2),(2,q3),(3,q4),(4,q5),(5,q6),(6,c),(7,d)],ty,pos,after,g⟩::rest) e w:=
 sD [q1,q2,q3,q4,q5,q6,c,d] [[str a1],[str a2],[str a3],[str a4],[str a5],[str a6],[str a],[str b]] s r u t rfl rfl rfl rfl rfl (by simp[f,i,j,l,m,o,p,q,Value.cells]) rfl k
theorem ajw {T:Nat} {i j l b:Operand} {c d f a:ak} (B:P.underlying T=some (.slice E)) (A:TI P E 1 bytes z) (D:gate ops e g=true) (C:cK n dst=true) (o:ev e q1=str a1) (p:ev e q2=str a2) (q:ev e q3=str a3) (r:ev e q4=str a4) (s:ev e q5=str a5) (t:ev e q6=str a6) (u:ev e i=str c) (v:ev e j=str d) (y:ev e l=str f) (m:ev e b=str a) 
  (k:∀w',aj [] w w'->aK w' w.heap.size [str a1,str a2,str a3,str a4,str a5,str a6,str c,str d,str f,str a].toArray E->w'.heap.size=w.heap.size+1->OW P n ops K rest (cj e dst<|.slice (some ⟨w.heap.size,0,none⟩) 10 10) w'):
  OW P n ops K (⟨dst,.buildSlice T 10 #[(0,q1),(1,q2),(2,q3),(3,q4),(4,q5),(5,q6),(6,i),(7,j),(8,l),(9,b)],ty,pos,after,g⟩::rest) e w:=
 sD [q1,q2,q3,q4,q5,q6,i,j,l,b] [[str a1],[str a2],[str a3],[str a4],[str a5],[str a6],[str c],[str d],[str f],[str a]] B A D C rfl rfl rfl rfl rfl (by simp[o,p,q,r,s,t,u,v,y,m,Value.cells]) rfl k
end
theorem aV.eq {t u:aq} (h:aV L w v t) (e:t=u):aV L w v u:=e▸h
theorem fQ {e:List aq} (h:cD L w (.slice a n c) e) (p:i<e.length):
  ∃b d f g,a=some ⟨b,d,none⟩/\gm L w b (d+i*2) [str (nth e i).au,.slice f (nth e i).ag.length g]/\aV L w (.agg #[str (nth e i).au,.slice f (nth e i).ag.length g]) (nth e i):=by
 obtain⟨b,d,vs,l,hb,j,_,m,s⟩:=zw h (KF<|ek p);obtain⟨f,y,g,o,q,r⟩:=cW (t:=nth e i) ⟨vs,rfl,s⟩;have u:vs=[str (nth e i).au,.slice f y g]:=by have:=congrArg (λv=>match v with|Value.agg x=>x.toList|_=>[]) o;simpa using this
 subst u q;exact⟨b,d,f,g,l,⟨m,hb,j⟩,jQ r⟩
theorem aK.wT {T:Nat} (a:List ak) (h:aK w b (a.map λx=>str x).toArray T) (c:a.length<=100000:=by simp):cN w T (.slice (some ⟨b,0,none⟩) a.length a.length) (some b) a:=
 ⟨by simp,.inr ⟨b,a.length,_,rfl,rfl,h,lR _,Nat.le_trans c de,sm,by rw[Nat.mul_one,List.take_of_length_le sm]⟩⟩
theorem aK.eC {T:Nat} (a:List ak) (h:aK w b (a.map λx=>str x).toArray T) (c:b∉L) (d:a.length<=100000:=by simp):bo L w (.slice (some ⟨b,0,none⟩) a.length a.length) a:=
 (h.wT a d).rep λq e=>by cases e;exact c
theorem aK.l5 {T:Nat} (h:aK w b #[] T):cN w T (.slice (some ⟨b,0,none⟩) 0 0) (some b) []:=WR h
theorem uL (h:n<1000):(aS n).length<=3:=by grind [aS]
theorem mS (h:ak) (a:List ak):(dz h a).length=h.length+2+jv a:=by grind [dz,K5,jv]
theorem ajx {m:Nat}:∀xs:List ak,(∀s∈xs,s.length<=m)->(xs.map List.length).sum<=xs.length*m:=by intro x;induction x<;>grind [lC,Nat.add_mul]
theorem CG {m:Nat} (a:List ak) (h:∀s∈a,s.length<=m):jv a<=a.length*(m+1):=by have:=ajx a h;unfold jv;rw[Nat.mul_add];omega
structure kW (s:cY):Prop where
 types:zV (fx s)
 regs:∀p∈s,p.2.1<1000
theorem IU (h:kW s) (x:ak):lF s x<1000:=by
 unfold lF;cases a:s.reverse.find? λp=>decide (p.1=x) with
 |none=>simp
 |some p=>exact h.regs p (List.mem_reverse.1<|List.mem_of_find?_eq_some a)
theorem LR (h:kW s) (x:ak):(lh s x).n<=16:=by
 unfold lh;cases a:look (fx s) x with
 |none=>decide
 |some T=>exact h.types x T a
theorem rb {T:Ty} (h:T.n<=16):(bH T).length<=256:=by have:=DY T;omega
theorem vV {T:Ty} (h:T.n<=16):(dR<|bH T).length<=272:=by have:=rb h;rw[PF];omega
theorem kW.snoc (h:kW s) {x:ak} {r:Nat} {T:Ty} (c:r<1000) (b:T.n<=16):kW (s++[(x,r,T)]):=by
 refine⟨by rw[Gg];exact Iw h.types b,λp a=>?_⟩;rcases mA.1 a with a|a
 .exact h.regs p a
 .simp only[List.mem_singleton] at a;rw[a];exact c
def CH (s:ak):Prop:=∃T:Ty,T.n<=16/\s=dR (bH T)
/-! ### The type of a package's tuple -/
def mT (s:cY) (aN:List ak) (on:ak):List ak:=aN.map (λx=>bH<|lh s x)++(if on≠[] then[on] else[])
def Gx:Option Ty->ak
 |some T=>dR<|bH T
 |none=>[]
def vW (s:cY) (aN:List ak) (on:Option Ty):List aq:=aN.map (λx=>sA<|lh s x)++(match on with|some T=>[B3 (sA T)]|none=>[])
theorem Gy (s:cY) (aN:List ak) (on:Option Ty):mT s aN (Gx on)=(vW s aN on).map aq.text:=by
 unfold mT vW;rw[List.map_append,List.map_map]
 congr 1
 cases on with
 |none=>rfl
 |some T=>
  have a:dR (bH T)≠[]:=by simp[dR]
  refine(iP<|show Gx (some T)≠[] from a).trans ?_;simp[Gx,VR,bH]
theorem WW (s:cY) (aN:List ak) (on:ak):(mT s aN on).length<=aN.length+1:=by grind [mT]
theorem WX (h:kW s) {aN:List ak} {on:ak} (a:on.length<=272):∀t,t∈mT s aN on->t.length<=272:=by grind [mT,rb,LR]
theorem IV (h:kW s) {aN:List ak} {on:ak} (e:aN.length<=40) (a:on.length<=272):(dz [116] (mT s aN on)).length<=11200:=by have b:=CG _<|WX h (aN:=aN) a;have c:=WW s aN on;have d:(mT s aN on).length*(272+1)<=41*(272+1):=Nat.mul_le_mul om<|lR _;rw[mS];simp only[lC,List.length_nil];omega
theorem ajy (s:cY) (aN:List ak) (on:Option Ty):aN.length<=(vW s aN on).length:=by simp_all[vW]
theorem ajz (s:cY) (aN:List ak) (on:Option Ty):∀t,t∈vW s aN on->Good t:=λt a=>by
 unfold vW at a;rcases mA.1 a with a|a
 .obtain⟨x,_,rfl⟩:=List.mem_map.1 a;exact Ge _
 .cases on with
  |none=>simp at a
  |some T=>simp only[List.mem_singleton] at a;rw[a];exact VQ<|Ge T
theorem WY (h:kW s) {aN:List ak} {on:Option Ty} (d:aN.length<=40) (b:∀T,on=some T->T.n<=16):
  bP (dz [116] (mT s aN<|Gx on))=some (iw [116] (vW s aN on)):=by
 have c:=BO (h:=[116]) de de<|ajz s aN on;rw[Gy,<-FY de];refine OQ c ?_ ?_
 .show aq.depth.deeps (bI [116]::vW s aN on)<=60;refine KV λp a=>?_;rcases mC.1 a with rfl|a
  .have:(bI [116]).depth=0:=rfl;omega
  .unfold vW at a;rcases mA.1 a with a|a
   .obtain⟨x,_,rfl⟩:=List.mem_map.1 a;have:=Gf<|lh s x;have:=LR h x;omega
   .cases on with
    |none=>simp at a
    |some T=>simp only[List.mem_singleton] at a;have:=Gf T;have:=b T rfl;rw[a,VS];omega
 .rw[FY de,<-Gy];have:=IV h (aN:=aN) (on:=Gx on) d (by
   cases on with
   |none=>simp[Gx]
   |some T=>exact vV<|b T rfl)
  omega
/-! ### The state stays small -/
structure fT (m:Mk):Prop where
 types:∀s∈m.types,s.length<=100000
 code:∀s∈m.code,s.length<=100000
theorem fT.dG (h:fT m) {k:ak} (hk:k.length<=100000):fT (m.dG k):=⟨λs a=>by
 rcases mA.1 a with a|a
 .exact h.types s a
 .simp only[List.mem_singleton] at a;rw[a];exact hk,h.code⟩
theorem fT.cU (h:fT m) {b:ak} {c:List ak} (hk:(dz b c).length<=100000):fT (m.cU b c):=⟨h.types,λs a=>by
 rcases mA.1 a with a|a
 .exact h.code s a
 .simp only[List.mem_singleton] at a;rw[a];exact hk⟩
structure ajA (m m':Mk) (dt dc:Nat):Prop where
 blocks:m'.blocks=m.blocks
 bT:m'.bT=m.bT
 types:m'.types.length=m.types.length+dt
 code:m'.code.length=m.code.length+dc
theorem W0 (m:Mk) (s:cY) (b:Nat) (aN:List ak) (on aL a:ak) (ck:List ak):ajA m (qe m s b aN on aL a ck).m 4 4:=by refine⟨rfl,rfl,?_,?_⟩<;>simp[qe,Mk.dG,Mk.cU]
theorem W1 (m:Mk) (s:cY) (b:Nat) (aN:List ak) (on aL a:ak) (ck:List ak):(qe m s b aN on aL a ck).w=dz [116] (mT s aN on):=rfl
theorem W2 (r:fT m) (n:kW s) {e:Nat} (u:e<1000) {aN:List ak} (t:aN.length<=40) {on aL i:ak} (v:on.length<=272) (K:aL.length<=10) (hk:i.length<=272) {ck:List ak} (q:ck.length<=2) (o:∀x∈ck,x.length<=272) (F:m.types.length+4<1000):fT (qe m s e aN on aL i ck).m:=by
 have j:=IV n t v;have f:∀k,k<1000->(aS k).length<=3:=λk hk=>uL hk;have p:=CG ck o;have l:(dz [99] (dz [116] (mT s aN on)::ck)).length<=12000:=by
  rw[mS];have:jv (dz [116] (mT s aN on)::ck)=1+(dz [116] (mT s aN on)).length+jv ck:=by unfold jv;simp;omega
  have J:ck.length*(272+1)<=2*(272+1):=Nat.mul_le_mul q<|lR _;simp only[lC,List.length_nil];omega
 have regs:∀x,x∈aN.map (λx=>aS<|lF s x)++(if on≠[] then[aS e] else[])->x.length<=3:=λx g=>by
  rcases mA.1 g with g|g
  .obtain⟨y,_,rfl⟩:=List.mem_map.1 g;exact f _<|IU n y
  .split at g
   .simp only[List.mem_singleton] at g;rw[g];exact f _ u
   .simp at g
 have z:(aN.map (λx=>aS<|lF s x)++(if on≠[] then[aS e] else[])).length<=41:=by rw[lA,List.length_map];split<;>simp<;>omega
 unfold qe;have s2:∀a b:ak,jv [a,b]=2+a.length+b.length:=λa b=>by simp[jv];omega
 have A:∀a b c:ak,jv [a,b,c]=3+a.length+b.length+c.length:=λa b c=>by simp[jv];omega
 have B:∀a b c d:ak,jv [a,b,c,d]=4+a.length+b.length+c.length+d.length:=λa b c d=>by simp[jv];omega
 have L:=f m.types.length om;have D:=f (m.types.length+1) om;have E:=f (m.types.length+2) om;have C:=f (m.types.length+3) om;refine fT.cU (fT.dG (fT.cU (fT.dG (fT.cU (fT.dG (fT.cU (fT.dG r ?_) ?_) ?_) ?_) ?_) ?_) ?_) ?_
 .exact Nat.le_trans j om
 .have H:=CG _ regs;have I:(aN.map (λx=>aS<|lF s x)++(if on≠[] then[aS e] else[])).length*(3+1)<=41*(3+1):=Nat.mul_le_mul z<|lR _;rw[mS];have:jv (aS m.types.length::(aN.map (λx=>aS<|lF s x)++(if on≠[] then[aS e] else[])))=1+(aS m.types.length).length+jv (aN.map (λx=>aS<|lF s x)++(if on≠[] then[aS e] else[])):=by unfold jv;simp;omega
  rw[this];simp only[lC,List.length_nil];omega
 .exact Nat.le_trans l om
 .rw[mS,s2];simp only[lC,List.length_nil];omega
 .rw[mS,s2];have:=j;unfold mT at this l;simp only[lC,List.length_nil];unfold mT at j;omega
 .rw[mS,A];simp only[lC,List.length_nil];omega
 .omega
 .rw[mS,B];have:=j;unfold mT at this;simp only[lC,List.length_nil];omega
structure Ext (m m':Mk) (k:Nat) (new:List Tk):Prop where
 blocks:m'.blocks=m.blocks
 bT:m'.bT=m.bT++new
 count:m'.count=m.count+new.length
 types:m.types.length<=m'.types.length/\m'.types.length<=m.types.length+k
 code:m'.code.length<=m.code.length+2*k
theorem Ext.refl (m:Mk):Ext m m 0 []:=⟨rfl,sm,rfl,om,om⟩
theorem Ext.trans {b c:Mk} {j k:Nat} {p q:List Tk} (h:Ext m b j p) (a:Ext b c k q):Ext m c (j+k) (p++q):=
 ⟨a.blocks.trans h.blocks,by rw[a.bT,h.bT,List.append_assoc],by rw[a.count,h.count,lA];omega,by have:=h.types;have:=a.types;omega,by have:=h.code;have:=a.code;omega⟩
theorem Ext.more {a:Mk} {j k:Nat} {p:List Tk} (h:Ext m a j p) (hk:j<=k):Ext m a k p:=⟨h.blocks,h.bT,h.count,by have:=h.types;omega,by have:=h.code;omega⟩
theorem P7 {s:ak} (h:rH s=true):s.length<=4:=by grind [rH,numeral,Uk,eJ]
theorem pF (h:e.ok):e.au.length<=4:=by cases e<;>grind [Ex.ok,Ex.au,P7]
theorem CI (a b:ak):jv [a,b]=2+a.length+b.length:=by simp[jv];omega
theorem IW {a:ak} (b:fT m) (d:kW s) (e:a.length<=4) (c:m.types.length<1000):Ext m (cJ m s a).1 1 []/\fT (cJ m s a).1/\(cJ m s a).2<1000:=by
 unfold cJ;split
 .exact⟨(Ext.refl m).more om,b,IU d a⟩
 .refine⟨⟨rfl,by simp[Mk.dG,Mk.cU],rfl,by simp[Mk.dG,Mk.cU],by simp[Mk.dG,Mk.cU]⟩,fT.cU (fT.dG b sm) ?_,c⟩;have:=uL c;rw[mS,CI];simp only[lC,List.length_nil];omega
/-! ### Tasks -/
structure pG (t:Tk):Prop where
 ok:t.expr.ok
 type:∃T,bL t.expr (fx t.sc)=some T
 sc:kW t.sc
 bud:5*t.sc.length+2*t.expr.n<=240
 room:t.regs.length+t.loads+8*t.expr.n<=990
 regs:∀r∈t.regs,r.length<=100000
 loads:t.loads=0\/∃ts:List aq,t.regs.head?=some (dz [116] (ts.map aq.text))/\t.loads<=ts.length/\bP (dz [116] (ts.map aq.text))=some (iw [116] ts)
 self:t.self=[]\/∃a b,t.self=[a,b]/\a.length<=272/\b.length<=11200/\t.regs.length=3/\∀r∈t.regs,r.length<=11200
 ba:CH t.ba
 on:t.on<1000
 aL:t.aL.length<=4
theorem P8 (s:cY) (k:Nat) (aN:List ak):fx (jl s k aN [])=aN.map λx=>(x,lh s x):=by
 unfold jl fx;rw[List.nil_append,List.map_map];have:∀(l:List ak) (j:Nat),(l.zipIdx j).map ((λp:ak×Nat×Ty=>(p.1,p.2.2))∘λp=>(p.1,k+p.2,lh s p.1))=l.map λx=>(x,lh s x):=by
  intro l;induction l with
  |nil=>intro j;rfl
  |cons x l a=>intro j;simp only[List.zipIdx_cons,List.map_cons,Function.comp,a]
 exact this aN 0
theorem P9:∀{aN:List ak} {x:ak},x∈aN->look (aN.map λx=>(x,lh s x)) x=some (lh s x):=by
 intro aN x h;have b:∀(l:List ak),(∃y∈l,y=x)->(l.map λx=>(x,lh s x)).find? (λp=>decide<|p.1=x)=some (x,lh s x):=by
  intro l;induction l with
  |nil=>rintro⟨_,f,_⟩;simp at f
  |cons y l g=>
   intro d;rw[List.map_cons,List.find?_cons];by_cases e:y=x
   .rw[dT e,e]
   .rw[dF e];obtain⟨z,a,c⟩:=d;rcases mC.1 a with a|a
    .exact absurd (a▸c) e
    .exact g ⟨z,a,c⟩
 unfold look;rw[<-List.map_reverse,b aN.reverse ⟨x,List.mem_reverse.2 h,rfl⟩];rfl
theorem W4 (h:kW s) (k:Nat) (aN:List ak) (j:k+aN.length<1000):kW (jl s k aN []):=by
 refine⟨λx T a=>?_,λp c=>?_⟩
 .rw[P8] at a;have g:x∈aN:=by
   unfold look at a;cases b:(aN.map λx=>(x,lh s x)).reverse.find? (λp=>decide<|p.1=x) with
   |none=>rw[b] at a;cases a
   |some q=>have d:=List.find?_some b;have e:=List.mem_reverse.1<|List.mem_of_find?_eq_some b;obtain⟨y,i,rfl⟩:=List.mem_map.1 e;rw[<-of_decide_eq_true d];exact i
  rw[P9 g] at a;cases a;exact LR h x
 .unfold jl at c;rw[List.nil_append] at c;obtain⟨q,f,rfl⟩:=List.mem_map.1 c;have:=List.snd_lt_of_mem_zipIdx f;show k+q.2<1000;omega
theorem An (s:cY) (k:Nat) (aN:List ak):(jl s k aN []).length=aN.length:=by simp[jl]
theorem Qa {x:ak} (h:(look (fx s) x).isSome=true):look (fx s) x=some (lh s x):=by
 unfold lh;cases a:look (fx s) x with
 |none=>rw[a] at h;cases h
 |some T=>rfl
theorem Qb {bd:List ak} (hb:5*s.length+2*e.n<=240) (i:∀x,Fv x e->x∉bd->(look (fx s) x).isSome=true):(dN e bd []).length<=34/\(dN e bd []).length<=s.length:=by
 have d:=Pt e bd [];have f:(dN e bd []).length<=(s.map Prod.fst).length:=Pv (ah8 e bd [] List.nodup_nil) λx b=>by
  rcases(DX x e bd []).1 b with h|⟨b,hb⟩
  .simp at h
  .have:=i x b hb;unfold look at this;cases a:(fx s).reverse.find? λp=>decide (p.1=x) with
   |none=>rw[a] at this;cases this
   |some q=>have g:=List.find?_some a;have c:=List.mem_reverse.1<|List.mem_of_find?_eq_some a;unfold fx at c;obtain⟨p,j,rfl⟩:=List.mem_map.1 c;rw[<-of_decide_eq_true g];exact List.mem_map.2 ⟨p,j,rfl⟩
 simp only[List.length_nil,Nat.zero_add,List.length_map] at d f;omega
theorem W5 {b:Nat} {aN:List ak} {on aL a:ak} {ck:List ak}:Ext m (qe m s b aN on aL a ck).m 4 []:=by have h:=W0 m s b aN on aL a ck;exact⟨h.blocks,by rw[h.bT];simp,rfl,by rw[h.types];omega,by rw[h.code];omega⟩
theorem CJ (h:m.count<1000):m.aL.length<=4:=by grind [Mk.aL,uL]
theorem W6 {m:Mk} {f x:ak} {A B:Ty} {T:Ty} (q:kW s) (I:(Ex.fn f x A B e).ok) (a:bL (.fn f x A B e) (fx s)=some T) (hb:5*s.length+2*(Ex.fn f x A B e).n<=240) (M:m.count<1000):pG (B8 m s f x A B e)/\(dN (.fn f x A B e) [] []).length<=34/\1+A.n+B.n<=16:=by
 obtain⟨O,_,_,i,o,N⟩:=I;have V:∀y,Fv y (.fn f x A B e)->y∉([]:List ak)->(look (fx s) y).isSome=true:=λy j _=>qQ a j;obtain⟨K,_⟩:=Qb hb V;have l:1+A.n+B.n<=16/\bL e (fx s++[(f,.op true A B),(x,A)])=some B:=by
  unfold bL at a;split at a
  .rename_i R;cases t:bL e (fx s++[(f,.op true A B),(x,A)]) with
   |none=>rw[t] at a;cases a
   |some C=>
    rw[t,Option.bind_some] at a;split at a
    .rename_i Q;rw[aib.1 Q];exact⟨R,rfl⟩
    .cases a
  .cases a
 have u:(Ty.op true A B).n<=16:=l.1;have Y:(bH<|.op true A B).length<=256:=rb u;have P:(Ex.fn f x A B e).n=3+A.n+B.n+e.n:=rfl;rw[P] at hb;have L:=A.pos;have X:=B.pos;have z:=W4 q 3 (dN (.fn f x A B e) [] []) om;have v:(pA m s f x A B e).w=dz [116] (mT s (dN (.fn f x A B e) [] []) []):=W1 ..;have D:(pA m s f x A B e).w.length<=11200:=by rw[v];exact IV q om sm
 have J:bL e (fx<|B7 s f x A B e)=some B:=by
  rw[<-l.2];unfold B7;rw[Gg];refine rJ e _ _ λy _ j=>?_;rw[p8,B0];by_cases c:x=y
  .rw[iP c,iP c]
  .rw[iN c,iN c];by_cases b:f=y
   .have g:0<kS f e:=(aia O e).2<|b▸j;rw[iP b,iP g,Gg,p8,iP b]
   .rw[iN b];have E:Fv y (.fn f x A B e):=⟨λn=>b n.symm,λn=>c n.symm,j⟩;have U:y∈dN (.fn f x A B e) [] []:=(DX y _ [] []).2<|.inr ⟨E,sm⟩;have F:look (fx<|jl s 3 (dN (.fn f x A B e) [] []) []) y=look (fx s) y:=by
     rw[P8,P9 U,Qa (qQ a E)]
    split
    .rw[Gg,p8,iN b,F]
    .exact F
 have H:kW (B7 s f x A B e):=by
  unfold B7;split
  .exact(z.snoc om u).snoc om i
  .exact z.snoc om i
 have S:5*(B7 s f x A B e).length+2*e.n<=240:=by
  unfold B7;rw[lA];split
  .rw[lA,An];simp only[lC,List.length_nil];omega
  .rw[An];simp only[lC,List.length_nil];omega
 refine⟨{ok:=N,type:=⟨B,J⟩,sc:=H,bud:=S,room:=?_,regs:=?_,loads:=?_,self:=?_,ba:=⟨B,o,rfl⟩,on:=?_,aL:=CJ M},K,l.1⟩
 .show 3+(dN (.fn f x A B e) [] []).length+8*e.n<=990;omega
 .intro r p;have d:r∈[(pA m s f x A B e).w,bH A,dR (bH B)]:=p;simp only[mC,List.not_mem_nil,or_false] at d;rcases d with rfl|rfl|rfl
  .omega
  .have:=rb i;omega
  .have:=vV o;omega
 .refine .inr ⟨vW s (dN (.fn f x A B e) [] []) none,?_,ajy _ _ _,?_⟩
  .show some (pA m s f x A B e).w=_;rw[v,<-Gy];rfl
  .rw[<-Gy];exact WY q om sm
 .show(if 0<kS f e then[bH<|.op true A B,(pA m s f x A B e).w] else[])=[]\/_;by_cases g:0<kS f e
  .refine .inr ⟨bH<|.op true A B,(pA m s f x A B e).w,iP g,om,D,rfl,λr p=>?_⟩;have d:r∈[(pA m s f x A B e).w,bH A,dR (bH B)]:=p;simp only[mC,List.not_mem_nil,or_false] at d;rcases d with rfl|rfl|rfl
   .exact D
   .have:=rb i;omega
   .have:=vV o;omega
  .exact .inl<|iN g
 .show(2:Nat)<1000;omega
theorem ajB {f x:ak} {A B:Ty} {T:Ty} (d:fT m) (g:kW s) (b:(Ex.fn f x A B e).ok) (v:bL (.fn f x A B e) (fx s)=some T) (hb:5*s.length+2*(Ex.fn f x A B e).n<=240) (o:m.types.length+4<1000) (c:m.count<1000):
  Ext m (B9 m s f x A B e).1 4 [B8 m s f x A B e]/\fT (B9 m s f x A B e).1/\(B9 m s f x A B e).2<1000/\pG (B8 m s f x A B e):=by
 obtain⟨u,_,l⟩:=W6 (m:=m) g b v hb c;obtain⟨_,_,_,r,t,_⟩:=b;have z:(bH<|.op true A B).length<=256:=rb l;have a:Ext m.mn (pA m s f x A B e).m 4 []:=W5;have n:fT m.mn:=⟨d.types,d.code⟩;have j:fT (pA m s f x A B e).m:=W2 n g om om sm (by have:=CJ c;omega) om sm (λy i=>by
  simp only[mC,List.not_mem_nil,or_false] at i;rcases i with rfl|rfl
  .have:=rb r;omega
  .exact vV t) o
 have p:(pA m s f x A B e).m.bT=m.bT:=by rw[a.bT];simp[Mk.mn]
 have q:(pA m s f x A B e).m.count=m.count+1:=by rw[a.count];simp[Mk.mn]
 refine⟨⟨a.blocks,?_,q,a.types,a.code⟩,⟨j.types,j.code⟩,?_,u⟩
 .show(pA m s f x A B e).m.bT++[B8 m s f x A B e]=m.bT++[B8 m s f x A B e];rw[p]
 .show m.types.length+3<1000;omega
theorem ajC {m:Mk} {ton:Nat} {ba name:ak} {a:Ty} {rest:Ex} {T:Ty} (f:kW s) (C:CH ba) (o:a.n<=16) (q:rest.ok) (j:bL rest (fx s++[(name,a)])=some T) (hb:5*(s.length+1)+2*rest.n<=240) (z:m.count<1000):pG (Lw m s ton ba name a rest)/\(dN rest [name] []).length<=34:=by
 obtain⟨O,d,rfl⟩:=C;have n:∀y,Fv y rest->y∉[name]->(look (fx s) y).isSome=true:=λy c A=>by have:=qQ j c;rw[p8,iN λe=>A (by rw[e];simp)] at this;exact this
 obtain⟨u,_⟩:=Qb om n;have p:=W4 f 2 (dN rest [name] []) om;have g:(pB m s ton (dR<|bH O) name a rest).w=dz [116] (mT s (dN rest [name] []) (dR<|bH O)):=W1 ..;have E:(pB m s ton (dR<|bH O) name a rest).w.length<=11200:=by rw[g];exact IV f om<|vV d
 have t:bL rest (fx<|jl s 2 (dN rest [name] []) []++[(name,1,a)])=some T:=by
  rw[<-j,Gg];refine rJ rest _ _ λy _ c=>?_;rw[p8,p8];by_cases b:name=y
  .rw[iP b,iP b]
  .rw[iN b,iN b];have i:y∉[name]:=λh=>b (by simpa using h:y=name).symm;have D:y∈dN rest [name] []:=(DX y _ [name] []).2<|.inr ⟨c,i⟩;rw[P8,P9 D,Qa (n y c i)]
 refine⟨{ok:=q,type:=⟨T,t⟩,sc:=p.snoc om o,bud:=?_,room:=?_,regs:=?_,loads:=?_,self:=.inl rfl,ba:=⟨O,d,rfl⟩,on:=?_,aL:=CJ z},u⟩
 .show 5*(jl s 2 (dN rest [name] []) []++[(name,1,a)]).length+2*rest.n<=240;rw[lA,An];simp only[lC,List.length_nil];omega
 .show 2+((dN rest [name] []).length+1)+8*rest.n<=990;omega
 .intro r B;have l:r∈[(pB m s ton (dR (bH O)) name a rest).w,bH a]:=B;simp only[mC,List.not_mem_nil,or_false] at l;rcases l with rfl|rfl
  .omega
  .have:=rb o;omega
 .refine .inr ⟨vW s (dN rest [name] [])<|some O,?_,?_,?_⟩
  .show some (pB m s ton (dR<|bH O) name a rest).w=_;rw[g,<-Gy];rfl
  .show(dN rest [name] []).length+1<=_;unfold vW;rw[lA,List.length_map];simp
  .rw[<-Gy];exact WY f om λT v=>by cases v;exact d
 .show 2+(dN rest [name] []).length<1000;omega
theorem ajD {ton:Nat} {ba name:ak} {a:Ty} {rest:Ex} {T:Ty} (e:fT m) (f:kW s) (v:ton<1000) (i:CH ba) (c:a.n<=16) (n:rest.ok) (u:bL rest (fx s++[(name,a)])=some T) (hb:5*(s.length+1)+2*rest.n<=240) (o:m.types.length+4<1000) (d:m.count<1000):
  Ext m (vQ m s ton ba name a rest).1 4 [Lw m s ton ba name a rest]/\fT (vQ m s ton ba name a rest).1/\(vQ m s ton ba name a rest).2.1<1000/\CH (vQ m s ton ba name a rest).2.2/\pG (Lw m s ton ba name a rest):=by
 obtain⟨t,_⟩:=ajC (m:=m) (ton:=ton) f i c n u hb d;obtain⟨O,r,rfl⟩:=i;have b:Ext m.mn (pB m s ton (dR<|bH O) name a rest).m 4 []:=W5;have l:fT m.mn:=⟨e.types,e.code⟩;have j:fT (pB m s ton (dR<|bH O) name a rest).m:=W2 l f v om (vV r) (by have:=CJ d;omega) (vV c) sm (λy g=>by simp only[List.mem_singleton] at g;rw[g];have:=rb c;omega) o;have p:(pB m s ton (dR<|bH O) name a rest).m.bT=m.bT:=by rw[b.bT];simp[Mk.mn]
 have q:(pB m s ton (dR<|bH O) name a rest).m.count=m.count+1:=by rw[b.count];simp[Mk.mn]
 refine⟨⟨b.blocks,?_,q,b.types,b.code⟩,⟨j.types,j.code⟩,?_,⟨a,c,rfl⟩,t⟩
 .show(pB m s ton (dR<|bH O) name a rest).m.bT++[_]=m.bT++[_];rw[p]
 .show m.types.length+3<1000;omega
end Go.Proofs.YtcildnfcpkpomaaGreatDoor
