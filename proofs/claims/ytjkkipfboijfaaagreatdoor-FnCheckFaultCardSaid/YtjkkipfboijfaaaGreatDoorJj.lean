/- Lemmas for the law FnCheckFault, no statement of their own: no conditions. -/
import Derived.Test.YtjkkipfboijfaaaGreatDoorJi
import Derived.OpenShut
import Derived.Shelf.Bits.Mul64
import Derived.Shelf.LaysM
import Derived.Shelf.Small.Wraps
import Derived.Shelf.Strconv.Atoi
import Derived.Shelf.Strconv.Itoa0
import Derived.Shelf.Strconv.Itoa1
import Derived.Shelf.Strconv.Itoa2
import Derived.Shelf.Strconv.Itoa3
import Derived.Shelf.Strings.Builder1
import Derived.Shelf.Strings.Builder2
import Derived.Shelf.Strings.Builder2Cap
import Derived.Shelf.Strings.BuilderCap
import Derived.Shelf.Strings.BuilderF
import Derived.Shelf.Strings.BuilderK
import Derived.Shelf.Strings.Prefix
import Derived.Shelf.Strings.Repeat
set_option maxHeartbeats 4000000
set_option linter.all false
namespace Go.Proofs.YtjkkipfboijfaaaGreatDoor
open Go
variable {T:Ty} {f:Ex} {a s:aj} {bs:List Bk} {b c d i n o q:Nat} {L:List Nat} {w w':World} {v:Value} {k t:au} {ps:List dv} {z:Int} {ts:List au}
def SI:∀(k:Nat) {m:Mk} {i:Nat},uv m i->∃j,uv (AM k m i) j
 |0,_,i,h=>⟨i,h⟩
 |k+1,m,i,h=>by
  by_cases a:i<m.bX.length
  .rw[Ym a];exact SI k<|h.step a
  .rw[Yl a];exact⟨i,h⟩
def aqg {e:Ex} (a:e.ok) (d:bO e []=some T) (c:e.n<=120):qE (ofM e T).blocks:=by obtain⟨j,b⟩:=SI 1000<|QV a d c;exact b.small
def FF (s:aj) (f:Ex) (T:Ty):Prop:=∃e:Ex,bU s=some e.aw/\e.ok/\e.n<=120/\pF e=some f/\ox f.aw.text=true/\bO e []=some T
def HK (s:aj) (ok:Bool) (bs:List Bk):Prop:=(ok=true->∃f T,FF s f T/\(ofM f T).wide=false/\iW (ofM f T).blocks=true/\bs=(ofM f T).blocks)/\(ok=false->bs=[]/\∀f T,FF s f T->¬((ofM f T).wide=false/\iW (ofM f T).blocks=true))
def abf (a:f.ok) (j:ox f.aw.text=true):bU f.aw.text=some f.aw/\f.n<=120:=by obtain⟨_,b,c,d⟩:=zk.1 j;have e:=(ue b).2.2.1;have g:=Lu (Ex.wf c) (Ex.wf a) e;have i:=sF c a g;subst i;exact⟨b,d⟩
def aqh (h:FF s f T):f.ok/\bO f []=some T/\f.n<=120/\bU f.aw.text=some f.aw:=by obtain⟨e,_,a,_,b,d,g⟩:=h;have c:=Qb a b;obtain⟨i,j⟩:=abf c d;exact⟨c,WN a g b,j,i⟩
theorem NZ {b:Ex} {a:Ty} (h:FF s f T) (g:FF s b a):f=b/\T=a:=by obtain⟨e,i,j,_,l,_,m⟩:=h;obtain⟨_,o,p,_,c,_,d⟩:=g;have n:=sF j p (Option.some.inj<|i.symm.trans o);subst n;rw[l] at c;rw[m] at d;exact⟨Option.some.inj c,Option.some.inj d⟩
def aqi:FF NI sQ .i:=⟨sQ,Z6,R8,by decide,an3,by rw[Z5];exact zk.2 ⟨sQ,Z6,R8,by decide⟩,type12⟩
def aqj {ok:Bool} (h:HK NI ok bs):ok=true:=by
 cases ok with
 |true=>rfl
 |false=>exact absurd ⟨an4,an5⟩<|(h.2 rfl).2 _ _ aqi
theorem HK.aQ {ok:Bool} (h:HK s ok bs):∀b∈bs,b.aQ.length<=10:=by
 cases ok with
 |true=>obtain⟨f,T,a,_,_,rfl⟩:=h.1 rfl;obtain⟨c,d,e,_⟩:=aqh a;obtain⟨j,g⟩:=SI 1000<|QV c d e;exact g.labels
 |false=>rw[(h.2 rfl).1];intro b hb;cases hb
theorem HK.prog (h:HK s true bs):iW bs=true:=by obtain⟨f,T,_,_,a,rfl⟩:=h.1 rfl;exact a
def abg (s:aj) (w:World):bC Tryz.prog 63 [str s] w λr w'=>(∃v ok bs,r= .tuple #[v,.bool ok]/\ma [] w' v bs/\HK s ok bs/\(ok=true->∃g,Gr w.heap.size [] w' 30 3 v g (bs.map Bk.enc)))/\ak [] w w':=by
 have a:=ak.refl [] w;refine cm [.tmp 2,.tmp 3] 44 Tryz.func63 rfl ahG rfl rfl ?_;refine W ?_;refine aA (amC s w) ?_;rintro _ w1 ⟨eX,aI⟩;have cK:=aI.size;have a:=a.ext aI;have j:=eX;obtain⟨_,M,e0,BL,hx0⟩:=j;subst e0;refine W ?_;refine xq (t:=17) rfl (λb=>?_) λb=>?_;replace b:=jY b;have E:M=false:=by simpa using b
 refine W ?_;refine zc rfl (λd=>?_) λd=>?_;refine zr<|iu my jf λw2 O wW _=>?_;have a:=a.ext O;refine W ?_;exact⟨_,rfl,⟨_,false,[],rfl,cw.nil _ _ _,⟨λh=>by(cases h),λ_=>⟨rfl,λf T ⟨e,b,d,p,i,F,q⟩=>by rw[BL.2 ⟨e,f,b,d,p,i,F⟩] at E;cases E⟩⟩,λh=>by(cases h)⟩,a⟩;simp at d;replace b:=jY b;have E:M=true:=(by simpa using b);have hex:=BL.1 E;obtain⟨e,f,L,m,hn,Q,gB⟩:=hex;have SJ:=hx0 e f L m Q E;subst SJ;have S:=Qb m Q;have Ra:=abf S gB;obtain⟨vv,RO⟩:=Ra;have K:EX s (fC<|bO e []):=⟨λh=>(by rw[zk.2 ⟨e,L,m,hn⟩] at h;cases h),λe' b d p=>by rw[sF d m (Option.some.inj<|b.symm.trans L)]⟩;refine zm<|aA (anj s w1) ?_;rintro _ w2 ⟨gM,O⟩;have dI:=O.size;have a:=a.ext O;have j:=gM;obtain⟨b9,c,A⟩:=j;subst c;have A:=A _ K;refine W ?_;refine zc rfl (λp=>?_) λp=>?_;have n:bO e []=none:=ZC (by have kH:b9=false:=(by simpa using p);rw[kH] at A;simpa using A.symm);refine zr<|iu my jf λw3 N wW _=>?_;have a:=a.ext N;refine W ?_;exact⟨_,rfl,⟨_,false,[],rfl,cw.nil _ _ _,⟨λh=>by(cases h),λ_=>⟨rfl,λf' T ⟨e',b,d,p,i,F,q⟩=>by rw[sF d m (Option.some.inj<|b.symm.trans L),n] at q;cases q⟩⟩,λh=>by(cases h)⟩,a⟩;have n:=ZD (o:=bO e []) (by have kH:b9=true:=(by simpa using p);rw[kH] at A;simpa using A.symm);obtain⟨T,n⟩:=n;rw[n] at K;have K:EX s T.text:=K;have JR:=WN m n Q;have J:FF s f T:=⟨e,L,m,hn,Q,gB,n⟩;refine iH<|zr<|zm<|aA (Ju f.aw.text [] w2 sm) ?_;rintro v3 w3 ⟨kW,N⟩;have fB:=N.size;have a:=a.ext N;have j:=kW;obtain⟨t,_,c,B,hp⟩:=j;subst c;have e2:=hp.1 _ vv;subst e2;have cO:=cQ B;obtain⟨pa,_,pc,c,eh,_⟩:=cO;subst c;subst eh;have kX:=a.size;refine W ?_;refine dw aK rfl rfl rfl λ_ aH bY _=>?_;have a:=a.ext aH;have Z:=aH;refine cJ (vs:=[str f.aw.aq,.slice pa f.aw.ag.length pc]) aK rfl rfl rfl bY rfl λ_ aN bY _=>?_;have a:=a.since aN λx hx=>.inr (by simp at hx;omega);have Z:=Z.since aN λx hx=>.inr (by simp at hx;omega);have B:=B.ext Z;refine W ?_;apply yM cY 9 (rA 29 4++[28,33,34,8,9]) (rA 29 4++[28,33,34,8,9]) [[],[],[1],[0,2],[3],[4],[4],[5],[6]] [It.v _,It.v _,It.v _,It.p (fun(v:Value) (y:World)=>∃l g,v= .tuple #[l,.bool (!(ofM f T).wide)]/\Gr w.heap.size [] y 30 3 l g ((ofM f T).blocks.map Bk.enc)),It.p (fun(v:Value) (y:World)=>∃l g,v= .tuple #[l,.bool (!(ofM f T).wide)]/\Gr w.heap.size [] y 30 3 l g ((ofM f T).blocks.map Bk.enc)),It.p (fun(v:Value) (y:World)=>∃g,Gr w.heap.size [] y 30 3 v g ((ofM f T).blocks.map Bk.enc)),It.v _,It.p (fun(v:Value) (y:World)=>∃g,Gr w.heap.size [] y 30 3 v g ((ofM f T).blocks.map Bk.enc)),It.v _] de (by exact⟨λv w w' ⟨l,g,b,d⟩ k=>⟨l,g,b,d.ext k⟩,λv w w' ⟨l,g,b,d⟩ k=>⟨l,g,b,d.ext k⟩,λv w w' ⟨g,h⟩ k=>⟨g,h.ext k⟩,λv w w' ⟨g,h⟩ k=>⟨g,h.ext k⟩,trivial⟩);intro _ aC;refine VA ?_;refine vk aC (λx u z=>?_) ?_;refine aA (ZK s u) ?_;rintro v7 w7 ⟨tu,D⟩;have nX:=D.size;have j:=tu;obtain⟨_,c,jK⟩:=j;have jK:=ZJ jK K;subst jK;subst c;exact pk D;refine vk aC (λx u z=>?_) ?_;refine bQ z a B λa B=>?_;have Aw:=a.size;refine aA (ap7 f T S JR RO _ u B) ?_;rintro v7 w7 ⟨tu,D⟩;have nX:=D.size;have j:=tu;obtain⟨V,P,c,U⟩:=j;have U:=U.down (B':=w.heap.size) om;exact pf D<|⟨V,P,c,U⟩;refine vc (λx u z=>?_) ?_;intro v3 d3;refine WZ ?_;exact pf (ak.refl _ _) d3;refine vc (λx u z=>?_) ?_;intro v4 d4;obtain⟨V,P,c,yq⟩:=d4;subst c;refine WZ ?_;exact pf (ak.refl _ _)<|⟨P,yq⟩;refine vc (λx u z=>?_) ?_;intro v4 d4;obtain⟨V,P,c,yq⟩:=d4;subst c;refine WZ ?_;exact pv;refine vc (λx u z=>?_) ?_;intro v5 d5;refine WZ ?_;exact pf (ak.refl _ _) d5;exact VZ;intro x nB kV;intro v3 d3;intro v4 d4;intro v5 d5;intro v7 d7;have a:=a.ext kV;change OW _ _ _ _ [] (bf (aY _ x _)<|zZ 29 [_,_,_,_]++[(28,_),(33,_),(34,_),(8,_),(9,_)]) _;obtain⟨g5,C⟩:=d7;refine W ?_;refine xq (t:=37) rfl (λi=>?_) λi=>?_;replace i:=jY i;have X:(ofM f T).wide=true:=by simpa using i
 refine W ?_;refine zc rfl (λF=>?_) λF=>?_;refine zr<|iu my jf λoH R Y _=>?_;have a:=a.ext R;refine W ?_;exact⟨_,rfl,⟨_,false,[],rfl,cw.nil _ _ _,⟨λh=>by(cases h),λ_=>⟨rfl,λf' T' H I=>by rw[(NZ H J).1,(NZ H J).2,X] at I;cases I.1⟩⟩,λh=>by(cases h)⟩,a⟩;simp at F;replace i:=jY i;have X:(ofM f T).wide=false:=(by simpa using i);refine zm<|aA (Qw (ofM f T).blocks (aqg S JR RO) _ [] nB C.BS) ?_;rintro _ oH ⟨rfl,R⟩;have Kq:=R.size;refine bQ R a C λa C=>?_;refine W ?_;refine zc rfl (λq=>?_) λq=>?_;have lk:iW (ofM f T).blocks=false:=(by simpa using q);refine zr<|iu my jf λ_ ji Y _=>?_;have a:=a.ext ji;refine W ?_;exact⟨_,rfl,⟨_,false,[],rfl,cw.nil _ _ _,⟨λh=>by(cases h),λ_=>⟨rfl,λf' T' H I=>by rw[(NZ H J).1,(NZ H J).2,lk] at I;cases I.2⟩⟩,λh=>by(cases h)⟩,a⟩;have lk:iW (ofM f T).blocks=true:=(by simpa using q);refine W ?_;exact⟨_,rfl,⟨_,true,_,rfl,C.BS,⟨λ_=>⟨f,T,J,X,lk,rfl⟩,λh=>by(cases h)⟩,λ_=>⟨g5,C⟩⟩,a⟩
theorem aqn {a:Nat} (e:a<4611686018427387904) (hb:b<4611686018427387904):IntKind.i64.wrap ((a%2^IntKind.i64.bits^^^b%2^IntKind.i64.bits:Nat):Int)=((a^^^b:Nat):Int):=by have f:a^^^b<2^62:=Nat.xor_lt_two_pow om om;have c:a%2^IntKind.i64.bits=a:=Nat.mod_eq_of_lt (show a<2^64 by omega);have d:b%2^IntKind.i64.bits=b:=Nat.mod_eq_of_lt (show b<2^64 by omega);rw[c,d];exact wrap_i64 _ om om
section
variable {P:Program} {n:Nat} {ops:Array Oper} {K:Env->World->Prop} {rest:List Oper} {e:Env} {w:World} {dst:Option Nat} {ty T T':TypeId} {pos:String} {after:Array Edge} {g:Option (Nat×Bool)} {x y:Operand}
def aqo {a:Nat} (i:gate ops e g=true) (f:cN n dst=true) (j:ev e x= .int .i64 (a:Int)) (l:ev e y= .int .i64 (b:Int)) (d:a<4611686018427387904) (hb:b<4611686018427387904) 
  (c:OW P n ops K rest (cC e dst<|.int .i64 ((a^^^b:Nat):Int)) w):OW P n ops K (⟨dst,.binOp .xor T x y T',ty,pos,after,g⟩::rest) e w:=
 fY i f (by simp[execOp,eqGuard,j,l,binOp,Op.intBits,aqn d hb]) c
end
def SL {d len a size h:Nat} {rows:List (List C)} (g:cw L w (.slice (some ⟨b,d,none⟩) len a) (.sl size rows)) (o:h<=len):cw L w (.slice (some ⟨b,d,none⟩) h a) (.sl size<|rows.take h):=by
 cases g with
 |nil=>rw[List.take_nil,show h=0 from by omega];exact .nil _ _ _
 |sl _ _ _ _ _ _ f _ _ hb i l n m=>
  exact .sl b d h a size (rows.take h) f (by rw[List.length_take];omega) om hb i (λrow g=>l row<|List.mem_of_mem_take g) (λk j hk e=>n k j om e) λk j row c hk e=>m k j row c (by
   rw[List.getElem?_take] at hk;split at hk
   .exact hk
   .cases hk) e
section
variable {P:Program} {n:Nat} {ops:Array Oper} {K:Env->World->Prop} {rest:List Oper} {e:Env} {w:World} {dst:Option Nat} {ty T:TypeId} {pos:String} {after:Array Edge} {g:Option (Nat×Bool)} {x:Operand}
def SM {L:List Nat} {E:TypeId} {j bytes:Nat} {z:Value} {f:Operand} {b d len a h:Nat} {k:IntKind} (q:P.underlying T=some (.slice E)) (p:TI P E j bytes z) (t:gate ops e g=true) (s:cN n dst=true) 
  (y:ev e x= .slice (some ⟨b,d,none⟩) len a) (m:ev e f= .int k (h:Int)) (i:h<=len) {rows:List (List C)} (u:cw L w (.slice (some ⟨b,d,none⟩) len a) (.sl j rows))
  (c:OW P n ops K rest (cC e dst<|.slice (some ⟨b,d,none⟩) h a) w):OW P n ops K (⟨dst,.slice T x none (some f) none,ty,pos,after,g⟩::rest) e w:=by
 have l:len<=a:=by cases u with|nil=>exact Nat.zero_le _|sl _ _ _ _ _ _ _ i r=>exact r
 have o:h<=a:=Nat.le_trans i l;refine fY t s (v:=.slice (some ⟨b,d,none⟩) h a) (w':=w) ?_ c;simp[execOp,Instr.sliceAt,Instr.slice,y,m,run_underlying q,Instr.sliceBounds,Instr.sliceBound,asIntOf,o,p.uR,xo]
end
def tP (bs:List UInt8):List (List C):=bs.map λc=>[.val (.int .u8 (c.toNat:Int))]
theorem HL (bs:List UInt8):(tP bs).length=bs.length:=by simp[tP]
def N0 {a:Option Addr} {bs:List UInt8} (h:cw L w (.slice a n c) (.sl 1<|tP bs)) (m:i<bs.length):∃b d x,a=some ⟨b,d,none⟩/\gD L w b (d+i*1) [.int .u8 ((x:UInt8).toNat:Int)]:=by
 obtain⟨b,d,e,j,hb,g,o,l,p⟩:=z8 h (i:=i) (row:=[.val (.int .u8 ((bs[i]).toNat:Int))]) (by simp[tP,gE m]);obtain⟨u,q⟩:∃u,e=[u]:=by
  match e,o with
  |[u],_=>exact⟨u,rfl⟩
 subst q;obtain⟨f,_⟩:=p;cases f;exact⟨b,d,bs[i],j,l,hb,g⟩
def dW (w:World) (b q:Nat):Prop:=∃a n c p bs,aL w b [.slice a n c,.int .i64 ((p:Nat):Int)].toArray 75/\p<=q/\(∀L:List Nat,(∀x∈L,b<=x)->cw L w (.slice a n c) (.sl 1<|tP bs))/\n<=1000000000
def dW.ext {b:Nat} (h:dW w b q) (k:ak [] w w'):dW w' b q:=let⟨a,n,c,p,bs,d,e,f,g⟩:=h;⟨a,n,c,p,bs,d.ext k,e,λL i=>cw.ext (f L i) k,g⟩
def dW.more {b d:Nat} (h:dW w b q) (j:q<=d):dW w b d:=let⟨a,n,c,p,bs,e,f,g,i⟩:=h;⟨a,n,c,p,bs,e,Nat.le_trans f j,g,i⟩
theorem dW.lt {a:Nat} (h:dW w a q):a<w.heap.size:=let⟨_,_,_,_,_,b,_⟩:=h;b.lt
def abj {b:Nat} {rows:List (List C)} {G:List Nat} (h:∀L:List Nat,(∀x∈L,b<=x)->cw L w v (.sl 1 rows)) (k:ak G w w') (c:∀x∈G,b<=x):∀L:List Nat,(∀x∈L,b<=x)->cw L w' v (.sl 1 rows):=λL d=>
 (cw.aG (h (G++L) λx a=>(mA.1 a).elim (c x)<|d x)<|k.mono λx a=>List.mem_append_left _ a).fresh λx a=>.inl<|mR _ a
def dW.aG {b:Nat} {G:List Nat} (h:dW w b q) (k:ak G w w') (e:∀x∈G,b<x):dW w' b q:=let⟨a,n,c,p,bs,f,g,i,j⟩:=h;⟨a,n,c,p,bs,f.aG k λd=>Nat.lt_irrefl _<|e b d,g,abj i k λx d=>Nat.le_of_lt<|e x d,j⟩
section
open Go Go.ChangeShapes Go.WideShapes
theorem aqp {zs:List Int} (h:∀n∈zs,(Lit.int .u8 n).wf=true) (a:i<zs.length):Value.int .u8 (zs.getD i 0)= .int .u8 (((UInt8.ofNat (zs.getD i 0).toNat).toNat:Nat):Int):=by
 have:=range_u8 h i;rw[<-gG] at this
 congr 1
 simp only[UInt8.toNat_ofNat'];omega
section
variable {H:Type} {enc:TypeId×Value->H} {P:Program} {w:World} {held:Bool}
def axK {t e:TypeId} {f:Nat} {o:List Value} {x:DataW H×List MemPlace} (y:P.underlying t=some (.slice e)) (u:P.underlying e=some (.int .u8)) (d:P.cellsOf e=1) 
  (h:DataW.trod enc P w 0 (λ_=>true) held f t o=some x):∃a len b bs,o=[.slice a len b]/\cw [] w (.slice a len b) (.sl 1<|tP bs):=by
 rcases open_ints y u d h with⟨rfl,_⟩|⟨a,len,b,zs,rfl,_,hl,hm,hz,_,l6,cG⟩
 .exact⟨none,0,0,[],rfl,.nil _ _ _⟩
 .simp only[if_true] at hz;rcases Nat.eq_zero_or_pos len with g|_
  .subst g;exact⟨some a,0,b,[],rfl,.nil _ _ _⟩
  .have g:=l6 0 om;rw[show a.add 0=a from by simp[Addr.add]] at g;obtain⟨q,hb⟩:=ajT g;have s:((zs.take len).map λn=>UInt8.ofNat n.toNat).length=len:=by simp;omega
   refine⟨some a,len,b,(zs.take len).map λn=>UInt8.ofNat n.toNat,rfl,?_⟩;rw[q];refine .sl a.block a.off len b 1 _ (λi _=>.int .u8<|zs.getD i 0) (by rw[HL,s]) hl hb sm (λrow v=>?_) (λi j r _=>?_) λi j row c m d=>?_
   .obtain⟨_,_,rfl⟩:=List.mem_map.1 v;rfl
   .have p:=l6 i om;rw[ajU q] at p;rw[show a.off+i*1+j=a.off+i from by omega];exact p
   .have r:i<len:=by
     have:=(List.getElem?_eq_some_iff.1 m).1;rw[HL,s] at this;exact this
    have l:row=[.val (.int .u8 (((UInt8.ofNat (zs.getD i 0).toNat).toNat:Nat):Int))]:=by simp only[tP,List.map_map,List.getElem?_map,List.getElem?_take,iP r,gE<|show i<zs.length by omega,Option.map_some,Function.comp,Option.some.injEq] at m;rw[<-m];simp[gG,gE (show i<zs.length by omega)]
    subst l
    match j,d with
    |0,d=>simp only[List.getElem?_cons_zero,Option.some.injEq] at d;subst d;rw[aqp cG om];exact .val _
    |j+1,d=>simp at d
end
end
theorem SN (y t:au):cR y t=if t.aq=[118] then y else if t.aq≠[]\/sS t.ag=[101] then t else .mk [] (t.ag.map<|cR y):=by
 cases t with
 |mk a ps=>rw[cR,IC];rfl
theorem SO (t:au):p5 t=if t.aq=[118] then 1 else if t.aq≠[]\/sS t.ag=[101] then 0 else mZ t.ag:=by
 cases t with
 |mk a ps=>rw[p5];rfl
theorem Kr (b:t.aq=[]):aT t=sS t.ag:=by
 cases t with
 |mk a ps=>cases b;exact Lw ps
theorem Ks {a:List au} (h:0<a.length):sS a=(nth a 0).aq:=by
 cases a with
 |nil=>simp at h
 |cons p a=>rfl
theorem SP:∀(b a:List au),mZ (b++a)=mZ b+mZ a
 |[],a=>by simp[mZ]
 |x::b,a=>by simp[mZ,SP b a];omega
def aqr {a:List au} {p:au} (h:a[i]?=some p):mZ (a.take<|i+1)=mZ (a.take i)+p5 p:=by rw[List.take_add_one,h,SP];simp[mZ]
mutual
def abk:∀t:au,p5 t<=t.size
 | .mk a ps=>by
  have:=SQ ps;unfold p5;simp only[au.size];split
  .omega
  .split<;>omega
def SQ:∀ps:List au,mZ ps<=au.size.sizes ps
 |[]=>by simp[mZ]
 |t::ts=>by have a:=abk t;have b:=SQ ts;simp only[mZ,au.size.sizes];omega
end
def aqs {ps:List au} (i:Nat):mZ (ps.take i)<=mZ ps:=by
 conv=>rhs;rw[<-List.take_append_drop i ps,SP]
 omega
def aqt (t:au):mZ t.ag<=t.size:=by
 cases t with
 |mk a ps=>have:=SQ ps;simp only[au.size,au.ag];omega
def aqu:∀(m:Nat) (t:au),t.size<=m->t.size<=10000000->WF t->∀(v:Value) (L:List Nat) (w:World),ba L w v t->
  bC Tryz.prog 159 [v] w λr w'=>r= .int .i64 (p5 t:Int)/\ak [] w w':=by
 intro m;induction m with
 |zero=>intro t h;have:=rB t;omega
 |succ m Q=>
  intro t _ _ F v L w s;have j:=s;obtain⟨a,n,c,rfl,P,D⟩:=cQ s;subst P;have X:=mc t;have N:=aqt t;have b:=ak.refl [] w;refine cm [.tmp 2] 32 Tryz.func159 rfl agb rfl rfl ?_;refine zr<|eH rfl λA B d _=>bQ B b j λb j=>?_;refine W ?_;refine zc rfl (λl=>?_) λl=>?_;have g:p5 t=1:=by rw[SO,iP l]
  refine W ?_;exact⟨_,rfl,by rw[g];rfl,b⟩;have u:=l;refine WZ ?_;apply oO 4 11 15 (ak [] A) rfl oQ;intro _;refine W ?_;refine aA (CD t _ _ A j) ?_;rintro _ _ ⟨rfl,E⟩;have V:=E.size;exact oQ;intro _ _ C;refine bQ C b d λb d=>?_;refine aX<|zc rfl (λf=>?_) λf=>?_;have g:p5 t=0:=(by simp only[oE,dE] at f;rw[SO,iN u];by_cases q:t.aq=[];(·rw[Kr q] at f;rw[iP f]);(·rw[iP (.inl q)]));refine W ?_;exact⟨_,rfl,by rw[g];rfl,b⟩;have g:p5 t=mZ t.ag:=(by simp only[Bool.or_eq_false_iff,decide_eq_false_iff_not] at f;obtain⟨y,z⟩:=f;rw[Kr (Classical.not_not.1 y)] at z;rw[SO,iN u,iN (by rintro(h|h);(·exact y h);(·exact z h))]);refine W ?_;refine eZ (λk:Nat=>[(1,.pointer<|some ⟨w.heap.size,0,none⟩),(3,.int .i64 ((mZ (t.ag.take k):Nat):Int)),(4,.int .i64 (k:Int))]) (λk w'=>ak [] w w'/\aL w' w.heap.size [str t.aq,.slice a t.ag.length c].toArray 93/\k<=t.ag.length) (λk=>t.ag.length-k) (0) (⟨rfl,rfl,rfl⟩) (⟨b,d,om⟩) λe S _ M=>?_;obtain⟨b,d,hk⟩:=M;refine W ?_;refine zc rfl (λK=>?_) λK=>?_;have p:=dN (ps:=t.ag) (i:=e) om;obtain⟨_,_,_,_,_,rfl,R,H,I⟩:=fE D p;subst H;have T:=F.nth (i:=e) om;have Z:=kO (t:=t) (i:=e) om;have U:=aqr p;have O:=aqs (ps:=t.ag)<|e+1;refine WL ?_;refine zl jg rfl (d.at rfl)<|zm<|zi cH aK rfl rfl om<|zL eU aK rfl (R.ext b) rfl<|aA (Q (nth t.ag e) om om T _ L S<|(iF I).ext b) ?_;rintro _ _ ⟨rfl,o⟩;have Y:=o.size;refine bQ o b d λb d=>?_;refine W ?_;exact⟨e+1,⟨rfl,congrArg (Value.int .i64) om,rfl⟩,⟨b,d,om⟩,om⟩;have J:e=t.ag.length:=by omega
  subst J;refine W ?_;exact⟨_,rfl,by rw[g,List.take_length];rfl,b⟩
def aqv (y:au):∀(m:Nat) (t:au),t.size<=m->t.size<=10000000->WF t->∀(v vy:Value) (L:List Nat) (w:World),ba L w v t->ba L w vy y->(∀x∈L,x<w.heap.size)->
  bC Tryz.prog 160 [v,vy] w λr w'=>ba L w' r (cR y t)/\ak [] w w':=by
 intro m;induction m with
 |zero=>intro t h;have:=rB t;omega
 |succ m ih=>
  intro t _ _ U v vy L w hv hy hL;have B:=hv;have C:=hy;have FG:=hy;obtain⟨a,n,c,rfl,hn,aR⟩:=cQ hv;obtain⟨ya,yn,yc,rfl,_,_⟩:=cQ hy;subst hn;have lz:=mc t;have d:=ak.refl [] w;refine lq [.cell 4 93] 44 Tryz.func160 rfl agd rfl rfl rfl ?_;refine zr<|eH rfl λw1 aI j _=>cV aI d B C λd B C=>?_;refine eH rfl λA av l _=>gY av d B C j λd B C j=>?_;refine dw aK rfl rfl rfl λz N f _=>?_;have d:=d.grow;have d:=d.ext N;have B:=B.grow;have B:=B.ext N;have C:=C.grow;have C:=C.ext N;have j:=j.grow;have j:=j.ext N;have l:=l.grow;have l:=l.ext N;refine W ?_;refine zc rfl (λQ=>?_) λQ=>?_;have R:cR y t=y:=by rw[SN,iP Q]
  refine W ?_;refine cJ aK rfl rfl rfl f rfl λw4 E f gK=>?_;have d:=d.aB E sx;have C:=C.aB E sx;refine W ?_;exact⟨[_],gk eU aK rfl f rfl,by rw[R];exact ba.dX C λx o=>by simp[o],d⟩;have kA:=Q;refine WZ ?_;apply oP 7 14 21 rfl oQ;intro Y;have ha0:t.aq=[]:=Classical.not_not.1 Y;have mL:=U.pos ha0;obtain⟨_,_,_,_,_,rfl,eI,_,_⟩:=fE aR<|dN mL;refine zf jO rfl<|zl jg rfl (j.at rfl)<|WL ?_;refine zl fA rfl (eI.ext d 0 _ rfl) ?_;exact oQ;intro _;refine aX<|zc rfl (λM=>?_) λM=>?_;have R:cR y t=t:=(by simp only[oE,dE] at M;rw[SN,iN kA];by_cases ha:t.aq=[];(·rw[<-Ks (U.pos ha)] at M;rw[iP M]);(·rw[iP (.inl ha)]));refine W ?_;refine cJ aK rfl rfl rfl f rfl λw4 E f gK=>?_;have d:=d.aB E sx;have B:=B.aB E sx;refine W ?_;exact⟨[_],gk eU aK rfl f rfl,by rw[R];exact ba.dX B λx o=>by simp[o],d⟩;have R:cR y t= .mk [] (t.ag.map<|cR y):=(by simp only[Bool.or_eq_false_iff,decide_eq_false_iff_not] at M;obtain⟨q1,q2⟩:=M;rw[<-Ks (U.pos<|Classical.not_not.1 q1)] at q2;rw[SN,iN kA,iN (by rintro(h|h);(·exact q1 h);(·exact q2 h))]);have SS:=d.size;have tj:=l.lt;have zg:=f.lt;refine iH<|zr<|jV (Gh _) rfl rfl<|dw aK rfl rfl rfl λw4 E u gK=>?_;have d:=d.grow;have d:=d.ext E;have j:=j.grow;have j:=j.ext E;have l:=l.grow;have l:=l.ext E;have f:=f.grow;have f:=f.ext E;refine cJ aK rfl rfl rfl u rfl λ_ T u _=>?_;have d:=d.aB T sx;have j:=j.aB T sx;have l:=l.aB T sx;have f:=f.aB T sx;refine W ?_;refine eZ (λq:Nat×Option Addr×Nat×Option Nat=>[(2,.pointer<|some ⟨w.heap.size,0,none⟩),(3,.pointer<|some ⟨w1.heap.size,0,none⟩),(4,.pointer<|some ⟨A.heap.size,0,none⟩),(5,.pointer<|some ⟨z.heap.size,0,none⟩),(6,.int .i64 (q.1:Int))]) (λq w'=>ak [] w w'/\aL w' w.heap.size [str t.aq,.slice a t.ag.length c].toArray 93/\aL w' w1.heap.size [str y.aq,.slice ya yn yc].toArray 93/\aL w' A.heap.size [str [],.slice none 0 0].toArray 93/\aL w' z.heap.size [str [],.slice q.2.1 ((t.ag.take q.1).map<|cR y).length q.2.2.1].toArray 93/\Gr z.heap.size (z.heap.size::A.heap.size::L) w' 93 2 (.slice q.2.1 ((t.ag.take q.1).map<|cR y).length q.2.2.1) q.2.2.2 (dj ((t.ag.take q.1).map<|cR y))/\q.1<=t.ag.length) (λq=>t.ag.length-q.1) ((0,none,0,none)) (⟨rfl,rfl,rfl,rfl,rfl⟩) (⟨d,j,l,f,u,Gr.nil (by intro x o;have:=d.size;simp at o;rcases o with rfl|rfl|o;omega;omega;have:=hL x o;omega) om,sm⟩) λgg w6 _ hI=>?_;obtain⟨i,_,_,g⟩:=gg;dsimp only at hI⊢;obtain⟨d,j,l,f,u,s,hk⟩:=hI;have fV:=d.size;have Rm:=j.lt;have abl:=l.lt;have HM:=f.lt;have aqx:=u.lt;refine W ?_;refine zc rfl (λh4=>?_) λh4=>?_;have dU:=dN (ps:=t.ag) (i:=i) om;have Kt:∀x∈g.toList++(z.heap.size::A.heap.size::L),x∈L\/w.heap.size<=x:=by{intro x o;rcases mA.1 o with o|o;(·right;have:=s.low x (by simpa using o);omega);(·simp at o;rcases o with rfl|rfl|o;(·right;omega);(·right;omega);(·exact .inl o))}
  have SU:cP (g.toList++(z.heap.size::A.heap.size::L)) w6 _ t.ag:=cP.ext (cw.fresh aR Kt) d;have hY:ba (g.toList++(z.heap.size::A.heap.size::L)) w6 _ y:=ba.ext (ja.fresh FG Kt) d;obtain⟨_,_,pa,_,pc,rfl,ir,eh,fG⟩:=fE SU dU;subst eh;have Z:=iF fG;have nO:=kO (t:=t) (i:=i) om;refine WZ ?_;apply oZ cY bA 10 (rA 31 10) (rA 31 10) [[],[0],[],[2],[],[3,4],[5],[],[6,7],[8]] [.v _,.v _,.v _,.v _,.v _,.v _,.v _,.v _,.p<|fun(v:Value) (D:World)=>ba (g.toList++(z.heap.size::A.heap.size::L)) D v (cR y<|nth t.ag i),.p (fun(v:Value) (D:World)=>∃b H I,v= .slice (some ⟨b,0,none⟩) 1 1/\aL D b [H,I].toArray 93/\ba (g.toList++(z.heap.size::A.heap.size::L)) D (.agg #[H,I]) (cR y<|nth t.ag i))] de (by exact(bF<|bF (bF<|bF (bF<|bF (bF<|bF (mH (λv w w' h k=>ba.ext h k)<|mH (λv w w' ⟨b,H,I,e,Q,Y⟩ k=>⟨b,H,I,e,Q.ext k,ba.ext Y k⟩) trivial))))));intro _ aC;refine cD (λ_ _ _=>WZ<|bR bA) ?_;refine gQ bA aC (λx J p=>?_) ?_;have u:=u.ext p;refine WZ ?_;exact bR bA;refine cD (λ_ _ _=>WZ<|bR bA) ?_;refine gQ bA aC (λx J p=>?_) ?_;have j:=j.ext p;refine WZ ?_;exact bR bA;refine cD (λ_ _ _=>WZ<|bR bA) ?_;refine cD (λ_ _ _=>WZ<|bR bA) ?_;refine gQ bA aC (λx J p=>?_) ?_;have ir:=ir.ext p;refine WZ ?_;exact bR bA;refine gQ bA aC (λx J p=>?_) ?_;have l:=l.ext p;refine WZ ?_;exact bR bA;refine eN ?_ ?_;intro x K J e p hd F;have aO:(K 6=(.agg #[str (nth t.ag i).aq,.slice pa (nth t.ag i).ag.length pc]))/\(K 7=(.agg #[str y.aq,.slice ya yn yc])):=hd;obtain⟨d6,d7⟩:=aO;replace p:=bA.trans aC p;refine cV p s Z hY λs Z hY=>?_;replace F:e=bf (aY _ x _) [(37,K 6),(38,K 7)]:=F;rw[d6,d7] at F;subst F;refine aA (ih (nth t.ag i) om om (U.nth om) _ _ (g.toList++(z.heap.size::A.heap.size::L)) J Z hY s.all) ?_;rintro v8 w8 ⟨EG,P⟩;have sI:=P.size;have mn:=EG;refine W ?_;exact dn (bA.of P) mn;refine eN ?_ ?_;intro x K J e p hd F;have d8:(fun(v:Value) (D:World)=>ba (g.toList++(z.heap.size::A.heap.size::L)) D v (cR y<|nth t.ag i)) (K 8) J:=hd;replace p:=bA.trans aC p;replace F:e=bf (aY _ x _) [(39,K 8)]:=F;obtain⟨_,_,_,V,_,_⟩:=cQ d8;rw[V] at F;rw[V] at d8;subst F;refine gv cH aK rfl rfl λw8 P Ko _=>W ?_;exact dn (bA.of P) ⟨_,_,_,rfl,Ko,ba.ext d8 P⟩;exact trivial;intro x oH l5;intro v8 d8;intro v9 d9;replace d8:(fun(v:Value) (D:World)=>ba (g.toList++(z.heap.size::A.heap.size::L)) D v (cR y<|nth t.ag i)) v8 oH:=d8;replace d9:(fun(v:Value) (D:World)=>∃b H I,v= .slice (some ⟨b,0,none⟩) 1 1/\aL D b [H,I].toArray 93/\ba (g.toList++(z.heap.size::A.heap.size::L)) D (.agg #[H,I]) (cR y<|nth t.ag i)) v9 oH:=d9;refine uk l5 d j l f u s λd j l f u s=>?_;change OW _ _ _ _ _ (bf (aY _ x _)<|zZ 31 [_,_,_,_,_,_,_,_,v8,v9]) _;obtain⟨_,H,I,V,uJ,ht⟩:=d9;rw[V];refine F8 cH aK rfl rfl rfl rfl rfl rfl s uJ ht (by rw[DO _ hk];omega) λa4 gT g4 _ X S=>?_;have d:=ak.Iv om s.low d S;have j:=j.aB S<|s.F7 om;have l:=l.aB S<|s.F7 om;have f:=f.aB S<|s.xD sm;have u:=u.aB S<|s.xD sm;rw[DN (cR y) dU] at X⊢;refine zf jO rfl<|iw DT rfl rfl rfl u rfl λ_ O u _=>?_;have d:=d.aB O sx;have j:=j.aB O sx;have l:=l.aB O sx;have f:=f.aB O sx;have X:=X.aB O sx;refine W ?_;exact⟨(i+1,a4,gT,g4),⟨rfl,rfl,rfl,rfl,rfl⟩,⟨d,j,l,f,u,X.dX λx o=>by simpa using o,by dsimp only;omega⟩,by dsimp only;omega⟩;rw[Gd (cR y) om] at u s;refine W ?_;refine cJ aK rfl rfl rfl f rfl λJ p f _=>?_;have d:=d.aB p sx;have s:=s.aB p sx;refine W ?_;exact⟨[_],gk eU aK rfl f rfl,by rw[R];exact jM<|s.trees.dX λx o=>by simp[o],d⟩
def abm (t y:au) (m:Good t) (A:Good y) (E:t.size<=10000000) (U:y.text.length<=12000) (N2:y.size<=100000) (jd:t.text.length<=12000) (v H:Value) (L:List Nat) (w:World) (D:ba L w v t) (s:ba L w H y) (R:∀x∈L,x<w.heap.size):
  bC Tryz.prog 122 [v,H] w λr w'=>r=str (gS (some<|cR y t))/\ak [] w w':=by
 have d:=D;have f:=s;obtain⟨a,n,c,rfl,_,K⟩:=cQ D;obtain⟨_,_,_,rfl,_,_⟩:=cQ s;have b:=ak.refl [] w;have o:=aeR (y:=y) m;have S:=abk t;have kr:1<=y.text.length:=by obtain⟨c,r,e⟩:=Pd A;rw[e];simp
 have hm:p5 t*(y.text.length-1)<=10000000*12000:=Nat.mul_le_mul om om;have p:(p5 t:Int)*((y.text.length:Int)-1)=((p5 t*(y.text.length-1):Nat):Int):=by rw[Int.natCast_mul];congr 1;omega
 rw[p] at o;refine cm [.tmp 4] 23 Tryz.func122 rfl afO rfl rfl ?_;refine zr<|eH rfl λ_ J i _=>cV J b d f λb d f=>?_;refine eH rfl λw2 N u _=>gY N b d f i λb d f i=>?_;refine W ?_;refine aA (aqu t.size t (lR _) E m.wf _ _ w2 d) ?_;rintro _ _ ⟨rfl,B⟩;have fB:=B.size;refine kB B b d f i u λb d f i u=>?_;refine W ?_;apply jN cY 11 (rA 8 11) (rA 8 11) [[],[0],[1],[],[],[4],[5],[6],[3,7],[2,8],[9]] [It.v _,It.v _,It.v _,It.v _,It.v _,It.v _,It.v _,It.v _,It.v _,It.v _,It.v (.bool (decide<|(12000:Int)<(t.text.length:Int)+((p5 t*(y.text.length-1):Nat):Int)))] de rfl;intro _ aC;refine VA ?_;refine vk aC (λx j g=>?_) ?_;have d:=d.ext g;refine aA (qV t.size t (lR _) m.wf om om _ _ j d) ?_;rintro _ w5 ⟨rfl,l⟩;have V:=l.size;exact pk l;refine VA ?_;refine vk aC (λx j g=>?_) ?_;have f:=f.ext g;refine aA (qV y.size y (lR _) A.wf om om _ _ j f) ?_;rintro _ w5 ⟨rfl,l⟩;have V:=l.size;exact pk l;refine vk aC (λx j g=>?_) ?_;refine WZ ?_;exact pv;refine vk aC (λx j g=>?_) ?_;refine WZ ?_;exact pv;refine vk aC (λx j g=>?_) ?_;refine H2 rfl rfl rfl rfl rfl ((congrArg IntKind.i64.wrap p).trans<|wrap_i64 _ om om) ?_;exact pv;exact VZ;intro x O P;refine kB P b d f i u λb d f i u=>?_;change OW _ _ _ _ [] (bf (aY _ x _)<|zZ 8 [_,_,_,_,_,_,_,_,_,_,_]) _;refine aX<|zc rfl (λQ=>?_) λQ=>?_;have z:¬(cR y t).text.length<=12000:=by omega
 refine W ?_;exact⟨_,rfl,by rw[LN,iN z];rfl,b⟩;have Z:(cR y t).text.length<=12000:=by omega
 have q:=ID A m;have K:=Pn q;refine W ?_;refine aA (aqv y t.size t (lR _) E m.wf _ _ L O d f λx T=>by have:=b.size;have:=R x T;omega) ?_;rintro _ X ⟨I,C⟩;have M:=C.size;have b:=b.ext C;have Y:=I;refine aA (qV (cR y t).size (cR y t) (lR _) q.wf om om _ _ X Y) ?_;rintro _ _ ⟨rfl,F⟩;have ZB:=F.size;have b:=b.ext F;refine W ?_;exact⟨_,rfl,congrArg str<|show(cR y t).text=gS (some<|cR y t) from(iP Z).symm,b⟩
theorem aqz {b:TS} (h:jP b):gS (df b a)=oS (df b a):=by
 cases c:df b a with
 |none=>rfl
 |some x=>exact LO<|qJ h c
section
variable {p:List dv} {st:TS} {o:Nat} {t:au}
def aqA (a:aT t=[99,111,110,115,116]):gS (fF p st o t)=[105]:=by simp only[fF,a,if_true];rw[LO ug,LM]
def aqB (a:jP st) (b:aT t=[109,111,118]) (c:jr (nth t.ag 2).aq=true):gS (fF p st o t)=qK st (nth t.ag 2).aq:=by
 have e:fF p st o t=df st (nth t.ag 2).aq:=by simp[fF,b]
 rw[e,aqz a,Gl c]
theorem SW (b:jr a=true):cu (gw st) (fO a)=oS (df st a):=by rw[<-Gl b];unfold qK;rw[iP (show 0<=lQ a from of_decide_eq_true b)]
def aqC (b:jP st) (a:aT t=[97,100,100]\/aT t=[115,117,98]\/aT t=[109,117,108]) (d:jr (nth t.ag 2).aq=true) (c:jr (nth t.ag 3).aq=true):
  gS (fF p st o t)=if(decide (qK st (nth t.ag 2).aq=[105])&&decide (cu (gw st) (fO (nth t.ag 3).aq)=[105]))=true then[105] else[]:=by
 have e:fF p st o t=if qH (df st (nth t.ag 2).aq) iT&&qH (df st (nth t.ag 3).aq) iT then some iT else none:=by rcases a with a|a|a<;>simp[fF,a]
 rw[e,<-PO b ug.et,<-PO b ug.et,LM,Gl d,SW c];split
 .rw[LO ug,LM]
 .rfl
def aqD (b:jP st) (c:aT t=[103,101,116]) (d:jr (nth t.ag 2).aq=true) (f:0<=qI (nth t.ag 3).aq) (hk:yQ (qK st (nth t.ag 2).aq) k):
  (aT k=[116]->nj k)/\gS (fF p st o t)=if aT k=[116]/\qI (nth t.ag 3).aq+1<k.ag.length then(nth k.ag (qI (nth t.ag 3).aq+1).toNat).text else[]:=by
 rw[Gl d] at hk;have e:fF p st o t=(df st (nth t.ag 2).aq).bind λk=>if aT k=[116]/\qI (nth t.ag 3).aq+1<k.ag.length then some (nth k.ag (qI (nth t.ag 3).aq+1).toNat) else none:=by simp[fF,c]
 rcases PQ b hk with⟨x,hx,rfl⟩|⟨hx,gP⟩
 .have a:=qJ b hx;refine⟨λ_=>a,?_⟩;rw[e,hx,Option.bind_some];split
  .exact LO<|a.nth om
  .rfl
 .rw[e,hx,gP];refine⟨λh=>(by cases h),?_⟩;rw[iN (by intro h;cases h.1)];rfl
def aqE (g:jP st) (i:aT t=[112,97,99,107]) (l:jr (nth t.ag 2).aq=true) (f:(nth t.ag 3).text.length<=12000):
  gS (fF p st o t)=if(decide (qK st (nth t.ag 2).aq≠[])&&decide (qK st (nth t.ag 2).aq=gS (some (cR (nth t.ag 4)<|nth (nth t.ag 3).ag 1))))=true then(nth t.ag 3).text else[]:=by
 have e:fF p st o t=(df st (nth t.ag 2).aq).bind λx=>if uf x (cR (nth t.ag 4)<|nth (nth t.ag 3).ag 1) then some (nth t.ag 3) else none:=by simp[fF,i]
 rw[e,Gl l];cases m:df st (nth t.ag 2).aq with
 |none=>simp[oS,gS]
 |some x=>
  have c:=qJ g m;have d:=Gk c.et;have b:=c.short;have a:gS (some<|nth t.ag 3)=(nth t.ag 3).text:=iP f;rw[Option.bind_some,dT<|show oS (some x)≠[] from d,Bool.true_and];have j:decide (oS (some x)=gS (some (cR (nth t.ag 4)<|nth (nth t.ag 3).ag 1)))=uf x (cR (nth t.ag 4)<|nth (nth t.ag 3).ag 1):=by
   unfold uf;refine decide_eq_decide.2 ?_;rw[LN];show x.text=_↔_;split
   .rfl
   .rename_i hb;exact⟨λh=>absurd h d,λh=>absurd (h▸b) hb⟩
  rw[j];split
  .exact a
  .rfl
def aqG (a:jP st) (c:aT t=[111,112,101,110]) (d:jr (nth t.ag 2).aq=true) (hk:yQ (qK st (nth t.ag 2).aq) k):
  (aT k=[101]->nj k/\gS (fF p st o t)=gS (some (cR (bL (97::aS o))<|nth k.ag 1)))/\(aT k≠[101]->gS (fF p st o t)=[]):=by
 rw[Gl d] at hk;have e:fF p st o t=(df st (nth t.ag 2).aq).bind λk=>if aT k=[101] then some (cR (bL (97::aS o))<|nth k.ag 1) else none:=by simp[fF,c]
 rcases PQ a hk with⟨x,hx,rfl⟩|⟨hx,gP⟩
 .have b:=qJ a hx;refine⟨λh=>⟨b,?_⟩,λh=>?_⟩
  .rw[e,hx,Option.bind_some,iP h]
  .rw[e,hx,Option.bind_some,iN h];rfl
 .refine⟨λh=>(by rw[gP] at h;cases h),λh=>?_⟩;rw[e,hx];rfl
def aqH (a:aT t≠[99,111,110,115,116]) (b:aT t≠[109,111,118]) (c:¬(aT t=[97,100,100]\/aT t=[115,117,98]\/aT t=[109,117,108])) (d:aT t≠[103,101,116]) (e:aT t≠[108,97,98]) (f:aT t≠[112,97,99,107]) (g:aT t≠[111,112,101,110]):gS (fF p st o t)=[]:=by simp only[fF];rw[iN a,iN b,iN c,iN d,iN e,iN f,iN g];rfl
end
/-! ### Labels -/
def N3 {bs:List Bk} {l:aj}:(0<=iV bs l->(iV bs l).toNat<bs.length/\bZ (bs.map bN) l=some ((bJ bs (iV bs l).toNat).bS.map tr))/\(¬0<=iV bs l->bZ (bs.map bN) l=none):=by
 have d:bZ (bs.map bN) l=(bs.find? λb=>decide<|b.aQ=l).map λb=>b.bS.map tr:=by unfold bZ;rw[List.find?_map];show((bs.find? λb=>decide<|(bN b).aQ=l).map bN).map dv.regs=_;rw[Option.map_map];rfl
 unfold iV;rw[d];cases a:bs.findIdx? (λb=>decide<|b.aQ=l) with
 |none=>
  refine⟨λh=>absurd h de,λ_=>?_⟩;have:bs.find? (λb=>decide<|b.aQ=l)=none:=by rw[List.findIdx?_eq_none_iff] at a;rw[List.find?_eq_none];intro b hb f;rw[a b hb] at f;cases f
  rw[this];rfl
 |some i=>
  refine⟨λ_=>?_,λh=>absurd (show(0:Int)<=(i:Int) by omega) h⟩;rw[List.findIdx?_eq_some_iff_getElem] at a;obtain⟨c,m,n⟩:=a;refine⟨c,?_⟩;have e:bs.find? (λb=>decide<|b.aQ=l)=some bs[i]:=by rw[List.find?_eq_some_iff_getElem];exact⟨m,i,c,rfl,λj o=>by have:=n j o;simpa using this⟩
  rw[e];have g:bJ bs ((i:Int)).toNat=bs[i]:=by simp[bJ,gE c]
  show some _=some _;rw[g]
theorem abq {b:Bk} (h:mx b=true):(b.bS.map tr).map au.text=b.bS:=by
 have c:=(DM h).2.1;rw[List.map_map]
 conv=>rhs;rw[<-List.map_id b.bS]
 refine List.map_congr_left λs d=>?_;obtain⟨t,a,_⟩:=c s d;show(tr s).text=s;rw[Gb a,(ue a).2.2.1]
def FH (h:i<bs.length):bJ bs i∈bs:=by simp[bJ,gE h]
def aqI {st:TS} (f:iW bs=true) (g:aT t=[108,97,98]):gS (fF (bs.map bN) st o t)=if 0<=iV bs (nth t.ag 2).aq/\Gm (bJ bs (iV bs (nth t.ag 2).aq).toNat).bS=true then eC [99] (bJ bs (iV bs (nth t.ag 2).aq).toNat).bS else[]:=by
 have e:fF (bs.map bN) st o t=(bZ (bs.map bN) (nth t.ag 2).aq).map (ky [99]):=by simp[fF,g]
 rw[e];obtain⟨c,d⟩:=N3 (bs:=bs) (l:=(nth t.ag 2).aq);by_cases a:0<=iV bs (nth t.ag 2).aq
 .obtain⟨i,j⟩:=c a;have hb:=yJ f _<|FH i;rw[j,Option.map_some,LN,Gc de,abq hb];have m:=IP 99 (bJ bs (iV bs (nth t.ag 2).aq).toNat).bS;by_cases b:(eC [99] (bJ bs (iV bs (nth t.ag 2).aq).toNat).bS).length<=12000
  .rw[iP b,iP ⟨a,dT om⟩]
  .rw[iN b,iN λh=>b (by have:=of_decide_eq_true h.2;omega)]
 .rw[d a,iN λh=>a h.1];rfl
structure N4 (t:au):Prop where
 three:3<=t.ag.length
 mov:aT t=[109,111,118]->jr (nth t.ag 2).aq=true
 add:aT t=[97,100,100]\/aT t=[115,117,98]\/aT t=[109,117,108]->jr (nth t.ag 2).aq=true/\jr (nth t.ag 3).aq=true/\t.ag.length=4
 get:aT t=[103,101,116]->jr (nth t.ag 2).aq=true/\t.ag.length=4/\(numeral (nth t.ag 3).aq).isSome=true/\0<=qI (nth t.ag 3).aq
 pack:aT t=[112,97,99,107]->jr (nth t.ag 2).aq=true/\t.ag.length=5/\(nth t.ag 3).ag.length=2
 opn:aT t=[111,112,101,110]->jr (nth t.ag 2).aq=true
structure abr (t:au):Prop where
 two:2<=t.ag.length
 abt:jr (nth t.ag 1).aq=true
 zero:aT t=[122,101,114,111]->3<=t.ag.length
 new:aT t=[110,101,119]->∀i,2<=i->i<t.ag.length->jr (nth t.ag i).aq=true
 give:aT t≠[104,97,108,116]->aT t≠[106,117,109,112]->aT t≠[122,101,114,111]->aT t≠[110,101,119]->N4 t
def aqJ (C:nQ t=true):abr t:=by
 obtain⟨A,j,z⟩:=IN C;have b:∀{σ:aj},dY (aT t) t.ag.length=σ->t.ag.length=σ.length+1/\∀i,i<σ.length->ig ((σ.getD i 0).toNat:Int) (nth t.ag (i+1))=true:=λe=>by rw[e] at j z;exact⟨j,z⟩
 have l:∀{u:au},ig (((100:UInt8)).toNat:Int) u=true->jr u.aq=true:=λh=>by rw[<-Lp];exact h
 have f:∀{u:au},ig (((115:UInt8)).toNat:Int) u=true->jr u.aq=true:=λh=>by rw[<-IA];exact h
 by_cases c1:aT t=[99,111,110,115,116]
 .obtain⟨d,a⟩:=b (σ:=[100,110]) (by simp[dY,c1]);simp only[lC,List.length_nil] at d a;refine⟨by omega,l<|a 0 om,λh=>(by rw[c1] at h;cases h),λh=>(by rw[c1] at h;cases h),λ_ _ _ _=>⟨by omega,λh=>(by rw[c1] at h;cases h),λh=>(by rw[c1] at h;rcases h with h|h|h<;>cases h),λh=>(by rw[c1] at h;cases h),λh=>(by rw[c1] at h;cases h),λh=>(by rw[c1] at h;cases h)⟩⟩
 by_cases c2:aT t=[109,111,118]\/aT t=[111,112,101,110]
 .obtain⟨d,a⟩:=b (σ:=[100,115]) (by rcases c2 with c2|c2<;>simp[dY,c2]);simp only[lC,List.length_nil] at d a;refine⟨by omega,l (a 0 om),λh=>om,λh=>by(rcases c2 with c2|c2<;>(rw[c2] at h;cases h)),λ_ _ _ _=>⟨by omega,λh=>f<|a 1 om,λh=>?_,λh=>?_,λh=>?_,λh=>f<|a 1 om⟩⟩
  .rcases c2 with c2|c2<;>(rw[c2] at h;rcases h with h|h|h<;>cases h)
  .rcases c2 with c2|c2<;>(rw[c2] at h;cases h)
  .rcases c2 with c2|c2<;>(rw[c2] at h;cases h)
 by_cases o:aT t=[97,100,100]\/aT t=[115,117,98]\/aT t=[109,117,108]
 .obtain⟨d,a⟩:=b (σ:=[100,115,115]) (by rcases o with c|c|c<;>simp[dY,c]);simp only[lC,List.length_nil] at d a;refine⟨by omega,l (a 0 om),λh=>om,λh=>?_,λ_ _ _ _=>⟨by omega,λh=>f<|a 1 om,λh=>⟨f<|a 1 om,f<|a 2 om,om⟩,λh=>?_,λh=>?_,λh=>f<|a 1 om⟩⟩
  .rcases o with c|c|c<;>(rw[c] at h;cases h)
  .rcases o with c|c|c<;>(rw[c] at h;cases h)
  .rcases o with c|c|c<;>(rw[c] at h;cases h)
 by_cases s:aT t=[110,101,119]
 .obtain⟨d,a⟩:=b (σ:=[100]++List.replicate (t.ag.length-2) 115) (by simp[dY,s]);have y:2<=t.ag.length:=by simp at d;omega
  simp only[lA,lC,List.length_nil,List.length_replicate] at a;refine⟨y,l<|a 0 om,λh=>(by rw[s] at h;cases h),λ_ i _ _=>?_,λ_ _ _ h=>absurd s h⟩;have m:=a (i-1) om;rw[show i-1+1=i from by omega] at m;refine f ?_;have D:([100]++List.replicate (t.ag.length-2) 115:aj).getD (i-1) 0=115:=by rw[gG,List.getElem?_append_right so,List.getElem?_replicate,iP so];rfl
  rw[D] at m;exact m
 by_cases p:aT t=[103,101,116]
 .obtain⟨d,a⟩:=b (σ:=[100,115,109]) (by simp[dY,p]);simp only[lC,List.length_nil] at d a;have m:=a 2 om;have n:((numeral (nth t.ag 3).aq).isSome&&decide (0<=(numeral (nth t.ag 3).aq).getD 0))=true:=by rw[<-Lq];exact m
  rw[aE,dE] at n;exact⟨by omega,l<|a 0 om,λh=>om,λh=>(by rw[p] at h;cases h),λ_ _ _ _=>⟨by omega,λh=>f<|a 1 om,λh=>(by rw[p] at h;rcases h with h|h|h<;>cases h),λh=>⟨f<|a 1 om,om,n.1,n.2⟩,λh=>(by rw[p] at h;cases h),λh=>f<|a 1 om⟩⟩
 by_cases g:aT t=[108,97,98]
 .obtain⟨d,a⟩:=b (σ:=[100,108]) (by simp[dY,g]);simp only[lC,List.length_nil] at d a;exact⟨by omega,l<|a 0 om,λh=>om,λh=>(by rw[g] at h;cases h),λ_ _ _ _=>⟨by omega,λh=>(by rw[g] at h;cases h),λh=>(by rw[g] at h;rcases h with h|h|h<;>cases h),λh=>(by rw[g] at h;cases h),λh=>(by rw[g] at h;cases h),λh=>(by rw[g] at h;cases h)⟩⟩
 by_cases q:aT t=[112,97,99,107]
 .obtain⟨d,a⟩:=b (σ:=[100,115,69,87]) (by simp[dY,q]);simp only[lC,List.length_nil] at d a;have m:=a 2 om;have n:((decide ((nth t.ag 3).ag.length=2)&&decide (aT (nth t.ag 3)=[101]))&&gq false (nth t.ag 3))=true:=by rw[<-Ls];exact m
  rw[aE,aE,dE] at n;exact⟨by omega,l<|a 0 om,λh=>om,λh=>(by rw[q] at h;cases h),λ_ _ _ _=>⟨by omega,λh=>f<|a 1 om,λh=>(by rw[q] at h;rcases h with h|h|h<;>cases h),λh=>(by rw[q] at h;cases h),λh=>⟨f<|a 1 om,om,n.1.1⟩,λh=>f<|a 1 om⟩⟩
 by_cases v:aT t=[122,101,114,111]
 .obtain⟨d,a⟩:=b (σ:=[115,108]) (by simp[dY,v]);simp only[lC,List.length_nil] at d a;exact⟨by omega,f<|a 0 om,λh=>om,λh=>(by rw[v] at h;cases h),λ_ _ h _=>absurd v h⟩
 by_cases r:aT t=[106,117,109,112]\/aT t=[104,97,108,116]
 .obtain⟨d,a⟩:=b (σ:=[115]) (by rcases r with c|c<;>simp[dY,c]);simp only[lC,List.length_nil] at d a;refine⟨by omega,f (a 0 om),λh=>?_,λh=>?_,λB y _ _=>absurd r λh=>h.elim y B⟩
  .rcases r with c|c<;>(rw[c] at h;cases h)
  .rcases r with c|c<;>(rw[c] at h;cases h)
 exact absurd (by simp only[dY,iN c1,iN c2,iN o,iN s,iN p,iN g,iN q,iN v,iN r]) A
section
variable {p:List dv} {st:TS} {o:Nat} {t:au}
def aqK (l:yP p) (c:jP st) (m:Good t) (e:N4 t) {y:au} (h:fF p st o t=some y):Good y:=by
 simp only[fF] at h;split at h
 .cases h;exact ug.et
 .split at h
  .exact(qJ c h).et
  .split at h
   .split at h
    .cases h;exact ug.et
    .cases h
   .split at h
    .rename_i g;obtain⟨_,_,_,_⟩:=e.get g;cases a:df st (nth t.ag 2).aq with
     |none=>rw[a] at h;cases h
     |some x=>
      rw[a,Option.bind_some] at h;split at h
      .rename_i f;cases h;exact((qJ c a).nth om).et
      .cases h
    .split at h
     .cases d:bZ p (nth t.ag 2).aq with
      |none=>rw[d] at h;cases h
      |some _=>rw[d] at h;cases h;have b:=(LF l d).2;exact DL de de λt n=>(b t n).et
     .split at h
      .rename_i j;obtain⟨_,_,_⟩:=e.pack j;cases a:df st (nth t.ag 2).aq with
       |none=>rw[a] at h;cases h
       |some x=>
        rw[a,Option.bind_some] at h;split at h
        .cases h;exact m.nth om
        .cases h
      .split at h
       .cases a:df st (nth t.ag 2).aq with
        |none=>rw[a] at h;cases h
        |some x=>
         rw[a,Option.bind_some] at h;split at h
         .rename_i f;cases h;have b:=qJ c a;have q:=b.eok.two f;exact ID (PI o) (b.nth (i:=1) om).et
         .cases h
       .cases h
theorem aqL (b:jP st):decide (oS (df st a)≠[])=(df st a).isSome:=by
 cases c:df st a with
 |none=>rfl
 |some x=>exact dT<|Gk (qJ b c).et
def aqM (b:jP st) (c:aT t=[104,97,108,116]):(stepT p st o t).isSome=decide (oS (df st (nth t.ag 1).aq)≠[])/\∀a,stepT p st o t=some a->a=st:=by
 rw[PG c,aqL b];cases df st (nth t.ag 1).aq with
 |none=>exact⟨rfl,λa h=>by cases h⟩
 |some x=>exact⟨rfl,λa h=>by cases h;rfl⟩
def aqN (d:jP st) (f:aT t=[106,117,109,112]) (hk:yQ (oS<|df st (nth t.ag 1).aq) k):
  (aT k=[99]->nj k)/\(stepT p st o t).isSome=(decide (aT k=[99])&&Am (gw st) ((k.ag.drop 1).map au.text))/\∀a,stepT p st o t=some a->a=st:=by
 rcases PQ d hk with⟨x,hx,rfl⟩|⟨hx,gP⟩
 .have c:=qJ d hx;have j:Am (gw st) ((k.ag.drop 1).map au.text)=meets st (k.ag.drop 1):=Wp λt l=>by
   obtain⟨i,g,rfl⟩:=List.getElem_of_mem<|List.mem_of_mem_drop l;exact c.et.part<|gE g
  rw[PF f hx,j];refine⟨λ_=>c,?_⟩;by_cases b:aT k=[99]/\meets st (k.ag.drop 1)=true
  .rw[iP b,dT b.1,b.2];exact⟨rfl,λa h=>by cases h;rfl⟩
  .rw[iN b];refine⟨?_,λa h=>by cases h⟩;cases hb:(decide (aT k=[99])&&meets st (k.ag.drop 1)) with
   |false=>rfl
   |true=>rw[aE,dE] at hb;exact absurd hb b
 .have e:stepT p st o t=none:=by simp[stepT,f,hx]
  rw[e,gP];exact⟨λh=>(by cases h),rfl,λa h=>by cases h⟩
def aqO (j:iW bs=true) (m:jP st) (n:aT t=[122,101,114,111]):
  (stepT (bs.map bN) st o t).isSome=((decide (oS (df st (nth t.ag 1).aq)=[105])&&decide (0<=iV bs (nth t.ag 2).aq))&&Am (gw st) (bJ bs (iV bs (nth t.ag 2).aq).toNat).bS)/\∀a,stepT (bs.map bN) st o t=some a->a=st:=by
 have e:stepT (bs.map bN) st o t=(bZ (bs.map bN) (nth t.ag 2).aq).bind λb=>if qH (df st (nth t.ag 1).aq) iT&&meets st b then some st else none:=by simp[stepT,n]
 obtain⟨g,i⟩:=N3 (bs:=bs) (l:=(nth t.ag 2).aq);rw[e,<-PO m ug.et,LM];by_cases c:0<=iV bs (nth t.ag 2).aq
 .obtain⟨p,r⟩:=g c;have hb:=yJ j _<|FH p;have q:Am (gw st) (bJ bs (iV bs (nth t.ag 2).aq).toNat).bS=meets st ((bJ bs (iV bs (nth t.ag 2).aq).toNat).bS.map tr):=by
   rw[<-Wp,abq hb];intro t y;obtain⟨s,v,rfl⟩:=List.mem_map.1 y;obtain⟨u,f,_⟩:=(DM hb).2.1 s v;rw[Gb f];exact(ue f).1
  rw[r,Option.bind_some,q,dT c,Bool.and_true];split
  .rename_i d;rw[d];exact⟨rfl,λa h=>by cases h;rfl⟩
  .rename_i d;refine⟨?_,λa h=>by cases h⟩;cases hb:(decide (oS (df st (nth t.ag 1).aq)=[105])&&meets st ((bJ bs (iV bs (nth t.ag 2).aq).toNat).bS.map tr)) with
   |false=>rfl
   |true=>exact absurd hb d
 .rw[i c,dF c,Bool.and_false,Bool.false_and];exact⟨rfl,λa h=>by cases h⟩
def mo (a:TS) (b:List au):List aj:=b.map λu=>oS<|df a u.aq
def aqP (c:jP st) (d:aT t=[110,101,119]) (h:(decide ([]∈mo st (t.ag.drop 2))||!Gm (mo st<|t.ag.drop 2))=true):stepT p st o t=none:=by
 obtain⟨g,i⟩:=PR c<|t.ag.drop 2;cases b:lP st (t.ag.drop 2) with
 |none=>exact PC d b
 |some a=>
  have q:=LG c b;have e:mo st (t.ag.drop 2)=a.map au.text:=i a b;have m:decide ([]∈mo st (t.ag.drop 2))=false:=by unfold mo;rw[g,b];rfl
  rw[m,Bool.false_or,e] at h;rw[LH d b];have j:Good (ky [116] a):=DL de de λt n=>(q.2 t n).et;have l:=IP 116<|a.map au.text;rw[<-Gc de] at l;have hb:¬(ky [116] a).text.length<=12000:=λ_=>by unfold Gm at h;rw[dT om] at h;cases h
  have f:ot (ky [116] a)=false:=by unfold ot;rw[wm j.wf,dF hb,Bool.and_false]
  unfold eO;simp only[Option.bind_some,f];rfl
def aqQ (i:jP st) (r:aT t=[110,101,119]) (h:(decide ([]∈mo st (t.ag.drop 2))||!Gm (mo st<|t.ag.drop 2))=false):
  (bU<|eC [116] (mo st<|t.ag.drop 2)).isSome=(stepT p st o t).isSome/\∀b,stepT p st o t=some b->gw b=(gw st).set (fO (nth t.ag 1).aq) (eC [116] (mo st<|t.ag.drop 2)):=by
 obtain⟨m,n⟩:=PR i<|t.ag.drop 2;rw[Bool.or_eq_false_iff,Bool.not_eq_false'] at h;obtain⟨f,j⟩:=h;cases c:lP st (t.ag.drop 2) with
 |none=>unfold mo at f;rw[m,c] at f;cases f
 |some a=>
  have s:=LG i c;have e:mo st (t.ag.drop 2)=a.map au.text:=n a c;rw[e] at j⊢;rw[LH r c];have q:Good (ky [116] a):=DL de de λt g=>(s.2 t g).et;have u:=IP 116<|a.map au.text;have d:(ky [116] a).text.length<=12000:=by rw[Gc de];have:=of_decide_eq_true j;omega
  have l:gS (some<|ky [116] a)=eC [116] (a.map au.text):=(iP d).trans<|Gc de a;have:=Wo (o:=some<|ky [116] a) (λt g=>by cases g;exact q) st<|fO (nth t.ag 1).aq;rw[l] at this;exact this
def aqR (f:yP p) (g:jP st) (i:Good t) (d:N4 t) (c1:aT t≠[104,97,108,116]) (c2:aT t≠[106,117,109,112]) (b:aT t≠[122,101,114,111]) (c:aT t≠[110,101,119]):
  (bU (gS<|fF p st o t)).isSome=(stepT p st o t).isSome/\∀a,stepT p st o t=some a->gw a=(gw st).set (fO (nth t.ag 1).aq) (gS<|fF p st o t):=by
 have e:stepT p st o t=eO st (fO (nth t.ag 1).aq) (fF p st o t):=by simp only[stepT];rw[iN c1,iN c2,iN b,iN c]
 rw[e];exact Wo (λt j=>aqK f g i d j) st _
end
def aqS (h:numeral s=some z):z<1000:=by
 unfold numeral at h;split at h
 .cases h;omega
 .split at h
  .cases h
  .rename_i hb;split at h
   .rename_i c;have d:=OZ _ c;have b:(fj s).length<=3:=by omega
    have e:10^(fj s).length<=10^3:=Nat.pow_le_pow_right om b;cases h;have a:qD s=1\/qD s= -1:=by unfold qD;split<;>simp
    rcases a with a|a<;>rw[a]<;>omega
   .cases h
def aqT (s:aj):(numeral s).getD 0<1000:=by
 cases h:numeral s with
 |none=>decide
 |some z=>exact aqS h
def abu (a:aj):(∃r:Nat,r<40/\lQ a=(r:Int)/\fO a=r)\/(lQ a= -1/\jr a=false):=by
 unfold fO jr;have e:lQ a= -1\/(0<=lQ a/\lQ a<=39):=by
  unfold lQ;cases numeral a with
  |none=>exact .inl rfl
  |some z=>dsimp only;split<;>omega
 rcases e with e|⟨_,_⟩
 .right;rw[e];exact⟨rfl,rfl⟩
 .left;exact⟨(lQ a).toNat,om,om,rfl⟩
def SX (h:jr a=true):∃r:Nat,r<40/\lQ a=(r:Int)/\fO a=r:=by
 rcases abu a with b|⟨_,b⟩
 .exact b
 .rw[b] at h;cases h
def aqU {b:TS} {r:Nat} (h:lQ a=(r:Int)) (c:fO a=r):qK b a=cu (gw b) r:=by unfold qK;rw[iP om,c]
def aqV {b:TS} (h:¬0<=lQ a):qK b a=[]:=iN h
def abv (h:n<=1000):(97::aS n).length<=5:=by have:=akb n h;simp;omega
def aqW (h:n<=1000):(bL (97::aS n)).size<=100/\(bL (97::aS n)).text=97::aS n:=by have a:=abv h;exact⟨by simp only[bL,au.size,au.size.sizes];omega,by rw[bL,qF sm]⟩
def SY {m:Nat}:∀a:List aj,(∀s∈a,s.length<=m)->(a.map List.length).sum<=a.length*m
 |[],_=>by simp
 |x::a,h=>by have c:=h x sm;have d:=SY a λs b=>h s (by simp[b]);simp only[List.map_cons,List.sum_cons,lC,Nat.add_mul];omega
def N5 {b:Bk} (h:mx b=true):iy b.bS<=1000000/\b.bS.length<=40:=by
 have c:=(DM h).2.1;have f:=SY (m:=12000) b.bS (λs d=>by obtain⟨t,e,_⟩:=c s d;exact(ue e).2.2.2);have a:b.bS.length<=40:=by unfold mx at h;simp only[aE,dE] at h;omega
 have g:b.bS.length*12000<=40*12000:=Nat.mul_le_mul a<|lR _;unfold iy;omega
def aqX (bs:List Bk) (U:iW bs=true) (lM:qE bs) (st:TS) (V:jP st) (hl:st.length=40) (t:au) (hf:xH t) (hg:Good t) (y:N4 t) (o:Nat) (ho:o<=1000) 
  (vp vt vi:Value) (L:List Nat) (w:World) (tQ:ma L w vp bs) (ej:bo L w vt (gw st)) (Ku:ba L w vi t) (hL:∀x∈L,x<w.heap.size):
  bC Tryz.prog 85 [vp,vt,vi,.int .i64 (o:Int)] w λr w'=>r=str (gS<|fF (bs.map bN) st o t)/\ak [] w w':=by
 obtain⟨_,_,pc,rfl,eh⟩:=wg tQ;obtain⟨ta,_,tc,rfl,HN⟩:=eA ej;subst eh HN;have aW:1<=bs.length:=by unfold iW at U;simp only[aE,dE] at U;omega
 have aM:=lM.1;obtain⟨pb,D,_,_,_,_,_,_,rfl,_⟩:=ua tQ<|pC (bs:=bs) (i:=0) om;have pJ:=PM st;have bH:=Ku;obtain⟨a,n,c,rfl,hn,J⟩:=cQ Ku;subst hn;have O:=y.three;have lz:=mc t;have Rb:=hf.size;have tl:t.aq=[]:=by
  by_cases ha:t.aq=[]
  .exact ha
  .have:=hf.wf.leaf ha;rw[this] at O;simp at O
 have s:aT t=(nth t.ag 0).aq:=(Kr tl).trans<|Ks om;obtain⟨b0,nA,_,_,_,rfl,eI,_,_⟩:=fE J<|dN (ps:=t.ag) (i:=0) om;obtain⟨_,_,_,_,_,e2,cE,_,jG⟩:=fE J<|dN (ps:=t.ag) (i:=2) om;cases e2;have b:=ak.refl [] w;refine cm [.tmp 8] 147 Tryz.func85 rfl ahZ rfl rfl ?_;refine zr<|eH rfl λw1 aI bY da=>?_;have b:=b.ext aI;refine zA<|aX<|zr<|zf jO rfl<|zl jg rfl (bY.at rfl)<|zA<|aX<|zr<|zA<|aX<|zr<|zm<|zi (i:=2) cH aK rfl rfl om<|zL eU aK rfl (cE.ext b) rfl<|aA (Eg (nth t.ag 2) _ L w1<|(iF jG).ext b) ?_;rintro _ w2 ⟨rfl,av⟩;have dI:=av.size;have b:=b.ext av;refine W ?_;refine jk (λ_:Unit=>[(0,.slice (some ⟨pb,D,none⟩) bs.length pc),(1,.slice ta (gw st).length tc),(3,.int .i64 (o:Int)),(6,.pointer<|some ⟨w.heap.size,0,none⟩),(9,.slice (some ⟨b0,nA,none⟩) t.ag.length c),(10,str<|qK st (nth t.ag 2).aq)]) (λ_ w'=>w'=w2) ?_ ?_;refine zc rfl (λh1=>?_) λh1=>?_;have S:∃r:Nat,r<40/\lQ (nth t.ag 2).aq=(r:Int)/\fO (nth t.ag 2).aq=r:=(by rcases abu (nth t.ag 2).aq with h|⟨h,_⟩;(·exact h);(·rw[h] at h1;omega));obtain⟨r,_,X,mE⟩:=S;obtain⟨tb,toff,rfl,p7⟩:=mY ej<|jW (xs:=gw st) (i:=r) om;rw[X];refine WL ?_;refine zl fA rfl (p7.ext b 0 _ rfl)<|zA<|aX ?_;exact⟨(),⟨rfl,rfl,rfl,rfl,rfl,congrArg str (aqU X mE).symm⟩,rfl⟩;refine WZ ?_;exact⟨(),⟨rfl,rfl,rfl,rfl,rfl,congrArg str (aqV h1).symm⟩,rfl⟩;intro gu w3 K y;obtain rfl:=y;refine zr<|zm<|aA (GF (qK st (nth t.ag 2).aq) L w3 λx m=>by have:=b.size;have:=hL x m;omega) ?_;rintro _ w4 ⟨kG,aH⟩;have gd:=aH.size;have b:=b.ext aH;obtain⟨H,_,rfl,A,eY⟩:=kG;obtain⟨_,_,_,rfl,kj,u⟩:=cQ A;subst kj;refine W ?_;refine dw aK rfl rfl rfl λ_ aN E _=>?_;have b:=b.grow;have b:=b.ext aN;have A:=A.grow;have A:=A.ext aN;have u:=u.grow;have u:=u.ext aN;refine cJ aK rfl rfl rfl E rfl λw6 bP E _=>?_;have b:=b.aB bP sx;have A:=A.aB bP sx;have u:=u.aB bP sx;refine zA<|aX<|jF<|zr<|zm<|zi (i:=0) cH aK rfl rfl om<|zf lr rfl<|zl fA rfl (eI.ext b 0 _ rfl)<|aX<|tV<|zr<|BG rfl rfl rfl rfl<|zA<|aX<|zc rfl (λh2=>?_) λh2=>?_;have g:aT t=[99,111,110,115,116]:=s.trans h2;have d:=aqA (p:=bs.map bN) (st:=st) (o:=o) g;refine W ?_;exact⟨_,rfl,congrArg str d.symm,b⟩;have c1:aT t≠[99,111,110,115,116]:=λe=>h2<|s.symm.trans e;refine W ?_;refine zc rfl (λO=>?_) λO=>?_;have g:aT t=[109,111,118]:=s.trans O;have d:=aqB (p:=bs.map bN) (o:=o) V g<|y.mov g;refine W ?_;exact⟨_,rfl,congrArg str d.symm,b⟩;have c2:aT t≠[109,111,118]:=λe=>O<|s.symm.trans e;refine W ?_;refine jk (λ_:Unit=>[(0,.slice (some ⟨pb,D,none⟩) bs.length pc),(1,.slice ta (gw st).length tc),(3,.int .i64 (o:Int)),(9,.slice (some ⟨b0,nA,none⟩) t.ag.length c),(10,str<|qK st (nth t.ag 2).aq),(12,.pointer<|some ⟨w4.heap.size,0,none⟩),(37,str (nth t.ag 0).aq),(43,.bool (decide ((nth t.ag 0).aq=[97,100,100])||decide ((nth t.ag 0).aq=[115,117,98])||decide ((nth t.ag 0).aq=[109,117,108])))]) (λ_ w'=>w'=w6) ?_ ?_;refine zc rfl (λh4=>?_) λh4=>?_;refine WZ ?_;exact⟨(),⟨rfl,rfl,rfl,rfl,rfl,rfl,rfl,congrArg Value.bool<|Lf h4⟩,rfl⟩;have N:=h4;refine W ?_;refine zc rfl (λh5=>?_) λh5=>?_;refine WZ ?_;exact⟨(),⟨rfl,rfl,rfl,rfl,rfl,rfl,rfl,congrArg Value.bool<|Lg N h5⟩,rfl⟩;refine W ?_;exact⟨(),⟨rfl,rfl,rfl,rfl,rfl,rfl,rfl,congrArg Value.bool<|Lh N h5⟩,rfl⟩;intro gu Q _ y;obtain rfl:=y;refine zc rfl (λh6=>?_) λh6=>?_;have g:aT t=[97,100,100]\/aT t=[115,117,98]\/aT t=[109,117,108]:=by rw[s];exact Lj h6
 obtain⟨T,g2,g3⟩:=y.add g;obtain⟨b3,zv,qa3,qn3,qc3,K,M,SZ,wQ⟩:=fE J<|dN (ps:=t.ag) (i:=3) om;cases K;have d:=aqC (p:=bs.map bN) (o:=o) V g T g2;obtain⟨r3,_,aq6,aq7⟩:=SX g2;obtain⟨tb,toff,rfl,p7⟩:=mY ej<|jW (xs:=gw st) (i:=r3) om;rw[aq7] at d;refine WZ ?_;apply oA 9 49 58 (ak [] Q) rfl oQ;intro _;refine zm<|zm<|zi (i:=3) cH aK rfl rfl om<|zL eU aK rfl (M.ext b) rfl<|aA (Eg (nth t.ag 3) _ L Q<|(iF wQ).ext b) ?_;rintro _ q ⟨rfl,f⟩;have sI:=f.size;have b:=b.ext f;rw[aq6];refine WL ?_;refine zl fA rfl (p7.ext b 0 _ rfl) ?_;exact oQ;intro xx q f;have b:=b.ext f;refine aX<|zc rfl (λh8=>?_) λh8=>?_;rw[iP h8] at d;refine W ?_;exact⟨_,rfl,congrArg str d.symm,b⟩;rw[iN λm=>by rw[m] at h8;cases h8] at d;refine W ?_;exact⟨_,rfl,congrArg str d.symm,b⟩;have c3:¬(aT t=[97,100,100]\/aT t=[115,117,98]\/aT t=[109,117,108]):=by rw[s];exact Lk h6
 refine W ?_;refine zc rfl (λh9=>?_) λh9=>?_;have g:aT t=[103,101,116]:=s.trans h9;obtain⟨T,g2,g3,g4⟩:=y.get g;obtain⟨b3,zv,qa3,qn3,qc3,K,M,SZ,wQ⟩:=fE J<|dN (ps:=t.ag) (i:=3) om;cases K;obtain⟨kok,d⟩:=aqD (p:=bs.map bN) (o:=o) V g T g4 eY;have dA:=aqT (nth t.ag 3).aq;have S:∃z:Nat,qI (nth t.ag 3).aq=(z:Int):=⟨_,(Int.toNat_of_nonneg g4).symm⟩;obtain⟨z,hz⟩:=S;rw[hz,show((z:Int)+1).toNat=z+1 from by omega] at d;have ly:(numeral (nth t.ag 3).aq).getD 0=(z:Int):=hz;refine zr<|zm<|zi (i:=3) cH aK rfl rfl om<|zf lr rfl<|zl fA rfl (M.ext b 0 _ rfl)<|aA (I9 _ _) ?_;rintro _ _ ⟨rfl,rfl⟩;refine W ?_;rw[show Ef (nth t.ag 3).aq= .tuple #[.int .i64 (z:Int),.bool (numeral (nth t.ag 3).aq).isSome] from by unfold Ef;rw[ly]];refine aA (CD H _ _ Q A) ?_;rintro _ q ⟨rfl,f⟩;have sI:=f.size;refine cV f b u E λb u E=>?_;refine WZ ?_;apply oB 7 72 79 rfl oQ;intro _;refine WZ ?_;exact oQ;intro xx;refine aX<|zc rfl (λC=>?_) λC=>?_;simp only[aE,dE] at C;rw[ly] at C⊢;have HO:=kok C.1;rw[iP C] at d;obtain⟨kb,koff,ea,en,ec,rfl,MK,vJ,R⟩:=fE u<|dN (ps:=H.ag) (i:=z+1) om;have F:=HO.nth (i:=z+1) om;have xW:=F.size;have D1:=F.short;refine WA ?_;refine oU rfl rfl rfl rfl rfl ((show IntKind.i64.wrap ((z:Int)+1)=((z+1:Nat):Int) from wrap_i64 _ om om))<|W ?_;refine aA (qV (nth H.ag<|z+1).size _ (lR _) F.et.wf om om _ _ q<|iF R) ?_;rintro _ v ⟨rfl,j⟩;have oz:=j.size;have b:=b.ext j;refine W ?_;exact⟨_,rfl,congrArg str d.symm,b⟩;simp only[Bool.and_eq_false_iff,decide_eq_false_iff_not] at C;rw[ly] at C;rw[iN (λm=>by rcases C with h|h;exact h m.1;exact h m.2)] at d;refine W ?_;exact⟨_,rfl,congrArg str d.symm,b⟩;have c4:aT t≠[103,101,116]:=λe=>h9<|s.symm.trans e;refine W ?_;refine zc rfl (λjt=>?_) λjt=>?_;have g:aT t=[108,97,98]:=s.trans jt;have d:=aqI (st:=st) (o:=o) U g;have S:∃k,k=(iV bs (nth t.ag 2).aq).toNat:=⟨_,rfl⟩;obtain⟨k,hk⟩:=S;rw[<-hk] at d;have bV:=(N3 (bs:=bs) (l:=(nth t.ag 2).aq)).1;refine zr<|zm<|zm<|zi (i:=2) cH aK rfl rfl om<|zf lr rfl<|zl fA rfl (cE.ext b 0 _ rfl)<|aA (Qu bs om (nth t.ag 2).aq _ L _<|tQ.ext b) ?_;rintro _ _ ⟨rfl,rfl⟩;refine W ?_;apply oA 7 97 104 (ak [] Q) rfl oQ;intro mI;have I:=(bV mI).1;have nD:iV bs (nth t.ag 2).aq=(k:Int):=by omega
 rw[<-hk] at I;have fK:=yJ U _<|FH I;obtain⟨da,dS⟩:=N5 fK;obtain⟨_,_,na,nn,nc,_,_,_,e8,vD,N,_,oc,_⟩:=ua tQ<|pC I;cases e8;subst N;rw[nD];refine WL ?_;refine zl pD rfl (vD.ext b 1 _ rfl)<|aA (XC (bJ bs k).bS om _ L Q<|oc.ext b) ?_;rintro _ q ⟨rfl,f⟩;have sI:=f.size;exact oQ;intro xx q f;have b:=b.ext f;refine aX<|zc rfl (λP=>?_) λP=>?_;simp only[aE,dE] at P;rw[iP P] at d;have I:=(bV P.1).1;have nD:iV bs (nth t.ag 2).aq=(k:Int):=by omega
 rw[<-hk] at I;have fK:=yJ U _<|FH I;obtain⟨da,dS⟩:=N5 fK;obtain⟨_,_,na,nn,nc,_,_,_,e8,vD,N,_,oc,_⟩:=ua tQ<|pC I;cases e8;subst N;rw[nD];have kU:=IP 99 (bJ bs k).bS;refine WL ?_;refine zl pD rfl (vD.ext b 1 _ rfl)<|aA (xR [99] (bJ bs k).bS om _ L q (oc.ext b)) ?_;rintro _ v ⟨rfl,j⟩;have oz:=j.size;have b:=b.ext j;refine W ?_;exact⟨_,rfl,congrArg str d.symm,b⟩;rw[iN λm=>by rw[dT m.1,m.2] at P;cases P] at d;refine W ?_;exact⟨_,rfl,congrArg str d.symm,b⟩;have c5:aT t≠[108,97,98]:=λe=>jt<|s.symm.trans e;refine W ?_;refine zc rfl (λvN=>?_) λvN=>?_;have g:aT t=[112,97,99,107]:=s.trans vN;obtain⟨T,g2,g3⟩:=y.pack g;have ph:=hf.nth (i:=3) hg om;have N6:=hf.nth (i:=4) hg om;have xJ:=hg.nth (i:=3) om;have Kv:=hg.nth (i:=4) om;have Kw:=ph.nth (i:=1) xJ om;have Kx:=xJ.nth (i:=1) om;have axO:=Kw.size;have aq8:=Kw.text;have gd:=N6.size;have ht4:=N6.text;have fB:=ph.size;have ht3:=ph.text;have d:=aqE (p:=bs.map bN) (o:=o) V g T ph.text;obtain⟨b3,zv,qa3,qn3,qc3,K,M,SZ,wQ⟩:=fE J<|dN (ps:=t.ag) (i:=3) om;cases K;obtain⟨_,_,_,_,_,e4,jQ,ara,Ky⟩:=fE J<|dN (ps:=t.ag) (i:=4) om;cases e4;subst SZ ara;obtain⟨_,_,_,_,_,rfl,arb,arc,ard⟩:=fE wQ<|dN (ps:=(nth t.ag 3).ag) (i:=1) om;subst arc;refine jF<|Ai [113,114,115,116,117,118,119,120,121,122,123,124,125,126,127,128] [(128,.bool<|decide (qK st (nth t.ag 2).aq≠[])&&decide (qK st (nth t.ag 2).aq=gS (some (cR (nth t.ag 4)<|nth (nth t.ag 3).ag 1))))] ?_ ?_;rcases bE (decide (qK st (nth t.ag 2).aq≠[])) with fI|fI
 apply jN cY 16 (rA 113 16) (rA 113 16) [[],[0],[1],[2],[2],[2,4],[2,5],[2,6],[2,7],[2,8],[2],[2,10],[2,11],[2,9,12],[2,3,13],[2,14]] [It.v _,It.v _,It.v<|.bool true,It.v _,It.v _,It.v _,It.v _,It.v _,It.v _,It.v _,It.v _,It.v _,It.v _,It.v _,It.v _,It.v _] de rfl;intro wd aC;refine VA ?_;refine vc (λx q f=>?_) ?_;refine WZ ?_;exact pv (by exact congrArg Value.bool fI);refine vc (λ_ _ _=>WZ pv) ?_;refine vc (λ_ _ _=>WZ pv) ?_;refine vk aC (λx q f=>?_) ?_;refine zi (i:=3) cH aK rfl rfl om ?_;exact pv;refine vc (λ_ _ _=>WZ pv) ?_;refine vk aC (λx q f=>?_) ?_;have b:=b.ext f;refine zl jg rfl (M.ext b 1 _ rfl) ?_;exact pv;refine vk aC (λx q f=>?_) ?_;refine zi (i:=1) cH aK rfl rfl om ?_;exact pv;refine vk aC (λx q f=>?_) ?_;have b:=b.ext f;refine zL eU aK rfl (arb.ext b) rfl ?_;exact pv;refine vc (λ_ _ _=>WZ pv) ?_;refine vk aC (λx q f=>?_) ?_;refine zi (i:=4) cH aK rfl rfl om ?_;exact pv;refine vk aC (λx q f=>?_) ?_;have b:=b.ext f;refine zL eU aK rfl (jQ.ext b) rfl ?_;exact pv;refine vk aC (λx q f=>?_) ?_;have b:=b.ext f;refine aA (abm (nth (nth t.ag 3).ag 1) (nth t.ag 4) Kx Kv om ht4 om aq8 _ _ L q ((iF ard).ext b) ((iF Ky).ext b) λx m=>by have:=b.size;have:=hL x m;omega) ?_;rintro _ v ⟨rfl,j⟩;have oz:=j.size;exact pk j;exact VZ;intro x l0 Z;change OW _ _ _ _ [] (bf (aY _ x _) (zZ 113 [_,_,_,_,_,_,_,_,_,_,_,_,_,_,_,_])) _;refine W ?_;exact kE Z;apply jN cY 16 (rA 113 16) (rA 113 16) [[],[0],[1],[2],[2],[2,4],[2,5],[2,6],[2,7],[2,8],[2],[2,10],[2,11],[2,9,12],[2,3,13],[2,14]] [It.v _,It.v _,It.v (.bool false),It.v _,It.v _,It.v _,It.v _,It.v _,It.v _,It.v _,It.v _,It.v _,It.v _,It.v _,It.v _,It.v _] de rfl;intro wd aC;refine VA ?_;refine vc (λx q f=>?_) ?_;refine WZ ?_;exact pv (by exact congrArg Value.bool fI);exact VZ;intro x l0 Z;change OW _ _ _ _ [] (bf (aY _ x _) (zZ 113 [_,_,_,_,_,_,_,_,_,_,_,_,_,_,_,_])) _;refine W ?_;exact kE Z;intro x l0 Z;have b:=b.ext Z;refine zc rfl (λye=>?_) λye=>?_;rw[iP ye] at d;refine zr<|zm<|zi (i:=3) cH aK rfl rfl om<|zL eU aK rfl (M.ext b) rfl<|aA (qV (nth t.ag 3).size _ (lR _) xJ.wf om om _ L l0<|(iF wQ).ext b) ?_;rintro _ ek ⟨rfl,cA⟩;have N7:=cA.size;have b:=b.ext cA;refine W ?_;exact⟨_,rfl,congrArg str d.symm,b⟩;rw[iN λm=>by rw[m] at ye;cases ye] at d;refine W ?_;exact⟨_,rfl,congrArg str d.symm,b⟩;have c6:aT t≠[112,97,99,107]:=λe=>vN<|s.symm.trans e;refine W ?_;refine zc rfl (λFI=>?_) λFI=>?_;have g:aT t=[111,112,101,110]:=s.trans FI;obtain⟨hG1,x4⟩:=aqG (p:=bs.map bN) (o:=o) V g (y.opn g) eY;refine W ?_;refine aA (CD H _ _ Q A) ?_;rintro _ q ⟨rfl,f⟩;have sI:=f.size;refine cV f b u E λb u E=>?_;refine W ?_;refine zc rfl (λBr=>?_) λBr=>?_;obtain⟨HO,d⟩:=hG1 Br;have av:=HO.eok.two Br;obtain⟨kb,koff,ea,en,ec,rfl,MK,vJ,R⟩:=fE u<|dN (ps:=H.ag) (i:=1) om;subst vJ;have F:=HO.nth (i:=1) om;have xW:=F.size;have D1:=F.short;have hun:=aqW ho;have Y:=abv ho;have axY:(bL (97::aS o)).text.length<=5:=(by rw[hun.2];exact Y);simp only[lC] at Y;refine WZ ?_;apply jN cY 9 (rA 138 9) (rA 138 9) [[],[0],[1],[2],[],[4],[5],[6],[3,7]] [It.v _,It.v _,It.v _,It.v _,It.v _,It.v _,It.v _,It.v _,It.v (str (gS<|some (cR (bL (97::aS o))<|nth H.ag 1)))] de rfl;intro wd aC;refine vc (λ_ _ _=>WZ pv) ?_;refine vk aC (λx v j=>?_) ?_;have E:=E.ext j;refine WZ ?_;exact pv;refine vk aC (λx v j=>?_) ?_;refine zi (i:=1) cH aK rfl rfl om ?_;exact pv;refine vk aC (λx v j=>?_) ?_;have MK:=MK.ext j;refine WZ ?_;exact pv;refine vc (λ_ _ _=>WZ pv) ?_;refine vk aC (λx v j=>?_) ?_;refine aA (jo (o+1) o om om v) ?_;rintro _ db ⟨rfl,B⟩;have zw:=B.size;exact pk B;refine VA ?_;refine vk aC (λx v j=>?_) ?_;refine aA (AA (97::aS o) v) ?_;rintro _ db ⟨rfl,B⟩;have zw:=B.size;exact pk B;refine vk aC (λx v j=>?_) ?_;refine bQ j b R λb R=>?_;refine aA (abm (nth H.ag 1) (bL (97::aS o)) F.et (PI o) om om om D1 _ _ L v (ba.dX (iF R) λx m=>by simp[m]) (jM (L:=L) (a:=97::aS o) (ps:=[]) l8) λx m=>by have:=b.size;have:=hL x m;omega) ?_;rintro _ db ⟨rfl,B⟩;have zw:=B.size;exact pk B;exact trivial;intro x ek cA;have b:=b.ext cA;change OW _ _ _ _ _ (bf (aY _ x _)<|zZ 138 [_,_,_,_,_,_,_,_,_]) _;refine W ?_;exact⟨_,rfl,congrArg str d.symm,b⟩;have d:=x4 Br;refine W ?_;exact⟨_,rfl,congrArg str d.symm,b⟩;have c7:aT t≠[111,112,101,110]:=λe=>FI<|s.symm.trans e;have d:=aqH (p:=bs.map bN) (st:=st) (o:=o) c1 c2 c3 c4 c5 c6 c7;refine W ?_;exact⟨_,rfl,congrArg str d.symm,b⟩
def uO {a:Value} (h:ba L w (.agg #[a,v]) t):cP L w v t.ag:=by
 obtain⟨b,n,c,d,_,e⟩:=cQ h;have:v= .slice b n c:=by have:=congrArg (λv=>match v with|Value.agg x=>x.toList|_=>[]) d;simp at this;exact this.2
 rw[this];exact e
def ari (h:nj k) (j:Nat):VH (k.ag.drop j):=by have d:=mc k;have e:=h.size;refine⟨by simp;omega,λt c=>?_⟩;obtain⟨i,b,rfl⟩:=List.getElem_of_mem<|List.mem_of_mem_drop c;have a:=h.nth b;rw[wk b] at a;exact⟨a.et.wf,by have:=a.size;omega,by have:=a.short;omega⟩
def arj (a:TS) {us:List au} (h:i<us.length):mo a (us.take i)++[oS (df a (nth us i).aq)]=mo a (us.take<|i+1):=by unfold mo;exact DN (λu=>oS<|df a u.aq)<|dN h
theorem N8 (b:TS) (a:List au):(mo b a).length=a.length:=by simp[mo]
def ark {a:TS} (d:jP a) (b:List au):iy (mo a b)<=b.length*12001:=by have c:=SY (m:=12000) (mo a b) (λs e=>by obtain⟨u,_,rfl⟩:=List.mem_map.1 e;exact ai7 d);rw[N8] at c;unfold iy;rw[N8];omega
def N9 (d:List dv) (e:TS) (o:Nat) (t:au) (r:Value) (f:World):Prop:=
 ∃a n c,r= .tuple #[.slice a n c,.bool (stepT d e o t).isSome]/\∀b,stepT d e o t=some b->bo [] f (.slice a n c) (gw b)
def S0 {f:TS} {a:Option Addr} {b:Bool} (h:(stepT ps f o t).isSome=b/\∀d,stepT ps f o t=some d->d=f) (g:bo [] w' (.slice a n c) (gw f)):N9 ps f o t (.tuple #[.slice a n c,.bool b]) w':=
 ⟨a,n,c,by rw[h.1],λd e=>by rw[h.2 d e];exact g⟩
def arl {b:TS} {a:Option Addr} (h:stepT ps b o t=none):N9 ps b o t (.tuple #[.slice a n c,.bool false]) w':=
 ⟨a,n,c,by rw[h];rfl,λ_ e=>(by rw[h] at e;cases e)⟩
def abB {f:TS} {a:Option Addr} (h:(bU s).isSome=(stepT ps f o t).isSome/\∀b,stepT ps f o t=some b->gw b=(gw f).set d s) (g:bo [] w' (.slice a n c) ((gw f).set d s)):N9 ps f o t (.tuple #[.slice a n c,.bool (bU s).isSome]) w':=
 ⟨a,n,c,by rw[h.1],λb e=>by rw[h.2 b e];exact g⟩
def Dg (b:List aj) (d:Nat) (s:aj) (v:Value) (w:World):Prop:=∃a c,v= .tuple #[.slice a b.length c,.bool (bU s).isSome]/\bo [] w (.slice a b.length c) (b.set d s)
def Dg.ext {b:List aj} (h:Dg b d s v w) (k:ak [] w w'):Dg b d s v w':=by obtain⟨a,c,e,h⟩:=h;exact⟨a,c,e,h.ext k⟩
def HP (b:List aj) (d:Nat) (s:aj) (v:Value) (w:World):Prop:=∃a c,v= .slice a b.length c/\bo [] w (.slice a b.length c) (b.set d s)
def HP.ext {b:List aj} (h:HP b d s v w) (k:ak [] w w'):HP b d s v w':=by obtain⟨a,c,e,h⟩:=h;exact⟨a,c,e,h.ext k⟩
theorem arn:nth (ts.drop 2) i=nth ts (i+2):=by simp[nth,gG,List.getElem?_drop,Nat.add_comm]
def aro (bs:List Bk) (Q:iW bs=true) (lM:qE bs) (d:TS) (K:jP d) (hl:d.length=40) (t:au) (hf:xH t) (hg:Good t) (H:abr t) (o:Nat) (ho:o<=1000) 
  (vp vt vi:Value) (w:World) (Z:ma [] w vp bs) (B:bo [] w vt (gw d)) (Ku:ba [] w vi t):
  bC Tryz.prog 55 [vp,vt,vi,.int .i64 (o:Int)] w λr w'=>N9 (bs.map bN) d o t r w'/\ak [] w w':=by
 obtain⟨_,_,pc,rfl,eh⟩:=wg Z;obtain⟨ta,_,tc,rfl,HN⟩:=eA B;subst eh HN;have aW:1<=bs.length:=by unfold iW at Q;simp only[aE,dE] at Q;omega
 have aM:=lM.1;obtain⟨pb,Y,_,_,_,_,_,_,rfl,_⟩:=ua Z<|pC (bs:=bs) (i:=0) om;have pJ:=PM d;obtain⟨a,n,c,rfl,hn,aR⟩:=cQ Ku;subst hn;have P:=H.two;have lz:=mc t;have Rb:=hf.size;have tl:t.aq=[]:=by
  by_cases ha:t.aq=[]
  .exact ha
  .have:=hf.wf.leaf ha;rw[this] at P;simp at P
 have L:aT t=(nth t.ag 0).aq:=(Kr tl).trans<|Ks om;obtain⟨b0,nA,_,_,_,rfl,eI,_,_⟩:=fE aR<|dN (ps:=t.ag) (i:=0) om;obtain⟨_,_,_,_,_,e1,bT,arp,ov⟩:=fE aR<|dN (ps:=t.ag) (i:=1) om;cases e1;subst arp;obtain⟨F,_,S1,S2⟩:=SX H.abt;obtain⟨tb,M,rfl,p7⟩:=mY B<|jW (xs:=gw d) (i:=F) om;have hsr:cu (gw d) F=oS (df d (nth t.ag 1).aq):=by rw[<-S2];exact SW H.abt
 rw[hsr] at p7;have b:=ak.refl [] w;refine cm [.tmp 8,.tmp 9] 129 Tryz.func55 rfl ahy rfl rfl ?_;refine zr<|eH rfl λw1 aI u da=>?_;have b:=b.ext aI;refine zA<|zA<|aX<|zr<|zf jO rfl<|zl jg rfl (u.at rfl)<|zA<|aX<|zr<|zm<|zm<|zi (i:=1) cH aK rfl rfl om<|zL eU aK rfl (bT.ext b) rfl<|aA (Eg (nth t.ag 1) _ [] w1 ((iF ov).ext b)) ?_;rintro _ w2 ⟨rfl,av⟩;have dI:=av.size;refine bQ av b u λb u=>?_;rw[S1];refine WL ?_;refine zl fA rfl (p7.ext b 0 _ rfl)<|zA<|aX<|zr<|zm<|aA (GF (oS<|df d (nth t.ag 1).aq) [] w2 sm) ?_;rintro _ _ ⟨kW,aJ⟩;have fB:=aJ.size;refine bQ aJ b u λb u=>?_;obtain⟨O,_,rfl,C,eY⟩:=kW;obtain⟨_,_,_,rfl,kj,I⟩:=cQ C;subst kj;refine W ?_;refine dw aK rfl rfl rfl λ_ aH r6 _=>?_;have b:=b.grow;have b:=b.ext aH;have u:=u.grow;have u:=u.ext aH;have C:=C.grow;have C:=C.ext aH;have I:=I.grow;have I:=I.ext aH;refine cJ aK rfl rfl rfl r6 rfl λw5 aN r6 _=>?_;have b:=b.aB aN sx;have u:=u.aB aN sx;have C:=C.aB aN sx;have I:=I.aB aN sx;refine zA<|aX<|jF<|zr<|zm<|zi (i:=0) cH aK rfl rfl om<|zf lr rfl<|zl fA rfl (eI.ext b 0 _ rfl)<|aX<|tV<|zr<|BG rfl rfl rfl rfl<|zA<|aX<|zc rfl (λh1=>?_) λh1=>?_;have E:aT t=[104,97,108,116]:=L.trans h1;have z:=aqM (p:=bs.map bN) (o:=o) K E;refine W ?_;exact⟨_,rfl,S0 z<|B.ext b,b⟩;have c1:aT t≠[104,97,108,116]:=λe=>h1<|L.symm.trans e;refine W ?_;refine zc rfl (λh2=>?_) λh2=>?_;have E:aT t=[106,117,109,112]:=L.trans h2;obtain⟨kok,z⟩:=aqN (p:=bs.map bN) (o:=o) K E eY;refine W ?_;refine aA (CD O _ _ w5 C) ?_;rintro _ j ⟨rfl,f⟩;have mS:=f.size;refine gY f b C I r6 λb C I r6=>?_;refine WZ ?_;apply oA 7 46 53 (ak [] j) rfl oQ;intro P;have Oa:=ak.refl [] j;have HO:=kok P;have ax2:=mc O;have R:=ari HO 1;have ars:1<=O.ag.length:=(by refine Nat.pos_of_ne_zero λhz=>?_;rw[BT (.inr<|List.length_eq_zero_iff.1 hz)] at P;cases P);obtain⟨_,_,_,_,_,rfl,_,_,_⟩:=fE I<|dN (ps:=O.ag) (i:=0) ars;refine W ?_;refine Dv (l:=1) cH aK rfl rfl rfl rfl om (uO C) λvU aZ=>?_;have aZ:cP _ j vU (O.ag.drop 1):=(show cP _ _ vU _ from by rw[cP,Ir];exact aZ);refine aA (aj5 (O.ag.drop 1) R _ _ [] j aZ sm) ?_;rintro v7 N ⟨tu,y⟩;have nX:=y.size;refine bQ y b Oa λb Oa=>?_;obtain⟨_,_,_,rfl,hww⟩:=tu;refine aA (XE (gw d) ((O.ag.drop 1).map au.text) (by have:=R.1;simp only[List.length_map];omega) om _ _ _ _ N (B.ext b) hww) ?_;rintro _ w8 ⟨rfl,J⟩;have sI:=J.size;have Oa:=Oa.ext J;exact oQ;intro xx N y;have b:=b.ext y;refine W ?_;exact⟨_,rfl,S0 z<|B.ext b,b⟩;have c2:aT t≠[106,117,109,112]:=λe=>h2<|L.symm.trans e;refine W ?_;refine zc rfl (λh4=>?_) λh4=>?_;have E:aT t=[122,101,114,111]:=L.trans h4;have z:=aqO (o:=o) Q K E;have h33:=H.zero E;obtain⟨_,_,_,_,_,e2,cE,_,_⟩:=fE aR<|dN (ps:=t.ag) (i:=2) om;cases e2;have aO:∃k,k=(iV bs (nth t.ag 2).aq).toNat:=⟨_,rfl⟩;obtain⟨k,hk⟩:=aO;rw[<-hk] at z;have bV:=(N3 (bs:=bs) (l:=(nth t.ag 2).aq)).1;refine zr<|zm<|zm<|zi (i:=2) cH aK rfl rfl om<|zf lr rfl<|zl fA rfl (cE.ext b 0 _ rfl)<|aA (Qu bs om (nth t.ag 2).aq _ [] _ (Z.ext b)) ?_;rintro _ _ ⟨rfl,rfl⟩;refine W ?_;apply oB 3 65 68 rfl oQ;intro _;exact oQ;intro xx;refine WZ ?_;apply oA 8 69 77 (ak [] w5) rfl oQ;intro h6;have Ob:0<=iV bs (nth t.ag 2).aq:=(by simp only[aE,dE] at h6;exact h6.2);have nU:=(bV Ob).1;have nD:iV bs (nth t.ag 2).aq=(k:Int):=by omega
 rw[<-hk] at nU;have fK:=yJ Q _<|FH nU;obtain⟨da,_⟩:=N5 fK;obtain⟨_,_,na,_,_,_,_,_,e8,vD,fi,_,oc,_⟩:=ua Z<|pC nU;cases e8;subst fi;refine zm<|zm<|zm<|zi my jf rfl (congrArg (Value.int .i64) nD) om<|zf LB rfl<|zl pD rfl (vD.ext b 1 _ rfl)<|aA (XE (gw d) (bJ bs k).bS om om _ _ _ _ w5 (B.ext b)<|oc.ext b) ?_;rintro _ j ⟨rfl,f⟩;have mS:=f.size;exact oQ;intro xx j f;have b:=b.ext f;refine W ?_;exact⟨_,rfl,S0 z<|B.ext b,b⟩;have c3:aT t≠[122,101,114,111]:=λe=>h4<|L.symm.trans e;refine W ?_;refine zc rfl (λh7=>?_) λh7=>?_;have E:aT t=[110,101,119]:=L.trans h7;have ou:=H.new E;have rV:(t.ag.drop 2).length=t.ag.length-2:=List.length_drop;have oT:=N8 d<|t.ag.drop 2;have xW:=ark K<|t.ag.drop 2;have kU:=IP 116 (mo d<|t.ag.drop 2);refine zr<|xF w.heap.size [] bB bz rfl rfl b.size sm λj f da m=>?_;have b:=b.ext f;refine W ?_;refine eZ (λq:Nat×Option Addr×Nat×Option Nat=>[(0,.slice (some ⟨pb,Y,none⟩) bs.length pc),(1,.slice (some ⟨tb,M,none⟩) (gw d).length tc),(10,.slice (some ⟨b0,nA,none⟩) t.ag.length c),(15,.slice q.2.1 (mo d<|(t.ag.drop 2).take q.1).length q.2.2.1),(16,.int .i64 ((q.1+2:Nat):Int))]) (λq w'=>ak [] w w'/\Gr w.heap.size [] w' 9 1 (.slice q.2.1 (mo d<|(t.ag.drop 2).take q.1).length q.2.2.1) q.2.2.2 (gm (mo d<|(t.ag.drop 2).take q.1))/\q.1+2<=t.ag.length) (λq=>t.ag.length-q.1) ((0,_,_,_)) (⟨rfl,rfl,rfl,rfl,rfl⟩) (⟨b,m,om⟩) λgg N _ H=>?_;obtain⟨i,_,_,g⟩:=gg;dsimp only at H⊢;obtain⟨b,m,hk⟩:=H;have fV:=b.size;refine W ?_;refine zc rfl (λh8=>?_) λh8=>?_;obtain⟨_,_,_,_,_,e5,kC,_,S3⟩:=fE aR<|dN (ps:=t.ag) (i:=i+2) om;cases e5;have X:=ou (i+2) om om;obtain⟨r5,_,aru,arv⟩:=SX X;obtain⟨_,_,e6,S⟩:=mY B<|jW (xs:=gw d) (i:=r5) om;cases e6;have arw:cu (gw d) r5=oS (df d (nth t.ag<|i+2).aq):=(by rw[<-arv];exact SW X);rw[arw] at S;have GM:=arj d (us:=t.ag.drop 2) (i:=i) om;rw[arn] at GM;have mq:(mo d<|(t.ag.drop 2).take i).length=i:=(by rw[N8,List.length_take];omega);refine WL ?_;refine zL eU aK rfl (kC.ext b) rfl<|aA (Eg (nth t.ag<|i+2) _ [] N ((iF S3).ext b)) ?_;rintro _ w8 ⟨rfl,J⟩;have sI:=J.size;refine bQ J b m λb m=>?_;rw[aru];refine WL ?_;refine zl fA rfl (S.ext b 0 _ rfl)<|gv bB bz rfl rfl λw9 aF arx _=>bQ aF b m λb m=>?_;refine UK bB bz rfl rfl rfl rfl rfl rfl m arx om λa4 gT g4 db gN cS=>?_;have b:=m.since b cS;rw[GM] at gN⊢;refine W ?_;exact⟨(i+1,a4,gT,g4),⟨rfl,rfl,rfl,rfl,congrArg (Value.int .i64) om⟩,⟨b,gN,by dsimp only;omega⟩,by dsimp only;omega⟩;rw[List.take_of_length_le om] at m⊢;refine W ?_;refine aA (Az (mo d<|t.ag.drop 2) om [] _ _ N m.done) ?_;rintro _ w8 ⟨rfl,J⟩;have sI:=J.size;refine bQ J b m λb m=>?_;refine WZ ?_;apply oO 4 100 104 (ak [] w8) rfl oQ;intro _;refine zm<|aA (XC (mo d (t.ag.drop 2)) om _ _ w8 m.done) ?_;rintro _ w9 ⟨rfl,aF⟩;have oz:=aF.size;exact oQ;intro xx db cS;refine bQ cS b m λb m=>?_;refine aX<|zc rfl (λfR=>?_) λfR=>?_;have kA:=aqP (p:=bs.map bN) (o:=o) K E fR;refine W ?_;exact⟨_,rfl,arl kA,b⟩;have z:=aqQ (p:=bs.map bN) (o:=o) K E fR;rw[S2] at z;refine iH<|zr<|zm<|zm<|zi (i:=1) cH aK rfl rfl om<|zL eU aK rfl (bT.ext b) rfl<|aA (Eg (nth t.ag 1) _ [] db ((iF ov).ext b)) ?_;rintro _ fo ⟨rfl,dx⟩;have Bg:=dx.size;refine bQ dx b m λb m=>?_;rw[S1];refine zm<|aA (xR [116] (mo d<|t.ag.drop 2) om _ _ fo m.done) ?_;rintro _ gi ⟨rfl,dR⟩;have ES:=dR.size;have b:=b.ext dR;refine aA (XB (gw d) om F om (eC [116] (mo d<|t.ag.drop 2)) _ gi<|B.ext b) ?_;rintro _ _ ⟨Kz,gA⟩;have EZ:=gA.size;have b:=b.ext gA;obtain⟨_,_,rfl,pX⟩:=Kz;refine W ?_;exact⟨_,rfl,abB z pX,b⟩;have c4:aT t≠[110,101,119]:=λe=>h7<|L.symm.trans e;have U:=H.give c1 c2 c3 c4;have z:=aqR (o:=o) (B4 Q).1 K hg U c1 c2 c3 c4;rw[S2] at z;refine WZ ?_;apply oZ cY bA 13 (rA 116 13) (rA 116 13) [[],[],[1],[2],[3],[],[],[],[],(rA 5 4),[0,4,9],[10],[10]] [.v _,.v _,.v _,.v _,.v _,.v _,.v _,.v _,.v _,.v _,.p<|fun(v:Value) (D:World)=>Dg (gw d) F (gS<|fF (bs.map bN) d o t) v D,.p<|fun(v:Value) (D:World)=>HP (gw d) F (gS<|fF (bs.map bN) d o t) v D,.v (.bool (bU (gS<|fF (bs.map bN) d o t)).isSome)] de (by exact(bF (bF<|bF (bF<|bF (bF<|bF (bF<|bF (bF<|mH (λv w w' h k=>Dg.ext h k) (mH (λv w w' h k=>HP.ext h k)<|bF trivial))))))));intro _ aC;refine cD (λ_ _ _=>WZ<|bR bA) ?_;refine cD (λ_ _ _=>WZ<|bR bA) ?_;refine cD (λ_ _ _=>zi (i:=1) cH aK rfl rfl om<|bR bA) ?_;refine gQ bA aC (λx j f=>?_) ?_;have b:=b.ext f;refine zL eU aK rfl (bT.ext b) rfl ?_;exact bR bA;refine gQ bA aC (λx j f=>?_) ?_;have b:=b.ext f;refine aA (Eg (nth t.ag 1) _ [] j ((iF ov).ext b)) ?_;rintro _ N ⟨rfl,y⟩;have nX:=y.size;exact DP bA y;refine cD (λ_ _ _=>WZ<|bR bA) ?_;refine cD (λ_ _ _=>WZ<|bR bA) ?_;refine gQ bA aC (λx j f=>?_) ?_;have u:=u.ext f;refine WZ ?_;exact bR bA;refine cD (λ_ _ _=>WZ<|bR bA) ?_;refine gQ bA aC (λx j f=>?_) ?_;have b:=b.ext f;refine aA (aqX bs Q lM d K hl t hf hg U o ho _ _ _ [] j (Z.ext b) (B.ext b) (Ku.ext b) sm) ?_;rintro _ N ⟨rfl,y⟩;have nX:=y.size;exact DP bA y;refine eN ?_ ?_;intro x A j e f V s;have aO:(A 0=(.slice (some ⟨tb,M,none⟩) (gw d).length tc))/\(A 4=(.int .i64<|lQ (nth t.ag 1).aq))/\(A 9=(str (gS<|fF (bs.map bN) d o t))):=V;obtain⟨d0,d4,d9⟩:=aO;replace f:=bA.trans aC f;have b:=b.ext f;replace s:e=bf (aY _ x _) [(116,A 0),(120,A 4),(125,A 9)]:=s;rw[d0,d4,d9] at s;rw[S1] at s;subst s;refine aA (XB (gw d) om F om (gS<|fF (bs.map bN) d o t) _ j<|B.ext b) ?_;rintro v7 N ⟨tu,y⟩;have nX:=y.size;have mn:=tu;refine W ?_;exact dn (bA.of y) mn;refine eN ?_ ?_;intro x A j e f V s;have d10:(fun(v:Value) (D:World)=>Dg (gw d) F (gS<|fF (bs.map bN) d o t) v D) (A 10) j:=V;replace f:=bA.trans aC f;replace s:e=bf (aY _ x _) [(126,A 10)]:=s;obtain⟨sa,sc,T,Oc⟩:=d10;rw[T] at s;subst s;refine W ?_;exact dn (bA.refl _) ⟨_,_,rfl,Oc⟩;refine eN ?_ ?_;intro x A j e f V s;have d10:(fun(v:Value) (D:World)=>Dg (gw d) F (gS<|fF (bs.map bN) d o t) v D) (A 10) j:=V;replace f:=bA.trans aC f;replace s:e=bf (aY _ x _) [(126,A 10)]:=s;obtain⟨sa,sc,T,Oc⟩:=d10;rw[T] at s;subst s;refine W ?_;exact dn (bA.refl _) rfl;exact trivial;intro x nB kV;intro v10 d10;intro v11 d11;replace d10:(fun(v:Value) (D:World)=>Dg (gw d) F (gS<|fF (bs.map bN) d o t) v D) v10 nB:=d10;replace d11:(fun(v:Value) (D:World)=>HP (gw d) F (gS<|fF (bs.map bN) d o t) v D) v11 nB:=d11;have b:=b.ext kV;change OW _ _ _ _ _ (bf (aY _ x _)<|zZ 116 [_,_,_,_,_,_,_,_,_,_,v10,v11,_]) _;obtain⟨sa,sc,T,Oc⟩:=d11;rw[T];refine W ?_;exact⟨_,rfl,abB z Oc,b⟩




def zW (a:List dv) (b:dv) (n r:Nat):Option au:=if(jB a (ni b) 0<|b.code.take n).2=n then(jB a (ni b) 0<|b.code.take n).1.getD r none else none
theorem Od {a:TS} (h:stepT ps a o t=none):jB ps a o (t::ts)=(a,0):=by rw[jB,h]
theorem Oe {b a:TS} (h:stepT ps b o t=some a):jB ps b o (t::ts)=((jB ps a (nh o t) ts).1,(jB ps a (nh o t) ts).2+1):=by rw[jB,h]
theorem abG {ps:List dv}:∀(ts:List au) (a:TS) (o n:Nat),(jB ps a o (ts.take n)).2=min n (jB ps a o ts).2
 |[],a,o,n=>by simp[jB]
 |t::ts,a,o,0=>by simp[jB]
 |t::ts,a,o,n+1=>by
  rw[List.take_succ_cons];cases b:stepT ps a o t with
  |none=>rw[Od b,Od b];simp
  |some c=>rw[Oe b,Oe b];have:=abG (ps:=ps) ts c (nh o t) n;simp only[this];omega
theorem ary {b:dv} {r:Nat} (h:j8 ps b<n):zW ps b n r=none:=by unfold zW;rw[abG,iN (by unfold j8 at h;omega)]
def arz {b:dv} (h:yK ps b=false):j8 ps b<b.code.length:=by have c:=Wn (p:=ps) b.code (ni b) 0;unfold yK at h;have a:=of_decide_eq_false h;unfold j8 at a⊢;omega
def arA {b:Bk} (h:mx b=true) (a:i<b.code.length):bU (cu b.code i)=some (nth (bN b).code i)/\i<(bN b).code.length:=by
 have f:b.code[i]∈b.code:=List.getElem_mem a;obtain⟨t,c,_⟩:=(DM h).2.2 _ f;have d:cu b.code i=b.code[i]:=by simp[cu,gE a]
 have e:nth (bN b).code i=tr b.code[i]:=by simp[nth,bN,gG,List.getElem?_map,gE a]
 rw[d,e,Gb c];exact⟨c,by simp[bN];omega⟩
def arB (bs:List Bk) (T:iW bs=true) (lM:qE bs) (b:Bk) (hb:b∈bs) (m:Nat) (hm:m<=b.code.length) (Y vb:Value) (w:World) (tQ:ma [] w Y bs) (sE:qC [] w vb b):
  bC Tryz.prog 29 [Y,vb,.int .i64 (m:Int)] w λr w'=>(∃a n c,r= .tuple #[.slice a n c,.int .i64 (((jB (bs.map bN) (ni<|bN b) 0<|(bN b).code.take m).2:Nat):Int)]/\bo [] w' (.slice a n c) (gw (jB (bs.map bN) (ni<|bN b) 0<|(bN b).code.take m).1)/\jP (jB (bs.map bN) (ni<|bN b) 0<|(bN b).code.take m).1/\(jB (bs.map bN) (ni<|bN b) 0<|(bN b).code.take m).1.length=40)/\ak [] w w':=by
 have M:=yJ T b hb;obtain⟨S,R⟩:=B4 T;have O:=R _<|List.mem_map.2 ⟨b,hb,rfl⟩;have aU:=PK O;have oT:=(N5 M).2;have mr:b.code.length=(bN b).code.length:=by simp[bN]
 have ayb:=O.code;have L:=sE;obtain⟨a1,_,c1,a2,_,c2,rfl,rK,mv,_,jG⟩:=BQ sE;subst rK mv;have d:=ak.refl [] w;obtain⟨D,P⟩:∃D,D=(bN b).code.take m:=⟨_,rfl⟩;rw[<-P];have hDl:D.length=m:=by rw[P,List.length_take];omega
 obtain⟨F,Q⟩:∃F,F=jB (bs.map bN) (ni<|bN b) 0 D:=⟨_,rfl⟩;rw[<-Q];refine cm [.tmp 6,.tmp 7] 54 Tryz.func29 rfl aha rfl rfl ?_;refine zr<|eH rfl λw1 aI f _=>?_;have d:=d.ext aI;refine W ?_;refine aA (aj9 b oT _ _ w1<|L.ext d) ?_;rintro _ _ ⟨gM,av⟩;have dI:=av.size;refine bQ av d f λd f=>?_;rw[aja M] at gM;have g:=gM;obtain⟨ta,tn,tc,rfl,_⟩:=eA g;refine W ?_;refine eZ (λq:Nat×TS×Nat×Option Addr×Nat×Nat=>[(0,Y),(2,.int .i64 (m:Int)),(4,.pointer<|some ⟨w.heap.size,0,none⟩),(8,.slice q.2.2.2.1 q.2.2.2.2.1 q.2.2.2.2.2),(9,.int .i64 (q.2.2.1:Int)),(10,.int .i64 (q.1:Int))]) (λq w'=>ak [] w w'/\aL w' w.heap.size [str b.aQ,.slice a1 b.bS.length c1,.slice a2 b.code.length c2].toArray 30/\bo [] w' (.slice q.2.2.2.1 q.2.2.2.2.1 q.2.2.2.2.2) (gw q.2.1)/\jP q.2.1/\q.2.1.length=40/\q.2.2.1<=q.1/\q.1<=m/\F.1=(jB (bs.map bN) q.2.1 q.2.2.1<|D.drop q.1).1/\F.2=q.1+(jB (bs.map bN) q.2.1 q.2.2.1<|D.drop q.1).2) (λq=>m-q.1) ((0,ni<|bN b,0,ta,tn,tc)) (⟨rfl,rfl,rfl,rfl,rfl,rfl⟩) (⟨d,f,g,aU.1,aU.2,sm,sm,by rw[Q,List.drop_zero],by rw[Q];simp only[List.drop_zero,Nat.zero_add]⟩) λgg w3 _ hI=>?_;obtain⟨i,I,o,ta,tn,tc⟩:=gg;dsimp only at hI⊢;obtain⟨d,f,g,H,J,_,_,j,s⟩:=hI;have fV:=d.size;have HM:=f.lt;refine W ?_;refine zc rfl (λh1=>?_) λh1=>?_;obtain⟨qT,mq⟩:=arA M (i:=i) om;obtain⟨_,_,rfl,ir⟩:=mY jG<|jW (xs:=b.code) (i:=i) om;have dU:=dN mq;obtain⟨hf,hg,rU⟩:=O.cok _<|List.mem_of_getElem? dU;have Qk:nth D i=nth (bN b).code i:=(by rw[P];simp[nth,gG,List.getElem?_take,show i<m by omega]);rw[PL (ts:=D)<|show i<D.length by omega,Qk] at s j;have u:=aqJ rU;refine WL ?_;refine zl pD rfl (f.at rfl)<|zm<|zi bB bz rfl rfl om<|zl fA rfl (ir.ext d 0 _ rfl)<|aA (y0 (cu b.code i) [] w3 sm) ?_;rintro _ _ ⟨kG,Z⟩;have gd:=Z.size;refine cV Z d f g λd f g=>?_;obtain⟨t,_,rfl,U,hp⟩:=kG;obtain rfl:=hp _ qT;have ayc:=U;obtain⟨_,_,_,rfl,KB,_⟩:=cQ U;subst KB;have p:=U;refine W ?_;refine dw aK rfl rfl rfl λ_ B A _=>?_;have d:=d.grow;have d:=d.ext B;have f:=f.grow;have f:=f.ext B;have g:=g.grow;have g:=g.ext B;have p:=p.grow;have p:=p.ext B;refine cJ aK rfl rfl rfl A rfl λw6 C A _=>?_;have d:=d.aB C sx;have f:=f.aB C sx;have g:=g.aB C sx;have p:=p.aB C sx;refine W ?_;refine aA (aro bs T lM I H J (nth (bN b).code i) hf hg u o om _ _ _ w6 (tQ.ext d) (cw.weaken g sm)<|ba.dX p sm) ?_;rintro _ _ ⟨tu,ck⟩;have nX:=ck.size;refine kB ck d f g p A λd f g p A=>?_;obtain⟨na,nn,nc,rfl,Hh⟩:=tu;refine W ?_;refine zc rfl (λE=>?_) λE=>?_;have kA:stepT (bs.map bN) I o (nth (bN b).code i)=none:=(by simpa using E);rw[Od kA] at s j;refine W ?_;exact⟨_,rfl,⟨_,_,_,by rw[s];rfl,by rw[j];exact cw.weaken g sm,by rw[j];exact H,by rw[j];exact J⟩,d⟩;have aO:∃l,stepT (bs.map bN) I o (nth (bN b).code i)=some l:=(by cases hx:stepT (bs.map bN) I o (nth (bN b).code i) with|none=>rw[hx] at E;simp at E|some y=>exact⟨y,rfl⟩);obtain⟨l,X⟩:=aO;rw[Oe X] at s j;dsimp only at s j;have v:=Hh l X;obtain⟨fQ,ik⟩:=step_ok S H J hg rU X;have sM:nh o (nth (bN b).code i)<=i+1:=(by unfold nh;split<;>omega);have z:=u.two;obtain⟨_,_,_,_,_,rfl,V,_,_⟩:=fE (uO p)<|dN (ps:=(nth (bN b).code i).ag) (i:=0) om;have tl:(nth (bN b).code i).aq=[]:=(by by_cases ha:(nth (bN b).code i).aq=[];(·exact ha);(·have:=hf.wf.leaf ha;rw[this] at z;simp at z));have hh:aT (nth (bN b).code i)=(nth (nth (bN b).code i).ag 0).aq:=(Kr tl).trans<|Ks om;refine iH<|zr<|zm<|zA<|aX<|zr<|zf jO rfl<|zl jg rfl (A.at rfl)<|zi (i:=0) cH aK rfl rfl om<|zf lr rfl<|zl fA rfl (V 0 _ rfl)<|BG rfl rfl rfl rfl<|aX<|zc rfl (λN=>?_) λN=>?_;have K:nh o (nth (bN b).code i)=o+1:=iP<|hh.trans N;rw[K] at s j;refine W ?_;exact⟨(i+1,l,o+1,na,nn,nc),⟨rfl,rfl,rfl,rfl,rfl,rfl⟩,⟨d,f,v,fQ,ik,by dsimp only;omega,by dsimp only;omega,j,by dsimp only;omega⟩,by dsimp only;omega⟩;have K:nh o (nth (bN b).code i)=o:=iN λe=>N<|hh.symm.trans e;rw[K] at s j;refine W ?_;exact⟨(i+1,l,o,na,nn,nc),⟨rfl,rfl,rfl,rfl,rfl,rfl⟩,⟨d,f,v,fQ,ik,by dsimp only;omega,by dsimp only;omega,j,by dsimp only;omega⟩,by dsimp only;omega⟩;have KC:i=D.length:=by omega
 rw[KC,List.drop_length] at s j;have wQ:F.2=m:=(by rw[s];show D.length+0=m;omega);refine W ?_;exact⟨_,rfl,⟨_,_,_,by rw[wQ];rfl,by rw[j];exact cw.weaken g sm,by rw[j];exact H,by rw[j];exact J⟩,d⟩
def abK (bs:List Bk) (g:iW bs=true) (j:qE bs) (b:Bk) (hb:b∈bs) (f d:Value) (w:World) (m:ma [] w f bs) (l:qC [] w d b):
  bC Tryz.prog 29 [f,d,.int .i64 (b.code.length:Int)] w λr w'=>(∃v,r= .tuple #[v,.int .i64 (((jB (bs.map bN) (ni<|bN b) 0 (bN b).code).2:Nat):Int)])/\ak [] w w':=by
 have h:=arB bs g j b hb b.code.length (lR _) f d w m l;rw[List.take_of_length_le (by simp[bN])] at h;exact⟨h.1,Calls.mono h.2 λ_ _ ⟨v,i,⟨a,n,c,e,_⟩,hk⟩=>⟨v,i,⟨_,e⟩,hk⟩⟩
def arG (bs:List Bk) (f:qE bs) (k:Nat) (hk:k<bs.length) (v:Value) (w:World) (e:ma [] w v bs):bC Tryz.prog 27 [v,.int .i64 (k:Int)] w λr w'=>r= .bool (iW bs)/\ak [] w w':=by have g:=e;obtain⟨a,n,c,rfl,i⟩:=wg e;subst i;have j:=f.1;have b:=ak.refl [] w;refine cm [.tmp 4] 14 Tryz.func27 rfl VS rfl rfl ?_;refine W ?_;refine aA (Qw bs f _ [] w (g.ext b)) ?_;rintro _ _ ⟨rfl,d⟩;have l:=d.size;have b:=b.ext d;refine WZ ?_;apply oB 6 7 13 rfl oQ;intro _;refine W ?_;refine aA (Eb _ _ _ _) ?_;rintro _ _ ⟨rfl,rfl⟩;exact oQ;intro _;refine W ?_;exact⟨_,rfl,congrArg Value.bool (by rw[dT (show(0:Int)<=(k:Int) by omega),dT<|show(k:Int)<=(bs.length:Int)-1 by omega,Bool.and_true,Bool.and_true]),b⟩
def arH (bs:List Bk) (z:qE bs) (k:Nat) (hk:k<bs.length) (v:Value) (w:World) (y:ma [] w v bs):bC Tryz.prog 13 [v,.int .i64 (k:Int)] w λr w'=>r= .bool (iW bs&&yK (bs.map bN) (bN<|bJ bs k))/\ak [] w w':=by
 have C:=y;obtain⟨a,n,c,rfl,M⟩:=wg y;subst M;have Z:=z.1;obtain⟨T,o,V,rn,X,J,_,K,rfl,t,Q,Y,P,H⟩:=ua y<|pC hk;subst Q Y;have F:=FH hk;have f:=ak.refl [] w;refine cm [.tmp 4] 34 Tryz.func13 rfl VP rfl rfl ?_;refine W ?_;refine aA (arG bs z k hk _ w<|C.ext f) ?_;rintro _ _ ⟨rfl,A⟩;have cK:=A.size;have f:=f.ext A;refine jU rfl rfl rfl<|aX<|zc rfl (λs=>?_) λs=>?_;have N:iW bs=false:=by simpa using s
 refine W ?_;exact⟨_,rfl,by rw[N];rfl,f⟩;have D:iW bs=true:=by simpa using s
 refine WZ ?_;apply oZ cY bA 17 (rA 12 12++[11,24,25,5,6]) (rA 12 12++[11,24,25,5,6]) [[],[],[],[1,2],[3],[],[],[5,6],[7],[8],[9],[0,4,10],[11],[12],[12],[13],[14]] [.v _,.v _,.v _,.v _,.v _,.v _,.v _,.v _,.v _,.v _,.v _,.p (fun(v:Value) (l:World)=>∃u,v= .tuple #[u,.int .i64 ((j8 (bs.map bN) (bN<|bJ bs k):Nat):Int)]),.p (fun(v:Value) (l:World)=>∃u,v= .tuple #[u,.int .i64 ((j8 (bs.map bN) (bN<|bJ bs k):Nat):Int)]),.p λ_ _=>True,.v<|.int .i64 ((j8 (bs.map bN) (bN<|bJ bs k):Nat):Int),.p λ_ _=>True,.v (.int .i64 ((j8 (bs.map bN) (bN<|bJ bs k):Nat):Int))] de (by exact(bF (bF<|bF (bF<|bF (bF<|bF (bF<|bF (bF<|bF (mH (λv w w' h k=>h)<|mH (λv w w' h k=>h) (K1<|bF (K1<|bF trivial))))))))));intro _ aC;refine cD (λ_ _ _=>WZ<|bR bA) ?_;refine cD (λ_ _ _=>WZ<|bR bA) ?_;refine cD (λ_ _ _=>WZ<|bR bA) ?_;refine cD (λ_ _ _=>WZ<|bR bA) ?_;refine gQ bA aC (λx i d=>?_) ?_;have f:=f.ext d;refine zL DQ jf rfl (t.ext f) rfl ?_;exact bR bA;refine cD (λ_ _ _=>WZ<|bR bA) ?_;refine cD (λ_ _ _=>WZ<|bR bA) ?_;refine cD (λ_ _ _=>WZ<|bR bA) ?_;refine cD (λ_ _ _=>WZ<|bR bA) ?_;refine gQ bA aC (λx i d=>?_) ?_;have f:=f.ext d;refine zl pD rfl (t.ext f 2 _ rfl) ?_;exact bR bA;refine cD (λ_ _ _=>WZ<|bR bA) ?_;refine eN ?_ ?_;intro x g i e d j b;have I:(g 0=(.slice (some ⟨T,o,none⟩) bs.length c))/\(g 4=(.agg #[str (bJ bs k).aQ,.slice V (bJ bs k).bS.length X,.slice J (bJ bs k).code.length K]))/\(g 10=(.int .i64 ((bJ bs k).code.length:Int))):=j;obtain⟨d0,d4,d10⟩:=I;replace d:=bA.trans aC d;have f:=f.ext d;replace b:e=bf (aY _ x _) [(12,g 0),(16,g 4),(22,g 10)]:=b;rw[d0,d4,d10] at b;subst b;refine aA (abK bs D z (bJ bs k) F _ _ i (C.ext f)<|(BR P H).ext f) ?_;rintro _ _ ⟨O,B⟩;have fB:=B.size;have R:=O;refine W ?_;exact dn (bA.of B) R;refine eN ?_ ?_;intro x g i e d j b;have d11:(fun(v:Value) (l:World)=>∃u,v= .tuple #[u,.int .i64 ((j8 (bs.map bN) (bN<|bJ bs k):Nat):Int)]) (g 11) i:=j;replace d:=bA.trans aC d;replace b:e=bf (aY _ x _) [(23,g 11)]:=b;obtain⟨u,m⟩:=d11;rw[m] at b;subst b;refine W ?_;exact dn (bA.refl _) ⟨_,rfl⟩;refine eN ?_ ?_;intro x g i e d j b;have d12:(fun(v:Value) (l:World)=>∃u,v= .tuple #[u,.int .i64 ((j8 (bs.map bN) (bN<|bJ bs k):Nat):Int)]) (g 12) i:=j;replace d:=bA.trans aC d;replace b:e=bf (aY _ x _) [(11,g 12)]:=b;obtain⟨u,m⟩:=d12;rw[m] at b;subst b;refine W ?_;exact dn (bA.refl _) trivial;refine eN ?_ ?_;intro x g i e d j b;have d12:(fun(v:Value) (l:World)=>∃u,v= .tuple #[u,.int .i64 ((j8 (bs.map bN) (bN<|bJ bs k):Nat):Int)]) (g 12) i:=j;replace d:=bA.trans aC d;replace b:e=bf (aY _ x _) [(11,g 12)]:=b;obtain⟨u,m⟩:=d12;rw[m] at b;subst b;refine W ?_;exact dn (bA.refl _) rfl;refine eN ?_ ?_;intro x g i e d j b;have d13:True:=j;replace d:=bA.trans aC d;replace b:e=bf (aY _ x _) [(24,g 13)]:=b;subst b;refine W ?_;exact dn (bA.refl _) trivial;refine cD (λ_ _ _=>WZ<|bR bA) ?_;exact trivial;intro x E L;intro p d11;intro q d12;intro S d13;intro U d15;replace d11:(fun(v:Value) (l:World)=>∃u,v= .tuple #[u,.int .i64 ((j8 (bs.map bN) (bN<|bJ bs k):Nat):Int)]) p E:=d11;replace d12:(fun(v:Value) (l:World)=>∃u,v= .tuple #[u,.int .i64 ((j8 (bs.map bN) (bN<|bJ bs k):Nat):Int)]) q E:=d12;have f:=f.ext L;change OW _ _ _ _ [] (bf (aY _ x _)<|zZ 12 [_,_,_,_,_,_,_,_,_,_,_,p]++[(11,q),(24,S),(25,_),(5,U),(6,_)]) _;refine WL ?_;refine zl pD rfl (t.ext f 2 _ rfl)<|W ?_;exact⟨_,rfl,congrArg Value.bool (by rw[D,Bool.true_and];unfold yK;exact decide_eq_decide.2 (by simp[bN];omega)),f⟩
end Go.Proofs.YtjkkipfboijfaaaGreatDoor
namespace Go.Proofs
open Go.Shelf
def Tryz.arI:Go.Shelf.Ren:=⟨fun|170=>111|n=>n,fun|70=>86|3=>3|0=>0|72=>88|37=>22|5=>5|n=>n,fun|n=>n⟩
def Tryz.arJ:Go.Proofs.Lays.n170 Tryz.prog Tryz.arI:={
 mixed:=by kernel_rfl
 f170:=Tryz.func111.trans (congrArg some<|by kernel_rfl)
 t0:=Tryz.underlying0
 a0:=Tryz.isAgg0
 z0:=Tryz.sizeOf0
 v0:=Tryz.zeroValue0
 t3:=Tryz.underlying3
 a3:=Tryz.isAgg3
 z3:=Tryz.sizeOf3
 v3:=Tryz.zeroValue3
 t37:=Tryz.underlying22
 a37:=Tryz.isAgg22
 z37:=Tryz.sizeOf22
 v37:=Tryz.zeroValue22
 t70:=Tryz.underlying86
 a70:=Tryz.isAgg86
 z70:=Tryz.sizeOf86
 v70:=Tryz.zeroValue86
 t72:=Tryz.underlying88
 a72:=Tryz.isAgg88
 z72:=Tryz.sizeOf88
 v72:=Tryz.zeroValue88}
def Tryz.abL:Go.Shelf.Ren:=⟨fun|169=>51|n=>n,fun|70=>86|9=>9|0=>0|72=>88|37=>22|127=>117|3=>3|5=>5|n=>n,fun|n=>n⟩
def Tryz.abM:Go.Proofs.Lays.n169 Tryz.prog Tryz.abL:={
 mixed:=by kernel_rfl
 f169:=Tryz.func51.trans (congrArg some<|by kernel_rfl)
 t0:=Tryz.underlying0
 a0:=Tryz.isAgg0
 z0:=Tryz.sizeOf0
 v0:=Tryz.zeroValue0
 t3:=Tryz.underlying3
 a3:=Tryz.isAgg3
 z3:=Tryz.sizeOf3
 v3:=Tryz.zeroValue3
 t9:=Tryz.underlying9
 a9:=Tryz.isAgg9
 z9:=Tryz.sizeOf9
 v9:=Tryz.zeroValue9
 t37:=Tryz.underlying22
 a37:=Tryz.isAgg22
 z37:=Tryz.sizeOf22
 v37:=Tryz.zeroValue22
 t70:=Tryz.underlying86
 a70:=Tryz.isAgg86
 z70:=Tryz.sizeOf86
 v70:=Tryz.zeroValue86
 t72:=Tryz.underlying88
 a72:=Tryz.isAgg88
 z72:=Tryz.sizeOf88
 v72:=Tryz.zeroValue88
 t127:=Tryz.underlying117
 a127:=Tryz.isAgg117
 z127:=Tryz.sizeOf117
 v127:=Tryz.zeroValue117}
def Tryz.abN:Builder.Extra Tryz.prog Tryz.abL:={
 sizeBuilder:=by kernel_rfl
 liesBuilder:=by kernel_rfl
 t5:=Tryz.underlying5
 a5:=Tryz.isAgg5
 z5:=Tryz.sizeOf5
 v5:=Tryz.zeroValue5
 infoByte:=by kernel_rfl
 cellsByte:=by kernel_rfl
 sizeByte:=by kernel_rfl
 neB5:=by decide}
def Tryz.abO:Go.Shelf.Ren:=⟨fun|165=>110|240=>115|241=>152|276=>157|277=>192|n=>n,fun|70=>86|3=>3|0=>0|4=>4|9=>9|20=>20|72=>88|37=>22|164=>185|5=>5|n=>n,fun|n=>n⟩
def Tryz.arK:Go.Proofs.Lays.n165 Tryz.prog Tryz.abO:={
 mixed:=by kernel_rfl
 f165:=Tryz.func110.trans (congrArg some<|by kernel_rfl)
 f240:=Tryz.func115.trans (congrArg some<|by kernel_rfl)
 f241:=Tryz.func152.trans (congrArg some<|by kernel_rfl)
 f276:=Tryz.func157.trans (congrArg some<|by kernel_rfl)
 f277:=Tryz.func192.trans (congrArg some<|by kernel_rfl)
 t0:=Tryz.underlying0
 a0:=Tryz.isAgg0
 z0:=Tryz.sizeOf0
 v0:=Tryz.zeroValue0
 t3:=Tryz.underlying3
 a3:=Tryz.isAgg3
 z3:=Tryz.sizeOf3
 v3:=Tryz.zeroValue3
 t4:=Tryz.underlying4
 a4:=Tryz.isAgg4
 z4:=Tryz.sizeOf4
 v4:=Tryz.zeroValue4
 t9:=Tryz.underlying9
 a9:=Tryz.isAgg9
 z9:=Tryz.sizeOf9
 v9:=Tryz.zeroValue9
 t20:=Tryz.underlying20
 a20:=Tryz.isAgg20
 z20:=Tryz.sizeOf20
 v20:=Tryz.zeroValue20
 t37:=Tryz.underlying22
 a37:=Tryz.isAgg22
 z37:=Tryz.sizeOf22
 v37:=Tryz.zeroValue22
 t70:=Tryz.underlying86
 a70:=Tryz.isAgg86
 z70:=Tryz.sizeOf86
 v70:=Tryz.zeroValue86
 t72:=Tryz.underlying88
 a72:=Tryz.isAgg88
 z72:=Tryz.sizeOf88
 v72:=Tryz.zeroValue88
 t164:=Tryz.underlying185
 a164:=Tryz.isAgg185
 z164:=Tryz.sizeOf185
 v164:=Tryz.zeroValue185}
def Tryz.arL:Builder.Extra Tryz.prog Tryz.abO:={
 sizeBuilder:=by kernel_rfl
 liesBuilder:=by kernel_rfl
 t5:=Tryz.underlying5
 a5:=Tryz.isAgg5
 z5:=Tryz.sizeOf5
 v5:=Tryz.zeroValue5
 infoByte:=by kernel_rfl
 cellsByte:=by kernel_rfl
 sizeByte:=by kernel_rfl
 neB5:=by decide}
open Go.RowKit in
def Tryz.Builder_Grow_fresh (B b n:Nat) (w:World) (c:B<=b) (a:w.heap[b]?=some (.cells #[.pointer none,.slice none 0 0] 88 (0,0))) (f:B<=w.heap.size) (d:n<=281474976710656):
  Calls Tryz.prog 110 #[.pointer<|some ⟨b,0,none⟩,.int .i64 n] w λe w'=>e= .returned (.tuple #[])/\(Lib.BuilderAt 88 5 B b (.pointer<|some ⟨b,0,none⟩) [] w'/\Below B w w'):=Any.Builder_Grow_fresh Tryz.arK Tryz.arL B b n w c a f d
def Tryz.aye:Go.Shelf.Ren:=⟨fun|210=>218|206=>125|n=>n,fun|9=>9|4=>4|3=>3|n=>n,fun|n=>n⟩
open Go.RowKit in
def Tryz.Builder_Len_f (B b:Nat) (bs:List Value) (w:World) (h:Lib.IsBuilderF 88 5 B b bs w):
  Calls Tryz.prog 111 #[.pointer (some ⟨b,0,none⟩)] w λe w'=>e= .returned (.int .i64 bs.length)/\w'=w:=Any.Builder_Len_f Tryz.arJ B b bs w h
open Go.RowKit in
def Tryz.Builder_String_f (B b:Nat) (l:List UInt8) (w:World) (h:Lib.IsBuilderF 88 5 B b (Lib.byteCells l) w) (a:l≠[]):
  Calls Tryz.prog 51 #[.pointer (some ⟨b,0,none⟩)] w λe w'=>e= .returned (.string ⟨l.toArray⟩)/\(Lib.IsBuilderF 88 5 B b (Lib.byteCells l) w'/\Below B w w'):=Any.Builder_String_f Tryz.abM Tryz.abN B b l w h a
open Go.RowKit in
def Tryz.Builder_String_any_f (B b:Nat) (l:List UInt8) (w:World) (h:Lib.IsBuilderF 88 5 B b (Lib.byteCells l) w) (a:B<=w.heap.size):
  Calls Tryz.prog 51 #[.pointer (some ⟨b,0,none⟩)] w λe w'=>e= .returned (.string ⟨l.toArray⟩)/\(Lib.IsBuilderF 88 5 B b (Lib.byteCells l) w'/\Below B w w'):=Any.Builder_String_any_f Tryz.abM Tryz.abN B b l w h a
def Tryz.arM:Go.Shelf.Ren:=⟨fun|172=>59|244=>89|245=>90|247=>126|279=>127|280=>128|281=>129|282=>130|287=>161|316=>162|171=>48|205=>163|321=>199|322=>200|243=>71|246=>114|283=>153|284=>154|285=>155|286=>156|129=>194|317=>193|318=>195|319=>196|320=>197|337=>216|338=>217|n=>n,fun|9=>9|3=>3|75=>101|76=>102|4=>4|5=>5|167=>150|37=>22|0=>0|85=>151|2=>2|168=>153|53=>177|175=>189|46=>142|210=>192|127=>117|145=>224|143=>222|21=>21|171=>180|173=>183|212=>218|51=>174|20=>20|213=>219|232=>242|233=>243|80=>63|n=>n,fun|15=>0|16=>1|17=>2|18=>4|19=>5|n=>n⟩
def Tryz.arN:Go.Proofs.Lays.n172 Tryz.prog Tryz.arM:={
 mixed:=by kernel_rfl
 f129:=Tryz.func194.trans (congrArg some<|by kernel_rfl)
 f171:=Tryz.func48.trans (congrArg some<|by kernel_rfl)
 f172:=Tryz.func59.trans (congrArg some<|by kernel_rfl)
 f205:=Tryz.func163.trans (congrArg some<|by kernel_rfl)
 f243:=Tryz.func71.trans (congrArg some<|by kernel_rfl)
 f244:=Tryz.func89.trans (congrArg some<|by kernel_rfl)
 f245:=Tryz.func90.trans (congrArg some<|by kernel_rfl)
 f246:=Tryz.func114.trans (congrArg some<|by kernel_rfl)
 f247:=Tryz.func126.trans (congrArg some<|by kernel_rfl)
 f279:=Tryz.func127.trans (congrArg some<|by kernel_rfl)
 f280:=Tryz.func128.trans (congrArg some<|by kernel_rfl)
 f281:=Tryz.func129.trans (congrArg some<|by kernel_rfl)
 f282:=Tryz.func130.trans (congrArg some<|by kernel_rfl)
 f283:=Tryz.func153.trans (congrArg some<|by kernel_rfl)
 f284:=Tryz.func154.trans (congrArg some<|by kernel_rfl)
 f285:=Tryz.func155.trans (congrArg some<|by kernel_rfl)
 f286:=Tryz.func156.trans (congrArg some<|by kernel_rfl)
 f287:=Tryz.func161.trans (congrArg some<|by kernel_rfl)
 f316:=Tryz.func162.trans (congrArg some<|by kernel_rfl)
 f317:=Tryz.func193.trans (congrArg some<|by kernel_rfl)
 f318:=Tryz.func195.trans (congrArg some<|by kernel_rfl)
 f319:=Tryz.func196.trans (congrArg some<|by kernel_rfl)
 f320:=Tryz.func197.trans (congrArg some<|by kernel_rfl)
 f321:=Tryz.func199.trans (congrArg some<|by kernel_rfl)
 f322:=Tryz.func200.trans (congrArg some<|by kernel_rfl)
 f337:=Tryz.func216.trans (congrArg some<|by kernel_rfl)
 f338:=Tryz.func217.trans (congrArg some<|by kernel_rfl)
 t0:=Tryz.underlying0
 a0:=Tryz.isAgg0
 z0:=Tryz.sizeOf0
 v0:=Tryz.zeroValue0
 t2:=Tryz.underlying2
 a2:=Tryz.isAgg2
 z2:=Tryz.sizeOf2
 v2:=Tryz.zeroValue2
 t3:=Tryz.underlying3
 a3:=Tryz.isAgg3
 z3:=Tryz.sizeOf3
 v3:=Tryz.zeroValue3
 t4:=Tryz.underlying4
 a4:=Tryz.isAgg4
 z4:=Tryz.sizeOf4
 v4:=Tryz.zeroValue4
 t5:=Tryz.underlying5
 a5:=Tryz.isAgg5
 z5:=Tryz.sizeOf5
 v5:=Tryz.zeroValue5
 t9:=Tryz.underlying9
 a9:=Tryz.isAgg9
 z9:=Tryz.sizeOf9
 v9:=Tryz.zeroValue9
 t20:=Tryz.underlying20
 a20:=Tryz.isAgg20
 z20:=Tryz.sizeOf20
 v20:=Tryz.zeroValue20
 t21:=Tryz.underlying21
 a21:=Tryz.isAgg21
 z21:=Tryz.sizeOf21
 v21:=Tryz.zeroValue21
 t37:=Tryz.underlying22
 a37:=Tryz.isAgg22
 z37:=Tryz.sizeOf22
 v37:=Tryz.zeroValue22
 t46:=Tryz.underlying142
 a46:=Tryz.isAgg142
 z46:=Tryz.sizeOf142
 v46:=Tryz.zeroValue142
 t51:=Tryz.underlying174
 a51:=Tryz.isAgg174
 z51:=Tryz.sizeOf174
 v51:=Tryz.zeroValue174
 t53:=Tryz.underlying177
 a53:=Tryz.isAgg177
 z53:=Tryz.sizeOf177
 v53:=Tryz.zeroValue177
 t75:=Tryz.underlying101
 a75:=Tryz.isAgg101
 z75:=Tryz.sizeOf101
 v75:=Tryz.zeroValue101
 t76:=Tryz.underlying102
 a76:=Tryz.isAgg102
 z76:=Tryz.sizeOf102
 v76:=Tryz.zeroValue102
 t85:=Tryz.underlying151
 a85:=Tryz.isAgg151
 z85:=Tryz.sizeOf151
 v85:=Tryz.zeroValue151
 t127:=Tryz.underlying117
 a127:=Tryz.isAgg117
 z127:=Tryz.sizeOf117
 v127:=Tryz.zeroValue117
 t143:=Tryz.underlying222
 a143:=Tryz.isAgg222
 z143:=Tryz.sizeOf222
 v143:=Tryz.zeroValue222
 t145:=Tryz.underlying224
 a145:=Tryz.isAgg224
 z145:=Tryz.sizeOf224
 v145:=Tryz.zeroValue224
 t167:=Tryz.underlying150
 a167:=Tryz.isAgg150
 z167:=Tryz.sizeOf150
 v167:=Tryz.zeroValue150
 t168:=Tryz.underlying153
 a168:=Tryz.isAgg153
 z168:=Tryz.sizeOf153
 v168:=Tryz.zeroValue153
 t171:=Tryz.underlying180
 a171:=Tryz.isAgg180
 z171:=Tryz.sizeOf180
 v171:=Tryz.zeroValue180
 t173:=Tryz.underlying183
 a173:=Tryz.isAgg183
 z173:=Tryz.sizeOf183
 v173:=Tryz.zeroValue183
 t175:=Tryz.underlying189
 a175:=Tryz.isAgg189
 z175:=Tryz.sizeOf189
 v175:=Tryz.zeroValue189
 t210:=Tryz.underlying192
 a210:=Tryz.isAgg192
 z210:=Tryz.sizeOf192
 v210:=Tryz.zeroValue192
 t212:=Tryz.underlying218
 a212:=Tryz.isAgg218
 z212:=Tryz.sizeOf218
 v212:=Tryz.zeroValue218
 t213:=Tryz.underlying219
 a213:=Tryz.isAgg219
 z213:=Tryz.sizeOf219
 t232:=Tryz.underlying242
 a232:=Tryz.isAgg242
 z232:=Tryz.sizeOf242
 v232:=Tryz.zeroValue242
 t233:=Tryz.underlying243
 a233:=Tryz.isAgg243
 z233:=Tryz.sizeOf243
 v233:=Tryz.zeroValue243
 g15:=by kernel_rfl
 g16:=by kernel_rfl
 g17:=by kernel_rfl
 g18:=by kernel_rfl
 g19:=by kernel_rfl}
open Go.RowKit in
def Tryz.strconv_Atoi (s:ByteArray) (n:Int) (a:s.size<=18) (h:Lib.atoi s.data.toList=some n) (w:World):
  Calls Tryz.prog 59 #[.string s] w λe w'=>e= .returned (.tuple #[.int .i64 n,.nilIface])/\∃t,w'=Lib.bytesWorld w 5 t:=Any.strconv_Atoi Tryz.arN s n a h w
def Tryz.ayf:Go.Shelf.Ren:=⟨fun|246=>114|283=>153|284=>154|285=>155|286=>156|129=>194|317=>193|318=>195|319=>196|320=>197|337=>216|338=>217|n=>n,fun|2=>2|3=>3|9=>9|4=>4|171=>180|0=>0|53=>177|37=>22|5=>5|173=>183|212=>218|51=>174|20=>20|213=>219|46=>142|232=>242|233=>243|n=>n,fun|17=>2|18=>4|19=>5|n=>n⟩
def Tryz.ayg:Go.Shelf.Ren:=⟨fun|243=>71|246=>114|283=>153|284=>154|285=>155|286=>156|129=>194|317=>193|318=>195|319=>196|320=>197|337=>216|338=>217|n=>n,fun|3=>3|9=>9|2=>2|4=>4|171=>180|0=>0|53=>177|37=>22|5=>5|173=>183|212=>218|51=>174|20=>20|213=>219|46=>142|232=>242|233=>243|n=>n,fun|17=>2|18=>4|19=>5|n=>n⟩
def Tryz.ayh:Go.Shelf.Ren:=⟨fun|171=>48|243=>71|246=>114|283=>153|284=>154|285=>155|286=>156|129=>194|317=>193|318=>195|319=>196|320=>197|337=>216|338=>217|n=>n,fun|3=>3|9=>9|2=>2|4=>4|171=>180|0=>0|53=>177|37=>22|5=>5|173=>183|212=>218|51=>174|20=>20|213=>219|46=>142|232=>242|233=>243|n=>n,fun|17=>2|18=>4|19=>5|n=>n⟩
def Tryz.arO:Go.Shelf.Ren:=⟨fun|171=>48|243=>71|246=>114|283=>153|284=>154|285=>155|286=>156|129=>194|317=>193|318=>195|319=>196|320=>197|337=>216|338=>217|n=>n,fun|3=>3|9=>9|2=>2|4=>4|171=>180|0=>0|53=>177|37=>22|5=>5|173=>183|212=>218|51=>174|20=>20|213=>219|46=>142|232=>242|233=>243|n=>n,fun|17=>2|18=>4|19=>5|n=>n⟩
def Tryz.arP:Go.Proofs.Lays.n171 Tryz.prog Tryz.arO:={
 mixed:=by kernel_rfl
 f129:=Tryz.func194.trans (congrArg some<|by kernel_rfl)
 f171:=Tryz.func48.trans (congrArg some<|by kernel_rfl)
 f243:=Tryz.func71.trans (congrArg some<|by kernel_rfl)
 f246:=Tryz.func114.trans (congrArg some<|by kernel_rfl)
 f283:=Tryz.func153.trans (congrArg some<|by kernel_rfl)
 f284:=Tryz.func154.trans (congrArg some<|by kernel_rfl)
 f285:=Tryz.func155.trans (congrArg some<|by kernel_rfl)
 f286:=Tryz.func156.trans (congrArg some<|by kernel_rfl)
 f317:=Tryz.func193.trans (congrArg some<|by kernel_rfl)
 f318:=Tryz.func195.trans (congrArg some<|by kernel_rfl)
 f319:=Tryz.func196.trans (congrArg some<|by kernel_rfl)
 f320:=Tryz.func197.trans (congrArg some<|by kernel_rfl)
 f337:=Tryz.func216.trans (congrArg some<|by kernel_rfl)
 f338:=Tryz.func217.trans (congrArg some<|by kernel_rfl)
 t0:=Tryz.underlying0
 a0:=Tryz.isAgg0
 z0:=Tryz.sizeOf0
 v0:=Tryz.zeroValue0
 t2:=Tryz.underlying2
 a2:=Tryz.isAgg2
 z2:=Tryz.sizeOf2
 v2:=Tryz.zeroValue2
 t3:=Tryz.underlying3
 a3:=Tryz.isAgg3
 z3:=Tryz.sizeOf3
 v3:=Tryz.zeroValue3
 t4:=Tryz.underlying4
 a4:=Tryz.isAgg4
 z4:=Tryz.sizeOf4
 v4:=Tryz.zeroValue4
 t5:=Tryz.underlying5
 a5:=Tryz.isAgg5
 z5:=Tryz.sizeOf5
 v5:=Tryz.zeroValue5
 t9:=Tryz.underlying9
 a9:=Tryz.isAgg9
 z9:=Tryz.sizeOf9
 v9:=Tryz.zeroValue9
 t20:=Tryz.underlying20
 a20:=Tryz.isAgg20
 z20:=Tryz.sizeOf20
 v20:=Tryz.zeroValue20
 t37:=Tryz.underlying22
 a37:=Tryz.isAgg22
 z37:=Tryz.sizeOf22
 v37:=Tryz.zeroValue22
 t46:=Tryz.underlying142
 a46:=Tryz.isAgg142
 z46:=Tryz.sizeOf142
 v46:=Tryz.zeroValue142
 t51:=Tryz.underlying174
 a51:=Tryz.isAgg174
 z51:=Tryz.sizeOf174
 v51:=Tryz.zeroValue174
 t53:=Tryz.underlying177
 a53:=Tryz.isAgg177
 z53:=Tryz.sizeOf177
 v53:=Tryz.zeroValue177
 t171:=Tryz.underlying180
 a171:=Tryz.isAgg180
 z171:=Tryz.sizeOf180
 v171:=Tryz.zeroValue180
 t173:=Tryz.underlying183
 a173:=Tryz.isAgg183
 z173:=Tryz.sizeOf183
 v173:=Tryz.zeroValue183
 t212:=Tryz.underlying218
 a212:=Tryz.isAgg218
 z212:=Tryz.sizeOf218
 v212:=Tryz.zeroValue218
 t213:=Tryz.underlying219
 a213:=Tryz.isAgg219
 z213:=Tryz.sizeOf219
 t232:=Tryz.underlying242
 a232:=Tryz.isAgg242
 z232:=Tryz.sizeOf242
 v232:=Tryz.zeroValue242
 t233:=Tryz.underlying243
 a233:=Tryz.isAgg243
 z233:=Tryz.sizeOf243
 v233:=Tryz.zeroValue243
 g17:=by kernel_rfl
 g18:=by kernel_rfl
 g19:=by kernel_rfl}
open Go.RowKit Go.Sort Go.Lib in
def Tryz.strconv_Itoa_small (i:Nat) (a:i<100) (w:World):
  Calls Tryz.prog 48 #[.int .i64 i] w λe w'=>e= .returned (.string ⟨(Lib.decDigits i).toArray⟩)/\w'=w:=Any.strconv_Itoa_small Tryz.arP i a w
def Tryz.arQ:Go.Shelf.Ren:=⟨fun|99=>86|206=>125|n=>n,fun|9=>9|4=>4|3=>3|n=>n,fun|n=>n⟩
def Tryz.arR:Go.Proofs.Lays.n99 Tryz.prog Tryz.arQ:={
 mixed:=by kernel_rfl
 f99:=Tryz.func86.trans (congrArg some<|by kernel_rfl)
 f206:=Tryz.func125.trans (congrArg some<|by kernel_rfl)
 t3:=Tryz.underlying3
 a3:=Tryz.isAgg3
 z3:=Tryz.sizeOf3
 v3:=Tryz.zeroValue3
 t4:=Tryz.underlying4
 a4:=Tryz.isAgg4
 z4:=Tryz.sizeOf4
 v4:=Tryz.zeroValue4
 t9:=Tryz.underlying9
 a9:=Tryz.isAgg9
 z9:=Tryz.sizeOf9
 v9:=Tryz.zeroValue9}
open Go.RowKit Go.Lib in
def Tryz.strings_HasPrefix (s p:ByteArray) (w:World):
  Calls Tryz.prog 86 #[.string s,.string p] w λe w'=>e= .returned (.bool<|Lib.hasPrefix s.data.toList p.data.toList)/\w'=w:=Any.strings_HasPrefix Tryz.arR s p w
def Tryz.arS:Go.Shelf.Ren:=⟨fun|101=>57|208=>88|206=>125|n=>n,fun|9=>9|4=>4|3=>3|n=>n,fun|n=>n⟩
def Tryz.arT:Go.Proofs.Lays.n101 Tryz.prog Tryz.arS:={
 mixed:=by kernel_rfl
 f101:=Tryz.func57.trans (congrArg some<|by kernel_rfl)
 f206:=Tryz.func125.trans (congrArg some<|by kernel_rfl)
 f208:=Tryz.func88.trans (congrArg some<|by kernel_rfl)
 t3:=Tryz.underlying3
 a3:=Tryz.isAgg3
 z3:=Tryz.sizeOf3
 v3:=Tryz.zeroValue3
 t4:=Tryz.underlying4
 a4:=Tryz.isAgg4
 z4:=Tryz.sizeOf4
 v4:=Tryz.zeroValue4
 t9:=Tryz.underlying9
 a9:=Tryz.isAgg9
 z9:=Tryz.sizeOf9
 v9:=Tryz.zeroValue9}
open Go.RowKit Go.Lib in
def Tryz.strings_TrimPrefix (s p:ByteArray) (w:World):
  Calls Tryz.prog 57 #[.string s,.string p] w λe w'=>e= .returned (.string ⟨(Lib.trimPrefix s.data.toList p.data.toList).toArray⟩)/\w'=w:=Any.strings_TrimPrefix Tryz.arT s p w
def Tryz.arU:Go.Shelf.Ren:=⟨fun|212=>109|263=>150|264=>151|n=>n,fun|46=>142|51=>174|146=>175|53=>177|148=>178|n=>n,fun|n=>n⟩
def Tryz.arV:Go.Proofs.Lays.n212 Tryz.prog Tryz.arU:={
 mixed:=by kernel_rfl
 f212:=Tryz.func109.trans (congrArg some<|by kernel_rfl)
 f263:=Tryz.func150.trans (congrArg some<|by kernel_rfl)
 f264:=Tryz.func151.trans (congrArg some<|by kernel_rfl)
 t46:=Tryz.underlying142
 a46:=Tryz.isAgg142
 z46:=Tryz.sizeOf142
 v46:=Tryz.zeroValue142
 t51:=Tryz.underlying174
 a51:=Tryz.isAgg174
 z51:=Tryz.sizeOf174
 v51:=Tryz.zeroValue174
 t53:=Tryz.underlying177
 a53:=Tryz.isAgg177
 z53:=Tryz.sizeOf177
 v53:=Tryz.zeroValue177
 t146:=Tryz.underlying175
 a146:=Tryz.isAgg175
 z146:=Tryz.sizeOf175
 v146:=Tryz.zeroValue175
 t148:=Tryz.underlying178
 a148:=Tryz.isAgg178
 z148:=Tryz.sizeOf178
 v148:=Tryz.zeroValue178}
open Go.RowKit Go.Lib in
def Tryz.bits_Mul (x y:Nat) (a:x<18446744073709551616) (b:y<18446744073709551616) (w:World):
  Calls Tryz.prog 109 #[.int .u64 x,.int .u64 y] w λe w'=>e= .returned (.tuple #[.int .u64 ((x*y/18446744073709551616:Nat):Int),.int .u64 ((x*y%18446744073709551616:Nat):Int)])/\w'=w:=Any.bits_Mul Tryz.arV x y a b w
def Tryz.abP:Go.Shelf.Ren:=⟨fun|166=>72|240=>115|276=>157|n=>n,fun|70=>86|3=>3|0=>0|4=>4|9=>9|20=>20|72=>88|37=>22|164=>185|5=>5|75=>101|80=>63|n=>n,fun|n=>n⟩
def Tryz.abQ:Go.Proofs.Lays.n166 Tryz.prog Tryz.abP:={
 mixed:=by kernel_rfl
 f166:=Tryz.func72.trans (congrArg some<|by kernel_rfl)
 f240:=Tryz.func115.trans (congrArg some<|by kernel_rfl)
 f276:=Tryz.func157.trans (congrArg some<|by kernel_rfl)
 t0:=Tryz.underlying0
 a0:=Tryz.isAgg0
 z0:=Tryz.sizeOf0
 v0:=Tryz.zeroValue0
 t3:=Tryz.underlying3
 a3:=Tryz.isAgg3
 z3:=Tryz.sizeOf3
 v3:=Tryz.zeroValue3
 t4:=Tryz.underlying4
 a4:=Tryz.isAgg4
 z4:=Tryz.sizeOf4
 v4:=Tryz.zeroValue4
 t9:=Tryz.underlying9
 a9:=Tryz.isAgg9
 z9:=Tryz.sizeOf9
 v9:=Tryz.zeroValue9
 t20:=Tryz.underlying20
 a20:=Tryz.isAgg20
 z20:=Tryz.sizeOf20
 v20:=Tryz.zeroValue20
 t37:=Tryz.underlying22
 a37:=Tryz.isAgg22
 z37:=Tryz.sizeOf22
 v37:=Tryz.zeroValue22
 t70:=Tryz.underlying86
 a70:=Tryz.isAgg86
 z70:=Tryz.sizeOf86
 v70:=Tryz.zeroValue86
 t72:=Tryz.underlying88
 a72:=Tryz.isAgg88
 z72:=Tryz.sizeOf88
 v72:=Tryz.zeroValue88
 t164:=Tryz.underlying185
 a164:=Tryz.isAgg185
 z164:=Tryz.sizeOf185
 v164:=Tryz.zeroValue185
 t75:=Tryz.underlying101
 a75:=Tryz.isAgg101
 z75:=Tryz.sizeOf101
 v75:=Tryz.zeroValue101}
def Tryz.abR:Builder.Extra Tryz.prog Tryz.abP:={
 sizeBuilder:=by kernel_rfl
 liesBuilder:=by kernel_rfl
 t5:=Tryz.underlying5
 a5:=Tryz.isAgg5
 z5:=Tryz.sizeOf5
 v5:=Tryz.zeroValue5
 infoByte:=by kernel_rfl
 cellsByte:=by kernel_rfl
 sizeByte:=by kernel_rfl
 neB5:=by decide}
open Go.RowKit in
def Tryz.Builder_WriteString_f (B b:Nat) (bs:List Value) (s:ByteArray) (w:World) (h:Lib.IsBuilderF 88 5 B b bs w) (a:bs.length+s.size<=140737488355328) (c:B<=w.heap.size):
  Calls Tryz.prog 72 #[.pointer<|some ⟨b,0,none⟩,.string s] w λe w'=>e= .returned (.tuple #[.int .i64 s.size,.nilIface])/\(Lib.BuilderAtF 88 5 B b (.pointer<|some ⟨b,0,none⟩) (bs++Lib.strCells s) w'/\Below B w w'):=Any.Builder_WriteString_f Tryz.abQ Tryz.abR B b bs s w h a c
def Tryz.abS:Go.Shelf.Ren:=⟨fun|167=>73|240=>115|276=>157|n=>n,fun|70=>86|3=>3|0=>0|4=>4|9=>9|20=>20|72=>88|37=>22|164=>185|5=>5|75=>101|80=>63|n=>n,fun|n=>n⟩
def Tryz.arW:Go.Proofs.Lays.n167 Tryz.prog Tryz.abS:={
 mixed:=by kernel_rfl
 f167:=Tryz.func73.trans (congrArg some<|by kernel_rfl)
 f240:=Tryz.func115.trans (congrArg some<|by kernel_rfl)
 f276:=Tryz.func157.trans (congrArg some<|by kernel_rfl)
 t0:=Tryz.underlying0
 a0:=Tryz.isAgg0
 z0:=Tryz.sizeOf0
 v0:=Tryz.zeroValue0
 t4:=Tryz.underlying4
 a4:=Tryz.isAgg4
 z4:=Tryz.sizeOf4
 v4:=Tryz.zeroValue4
 t5:=Tryz.underlying5
 a5:=Tryz.isAgg5
 z5:=Tryz.sizeOf5
 v5:=Tryz.zeroValue5
 t9:=Tryz.underlying9
 a9:=Tryz.isAgg9
 z9:=Tryz.sizeOf9
 v9:=Tryz.zeroValue9
 t20:=Tryz.underlying20
 a20:=Tryz.isAgg20
 z20:=Tryz.sizeOf20
 v20:=Tryz.zeroValue20
 t37:=Tryz.underlying22
 a37:=Tryz.isAgg22
 z37:=Tryz.sizeOf22
 v37:=Tryz.zeroValue22
 t70:=Tryz.underlying86
 a70:=Tryz.isAgg86
 z70:=Tryz.sizeOf86
 v70:=Tryz.zeroValue86
 t72:=Tryz.underlying88
 a72:=Tryz.isAgg88
 z72:=Tryz.sizeOf88
 v72:=Tryz.zeroValue88
 t75:=Tryz.underlying101
 a75:=Tryz.isAgg101
 z75:=Tryz.sizeOf101
 v75:=Tryz.zeroValue101
 t164:=Tryz.underlying185
 a164:=Tryz.isAgg185
 z164:=Tryz.sizeOf185
 v164:=Tryz.zeroValue185}
def Tryz.arX:Builder.Extra Tryz.prog Tryz.abS:={
 sizeBuilder:=by kernel_rfl
 liesBuilder:=by kernel_rfl
 t5:=Tryz.underlying5
 a5:=Tryz.isAgg5
 z5:=Tryz.sizeOf5
 v5:=Tryz.zeroValue5
 infoByte:=by kernel_rfl
 cellsByte:=by kernel_rfl
 sizeByte:=by kernel_rfl
 neB5:=by decide}
open Go.RowKit in
def Tryz.Builder_WriteByte_k (B b:Nat) (bs:List Value) (c:Int) (w:World) (h:Lib.IsBuilderF 88 5 B b bs w) (a:bs.length+1<=140737488355328) (d:B<=w.heap.size):
  Calls Tryz.prog 73 #[.pointer<|some ⟨b,0,none⟩,.int .u8 c] w λe w'=>e= .returned .nilIface/\(Lib.BuilderAtF 88 5 B b (.pointer<|some ⟨b,0,none⟩) (bs++[.int .u8 c]) w'/\Below B w w'/\Lib.OthersKept 5 (some b) w w'):=Any.Builder_WriteByte_k Tryz.arW Tryz.arX B b bs c w h a d
open Go.RowKit in
def Tryz.Builder_WriteString_k (B b:Nat) (bs:List Value) (s:ByteArray) (w:World) (h:Lib.IsBuilderF 88 5 B b bs w) (a:bs.length+s.size<=140737488355328) (c:B<=w.heap.size):
  Calls Tryz.prog 72 #[.pointer<|some ⟨b,0,none⟩,.string s] w λe w'=>e= .returned (.tuple #[.int .i64 s.size,.nilIface])/\(Lib.BuilderAtF 88 5 B b (.pointer<|some ⟨b,0,none⟩) (bs++Lib.strCells s) w'/\Below B w w'/\Lib.OthersKept 5 (some b) w w'):=Any.Builder_WriteString_k Tryz.abQ Tryz.abR B b bs s w h a c
end Go.Proofs
namespace Go.Proofs.YtjkkipfboijfaaaGreatDoor
open Go
variable {T:Ty} {f:Ex} {a s:aj} {bs:List Bk} {b c d i n o q:Nat} {L:List Nat} {w w':World} {v:Value} {k t:au} {ps:List dv} {z:Int} {ts:List au}
def arY (s p:aj) (w:World):bC Tryz.prog 86 [str s,str p] w λv w'=>v= .bool (Lib.hasPrefix s p)/\w=w':=
 ⟨se.mk' Tryz.func86 rfl ah0,Calls.mono (Tryz.strings_HasPrefix ⟨s.toArray⟩ ⟨p.toArray⟩ w) λe w' ⟨a,b⟩=>⟨_,a,sm,b.symm⟩⟩
def arZ (s p:aj) (w:World):bC Tryz.prog 57 [str s,str p] w λv w'=>v=str (Lib.trimPrefix s p)/\w=w':=
 ⟨se.mk' Tryz.func57 rfl ahA,Calls.mono (Tryz.strings_TrimPrefix ⟨s.toArray⟩ ⟨p.toArray⟩ w) λe w' ⟨a,b⟩=>⟨_,a,by simp[str],b.symm⟩⟩
def ar0 (w:World) (o:Obj) (a:Addr) (n:Nat) (b:a.block=w.heap.size):ak [] w ((w.alloc o).freeze a n):=by
 unfold World.freeze;split
 .exact ak.alloc [] w o
 .refine⟨rfl,rfl,rfl,?_,λk hk _=>?_⟩
  .show w.heap.size<=Array.size (Array.modify (w.alloc o).heap _ _);rw[Array.size_modify];exact(ak.alloc [] w o).size
  .show(Array.modify (w.alloc o).heap _ _)[k]?=_;rw[Array.getElem?_modify,iN (by rw[b];omega)];exact(ak.alloc [] w o).block k hk sm
def ar1 (w:World) (e:TypeId) (s:ByteArray):ak [] w (Lib.bytesWorld w e s):=
 (ak.drew [] w).trans (ar0 _ _ _ _ rfl)
def ar2 (s:aj) (h:numeral s=some z) (w:World):bC Tryz.prog 59 [str s] w λv w'=>v= .tuple #[.int .i64 z,.nilIface]/\ak [] w w':=
 ⟨se.mk' Tryz.func59 rfl ahC,Calls.mono (Tryz.strconv_Atoi ⟨s.toArray⟩ z (by have:=Vi h;simp[ByteArray.size];omega) (by simpa using ael h) w) λe w' ⟨a,t,b⟩=>⟨_,a,rfl,by rw[b];exact ar1 _ _ _⟩⟩
def FJ (a b c:Int) (w:World):bC Tryz.prog 22 [.int .i64 a,.int .i64 b,.int .i64 c] w λv w'=>v= .bool (decide (b<=a)&&decide (a<=c))/\w=w':=by refine cm [.tmp 6] 15 Tryz.func22 rfl agY rfl rfl ?_;refine W ?_;apply oB 4 10 14 rfl oQ;intro _;exact oQ;intro _;refine W ?_;exact⟨_,rfl,rfl,rfl⟩
def ar3 (c:UInt8) (w:World):bC Tryz.prog 87 [.int .u8 c.toNat] w λv w'=>v= .bool (fy c)/\w=w':=by refine cm [.tmp 2] 33 Tryz.func87 rfl ah1 rfl rfl ?_;refine W ?_;apply oB 3 5 8 rfl oQ;intro _;exact oQ;intro a;refine WZ ?_;apply oP 7 9 16 rfl oQ;intro _;refine WZ ?_;apply oB 3 12 15 rfl oQ;intro _;exact oQ;intro a;exact oQ;intro a;refine WZ ?_;apply oP 3 17 20 rfl oQ;intro _;exact oQ;intro a;refine WZ ?_;apply oP 3 21 24 rfl oQ;intro _;exact oQ;intro a;refine WZ ?_;apply oP 3 25 28 rfl oQ;intro _;exact oQ;intro a;refine WZ ?_;apply oP 3 29 32 rfl oQ;intro _;exact oQ;intro a;refine W ?_;exact⟨_,rfl,congrArg Value.bool (Uv c),rfl⟩
def ar4 (s:aj) (j:s.length<9223372036854775807) (w:World):bC Tryz.prog 58 [str s] w λv w'=>v= .bool (s.all je)/\w=w':=by
 refine cm [.tmp 2] 20 Tryz.func58 rfl ahB rfl rfl ?_;refine W ?_;refine eZ (λk:Nat=>[(0,str s),(5,.int .i64 (s.length:Int)),(6,.int .i64 (k:Int))]) (λk w'=>w'=w/\k<=s.length/\(s.take k).all je=true) (λk=>s.length-k) (0) (⟨rfl,rfl,rfl⟩) (⟨rfl,om,sm⟩) λe _ _ g=>?_;obtain⟨rfl,hk,b⟩:=g;refine W ?_;refine zc rfl (λf=>?_) λf=>?_;have a:e<s.length:=by omega
 refine W ?_;refine ln jm rfl rfl rfl rfl (j4 a)<|WZ ?_;apply oP 5 13 18 rfl oQ;intro _;refine zm<|zm<|ln jm rfl rfl rfl rfl (j4 a) ?_;exact oQ;intro _;refine aX<|zc rfl (λc=>?_) λc=>?_;have d:s.all je=false:=aeo a<|UY c;refine W ?_;exact⟨_,rfl,by rw[d];rfl,rfl⟩;have i:=UZ c;refine W ?_;exact⟨e+1,⟨rfl,rfl,rfl⟩,⟨rfl,om,by rw[O0 a,List.all_append,b];simp only[List.all_cons,i.2.2];rfl⟩,om⟩;have d:s.all je=true:=by rw[List.take_of_length_le om] at b;exact b
 refine W ?_;exact⟨_,rfl,by rw[d];rfl,rfl⟩
def S5 (s:aj) (d:s.length<9223372036854775807) (w:World):bC Tryz.prog 33 [str s] w λv w'=>v= .bool (numeral s).isSome/\w=w':=by
 have c:(fj s).length<=s.length:=by unfold fj;split<;>simp
 refine cm [.tmp 2] 22 Tryz.func33 rfl ahd rfl rfl ?_;refine W ?_;refine aA (arZ _ _ _) ?_;rintro _ _ ⟨rfl,rfl⟩;refine W ?_;rw[aej];apply oP 13 8 21 rfl oQ;intro _;refine W ?_;refine aA (FJ _ _ _ _) ?_;rintro _ _ ⟨rfl,rfl⟩;refine WZ ?_;apply oB 3 12 15 rfl oQ;intro _;refine zm<|aA (ar4 _ om _) ?_;rintro _ _ ⟨rfl,rfl⟩;exact oQ;intro a;refine WZ ?_;apply oB 4 16 20 rfl oQ;intro b;simp at b;refine zm<|ln (i:=0) jm rfl rfl rfl rfl (j4 om) ?_;exact oQ;intro a;exact oQ;intro a;refine W ?_;exact⟨_,rfl,show Value.bool _=Value.bool _ from congrArg _<|aep s,rfl⟩
def KD (s:aj) (h:numeral s=some z) (w:World):bC Tryz.prog 34 [str s] w λv w'=>v= .int .i64 z/\ak [] w w':=by have a:=ak.refl [] w;refine cm [.tmp 2] 11 Tryz.func34 rfl ahe rfl rfl ?_;refine W ?_;refine aA (ar2 s h w) ?_;rintro _ _ ⟨rfl,b⟩;have c:=b.size;have a:=a.ext b;refine W ?_;exact⟨_,rfl,rfl,a⟩
def ar5 (s:aj) (f:s.length<9223372036854775807) (w:World):bC Tryz.prog 132 [str s] w λv w'=>v= .bool (jr s)/\ak [] w w':=by
 have b:=ak.refl [] w;refine cm [.tmp 2] 10 Tryz.func132 rfl afS rfl rfl ?_;refine W ?_;refine aA (S5 s f _) ?_;rintro _ _ ⟨rfl,rfl⟩;refine WZ ?_;apply oA 4 5 9 (ak [] w) rfl oQ;intro e;obtain⟨z,c⟩:=Option.isSome_iff_exists.1 e;have d:z=(numeral s).getD 0:=by rw[c];rfl
 refine zm<|aA (KD s c w) ?_;rintro _ g ⟨rfl,a⟩;have i:=a.size;rw[d];refine aA (FJ _ _ _ _) ?_;rintro _ _ ⟨rfl,rfl⟩;exact oQ;intro _ g a;have b:=b.ext a;refine W ?_;exact⟨_,rfl,show Value.bool _=Value.bool _ from congrArg _<|aen s,b⟩
def abT (s:aj) (i:s.length<9223372036854775807) (w:World):bC Tryz.prog 91 [str s] w λr w'=>r= .bool (pB s)/\w=w':=by refine cm [.tmp 2] 35 Tryz.func91 rfl ah2 rfl rfl ?_;refine W ?_;refine eZ (λk:Nat=>[(0,str s),(6,.int .i64 (s.length:Int)),(7,.int .i64 (k:Int))]) (λk w'=>w'=w/\k<=s.length/\∀j,j<k->DH s j=true) (λk=>s.length-k) (0) (⟨rfl,rfl,rfl⟩) (⟨rfl,om,by intro j g;omega⟩) λd _ _ f=>?_;obtain⟨rfl,hk,c⟩:=f;refine W ?_;refine zc rfl (λe=>?_) λe=>?_;refine W ?_;refine ln jm rfl rfl rfl rfl (j4 om)<|W ?_;apply oB 3 15 18 rfl oQ;intro _;exact oQ;intro b;refine WZ ?_;apply oP 11 19 30 rfl oQ;intro _;refine WZ ?_;apply oB 3 22 25 rfl oQ;intro _;exact oQ;intro b;refine WZ ?_;apply oB 3 26 29 rfl oQ;intro _;exact oQ;intro b;exact oQ;intro b;refine jU rfl rfl rfl<|aX<|zc rfl (λa=>?_) λa=>?_;rw[Le] at a;refine W ?_;exact⟨_,rfl,by rw[UT om a];rfl,rfl⟩;rw[Le] at a;refine W ?_;exact⟨d+1,⟨rfl,rfl,rfl⟩,⟨rfl,om,UW c a⟩,om⟩;refine W ?_;exact⟨_,rfl,by rw[UU λj g=>c j om];rfl,rfl⟩
def FK (t:au) (v:Value) (L:List Nat) (w:World) (e:ba L w v t):bC Tryz.prog 31 [v] w λr w'=>r= .bool (decide<|t.ag.length=0)/\ak [] w w':=by obtain⟨a,n,c,rfl,_,_⟩:=cQ e;have b:=ak.refl [] w;refine cm [.tmp 2] 7 Tryz.func31 rfl ahc rfl rfl ?_;refine zr<|eH rfl λ_ d _ _=>?_;have b:=b.ext d;refine W ?_;exact⟨_,rfl,show Value.bool _=Value.bool _ from congrArg _<|decide_eq_decide.2 om,b⟩
def yu (t:au) (u:WF t) (v:Value) (L:List Nat) (w:World) (p:ba L w v t):bC Tryz.prog 41 [v] w λr w'=>r=str (aT t)/\ak [] w w':=by
 have g:=p;obtain⟨a,n,c,rfl,z,e⟩:=cQ p;have d:=ak.refl [] w;refine cm [.tmp 2] 10 Tryz.func41 rfl ahl rfl rfl ?_;refine zr<|eH rfl λA s l _=>cV s d e g λd e g=>?_;refine W ?_;refine aA (FK t _ L A g) ?_;rintro _ _ ⟨rfl,m⟩;have B:=m.size;refine cV m d e l λd e l=>?_;refine aX<|zc rfl (λo=>?_) λo=>?_;have j:aT t=[]:=BT (.inr<|List.length_eq_zero_iff.1 o);refine W ?_;exact⟨_,rfl,by rw[j];rfl,d⟩;have f:0<t.ag.length:=by omega
 have y:t.aq=[]:=Classical.byContradiction (λh=>by have:=u.leaf h;rw[this] at f;exact absurd f de);have q:=dN f;have j:aT t=(nth t.ag 0).aq:=Iy y q;obtain⟨b,_,_,_,_,rfl,_,_,_⟩:=fE e q;refine WI ?_;refine zi (i:=0) iX cv rfl rfl (by rw[z];exact f)<|W ?_;exact⟨_,rfl,by rw[j];rfl,d⟩
def ar6 (t:au) (j:WF t) (h:aj) (k:Int) (v:Value) (L:List Nat) (w:World) (f:ba L w v t):
  bC Tryz.prog 133 [v,str h,.int .i64 k] w λr w'=>r= .bool (decide ((t.ag.length:Int)=k)&&decide (aT t=h))/\ak [] w w':=by
 have e:=f;obtain⟨a,n,c,rfl,l,_⟩:=cQ f;have b:=ak.refl [] w;subst l;refine cm [.tmp 6] 18 Tryz.func133 rfl afT rfl rfl ?_;refine zr<|eH rfl λg i _ _=>bQ i b e λb e=>?_;refine W ?_;apply oA 5 12 17 (ak [] g) rfl oQ;intro _;refine W ?_;refine aA (yu t j _ L g e) ?_;rintro _ m ⟨rfl,d⟩;have o:=d.size;exact oQ;intro _ m d;have b:=b.ext d;refine W ?_;exact⟨_,rfl,rfl,b⟩
def ar7 (d:List au) (y:d.length<1000000000) (g:au->Bool) (f:FuncId) (e:List Value) (v:Value) (L:List Nat) (w:World) (m:cP L w v d) 
  (C:∀i,i<d.length->∀(u:Value) (w':World),ak [] w w'->ba L w' u (nth d i)->bC Tryz.prog f (u::e) w' λr q=>r= .bool (g<|nth d i)/\ak [] w' q):
  bC Tryz.prog 202 [v,.func (.func f) #[] e.toArray] w λr w'=>r= .int .i64 (DI d g)/\ak [] w w':=by
 obtain⟨a,c,rfl,_⟩:=tW m;have H:(dj d).length=d.length:=iI d;have j:=ak.refl [] w;refine cm [.tmp 4] 19 Tryz.func202 rfl agJ rfl rfl ?_;refine W ?_;refine eZ (λk:Nat=>[(0,.slice a (dj d).length c),(1,.func (.func f) #[] e.toArray),(7,.int .i64 ((dj d).length:Int)),(8,.int .i64 (k:Int))]) (λk w'=>ak [] w w'/\k<=d.length/\∀i,i<k->g (nth d i)=false) (λk=>d.length-k) (0) (⟨rfl,rfl,rfl,rfl⟩) (⟨j,om,by intro i t;omega⟩) λl E _ B=>?_;obtain⟨j,hk,n⟩:=B;have m:=m.ext j;refine W ?_;refine zc rfl (λA=>?_) λA=>?_;have D:=dN (ps:=d) (i:=l) om;obtain⟨b,_,_,_,_,rfl,_,_,z⟩:=fE m D;refine W ?_;refine OX rfl rfl rfl (C l om _ E j<|iF z) ?_;rintro _ _ ⟨rfl,s⟩;have F:=s.size;have j:=j.ext s;refine aX<|zc rfl (λo=>?_) λo=>?_;have p:=aeq om n o;refine W ?_;exact⟨_,rfl,by rw[p];rfl,j⟩;refine W ?_;exact⟨l+1,⟨rfl,rfl,rfl,rfl⟩,⟨j,om,by intro i t;rcases Nat.lt_or_ge i l with h|h;exact n i h;rw[show i=l by omega];exact o⟩,om⟩;have p:=aer λi t=>n i om;refine W ?_;exact⟨_,rfl,by rw[p];rfl,j⟩
def ar8 (b:List au) (c:b.length<1000000000) (g:au->Bool) (f:FuncId) (a:List Value) (v:Value) (L:List Nat) (w:World) (m:cP L w v b) 
  (l:∀i,i<b.length->∀(u:Value) (w':World),ak [] w w'->ba L w' u (nth b i)->bC Tryz.prog f (u::a) w' λr e=>r= .bool (g<|nth b i)/\ak [] w' e):
  bC Tryz.prog 165 [v,.func (.func f) #[] a.toArray] w λr w'=>r= .bool (b.any g)/\ak [] w w':=by
 have d:=ak.refl [] w;refine cm [.tmp 4] 9 Tryz.func165 rfl age rfl rfl ?_;refine W ?_;refine aA (ar7 b c g f a _ L w m l) ?_;rintro _ _ ⟨rfl,j⟩;have n:=j.size;have d:=d.ext j;refine W ?_;exact⟨_,rfl,congrArg Value.bool<|aes b g,d⟩
def abU (m:Nat):Prop:=∀(t:au),t.size<=m->t.size<=100000->WF t->∀(a:Bool) (v:Value) (L:List Nat) (w:World),ba L w v t->
  bC Tryz.prog 131 [v,.bool a,.bool false] w λr w'=>r= .bool (gq a t)/\ak [] w w'
def ar9 {m:Nat} (u:abU m) (t:au) (h:t.size<=m) (s:t.size<=100000) (q:WF t) (b:Bool) (j l:Nat) (v:Value) (L:List Nat) (w:World) (o:ba L w v t) 
  (g:aL w j #[.bool b] 4) (f:aL w l #[.bool false] 4):
  bC Tryz.prog 166 [v,.pointer<|some ⟨j,0,none⟩,.pointer (some ⟨l,0,none⟩)] w λr w'=>r= .bool (!gq b t)/\ak [] w w':=by
 have e:=o;obtain⟨a,n,c,rfl,_,_⟩:=cQ o;have d:=ak.refl [] w;refine cm [.tmp 4] 10 Tryz.func166 rfl agf rfl rfl ?_;refine zr<|eH rfl λy p _ _=>gY p d e g f λd e g f=>?_;refine W ?_;refine aA (u t h s q b _ L y e) ?_;rintro _ _ ⟨rfl,i⟩;have z:=i.size;have d:=d.ext i;refine W ?_;exact⟨_,rfl,rfl,d⟩
end Go.Proofs.YtjkkipfboijfaaaGreatDoor
