/- Lemmas for the law FnCheckFault, no statement of their own: no conditions. -/
import Derived.Test.YtjkkipfboijfaaaGreatDoorJe
set_option maxHeartbeats 4000000
set_option linter.all false
namespace Go.Proofs.YtjkkipfboijfaaaGreatDoor
open Go
variable {t:au} {h s:aj} {ps:List au} {E N b bytes i k n sz:Nat} {G G0 L:List Nat} {w w':World} {g:Option Nat} {u v z:Value} {xs ys:List aj} {e:Ex}
def CL (h:aj):(iK h=true/\im h=false/\h≠iz/\h≠il/\h≠iJ/\fb h=(1,3))\/(iK h=false/\im h=false/\h=iz/\fb h=(1,4))\/
  (iK h=false/\im h=false/\h=il/\fb h=(2,4))\/(iK h=false/\im h=false/\h=iJ/\fb h=(5,6))\/(iK h=false/\im h=true/\h≠iz/\h≠il/\h≠iJ/\fb h=(1,2))\/
  (iK h=false/\im h=false/\h≠iz/\h≠il/\h≠iJ/\fb h=(0,0)):=by
 by_cases hb:iK h=true
 .left;have hk:fb h=(1,3):=by unfold fb;rw[iP hb]
  have g:=hb;simp only[iK,oE,dE] at g;rcases g with(((e|e)|e)|e)|e<;>subst e<;>refine⟨rfl,rfl,by decide,by decide,by decide,hk⟩
 .have d:iK h=false:=by simpa using hb
  right;by_cases a:h=iz
  .left;exact⟨d,by rw[a];rfl,a,by rw[a];rfl⟩
  .right;by_cases b:h=il
   .left;exact⟨d,by rw[b];rfl,b,by rw[b];rfl⟩
   .right;by_cases c:h=iJ
    .left;exact⟨d,by rw[c];rfl,c,by rw[c];rfl⟩
    .right;by_cases f:im h=true
     .left;exact⟨d,f,a,b,c,by unfold fb;rw[iN hb,iN a,iN b,iN c,iP f]⟩
     .right;exact⟨d,by simpa using f,a,b,c,by unfold fb;rw[iN hb,iN a,iN b,iN c,iN f]⟩
theorem MD:fb iz=(1,4)/\fb il=(2,4)/\fb iJ=(5,6)/\im iz=false/\im il=false/\im iJ=false/\iK iz=false/\iK il=false/\iK iJ=false:=by simp_all[fb,im,iK]
def GR (a:List au):Bool:=(decide ((fb (nth a 0).aq).1<=1)||eR (nth a 1).aq)&&
 (decide ((fb (nth a 0).aq).1≠5)||(eR (nth a 2).aq&&decide ((nth a 1).aq≠(nth a 2).aq)&&lv (nth a 3)&&lv (nth a 4)))
theorem akI (g:List au):pE g=(decide ((fb (nth g 0).aq).1≠0)&&decide (g.length=(fb (nth g 0).aq).2)&&GR g&&(g.drop (fb (nth g 0).aq).1).all eD):=by
 unfold GR
 match g with
 |[]=>simp[pE,nth,au.aq,fb,iK,im]
 |[h]=>rcases CL h.aq with⟨h1,h2,h3,h4,h5,hk⟩|⟨h1,h2,h3,hk⟩|⟨h1,h2,h3,hk⟩|⟨h1,h2,h3,hk⟩|⟨h1,h2,h3,h4,h5,hk⟩|⟨h1,h2,h3,h4,h5,hk⟩<;>simp[pE,nth,hk]
 |[h,a]=>rcases CL h.aq with⟨h1,h2,h3,h4,h5,hk⟩|⟨h1,h2,h3,hk⟩|⟨h1,h2,h3,hk⟩|⟨h1,h2,h3,hk⟩|⟨h1,h2,h3,h4,h5,hk⟩|⟨h1,h2,h3,h4,h5,hk⟩<;>simp[pE,nth,hk,h1,h2,h3,MD]
 |[h,a,b]=>rcases CL h.aq with⟨h1,h2,h3,h4,h5,hk⟩|⟨h1,h2,h3,hk⟩|⟨h1,h2,h3,hk⟩|⟨h1,h2,h3,hk⟩|⟨h1,h2,h3,h4,h5,hk⟩|⟨h1,h2,h3,h4,h5,hk⟩<;>simp[pE,nth,hk,h1,h2,h3,MD]
 |[h,a,b,c]=>rcases CL h.aq with⟨h1,h2,h3,h4,h5,hk⟩|⟨h1,h2,h3,hk⟩|⟨h1,h2,h3,hk⟩|⟨h1,h2,h3,hk⟩|⟨h1,h2,h3,h4,h5,hk⟩|⟨h1,h2,h3,h4,h5,hk⟩<;>simp[pE,nth,hk,h1,h2,h3,MD]<;>try simp[*]
 |[h,a,b,c,d]=>rcases CL h.aq with⟨h1,h2,h3,h4,h5,hk⟩|⟨h1,h2,h3,hk⟩|⟨h1,h2,h3,hk⟩|⟨h1,h2,h3,hk⟩|⟨h1,h2,h3,h4,h5,hk⟩|⟨h1,h2,h3,h4,h5,hk⟩<;>simp[pE,nth,hk]
 |[h,a,b,c,d,e]=>rcases CL h.aq with⟨h1,h2,h3,h4,h5,hk⟩|⟨h1,h2,h3,hk⟩|⟨h1,h2,h3,hk⟩|⟨h1,h2,h3,hk⟩|⟨h1,h2,h3,h4,h5,hk⟩|⟨h1,h2,h3,h4,h5,hk⟩<;>simp[pE,nth,hk,h3,MD]<;>try simp[*,Bool.and_assoc]
 |h::a::b::c::d::e::f::r=>rcases CL h.aq with⟨h1,h2,h3,h4,h5,hk⟩|⟨h1,h2,h3,hk⟩|⟨h1,h2,h3,hk⟩|⟨h1,h2,h3,hk⟩|⟨h1,h2,h3,h4,h5,hk⟩|⟨h1,h2,h3,h4,h5,hk⟩<;>simp[pE,nth,hk]<;>omega
theorem Yn (t:au):eD t=if t.aq≠[] then sn t.aq else pE t.ag:=by cases t with|mk a ps=>rw[eD];rfl
def akJ (a:t.aq=[]):eD t=(decide ((fb (nth t.ag 0).aq).1≠0)&&decide (t.ag.length=(fb (nth t.ag 0).aq).2)&&GR t.ag&&(t.ag.drop (fb (nth t.ag 0).aq).1).all eD):=by grind [Yn,akI]
theorem Yo (d:List au):va d=(decide (d.length=3)&&(decide ((nth d 0).aq=[62])||decide ((nth d 0).aq=[42]))&&(qL (nth d 1)&&qL (nth d 2))):=by
 match d with
 |[]=>simp[va]
 |[h]=>simp[va]
 |[h,a]=>simp[va]
 |[h,a,b]=>simp[va,nth]
 |h::a::b::c::r=>simp[va]
/-! ### Texts -/
def AN (s:aj):Bool:=match bU s with
 |some t=>lv t
 |none=>false
theorem akK:AN s=true↔∃T:Ty,T.n<=16/\s=T.text:=by grind [AN,bU,B5,wh,ue,Ty.bU,Good.wf,Ex.wf]
theorem Yp {T:Ty}:AN T.text=decide (T.n<=16):=by grind [akK,Ty.inj]
def Eu (s c:aj):Option (Ty×Ty)->Prop
 |some (a,b)=>∃f,c=lu f/\s=(Ty.op f a b).text/\(Ty.op f a b).n<=16
 |none=>∀f a b,c=lu f->s=(Ty.op f a b).text->¬(Ty.op f a b).n<=16
def ME (t:au):Bool:=eD t&&decide (gJ t<=120)
def ox (s:aj):Bool:=match bU s with
 |some t=>ME t
 |none=>false
theorem akL (a:WF t):ME t=true↔∃e:Ex,t=e.aw/\e.ok/\e.n<=120:=by grind [ME,ajg,Ex.gJ]
theorem zk:ox s=true↔∃e:Ex,bU s=some e.aw/\e.ok/\e.n<=120:=by grind [ox,bU,akL,wh]
def Yq {ps:List au} (i:Nat):kP (ps.take i)<=kP ps:=by
 conv=>rhs;rw[<-List.take_append_drop i ps,Wq]
 omega
def akM (t:au):kP t.ag<=t.size:=by
 cases t with
 |mk a ps=>have:=PV ps;simp only[au.size,au.ag];omega
def Yr:∀(m:Nat) (t:au),t.size<=m->t.size<=10000000->WF t->∀(v:Value) (L:List Nat) (w:World),ba L w v t->
  bC Tryz.prog 137 [v] w λr w'=>r= .int .i64 (gJ t:Int)/\ak [] w w':=by
 intro m;induction m with
 |zero=>intro t h;have:=rB t;omega
 |succ m F=>
  intro t _ _ q v L w E;obtain⟨a,n,c,rfl,D,p⟩:=cQ E;subst D;have N:=mc t;have B:=akM t;have b:=ak.refl [] w;refine cm [.tmp 2] 24 Tryz.func137 rfl afX rfl rfl ?_;refine zr<|eH rfl λ_ o e _=>?_;have b:=b.ext o;refine W ?_;refine zc rfl (λf=>?_) λf=>?_;have g:gJ t=1:=by rw[PU,iP f]
  refine W ?_;exact⟨_,rfl,by rw[g];rfl,b⟩;have g:gJ t=kP t.ag:=by rw[PU,iN f]
  refine W ?_;refine eZ (λk:Nat=>[(1,.pointer<|some ⟨w.heap.size,0,none⟩),(3,.int .i64 ((kP (t.ag.take k):Nat):Int)),(4,.int .i64 (k:Int))]) (λk w'=>ak [] w w'/\aL w' w.heap.size [str t.aq,.slice a t.ag.length c].toArray 93/\k<=t.ag.length) (λk=>t.ag.length-k) (0) (⟨rfl,rfl,rfl⟩) (⟨b,e,om⟩) λd I _ A=>?_;obtain⟨b,e,hk⟩:=A;refine W ?_;refine zc rfl (λz=>?_) λz=>?_;have l:=dN (ps:=t.ag) (i:=d) om;obtain⟨_,_,_,_,_,rfl,H,s,u⟩:=fE p l;subst s;have J:=q.nth (i:=d) om;have O:=kO (t:=t) (i:=d) om;have K:=Wr l;have C:=Yq (ps:=t.ag)<|d+1;refine WL ?_;refine zl jg rfl (e.at rfl)<|zm<|zi cH aK rfl rfl om<|zL eU aK rfl (H.ext b) rfl<|aA (F (nth t.ag d) om om J _ L I<|(iF u).ext b) ?_;rintro _ _ ⟨rfl,j⟩;have M:=j.size;refine bQ j b e λb e=>?_;refine W ?_;exact⟨d+1,⟨rfl,congrArg (Value.int .i64) om,rfl⟩,⟨b,e,om⟩,om⟩;have y:d=t.ag.length:=by omega
  subst y;refine W ?_;exact⟨_,rfl,by rw[g,List.take_length];rfl,b⟩
def akO:∀(m:Nat) (t:au),t.size<=m->t.size<=10000000->WF t->∀(v:Value) (L:List Nat) (w:World),ba L w v t->
  bC Tryz.prog 207 [v] w λr w'=>r= .bool (qL t)/\ak [] w w':=by
 intro m;induction m with
 |zero=>intro t h;have:=rB t;omega
 |succ m B=>
  intro t _ _ q v L w Q;obtain⟨a,n,c,rfl,P,e⟩:=cQ Q;subst P;have d:=ak.refl [] w;have lz:=mc t;refine cm [.tmp 2] 41 Tryz.func207 rfl agO rfl rfl ?_;refine zr<|eH rfl λX I j _=>bQ I d e λd e=>?_;refine W ?_;refine zc rfl (λf=>?_) λf=>?_;have l:qL t=decide (t.aq=[105]):=by rw[Ws,iP f]
  refine W ?_;exact⟨_,rfl,by rw[l];rfl,d⟩;have A:t.aq=[]:=Classical.not_not.1 f;have T:=q.pos A;have l:qL t=va t.ag:=by rw[Ws,iN λh=>h A]
  obtain⟨b,_,_,_,_,rfl,_,_,_⟩:=fE e<|dN T;refine WZ ?_;apply oP 15 13 28 rfl oQ;intro y;refine WZ ?_;apply oB 7 20 27 rfl oQ;intro z;refine WZ ?_;exact oQ;intro D;exact oQ;intro D;refine aX<|zc rfl (λg=>?_) λg=>?_;have R:va t.ag=false:=by rw[Yo];simp only[oE,aE,dE] at g;rcases g with h|⟨f,y⟩;(·rw[dF om];rfl);(·rw[dF f,dF y];simp)
  refine W ?_;exact⟨_,rfl,by rw[l,R];rfl,d⟩;simp only[Bool.or_eq_false_iff,Bool.and_eq_false_iff,decide_eq_false_iff_not,Classical.not_not] at g;obtain⟨_,H⟩:=g;have z:t.ag.length=3:=om;have S:va t.ag=(qL (nth t.ag 1)&&qL (nth t.ag 2)):=by rw[Yo,dT z];rcases H with h|h<;>rw[h]<;>rfl
  obtain⟨_,_,_,_,_,N,J,V,U⟩:=fE e<|dN (i:=1) om;cases N;subst V;obtain⟨_,_,_,_,_,O,p,E,F⟩:=fE e<|dN (i:=2) om;cases O;subst E;have Z:=kO (t:=t) (i:=1) om;have K:=kO (t:=t) (i:=2) om;have M:=iF U;have s:=iF F;refine iH<|zr<|zf jO rfl<|zl jg rfl (j.at rfl)<|zi (i:=1) cH aK rfl rfl om<|zL eU aK rfl J rfl<|aA (B (nth t.ag 1) om om (q.nth om) _ L X M) ?_;rintro _ C ⟨rfl,u⟩;have K:=u.size;refine gY u d j p s λd j p s=>?_;refine WZ ?_;apply oA 6 34 40 (ak [] C) rfl oQ;intro _;refine zf jO rfl<|zl jg rfl (j.at rfl)<|zi (i:=2) cH aK rfl rfl om<|zL eU aK rfl p rfl<|aA (B (nth t.ag 2) om om (q.nth om) _ L C s) ?_;rintro _ Y ⟨rfl,o⟩;have fB:=o.size;exact oQ;intro D Y o;have d:=d.ext o;refine W ?_;exact⟨_,rfl,by rw[l,S];rfl,d⟩
def CN (t:au) (l:t.size<=10000000) (i:WF t) (v:Value) (L:List Nat) (w:World) (j:ba L w v t):
  bC Tryz.prog 174 [v] w λr w'=>r= .bool (lv t)/\ak [] w w':=by
 have d:=j;obtain⟨a,n,c,rfl,_,_⟩:=cQ j;have b:=ak.refl [] w;refine cm [.tmp 2] 10 Tryz.func174 rfl agp rfl rfl ?_;refine zr<|eH rfl λp o f _=>bQ o b d λb d=>?_;refine W ?_;refine aA (akO t.size t (lR _) l i _ L p d) ?_;rintro _ m ⟨rfl,g⟩;have s:=g.size;refine cV g b d f λb d f=>?_;refine WZ ?_;apply oA 4 5 9 (ak [] m) rfl oQ;intro _;refine W ?_;refine aA (Yr t.size t (lR _) l i _ L m d) ?_;rintro _ q ⟨rfl,e⟩;have u:=e.size;exact oQ;intro _ q e;have b:=b.ext e;refine W ?_;exact⟨_,rfl,congrArg Value.bool (show _=lv t from by unfold lv;congr 1;exact decide_eq_decide.2 om),b⟩
def akP (h:yQ s t):((bU s).isSome&&lv t)=AN s:=by
 unfold AN;cases a:bU s with
 |none=>rfl
 |some u=>rw[h.1 u a];rfl
def QX (s:aj) (w:World):bC Tryz.prog 213 [str s] w λr w'=>r= .bool (AN s)/\ak [] w w':=by have a:=ak.refl [] w;refine cm [.tmp 2] 15 Tryz.func213 rfl agV rfl rfl ?_;refine W ?_;refine aA (GF s [] w sm) ?_;rintro _ _ ⟨n,f⟩;have q:=f.size;have a:=a.ext f;obtain⟨t,_,rfl,b,l⟩:=n;obtain⟨_,_,_,rfl,_,_⟩:=cQ b;refine W ?_;refine dw aK rfl rfl rfl λ_ i j _=>?_;have a:=a.grow;have a:=a.ext i;have b:=b.grow;have b:=b.ext i;refine cJ aK rfl rfl rfl j rfl λm g j _=>?_;have a:=a.aB g sx;have b:=b.aB g sx;refine W ?_;apply oA 3 11 14 (ak [] m) rfl oQ;intro o;obtain⟨u,d⟩:=Option.isSome_iff_exists.1 o;have e:=l.1 u d;subst e;refine W ?_;refine aA (CN t (by have:=BU d;omega) (wh d) _ _ m b) ?_;rintro _ p ⟨rfl,c⟩;have v:=c.size;exact oQ;intro _ p c;have a:=a.ext c;refine W ?_;exact⟨_,rfl,congrArg Value.bool<|akP l,a⟩
def vE:Option (Ty×Ty)->aj
 |some p=>p.1.text
 |none=>[]
def AO:Option (Ty×Ty)->aj
 |some p=>p.2.text
 |none=>[]
def QY (o:Option (Ty×Ty)):Value:=.tuple #[str<|vE o,str<|AO o,.bool o.isSome]
def akQ {d:aj} (l:yQ s t) (h:(((!(bU s).isSome||!lv t)||decide (t.aq≠[]))||decide ((nth t.ag 0).aq≠d))=true):Eu s d none:=by
 intro f a b g i j;have c:bU s=some (Ty.op f a b).aw:=by rw[i];exact Ty.bU om
 have e:=l.1 _ c;subst e;have m:lv (Ty.op f a b).aw=true:=(B5<|wh c).2 ⟨_,rfl,j⟩;rw[c,m] at h;simp[Ty.aw,au.aq,au.ag,nth,bL,g] at h
def akR {c:aj} (m:yQ s t) (h:(((!(bU s).isSome||!lv t)||decide (t.aq≠[]))||decide ((nth t.ag 0).aq≠c))=false):∃f A B,t=(Ty.op f A B).aw/\(Ty.op f A B).n<=16/\Eu s c (some (A,B)):=by
 simp only[Bool.or_eq_false_iff,Bool.not_eq_false',decide_eq_false_iff_not,Classical.not_not] at h;obtain⟨⟨⟨d,g⟩,j⟩,l⟩:=h;obtain⟨u,a⟩:=Option.isSome_iff_exists.1 d;have e:=m.1 u a;subst e;obtain⟨T,rfl,b⟩:=(B5<|wh a).1 g;cases T with
 |i=>simp[Ty.aw,bL,au.aq] at j
 |op f A B=>exact⟨f,A,B,rfl,b,f,by rw[<-l];rfl,(ue a).2.2.1.symm,b⟩
def Yt (s E:aj) (w:World):bC Tryz.prog 215 [str s,str E] w λr w'=>(∃o,Eu s E o/\r=QY o)/\ak [] w w':=by have a:=ak.refl [] w;refine cm [.tmp 4,.tmp 5,.tmp 6] 45 Tryz.func215 rfl agW rfl rfl ?_;refine W ?_;refine aA (GF s [] w sm) ?_;rintro _ _ ⟨Q,C⟩;have cK:=C.size;have a:=a.ext C;obtain⟨t,_,rfl,c,n⟩:=Q;obtain⟨_,_,_,rfl,R,b⟩:=cQ c;subst R;refine W ?_;refine dw aK rfl rfl rfl λ_ q m _=>?_;have a:=a.grow;have a:=a.ext q;have c:=c.grow;have c:=c.ext q;have b:=b.grow;have b:=b.ext q;refine cJ aK rfl rfl rfl m rfl λF p m _=>?_;have a:=a.aB p sx;have c:=c.aB p sx;have b:=b.aB p sx;refine W ?_;apply oO 4 16 20 (ak [] F) rfl oQ;intro S;obtain⟨u,d⟩:=Option.isSome_iff_exists.1 S;have e:=n.1 u d;subst e;refine W ?_;refine aA (CN t (by have:=BU d;omega) (wh d) _ _ F c) ?_;rintro _ _ ⟨rfl,L⟩;have gd:=L.size;exact oQ;intro I H M;refine cV M a b m λa b m=>?_;refine WZ ?_;apply oP 4 21 25 rfl oQ;intro _;refine WZ ?_;exact oQ;intro I;refine WZ ?_;apply oP 8 26 34 rfl oQ;intro D;simp only[Bool.or_eq_false_iff,Bool.not_eq_false',decide_eq_false_iff_not,Classical.not_not] at D;obtain⟨⟨Y,_⟩,Z⟩:=D;obtain⟨u,d⟩:=Option.isSome_iff_exists.1 Y;have e:=n.1 u d;subst e;have V:=(wh d).pos Z;obtain⟨_,_,_,_,_,N,_,_,_⟩:=fE b<|dN V;subst N;refine WZ ?_;exact oQ;intro I;refine aX<|zc rfl (λz=>?_) λz=>?_;refine W ?_;exact⟨_,rfl,⟨none,akQ n z,rfl⟩,a⟩;obtain⟨f,A,B,e,_,T⟩:=akR n z;subst e;have Wv:(Ty.op f A B).n=1+A.n+B.n:=rfl;have hA:=Ty.size A;have hB:=Ty.size B;have QZ:=Ty.len A;have Q0:=Ty.len B;have pK:(Ty.op f A B).aw.ag.length=3:=rfl;obtain⟨_,_,_,_,_,O,_,uo,qR⟩:=fE b<|dN (i:=1) om;subst O;subst uo;obtain⟨_,_,_,_,_,P,_,J,K⟩:=fE b<|dN (i:=2) om;cases P;subst J;have v:ba _ H _ A.aw:=iF qR;have y:ba _ H _ B.aw:=iF K;refine WZ ?_;apply dV cY 13 [35,36,37,38,39,40,41,42,43,44,4,5,6] [[],[0],[1],[2],[3],[],[5],[6],[7],[8],[4],[9],[]] (it [_,_,_,_,_,_,_,_,_,_,_,_,_]) de rfl;intro _ aC;refine VA ?_;refine vk aC (λx l g=>?_) ?_;refine zi (i:=1) cH aK rfl rfl ((show 1<3 from om)) ?_;exact pv;refine VA ?_;refine vk aC (λx l g=>?_) ?_;have v:=v.ext g;refine aA (qV A.aw.size A.aw (lR _) A.et.wf om (show A.text.length<=100000000 from om) _ _ l v) ?_;rintro _ w7 ⟨rfl,j⟩;have X:=j.size;exact pk j;refine VA ?_;refine vk aC (λx l g=>?_) ?_;refine zi (i:=2) cH aK rfl rfl ((show 2<3 from om)) ?_;exact pv;refine VA ?_;refine vk aC (λx l g=>?_) ?_;have y:=y.ext g;refine aA (qV B.aw.size B.aw (lR _) B.et.wf om (show B.text.length<=100000000 from om) _ _ l y) ?_;rintro _ w7 ⟨rfl,j⟩;have X:=j.size;exact pk j;exact VZ;intro x _ U;have a:=a.ext U;change OW _ _ _ _ [] (bf (aY _ x _)<|zZ 35 [_,_,_,_,_,_,_,_,_,_]++[(4,_),(5,_),(6,_)]) _;refine W ?_;exact⟨_,rfl,⟨some (A,B),T,rfl⟩,a⟩
def Yu (s:aj) (w:World):bC Tryz.prog 191 [str s] w λr w'=>(∃o,Eu s [62] o/\r=QY o)/\ak [] w w':=by have a:=ak.refl [] w;refine cm [.tmp 2,.tmp 3,.tmp 4] 10 Tryz.func191 rfl agH rfl rfl ?_;refine W ?_;refine aA (Yt s [62] w) ?_;rintro _ _ ⟨c,b⟩;have e:=b.size;have a:=a.ext b;obtain⟨o,d,rfl⟩:=c;refine W ?_;exact⟨_,rfl,⟨o,d,rfl⟩,a⟩
def Yv (s:aj) (w:World):bC Tryz.prog 190 [str s] w λr w'=>(∃o,Eu s [42] o/\r=QY o)/\ak [] w w':=by have a:=ak.refl [] w;refine cm [.tmp 2,.tmp 3,.tmp 4] 10 Tryz.func190 rfl agG rfl rfl ?_;refine W ?_;refine aA (Yt s [42] w) ?_;rintro _ _ ⟨c,b⟩;have e:=b.size;have a:=a.ext b;obtain⟨o,d,rfl⟩:=c;refine W ?_;exact⟨_,rfl,⟨o,d,rfl⟩,a⟩
def Yw {T:Ty} (l:T.n<=16) (f:Bool) {o:Option (Ty×Ty)} (h:Eu T.text (lu f) o):o=match T with| .op g a b=>if g=f then some (a,b) else none| .i=>none:=by
 cases o with
 |some p=>
  obtain⟨g,d,j,_⟩:=h;have e:=Ty.inj j;subst e;have:f=g:=by cases f<;>cases g<;>first|rfl|(simp[lu] at d)
  subst this;simp
 |none=>
  cases T with
  |i=>rfl
  |op g a b=>have c:¬g=f:=λe=>h f a b rfl (by rw[e]) (by rw[<-e];exact l);simp[c]
def Yx {T:Ty} (h:T.n<=16):AN T.text=true:=by rw[Yp];exact dT h
def Yy (f:Bool) (A B:Ty) (p:A.n<=16) (q:B.n<=16) (w:World):
  bC Tryz.prog 187 [.bool f,str A.text,str B.text] w λr w'=>r= .tuple #[str<|if 1+A.n+B.n<=16 then(Ty.op f A B).text else[],.bool (decide<|1+A.n+B.n<=16)]/\ak [] w w':=by
 have a:=ak.refl [] w;have F:=Ty.len A;have E:=Ty.len B;have H:=PT f;have n:(((((([40]++lu f)++[32])++A.text)++[32])++B.text)++[41])=(Ty.op f A B).text:=by rw[Ty.LR];simp
 have u:AN (Ty.op f A B).text=decide (1+A.n+B.n<=16):=Yp;refine cm [.tmp 6,.tmp 7] 34 Tryz.func187 rfl agD rfl rfl ?_;refine W ?_;refine jk (λ_:Unit=>[(0,.bool f),(1,str A.text),(2,str B.text),(8,str<|lu f)]) (λ_ w'=>w'=w) ?_ ?_;refine zc rfl (λd=>?_) λd=>?_;have g:=d;refine W ?_;exact⟨(),⟨rfl,rfl,rfl,by rw[g];rfl⟩,rfl⟩;have g:=d;refine WZ ?_;exact⟨(),⟨rfl,rfl,rfl,by rw[g];rfl⟩,rfl⟩;intro _ z _ s;subst s;refine W ?_;refine aA (QX A.text z) ?_;rintro _ C ⟨o,m⟩;have I:=m.size;have a:=a.ext m;obtain rfl:=o.trans (congrArg Value.bool<|Yx p);refine jU rfl rfl rfl<|zm<|xr (t:=23) (b:=false) rfl<|zm<|aA (QX B.text C) ?_;rintro _ D ⟨y,l⟩;have J:=l.size;have a:=a.ext l;obtain rfl:=y.trans (congrArg Value.bool<|Yx q);refine jU rfl rfl rfl<|zp rfl<|zm<|xr (t:=28) (b:=false) rfl<|zm<|aA (QX _ D) ?_;rintro _ _ ⟨v,j⟩;have K:=j.size;have a:=a.ext j;obtain rfl:=v.trans (congrArg Value.bool<|(congrArg AN n).trans u);refine W ?_;refine zc rfl (λe=>?_) λe=>?_;have c:¬1+A.n+B.n<=16:=by simpa using e
 refine W ?_;have i:Value.tuple #[str<|if 1+A.n+B.n<=16 then(Ty.op f A B).text else[],.bool (decide<|1+A.n+B.n<=16)]=Value.tuple #[str [],.bool false]:=by rw[iN c,dF c]
 exact⟨_,rfl,i.symm,a⟩;have c:1+A.n+B.n<=16:=by simpa using e
 refine W ?_;have i:Value.tuple #[str<|if 1+A.n+B.n<=16 then(Ty.op f A B).text else[],.bool (decide<|1+A.n+B.n<=16)]=Value.tuple #[str<|((((([40]++lu f)++[32])++A.text)++[32])++B.text)++[41],.bool true]:=by rw[iP c,dT c,n]
 exact⟨_,rfl,i.symm,a⟩
theorem Yz (c:UInt8):(decide ((c.toNat:Int)<97)||decide ((122:Int)<(c.toNat:Int)))=!(decide (97<=c)&&decide (c<=122)):=by
 have a:decide (97<=c)=decide ((97:Int)<=c.toNat):=(Ix 97 c).symm;have b:decide (c<=122)=decide ((c.toNat:Int)<=122):=decide_eq_decide.2 (by rw[UInt8.le_iff_toNat_le];have:(122:UInt8).toNat=122:=rfl;omega);rw[a,b,Bool.not_and,<-decide_not,<-decide_not]
 congr 1<;>exact decide_eq_decide.2 om
theorem akS (a:1<=k) (hk:k<s.length) (h:je (s.getD k 0)=false):(s.drop 1).all je=false:=by rw[List.all_eq_false];refine⟨s.getD k 0,?_,by rw[h];simp⟩;rw[List.mem_iff_getElem?];refine⟨k-1,?_⟩;rw[List.getElem?_drop,show 1+(k-1)=k by omega];exact j4 hk
theorem akT (h:∀k,1<=k->k<s.length->je (s.getD k 0)=true):(s.drop 1).all je=true:=by rw[List.all_eq_true];intro c d;obtain⟨i,a⟩:=List.mem_iff_getElem?.1 d;rw[List.getElem?_drop] at a;have b:=(List.getElem?_eq_some_iff.1 a).1;have:=h (1+i) om b;rw[j4 b] at a;cases a;exact this
def xV (s:aj) (w:World):bC Tryz.prog 172 [str s] w λv w'=>v= .bool (eR s)/\w=w':=by
 have o:eR s=(((decide (1<=s.length)&&decide (s.length<=4))&&(decide (97<=s.getD 0 0)&&decide (s.getD 0 0<=122)))&&(s.drop 1).all je):=rfl;have p:∀c:UInt8,(decide ((c.toNat:Int)<48)||decide ((57:Int)<(c.toNat:Int)))=!je c:=by
  intro c;cases d:je c with
  |true=>have:=(DG c).1 d;simp;omega
  |false=>rw[Bool.not_false,oE,dE,dE];apply Classical.byContradiction;intro _;have:=(DG c).2 om;rw[d] at this;cases this
 refine cm [.tmp 2] 34 Tryz.func172 rfl agn rfl rfl ?_;refine W ?_;refine aA (Eb _ _ _ _) ?_;rintro _ _ ⟨rfl,rfl⟩;refine WZ ?_;apply oP 4 8 12 rfl oQ;intro a;have g:1<=s.length/\s.length<=4:=(by simp at a;omega);refine zm<|ln (i:=0) jm rfl rfl rfl rfl (j4 om) ?_;exact oQ;intro q;refine WZ ?_;apply oP 4 13 17 rfl oQ;intro l;have g:1<=s.length/\s.length<=4:=(by simp at l;omega);refine zm<|ln (i:=0) jm rfl rfl rfl rfl (j4 om) ?_;exact oQ;intro q;refine aX<|zc rfl (λb=>?_) λb=>?_;have m:eR s=false:=(by rw[o];rw[Bool.or_assoc,Yz] at b;simp only[oE,Bool.not_eq_true',Bool.and_eq_false_iff,decide_eq_false_iff_not] at b;simp only[Bool.and_eq_false_iff,decide_eq_false_iff_not];left;rcases b with(h|h)|h;(·left;left;omega);(·left;right;omega);(·right;exact h));refine W ?_;exact⟨_,rfl,by rw[m];rfl,rfl⟩;have g:(1<=s.length/\s.length<=4)/\(decide (97<=s.getD 0 0)&&decide (s.getD 0 0<=122))=true:=(by rw[Bool.or_assoc,Yz] at b;simp only[Bool.or_eq_false_iff,Bool.not_eq_false'] at b;refine⟨?_,b.2⟩;have a:=b.1;simp at a;omega);have m:eR s=(s.drop 1).all je:=(by rw[o,g.2,dT g.1.1,dT g.1.2];rfl);refine W ?_;refine eZ (λk:Nat=>[(0,str s),(3,.int .i64 (k:Int))]) (λk w'=>w'=w/\1<=k/\k<=s.length/\∀j,1<=j->j<k->je (s.getD j 0)=true) (λk=>s.length-k) (1) (⟨rfl,rfl⟩) (⟨rfl,om,om,by intro j a l;omega⟩) λe _ _ u=>?_;obtain⟨rfl,r,hk,n⟩:=u;refine W ?_;refine zc rfl (λt=>?_) λt=>?_;refine W ?_;refine ln jm rfl rfl rfl rfl (j4 om)<|WZ ?_;apply oP 5 28 33 rfl oQ;intro _;refine zm<|zm<|ln jm rfl rfl rfl rfl (j4 om) ?_;exact oQ;intro q;refine aX<|zc rfl (λf=>?_) λf=>?_;have d:je (s.getD e 0)=false:=(by rw[p] at f;simpa using f);refine W ?_;exact⟨_,rfl,by rw[m,akS r om d];rfl,rfl⟩;have d:je (s.getD e 0)=true:=(by rw[p] at f;simpa using f);refine W ?_;exact⟨e+1,⟨rfl,rfl⟩,⟨rfl,om,om,by intro j a l;rcases Nat.lt_or_ge j e with h|h;exact n j a h;rw[show j=e by omega];exact d⟩,om⟩;refine W ?_;exact⟨_,rfl,by rw[m,akT λj a l=>n j a om];rfl,rfl⟩
def Q1 (h:aj):Value:=.tuple #[.int .i64 ((fb h).1:Int),.int .i64 ((fb h).2:Int)]
theorem AP {a:Nat} (e:fb h=(a,b)):Q1 h= .tuple #[.int .i64 (a:Int),.int .i64 (b:Int)]:=by unfold Q1;rw[e]
def akU (e:iK h=true):fb h=(1,3):=by unfold fb;rw[iP e]
def akV (e:im h=true):fb h=(1,2):=by unfold im at e;simp only[oE,dE] at e;rcases e with e|e<;>subst e<;>decide
def MF (h:aj) (w:World):bC Tryz.prog 173 [str h] w λv w'=>v=Q1 h/\w=w':=by refine cm [.tmp 2,.tmp 3] 20 Tryz.func173 rfl ago rfl rfl ?_;refine W ?_;refine jk (λ_:Unit=>[(4,str h),(5,.bool<|iK h)]) (λ_ w'=>w'=w) ?_ ?_;refine zc rfl (λb=>?_) λb=>?_;refine WZ ?_;exact⟨(),⟨rfl,congrArg Value.bool<|show decide (h=[43])=iK h from by rw[dT b,show iK h=true from by rw[b];rfl]⟩,rfl⟩;have u:=b;refine W ?_;refine zc rfl (λc=>?_) λc=>?_;refine WZ ?_;exact⟨(),⟨rfl,congrArg Value.bool<|show decide (h=[45])=iK h from by rw[dT c,show iK h=true from by rw[c];rfl]⟩,rfl⟩;have y:=c;refine W ?_;refine zc rfl (λd=>?_) λd=>?_;refine WZ ?_;exact⟨(),⟨rfl,congrArg Value.bool<|show decide (h=[42])=iK h from by rw[dT d,show iK h=true from by rw[d];rfl]⟩,rfl⟩;have z:=d;refine W ?_;refine zc rfl (λe=>?_) λe=>?_;refine WZ ?_;exact⟨(),⟨rfl,congrArg Value.bool<|show decide (h=lS)=iK h from by rw[dT e,show iK h=true from by rw[e];rfl]⟩,rfl⟩;have A:=e;refine W ?_;exact⟨(),⟨rfl,congrArg Value.bool (show decide (h=An)=iK h from by unfold iK;rw[dF u,dF y,dF z,dF A];rfl)⟩,rfl⟩;intro p _ _ n;obtain rfl:=n.symm;refine zc rfl (λi=>?_) λi=>?_;have a:=i;refine W ?_;exact⟨_,rfl,(AP<|akU a).symm,rfl⟩;have o:=i;refine W ?_;refine zc rfl (λj=>?_) λj=>?_;have a:=j;refine W ?_;exact⟨_,rfl,(AP (by rw[a];rfl)).symm,rfl⟩;have q:=j;refine W ?_;refine zc rfl (λl=>?_) λl=>?_;have a:=l;refine W ?_;exact⟨_,rfl,(AP (by rw[a];rfl)).symm,rfl⟩;have r:=l;refine W ?_;refine zc rfl (λm=>?_) λm=>?_;have a:=m;refine W ?_;exact⟨_,rfl,(AP (by rw[a];rfl)).symm,rfl⟩;have s:=m;refine W ?_;refine jk (λ_:Unit=>[(4,str h),(17,.bool<|im h)]) (λ_ w'=>w'=w) ?_ ?_;refine zc rfl (λf=>?_) λf=>?_;refine WZ ?_;exact⟨(),⟨rfl,congrArg Value.bool<|show decide (h=DX)=im h from by rw[dT f,show im h=true from by rw[f];rfl]⟩,rfl⟩;have B:=f;refine W ?_;exact⟨(),⟨rfl,congrArg Value.bool (show decide (h=sX)=im h from by unfold im;rw[dF B];rfl)⟩,rfl⟩;intro p _ _ n;obtain rfl:=n.symm;refine zc rfl (λg=>?_) λg=>?_;have a:=g;refine W ?_;exact⟨_,rfl,(AP<|akV a).symm,rfl⟩;have t:=g;refine W ?_;exact⟨_,rfl,(AP (by unfold fb;rw[iN (by rw[o];simp),iN q,iN r,iN s,iN (by rw[t];simp)])).symm,rfl⟩
def akW (h:aj):((fb h).1=0/\(fb h).2=0)\/((fb h).1=1/\(fb h).2=2)\/((fb h).1=1/\(fb h).2=3)\/((fb h).1=1/\(fb h).2=4)\/((fb h).1=2/\(fb h).2=4)\/((fb h).1=5/\(fb h).2=6):=by
 unfold fb;split
 .simp
 .split
  .simp
  .split
   .simp
   .split
    .simp
    .split<;>simp
theorem akX {f:au->Bool} (h:∀j,k<=j->j<ps.length->f (nth ps j)=true):(ps.drop k).all f=true:=by rw[List.all_eq_true];intro c d;obtain⟨i,a⟩:=List.mem_iff_getElem?.1 d;rw[List.getElem?_drop] at a;have b:=(List.getElem?_eq_some_iff.1 a).1;have:=h (k+i) om b;rw[dN b] at a;cases a;exact this
def akY {j:Nat} {f:au->Bool} (b:k<=j) (a:j<ps.length) (h:f (nth ps j)=false):(ps.drop k).all f=false:=by rw[List.all_eq_false];refine⟨nth ps j,?_,by rw[h];simp⟩;rw[List.mem_iff_getElem?];refine⟨j-k,?_⟩;rw[List.getElem?_drop,show k+(j-k)=j by omega];exact dN a
def Ev (a:List au):Bool:=eR (nth a 2).aq&&decide ((nth a 1).aq≠(nth a 2).aq)&&lv (nth a 3)&&lv (nth a 4)
def akZ (a:List au) (k:Nat):k≠5\/(k=5/\eR (nth a 2).aq=false)\/(k=5/\eR (nth a 2).aq=true/\(nth a 1).aq=(nth a 2).aq)\/(k=5/\eR (nth a 2).aq=true/\(nth a 1).aq≠(nth a 2).aq/\lv (nth a 3)=false)\/
  (k=5/\eR (nth a 2).aq=true/\(nth a 1).aq≠(nth a 2).aq/\lv (nth a 3)=true/\lv (nth a 4)=false)\/(k=5/\eR (nth a 2).aq=true/\(nth a 1).aq≠(nth a 2).aq/\lv (nth a 3)=true/\lv (nth a 4)=true):=by
 by_cases b:k=5
 .right;cases d:eR (nth a 2).aq
  .exact .inl ⟨b,rfl⟩
  .right;by_cases c:(nth a 1).aq=(nth a 2).aq
   .exact .inl ⟨b,rfl,c⟩
   .right;cases e:lv (nth a 3)
    .exact .inl ⟨b,rfl,c,rfl⟩
    .right;cases f:lv (nth a 4)
     .exact .inl ⟨b,rfl,c,rfl,rfl⟩
     .exact .inr ⟨b,rfl,c,rfl,rfl⟩
 .exact .inl b
def ak0:∀(m:Nat) (t:au),t.size<=m->t.size<=10000000->WF t->∀(v:Value) (L:List Nat) (w:World),ba L w v t->
  bC Tryz.prog 136 [v] w λr w'=>r= .bool (eD t)/\ak [] w w':=by
 intro m;induction m with
 |zero=>intro t h;have:=rB t;omega
 |succ m ih=>
  intro t _ _ K v L w hv;obtain⟨a,n,c,rfl,hn,D⟩:=cQ hv;subst hn;have g:=ak.refl [] w;have lz:=mc t;refine cm [.tmp 2] 105 Tryz.func136 rfl afW rfl rfl ?_;refine zr<|eH rfl ?_;intro V aI f _;have g:=g.ext aI;have D:=D.ext aI;refine zA<|aX<|jF<|zr<|zf lr rfl<|zl fA rfl (f.at rfl)<|OH rfl rfl rfl rfl<|aX<|zc rfl (λI=>?_) λI=>?_;have hq:eD t=sn t.aq:=by rw[Yn,iP I]
  refine zr<|zf lr rfl<|zl fA rfl (f.at rfl)<|aA (I9 _ _) ?_;rintro _ _ ⟨rfl,rfl⟩;refine zm<|zx (i:=0) rfl rfl<|zx (i:=1) rfl rfl<|zA<|zA<|aX<|zr<|zm<|zm ?_;apply Dw 4 18 22 [18,19,20,21,22] (λw'=>V=w') rfl;intro o;replace o:=jY o;refine zs<|zs<|zs<|zp rfl<|aX ?_;exact mg rfl rfl;intro o;replace o:=jY o;refine zf lr rfl<|zl fA rfl (f.at rfl)<|aA (xV _ _) ?_;rintro _ _ ⟨rfl,rfl⟩;refine zp rfl<|aX ?_;exact mg rfl rfl;rintro xx _ rfl;refine zA<|aX<|lO ?_;exact⟨_,rfl,by rw[hq];rfl,g⟩;have ha:t.aq=[]:=Classical.not_not.1 I;have lB:=K.pos ha;have hq:=akJ ha;obtain⟨b,off,pa,pn,pc,rfl,eI,_,_⟩:=fE D<|dN lB;have mO:=akW (nth t.ag 0).aq;refine iH<|zr<|zf jO rfl<|zl jg rfl (f.at rfl)<|zi (i:=0) cH aK rfl rfl om<|zf lr rfl<|zl fA rfl (eI 0 _ rfl)<|aA (MF _ _) ?_;rintro _ _ ⟨rfl,rfl⟩;refine zm<|zx (i:=0) rfl rfl<|zx (i:=1) rfl rfl<|zA<|zA<|aX<|jF<|zr<|zm<|yB rfl rfl rfl rfl rfl<|zm ?_;apply Dw 6 34 40 [34,35,36,37,38,39,40] (λw'=>V=w') rfl;intro y;replace y:=jY y;refine zs<|zs<|zs<|zs<|zs<|zp rfl<|aX ?_;exact mg rfl rfl;intro y;replace y:=jY y;refine zf jO rfl<|zl jg rfl (f.at rfl)<|KY cH rfl rfl rfl<|zm<|H0 rfl rfl rfl rfl rfl<|zp rfl<|aX ?_;exact mg rfl rfl;rintro xx _ rfl;refine aX<|zc rfl (λJ=>?_) λJ=>?_;have O:eD t=false:=(by rw[hq];simp only[oE,dE] at J;rcases J with h|h;(·rw[show decide ((fb (nth t.ag 0).aq).1≠0)=false from dF om];rfl);(·rw[show decide (t.ag.length=(fb (nth t.ag 0).aq).2)=false from dF om];simp));refine zr<|zA<|aX<|lO ?_;exact⟨_,rfl,by rw[O];rfl,g⟩;have gP:(fb (nth t.ag 0).aq).1≠0/\t.ag.length=(fb (nth t.ag 0).aq).2:=(by simp only[Bool.or_eq_false_iff,decide_eq_false_iff_not] at J;omega);obtain⟨gP,jc⟩:=gP;have ov:eD t=(GR t.ag&&(t.ag.drop (fb (nth t.ag 0).aq).1).all eD):=by rw[hq,dT gP,dT jc];rfl
  refine iH<|jF<|zr<|zm<|HZ rfl rfl rfl rfl rfl<|zm ?_;apply OM 8 43 51 [43,44,45,46,47,48,49,50,51] (λw'=>V=w') rfl;intro q;replace q:=jY q;have zg:1<t.ag.length:=(by have N:=q;omega);obtain⟨b1,eP,S,U,T,Z,p,uo,qR⟩:=fE D<|dN (i:=1) zg;cases Z;refine zf jO rfl<|zl jg rfl (f.at rfl)<|zi (i:=1) cH aK rfl rfl om<|zf lr rfl<|zl fA rfl (p 0 _ rfl)<|aA (xV _ _) ?_;rintro _ _ ⟨rfl,rfl⟩;refine jU rfl rfl rfl<|zp rfl<|aX ?_;exact mg rfl rfl;intro q;replace q:=jY q;refine zs<|zs<|zs<|zs<|zs<|zs<|zs<|zp rfl<|aX ?_;exact mg rfl rfl;rintro xx _ rfl;refine aX<|zc rfl (λE=>?_) λE=>?_;have O:eD t=false:=(by simp only[aE,dE,Bool.not_eq_true'] at E;rw[ov];unfold GR;rw[show decide ((fb (nth t.ag 0).aq).1<=1)=false from dF om,E.2];rfl);refine zr<|zA<|aX<|lO ?_;exact⟨_,rfl,by rw[O];rfl,g⟩;have kR:(decide ((fb (nth t.ag 0).aq).1<=1)||eR (nth t.ag 1).aq)=true:=(by simp only[Bool.and_eq_false_iff,decide_eq_false_iff_not,Bool.not_eq_false'] at E;rcases E with h|h;(·rw[dT om];rfl);(·rw[h];simp));have jG:eD t=((decide ((fb (nth t.ag 0).aq).1≠5)||Ev t.ag)&&(t.ag.drop (fb (nth t.ag 0).aq).1).all eD):=by rw[ov];unfold GR;rw[kR];rfl
  have X:(fb (nth t.ag 0).aq).1=5->t.ag.length=6:=(by intro h;omega);have z:∀i,i<t.ag.length->∃pa pn pc,gj V b (off+i*2) [str (nth t.ag i).aq,.slice pa pn pc]/\ba L V (.agg #[str (nth t.ag i).aq,.slice pa pn pc]) (nth t.ag i):=(by intro i hi;obtain⟨b1,eP,S,U,T,Z,p,uo,qR⟩:=fE D<|dN hi;cases Z;exact⟨_,_,_,p,iF qR⟩);refine iH<|jF<|jF ?_;refine jk (λ_:Unit=>[(1,.pointer<|some ⟨w.heap.size,0,none⟩),(5,.int .i64 ((fb (nth t.ag 0).aq).1:Int)),(6,.int .i64 ((fb (nth t.ag 0).aq).2:Int)),(91,.bool<|decide ((fb (nth t.ag 0).aq).1=5)&&!Ev t.ag)]) (λ_ w'=>ak [] w w'/\ak [] V w') ?_ ?_;rcases akZ t.ag (fb (nth t.ag 0).aq).1 with C|C|C|C|C|C;apply jN cY 40 (rA 52 40) (rA 52 40) [[],[0],[1],[2],[2,3],[2,4],[2,5],[2,6],[2,7],[2,8],[2,9],[10],[10,11],[10,12],[10,13],[10,14],[10],[10,16],[10,17],[10,18],[10,19],[10,15,20],[2,10,21],[2,22],[23],[23,24],[23,25],[23,26],[23,27],[23,28],[2,23,29],[2,30],[31],[31,32],[31,33],[31,34],[31,35],[31,36],[2,31,37],[2,38]] [It.v _,It.v _,It.v (.bool false),It.v _,It.v _,It.v _,It.v _,It.v _,It.v _,It.v _,It.v _,It.v _,It.v _,It.v _,It.v _,It.v _,It.v _,It.v _,It.v _,It.v _,It.v _,It.v _,It.v _,It.v _,It.v _,It.v _,It.v _,It.v _,It.v _,It.v _,It.v _,It.v _,It.v _,It.v _,It.v _,It.v _,It.v _,It.v _,It.v _,It.v _] de rfl;intro wd aC;refine Cn ?_;refine vk aC (λx e d=>?_) ?_;refine yB rfl rfl rfl rfl rfl ?_;exact pv;refine vc (λx e d=>?_) ?_;refine zm ?_;exact pv (by exact congrArg Value.bool<|dF om);refine vc (λx e d=>?_) ?_;exact cU pv;refine vk aC (λx e d=>?_) ?_;exact cU pv;refine vk aC (λx e d=>?_) ?_;exact cU pv;refine vc (λx e d=>?_) ?_;exact cU pv;refine vk aC (λx e d=>?_) ?_;exact cU pv;refine vk aC (λx e d=>?_) ?_;exact cU pv;refine vc (λx e d=>?_) ?_;exact cU pv;refine vc (λx e d=>?_) ?_;exact cU pv;refine vc (λx e d=>?_) ?_;exact cU pv;refine vk aC (λx e d=>?_) ?_;exact cU pv;refine vk aC (λx e d=>?_) ?_;exact cU pv;refine vc (λx e d=>?_) ?_;exact cU pv;refine vk aC (λx e d=>?_) ?_;exact cU pv;refine vc (λx e d=>?_) ?_;exact cU pv;refine vk aC (λx e d=>?_) ?_;exact cU pv;refine vk aC (λx e d=>?_) ?_;exact cU pv;refine vc (λx e d=>?_) ?_;exact cU pv;refine vk aC (λx e d=>?_) ?_;exact cU pv;refine vk aC (λx e d=>?_) ?_;exact cU pv;refine vc (λx e d=>?_) ?_;exact cU pv;refine vc (λx e d=>?_) ?_;exact cU pv;refine vc (λx e d=>?_) ?_;exact cU pv;refine vk aC (λx e d=>?_) ?_;exact cU pv;refine vk aC (λx e d=>?_) ?_;exact cU pv;refine vk aC (λx e d=>?_) ?_;exact cU pv;refine vk aC (λx e d=>?_) ?_;exact cU pv;refine vc (λx e d=>?_) ?_;exact cU pv;refine vc (λx e d=>?_) ?_;exact cU pv;refine vc (λx e d=>?_) ?_;exact cU pv;refine vc (λx e d=>?_) ?_;exact cU pv;refine vk aC (λx e d=>?_) ?_;exact cU pv;refine vk aC (λx e d=>?_) ?_;exact cU pv;refine vk aC (λx e d=>?_) ?_;exact cU pv;refine vk aC (λx e d=>?_) ?_;exact cU pv;refine vc (λx e d=>?_) ?_;exact cU pv;refine vc (λx e d=>?_) ?_;exact cU pv;refine vc (λ_ _ _=>zp rfl pv) ?_;exact trivial;intro x lX s;have g:=g.ext s;change OW _ _ _ _ [] (bf (aY _ x _)<|zZ 52 [_,_,_,_,_,_,_,_,_,_,_,_,_,_,_,_,_,_,_,_,_,_,_,_,_,_,_,_,_,_,_,_,_,_,_,_,_,_,_,_]) _;refine aX ?_;exact⟨(),⟨rfl,rfl,rfl,congrArg Value.bool (show false=_ from by rw[dF C];rfl)⟩,g,s⟩;obtain⟨q,o⟩:=C;have E:=X q;obtain⟨jw,CM,jx,l,eF⟩:=z 2 om;apply jN cY 40 (rA 52 40) (rA 52 40) [[],[0],[1],[2],[2,3],[2,4],[2,5],[2,6],[2,7],[2,8],[2,9],[10],[10,11],[10,12],[10,13],[10,14],[10],[10,16],[10,17],[10,18],[10,19],[10,15,20],[2,10,21],[2,22],[23],[23,24],[23,25],[23,26],[23,27],[23,28],[2,23,29],[2,30],[31],[31,32],[31,33],[31,34],[31,35],[31,36],[2,31,37],[2,38]] [It.v _,It.v _,It.v<|.bool true,It.v _,It.v _,It.v _,It.v _,It.v _,It.v _,It.v _,It.v<|.bool true,It.v _,It.v _,It.v _,It.v _,It.v _,It.v _,It.v _,It.v _,It.v _,It.v _,It.v _,It.v _,It.v<|.bool true,It.v _,It.v _,It.v _,It.v _,It.v _,It.v _,It.v _,It.v<|.bool true,It.v _,It.v _,It.v _,It.v _,It.v _,It.v _,It.v _,It.v _] de rfl;intro wd aC;refine Cn ?_;refine vk aC (λx e d=>?_) ?_;refine yB rfl rfl rfl rfl rfl ?_;exact pv;refine vc (λx e d=>?_) ?_;refine zm ?_;exact pv (by exact congrArg Value.bool<|dT om);refine vc (λ_ _ _=>zf jO rfl pv) ?_;refine vk aC (λx e d=>?_) ?_;have f:=f.ext d;refine zl jg rfl (f.at rfl) ?_;exact pv;refine vk aC (λx e d=>?_) ?_;refine zi (i:=2) cH aK rfl rfl om ?_;exact pv;refine vc (λ_ _ _=>zf lr rfl pv) ?_;refine vk aC (λx e d=>?_) ?_;have l:=l.ext d;refine zl fA rfl (l 0 _ rfl) ?_;exact pv;refine vk aC (λx e d=>?_) ?_;refine aA (xV _ _) ?_;rintro _ _ ⟨rfl,rfl⟩;exact pv;refine vc (λ_ _ _=>jU rfl rfl rfl pv) ?_;refine vc (λx e d=>?_) ?_;refine zm ?_;exact pv (by exact congrArg Value.bool (show(!eR (nth t.ag 2).aq)=true from by rw[o];rfl));refine vc (λx e d=>?_) ?_;exact cU pv;refine vk aC (λx e d=>?_) ?_;exact cU pv;refine vk aC (λx e d=>?_) ?_;exact cU pv;refine vc (λx e d=>?_) ?_;exact cU pv;refine vk aC (λx e d=>?_) ?_;exact cU pv;refine vc (λx e d=>?_) ?_;exact cU pv;refine vk aC (λx e d=>?_) ?_;exact cU pv;refine vk aC (λx e d=>?_) ?_;exact cU pv;refine vc (λx e d=>?_) ?_;exact cU pv;refine vk aC (λx e d=>?_) ?_;exact cU pv;refine vk aC (λx e d=>?_) ?_;exact cU pv;refine vc (λ_ _ _=>zp rfl pv) ?_;refine vc (λx e d=>?_) ?_;refine zm ?_;exact pv (by exact rfl);refine vc (λx e d=>?_) ?_;exact cU pv;refine vk aC (λx e d=>?_) ?_;exact cU pv;refine vk aC (λx e d=>?_) ?_;exact cU pv;refine vk aC (λx e d=>?_) ?_;exact cU pv;refine vk aC (λx e d=>?_) ?_;exact cU pv;refine vc (λx e d=>?_) ?_;exact cU pv;refine vc (λ_ _ _=>zp rfl pv) ?_;refine vc (λx e d=>?_) ?_;refine zm ?_;exact pv (by exact rfl);refine vc (λx e d=>?_) ?_;exact cU pv;refine vk aC (λx e d=>?_) ?_;exact cU pv;refine vk aC (λx e d=>?_) ?_;exact cU pv;refine vk aC (λx e d=>?_) ?_;exact cU pv;refine vk aC (λx e d=>?_) ?_;exact cU pv;refine vc (λx e d=>?_) ?_;exact cU pv;refine vc (λ_ _ _=>zp rfl pv) ?_;refine vc (λ_ _ _=>zp rfl pv) ?_;exact trivial;intro x lX s;have g:=g.ext s;change OW _ _ _ _ [] (bf (aY _ x _)<|zZ 52 [_,_,_,_,_,_,_,_,_,_,_,_,_,_,_,_,_,_,_,_,_,_,_,_,_,_,_,_,_,_,_,_,_,_,_,_,_,_,_,_]) _;refine aX ?_;exact⟨(),⟨rfl,rfl,rfl,congrArg Value.bool (show true=_ from by unfold Ev;rw[dT q,o];rfl)⟩,g,s⟩;obtain⟨q,o,F⟩:=C;have E:=X q;obtain⟨S,U,T,p,Y⟩:=z 1 om;obtain⟨jw,CM,jx,l,eF⟩:=z 2 om;apply jN cY 40 (rA 52 40) (rA 52 40) [[],[0],[1],[2],[2,3],[2,4],[2,5],[2,6],[2,7],[2,8],[2,9],[10],[10,11],[10,12],[10,13],[10,14],[10],[10,16],[10,17],[10,18],[10,19],[10,15,20],[2,10,21],[2,22],[23],[23,24],[23,25],[23,26],[23,27],[23,28],[2,23,29],[2,30],[31],[31,32],[31,33],[31,34],[31,35],[31,36],[2,31,37],[2,38]] [It.v _,It.v _,It.v<|.bool true,It.v _,It.v _,It.v _,It.v _,It.v _,It.v _,It.v _,It.v<|.bool false,It.v _,It.v _,It.v _,It.v _,It.v _,It.v _,It.v _,It.v _,It.v _,It.v _,It.v _,It.v _,It.v<|.bool true,It.v _,It.v _,It.v _,It.v _,It.v _,It.v _,It.v _,It.v<|.bool true,It.v _,It.v _,It.v _,It.v _,It.v _,It.v _,It.v _,It.v _] de rfl;intro wd aC;refine Cn ?_;refine vk aC (λx e d=>?_) ?_;refine yB rfl rfl rfl rfl rfl ?_;exact pv;refine vc (λx e d=>?_) ?_;refine zm ?_;exact pv (by exact congrArg Value.bool<|dT om);refine vc (λ_ _ _=>zf jO rfl pv) ?_;refine vk aC (λx e d=>?_) ?_;have f:=f.ext d;refine zl jg rfl (f.at rfl) ?_;exact pv;refine vk aC (λx e d=>?_) ?_;refine zi (i:=2) cH aK rfl rfl om ?_;exact pv;refine vc (λ_ _ _=>zf lr rfl pv) ?_;refine vk aC (λx e d=>?_) ?_;have l:=l.ext d;refine zl fA rfl (l 0 _ rfl) ?_;exact pv;refine vk aC (λx e d=>?_) ?_;refine aA (xV _ _) ?_;rintro _ _ ⟨rfl,rfl⟩;exact pv;refine vc (λ_ _ _=>jU rfl rfl rfl pv) ?_;refine vc (λx e d=>?_) ?_;refine zm ?_;exact pv (by exact congrArg Value.bool (show(!eR (nth t.ag 2).aq)=false from by rw[o];rfl));refine vc (λ_ _ _=>zf jO rfl pv) ?_;refine vk aC (λx e d=>?_) ?_;have f:=f.ext d;refine zl jg rfl (f.at rfl) ?_;exact pv;refine vk aC (λx e d=>?_) ?_;refine zi (i:=1) cH aK rfl rfl om ?_;exact pv;refine vc (λ_ _ _=>zf lr rfl pv) ?_;refine vk aC (λx e d=>?_) ?_;have p:=p.ext d;refine zl fA rfl (p 0 _ rfl) ?_;exact pv;refine vc (λ_ _ _=>zf jO rfl pv) ?_;refine vk aC (λx e d=>?_) ?_;have f:=f.ext d;refine zl jg rfl (f.at rfl) ?_;exact pv;refine vk aC (λx e d=>?_) ?_;refine zi (i:=2) cH aK rfl rfl om ?_;exact pv;refine vc (λ_ _ _=>zf lr rfl pv) ?_;refine vk aC (λx e d=>?_) ?_;have l:=l.ext d;refine zl fA rfl (l 0 _ rfl) ?_;exact pv;refine vk aC (λx e d=>?_) ?_;refine BG rfl rfl rfl rfl ?_;exact pv;refine vc (λ_ _ _=>zp rfl pv) ?_;refine vc (λx e d=>?_) ?_;refine zm ?_;exact pv (by exact congrArg Value.bool<|dT F);refine vc (λx e d=>?_) ?_;exact cU pv;refine vk aC (λx e d=>?_) ?_;exact cU pv;refine vk aC (λx e d=>?_) ?_;exact cU pv;refine vk aC (λx e d=>?_) ?_;exact cU pv;refine vk aC (λx e d=>?_) ?_;exact cU pv;refine vc (λx e d=>?_) ?_;exact cU pv;refine vc (λ_ _ _=>zp rfl pv) ?_;refine vc (λx e d=>?_) ?_;refine zm ?_;exact pv (by exact rfl);refine vc (λx e d=>?_) ?_;exact cU pv;refine vk aC (λx e d=>?_) ?_;exact cU pv;refine vk aC (λx e d=>?_) ?_;exact cU pv;refine vk aC (λx e d=>?_) ?_;exact cU pv;refine vk aC (λx e d=>?_) ?_;exact cU pv;refine vc (λx e d=>?_) ?_;exact cU pv;refine vc (λ_ _ _=>zp rfl pv) ?_;refine vc (λ_ _ _=>zp rfl pv) ?_;exact trivial;intro x lX s;have g:=g.ext s;change OW _ _ _ _ [] (bf (aY _ x _)<|zZ 52 [_,_,_,_,_,_,_,_,_,_,_,_,_,_,_,_,_,_,_,_,_,_,_,_,_,_,_,_,_,_,_,_,_,_,_,_,_,_,_,_]) _;refine aX ?_;exact⟨(),⟨rfl,rfl,rfl,congrArg Value.bool (show true=_ from by unfold Ev;rw[dT q,o,dF λh=>h F];rfl)⟩,g,s⟩;obtain⟨q,o,F,y⟩:=C;have E:=X q;obtain⟨S,U,T,p,Y⟩:=z 1 om;obtain⟨jw,CM,jx,l,eF⟩:=z 2 om;obtain⟨ql,YA,nY,A,B⟩:=z 3 om;have M:=kO (t:=t) (i:=3) om;apply jN cY 40 (rA 52 40) (rA 52 40) [[],[0],[1],[2],[2,3],[2,4],[2,5],[2,6],[2,7],[2,8],[2,9],[10],[10,11],[10,12],[10,13],[10,14],[10],[10,16],[10,17],[10,18],[10,19],[10,15,20],[2,10,21],[2,22],[23],[23,24],[23,25],[23,26],[23,27],[23,28],[2,23,29],[2,30],[31],[31,32],[31,33],[31,34],[31,35],[31,36],[2,31,37],[2,38]] [It.v _,It.v _,It.v<|.bool true,It.v _,It.v _,It.v _,It.v _,It.v _,It.v _,It.v _,It.v<|.bool false,It.v _,It.v _,It.v _,It.v _,It.v _,It.v _,It.v _,It.v _,It.v _,It.v _,It.v _,It.v _,It.v<|.bool false,It.v _,It.v _,It.v _,It.v _,It.v _,It.v _,It.v _,It.v<|.bool true,It.v _,It.v _,It.v _,It.v _,It.v _,It.v _,It.v _,It.v _] de rfl;intro wd aC;refine Cn ?_;refine vk aC (λx e d=>?_) ?_;refine yB rfl rfl rfl rfl rfl ?_;exact pv;refine vc (λx e d=>?_) ?_;refine zm ?_;exact pv (by exact congrArg Value.bool<|dT om);refine vc (λ_ _ _=>zf jO rfl pv) ?_;refine vk aC (λx e d=>?_) ?_;have f:=f.ext d;refine zl jg rfl (f.at rfl) ?_;exact pv;refine vk aC (λx e d=>?_) ?_;refine zi (i:=2) cH aK rfl rfl om ?_;exact pv;refine vc (λ_ _ _=>zf lr rfl pv) ?_;refine vk aC (λx e d=>?_) ?_;have l:=l.ext d;refine zl fA rfl (l 0 _ rfl) ?_;exact pv;refine vk aC (λx e d=>?_) ?_;refine aA (xV _ _) ?_;rintro _ _ ⟨rfl,rfl⟩;exact pv;refine vc (λ_ _ _=>jU rfl rfl rfl pv) ?_;refine vc (λx e d=>?_) ?_;refine zm ?_;exact pv (by exact congrArg Value.bool (show(!eR (nth t.ag 2).aq)=false from by rw[o];rfl));refine vc (λ_ _ _=>zf jO rfl pv) ?_;refine vk aC (λx e d=>?_) ?_;have f:=f.ext d;refine zl jg rfl (f.at rfl) ?_;exact pv;refine vk aC (λx e d=>?_) ?_;refine zi (i:=1) cH aK rfl rfl om ?_;exact pv;refine vc (λ_ _ _=>zf lr rfl pv) ?_;refine vk aC (λx e d=>?_) ?_;have p:=p.ext d;refine zl fA rfl (p 0 _ rfl) ?_;exact pv;refine vc (λ_ _ _=>zf jO rfl pv) ?_;refine vk aC (λx e d=>?_) ?_;have f:=f.ext d;refine zl jg rfl (f.at rfl) ?_;exact pv;refine vk aC (λx e d=>?_) ?_;refine zi (i:=2) cH aK rfl rfl om ?_;exact pv;refine vc (λ_ _ _=>zf lr rfl pv) ?_;refine vk aC (λx e d=>?_) ?_;have l:=l.ext d;refine zl fA rfl (l 0 _ rfl) ?_;exact pv;refine vk aC (λx e d=>?_) ?_;refine BG rfl rfl rfl rfl ?_;exact pv;refine vc (λ_ _ _=>zp rfl pv) ?_;refine vc (λx e d=>?_) ?_;refine zm ?_;exact pv (by exact congrArg Value.bool<|dF F);refine vc (λ_ _ _=>zf jO rfl pv) ?_;refine vk aC (λx e d=>?_) ?_;have f:=f.ext d;refine zl jg rfl (f.at rfl) ?_;exact pv;refine vk aC (λx e d=>?_) ?_;refine zi (i:=3) cH aK rfl rfl om ?_;exact pv;refine vk aC (λx e d=>?_) ?_;have A:=A.ext d;refine zL eU aK rfl A rfl ?_;exact pv;refine vk aC (λx e d=>?_) ?_;have B:=B.ext d;refine aA (CN (nth t.ag 3) om (K.nth om) _ _ e B) ?_;rintro v3 w3 ⟨H,u⟩;have M:=u.size;obtain rfl:=H;exact pk u;refine vc (λ_ _ _=>jU rfl rfl rfl pv) ?_;refine vc (λ_ _ _=>zp rfl pv) ?_;refine vc (λx e d=>?_) ?_;refine zm ?_;exact pv (by exact congrArg Value.bool (show(!lv (nth t.ag 3))=true from by rw[y];rfl));refine vc (λx e d=>?_) ?_;exact cU pv;refine vk aC (λx e d=>?_) ?_;exact cU pv;refine vk aC (λx e d=>?_) ?_;exact cU pv;refine vk aC (λx e d=>?_) ?_;exact cU pv;refine vk aC (λx e d=>?_) ?_;exact cU pv;refine vc (λx e d=>?_) ?_;exact cU pv;refine vc (λ_ _ _=>zp rfl pv) ?_;refine vc (λ_ _ _=>zp rfl pv) ?_;exact trivial;intro x lX s;have g:=g.ext s;change OW _ _ _ _ [] (bf (aY _ x _)<|zZ 52 [_,_,_,_,_,_,_,_,_,_,_,_,_,_,_,_,_,_,_,_,_,_,_,_,_,_,_,_,_,_,_,_,_,_,_,_,_,_,_,_]) _;refine aX ?_;exact⟨(),⟨rfl,rfl,rfl,congrArg Value.bool (show true=_ from by unfold Ev;rw[dT q,o,y,Bool.and_false];rfl)⟩,g,s⟩;obtain⟨q,o,F,y,J⟩:=C;have E:=X q;obtain⟨S,U,T,p,Y⟩:=z 1 om;obtain⟨jw,CM,jx,l,eF⟩:=z 2 om;obtain⟨ql,YA,nY,A,B⟩:=z 3 om;obtain⟨Jq,pn4,Jr,P,Q⟩:=z 4 om;have M:=kO (t:=t) (i:=3) om;have gd:=kO (t:=t) (i:=4) om;apply jN cY 40 (rA 52 40) (rA 52 40) [[],[0],[1],[2],[2,3],[2,4],[2,5],[2,6],[2,7],[2,8],[2,9],[10],[10,11],[10,12],[10,13],[10,14],[10],[10,16],[10,17],[10,18],[10,19],[10,15,20],[2,10,21],[2,22],[23],[23,24],[23,25],[23,26],[23,27],[23,28],[2,23,29],[2,30],[31],[31,32],[31,33],[31,34],[31,35],[31,36],[2,31,37],[2,38]] [It.v _,It.v _,It.v<|.bool true,It.v _,It.v _,It.v _,It.v _,It.v _,It.v _,It.v _,It.v<|.bool false,It.v _,It.v _,It.v _,It.v _,It.v _,It.v _,It.v _,It.v _,It.v _,It.v _,It.v _,It.v _,It.v<|.bool false,It.v _,It.v _,It.v _,It.v _,It.v _,It.v _,It.v _,It.v<|.bool false,It.v _,It.v _,It.v _,It.v _,It.v _,It.v _,It.v _,It.v _] de rfl;intro wd aC;refine Cn ?_;refine vk aC (λx e d=>?_) ?_;refine yB rfl rfl rfl rfl rfl ?_;exact pv;refine vc (λx e d=>?_) ?_;refine zm ?_;exact pv (by exact congrArg Value.bool<|dT om);refine vc (λ_ _ _=>zf jO rfl pv) ?_;refine vk aC (λx e d=>?_) ?_;have f:=f.ext d;refine zl jg rfl (f.at rfl) ?_;exact pv;refine vk aC (λx e d=>?_) ?_;refine zi (i:=2) cH aK rfl rfl om ?_;exact pv;refine vc (λ_ _ _=>zf lr rfl pv) ?_;refine vk aC (λx e d=>?_) ?_;have l:=l.ext d;refine zl fA rfl (l 0 _ rfl) ?_;exact pv;refine vk aC (λx e d=>?_) ?_;refine aA (xV _ _) ?_;rintro _ _ ⟨rfl,rfl⟩;exact pv;refine vc (λ_ _ _=>jU rfl rfl rfl pv) ?_;refine vc (λx e d=>?_) ?_;refine zm ?_;exact pv (by exact congrArg Value.bool (show(!eR (nth t.ag 2).aq)=false from by rw[o];rfl));refine vc (λ_ _ _=>zf jO rfl pv) ?_;refine vk aC (λx e d=>?_) ?_;have f:=f.ext d;refine zl jg rfl (f.at rfl) ?_;exact pv;refine vk aC (λx e d=>?_) ?_;refine zi (i:=1) cH aK rfl rfl om ?_;exact pv;refine vc (λ_ _ _=>zf lr rfl pv) ?_;refine vk aC (λx e d=>?_) ?_;have p:=p.ext d;refine zl fA rfl (p 0 _ rfl) ?_;exact pv;refine vc (λ_ _ _=>zf jO rfl pv) ?_;refine vk aC (λx e d=>?_) ?_;have f:=f.ext d;refine zl jg rfl (f.at rfl) ?_;exact pv;refine vk aC (λx e d=>?_) ?_;refine zi (i:=2) cH aK rfl rfl om ?_;exact pv;refine vc (λ_ _ _=>zf lr rfl pv) ?_;refine vk aC (λx e d=>?_) ?_;have l:=l.ext d;refine zl fA rfl (l 0 _ rfl) ?_;exact pv;refine vk aC (λx e d=>?_) ?_;refine BG rfl rfl rfl rfl ?_;exact pv;refine vc (λ_ _ _=>zp rfl pv) ?_;refine vc (λx e d=>?_) ?_;refine zm ?_;exact pv (by exact congrArg Value.bool<|dF F);refine vc (λ_ _ _=>zf jO rfl pv) ?_;refine vk aC (λx e d=>?_) ?_;have f:=f.ext d;refine zl jg rfl (f.at rfl) ?_;exact pv;refine vk aC (λx e d=>?_) ?_;refine zi (i:=3) cH aK rfl rfl om ?_;exact pv;refine vk aC (λx e d=>?_) ?_;have A:=A.ext d;refine zL eU aK rfl A rfl ?_;exact pv;refine vk aC (λx e d=>?_) ?_;have B:=B.ext d;refine aA (CN (nth t.ag 3) om (K.nth om) _ _ e B) ?_;rintro v3 w3 ⟨H,u⟩;have M:=u.size;obtain rfl:=H;exact pk u;refine vc (λ_ _ _=>jU rfl rfl rfl pv) ?_;refine vc (λ_ _ _=>zp rfl pv) ?_;refine vc (λx e d=>?_) ?_;refine zm ?_;exact pv (by exact congrArg Value.bool (show(!lv (nth t.ag 3))=false from by rw[y];rfl));refine vc (λ_ _ _=>zf jO rfl pv) ?_;refine vk aC (λx e d=>?_) ?_;have f:=f.ext d;refine zl jg rfl (f.at rfl) ?_;exact pv;refine vk aC (λx e d=>?_) ?_;refine zi (i:=4) cH aK rfl rfl om ?_;exact pv;refine vk aC (λx e d=>?_) ?_;have P:=P.ext d;refine zL eU aK rfl P rfl ?_;exact pv;refine vk aC (λx e d=>?_) ?_;have Q:=Q.ext d;refine aA (CN (nth t.ag 4) om (K.nth om) _ _ e Q) ?_;rintro v3 w3 ⟨H,u⟩;have M:=u.size;obtain rfl:=H;exact pk u;refine vc (λ_ _ _=>jU rfl rfl rfl pv) ?_;refine vc (λ_ _ _=>zp rfl pv) ?_;refine vc (λ_ _ _=>zp rfl pv) ?_;exact trivial;intro x lX s;have g:=g.ext s;change OW _ _ _ _ [] (bf (aY _ x _)<|zZ 52 [_,_,_,_,_,_,_,_,_,_,_,_,_,_,_,_,_,_,_,_,_,_,_,_,_,_,_,_,_,_,_,_,_,_,_,_,_,_,_,_]) _;refine aX ?_;exact⟨(),⟨rfl,rfl,rfl,congrArg Value.bool (show(!lv (nth t.ag 4))=_ from by unfold Ev;rw[dT q,o,y,J,Bool.and_false];rfl)⟩,g,s⟩;obtain⟨q,o,F,y,J⟩:=C;have E:=X q;obtain⟨S,U,T,p,Y⟩:=z 1 om;obtain⟨jw,CM,jx,l,eF⟩:=z 2 om;obtain⟨ql,YA,nY,A,B⟩:=z 3 om;obtain⟨Jq,pn4,Jr,P,Q⟩:=z 4 om;have M:=kO (t:=t) (i:=3) om;have gd:=kO (t:=t) (i:=4) om;apply jN cY 40 (rA 52 40) (rA 52 40) [[],[0],[1],[2],[2,3],[2,4],[2,5],[2,6],[2,7],[2,8],[2,9],[10],[10,11],[10,12],[10,13],[10,14],[10],[10,16],[10,17],[10,18],[10,19],[10,15,20],[2,10,21],[2,22],[23],[23,24],[23,25],[23,26],[23,27],[23,28],[2,23,29],[2,30],[31],[31,32],[31,33],[31,34],[31,35],[31,36],[2,31,37],[2,38]] [It.v _,It.v _,It.v<|.bool true,It.v _,It.v _,It.v _,It.v _,It.v _,It.v _,It.v _,It.v<|.bool false,It.v _,It.v _,It.v _,It.v _,It.v _,It.v _,It.v _,It.v _,It.v _,It.v _,It.v _,It.v _,It.v<|.bool false,It.v _,It.v _,It.v _,It.v _,It.v _,It.v _,It.v _,It.v<|.bool false,It.v _,It.v _,It.v _,It.v _,It.v _,It.v _,It.v _,It.v _] de rfl;intro wd aC;refine Cn ?_;refine vk aC (λx e d=>?_) ?_;refine yB rfl rfl rfl rfl rfl ?_;exact pv;refine vc (λx e d=>?_) ?_;refine zm ?_;exact pv (by exact congrArg Value.bool<|dT om);refine vc (λ_ _ _=>zf jO rfl pv) ?_;refine vk aC (λx e d=>?_) ?_;have f:=f.ext d;refine zl jg rfl (f.at rfl) ?_;exact pv;refine vk aC (λx e d=>?_) ?_;refine zi (i:=2) cH aK rfl rfl om ?_;exact pv;refine vc (λ_ _ _=>zf lr rfl pv) ?_;refine vk aC (λx e d=>?_) ?_;have l:=l.ext d;refine zl fA rfl (l 0 _ rfl) ?_;exact pv;refine vk aC (λx e d=>?_) ?_;refine aA (xV _ _) ?_;rintro _ _ ⟨rfl,rfl⟩;exact pv;refine vc (λ_ _ _=>jU rfl rfl rfl pv) ?_;refine vc (λx e d=>?_) ?_;refine zm ?_;exact pv (by exact congrArg Value.bool (show(!eR (nth t.ag 2).aq)=false from by rw[o];rfl));refine vc (λ_ _ _=>zf jO rfl pv) ?_;refine vk aC (λx e d=>?_) ?_;have f:=f.ext d;refine zl jg rfl (f.at rfl) ?_;exact pv;refine vk aC (λx e d=>?_) ?_;refine zi (i:=1) cH aK rfl rfl om ?_;exact pv;refine vc (λ_ _ _=>zf lr rfl pv) ?_;refine vk aC (λx e d=>?_) ?_;have p:=p.ext d;refine zl fA rfl (p 0 _ rfl) ?_;exact pv;refine vc (λ_ _ _=>zf jO rfl pv) ?_;refine vk aC (λx e d=>?_) ?_;have f:=f.ext d;refine zl jg rfl (f.at rfl) ?_;exact pv;refine vk aC (λx e d=>?_) ?_;refine zi (i:=2) cH aK rfl rfl om ?_;exact pv;refine vc (λ_ _ _=>zf lr rfl pv) ?_;refine vk aC (λx e d=>?_) ?_;have l:=l.ext d;refine zl fA rfl (l 0 _ rfl) ?_;exact pv;refine vk aC (λx e d=>?_) ?_;refine BG rfl rfl rfl rfl ?_;exact pv;refine vc (λ_ _ _=>zp rfl pv) ?_;refine vc (λx e d=>?_) ?_;refine zm ?_;exact pv (by exact congrArg Value.bool<|dF F);refine vc (λ_ _ _=>zf jO rfl pv) ?_;refine vk aC (λx e d=>?_) ?_;have f:=f.ext d;refine zl jg rfl (f.at rfl) ?_;exact pv;refine vk aC (λx e d=>?_) ?_;refine zi (i:=3) cH aK rfl rfl om ?_;exact pv;refine vk aC (λx e d=>?_) ?_;have A:=A.ext d;refine zL eU aK rfl A rfl ?_;exact pv;refine vk aC (λx e d=>?_) ?_;have B:=B.ext d;refine aA (CN (nth t.ag 3) om (K.nth om) _ _ e B) ?_;rintro v3 w3 ⟨H,u⟩;have M:=u.size;obtain rfl:=H;exact pk u;refine vc (λ_ _ _=>jU rfl rfl rfl pv) ?_;refine vc (λ_ _ _=>zp rfl pv) ?_;refine vc (λx e d=>?_) ?_;refine zm ?_;exact pv (by exact congrArg Value.bool (show(!lv (nth t.ag 3))=false from by rw[y];rfl));refine vc (λ_ _ _=>zf jO rfl pv) ?_;refine vk aC (λx e d=>?_) ?_;have f:=f.ext d;refine zl jg rfl (f.at rfl) ?_;exact pv;refine vk aC (λx e d=>?_) ?_;refine zi (i:=4) cH aK rfl rfl om ?_;exact pv;refine vk aC (λx e d=>?_) ?_;have P:=P.ext d;refine zL eU aK rfl P rfl ?_;exact pv;refine vk aC (λx e d=>?_) ?_;have Q:=Q.ext d;refine aA (CN (nth t.ag 4) om (K.nth om) _ _ e Q) ?_;rintro v3 w3 ⟨H,u⟩;have M:=u.size;obtain rfl:=H;exact pk u;refine vc (λ_ _ _=>jU rfl rfl rfl pv) ?_;refine vc (λ_ _ _=>zp rfl pv) ?_;refine vc (λ_ _ _=>zp rfl pv) ?_;exact trivial;intro x lX s;have g:=g.ext s;change OW _ _ _ _ [] (bf (aY _ x _)<|zZ 52 [_,_,_,_,_,_,_,_,_,_,_,_,_,_,_,_,_,_,_,_,_,_,_,_,_,_,_,_,_,_,_,_,_,_,_,_,_,_,_,_]) _;refine aX ?_;exact⟨(),⟨rfl,rfl,rfl,congrArg Value.bool (show(!lv (nth t.ag 4))=_ from by unfold Ev;rw[dT q,o,y,J,dT F];rfl)⟩,g,s⟩;intro _ oy _ hI;obtain⟨g,aF⟩:=hI;have f:=f.ext aF;have D:=D.ext aF;refine zc rfl (λN=>?_) λN=>?_;have O:eD t=false:=(by simp only[aE,dE,Bool.not_eq_true'] at N;rw[jG,dF λh=>h N.1,N.2];rfl);refine zr<|zA<|aX<|lO ?_;exact⟨_,rfl,by rw[O];rfl,g⟩;have wQ:eD t=(t.ag.drop (fb (nth t.ag 0).aq).1).all eD:=(by simp only[Bool.and_eq_false_iff,decide_eq_false_iff_not,Bool.not_eq_false'] at N;rw[jG];rcases N with h|h;(·rw[dT h];rfl);(·rw[h,Bool.or_true];rfl));refine iH<|jF<|zr<|zm<|zA<|aX<|tV ?_;refine eZ (λk:Nat=>[(1,.pointer<|some ⟨w.heap.size,0,none⟩),(6,.int .i64 ((fb (nth t.ag 0).aq).2:Int)),(7,.int .i64 (k:Int))]) (λk w'=>ak [] w w'/\ak [] oy w'/\(fb (nth t.ag 0).aq).1<=k/\k<=t.ag.length/\∀j,(fb (nth t.ag 0).aq).1<=j->j<k->eD (nth t.ag j)=true) (λk=>t.ag.length-k) ((fb (nth t.ag 0).aq).1) (⟨rfl,rfl,rfl⟩) (⟨g,ak.refl _ _,lR _,om,by intro j I o;omega⟩) ?_;intro R eS _ hI;obtain⟨g,mi,aI,hk,di⟩:=hI;have f:=f.ext mi;have D:=D.ext mi;refine jF<|zr<|zm<|zm<|KZ rfl rfl rfl rfl rfl<|aX<|zc rfl (λh8=>?_) λh8=>?_;have iO:R<t.ag.length:=om;obtain⟨b1,eP,S,U,T,Z,p,uo,qR⟩:=fE D<|dN iO;cases Z
  subst uo;have Y:=iF qR;have cK:=kO iO;refine iH<|jF<|tV<|zr<|zf jO rfl<|zl jg rfl (f.at rfl)<|zm<|zi cH aK rfl rfl iO<|zL eU aK rfl p rfl<|aA (ih (nth t.ag R) om om (K.nth iO) _ _ eS Y) ?_;rintro _ _ ⟨Q2,gC⟩;have ak2:=gC.size;have g:=g.ext gC;have mi:=mi.ext gC;obtain rfl:=Q2;refine jU rfl rfl rfl<|aX<|zc rfl (λh9=>?_) λh9=>?_;have O:eD t=false:=(by rw[wQ];exact akY aI iO<|by simpa using h9);refine zr<|zA<|aX<|lO ?_;exact⟨_,rfl,by rw[O];rfl,g⟩;have hy:eD (nth t.ag R)=true:=(by simpa using h9);refine iH<|mX<|zm<|oU rfl rfl rfl rfl rfl (wrap_i64 _ om om)<|zA<|aX ?_;exact⟨R+1,⟨rfl,rfl,rfl⟩,⟨g,mi,om,om,by intro j I o;rcases Nat.lt_or_ge j R with h|h;exact di j I h;rw[show j=R by omega];exact hy⟩,om⟩;refine BD<|BE rfl<|zr<|zA<|aX<|lO ?_;exact⟨_,rfl,by rw[wQ,akX λj I o=>di j I om];rfl,g⟩
def sD (G:List Nat) (w:World) (T:TypeId) (g:Option Nat):Prop:=∀x∈g.toList,x∈G\/aL w x #[] T
def sD.ext {T:TypeId} (h:sD G w T g) (k:ak [] w w'):sD G w' T g:=λx a=>(h x a).imp id λh=>h.ext k
def sD.sub {T:TypeId} (h:∀x∈g.toList,x∈G):sD G w T g:=λx a=>.inl<|h x a
section
variable {P:Program} {n:Nat} {ops:Array Oper} {K:Env->World->Prop} {rest:List Oper} {e:Env} {w:World} {dst:Option Nat} {ty:TypeId} {pos:String} {after:Array Edge} {g:Option (Nat×Bool)} {x y:Operand}
def GU {G L:List Nat} {t:Nat} {v u:Value} {o:Option Nat} {d c:List aj} (J:P.underlying t=some (.slice E)) (hE:TI P E 1 bytes z) (N:gate ops e g=true) (M:cN n dst=true) (hz:Nat.beq z.cells.size 1=true) (ic:Nat.ble bytes 1000=true) 
  (S:ev e x=v) (T:ev e y=u) (r:dk w E v o d) (A:bo L w u c) (D:gF G w) (H:sD G w E o) (hn:d.length+c.length<100000000)
  (k:∀j f w' p,dk w' E j f (d++c)->sD p w' E f->(∀x∈f.toList,x∈o.toList\/w.heap.size<=x)->(∀x∈G,x∈p)->Fr G w p w'->gF p w'->ak o.toList w w'->OW P n ops K rest (cC e dst j) w'):
  OW P n ops K (⟨dst,.call {callee:=.builtin .append,args:=#[x,y],argTypes:=#[t,t]},ty,pos,after,g⟩::rest) e w:=by
 obtain⟨i,O,X,I,QA⟩:=hE.get;have Z:bytes<=1000:=Nat.le_of_ble_eq_true ic;obtain⟨a2,_,c2,rfl,fN⟩:=eA A;subst fN;by_cases Q:0<c.length
 .obtain⟨ab,l,_,rfl,_,_,hc,Mo,_,_⟩:=Xo A (by rw[oX];exact Q);have aZ:=QB Mo;subst aZ;obtain⟨j,f,w',F,Y,C⟩:=Uf (P:=P) (ty:=ty) J O X I QA (Nat.eq_of_beq_eq_true hz) r ab l c.length c2 (c.map λx=>str x) sm hc (by intro u A;obtain⟨s,_,rfl⟩:=List.mem_map.1 A;rfl) Q (by simp only[maxLen];omega)
   (Nat.le_trans (Nat.mul_le_mul (show d.length+c.length<=100000000 by omega) Z) de)
  have B:dk w' E j f (d++c):=by unfold dk;rw[lA,List.map_append];exact Y
  refine fY N M (v:=j) (w':=w') (by simp only[execOp,resolve,invoke,builtin,Sem.run_bind,Sem.run_pure,Result.andThen_ok,List.map_toArray,List.map_cons,List.map_nil,S,T,F]) ?_;rcases C with⟨rfl,hk,xW⟩|⟨rfl,hk⟩
  .have V:∀q∈f.toList,q∈G:=λq b=>by
    rcases H q b with h|h
    .exact h
    .obtain⟨_,U,hb,R⟩:=xW q (by simpa using b);unfold aL at h hb;rw[h] at hb;cases hb;rw[I] at R;have h9:(d.length+c.length)*1<=0:=R;omega
   exact k j f w' G B (sD.sub V) (λq b=>.inl b) (λq b=>b) (Fr.of hk V) (λq b=>lL (D q b) hk.size) hk
  .have eW:w.heap.size<w'.heap.size:=B.lt _ sm;refine k j _ w' (w.heap.size::G) B (sD.sub sm) (λq b=>.inr (by simp at b;omega)) (λq b=>mK _ b) ⟨hk.any,λq b=>?_⟩ (λq b=>?_) hk.any
   .rcases mC.1 b with h|h
    .right;omega
    .exact .inl h
   .rcases mC.1 b with h|h
    .omega
    .exact lL (D q h) hk.size
 .have ou:c=[]:=List.length_eq_zero_iff.1 om;subst ou;obtain⟨a,cap,rfl⟩:=lF r;have F5:d.length<=cap:=by
   rcases r.2 with⟨h,h2,_⟩|⟨_,_,_,_,h,_,h2,_⟩
   .rw[h2];omega
   .cases h;exact h2
  have F:=Xp (P:=P) (w:=w) (t:=t) (ty:=ty) J O (a:=a) (m:=d.length) (cap:=cap) F5 (a2:=a2) (c2:=c2);refine fY N M (v:=.slice a d.length cap) (w':=w) (by simp only[execOp,resolve,invoke,builtin,Sem.run_bind,Sem.run_pure,Result.andThen_ok,List.map_toArray,List.map_cons,List.map_nil,S,T];have e2:([]:List aj).length=0:=rfl;rw[e2];simp only[F,Sem.run_bind,Sem.run_pure,Result.andThen_ok]) ?_;exact k _ o w G (by rw[List.append_nil];exact r) H (λq b=>.inl b) (λq b=>b) (Fr.refl _ _) D<|ak.refl _ _
def ak4 {T:Nat} (b:P.underlying T=some (.slice E)) (a:TI P E sz bytes z) (d:gate ops e g=true) (c:cN n dst=true) 
  (k:∀w',ak [] w w'->aL w' w.heap.size #[] E->w'.heap.size=w.heap.size+1->OW P n ops K rest (cC e dst<|.slice (some ⟨w.heap.size,0,none⟩) 0 0) w'):
  OW P n ops K (⟨dst,.buildSlice T 0 #[],ty,pos,after,g⟩::rest) e w:=
 fY d c (w':=w.alloc<|.cells #[] E) (by simp[execOp,UM (P:=P) (w:=w) b a]) (k _ (ak.alloc _ _ _) (aL.alloc _ _ _) sm)
def iu {T:Nat} (b:P.underlying T=some (.slice E)) (a:TI P E sz bytes z) (k:∀w',ak [] w w'->aL w' w.heap.size #[] E->w'.heap.size=w.heap.size+1->OW P n ops K rest (cC e dst<|.slice (some ⟨w.heap.size,0,none⟩) 0 0) w') (d:gate ops e g=true:=by rfl) (c:cN n dst=true:=by rfl):OW P n ops K (⟨dst,.buildSlice T 0 #[],ty,pos,after,g⟩::rest) e w:=ak4 b a d c k
end
def LP (N:Nat) (G a:List Nat) (w:World) (T:TypeId) (v:Value) (b:List aj):Prop:=∃g,dk w T v g b/\sD G w T g/\∀x∈g.toList,x∉a/\N<=x
def LP.ext {T:TypeId} (h:LP N G G0 w T v xs) (k:ak [] w w'):LP N G G0 w' T v xs:=let⟨g,a,b,c⟩:=h;⟨g,a.ext k,b.ext k,c⟩
structure Out (N:Nat) (G0:List Nat) (w w':World):Prop where
 ex:∃H,ak H w w'/\∀x∈H,x∉G0/\N<=x
def Out.jh (h:Out N G0 w w') {a:Array Value} {T:TypeId} (hb:aL w b a T) (c:b∈G0):aL w' b a T:=let⟨_,k,d⟩:=h.ex;hb.aG k λe=>(d b e).1 c
def Out.since {a:World} (h:Out a.heap.size G0 w w') (k:ak L a w):ak L a w':=let⟨_,d,b⟩:=h.ex;k.since d λx c=>.inr (b x c).2
section
variable {P:Program} {n:Nat} {ops:Array Oper} {K:Env->World->Prop} {rest:List Oper} {e:Env} {w:World} {dst:Option Nat} {ty:TypeId} {pos:String} {after:Array Edge} {g:Option (Nat×Bool)} {x y:Operand}
def Jt {N:Nat} {b:List Nat} {t f:Nat} {u:Value} {i:List aj} (v:P.underlying t=some (.slice E)) (r:TI P E 1 bytes z) (C:gate ops e g=true) (B:cN n dst=true) (L:Nat.beq z.cells.size 1=true) (M:Nat.ble bytes 1000=true) 
  (I:ev e x= .slice (some ⟨f,0,none⟩) 0 0) (J:ev e y=u) (hb:eJ b w f #[] E) (l:N<=f) (H:bo b w u i) (m:gF b w) (F:i.length<100000000)
  (k:∀d w' c,(∀q∈b,q∈c)->LP N c b w' E d i->Fr b w c w'->gF c w'->Out N b w w'->OW P n ops K rest (cC e dst d) w'):
  OW P n ops K (⟨dst,.call {callee:=.builtin .append,args:=#[x,y],argTypes:=#[t,t]},ty,pos,after,g⟩::rest) e w:=by
 refine GU v r C B L M I J hb.jh.mN H m (λq a=>.inr (by simp at a;subst a;exact hb.jh)) (by simpa using F) ?_;intro d p w' c s A o O bV D hk;refine k d w' c O ⟨p,s,A,λq a=>⟨λj=>?_,?_⟩⟩ bV D ⟨_,hk,λq a=>?_⟩
 .rcases o q a with h|h
  .simp at h;subst h;exact hb.out j
  .have:=m q j;omega
 .rcases o q a with h|h
  .simp at h;subst h;exact l
  .have:=hb.jh.lt;omega
 .simp at a;subst a;exact⟨hb.out,l⟩
def MH {N:Nat} {G a:List Nat} {t:Nat} {v u:Value} {j l:List aj} (C:P.underlying t=some (.slice E)) (B:TI P E 1 bytes z) (F:gate ops e g=true) (D:cN n dst=true) (Q:Nat.beq z.cells.size 1=true) (R:Nat.ble bytes 1000=true) 
  (M:ev e x=v) (O:ev e y=u) (f:LP N G a w E v j) (L:bo G w u l) (p:gF G w) (i:∀q∈a,q∈G) (I:j.length+l.length<100000000)
  (k:∀d w',bo a w' d (j++l)->Fr G w a w'->gF a w'->Out N a w w'->OW P n ops K rest (cC e dst d) w'):
  OW P n ops K (⟨dst,.call {callee:=.builtin .append,args:=#[x,y],argTypes:=#[t,t]},ty,pos,after,g⟩::rest) e w:=by
 obtain⟨_,s,A,o⟩:=f;refine GU C B F D Q R M O s L p A I ?_;intro d _ w' _ f _ J m bV H hk;refine k d w' (f.rep λb hb r=>?_) (bV.to λq c=>.inl (m q<|i q c)) (λq c=>H q (m q<|i q c)) ⟨_,hk,λq c=>o q c⟩;rcases J b (by simp[hb]) with h|h
 .exact(o b h).1 r
 .have:=p b<|i b r;omega
end
def eE.out {a:List Nat} {T:TypeId} {rows:List (List C)} (h:eE G w T sz v g rows) (k:Fr G w a w') (e:Out N G0 w w') (d:∀x∈g.toList,x∈G0):eE a w' T sz v g rows:=
 let⟨_,i,c⟩:=e.ex;h.aG k i λx f b=>(c x b).1<|d x f
section
variable {P:Program} {n:Nat} {ops:Array Oper} {K:Env->World->Prop} {rest:List Oper} {e:Env} {w:World} {pos:String} {ty:TypeId} {after:Array Edge} {g:Option (Nat×Bool)} {x y:Operand}
def vF {G:List Nat} {T:Nat} {v:Value} {vs:List Value} {row:List C} {E a:Nat} {N c:Nat} {rows:List (List C)} {b o i:Nat} (S:TI P T sz bytes z) (A:gate ops e g=true) 
  (I:ev e x= .pointer (some ⟨b,o,none⟩)) (J:ev e y=v) (H:v.cells=vs.toArray) (D:o=i*sz) (u:eE G w E sz (.slice (some ⟨b,0,none⟩) N c) (some a) rows) (t:gF G w) (V:a∈G) (B:i<rows.length) (s:vs.all Value.oneCell'=true)
  (U:row.length=sz) (F:dC G w vs row)
  (k:∀w',ak [a] w w'->w'.heap.size=w.heap.size->eE G w' E sz (.slice (some ⟨b,0,none⟩) N c) (some a) (rows.set i row)->OW P n ops K rest e w'):
  OW P n ops K (⟨none,.store T x y,ty,pos,after,g⟩::rest) e w:=by
 obtain⟨⟨xs,r,R⟩,M⟩:=u;have p:∀q,q∈a::G.filter (λq=>decide<|q≠a)->q∈G\/w.heap.size<=q:=λq d=>by
  rcases mC.1 d with h|h
  .exact .inl<|h▸V
  .exact .inl (List.mem_filter.1 h).1
 have j:Gr 0 (G.filter λq=>decide<|q≠a) w E sz (.slice (some ⟨b,0,none⟩) N c) (some a) rows:=
  ⟨⟨xs,r,R.fresh p,M,λq d Q=>by cases d;simpa using(List.mem_filter.1 Q).2⟩,λ_ _=>Nat.zero_le _,λq d=>t q (List.mem_filter.1 d).1,Nat.zero_le _⟩
 refine Qn S A I J H D j B s U (F.fresh p) ?_;intro w' hk L O;obtain⟨l,f⟩:=O.own;refine k w' hk L ⟨⟨l,f.own,f.rep.fresh λq d=>?_⟩,f.row⟩;by_cases m:q=a
 .exact .inl<|by simp[m]
 .exact .inl<|by simp[m,d]
end
theorem ak6 (h:yQ s t):(((bU s).isSome&&eD t)&&decide ((gJ t:Int)<=120))=ox s:=by
 unfold ox ME;cases a:bU s with
 |none=>rfl
 |some u=>rw[h.1 u a];exact congrArg (λb=>eD u&&b)<|decide_eq_decide.2 om
def Ju (s:aj) (L:List Nat) (w:World) (S:∀x∈L,x<w.heap.size):
  bC Tryz.prog 101 [str s] w λv w'=>(∃t D,v= .tuple #[D,.bool (ox s)]/\ba L w' D t/\yQ s t)/\ak [] w w':=by
 have i:=ak.refl [] w;refine lq [.cell 2 93,.tmp 3] 22 Tryz.func101 rfl afv rfl rfl rfl ?_;refine zr<|dw aK rfl rfl rfl λY P n _=>?_;have i:=i.grow;have i:=i.ext P;refine W ?_;refine aA (GF s (w.heap.size::L) Y (by intro x y;rcases mC.1 y with rfl|y;omega;have:=S x y;omega)) ?_;rintro _ _ ⟨R,F⟩;have dI:=F.size;refine bQ F i n λi n=>?_;obtain⟨t,D,rfl,g,C⟩:=R;obtain⟨l,_,m,rfl,Q,_⟩:=cQ g;subst Q;have z:∀h:(bU s).isSome=true,WF t/\t.size<=12001:=λh=>Ge C.1 h;refine W ?_;refine dw aK rfl rfl rfl λ_ B r _=>?_;have i:=i.grow;have i:=i.ext B;have n:=n.grow;have n:=n.ext B;have g:=g.grow;have g:=g.ext B;refine cJ aK rfl rfl rfl r rfl λ_ A r _=>?_;have i:=i.aB A sx;have n:=n.aB A sx;have g:=g.aB A sx;refine W ?_;have f:=(Dx w.heap.size ([str t.aq,.slice l t.ag.length m]) 93);apply oZ cY f 13 (rA 11 11++[100011,3]) (rA 11 11++[100011,3]) [[],[],[1],[2],[2,3],[2,4],[5],[6],[6,7],[6,8],[6,9],[0],[10]] [.v _,.v _,.v _,.p λv _=>((bU s).isSome)=true->v=(.agg #[str t.aq,.slice l t.ag.length m]),.p λv _=>((bU s).isSome)=true->v=(.bool<|eD t),.v (.bool<|(bU s).isSome&&eD t),.v (.bool<|(bU s).isSome&&eD t),.p λv _=>((bU s).isSome&&eD t)=true->v=(.agg #[str t.aq,.slice l t.ag.length m]),.p λv _=>((bU s).isSome&&eD t)=true->v=(.int .i64 (gJ t:Int)),.p λv _=>((bU s).isSome&&eD t)=true->v=(.bool (decide<|(gJ t:Int)<=120)),.v (.bool<|((bU s).isSome&&eD t)&&decide ((gJ t:Int)<=120)),.p λ_ Z=>aL Z w.heap.size ([str t.aq,.slice l t.ag.length m]).toArray 93,.v (.bool<|((bU s).isSome&&eD t)&&decide ((gJ t:Int)<=120))] de (by exact(bF (bF<|bF (oh<|oh (bF<|bF (oh<|oh (oh<|bF (Dy<|bF trivial))))))));intro _ aC;refine gQ f aC (λx o d=>?_) ?_;have r:=r.aB d.1 sx;refine WZ ?_;exact bR f;refine cD (λ_ _ _=>WZ<|bR f) ?_;refine cD (λ_ _ _=>WZ<|bR f) ?_;refine eN ?_ ?_;intro x c o e d j a;have d2:c 2=(.bool<|(bU s).isSome):=j;replace d:=f.trans aC d;have r:=r.aB d.1 sx;rcases bE ((bU s).isSome) with b|b;rw[b] at d2;replace a:e=bf (aY _ x _) [(13,c 2)]:=a;rw[d2] at a;subst a;refine W ?_;exact dn (f.refl _)<|show((bU s).isSome)=true->_=((.agg #[str t.aq,.slice l t.ag.length m]):Value) from λ_=>rfl;rw[b] at d2;replace a:e=bf (aY _ x _) [(13,c 2)]:=a;rw[d2] at a;subst a;refine W ?_;exact dn (f.refl _) (show((bU s).isSome)=true->_=(_:Value) from λq=>nomatch b.symm.trans q);refine eN ?_ ?_;intro x c o e d j a;have p:(c 2=(.bool<|(bU s).isSome))/\(((bU s).isSome)=true->c 3=(.agg #[str t.aq,.slice l t.ag.length m])):=j;obtain⟨d2,d3⟩:=p;replace d:=f.trans aC d;have g:=g.aB d.1 sx;rcases bE ((bU s).isSome) with b|b;rw[b] at d2;replace d3:=d3 b;replace a:e=bf (aY _ x _) [(13,c 2),(14,c 3)]:=a;rw[d2,d3] at a;subst a;refine aA (ak0 t.size t (lR _) (by have:=(z b).2;omega) (z b).1 _ _ o g) ?_;rintro _ O ⟨rfl,u⟩;have U:=u.size;refine W ?_;exact dn (f.of u)<|show((bU s).isSome)=true->_=((.bool<|eD t):Value) from λ_=>rfl;rw[b] at d2;replace a:e=bf (aY _ x _) [(13,c 2),(14,c 3)]:=a;rw[d2] at a;subst a;refine W ?_;exact dn (f.refl _) (show((bU s).isSome)=true->_=(_:Value) from λq=>nomatch b.symm.trans q);refine eN ?_ ?_;intro x c o e d j a;have p:(c 2=(.bool<|(bU s).isSome))/\(((bU s).isSome)=true->c 4=(.bool<|eD t)):=j;obtain⟨d2,d4⟩:=p;replace d:=f.trans aC d;rcases bE ((bU s).isSome) with b|b;rw[b] at d2;replace d4:=d4 b;replace a:e=bf (aY _ x _) [(13,c 2),(15,c 4)]:=a;rw[d2,d4] at a;subst a;refine W ?_;exact dn (f.refl _) (by first|rfl|(rw[b];rfl));rw[b] at d2;replace a:e=bf (aY _ x _) [(13,c 2),(15,c 4)]:=a;rw[d2] at a;subst a;refine W ?_;exact dn (f.refl _) (by first|rfl|(rw[b];rfl));refine cD (λ_ _ _=>WZ<|bR f) ?_;refine eN ?_ ?_;intro x c o e d j a;have d6:c 6=(.bool<|(bU s).isSome&&eD t):=j;replace d:=f.trans aC d;have r:=r.aB d.1 sx;rcases bE ((bU s).isSome&&eD t) with b|b;rw[b] at d6;replace a:e=bf (aY _ x _) [(17,c 6)]:=a;rw[d6] at a;subst a;refine W ?_;exact dn (f.refl _)<|show((bU s).isSome&&eD t)=true->_=((.agg #[str t.aq,.slice l t.ag.length m]):Value) from λ_=>rfl;rw[b] at d6;replace a:e=bf (aY _ x _) [(17,c 6)]:=a;rw[d6] at a;subst a;refine W ?_;exact dn (f.refl _) (show((bU s).isSome&&eD t)=true->_=(_:Value) from λq=>nomatch b.symm.trans q);refine eN ?_ ?_;intro x c o e d j a;have p:(c 6=(.bool<|(bU s).isSome&&eD t))/\(((bU s).isSome&&eD t)=true->c 7=(.agg #[str t.aq,.slice l t.ag.length m])):=j;obtain⟨d6,d7⟩:=p;replace d:=f.trans aC d;have g:=g.aB d.1 sx;rcases bE ((bU s).isSome&&eD t) with b|b;rw[b] at d6;replace d7:=d7 b;replace a:e=bf (aY _ x _) [(17,c 6),(18,c 7)]:=a;rw[d6,d7] at a;subst a;refine aA (Yr t.size t (lR _) (by have:=(z ((aE _ _).mp b).1).2;omega) (z ((aE _ _).mp b).1).1 _ _ o g) ?_;rintro _ O ⟨rfl,u⟩;have U:=u.size;refine W ?_;exact dn (f.of u)<|show((bU s).isSome&&eD t)=true->_=((.int .i64 (gJ t:Int)):Value) from λ_=>rfl;rw[b] at d6;replace a:e=bf (aY _ x _) [(17,c 6),(18,c 7)]:=a;rw[d6] at a;subst a;refine W ?_;exact dn (f.refl _) (show((bU s).isSome&&eD t)=true->_=(_:Value) from λq=>nomatch b.symm.trans q);refine eN ?_ ?_;intro x c o e d j a;have p:(c 6=(.bool<|(bU s).isSome&&eD t))/\(((bU s).isSome&&eD t)=true->c 8=(.int .i64 (gJ t:Int))):=j;obtain⟨d6,d8⟩:=p;replace d:=f.trans aC d;rcases bE ((bU s).isSome&&eD t) with b|b;rw[b] at d6;replace d8:=d8 b;replace a:e=bf (aY _ x _) [(17,c 6),(19,c 8)]:=a;rw[d6,d8] at a;subst a;refine W ?_;exact dn (f.refl _)<|show((bU s).isSome&&eD t)=true->_=((.bool (decide<|(gJ t:Int)<=120)):Value) from λ_=>rfl;rw[b] at d6;replace a:e=bf (aY _ x _) [(17,c 6),(19,c 8)]:=a;rw[d6] at a;subst a;refine W ?_;exact dn (f.refl _) (show((bU s).isSome&&eD t)=true->_=(_:Value) from λq=>nomatch b.symm.trans q);refine eN ?_ ?_;intro x c o e d j a;have p:(c 6=(.bool<|(bU s).isSome&&eD t))/\(((bU s).isSome&&eD t)=true->c 9=(.bool (decide<|(gJ t:Int)<=120))):=j;obtain⟨d6,d9⟩:=p;replace d:=f.trans aC d;rcases bE ((bU s).isSome&&eD t) with b|b;rw[b] at d6;replace d9:=d9 b;replace a:e=bf (aY _ x _) [(17,c 6),(20,c 9)]:=a;rw[d6,d9] at a;subst a;refine W ?_;exact dn (f.refl _) (by first|rfl|(rw[b];rfl));rw[b] at d6;replace a:e=bf (aY _ x _) [(17,c 6),(20,c 9)]:=a;rw[d6] at a;subst a;refine W ?_;exact dn (f.refl _) (by first|rfl|(rw[b];rfl));refine eN ?_ ?_;intro x c o e d j a;have d0:c 0=(.agg #[str t.aq,.slice l t.ag.length m]):=j;replace d:=f.trans aC d;obtain⟨_,V,X⟩:=d.2.2 ⟨_,(by rfl),n⟩;replace a:e=bf (aY _ x _) [(11,c 0)]:=a;rw[d0] at a;subst a;refine cJ aK rfl rfl rfl X (by rw[V];rfl) λO u hb _=>W ?_;exact dn ⟨u,λ_=>hb,λ_=>⟨_,rfl,hb⟩⟩ hb;refine cD (λ_ _ _=>WZ<|bR f) ?_;exact trivial;intro x T H;intro I d3;intro J d4;intro K d7;intro M d8;intro N d9;intro E d11;replace d3:((bU s).isSome)=true->I=(.agg #[str t.aq,.slice l t.ag.length m]):=d3;replace d4:((bU s).isSome)=true->J=(.bool<|eD t):=d4;replace d7:((bU s).isSome&&eD t)=true->K=(.agg #[str t.aq,.slice l t.ag.length m]):=d7;replace d8:((bU s).isSome&&eD t)=true->M=(.int .i64 (gJ t:Int)):=d8;replace d9:((bU s).isSome&&eD t)=true->N=(.bool (decide<|(gJ t:Int)<=120)):=d9;replace d11:aL T w.heap.size ([str t.aq,.slice l t.ag.length m]).toArray 93:=d11;have i:=i.aB H.1 sx;have g:=g.aB H.1 sx;have n:=d11;change OW _ _ _ _ [] (bf (aY _ x _)<|zZ 11 [_,_,_,I,J,_,_,K,M,N,_]++[(100011,E),(3,_)]) _;refine W ?_;exact⟨[_,_],⟨gk eU aK rfl n rfl,rfl⟩,⟨t,_,by rw[ak6 C];rfl,g.dX λx y=>by simp[y],C⟩,i⟩
def Q4 (s:aj) (w:World):bC Tryz.prog 106 [str s] w λr w'=>r= .bool (ox s)/\ak [] w w':=by have a:=ak.refl [] w;refine cm [.tmp 2] 11 Tryz.func106 rfl afz rfl rfl ?_;refine W ?_;refine aA (Ju s [] w sm) ?_;rintro _ _ ⟨f,b⟩;have i:=b.size;have a:=a.ext b;obtain⟨t,_,rfl,g,_⟩:=f;obtain⟨_,_,_,rfl,_,_⟩:=cQ g;refine W ?_;refine dw aK rfl rfl rfl λ_ e c _=>?_;have a:=a.grow;have a:=a.ext e;refine cJ aK rfl rfl rfl c rfl λ_ d c _=>?_;have a:=a.aB d sx;refine W ?_;exact⟨_,rfl,rfl,a⟩
def pP (a b:List aj) (s d:aj):Nat->aj
 |0=>d
 |k+1=>if cu a k=s then cu b k else pP a b s d k
theorem YF {xs' ys':List aj} {d:aj}:∀{k:Nat},(∀i,i<k->cu xs i=cu xs' i/\cu ys i=cu ys' i)->pP xs ys s d k=pP xs' ys' s d k
 |0,_=>rfl
 |k+1,h=>by unfold pP;rw[(h k om).1,(h k om).2,YF λi _=>h i om]
def YG (h:i<xs.length):cu (xs++ys) i=cu xs i:=by simp only[cu,gG];rw[List.getElem?_append_left h]
theorem YH {x:aj} (h:i=xs.length):cu (xs++[x]) i=x:=by subst h;simp[cu]
def YI {xs:List aj} {x y d:aj} (h:xs.length=ys.length):pP (xs++[x]) (ys++[y]) s d (xs++[x]).length=if x=s then y else pP xs ys s d xs.length:=by rw[lA,List.length_singleton,pP,YH rfl,YH h,YF (xs':=xs) (ys':=ys)];intro i a;exact⟨YG a,YG om⟩
def YJ {b:Type} {Q:List b->Prop} (c:Q []) (d:∀l a,Q l->Q (l++[a])) (l:List b):Q l:=by
 have:∀r:List b,Q r.reverse:=by
  intro r;induction r with
  |nil=>exact c
  |cons a r e=>rw[List.reverse_cons];exact d _ _ e
 have:=this l.reverse;rwa [List.reverse_reverse] at this
def YK:Option Ty->aj
 |some T=>T.text
 |none=>[]
def YL (s:aj):∀a:Sc,pP (a.map Prod.fst) (a.map λp=>p.2.text) s [] a.length=YK (look a s):=by
 refine YJ rfl λa p b=>?_
 .obtain⟨x,T⟩:=p;have:=YI (xs:=a.map Prod.fst) (ys:=a.map λp=>p.2.text) (x:=x) (y:=T.text) (s:=s) (d:=[]) sm;rw[qM,List.map_append,List.map_append,lA];simp only[List.map_cons,List.map_nil,lA,List.length_map,List.length_singleton] at this⊢;rw[this,b];split<;>rfl
def ak7 (s:aj):∀a:Rn,pP (a.map Prod.fst) (a.map Prod.snd) s s a.length=su a s:=by
 refine YJ rfl λa p b=>?_
 .obtain⟨x,y⟩:=p;have:=YI (xs:=a.map Prod.fst) (ys:=a.map Prod.snd) (x:=x) (y:=y) (s:=s) (d:=s) sm;rw[P3,List.map_append,List.map_append,lA];simp only[List.map_cons,List.map_nil,lA,List.length_map,List.length_singleton] at this⊢;rw[this,b]
def Jv (xs b:List aj) (H:xs.length=b.length) (I:xs.length<=1000000000) (s:aj) (v u:Value) (L o:List Nat) (w:World) (m:bo L w v xs) (l:bo o w u b):
  bC Tryz.prog 186 [v,u,str s] w λr w'=>r=str (pP xs b s [] xs.length)/\ak [] w w':=by
 obtain⟨a,n,c,rfl,E⟩:=eA m;obtain⟨q,_,c2,rfl,z⟩:=eA l;subst E z;have j:=ak.refl [] w;refine cm [.tmp 6] 25 Tryz.func186 rfl agC rfl rfl ?_;refine W ?_;refine eZ (λk:Nat=>[(0,.slice a xs.length c),(1,.slice q b.length c2),(2,str s),(7,.int .i64<|(k:Int)-1)]) (λk w'=>w'=w/\k<=xs.length/\pP xs b s [] xs.length=pP xs b s [] k) (λk=>k) xs.length (⟨rfl,rfl,rfl,rfl⟩) (⟨rfl,lR _,rfl⟩) λd _ _ C=>?_;obtain⟨e,hk,g⟩:=C;subst e;refine W ?_;refine zc rfl (λB=>?_) λB=>?_;have t:∃k,d=k+1:=⟨d-1,om⟩;obtain⟨k,rfl⟩:=t;have F:=jW (xs:=xs) (i:=k) om;have p:=jW (xs:=b) (i:=k) om;obtain⟨_,_,rfl,_⟩:=mY m F;obtain⟨_,_,rfl,_⟩:=mY l p;have D:((k+1:Nat):Int)-1=(k:Int):=by omega
 rw[D];refine W ?_;refine zc rfl (λf=>?_) λf=>?_;refine W ?_;exact⟨_,rfl,by rw[g,pP,iP f];rfl,j⟩;have y:=f;refine W ?_;exact⟨k,⟨rfl,rfl,rfl,rfl⟩,⟨rfl,om,by rw[g,pP,iN y]⟩,om⟩;have A:d=0:=by omega
 refine W ?_;exact⟨_,rfl,by rw[g,A];rfl,j⟩
def ak8 (xs b:List aj) (H:xs.length=b.length) (I:xs.length<=1000000000) (s:aj) (v u:Value) (L o:List Nat) (w:World) (m:bo L w v xs) (l:bo o w u b):
  bC Tryz.prog 220 [v,u,str s] w λr w'=>r=str (pP xs b s s xs.length)/\ak [] w w':=by
 obtain⟨a,n,c,rfl,E⟩:=eA m;obtain⟨q,_,c2,rfl,z⟩:=eA l;subst E z;have j:=ak.refl [] w;refine cm [.tmp 6] 26 Tryz.func220 rfl agZ rfl rfl ?_;refine W ?_;refine eZ (λk:Nat=>[(0,.slice a xs.length c),(1,.slice q b.length c2),(2,str s),(7,.int .i64<|(k:Int)-1)]) (λk w'=>w'=w/\k<=xs.length/\pP xs b s s xs.length=pP xs b s s k) (λk=>k) xs.length (⟨rfl,rfl,rfl,rfl⟩) (⟨rfl,lR _,rfl⟩) λd _ _ C=>?_;obtain⟨e,hk,g⟩:=C;subst e;refine W ?_;refine zc rfl (λB=>?_) λB=>?_;have t:∃k,d=k+1:=⟨d-1,om⟩;obtain⟨k,rfl⟩:=t;have F:=jW (xs:=xs) (i:=k) om;have p:=jW (xs:=b) (i:=k) om;obtain⟨_,_,rfl,_⟩:=mY m F;obtain⟨_,_,rfl,_⟩:=mY l p;have D:((k+1:Nat):Int)-1=(k:Int):=by omega
 rw[D];refine W ?_;refine zc rfl (λf=>?_) λf=>?_;refine W ?_;exact⟨_,rfl,by rw[g,pP,iP f];rfl,j⟩;have y:=f;refine W ?_;exact⟨k,⟨rfl,rfl,rfl,rfl⟩,⟨rfl,om,by rw[g,pP,iN y]⟩,om⟩;have A:d=0:=by omega
 refine W ?_;exact⟨_,rfl,by rw[g,A];rfl,j⟩
def MI:∀row,row∈gm xs->∀c∈row,∀v,c= .val v->v.oneCell'=true:=by intro row b;simp only[gm,List.mem_map] at b;obtain⟨x,_,rfl⟩:=b;intro c a u d;simp only[mC,List.not_mem_nil,or_false] at a;subst a;cases d;rfl
theorem YM (a b:List aj):gm a++gm b=gm (a++b):=by simp[gm]
def wR (f g:List aj) (d:f.length+g.length<100000000) (v u:Value) (L:List Nat) (w:World) (m:bo L w v f) (l:bo L w u g) (z:∀x∈L,x<w.heap.size):
  bC Tryz.prog 149 [v,u] w λr w'=>bo L w' r (f++g)/\ak [] w w':=by
 obtain⟨a,n,c,rfl,A⟩:=eA m;obtain⟨_,_,c2,rfl,t⟩:=eA l;subst A t;have b:=ak.refl [] w;refine cm [.tmp 4] 10 Tryz.func149 rfl VQ rfl rfl ?_;refine W ?_;refine xF w.heap.size L bB bz rfl rfl (lR _) z λ_ i _ j=>?_;have b:=b.ext i;have s:=cw.ext (cw.fresh m (L':=w.heap.size::L) tZ) i;refine zm<|xO bB bz rfl rfl rfl rfl rfl rfl j s MI (by rw[oX];simp;omega) λ_ _ y _ e q=>?_;have b:=j.since b q;have o:=cw.ext (cw.fresh l (L':=y.toList++L) (λx d=>by rcases mA.1 d with d|d;(·exact .inr (e.low x (by simpa using d)));(·exact .inl d))) b;refine zm<|xO bB bz rfl rfl rfl rfl rfl rfl e o MI (by simp only[lA,oX];simp;omega) λ_ _ _ _ B p=>?_;have b:=e.since b p;refine W ?_;exact⟨_,rfl,(by have:=B.done;rw[List.nil_append,YM] at this;exact this),b⟩
def vH (t:au) (i:Nat):List aj:=if(nth t.ag 0).aq=il/\i=3 then[(nth t.ag 1).aq] else if(nth t.ag 0).aq=iJ then[(nth t.ag 1).aq,(nth t.ag 2).aq] else[]
theorem YO (h:e.ok) (l:e.jC=false) (i:Nat):vH e.aw i=e.binds i:=by
 cases e with
 |«at» s=>cases l
 |un g a=>
  have d:g≠il/\g≠iJ:=by constructor<;>intro e<;>rw[e] at h<;>exact absurd h.1 de
  simp[vH,Ex.aw,au.ag,nth,bL,au.aq,d.1,d.2,Ex.binds]
 |bi g a b=>
  have d:g≠il/\g≠iJ:=by constructor<;>intro e<;>rw[e] at h<;>exact absurd h.1 de
  simp[vH,Ex.aw,au.ag,nth,bL,au.aq,d.1,d.2,Ex.binds]
 |ite a b c=>simp[vH,Ex.aw,au.ag,nth,bL,au.aq,Ex.binds]
 |lt x a b=>
  by_cases j:i=3
  .subst j;simp[vH,Ex.aw,au.ag,nth,bL,au.aq,Ex.binds]
  .have:(Ex.lt x a b).binds i=[]:=by unfold Ex.binds;split<;>first|rfl|simp_all
   rw[this];simp[vH,Ex.aw,au.ag,nth,bL,au.aq,j]
 |fn f x A B b=>simp[vH,Ex.aw,au.ag,nth,bL,au.aq,Ex.binds]
def YP (t:au) (V:0<t.ag.length) (K:(nth t.ag 0).aq=il->1<t.ag.length) (jG:(nth t.ag 0).aq=iJ->2<t.ag.length) (i:Nat) (v:Value) (L:List Nat) (w:World) (hv:ba L w v t):
  bC Tryz.prog 219 [v,.int .i64 (i:Int)] w λr w'=>(∀p,(∀x∈p,x<w.heap.size)->bo p w' r (vH t i))/\ak [] w w':=by
 obtain⟨a,n,c,rfl,hn,E⟩:=cQ hv;subst hn;have d:=ak.refl [] w;obtain⟨b,D,M,O,N,rfl,F,_,_⟩:=fE E<|dN V;have C:∀i,i<t.ag.length->∃M O N,gj w b (D+i*2) [str (nth t.ag i).aq,.slice M O N]:=by intro i Z;obtain⟨_,_,H,P,I,T,g,_,_⟩:=fE E<|dN Z;cases T;exact⟨_,_,_,g⟩
 refine cm [.tmp 4] 41 Tryz.func219 rfl agX rfl rfl ?_;refine zr<|eH rfl λ_ Q s S=>bQ Q d F λd F=>?_;refine W ?_;apply oB 3 12 15 rfl oQ;intro _;exact oQ;intro _;refine zA<|aX<|zc rfl (λl=>?_) λl=>?_;have o:(nth t.ag 0).aq=il/\i=3:=(by simp only[aE,dE] at l;exact⟨l.1,om⟩);obtain⟨H,P,I,g⟩:=C 1<|K o.1;have g:=g.ext d;have gR:=K o.1;have hb:vH t i=[(nth t.ag 1).aq]:=iP o;refine W ?_;refine gv bB bz rfl rfl λj f xY _=>?_;have d:=d.ext f;refine W ?_;exact⟨_,rfl,λp q=>(by rw[hb];exact aL.eM [(nth t.ag 1).aq] xY λB=>by have:=q _ B;omega),d⟩;have J:¬((nth t.ag 0).aq=il/\i=3):=(λY=>by simp only[Bool.and_eq_false_iff,decide_eq_false_iff_not] at l;rcases l with h|h;(·exact h Y.1);(·exact h om));refine W ?_;refine zc rfl (λA=>?_) λA=>?_;have o:=A;have ik:=jG o;obtain⟨H,P,I,g⟩:=C 1 om;obtain⟨_,_,_,u⟩:=C 2 om;have g:=g.ext d;have u:=u.ext d;have hb:vH t i=[(nth t.ag 1).aq,(nth t.ag 2).aq]:=by unfold vH;rw[iN J,iP o]
 refine WZ ?_;apply yM cY 11 (rA 29 11) (rA 29 11) [[],[0],[1],[2],[3],[],[5],[6],[7],[8],[4,9]] [It.v _,It.v _,It.v _,It.v _,It.v _,It.v _,It.v _,It.v _,It.v _,It.v _,It.p (fun(v:Value) (ww:World)=>∃m,v= .slice (some ⟨m,0,none⟩) 2 2/\w.heap.size<=m/\aL ww m [str (nth t.ag 1).aq,str (nth t.ag 2).aq].toArray 9)] de (by exact⟨λv w w' ⟨m,e,X,l⟩ k=>⟨m,e,X,l.ext k⟩,trivial⟩);intro _ aC;refine vc (λ_ _ _=>WZ pv) ?_;refine vk aC (λx j f=>?_) ?_;have s:=s.ext f;refine WZ ?_;exact pv;refine vk aC (λx j f=>?_) ?_;refine zi (i:=1) cH aK rfl rfl om ?_;exact pv;refine vc (λ_ _ _=>WZ pv) ?_;refine vk aC (λx j f=>?_) ?_;have g:=g.ext f;refine WZ ?_;exact pv;refine vc (λ_ _ _=>WZ pv) ?_;refine vk aC (λx j f=>?_) ?_;have s:=s.ext f;refine WZ ?_;exact pv;refine vk aC (λx j f=>?_) ?_;refine WZ ?_;exact pv;refine vc (λ_ _ _=>WZ pv) ?_;refine vk aC (λx j f=>?_) ?_;have u:=u.ext f;refine WZ ?_;exact pv;refine vk aC (λx j f=>?_) ?_;have d:=d.ext f;have oz:=d.size;refine mM bB bz rfl rfl rfl rfl ?_;intro _ R y _;exact pf R (⟨_,rfl,oz,y⟩);exact trivial;intro x _ U;intro _ d10;have d:=d.ext U;change OW _ _ _ _ _ (bf (aY _ x _)<|zZ 29 [_,_,_,_,_,_,_,_,_,_,_]) _;obtain⟨m,z,_,y⟩:=d10;refine W ?_;exact⟨_,rfl,λp q=>(by rw[hb];subst z;exact aL.eM [(nth t.ag 1).aq,(nth t.ag 2).aq] y λB=>by have:=q _ B;omega),d⟩;have hb:vH t i=[]:=(by unfold vH;rw[iN J,iN A]);refine iH<|zr<|xF w.heap.size [] bB bz rfl rfl d.size sm λj f S _=>?_;have d:=d.ext f;refine W ?_;exact⟨_,rfl,λp q=>(by rw[hb];exact cw.nil _ _ _),d⟩
def Jw (h:e.ok) (g:e.jC=false):0<e.aw.ag.length/\((nth e.aw.ag 0).aq=il->1<e.aw.ag.length)/\((nth e.aw.ag 0).aq=iJ->2<e.aw.ag.length):=by
 cases e with
 |«at» s=>cases g
 |un d a=>
  have i:d≠iJ:=by intro e;rw[e] at h;exact absurd h.1 de
  exact⟨by simp[Ex.aw,au.ag],λ_=>by simp[Ex.aw,au.ag],λh=>absurd h i⟩
 |bi d a b=>exact⟨by simp[Ex.aw,au.ag],λ_=>by simp[Ex.aw,au.ag],λh=>by simp[Ex.aw,au.ag]⟩
 |ite a b c=>exact⟨by simp[Ex.aw,au.ag],λ_=>by simp[Ex.aw,au.ag],λh=>by simp[Ex.aw,au.ag]⟩
 |lt x a b=>exact⟨by simp[Ex.aw,au.ag],λ_=>by simp[Ex.aw,au.ag],λh=>by simp[Ex.aw,au.ag]⟩
 |fn f x A B b=>exact⟨by simp[Ex.aw,au.ag],λ_=>by simp[Ex.aw,au.ag],λh=>by simp[Ex.aw,au.ag]⟩
def YQ (e:Ex) (i:Nat):(e.binds i).length<=2:=by unfold Ex.binds;split<;>simp
theorem YR (x:aj) (e:Ex) (k:Nat):B7 x e (k+1)=B7 x e k+if x∈e.binds (e.from+k) then 0 else lx x (gW e k):=rfl
def YS (x:aj) (e:Ex):∀{i j:Nat},i<=j->B7 x e i<=B7 x e j
 |i,0,h=>by have:i=0:=om;subst this;exact lR _
 |i,j+1,h=>by
  rcases Nat.lt_or_ge i (j+1) with a|a
  .have:=YS x e (i:=i) (j:=j) om;rw[YR];omega
  .have:i=j+1:=by omega
   subst this;exact lR _
def xZ (h:e.ok):e.aw.aq≠[]↔e.jC=true:=by
 cases e with
 |«at» s=>exact⟨λ_=>rfl,λ_=>rE h⟩
 |_=>exact⟨λa=>absurd rfl a,λa=>by cases a⟩
def Jx (e:Ex):e.from+e.kids.length<=6:=by cases e<;>simp[Ex.from,Ex.kids]
def ala (s:aj):∀(m:Nat) (e:Ex),e.n<=m->e.n<=1000000->e.ok->∀(v:Value) (L:List Nat) (w:World),ba L w v e.aw->
  bC Tryz.prog 224 [v,str s] w λr w'=>r= .int .i64 (lx s e:Int)/\ak [] w w':=by
 intro m;induction m with
 |zero=>intro e h;have:=e.pos;omega
 |succ m ih=>
  intro e _ _ p v L w J;have t:=J;obtain⟨a,n,c,rfl,hn,o⟩:=cQ J;subst hn;have d:=ak.refl [] w;have MK:=count_le s e;have ML:=Jx e;refine cm [.tmp 4] 47 Tryz.func224 rfl ag3 rfl rfl ?_;refine zr<|eH rfl λw1 R l _=>cV R d o t λd o t=>?_;refine W ?_;refine zc rfl (λz=>?_) λz=>?_;have S:∃x,e= .at x:=(by have Y:=(xZ p).1 z;cases e<;>first|exact⟨_,rfl⟩|cases Y);obtain⟨x,rfl⟩:=S;refine W ?_;refine zc rfl (λA=>?_) λA=>?_;have C:lx s (.at x)=1:=iP A;refine W ?_;exact⟨_,rfl,by rw[C];rfl,d⟩;have C:lx s (.at x)=0:=iN A;refine W ?_;exact⟨_,rfl,by rw[C];rfl,d⟩;have q:e.jC=false:=(by cases hh:e.jC;rfl;exact absurd ((xZ p).2 hh) z);obtain⟨_,_,kx,zq⟩:=Ex.ag q;obtain⟨M,O,P⟩:=Jw p q;have Q:=PY p q;have nT:fb (nth e.aw.ag 0).aq=(e.from,e.from+e.kids.length):=by rw[kx];exact Q
  obtain⟨b,_,_,_,_,rfl,_,_,_⟩:=fE o<|dN M;refine W ?_;refine aA (MF _ _) ?_;rintro _ _ ⟨rfl,rfl⟩;rw[AP nT];refine W ?_;refine eZ (λk:Nat=>[(1,str s),(2,.pointer<|some ⟨w.heap.size,0,none⟩),(5,.int .i64 (B7 s e k:Int)),(7,.int .i64 ((e.from+e.kids.length:Nat):Int)),(8,.int .i64 ((e.from+k:Nat):Int))]) (λk w'=>ak [] w w'/\ak [] w1 w'/\k<=e.kids.length) (λk=>e.kids.length-k) (0) (⟨rfl,rfl,rfl,rfl,rfl⟩) (⟨d,ak.refl _ _,om⟩) λf w2 _ X=>?_;obtain⟨d,g,hk⟩:=X;refine cV g l o t λl o t=>?_;refine W ?_;refine zc rfl (λV=>?_) λV=>?_;have K:f<e.kids.length:=om;have kh:=zq f K;obtain⟨_,_,_,_,_,T,y,uo,qR⟩:=fE o<|dN (i:=e.from+f) om;cases T;subst uo;have u:=(iF qR).eq kh;have wS:=IS p K;have I:=YR s e f;have hmo:=YS s e (i:=f+1) (j:=e.kids.length) om;have XD:=Ww q s;refine W ?_;refine aA (YP e.aw M O P (e.from+f) _ _ w2 t) ?_;rintro _ w3 ⟨kW,F⟩;have fB:=F.size;refine kB F d l g y u λd l g y u=>?_;have N:=kW [] sm;rw[YO p q] at N;have Z:=YQ e<|e.from+f;refine zm<|aA (Az (e.binds<|e.from+f) om s _ [] w3 N) ?_;rintro _ w4 ⟨rfl,E⟩;have gd:=E.size;refine kB E d l g y u λd l g y u=>?_;refine jU rfl rfl rfl<|aX<|zc rfl (λB=>?_) λB=>?_;have D:¬s∈e.binds (e.from+f):=(by simpa using B);rw[iN D] at I;refine W ?_;refine aA (ih (gW e f) om om wS.1 _ _ w4 u) ?_;rintro _ _ ⟨rfl,H⟩;have mJ:=H.size;refine bQ H d g λd g=>?_;refine W ?_;exact⟨f+1,⟨rfl,rfl,congrArg (Value.int .i64) om,rfl,congrArg (Value.int .i64) om⟩,⟨d,g,om⟩,om⟩;have D:s∈e.binds (e.from+f):=(by simpa using B);rw[iP D] at I;refine W ?_;exact⟨f+1,⟨rfl,rfl,congrArg (Value.int .i64) om,rfl,congrArg (Value.int .i64) om⟩,⟨d,g,om⟩,om⟩;have U:f=e.kids.length:=by omega
  refine W ?_;exact⟨_,rfl,by rw[Ww q s,U];rfl,d⟩
theorem YT (e:Ex) (a l:List aj) (k:Nat):sq e a l (k+1)=dQ (gW e k) (a++e.binds (e.from+k)) (sq e a l k):=rfl
def kN (e:Ex) (k:Nat):Nat:=((e.kids.take k).map Ex.n).sum
theorem AS (h:k<e.kids.length):kN e (k+1)=kN e k+(gW e k).n:=by
 have a:e.kids[k]?=some (gW e k):=by simp[gW,gE h]
 unfold kN;rw[List.take_add_one,a,List.map_append,List.sum_append];simp
def Ew (e:Ex) (k:Nat):kN e k<=e.n:=by
 have a:kN e k<=(e.kids.map Ex.n).sum:=by
  conv=>rhs;rw[<-List.take_append_drop k e.kids,List.map_append,List.sum_append]
  unfold kN;omega
 have b:(e.kids.map Ex.n).sum<=e.n:=by cases e<;>simp[Ex.kids,Ex.n]<;>omega
 omega
def YU (e:Ex) (a l:List aj):∀{k:Nat},k<=e.kids.length->(sq e a l k).length<=l.length+kN e k
 |0,_=>by simp[sq,kN]
 |k+1,hk=>by rw[YT,AS om];have b:=PZ (gW e k) (a++e.binds (e.from+k))<|sq e a l k;have c:=YU e a l (k:=k) om;omega
def MM:∀(m:Nat) (e:Ex),e.n<=m->e.n<=1000->e.ok->∀(d l:List aj),d.length+2*e.n<=100000->l.length+e.n<=100000->∀(v vb A:Value) (g:Option Nat) (w:World),
  ba g.toList w v e.aw->bo g.toList w vb d->dk w 9 A g l->
  bC Tryz.prog 203 [v,vb,A] w λr w'=>∃g',dk w' 9 r g' (dQ e d l)/\Fr g.toList w g'.toList w':=by
 intro m;induction m with
 |zero=>intro e h;have:=e.pos;omega
 |succ m ih=>
  intro e _ _ N d l _ _ v vb A g w hv C p;obtain⟨a,n,c,rfl,hn,E⟩:=cQ hv;subst hn;obtain⟨ab,_,cb,rfl,YV⟩:=eA C;subst YV;obtain⟨al,cl,rfl⟩:=lF p;have pe:=p.lt;have V:=p.rs;have s:=Fr.refl g.toList w;have ML:=Jx e;have F:=iF E;refine cm [.tmp 6] 65 Tryz.func203 rfl agK rfl rfl ?_;refine zr<|eH rfl λw1 aI D _=>uk aI s E C p V F λs E C p V F=>?_;refine W ?_;refine zc rfl (λB=>?_) λB=>?_;have aO:∃x,e= .at x:=(by have ha:=(xZ N).1 B;cases e<;>first|exact⟨_,rfl⟩|cases ha);obtain⟨x,rfl⟩:=aO;refine W ?_;refine aA (xV _ _) ?_;rintro _ _ ⟨rfl,rfl⟩;refine WZ ?_;apply oO 5 17 22 (ak [] w1) rfl oQ;intro Z;refine W ?_;refine aA (Az d om x _ _ w1 C) ?_;rintro _ w2 ⟨rfl,av⟩;have dI:=av.size;exact oQ;intro xx z aJ;refine gY aJ s p V D λs p V D=>?_;refine WZ ?_;apply oO 5 23 28 (ak [] z) rfl oQ;intro h3;refine W ?_;refine aA (Az l om x _ _ z V) ?_;rintro _ w4 ⟨rfl,M⟩;have gd:=M.size;exact oQ;intro xx _ aN;refine cV aN s p D λs p D=>?_;refine aX<|zc rfl (λH=>?_) λH=>?_;have hq:dQ (.at x) d l=l:=iP H;refine W ?_;exact⟨_,rfl,g,by rw[hq];exact p,s⟩;have hq:dQ (.at x) d l=l++[x]:=iN λhh=>Bool.noConfusion<|hh.symm.trans H;refine W ?_;refine gv bB bz rfl rfl λ_ bP MN _=>bQ bP s p λs p=>?_;refine XP bB bz rfl rfl rfl rfl rfl rfl p MN om λv5 g5 _ mT _ rW=>?_;have s:=s.go rW;refine W ?_;exact⟨_,rfl,g5,by rw[hq];exact mT,s⟩;have S:e.jC=false:=(by cases hh:e.jC;rfl;exact absurd ((xZ N).2 hh) B);obtain⟨_,_,kx,zq⟩:=Ex.ag S;obtain⟨kH,AR,GV⟩:=Jw N S;have Jz:=PY N S;have nT:fb (nth e.aw.ag 0).aq=(e.from,e.from+e.kids.length):=by rw[kx];exact Jz
  obtain⟨b,_,_,_,rfl,_,_⟩:=fX E kH;have D:=D.o pe;refine W ?_;refine aA (MF _ _) ?_;rintro _ _ ⟨rfl,rfl⟩;rw[AP nT];refine W ?_;refine eZ (λq:Nat×Value×Option Nat=>[(1,.slice ab d.length cb),(2,q.2.1),(3,.pointer<|some ⟨w.heap.size,0,none⟩),(8,.int .i64 ((e.from+e.kids.length:Nat):Int)),(9,.int .i64 ((e.from+q.1:Nat):Int))]) (λq w'=>Fr g.toList w q.2.2.toList w'/\Fr g.toList w1 q.2.2.toList w'/\dk w' 9 q.2.1 q.2.2 (sq e d l q.1)/\q.1<=e.kids.length) (λq=>e.kids.length-q.1) ((0,.slice al l.length cl,g)) (⟨rfl,rfl,rfl,rfl,rfl⟩) (⟨s,Fr.refl _ _,p,sm⟩) λgg w2 _ hI=>?_;obtain⟨k,A,o⟩:=gg;dsimp only at hI⊢;obtain⟨s,J,p,hk⟩:=hI;have D:=D.go J;have E:=E.go J;have C:=C.go J;have F:=F.go J;refine W ?_;refine zc rfl (λh5=>?_) λh5=>?_;have iO:k<e.kids.length:=om;have kh:=zq k iO;obtain⟨_,_,_,_,e1,_,R⟩:=fX E (i:=e.from+k) om;cases e1;have R:=R.eq kh;have wS:=IS N iO;have aU:=YT e d l k;have hbf:=YQ e<|e.from+k;have kU:=YU e d l (k:=k) om;have kj:=AS iO;have jc:=Ew e<|k+1;refine WZ ?_;apply kQ cY o.toList 13 (rA 50 13) (rA 50 13) [[],[0],[],[1,2],[3],[],[],[5,6],[],[],[8,9],[7,10],[]] [Ie.v _,Ie.v _,Ie.v _,Ie.v _,Ie.v _,Ie.p (fun(G:List Nat) (v:Value) (y:World)=>∃Q,v= .slice (some ⟨Q,0,none⟩) 0 0/\eJ G y Q #[] 9),Ie.v _,Ie.e 0,Ie.v _,Ie.v _,Ie.p<|fun(G:List Nat) (v:Value) (y:World)=>bo G y v (e.binds<|e.from+k),Ie.e 1,Ie.v _] [7,11] [fun(G:List Nat) (K:List Value) (y:World)=>dk y 9 A o (sq e d l k)/\(∀x∈o.toList,x∈G),fun(G:List Nat) (K:List Value) (y:World)=>(dk y 9 A o (sq e d l k)/\(∀x∈o.toList,x∈G))/\∃j,dk y 9 (K.getD 0 undef) j d/\sD G y 9 j/\(∀x∈j.toList,x∉o.toList),fun(G:List Nat) (K:List Value) (y:World)=>(dk y 9 A o (sq e d l k)/\(∀x∈o.toList,x∈G))/\∃j,dk y 9 (K.getD 1 undef) j (d++e.binds (e.from+k))/\sD G y 9 j/\(∀x∈j.toList,x∉o.toList)] de rfl p.lt (by exact⟨λG v w G' w' ⟨Q,e,h⟩ k=>⟨Q,e,h.go k⟩,λG v w G' w' h k=>bo.go h k,trivial⟩) (by exact⟨λG K w w' h k=>⟨h.1.ext k,h.2⟩,λG K w w' ⟨B,j,Z,h3,H⟩ k=>⟨⟨B.1.ext k,B.2⟩,j,Z.ext k,h3.ext k,H⟩,λG K w w' ⟨B,j,Z,h3,H⟩ k=>⟨⟨B.1.ext k,B.2⟩,j,Z.ext k,h3.ext k,H⟩,trivial⟩) (⟨p,λx f=>f⟩);refine FA ?_;refine vf (λx z L bm U I=>?_) ?_;refine iu bB bz λw4 M Ey _=>?_;exact ff M<|⟨_,rfl,Ey.o I⟩;refine FA ?_;refine ve 0 (λx z L bm U I u t=>?_) ?_;have P:=ke t;subst P;have C:=C.go U;intro v5 d5;obtain⟨Q,e5,Y⟩:=d5;subst e5;have u:dk z 9 A o (sq e d l k)/\(∀x∈o.toList,x∈L):=u;refine GU bB bz rfl rfl rfl rfl rfl rfl Y.jh.mN C ‹_› (λx f=>.inr (by simp at f;subst f;exact Y.jh)) so λv9 g9 w4 G9 dK GW oz mj dB fp aF=>?_;exact fe G9 dB fp<|⟨⟨u.1.aG aF λb hb f=>Y.out (by simp at f;subst f;exact u.2 _<|by simp[hb]),λx f=>mj x<|u.2 x f⟩,g9,dK,GW,λx f T=>(oz x f).elim (λh=>Y.out (by simp at h;subst h;exact u.2 _ T)) λh=>by have:=I x<|u.2 x T;omega⟩;refine FA ?_;refine vf (λx z L bm U I=>?_) ?_;have F:=F.go U;refine aA (YP e.aw kH AR GV (e.from+k) _ _ z F) ?_;rintro _ w4 ⟨kG,M⟩;have gd:=M.size;have ald:=kG;exact ff M<|(by have h9:=ald _ I;rw[YO N S] at h9;exact h9);refine ve 1 (λx z L bm U I u t=>?_) ?_;obtain⟨q0,P⟩:=kf t;subst P;intro v10 d10;have u:(dk z 9 A o (sq e d l k)/\(∀x∈o.toList,x∈L))/\∃j,dk z 9 q0 j d/\sD L z 9 j/\(∀x∈j.toList,x∉o.toList):=u;obtain⟨⟨Cm,O⟩,j,JA,Ez,X⟩:=u;refine GU bB bz rfl rfl rfl rfl rfl rfl JA d10 ‹_› Ez om λv9 g9 w4 G9 dK GW oz mj dB fp aF=>?_;exact fe G9 dB fp<|⟨⟨Cm.aG aF λb hb f=>X b f<|by simp[hb],λx f=>mj x<|O x f⟩,g9,dK,GW,λx f T=>(oz x f).elim (λh=>X x h T) λh=>by have:=I x<|O x T;omega⟩;exact FZ;intro x oy GX bm EA _ u t;obtain⟨q0,q1,P⟩:=nu t;subst P;intro v5 d5;intro v10 d10;have s:=s.go EA;have J:=J.go EA;have R:=R.go EA;change OW _ _ _ _ _ (bf (aY _ x _)<|zZ 50 [_,_,_,_,_,_,_,_,_,_,_,_,_]) _;have u:(dk oy 9 A o (sq e d l k)/\(∀x∈o.toList,x∈GX))/\∃j,dk oy 9 q1 j (d++e.binds (e.from+k))/\sD GX oy 9 j/\(∀x∈j.toList,x∉o.toList):=u;obtain⟨⟨Cm,O⟩,j,JA,Ez,X⟩:=u;refine aA (ih (gW e k) om om wS.1 (d++e.binds (e.from+k)) (sq e d l k) (by rw[lA];omega) om _ _ _ o oy (R.dX λx f=>O x f) (JA.rep λb hb=>X b<|by simp[hb]) Cm) ?_;rintro Q7 _ ⟨Q8,MQ,JB⟩;refine W ?_;exact⟨(k+1,Q7,Q8),⟨rfl,rfl,rfl,rfl,congrArg (Value.int .i64) so⟩,⟨(s.to λx f=>.inl<|O x f).go JB,(J.to λx f=>.inl<|O x f).go JB,MQ,by simp;omega⟩,by simp;omega⟩;have fZ:k=e.kids.length:=by omega
  refine W ?_;exact⟨_,rfl,o,by rw[aji S,<-fZ];exact p,s⟩
def ale (s:aj) (w:World):bC Tryz.prog 185 [str s] w λv w'=>(∃a n c,v= .tuple #[.slice a n c,.bool (ox s)]/\(ox s=true->∃e:Ex,bU s=some e.aw/\e.ok/\e.n<=120/\bo [] w' (.slice a n c) (dQ e [] [])))/\ak [] w w':=by
 have b:=ak.refl [] w;refine cm [.tmp 2,.tmp 3] 18 Tryz.func185 rfl agB rfl rfl ?_;refine W ?_;refine aA (Ju s [] w sm) ?_;rintro _ _ ⟨C,l⟩;have I:=l.size;have b:=b.ext l;obtain⟨t,_,rfl,d,D⟩:=C;obtain⟨_,_,_,rfl,_,_⟩:=cQ d;refine W ?_;refine dw aK rfl rfl rfl λ_ q j _=>?_;have b:=b.grow;have b:=b.ext q;have d:=d.grow;have d:=d.ext q;refine cJ aK rfl rfl rfl j rfl λ_ m j _=>?_;have b:=b.aB m sx;have d:=d.aB m sx;refine W ?_;refine zc rfl (λi=>?_) λi=>?_;have f:ox s=false:=by simpa using i
 refine zr<|iu bB bz λF g _ _=>?_;have b:=b.ext g;refine W ?_;exact⟨_,rfl,⟨_,_,_,by rw[f];rfl,λh=>by rw[f] at h;cases h⟩,b⟩;have f:ox s=true:=by simpa using i
 obtain⟨e,u,p,y⟩:=zk.1 f;have B:=D.1 _ u;subst B;refine W ?_;refine iu bB bz λF g _ _=>bQ g d b λd b=>?_;refine iu bB bz ?_;have z:=ba.grow<|d.dX (L':=[]) sm;intro H o E _;have d:=z.ext o;have b:=b.ext o;refine aA (MM 120 e y om p [] [] so so _ _ _ (some _) H d (cw.nil _ _ _) E.mN) ?_;rintro _ _ ⟨_,r,A⟩;obtain⟨_,_,rfl⟩:=lF r;have b:=b.since A.aG λx f=>.inr (by simp at f;omega);refine W ?_;exact⟨_,rfl,⟨_,_,_,by rw[f];rfl,λ_=>⟨e,u,p,y,r.rs⟩⟩,b⟩
theorem GY {a b:aj} (h:bL a=bL b):a=b:=by simpa[bL] using h
theorem sF:∀{e f:Ex},e.ok->f.ok->e.aw=f.aw->e=f
 | .at s,.at r,_,_,h=>by rw[GY h]
 | .at s,.un ..,d,_,h=>absurd (congrArg au.aq h)<|rE d
 | .at s,.bi ..,d,_,h=>absurd (congrArg au.aq h)<|rE d
 | .at s,.ite ..,d,_,h=>absurd (congrArg au.aq h)<|rE d
 | .at s,.lt ..,d,_,h=>absurd (congrArg au.aq h)<|rE d
 | .at s,.fn ..,d,_,h=>absurd (congrArg au.aq h)<|rE d
 | .un ..,.at s,_,d,h=>absurd (congrArg au.aq h).symm<|rE d
 | .bi ..,.at s,_,d,h=>absurd (congrArg au.aq h).symm<|rE d
 | .ite ..,.at s,_,d,h=>absurd (congrArg au.aq h).symm<|rE d
 | .lt ..,.at s,_,d,h=>absurd (congrArg au.aq h).symm<|rE d
 | .fn ..,.at s,_,d,h=>absurd (congrArg au.aq h).symm<|rE d
 | .un h a,.un l i,k,g,e=>by have e:=congrArg au.ag e;simp only[Ex.aw,au.ag,List.cons.injEq,and_true] at e;rw[GY e.1,sF k.2 g.2 e.2]
 | .bi h a b,.bi l i j,k,g,e=>by have e:=congrArg au.ag e;simp only[Ex.aw,au.ag,List.cons.injEq,and_true] at e;rw[GY e.1,sF k.2.1 g.2.1 e.2.1,sF k.2.2 g.2.2 e.2.2]
 | .ite a b c,.ite i j _,k,g,e=>by have e:=congrArg au.ag e;simp only[Ex.aw,au.ag,List.cons.injEq,and_true] at e;rw[sF k.1 g.1 e.2.1,sF k.2.1 g.2.1 e.2.2.1,sF k.2.2 g.2.2 e.2.2.2]
 | .lt x a b,.lt m i j,k,g,e=>by have e:=congrArg au.ag e;simp only[Ex.aw,au.ag,List.cons.injEq,and_true] at e;rw[GY e.2.1,sF k.2.1 g.2.1 e.2.2.1,sF k.2.2 g.2.2 e.2.2.2]
 | .fn f x A B b,.fn _ m _ _ j,k,g,e=>by have e:=congrArg au.ag e;simp only[Ex.aw,au.ag,List.cons.injEq,and_true] at e;rw[GY e.2.1,GY e.2.2.1,IQ e.2.2.2.1,IQ e.2.2.2.2.1,sF k.2.2.2.2.2 g.2.2.2.2.2 e.2.2.2.2.2]
 | .un ..,.bi ..,_,_,e=>by have e:=congrArg au.ag e;simp[Ex.aw,au.ag] at e
 | .un ..,.ite ..,_,_,e=>by have e:=congrArg au.ag e;simp[Ex.aw,au.ag] at e
 | .un ..,.lt ..,_,_,e=>by have e:=congrArg au.ag e;simp[Ex.aw,au.ag] at e
 | .un ..,.fn ..,_,_,e=>by have e:=congrArg au.ag e;simp[Ex.aw,au.ag] at e
 | .bi ..,.un ..,_,_,e=>by have e:=congrArg au.ag e;simp[Ex.aw,au.ag] at e
 | .bi ..,.ite ..,_,_,e=>by have e:=congrArg au.ag e;simp[Ex.aw,au.ag] at e
 | .bi ..,.lt ..,_,_,e=>by have e:=congrArg au.ag e;simp[Ex.aw,au.ag] at e
 | .bi ..,.fn ..,_,_,e=>by have e:=congrArg au.ag e;simp[Ex.aw,au.ag] at e
 | .ite ..,.un ..,_,_,e=>by have e:=congrArg au.ag e;simp[Ex.aw,au.ag] at e
 | .ite ..,.bi ..,_,_,e=>by have e:=congrArg au.ag e;simp[Ex.aw,au.ag] at e
 | .ite ..,.lt ..,_,_,e=>by have e:=congrArg au.ag e;simp[Ex.aw,au.ag,bL] at e
 | .ite ..,.fn ..,_,_,e=>by have e:=congrArg au.ag e;simp[Ex.aw,au.ag] at e
 | .lt ..,.un ..,_,_,e=>by have e:=congrArg au.ag e;simp[Ex.aw,au.ag] at e
 | .lt ..,.bi ..,_,_,e=>by have e:=congrArg au.ag e;simp[Ex.aw,au.ag] at e
 | .lt ..,.ite ..,_,_,e=>by have e:=congrArg au.ag e;simp[Ex.aw,au.ag,bL] at e
 | .lt ..,.fn ..,_,_,e=>by have e:=congrArg au.ag e;simp[Ex.aw,au.ag] at e
 | .fn ..,.un ..,_,_,e=>by have e:=congrArg au.ag e;simp[Ex.aw,au.ag] at e
 | .fn ..,.bi ..,_,_,e=>by have e:=congrArg au.ag e;simp[Ex.aw,au.ag] at e
 | .fn ..,.ite ..,_,_,e=>by have e:=congrArg au.ag e;simp[Ex.aw,au.ag] at e
 | .fn ..,.lt ..,_,_,e=>by have e:=congrArg au.ag e;simp[Ex.aw,au.ag] at e
def alf (s:aj) (e:Ex):Prop:=bU s=some e.aw/\e.ok/\e.n<=120/\dQ e [] []=[]
def alg (s:aj) (w:World):bC Tryz.prog 143 [str s] w λv w'=>(∃b,v= .bool b/\(b=true↔∃e:Ex,alf s e))/\ak [] w w':=by have l:=ak.refl [] w;refine cm [.tmp 2] 16 Tryz.func143 rfl af4 rfl rfl ?_;refine W ?_;refine aA (ale s w) ?_;rintro _ _ ⟨u,o⟩;have A:=o.size;have l:=l.ext o;obtain⟨a,n,c,rfl,q⟩:=u;refine W ?_;apply oB 4 11 15 rfl oQ;intro _;exact oQ;intro _;refine zA<|aX<|lO<|⟨_,rfl,⟨_,rfl,?_⟩,l⟩;rw[aE,dE];constructor;rintro⟨z,_⟩;obtain⟨e,f,d,m,g⟩:=q z;obtain⟨_,_,_,j,p⟩:=eA g;cases j;exact⟨e,f,d,m,List.length_eq_zero_iff.1 om⟩;rintro⟨e,f,d,m,y⟩;have r:ox s=true:=zk.2 ⟨e,f,d,m⟩;refine⟨r,?_⟩;obtain⟨_,t,i,_,g⟩:=q r;rw[f] at t;have:=sF d i<|Option.some.inj t;subst this;rw[y] at g;obtain⟨_,_,_,j,p⟩:=eA g;cases j;simp at p;omega
def lZ (a:List aj) (b:Rn) (e:Ex) (n:Nat):Nat->List Ex×Nat
 |0=>([],n)
 |k+1=>((lZ a b e n k).1++[(cF a (gW e k) b (lZ a b e n k).2).1],(cF a (gW e k) b (lZ a b e n k).2).2)
def YW (a:List aj) (b:Rn) (e:Ex) (n:Nat):∀k,(lZ a b e n k).1.length=k:=by intro x;induction x<;>grind [lZ]
def ko (a:List aj) (b:Rn) (n:Nat):Ex->Rn
 | .fn f x _ _ _=>b++[(f,dm cx<|bI cx a n),(x,dm cx (bI cx a<|bI cx a n+1))]
 |_=>b
def nF (a:List aj) (n:Nat):Ex->Nat
 | .fn _ _ _ _ _=>bI cx a (bI cx a n+1)+1
 |_=>n
def zt (a:List aj) (n:Nat):Ex->List au
 | .fn _ _ A B _=>[bL iJ,bL (dm cx<|bI cx a n),bL<|dm cx (bI cx a<|bI cx a n+1),A.aw,B.aw]
 |e=>[bL e.head]
def isLt:Ex->Bool
 | .lt _ _ _=>true
 |_=>false
def ali (d:List aj) (g:Rn) (n:Nat) (i:e.jC=false) (j:isLt e=false):
  (cF d e g n).1.aw= .mk [] (zt d n e++(lZ d (ko d g n e) e (nF d n e) e.kids.length).1.map Ex.aw)/\(cF d e g n).2=(lZ d (ko d g n e) e (nF d n e) e.kids.length).2:=by
 cases e with
 |«at» s=>cases i
 |lt x a b=>cases j
 |un h a=>exact⟨rfl,rfl⟩
 |bi h a b=>exact⟨rfl,rfl⟩
 |ite a b c=>exact⟨rfl,rfl⟩
 |fn f x A B b=>exact⟨rfl,rfl⟩
def alj (c:List aj) (n:Nat) (d:e.jC=false) (f:isLt e=false):(zt c n e).length=e.from:=by
 cases e with
 |«at» s=>cases d
 |lt x a b=>cases f
 |_=>rfl
def alk (a:List aj) (n:Nat) (hk:e.ok) (d:e.jC=false) (c:e.head≠iJ):zt a n e=[bL e.head]/\nF a n e=n:=by
 cases e with
 |fn f x A B b=>exact absurd rfl c
 |_=>exact⟨rfl,rfl⟩
theorem YX (b:List aj) (a:Rn) (n:Nat) (c:e.head≠iJ):ko b a n e=a:=by cases e<;>grind [Ex.head,ko]
def MT (h:e.ok) (d:e.head=il):∃x a b,e= .lt x a b:=by
 cases e with
 |lt x a b=>exact⟨x,a,b,rfl⟩
 |un g a=>have d:g=il:=d;rw[d] at h;exact absurd h.1 de
 |bi g a b=>have d:g=il:=d;rw[d] at h;exact absurd h.1 de
 |«at» s=>cases d
 |ite a b c=>cases d
 |fn f x A B b=>cases d
def MU (h:e.ok) (d:e.head=iJ):∃f x A B b,e= .fn f x A B b:=by
 cases e with
 |fn f x A B b=>exact⟨f,x,A,B,b,rfl⟩
 |un g a=>have d:g=iJ:=d;rw[d] at h;exact absurd h.1 de
 |bi g a b=>have d:g=iJ:=d;rw[d] at h;exact absurd h.1 de
 |«at» s=>cases d
 |ite a b c=>cases d
 |lt x a b=>cases d
def YY (h:e.ok) (d:e.head=iz):∃a b c,e= .ite a b c:=by
 cases e with
 |ite a b c=>exact⟨a,b,c,rfl⟩
 |un g a=>have d:g=iz:=d;rw[d] at h;exact absurd h.1 de
 |bi g a b=>have d:g=iz:=d;rw[d] at h;exact absurd h.1 de
 |«at» s=>cases d
 |lt x a b=>cases d
 |fn f x A B b=>cases d
theorem not_lt (a:e.head≠il):isLt e=false:=by cases e<;>grind [Ex.head,isLt]
theorem YZ (c:e.jC=false) (g:isLt e=false) (d:e.head≠iJ):e.aw.ag=[bL e.head]++e.kids.map Ex.aw:=by
 cases e with
 |«at» s=>cases c
 |lt x a b=>cases g
 |fn f x A B b=>exact absurd rfl d
 |_=>rfl
def nZ (pre:List au) (a:List Ex) (e:Ex):List au:=pre++a.map Ex.aw++(e.kids.drop a.length).map Ex.aw
def Y0 {pre:List au} {acc:List Ex} {y:Ex} (h:acc.length<e.kids.length):(nZ pre acc e).set (pre.length+acc.length) y.aw=nZ pre (acc++[y]) e:=by
 have a:e.kids[acc.length]?=some (gW e acc.length):=by simp[gW,gE h]
 unfold nZ;rw[List.drop_eq_getElem_cons h,List.map_cons,List.set_append_right _ _ sm,lA,List.length_map,Nat.sub_self];simp
theorem Y1 {pre:List au} {a:List Ex} (h:a.length<=e.kids.length):(nZ pre a e).length=pre.length+e.kids.length:=by simp[nZ];omega
theorem Y2 {pre:List au} {a:List Ex} (h:a.length=e.kids.length):nZ pre a e=pre++a.map Ex.aw:=by grind [nZ]
structure RN (L:List Nat) (w:World) (br:Nat) (ai:List aj) (n:Nat):Prop where
 mem:br∈L
 box:∃vf,aL w br [vf,.int .i64 (n:Int)].toArray 230/\bo L w vf ai
def RN.ext {b:Nat} {a:List aj} (h:RN L w b a n) (k:ak [] w w'):RN L w' b a n:=let⟨v,c,d⟩:=h.box;⟨h.mem,v,c.ext k,d.ext k⟩
theorem RN.lt {a:Nat} {b:List aj} (h:RN L w a b n):a<w.heap.size:=let⟨_,c,_⟩:=h.box;c.lt
def RN.re {a:List Nat} {b:Nat} {c:List aj} (h:RN L w b c n) (hb:b∈a) (f:∀x∈a,x∈L\/w.heap.size<=x):RN a w b c n:=let⟨v,d,e⟩:=h.box;⟨hb,v,d,e.fresh f⟩
def RN.aG {a:Nat} {b:List aj} (h:RN L w a b n) (k:ak G w w') (hb:a∉G) (e:∀x∈G,x∈L):RN L w' a b n:=
 let⟨v,c,d⟩:=h.box;⟨h.mem,v,c.aG k hb,d.aB k e⟩
def RN.out {b:List Nat} {a:Nat} {c:List aj} (h:RN G w a c n) (k:Fr G w b w') (f:Out N G0 w w') (hb:a∈G0) (g:a∈b):RN b w' a c n:=
 let⟨v,d,e⟩:=h.box;⟨g,v,f.jh d hb,e.go k⟩
def GZ (c:UInt8) (a:List aj) (n:Nat):bI c a n<=n+a.length+1:=(p8 c a n).2
def Q9 (a:List aj) (n:Nat) (E:n<=100000) (hb:a.length<=10000) (f:Nat) (L:List Nat) (w:World) (h:RN L w f a n):
  bC Tryz.prog 221 [.pointer (some ⟨f,0,none⟩)] w λr w'=>(r=str (dm cx<|bI cx a n)/\RN L w' f a (bI cx a n+1))/\ak [f] w w':=by
 have z:=GZ cx a n;have j:=h.mem;refine cm [.tmp 2] 26 Tryz.func221 rfl ag0 rfl rfl ?_;refine W ?_;refine eZ (λk:Nat=>[(0,.pointer<|some ⟨f,0,none⟩)]) (λk w'=>ak [f] w w'/\RN L w' f a k/\n<=k/\bI cx a k=bI cx a n) (λk=>bI cx a n+1-k) n rfl (⟨ak.refl _ _,h,lR _,rfl⟩) λb v _ s=>?_;obtain⟨d,⟨_,vf,e,c⟩,hk,u⟩:=s;have t:=(p8 cx a b).1;refine W ?_;refine aA (jo (b+1) b om om v) ?_;rintro _ _ ⟨rfl,q⟩;have C:=q.size;refine cV q d e c λd e c=>?_;refine jb rfl rfl (by have:=GG _ b<|lR _;simp;omega)<|W ?_;refine iw (o:=1) sV rfl rfl rfl e rfl λy p e _=>?_;have c:=c.aB p (by simpa using j);have d:=d.trans p;refine W ?_;refine aA (Az a om (dm cx b) _ _ y c) ?_;rintro _ _ ⟨rfl,m⟩;have D:=m.size;refine cV m d e c λd e c=>?_;refine jU rfl rfl rfl<|aX<|zc rfl (λg=>?_) λg=>?_;have i:dm cx b∉a:=(by simpa using g);have l:bI cx a n=b:=u.symm.trans<|Wz i;refine W ?_;exact⟨_,rfl,⟨by rw[l];rfl,j,_,by rw[l];exact e,c⟩,d⟩;have i:dm cx b∈a:=(by simpa using g);have A:=Wy i;have B:=(p8 cx a<|b+1).1;refine WZ ?_;exact⟨b+1,rfl,⟨d,⟨j,vf,e,c⟩,om,om⟩,om⟩
def Y3 (a:List aj) (b:Rn) (e:Ex) (n:Nat):∀k,k<=e.kids.length->n<=(lZ a b e n k).2/\(lZ a b e n k).2<=n+kN e k*(a.length+2)
 |0,_=>by simp[lZ]
 |k+1,hk=>by have c:=Y3 a b e n k om;have d:=j9 a (gW e k) b (lZ a b e n k).2;rw[AS om,Nat.add_mul];show n<=(cF a (gW e k) b (lZ a b e n k).2).2/\(cF a (gW e k) b (lZ a b e n k).2).2<=_;omega
end Go.Proofs.YtjkkipfboijfaaaGreatDoor
