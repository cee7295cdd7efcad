/- Lemmas for the law FnCheckFault, no statement of their own: no conditions. -/
import Derived.Test.YtjkkipfboijfaaaGreatDoorJd
import Derived.Laws.IdiomStrings
set_option maxHeartbeats 4000000
set_option linter.all false
namespace Go.Proofs.YtjkkipfboijfaaaGreatDoor
open Go
variable {L L':List Nat} {w w':World} {v z:Value} {B E b bytes c i k n sz t x:Nat} {vs:Array Value} {ts:List au} {ps:List dv} {a:Option Addr} {g gb:Option Nat} {xs:List aj} {s:cX} {gss:List (Option Nat×Option Nat)} {bs:List Bk} {rows:List (List C)} {q1 q2 q3 q4 q5 q6:Operand} {a1 a2 a3 a4 a5 a6:aj} {m m1 m2:Mk} {e:Ex}
def Qu (bs:List Bk) (hb:bs.length<9223372036854775807) (l:aj) (v:Value) (L:List Nat) (w:World) (m:ma L w v bs):
  bC Tryz.prog 75 [v,str l] w λr w'=>r= .int .i64 (iV bs l)/\w=w':=by
 obtain⟨a,n,c,rfl,_⟩:=wg m;refine cm [.tmp 4] 20 Tryz.func75 rfl ahQ rfl rfl ?_;refine W ?_;refine eZ (λk:Nat=>[(0,.slice a n c),(1,str l),(5,.int .i64 (k:Int))]) (λk w'=>w'=w/\k<=bs.length/\∀i,i<k->(bJ bs i).aQ≠l) (λk=>bs.length-k) (0) (⟨rfl,rfl,rfl⟩) (⟨rfl,om,by intro i j;omega⟩) λd _ _ p=>?_;obtain⟨rfl,hk,e⟩:=p;refine W ?_;refine zc rfl (λo=>?_) λo=>?_;have q:=pC (bs:=bs) (i:=d) om;obtain⟨b,_,a1,_,c1,a2,_,c2,rfl,_,_,_,_,_⟩:=ua m q;refine W ?_;refine zc rfl (λf=>?_) λf=>?_;have g:=U9 om e f;refine W ?_;exact⟨_,rfl,by rw[g];rfl,rfl⟩;refine W ?_;exact⟨d+1,⟨rfl,rfl,rfl⟩,⟨rfl,om,by intro i j;rcases Nat.lt_or_ge i d with h|h;exact e i h;rw[show i=d by omega];exact f⟩,om⟩;have g:=aeh λi j=>e i om;refine W ?_;exact⟨_,rfl,by rw[g];rfl,rfl⟩
def aj3 (k:Bk) (Z:k.aQ.length<1000000000) (Y:k.bS.length<1000000000) (X:k.code.length<1000000000) (v:Value) (L:List Nat) (w:World) (P:qC L w v k):
  bC Tryz.prog 74 [v] w λr w'=>r= .bool (mx k)/\ak [] w w':=by
 obtain⟨a1,_,c1,a2,Q,c2,rfl,H,y,m,f⟩:=BQ P;have a:=ak.refl [] w;refine cm [.tmp 2] 65 Tryz.func74 rfl ahP rfl rfl ?_;refine zr<|eH rfl λR d u _=>cV d a m f λa m f=>?_;refine W ?_;refine aA (Xr _ om _) ?_;rintro _ _ ⟨rfl,rfl⟩;refine WZ ?_;apply oP 5 9 14 rfl oQ;intro _;refine WZ ?_;exact oQ;intro U;refine WZ ?_;apply oP 6 15 21 rfl oQ;intro _;refine W ?_;refine aA (Eb _ _ _ _) ?_;rintro _ _ ⟨rfl,rfl⟩;exact oQ;intro U;refine aX<|zc rfl (λo=>?_) λo=>?_;rw[Ln H y] at o;have hb:=Va (b:=k)<|U6 o;refine W ?_;exact⟨_,rfl,by rw[hb];rfl,a⟩;rw[Ln H y] at o;have hb:(pB k.aQ&&decide (k.bS.length<=40)&&(decide (1<=k.code.length)&&decide (k.code.length<=80)))=true:=U5 o;refine W ?_;refine eZ (λi:Nat=>[(1,.pointer<|some ⟨w.heap.size,0,none⟩),(3,.int .i64 (i:Int))]) (λi w'=>ak [] w w'/\ak [] R w'/\i<=k.bS.length/\∀j,j<i->uY (cu k.bS j)=true) (λi=>k.bS.length-i) (0) (⟨rfl,rfl⟩) (⟨a,ak.refl [] _,om,by intro i q;omega⟩) λc I _ A=>?_;obtain⟨a,d,hk,l⟩:=A;refine cV d m f u λm f u=>?_;refine W ?_;refine zc rfl (λM=>?_) λM=>?_;have B:=jW (xs:=k.bS) (i:=c) om;obtain⟨b,C,rfl,O⟩:=mY m B;refine W ?_;refine aA (aj2 _ I) ?_;rintro _ S ⟨rfl,D⟩;have V:=D.size;refine bQ D a d λa d=>?_;refine jU rfl rfl rfl<|aX<|zc rfl (λz=>?_) λz=>?_;have s:=Vb (b:=k) (i:=c) om (by simpa using z);refine W ?_;exact⟨_,rfl,by rw[s];rfl,a⟩;refine W ?_;exact⟨c+1,⟨rfl,rfl⟩,⟨a,d,om,by intro i q;rcases Nat.lt_or_ge i c with h|h;exact l i h;rw[show i=c by omega];simpa using z⟩,om⟩;have K:∀i,i<k.bS.length->uY (cu k.bS i)=true:=λi q=>l i om;clear l d hk;refine W ?_;refine eZ (λi:Nat=>[(1,.pointer<|some ⟨w.heap.size,0,none⟩),(4,.int .i64 (i:Int))]) (λi w'=>ak [] w w'/\ak [] I w'/\i<=k.code.length/\∀j,j<i->ub k.code j=true) (λi=>k.code.length-i) (0) (⟨rfl,rfl⟩) (⟨a,ak.refl [] _,om,by intro i q;omega⟩) λc S _ A=>?_;obtain⟨a,d,hk,l⟩:=A;refine bQ d f u λf u=>?_;refine W ?_;refine zc rfl (λN=>?_) λN=>?_;have B:=jW (xs:=k.code) (i:=c) om;obtain⟨b,C,rfl,O⟩:=mY f B;refine W ?_;refine Ai [43,44,45,46,47,48,49,50,51,52,53,54,55,56,57,58,59,60,61,62,63,64] [(64,.bool (!uZ (cu k.code c)||(F9 (cu k.code c) !=decide ((c:Int)=(Q:Int)-1))))] ?_ ?_;rcases bE (!uZ (cu k.code c)) with fI|fI;apply jN cY 22 (rA 43 22) (rA 43 22) [[],[0],[],[1,2],[3],[4],[5],[6],[7],[7,8],[7],[7,9,10],[7,11],[7,12],[7],[7],[7,15],[7,16],[7,17],[7,14,18],[7,13,19],[7,20]] [It.v _,It.v _,It.v _,It.v _,It.v _,It.v _,It.v _,It.v (.bool true),It.v _,It.v _,It.v _,It.v _,It.v _,It.v _,It.v _,It.v _,It.v _,It.v _,It.v _,It.v _,It.v _,It.v _] de rfl;intro T aC;refine VA ?_;refine vk aC (λx g t=>?_) ?_;refine aA (Jb _ g) ?_;rintro _ J ⟨rfl,e⟩;have F:=e.size;exact pk e;refine VA ?_;refine vc (λx g t=>?_) ?_;refine WZ ?_;exact pv (by exact congrArg Value.bool fI);exact VZ;intro x E n;change OW _ _ _ _ [] (bf (aY _ x _) (zZ 43 [_,_,_,_,_,_,_,_,_,_,_,_,_,_,_,_,_,_,_,_,_,_])) _;refine W ?_;exact kE n;apply jN cY 22 (rA 43 22) (rA 43 22) [[],[0],[],[1,2],[3],[4],[5],[6],[7],[7,8],[7],[7,9,10],[7,11],[7,12],[7],[7],[7,15],[7,16],[7,17],[7,14,18],[7,13,19],[7,20]] [It.v _,It.v _,It.v _,It.v _,It.v _,It.v _,It.v _,It.v (.bool false),It.v _,It.v _,It.v _,It.v _,It.v _,It.v _,It.v _,It.v _,It.v _,It.v _,It.v _,It.v _,It.v _,It.v _] de rfl;intro T aC;refine VA ?_;refine vk aC (λx g t=>?_) ?_;refine aA (Jb _ g) ?_;rintro _ J ⟨rfl,e⟩;have F:=e.size;exact pk e;refine VA ?_;refine vc (λx g t=>?_) ?_;refine WZ ?_;exact pv (by exact congrArg Value.bool fI);refine VA ?_;refine vk aC (λx g t=>?_) ?_;refine aA (Mp _ g) ?_;rintro _ J ⟨rfl,e⟩;have F:=e.size;exact pk e;exact VZ;intro x E n;change OW _ _ _ _ [] (bf (aY _ x _) (zZ 43 [_,_,_,_,_,_,_,_,_,_,_,_,_,_,_,_,_,_,_,_,_,_])) _;refine W ?_;exact kE n;intro x E n;refine bQ n a d λa d=>?_;refine zc rfl (λp=>?_) λp=>?_;rw[O9 y om] at p;have s:=Vc (b:=k) (i:=c) om (by simpa using p);refine W ?_;exact⟨_,rfl,by rw[s];rfl,a⟩;rw[O9 y om] at p;refine W ?_;exact⟨c+1,⟨rfl,rfl⟩,⟨a,d,om,by intro i q;rcases Nat.lt_or_ge i c with h|h;exact l i h;rw[show i=c by omega];simpa using p⟩,om⟩;have s:=Vd hb K λi q=>l i om;refine W ?_;exact⟨_,rfl,by rw[s];rfl,a⟩
def Qw (bs:List Bk) (hb:qE bs) (v:Value) (L:List Nat) (w:World) (d:ma L w v bs):
  bC Tryz.prog 52 [v] w λr w'=>r= .bool (iW bs)/\ak [] w w':=by
 obtain⟨a,n,c,rfl,N⟩:=wg d;have e:=ak.refl [] w;have P:=hb.1;refine cm [.tmp 2] 45 Tryz.func52 rfl ahw rfl rfl ?_;refine W ?_;refine eZ (λi:Nat=>[(0,.slice a n c),(3,.int .i64 (i:Int))]) (λi w'=>ak [] w w'/\i<=bs.length/\∀j,j<i->mx (bJ bs j)=true/\iV bs (bJ bs j).aQ=(j:Int)) (λi=>bs.length-i) (0) (⟨rfl,rfl⟩) (⟨e,om,by intro i C;omega⟩) λf O _ K=>?_;obtain⟨e,hk,q⟩:=K;have d:=d.ext e;refine W ?_;refine zc rfl (λH=>?_) λH=>?_;have M:=pC (bs:=bs) (i:=f) om;obtain⟨b,m,a1,D,c1,a2,E,c2,rfl,g,s,A,p,o⟩:=ua d M;have y:=hb.2 f om;refine W ?_;refine aA (aj3 (bJ bs f) y.1 y.2.1 y.2.2 _ _ O<|BR p o) ?_;rintro _ _ ⟨rfl,z⟩;have o:=z.size;refine cV z e d g λe d g=>?_;refine WZ ?_;apply oP 10 16 26 rfl oQ;intro _;refine zm<|zm<|zm<|zi my jf rfl rfl om<|zf Px rfl<|zl fA rfl (g 0 _ rfl)<|aA (Qu bs om _ _ _ _ d) ?_;rintro _ _ ⟨rfl,rfl⟩;exact oQ;intro F;refine aX<|zc rfl (λl=>?_) λl=>?_;have u:=Ve (bs:=bs) (i:=f) om (λB=>by rw[B.1,B.2] at l;simp at l);refine W ?_;exact⟨_,rfl,by rw[u];rfl,e⟩;simp only[Bool.or_eq_false_iff,Bool.not_eq_false',decide_eq_false_iff_not,ne_eq,Classical.not_not] at l;refine W ?_;exact⟨f+1,⟨rfl,rfl⟩,⟨e,om,by intro i C;rcases Nat.lt_or_ge i f with h|h;exact q i h;rw[show i=f by omega];exact l⟩,om⟩;have u:=Vf λi C=>q i om;clear q;refine W ?_;refine aA (Eb _ _ _ _) ?_;rintro _ _ ⟨rfl,rfl⟩;refine WZ ?_;apply oB 6 30 36 rfl oQ;intro I;simp at I;have t:=pC (bs:=bs) (i:=0) om;obtain⟨b,m,a1,D,c1,a2,E,c2,rfl,g,s,A,p,o⟩:=ua d t;refine zm<|zi (i:=0) my jf rfl rfl om<|zf Px rfl<|zl fA rfl (g 0 _ rfl) ?_;exact oQ;intro F;refine WZ ?_;apply oB 7 37 44 rfl oQ;intro J;simp at J;have t:=pC (bs:=bs) (i:=0) om;obtain⟨b,m,a1,D,c1,a2,E,c2,rfl,g,s,A,p,o⟩:=ua d t;subst s;refine zm<|zi (i:=0) my jf rfl rfl om<|zf LB rfl<|zl pD rfl (g 1 _ rfl) ?_;exact oQ;intro F;refine W ?_;exact⟨_,rfl,show Value.bool _=Value.bool _ from congrArg _ (by rw[u];exact aei N λ_=>rfl),e⟩
def dv.enc (b:dv):List C:=[.val<|str b.aQ,.sl 2<|dj b.regs,.sl 2 (dj b.code)]
def pL (L:List Nat) (w:World) (v:Value) (b:dv):Prop:=ja L w v b.enc
def pL.ext {b:dv} (h:pL L w v b) (k:ak [] w w'):pL L w' v b:=ja.ext h k
def pL.grow {b:dv} (h:pL L w v b):pL (w.heap.size::L) w v b:=ja.fresh h tZ
def pL.aB {b:dv} (h:pL L w v b) (k:ak L' w w') (a:∀x∈L',x∈L):pL L w' v b:=ja.aG h<|k.mono a
def pL.dX {b:dv} (h:pL L w v b) (a:∀x∈L',x∈L):pL L' w v b:=ja.fresh h λx c=>.inl<|a x c
def Xt {d:List Value} {b:dv} (h:dC L w d b.enc):∃a c,d=[str b.aQ,a,c]/\cP L w a b.regs/\cP L w c b.code:=by
 rw[dv.enc] at h
 match d,h with
 |[_,a,c],h=>obtain⟨e,f,g,_⟩:=h;cases e;exact⟨a,c,rfl,f,g⟩
 |[],h=>exact h.elim
 |[_],h=>exact h.2.elim
 |[_,_],h=>exact h.2.2.elim
 |_::_::_::_::_,h=>exact h.2.2.2.elim
def xP (h:cP L w v ts):∃a c,v= .slice a ts.length c:=by grind [cP,tW,iI]
def Xu {b:dv} (h:pL L w v b):∃a1 c1 a2 c2,v= .agg #[str b.aQ,.slice a1 b.regs.length c1,.slice a2 b.code.length c2]/\
  cP L w (.slice a1 b.regs.length c1) b.regs/\cP L w (.slice a2 b.code.length c2) b.code:=by
 obtain⟨vs,rfl,d⟩:=h;obtain⟨_,_,rfl,a,c⟩:=Xt d;obtain⟨a1,c1,rfl⟩:=xP a;obtain⟨a2,c2,rfl⟩:=xP c;exact⟨a1,c1,a2,c2,rfl,a,c⟩
def Qx {l:aj} {r c:List au} {a b:Value} (d:cP L w a r) (e:cP L w b c):pL L w (.agg #[str l,a,b]) ⟨l,r,c⟩:=
 ⟨[str l,a,b],rfl,.val _,d,e,trivial⟩
def pL.l9 {x y:Value} {b:dv} (h:pL L w (.agg #[x,y,z]) b):dC L w [x,y,z] b.enc:=by
 obtain⟨vs,a,c⟩:=h;have d:vs=[x,y,z]:=by have:=congrArg (λv=>match v with|Value.agg x=>x.toList|_=>[]) a;simpa using this.symm
 rw[<-d];exact c
def jR (L:List Nat) (w:World) (v:Value) (a:List dv):Prop:=cw L w v (.sl 3<|a.map dv.enc)
def jR.ext (h:jR L w v ps) (k:ak [] w w'):jR L w' v ps:=cw.ext h k
def jR.grow {b:List dv} (h:jR L w v b):jR (w.heap.size::L) w v b:=cw.fresh h tZ
def jR.aB {b:List dv} (h:jR L w v b) (k:ak L' w w') (a:∀x∈L',x∈L):jR L w' v b:=cw.aG h<|k.mono a
def jR.dX {b:List dv} (h:jR L w v b) (a:∀x∈L',x∈L):jR L' w v b:=cw.fresh h λx c=>.inl<|a x c
def Xv:jR L w (.slice none 0 0) []:=.nil _ _ _
def GC (h:jR L w v ps):∃a c,v= .slice a ps.length c:=by grind [jR,tW]
def GD {k:dv} (h:jR L w (.slice a n c) ps) (l:ps[i]?=some k):
  ∃b d a1 c1 a2 c2,a=some ⟨b,d,none⟩/\gj w b (d+i*3) [str k.aQ,.slice a1 k.regs.length c1,.slice a2 k.code.length c2]/\cP L w (.slice a1 k.regs.length c1) k.regs/\cP L w (.slice a2 k.code.length c2) k.code:=by
 obtain⟨b,d,vs,g,hb,_,_,j,m⟩:=z8 h (show(ps.map dv.enc)[i]?=some k.enc by simp[l]);obtain⟨_,_,rfl,e,f⟩:=Xt m;obtain⟨a1,c1,rfl⟩:=xP e;obtain⟨a2,c2,rfl⟩:=xP f;exact⟨b,d,a1,c1,a2,c2,g,j,e,f⟩
theorem Gr.prog {T:TypeId} (h:Gr B L w T 3 v g (ps.map dv.enc)):jR L w v ps:=h.done
section
variable {P:Program} {n:Nat} {ops:Array Oper} {K:Env->World->Prop} {rest:List Oper} {e:Env} {w:World}
 {dst:Option Nat} {ty:TypeId} {pos:String} {after:Array Edge} {g:Option (Nat×Bool)} {x y:Operand}
def aj4 {B:Nat} {L:List Nat} {v r s A:Value} {m:Option Nat} {d:List dv} {f:dv} {b U:Nat} (I:P.underlying t=some (.slice E)) (F:TI P E 3 bytes z) (M:gate ops e g=true) (J:cN n dst=true) (S:Nat.beq z.cells.size 3=true) (T:Nat.ble bytes 1000=true) 
  (Q:ev e x=v) (R:ev e y= .slice (some ⟨b,0,none⟩) 1 1) (H:Gr B L w E 3 v m (d.map dv.enc)) (hb:aL w b [r,s,A].toArray U)
  (q:pL (m.toList++L) w (.agg #[r,s,A]) f) (N:d.length<100000000)
  (k:∀j a l w',Gr B L w' E 3 (.slice j (d++[f]).length a) l ((d++[f]).map dv.enc)->ak m.toList w w'->OW P n ops K rest (cC e dst (.slice j (d++[f]).length a)) w'):
  OW P n ops K (⟨dst,.call {callee:=.builtin .append,args:=#[x,y],argTypes:=#[t,t]},ty,pos,after,g⟩::rest) e w:=by
 refine Iw I F M J S T Q R H hb rfl ?_ q.l9 (by simpa using N) ?_
 .rw[List.all_eq_true];refine λu O=>dC.Is q.l9 (λc o v i=>?_) u O;rw[dv.enc] at o;simp only[mC,List.not_mem_nil,or_false] at o;rcases o with h|h|h
  .rw[h] at i;cases i;rfl
  .rw[h] at i;cases i
  .rw[h] at i;cases i
 .intro j a l w' p hk;have C:(d.map dv.enc).length+1=(d++[f]).length:=by simp
  have D:d.map dv.enc++[f.enc]=(d++[f]).map dv.enc:=by simp
  rw[C] at p⊢;rw[D] at p;exact k j a l w' p hk
end
def qV:∀(m:Nat) (t:au),t.size<=m->WF t->t.size<=100000000->t.text.length<=100000000->∀(v:Value) (L:List Nat) (w:World),ba L w v t->
  bC Tryz.prog 120 [v] w λr w'=>r=str t.text/\ak [] w w':=by
 intro m;induction m with
 |zero=>intro t h e;have:=Pb e;omega
 |succ m M=>
  intro t _ e _ _ v L w K;obtain⟨a,n,c,rfl,I,A⟩:=cQ K;subst I;have T:=mc t;have d:=ak.refl [] w;refine cm [.tmp 2] 31 Tryz.func120 rfl afM rfl rfl ?_;refine zr<|eH rfl λ_ z f _=>?_;have d:=d.ext z;refine W ?_;refine zc rfl (λo=>?_) λo=>?_;have J:=VD e (by rw[e.leaf o];rfl);refine W ?_;exact⟨_,rfl,show str _=str _ from congrArg _ J.symm,d⟩;have j:t.aq=[]:=Classical.not_not.1 o;refine W ?_;refine eZ (λk:Nat=>[(1,.pointer<|some ⟨w.heap.size,0,none⟩),(3,str (xG<|t.ag.take k)),(4,.int .i64 (k:Int))]) (λk w'=>ak [] w w'/\aL w' w.heap.size [str t.aq,.slice a t.ag.length c].toArray 93/\k<=t.ag.length) (λk=>t.ag.length-k) (0) (⟨rfl,rfl,rfl⟩) (⟨d,f,om⟩) λb O _ p=>?_;obtain⟨d,f,hk⟩:=p;refine W ?_;refine zc rfl (λF=>?_) λF=>?_;have B:=dN (ps:=t.ag) (i:=b) om;obtain⟨_,_,_,_,_,rfl,N,C,D⟩:=fE A B;subst C;have Q:=e.nth (i:=b) om;have U:=kO (t:=t) (i:=b) om;have u:=Pj e j hk;have S:=Pj e j (k:=b+1) om;have s:=VF (ps:=t.ag) (k:=b) om;have g:=congrArg List.length s;rw[lA] at g;refine W ?_;refine jk (λ_:Unit=>[(1,.pointer<|some ⟨w.heap.size,0,none⟩),(3,str<|xG (t.ag.take b)++(if b=0 then[] else[32])),(4,.int .i64 (b:Int))]) (λ_ w'=>w'=O) ?_ ?_;refine zc rfl (λH=>?_) λH=>?_;have l:¬b=0:=by omega
  refine W ?_;exact⟨(),⟨rfl,by rw[iN l];rfl,rfl⟩,rfl⟩;have l:b=0:=by omega
  refine WZ ?_;exact⟨(),⟨rfl,by rw[iP l,List.append_nil];rfl,rfl⟩,rfl⟩;intro _ P _ p;obtain rfl:=p;refine WL ?_;refine zl jg rfl (f.at rfl)<|zm<|zi cH aK rfl rfl om<|zL eU aK rfl (N.ext d) rfl<|aA (M (nth t.ag b) om Q om om _ L P<|(iF D).ext d) ?_;rintro _ _ ⟨rfl,q⟩;have R:=q.size;refine bQ q d f λd f=>?_;refine jb rfl rfl om<|W ?_;exact⟨b+1,⟨rfl,by rw[s];rfl,rfl⟩,⟨d,f,om⟩,om⟩;have E:b=t.ag.length:=by omega
  have y:=VG e j;have u:=Pj e j hk;subst E;refine WS ?_;refine jb rfl rfl (by simp at u⊢;omega)<|zA<|aX<|lO ?_;exact⟨_,rfl,show str _=str _ from congrArg _ y,d⟩
def aj5 (d:List au) (h:VH d) (v:Value) (L f:List Nat) (w:World) (p:cP L w v d) (H:∀x∈f,x<w.heap.size):
  bC Tryz.prog 80 [v] w λr w'=>(∃a n c,r= .slice a n c/\bo f w' (.slice a n c) (d.map au.text))/\ak [] w w':=by
 obtain⟨a,c,rfl⟩:=xP p;have b:=ak.refl [] w;have O:=h.1;refine cm [.tmp 2] 21 Tryz.func80 rfl ahU rfl rfl ?_;refine W ?_;refine xF w.heap.size f bB bz rfl rfl (lR _) H λ_ t _ e=>W ?_;have b:=b.ext t;refine eZ (λq:Nat×Option Addr×Nat×Option Nat=>[(0,.slice a d.length c),(3,.slice q.2.1 ((d.take q.1).map au.text).length q.2.2.1),(4,.int .i64 (q.1:Int))]) (λq w'=>ak [] w w'/\Gr w.heap.size f w' 9 1 (.slice q.2.1 ((d.take q.1).map au.text).length q.2.2.1) q.2.2.2 (gm<|(d.take q.1).map au.text)/\q.1<=d.length) (λq=>d.length-q.1) ((0,_,_,_)) (⟨rfl,rfl,rfl⟩) (⟨b,e,sm⟩) λE K _ o=>?_;obtain⟨i,a3,_,g⟩:=E;dsimp only at o⊢;obtain⟨b,e,hk⟩:=o;have N:=b.size;refine W ?_;refine zc rfl (λF=>?_) λF=>?_;have j:=dN (ps:=d) (i:=i) om;obtain⟨_,_,_,_,_,rfl,I,_,B⟩:=fE p j;obtain⟨y,z,A⟩:=h.2 (nth d i)<|List.mem_of_getElem? j;refine WL ?_;refine zL eU aK rfl (I.ext b) rfl<|aA (qV (nth d i).size (nth d i) (lR _) y z A _ L K<|(iF B).ext b) ?_;rintro _ _ ⟨rfl,l⟩;have M:=l.size;refine bQ l b e λb e=>?_;refine gv bB bz rfl rfl λ_ s J _=>bQ s b e λb e=>?_;refine UK bB bz rfl rfl rfl rfl rfl rfl e J (by rw[DO _ hk];omega) λa4 D C _ m u=>?_;have b:=e.since b u;rw[DN au.text j] at m⊢;refine W ?_;exact⟨(i+1,a4,D,C),⟨rfl,rfl,rfl⟩,⟨b,m,by dsimp only;omega⟩,by dsimp only;omega⟩;rw[Gd au.text om] at e⊢;refine W ?_;exact⟨_,rfl,⟨_,_,_,rfl,e.done⟩,b⟩
def xR (h:aj) (ps:List aj) (y:(eC h ps).length<=1000000000) (v:Value) (L:List Nat) (w:World) (l:bo L w v ps):bC Tryz.prog 84 [str h,v] w λr w'=>r=str (eC h ps)/\ak [] w w':=by
 obtain⟨a,n,c,rfl,t⟩:=eA l;subst t;have d:=ak.refl [] w;have f:=λk=>afo (h:=h) (ps:=ps) k;have u:(xI h ps 0).length=h.length+1:=by simp[xI,sj]
 have o:=f 0;have z:ps.length<=(eC h ps).length:=by simp only[eC,lC,lA,Po,iy];omega
 refine cm [.tmp 4] 24 Tryz.func84 rfl ahY rfl rfl ?_;refine WS ?_;refine jb rfl rfl (by simp only[lC,List.length_nil];omega)<|W ?_;refine eZ (λk:Nat=>[(1,.slice a ps.length c),(5,str<|xI h ps k),(6,.int .i64 (k:Int))]) (λk w'=>ak [] w w'/\k<=ps.length) (λk=>ps.length-k) (0) (⟨rfl,show str _=str _ from congrArg _<|by simp[xI,sj],rfl⟩) (⟨d,om⟩) λb _ _ q=>?_;obtain⟨d,hk⟩:=q;refine W ?_;refine zc rfl (λp=>?_) λp=>?_;have s:=jW (xs:=ps) (i:=b) om;obtain⟨_,_,rfl,m⟩:=mY l s;have j:=afm (h:=h) (ps:=ps) (k:=b) om;have e:=congrArg List.length j;simp only[lA,lC,List.length_nil] at e;have g:=f<|b+1;refine WS ?_;refine jb rfl rfl (by simp only[lC,List.length_nil];omega)<|WL ?_;refine zl fA rfl (m.ext d 0 _ rfl)<|jb rfl rfl (by simp only[lA,lC,List.length_nil];omega)<|W ?_;exact⟨b+1,⟨rfl,show str _=str _ from congrArg _ j.symm,rfl⟩,⟨d,om⟩,om⟩;have g:=f b;refine WS ?_;refine jb rfl rfl (by simp only[lC,List.length_nil];omega)<|zA<|aX<|lO ?_;exact⟨_,rfl,show str _=str _ from congrArg _<|afn om,d⟩
def aj6 (s:aj) (w:World):bC Tryz.prog 121 [str s] w λr w'=>r= .bool (bU s).isSome/\ak [] w w':=by have a:=ak.refl [] w;refine cm [.tmp 2] 11 Tryz.func121 rfl afN rfl rfl ?_;refine W ?_;refine aA (y0 s [] w sm) ?_;rintro _ _ ⟨f,b⟩;have j:=b.size;have a:=a.ext b;obtain⟨t,_,rfl,i,_⟩:=f;obtain⟨_,_,_,rfl,g,_⟩:=cQ i;subst g;refine W ?_;refine dw aK rfl rfl rfl λ_ e c _=>?_;have a:=a.grow;have a:=a.ext e;refine cJ aK rfl rfl rfl c rfl λ_ d c _=>?_;have a:=a.aB d sx;refine W ?_;exact⟨_,rfl,rfl,a⟩
def apart:List (Option Nat×Option Nat)->Prop
 |[]=>True
 |g::gs=>(∀x,x∈j6 g->x∉iG gs)/\apart gs
theorem Mq (g:Option Nat×Option Nat) (a:List (Option Nat×Option Nat)):iG (g::a)=j6 g++iG a:=by simp[iG]
theorem Qy (a:List (Option Nat×Option Nat)) (g:Option Nat×Option Nat):iG (a++[g])=iG a++j6 g:=by simp[iG]
section
variable {P:Program} {n:Nat} {ops:Array Oper} {K:Env->World->Prop} {rest:List Oper} {e:Env} {w:World}
 {dst:Option Nat} {ty:TypeId} {pos:String} {after:Array Edge} {g:Option (Nat×Bool)} {x y:Operand}
end
/-! ### Operations -/
section
variable {P:Program} {n:Nat} {ops:Array Oper} {K:Env->World->Prop} {rest:List Oper} {e:Env} {w:World}
 {dst:Option Nat} {ty:TypeId} {pos:String} {after:Array Edge} {g:Option (Nat×Bool)} {x y:Operand}
def Xx {S D b a:Nat} {z:Int} {c:UInt8} {U:TypeId} (i:P.underlying S=some (.slice E)) (f:P.underlying E=some (.int .u8)) (d:P.underlying D=some .string) (m:gate ops e g=true) (l:cN n dst=true) 
  (p:ev e x= .slice (some ⟨b,0,none⟩) 1 a) (hb:aL w b [.int .u8 z].toArray U) (q:z=(c.toNat:Int)) (k:OW P n ops K rest (cC e dst<|str [c]) w):OW P n ops K (⟨dst,.convert S D x,ty,pos,after,g⟩::rest) e w:=by
 have r:=run_convert_bytes_back (P:=P) w S D E ⟨b,0,none⟩ a [c] i f d (by
  intro j o;have:j=0:=by simpa using o
  subst this;have:=hb.cell 0;simpa[Addr.add,q] using this)
 exact fY m l (v:=str [c]) (w':=w) (by have s:ev e x= .slice (some ⟨b,0,none⟩) ([c]:List UInt8).length a:=p;simp only[execOp,s,Sem.run_bind,r,Result.andThen_ok,Sem.run_pure]) k
def Xy {T TS:Nat} {a:Option Nat} {d:List aj} {s:aj} {o j c:Nat} (B:TI P T 1 bytes z) (m:gate ops e g=true) (t:ev e x= .pointer (some ⟨b,o,none⟩)) (u:ev e y=str s) (p:o=i) 
  (l:dk w TS (.slice (some ⟨b,0,none⟩) j c) a d) (F:i<d.length)
  (k:∀w',ak a.toList w w'->dk w' TS (.slice (some ⟨b,0,none⟩) j c) a (d.set i s)->w'.heap.size=w.heap.size->OW P n ops K rest e w'):OW P n ops K (⟨none,.store T x y,ty,pos,after,g⟩::rest) e w:=by
 subst p;obtain⟨_,h|⟨_,_,_,D,r,hb,C,E,f,q⟩⟩:=l
 .obtain⟨h,_⟩:=h;cases h
 .cases r;subst D;refine OF B rfl m t u rfl hb (by rw[f];omega) λw' hk A v=>?_;refine k w' (by simpa using hk) ⟨by simp,.inr ⟨b,_,_,rfl,sm,A,by simpa using C,E,by simpa using f,?_⟩⟩ v;rw[Array.toList_setIfInBounds,List.length_set,List.take_set,q,List.map_set]
end
def Xz {c:Type}:∀{rows:List (List c)} {i j:Nat} {a:c} {row:List c},(∀row∈rows,row.length=sz)->rows[i]?=some row->j<sz->rows.flatten.set (i*sz+j) a=(rows.set i<|row.set j a).flatten
 |r::rows,0,j,a,row,h,hi,hj=>by simp only[List.getElem?_cons_zero,Option.some.injEq] at hi;subst hi;have b:r.length=sz:=h r sm;rw[List.flatten_cons,Nat.zero_mul,Nat.zero_add,List.set_cons_zero,List.flatten_cons,List.set_append_left _ _ om]
 |r::rows,i+1,j,a,row,h,hi,hj=>by
  have b:r.length=sz:=h r sm;have:=Xz (rows:=rows) (a:=a) (λrow b=>h row<|by simp[b]) (by simpa using hi) hj;rw[List.flatten_cons,List.set_cons_succ,List.flatten_cons,List.set_append_right _ _ (by rw[b,Nat.add_mul];omega),b,<-this]
  congr 2
  rw[Nat.add_mul];omega
theorem jX.set {T:TypeId}:∀{gss:List (Option Nat×Option Nat)} {m:List (List Value)} {bs:List Bk} {i:Nat} {g:Option Nat×Option Nat} {v:List Value} {f:Bk},jX w T gss m bs->gss[i]?=some g->sh w' T g v f->
  (∀(j:Nat) (a:Option Nat×Option Nat) (d:List Value) (c:Bk),j≠i->gss[j]?=some a->sh w T a d c->sh w' T a d c)->jX w' T gss (m.set i v) (bs.set i f)
 |[],[],[],i,g,v,f,_,l,_,_=>by simp at l
 |g0::e,v0::vs,b0::bs,0,g,v,f,h,l,hf,hk=>by
  simp only[List.getElem?_cons_zero,Option.some.injEq] at l;subst l;refine⟨hf,?_⟩;have p:∀{e:List (Option Nat×Option Nat)} {vs:List (List Value)} {bs:List Bk},(∀(j:Nat) (a:Option Nat×Option Nat) (d:List Value) (c:Bk),e[j]?=some a->sh w T a d c->sh w' T a d c)->jX w T e vs bs->jX w' T e vs bs:=by
   intro e;induction e with
   |nil=>intro vs bs _ h;cases vs<;>cases bs<;>first|trivial|exact h.elim
   |cons g e q=>
    intro vs bs hk h;cases vs with
    |nil=>cases bs<;>exact h.elim
    |cons v vs=>
     cases bs with
     |nil=>exact h.elim
     |cons b bs=>exact⟨hk 0 _ _ _ rfl h.1,q (λj a d c n=>hk (j+1) a d c<|by simpa using n) h.2⟩
  exact p (λj a d c n o=>hk (j+1) a d c om (by simpa using n) o) h.2
 |g0::e,v0::vs,b0::bs,i+1,g,v,f,h,l,hf,hk=>
  ⟨hk 0 _ _ _ om rfl h.1,jX.set h.2 (by simpa using l) hf λj a d c n r o=>hk (j+1) a d c om (by simpa using r) o⟩
def Ej {g:Option Nat×Option Nat} (a:gss[i]?=some g) (b:x∈j6 g):x∈iG gss:=by grind [iG]
def aj7:∀{gss:List (Option Nat×Option Nat)} {i j:Nat} {g a:Option Nat×Option Nat} {x:Nat},(iG gss).Nodup->i≠j->gss[i]?=some g->gss[j]?=some a->x∈j6 g->x∉j6 a:=by intro x;induction x<;>grind [iG,j6]
theorem oo.row {w w':World} {n TS:TypeId} {v:Value} {g:Option Nat} {c:List (Option Nat×Option Nat)} {a:List (List Value)} {bs:List Bk} {i:Nat} {e:Option Nat×Option Nat} {m:List Value} {f:Bk} {L:List Nat} 
  (h:oo w n TS v g c a bs) (l:c[i]?=some e) (r:a[i]?=some m) (hk:ak L w w') (o:∀x∈L,x∈j6 e) (u:sh w' TS e m f):oo w' n TS v g c a (bs.set i f):=by
 have p:=(List.nodup_append.1 h.nodup);have s:a.set i m=a:=by
  refine List.ext_getElem sm λj _ t=>?_;rw[List.getElem_set];split
  .rename_i C;subst C;rw[gE t] at r;simpa using r.symm
  .rfl
 have q:=jX.set (w':=w') h.rows l u λj _ _ _ y A z=>z.aG hk λx d B=>aj7 p.2.1 y A l d<|o x B;rw[s] at q;exact⟨by rw[List.length_set];exact h.own.aG hk λb hb d=>p.2.2 b (by simp[hb]) b (Ej l<|o b d) rfl,q,h.nodup,λx d=>lL (h.lt x d) hk.size⟩
section
variable {P:Program} {n:Nat} {ops:Array Oper} {K:Env->World->Prop} {rest:List Oper} {e:Env} {w:World}
 {dst:Option Nat} {ty:TypeId} {pos:String} {after:Array Edge} {g:Option (Nat×Bool)} {x y:Operand}
end
def XA (k:Nat):(48:Int)+((k%10:Nat):Int)=((UInt8.ofNat<|48+k%10).toNat:Int):=by simp_all[Nat.mod_eq_of_lt,Nat.reducePow];omega
def dk.form {T:TypeId} (h:dk w T (.slice a n c) g xs) (d:0<xs.length):∃b,a=some ⟨b,0,none⟩/\g=some b:=by cases h.2<;>grind
theorem dk.cases {T:TypeId} (h:dk w T v g xs):∃a c,v= .slice a xs.length c:=jT.len h
theorem oo.get {C TS:TypeId} {e:List (List Value)} (h:oo w C TS (.slice a n c) g gss e bs) (E:i<bs.length):
  ∃b d a1 c1 a2 c2,a=some ⟨b,0,none⟩/\g=some b/\b<w.heap.size/\b∉j6 d/\gss[i]?=some d/\e[i]?=some [str (bJ bs i).aQ,.slice a1 (bJ bs i).bS.length c1,.slice a2 (bJ bs i).code.length c2]/\
   gj w b (0+i*3) [str (bJ bs i).aQ,.slice a1 (bJ bs i).bS.length c1,.slice a2 (bJ bs i).code.length c2]/\
   dk w TS (.slice a1 (bJ bs i).bS.length c1) d.1 (bJ bs i).bS/\dk w TS (.slice a2 (bJ bs i).code.length c2) d.2 (bJ bs i).code/\(∀x,d.1=some x->d.2=some x->False):=by
 have y:=List.nodup_append.1 h.nodup;obtain⟨_,_,L⟩:=h.rows.lens;obtain⟨d,vs,o,r,_,_,rfl,s,t⟩:=h.rows.get<|pC E;obtain⟨a1,c1,rfl⟩:=dk.cases s;obtain⟨a2,c2,rfl⟩:=dk.cases t;obtain⟨_,B|⟨b,_,l,K,H,hb,_,_,_,A⟩⟩:=h.own
 .obtain⟨_,B,_⟩:=B;omega
 .cases H;subst K;refine⟨b,d,a1,c1,a2,c2,rfl,rfl,hb.lt,λI=>y.2.2 b sm b (Ej o I) rfl,o,r,λj v F=>?_,s,t,λx D u=>?_⟩
  .have z:=Dt L r F;have M:i*3+j<e.flatten.length:=(List.getElem?_eq_some_iff.1 z).1;rw[hb.cell,Nat.zero_add];have u:=A;have:(l.toList.take<|bs.length*3)[i*3+j]?=some v:=by rw[A];exact z
   rw[List.getElem?_take] at this;split at this
   .simpa using this
   .cases this
  .have f:(j6 d).Nodup:=by
    have:∀{gss:List (Option Nat×Option Nat)} {i:Nat},(iG gss).Nodup->gss[i]?=some d->(j6 d).Nodup:=by
     intro gss;induction gss with
     |nil=>intro i _ h;simp at h
     |cons p q J=>
      intro i f m;rw[Mq,List.nodup_append] at f;cases i with
      |zero=>simp at m;subst m;exact f.1
      |succ i=>exact J f.2.1<|by simpa using m
    exact this y.2.1 o
   simp[j6,D,u] at f
def aj8 (w:World):bC Tryz.prog 76 [str [],.int .i64 0,.int .i64 0] w λr w'=>r= .tuple #[.agg #[str [],.slice none 0 0],.int .i64 (-1)]/\ak [] w w':=by have a:=ak.refl [] w;refine lq [.cell 6 93,.tmp 7] 87 Tryz.func76 rfl Lz rfl rfl rfl ?_;refine zr<|dw aK rfl rfl rfl λ_ j b _=>?_;have a:=a.grow;have a:=a.ext j;refine zA<|aX<|zr<|jV (Gh _) rfl rfl<|dw aK rfl rfl rfl λ_ e f _=>?_;have a:=a.grow;have a:=a.ext e;have b:=b.grow;have b:=b.ext e;refine cJ aK rfl rfl rfl f rfl λl d f _=>?_;have a:=a.aB d sx;have b:=b.aB d sx;refine aX<|jF<|zr<|zm<|HZ rfl rfl rfl rfl rfl<|zm ?_;apply Dw 5 15 20 [15,16,17,18,19,20] (λw'=>l=w') rfl;intro c;replace c:=jY c;refine W ?_;exact mg rfl rfl;intro c;replace c:=jY c;refine W ?_;exact mg rfl rfl;rintro _ _ rfl;refine aX<|zc rfl (λg=>?_) λg=>?_;refine W ?_;refine cJ aK rfl rfl rfl b rfl λ_ i b _=>?_;have a:=a.aB i sx;refine W ?_;exact⟨[_,_],⟨gk eU aK rfl b rfl,rfl⟩,rfl,a⟩;simp at g
def GF (s:aj) (L:List Nat) (w:World) (p:∀x∈L,x<w.heap.size):
  bC Tryz.prog 54 [str s] w λv w'=>(∃t d,v= .tuple #[d,.bool (bU s).isSome]/\ba L w' d t/\yQ s t)/\ak [] w w':=by
 by_cases l:s=[]
 .subst l;have a:=ak.refl [] w;refine lq [.cell 2 93,.tmp 3] 20 Tryz.func54 rfl VU rfl rfl rfl ?_;refine zr<|dw aK rfl rfl rfl λz m b _=>?_;have a:=a.grow;have a:=a.ext m;refine W ?_;refine zc rfl (λc=>?_) λc=>?_;simp at c;refine iH<|zr<|zm<|aA (aj8 z) ?_;rintro _ _ ⟨rfl,j⟩;have A:=j.size;refine bQ j a b λa b=>?_;refine W ?_;refine dw aK rfl rfl rfl λ_ i f _=>?_;have a:=a.grow;have a:=a.ext i;have b:=b.grow;have b:=b.ext i;refine cJ aK rfl rfl rfl f rfl λ_ g f _=>?_;have a:=a.aB g sx;have b:=b.aB g sx;refine W ?_;refine cJ aK rfl rfl rfl b rfl λ_ n b _=>?_;have a:=a.aB n sx;refine W ?_;exact⟨[_,_],⟨gk eU aK rfl b rfl,rfl⟩,⟨.mk [] [],_,by rw[LQ];rfl,jM l8,λ_ h=>(by rw[LQ] at h;cases h),λ_=>rfl⟩,a⟩
 .obtain⟨c,o⟩:=y0 s L w p;exact⟨c,Calls.mono o λe w' ⟨v,q,⟨t,d,y,u,r⟩,hk⟩=>⟨v,q,⟨t,d,y,u,r,λe=>absurd e l⟩,hk⟩⟩
def aj9 (k:Bk) (B:k.bS.length<=40) (v:Value) (g:List Nat) (w:World) (u:qC g w v k):bC Tryz.prog 53 [v] w λr w'=>bo [] w' r (uh k.bS k.bS.length)/\ak [] w w':=by
 obtain⟨a1,_,c1,a2,y,c2,rfl,A,_,z,_⟩:=BQ u;subst A;have a:=ak.refl [] w;refine cm [.tmp 2] 22 Tryz.func53 rfl ahx rfl rfl ?_;refine zr<|eH rfl λe l c o=>?_;have a:=a.ext l;refine zA<|aX<|zr<|ajK (zs:=[str []]) (row:=[.val (str [])]) w.heap.size 40 [] bB bz rfl rfl rfl rfl rfl rfl rfl rfl rfl om (λ_ _=>⟨.val _,trivial⟩) a.size sm λ_ m o d=>bQ m a c λa c=>?_;rw[show List.replicate 40 [C.val (str [])]=gm (uh k.bS 0) from by rw[ai8];unfold gm;rw[List.map_replicate]] at d;refine W ?_;refine eZ (λj:Nat=>[(1,.pointer<|some ⟨w.heap.size,0,none⟩),(3,.slice (some ⟨e.heap.size,0,none⟩) 40 40),(4,.int .i64 (j:Int))]) (λj w'=>ak [] w w'/\aL w' w.heap.size [str k.aQ,.slice a1 k.bS.length c1,.slice a2 y c2].toArray 30/\Gr w.heap.size [] w' 9 1 (.slice (some ⟨e.heap.size,0,none⟩) 40 40) (some e.heap.size) (gm<|uh k.bS j)/\j<=k.bS.length) (λj=>k.bS.length-j) (0) (⟨rfl,rfl,rfl⟩) (⟨a,c,d,om⟩) λb _ _ q=>?_;obtain⟨a,c,d,hk⟩:=q;refine W ?_;refine zc rfl (λp=>?_) λp=>?_;have t:=jW (xs:=k.bS) (i:=b) om;obtain⟨_,_,rfl,n⟩:=mY z t;refine WL ?_;refine zl pD rfl (c.at rfl)<|zm<|zi bB bz rfl rfl om<|zl fA rfl (n.ext a 0 _ rfl)<|zi bB bz rfl rfl om<|Qn (i:=b) (vs:=[str (cu k.bS b)]) (row:=[.val (str<|cu k.bS b)]) bz rfl rfl rfl rfl om d (by rw[oX];simp[uh];omega) rfl rfl ⟨.val _,trivial⟩ λ_ f _ d=>?_;have a:=a.since f so;have c:=c.aB f so;rw[show(gm<|uh k.bS b).set b [C.val (str<|cu k.bS b)]=gm (uh k.bS<|b+1) from by rw[<-ai9 k.bS om];simp only[gm,List.map_set]] at d;refine W ?_;exact⟨b+1,⟨rfl,rfl,rfl⟩,⟨a,c,d,om⟩,om⟩;have s:b=k.bS.length:=by omega
 subst s;refine W ?_;exact⟨_,rfl,d.done,a⟩
def Gr.form {T:TypeId} (h:Gr B L w T sz (.slice a n c) g rows) (f:0<rows.length):∃b,a=some ⟨b,0,none⟩/\g=some b:=by
 obtain⟨xs,d⟩:=h.own;rcases d.own.2 with⟨_,h0,_⟩|⟨b,_,_,e,hv,_⟩
 .omega
 .cases hv;exact⟨b,rfl,e⟩
def XB (b:List aj) (g:b.length<=1000) (d:Nat) (A:d<b.length) (s:aj) (v:Value) (w:World) (q:bo [] w v b):
  bC Tryz.prog 83 [v,.int .i64 (d:Int),str s] w λr w'=>(∃a c,r= .tuple #[.slice a b.length c,.bool (bU s).isSome]/\bo [] w' (.slice a b.length c) (b.set d s))/\ak [] w w':=by
 obtain⟨a,n,c,rfl,B⟩:=eA q;subst B;have e:=ak.refl [] w;refine cm [.tmp 6,.tmp 7] 19 Tryz.func83 rfl ahX rfl rfl ?_;refine W ?_;refine xF w.heap.size [] bB bz rfl rfl (lR _) sm λ_ m _ f=>?_;have z:=cw.ext (cw.fresh q (L':=[w.heap.size]) (by intro x g;simp at g;subst g;exact .inr (lR _))) m;have e:=e.ext m;refine zm<|xO bB bz rfl rfl rfl rfl rfl rfl f (cw.weaken z sm) (by intro row p;simp only[gm,List.mem_map] at p;obtain⟨x,_,rfl⟩:=p;intro c o u D;simp only[mC,List.not_mem_nil,or_false] at o;subst o;cases D;rfl) (by rw[oX];simp;omega) λa4 _ _ _ j y=>?_;have e:=f.since e y;rw[show([]:List (List C)).length+(gm b).length=b.length from by rw[oX];simp] at j⊢;rw[List.nil_append] at j;refine W ?_;obtain⟨_,rfl,rfl⟩:=j.form (by rw[oX];omega);refine W ?_;refine Qn (i:=d) (vs:=[str s]) (row:=[.val (str s)]) bz rfl rfl rfl rfl om j (by rw[oX];exact A) rfl rfl ⟨.val _,trivial⟩ λE t _ f=>?_;have e:=e.since t (by intro x g;simp at g;subst g;exact .inr (j.low _ rfl));rw[show(gm b).set d [C.val (str s)]=gm (b.set d s) from by simp only[gm,List.map_set]] at f;refine W ?_;refine aA (aj6 s E) ?_;rintro _ _ ⟨rfl,l⟩;have F:=l.size;refine bQ l e f λe f=>?_;refine W ?_;exact⟨_,rfl,⟨_,_,rfl,f.done⟩,e⟩
def XC (b:List aj) (y:iy b<=1000000000) (v:Value) (L:List Nat) (w:World) (g:bo L w v b):bC Tryz.prog 82 [v] w λr w'=>r= .bool (Gm b)/\ak [] w w':=by
 obtain⟨a,n,c,rfl,q⟩:=eA g;subst q;have e:=ak.refl [] w;have j:=λk=>afs b k;have z:b.length<=iy b:=by unfold iy;omega
 have A:wo b 0=b.length:=by simp[wo]
 refine cm [.tmp 2] 21 Tryz.func82 rfl ahW rfl rfl ?_;refine W ?_;refine eZ (λk:Nat=>[(0,.slice a b.length c),(3,.int .i64 ((3+k+(wo b k-b.length):Nat):Int)),(4,.int .i64 (k:Int))]) (λk w'=>ak [] w w'/\k<=b.length) (λk=>b.length-k) (0) (⟨rfl,congrArg (Value.int .i64) om,rfl⟩) (⟨e,om⟩) λd _ _ m=>?_;obtain⟨e,hk⟩:=m;refine W ?_;refine zc rfl (λf=>?_) λf=>?_;have p:=jW (xs:=b) (i:=d) om;obtain⟨_,_,rfl,l⟩:=mY g p;have s:=afr (xs:=b) (k:=d) om;have f:=j<|d+1;have t:b.length<=wo b d:=(by unfold wo;omega);refine WL ?_;refine zl fA rfl (l.ext e 0 _ rfl)<|W ?_;exact⟨d+1,⟨rfl,congrArg (Value.int .i64) om,rfl⟩,⟨e,om⟩,om⟩;have o:d=b.length:=by omega
 subst o;have u:=aft (xs:=b)<|lR _;refine W ?_;exact⟨_,rfl,congrArg Value.bool (by unfold Gm;exact decide_eq_decide.2 om),e⟩
def Az (b:List aj) (B:b.length<=1000000000) (s:aj) (v:Value) (L:List Nat) (w:World) (p:bo L w v b):bC Tryz.prog 81 [v,str s] w λr w'=>r= .bool (decide<|s∈b)/\ak [] w w':=by obtain⟨a,n,c,rfl,A⟩:=eA p;subst A;have d:=ak.refl [] w;refine cm [.tmp 4] 18 Tryz.func81 rfl ahV rfl rfl ?_;refine W ?_;refine eZ (λk:Nat=>[(0,.slice a b.length c),(1,str s),(5,.int .i64 (k:Int))]) (λk w'=>ak [] w w'/\k<=b.length/\∀i,i<k->cu b i≠s) (λk=>b.length-k) (0) (⟨rfl,rfl,rfl⟩) (⟨d,om,by intro i j;omega⟩) λf _ _ y=>?_;obtain⟨d,hk,m⟩:=y;refine W ?_;refine zc rfl (λu=>?_) λu=>?_;have o:=jW (xs:=b) (i:=f) om;obtain⟨_,_,rfl,q⟩:=mY p o;refine WL ?_;refine zl fA rfl (q.ext d 0 _ rfl)<|zm<|BG rfl rfl rfl rfl<|aX<|zc rfl (λg=>?_) λg=>?_;have l:s∈b:=(by rw[<-g];exact List.mem_of_getElem? o);refine W ?_;exact⟨_,rfl,by rw[dT l];rfl,d⟩;have t:=g;refine W ?_;exact⟨f+1,⟨rfl,rfl,rfl⟩,⟨d,om,by intro i j;rcases Nat.lt_or_ge i f with h|h;exact m i h;rw[show i=f by omega];exact t⟩,om⟩;have l:¬s∈b:=(λz=>by obtain⟨i,j,e⟩:=List.getElem_of_mem z;exact m i om<|by simp[cu,gE j,e]);refine W ?_;exact⟨_,rfl,by rw[dF l];rfl,d⟩
def XE (xs a:List aj) (N:a.length<=1000000000) (O:xs.length<=1000000000) (y z:Value) (A B:List Nat) (w:World) (s:bo A w y xs) (t:bo B w z a):bC Tryz.prog 79 [y,z] w λr w'=>r= .bool (Am xs a)/\ak [] w w':=by obtain⟨a1,_,c1,rfl,E⟩:=eA s;obtain⟨a2,_,c2,rfl,D⟩:=eA t;subst E D;have c:=ak.refl [] w;refine cm [.tmp 4] 27 Tryz.func79 rfl ahT rfl rfl ?_;refine W ?_;refine eZ (λk:Nat=>[(0,.slice a1 xs.length c1),(1,.slice a2 a.length c2),(5,.int .i64 (k:Int))]) (λk w'=>ak [] w w'/\k<=a.length/\∀i,i<k->i<xs.length/\cu xs i=cu a i) (λk=>a.length-k) (0) (⟨rfl,rfl,rfl⟩) (⟨c,om,by intro i u;omega⟩) λb _ _ H=>?_;obtain⟨c,hk,q⟩:=H;refine W ?_;refine zc rfl (λF=>?_) λF=>?_;have K:=jW (xs:=a) (i:=b) om;obtain⟨_,_,rfl,C⟩:=mY t K;have n:∃f g,b<xs.length->(a1=some ⟨f,g,none⟩/\gj w f (g+b*1) [str (cu xs b)]):=(by by_cases h:b<xs.length;(·obtain⟨f,g,e,I⟩:=mY s<|jW h;exact⟨f,g,λ_=>⟨e,I⟩⟩);(·exact⟨0,0,λj=>absurd j h⟩));obtain⟨f,g,n⟩:=n;refine W ?_;refine Ai [12,13,14,15,16,17,18,19,20,21,22,23,24,25,26] [(26,.bool (decide ((xs.length:Int)<=(b:Int))||decide (cu xs b≠cu a b)))] ?_ ?_;rcases bE (decide ((xs.length:Int)<=(b:Int))) with fI|fI;apply jN cY 15 (rA 12 15) (rA 12 15) [[],[],[1],[0,2],[3],[4],[4],[4,5,6],[4,7],[4],[4],[4,9,10],[4,11],[4,8,12],[4,13]] [It.v _,It.v _,It.v _,It.v _,It.v<|.bool true,It.v _,It.v _,It.v _,It.v _,It.v _,It.v _,It.v _,It.v _,It.v _,It.v _] de rfl;intro M aC;refine VA ?_;refine vc (λx m d=>?_) ?_;refine WZ ?_;exact pv (by exact congrArg Value.bool fI);exact VZ;intro x v l;change OW _ _ _ _ [] (bf (aY _ x _) (zZ 12 [_,_,_,_,_,_,_,_,_,_,_,_,_,_,_])) _;refine W ?_;exact kE l;apply jN cY 15 (rA 12 15) (rA 12 15) [[],[],[1],[0,2],[3],[4],[4],[4,5,6],[4,7],[4],[4],[4,9,10],[4,11],[4,8,12],[4,13]] [It.v _,It.v _,It.v _,It.v _,It.v (.bool false),It.v (.slice (some ⟨f,g,none⟩) xs.length c1),It.v _,It.v _,It.v _,It.v _,It.v _,It.v _,It.v _,It.v _,It.v _] de rfl;intro M aC;refine VA ?_;refine vc (λx m d=>?_) ?_;refine WZ ?_;exact pv (by exact congrArg Value.bool fI);refine vc (λx m d=>?_) ?_;refine WZ ?_;exact pv (by exact(show Value.slice a1 xs.length c1= .slice (some ⟨f,g,none⟩) xs.length c1 from by rw[(n (by first|(simp at o;omega)|(simp at fI;omega))).1]));refine VA ?_;refine vk aC (λx m d=>?_) ?_;have o:=fI;refine zi bB bz rfl rfl (by first|(simp at o;omega)|(simp at fI;omega)) ?_;exact pv;refine vk aC (λx m d=>?_) ?_;have c:=c.ext d;have o:=fI;refine zl fA rfl ((n (by first|(simp at o;omega)|(simp at fI;omega))).2.ext c 0 _ rfl) ?_;exact pv;refine VA ?_;refine vk aC (λx m d=>?_) ?_;have c:=c.ext d;refine zl fA rfl (C.ext c 0 _ rfl) ?_;exact pv;exact VZ;intro x v l;change OW _ _ _ _ [] (bf (aY _ x _) (zZ 12 [_,_,_,_,_,_,_,_,_,_,_,_,_,_,_])) _;refine W ?_;exact kE l;intro x v l;have c:=c.ext l;refine zc rfl (λj=>?_) λj=>?_;have p:Am xs a=false:=dF (λJ=>by obtain⟨q1,q2⟩:=J b om;simp only[oE,dE] at j;rcases j with h|h;(·omega);(·exact h q2));refine W ?_;exact⟨_,rfl,by rw[p];rfl,c⟩;have L:b<xs.length/\cu xs b=cu a b:=(by simp only[Bool.or_eq_false_iff,decide_eq_false_iff_not] at j;exact⟨by omega,Classical.not_not.1 j.2⟩);refine W ?_;exact⟨b+1,⟨rfl,rfl,rfl⟩,⟨c,om,by intro i u;rcases Nat.lt_or_ge i b with h|h;exact q i h;rw[show i=b by omega];exact L⟩,om⟩;have p:Am xs a=true:=dT λi u=>q i om;refine W ?_;exact⟨_,rfl,by rw[p];rfl,c⟩
def aka (h:n<10):(48:Int)+(n:Int)=((UInt8.ofNat<|48+n).toNat:Int):=by have:=XA n;rwa [Nat.mod_eq_of_lt h] at this
def akb (n:Nat) (h:n<=1000):(aS n).length<=4:=by
 have a:∀k,k<10->(aS k).length=1:=λk hk=>by unfold aS;rw[iP hk];rfl
 have b:∀k,k<100->(aS k).length<=2:=λk hk=>by
  unfold aS;split
  .simp
  .have:=a (k/10) om;simp;omega
 have c:∀k,k<1000->(aS k).length<=3:=λk hk=>by
  unfold aS;split
  .simp
  .have:=b (k/10) om;simp;omega
 unfold aS;split
 .simp
 .have:=c (n/10) om;simp;omega
def Ek (z:Int) (v:Value) (w:World):Prop:=∃b,v= .slice (some ⟨b,0,none⟩) 1 1/\aL w b [.int .u8 z].toArray 5
def Ek.ext {z:Int} (h:Ek z v w) (k:ak [] w w'):Ek z v w':=by obtain⟨b,e,h⟩:=h;exact⟨b,e,h.ext k⟩
def GG:∀(m n:Nat),n<=m->(aS n).length<=n+1
 |m,n,h=>by
  rw[aS];by_cases a:n<10
  .rw[iP a];simp
  .rw[iN a];cases m with
   |zero=>omega
   |succ m=>have:=GG m (n/10) om;simp only[lA,List.length_singleton];omega
def jo:∀(m n:Nat),n<m->n<=1000000->∀w:World,bC Tryz.prog 124 [.int .i64 (n:Int)] w λr w'=>r=str (aS n)/\ak [] w w':=by
 intro m;induction m with
 |zero=>intro n A;omega
 |succ m B=>
  intro n A _ w;have d:=ak.refl [] w;have F:=GG _ (n/10)<|lR _;refine cm [.tmp 2] 28 Tryz.func124 rfl afQ rfl rfl ?_;refine W ?_;refine zc rfl (λu=>?_) λu=>?_;omega;refine W ?_;refine zc rfl (λy=>?_) λy=>?_;omega;refine W ?_;refine zc rfl (λz=>?_) λz=>?_;refine W ?_;refine Ac yO Ak rfl rfl rfl (wrap_u8 _ om om)<|gv DU IK rfl rfl λf c C _=>?_;have d:=d.ext c;refine Xx DU Ak jm rfl rfl rfl C (aka om)<|zA<|aX<|lO ?_;exact⟨_,rfl,congrArg str<|show[UInt8.ofNat (48+n)]=aS n from by rw[aS,iP om],d⟩;have t:¬n<10:=by omega
  refine WZ ?_;apply oZ cY bA 10 (rA 18 10) (rA 18 10) [[],[0],[1],[],[3],[4],[5],[6],[7],[2,8]] [.v _,.v _,.v _,.v _,.v _,.v _,.v _,.p<|fun(v:Value) (g:World)=>Ek ((48:Int)+((n%10:Nat):Int)) v g,.v<|str [UInt8.ofNat (48+n%10)],.v (str<|aS (n/10)++[UInt8.ofNat (48+n%10)])] de (by exact(bF<|bF (bF<|bF (bF<|bF (bF<|mH (λv w w' h k=>Ek.ext h k) (bF<|bF trivial))))));intro _ aC;refine cD (λ_ _ _=>WZ<|bR bA) ?_;refine cD (λ_ _ _=>OG (b:=10) rfl rfl rfl rfl rfl om (wrap_i64 _ om om)<|bR bA) ?_;refine gQ bA aC (λx f c=>?_) ?_;refine aA (B (n/10) om om f) ?_;rintro _ D ⟨rfl,i⟩;have E:=i.size;exact DP bA i;refine cD (λ_ _ _=>WZ<|bR bA) ?_;refine cD (λ_ _ _=>H3 (b:=10) rfl rfl rfl rfl rfl om<|bR bA) ?_;refine cD (λ_ _ _=>WZ<|bR bA) ?_;refine cD (λ_ _ _=>Ac yO Ak rfl rfl rfl (wrap_u8 _ om om)<|bR bA) ?_;refine eN ?_ ?_;intro x vs f e c l a;have d6:vs 6=(.int .u8<|(48:Int)+((n%10:Nat):Int)):=l;replace c:=bA.trans aC c;replace a:e=bf (aY _ x _) [(24,vs 6)]:=a;rw[d6] at a;subst a;refine gv DU IK rfl rfl λD i j _=>W ?_;exact dn (bA.of i) ⟨_,rfl,j⟩;refine eN ?_ ?_;intro x vs f e c l a;have d7:(fun(v:Value) (g:World)=>Ek ((48:Int)+((n%10:Nat):Int)) v g) (vs 7) f:=l;replace c:=bA.trans aC c;replace a:e=bf (aY _ x _) [(25,vs 7)]:=a;obtain⟨_,s,j⟩:=d7;rw[s] at a;subst a;refine Xx DU Ak jm rfl rfl rfl j (XA n)<|aX ?_;exact dn (bA.refl _) rfl;refine cD (λ_ _ _=>WZ<|bR bA) ?_;exact trivial;intro x p q;intro o d7;replace d7:(fun(v:Value) (g:World)=>Ek ((48:Int)+((n%10:Nat):Int)) v g) o p:=d7;have d:=d.ext q;change OW _ _ _ _ _ (bf (aY _ x _)<|zZ 18 [_,_,_,_,_,_,_,o,_,_]) _;refine W ?_;exact⟨_,rfl,congrArg str<|show aS (n/10)++[UInt8.ofNat (48+n%10)]=aS n from by conv=>(rhs;rw[aS,iN t]),d⟩
def AA (s:aj) (w:World):bC Tryz.prog 123 [str s] w λr w'=>r= .agg #[str s,.slice none 0 0]/\ak [] w w':=by have a:=ak.refl [] w;refine lq [.cell 2 93] 5 Tryz.func123 rfl afP rfl rfl rfl ?_;refine zr<|dw aK rfl rfl rfl λ_ c b _=>?_;have a:=a.grow;have a:=a.ext c;refine aX<|zr<|zm<|jV (aik _ _) rfl rfl<|cJ aK rfl rfl rfl b rfl λ_ d b _=>?_;have a:=a.aB d sx;refine W ?_;exact⟨[_],gk eU aK rfl b rfl,rfl,a⟩
def eE.sub {T:TypeId} (h:eE L w T sz v g rows) (c:∀x∈L',x∈L\/w.heap.size<=x):eE L' w T sz v g rows:=by obtain⟨xs,a,b⟩:=h.own;exact⟨⟨xs,a,b.fresh c⟩,h.row⟩
structure KA (L:List Nat) (T:TypeId) (sz:Nat) (g:Option Nat) (rows rows':List (List C)) (w w':World):Prop where
 aG:ak g.toList w w'
 old:∀v,eE (g.toList++L) w T sz v g rows->eE (g.toList++L) w' T sz v g rows
 new:∀v g',eE (g.toList++(g'.toList++L)) w T sz v g' rows'->eE (g.toList++(g'.toList++L)) w' T sz v g' rows'
def eE.any {T:TypeId} (h:eE L w T sz v g rows) (k:ak [] w w'):eE L w' T sz v g rows:=h.aG (Fr.of k sm) k sm
def XF (L:List Nat) (T:TypeId) (c:Nat) (g:Option Nat) (rows a:List (List C)):Kept (KA L T c g rows a):=
 ⟨λ_=>⟨ak.refl _ _,λ_ h=>h,λ_ _ h=>h⟩,λh k=>⟨h.aG.trans k.aG,λv x=>k.old v<|h.old v x,λv b x=>k.new v b<|h.new v b x⟩,
  λh=>⟨h.any,λ_ x=>x.any h,λ_ _ x=>x.any h⟩⟩
section
variable {P:Program} {w:World}
def akc {t ty T:TypeId} {i:TypeInfo} {K bytes:Nat} (X:P.underlying t=some (.slice T)) (V:P.info? T=some i) (hz:i.zero=some z) 
  (Dn:i.size=K) (ic:i.bytes=bytes) (xm:z.cells.size=K) {L:List Nat}
  {v:Value} {g:Option Nat} {rows:List (List C)} {row:List C} (hO:eE (g.toList++L) w T K v g rows)
  (D c:Nat) (a:List Value) (ix:row.length=K) (Dp:gj w D 0 a) (y:∀u∈a,u.oneCell'=true) (q:dC (g.toList++L) w a row)
  (hb:(rows.length+1)*(bytes+1)<=140737488355328):
  ∃v' F w',(Builtin.append_ #[t,t] ty #[v,.slice (some ⟨D,0,none⟩) 1 c]).run P w= .ok v' w'/\eE (g.toList++(F.toList++L)) w' T K v' F (rows++[row])/\KA L T K g rows (rows++[row]) w w'/\
   (F=g\/F=some w.heap.size):=by
 subst Dn;subst ic;obtain⟨xs,E,Z⟩:=hO.own;have aW:(rows.length+1)*i.bytes+(rows.length+1)<=140737488355328:=by rw[Nat.mul_add,Nat.mul_one] at hb;exact hb
 have Dq:rows.length+1<=maxLen:=by unfold maxLen;omega
 have N:(rows.length+1)*i.bytes<=140737488355328:=by omega
 have H:a.length=1*i.size:=by rw[q.length,ix,Nat.one_mul]
 have Oz:rows.length+1<=9223372036854775807:=by simp only[maxLen] at Dq;omega
 have f:(xs++a).length=(rows.length+1)*i.size:=by rw[lA,E.1,H,Nat.add_mul]
 have Dr:∀b o j:Nat,(⟨b,o,none⟩:Addr).add j=⟨b,o+j,none⟩:=λb o j=>by unfold Addr.add;split<;>simp_all
 have Q:∀j u,a[j]?=some u->w.cell? ((⟨D,0,none⟩:Addr).add j)=some u:=λj u I=>by rw[Dr];exact Dp j u I
 have XG:∀r∈rows++[row],r.length=i.size:=λr e=>by
  rcases mA.1 e with e|e
  .exact hO.row r e
  .simp at e;rw[e];exact ix
 have Y:(rows++[row]).flatten=rows.flatten++row:=by simp
 have p:∀(old:Nat),old<rows.length+1->
   eE (g.toList++((some w.heap.size).toList++L)) (w.drew.alloc<|.cells (xs.toArray++a.toArray++Builtin.zeroCells z.cells (grownCap w (rows.length+1) old T-(rows.length+1))) T) T i.size
    (.slice (some ⟨w.heap.size,0,none⟩) (rows.length+1)<|grownCap w (rows.length+1) old T) (some w.heap.size) (rows++[row])/\
   ak [] w (w.drew.alloc<|.cells (xs.toArray++a.toArray++Builtin.zeroCells z.cells (grownCap w (rows.length+1) old T-(rows.length+1))) T):=by
  intro old _;have tX:=grownCap_ge w (rows.length+1) old T;have ry:grownCap w (rows.length+1) old T<=maxLen:=grownCap_le_maxLen w (rows.length+1) old T Dq;have hk:ak [] w (w.drew.alloc<|.cells (xs.toArray++a.toArray++Builtin.zeroCells z.cells (grownCap w (rows.length+1) old T-(rows.length+1))) T):=⟨rfl,rfl,rfl,sm,λk hk _=>(ak.alloc [] w.drew _).block k hk sm⟩;refine⟨⟨⟨xs++a,⟨by simpa using f,.inr ⟨w.heap.size,_,_,rfl,?_,heap_alloc_new w.drew _,?_,ry,?_,?_⟩⟩,?_⟩,XG⟩,hk⟩
  .simp
  .simpa using tX
  .simp only[Array.size_append,List.size_toArray,size_zeroCells,xm,E.1,H,<-Nat.add_mul]
   congr 1
   omega
  .simp only[Array.toList_append,List.append_assoc];rw[<-List.append_assoc,lA,List.length_singleton,<-f];exact List.take_left
  .rw[Y];refine((Z.append q).fresh (L':=g.toList++((some w.heap.size).toList++L)) λx e=>?_).aG hk.any;rcases mA.1 e with e|e
   .exact .inl<|by simp[e]
   .rcases mA.1 e with e|e
    .right;simp at e;omega
    .exact .inl<|by simp[e]
 rcases E.2 with⟨rfl,Av,rfl⟩|⟨b,cap,cur,rfl,rfl,hb,pW,ry,cO,Ab⟩
 .have e:xs=[]:=List.eq_nil_of_length_eq_zero (by rw[E.1,Av];simp);subst e;have q:=run_append_nil (P:=P) w t ty T i z X V hz ⟨D,0,none⟩ 1 c a H Q om om (by rw[Av] at N;simp only[Nat.zero_add] at N;omega);have B:=p 0 om;rw[Av] at B;simp only[Nat.zero_add,List.nil_append,Array.empty_append] at B⊢;exact⟨_,some w.heap.size,_,q,B.1,(XF L T i.size none rows<|rows++[row]).of B.2,.inr rfl⟩
 .by_cases yA:rows.length+1<=cap
  .have oe:rows.length*i.size+a.length<=cur.size:=by rw[H,cO,<-Nat.add_mul];exact Nat.mul_le_mul_right _ yA
   have kL:=run_append_room (P:=P) w t ty T i X V b rows.length cap cur hb ⟨D,0,none⟩ 1 c a H Q y yA oe;have J:ak [b] w (w.setRow b (cur.toList.take (rows.length*i.size)++a++cur.toList.drop (rows.length*i.size+a.length)).toArray):=⟨rfl,rfl,rfl,sm,λk _ hk=>setRow_other w b k _<|by simpa using hk⟩;have GH:aL (w.setRow b (cur.toList.take (rows.length*i.size)++a++cur.toList.drop (rows.length*i.size+a.length)).toArray) b (cur.toList.take (rows.length*i.size)++a++cur.toList.drop (rows.length*i.size+a.length)).toArray T:=setRow_heap w b cur _ T _ hb;have fV:(cur.toList.take (rows.length*i.size)++a++cur.toList.drop (rows.length*i.size+a.length)).toArray.size=cap*i.size:=by simp only[List.size_toArray,lA,List.length_take,List.length_drop,Array.length_toList];omega
   have XH:(cur.toList.take (rows.length*i.size)++a++cur.toList.drop (rows.length*i.size+a.length)).take ((rows.length+1)*i.size)=xs++a:=by rw[Ab,<-f];exact List.take_left
   have U:(cur.toList.take (rows.length*i.size)++a++cur.toList.drop (rows.length*i.size+a.length)).take (rows.length*i.size)=xs:=by rw[Ab,<-E.1,List.append_assoc];exact List.take_left
   -- whoever owns block b,owns it with this size
   have l:∀(v:Value) (n:Nat) (m:List Value),jT w T i.size v (some b) n m->∃d,v= .slice (some ⟨b,0,none⟩) n d/\n<=d/\d<=maxLen/\d*i.size=cap*i.size/\m=cur.toList.take (n*i.size):=by
    intro v n m s;rcases s.2 with⟨_,_,h⟩|⟨b',d,cur',e',O,iS,R,ru,S,p3⟩
    .cases h
    .cases e';have:cur'=cur:=by have M:=iS.symm.trans hb;simpa using M
     subst this;exact⟨d,O,R,ru,by rw[<-S,cO],p3.symm⟩
   have wr:∀(v:Value) (n:Nat),(∃d,v=Value.slice (some ⟨b,0,none⟩) n d/\n<=d/\d<=maxLen/\d*i.size=cap*i.size)->∀m:List Value,m.length=n*i.size->(cur.toList.take (rows.length*i.size)++a++cur.toList.drop (rows.length*i.size+a.length)).take (n*i.size)=m->
     jT (w.setRow b (cur.toList.take (rows.length*i.size)++a++cur.toList.drop (rows.length*i.size+a.length)).toArray) T i.size v (some b) n m:=by
    rintro v n ⟨d,O,R,ru,S⟩ m hy eK;exact⟨hy,.inr ⟨b,d,_,rfl,O,GH,R,ru,by rw[fV,S],eK⟩⟩
   refine⟨_,some b,_,kL,⟨⟨xs++a,wr _ _ ⟨cap,sm,by simpa using yA,ry,rfl⟩ _ (by simpa using f)<|by simpa using XH,?_⟩,XG⟩,⟨J,λv s=>?_,λv F s=>?_⟩,.inl rfl⟩
   .rw[Y];exact((Z.append q).fresh λx e=>.inl (by simp only[mA] at e⊢;rcases e with h|h|h;exact .inl h;exact .inl h;exact .inr h)).aG (J.mono λx e=>by simp at e;simp[e])
   .obtain⟨m,y,M⟩:=s.own;obtain⟨d,a1,a2,a3,a4,a5⟩:=l _ _ _ y;refine⟨⟨m,wr _ _ ⟨d,a1,a2,a3,a4⟩ _ y.1 ?_,M.aG (J.mono λx e=>by simp at e;simp[e])⟩,s.row⟩;rw[U,a5,Ab]
   .obtain⟨m,y,M⟩:=s.own;by_cases CF:F=some b
    .subst CF;obtain⟨d,a1,a2,a3,a4,a5⟩:=l _ _ _ y;refine⟨⟨xs++a,wr _ _ ⟨d,a1,a2,a3,a4⟩ _ (by simpa using f)<|by simpa using XH,?_⟩,s.row⟩;rw[Y];exact((Z.append q).fresh λx e=>.inl (by simp only[mA] at e⊢;rcases e with h|h|h;exact .inl h;exact .inl h;exact .inr h)).aG (J.mono λx e=>by simp at e;simp[e])
    .exact⟨⟨m,y.aG J λx e gB=>CF (by simp at gB;rw[e,gB]),M.aG (J.mono λx e=>by simp at e;simp[e])⟩,s.row⟩
  .have A:∀j u,xs[j]?=some u->w.cell? ((⟨b,0,none⟩:Addr).add j)=some u:=λj u I=>by
    rw[Dr,hb.cell];rw[<-Ab,List.getElem?_take] at I;split at I
    .simpa using I
    .cases I
   have q:=run_append_grow (P:=P) w t ty T i z X V hz ⟨b,0,none⟩ rows.length cap xs E.1 A ⟨D,0,none⟩ 1 c a H Q om om<|growslice_fits om N;have B:=p cap om;exact⟨_,some w.heap.size,_,q,B.1,(XF L T i.size (some b) rows<|rows++[row]).of B.2,.inr rfl⟩
end
section
variable {P:Program} {n:Nat} {ops:Array Oper} {K:Env->World->Prop} {rest:List Oper} {e:Env} {w:World}
 {dst:Option Nat} {ty:TypeId} {pos:String} {after:Array Edge} {g:Option (Nat×Bool)} {x y:Operand}
def Em {L:List Nat} {v:Value} {f:Option Nat} {rows:List (List C)} {row:List C} {a:List Value} {b c:Nat} (A:P.underlying t=some (.slice E)) (r:TI P E sz bytes z) (F:gate ops e g=true) (D:cN n dst=true) (N:Nat.beq z.cells.size sz=true) (O:Nat.ble bytes 1000=true) 
  (J:ev e x=v) (M:ev e y= .slice (some ⟨b,0,none⟩) 1 c) (s:eE (f.toList++L) w E sz v f rows) (Q:row.length=sz) (B:gj w b 0 a) (q:∀u∈a,u.oneCell'=true)
  (I:dC (f.toList++L) w a row) (U:rows.length<100000000)
  (k:∀j d w',eE (f.toList++(d.toList++L)) w' E sz j d (rows++[row])->KA L E sz f rows (rows++[row]) w w'->(d=f\/d=some w.heap.size)->OW P n ops K rest (cC e dst j) w'):
  OW P n ops K (⟨dst,.call {callee:=.builtin .append,args:=#[x,y],argTypes:=#[t,t]},ty,pos,after,g⟩::rest) e w:=by
 obtain⟨i,H,l,p,o⟩:=r.get;have T:bytes<=1000:=Nat.le_of_ble_eq_true O;obtain⟨j,d,w',R,m,hk,S⟩:=akc (P:=P) (ty:=ty) A H l p o (Nat.eq_of_beq_eq_true N) s b c a Q B q I
  (Nat.le_trans (Nat.mul_le_mul (show rows.length+1<=100000000 by omega)<|show bytes+1<=1001 by omega) de)
 exact fY F D (w':=w') (by simp only[execOp,resolve,invoke,builtin,Sem.run_bind,Sem.run_pure,Result.andThen_ok,List.map_toArray,List.map_cons,List.map_nil,J,M,R])<|k j d w' m hk S
end
/-! ### Behind it -/
theorem QB:∀{vs:List Value} {xs:List aj},dC L w vs (gm xs).flatten->vs=xs.map λx=>str x
 |[],[],_=>rfl
 |v::vs,x::xs,h=>by obtain⟨a,b⟩:=h;cases a;rw[QB (xs:=xs) b];rfl
def eE.yI {T:TypeId} (h:eE L w T 1 v g (gm xs)):dk w T v g xs:=by obtain⟨vs,a,b⟩:=h.own;rw[oX,QB b] at a;exact a
def XI (L:List Nat) (w:World):∀xs:List aj,dC L w (xs.map λx=>str x) (gm xs).flatten
 |[]=>trivial
 |_::xs=>⟨.val _,XI L w xs⟩
def dk.XJ {T:TypeId} (h:dk w T v g xs) (L:List Nat):eE L w T 1 v g (gm xs):=
 ⟨⟨_,h.ajz,XI L w xs⟩,λrow a=>by obtain⟨x,_,rfl⟩:=List.mem_map.1 a;rfl⟩
theorem XK (a:List aj) (x:aj):gm a++[[.val (str x)]]=gm (a++[x]):=by simp[gm]
theorem ake (a:List Nat) (x:Nat):wA a++[[.val (.int .i64 (x:Int))]]=wA (a++[x]):=by simp[wA]
section
variable {τ:vq} {E L:List Nat} {w w':World} {b:Nat} {o:Bool} {vb vt vc vy:Value} {gb gt gc gy:Option Nat} {m:Mk}
def rO (E:List Nat) (b:Nat) (a c d:Option Nat):List Nat:=E++b::(a.toList++(c.toList++d.toList))
theorem AB:x∈rO E b gb gt gy↔x∈E\/x=b\/x∈gb.toList\/x∈gt.toList\/x∈gy.toList:=by simp[rO]
def iA.QC (h:iA τ E L w b o vb vt vc vy gb gt gc gy m):bo (rO E b gb gt gy) w vc m.code:=by
 obtain⟨a1,a2,a3,a4,a5,a6⟩:=h.apart;rcases h.co with⟨_,h1⟩|⟨_,hn,h1⟩
 .refine h1.rep λx d a=>?_;have c:x∈gc.toList:=by simp[d]
  rw[AB] at a;rcases a with a|a|a|a|a
  .exact(a5 x c).1 a
  .exact(a5 x c).2.1 a
  .exact(a5 x c).2.2.1 a
  .exact(a5 x c).2.2.2 a
  .exact(a6 x a).2.2.2.2 c
 .exact h1.fresh λx d=>.inl<|h.mem.2 (by rw[AB] at d;rcases d with h|h|h|h|h<;>simp[h])
def iA.XL (h:iA τ E L w b o vb vt vc vy gb gt gc gy m):∀x,x∈rO E b gb gt gy->x∈L:=λx a=>h.mem.2 (by rw[AB] at a;rcases a with h|h|h|h|h<;>simp[h])
def iA.akf (h:iA τ E L w b o vb vt vc vy gb gt gc gy m) (c:eE (gb.toList++(g.toList++rO E b gb gt gy)) w' τ.B 3 v g (bs.map Bk.enc)) (k:ak gb.toList w w') (f:g=gb\/∃x,g=some x/\w.heap.size<=x):
  ∃L',iA τ E L' w' b false v vt vc vy g gt none gy {m with blocks:=bs}/\Fr L w L' w':=by
 obtain⟨a1,a2,a3,a4,a5,a6⟩:=h.apart;have q:∀x∈g.toList,x∈gb.toList\/w.heap.size<=x/\x∉gt.toList/\x∉(none:Option Nat).toList/\x∉gy.toList:=λx a=>by
  rcases f with rfl|⟨y,rfl,c⟩
  .exact .inl a
  .have a:x=y:=by simpa using a
   refine .inr ⟨by omega,λi=>?_,sm,λi=>?_⟩<;>have:=h.Mf (x:=x) (by simp[i])<;>omega
 obtain⟨e,p⟩:=h.swap k (λx a=>⟨h.mem.2<|by simp[a],(a3 x a).2,(a3 x a).1⟩) (gb':=g) (gt':=gt) (gc':=none) (gy':=gy) q (λx a=>.inl a) (λx a=>by simp at a) λx a=>.inl a;have j:bo (E++b::(g.toList++(gt.toList++((none:Option Nat).toList++gy.toList)))) w' vc m.code:=by
  have l:bo (rO E b gb gt gy) w' vc m.code:=cw.aB h.QC k λx a=>AB.2 (by simp[a]);have n:bo (g.toList++rO E b gb gt gy) w' vc m.code:=by
   rcases f with rfl|⟨y,rfl,c⟩
   .exact l.fresh λx a=>.inl (by rcases mA.1 a with h|h;exact AB.2 (by simp[h]);exact h)
   .exact cw.aB (h.QC.fresh (L':=(some y).toList++rO E b gb gt gy) λx a=>by
     rcases mA.1 a with h|h
     .simp at h;right;omega
     .exact .inl h) k λx a=>mR _ (AB.2<|by simp[a])
  exact n.fresh λx a=>.inl (by
   rw[As] at a;rw[mA,AB];rcases a with h|h|h|h|h|h
   .simp[h]
   .simp[h]
   .simp[h]
   .simp[h]
   .simp at h
   .simp[h])
 refine⟨_,⟨c.sub λx a=>.inl ?_,h.ta.aG e k λx a c=>(a4 x a).2.2 c,.inr ⟨rfl,rfl,j⟩,h.ty.aG k λx a c=>(a6 x<|by simp[a]).2.2.1 c,rfl,p,?_⟩,e⟩
 .rw[As] at a;rw[mA,mA,AB];rcases a with h|h|h|h|h|h
  .simp[h]
  .simp[h]
  .simp[h]
  .simp[h]
  .simp at h
  .simp[h]
 .intro x a;rw[As] at a;have d:=k.size;rcases a with a|a|a|a|a|a
  .exact lL (h.cT x (h.mem.2<|by simp[a])) d
  .exact lL (h.cT x (h.mem.2<|by simp[a])) d
  .exact c.lt x a
  .exact lL (h.cT x (h.mem.2<|by simp[a])) d
  .simp at a
  .exact lL (h.cT x (h.mem.2<|by simp[a])) d
theorem iA.cR (h:iA τ E L w b o vb vt vc vy gb gt gc gy m) {i:List Tk} (c:eE (gt.toList++(g.toList++L)) w' τ.T 12 v g (i.map Tk.enc)) (k:ak gt.toList w w') (l:g=gt\/∃x,g=some x/\w.heap.size<=x):
  ∃L',iA τ E L' w' b o vb v vc vy gb g gc gy {m with bX:=i}/\Fr L w L' w':=by
 obtain⟨a1,a2,a3,a4,a5,a6⟩:=h.apart;have n:∀x∈g.toList,x∈gt.toList\/w.heap.size<=x/\x∉gb.toList/\x∉gc.toList/\x∉gy.toList:=λx a=>by
  rcases l with rfl|⟨y,rfl,c⟩
  .exact .inl a
  .have a:x=y:=by simpa using a
   refine .inr ⟨by omega,λf=>?_,λf=>?_,λf=>?_⟩<;>have:=h.Mf (x:=x) (by simp[f])<;>omega
 obtain⟨e,j⟩:=h.swap k (λx a=>⟨h.mem.2<|by simp[a],(a4 x a).2.1,(a4 x a).1⟩) (gb':=gb) (gt':=g) (gc':=gc) (gy':=gy) (λx a=>.inl a) n (λx a=>.inl a) λx a=>.inl a;refine⟨_,⟨h.bl.aG e k λx a c=>(a4 x c).2.2 a,c.sub λx a=>.inl ?_,?_,h.ty.aG k λx a c=>(a6 x<|by simp[a]).2.2.2.1 c,rfl,j,?_⟩,e⟩
 .rw[As] at a;rw[mA,mA,h.mem];rcases a with h|h|h|h|h|h<;>simp[h]
 .rcases h.co with⟨ho,h1⟩|⟨ho,hn,h1⟩
  .exact .inl ⟨ho,h1.aG k λx a c=>(a5 x<|by simp[a]).2.2.2 c⟩
  .exact .inr ⟨ho,hn,h1.go e⟩
 .intro x a;rw[As] at a;have d:=k.size;rcases a with a|a|a|a|a|a
  .exact lL (h.cT x (h.mem.2<|by simp[a])) d
  .exact lL (h.cT x (h.mem.2<|by simp[a])) d
  .exact lL (h.cT x (h.mem.2<|by simp[a])) d
  .exact c.lt x a
  .exact lL (h.cT x (h.mem.2<|by simp[a])) d
  .exact lL (h.cT x (h.mem.2<|by simp[a])) d
def iA.num (h:iA τ E L w b o vb vt vc vy gb gt gc gy m) (c:Nat) (q:Bool):iA τ E L w b o vb vt vc vy gb gt gc gy {m with count:=c,wide:=q}:=⟨h.bl,h.ta,h.co,h.ty,h.eL,h.nd,h.cT⟩
end
def Fr.in {G c:List Nat} (h:Fr G w c w') (E:List Nat):Fr (E++G) w (E++c) w':=
 ⟨h.aG.mono λx a=>mR _ a,λx a=>by
  rcases mA.1 a with a|a
  .exact .inl<|List.mem_append_left _ a
  .rcases h.mem x a with b|b
   .exact .inl<|mR _ b
   .exact .inr b⟩
structure AD where
 M:TypeId
 S:TypeId
 T:TypeId
structure jH (τ:AD) (E G:List Nat) (w:World) (b:Nat) (vt vn ve:Value) (gn ge:Option Nat) (ai aP:List aj) (exprs:List au):Prop where
 ta:bo (E++G) w vt ai
 na:dk w τ.S vn gn aP
 ex:eE (E++G) w τ.T 2 ve ge (dj exprs)
 eG:G=b::(gn.toList++ge.toList)
 nd:(E++G).Nodup
 cT:∀x∈E++G,x<w.heap.size
section
variable {τ:AD} {E G:List Nat} {w w':World} {b:Nat} {vt vn ve:Value} {gn ge:Option Nat} {ai aP:List aj} {exprs:List au}
theorem jH.mem (h:jH τ E G w b vt vn ve gn ge ai aP exprs):x∈G↔x=b\/x∈gn.toList\/x∈ge.toList:=by rw[h.eG];simp
def jH.apart (h:jH τ E G w b vt vn ve gn ge ai aP exprs):E.Nodup/\b∉E/\(∀x∈gn.toList,x∉E/\x≠b)/\(∀x∈ge.toList,x∉E/\x≠b/\x∉gn.toList):=by have g:=h.nd;rw[h.eG,List.nodup_append,List.nodup_cons,List.nodup_append] at g;obtain⟨i,⟨f,_,_,j⟩,c⟩:=g;refine⟨i,λhb=>c b hb b sm rfl,λx a=>⟨λd=>c x d x (by simp[a]) rfl,λe=>f<|by simp[<-e,a]⟩,λx a=>⟨λd=>c x d x (by simp[a]) rfl,λe=>f<|by simp[<-e,a],λl=>j x l x a rfl⟩⟩
def XM {A B:Option Nat} {F:List Nat} {b:Nat} (a:F.Nodup) (c:b∉F) (d:∀x∈A.toList,x∉F/\x≠b) (hb:∀x∈B.toList,x∉F/\x≠b/\x∉A.toList):(F++b::(A.toList++B.toList)).Nodup:=by grind
def jH.XN (h:jH τ E G w b vt vn ve gn ge ai aP exprs) {n:List aj} (d:dk w' τ.S v g n) (k:ak gn.toList w w') (q:g=gn\/g=some w.heap.size):
  ∃m,jH τ E m w' b vt v ve g ge ai n exprs/\Fr G w m w':=by
 obtain⟨a1,a2,a3,a4⟩:=h.apart;have l:∀x∈g.toList,x∈gn.toList\/x=w.heap.size:=λx a=>by
  rcases q with rfl|rfl
  .exact .inl a
  .right;simpa using a
 have f:∀x∈E++G,x≠w.heap.size:=λx a e=>by have:=h.cT x a;omega
 have i:Fr G w (b::(g.toList++ge.toList)) w':=⟨k.mono λx a=>h.mem.2<|by simp[a],λx a=>by
  rcases mC.1 a with rfl|a
  .exact .inl (h.mem.2<|.inl rfl)
  .rcases mA.1 a with a|a
   .rcases l x a with c|c
    .exact .inl (h.mem.2<|by simp[c])
    .right;omega
   .exact .inl (h.mem.2<|by simp[a])⟩
 have o:(E++b::(g.toList++ge.toList)).Nodup:=XM a1 a2 (λx a=>by
  rcases l x a with c|c
  .exact a3 x c
  .exact⟨λp=>f x (by simp[p]) c,λe=>f x (mR _ (h.mem.2<|.inl e)) c⟩) (λx a=>⟨(a4 x a).1,(a4 x a).2.1,λd=>by
  rcases l x d with c|c
  .exact(a4 x a).2.2 c
  .exact f x (mR _ (h.mem.2<|by simp[a])) c⟩)
 refine⟨_,⟨h.ta.go<|i.in E,d,h.ex.aG (i.in E) k λx a d=>(a4 x a).2.2 d,rfl,o,λx a=>?_⟩,i⟩;have j:=k.size;rcases mA.1 a with a|a
 .exact lL (h.cT x<|by simp[a]) j
 .rcases mC.1 a with rfl|a
  .exact lL (h.cT x<|mR _ (h.mem.2<|.inl rfl)) j
  .rcases mA.1 a with a|a
   .exact d.lt x a
   .exact lL (h.cT x<|mR _ (h.mem.2<|by simp[a])) j
def jH.aG (h:jH τ E G w b vt vn ve gn ge ai aP exprs) {H:List Nat} (k:ak H w w') (c:∀x∈H,x=b):jH τ E G w' b vt vn ve gn ge ai aP exprs:=by obtain⟨a1,a2,a3,a4⟩:=h.apart;have e:Fr (E++G) w (E++G) w':=Fr.of k λx a=>mR _<|h.mem.2 (.inl<|c x a);exact⟨h.ta.go e,h.na.aG k λx a d=>(a3 x<|by simp[a]).2<|c x d,h.ex.aG e k λx a d=>(a4 x a).2.1<|c x d,h.eG,h.nd,λx a=>lL (h.cT x a) k.size⟩
def QD {w:World} {T:TypeId} (a:aL w x #[] T):jT w T sz (.slice (some ⟨x,0,none⟩) 0 0) (some x) 0 []:=by grind [aL,jT]
def XO {w:World} {T:TypeId} (a:aL w x #[] T):dk w T (.slice (some ⟨x,0,none⟩) 0 0) (some x) []:=QD a
def QE {w:World} {T:TypeId} (a:aL w x #[] T):eE L w T sz (.slice (some ⟨x,0,none⟩) 0 0) (some x) []:=⟨⟨[],QD a,trivial⟩,sm⟩
def jH.opened (h:jH τ E G w b vt vn ve gn ge ai aP exprs) (k:ak [b] w w') {y:Nat} (m:aL w' x #[] τ.S) (f:aL w' y #[] τ.T) (r:w.heap.size<=x) (s:x<y):
  jH τ (gn.toList++(ge.toList++E)) (b::[x,y]) w' b vt (.slice (some ⟨x,0,none⟩) 0 0) (.slice (some ⟨y,0,none⟩) 0 0) (some x) (some y) ai [] []/\
   dk w' τ.S vn gn aP/\eE (E++G) w' τ.T 2 ve ge (dj exprs)/\Fr G w (b::[x,y]) w':=by
 obtain⟨a1,a2,a3,a4⟩:=h.apart;have g:∀z∈E++G,z<w.heap.size:=h.cT;have n:Fr (E++G) w ((gn.toList++(ge.toList++E))++(b::[x,y])) w':=⟨k.mono λz a=>mR _<|h.mem.2 (.inl<|by simpa using a),λz a=>by
  simp only[mA,mC,List.not_mem_nil,or_false] at a;rcases a with(a|a|a)|a|a|a
  .exact .inl (mR _<|h.mem.2 (.inr<|.inl a))
  .exact .inl (mR _<|h.mem.2 (.inr<|.inr a))
  .exact .inl<|List.mem_append_left _ a
  .exact .inl<|mR _ (h.mem.2<|.inl a)
  .right;omega
  .right;omega⟩
 have o:Fr (E++G) w (E++G) w':=Fr.of k λz a=>mR _<|h.mem.2 (.inl<|by simpa using a);have hb:b<w.heap.size:=g b<|mR _ (h.mem.2<|.inl rfl);have j:∀z∈gn.toList,z<w.heap.size:=λz a=>g z (mR _<|h.mem.2 (.inr<|.inl a));have l:∀z∈ge.toList,z<w.heap.size:=λz a=>g z (mR _<|h.mem.2 (.inr<|.inr a));have i:∀z∈E,z<w.heap.size:=λz a=>g z<|List.mem_append_left _ a;refine⟨⟨h.ta.go n,XO m,QE f,rfl,?_,?_⟩,h.na.aG k λz a f=>(a3 z<|by simp[a]).2<|by simpa using f,h.ex.aG o k λz a f=>(a4 z a).2.1<|by simpa using f,⟨k.mono λz a=>h.mem.2 (.inl<|by simpa using a),λz a=>?_⟩⟩
 .rw[List.nodup_append,List.nodup_append,List.nodup_append];refine⟨⟨Qd gn,⟨Qd ge,a1,λp d q c e=>(a4 p d).1<|e▸c⟩,λp d q c e=>?_⟩,?_,λp d q c e=>?_⟩
  .subst e;rcases mA.1 c with c|c
   .exact(a4 p c).2.2 d
   .exact(a3 p d).1 c
  .simp only[List.nodup_cons,mC,List.not_mem_nil,or_false,not_false_eq_true,List.nodup_nil,and_true];omega
  .subst e;simp only[mC,List.not_mem_nil,or_false] at c;simp only[mA] at d;rcases d with d|d|d
   .rcases c with c|c|c
    .exact(a3 p d).2 c
    .have:=j p d;omega
    .have:=j p d;omega
   .rcases c with c|c|c
    .exact(a4 p d).2.1 c
    .have:=l p d;omega
    .have:=l p d;omega
   .rcases c with c|c|c
    .subst c;exact a2 d
    .have:=i p d;omega
    .have:=i p d;omega
 .intro z a;simp only[mA,mC,List.not_mem_nil,or_false] at a;have t:=k.size;rcases a with(a|a|a)|a|a|a
  .have:=j z a;omega
  .have:=l z a;omega
  .have:=i z a;omega
  .omega
  .rw[a];exact m.lt
  .rw[a];exact f.lt
 .simp only[mC,List.not_mem_nil,or_false] at a;rcases a with a|a|a
  .exact .inl (h.mem.2<|.inl a)
  .right;omega
  .right;omega
def jH.closed {d:List Nat} {c m l:Value} {i g:Option Nat} {e:List aj} {f:List au} {n:World} (h:jH τ E G n b vt vn ve gn ge ai aP exprs) 
  (o:jH τ (gn.toList++(ge.toList++E)) d w b c m l i g ai e f) (s:dk w τ.S vn gn aP) (r:eE (E++G) w τ.T 2 ve ge (dj exprs)) (hk:Fr G n d w) (k:ak [b] w w'):
  jH τ E G w' b c vn ve gn ge ai aP exprs/\Fr G n G w':=by
 obtain⟨a1,a2,a3,a4⟩:=h.apart;have q:ak G w w':=k.mono λz a=>h.mem.2 (.inl<|by simpa using a);have p:Fr (E++G) w (E++G) w':=Fr.of q λz a=>mR _ a;have u:∀z∈E++G,z∈(gn.toList++(ge.toList++E))++d:=λz a=>by
  rcases mA.1 a with a|a
  .simp[a]
  .rcases h.mem.1 a with a|a|a
   .exact mR _ (o.mem.2<|.inl a)
   .simp[a]
   .simp[a]
 have t:bo (E++G) w c ai:=o.ta.fresh λz a=>.inl<|u z a;refine⟨⟨t.go p,s.aG k λz a j=>(a3 z<|by simp[a]).2<|by simpa using j,r.aG p k λz a j=>(a4 z a).2.1<|by simpa using j,h.eG,h.nd,λz a=>?_⟩,⟨hk.aG.since q λz a=>.inl a,λz a=>.inl a⟩⟩;have:=h.cT z a;have v:=hk.aG.size;have y:=k.size;omega
def m5V (n:Nat) (b a ve:Value):List Value:=[b,.int .i64 (n:Int),a,ve]
def M5 (c:AD) (E G:List Nat) (w:World) (b:Nat) (d:List aj) (n:Nat) (aP:List aj) (a:List au):Prop:=∃vt vn ve gn ge,aL w b (m5V n vt vn ve).toArray c.M/\jH c E G w b vt vn ve gn ge d aP a
def jH.ext (h:jH τ E G w b vt vn ve gn ge ai aP exprs) (k:ak [] w w'):jH τ E G w' b vt vn ve gn ge ai aP exprs:=h.aG k sm
def M5.ext (h:M5 τ E G w b ai n aP exprs) (k:ak [] w w'):M5 τ E G w' b ai n aP exprs:=by obtain⟨vt,vn,ve,gn,ge,a,c⟩:=h;exact⟨vt,vn,ve,gn,ge,a.aG k sm,c.ext k⟩
end
structure eJ (L:List Nat) (w:World) (b:Nat) (vs:Array Value) (T:TypeId):Prop where
 jh:aL w b vs T
 out:b∉L
theorem eJ.lt {T:TypeId} (h:eJ L w b vs T):b<w.heap.size:=h.jh.lt
theorem eJ.at {a:List Value} {T:TypeId} (h:eJ L w b a.toArray T) (c:a[i]?=some v):w.cell? ⟨b,i,none⟩=some v:=h.jh.at c
theorem eJ.all {a:List Value} {T:TypeId} (h:eJ L w b a.toArray T):gj w b 0 a:=h.jh.all
def eJ.go {T:TypeId} (h:eJ L w b vs T) (k:Fr L w L' w'):eJ L' w' b vs T:=
 ⟨h.jh.aG k.aG h.out,λc=>by
  rcases k.mem b c with a|a
  .exact h.out a
  .have:=h.jh.lt;omega⟩
def eJ.ext {T:TypeId} (h:eJ L w b vs T) (k:ak [] w w'):eJ L w' b vs T:=⟨h.jh.ext k,h.out⟩
def eJ.aB {G:List Nat} {T:TypeId} (h:eJ L w b vs T) (k:ak G w w') (a:∀x∈G,x∈L):eJ L w' b vs T:=h.go<|Fr.of k a
theorem aL.o {T:TypeId} (h:aL w b vs T) (a:∀x∈L,x<b):eJ L w b vs T:=⟨h,λc=>by have:=a b c;omega⟩
def dk.rs {T:TypeId} (h:dk w T v g xs):bo [] w v xs:=h.rep sm
def lF {T:TypeId} (h:dk w T v g xs):∃a c,v= .slice a xs.length c:=jT.len h
section
variable {P:Program} {n:Nat} {ops:Array Oper} {K:Env->World->Prop} {rest:List Oper} {e:Env} {w:World} {dst:Option Nat} {ty:TypeId} {pos:String} {after:Array Edge} {g:Option (Nat×Bool)} {x y:Operand}
def XP {v:Value} {f:Option Nat} {i:List aj} {s:aj} {b U:Nat} (o:P.underlying t=some (.slice E)) (l:TI P E 1 bytes z) (r:gate ops e g=true) (p:cN n dst=true) (C:Nat.beq z.cells.size 1=true) (D:Nat.ble bytes 1000=true) 
  (A:ev e x=v) (B:ev e y= .slice (some ⟨b,0,none⟩) 1 1) (m:dk w E v f i) (hb:aL w b [str s].toArray U) (u:i.length<100000000)
  (k:∀d a w',dk w' E d a (i++[s])->ak f.toList w w'->Fr f.toList w a.toList w'->OW P n ops K rest (cC e dst d) w'):
  OW P n ops K (⟨dst,.call {callee:=.builtin .append,args:=#[x,y],argTypes:=#[t,t]},ty,pos,after,g⟩::rest) e w:=by
 refine Em (L:=[]) (row:=[.val (str s)]) o l r p C D A B (m.XJ _) rfl hb.all (by simp[Value.oneCell']) ⟨.val _,trivial⟩ (by rw[oX];exact u) ?_;intro d a w' j hk F;rw[XK] at j;refine k d a w' j.yI hk.aG ⟨hk.aG,λq c=>?_⟩;rcases F with h|h
 .rw[h] at c;exact .inl c
 .rw[h] at c;simp at c;right;omega
def mM {T:Nat} (d:P.underlying T=some (.slice E)) (c:TI P E 1 bytes z) (i:gate ops e g=true) (f:cN n dst=true) (a:ev e q1=str a1) (b:ev e q2=str a2) 
  (k:∀w',ak [] w w'->aL w' w.heap.size [str a1,str a2].toArray E->w'.heap.size=w.heap.size+1->OW P n ops K rest (cC e dst<|.slice (some ⟨w.heap.size,0,none⟩) 2 2) w'):
  OW P n ops K (⟨dst,.buildSlice T 2 #[(0,q1),(1,q2)],ty,pos,after,g⟩::rest) e w:=
 um [q1,q2] [[str a1],[str a2]] d c i f rfl rfl rfl rfl rfl (by simp[a,b,Value.cells]) rfl k
def rP {T:Nat} (f:P.underlying T=some (.slice E)) (d:TI P E 1 bytes z) (j:gate ops e g=true) (i:cN n dst=true) (a:ev e q1=str a1) (b:ev e q2=str a2) (c:ev e q3=str a3) 
  (k:∀w',ak [] w w'->aL w' w.heap.size [str a1,str a2,str a3].toArray E->w'.heap.size=w.heap.size+1->OW P n ops K rest (cC e dst<|.slice (some ⟨w.heap.size,0,none⟩) 3 3) w'):
  OW P n ops K (⟨dst,.buildSlice T 3 #[(0,q1),(1,q2),(2,q3)],ty,pos,after,g⟩::rest) e w:=
 um [q1,q2,q3] [[str a1],[str a2],[str a3]] f d j i rfl rfl rfl rfl rfl (by simp[a,b,c,Value.cells]) rfl k
def AE {T:Nat} (i:P.underlying T=some (.slice E)) (f:TI P E 1 bytes z) (l:gate ops e g=true) (j:cN n dst=true) (a:ev e q1=str a1) (b:ev e q2=str a2) (c:ev e q3=str a3) (d:ev e q4=str a4) 
  (k:∀w',ak [] w w'->aL w' w.heap.size [str a1,str a2,str a3,str a4].toArray E->w'.heap.size=w.heap.size+1->OW P n ops K rest (cC e dst<|.slice (some ⟨w.heap.size,0,none⟩) 4 4) w'):
  OW P n ops K (⟨dst,.buildSlice T 4 #[(0,q1),(1,q2),(2,q3),(3,q4)],ty,pos,after,g⟩::rest) e w:=
 um [q1,q2,q3,q4] [[str a1],[str a2],[str a3],[str a4]] i f l j rfl rfl rfl rfl rfl (by simp[a,b,c,d,Value.cells]) rfl k
def XQ {T:Nat} (j:P.underlying T=some (.slice E)) (i:TI P E 1 bytes z) (m:gate ops e g=true) (l:cN n dst=true) (a:ev e q1=str a1) (b:ev e q2=str a2) (c:ev e q3=str a3) (d:ev e q4=str a4) (f:ev e q5=str a5) 
  (k:∀w',ak [] w w'->aL w' w.heap.size [str a1,str a2,str a3,str a4,str a5].toArray E->w'.heap.size=w.heap.size+1->OW P n ops K rest (cC e dst<|.slice (some ⟨w.heap.size,0,none⟩) 5 5) w'):
  OW P n ops K (⟨dst,.buildSlice T 5 #[(0,q1),(1,q2),(2,q3),(3,q4),(4,q5)],ty,pos,after,g⟩::rest) e w:=
 um [q1,q2,q3,q4,q5] [[str a1],[str a2],[str a3],[str a4],[str a5]] j i m l rfl rfl rfl rfl rfl (by simp[a,b,c,d,f,Value.cells]) rfl k
def akn {T:Nat} (l:P.underlying T=some (.slice E)) (j:TI P E 1 bytes z) (o:gate ops e g=true) (m:cN n dst=true) (a:ev e q1=str a1) (b:ev e q2=str a2) (c:ev e q3=str a3) (d:ev e q4=str a4) (f:ev e q5=str a5) (i:ev e q6=str a6) 
  (k:∀w',ak [] w w'->aL w' w.heap.size [str a1,str a2,str a3,str a4,str a5,str a6].toArray E->w'.heap.size=w.heap.size+1->OW P n ops K rest (cC e dst<|.slice (some ⟨w.heap.size,0,none⟩) 6 6) w'):
  OW P n ops K (⟨dst,.buildSlice T 6 #[(0,q1),(1,q2),(2,q3),(3,q4),(4,q5),(5,q6)],ty,pos,after,g⟩::rest) e w:=
 um [q1,q2,q3,q4,q5,q6] [[str a1],[str a2],[str a3],[str a4],[str a5],[str a6]] l j o m rfl rfl rfl rfl rfl (by simp[a,b,c,d,f,i,Value.cells]) rfl k
def XR {T:Nat} {c d:Operand} {a b:aj} (s:P.underlying T=some (.slice E)) (r:TI P E 1 bytes z) (u:gate ops e g=true) (t:cN n dst=true) (f:ev e q1=str a1) (i:ev e q2=str a2) (j:ev e q3=str a3) (l:ev e q4=str a4) (m:ev e q5=str a5) (o:ev e q6=str a6) (p:ev e c=str a) (q:ev e d=str b) 
  (k:∀w',ak [] w w'->aL w' w.heap.size [str a1,str a2,str a3,str a4,str a5,str a6,str a,str b].toArray E->w'.heap.size=w.heap.size+1->OW P n ops K rest (cC e dst<|.slice (some ⟨w.heap.size,0,none⟩) 8 8) w'):
  OW P n ops K (⟨dst,.buildSlice T 8 #[(0,q1),(1,q2),(2,q3),(3,q4),(4,q5),(5,q6),(6,c),(7,d)],ty,pos,after,g⟩::rest) e w:=
 um [q1,q2,q3,q4,q5,q6,c,d] [[str a1],[str a2],[str a3],[str a4],[str a5],[str a6],[str a],[str b]] s r u t rfl rfl rfl rfl rfl (by simp[f,i,j,l,m,o,p,q,Value.cells]) rfl k
def ako {T:Nat} {i j l b:Operand} {c d f a:aj} (B:P.underlying T=some (.slice E)) (A:TI P E 1 bytes z) (D:gate ops e g=true) (C:cN n dst=true) (o:ev e q1=str a1) (p:ev e q2=str a2) (q:ev e q3=str a3) (r:ev e q4=str a4) (s:ev e q5=str a5) (t:ev e q6=str a6) (u:ev e i=str c) (v:ev e j=str d) (y:ev e l=str f) (m:ev e b=str a) 
  (k:∀w',ak [] w w'->aL w' w.heap.size [str a1,str a2,str a3,str a4,str a5,str a6,str c,str d,str f,str a].toArray E->w'.heap.size=w.heap.size+1->OW P n ops K rest (cC e dst<|.slice (some ⟨w.heap.size,0,none⟩) 10 10) w'):
  OW P n ops K (⟨dst,.buildSlice T 10 #[(0,q1),(1,q2),(2,q3),(3,q4),(4,q5),(5,q6),(6,i),(7,j),(8,l),(9,b)],ty,pos,after,g⟩::rest) e w:=
 um [q1,q2,q3,q4,q5,q6,i,j,l,b] [[str a1],[str a2],[str a3],[str a4],[str a5],[str a6],[str c],[str d],[str f],[str a]] B A D C rfl rfl rfl rfl rfl (by simp[o,p,q,r,s,t,u,v,y,m,Value.cells]) rfl k
end
def ba.eq {t u:au} (h:ba L w v t) (e:t=u):ba L w v u:=e▸h
def fX (h:cP L w (.slice a n c) ts) (o:i<ts.length):
  ∃b d e f,a=some ⟨b,d,none⟩/\gD L w b (d+i*2) [str (nth ts i).aq,.slice e (nth ts i).ag.length f]/\ba L w (.agg #[str (nth ts i).aq,.slice e (nth ts i).ag.length f]) (nth ts i):=by
 obtain⟨b,d,vs,j,hb,g,_,l,r⟩:=z8 h (K8<|dN o);obtain⟨e,u,f,m,p,q⟩:=cQ (t:=nth ts i) ⟨vs,rfl,r⟩;have s:vs=[str (nth ts i).aq,.slice e u f]:=by have:=congrArg (λv=>match v with|Value.agg x=>x.toList|_=>[]) m;simpa using this
 subst s p;exact⟨b,d,e,f,j,⟨l,hb,g⟩,iF q⟩
def aL.yI {T:Nat} (a:List aj) (h:aL w b (a.map λx=>str x).toArray T) (c:a.length<=100000:=by simp):dk w T (.slice (some ⟨b,0,none⟩) a.length a.length) (some b) a:=
 ⟨by simp,.inr ⟨b,a.length,_,rfl,rfl,h,lR _,Nat.le_trans c de,sm,by rw[Nat.mul_one,List.take_of_length_le sm]⟩⟩
def aL.eM {T:Nat} (a:List aj) (h:aL w b (a.map λx=>str x).toArray T) (c:b∉L) (d:a.length<=100000:=by simp):bo L w (.slice (some ⟨b,0,none⟩) a.length a.length) a:=
 (h.yI a d).rep λq e=>by cases e;exact c
def aL.mN {T:Nat} (h:aL w b #[] T):dk w T (.slice (some ⟨b,0,none⟩) 0 0) (some b) []:=XO h
theorem vz (h:n<1000):(aS n).length<=3:=by grind [aS]
theorem nV (h:aj) (a:List aj):(eC h a).length=h.length+2+iy a:=by grind [eC,Po,iy]
def akp {m:Nat}:∀xs:List aj,(∀s∈xs,s.length<=m)->(xs.map List.length).sum<=xs.length*m:=by intro x;induction x<;>grind [lC,Nat.add_mul]
def CG {m:Nat} (a:List aj) (h:∀s∈a,s.length<=m):iy a<=a.length*(m+1):=by have:=akp a h;unfold iy;rw[Nat.mul_add];omega
structure lG (s:cX):Prop where
 types:Ao (fx s)
 regs:∀p∈s,p.2.1<1000
def Jc (h:lG s) (x:aj):mh s x<1000:=by
 unfold mh;cases a:s.reverse.find? λp=>decide (p.1=x) with
 |none=>simp
 |some p=>exact h.regs p (List.mem_reverse.1<|List.mem_of_find?_eq_some a)
theorem Mt (h:lG s) (x:aj):(lT s x).n<=16:=by
 unfold lT;cases a:look (fx s) x with
 |none=>decide
 |some T=>exact h.types x T a
theorem rQ {T:Ty} (h:T.n<=16):(bK T).length<=256:=by have:=DZ T;omega
def wL {T:Ty} (h:T.n<=16):(dZ<|bK T).length<=272:=by have:=rQ h;rw[Qc];omega
def lG.snoc (h:lG s) {x:aj} {r:Nat} {T:Ty} (c:r<1000) (b:T.n<=16):lG (s++[(x,r,T)]):=by
 refine⟨by rw[Gu];exact IT h.types b,λp a=>?_⟩;rcases mA.1 a with a|a
 .exact h.regs p a
 .simp only[List.mem_singleton] at a;rw[a];exact c
def CH (s:aj):Prop:=∃T:Ty,T.n<=16/\s=dZ (bK T)
/-! ### The type of a package's tuple -/
def nW (s:cX) (aP:List aj) (on:aj):List aj:=aP.map (λx=>bK<|lT s x)++(if on≠[] then[on] else[])
def GJ:Option Ty->aj
 |some T=>dZ<|bK T
 |none=>[]
def wO (s:cX) (aP:List aj) (on:Option Ty):List au:=aP.map (λx=>sZ<|lT s x)++(match on with|some T=>[Cb (sZ T)]|none=>[])
theorem GK (s:cX) (aP:List aj) (on:Option Ty):nW s aP (GJ on)=(wO s aP on).map au.text:=by
 unfold nW wO;rw[List.map_append,List.map_map]
 congr 1
 cases on with
 |none=>rfl
 |some T=>
  have a:dZ (bK T)≠[]:=by simp[dZ]
  refine(iP<|show GJ (some T)≠[] from a).trans ?_;simp[GJ,WR,bK]
def XS (s:cX) (aP:List aj) (on:aj):(nW s aP on).length<=aP.length+1:=by grind [nW]
def XT (h:lG s) {aP:List aj} {on:aj} (a:on.length<=272):∀t,t∈nW s aP on->t.length<=272:=by grind [nW,rQ,Mt]
def Jd (h:lG s) {aP:List aj} {on:aj} (e:aP.length<=40) (a:on.length<=272):(eC [116] (nW s aP on)).length<=11200:=by have b:=CG _<|XT h (aP:=aP) a;have c:=XS s aP on;have d:(nW s aP on).length*(272+1)<=41*(272+1):=Nat.mul_le_mul om<|lR _;rw[nV];simp only[lC,List.length_nil];omega
def akq (s:cX) (aP:List aj) (on:Option Ty):aP.length<=(wO s aP on).length:=by simp_all[wO]
def akr (s:cX) (aP:List aj) (on:Option Ty):∀t,t∈wO s aP on->Good t:=λt a=>by
 unfold wO at a;rcases mA.1 a with a|a
 .obtain⟨x,_,rfl⟩:=List.mem_map.1 a;exact Gs _
 .cases on with
  |none=>simp at a
  |some T=>simp only[List.mem_singleton] at a;rw[a];exact WQ<|Gs T
def XU (h:lG s) {aP:List aj} {on:Option Ty} (d:aP.length<=40) (b:∀T,on=some T->T.n<=16):
  bU (eC [116] (nW s aP<|GJ on))=some (ky [116] (wO s aP on)):=by
 have c:=DL (h:=[116]) de de<|akr s aP on;rw[GK,<-Gc de];refine Lv c ?_ ?_
 .show au.depth.deeps (bL [116]::wO s aP on)<=60;refine Lt λp a=>?_;rcases mC.1 a with rfl|a
  .have:(bL [116]).depth=0:=rfl;omega
  .unfold wO at a;rcases mA.1 a with a|a
   .obtain⟨x,_,rfl⟩:=List.mem_map.1 a;have:=Gt<|lT s x;have:=Mt h x;omega
   .cases on with
    |none=>simp at a
    |some T=>simp only[List.mem_singleton] at a;have:=Gt T;have:=b T rfl;rw[a,WT];omega
 .rw[Gc de,<-GK];have:=Jd h (aP:=aP) (on:=GJ on) d (by
   cases on with
   |none=>simp[GJ]
   |some T=>exact wL<|b T rfl)
  omega
/-! ### The state stays small -/
structure gh (m:Mk):Prop where
 types:∀s∈m.types,s.length<=100000
 code:∀s∈m.code,s.length<=100000
theorem gh.dH (h:gh m) {k:aj} (hk:k.length<=100000):gh (m.dH k):=⟨λs a=>by
 rcases mA.1 a with a|a
 .exact h.types s a
 .simp only[List.mem_singleton] at a;rw[a];exact hk,h.code⟩
theorem gh.cW (h:gh m) {b:aj} {c:List aj} (hk:(eC b c).length<=100000):gh (m.cW b c):=⟨h.types,λs a=>by
 rcases mA.1 a with a|a
 .exact h.code s a
 .simp only[List.mem_singleton] at a;rw[a];exact hk⟩
structure aks (m m':Mk) (dt dc:Nat):Prop where
 blocks:m'.blocks=m.blocks
 bX:m'.bX=m.bX
 types:m'.types.length=m.types.length+dt
 code:m'.code.length=m.code.length+dc
def XV (m:Mk) (s:cX) (b:Nat) (aP:List aj) (on aQ a:aj) (bS:List aj):aks m (qO m s b aP on aQ a bS).m 4 4:=by refine⟨rfl,rfl,?_,?_⟩<;>simp[qO,Mk.dH,Mk.cW]
def XW (m:Mk) (s:cX) (b:Nat) (aP:List aj) (on aQ a:aj) (bS:List aj):(qO m s b aP on aQ a bS).w=eC [116] (nW s aP on):=rfl
def XX (r:gh m) (n:lG s) {e:Nat} (u:e<1000) {aP:List aj} (t:aP.length<=40) {on aQ i:aj} (z:on.length<=272) (K:aQ.length<=10) (hk:i.length<=272) {bS:List aj} (q:bS.length<=2) (o:∀x∈bS,x.length<=272) (F:m.types.length+4<1000):gh (qO m s e aP on aQ i bS).m:=by
 have j:=Jd n t z;have f:∀k,k<1000->(aS k).length<=3:=λk hk=>vz hk;have p:=CG bS o;have l:(eC [99] (eC [116] (nW s aP on)::bS)).length<=12000:=by
  rw[nV];have:iy (eC [116] (nW s aP on)::bS)=1+(eC [116] (nW s aP on)).length+iy bS:=by unfold iy;simp;omega
  have J:bS.length*(272+1)<=2*(272+1):=Nat.mul_le_mul q<|lR _;simp only[lC,List.length_nil];omega
 have regs:∀x,x∈aP.map (λx=>aS<|mh s x)++(if on≠[] then[aS e] else[])->x.length<=3:=λx g=>by
  rcases mA.1 g with g|g
  .obtain⟨y,_,rfl⟩:=List.mem_map.1 g;exact f _<|Jc n y
  .split at g
   .simp only[List.mem_singleton] at g;rw[g];exact f _ u
   .simp at g
 have v:(aP.map (λx=>aS<|mh s x)++(if on≠[] then[aS e] else[])).length<=41:=by rw[lA,List.length_map];split<;>simp<;>omega
 unfold qO;have s2:∀a b:aj,iy [a,b]=2+a.length+b.length:=λa b=>by simp[iy];omega
 have A:∀a b c:aj,iy [a,b,c]=3+a.length+b.length+c.length:=λa b c=>by simp[iy];omega
 have B:∀a b c d:aj,iy [a,b,c,d]=4+a.length+b.length+c.length+d.length:=λa b c d=>by simp[iy];omega
 have L:=f m.types.length om;have D:=f (m.types.length+1) om;have E:=f (m.types.length+2) om;have C:=f (m.types.length+3) om;refine gh.cW (gh.dH (gh.cW (gh.dH (gh.cW (gh.dH (gh.cW (gh.dH r ?_) ?_) ?_) ?_) ?_) ?_) ?_) ?_
 .exact Nat.le_trans j om
 .have H:=CG _ regs;have I:(aP.map (λx=>aS<|mh s x)++(if on≠[] then[aS e] else[])).length*(3+1)<=41*(3+1):=Nat.mul_le_mul v<|lR _;rw[nV];have:iy (aS m.types.length::(aP.map (λx=>aS<|mh s x)++(if on≠[] then[aS e] else[])))=1+(aS m.types.length).length+iy (aP.map (λx=>aS<|mh s x)++(if on≠[] then[aS e] else[])):=by unfold iy;simp;omega
  rw[this];simp only[lC,List.length_nil];omega
 .exact Nat.le_trans l om
 .rw[nV,s2];simp only[lC,List.length_nil];omega
 .rw[nV,s2];have:=j;unfold nW at this l;simp only[lC,List.length_nil];unfold nW at j;omega
 .rw[nV,A];simp only[lC,List.length_nil];omega
 .omega
 .rw[nV,B];have:=j;unfold nW at this;simp only[lC,List.length_nil];omega
structure Ext (m m':Mk) (k:Nat) (new:List Tk):Prop where
 blocks:m'.blocks=m.blocks
 bX:m'.bX=m.bX++new
 count:m'.count=m.count+new.length
 types:m.types.length<=m'.types.length/\m'.types.length<=m.types.length+k
 code:m'.code.length<=m.code.length+2*k
def Ext.refl (m:Mk):Ext m m 0 []:=⟨rfl,sm,rfl,om,om⟩
theorem Ext.trans {j:Nat} {p q:List Tk} (h:Ext m m1 j p) (a:Ext m1 m2 k q):Ext m m2 (j+k) (p++q):=
 ⟨a.blocks.trans h.blocks,by rw[a.bX,h.bX,List.append_assoc],by rw[a.count,h.count,lA];omega,by have:=h.types;have:=a.types;omega,by have:=h.code;have:=a.code;omega⟩
def Ext.more {a:Mk} {j:Nat} {p:List Tk} (h:Ext m a j p) (hk:j<=k):Ext m a k p:=⟨h.blocks,h.bX,h.count,by have:=h.types;omega,by have:=h.code;omega⟩
theorem QH {s:aj} (h:sn s=true):s.length<=4:=by grind [sn,numeral,Vi,eR]
def qg (h:e.ok):e.aq.length<=4:=by cases e<;>grind [Ex.ok,Ex.aq,QH]
theorem CI (a b:aj):iy [a,b]=2+a.length+b.length:=by simp[iy];omega
def Je {m:Mk} {a:aj} (b:gh m) (d:lG s) (e:a.length<=4) (c:m.types.length<1000):Ext m (cL m s a).1 1 []/\gh (cL m s a).1/\(cL m s a).2<1000:=by
 unfold cL;split
 .exact⟨(Ext.refl m).more om,b,Jc d a⟩
 .refine⟨⟨rfl,by simp[Mk.dH,Mk.cW],rfl,by simp[Mk.dH,Mk.cW],by simp[Mk.dH,Mk.cW]⟩,gh.cW (gh.dH b sm) ?_,c⟩;have:=vz c;rw[nV,CI];simp only[lC,List.length_nil];omega
/-! ### Tasks -/
structure qh (t:Tk):Prop where
 ok:t.expr.ok
 type:∃T,bO t.expr (fx t.sc)=some T
 sc:lG t.sc
 bud:5*t.sc.length+2*t.expr.n<=240
 room:t.regs.length+t.loads+8*t.expr.n<=990
 regs:∀r∈t.regs,r.length<=100000
 loads:t.loads=0\/∃ts:List au,t.regs.head?=some (eC [116] (ts.map au.text))/\t.loads<=ts.length/\bU (eC [116] (ts.map au.text))=some (ky [116] ts)
 self:t.self=[]\/∃a b,t.self=[a,b]/\a.length<=272/\b.length<=11200/\t.regs.length=3/\∀r∈t.regs,r.length<=11200
 bg:CH t.bg
 on:t.on<1000
 aQ:t.aQ.length<=4
theorem QI (s:cX) (k:Nat) (aP:List aj):fx (js s k aP [])=aP.map λx=>(x,lT s x):=by
 unfold js fx;rw[List.nil_append,List.map_map];have:∀(l:List aj) (j:Nat),(l.zipIdx j).map ((λp:aj×Nat×Ty=>(p.1,p.2.2))∘λp=>(p.1,k+p.2,lT s p.1))=l.map λx=>(x,lT s x):=by
  intro l;induction l with
  |nil=>intro j;rfl
  |cons x l a=>intro j;simp only[List.zipIdx_cons,List.map_cons,Function.comp,a]
 exact this aP 0
theorem QJ:∀{aP:List aj} {x:aj},x∈aP->look (aP.map λx=>(x,lT s x)) x=some (lT s x):=by
 intro aP x h;have b:∀(l:List aj),(∃y∈l,y=x)->(l.map λx=>(x,lT s x)).find? (λp=>decide<|p.1=x)=some (x,lT s x):=by
  intro l;induction l with
  |nil=>rintro⟨_,f,_⟩;simp at f
  |cons y l g=>
   intro d;rw[List.map_cons,List.find?_cons];by_cases e:y=x
   .rw[dT e,e]
   .rw[dF e];obtain⟨z,a,c⟩:=d;rcases mC.1 a with a|a
    .exact absurd (a▸c) e
    .exact g ⟨z,a,c⟩
 unfold look;rw[<-List.map_reverse,b aP.reverse ⟨x,List.mem_reverse.2 h,rfl⟩];rfl
def XZ (h:lG s) (k:Nat) (aP:List aj) (j:k+aP.length<1000):lG (js s k aP []):=by
 refine⟨λx T a=>?_,λp c=>?_⟩
 .rw[QI] at a;have g:x∈aP:=by
   unfold look at a;cases b:(aP.map λx=>(x,lT s x)).reverse.find? (λp=>decide<|p.1=x) with
   |none=>rw[b] at a;cases a
   |some q=>have d:=List.find?_some b;have e:=List.mem_reverse.1<|List.mem_of_find?_eq_some b;obtain⟨y,i,rfl⟩:=List.mem_map.1 e;rw[<-of_decide_eq_true d];exact i
  rw[QJ g] at a;cases a;exact Mt h x
 .unfold js at c;rw[List.nil_append] at c;obtain⟨q,f,rfl⟩:=List.mem_map.1 c;have:=List.snd_lt_of_mem_zipIdx f;show k+q.2<1000;omega
theorem AF (s:cX) (k:Nat) (aP:List aj):(js s k aP []).length=aP.length:=by simp[js]
theorem QK {x:aj} (h:(look (fx s) x).isSome=true):look (fx s) x=some (lT s x):=by
 unfold lT;cases a:look (fx s) x with
 |none=>rw[a] at h;cases h
 |some T=>rfl
def QL {bd:List aj} (hb:5*s.length+2*e.n<=240) (i:∀x,Fv x e->x∉bd->(look (fx s) x).isSome=true):(dQ e bd []).length<=34/\(dQ e bd []).length<=s.length:=by
 have d:=PZ e bd [];have f:(dQ e bd []).length<=(s.map Prod.fst).length:=P2 (ajh e bd [] List.nodup_nil) λx b=>by
  rcases(DY x e bd []).1 b with h|⟨b,hb⟩
  .simp at h
  .have:=i x b hb;unfold look at this;cases a:(fx s).reverse.find? λp=>decide (p.1=x) with
   |none=>rw[a] at this;cases this
   |some q=>have g:=List.find?_some a;have c:=List.mem_reverse.1<|List.mem_of_find?_eq_some a;unfold fx at c;obtain⟨p,j,rfl⟩:=List.mem_map.1 c;rw[<-of_decide_eq_true g];exact List.mem_map.2 ⟨p,j,rfl⟩
 simp only[List.length_nil,Nat.zero_add,List.length_map] at d f;omega
def X0 {b:Nat} {aP:List aj} {on aQ a:aj} {bS:List aj}:Ext m (qO m s b aP on aQ a bS).m 4 []:=by have h:=XV m s b aP on aQ a bS;exact⟨h.blocks,by rw[h.bX];simp,rfl,by rw[h.types];omega,by rw[h.code];omega⟩
def CJ {m:Mk} (h:m.count<1000):m.aQ.length<=4:=by grind [Mk.aQ,vz]
def X4 {m:Mk} {f x:aj} {A B:Ty} {T:Ty} (p:lG s) (I:(Ex.fn f x A B e).ok) (a:bO (.fn f x A B e) (fx s)=some T) (hb:5*s.length+2*(Ex.fn f x A B e).n<=240) (M:m.count<1000):qh (Cg m s f x A B e)/\(dQ (.fn f x A B e) [] []).length<=34/\1+A.n+B.n<=16:=by
 obtain⟨O,_,_,i,n,N⟩:=I;have V:∀y,Fv y (.fn f x A B e)->y∉([]:List aj)->(look (fx s) y).isSome=true:=λy j _=>rH a j;obtain⟨K,_⟩:=QL hb V;have q:1+A.n+B.n<=16/\bO e (fx s++[(f,.op true A B),(x,A)])=some B:=by
  unfold bO at a;split at a
  .rename_i R;cases t:bO e (fx s++[(f,.op true A B),(x,A)]) with
   |none=>rw[t] at a;cases a
   |some C=>
    rw[t,Option.bind_some] at a;split at a
    .rename_i Q;rw[ajk.1 Q];exact⟨R,rfl⟩
    .cases a
  .cases a
 have u:(Ty.op true A B).n<=16:=q.1;have Y:(bK<|.op true A B).length<=256:=rQ u;have P:(Ex.fn f x A B e).n=3+A.n+B.n+e.n:=rfl;rw[P] at hb;have L:=A.pos;have X:=B.pos;have z:=XZ p 3 (dQ (.fn f x A B e) [] []) om;have v:(p9 m s f x A B e).w=eC [116] (nW s (dQ (.fn f x A B e) [] []) []):=XW ..;have D:(p9 m s f x A B e).w.length<=11200:=by rw[v];exact Jd p om sm
 have J:bO e (fx<|Cf s f x A B e)=some B:=by
  rw[<-q.2];unfold Cf;rw[Gu];refine sr e _ _ λy _ j=>?_;rw[qM,B8];by_cases c:x=y
  .rw[iP c,iP c]
  .rw[iN c,iN c];by_cases b:f=y
   .have g:0<lx f e:=(ajj O e).2<|b▸j;rw[iP b,iP g,Gu,qM,iP b]
   .rw[iN b];have E:Fv y (.fn f x A B e):=⟨λl=>b l.symm,λl=>c l.symm,j⟩;have U:y∈dQ (.fn f x A B e) [] []:=(DY y _ [] []).2<|.inr ⟨E,sm⟩;have F:look (fx<|js s 3 (dQ (.fn f x A B e) [] []) []) y=look (fx s) y:=by
     rw[QI,QJ U,QK (rH a E)]
    split
    .rw[Gu,qM,iN b,F]
    .exact F
 have H:lG (Cf s f x A B e):=by
  unfold Cf;split
  .exact(z.snoc om u).snoc om i
  .exact z.snoc om i
 have S:5*(Cf s f x A B e).length+2*e.n<=240:=by
  unfold Cf;rw[lA];split
  .rw[lA,AF];simp only[lC,List.length_nil];omega
  .rw[AF];simp only[lC,List.length_nil];omega
 refine⟨{ok:=N,type:=⟨B,J⟩,sc:=H,bud:=S,room:=?_,regs:=?_,loads:=?_,self:=?_,bg:=⟨B,n,rfl⟩,on:=?_,aQ:=CJ M},K,q.1⟩
 .show 3+(dQ (.fn f x A B e) [] []).length+8*e.n<=990;omega
 .intro r o;have d:r∈[(p9 m s f x A B e).w,bK A,dZ (bK B)]:=o;simp only[mC,List.not_mem_nil,or_false] at d;rcases d with rfl|rfl|rfl
  .omega
  .have:=rQ i;omega
  .have:=wL n;omega
 .refine .inr ⟨wO s (dQ (.fn f x A B e) [] []) none,?_,akq _ _ _,?_⟩
  .show some (p9 m s f x A B e).w=_;rw[v,<-GK];rfl
  .rw[<-GK];exact XU p om sm
 .show(if 0<lx f e then[bK<|.op true A B,(p9 m s f x A B e).w] else[])=[]\/_;by_cases g:0<lx f e
  .refine .inr ⟨bK<|.op true A B,(p9 m s f x A B e).w,iP g,om,D,rfl,λr o=>?_⟩;have d:r∈[(p9 m s f x A B e).w,bK A,dZ (bK B)]:=o;simp only[mC,List.not_mem_nil,or_false] at d;rcases d with rfl|rfl|rfl
   .exact D
   .have:=rQ i;omega
   .have:=wL n;omega
  .exact .inl<|iN g
 .show(2:Nat)<1000;omega
def akt {f x:aj} {A B:Ty} {T:Ty} (d:gh m) (g:lG s) (b:(Ex.fn f x A B e).ok) (v:bO (.fn f x A B e) (fx s)=some T) (hb:5*s.length+2*(Ex.fn f x A B e).n<=240) (o:m.types.length+4<1000) (c:m.count<1000):
  Ext m (Ch m s f x A B e).1 4 [Cg m s f x A B e]/\gh (Ch m s f x A B e).1/\(Ch m s f x A B e).2<1000/\qh (Cg m s f x A B e):=by
 obtain⟨u,_,l⟩:=X4 (m:=m) g b v hb c;obtain⟨_,_,_,r,t,_⟩:=b;have z:(bK<|.op true A B).length<=256:=rQ l;have a:Ext m.nq (p9 m s f x A B e).m 4 []:=X0;have n:gh m.nq:=⟨d.types,d.code⟩;have j:gh (p9 m s f x A B e).m:=XX n g om om sm (by have:=CJ c;omega) om sm (λy i=>by
  simp only[mC,List.not_mem_nil,or_false] at i;rcases i with rfl|rfl
  .have:=rQ r;omega
  .exact wL t) o
 have p:(p9 m s f x A B e).m.bX=m.bX:=by rw[a.bX];simp[Mk.nq]
 have q:(p9 m s f x A B e).m.count=m.count+1:=by rw[a.count];simp[Mk.nq]
 refine⟨⟨a.blocks,?_,q,a.types,a.code⟩,⟨j.types,j.code⟩,?_,u⟩
 .show(p9 m s f x A B e).m.bX++[Cg m s f x A B e]=m.bX++[Cg m s f x A B e];rw[p]
 .show m.types.length+3<1000;omega
def aku {m:Mk} {ton:Nat} {bg name:aj} {a:Ty} {rest:Ex} {T:Ty} (f:lG s) (C:CH bg) (o:a.n<=16) (q:rest.ok) (i:bO rest (fx s++[(name,a)])=some T) (hb:5*(s.length+1)+2*rest.n<=240) (z:m.count<1000):qh (Md m s ton bg name a rest)/\(dQ rest [name] []).length<=34:=by
 obtain⟨O,d,rfl⟩:=C;have n:∀y,Fv y rest->y∉[name]->(look (fx s) y).isSome=true:=λy c A=>by have:=rH i c;rw[qM,iN λe=>A (by rw[e];simp)] at this;exact this
 obtain⟨u,_⟩:=QL om n;have p:=XZ f 2 (dQ rest [name] []) om;have g:(qd m s ton (dZ<|bK O) name a rest).w=eC [116] (nW s (dQ rest [name] []) (dZ<|bK O)):=XW ..;have E:(qd m s ton (dZ<|bK O) name a rest).w.length<=11200:=by rw[g];exact Jd f om<|wL d
 have t:bO rest (fx<|js s 2 (dQ rest [name] []) []++[(name,1,a)])=some T:=by
  rw[<-i,Gu];refine sr rest _ _ λy _ c=>?_;rw[qM,qM];by_cases b:name=y
  .rw[iP b,iP b]
  .rw[iN b,iN b];have j:y∉[name]:=λh=>b (by simpa using h:y=name).symm;have D:y∈dQ rest [name] []:=(DY y _ [name] []).2<|.inr ⟨c,j⟩;rw[QI,QJ D,QK (n y c j)]
 refine⟨{ok:=q,type:=⟨T,t⟩,sc:=p.snoc om o,bud:=?_,room:=?_,regs:=?_,loads:=?_,self:=.inl rfl,bg:=⟨O,d,rfl⟩,on:=?_,aQ:=CJ z},u⟩
 .show 5*(js s 2 (dQ rest [name] []) []++[(name,1,a)]).length+2*rest.n<=240;rw[lA,AF];simp only[lC,List.length_nil];omega
 .show 2+((dQ rest [name] []).length+1)+8*rest.n<=990;omega
 .intro r B;have l:r∈[(qd m s ton (dZ (bK O)) name a rest).w,bK a]:=B;simp only[mC,List.not_mem_nil,or_false] at l;rcases l with rfl|rfl
  .omega
  .have:=rQ o;omega
 .refine .inr ⟨wO s (dQ rest [name] [])<|some O,?_,?_,?_⟩
  .show some (qd m s ton (dZ<|bK O) name a rest).w=_;rw[g,<-GK];rfl
  .show(dQ rest [name] []).length+1<=_;unfold wO;rw[lA,List.length_map];simp
  .rw[<-GK];exact XU f om λT v=>by cases v;exact d
 .show 2+(dQ rest [name] []).length<1000;omega
def akv {ton:Nat} {bg name:aj} {a:Ty} {rest:Ex} {T:Ty} (e:gh m) (f:lG s) (v:ton<1000) (i:CH bg) (c:a.n<=16) (n:rest.ok) (u:bO rest (fx s++[(name,a)])=some T) (hb:5*(s.length+1)+2*rest.n<=240) (o:m.types.length+4<1000) (d:m.count<1000):
  Ext m (wy m s ton bg name a rest).1 4 [Md m s ton bg name a rest]/\gh (wy m s ton bg name a rest).1/\(wy m s ton bg name a rest).2.1<1000/\CH (wy m s ton bg name a rest).2.2/\qh (Md m s ton bg name a rest):=by
 obtain⟨t,_⟩:=aku (m:=m) (ton:=ton) f i c n u hb d;obtain⟨O,r,rfl⟩:=i;have b:Ext m.nq (qd m s ton (dZ<|bK O) name a rest).m 4 []:=X0;have l:gh m.nq:=⟨e.types,e.code⟩;have j:gh (qd m s ton (dZ<|bK O) name a rest).m:=XX l f v om (wL r) (by have:=CJ d;omega) (wL c) sm (λy g=>by simp only[List.mem_singleton] at g;rw[g];have:=rQ c;omega) o;have p:(qd m s ton (dZ<|bK O) name a rest).m.bX=m.bX:=by rw[b.bX];simp[Mk.nq]
 have q:(qd m s ton (dZ<|bK O) name a rest).m.count=m.count+1:=by rw[b.count];simp[Mk.nq]
 refine⟨⟨b.blocks,?_,q,b.types,b.code⟩,⟨j.types,j.code⟩,?_,⟨a,c,rfl⟩,t⟩
 .show(qd m s ton (dZ<|bK O) name a rest).m.bX++[_]=m.bX++[_];rw[p]
 .show m.types.length+3<1000;omega
def Jh (m:Mk) (k:aj):Ext m (m.dH k) 1 []:=⟨rfl,by simp[Mk.dH],rfl,by simp[Mk.dH],by simp[Mk.dH]⟩
def wP (m:Mk) (h:aj) (a:List aj):Ext m (m.cW h a) 1 []:=⟨rfl,by simp[Mk.cW],rfl,by simp[Mk.cW],by simp[Mk.cW]⟩
theorem AI (m:Mk) (k:aj):(m.dH k).types.length=m.types.length+1:=by simp[Mk.dH]
theorem qi (m:Mk) (h:aj) (a:List aj):(m.cW h a).types=m.types:=rfl
theorem pM {n:Nat} (h:n<1000):(aS n).length<=3:=vz h
theorem qj {m:Mk} (h:gh m) {hd:aj} {ps:List aj} (e:hd.length<=5) (a:ps.length<=4) (b:∀p∈ps,p.length<=300):gh (m.cW hd ps):=h.cW (by have c:=CG (m:=300) ps b;have d:ps.length*301<=4*301:=Nat.mul_le_mul a<|lR _;rw[nV];omega)
def GL {s:aj} (h:eR s=true):s.length<=4:=by grind [eR]
def mD (a:List Tk):Nat:=(a.map λt=>t.expr.n+1).sum
theorem Ji (a b:List Tk):mD (a++b)=mD a+mD b:=by grind [mD]
theorem QM (t:Tk):mD [t]=t.expr.n+1:=by simp[mD]
theorem Jj:mD []=0:=rfl
def X7 {a b:aj} (g:gh m) (e:lG s) (f:a.length<=4) (hb:b.length<=4) (i:m.types.length+1<1000):
  (Ext m (cL m s a).1 1 []/\gh (cL m s a).1/\(cL m s a).2<1000)/\Ext m (cL (cL m s a).1 s b).1 2 []/\gh (cL (cL m s a).1 s b).1/\(cL (cL m s a).1 s b).2<1000:=by
 have c:=Je g e f om;have d:=Je (m:=(cL m s a).1) (a:=b) c.2.1 e hb (by have:=c.1.types;omega);exact⟨c,c.1.trans d.1,d.2⟩
structure X8 (m m':Mk) (r:Nat) (n:Nat) (new:List Tk):Prop where
 ext:Ext m m' 4 new
 sml:gh m'
 dH:r<1000
 inv:∀k∈new,qh k
 num:mD new+1<=n
def QN {T:Ty} (r:gh m) (q:lG s) (d:e.ok) (u:bO e (fx s)=some T) (hb:5*s.length+2*e.n<=240) (g:m.types.length+8*e.n<=1000) (E:m.count<1000):
  ∃new,X8 m (o7 m s T e).1 (o7 m s T e).2 e.n new:=by
 have C:=nR q.types u;have hk:=rQ C;have two:∀(h a b:aj),a.length<=4->b.length<=4->h.length<=5->m.types.length+8<=1000->∀n,1<=n->
   X8 m (((cL (cL m s a).1 s b).1.dH<|bK T).cW h [aS (cL (cL m s a).1 s b).1.types.length,aS (cL m s a).2,aS (cL (cL m s a).1 s b).2]) (cL (cL m s a).1 s b).1.types.length n []:=by
  intro h a b D hb F _ n _;obtain⟨⟨_,_,H⟩,t,s2,I⟩:=X7 r q D hb om;have y:=t.types;refine⟨(t.trans ((Jh _ _).trans<|wP _ _ _)),qj (s2.dH om) F sm ?_,om,sm,by simp[Jj];omega⟩;intro p o;simp only[mC,List.not_mem_nil,or_false] at o;rcases o with rfl|rfl|rfl
  .have:=pM (n:=(cL (cL m s a).1 s b).1.types.length) om;omega
  .have:=pM H;omega
  .have:=pM I;omega
 cases e with
 |«at» a=>obtain⟨i,j,l⟩:=Je r q (QH d) (by simp only[Ex.n] at g;omega);exact⟨[],i.more om,j,l,sm,by simp[Jj,Ex.n]⟩
 |un h a=>
  simp only[Ex.n] at g;have v:=a.pos;obtain⟨i,j,l⟩:=Je r q (qg d.2) om;have y:=i.types;refine⟨[],((i.trans ((Jh _ _).trans<|wP _ _ _))).more om,qj (j.dH om) sm sm ?_,?_,sm,by simp[Jj,Ex.n]⟩
  .intro p o;simp only[mC,List.not_mem_nil,or_false] at o;rcases o with rfl|rfl|rfl
   .have:=pM (n:=(cL m s a.aq).1.types.length) om;omega
   .have:=pM l;omega
   .split<;>simp
  .show(cL m s a.aq).1.types.length<1000;omega
 |bi h a b=>
  simp only[Ex.n] at g;have v:=a.pos;refine⟨[],two (sA h) a.aq b.aq (qg d.2.1) (qg d.2.2) ?_ om _<|Ex.pos _⟩;unfold sA;split
  .simp
  .split
   .simp
   .split<;>simp
 |ite a b c=>simp only[Ex.n] at g;exact⟨[],two (sA iz) a.aq b.aq (qg d.1) (qg d.2.1) de om _<|Ex.pos _⟩
 |lt x a b=>simp only[Ex.n] at g;exact⟨[],two (sA il) x a.aq (GL d.1) (qg d.2.1) de om _<|Ex.pos _⟩
 |fn f x A B e=>simp only[Ex.n] at g;obtain⟨i,j,l,z⟩:=akt r q d u hb om E;refine⟨_,i,j,l,λk hk=>by simp only[List.mem_singleton] at hk;rw[hk];exact z,?_⟩;rw[QM];simp only[Cg,Ex.n];omega
def X9 (b:gh m) {s:Nat} (c:s<1000) (i:m.types.length+3<1000):Ext m (vm m s) 6 []/\gh (vm m s)/\(vm m s).types.length=m.types.length+3:=by
 have d:=pM c;have e:=pM (n:=m.types.length) om;have f:=pM (n:=m.types.length+1) om;have g:=pM (n:=m.types.length+2) om;unfold vm;have z:([]:aj).length<=100000:=by simp
 refine⟨(Jh _ _).trans<|(wP _ _ _).trans ((Jh _ _).trans<|(wP _ _ _).trans ((Jh _ _).trans<|wP _ _ _)),?_,by simp[Mk.dH,Mk.cW]⟩;refine qj (gh.dH (qj (gh.dH (qj (gh.dH b z) sm sm ?_) z) sm sm ?_) z) sm sm ?_
 all_goals
  intro p a;simp only[mC,List.not_mem_nil,or_false] at a;rcases a with rfl|rfl|rfl<;>first|omega|simp
def akw (e:gh m) {f on:Nat} (d:f<1000) (j:x<1000) (g:on<1000) (i:m.types.length+3<1000):Ext m (Ap m f x on) 10 []/\gh (Ap m f x on):=by
 obtain⟨b,c,_⟩:=X9 e d i;have d1:=pM (n:=m.types.length+1) om;have d2:=pM (n:=m.types.length+2) om;have d3:=pM j;have d4:=pM g;unfold Ap;refine⟨b.trans ((wP _ _ _).trans<|(wP _ _ _).trans ((wP _ _ _).trans<|wP _ _ _)),?_⟩;refine qj (qj (qj (qj c sm sm ?_) sm sm ?_) sm sm ?_) sm sm ?_
 all_goals
  intro p a;simp only[mC,List.not_mem_nil,or_false] at a
  first
  |(rcases a with rfl|rfl<;>first|omega|simp)
  |(rw[a];omega)
def akx (d:gh m) {on r:Nat} (e:on<1000) (f:r<1000) (g:m.types.length+3<1000):Ext m (Aq m on r) 10 []/\gh (Aq m on r):=by
 obtain⟨b,c,_⟩:=X9 d e g;have d1:=pM (n:=m.types.length+1) om;have d2:=pM (n:=m.types.length+2) om;have d3:=pM f;unfold Aq;refine⟨(b.trans<|(wP _ _ _).trans ((wP _ _ _).trans<|wP _ _ _)).more om,?_⟩;refine qj (qj (qj c sm sm ?_) sm sm ?_) sm sm ?_
 all_goals
  intro p a;simp only[mC,List.not_mem_nil,or_false] at a
  first
  |(rcases a with rfl|rfl<;>first|omega|simp)
  |(rw[a];omega)
structure pN (m:Mk) (s:cX) (on:Nat) (bg:aj) (e:Ex):Prop where
 sml:gh m
 sc:lG s
 ok:e.ok
 type:∃T,bO e (fx s)=some T
 bud:5*s.length+2*e.n<=240
 room:m.types.length+8*e.n<=1000
 on:on<1000
 bg:CH bg
 cnt:m.count+e.n<=900
structure xT (m:Mk) (s:cX) (on:Nat) (bg:aj) (e:Ex) (T:Ty):Prop where
 ok:(bW e).s.ok
 type:bO (bW e).s (fx s)=some T
 small:T.n<=16
 pH:pH s (bW e).s=T
 le:(bW e).s.n<=e.n
 last:(bW e).name=[]->(bW e).s=e
 rest:(bW e).name≠[]->eR (bW e).name=true/\(bW e).rest.ok/\(∃U,bO (bW e).rest (fx s++[((bW e).name,T)])=some U)/\(bW e).s.n+(bW e).rest.n+2<=e.n
def pN.goal {on:Nat} {bg:aj} (h:pN m s on bg e):∃T,xT m s on bg e T:=by
 obtain⟨T,i⟩:=h.type;have g:bW e=⟨[],e,e⟩->∃T,xT m s on bg e T:=λj=>by
  refine⟨T,?_,?_,nR h.sc.types i,?_,?_,?_,?_⟩
  .rw[j];exact h.ok
  .rw[j];exact i
  .rw[j];unfold pH;rw[i];rfl
  .rw[j];exact lR _
  .intro _;rw[j]
  .intro o;rw[j] at o;exact absurd rfl o
 have n:=h.ok;cases e with
 |lt x a b=>
  unfold bO at i;cases l:bO a (fx s) with
  |none=>rw[l] at i;cases i
  |some A=>rw[l,Option.bind_some] at i;refine⟨A,n.2.1,l,nR h.sc.types l,by show(bO a<|fx s).getD .i=A;rw[l];rfl,by simp only[bW,Ex.n];omega,λo=>absurd o<|xK n.1,λ_=>⟨n.1,n.2.2,⟨T,i⟩,by simp only[bW,Ex.n];omega⟩⟩
 |«at» a=>exact g rfl
 |un a b=>exact g rfl
 |bi a b c=>exact g rfl
 |ite a b c=>exact g rfl
 |fn a b c d f=>exact g rfl
def fH (m:Mk) (s:cX) (on:Nat) (bg name:aj) (a:Ty) (rest:Ex):Mk×Nat×aj:=if name≠[] then wy m s on bg name a rest else(m,on,bg)
structure Cut (m m':Mk) (on':Nat) (onOf':aj) (n:Nat) (new:List Tk):Prop where
 ext:Ext m m' 4 new
 sml:gh m'
 on:on'<1000
 bg:CH onOf'
 inv:∀k∈new,qh k
 num:mD new<=n
def Ya {d:Mk} {on:Nat} {bg:aj} {T:Ty} (h:pN d s on bg e) (g:xT d s on bg e T) (c:gh m) (i:m.types.length+4<1000) (q:m.count<1000) (b:2<=(bW e).s.n):
  ∃new,Cut m (fH m s on bg (bW e).name T (bW e).rest).1 (fH m s on bg (bW e).name T (bW e).rest).2.1 (fH m s on bg (bW e).name T (bW e).rest).2.2 (e.n-(bW e).s.n) new:=by
 by_cases a:(bW e).name=[]
 .unfold fH;rw[iN (by simp[a])];exact⟨[],(Ext.refl m).more om,c,h.on,h.bg,sm,by simp[Jj]⟩
 .unfold fH;rw[iP a];obtain⟨_,f,⟨U,p⟩,_⟩:=g.rest a;have hb:=h.bud;obtain⟨j,l,b,n,o⟩:=akv (name:=(bW e).name) c h.sc h.on h.bg g.small f p om i q;refine⟨_,j,l,b,n,λk hk=>by simp only[List.mem_singleton] at hk;rw[hk];exact o,?_⟩;rw[QM];show(bW e).rest.n+1<=_;omega
structure Fin (m m':Mk) (n:Nat) (new:List Tk):Prop where
 ext:Ext m m' 20 new
 sml:gh m'
 inv:∀k∈new,qh k
 num:mD new+1<=n
structure On (m m':Mk) (s:cX) (on:Nat) (bg:aj) (n:Nat) (r:Ex) (new:List Tk):Prop where
 ext:Ext m m' 20 new
 inv:pN m' s on bg r
 bX:∀k∈new,qh k
 num:mD new+r.n+1<=n
def aky {on:Nat} {bg:aj} {T:Ty} (h:pN m s on bg e) (g:xT m s on bg e T) (i:(bW e).name=[]):
  ∃new,Fin m (Aq (o7 m s T (bW e).s).1 on (o7 m s T (bW e).s).2) e.n new:=by
 have l:=h.room;have f:=h.cnt;have j:=(bW e).s.pos;have d:=g.le;obtain⟨new,a⟩:=QN h.sml h.sc g.ok g.type (by have:=h.bud;omega) om om;have n:=a.ext.types;obtain⟨b,c⟩:=akx a.sml h.on a.dH om;exact⟨new,by have:=a.ext.trans b;rw[List.append_nil] at this;exact this.more om,c,a.inv,by have:=a.num;omega⟩
def Yb {on:Nat} {bg:aj} {T:Ty} (h:pN m s on bg e) (g:xT m s on bg e T) (n:(bW e).name≠[]):
  ∃new,On m (o7 m s T (bW e).s).1 (s++[((bW e).name,(o7 m s T (bW e).s).2,T)]) on bg e.n (bW e).rest new:=by
 have q:=h.room;have o:=h.cnt;have p:=(bW e).s.pos;have j:=g.le;obtain⟨_,d,⟨U,i⟩,_⟩:=g.rest n;obtain⟨new,a⟩:=QN h.sml h.sc g.ok g.type (by have:=h.bud;omega) om om;have r:=a.ext.types;have b:=a.ext.count;have f:=a.num;have c:new.length<=mD new:=by
  unfold mD;clear a b f;induction new with
  |nil=>simp
  |cons t l _=>simp only[lC,List.map_cons,List.sum_cons];omega
 refine⟨new,a.ext.more om,⟨a.sml,h.sc.snoc a.dH g.small,d,⟨U,by rw[Gu];exact i⟩,?_,om,h.on,h.bg,om⟩,a.inv,om⟩;have:=h.bud;simp only[lA,lC,List.length_nil];omega
def akA {on:Nat} {bg:aj} {f x:Ex} {T:Ty} (h:pN m s on bg e) (g:xT m s on bg e T) (d:(bW e).s= .bi lS f x):
  ∃new,Cut (cL (cL m s f.aq).1 s x.aq).1 (fH (cL (cL m s f.aq).1 s x.aq).1 s on bg (bW e).name T (bW e).rest).1 (fH (cL (cL m s f.aq).1 s x.aq).1 s on bg (bW e).name T (bW e).rest).2.1 (fH (cL (cL m s f.aq).1 s x.aq).1 s on bg (bW e).name T (bW e).rest).2.2 (e.n-3) new/\
   Fin m (Ap (fH (cL (cL m s f.aq).1 s x.aq).1 s on bg (bW e).name T (bW e).rest).1 (cL m s f.aq).2 (cL (cL m s f.aq).1 s x.aq).2 (fH (cL (cL m s f.aq).1 s x.aq).1 s on bg (bW e).name T (bW e).rest).2.1) e.n new:=by
 have b:=g.ok;rw[d] at b;have r:=h.room;have q:=h.cnt;have l:=g.le;have p:3<=(bW e).s.n:=by rw[d];simp only[Ex.n];have:=f.pos;have:=x.pos;omega
 obtain⟨⟨_,s1,n⟩,c,s2,o⟩:=X7 h.sml h.sc (qg b.2.1) (qg b.2.2) om;have t2:=c.types;have c2:=c.count;simp only[List.length_nil] at c2;obtain⟨new,a⟩:=Ya h g s2 om om om;have t3:=a.ext.types;obtain⟨i,j⟩:=akw a.sml n o a.on om;refine⟨new,⟨a.ext,a.sml,a.on,a.bg,a.inv,by have:=a.num;omega⟩,?_,j,a.inv,by have:=a.num;omega⟩;have:=(c.trans a.ext).trans i;rw[List.append_nil,List.nil_append] at this;exact this.more om
def QP (m:Mk) (s:cX) (on:Nat) (bg:aj) (x:Ex):Tk:=⟨m.aQ,m.types,0,[],s,x,on,bg,m.types.length⟩
def Jl (m:Mk) (s:cX) (on:Nat) (bg:aj) (r:Nat) (x:Ex):Mk:={(m.nq.cW IW [aS r,m.aQ]) with bX:=m.bX++[QP m s on bg x]}
def Yc {on:Nat} {bg:aj} {c x y:Ex} {T:Ty} (h:pN m s on bg e) (g:xT m s on bg e T) (z:(bW e).s= .ite c x y):
  ∃new C,Cut (cL m s c.aq).1 (fH (cL m s c.aq).1 s on bg (bW e).name T (bW e).rest).1 (fH (cL m s c.aq).1 s on bg (bW e).name T (bW e).rest).2.1 (fH (cL m s c.aq).1 s on bg (bW e).name T (bW e).rest).2.2 (e.n-(bW e).s.n) new/\
   On m (Jl (fH (cL m s c.aq).1 s on bg (bW e).name T (bW e).rest).1 s (fH (cL m s c.aq).1 s on bg (bW e).name T (bW e).rest).2.1 (fH (cL m s c.aq).1 s on bg (bW e).name T (bW e).rest).2.2 (cL m s c.aq).2 x) s
    (fH (cL m s c.aq).1 s on bg (bW e).name T (bW e).rest).2.1 (fH (cL m s c.aq).1 s on bg (bW e).name T (bW e).rest).2.2 e.n y C:=by
 have i:=g.ok;have b:=g.type;rw[z] at i b;have S:=h.room;have R:=h.cnt;have K:=g.le;have hb:=h.bud;have I:=c.pos;have P:(bW e).s.n=1+c.n+x.n+y.n:=by rw[z];rfl
 have L:=x.pos;have M:=y.pos;obtain⟨j,s1,O⟩:=Je h.sml h.sc (qg i.1) om;have t1:=j.types;have c1:=j.count;simp only[List.length_nil] at c1;obtain⟨new,a⟩:=Ya h g s1 om om om;generalize fH (cL m s c.aq).1 s on bg (bW e).name T (bW e).rest=Q at a⊢;obtain⟨m2,o,q⟩:=Q;dsimp only at a⊢;have t3:=a.ext.types;have F:=a.ext.count;have E:=a.num;have u:new.length<=mD new:=by
  unfold mD;clear a F E t3;induction new with
  |nil=>simp
  |cons t l _=>simp only[lC,List.map_cons,List.sum_cons];omega
 have J:=CJ (m:=m2) om;have f:(∃X,bO x (fx s)=some X)/\∃Y,bO y (fx s)=some Y:=by
  unfold bO at b;cases n:bO c (fx s) with
  |none=>rw[n] at b;cases b
  |some A=>
   cases r:bO x (fx s) with
   |none=>rw[n,r] at b;cases b
   |some B=>
    cases H:bO y (fx s) with
    |none=>rw[n,r,H] at b;cases b
    |some D=>exact⟨⟨B,rfl⟩,⟨D,rfl⟩⟩
 have N:qh (QP m2 s o q x):=
  ⟨i.2.1,f.1,h.sc,by show 5*s.length+2*x.n<=240;omega,by show m2.types.length+0+8*x.n<=990;omega,a.sml.types,.inl rfl,.inl rfl,a.bg,a.on,J⟩
 refine⟨new,new++[QP m2 s o q x],a,⟨?_,⟨?_,h.sc,i.2.2,f.2,om,?_,a.on,a.bg,?_⟩,?_,?_⟩⟩
 .have d:=j.trans a.ext;rw[List.nil_append] at d;refine⟨d.blocks,?_,?_,?_,?_⟩
  .show m2.bX++[_]=_;rw[d.bX,List.append_assoc]
  .show m2.count+1=_;rw[d.count,lA];simp;omega
  .have:=d.types;exact⟨this.1,by show m2.types.length<=_;omega⟩
  .have:=d.code;show(m2.code++[_]).length<=_;simp only[lA,lC,List.length_nil];omega
 .have:=qj (m:=m2.nq) (hd:=IW) (ps:=[aS (cL m s c.aq).2,m2.aQ]) ⟨a.sml.types,a.sml.code⟩ de sm (λp v=>by
   simp only[mC,List.not_mem_nil,or_false] at v;rcases v with rfl|rfl
   .have:=pM O;omega
   .omega)
  exact⟨this.types,this.code⟩
 .show m2.types.length+_<=_;omega
 .show m2.count+1+_<=_;omega
 .intro k hk;rcases mA.1 hk with hk|hk
  .exact a.inv k hk
  .simp only[List.mem_singleton] at hk;rw[hk];exact N
 .rw[Ji,QM];show _+(x.n+1)+_+1<=_;omega
def qX (m:Mk) (a:List au):Nat->Mk
 |0=>m
 |k+1=>((qX m a k).dH (nth a k).text).cW vj [aS (qX m a k).types.length,[48],aS k]
def CK (m:Mk) (aQ:aj) (regs:List aj) (a b:aj):Mk:=
 let code:=eC [99] regs;let r:=m.types.length
 (((((m.dH code).cW vg [aS r,aQ]).dH<|eC [116] [code,b]).cW nS [aS<|r+1,aS r,[48]]).dH a).cW vh [aS<|r+2,aS<|r+1,a,b]
def pO (m:Mk) (regs:List aj):Mk:={m with code:=[],types:=regs}
def Mz (m:Mk) (t:Tk):Mk:=match t.self with
 |[a,b]=>CK m t.aQ t.regs a b
 |_=>m
def pd (t:Tk):List au:=match bU (t.regs.getD 0 [105]) with
 |some x=>x.ag.drop 1
 |none=>[]
def sC (m:Mk) (t:Tk):Mk:=Mz (qX (pO m t.regs) (pd t) t.loads) t
def QQ {t:Tk} (h:t.regs.head?=some (eC [116] (ts.map au.text))) (c:bU (eC [116] (ts.map au.text))=some (ky [116] ts)):pd t=ts/\bU (t.regs.getD 0 [105])=some (ky [116] ts):=by
 have e:t.regs.getD 0 [105]=eC [116] (ts.map au.text):=by
  cases b:t.regs with
  |nil=>rw[b] at h;cases h
  |cons a l=>rw[b] at h;simpa using h
 unfold pd;rw[e,c];exact⟨rfl,rfl⟩
structure Er (m m':Mk) (regs:List aj) (k:Nat):Prop where
 blocks:m'.blocks=m.blocks
 bX:m'.bX=m.bX
 count:m'.count=m.count
 types:m'.types.length=regs.length+k
 code:m'.code.length<=k
 sml:gh m'
def QR {regs:List aj} (h:∀r∈regs,r.length<=100000):Er m (pO m regs) regs 0:=⟨rfl,rfl,rfl,rfl,by simp[pO],⟨h,by simp[pO]⟩⟩
def QS {m:Mk} {regs:List aj} (h:∀r∈regs,r.length<=100000) (c:∀t∈ts,t.text.length<=100000):∀k,regs.length+k<1000->k<=ts.length->Er m (qX (pO m regs) ts k) regs k
 |0,_,_=>QR h
 |k+1,hk,_=>by
  have a:=QS (m:=m) h c k om om;have d1:=pM (n:=(qX (pO m regs) ts k).types.length) (by rw[a.types];omega);have d2:=pM (n:=k) om;refine⟨a.blocks,a.bX,a.count,by show(((qX (pO m regs) ts k).types++[_])).length=_;rw[lA,a.types];rfl,?_,?_⟩
  .show((qX (pO m regs) ts k).code++[_]).length<=_;have:=a.code;rw[lA];simp;omega
  .refine qj (a.sml.dH ?_) sm sm ?_
   .have:=c (nth ts k) (by unfold nth;rw[gG,gE om];exact List.getElem_mem _);omega
   .intro p b;simp only[mC,List.not_mem_nil,or_false] at b;rcases b with rfl|rfl|rfl
    .omega
    .simp
    .omega
theorem Ye {regs:List aj} (b:regs.length=3) (h:∀r∈regs,r.length<=11200):(eC [99] regs).length<=33610:=by have a:=CG (m:=11200) regs h;rw[b] at a;rw[nV];simp only[lC,List.length_nil];omega
theorem akC (a b c d:aj):iy [a,b,c,d]=4+a.length+b.length+c.length+d.length:=by simp[iy];omega
def akD (f:gh m) {aQ:aj} (e:aQ.length<=4) {regs:List aj} (c:regs.length=3) (h:∀r∈regs,r.length<=11200) {a b:aj} (d:a.length<=272) (hb:b.length<=11200) (g:m.types.length+3<1000):gh (CK m aQ regs a b):=by grind [Ye,pM,dC.length,eC,nV,CI,CK,gh.cW,gh.dH,qj,akC]
def akE {c:Mk} {regs:List aj} (h:Er m c regs k) (aQ a b:aj) (d:gh (CK c aQ regs a b)):Er m (CK c aQ regs a b) regs (k+3):=
 ⟨h.blocks,h.bX,h.count,by have:=h.types;simp[CK,Mk.dH,Mk.cW];omega,by have:=h.code;simp[CK,Mk.dH,Mk.cW];omega,d⟩
def Yf {s:aj} {a:List aj} (h:s∈a):s.length<=iy a:=by
 unfold iy;have:∀{xs:List aj},s∈xs->s.length<=(xs.map List.length).sum:=by
  intro xs;induction xs with
  |nil=>intro h;cases h
  |cons x xs b=>
   intro h;rw[List.map_cons,List.sum_cons];rcases mC.1 h with rfl|h
   .omega
   .have:=b h;omega
 have:=this h;omega
def QT {m:Mk} {t:Tk} (h:qh t):Er m (sC m t) t.regs (t.loads+(if t.self=[] then 0 else 3)):=by
 have s:=h.room;have r:=t.expr.pos;have c:Er m (qX (pO m t.regs) (pd t) t.loads) t.regs t.loads:=by
  rcases h.loads with d|⟨ts,g,e,i⟩
  .rw[d];exact QR h.regs
  .obtain⟨j,_⟩:=QQ g i;rw[j];refine QS h.regs (λx q=>?_) _ om e;have l:=h.regs _<|List.mem_of_mem_head? g;rw[nV] at l;have:=Yf<|List.mem_map_of_mem (f:=au.text) q;omega
 unfold sC Mz;rcases h.self with d|⟨a,b,p,o,hb,n,e⟩
 .rw[d,iP rfl];exact c
 .rw[p,iN sm];refine akE c _ _ _<|akD c.sml h.aQ n e o hb ?_;rw[c.types];omega
def Yg {t:Tk} (h:qh t) (a:m.count+t.expr.n<=900):pN (sC m t) t.sc t.on t.bg t.expr:=by have hb:=QT (m:=m) h;have b:=h.room;refine⟨hb.sml,h.sc,h.ok,h.type,h.bud,?_,h.on,h.bg,by rw[hb.count];exact a⟩;rw[hb.types];split<;>omega
/-! ### A block's body -/
def ow:Nat->At->Ex->Mk
 |0,a,_=>a.m
 |k+1,a,e=>match lU a e with
  | .inl m=>m
  | .inr p=>ow k p.1 p.2
theorem MA (m:Mk) (s:cX) (on:Nat) (bg:aj) (g:Goal):Me ⟨m,s,on,bg⟩ g=⟨(fH m s on bg g.name (pH s g.s) g.rest).1,s,(fH m s on bg g.name (pH s g.s) g.rest).2.1,(fH m s on bg g.name (pH s g.s) g.rest).2.2⟩:=by unfold Me fH;split<;>rfl
def Yh {on:Nat} {bg:aj} (h:pN m s on bg e):match lU ⟨m,s,on,bg⟩ e with
  | .inl q=>∃new,Fin m q e.n new
  | .inr p=>∃new,On m p.1.m p.1.s p.1.on p.1.bg e.n p.2 new:=by
 obtain⟨T,g⟩:=h.goal;have o:=g.pH;have i:lU ⟨m,s,on,bg⟩ e=(if(bW e).name=[] then .inl (Aq (o7 m s (pH s (bW e).s) (bW e).s).1 on (o7 m s (pH s (bW e).s) (bW e).s).2) else .inr (⟨(o7 m s (pH s (bW e).s) (bW e).s).1,s++[((bW e).name,(o7 m s (pH s (bW e).s) (bW e).s).2,pH s (bW e).s)],on,bg⟩,(bW e).rest))->
   match lU ⟨m,s,on,bg⟩ e with
   | .inl q=>∃new,Fin m q e.n new
   | .inr p=>∃new,On m p.1.m p.1.s p.1.on p.1.bg e.n p.2 new:=λl=>by
  rw[l,o];by_cases n:(bW e).name=[]
  .rw[iP n];exact aky h g n
  .rw[iN n];exact Yb h g n
 cases j:(bW e).s with
 |«at» a=>exact i (by unfold lU;simp only[j])
 |un a b=>exact i (by unfold lU;simp only[j])
 |lt a b c=>exact i (by unfold lU;simp only[j])
 |fn a b c d f=>exact i (by unfold lU;simp only[j])
 |bi v f x=>
  by_cases r:v=lS
  .subst r;have l:lU ⟨m,s,on,bg⟩ e= .inl (Ap (fH (cL (cL m s f.aq).1 s x.aq).1 s on bg (bW e).name T (bW e).rest).1 (cL m s f.aq).2 (cL (cL m s f.aq).1 s x.aq).2 (fH (cL (cL m s f.aq).1 s x.aq).1 s on bg (bW e).name T (bW e).rest).2.1):=by
    unfold lU;simp only[j,if_true,MA];rw[<-j,o]
   rw[l];obtain⟨new,_,t⟩:=akA h g j;exact⟨new,t⟩
  .exact i (by unfold lU;simp only[j,iN r])
 |ite c x y=>
  have l:lU ⟨m,s,on,bg⟩ e= .inr (⟨Jl (fH (cL m s c.aq).1 s on bg (bW e).name T (bW e).rest).1 s (fH (cL m s c.aq).1 s on bg (bW e).name T (bW e).rest).2.1 (fH (cL m s c.aq).1 s on bg (bW e).name T (bW e).rest).2.2 (cL m s c.aq).2 x,s,
    (fH (cL m s c.aq).1 s on bg (bW e).name T (bW e).rest).2.1,(fH (cL m s c.aq).1 s on bg (bW e).name T (bW e).rest).2.2⟩,y):=by
   unfold lU;simp only[j,MA];rw[<-j,o];rfl
  rw[l];obtain⟨_,new,_,u⟩:=Yc h g j;exact⟨new,u⟩
structure zj (m m':Mk) (s:cX) (on:Nat) (bg:aj) (n k:Nat) (r:Ex) (new:List Tk):Prop where
 ext:Ext m m' k new
 inv:pN m' s on bg r
 bX:∀k∈new,qh k
 num:mD new+r.n<=n
 steps:k+20*r.n<=20*n
theorem zj.start {on:Nat} {bg:aj} (h:pN m s on bg e):zj m m s on bg e.n 0 e []:=⟨Ext.refl m,h,sm,by simp[Jj],om⟩
def zj.step {s2:cX} {on d:Nat} {bg e:aj} {r f:Ex} {new c:List Tk} (h:zj m m1 s on bg n k r new) (a:On m1 m2 s2 d e r.n f c):zj m m2 s2 d e n (k+20) f (new++c):=
 ⟨h.ext.trans a.ext,a.inv,λt b=>by rcases mA.1 b with b|b;exact h.bX t b;exact a.bX t b,by rw[Ji];have:=h.num;have:=a.num;omega,by have:=h.steps;have:=a.num;omega⟩
structure QU (m m':Mk) (n:Nat) (new:List Tk):Prop where
 ext:Ext m m' (20*n) new
 sml:gh m'
 inv:∀k∈new,qh k
 num:mD new+1<=n
def zj.fin {on:Nat} {bg:aj} {r:Ex} {new c:List Tk} (h:zj m m1 s on bg n k r new) (b:Fin m1 m2 r.n c):QU m m2 n (new++c):=by
 have d:=h.steps;have e:=r.pos;refine⟨(h.ext.trans b.ext).more om,b.sml,λt a=>?_,by rw[Ji];have:=h.num;have:=b.num;omega⟩;rcases mA.1 a with a|a
 .exact h.bX t a
 .exact b.inv t a
def MB:∀(k:Nat) {m:Mk} {s:cX} {on:Nat} {bg:aj} {e:Ex},pN m s on bg e->e.n<=k->∃new,QU m (ow k ⟨m,s,on,bg⟩ e) e.n new
 |0,_,_,_,_,e,_,hk=>absurd hk (by have:=e.pos;omega)
 |k+1,m,s,on,bg,e,h,hk=>by
  have a:=Yh h;unfold ow;cases d:lU ⟨m,s,on,bg⟩ e with
  |inl _=>rw[d] at a;obtain⟨new,a⟩:=a;exact⟨_,(zj.start h).fin a⟩
  |inr p=>
   rw[d] at a;obtain⟨⟨m1,s1,_,_⟩,_⟩:=p;obtain⟨new,a⟩:=a;dsimp only at a⊢;obtain⟨f,c⟩:=MB k a.inv (by have:=a.num;omega);have g:=a.num;refine⟨new++f,(a.ext.trans c.ext).more om,c.sml,λt b=>?_,by rw[Ji];have:=c.num;omega⟩;rcases mA.1 b with b|b
   .exact a.bX t b
   .exact c.inv t b
def akG:∀(k:Nat) {m:Mk} {s:cX} {on:Nat} {bg:aj} {e:Ex},pN m s on bg e->e.n<=k->ow k ⟨m,s,on,bg⟩ e=ow e.n ⟨m,s,on,bg⟩ e:=by
 have b:∀(k j:Nat) {m:Mk} {s:cX} {on:Nat} {bg:aj} {e:Ex},pN m s on bg e->e.n<=k->e.n<=j->ow k ⟨m,s,on,bg⟩ e=ow j ⟨m,s,on,bg⟩ e:=by
  intro k;induction k with
  |zero=>intro j _ _ _ _ e _ hk;have:=e.pos;omega
  |succ k d=>
   intro j m s on bg e h hk _;cases j with
   |zero=>have:=e.pos;omega
   |succ j=>
    have a:=Yh h;unfold ow;cases c:lU ⟨m,s,on,bg⟩ e with
    |inl _=>rfl
    |inr p=>rw[c] at a;obtain⟨⟨m1,s1,_,_⟩,_⟩:=p;obtain⟨new,a⟩:=a;dsimp only at a⊢;have f:=a.num;exact d j a.inv om om
 exact λk m s on bg e h hk=>b k e.n h hk (lR _)
/-! ### A program -/
def Es (m:Mk) (aQ:aj) (regs:List aj):Mk:={m with blocks:=m.blocks++[⟨aQ,regs,m.code⟩]}
abbrev sT:aj:=[40,116,41]
def vC (T:Ty):Mk:=
 let on:=dZ<|bK T;let code:=eC [99] [sT,bK T]
 ((((⟨[],[],0,false,[],[sT,code,eC [116] [code,sT],on]⟩:Mk).cW nS [[48]]).cW vg [[49],Ce]).cW nS [[50],[49],[48]]).cW vh [[51],[50],on,sT]
def Jn (e:Ex) (T:Ty):Tk:=⟨D0,[],0,[],[],e,3,dZ<|bK T,0⟩
def ur (e:Ex) (T:Ty):Mk:=ow e.n ⟨vC T,[],3,dZ<|bK T⟩ e
def Et (e:Ex) (T:Ty):Mk:=Es {(Es (ur e T) D0 []) with code:=[[40,104,97,108,116,32,49,41]]} Ce [sT,bK T]
def GO (m:Mk) (t:Tk):Mk:=Es (ow t.expr.n ⟨sC m t,t.sc,t.on,t.bg⟩ t.expr) t.aQ t.regs
def iM (a:List Tk) (i:Nat):Tk:=a.getD i ⟨[],[],0,[],[],.at [],0,[],0⟩
def AM:Nat->Mk->Nat->Mk
 |0,m,_=>m
 |k+1,m,i=>if i<m.bX.length then AM k (GO m<|iM m.bX i) (i+1) else m
def ofM (e:Ex) (T:Ty):Mk:=AM 1000 (Et e T) 0
structure uv (m:Mk) (i:Nat):Prop where
 le:i<=m.bX.length
 count:m.count=m.bX.length
 num:i+mD (m.bX.drop i)<=120
 inv:∀t,t∈m.bX.drop i->qh t
 BS:∀b∈m.blocks,b.small/\b.aQ.length<=10
 bnum:m.blocks.length=i+2
def Yi {T:Ty} (f:e.ok) (d:bO e []=some T) (m:e.n<=120):pN (vC T) [] 3 (dZ<|bK T) e:=by
 have b:=nR (Γ:=[]) (λs T h=>by simp[look] at h) d;have i:=rQ b;have j:=wL b;have l:(eC [99] [sT,bK T]).length<=300:=by rw[nV,CI];simp only[lC,List.length_nil];omega
 have g:CH (dZ<|bK T):=⟨T,b,rfl⟩;refine⟨?_,⟨λs T h=>by simp[fx,look] at h,sm⟩,f,⟨T,d⟩,by simp;omega,by simp[vC,Mk.cW];omega,om,g,by simp[vC,Mk.cW];omega⟩;unfold vC;refine qj (qj (qj (qj ⟨?_,sm⟩ sm sm ?_) sm sm ?_) sm sm ?_) sm sm ?_
 .intro s c;simp only[mC,List.not_mem_nil,or_false] at c;rcases c with rfl|rfl|rfl|rfl
  .simp
  .omega
  .rw[nV,CI];simp only[lC,List.length_nil];omega
  .omega
 all_goals
  intro p a;simp only[mC,List.not_mem_nil,or_false] at a
  first
  |(rcases a with rfl|rfl|rfl|rfl<;>first|omega|simp)
  |(rcases a with rfl|rfl|rfl<;>first|omega|simp)
  |(rcases a with rfl|rfl<;>first|omega|simp)
  |(rw[a];simp)
def Yj {T:Ty} (a:e.ok) (c:bO e []=some T) (b:e.n<=120):∃new,QU (vC T) (ur e T) e.n new:=MB _ (Yi a c b)<|lR _
def Yk (a:List Tk):a.length<=mD a:=by induction a<;>grind [mD]
theorem akH (m:Mk) (l:aj) (r:List aj):(Es m l r).blocks=m.blocks++[⟨l,r,m.code⟩]:=rfl
def QV {T:Ty} (d:e.ok) (l:bO e []=some T) (j:e.n<=120):uv (Et e T) 0:=by
 obtain⟨new,h⟩:=Yj d l j;have f:=h.ext.bX;have g:=h.ext.count;have m:=h.num;have n:=h.ext.code;have i:=h.ext.blocks;have hb:(Et e T).blocks=[⟨D0,[],(ur e T).code⟩,⟨Ce,[sT,bK T],[[40,104,97,108,116,32,49,41]]⟩]:=by unfold Et;rw[akH];show(ur e T).blocks++_++_=_;rw[i];rfl
 have c:(Et e T).bX=new:=by show(ur e T).bX=new;rw[f];rfl
 refine⟨Nat.zero_le _,?_,?_,?_,?_,by rw[hb];rfl⟩
 .rw[c];show(ur e T).count=_;rw[g];simp[vC,Mk.cW]
 .rw[c,List.drop_zero];omega
 .rw[c,List.drop_zero];exact h.inv
 .intro b a;rw[hb] at a;have o:(vC T).code.length=4:=rfl;simp only[mC,List.not_mem_nil,or_false] at a;rcases a with rfl|rfl
  .exact⟨⟨by simp,sm,by show(ur e T).code.length<_;omega⟩,sm⟩
  .exact⟨⟨by simp,sm,sm⟩,sm⟩
theorem MC {a:List Tk} (b:i<a.length):a.drop i=iM a i::a.drop (i+1):=by simp_all[iM]
def uv.task (h:uv m i) (a:i<m.bX.length):qh (iM m.bX i)/\m.count+(iM m.bX i).expr.n<=900/\m.bX.length<=120:=by
 have c:=h.num;have b:=Yk<|m.bX.drop i;rw[List.length_drop] at b;have d:mD (m.bX.drop i)=(iM m.bX i).expr.n+1+mD (m.bX.drop<|i+1):=by rw[MC a];simp[mD]
 have e:=h.count;exact⟨h.inv _ (by rw[MC a];simp),om,om⟩
def uv.step (h:uv m i) (f:i<m.bX.length):uv (GO m<|iM m.bX i) (i+1):=by
 obtain⟨e,r,_⟩:=h.task f;have u:=h.num;have v:mD (m.bX.drop i)=(iM m.bX i).expr.n+1+mD (m.bX.drop<|i+1):=by rw[MC f];simp[mD]
 have hb:=QT (m:=m) e;obtain⟨new,d⟩:=MB _ (Yg e r)<|lR _;have l:=d.ext.bX;have n:=d.ext.count;have p:=d.ext.code;have j:=d.ext.blocks;have s:=d.num;have A:=hb.code;rw[hb.bX] at l;rw[hb.count] at n;rw[hb.blocks] at j;have z:=e.room;have o:(m.bX++new).drop (i+1)=m.bX.drop (i+1)++new:=by rw[List.drop_append_of_le_length f]
 have g:(GO m<|iM m.bX i).bX=m.bX++new:=l;refine⟨by rw[g,lA];omega,?_,?_,?_,?_,?_⟩
 .rw[g,lA,<-h.count];exact n
 .rw[g,o,Ji];omega
 .intro t a;rw[g,o] at a;rcases mA.1 a with a|a
  .exact h.inv t (by rw[MC f];simp[a])
  .exact d.inv t a
 .intro b q;have c:b∈m.blocks++[⟨(iM m.bX i).aQ,(iM m.bX i).regs,(ow (iM m.bX i).expr.n ⟨sC m (iM m.bX i),(iM m.bX i).sc,(iM m.bX i).on,(iM m.bX i).bg⟩ (iM m.bX i).expr).code⟩]:=by rw[<-j];exact q
  rcases mA.1 c with c|c
  .exact h.BS b c
  .simp only[List.mem_singleton] at c;rw[c];have y:=e.aQ;refine⟨⟨by show(iM m.bX i).aQ.length<_;omega,by show(iM m.bX i).regs.length<_;omega,?_⟩,by show(iM m.bX i).aQ.length<=_;omega⟩;refine Nat.lt_of_le_of_lt p ?_;have:(if(iM m.bX i).self=[] then 0 else 3)<=3:=by split<;>omega
   omega
 .show((ow _ _ _).blocks++[_]).length=_;rw[j,lA,h.bnum];rfl
theorem Yl (h:¬i<m.bX.length):∀k,AM k m i=m
 |0=>rfl
 |k+1=>by unfold AM;rw[iN h]
theorem Ym (h:i<m.bX.length) (k:Nat):AM (k+1) m i=AM k (GO m<|iM m.bX i) (i+1):=by rw[AM,iP h]
def uv.small (h:uv m i):qE m.blocks:=by have b:=h.num;refine⟨by rw[h.bnum];omega,λj a=>(h.BS _ ?_).1⟩;unfold bJ;rw[gG,gE a];exact List.getElem_mem a
def uv.labels (h:uv m i):∀b∈m.blocks,b.aQ.length<=10:=λb hb=>(h.BS b hb).2
end Go.Proofs.YtjkkipfboijfaaaGreatDoor
