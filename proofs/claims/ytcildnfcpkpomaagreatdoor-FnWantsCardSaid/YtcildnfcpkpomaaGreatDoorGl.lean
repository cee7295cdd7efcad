/- Lemmas for the law FnWants, no statement of their own: no conditions. -/
import Derived.Test.YtcildnfcpkpomaaGreatDoorGk
import Derived.Lib.SliceRun
set_option maxHeartbeats 4000000
set_option linter.unusedVariables false
set_option linter.unusedSimpArgs false
namespace Go.Proofs.YtcildnfcpkpomaaGreatDoor
open Go
variable {L:List Nat} {w w':World} {B E T b bytes c i j m:Nat} {a:Option Addr} {v z:Value} {xs:List aj} {bs:List Bk} {p:aj->Bool} {t y:aq} {ps:List aq}
theorem arN {d:Nat} {q:Array Value} {T:TypeId} (hb:aK w d q T) (H:∀(i:Nat) (s:aj),q[i]?≠some (str s)) {n size:Nat} {rows:List (List C)} (h:cg L w (.slice a n c) (.sl size rows)) (D:∀row∈rows,∃s rest,row= .val (str s)::rest) (M:∀row l u,row∈rows->l∈row->cg L w u l->cg (L++[d]) w u l):cg (L++[d]) w (.slice a n c) (.sl size rows):=by
 cases h with
 |nil=>exact .nil _ _ _
 |sl b p _ _ _ _ f o g K F t A z=>
  cases rows with
  |nil=>
   have:n=0:=by rw[<-o];rfl
   subst this;exact .nil _ _ _
  |cons row rest=>
   have B:b≠d:=by rintro rfl;obtain⟨s,r,e⟩:=D row sm;have J:=t row sm;have v:=z 0 0 row (.val<|str s) rfl (by rw[e];rfl);have m:=A 0 0 (by rw[<-o];simp) (by rw[<-J,e];simp);rw[hb.cell] at m;generalize f 0 0=u at v m;cases v;exact H _ _ m
   exact .sl b p n c size _ f o g K (λI=>(mA.1 I).elim F λE=>B<|by simpa using E) t A λi j row c y g=>M row c _ (List.mem_of_getElem? y) (List.mem_of_getElem? g)<|z i j row c y g
theorem abC {d:Nat} {e:Array Value} {T:TypeId} (hb:aK w d e T) (g:∀(i:Nat) (s:aj),e[i]?≠some (str s)) {xs:List aj} (h:bw L w v xs):bw (L++[d]) w v xs:=by
 obtain⟨a,n,c,rfl,_⟩:=dU h;refine arN hb g h (λrow b=>?_) λrow _ u b f j=>?_
 .obtain⟨x,_,rfl⟩:=List.mem_map.1 b;exact⟨x,[],rfl⟩
 .obtain⟨x,_,rfl⟩:=List.mem_map.1 b;simp only[List.mem_singleton] at f;subst f;cases j;exact .val _
theorem abD {b:Nat} {c:Array Value} {T:TypeId} (hb:aK w b c T) (a:∀(i:Nat) (s:aj),c[i]?≠some (str s)):∀{bs:List Bk} {xs:List Value},dC L w xs (bs.map Bk.enc).flatten->dC (L++[b]) w xs (bs.map Bk.enc).flatten
 |[],[],_=>trivial
 |f::bs,x0::x1::x2::r,h=>by obtain⟨d,e,g,h⟩:=h;cases d;exact⟨.val _,abC (xs:=f.cO) hb a e,abC (xs:=f.code) hb a g,abD (bs:=bs) hb a h⟩
theorem dS.gr {f q:Nat} {g:Option Nat} (h:dS w f q) (d:Gr B [] w T 3 v g (bs.map Bk.enc)) (y:f<B):Gr B [f] w T 3 v g (bs.map Bk.enc):=by
 obtain⟨a,n,c,p,xs,l,_⟩:=h;obtain⟨u,o,m,t,_⟩:=d.own;have r:∀(i:Nat) (s:aj),([.slice a n c,.int .i64 ((p:Nat):Int)]:List Value).toArray[i]?≠some (str s):=λi s j=>by
  match i with
  |0=>cases j
  |1=>cases j
  |i+2=>cases j
 rw[List.append_nil] at m;exact⟨⟨u,o,abD l r m,t,λb hb e=>by have:=d.low b hb;simp at e;omega⟩,d.low,λx e=>by simp at e;subst e;exact l.lt,d.bsz⟩
theorem arO (a q:Nat) (O:q<=700000000) (w:World) (h:dS w a q):
  bz Tryz.prog 60 [.pointer (some ⟨a,0,none⟩)] w λr w'=>(∃x,r=str x)/\dS w' a (q+12000)/\ak [a] w w':=by
 have hk:=ak.refl [a] w;have P:=h.lt;have Q:(4:Nat)^2=16:=rfl;refine bY [.tmp 2] 28 Tryz.func60 rfl agN rfl rfl ?_;refine W ?_;refine aA (oo 3 de de a q om w h) ?_;rintro d H ⟨⟨z,c,_⟩,h,b⟩;subst c;have hk:=hk.trans b;refine W ?_;refine jo (λx:aj=>[(0,.pointer<|some ⟨a,0,none⟩),(3,str x)]) (λx n=>ak [a] w n/\dS n a (q+20)/\x.length<=100) ?_ ?_;refine zc rfl (λA=>?_) λA=>?_;refine lh<|zm<|aA (Sz 2 de a (q+1) om H h) ?_;rintro d I ⟨⟨T,c,m⟩,h,b⟩;subst c;have E:=T.len;have m:T.n+1<=8:=m;have hk:=hk.trans b;refine W ?_;exact⟨_,⟨rfl,rfl⟩,hk,h.more om,om⟩;refine WZ ?_;exact⟨_,⟨rfl,rfl⟩,hk,h.more om,by decide⟩;intro l I _ D;obtain⟨hk,h,_⟩:=D;have F:=h.lt;refine zr<|zm<|gP bu bj λ_ s f _=>bK s hk h λhk h=>?_;refine gP bu bj λJ t p _=>cN t hk h f λhk h f=>?_;refine jv (O9 _ _ _ _ _ _ _) rfl rfl<|zm<|zm<|aA (oo 3 de de a (q+20) om J h) ?_;rintro d g ⟨⟨i,c,_⟩,h,b⟩;subst c;have hk:=hk.trans b;have y:bw [a] g _ []:=(f.ma.aG b so).rep so;have v:bw [a] g _ []:=(p.ma.aG b so).rep so;have C:=SK (2+i) om;have N:4^(2+i)<=4^4:=Nat.pow_le_pow_right de om;have S:(4:Nat)^4=256:=rfl;refine mq rfl rfl rfl rfl rfl (ml (2+i) om _ om)<|aA (C [] [] l a (q+21) _ _ g rfl so sm om om h y v) ?_;rintro d K ⟨⟨M,c,_⟩,h,b⟩;subst c;have hk:=hk.trans b;have h:=h.more<|show _<=q+6000 from om;refine W ?_;refine aA (QA M K) ?_;rintro _ _ ⟨rfl,j⟩;have R:=j.size;refine bK j hk h λhk h=>?_;refine aV<|zc rfl (λB=>?_) λB=>?_;refine W ?_;exact⟨_,rfl,⟨_,rfl⟩,h.more om,hk⟩;have F:=h.lt;refine iA<|zr<|zm<|gP bu bj λ_ u e _=>bK u hk h λhk h=>?_;refine gP bu bj λL b o _=>cN b hk h e λhk h e=>?_;refine jv (O9 _ _ _ _ _ _ _) rfl rfl<|zm<|aA (SK 2 de [] [] l a (q+6000) _ _ L rfl sm sm om om h (e.ma.rep so) (o.ma.rep so)) ?_;rintro d _ ⟨⟨_,c,_⟩,h,b⟩;subst c;have hk:=hk.trans b;refine W ?_;exact⟨_,rfl,⟨_,rfl⟩,h.more om,hk⟩
theorem Gr.two {B i:Nat} {x1 x2 a d e f:Value} {f1 f2:Bk} (hb:aK w b [x1,x2,a,d,e,f].toArray i) (m:rG (b::L) w (.agg #[x1,x2,a]) f1) (n:rG (b::L) w (.agg #[d,e,f]) f2) (j:B<=b) (o:∀x∈L,x<w.heap.size) (p:b∉L):Gr B L w i 3 (.slice (some ⟨b,0,none⟩) 2 2) (some b) ([f1,f2].map Bk.enc):=
 ⟨⟨[x1,x2,a,d,e,f],⟨rfl,.inr ⟨b,2,_,rfl,rfl,hb,lR _,by decide,rfl,rfl⟩⟩,dC.append (vs:=[x1,x2,a]) m.lD<|dC.append (vs:=[d,e,f]) n.lD (vs':=[]) (cs':=[]) trivial,by intro row l;simp at l;rcases l with rfl|rfl<;>rfl,by intro c g;cases g;exact p⟩,by intro c g;cases g;exact j,o,Nat.le_of_lt (Nat.lt_of_le_of_lt j hb.lt)⟩
structure Ds (bs:List Bk):Prop where
 len:1<=bs.length/\bs.length<=40
 bk:∀b∈bs,b.aM.length<=100/\b.cO.length<=40/\b.code.length<=80/\(∀x∈b.cO,x.length<=12000)/\∀x∈b.code,x.length<=12000
theorem Ds.smalls (h:Ds bs):o3 bs:=⟨by have:=h.len;omega,λi a=>by have:=h.bk (cA bs i) (List.mem_of_getElem?<|qM a);exact⟨by omega,om,om⟩⟩
theorem SU.dr {b:Bk} {l:aj} (h:SU b l) (c:l.length<=100):b.aM.length<=100/\b.cO.length<=40/\b.code.length<=80/\(∀x∈b.cO,x.length<=12000)/\∀x∈b.code,x.length<=12000:=
 ⟨by rw[h.aM];exact c,by have:=h.regs.1;omega,by have:=h.code.2.1;omega,λx a=>by have:=h.regs.2 x a;omega,λx a=>by have:=h.code.2.2 x a;omega⟩
theorem arP {x:aj} (h:uJ x=true):x.length<=12000:=by
 unfold uJ seen at h;cases a:bS x with
 |none=>rw[a] at h;cases h
 |some t=>exact(vS a).2.2.2
theorem abE (g:eK bs=true) (p:∀b∈bs,b.aM.length<=10):Ds bs:=by
 obtain⟨j,l,m⟩:=N2 g;refine⟨⟨l,j⟩,λb hb=>?_⟩;obtain⟨i,f,rfl⟩:=List.getElem_of_mem hb;have e:cA bs i=bs[i]:=by unfold cA;rw[gG,gE f];rfl
 have a:=m i f;rw[e] at a;obtain⟨_,n,o⟩:=Ir<|Gc g _ hb;refine⟨by have:=p _ hb;omega,a.1,a.2.2,λx d=>?_,λx d=>?_⟩
 .obtain⟨t,c,_⟩:=n x d;exact(vS c).2.2.2
 .obtain⟨t,c,_⟩:=o x d;exact(vS c).2.2.2
theorem Ds.arQ {a:List Bk} (h:Ds bs) (d:yq bs a):Ds a:=by
 refine⟨by rw[d.1];exact h.len,λb hb=>?_⟩;obtain⟨i,l,rfl⟩:=List.getElem_of_mem hb;have m:i<bs.length:=by rw[<-d.1];exact l
 have e:cA a i=a[i]:=by unfold cA;rw[gG,gE l];rfl
 obtain⟨f,g,n,j⟩:=d.2 i m;rw[e] at f g n j;have c:=h.bk (cA bs i) (List.mem_of_getElem?<|qM m);rw[f,g];exact⟨c.1,c.2.1,om,c.2.2.2.1,λx o=>(j x o).elim (c.2.2.2.2 x) arP⟩
def S3:List aj:=[[98,49],[98,48],[101,110,100]]
theorem arR (c q:Nat) (hq:q<=600000000) (w:World) (h:dS w c q):
  bz Tryz.prog 29 [.pointer (some ⟨c,0,none⟩)] w λr w'=>(∃bs g,Ds bs/\Gr w.heap.size [c] w' 39 3 r g (bs.map Bk.enc))/\dS w' c (q+20000)/\ak [c] w w':=by
 have hk:=ak.refl [c] w;have iU:=h.lt;refine bY [.tmp 2] 49 Tryz.func29 rfl agn rfl rfl ?_;refine W ?_;refine aA (oo 3 de de c q om w h) ?_;rintro f w1 ⟨⟨z,d,_⟩,h,a⟩;subst d;have hk:=hk.trans a;refine W ?_;refine zc rfl (λh1=>?_) λh1=>?_;have i:=h.lt;refine zr<|zm<|aA (SW [109,97,105,110] 0 de c (q+1) om w1 h) ?_;rintro f T ⟨⟨f1,tR,J⟩,h,a⟩;have hk:=hk.trans a;have J:=J [c] so;have s:=DO J;obtain⟨a1,n1,c1,a2,n2,c2,d,_,_,j,l⟩:=s;subst d;refine zm<|zm<|aA (oo 3 de de c (q+101) om T h) ?_;rintro f U ⟨⟨z2,d,_⟩,h,a⟩;subst d;have hk:=hk.trans a;have j:=j.aB a sm;have l:=l.aB a sm;have i:=h.lt;refine aA (SW [98,48] z2 om c (q+102) om U h) ?_;rintro f t ⟨⟨f2,tS,I⟩,h,a⟩;have hk:=hk.trans a;have j:=j.aB a sm;have l:=l.aB a sm;have I:=I [c] so;have s:=DO I;obtain⟨a3,n3,c3,a4,n4,c4,d,_,_,u,y⟩:=s;subst d;refine tK [.tmp 10,.tmp 14] [[str f1.aM,.slice a1 n1 c1,.slice a2 n2 c2],[str f2.aM,.slice a3 n3 c3,.slice a4 n4 c4]] kG iD rfl rfl rfl rfl rfl rfl rfl rfl rfl λV p GX _=>?_;have i:=h.lt;have A:∀x∈t.heap.size::[c],x∈[c]\/t.heap.size<=x:=(λx o=>by rcases mC.1 o with h9|h9;(·right;omega);(·exact .inl h9));have j:=(j.fresh A).ext p;have l:=(l.fresh A).ext p;have u:=(u.fresh A).ext p;have y:=(y.fresh A).ext p;have m:=hk.size;refine bK p hk h λhk h=>?_;have e:=Gr.two (B:=w.heap.size) (L:=[c]) GX (z8 j l) (z8 u y) om so so;refine W ?_;refine aA (oo 3 de de c (q+202) om V h) ?_;rintro f w6 ⟨⟨_,d,_⟩,h,a⟩;subst d;have hk:=hk.trans a;have e:=e.aB a sm;refine W ?_;refine zc rfl (λh2=>?_) λh2=>?_;have i:=h.lt;refine W ?_;refine rf bu bj rfl rfl rfl rfl rfl λw7 cK tV _=>cN cK hk h e λhk h e=>?_;refine aA (oq S3 de de c (q+203) om _ w7 h<|aK.er S3 tV (λo=>by simp at o;omega) de) ?_;rintro _ w8 ⟨⟨lb,hi,iX⟩,h,a⟩;subst iX;have hk:=hk.trans a;have e:=e.aB a sm;have sW:=(show∀x∈S3,x.length<=30 from by decide) _ hi;refine zm<|aA (oo 2 de de c (q+204) om w8 h) ?_;rintro f w9 ⟨⟨z4,d,_⟩,h,a⟩;subst d;have hk:=hk.trans a;have e:=e.aB a sm;have i:=h.lt;have gd:=e.all;refine aA (SW lb z4 om c (q+205) om w9 h) ?_;rintro f _ ⟨⟨f3,r8,D⟩,h,a⟩;have hk:=hk.trans a;have e:=e.aB a sm;have D:=D _ gd;have s:=DO D;obtain⟨_,_,_,_,_,_,d,_,_,R,Q⟩:=s;subst d;refine fJ kG iD rfl rfl λ_ dm F _=>kJ dm hk h e R Q λhk h e R Q=>?_;refine ac8 kG iD rfl rfl rfl rfl rfl rfl e F (z8 R Q) sm λ_ _ _ _ gU dO=>?_;have hk:=e.since hk dO;have h:=h.aG dO (λx o=>by have:=e.low x (by simp at o;simp[o]);omega);refine W ?_;exact⟨_,rfl,⟨[f1,f2]++[f3],_,⟨by simp,λb hb=>by simp at hb;rcases hb with rfl|rfl|rfl;(·exact tR.dr de);(·exact tS.dr de);(·exact r8.dr om)⟩,gU⟩,h.more om,hk⟩;refine W ?_;exact⟨_,rfl,⟨[f1,f2],_,⟨by simp,λb hb=>by simp at hb;rcases hb with rfl|rfl;(·exact tR.dr de);(·exact tS.dr de)⟩,e⟩,h.more om,hk⟩;refine iA<|zr<|zm<|aA (arO c (q+1) om w1 h) ?_;rintro f T ⟨⟨x9,d⟩,h,a⟩;subst d;have hk:=hk.trans a;have i:=h.lt;have m:=hk.size;refine aA (aaG x9 T) ?_;rintro _ U ⟨kx,Z⟩;have u:=Z.size;refine bK Z hk h λhk h=>?_;obtain⟨_,ok,bs,d,_,hC,n⟩:=kx;subst d;refine W ?_;refine jo (λv:Value=>[(0,.pointer<|some ⟨c,0,none⟩),(4,v)]) (λv X=>ak [c] w X/\dS X c (q+12001)/\∃bs g,Gr w.heap.size [c] X 39 3 v g (bs.map Bk.enc)/\eK bs=true/\∀b∈bs,b.aM.length<=10) ?_ ?_;refine zc rfl (λM=>?_) λM=>?_;have hf:ok=false:=(by simpa using M);have i:=h.lt;have m:=hk.size;refine lh<|aA (aaG [40,43,32,49,32,50,41] U) ?_;rintro _ t ⟨kZ,aJ⟩;have y:=aJ.size;refine bK aJ hk h λhk h=>?_;obtain⟨_,_,_,d,_,S,Sy⟩:=kZ;subst d;have H:=apn S;subst H;have E:=Sy rfl;obtain⟨K,C⟩:=E;refine W ?_;exact⟨_,⟨rfl,rfl⟩,hk,h.more om,_,K,(h.gr C i).down m,S.prog,S.aM⟩;have bm:ok=true:=(by simpa using M);subst bm;have E:=n rfl;obtain⟨K,C⟩:=E;refine WZ ?_;exact⟨_,⟨rfl,rfl⟩,hk,h.more om,_,K,(h.gr C i).down m,hC.prog,hC.aM⟩;intro _ t _ hI;obtain⟨hk,h,bs,g,n,P,Y⟩:=hI;refine j1<|zr<|zm<|aA (oo 2 de de c (q+12001) om t h) ?_;rintro f V ⟨⟨_,d,_⟩,h,a⟩;subst d;have hk:=hk.trans a;have n:=n.aB a sm;have m:=hk.size;refine W ?_;refine zc rfl (λh4=>?_) λh4=>?_;refine W ?_;exact⟨_,rfl,⟨bs,g,abE P Y,n⟩,h.more om,hk⟩;have O:=cg.none n.yC;refine W ?_;refine aA (arD bs P c (q+12002) om _ V h O) ?_;rintro f w6 ⟨⟨cs,gc,N,hH⟩,h,a⟩;have hk:=hk.trans a;refine W ?_;exact⟨_,rfl,⟨cs,gc,(abE P Y).arQ hH,N.down m⟩,h.more om,hk⟩
theorem abF {a:List aq} {n:Nat} (e:a.length<=n) (d:n<1000000) (h:∀t∈a,WF t/\t.size<=24000/\t.text.length<=12000):BX a:=
 ⟨by omega,λt c=>by obtain⟨b,_,_⟩:=h t c;exact⟨b,om,om⟩⟩
theorem vW.abG {b:cM} (h:vW b):BX b.regs/\BX b.code:=
 ⟨abF h.regs om λt a=>⟨(h.rok t a).fB.wf,(h.rok t a).size,(h.rok t a).short⟩,abF h.code om λt a=>⟨(h.cok t a).1.wf,by have:=(h.cok t a).1.size;omega,(h.cok t a).1.text⟩⟩
theorem abH {c:List cM} (h:∀b∈c,vW b):Sv c:=λb hb t a=>⟨((h b hb).cok t a).1.wf,Su ((h b hb).cok t a).2.2⟩
theorem N4 {a:List cM} (h:∀b∈a,vW b):pY a<=80*a.length:=by
 induction a with
 |nil=>simp[pY]
 |cons b a d=>have c:=d λb hb=>h b<|mK _ hb;have e:=(h b<|List.mem_cons_self ..).code;simp only[pY,List.map_cons,List.sum_cons,lC] at c⊢;omega
theorem arW (bs:List Bk):∀row,row∈bs.map Bk.enc->∀c∈row,∀v,c= .val v->v.oneCell'=true:=by
 intro row e c d v a;obtain⟨b,_,rfl⟩:=List.mem_map.1 e;simp only[Bk.enc,mC,List.not_mem_nil,or_false] at d;rcases d with h|h|h
 .subst h;cases a;rfl
 .subst h;cases a
 .subst h;cases a
theorem arX (h:∀b∈bs,b.aM.length<=12000):jl bs=eK bs:=by unfold jl;rw[show bs.all BU=true from List.all_eq_true.2 λb hb=>dT<|h b hb,Bool.and_true]
section
variable {p:List cM} {st:TS} {o:Nat} {t:aq}
end
theorem arY {b:Bk} (h:lU b=true):(b.cO.map tr).map aq.text=b.cO:=by
 have c:=(Ir h).2.1;rw[List.map_map]
 conv=>rhs;rw[<-List.map_id b.cO]
 refine List.map_congr_left λs d=>?_;obtain⟨t,a,_⟩:=c s d;show(tr s).text=s;rw[Iq a,(vS a).2.2.1]
def S4:aj:=[109,97,105,110]
theorem S5 (bs:List Bk) (l:aj):j6 (bs.map dv) l=l6 bs l:=by unfold j6 l6;rw[List.findIdx?_map];rfl
theorem arZ (out:List aj) (t:aq) (s:aj):s∈addN out t↔s∈out\/lO t=some s:=by
 unfold addN;cases h:lO t with
 |none=>simp
 |some r=>
  dsimp only;split
  .next b=>exact⟨.inl,λa=>a.elim id λe=>by cases e;exact b⟩
  .rw[mA,List.mem_singleton];exact⟨λa=>a.imp_right λe=>by rw[e],λa=>a.imp_right λe=>by cases e;rfl⟩
theorem ar0 {out:List aj} (h:out.Nodup) (t:aq):(addN out t).Nodup:=by
 unfold addN;cases lO t with
 |none=>exact h
 |some r=>
  dsimp only;split
  .exact h
  .next d=>exact List.nodup_append.2 ⟨h,sm,λa c b hb e=>d (by rw[<-List.mem_singleton.1 hb,<-e];exact c)⟩
theorem abI (s:aj):∀(c:List aq) (out:List aj),s∈c.foldl addN out↔s∈out\/∃t∈c,lO t=some s
 |[],out=>by simp
 |t::c,out=>by
  rw[List.foldl_cons,abI s c,arZ];constructor
  .rintro((h|h)|⟨u,a,b⟩)
   .exact .inl h
   .exact .inr ⟨t,List.mem_cons_self ..,h⟩
   .exact .inr ⟨u,mK _ a,b⟩
  .rintro(h|⟨u,a,b⟩)
   .exact .inl<|.inl h
   .rcases mC.1 a with rfl|a
    .exact .inl<|.inr b
    .exact .inr ⟨u,a,b⟩
theorem abJ:∀(a:List aq) {out:List aj},out.Nodup->(a.foldl addN out).Nodup
 |[],_,h=>h
 |t::a,_,h=>abJ a<|ar0 h t
theorem abK (s:aj) (a:List cM):s∈jG a↔∃b∈a,∃t∈b.code,lO t=some s:=by
 have f:∀(a:List cM) (out:List aj),s∈a.foldl wW out↔s∈out\/∃b∈a,∃t∈b.code,lO t=some s:=by
  intro a;induction a with
  |nil=>intro out;simp
  |cons b a g=>
   intro out;rw[List.foldl_cons,g,wW,abI];constructor
   .rintro((h|h)|⟨c,d,e⟩)
    .exact .inl h
    .exact .inr ⟨b,List.mem_cons_self ..,h⟩
    .exact .inr ⟨c,mK _ d,e⟩
   .rintro(h|⟨c,d,e⟩)
    .exact .inl<|.inl h
    .rcases mC.1 d with rfl|d
     .exact .inl<|.inr e
     .exact .inr ⟨c,d,e⟩
 unfold jG;rw[f];simp
theorem ar1 {b:Bk} (h:lU b=true):(b.code.map tr).map aq.text=b.code:=by
 have c:=(Ir h).2.2;rw[List.map_map]
 conv=>rhs;rw[<-List.map_id b.code]
 refine List.map_congr_left λs d=>?_;obtain⟨t,a,_⟩:=c s d;show(tr s).text=s;rw[Iq a,(vS a).2.2.1]
theorem ar2 {b:Bk} (h:lU b=true):rv (dv b)=b:=by have a:=arY h;have c:=ar1 h;unfold rv dv;dsimp only;rw[a,c]
theorem aK.setCells {T:TypeId}:∀(d:List Value) (o:Nat) {w:World} {c:Array Value},aK w b c T->∃a,aK (w.setCells b o d) b a T/\a.size=c.size/\(∀x,x<o->a[x]?=c[x]?)/\ak [b] w (w.setCells b o d)/\(w.setCells b o d).heap.size=w.heap.size
 |[],o,w,c,h=>⟨c,h,rfl,λ_ _=>rfl,ak.refl _ _,rfl⟩
 |v::d,o,w,c,h=>by obtain⟨a,e,f,g,i,j⟩:=aK.setCells d (o+1)<|h.set o v;refine⟨a,e,by rw[f];simp,λx _=>?_,(ak.setCell _ _ _ _).trans i,j.trans<|by simp[World.setCell]⟩;rw[g x om,Array.getElem?_setIfInBounds_ne om]
section
variable {P:Program} {n:Nat} {ops:Array Oper} {K:Env->World->Prop} {rest:List Oper} {e:Env} {w:World}
 {dst:Option Nat} {ty:TypeId} {pos:String} {after:Array Edge} {g:Option (Nat×Bool)} {x y:Operand}
theorem ar3 {b o m c:Nat} {d:Array Value} {U:TypeId} (u:P.underlying T=some (.slice E)) (t:TI P E 1 bytes z) (A:gate ops e g=true) 
  (y:cD n dst=true) (F:z.cells=#[z]) (f:z.oneCell'=true) (D:ev e x= .slice (some ⟨b,o,none⟩) m c) (hb:aK w b d U) (B:0<m) (H:o+m<=d.size)
  (k:∀w' a,ak [b] w w'->aK w' b a U->a.size=d.size->(∀i,i<o->a[i]?=d[i]?)->w'.heap.size=w.heap.size->OW P n ops K rest (bX e dst<|.tuple #[]) w'):
  OW P n ops K (⟨dst,.call {callee:=.builtin .clear,args:=#[x],argTypes:=#[T]},ty,pos,after,g⟩::rest) e w:=by
 have C:=Lib.run_clear_slice (P:=P) w T E ty z u t.KL F f b o m c B (λj _=>by rw[hb.cell,Array.getElem?_eq_getElem om];rfl) λj _=>hb.frozen _;obtain⟨a,l,p,q,r,s⟩:=hb.setCells (List.replicate m z) o;refine fI A y (v:=.tuple #[]) (w':=w.setCells b o<|List.replicate m z) ?_<|k _ a r l p q s;simp[execOp,resolve,invoke,builtin,D,C]
theorem ar4 {a:Operand} {b m c l:Nat} {s:IntKind} (o:P.underlying T=some (.slice E)) (j:TI P E 1 bytes z) (q:gate ops e g=true) (p:cD n dst=true) 
  (r:ev e x= .slice (some ⟨b,0,none⟩) m c) (d:ev e a= .int s (l:Int)) (u:l<m) (t:m<=c)
  (k:OW P n ops K rest (bX e dst (.slice (some ⟨b,0+l*1,none⟩) (m-l)<|c-l)) w):OW P n ops K (⟨dst,.slice T x (some a) none none,ty,pos,after,g⟩::rest) e w:=by
 have f:l<=m:=by omega
 have i:¬c=l:=by omega
 refine fI q p (v:=.slice (some ⟨b,0+l*1,none⟩) (m-l)<|c-l) (w':=w) ?_ k;simp[execOp,Instr.sliceAt,Instr.slice,r,d,run_underlying o,Instr.sliceBounds,Instr.sliceBound,asIntOf,f,i,j.sw,uA]
theorem ar5 {a:Operand} {b m c l:Nat} {r:IntKind} (i:P.underlying T=some (.slice E)) (f:TI P E 1 bytes z) (o:gate ops e g=true) (j:cD n dst=true) 
  (q:ev e x= .slice (some ⟨b,0,none⟩) m c) (d:ev e a= .int r (l:Int)) (p:l<=c)
  (k:OW P n ops K rest (bX e dst<|.slice (some ⟨b,0,none⟩) l c) w):OW P n ops K (⟨dst,.slice T x none (some a) none,ty,pos,after,g⟩::rest) e w:=by
 refine fI o j (v:=.slice (some ⟨b,0,none⟩) l c) (w':=w) ?_ k;simp[execOp,Instr.sliceAt,Instr.slice,q,d,run_underlying i,Instr.sliceBounds,Instr.sliceBound,asIntOf,p,f.sw,uA]
end
structure rz (xs:List aj) (p:aj->Bool) (b c T:Nat) (i j:Nat) (w:World):Prop where
 ne:∃cs:Array Value,aK w b cs T/\cs.size=c/\(∀(x:Nat) (s:aj),((xs.take j).filter λs=>!p s)[x]?=some s->cs[x]?=some (str s))/\∀x:Nat,j<=x->x<xs.length->cs[x]?=some (str<|bM xs x)
 ij:((xs.take j).filter λs=>!p s).length=i
 lt:i<j
 le:j<=xs.length
 cap:xs.length<=c/\c<=maxLen
theorem rz.ext (h:rz xs p b c T i j w) (k:ak [] w w'):rz xs p b c T i j w':=by obtain⟨⟨a,d,e⟩,f,g,l,m⟩:=h;exact⟨⟨a,d.ext k,e⟩,f,g,l,m⟩
theorem rz.at (h:rz xs p b c T i j w) (e:j<xs.length):w.cell? ⟨b,0+j*1,none⟩=some (str<|bM xs j):=by obtain⟨_,a,_,_,d⟩:=h.ne;rw[a.cell,show 0+j*1=j by omega];exact d j (lR _) e
theorem Kv (q:aj->Bool) (a:j<xs.length):(xs.take<|j+1).filter q=(xs.take j).filter q++if q (bM xs j)=true then[bM xs j] else[]:=by
 rw[List.take_add_one,js a,List.filter_append]
 congr 1
 show List.filter q [bM xs j]=_;rw[List.filter_cons];split<;>simp
theorem rz.skip (h:rz xs p b c T i j w) (a:j<xs.length) (q:p (bM xs j)=true):rz xs p b c T i (j+1) w:=by
 have e:(xs.take<|j+1).filter (λs=>!p s)=(xs.take j).filter λs=>!p s:=by rw[Kv _ a,q];simp
 obtain⟨⟨d,f,g,l,m⟩,n,_,_,o⟩:=h;exact⟨⟨d,f,g,by rw[e];exact l,λx _=>m x om⟩,by rw[e];exact n,om,a,o⟩
theorem rz.put (h:rz xs p b c T i j w) (l:j<xs.length) (v:p (bM xs j)=false) {d:Array Value} (hb:aK w b d T) (y:aK w' b (d.setIfInBounds i (str<|bM xs j)) T):rz xs p b c T (i+1) (j+1) w':=by
 have e:(xs.take<|j+1).filter (λs=>!p s)=((xs.take j).filter λs=>!p s)++[bM xs j]:=by rw[Kv _ l,v];simp
 obtain⟨⟨z,n,o,q,r⟩,g,_,_,t⟩:=h;have m:z=d:=by have:=n.symm.trans hb;cases this;rfl
 subst m;refine⟨⟨_,y,by simpa using o,λx s a=>?_,λx a u=>?_⟩,by rw[e,lA,g];rfl,om,l,t⟩
 .rw[e] at a;by_cases f:x=i
  .subst f;rw[List.getElem?_append_right om,g,Nat.sub_self] at a;cases a;rw[Array.getElem?_setIfInBounds_self_of_lt om]
  .rw[Array.getElem?_setIfInBounds_ne om];refine q x s ?_;rw[List.getElem?_append] at a;split at a
   .exact a
   .have:=(List.getElem?_eq_some_iff.1 a).1;simp at this;omega
 .rw[Array.getElem?_setIfInBounds_ne om];exact r x om u
theorem rz.start {d:Array Value} (hb:aK w b d T) (r:d.size=c) (y:d.toList.take xs.length=xs.map λx=>str x) (n:xs.length<=c/\c<=maxLen) (m:i<xs.length) (u:p (bM xs i)=true) (o:∀j,j<i->p (bM xs j)=false):rz xs p b c T i (i+1) w:=by
 have hk:∀k,k<=i->(xs.take k).filter (λs=>!p s)=xs.take k:=λk hk=>by
  rw[List.filter_eq_self];intro s v;obtain⟨j,t,e⟩:=List.getElem_of_mem v;rw[List.length_take] at t;rw[List.getElem_take] at e;have f:=o j om;have q:bM xs j=s:=by unfold bM;rw[gG,gE om,<-e];rfl
  rw[q] at f;rw[f];rfl
 have e:(xs.take<|i+1).filter (λs=>!p s)=xs.take i:=by rw[Kv _ m,u,hk i (lR _)];simp
 have l:∀x,x<xs.length->d[x]?=some (str<|bM xs x):=λx a=>by
  have f:(d.toList.take xs.length)[x]?=some (str<|bM xs x):=by rw[y,List.getElem?_map,js a];rfl
  rw[List.getElem?_take] at f;split at f
  .simpa using f
  .omega
 refine⟨⟨d,hb,r,λx s a=>?_,λx _ g=>l x g⟩,by rw[e,List.length_take];omega,om,m,n⟩;rw[e,List.getElem?_take] at a;split at a
 .have g:=(List.getElem?_eq_some_iff.1 a).1;rw[l x g];unfold bM;rw[gG,a];rfl
 .cases a
theorem rz.fin (h:rz xs p b c T i xs.length w) {e a:Array Value} (hb:aK w b e T) (q:aK w' b a T) (t:a.size=e.size) (f:∀x,x<i->a[x]?=e[x]?):cS w' T (.slice (some ⟨b,0,none⟩) i c) (some b) (xs.filter λs=>!p s):=by
 obtain⟨⟨r,n,_,g,_⟩,j,_,_,o⟩:=h;have m:r=e:=by have:=n.symm.trans hb;cases this;rfl
 subst m;rw[List.take_length] at g j;subst j;refine⟨by simp,.inr ⟨b,c,a,rfl,rfl,q,om,o.2,om,?_⟩⟩;apply List.ext_getElem?;intro x;rw[List.getElem?_take,List.getElem?_map];split
 .next d=>
  rw[Nat.mul_one] at d;have l:(xs.filter λs=>!p s)[x]?=some (xs.filter λs=>!p s)[x]:=gE d;rw[l,Array.getElem?_toList,f x d,g x _ l];rfl
 .next d=>rw[Nat.mul_one] at d;rw[List.getElem?_eq_none om];rfl
theorem ar8 (bs:List Bk) (hb:o3 bs) (c:jl bs=true) (v:Value) (e:List Nat) (w:World) (s:lE e w v bs):
  bz Tryz.prog 8 [v] w λr w'=>(∃j,r= .tuple #[j,.bool true]/\bw [] w' j (jG<|bs.map dv))/\ak [] w w':=by
 have a:=ak.refl [] w;have b:eK bs=true:=by unfold jl at c;exact(aE _ _▸c).1
 have d:=(B1 b).2;have i:1<=bs.length/\bs.length<=40:=by unfold eK at b;simp only[aE,dE] at b;exact b.2.1.1
 have l:=N4 d;rw[List.length_map] at l;refine bY [.tmp 2,.tmp 3] 15 Tryz.func8 rfl nm8 rfl rfl ?_;refine W ?_;refine aA (FJ bs hb _ e [] w s sm) ?_;rintro _ u ⟨n,f⟩;have y:=f.size;have a:=a.ext f;obtain⟨ps,pv,rfl,p,t⟩:=n;have m:=t c;subst m;refine W ?_;refine acj (congrArg Value.bool (by rw[c];rfl))<|iA<|zr<|zm<|aA (aqv (bs.map dv) (by rw[List.length_map];omega) om (abH d) _ [] u p sm) ?_;rintro _ _ ⟨o,g⟩;have z:=g.size;have a:=a.ext g;have q:=o;refine W ?_;exact⟨_,rfl,⟨_,rfl,q⟩,a⟩
theorem ar9 (xs:List aj) (t:xs.length<1000000000) (p:aj->Bool) (f:FuncId) (d:List Value) (v:Value) (L:List Nat) (w:World) (u:bw L w v xs) 
  (D:∀i,i<xs.length->∀w',ak [] w w'->bz Tryz.prog f (str (bM xs i)::d) w' λr o=>r= .bool (p<|bM xs i)/\ak [] w' o):
  bz Tryz.prog 69 [v,.func (.func f) #[] d.toArray] w λr w'=>(∃z:Int,r= .int .i64 z/\(z= -1/\(∀i,i<xs.length->p (bM xs i)=false)\/∃i:Nat,z=(i:Int)/\i<xs.length/\p (bM xs i)=true/\∀j,j<i->p (bM xs j)=false))/\ak [] w w':=by
 obtain⟨a,n,c,rfl,F⟩:=dU u;subst F;have e:=ak.refl [] w;refine bY [.tmp 4] 19 Tryz.func69 rfl agW rfl rfl ?_;refine W ?_;refine ey (λk:Nat=>[(0,.slice a xs.length c),(1,.func (.func f) #[] d.toArray),(7,.int .i64 (xs.length:Int)),(8,.int .i64 (k:Int))]) (λk w'=>ak [] w w'/\k<=xs.length/\∀i,i<k->p (bM xs i)=false) (λk=>xs.length-k) (0) (⟨rfl,rfl,rfl,rfl⟩) (⟨e,om,by intro i s;omega⟩) λg I _ B=>?_;obtain⟨e,hk,l⟩:=B;refine W ?_;refine zc rfl (λA=>?_) λA=>?_;have E:=js (xs:=xs) (i:=g) om;have y:=mr u E;obtain⟨b,_,rfl,C⟩:=y;refine WL ?_;refine zl fT rfl (C.ext e 0 _ rfl)<|Ij rfl rfl rfl (D g om I e) ?_;rintro _ _ ⟨rfl,q⟩;have J:=q.size;have e:=e.ext q;refine aV<|zc rfl (λm=>?_) λm=>?_;have H:=m;refine W ?_;exact⟨_,rfl,⟨_,rfl,.inr ⟨g,rfl,om,H,l⟩⟩,e⟩;refine W ?_;exact⟨g+1,⟨rfl,rfl,rfl,rfl⟩,⟨e,om,by intro i s;rcases Nat.lt_or_ge i g with h|h;exact l i h;rw[show i=g by omega];exact m⟩,om⟩;refine W ?_;exact⟨_,rfl,⟨-1,rfl,.inl ⟨rfl,λi s=>l i om⟩⟩,e⟩
theorem asa (d:List aj) (A:d.length<1000000000) (p:aj->Bool) (f:FuncId) (m:List Value) (v:Value) (u:Option Nat) (w:World) (o:cS w 9 v u d) 
  (S:∀i,i<d.length->∀w',ak u.toList w w'->bz Tryz.prog f (str (bM d i)::m) w' λr P=>r= .bool (p<|bM d i)/\ak [] w' P):
  bz Tryz.prog 35 [v,.func (.func f) #[] m.toArray] w λr w'=>cS w' 9 r u (d.filter λs=>!p s)/\ak u.toList w w':=by
 have bO:=o;obtain⟨a,c,rfl⟩:=kv o;have l:=ak.refl u.toList w;refine bY [.tmp 4] 42 Tryz.func35 rfl agt rfl rfl ?_;refine W ?_;refine aA (ar9 d A p f m _ [] w o.rs λi E w' k=>S i E w'<|k.mono sm) ?_;rintro _ _ ⟨⟨z,e9,T⟩,V⟩;subst e9;refine bK V o l λo l=>?_;refine W ?_;refine zc rfl (λn=>?_) λn=>?_;have Q:z= -1:=(by simpa using n);have Y:d.filter (λs=>!p s)=d:=List.filter_eq_self.2 (λs hs=>by obtain⟨i,E,e⟩:=List.getElem_of_mem hs;rcases T with⟨_,n⟩|⟨i9,n,_⟩;(·have D:=n i E;have y:bM d i=s:=(by unfold bM;rw[gG,gE E,<-e];rfl);rw[y] at D;rw[D];rfl);(·omega));refine W ?_;exact⟨_,rfl,by rw[Y];exact o,l⟩;have Q:z≠ -1:=(by simpa using n);have O:∃i:Nat,z=(i:Int)/\i<d.length/\p (bM d i)=true/\∀j,j<i->p (bM d j)=false:=(by rcases T with⟨n,_⟩|n;(·exact absurd n Q);(·exact n));obtain⟨H,K,M,nh,L⟩:=O;subst K;have dL:=o.2;rcases dL with⟨e8,xK,_⟩|⟨b,cap,cur,mZ,e8,fV,nJ,mL,cC,mW⟩
 (·omega)
 cases e8;subst mZ;have g:=rz.start fV om (by rw[Nat.mul_one] at mW;exact mW) ⟨nJ,mL⟩ M nh L;refine WA ?_;refine mq rfl rfl rfl rfl rfl (show IntKind.i64.wrap ((H:Int)+1)=((H+1:Nat):Int) from wrap_i64 _ om om)<|zA<|aV<|ux<|ey (λq:Nat×Nat=>[(0,.slice (some ⟨b,0,none⟩) d.length c),(1,.func (.func f) #[] m.toArray),(5,.int .i64 (q.1:Int)),(6,.int .i64 (q.2:Int))]) (λq w'=>ak [b] w w'/\rz d p b c 9 q.1 q.2 w') (λq=>d.length-q.2) ((H,H+1)) (⟨rfl,rfl,rfl,rfl⟩) (⟨l,g⟩) λgg w2 _ R=>?_;obtain⟨i,j⟩:=gg;dsimp only at R⊢;obtain⟨l,g⟩:=R;have qG:=g.le;have mN:=g.lt;refine W ?_;refine zc rfl (λD=>?_) λD=>?_;have F:j<d.length:=by omega
 refine WL ?_;refine zl fT rfl (g.at F)<|zA<|aV<|zr<|zm<|zm<|Ij rfl rfl rfl (S j F w2 l) ?_;rintro _ w3 ⟨rfl,B⟩;have fD:=B.size;refine bK B l g λl g=>?_;refine j4 rfl rfl rfl<|aV<|zc rfl (λy=>?_) λy=>?_;have I:p (bM d j)=false:=(by simpa using y);have J:=g.ne;obtain⟨Z,t,oJ,_,_⟩:=J;have U:=g.cap;refine W ?_;refine KM bj rfl rfl rfl rfl rfl t om λ_ X C lG=>?_;have l:=l.trans X;have g:=g.put F I t (by rw[show 0+i*1=i by omega] at C;exact C);refine aV<|lh<|zm<|mq rfl rfl rfl rfl rfl (show IntKind.i64.wrap ((i:Int)+1)=((i+1:Nat):Int) from wrap_i64 _ om om)<|zA<|aV<|lh<|zm<|mq rfl rfl rfl rfl rfl (show IntKind.i64.wrap ((j:Int)+1)=((j+1:Nat):Int) from wrap_i64 _ om om)<|zA<|aV ?_;exact⟨(i+1,j+1),⟨rfl,rfl,rfl,rfl⟩,⟨l,g⟩,by dsimp only;omega⟩;have I:p (bM d j)=true:=(by simpa using y);have g:=g.skip F I;refine iA<|lh<|zm<|mq rfl rfl rfl rfl rfl (show IntKind.i64.wrap ((j:Int)+1)=((j+1:Nat):Int) from wrap_i64 _ om om)<|zA<|aV ?_;exact⟨(i,j+1),⟨rfl,rfl,rfl,rfl⟩,⟨l,g⟩,by dsimp only;omega⟩;have N:j=d.length:=om;subst N;have J:=g.ne;obtain⟨Z,t,oJ,_,_⟩:=J;have U:=g.cap;refine W ?_;refine ar4 bu bj rfl rfl rfl rfl om om<|ar3 bu bj rfl rfl rfl rfl rfl t om om λw3 _ B C xY qY lG=>?_;have l:=l.trans B;have hO:=g.fin t C xY λx _=>qY x om;refine W ?_;refine ar5 bu bj rfl rfl rfl rfl om<|zA<|aV<|kP ?_;exact⟨_,rfl,hO,l⟩
theorem asg (d:List cM) (b:d.length<1000000000) (l:aj) (g:Nat) (pv:Value) (L:List Nat) (w:World) (i:jz L w pv d) (j:aK w g [pv].toArray 50):
  bz Tryz.prog 36 [str l,.pointer (some ⟨g,0,none⟩)] w λr w'=>r= .bool (decide<|j6 d l≥0)/\ak [] w w':=by
 obtain⟨a,c,rfl⟩:=xO i;have e:=ak.refl [] w;refine bY [.tmp 3] 8 Tryz.func36 rfl agu rfl rfl ?_;refine W ?_;refine aA (NP d b l _ L w i) ?_;rintro _ _ ⟨rfl,f⟩;have m:=f.size;have e:=e.ext f;refine W ?_;exact⟨_,rfl,rfl,e⟩
theorem ash {b:Bk} (hb:lU b=true) (f:i<b.code.length):∃t,bS (bM b.code i)=some t/\tr (bM b.code i)=t/\bA t=(nth t.ag 0).au/\0<t.ag.length/\((bA t=[108,97,98]\/bA t=[122,101,114,111])->2<t.ag.length):=by have c:=List.mem_of_getElem?<|js f;obtain⟨t,d,e⟩:=(Ir hb).2.2 _ c;have a:=Iq d;have hk:=((Pq hb).cok t<|List.mem_map.2 ⟨_,c,a⟩).2.2;have g:=(Gm hk).2.1;exact⟨t,d,a,UT e,om,Su hk⟩
def ti (a:List aj) (b:Bk) (i:Nat):List aj:=((b.code.take i).map tr).foldl addN a
theorem asi (a:List aj) (b:Bk) (i:Nat):(ti a b i).length<=a.length+i:=by have c:=NQ ((b.code.take i).map tr) a;rw[List.length_map,List.length_take] at c;unfold ti;omega
theorem asj (a:List aj) {b:Bk} (c:i<b.code.length):ti a b (i+1)=addN (ti a b i) (tr<|bM b.code i):=by unfold ti;rw[List.take_add_one,js c,List.map_append,List.foldl_append];rfl
theorem asl (a:List aj) (b:Bk):ti a b b.code.length=wW a (dv b):=by unfold ti;rw[List.take_length];rfl
theorem asm (h:bA t=[108,97,98]\/bA t=[122,101,114,111]) (a:¬(nth t.ag 2).au∈xs):addN xs t=xs++[(nth t.ag 2).au]:=by unfold addN lO;rw[iP h];exact iN a
theorem asn (h:(bA t=[108,97,98]\/bA t=[122,101,114,111])->(nth t.ag 2).au∈xs):addN xs t=xs:=by
 unfold addN lO;split
 .next s e=>
  split at e
  .next a=>cases e;exact iP<|h a
  .cases e
 .rfl
theorem aso (b:Bk) (Q:lU b=true) (xs:List aj) (l:xs.length<=1000000) (o:World) (V X:Value) (g:Option Nat) (w:World) (hb:rG [] o V b) (S:ak [] o w) (a:Gr o.heap.size [] w 9 1 X g (fX xs)):
  bz Tryz.prog 68 [V,X] w λr w'=>(∃g',Gr o.heap.size [] w' 9 1 r g' (fX (wW xs (dv b))))/\ak [] o w':=by
 obtain⟨a1,n1,c1,a2,_,c2,rfl,_,fu,_,dA⟩:=DO hb;subst fu;have j:=(Pq Q).code;have j:b.code.length<=80:=by simpa[dv] using j
 obtain⟨_,dL⟩:=a.own;obtain⟨al,cl,rfl⟩:=dL.len;rw[p9] at a⊢;have Ny:=a;have c:=S;refine bY [.tmp 4] 55 Tryz.func68 rfl agV rfl rfl ?_;refine zr<|eJ rfl λ_ O d dd=>?_;have c:=c.ext O;refine W ?_;have a:=Ny.alloc O dd;have X4:=S.size;refine ey (λq:Nat×Option Addr×Nat×Option Nat=>[(1,.slice q.2.1 (ti xs b q.1).length q.2.2.1),(2,.pointer<|some ⟨w.heap.size,0,none⟩),(5,.int .i64 (q.1:Int))]) (λq w'=>ak [] o w'/\aK w' w.heap.size [str b.aM,.slice a1 n1 c1,.slice a2 b.code.length c2].toArray 39/\Gr o.heap.size [w.heap.size] w' 9 1 (.slice q.2.1 (ti xs b q.1).length q.2.2.1) q.2.2.2 (fX<|ti xs b q.1)/\q.1<=b.code.length) (λq=>b.code.length-q.1) ((0,al,cl,g)) (⟨rfl,rfl,rfl⟩) (⟨c,d,a,sm⟩) λgg w2 _ U=>?_;obtain⟨i,C,I,g3⟩:=gg;dsimp only at U⊢;obtain⟨c,d,a,_⟩:=U;have iU:=d.lt;have ot:=asi xs b i;refine W ?_;refine zc rfl (λh1=>?_) λh1=>?_;have A:i<b.code.length:=by omega
 have s:=ash Q A;obtain⟨t,rV,L,M,h0,z⟩:=s;have hg:=js (xs:=b.code) (i:=i) A;have s:=mr dA hg;obtain⟨_,_,e7,hc⟩:=s;cases e7;have p:=asj xs A;rw[L] at p;refine WI ?_;refine zi bu bj rfl rfl A<|zl fT rfl (hc.ext c 0 _ rfl)<|aA (Aq (bM b.code i) [] w2 sm) ?_;rintro _ _ ⟨kx,N⟩;have fD:=N.size;refine cN N c d a λc d a=>?_;obtain⟨m,_,e9,ht,hp⟩:=kx;subst e9;have xQ:=hp _ rV;subst xQ;have s:=cY ht;obtain⟨_,_,_,e8,eu,e⟩:=s;subst e8;subst eu;refine W ?_;refine du aO rfl rfl rfl λ_ u y gT=>?_;have c:=c.grow;have c:=c.ext u;have d:=d.grow;have d:=d.ext u;have a:=a.alloc u gT;have e:=e.grow;have e:=e.ext u;refine cH aO rfl rfl rfl y rfl λY v y _=>?_;have c:=c.aB v sx;have d:=d.aB v sx;have a:=a.aB v sx;have e:=e.aB v sx;refine W ?_;have D:=gX e<|et h0;obtain⟨_,_,_,_,_,e6,_,_,_⟩:=D;subst e6;refine W ?_;apply oP 3 32 35 rfl oQ;intro _;exact oQ;intro xx;refine WZ ?_;apply oA 9 36 45 (ak [] Y) rfl oQ;intro h3;have f:bA m=[108,97,98]\/bA m=[122,101,114,111]:=(by rw[M];simpa using h3);have B:=gX e (et<|z f);obtain⟨H,E,jd,yW,je,J,cv,_,_⟩:=B;cases J;have iG:=z f;refine W ?_;refine aA (Ax (ti xs b i) om _ _ _ Y a.done) ?_;rintro _ w6 ⟨rfl,F⟩;have lZ:=F.size;exact oQ;intro xx w6 F;refine kJ F c d a e y λc d a e y=>?_;refine aV<|zc rfl (λK=>?_) λK=>?_;have rk:(bA m=[108,97,98]\/bA m=[122,101,114,111])/\¬(nth m.ag 2).au∈ti xs b i:=(by rw[M];simpa using K);obtain⟨f,rW⟩:=rk;have B:=gX e (et<|z f);obtain⟨H,E,jd,yW,je,J,cv,_,_⟩:=B;cases J;have iG:=z f;rw[asm f rW] at p;refine W ?_;refine fJ bu bj rfl rfl λ_ cK SH _=>cN cK c d a λc d a=>?_;refine K6 bu bj rfl rfl rfl rfl rfl rfl a SH om λa5 Z g5 _ R P=>?_;have d:=d.aG P<|a.xm sm;have c:=c.since P λx l=>.inr (a.low x<|by simpa using l);rw[<-p] at R⊢;refine W ?_;exact⟨(i+1,a5,Z,g5),⟨rfl,rfl,rfl⟩,⟨c,d,R.dQ λx l=>by simp at l;simp[l],by dsimp only;omega⟩,by dsimp only;omega⟩;have nR:(bA m=[108,97,98]\/bA m=[122,101,114,111])->(nth m.ag 2).au∈ti xs b i:=(by rw[M];intro f;have T:=K;simp at T;exact T f);rw[asn nR] at p;refine W ?_;refine⟨(i+1,C,I,g3),⟨congrArg (λn=>Value.slice C n I)<|congrArg List.length p.symm,rfl,rfl⟩,⟨c,d,?_,by dsimp only;omega⟩,by dsimp only;omega⟩
 (show Gr _ _ _ _ _ (.slice C (ti xs b<|i+1).length I) _ (fX (ti xs b<|i+1)))
 rw[p];exact a.dQ (λx l=>by simp at l;simp[l]);have S9:i=b.code.length:=om;subst S9;rw[asl] at a⊢;refine W ?_;exact⟨_,rfl,⟨_,a.dQ sm⟩,c⟩
theorem ast (h:∀b∈bs,b.aM.length<=12000):jl bs=eK bs:=by unfold jl;rw[show bs.all BU=true from List.all_eq_true.2 λb hb=>dT<|h b hb,Bool.and_true]
theorem asu (bs:List Bk) (l:aj):j6 (bs.map dv) l=l6 bs l:=by unfold j6 l6;rw[List.findIdx?_map];rfl
def HR (bs:List Bk) (l:aj):Int:=if eK bs=true then l6 bs l else -1
theorem asv (bs:List Bk) (hb:o3 bs) (n:∀b∈bs,b.aM.length<=12000) (l:aj) (v:Value) (f:List Nat) (w:World) (p:lE f w v bs):
  bz Tryz.prog 12 [v,str l] w λr w'=>r= .int .i64 (HR bs l)/\ak [] w w':=by
 have a:=ak.refl [] w;have e:=ast n;have q:=hb.1;refine bY [.tmp 4] 17 Tryz.func12 rfl aeX rfl rfl ?_;refine W ?_;refine aA (FJ bs hb _ f [] w p sm) ?_;rintro _ t ⟨m,g⟩;have u:=g.size;have a:=a.ext g;obtain⟨ps,pv,rfl,o,s⟩:=m;refine W ?_;refine zc rfl (λc=>?_) λc=>?_;have d:eK bs=false:=(by rw[e] at c;simpa using c);refine W ?_;exact⟨_,rfl,by unfold HR;rw[d];rfl,a⟩;have d:eK bs=true:=(by rw[e] at c;simpa using c);have j:=s<|e.trans d;subst j;refine W ?_;refine aA (NP (bs.map dv) (by simpa using q) l _ [] t o) ?_;rintro _ _ ⟨rfl,i⟩;have y:=i.size;have a:=a.ext i;refine W ?_;exact⟨_,rfl,by unfold HR;rw[d,asu];rfl,a⟩
theorem asw:∀(m:Nat) (t:aq),t.size<=m->t.size<=1000000000->∀(v:Value) (L:List Nat) (w:World),bg L w v t->
  bz Tryz.prog 74 [v] w λr w'=>r= .int .i64 (t.depth:Int)/\ak [] w w':=by
 intro m;induction m with
 |zero=>intro t h;have:=rI t;omega
 |succ m M=>
  intro t _ _ v L w p;have B:=p;obtain⟨a,n,c,rfl,J,y⟩:=cY p;subst J;have T:=ow t;have b:=ak.refl [] w;have q:=λk=>aew (t:=t) (k:=k);refine bY [.tmp 2] 22 Tryz.func74 rfl ag1 rfl rfl ?_;refine zr<|eJ rfl λN s g _=>?_;have b:=b.ext s;refine W ?_;refine aA (FF t _ L N<|B.ext b) ?_;rintro _ _ ⟨rfl,j⟩;have P:=j.size;refine bK j b g λb g=>?_;refine aV<|zc rfl (λe=>?_) λe=>?_;have f:=aet e;refine W ?_;exact⟨_,rfl,by rw[f];rfl,b⟩;have f:=aeu e;refine W ?_;refine ey (λk:Nat=>[(3,.int .i64 (maxD (t.ag.take k):Int)),(9,.slice a t.ag.length c),(10,.int .i64 (t.ag.length:Int)),(11,.int .i64 (k:Int))]) (λk w'=>ak [] w w'/\k<=t.ag.length) (λk=>t.ag.length-k) (0) (⟨rfl,rfl,rfl,rfl⟩) (⟨b,om⟩) λd _ _ I=>?_;obtain⟨b,hk⟩:=I;have Q:=b.size;have U:=q d;refine W ?_;refine zc rfl (λH=>?_) λH=>?_;have C:=et (ps:=t.ag) (i:=d) om;obtain⟨_,_,_,_,_,rfl,K,D,E⟩:=gX y C;subst D;have S:=kD (t:=t) (i:=d) om;have A:=aes (ps:=t.ag) (k:=d) om;refine WL ?_;refine zL jg bZ rfl (K.ext b) rfl<|du bZ rfl rfl rfl λ_ u o _=>?_;have b:=b.grow;have b:=b.ext u;refine cH bZ rfl rfl rfl o rfl λO z o _=>?_;have b:=b.aB z sx;refine W ?_;refine aA (M (nth t.ag d) om om _ L O<|(kq E).ext b) ?_;rintro _ _ ⟨rfl,l⟩;have R:=l.size;have b:=b.ext l;refine Uc rfl rfl rfl rfl (show(if((maxD (t.ag.take d):Nat):Int)<((nth t.ag d).depth:Int) then((nth t.ag d).depth:Int) else((maxD (t.ag.take d):Nat):Int))=((maxD (t.ag.take<|d+1):Nat):Int) from by rw[A];split<;>omega)<|W ?_;exact⟨d+1,⟨rfl,rfl,rfl,rfl⟩,⟨b,om⟩,om⟩;have F:d=t.ag.length:=by omega
  subst F;refine W ?_;exact⟨_,rfl,by rw[f];rfl,b⟩
theorem asx:∀(m:Nat) (t:aq),t.size<=m->t.size<=1000000000->t.len<=1000000000->∀(v:Value) (L:List Nat) (w:World),bg L w v t->
  bz Tryz.prog 75 [v] w λr w'=>r= .int .i64 (t.len:Int)/\ak [] w w':=by
 intro m;induction m with
 |zero=>intro t h;have:=rI t;omega
 |succ m K=>
  intro t _ _ _ v L w q;have A:=q;obtain⟨a,n,c,rfl,I,y⟩:=cY q;subst I;have U:=ow t;have b:=ak.refl [] w;refine bY [.tmp 2] 25 Tryz.func75 rfl ag2 rfl rfl ?_;refine zr<|eJ rfl λM s j _=>?_;have b:=b.ext s;refine W ?_;refine aA (FF t _ L M<|A.ext b) ?_;rintro _ _ ⟨rfl,l⟩;have P:=l.size;refine bK l b j λb j=>?_;refine aV<|zc rfl (λe=>?_) λe=>?_;have f:=aey e;refine W ?_;exact⟨_,rfl,by rw[f];rfl,b⟩;have f:=Vf e;have g:=λk=>aez (k:=k) e;refine W ?_;refine ey (λk:Nat=>[(3,.int .i64 ((1+aq.len.lens (t.ag.take k):Nat):Int)),(12,.slice a t.ag.length c),(13,.int .i64 (t.ag.length:Int)),(14,.int .i64 (k:Int))]) (λk w'=>ak [] w w'/\k<=t.ag.length) (λk=>t.ag.length-k) (0) (⟨rfl,rfl,rfl,rfl⟩) (⟨b,om⟩) λd _ _ H=>?_;obtain⟨b,hk⟩:=H;have Q:=b.size;refine W ?_;refine zc rfl (λF=>?_) λF=>?_;have B:=et (ps:=t.ag) (i:=d) om;obtain⟨_,_,_,_,_,rfl,J,C,D⟩:=gX y B;subst C;have T:=kD (t:=t) (i:=d) om;have O:=aex (ps:=t.ag) (k:=d) om;have R:=g<|d+1;refine WL ?_;refine zL jg bZ rfl (J.ext b) rfl<|du bZ rfl rfl rfl λ_ u p _=>?_;have b:=b.grow;have b:=b.ext u;refine cH bZ rfl rfl rfl p rfl λN z p _=>?_;have b:=b.aB z sx;refine W ?_;refine aA (K (nth t.ag d) om om om _ L N<|(kq D).ext b) ?_;rintro _ _ ⟨rfl,o⟩;have S:=o.size;have b:=b.ext o;refine W ?_;exact⟨d+1,⟨congrArg (Value.int .i64) om,rfl,rfl,rfl⟩,⟨b,om⟩,om⟩;have E:d=t.ag.length:=by omega
  subst E;refine W ?_;exact⟨_,rfl,by rw[f];rfl,b⟩
theorem asy (t:aq) (j:t.size<=1000000000) (o:t.len<=1000000000) (v:Value) (L:List Nat) (w:World) (i:bg L w v t):
  bz Tryz.prog 40 [v] w λr w'=>r= .bool (sC t)/\ak [] w w':=by
 have d:=i;obtain⟨a,n,c,rfl,_,_⟩:=cY i;have b:=ak.refl [] w;refine bY [.tmp 2] 11 Tryz.func40 rfl agx rfl rfl ?_;refine zr<|eJ rfl λp m f _=>bK m b d λb d=>?_;refine W ?_;refine aA (asw t.size t (lR _) j _ L p d) ?_;rintro _ l ⟨rfl,g⟩;have s:=g.size;refine cN g b d f λb d f=>?_;refine WZ ?_;apply oA 4 6 10 (ak [] l) rfl oQ;intro _;refine W ?_;refine aA (asx t.size t (lR _) j o _ L l d) ?_;rintro _ q ⟨rfl,e⟩;have u:=e.size;exact oQ;intro _ q e;have b:=b.ext e;refine W ?_;exact⟨_,rfl,congrArg Value.bool (by unfold sC;rw[show decide ((t.depth:Int)<=60)=decide (t.depth<=60) from decide_eq_decide.2 om,show decide ((t.len:Int)<=12000)=decide (t.len<=12000) from decide_eq_decide.2 om]),b⟩
theorem Ta (s:aj) (w:World):bz Tryz.prog 73 [str s] w λr w'=>r= .agg #[str s,.slice none 0 0]/\ak [] w w':=by have a:=ak.refl [] w;refine lj [.cell 2 61] 5 Tryz.func73 rfl ag0 rfl rfl rfl ?_;refine zr<|du bZ rfl rfl rfl λ_ c b _=>?_;have a:=a.grow;have a:=a.ext c;refine aV<|zr<|zm<|jv (Vs _ _) rfl rfl<|cH bZ rfl rfl rfl b rfl λ_ d b _=>?_;have a:=a.aB d sx;refine W ?_;exact⟨[_],gA jg bZ rfl b rfl,rfl,a⟩
def Kw (B:Nat) (L:List Nat) (h:aj) (b:List aq) (v:Value) (w:World):Prop:=∃a c g,v= .agg #[str [],.slice a (bJ h::b).length c]/\Gr B L w 61 2 (.slice a (bJ h::b).length c) g (dj (bJ h::b))
theorem Kw.av {h:aj} {b:List aq} (e:Kw B L h b v w):bg L w v (mu h b):=by obtain⟨a,c,g,rfl,d⟩:=e;exact jQ d.trees
theorem abL (h:aj) (g:List aq) (H:g.length<=1000000) (v:Value) (L:List Nat) (w:World) (f:cX L w v g) (q:∀x∈L,x<w.heap.size):
  bz Tryz.prog 72 [str h,v] w λr w'=>Kw w.heap.size L h g r w'/\ak [] w w':=by
 obtain⟨a,c,rfl⟩:=yS f;have b:=ak.refl [] w;refine lj [.cell 4 61] 11 Tryz.func72 rfl agZ rfl rfl rfl ?_;refine zr<|du bZ rfl rfl rfl λA n e _=>?_;have b:=b.grow;have b:=b.ext n;have f:=f.grow;have f:=f.ext n;refine aV<|zr<|zm<|aA (Ta h A) ?_;rintro _ C ⟨rfl,j⟩;have E:=j.size;refine cN j b f e λb f e=>?_;have l:=cg.fresh f<|uF (w:=C);refine fJ iF bZ rfl rfl λ_ t u _=>cN t b e l λb e l=>?_;refine WZ ?_;have I:=j.size;have F:=b.size;have D:=e.lt;have m:=ai2 (B:=w.heap.size) (L:=w.heap.size::L) (sz:=2) (N:=1) (rows:=dj [bJ h]) u ⟨.val _,.nil _ _ _,trivial⟩ (T6 _) rfl om om (by intro d;simp at d;rcases d with d|d;omega;have:=q _ d;omega) (by intro x d;simp at d;rcases d with rfl|d;omega;have:=q x d;omega);refine xL iF bZ rfl rfl rfl rfl rfl rfl m (cg.weaken l sm) ai3 (by rw[iE,iE];simp;omega) λs z y _ i o=>?_;have e:=e.aB o<|m.xm sm;have b:=m.since b o;rw[show(dj [bJ h]).length+(dj g).length=(bJ h::g).length from by simp[iE,Nat.add_comm]] at i⊢;rw[show dj [bJ h]++dj g=dj (bJ h::g) from by simp[dj]] at i;refine jv (ahv _ _ _ _) rfl rfl<|cH bZ rfl rfl rfl e rfl λ_ p e _=>?_;have b:=b.aB p sx;have i:=i.aB p sx;refine W ?_;exact⟨[_],gA jg bZ rfl e rfl,⟨s,z,y,rfl,i.dQ (L':=L) λx d=>by simp[d]⟩,b⟩
mutual
def bF:aq->aq->Bool
 | .mk a ps,.mk b c=>decide (a=b)&&uq ps c
def uq:List aq->List aq->Bool
 |[],[]=>true
 |p::ps,q::qs=>bF p q&&uq ps qs
 |[],_::_=>false
 |_::_,[]=>false
end
mutual
theorem FT:∀x y:aq,bF x y=true↔x=y
 | .mk a ps,.mk b c=>by rw[bF,aE,dE,Kx ps c,aq.mk.injEq]
theorem Kx:∀ps a:List aq,uq ps a=true↔ps=a
 |[],[]=>by simp[uq]
 |p::ps,q::a=>by rw[uq,aE,FT p q,Kx ps a,List.cons.injEq]
 |[],_::_=>by simp[uq]
 |_::_,[]=>by simp[uq]
end
theorem asz (x y:aq):bF x y=(decide (x.au=y.au)&&uq x.ag y.ag):=by cases x;cases y;rw[bF];rfl
theorem asA {ps qs:List aq} (h:ps.length≠qs.length):uq ps qs=false:=by
 cases a:uq ps qs with
 |false=>rfl
 |true=>rw[(Kx ps qs).1 a] at h;exact absurd rfl h
theorem asB {ps qs:List aq} (b:i<ps.length) (c:ps.length=qs.length) (h:bF (nth ps i) (nth qs i)=false):uq ps qs=false:=by
 cases a:uq ps qs with
 |false=>rfl
 |true=>rw[(Kx ps qs).1 a,(FT _ _).2 rfl] at h;cases h
theorem asC {a:List aq} (d:ps.length=a.length) (h:∀i,i<ps.length->bF (nth ps i) (nth a i)=true):uq ps a=true:=
 (Kx ps a).2 (List.ext_getElem d λi b c=>by have:=(FT _ _).1<|h i b;rwa [xp b,xp c] at this)
theorem asD (ps qs:List aq) (B:ps.length<1000000000) (f:FuncId) (E F:Value) (o p:List Nat) (w:World) (y:cX o w E ps) (z:cX p w F qs) 
  (O:∀i,i<ps.length->i<qs.length->∀(C D:Value) (w':World),ak [] w w'->bg o w' C (nth ps i)->bg p w' D (nth qs i)->bz Tryz.prog f [C,D] w' λr n=>r= .bool (bF (nth ps i)<|nth qs i)/\ak [] w' n):
  bz Tryz.prog 182 [E,F,.func (.func f) #[] #[]] w λr w'=>r= .bool (uq ps qs)/\ak [] w w':=by
 obtain⟨H,c1,rfl⟩:=yS y;obtain⟨I,c2,rfl⟩:=yS z;have a:=ak.refl [] w;refine bY [.tmp 6] 32 Tryz.func182 rfl afU rfl rfl ?_;refine W ?_;refine zc rfl (λK=>?_) λK=>?_;have g:=asA (ps:=ps) (qs:=qs) om;refine W ?_;exact⟨_,rfl,by rw[g];rfl,a⟩;have e:ps.length=qs.length:=by omega
 refine W ?_;refine ey (λk:Nat=>[(1,.slice I qs.length c2),(2,.func (.func f) #[] #[]),(15,.slice H ps.length c1),(16,.int .i64 (ps.length:Int)),(17,.int .i64 (k:Int))]) (λk w'=>ak [] w w'/\k<=ps.length/\∀i,i<k->bF (nth ps i) (nth qs i)=true) (λk=>ps.length-k) (0) (⟨rfl,rfl,rfl,rfl,rfl⟩) (⟨a,om,by intro i A;omega⟩) λc V _ M=>?_;obtain⟨a,hk,u⟩:=M;have Z:=a.size;refine W ?_;refine zc rfl (λL=>?_) λL=>?_;have S:=et (ps:=ps) (i:=c) om;have Q:=et (ps:=qs) (i:=c) om;obtain⟨_,_,_,_,_,rfl,_,_,P⟩:=gX (y.ext a) S;obtain⟨_,_,_,_,_,rfl,J,_,R⟩:=gX (z.ext a) Q;have T:=kq P;have U:=kq R;have N:=a;have b:=ak.refl [] V;refine W ?_;refine du bZ rfl rfl rfl λ_ s d _=>?_;have a:=a.grow;have a:=a.ext s;have b:=b.grow;have b:=b.ext s;refine zA<|cH bZ rfl rfl rfl d rfl λ_ q d _=>?_;have a:=a.aB q sx;have b:=b.aB q sx;refine WL ?_;refine zL jg bZ rfl (J.ext b) rfl<|du bZ rfl rfl rfl λ_ j v _=>?_;have a:=a.grow;have a:=a.ext j;have b:=b.grow;have b:=b.ext j;have d:=d.grow;have d:=d.ext j;refine cH bZ rfl rfl rfl v rfl λX l v _=>?_;have a:=a.aB l sx;have b:=b.aB l sx;have d:=d.aB l sx;refine W ?_;refine Ij rfl rfl rfl (O c om om _ _ X a (bg.ext T b)<|bg.ext U b) ?_;rintro _ _ ⟨rfl,t⟩;have lZ:=t.size;have a:=a.ext t;refine j4 rfl rfl rfl<|aV<|zc rfl (λm=>?_) λm=>?_;have g:=asB (ps:=ps) (qs:=qs) (i:=c) om e (by simpa using m);refine W ?_;exact⟨_,rfl,by rw[g];rfl,a⟩;have Y:bF (nth ps c) (nth qs c)=true:=by simpa using m
 refine W ?_;exact⟨c+1,⟨rfl,rfl,rfl,rfl,rfl⟩,⟨a,om,by intro i A;rcases Nat.lt_or_ge i c with h|h;exact u i h;rw[show i=c by omega];exact Y⟩,om⟩;have g:=asC e λi A=>u i om;refine W ?_;exact⟨_,rfl,by rw[g];rfl,a⟩
theorem Ky:∀(m:Nat) (x:aq),x.size<=m->x.size<=1000000000->∀(y:aq) (f g:Value) (b c:List Nat) (w:World),bg b w f x->bg c w g y->
  bz Tryz.prog 145 [f,g] w λr w'=>r= .bool (bF x y)/\ak [] w w':=by
 intro m;induction m with
 |zero=>intro x h;have:=rI x;omega
 |succ m v=>intro x _ _ y f g b c w s u;obtain⟨_,_,c1,rfl,_,e⟩:=cY s;obtain⟨_,_,c2,rfl,_,o⟩:=cY u;have F:=ow x;have a:=ak.refl [] w;refine bY [.tmp 4] 17 Tryz.func145 rfl afn rfl rfl ?_;refine zr<|eJ rfl λ_ p j _=>?_;have a:=a.ext p;refine eJ rfl λn q _ _=>bK q a j λa j=>?_;refine W ?_;apply oA 6 10 16 (ak [] n) rfl oQ;intro _;refine W ?_;refine aA (asD x.ag y.ag om 145 _ _ b c n (e.ext a) (o.ext a) λi l _ B C w' _ z A=>v (nth x.ag i) (by have:=kD (t:=x) (i:=i) l;omega) (by have:=kD (t:=x) (i:=i) l;omega) _ B C b c w' z A) ?_;rintro _ D ⟨rfl,d⟩;have E:=d.size;exact oQ;intro _ D d;have a:=a.ext d;refine W ?_;exact⟨_,rfl,congrArg Value.bool (asz x y).symm,a⟩
theorem Tb (y t:aq):dW y t=if t.au=[118] then y else if t.au≠[]\/Ab t.ag=[101] then t else .mk [] (t.ag.map<|dW y):=by
 cases t with
 |mk a ps=>rw[dW,Lj];rfl
theorem asF {y:aq} (h:(decide (t.ag.length=0)&&decide (t.au=[118]))=true):dW y t=y:=by rw[aE,dE,dE] at h;rw[Tb,iP h.2]
theorem asG {y:aq} (c:WF t) (d:(decide (t.ag.length=0)&&decide (t.au=[118]))=false) (h:(decide (t.ag.length=0)||decide (bA t=[101]))=true):dW y t=t:=by
 rw[oE,dE,dE] at h;rw[Tb];cases c with
 |au a e=>
  have b:¬a=[118]:=by intro b;subst b;simp[aq.ag,aq.au] at d
  rw[iN<|show¬(aq.mk a []).au=[118] from b,iP (.inl e)]
 |list ps f _=>
  rw[iN (by intro h;cases h)];rcases h with h|h
  .exact absurd (List.length_eq_zero_iff.1 h) f
  .rw[OV] at h;rw[iP (.inr h)]
theorem asH {y:aq} (c:WF t) (h:(decide (t.ag.length=0)||decide (bA t=[101]))=false):dW y t= .mk [] (t.ag.map<|dW y):=by
 rw[Bool.or_eq_false_iff,decide_eq_false_iff_not,decide_eq_false_iff_not] at h;rw[Tb];cases c with
 |au a _=>exact absurd rfl h.1
 |list ps _ _=>rw[iN (by intro h;cases h),iN (by rintro(b|b);(·exact b rfl);(·rw[OV] at h;exact h.2 b))]
theorem abN (y:aq):∀(m:Nat) (t:aq),t.size<=m->t.size<=10000000->WF t->∀(v vy:Value) (L:List Nat) (w:World),bg L w v t->bg L w vy y->(∀x∈L,x<w.heap.size)->
  bz Tryz.prog 146 [v,vy] w λr w'=>bg L w' r (dW y t)/\ak [] w w':=by
 intro m;induction m with
 |zero=>intro t h;have:=rI t;omega
 |succ m ih=>
  intro t _ _ Z v vy L w hv hy hL;have o:=hv;have z:=hy;have Kz:=hy;obtain⟨a,n,c,rfl,hn,aL⟩:=cY hv;obtain⟨ya,yn,yc,rfl,_,_⟩:=cY hy;subst hn;have nU:=ow t;have d:=ak.refl [] w;refine lj [.cell 4 61] 43 Tryz.func146 rfl afo rfl rfl rfl ?_;refine zr<|eJ rfl λw1 aI u _=>cN aI d o z λd o z=>?_;refine eJ rfl λC aw j _=>gN aw d o z u λd o z u=>?_;refine du bZ rfl rfl rfl λw3 R f _=>?_;have d:=d.grow;have d:=d.ext R;have o:=o.grow;have o:=o.ext R;have z:=z.grow;have z:=z.ext R;have u:=u.grow;have u:=u.ext R;have j:=j.grow;have j:=j.ext R;refine W ?_;refine aA (FF t _ _ w3 o) ?_;rintro _ w4 ⟨rfl,aJ⟩;have gv:=aJ.size;refine uV aJ d o z u j f λd o z u j f=>?_;refine WZ ?_;apply oB 4 11 15 rfl oQ;intro _;refine WZ ?_;exact oQ;intro xx;refine zA<|aV<|zc rfl (λU=>?_) λU=>?_;have X:=asF (y:=y) U;refine W ?_;refine cH bZ rfl rfl rfl f rfl λw5 S f _=>?_;have d:=d.aB S sx;have z:=z.aB S sx;refine W ?_;exact⟨[_],gA jg bZ rfl f rfl,by rw[X];exact bg.dQ z λx l=>by simp[l],d⟩;have nR:=U;refine W ?_;refine aA (FF t _ _ w4 o) ?_;rintro _ w5 ⟨rfl,S⟩;have nT:=S.size;refine kJ S d o u j f λd o u j f=>?_;refine WZ ?_;apply oO 4 20 24 (ak [] w5) rfl oQ;intro _;refine W ?_;refine aA (vF t Z _ _ w5 o) ?_;rintro _ _ ⟨rfl,bR⟩;have lZ:=bR.size;exact oQ;intro xx A cK;refine kJ cK d o u j f λd o u j f=>?_;refine zA<|aV<|zc rfl (λh4=>?_) λh4=>?_;have X:=asG (y:=y) Z nR h4;refine W ?_;refine cH bZ rfl rfl rfl f rfl λw8 N f lG=>?_;have d:=d.aB N sx;have o:=o.aB N sx;refine W ?_;exact⟨[_],gA jg bZ rfl f rfl,by rw[X];exact bg.dQ o λx l=>by simp[l],d⟩;have X:=asH (y:=y) Z h4;have hq7:=d.size;have tN:=j.lt;have Ar:=f.lt;refine iA<|zr<|du bZ rfl rfl rfl λw8 N p lG=>?_;have d:=d.grow;have d:=d.ext N;have u:=u.grow;have u:=u.ext N;have j:=j.grow;have j:=j.ext N;have f:=f.grow;have f:=f.ext N;refine W ?_;refine ey (λq:Nat×Option Addr×Nat×Option Nat=>[(3,.pointer<|some ⟨w1.heap.size,0,none⟩),(4,.pointer<|some ⟨C.heap.size,0,none⟩),(5,.pointer<|some ⟨A.heap.size,0,none⟩),(27,.slice a t.ag.length c),(28,.int .i64 (t.ag.length:Int)),(29,.int .i64 (q.1:Int))]) (λq w'=>ak [] w w'/\aK w' w1.heap.size [str y.au,.slice ya yn yc].toArray 61/\aK w' C.heap.size [str [],.slice none 0 0].toArray 61/\aK w' A.heap.size [str [],.slice q.2.1 ((t.ag.take q.1).map<|dW y).length q.2.2.1].toArray 61/\Gr A.heap.size (A.heap.size::C.heap.size::L) w' 61 2 (.slice q.2.1 ((t.ag.take q.1).map<|dW y).length q.2.2.1) q.2.2.2 (dj ((t.ag.take q.1).map<|dW y))/\q.1<=t.ag.length) (λq=>t.ag.length-q.1) ((0,none,0,none)) (⟨rfl,rfl,rfl,rfl,rfl,rfl⟩) (⟨d,j,f,p,Gr.nil (by intro x l;have:=d.size;simp at l;rcases l with rfl|rfl|l;omega;omega;have:=hL x l;omega) om,sm⟩) λgg M _ hI=>?_;obtain⟨i,_,_,g⟩:=gg;dsimp only at hI⊢;obtain⟨d,j,f,p,s,hk⟩:=hI;have fH:=d.size;have asI:=j.lt;have NO:=f.lt;have axN:=p.lt;refine W ?_;refine zc rfl (λh5=>?_) λh5=>?_;have eh:=et (ps:=t.ag) (i:=i) om;have V:∀x∈g.toList++(A.heap.size::C.heap.size::L),x∈L\/w.heap.size<=x:=by{intro x l;rcases mA.1 l with l|l;(·right;have:=s.low x (by simpa using l);omega);(·simp at l;rcases l with rfl|rfl|l;(·right;omega);(·right;omega);(·exact .inl l))}
  have asJ:cX (g.toList++(A.heap.size::C.heap.size::L)) M _ t.ag:=cX.ext (cg.fresh aL V) d;have H:bg (g.toList++(A.heap.size::C.heap.size::L)) M _ y:=bg.ext (jf.fresh Kz V) d;obtain⟨_,_,pa,_,pc,rfl,_,eu,fC⟩:=gX asJ eh;subst eu;have F:=kq fC;have mM:=kD (t:=t) (i:=i) om;refine W ?_;refine du bZ rfl rfl rfl λcW E cQ yO=>?_;have d:=d.grow;have d:=d.ext E;have j:=j.grow;have j:=j.ext E;have f:=f.grow;have f:=f.ext E;have p:=p.grow;have p:=p.ext E;have s:=s.alloc E yO;have F:=F.grow;have F:=F.ext E;have H:=H.grow;have H:=H.ext E;refine cH bZ rfl rfl rfl cQ rfl λ_ O cQ _=>?_;have d:=d.aB O sx;have j:=j.aB O sx;have f:=f.aB O sx;have p:=p.aB O sx;have s:=s.aB O sx;have F:=F.aB O sx;have H:=H.aB O sx;refine W ?_;apply qN dk cF 6 (rA 33 6) (rA 33 6) [[],[0],[],[],[2,3],[4]] [.v _,.v _,.v _,.v _,.p<|fun(v:Value) (D:World)=>bg (g.toList++(M.heap.size::A.heap.size::C.heap.size::L)) D v (dW y<|nth t.ag i),.p (fun(v:Value) (D:World)=>∃b J K,v= .slice (some ⟨b,0,none⟩) 1 1/\aK D b [J,K].toArray 61/\bg (g.toList++(M.heap.size::A.heap.size::C.heap.size::L)) D (.agg #[J,K]) (dW y<|nth t.ag i))] de (by exact(bU<|bU (bU<|bU (qI (λv w w' h k=>bg.ext h k)<|qI (λv w w' ⟨b,J,K,e,h1,U⟩ k=>⟨b,J,K,e,h1.ext k,bg.ext U k⟩) trivial))));intro _ aC;refine da (λ_ _ _=>WZ<|ck cF) ?_;refine jt cF aC (λx Q B=>?_) ?_;have p:=p.ext B;refine WZ ?_;exact ck cF;refine jt cF aC (λx Q B=>?_) ?_;have cQ:=cQ.ext B;refine WZ ?_;exact ck cF;refine jt cF aC (λx Q B=>?_) ?_;have j:=j.ext B;refine WZ ?_;exact ck cF;refine fE ?_ ?_;intro x P Q e B hd I;have aQ:(P 2=(.agg #[str (nth t.ag i).au,.slice pa (nth t.ag i).ag.length pc]))/\(P 3=(.agg #[str y.au,.slice ya yn yc])):=hd;obtain⟨d2,d3⟩:=aQ;replace B:=cF.trans aC B;refine cN B s F H λs F H=>?_;replace I:e=ba (aZ _ x _) [(35,P 2),(36,P 3)]:=I;rw[d2,d3] at I;subst I;refine aA (ih (nth t.ag i) om om (Z.nth om) _ _ (g.toList++(M.heap.size::A.heap.size::C.heap.size::L)) Q (bg.dQ F (by intro x l;simp at l⊢;rcases l with h|h|h|h|h<;>simp[h])) (bg.dQ H (by intro x l;simp at l⊢;rcases l with h|h|h|h|h<;>simp[h])) s.all) ?_;rintro _ jF ⟨Kt,T⟩;have E0:=T.size;have yj:=Kt;refine W ?_;exact dn (cF.of T) yj;refine fE ?_ ?_;intro x P Q e B hd I;have d4:(fun(v:Value) (D:World)=>bg (g.toList++(M.heap.size::A.heap.size::C.heap.size::L)) D v (dW y<|nth t.ag i)) (P 4) Q:=hd;replace B:=cF.trans aC B;replace I:e=ba (aZ _ x _) [(37,P 4)]:=I;obtain⟨_,_,_,e7,_,_⟩:=cY d4;rw[e7] at I;rw[e7] at d4;subst I;refine fJ iF bZ rfl rfl λjF T asK _=>W ?_;exact dn (cF.of T) ⟨_,_,_,rfl,asK,bg.ext d4 T⟩;exact trivial;intro x jY iM;intro v4 d4;intro v5 d5;replace d4:(fun(v:Value) (D:World)=>bg (g.toList++(M.heap.size::A.heap.size::C.heap.size::L)) D v (dW y<|nth t.ag i)) v4 jY:=d4;replace d5:(fun(v:Value) (D:World)=>∃b J K,v= .slice (some ⟨b,0,none⟩) 1 1/\aK D b [J,K].toArray 61/\bg (g.toList++(M.heap.size::A.heap.size::C.heap.size::L)) D (.agg #[J,K]) (dW y<|nth t.ag i)) v5 jY:=d5;refine kJ iM d j f p s λd j f p s=>?_;change OW _ _ _ _ _ (ba (aZ _ x _)<|zZ 33 [_,_,_,_,v4,v5]) _;obtain⟨_,J,K,e7,uh,ht⟩:=d5;rw[e7];refine Ik iF bZ rfl rfl rfl rfl rfl rfl s uh ht (by rw[DY _ hk];omega) λa4 gz g4 _ gI od=>?_;have d:=ak.K5 om s.low d od;have j:=j.aB od<|s.K4 om;have f:=f.aB od<|s.xm sm;have p:=p.aB od<|s.xm sm;rw[DX (dW y) eh] at gI⊢;refine zf Ae rfl<|im ID rfl rfl rfl p rfl λ_ Y p _=>?_;have d:=d.aB Y sx;have j:=j.aB Y sx;have f:=f.aB Y sx;have gI:=gI.aB Y sx;refine W ?_;exact⟨(i+1,a4,gz,g4),⟨rfl,rfl,rfl,rfl,rfl,rfl⟩,⟨d,j,f,p,gI.dQ λx l=>mK _ l,by dsimp only;omega⟩,by dsimp only;omega⟩;rw[Gd (dW y) om] at p s;refine W ?_;refine cH bZ rfl rfl rfl f rfl λcW E f yO=>?_;have d:=d.aB E sx;have s:=s.aB E sx;refine W ?_;exact⟨[_],gA jg bZ rfl f rfl,by rw[X];exact jQ<|s.trees.dQ λx l=>by simp[l],d⟩
theorem abP {s:aj} (h:qL s=true):∃r:Nat,r<40/\numeral s=some (r:Int)/\gY s=r:=by
 have a:0<=uG s:=of_decide_eq_true h;cases c:numeral s with
 |none=>unfold uG at a;rw[c] at a;simp at a
 |some z=>
  have e:uG s=if 0<=z/\z<=39 then z else -1:=by unfold uG;rw[c]
  by_cases b:0<=z/\z<=39
  .rw[iP b] at e;exact⟨z.toNat,om,by rw[Int.toNat_of_nonneg b.1],by unfold gY;rw[e]⟩
  .rw[iN b] at e;omega
theorem abQ (l:aj):∀ps:List cM,(j6 ps l= -1/\bT ps l=none)\/∃k,k<ps.length/\j6 ps l=(k:Int)/\bT ps l=some (ek ps k).regs:=by
 intro ps;have a:∀ps:List cM,(ps.findIdx? (λb=>decide<|b.aM=l)=none/\bT ps l=none)\/∃k,k<ps.length/\ps.findIdx? (λb=>decide<|b.aM=l)=some k/\bT ps l=some (ek ps k).regs:=by
  intro ps;induction ps with
  |nil=>exact .inl ⟨rfl,rfl⟩
  |cons b ps c=>
   unfold bT at c⊢;rw[List.findIdx?_cons,List.find?_cons];by_cases h:b.aM=l
   .rw[iP (dT h)];refine .inr ⟨0,sm,rfl,?_⟩;rw[dT h];simp
   .rw[iN<|by simpa using h,dF h];rcases c with⟨h1,h2⟩|⟨k,hk,h1,h2⟩
    .exact .inl ⟨by rw[h1];rfl,h2⟩
    .refine .inr ⟨k+1,by simpa using hk,by rw[h1];rfl,?_⟩;simp only[h2];simp
 unfold j6;rcases a ps with⟨h1,h2⟩|⟨k,hk,h1,h2⟩
 .exact .inl ⟨by rw[h1],h2⟩
 .exact .inr ⟨k,hk,by rw[h1],h2⟩
theorem abR (d:List cM) (g:d.length<1000000000) (l:aj) (v:Value) (L:List Nat) (w:World) (j:jz L w v d):
  bz Tryz.prog 113 [v,str l] w λr w'=>(∃a c,r= .tuple #[.slice a ((bT d l).getD []).length c,.bool (bT d l).isSome]/\cX L w' (.slice a ((bT d l).getD []).length c) ((bT d l).getD []))/\ak [] w w':=by
 obtain⟨a,c,rfl⟩:=xO j;have e:=ak.refl [] w;refine bY [.tmp 4,.tmp 5] 17 Tryz.func113 rfl aeQ rfl rfl ?_;refine W ?_;refine aA (NP d g l _ L w<|j.ext e) ?_;rintro _ _ ⟨rfl,m⟩;have p:=m.size;have e:=e.ext m;refine W ?_;refine zc rfl (λf=>?_) λf=>?_;have i:bT d l=none:=by rcases abQ l d with⟨_,h2⟩|⟨k,_,f,_⟩;exact h2;omega
 refine W ?_;rw[i];exact⟨_,rfl,⟨_,_,rfl,lS⟩,e⟩;have n:∃k,k<d.length/\j6 d l=(k:Int)/\bT d l=some (ek d k).regs:=by rcases abQ l d with⟨f,_⟩|h;omega;exact h
 obtain⟨k,hk,f,i⟩:=n;rw[f];obtain⟨b,_,_,_,_,_,rfl,_,o,_⟩:=CF (j.ext e)<|xw hk;refine W ?_;rw[i];exact⟨_,rfl,⟨_,_,rfl,o⟩,e⟩
theorem asL (s:aj) (I:qL s=true) (L:List Nat) (b:Nat) (m:TS) (opens:Nat) (fv:Value) (w:World) (j:fy L w b 161 m opens fv):
  bz Tryz.prog 143 [.pointer<|some ⟨b,0,none⟩,str s] w λr w'=>(∃t z,r= .tuple #[z,.bool (eT m s).isSome]/\bg (b::L) w' z t/\∀y,eT m s=some y->t=y)/\ak [] w w':=by
 obtain⟨r,H,F,M⟩:=abP I;have f:=ak.refl [] w;have o:eT m s=m.getD r none:=by unfold eT;rw[M]
 rw[o];refine lj [.cell 4 61,.tmp 5] 21 Tryz.func143 rfl afl rfl rfl rfl ?_;refine zr<|du bZ rfl rfl rfl λP q l _=>?_;have f:=f.grow;have f:=f.ext q;have j:=j.grow;have j:=j.ext q;refine W ?_;refine aA (Km s F P) ?_;rintro _ _ ⟨rfl,u⟩;have R:=u.size;refine cN u f j l λf j l=>?_;refine W ?_;obtain⟨t,a,c,g,J⟩:=j.Z3 H;have d:=(DE w.heap.size ([str t.au,.slice a t.ag.length c]) 61);apply qN dk d 13 (rA 9 12++[100012]) (rA 9 12++[100012]) [[],[],[0],[2],[1,3],[4],[],[],[6],[8],[7,9],[10],[5]] [.v _,.v _,.v _,.v _,.v _,.v _,.v _,.v _,.v _,.v _,.v _,.v _,.p λ_ Q=>aK Q w.heap.size ([str t.au,.slice a t.ag.length c]).toArray 61] de (by exact(bU (bU<|bU (bU<|bU (bU<|bU (bU<|bU (bU<|bU (bU<|DF trivial))))))));intro _ aC;refine da (λ_ _ _=>WZ<|ck d) ?_;refine da (λ_ _ _=>WZ<|ck d) ?_;refine da (λ_ _ _=>WZ<|ck d) ?_;refine da (λ_ _ _=>WZ<|ck d) ?_;refine da (λ_ _ _=>Bi IA bZ rfl rfl rfl rfl om<|ck d) ?_;refine jt d aC (λx B i=>?_) ?_;have g:=g.aB i.1 sx;refine zL jg bZ rfl g.c1 rfl ?_;exact ck d;refine da (λ_ _ _=>WZ<|ck d) ?_;refine da (λ_ _ _=>WZ<|ck d) ?_;refine da (λ_ _ _=>WZ<|ck d) ?_;refine da (λ_ _ _=>WZ<|ck d) ?_;refine da (λ_ _ _=>Bi Gh Af rfl rfl rfl rfl om<|ck d) ?_;refine jt d aC (λx B i=>?_) ?_;have g:=g.aB i.1 sx;refine zl IE rfl (g.c2 0 _ rfl) ?_;exact ck d;refine fE ?_ ?_;intro x A B e i E n;have d5:A 5=(.agg #[str t.au,.slice a t.ag.length c]):=E;replace i:=d.trans aC i;obtain⟨_,N,O⟩:=i.2.2 ⟨_,(by rfl),l⟩;replace n:e=ba (aZ _ x _) [(14,A 5)]:=n;rw[d5] at n;subst n;refine cH bZ rfl rfl rfl O (by rw[N];rfl) λ_ D hb _=>W ?_;exact dn ⟨D,λ_=>hb,λ_=>⟨_,rfl,hb⟩⟩ hb;exact trivial;intro x K C;intro p d12;replace d12:aK K w.heap.size ([str t.au,.slice a t.ag.length c]).toArray 61:=d12;have f:=f.aB C.1 sx;have g:=g.aB C.1 sx;have l:=d12;change OW _ _ _ _ _ (ba (aZ _ x _)<|zZ 9 [_,_,_,_,_,_,_,_,_,_,_,_]++[(100012,p)]) _;refine W ?_;exact⟨[_,_],⟨gA jg bZ rfl l rfl,rfl⟩,⟨t,_,rfl,bg.dQ g.av (by intro x v;simp at v⊢;rcases v with h|h<;>simp[h]),J⟩,f⟩
theorem Dt (s:aj) (Z:qL s=true) (L:List Nat) (b:Nat) (g:TS) (opens:Nat) (fv:Value) (w:World) (c:fy L w b 161 g opens fv) (t:aq) (sM:t.size<=1000000000) (kV:t.len<=1000000000) (N:Value) (K:bg (b::L) w N t):
  bz Tryz.prog 144 [.pointer<|some ⟨b,0,none⟩,str s,N] w λv w'=>v= .bool (eU g (gY s)<|some t).isSome/\fy L w' b 161 ((eU g (gY s)<|some t).getD g) opens fv/\ak [b] w w':=by
 obtain⟨r,Y,X,pS⟩:=abP Z;rw[pS];have f:=K;obtain⟨o,_,p,rfl,U,_⟩:=cY K;subst U;have d:=ak.refl [] w;have eI:=c.lt;refine bY [.tmp 6] 24 Tryz.func144 rfl afm rfl rfl ?_;refine zr<|eJ rfl λw1 Q i _=>cN Q d c f λd c f=>?_;refine W ?_;refine aA (asy t sM kV _ _ w1 f) ?_;rintro _ w2 ⟨rfl,I⟩;have dA:=I.size;refine gN I d c f i λd c f i=>?_;refine j4 rfl rfl rfl<|aV<|zc rfl (λA=>?_) λA=>?_;have l:eU g r (some t)=none:=by simp only[eU,Option.bind_some];rw[iN (by simpa using A)]
 refine W ?_;exact⟨_,rfl,by rw[l];rfl,by rw[l];exact c,d.any⟩;have l:eU g r (some t)=some (g.set r<|some t):=by simp only[eU,Option.bind_some];rw[iP (by simpa using A)]
 refine iA<|zr<|zm<|aA (Km s X w2) ?_;rintro _ _ ⟨rfl,H⟩;have fD:=H.size;refine gN H d c f i λd c f i=>?_;have ky:=d;have B:=c;have O:=f;refine W ?_;have a:=(ZX b 161<|rowAt (0+0+r*2) [str t.au,.slice o t.ag.length p]);apply qN dk a 12 (rA 13 8++[100008,21,22,23]) (rA 13 8++[100008,21,22,23]) [[],[],[],[],[],[0],[5],[1,6],[4,7],[2],[9],[3,10]] [.v _,.v _,.v _,.v _,.v _,.v _,.v _,.v _,.p λ_ D=>yk b 161 (rowAt (0+0+r*2) [str t.au,.slice o t.ag.length p]) D,.v (.pointer<|some ⟨b,0,none⟩),.v (.pointer<|some ⟨b,0+80,none⟩),.v (.pointer<|some ⟨b,0+80+r*1,none⟩)] de (by exact(bU<|bU (bU<|bU (bU<|bU (bU<|bU (qI (λv w w' h k=>yk.rE (ZZ _ _) h k)<|bU (bU<|bU trivial)))))));intro _ aC;refine da (λ_ _ _=>WZ<|ck a) ?_;refine da (λ_ _ _=>WZ<|ck a) ?_;refine da (λ_ _ _=>WZ<|ck a) ?_;refine da (λ_ _ _=>WZ<|ck a) ?_;refine jt a aC (λx w4 j=>?_) ?_;have i:=i.aB j.1 sx;refine WZ ?_;exact ck a;refine da (λ_ _ _=>WZ<|ck a) ?_;refine da (λ_ _ _=>WZ<|ck a) ?_;refine da (λ_ _ _=>Bi IA bZ rfl rfl rfl rfl om<|ck a) ?_;refine fE ?_ ?_;intro x u w4 e j V m;have R:(u 4=(.agg #[str t.au,.slice o t.ag.length p]))/\(u 7=(.pointer<|some ⟨b,0+0+r*2,none⟩)):=V;obtain⟨d4,d7⟩:=R;replace j:=a.trans aC j;replace m:e=ba (aZ _ x _) [(17,u 4),(20,u 7)]:=m;rw[d4,d7] at m;subst m;obtain⟨C,E,y⟩:=B.ex;obtain⟨wS,n,P,_⟩:=j.2 C E;have pR:=y.size;refine HC bZ rfl rfl rfl rfl rfl rfl n (by simp only[lC,List.length_nil];omega) λ_ _ z q S=>W ?_;exact dn q<|Z0 z (by simp only[lC,List.length_nil];omega);refine da (λ_ _ _=>WZ<|ck a) ?_;refine da (λ_ _ _=>WZ<|ck a) ?_;refine da (λ_ _ _=>Bi Gh Af rfl rfl rfl rfl om<|ck a) ?_;exact trivial;intro x T J;intro M d8;replace d8:(λ_ D=>yk b 161 (rowAt (0+0+r*2) [str t.au,.slice o t.ag.length p]) D) M T:=d8;change OW _ _ _ _ _ (ba (aZ _ x _)<|zZ 13 [_,_,_,_,_,_,_,_]++[(100008,M),(21,_),(22,_),(23,_)]) _;obtain⟨C,E,y⟩:=B.ex;obtain⟨wS,n,P,_⟩:=J.2 C E;have pR:=y.size;have F:=J;refine HC Af rfl rfl rfl rfl rfl rfl n (by simp only[lC,List.length_nil];omega) λ_ _ z q S=>W ?_;exact⟨_,rfl,by rw[l];rfl,by rw[l];exact B.put Y F d8 (λ_ h=>by cases R2 h n;exact⟨q.1,z⟩) O,(ky.any.trans F.1).trans q.1⟩
def Bx (a:List aq) (k:Nat):TS:=(List.range 40).map λi=>if i<k then some (nth a i) else none
theorem asN (a:List aq):Bx a 0=List.replicate 40 none:=by
 refine List.ext_getElem? λi=>?_;rw[Bx,List.getElem?_map,List.getElem?_replicate];by_cases h:i<40
 .rw[List.getElem?_range h,iP h];rfl
 .rw[List.getElem?_eq_none<|by simpa using h,iN h];rfl
theorem asO (a:List aq) {k:Nat} (hk:k<40):(Bx a k).set k (some<|nth a k)=Bx a (k+1):=by
 refine List.ext_getElem (by simp[Bx]) λi _ _=>?_;rw[List.getElem_set];simp only[Bx,List.getElem_map,List.getElem_range];by_cases h:k=i
 .subst h;rw[iP rfl,iP om]
 .rw[iN h];by_cases b:i<k
  .rw[iP b,iP om]
  .rw[iN b,iN om]
theorem asP (d:List aq) (yN:d.length<=40) (fn:Fn) (I J:Array Value) (v:Value) (L:List Nat) (w:World) (O:cX L w v d) (hL:∀x∈L,x<w.heap.size):
  bz Tryz.prog 112 [v,.func fn I J] w λr w'=>(∃b,r= .pointer (some ⟨b,0,none⟩)/\w.heap.size<=b/\fy L w' b 161 (Bx d d.length) 0 (.func fn I J))/\ak [] w w':=by
 obtain⟨a,c,rfl⟩:=yS O;have j:=ak.refl [] w;have sO:cX (w.heap.size::L) w _ d:=cg.fresh O uF;refine bY [.tmp 4] 31 Tryz.func112 rfl aeP rfl rfl ?_;refine W ?_;refine jv (ahs _ _ _ _) rfl rfl<|eJ rfl λ_ S qj _=>?_;have j:=j.ext S;refine W ?_;have l:=an1 (L:=L) qj (λm=>by have:=hL _ m;omega) rfl;rw[<-asN d] at l;refine ey (λk:Nat=>[(5,.pointer<|some ⟨w.heap.size,0,none⟩),(11,.slice a d.length c),(12,.int .i64 (d.length:Int)),(13,.int .i64 (k:Int))]) (λk w'=>ak [] w w'/\fy L w' w.heap.size 161 (Bx d k) 0 (.func fn I J)/\k<=d.length) (λk=>d.length-k) (0) (⟨rfl,rfl,rfl,rfl⟩) (⟨j,l,om⟩) λf _ _ hI=>?_;obtain⟨j,l,hk⟩:=hI;have fH:=j.size;have eI:=l.lt;refine W ?_;refine zc rfl (λZ=>?_) λZ=>?_;have V:=et (ps:=d) (i:=f) om;obtain⟨_,_,t,_,u,rfl,_,X,Y⟩:=gX (sO.ext j) V;subst X;have n:=kq Y;refine W ?_;refine du bZ rfl rfl rfl λ_ C q _=>?_;have j:=j.grow;have j:=j.ext C;have l:=l.grow;have l:=l.ext C;have n:=n.grow;have n:=n.ext C;refine zA<|cH bZ rfl rfl rfl q rfl λ_ D q _=>?_;have j:=j.aB D sx;have l:=l.aB D sx;have n:=n.aB D sx;refine W ?_;have ky:=j;have E:=l;have Q:=n;have g:=(ZX w.heap.size 161<|rowAt (0+0+f*2) [str (nth d f).au,.slice t (nth d f).ag.length u]);apply qN dk g 12 (rA 18 8++[100008,26,27,28]) (rA 18 8++[100008,26,27,28]) [[],[],[],[],[],[0],[5],[1,6],[4,7],[2],[9],[3,10]] [.v _,.v _,.v _,.v _,.v _,.v _,.v _,.v _,.p λ_ H=>yk w.heap.size 161 (rowAt (0+0+f*2) [str (nth d f).au,.slice t (nth d f).ag.length u]) H,.v (.pointer<|some ⟨w.heap.size,0,none⟩),.v (.pointer<|some ⟨w.heap.size,0+80,none⟩),.v (.pointer<|some ⟨w.heap.size,0+80+f*1,none⟩)] de (by exact(bU<|bU (bU<|bU (bU<|bU (bU<|bU (qI (λv w w' h k=>yk.rE (ZZ _ _) h k)<|bU (bU<|bU trivial)))))));intro _ aC;refine da (λ_ _ _=>WZ<|ck g) ?_;refine da (λ_ _ _=>WZ<|ck g) ?_;refine da (λ_ _ _=>WZ<|ck g) ?_;refine da (λ_ _ _=>WZ<|ck g) ?_;refine jt g aC (λx w5 p=>?_) ?_;have q:=q.aB p.1 sx;refine WZ ?_;exact ck g;refine da (λ_ _ _=>WZ<|ck g) ?_;refine da (λ_ _ _=>WZ<|ck g) ?_;refine da (λ_ _ _=>Bi IA bZ rfl rfl rfl rfl om<|ck g) ?_;refine fE ?_ ?_;intro x z w5 e p hd o;have T:(z 4=(.agg #[str (nth d f).au,.slice t (nth d f).ag.length u]))/\(z 7=(.pointer<|some ⟨w.heap.size,0+0+f*2,none⟩)):=hd;obtain⟨d4,d7⟩:=T;replace p:=g.trans aC p;replace o:e=ba (aZ _ x _) [(22,z 4),(25,z 7)]:=o;rw[d4,d7] at o;subst o;obtain⟨F,K,A⟩:=E.ex;obtain⟨wS,s,R,_⟩:=p.2 F K;have pR:=A.size;refine HC bZ rfl rfl rfl rfl rfl rfl s (by simp only[lC,List.length_nil];omega) λ_ _ B y U=>W ?_;exact dn y<|Z0 B (by simp only[lC,List.length_nil];omega);refine da (λ_ _ _=>WZ<|ck g) ?_;refine da (λ_ _ _=>WZ<|ck g) ?_;refine da (λ_ _ _=>Bi Gh Af rfl rfl rfl rfl om<|ck g) ?_;exact trivial;intro x lI N;intro P d8;replace d8:(λ_ H=>yk w.heap.size 161 (rowAt (0+0+f*2) [str (nth d f).au,.slice t (nth d f).ag.length u]) H) P lI:=d8;change OW _ _ _ _ _ (ba (aZ _ x _)<|zZ 18 [_,_,_,_,_,_,_,_]++[(100008,P),(26,_),(27,_),(28,_)]) _;obtain⟨F,K,A⟩:=E.ex;obtain⟨wS,s,R,_⟩:=N.2 F K;have pR:=A.size;have M:=N;refine HC Af rfl rfl rfl rfl rfl rfl s (by simp only[lC,List.length_nil];omega) λ_ _ B y U=>W ?_;exact⟨f+1,⟨rfl,rfl,rfl,rfl⟩,⟨(ky.since M.1 λx m=>.inr (by simp at m;omega)).since y.1 λx m=>.inr (by simp at m;omega),by rw[<-asO d om];exact(E.put om M d8 (λ_ h=>by cases R2 h s;exact⟨y.1,B⟩)<|bg.dQ Q (by intro x m;simp at m⊢;rcases m with h|h|h<;>simp[h])).dQ λx m=>mK _ m,om⟩,om⟩;have o:f=d.length:=by omega
 subst o;refine W ?_;exact⟨_,rfl,⟨_,rfl,lR _,l⟩,j⟩
/-! ### What stands -/
def Tc (a:TS):Prop:=∀i t,a.getD i none=some t->Good t/\sC t=true
theorem zO (a:Good t) (h:sC t=true):t.size<=24000/\t.len<=12000/\t.text.length<=12000:=by unfold sC at h;rw[aE,dE,dE] at h;have b:=Vg a;have c:=BT a.wf;omega
theorem KB {x:aq} (b:Good x) (c:Good y):bF x y=xq x y:=by
 unfold xq;by_cases h:x=y
 .subst h;rw[(FT x x).2 rfl,dT rfl]
 .rw[dF λe=>h (Lg b c e)];cases a:bF x y with
  |false=>rfl
  |true=>exact absurd ((FT x y).1 a) h
theorem asQ {a:TS} (b:a.length=40) (h:40<=i):a.getD i none=none:=by rw[gG,List.getElem?_eq_none om];rfl
theorem abS {a:TS} (f:a.length=40) (e:Tc a) (g:Good y) (d:∀b,a.getD (min i 39) none=some b->t=b):
  ((decide ((40:Int)<=(i:Int))||!(a.getD (min i 39) none).isSome)||!bF t y)=!tC (a.getD i none) y:=by
 by_cases h:40<=i
 .rw[asQ f h,dT (show(40:Int)<=(i:Int) by omega)];rfl
 .rw[show min i 39=i from by omega] at d⊢;rw[dF<|show¬(40:Int)<=(i:Int) by omega,Bool.false_or];cases c:a.getD i none with
  |none=>rfl
  |some b=>rw[d b c,KB (e i b c).1 g];rfl
theorem uk.xF {r:Nat} {o:Bool} (h:uk L w b r o t a c) (e:r=i):fW w b (0+0+i*2) [str t.au,.slice a t.ag.length c]:=e▸h.c1
theorem uk.at2 {r:Nat} {o:Bool} (h:uk L w b r o t a c) (e:r=i):fW w b (0+80+i*1) [.bool o]:=e▸h.c2
theorem abU (d:List aq) (M:d.length<1000000000) (J:∀i,i<d.length->Good (nth d i)) (L:List Nat) (b:Nat) (o:TS) (opens:Nat) (fv:Value) (w:World) (n:fy L w b 161 o opens fv) (z:Tc o) (P:Value) (R:List Nat) (N:cX R w P d):
  bz Tryz.prog 148 [.pointer<|some ⟨b,0,none⟩,P] w λv w'=>v= .bool (meets o d)/\ak [] w w':=by
 obtain⟨a,c,rfl⟩:=yS N;have l:=ak.refl [] w;have D:o.length=40:=by obtain⟨_,_,h⟩:=n.ex;exact h.len
 refine bY [.tmp 4] 37 Tryz.func148 rfl afq rfl rfl ?_;refine W ?_;refine ey (λk:Nat=>[(0,.pointer<|some ⟨b,0,none⟩),(7,.slice a d.length c),(8,.int .i64 (d.length:Int)),(9,.int .i64 (k:Int))]) (λk w'=>ak [] w w'/\fy L w' b 161 o opens fv/\k<=d.length/\∀i,i<k->tC (o.getD i none) (nth d i)=true) (λk=>d.length-k) (0) (⟨rfl,rfl,rfl,rfl⟩) (⟨l,n,om,by intro i K;omega⟩) λg _ _ X=>?_;obtain⟨l,n,hk,H⟩:=X;have fH:=l.size;refine W ?_;refine zc rfl (λV=>?_) λV=>?_;have S:=et (ps:=d) (i:=g) om;obtain⟨_,_,_,_,_,rfl,_,T,U⟩:=gX (N.ext l) S;subst T;have p:=kq U;obtain⟨t0,_,_,j,C⟩:=n.Z3 (r:=min g 39) om;refine W ?_;refine du bZ rfl rfl rfl λ_ u F _=>?_;have l:=l.grow;have l:=l.ext u;have n:=n.grow;have n:=n.ext u;have p:=p.grow;have p:=p.ext u;have j:=j.grow;have j:=j.ext u;refine zA<|cH bZ rfl rfl rfl F rfl λ_ t F _=>?_;have l:=l.aB t sx;have n:=n.aB t sx;have p:=p.aB t sx;have j:=j.aB t sx;refine aV<|j1<|DZ [14,15,16,17,18,19,20,21,22,23,24,25,26,27,28,29,30,31,32,33,34,35] [(35,.bool ((decide ((40:Int)<=(g:Int))||!(o.getD (min g 39) none).isSome)||!bF t0 (nth d g)))] ?_ ?_;rcases bE (decide ((40:Int)<=(g:Int))) with gZ|gZ;apply kF dk 22 (rA 14 22) (rA 14 22) [[],[0],[1],[2],[2],[2,3],[2,5],[2,4,6],[2,7],[2,8],[2,9],[10],[11],[11],[11,12],[11,14],[11,13,15],[11,16],[11],[11,17,18],[11,19],[11,20]] [It.v _,It.v _,It.v<|.bool true,It.v _,It.v _,It.v _,It.v _,It.v _,It.v _,It.v _,It.v _,It.v<|.bool true,It.v _,It.v _,It.v _,It.v _,It.v _,It.v _,It.v _,It.v _,It.v _,It.v _] de rfl;intro Q aC;refine VA ?_;refine vc (λx f e=>?_) ?_;refine WZ ?_;exact pv (by exact congrArg Value.bool gZ);refine vc (λx f e=>?_) ?_;exact cR pv;refine vc (λx f e=>?_) ?_;exact cR pv;refine vk aC (λx f e=>?_) ?_;exact cR pv;refine vc (λx f e=>?_) ?_;exact cR pv;refine vk aC (λx f e=>?_) ?_;exact cR pv;refine vk aC (λx f e=>?_) ?_;exact cR pv;refine vc (λx f e=>?_) ?_;exact cR pv;refine vc (λ_ _ _=>WZ pv) ?_;refine vc (λx f e=>?_) ?_;refine WZ ?_;exact pv (by rfl);exact VZ;intro x y q;change OW _ _ _ _ [] (ba (aZ _ x _) (zZ 14 [_,_,_,_,_,_,_,_,_,_,_,_,_,_,_,_,_,_,_,_,_,_])) _;refine W ?_;exact kE q;rcases bE (decide ((40:Int)<=(g:Int))||!(o.getD (min g 39) none).isSome) with j7|j7;apply kF dk 22 (rA 14 22) (rA 14 22) [[],[0],[1],[2],[2],[2,3],[2,5],[2,4,6],[2,7],[2,8],[2,9],[10],[11],[11],[11,12],[11,14],[11,13,15],[11,16],[11],[11,17,18],[11,19],[11,20]] [It.v _,It.v _,It.v<|.bool false,It.v _,It.v _,It.v _,It.v _,It.v _,It.v _,It.v _,It.v _,It.v<|.bool true,It.v _,It.v _,It.v _,It.v _,It.v _,It.v _,It.v _,It.v _,It.v _,It.v _] de rfl;intro Q aC;refine VA ?_;refine vc (λx f e=>?_) ?_;refine WZ ?_;exact pv (by exact congrArg Value.bool gZ);refine VA ?_;refine vk aC (λx f e=>?_) ?_;have m:=gZ;refine Bi Gh Af rfl rfl rfl rfl (by simp at m;omega) ?_;exact pv;refine vk aC (λx f e=>?_) ?_;have j:=j.ext e;have m:=gZ;refine zl IE rfl (j.at2 (by simp at m;omega) 0 _ rfl) ?_;exact pv;refine VA ?_;refine vc (λx f e=>?_) ?_;refine WZ ?_;exact pv (by first|exact congrArg Value.bool j7|(rw[gZ] at j7;exact congrArg Value.bool j7));exact VZ;intro x y q;change OW _ _ _ _ [] (ba (aZ _ x _) (zZ 14 [_,_,_,_,_,_,_,_,_,_,_,_,_,_,_,_,_,_,_,_,_,_])) _;refine W ?_;exact kE q;apply kF dk 22 (rA 14 22) (rA 14 22) [[],[0],[1],[2],[2],[2,3],[2,5],[2,4,6],[2,7],[2,8],[2,9],[10],[11],[11],[11,12],[11,14],[11,13,15],[11,16],[11],[11,17,18],[11,19],[11,20]] [It.v _,It.v _,It.v (.bool false),It.v _,It.v _,It.v _,It.v _,It.v _,It.v _,It.v _,It.v _,It.v (.bool false),It.v _,It.v _,It.v _,It.v _,It.v _,It.v _,It.v _,It.v _,It.v _,It.v _] de rfl;intro Q aC;refine VA ?_;refine vc (λx f e=>?_) ?_;refine WZ ?_;exact pv (by exact congrArg Value.bool gZ);refine VA ?_;refine vk aC (λx f e=>?_) ?_;have m:=gZ;refine Bi Gh Af rfl rfl rfl rfl (by simp at m;omega) ?_;exact pv;refine vk aC (λx f e=>?_) ?_;have j:=j.ext e;have m:=gZ;refine zl IE rfl (j.at2 (by simp at m;omega) 0 _ rfl) ?_;exact pv;refine VA ?_;refine vc (λx f e=>?_) ?_;refine WZ ?_;exact pv (by first|exact congrArg Value.bool j7|(rw[gZ] at j7;exact congrArg Value.bool j7));refine VA ?_;refine vk aC (λx f e=>?_) ?_;have m:=j7;refine Bi IA bZ rfl rfl rfl rfl (by simp at m;omega) ?_;exact pv;refine vk aC (λx f e=>?_) ?_;have j:=j.ext e;have m:=j7;refine zL jg bZ rfl (j.xF (by simp at m;omega)) rfl ?_;exact pv;refine VA ?_;refine vk aC (λx f e=>?_) ?_;refine bK e p j λp j=>?_;have m:=j7;refine aA (Ky t0.size t0 (lR _) (by rw[Bool.or_eq_false_iff] at m;cases A:o.getD (min g 39) none with|none=>rw[A] at m;simp at m|some O=>rw[C O A];have I:=z _ O A;have:=zO I.1 I.2;omega) (nth d g) _ _ _ _ f j.av p) ?_;rintro _ _ ⟨rfl,E⟩;have nT:=E.size;exact pk E;exact VZ;intro x y q;change OW _ _ _ _ [] (ba (aZ _ x _) (zZ 14 [_,_,_,_,_,_,_,_,_,_,_,_,_,_,_,_,_,_,_,_,_,_])) _;refine W ?_;exact kE q;intro x y q;refine bK q l n λl n=>?_;refine zc rfl (λs=>?_) λs=>?_;rw[abS D z (J g om) C] at s;have B:meets o d=false:=dF (λY=>by rw[Y g om] at s;cases s);refine W ?_;exact⟨_,rfl,by rw[B];rfl,l⟩;rw[abS D z (J g om) C] at s;have zM:tC (o.getD g none) (nth d g)=true:=by simpa using s
 refine W ?_;exact⟨g+1,⟨rfl,rfl,rfl,rfl⟩,⟨l,n.dQ λx Z=>mK _ Z,om,by intro i K;rcases Nat.lt_or_ge i g with h|h;exact H i h;rw[show i=g by omega];exact zM⟩,om⟩;have B:meets o d=true:=dT λi K=>H i om;refine W ?_;exact⟨_,rfl,by rw[B];rfl,l⟩
theorem abV (s:aj) (g:qL s=true) (L:List Nat) (b:Nat) (a:TS) (opens:Nat) (fv:Value) (w:World) (t:aq) (c:fy L w b 161 a opens fv\/fy L w b 161 ((eU a (gY s)<|some t).getD a) opens fv) (l:t.size<=1000000000) (j:t.len<=1000000000) (d:Value) (i:bg (b::L) w d t):
  bz Tryz.prog 144 [.pointer<|some ⟨b,0,none⟩,str s,d] w λv w'=>v= .bool (eU a (gY s)<|some t).isSome/\fy L w' b 161 ((eU a (gY s)<|some t).getD a) opens fv/\ak [b] w w':=by
 rcases c with c|c
 .exact Dt s g L b a opens fv w c t l j d i
 .have:=Dt s g L b _ opens fv w c t l j d i;have e:(eU ((eU a (gY s)<|some t).getD a) (gY s)<|some t).isSome=(eU a (gY s)<|some t).isSome/\(eU ((eU a (gY s)<|some t).getD a) (gY s)<|some t).getD ((eU a (gY s)<|some t).getD a)=(eU a (gY s)<|some t).getD a:=by
   unfold eU;simp only[Option.bind_some];by_cases f:sC t=true
   .simp[f]
   .simp[f]
  rw[e.1,e.2] at this;exact this
theorem xd {a:Value} (h:bg L w (.agg #[a,v]) t):cX L w v t.ag:=by
 obtain⟨b,n,c,d,_,e⟩:=cY h;have:v= .slice b n c:=by have:=congrArg (λv=>match v with|Value.agg x=>x.toList|_=>[]) d;simp at this;exact this.2
 rw[this];exact e
end Go.Proofs.YtcildnfcpkpomaaGreatDoor
