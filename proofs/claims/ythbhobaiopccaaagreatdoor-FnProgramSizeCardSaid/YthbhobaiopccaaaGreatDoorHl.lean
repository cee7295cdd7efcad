/- Lemmas for the law FnProgramSize, no statement of their own: no conditions. -/
import Derived.Test.YthbhobaiopccaaaGreatDoorHk
import Derived.JoinedOf
import Derived.SevenTiedAt
import Derived.Test.YthbhobaiopccaaaGreatDoorRows
set_option maxHeartbeats 4000000
set_option linter.unusedVariables false
set_option linter.unusedSimpArgs false
namespace Go.Proofs.YthbhobaiopccaaaGreatDoor
open Go
variable {L:List Nat} {w:World} {bs:List Bk} {ps:List dw}
theorem anD {br:Nat} {cs:Array Value} {T:TypeId} (hb:aJ w br cs T) (hs:∀(i:Nat) (s:ai),cs[i]?≠some (str s)) {a:Option Addr} {n c size:Nat} {rows:List (List C)} (h:bQ L w (.slice a n c) (.sl size rows)) (h0:∀row,row∈rows->∃s rest,row= .val (str s)::rest) (tX:∀row c' u,row∈rows->c'∈row->bQ L w u c'->bQ (L++[br]) w u c'):bQ (L++[br]) w (.slice a n c) (.sl size rows):=by
 cases h with
 |nil=>exact .nil _ _ _
 |sl b off _ _ _ _ f hl hc iq hL fC kh gB=>
  cases rows with
  |nil=>
   have:n=0:=by rw[<-hl];rfl
   subst this
   exact .nil _ _ _
  |cons row rest=>
   have dL:b≠br:=by
    rintro rfl
    obtain⟨s,r,e⟩:=h0 row sm
    have hz:=fC row sm
    have h1:=gB 0 0 row (.val (str s)) rfl (by rw[e];rfl)
    have h2:=kh 0 0 (by rw[<-hl];simp) (by rw[<-hz,e];simp)
    rw[hb.cell] at h2
    generalize f 0 0=u at h1 h2
    cases h1
    exact hs _ _ h2
   exact .sl b off n c size _ f hl hc iq (λhx=>(mA.1 hx).elim hL (λh9=>dL (by simpa using h9))) fC kh λi j row c hr hc=>tX row c _ (List.mem_of_getElem? hr) (List.mem_of_getElem? hc) (gB i j row c hr hc)
theorem X8 {br:Nat} {cs:Array Value} {T:TypeId} (hb:aJ w br cs T) (hs:∀(i:Nat) (s:ai),cs[i]?≠some (str s)) {v:Value} {xs:List ai} (h:bc L w v xs):bc (L++[br]) w v xs:=by
 obtain⟨a,n,c,rfl,_⟩:=dJ h
 refine anD hb hs h (λrow hr=>?_) (λrow c' u hr hc hu=>?_)
 ·obtain⟨x,_,rfl⟩:=List.mem_map.1 hr;exact⟨x,[],rfl⟩
 ·obtain⟨x,_,rfl⟩:=List.mem_map.1 hr
  simp only[List.mem_singleton] at hc
  subst hc
  cases hu;exact .val _
theorem X9 {br:Nat} {cs:Array Value} {T:TypeId} (hb:aJ w br cs T) (hs:∀(i:Nat) (s:ai),cs[i]?≠some (str s)):∀{bs:List Bk} {xs:List Value},cS L w xs (bs.map Bk.enc).flatten->cS (L++[br]) w xs (bs.map Bk.enc).flatten
 |[],[],_=>trivial
 |f::bs,x0::x1::x2::r,h=>by
  obtain⟨r0,r1,r2,h⟩:=h
  cases r0
  exact⟨.val _,X8 (xs:=f.bY) hb hs r1,X8 (xs:=f.code) hb hs r2,X9 (bs:=bs) hb hs h⟩
theorem dD.gr {br q B T:Nat} {g:Option Nat} (h:dD w br q) {v:Value} (hG:Gr B [] w T 3 v g (bs.map Bk.enc)) (hB:br<B):Gr B [br] w T 3 v g (bs.map Bk.enc):=by
 obtain⟨a,n,c,p,xs,h1,_⟩:=h
 obtain⟨ys,dv,gB,gZ,_⟩:=hG.own
 have hs:∀(i:Nat) (s:ai),([.slice a n c,.int .i64 ((p:Nat):Int)]:List Value).toArray[i]?≠some (str s):=λi s hi=>by
  match i with
  |0=>cases hi
  |1=>cases hi
  |i+2=>cases hi
 rw[List.append_nil] at gB
 exact⟨⟨ys,dv,X9 h1 hs gB,gZ,λb hb hx=>by have:=hG.low b hb;simp at hx;omega⟩,hG.low,λx hx=>by simp at hx;subst hx;exact h1.lt,hG.bsz⟩
theorem anE (br q:Nat) (hq:q<=700000000) (w:World) (h:dD w br q):
  bz Tryz.prog 94 [.pointer (some ⟨br,0,none⟩)] w λr w'=>(∃x,r=str x)∧dD w' br (q+12000)∧aj [br] w w':=by
 have hk:=aj.refl [br] w
 have iq:=h.lt
 have pK:(4:Nat)^2=16:=rfl
 refine bS [.tmp 2] 28 Tryz.func94 rfl acQ rfl rfl ?_
 refine W ?_
 refine aA (lQ 3 de de br q om w h) ?_
 rintro v9 w1 ⟨⟨z,e9,hz⟩,h,aB⟩
 subst e9
 have hk:=hk.trans aB
 refine W ?_
 refine ix (λx:ai=>[(0,.pointer (some ⟨br,0,none⟩)),(3,str x)]) (λx ww=>aj [br] w ww∧dD ww br (q+20)∧x.length<=100) ?_ ?_
 refine zc rfl (λh1=>?_) (λh1=>?_)
 refine kH<|zm<|aA (Pv 2 de br (q+1) om w1 h) ?_
 rintro v9 w2 ⟨⟨T,e9,hT⟩,h,aB⟩
 subst e9
 have XU:=T.len
 have hT:T.n+1<=8:=hT
 have hk:=hk.trans aB
 refine W ?_
 exact⟨_,⟨rfl,rfl⟩,hk,h.more om,om⟩
 refine WZ ?_
 exact⟨_,⟨rfl,rfl⟩,hk,h.more om,by decide⟩
 intro gu w2 e2 hI
 obtain⟨hk,h,hx⟩:=hI
 have lS:=h.lt
 refine zr<|zm<|fQ bh bf λw3 aH iF gJ=>bI aH hk h λhk h=>?_
 refine fQ bh bf λw4 aO Og gQ=>cN aO hk h iF λhk h iF=>?_
 refine js (LN _ _ _ _ _ _ _) rfl rfl<|zm<|zm<|aA (lQ 3 de de br (q+20) om w4 h) ?_
 rintro v9 w5 ⟨⟨z2,e9,dC⟩,h,aB⟩
 subst e9
 have hk:=hk.trans aB
 have cv:bc [br] w5 _ []:=(iF.kK.aF aB so).rep so
 have ck:bc [br] w5 _ []:=(Og.kK.aF aB so).rep so
 have hE:=PF (2+z2) om
 have hp:4^(2+z2)<=4^4:=Nat.pow_le_pow_right de om
 have WN:(4:Nat)^4=256:=rfl
 refine mY rfl rfl rfl rfl rfl (kQ (2+z2) om _ om)<|aA (hE [] [] gu br (q+21) _ _ w5 rfl so sm om om h cv ck) ?_
 rintro v9 w6 ⟨⟨x9,e9,iB⟩,h,aB⟩
 subst e9
 have hk:=hk.trans aB
 have h:=h.more (show _<=q+6000 from om)
 refine W ?_
 refine aA (Nn x9 w6) ?_
 rintro _ w7 ⟨rfl,bW⟩
 have lf:=bW.size
 refine bI bW hk h λhk h=>?_
 refine aZ<|zc rfl (λh2=>?_) (λh2=>?_)
 refine W ?_
 exact⟨_,rfl,⟨_,rfl⟩,h.more om,hk⟩
 have lS:=h.lt
 refine gY<|zr<|zm<|fQ bh bf λw8 cE Bv ld=>bI cE hk h λhk h=>?_
 refine fQ bh bf λw9 aB yJ df=>cN aB hk h Bv λhk h Bv=>?_
 refine js (LN _ _ _ _ _ _ _) rfl rfl<|zm<|aA (PF 2 de [] [] gu br (q+6000) _ _ w9 rfl sm sm om om h (Bv.kK.rep so) (yJ.kK.rep so)) ?_
 rintro v9 cu ⟨⟨EY,e9,ar2⟩,h,aB⟩
 subst e9
 have hk:=hk.trans aB
 refine W ?_
 exact⟨_,rfl,⟨_,rfl⟩,h.more om,hk⟩
theorem Gr.two {B b TB:Nat} {x1 x2 x3 y1 y2 y3:Value} {f1 f2:Bk} (hb:aJ w b [x1,x2,x3,y1,y2,y3].toArray TB) (h1:qP (b::L) w (.agg #[x1,x2,x3]) f1) (h2:qP (b::L) w (.agg #[y1,y2,y3]) f2) (hB:B<=b) (hL:∀x,x∈L->x<w.heap.size) (rb:b∉L):Gr B L w TB 3 (.slice (some ⟨b,0,none⟩) 2 2) (some b) ([f1,f2].map Bk.enc):=
 ⟨⟨[x1,x2,x3,y1,y2,y3],⟨rfl,.inr ⟨b,2,_,rfl,rfl,hb,lR _,by decide,rfl,rfl⟩⟩,cS.append (vs:=[x1,x2,x3]) h1.kj (cS.append (vs:=[y1,y2,y3]) h2.kj (vs':=[]) (cs':=[]) trivial),by intro row hr;simp at hr;rcases hr with rfl|rfl<;>rfl,by intro c hc;cases hc;exact rb⟩,by intro c hc;cases hc;exact hB,hL,Nat.le_of_lt (Nat.lt_of_le_of_lt hB hb.lt)⟩
structure DC (bs:List Bk):Prop where
 len:1<=bs.length∧bs.length<=40
 bk:∀b,b∈bs->b.aM.length<=100∧b.bY.length<=40∧b.code.length<=80∧(∀x,x∈b.bY->x.length<=12000)∧∀x,x∈b.code->x.length<=12000
theorem DC.smalls (h:DC bs):tI bs:=⟨by have:=h.len;omega,λi hi=>by
 have:=h.bk (bR bs i) (List.mem_of_getElem? (pC hi))
 exact⟨by omega,om,om⟩⟩
theorem PO.dr {b:Bk} {l:ai} (h:PO b l) (hl:l.length<=100):b.aM.length<=100∧b.bY.length<=40∧b.code.length<=80∧(∀x,x∈b.bY->x.length<=12000)∧∀x,x∈b.code->x.length<=12000:=
 ⟨by rw[h.aM];exact hl,by have:=h.regs.1;omega,by have:=h.code.2.1;omega,λx hx=>by have:=h.regs.2 x hx;omega,λx hx=>by have:=h.code.2.2 x hx;omega⟩
theorem anF {x:ai} (h:sq x=true):x.length<=12000:=by
 unfold sq seen at h
 cases hp:bA x with
 |none=>rw[hp] at h;cases h
 |some t=>exact(wk hp).2.2.2
theorem Ya (hp:jt bs=true) (hl:∀b,b∈bs->b.aM.length<=10):DC bs:=by
 obtain⟨h1,h2,h3⟩:=X0 hp
 refine⟨⟨h2,h1⟩,λb hb=>?_⟩
 obtain⟨i,hi,rfl⟩:=List.getElem_of_mem hb
 have e:bR bs i=bs[i]:=by unfold bR;rw[gG,gE hi];rfl
 have h4:=h3 i hi
 rw[e] at h4
 obtain⟨_,h5,h6⟩:=Rz (FV hp _ hb)
 refine⟨by have:=hl _ hb;omega,h4.1,h4.2.2,λx hx=>?_,λx hx=>?_⟩
 ·obtain⟨t,ht,_⟩:=h5 x hx;exact(wk ht).2.2.2
 ·obtain⟨t,ht,_⟩:=h6 x hx;exact(wk ht).2.2.2
theorem DC.anG {cs:List Bk} (h:DC bs) (hh:vX bs cs):DC cs:=by
 refine⟨by rw[hh.1];exact h.len,λb hb=>?_⟩
 obtain⟨i,hi,rfl⟩:=List.getElem_of_mem hb
 have lN:i<bs.length:=by rw[<-hh.1];exact hi
 have e:bR cs i=cs[i]:=by unfold bR;rw[gG,gE hi];rfl
 obtain⟨h1,h2,h3,h4⟩:=hh.2 i lN
 rw[e] at h1 h2 h3 h4
 have h5:=h.bk (bR bs i) (List.mem_of_getElem? (pC lN))
 rw[h1,h2]
 exact⟨h5.1,h5.2.1,om,h5.2.2.2.1,λx hx=>(h4 x hx).elim (h5.2.2.2.2 x) anF⟩
def PX:List ai:=[[98,49],[98,48],[101,110,100]]
theorem anH (br q:Nat) (hq:q<=600000000) (w:World) (h:dD w br q):
  bz Tryz.prog 61 [.pointer (some ⟨br,0,none⟩)] w λr w'=>(∃bs g,DC bs∧Gr w.heap.size [br] w' 58 3 r g (bs.map Bk.enc))∧dD w' br (q+20000)∧aj [br] w w':=by
 have hk:=aj.refl [br] w
 have iq:=h.lt
 refine bS [.tmp 2] 49 Tryz.func61 rfl acv rfl rfl ?_
 refine W ?_
 refine aA (lQ 3 de de br q om w h) ?_
 rintro v9 w1 ⟨⟨z,e9,hz⟩,h,aB⟩
 subst e9
 have hk:=hk.trans aB
 refine W ?_
 refine zc rfl (λh1=>?_) (λh1=>?_)
 have lS:=h.lt
 refine zr<|zm<|aA (PR [109,97,105,110] 0 de br (q+1) om w1 h) ?_
 rintro v9 w2 ⟨⟨f1,rS,cv⟩,h,aB⟩
 have hk:=hk.trans aB
 have cv:=cv [br] so
 have bZ:=DK cv
 obtain⟨a1,n1,c1,a2,n2,c2,e9,fx,eU,cV,dm⟩:=bZ
 subst e9
 refine zm<|zm<|aA (lQ 3 de de br (q+101) om w2 h) ?_
 rintro v9 w3 ⟨⟨z2,e9,dC⟩,h,aB⟩
 subst e9
 have hk:=hk.trans aB
 have cV:=cV.aD aB sm;have dm:=dm.aD aB sm
 have lS:=h.lt
 refine aA (PR [98,48] z2 om br (q+102) om w3 h) ?_
 rintro v9 w4 ⟨⟨f2,rU,ck⟩,h,aB⟩
 have hk:=hk.trans aB
 have cV:=cV.aD aB sm;have dm:=dm.aD aB sm
 have ck:=ck [br] so
 have bZ:=DK ck
 obtain⟨a3,n3,c3,a4,n4,c4,e9,pg,U7,fm,fE⟩:=bZ
 subst e9
 refine sH [.tmp 10,.tmp 14] [[str f1.aM,.slice a1 n1 c1,.slice a2 n2 c2],[str f2.aM,.slice a3 n3 c3,.slice a4 n4 c4]] iL fV rfl rfl rfl rfl rfl rfl rfl rfl rfl λw5 aN EB JH=>?_
 have lS:=h.lt
 have we:∀x,x∈w4.heap.size::[br]->x∈[br]∨w4.heap.size<=x:=(λx hx=>by rcases mC.1 hx with h9|h9;(·right;omega);(·exact .inl h9))
 have cV:=(cV.fresh we).ext aN
 have dm:=(dm.fresh we).ext aN
 have fm:=(fm.fresh we).ext aN
 have fE:=(fE.fresh we).ext aN
 have DD:=hk.size
 refine bI aN hk h λhk h=>?_
 have hO:=Gr.two (B:=w.heap.size) (L:=[br]) EB (BP cV dm) (BP fm fE) om so so
 refine W ?_
 refine aA (lQ 3 de de br (q+202) om w5 h) ?_
 rintro v9 w6 ⟨⟨z3,e9,gJ⟩,h,aB⟩
 subst e9
 have hk:=hk.trans aB
 have hO:=hO.aD aB sm
 refine W ?_
 refine zc rfl (λh2=>?_) (λh2=>?_)
 have lS:=h.lt
 refine W ?_
 refine pM bh bf rfl rfl rfl rfl rfl λw7 bW rW oX=>cN bW hk h hO λhk h hO=>?_
 refine aA (mi PX de de br (q+203) om _ w7 h (aJ.dK PX rW (λhx=>by simp at hx;omega) de)) ?_
 rintro l8 w8 ⟨⟨lb,hi,gS⟩,h,aB⟩
 subst gS
 have hk:=hk.trans aB
 have hO:=hO.aD aB sm
 have yb:=(show∀x,x∈PX->x.length<=30 from by decide) _ hi
 refine zm<|aA (lQ 2 de de br (q+204) om w8 h) ?_
 rintro v9 w9 ⟨⟨z4,e9,gQ⟩,h,aB⟩
 subst e9
 have hk:=hk.trans aB
 have hO:=hO.aD aB sm
 have lS:=h.lt
 have fG:=hO.all
 refine aA (PR lb z4 om br (q+205) om w9 h) ?_
 rintro v9 cu ⟨⟨f3,vF,Jh⟩,h,aB⟩
 have hk:=hk.trans aB
 have hO:=hO.aD aB sm
 have Jh:=Jh _ fG
 have bZ:=DK Jh
 obtain⟨a5,n5,c5,a6,n6,c6,e9,JY,WK,l3,oo⟩:=bZ
 subst e9
 refine fc iL fV rfl rfl λeD dd anI vj=>la dd hk h hO l3 oo λhk h hO l3 oo=>?_
 refine QF iL fV rfl rfl rfl rfl rfl rfl hO anI (BP l3 oo) sm λa7 c7 g7 fA fZ di=>?_
 have hk:=hO.since hk di
 have h:=h.aF di (λx hx=>by have:=hO.low x (by simp at hx;simp[hx]);omega)
 refine W ?_
 exact⟨_,rfl,⟨[f1,f2]++[f3],_,⟨by simp,λb hb=>by simp at hb;rcases hb with rfl|rfl|rfl;(·exact rS.dr de);(·exact rU.dr de);(·exact vF.dr om)⟩,fZ⟩,h.more om,hk⟩
 refine W ?_
 exact⟨_,rfl,⟨[f1,f2],_,⟨by simp,λb hb=>by simp at hb;rcases hb with rfl|rfl;(·exact rS.dr de);(·exact rU.dr de)⟩,hO⟩,h.more om,hk⟩
 refine gY<|zr<|zm<|aA (anE br (q+1) om w1 h) ?_
 rintro v9 w2 ⟨⟨x9,e9⟩,h,aB⟩
 subst e9
 have hk:=hk.trans aB
 have lS:=h.lt
 have DD:=hk.size
 refine aA (W1 x9 w2) ?_
 rintro v3 w3 ⟨ko,aH⟩
 have fm:=aH.size
 refine bI aH hk h λhk h=>?_
 obtain⟨v1,ok,bs,e9,_,hC,hR⟩:=ko
 subst e9
 refine W ?_
 refine ix (λv:Value=>[(0,.pointer (some ⟨br,0,none⟩)),(4,v)]) (λv ww=>aj [br] w ww∧dD ww br (q+12001)∧∃bs g,Gr w.heap.size [br] ww 58 3 v g (bs.map Bk.enc)∧jt bs=true∧∀b,b∈bs->b.aM.length<=10) ?_ ?_
 refine zc rfl (λh3=>?_) (λh3=>?_)
 have hf:ok=false:=(by simpa using h3)
 have lS:=h.lt
 have DD:=hk.size
 refine kH<|aA (W1 [40,43,32,49,32,50,41] w3) ?_
 rintro v4 w4 ⟨jT,aO⟩
 have fE:=aO.size
 refine bI aO hk h λhk h=>?_
 obtain⟨v2,ok2,XH,e9,_,PY,Pu⟩:=jT
 subst e9
 have anJ:=akT PY
 subst anJ
 have aQ:=Pu rfl
 obtain⟨g2,yy⟩:=aQ
 refine W ?_
 exact⟨_,⟨rfl,rfl⟩,hk,h.more om,_,g2,(h.gr yy lS).down DD,PY.prog,PY.aM⟩
 have ba:ok=true:=(by simpa using h3)
 subst ba
 have aQ:=hR rfl
 obtain⟨g2,yy⟩:=aQ
 refine WZ ?_
 exact⟨_,⟨rfl,rfl⟩,hk,h.more om,_,g2,(h.gr yy lS).down DD,hC.prog,hC.aM⟩
 intro gu w4 e4 hI
 obtain⟨hk,h,bs,g,hR,nO,Fi⟩:=hI
 refine jL<|zr<|zm<|aA (lQ 2 de de br (q+12001) om w4 h) ?_
 rintro v9 w5 ⟨⟨z5,e9,ig⟩,h,aB⟩
 subst e9
 have hk:=hk.trans aB
 have hR:=hR.aD aB sm
 have DD:=hk.size
 refine W ?_
 refine zc rfl (λh4=>?_) (λh4=>?_)
 refine W ?_
 exact⟨_,rfl,⟨bs,g,Ya nO Fi,hR⟩,h.more om,hk⟩
 have hRn:=bQ.none hR.tF
 refine W ?_
 refine aA (anq bs nO br (q+12002) om _ w5 h hRn) ?_
 rintro v9 w6 ⟨⟨cs,gc,hRc,hH⟩,h,aB⟩
 have hk:=hk.trans aB
 refine W ?_
 exact⟨_,rfl,⟨cs,gc,(Ya nO Fi).anG hH,hRc.down DD⟩,h.more om,hk⟩
structure KX (bs:List Bk):Prop where
 len:bs.length<=41
 bk:∀b,b∈bs->b.aM.length<=100∧b.bY.length<=40∧b.code.length<=80∧(∀x,x∈b.bY->x.length<=12000)∧∀x,x∈b.code->x.length<=12000
theorem KX.smalls (h:KX bs):tI bs:=⟨by have:=h.len;omega,λi hi=>by
 have:=h.bk (bR bs i) (List.mem_of_getElem? (pC hi))
 exact⟨by omega,om,om⟩⟩
theorem anM (bs:List UInt8) (hb:bs.length<=1000000000) (v:Value) (w:World) (hv:bQ [] w v (.sl 1 (qJ bs))):
  bz Tryz.prog 31 [v] w λr w'=>(∃ps,KX ps∧nR [] w' r ps)∧aj [] w w':=by
 have hK:=aj.refl [] w
 refine bS [.tmp 2] 27 Tryz.func31 rfl ace rfl rfl ?_
 refine W ?_
 refine aA (amq bs hb _ w hv) ?_
 rintro v1 w1 ⟨fY,aI⟩
 have cV:=aI.size
 have hK:=hK.ext aI
 obtain⟨br,e9,Je,h⟩:=fY
 subst e9
 have DD:=hK.size
 refine W ?_
 refine aA (anH br 0 de w1 h) ?_
 rintro v9 w2 ⟨⟨ps,gp,hP,hG⟩,h,aB⟩
 have hK:=hK.since aB (λx hx=>.inr (by simp at hx;omega))
 have ob:=hP.len
 refine W ?_
 refine aA (lQ 12 de de br _ de w2 h) ?_
 rintro v10 w3 ⟨⟨z,fo,hz⟩,h,aB⟩
 subst fo
 have hK:=hK.since aB (λx hx=>.inr (by simp at hx;omega))
 have hG:=hG.aD aB sm
 have nh:=hG.amV om
 obtain⟨b0,a1,n1,c1,a2,n2,c2,pc,e9,et,cV,dm⟩:=nh
 subst e9
 refine W ?_
 refine zc rfl (λh1=>?_) (λh1=>?_)
 refine zr<|fQ iL fV λw4 aO lH gQ=>?_
 have hK:=hK.ext aO
 refine W ?_
 exact⟨_,rfl,⟨[],⟨by simp,sm⟩,.nil _ _ _⟩,hK⟩
 refine W ?_
 refine zc rfl (λh2=>?_) (λh2=>?_)
 refine zr<|zm<|Fu (l:=1) iL fV rfl rfl rfl rfl om (bQ.none hG.tF) λBw aW=>W ?_
 exact⟨_,rfl,⟨ps.drop 1,⟨by rw[List.length_drop];omega,λb hb=>hP.bk b (List.mem_of_mem_drop hb)⟩,show bQ _ _ _ (.sl 3 ((ps.drop 1).map Bk.enc)) from by rw[List.map_drop];exact aW⟩,hK⟩
 refine W ?_
 refine zc rfl (λh3=>?_) (λh3=>?_)
 refine zr<|zm<|zm<|zi (i:=0) iL fV rfl rfl om<|zL DU fV rfl ((show fS _ b0 (0+0*3) _ from by simpa using et)) rfl<|fc iL fV rfl rfl ?_
 intro w4 aO yJ gQ
 refine ie aO hK hG cV dm λhK hG cV dm=>?_
 refine QF iL fV rfl rfl rfl rfl rfl rfl hG yJ (BP cV dm) om λa7 c7 g7 w5 fZ aN=>?_
 have hK:=hK.since aN (λx hx=>.inr (by have:=hG.low x (by simpa using hx);omega))
 refine W ?_
 exact⟨_,rfl,⟨ps++[bR ps 0],⟨by simp;omega,λb hb=>by rcases mA.1 hb with h9|h9;(·exact hP.bk b h9);(·simp only[List.mem_singleton] at h9;rw[h9];exact hP.bk _ (List.mem_of_getElem? (pC om)))⟩,bQ.none fZ.tF⟩,hK⟩
 refine W ?_
 exact⟨_,rfl,⟨ps,⟨by omega,hP.bk⟩,bQ.none hG.tF⟩,hK⟩
theorem Yb {ts:List aq} {n:Nat} (hn:ts.length<=n) (h9:n<1000000) (h:∀t,t∈ts->WF t∧t.size<=24000∧t.text.length<=12000):DT ts:=
 ⟨by omega,λt ht=>by obtain⟨h1,h2,h3⟩:=h t ht;exact⟨h1,om,om⟩⟩
theorem B1.anN {b:dw} (h:B1 b):DT b.regs∧DT b.code:=
 ⟨Yb h.regs om λt ht=>⟨(h.rok t ht).lu.wf,(h.rok t ht).size,(h.rok t ht).short⟩,Yb h.code om λt ht=>⟨(h.cok t ht).1.wf,by have:=(h.cok t ht).1.size;omega,(h.cok t ht).1.text⟩⟩
theorem anO (h:∀b,b∈ps->B1 b):KL ps:=λb hb t ht=>⟨((h b hb).cok t ht).1.wf,alV ((h b hb).cok t ht).2.2⟩
theorem Yc (h:∀b,b∈ps->B1 b):jc ps<=80*ps.length:=by
 induction ps with
 |nil=>simp[jc]
 |cons b ps ih=>
  have h1:=ih λb hb=>h b (mK _ hb)
  have h2:=(h b (List.mem_cons_self ..)).code
  simp only[jc,List.map_cons,List.sum_cons,lC] at h1⊢
  omega
theorem anP (bs:List Bk):∀row,row∈bs.map Bk.enc->∀c,c∈row->∀v,c= .val v->v.oneCell'=true:=by
 intro row hr c hc v hv
 obtain⟨b,_,rfl⟩:=List.mem_map.1 hr
 simp only[Bk.enc,mC,List.not_mem_nil,or_false] at hc
 rcases hc with h|h|h
 ·subst h;cases hv;rfl
 ·subst h;cases hv
 ·subst h;cases hv
theorem anQ (bs:List Bk) (hb:tI bs) (ti:nj bs=true) (v:Value) (Li L:List Nat) (w:World) (hv:nR Li w v bs) (hL:∀x,x∈L->x<w.heap.size):
  bz Tryz.prog 10 [v] w λr w'=>(∃xv ms,r= .tuple #[xv,.bool true]∧nR L w' xv (jK ms (bs.map dQ) bs.length))∧aj [] w w':=by
 have hK:=aj.refl [] w
 have nO:jt bs=true:=by unfold nj at ti;exact(aE _ _▸ti).1
 have PZ:=(R5 nO).2
 have hlen:1<=bs.length∧bs.length<=40:=by unfold jt at nO;simp only[aE,dE] at nO;exact nO.2.1.1
 have EJ:=Yc PZ
 rw[List.length_map] at EJ
 refine bS [.tmp 2,.tmp 3] 35 Tryz.func10 rfl aaz rfl rfl ?_
 refine W ?_
 refine aA (Xq bs hb _ Li [] w hv sm) ?_
 rintro v1 w1 ⟨fY,aI⟩
 have cV:=aI.size
 have hK:=hK.ext aI
 obtain⟨ps,pv,rfl,hp,vG⟩:=fY
 have aP:=vG ti
 subst aP
 refine W ?_
 refine Yi (congrArg Value.bool (by rw[ti];rfl))<|W ?_
 refine aA (amc (bs.map dQ) (by rw[List.length_map];omega) (by rw[List.length_map];omega) om (anO PZ) _ w1 hp) ?_
 rintro v2 w2 ⟨ij,az⟩
 have dm:=az.size
 refine bI az hK hp λhK hp=>?_
 obtain⟨ms,tE,e9,hms⟩:=ij
 subst e9
 rw[List.length_map] at tE⊢
 have lT:=aj.refl [] w2
 have aQ:=Ei hp
 obtain⟨pa,pc,e8⟩:=aQ
 subst e8
 have aQ:=Cj hp (su (ps:=bs.map dQ) (i:=0) (by rw[List.length_map];omega))
 obtain⟨pb,poff,p1,gm,p2,iw,e7,_,_,_⟩:=aQ
 subst e7
 refine W ?_
 refine eA (λq:Nat×Option Addr×Nat×Option Nat=>[(4,.slice (some ⟨pb,poff,none⟩) (bs.map dQ).length pc),(6,.slice q.2.1 (jK ms (bs.map dQ) q.1).length q.2.2.1),(17,.slice (some ⟨w1.heap.size,0,none⟩) bs.length bs.length),(18,.int .i64 (bs.length:Int)),(19,.int .i64 (q.1:Int))]) (λq w'=>aj [] w w'∧aj [] w2 w'∧Gr w2.heap.size L w' 58 3 (.slice q.2.1 (jK ms (bs.map dQ) q.1).length q.2.2.1) q.2.2.2 ((jK ms (bs.map dQ) q.1).map Bk.enc)∧q.1<=bs.length) (λq=>bs.length-q.1) ((0,none,0,none)) (⟨rfl,rfl,rfl,rfl,rfl⟩) (⟨hK,lT,Gr.nil (λx hx=>lL (hL x hx) hK.size) (lR _),sm⟩) λgg w3 e3 hI=>?_
 obtain⟨i,a3,cc,g⟩:=gg
 dsimp only at hI⊢
 obtain⟨hK,lT,hO,hk⟩:=hI
 have ob:=Pq ms (bs.map dQ) i
 refine W ?_
 refine zc rfl (λh2=>?_) (λh2=>?_)
 have hi:i<bs.length:=by omega
 have Yd:(bs.map dQ)[i]?=some (eC (bs.map dQ) i):=su (by rw[List.length_map];exact hi)
 have Dv:=List.mem_of_getElem? Yd
 refine WI ?_
 refine zi IH DV rfl rfl hi<|zl IG rfl ((hms.ext lT).at (XA om))<|zA<|zA<|aZ<|zr<|zm<|aZ<|zc rfl (λh3=>?_) (λh3=>?_)
 have hmi:ms.getD i false=true:=h3
 refine WA ?_
 refine mY rfl rfl rfl rfl rfl (show IntKind.i64.wrap ((i:Int)+1)=((i+1:Nat):Int) from wrap_i64 _ om om)<|Xz (L:=[]) (l:=i) (h:=i+1) wq jg rfl rfl rfl rfl rfl om (by rw[List.length_map];omega) (mD.ext hp lT) λvs aW=>?_
 rw[take_one (show((bs.map dQ).map dw.enc)[i]?=some (dw.enc (eC (bs.map dQ) i)) from by rw[List.getElem?_map,Yd];rfl)] at aW
 refine aA (amm [eC (bs.map dQ) i] sm (λb hb=>by rw[List.mem_singleton.1 hb];exact(PZ _ Dv).anN) _ (g.toList++L) [] w3 aW hO.all) ?_
 rintro v4 w4 ⟨jT,aO⟩
 have fE:=aO.size
 refine cN aO hK lT hO λhK lT hO=>?_
 have Ye:=jT
 have aQ:=zG Ye
 obtain⟨wa,wn,wc,e6,hwn⟩:=aQ
 subst e6
 have qz:jK ms (bs.map dQ) (i+1)=jK ms (bs.map dQ) i++[mW (eC (bs.map dQ) i)]:=by rw[jK,iP hmi]
 refine wP iL fV rfl rfl rfl rfl rfl rfl hO Ye (anP _) so λa4 fR g4 w5 iY aN=>?_
 have fp:=hK
 have hK:=aj.Lk (by have:=lT.size;omega) hO.low hK aN
 have lT:=hO.since lT aN
 have e1:(jK ms (bs.map dQ) i).map Bk.enc++([eC (bs.map dQ) i].map mW).map Bk.enc=(jK ms (bs.map dQ) (i+1)).map Bk.enc:=by rw[qz,List.map_append];rfl
 have e2:((jK ms (bs.map dQ) i).map Bk.enc).length+(([eC (bs.map dQ) i].map mW).map Bk.enc).length=(jK ms (bs.map dQ) (i+1)).length:=by rw[qz];simp
 rw[e1] at iY
 rw[e2] at iY⊢
 refine W ?_
 exact⟨(i+1,a4,fR,g4),⟨rfl,rfl,rfl,rfl,rfl⟩,⟨hK,lT,iY,by dsimp only;omega⟩,by dsimp only;omega⟩
 have qz:jK ms (bs.map dQ) (i+1)=jK ms (bs.map dQ) i:=by rw[jK,iN (by intro hh;rw[hh] at h3;cases h3)];simp
 refine W ?_
 refine⟨(i+1,a3,cc,g),⟨rfl,congrArg (λn=>Value.slice a3 n cc) (congrArg List.length qz.symm),rfl,rfl,rfl⟩,⟨hK,lT,?_,by dsimp only;omega⟩,by dsimp only;omega⟩
 (show Gr _ _ _ _ _ (.slice a3 (jK ms (bs.map dQ) (i+1)).length cc) _ ((jK ms (bs.map dQ) (i+1)).map Bk.enc))
 rw[qz]
 exact hO
 have hie:i=bs.length:=by omega
 subst hie
 refine W ?_
 exact⟨_,rfl,⟨_,ms,rfl,hO.tF⟩,hK⟩
theorem Yf (bs:List Bk) (hb:tI bs) (v:Value) (Li:List Nat) (w:World) (hv:nR Li w v bs):
  bz Tryz.prog 8 [v] w λr w'=>r= .int .i64 (s8 bs)∧aj [] w w':=by
 have hK:=aj.refl [] w
 refine bS [.tmp 2] 28 Tryz.func8 rfl nm8 rfl rfl ?_
 refine W ?_
 refine aA (Xq bs hb _ Li [] w hv sm) ?_
 rintro v1 w1 ⟨fY,aI⟩
 have cV:=aI.size
 have hK:=hK.ext aI
 obtain⟨ps,pv,rfl,hp,vG⟩:=fY
 refine W ?_
 refine zc rfl (λh1=>?_) (λh1=>?_)
 have hq:nj bs=false:=by simpa using h1
 refine W ?_
 exact⟨_,rfl,by unfold s8;rw[hq];rfl,hK⟩
 have ti:nj bs=true:=(by simpa using h1)
 have aP:=vG ti
 subst aP
 have nO:jt bs=true:=(by unfold nj at ti;exact(aE _ _▸ti).1)
 have EJ:=Yc (R5 nO).2
 have hlen:1<=bs.length∧bs.length<=40:=(by unfold jt at nO;simp only[aE,dE] at nO;exact nO.2.1.1)
 rw[List.length_map] at EJ
 have aQ:=Ei hp
 obtain⟨pa,pc,e8⟩:=aQ
 subst e8
 have lT:=aj.refl [] w1
 rw[List.length_map]
 refine W ?_
 refine eA (λi:Nat=>[(5,.int .i64 (jc ((bs.map dQ).take i):Nat)),(15,.slice pa bs.length pc),(16,.int .i64 (bs.length:Int)),(17,.int .i64 (i:Int))]) (λi w'=>aj [] w w'∧aj [] w1 w'∧i<=bs.length) (λi=>bs.length-i) (0) (⟨rfl,rfl,rfl,rfl⟩) (⟨hK,lT,om⟩) λgg w2 e2 hI=>?_
 obtain⟨hK,lT,hk⟩:=hI
 have ar5:=lT.size
 have ar6:=hK.size
 refine W ?_
 refine zc rfl (λh2=>?_) (λh2=>?_)
 have hi:gg<(bs.map dQ).length:=(by rw[List.length_map];omega)
 have aQ:=Cj hp (su hi)
 obtain⟨b,off,r1,KI,r2,HW,rfl,hc,mB,pK⟩:=aQ
 have Eh:=HY hi
 have yb:=KJ (bs.map dQ) (gg+1)
 have uF:jc ((bs.map dQ).take gg)+(eC (bs.map dQ) gg).code.length<=3200:=by omega
 refine WL ?_
 refine zL zT jg rfl (hc.ext lT) rfl<|dy jg rfl rfl rfl λw3 aH cM gJ=>?_
 have hK:=hK.grow;have hK:=hK.ext aH;have lT:=lT.grow;have lT:=lT.ext aH
 refine cJ jg rfl rfl rfl cM rfl λw4 aO cM gQ=>?_
 have hK:=hK.aD aO sx;have lT:=lT.aD aO sx
 refine W ?_
 exact⟨gg+1,⟨by show Value.int _ _=Value.int _ _;congr 1;rw[Eh];omega,rfl,rfl,rfl⟩,⟨hK,lT,om⟩,om⟩
 have sL:(bs.map dQ).take gg=bs.map dQ:=List.take_of_length_le (by rw[List.length_map];omega)
 refine W ?_
 exact⟨_,rfl,(show Value.int .i64 ((jc ((bs.map dQ).take gg):Nat):Int)= .int .i64 (s8 bs) from by unfold s8;rw[iP ti,sL,Xu]),hK⟩
theorem anU (bs:List UInt8) (hn:bs.length<=1048576) (v:Value) (w:World) (hv:bQ [] w v (.sl 1 (qJ bs))):
  bz Tryz.prog 7 [v] w λr w'=>(∃ps,KX ps∧nR [] w' r ps)∧aj [] w w':=by
 have hK:=aj.refl [] w
 refine bS [.tmp 2] 5 Tryz.func7 rfl nm7 rfl rfl ?_
 refine W ?_
 refine aA (anM bs om _ w hv) ?_
 rintro v1 w1 ⟨fY,aI⟩
 have cV:=aI.size
 have hK:=hK.ext aI
 have hd:=fY
 refine W ?_
 exact⟨_,rfl,hd,hK⟩
theorem anV (h:∀b,b∈bs->b.aM.length<=12000):nj bs=jt bs:=by
 unfold nj
 rw[show bs.all BX=true from List.all_eq_true.2 λb hb=>dT (h b hb),Bool.and_true]
theorem anW (h:∀b,b∈bs->1<=b.code.length):bs.length<=lines bs:=by
 induction bs with
 |nil=>simp
 |cons b bs ih=>
  have h1:=ih λb hb=>h b (mK _ hb)
  have h2:=h b (List.mem_cons_self ..)
  simp only[lines,List.map_cons,List.sum_cons,lC] at h1⊢
  omega
theorem anX {ms:List Bool} (hl:∀b,b∈ps->b.aM.length<1000000000∧b.regs.length<1000000000∧b.code.length<1000000000) {k:Nat} (hk:k<=ps.length) (hp:ps.length<1000000000):tI (jK ms ps k):=by
 have h1:=Pq ms ps k
 refine⟨by omega,λi hi=>?_⟩
 obtain⟨j,hj,e⟩:=Xw (List.mem_of_getElem? (pC hi))
 have h2:=hl _ (List.mem_of_getElem? (su (ps:=ps) (i:=j) om))
 rw[e]
 exact⟨h2.1,by simpa[mW] using h2.2.1,by simpa[mW] using h2.2.2⟩
theorem ar7 (bs:List UInt8) (v:Value) (w:World) (hv:bQ [] w v (.sl 1 (qJ bs))):
  bz Tryz.prog 3 [v] w λr w'=>r= .bool true∧aj [] w w':=by
 obtain⟨a,c,rfl,_⟩:=rC hv
 have iq:(qJ bs).length=bs.length:=Fh bs
 have hK:=aj.refl [] w
 refine bS [.tmp 2] 45 Tryz.func3 rfl nm3 rfl rfl ?_
 refine W ?_
 refine zc rfl (λh1=>?_) (λh1=>?_)
 refine W ?_
 exact⟨_,rfl,rfl,hK⟩
 refine gY<|zr<|zm<|aA (anU bs om _ w hv) ?_
 rintro v1 w1 ⟨fY,aI⟩
 have cV:=aI.size
 have hK:=hK.ext aI
 obtain⟨ps,hP,hR⟩:=fY
 have bZ:=zG hR
 obtain⟨pa,pn,pc,e8,eP⟩:=bZ
 subst e8
 have hS:=hP.smalls
 have Fi:∀b,b∈ps->b.aM.length<=12000:=(λb hb=>by have:=(hP.bk b hb).1;omega)
 have P1:=anV Fi
 refine W ?_
 refine aA (Yf ps hS _ [] w1 hR) ?_
 rintro _ w2 ⟨rfl,az⟩
 have dm:=az.size
 refine bI az hK hR λhK hR=>?_
 refine W ?_
 refine aA (aez ps hS _ [] w2 hR) ?_
 rintro _ w3 ⟨rfl,aH⟩
 have fm:=aH.size
 refine bI aH hK hR λhK hR=>?_
 refine W ?_
 apply oP 3 20 23 rfl oQ
 intro _
 exact oQ
 intro xx
 refine aZ<|zc rfl (λh3=>?_) (λh3=>?_)
 have A5:s8 ps=BU ps:=(by unfold s8 BU;rw[P1])
 refine W ?_
 exact⟨_,rfl,congrArg Value.bool (dT A5),hK⟩
 have A5:s8 ps=BU ps:=(by unfold s8 BU;rw[P1])
 have oC:¬s8 ps<0:=(by have h8:=(Bool.or_eq_false_iff.1 h3).2;simpa using h8)
 have ti:nj ps=true:=(by cases hq:nj ps with|true=>rfl|false=>exact absurd (by unfold s8;rw[iN (by rw[hq];simp)];omega) oC)
 have nO:jt ps=true:=P1.symm.trans ti
 have hlen:1<=ps.length∧ps.length<=40:=(by unfold jt at nO;simp only[aE,dE] at nO;exact nO.2.1.1)
 have fC:s8 ps=(lines ps:Int):=iP ti
 have lW:∀b,b∈ps->1<=b.code.length:=(λb hb=>by obtain⟨k,hk,e⟩:=List.getElem_of_mem hb;have h9:=FV nO (bR ps k) (List.mem_of_getElem? (pC hk));unfold lZ at h9;simp only[aE,dE] at h9;have h8:=h9.1.1.2.1;have e2:bR ps k=b:=by{simp[bR,gE hk,e]};rw[e2] at h8;exact h8)
 have j8:=anW lW
 refine gY<|zr<|zm<|aA (anQ ps hS ti _ [] [] w3 hR sm) ?_
 rintro v4 w4 ⟨jT,aO⟩
 have fE:=aO.size
 have hK:=hK.ext aO
 obtain⟨xv,ms,e7,hX⟩:=jT
 subst e7
 have vU:=zG hX
 obtain⟨xa,xn,xc,e6,XW⟩:=vU
 subst e6
 have hSx:tI (jK ms (ps.map dQ) ps.length):=anX (λb hb=>by obtain⟨q,hq,e⟩:=List.mem_map.1 hb;have h9:=hP.bk q hq;subst e;exact⟨by show q.aM.length<_;omega,by show(q.bY.map tr).length<_;rw[List.length_map];omega,by show(q.code.map tr).length<_;rw[List.length_map];omega⟩) (by rw[List.length_map];exact lR _) (by rw[List.length_map];omega)
 have hle:=Xx ms (ps.map dQ) ps.length (by rw[List.length_map];exact lR _)
 have sL:(ps.map dQ).take ps.length=ps.map dQ:=List.take_of_length_le (by rw[List.length_map];exact lR _)
 rw[sL,Xu] at hle
 have hsx:=alX (jK ms (ps.map dQ) ps.length)
 refine zm<|zx (i:=0) rfl rfl<|zx (i:=1) rfl rfl<|zA<|zA<|aZ<|zr<|zm<|zm ?_
 apply Ig 5 33 38 [33,34,35,36,37,38] (λw'=>w4=w') rfl
 intro h4
 replace h4:=jk h4
 refine zm<|zm<|Fq iL rfl rfl rfl<|Qg rfl rfl rfl rfl rfl<|zp rfl<|aZ ?_
 exact mg rfl rfl
 intro h4
 replace h4:=jk h4
 refine W ?_
 exact mg rfl rfl
 rintro xx _ rfl
 refine WZ ?_
 apply oA 5 39 44 (aj [] w4) rfl oQ
 intro _
 refine zm<|aA (Yf (jK ms (ps.map dQ) ps.length) hSx _ [] w4 hX) ?_
 rintro _ w5 ⟨rfl,aN⟩
 have l3:=aN.size
 exact oQ
 intro xx w5 aN
 have hK:=hK.ext aN
 refine W ?_
 exact⟨_,rfl,congrArg Value.bool (by rw[aE,aE];exact⟨⟨rfl,dT om⟩,dT om⟩),hK⟩
theorem ar9:(fun(_:Program) (_:FuncId) (_:Func) (s:ChangeSpec) (c:OpenClaim)=>(c.wf (OpenSpec.ofChange s):Bool)) Tryz.pinned.checked.prog 3 Tryz.f3 Rows.fnProgramSizeSpec Rows.fnProgramSizeRow=true:=by kernel_rfl
theorem asa:(fun(P:Program) (_:FuncId) (_:Func) (_:ChangeSpec) (_:OpenClaim)=>(laidOutB P:Bool)) Tryz.pinned.checked.prog 3 Tryz.f3 Rows.fnProgramSizeSpec Rows.fnProgramSizeRow=true:=by kernel_rfl
theorem asb:(fun(P:Program) (_:FuncId) (_:Func) (_:ChangeSpec) (_:OpenClaim)=>(mapsRowed P:Bool)) Tryz.pinned.checked.prog 3 Tryz.f3 Rows.fnProgramSizeSpec Rows.fnProgramSizeRow=true:=by kernel_rfl
theorem asc:(fun(P:Program) (_:FuncId) (fn:Func) (_:ChangeSpec) (_:OpenClaim)=>(fn.params.all (P.readableRec ·):Bool)) Tryz.pinned.checked.prog 3 Tryz.f3 Rows.fnProgramSizeSpec Rows.fnProgramSizeRow=true:=by kernel_rfl
theorem asd:(fun(P:Program) (_:FuncId) (_:Func) (s:ChangeSpec) (c:OpenClaim)=>(namedTie P c.named s.vars:Bool)) Tryz.pinned.checked.prog 3 Tryz.f3 Rows.fnProgramSizeSpec Rows.fnProgramSizeRow=true:=by kernel_rfl
theorem ase:(fun(_:Program) (_:FuncId) (_:Func) (_:ChangeSpec) (c:OpenClaim)=>((c.stops==[]):Bool)) Tryz.pinned.checked.prog 3 Tryz.f3 Rows.fnProgramSizeSpec Rows.fnProgramSizeRow=true:=by kernel_rfl
theorem asf:(fun(P:Program) (_:FuncId) (_:Func) (_:ChangeSpec) (_:OpenClaim)=>((P.stops==[]):Bool)) Tryz.pinned.checked.prog 3 Tryz.f3 Rows.fnProgramSizeSpec Rows.fnProgramSizeRow=true:=by kernel_rfl
theorem asg:(fun(_:Program) (_:FuncId) (_:Func) (_:ChangeSpec) (c:OpenClaim)=>((c.knobs==[]):Bool)) Tryz.pinned.checked.prog 3 Tryz.f3 Rows.fnProgramSizeSpec Rows.fnProgramSizeRow=true:=by kernel_rfl
theorem ash:(fun(P:Program) (_:FuncId) (_:Func) (_:ChangeSpec) (_:OpenClaim)=>((P.stopKnobs==[]):Bool)) Tryz.pinned.checked.prog 3 Tryz.f3 Rows.fnProgramSizeSpec Rows.fnProgramSizeRow=true:=by kernel_rfl
theorem asi:(fun(P:Program) (f:FuncId) (_:Func) (_:ChangeSpec) (c:OpenClaim)=>((c.inPlace==P.inPlace f):Bool)) Tryz.pinned.checked.prog 3 Tryz.f3 Rows.fnProgramSizeSpec Rows.fnProgramSizeRow=true:=by kernel_rfl
theorem asj:(fun(P:Program) (f:FuncId) (_:Func) (_:ChangeSpec) (c:OpenClaim)=>((c.unfollowed==P.unfollowed f):Bool)) Tryz.pinned.checked.prog 3 Tryz.f3 Rows.fnProgramSizeSpec Rows.fnProgramSizeRow=true:=by kernel_rfl
theorem asl:(fun(P:Program) (f:FuncId) (_:Func) (_:ChangeSpec) (c:OpenClaim)=>((c.recurses==P.recurses f):Bool)) Tryz.pinned.checked.prog 3 Tryz.f3 Rows.fnProgramSizeSpec Rows.fnProgramSizeRow=true:=by kernel_rfl
theorem asm:(fun(P:Program) (f:FuncId) (_:Func) (_:ChangeSpec) (c:OpenClaim)=>((c.named==P.varsNamed f):Bool)) Tryz.pinned.checked.prog 3 Tryz.f3 Rows.fnProgramSizeSpec Rows.fnProgramSizeRow=true:=by kernel_rfl
theorem asn:(fun(P:Program) (_:FuncId) (fn:Func) (s:ChangeSpec) (c:OpenClaim)=>((c.maps==(fn.params.toList++s.plain.varTypes P).any (P.mapsRec ·)):Bool)) Tryz.pinned.checked.prog 3 Tryz.f3 Rows.fnProgramSizeSpec Rows.fnProgramSizeRow=true:=by kernel_rfl
theorem aso:(fun(P:Program) (_:FuncId) (fn:Func) (s:ChangeSpec) (c:OpenClaim)=>((c.ifaces==(fn.params.toList++s.plain.varTypes P).any (P.ifacesRec ·)):Bool)) Tryz.pinned.checked.prog 3 Tryz.f3 Rows.fnProgramSizeSpec Rows.fnProgramSizeRow=true:=by kernel_rfl
theorem asp:(fun(P:Program) (_:FuncId) (fn:Func) (_:ChangeSpec) (c:OpenClaim)=>((c.mapsOut==P.mapsAmong fn.resultTypes.toList):Bool)) Tryz.pinned.checked.prog 3 Tryz.f3 Rows.fnProgramSizeSpec Rows.fnProgramSizeRow=true:=by kernel_rfl
theorem asq:(fun(P:Program) (_:FuncId) (fn:Func) (s:ChangeSpec) (c:OpenClaim)=>((c.loops==(fn.params.toList++s.plain.varTypes P).any (P.loopsFrom ·)):Bool)) Tryz.pinned.checked.prog 3 Tryz.f3 Rows.fnProgramSizeSpec Rows.fnProgramSizeRow=true:=by kernel_rfl
theorem asr:(fun(P:Program) (_:FuncId) (fn:Func) (s:ChangeSpec) (c:OpenClaim)=>((c.wideKeys==(fn.params.toList++s.plain.varTypes P++fn.resultTypes.toList).any (P.wideKeysFrom ·)):Bool)) Tryz.pinned.checked.prog 3 Tryz.f3 Rows.fnProgramSizeSpec Rows.fnProgramSizeRow=true:=by kernel_rfl
theorem ass:(fun(P:Program) (_:FuncId) (_:Func) (s:ChangeSpec) (_:OpenClaim)=>(s.vars.all (P.varReadable ·):Bool)) Tryz.pinned.checked.prog 3 Tryz.f3 Rows.fnProgramSizeSpec Rows.fnProgramSizeRow=true:=by kernel_rfl
theorem ast:(fun(P:Program) (_:FuncId) (fn:Func) (_:ChangeSpec) (_:OpenClaim)=>(fn.resultTypes.all (λt=>P.readableRec t&&decide (t<P.types.size)):Bool)) Tryz.pinned.checked.prog 3 Tryz.f3 Rows.fnProgramSizeSpec Rows.fnProgramSizeRow=true:=by kernel_rfl
theorem asu:(fun(P:Program) (_:FuncId) (fn:Func) (_:ChangeSpec) (c:OpenClaim)=>((c.ifacesOut==fn.resultTypes.toList.any (P.ifacesRec ·)):Bool)) Tryz.pinned.checked.prog 3 Tryz.f3 Rows.fnProgramSizeSpec Rows.fnProgramSizeRow=true:=by kernel_rfl
theorem asv:(fun(P:Program) (_:FuncId) (fn:Func) (_:ChangeSpec) (c:OpenClaim)=>((c.loopsOut==fn.resultTypes.toList.any (P.loopsFrom ·)):Bool)) Tryz.pinned.checked.prog 3 Tryz.f3 Rows.fnProgramSizeSpec Rows.fnProgramSizeRow=true:=by kernel_rfl
theorem asw:(fun(P:Program) (_:FuncId) (_:Func) (_:ChangeSpec) (c:OpenClaim)=>((c.plainKeys==P.plainKeys):Bool)) Tryz.pinned.checked.prog 3 Tryz.f3 Rows.fnProgramSizeSpec Rows.fnProgramSizeRow=true:=by kernel_rfl
theorem asx:Tryz.pinned.checked.prog.funcNamed "loop.example/typedassembly/laws.FnProgramSize"=some 3:=by kernel_rfl
theorem asy:(Tryz.f3).isInstance Tryz.pinned.checked.prog Rows.fnProgramSizeRow.origin Rows.fnProgramSizeRow.targs:=of_decide_eq_true (by kernel_rfl)
theorem asz:(Tryz.f3).isWrapper Tryz.pinned.checked.prog Rows.fnProgramSizeRow.wrapper Rows.fnProgramSizeRow.mainSum:=by unfold Func.isWrapper;first|(rw[iP (by decide+kernel)];kernel_rfl)|(rw[iN (by decide+kernel)];exact⟨rfl,rfl⟩)
theorem asA:Rows.fnProgramSizeRow.wfByText (OpenSpec.ofChange Rows.fnProgramSizeSpec)=true:=by kernel_rfl
theorem asB:(fun(_:Program) (_:FuncId) (_:Func) (_:ChangeSpec) (c:OpenClaim)=>(c.shortTexts.isNone:Bool)) Tryz.pinned.checked.prog 3 Tryz.f3 Rows.fnProgramSizeSpec Rows.fnProgramSizeRow=true:=by kernel_rfl
theorem asC:(fun(P:Program) (_:FuncId) (_:Func) (_:ChangeSpec) (_:OpenClaim)=>(P.stopsHeard:Bool)) Tryz.pinned.checked.prog 3 Tryz.f3 Rows.fnProgramSizeSpec Rows.fnProgramSizeRow=true:=by kernel_rfl
theorem asD:(fun(P:Program) (_:FuncId) (_:Func) (_:ChangeSpec) (_:OpenClaim)=>(P.mayEnter:Bool)) Tryz.pinned.checked.prog 3 Tryz.f3 Rows.fnProgramSizeSpec Rows.fnProgramSizeRow=true:=by kernel_rfl
theorem asE:(fun(P:Program) (_:FuncId) (_:Func) (_:ChangeSpec) (c:OpenClaim)=>((c.lifted==P.liftsFinal):Bool)) Tryz.pinned.checked.prog 3 Tryz.f3 Rows.fnProgramSizeSpec Rows.fnProgramSizeRow=true:=by kernel_rfl
theorem asF:(fun(P:Program) (_:FuncId) (_:Func) (_:ChangeSpec) (c:OpenClaim)=>((P.make==some c.make):Bool)) Tryz.pinned.checked.prog 3 Tryz.f3 Rows.fnProgramSizeSpec Rows.fnProgramSizeRow=true:=by kernel_rfl
theorem asG:(fun(P:Program) (_:FuncId) (fn:Func) (_:ChangeSpec) (c:OpenClaim)=>((c.kinds==(if c.domain.isEmpty then[] else fn.params.toList.map λt=>match P.underlying t with|some (.int k)=>some k|_=>none)):Bool)) Tryz.pinned.checked.prog 3 Tryz.f3 Rows.fnProgramSizeSpec Rows.fnProgramSizeRow=true:=by kernel_rfl
theorem asH:(fun(_:Program) (_:FuncId) (_:Func) (_:ChangeSpec) (c:OpenClaim)=>((c.pinned==c.pinnedBy):Bool)) Tryz.pinned.checked.prog 3 Tryz.f3 Rows.fnProgramSizeSpec Rows.fnProgramSizeRow=true:=by kernel_rfl
theorem asI:(fun(P:Program) (_:FuncId) (fn:Func) (s:ChangeSpec) (c:OpenClaim)=>((c.veiled==(fn.params.toList++s.plain.varTypes P++fn.resultTypes.toList).any (P.veiledRec ·)):Bool)) Tryz.pinned.checked.prog 3 Tryz.f3 Rows.fnProgramSizeSpec Rows.fnProgramSizeRow=true:=by kernel_rfl
theorem asJ:(fun(P:Program) (_:FuncId) (fn:Func) (s:ChangeSpec) (c:OpenClaim)=>(c.veiledFits P fn.params.toList (fn.params.toList++s.plain.varTypes P++fn.resultTypes.toList):Bool)) Tryz.pinned.checked.prog 3 Tryz.f3 Rows.fnProgramSizeSpec Rows.fnProgramSizeRow=true:=by kernel_rfl
theorem asK:Tryz.pinned.checked.prog.mainIs=some (true, "11cc121be114b82c54ce4e6be40da035a0e47b7a30a856ed352bc20fea3a48b9".toList):=by kernel_rfl
theorem asL:true=Tryz.pinned.checked.prog.looks []:=by kernel_rfl
theorem asM:Tryz.pinned.checked.prog.wantsStandIn 22=false:=by kernel_rfl
theorem asN:false=Rows.fnProgramSizeRow.goesBy Tryz.pinned.checked.prog:=by kernel_rfl
end Go.Proofs.YthbhobaiopccaaaGreatDoor
