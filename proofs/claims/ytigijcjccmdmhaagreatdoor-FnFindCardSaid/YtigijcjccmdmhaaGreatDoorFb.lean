/- Lemmas for the law FnFind, no statement of their own: no conditions. -/
import Derived.Test.YtigijcjccmdmhaaGreatDoorFa
import Derived.Laws.IdiomStrings
import Derived.Laws.MakeOwn
import Derived.Lib.Atoi
import Derived.Lib.Strings
namespace Go.Proofs.YtigijcjccmdmhaaGreatDoor
open Go
structure Gr (B:Nat) (L:List Nat) (w:World) (T:TypeId) (sz:Nat) (v:Value) (g:Option Nat) (rows:List (List C)):Prop where
 own:∃xs,ik L w T sz v g rows xs
 low:∀b,g=some b->B<=b
 db:∀x,x∈L->x<w.heap.size
 bsz:B<=w.heap.size
def Gr.nil {B:Nat} {L:List Nat} {w:World} {T:TypeId} {sz:Nat} (hL:∀x,x∈L->x<w.heap.size) (hB:B<=w.heap.size):Gr B L w T sz (.slice none 0 0) none []:=
 ⟨⟨[],ik.nil _ _ _ _⟩,sm,hL,hB⟩
def Gr.aO {B:Nat} {L L':List Nat} {w w':World} {T:TypeId} {sz:Nat} {v:Value} {g:Option Nat} {rows:List (List C)} (h:Gr B L w T sz v g rows) (k:ak L' w w') (hL:∀x,x∈L'->x∈L):Gr B L w' T sz v g rows:=
 ⟨h.own.imp λ_ h=>h.aO k hL,h.low,λx hx=>lL (h.db x hx) k.size,Nat.le_trans h.bsz k.size⟩
def Gr.ext {B:Nat} {L:List Nat} {w w':World} {T:TypeId} {sz:Nat} {v:Value} {g:Option Nat} {rows:List (List C)} (h:Gr B L w T sz v g rows) (k:ak [] w w'):Gr B L w' T sz v g rows:=h.aO k sm
def Gr.aL {B:Nat} {L L':List Nat} {w w':World} {T:TypeId} {sz:Nat} {v:Value} {g:Option Nat} {rows:List (List C)} (h:Gr B L w T sz v g rows) (k:ak L' w w') (hL:∀x,x∈L'->x∈L):Gr B L w' T sz v g rows:=h.aO k hL
def Gr.alloc {B:Nat} {L:List Nat} {w w':World} {T:TypeId} {sz:Nat} {v:Value} {g:Option Nat} {rows:List (List C)} (h:Gr B L w T sz v g rows) (k:ak [] w w') (hz:w'.heap.size=w.heap.size+1):Gr B (w.heap.size::L) w' T sz v g rows:=
 ⟨h.own.imp λ_ h=>(h.more zq).aO k sm,h.low,λx hx=>by rcases mC.1 hx with rfl|hx;omega;have:=h.db x hx;omega,Nat.le_trans h.bsz k.size⟩
def Gr.jk {B:Nat} {L L':List Nat} {w:World} {T:TypeId} {sz:Nat} {v:Value} {g:Option Nat} {rows:List (List C)} (h:Gr B L w T sz v g rows) (hL:∀x,x∈L'->x∈L):Gr B L' w T sz v g rows:=
 ⟨h.own.imp λ_ h=>h.more λx hx=>.inl (hL x hx),h.low,λx hx=>h.db x (hL x hx),h.bsz⟩
def Gr.done {B:Nat} {L:List Nat} {w:World} {T:TypeId} {sz:Nat} {v:Value} {g:Option Nat} {rows:List (List C)} (h:Gr B L w T sz v g rows):cF L w v (.sl sz rows):=by
 obtain⟨_,h⟩:=h.own;exact h.done
def Gr.Dr {B:Nat} {L:List Nat} {w:World} {T:TypeId} {sz:Nat} {v:Value} {g:Option Nat} {rows:List (List C)} (h:Gr B L w T sz v g rows) {b:Nat} (hb:b∈L):b∉g.toList:=by
 obtain⟨_,h⟩:=h.own;exact h.sep hb
def Gr.QF {B:Nat} {L:List Nat} {w:World} {T:TypeId} {sz:Nat} {v:Value} {g:Option Nat} {rows:List (List C)} (h:Gr B L w T sz v g rows) {b:Nat} (hb:b<B):b∉g.toList:=by
 intro hx;have:=h.low b (by simpa using hx);omega
def Gr.lt {B:Nat} {L:List Nat} {w:World} {T:TypeId} {sz:Nat} {v:Value} {g:Option Nat} {rows:List (List C)} (h:Gr B L w T sz v g rows):∀x,x∈g.toList->x<w.heap.size:=by
 obtain⟨_,h⟩:=h.own;intro x hx;exact h.own.lt x (by simpa using hx)
def Gr.all {B:Nat} {L:List Nat} {w:World} {T:TypeId} {sz:Nat} {v:Value} {g:Option Nat} {rows:List (List C)} (h:Gr B L w T sz v g rows):∀x,x∈g.toList++L->x<w.heap.size:=by
 intro x hx
 rcases mA.1 hx with hx|hx
 ·exact h.lt x hx
 ·exact h.db x hx
def Gr.since {L L':List Nat} {w0 w w':World} {T:TypeId} {sz:Nat} {v:Value} {g:Option Nat} {rows:List (List C)} (h:Gr w0.heap.size L w T sz v g rows) (k0:ak L' w0 w) (k:ak g.toList w w'):ak L' w0 w':=
 k0.since k λx hx=>.inr (h.low x (by simpa using hx))
def ak.QG {L':List Nat} {w0 w w':World} {B:Nat} {g:Option Nat} (hB:w0.heap.size<=B) (hl:∀b,g=some b->B<=b) (k0:ak L' w0 w) (k:ak g.toList w w'):ak L' w0 w':=
 k0.since k λx hx=>.inr (Nat.le_trans hB (hl x (by simpa using hx)))
section
variable {P:Program} {n:Nat} {ops:Array Oper} {K:Env->World->Prop} {rest:List Oper} {e:Env} {w:World}
 {dst:Option Nat} {ty:TypeId} {pos:String} {after:Array Edge} {g:Option (Nat×Bool)} {x y:Operand}
def HU {B:Nat} {L:List Nat} {t E sz bytes:Nat} {z:Value} {v:Value} {gb:Option Nat} {rows:List (List C)} {row:List C} {news:List Value} {b U:Nat} (hT:P.underlying t=some (.slice E)) (hE:TI P E sz bytes z) (hg:gate ops e g=true) (hd:dy n dst=true) (hz:Nat.beq z.cells.size sz=true) (ij:Nat.ble bytes 1000=true)
  (hx:ev e x=v) (hy:ev e y= .slice (some ⟨b,0,none⟩) 1 1) (hO:Gr B L w E sz v gb rows) (hb:aY w b news.toArray U) (iZ:row.length=sz) (h1:news.all Value.oneCell'=true)
  (hr:dR (gb.toList++L) w news row) (hn:rows.length<100000000)
  (k:∀a' cap' g' w',Gr B L w' E sz (.slice a' (rows.length+1) cap') g' (rows++[row])->ak gb.toList w w'->OW P n ops K rest (cQ e dst (.slice a' (rows.length+1) cap')) w'):
  OW P n ops K (⟨dst,.call {callee:=.builtin .append,args:=#[x,y],argTypes:=#[t,t]},ty,pos,after,g⟩::rest) e w:=by
 obtain⟨xs,hR⟩:=hO.own
 have Ds:bytes<=1000:=Nat.le_of_ble_eq_true ij
 refine PJ hT hE hg hd hz hx hy hR iZ hb.all (λu hu=>List.all_eq_true.1 h1 u hu) hr hO.db (Nat.le_trans (Nat.mul_le_mul (show rows.length+1<=100000000 by omega) (show bytes+1<=1001 by omega)) de) ?_
 intro a' cap' g' w' kr hk k8
 refine k a' cap' g' w' ⟨⟨_,kr⟩,λb hb=>?_,λx hx=>lL (hO.db x hx) hk.size,Nat.le_trans hO.bsz hk.size⟩ hk
 rcases k8 with h|h
 ·rw[h] at hb;exact hO.low b hb
 ·rw[h] at hb;cases hb;exact hO.bsz
def K5 {B:Nat} {L:List Nat} {t E bytes:Nat} {z:Value} {v u1 u2:Value} {gb:Option Nat} {ts:List aA} {f:aA} {b U:Nat} (hT:P.underlying t=some (.slice E)) (hE:TI P E 2 bytes z) (hg:gate ops e g=true) (hd:dy n dst=true) (hz:Nat.beq z.cells.size 2=true) (ij:Nat.ble bytes 1000=true)
  (hx:ev e x=v) (hy:ev e y= .slice (some ⟨b,0,none⟩) 1 1) (hO:Gr B L w E 2 v gb (dH ts)) (hb:aY w b [u1,u2].toArray U)
  (hr:bT (gb.toList++L) w (.agg #[u1,u2]) f) (hn:ts.length<100000000)
  (k:∀a' cap' g' w',Gr B L w' E 2 (.slice a' (ts++[f]).length cap') g' (dH (ts++[f]))->ak gb.toList w w'->OW P n ops K rest (cQ e dst (.slice a' (ts++[f]).length cap')) w'):
  OW P n ops K (⟨dst,.call {callee:=.builtin .append,args:=#[x,y],argTypes:=#[t,t]},ty,pos,after,g⟩::rest) e w:=by
 refine HU hT hE hg hd hz ij hx hy hO hb (oZ f) ?_ hr.kQ (by rw[iI];exact hn) ?_
 ·rw[List.all_eq_true]
  refine λu hu=>dR.EZ hr.kQ (λc hc v hv=>?_) u hu
  cases f;rw[aA.enc] at hc
  simp only[mC,nN,oF] at hc
  rcases hc with h|h
  ·rw[h] at hv;cases hv;rfl
  ·rw[h] at hv;cases hv
 ·intro a' cap' g' w' kr hk
  have e1:(dH ts).length+1=(ts++[f]).length:=by simp[iI]
  have e2:dH ts++[f.enc]=dH (ts++[f]):=by simp[Ku,dH]
  rw[e1] at kr⊢
  rw[e2] at kr
  exact k a' cap' g' w' kr hk
end
def QH {P:Program} {w:World} {T E sz bytes:Nat} {z:Value} (hT:P.underlying T=some (.slice E)) (hE:TI P E sz bytes z):(Instr.buildSlice T 0 #[]).run P w= .ok (.slice (some ⟨w.heap.size,0,none⟩) 0 0) (w.alloc (.cells #[] E)):=by
 simp[Instr.buildSlice,Sem.run_bind,run_underlying hT,Result.andThen_ok,hE.tt,Instr.fill,newRow];congr 2;apply Array.ext<;>simp
def zQ {P:Program} {n:Nat} {ops:Array Oper} {K:Env->World->Prop} {rest:List Oper} {e:Env} {w:World} {dst:Option Nat} {ty:TypeId} {pos:String} {after:Array Edge} {g:Option (Nat×Bool)}
  {T E sz bytes:Nat} {z:Value} (B:Nat) (L:List Nat) (hT:P.underlying T=some (.slice E)) (hE:TI P E sz bytes z) (hg:gate ops e g=true) (hd:dy n dst=true) (hB:B<=w.heap.size) (hL:∀x,x∈L->x<w.heap.size)
  (k:∀w',ak [] w w'->w'.heap.size=w.heap.size+1->Gr B L w' E sz (.slice (some ⟨w.heap.size,0,none⟩) 0 0) (some w.heap.size) []->OW P n ops K rest (cQ e dst (.slice (some ⟨w.heap.size,0,none⟩) 0 0)) w'):
  OW P n ops K (⟨dst,.buildSlice T 0 #[],ty,pos,after,g⟩::rest) e w:=
 fT hg hd (w':=w.alloc (.cells #[] E)) (by simp[execOp,QH (P:=P) (w:=w) hT hE])
  (k _ (ak.alloc _ _ _) sm ⟨⟨[],⟨by simp,.inr ⟨w.heap.size,0,#[],rfl,rfl,aY.alloc _ _ _,lR _,by decide,sm,sm⟩⟩,trivial,sm,by intro b hb hx;cases hb;have:=hL _ hx;omega⟩,
   by intro b hb;cases hb;exact hB,λx hx=>by have:=hL x hx;simp;omega,by simp;omega⟩)
def qY.kQ {L:List Nat} {w:World} {x y z:Value} {b:Bk} (h:qY L w (.agg #[x,y,z]) b):dR L w [x,y,z] b.enc:=by
 obtain⟨vs,he,hr⟩:=h
 have hv:vs=[x,y,z]:=by
  have:=cA (λv=>match v with|Value.agg x=>x.toList|_=>[]) he
  simpa using this.symm
 rw[<-hv];exact hr
def aaF {P:Program} {n:Nat} {ops:Array Oper} {K:Env->World->Prop} {rest:List Oper} {e:Env} {w:World} {dst:Option Nat} {ty:TypeId} {pos:String} {after:Array Edge} {g:Option (Nat×Bool)} {x y:Operand}
  {B:Nat} {L:List Nat} {t E bytes:Nat} {z:Value} {v u1 u2 u3:Value} {gb:Option Nat} {ts:List Bk} {f:Bk} {b U:Nat} (hT:P.underlying t=some (.slice E)) (hE:TI P E 3 bytes z) (hg:gate ops e g=true) (hd:dy n dst=true) (hz:Nat.beq z.cells.size 3=true) (ij:Nat.ble bytes 1000=true)
  (hx:ev e x=v) (hy:ev e y= .slice (some ⟨b,0,none⟩) 1 1) (hO:Gr B L w E 3 v gb (ts.map Bk.enc)) (hb:aY w b [u1,u2,u3].toArray U)
  (hr:qY (gb.toList++L) w (.agg #[u1,u2,u3]) f) (hn:ts.length<100000000)
  (k:∀a' cap' g' w',Gr B L w' E 3 (.slice a' (ts++[f]).length cap') g' ((ts++[f]).map Bk.enc)->ak gb.toList w w'->OW P n ops K rest (cQ e dst (.slice a' (ts++[f]).length cap')) w'):
  OW P n ops K (⟨dst,.call {callee:=.builtin .append,args:=#[x,y],argTypes:=#[t,t]},ty,pos,after,g⟩::rest) e w:=by
 refine HU hT hE hg hd hz ij hx hy hO hb rfl ?_ hr.kQ (by simpa using hn) ?_
 ·rw[List.all_eq_true]
  refine λu hu=>dR.EZ hr.kQ (λc hc v hv=>?_) u hu
  rw[Bk.enc] at hc
  simp only[mC,nN,oF] at hc
  rcases hc with h|h|h
  ·rw[h] at hv;cases hv;rfl
  ·rw[h] at hv;cases hv
  ·rw[h] at hv;cases hv
 ·intro a' cap' g' w' kr hk
  have e1:(ts.map Bk.enc).length+1=(ts++[f]).length:=by simp
  have e2:ts.map Bk.enc++[f.enc]=(ts++[f]).map Bk.enc:=by simp
  rw[e1] at kr⊢
  rw[e2] at kr
  exact k a' cap' g' w' kr hk
def Gr.xN {B:Nat} {L:List Nat} {w:World} {T:TypeId} {v:Value} {g:Option Nat} {bs:List Bk} (h:Gr B L w T 3 v g (bs.map Bk.enc)):ko L w v bs:=h.done
/-! ### Owned lists of texts,owned programs -/
def dj (w:World) (T:TypeId) (v:Value) (g:Option Nat) (xs:List aj):Prop:=jZ w T 1 v g xs.length (xs.map λx=>str x)
def QI {L:List Nat} {w:World}:∀{xs:List aj} {vs:List Value},dR L w vs (jj xs).flatten->vs=xs.map λx=>str x
 |[],vs,h=>by
  cases vs with
  |nil=>rfl
  |cons v vs=>exact h.elim
 |x::xs,vs,h=>by
  cases vs with
  |nil=>exact h.elim
  |cons v vs=>
   obtain⟨h1,h2⟩:=h
   cases h1
   rw[List.map_cons,<-QI (xs:=xs) h2]
def QJ {L:List Nat} {w:World}:∀xs:List aj,dR L w (xs.map λx=>str x) (jj xs).flatten
 |[]=>trivial
 |_::xs=>⟨.val _,QJ xs⟩
def Gr.wg {B:Nat} {L:List Nat} {w:World} {T:TypeId} {v:Value} {g:Option Nat} {xs:List aj} (h:Gr B L w T 1 v g (jj xs)):dj w T v g xs:=by
 obtain⟨vs,h⟩:=h.own
 have:=h.own
 rw[QI h.rep,rS] at this
 exact this
def dj.aaG {L:List Nat} {w:World} {T:TypeId} {v:Value} {g:Option Nat} {xs:List aj} (h:dj w T v g xs) (hL:∀b,g=some b->b∉L):ik L w T 1 v g (jj xs) (xs.map λx=>str x):=
 ⟨by rw[rS];exact h,QJ xs,by intro row hr;simp[jj] at hr;obtain⟨_,_,rfl⟩:=hr;rfl,hL⟩
def dj.rep {L:List Nat} {w:World} {T:TypeId} {v:Value} {g:Option Nat} {xs:List aj} (h:dj w T v g xs) (hL:∀b,g=some b->b∉L):bI L w v xs:=(h.aaG hL).done
def dj.aO {L:List Nat} {w w':World} {T:TypeId} {v:Value} {g:Option Nat} {xs:List aj} (h:dj w T v g xs) (k:ak L w w') (hL:∀b,g=some b->b∉L):dj w' T v g xs:=jZ.aO h k hL
def dj.ext {w w':World} {T:TypeId} {v:Value} {g:Option Nat} {xs:List aj} (h:dj w T v g xs) (k:ak [] w w'):dj w' T v g xs:=h.aO k sm
def qt (w:World) (T:TypeId) (gs:Option Nat×Option Nat) (vs:List Value) (b:Bk):Prop:=
 ∃v1 v2,vs=[str b.aP,v1,v2]∧dj w T v1 gs.1 b.cP∧dj w T v2 gs.2 b.code
def jO (gs:Option Nat×Option Nat):List Nat:=gs.1.toList++gs.2.toList
def im (gss:List (Option Nat×Option Nat)):List Nat:=gss.flatMap jO
def qt.aO {L:List Nat} {w w':World} {T:TypeId} {gs:Option Nat×Option Nat} {vs:List Value} {b:Bk} (h:qt w T gs vs b) (k:ak L w w') (hL:∀x,x∈jO gs->x∉L):qt w' T gs vs b:=by
 obtain⟨v1,v2,e,h1,h2⟩:=h
 exact⟨v1,v2,e,h1.aO k (λb hb=>hL b (by simp[jO,hb])),h2.aO k (λb hb=>hL b (by simp[jO,hb]))⟩
def ju (w:World) (T:TypeId):List (Option Nat×Option Nat)->List (List Value)->List Bk->Prop
 |[],[],[]=>True
 |g::gs,v::vs,b::bs=>qt w T g v b∧ju w T gs vs bs
 |_,_,_=>False
def ju.aO {L:List Nat} {w w':World} {T:TypeId} (k:ak L w w'):∀{gss:List (Option Nat×Option Nat)} {vss:List (List Value)} {bs:List Bk},ju w T gss vss bs->(∀x,x∈im gss->x∉L)->ju w' T gss vss bs
 |[],[],[],_,_=>trivial
 |g::gs,v::vs,b::bs,h,hL=>⟨h.1.aO k (λx hx=>hL x (by simp[im,hx])),ju.aO k h.2 (λx hx=>hL x (by simp[im] at hx⊢;exact .inr hx))⟩
def ju.snoc {w:World} {T:TypeId}:∀{gss:List (Option Nat×Option Nat)} {vss:List (List Value)} {bs:List Bk} {g:Option Nat×Option Nat} {v:List Value} {b:Bk},ju w T gss vss bs->qt w T g v b->ju w T (gss++[g]) (vss++[v]) (bs++[b])
 |[],[],[],_,_,_,_,h=>⟨h,trivial⟩
 |_::_,_::_,_::_,_,_,_,h,k=>⟨h.1,ju.snoc h.2 k⟩
def ju.lens {w:World} {T:TypeId}:∀{gss:List (Option Nat×Option Nat)} {vss:List (List Value)} {bs:List Bk},ju w T gss vss bs->gss.length=bs.length∧vss.length=bs.length∧∀row,row∈vss->row.length=3
 |[],[],[],_=>by simp
 |g::gs,v::vs,b::bs,h=>by
  obtain⟨h1,h2,h3⟩:=ju.lens h.2
  refine⟨by simp[h1],by simp[h2],λrow hr=>?_⟩
  rcases mC.1 hr with rfl|hr
  ·obtain⟨v1,v2,rfl,_⟩:=h.1;rfl
  ·exact h3 row hr
def ju.get {w:World} {T:TypeId}:∀{gss:List (Option Nat×Option Nat)} {vss:List (List Value)} {bs:List Bk},ju w T gss vss bs->∀{i:Nat} {b:Bk},bs[i]?=some b->∃g v,gss[i]?=some g∧vss[i]?=some v∧qt w T g v b
 |_::_,_::_,_::_,h,0,b,hb=>by simp at hb;subst hb;exact⟨_,_,rfl,rfl,h.1⟩
 |_::gs,_::vs,_::bs,h,i+1,b,hb=>by
  obtain⟨g,v,h1,h2,h3⟩:=ju.get h.2 (i:=i) (by simpa using hb)
  exact⟨g,v,by simpa using h1,by simpa using h2,h3⟩
 |[],[],[],_,i,b,hb=>by simp at hb
def ju.BF {L:List Nat} {w:World} {T:TypeId}:∀{gss:List (Option Nat×Option Nat)} {vss:List (List Value)} {bs:List Bk},ju w T gss vss bs->(∀x,x∈im gss->x∉L)->dR L w vss.flatten (bs.map Bk.enc).flatten
 |[],[],[],_,_=>trivial
 |g::gs,v::vs,b::bs,h,hL=>by
  obtain⟨v1,v2,rfl,h1,h2⟩:=h.1
  refine⟨.val _,h1.rep (λb hb=>hL b (by simp[im,jO,hb])),h2.rep (λb hb=>hL b (by simp[im,jO,hb])),?_⟩
  exact ju.BF h.2 (λx hx=>hL x (by simp[im] at hx⊢;exact .inr hx))
structure mu (w:World) (TB TS:TypeId) (v:Value) (g:Option Nat) (gss:List (Option Nat×Option Nat)) (vss:List (List Value)) (bs:List Bk):Prop where
 own:jZ w TB 3 v g bs.length vss.flatten
 rows:ju w TS gss vss bs
 nodup:(g.toList++im gss).Nodup
 lt:∀x,x∈im gss->x<w.heap.size
def mu.aO {L:List Nat} {w w':World} {TB TS:TypeId} {v:Value} {g:Option Nat} {gss:List (Option Nat×Option Nat)} {vss:List (List Value)} {bs:List Bk} (h:mu w TB TS v g gss vss bs) (k:ak L w w') (hL:∀x,x∈g.toList++im gss->x∉L):mu w' TB TS v g gss vss bs:=
 ⟨h.own.aO k (λb hb=>hL b (by simp[hb])),h.rows.aO k (λx hx=>hL x (by simp[hx])),h.nodup,λx hx=>lL (h.lt x hx) k.size⟩
def mu.ext {w w':World} {TB TS:TypeId} {v:Value} {g:Option Nat} {gss:List (Option Nat×Option Nat)} {vss:List (List Value)} {bs:List Bk} (h:mu w TB TS v g gss vss bs) (k:ak [] w w'):mu w' TB TS v g gss vss bs:=h.aO k sm
def mu.rep {L:List Nat} {w:World} {TB TS:TypeId} {v:Value} {g:Option Nat} {gss:List (Option Nat×Option Nat)} {vss:List (List Value)} {bs:List Bk} (h:mu w TB TS v g gss vss bs) (hL:∀x,x∈g.toList++im gss->x∉L):ko L w v bs:=by
 have hd:=(List.nodup_append.1 h.nodup).2.2
 refine ik.done (L:=L) (w:=w) (T:=TB) (g:=g) (xs:=vss.flatten) ⟨by simpa using h.own,h.rows.BF λx hx=>?_,?_,λb hb=>hL b (by simp[hb])⟩
 ·intro hc
  rcases mA.1 hc with hc|hc
  ·exact hd x hc x hx rfl
  ·exact hL x (by simp[hx]) hc
 ·intro row hr
  obtain⟨b,_,rfl⟩:=List.mem_map.1 hr
  rfl
def bT.K6 {A B:List Nat} {b:Nat} {w:World} {v:Value} {t:aA} (h:bT (b::(A++B)) w v t):bT (A++(b::B)) w v t:=kD.fresh h λx hx=>.inl (PG x hx)
def bT.jk {L L':List Nat} {w:World} {v:Value} {t:aA} (h:bT L w v t) (hL:∀x,x∈L'->x∈L):bT L' w v t:=kD.fresh h λx hx=>.inl (hL x hx)
def fI.jk {L L':List Nat} {w:World} {v:Value} {t:List aA} (h:fI L w v t) (hL:∀x,x∈L'->x∈L):fI L' w v t:=cF.fresh h λx hx=>.inl (hL x hx)
def Gr.trees {B:Nat} {L:List Nat} {w:World} {T:TypeId} {v:Value} {g:Option Nat} {ts:List aA} (h:Gr B L w T 2 v g (dH ts)):fI L w v ts:=h.done
def aaH (s:aj):Lib.trimPrefix s [45]=eA s:=by
 unfold Lib.trimPrefix Lib.hasPrefix eA
 cases s with
 |nil=>simp
 |cons c r=>
  by_cases h:c=45
  ·subst h;simp
  ·have h2:((45:UInt8)==c)=false:=by simpa using λhe=>h he.symm
   simp[List.isPrefixOf,h2,h]
def QK:∀(l:aj) (n:Nat),l.all il=true->Lib.decFrom n l=some (l.foldl (λn c=>10*n+(c.toNat-48)) n)
 |[],n,_=>rfl
 |c::r,n,h=>by
  simp only[List.all_cons,aE] at h
  have hc:=(Bx c).1 h.1
  have hd:Lib.digitVal c=some (c.toNat-48):=by unfold Lib.digitVal;rw[iP hc]
  simp only[Lib.decFrom,hd,List.foldl_cons]
  rw[show n*10+(c.toNat-48)=10*n+(c.toNat-48) from by omega]
  exact QK r _ h.2
def aaI {l:aj} (hl:l≠[]) (h:l.all il=true):Lib.decNat l=some (val l):=by
 unfold Lib.decNat
 rw[iN (by simpa using hl)]
 exact QK l 0 h
def aaJ {s:aj} {z:Int} (h:numeral s=some z):Lib.atoi s=some z:=by
 unfold numeral at h
 by_cases h0:s=[48]
 ·rw[iP h0] at h;subst h0;rw[<-h];decide
 ·rw[iN h0] at h
  by_cases h1:(eA s).length<1∨3<(eA s).length∨(eA s).getD 0 0=48
  ·rw[iP h1] at h;cases h
  ·rw[iN h1] at h
   by_cases h2:(eA s).all il=true
   ·rw[iP h2] at h
    have eN:eA s≠[]:=λhe=>h1 (.inl (by rw[he];simp))
    have hv:=aaI eN h2
    cases s with
    |nil=>exact absurd (by unfold eA;simp) eN
    |cons c r=>
     by_cases hc:c=45
     ·subst hc
      have hd:eA (45::r)=r:=by unfold eA;simp
      have hs:qV (45::r)= -1:=by unfold qV;simp
      rw[hd] at hv h
      rw[hs] at h
      simp only[Lib.atoi,hv,beq_self_eq_true,if_true,Option.map_some]
      rw[<-h];simp
     ·have hd:eA (c::r)=c::r:=by unfold eA;simp[hc]
      have hs:qV (c::r)=1:=by unfold qV;simp[hc]
      rw[hd] at hv h h2
      rw[hs] at h
      have QL:=(Bx c).1 (by simp only[List.all_cons,aE] at h2;exact h2.1)
      have e1:(c==45)=false:=by simpa using hc
      have e2:(c==43)=false:=by
       have:c≠43:=λhe=>by rw[he] at QL;exact absurd QL.1 de
       simpa using this
      simp only[Lib.atoi,e1,e2,hv,Bool.false_eq_true,if_false,Option.map_some]
      rw[<-h];simp
   ·rw[iN h2] at h;cases h
def QM {s:aj} {z:Int} (h:numeral s=some z):s.length<=4:=by
 unfold numeral at h
 by_cases h0:s=[48]
 ·rw[h0];simp
 ·rw[iN h0] at h
  by_cases h1:(eA s).length<1∨3<(eA s).length∨(eA s).getD 0 0=48
  ·rw[iP h1] at h;cases h
  ·have:s.length<=(eA s).length+1:=by unfold eA;split<;>simp<;>omega
   omega
def aaK (s:aj):(decide (s=[48])||(decide (1<=(eA s).length)&&decide ((eA s).length<=3)&&(eA s).all il&&decide ((eA s).getD 0 0≠48)))=(numeral s).isSome:=by
 unfold numeral
 by_cases h0:s=[48]
 ·rw[iP h0,dT h0];rfl
 ·rw[iN h0,dF h0,Bool.false_or]
  by_cases h1:(eA s).length<1∨3<(eA s).length∨(eA s).getD 0 0=48
  ·rw[iP h1]
   rcases h1 with h|h|h
   ·rw[dF (p:=1<=(eA s).length) om];rfl
   ·rw[dF (p:=(eA s).length<=3) om];simp
   ·rw[dF (p:=(eA s).getD 0 0≠48) (λhh=>hh h)];simp
  ·rw[iN h1]
   rw[dT (p:=1<=(eA s).length) om,dT (p:=(eA s).length<=3) om,dT (p:=(eA s).getD 0 0≠48) (λhh=>h1 (.inr (.inr hh)))]
   cases h2:(eA s).all il<;>simp
def aaL (s:aj):((numeral s).isSome&&(decide (0<=(numeral s).getD 0)&&decide ((numeral s).getD 0<=39)))=uL s:=by
 unfold uL zI
 cases h:numeral s with
 |none=>simp
 |some n=>
  simp only[Option.isSome_some,Bool.true_and,Option.getD_some]
  rw[<-Bool.decide_and]
  exact decide_eq_decide.2 (by split<;>omega)
def aaM {s:aj} {k:Nat} (hk:k<s.length) (h:il (s.getD k 0)=false):s.all il=false:=by
 cases ha:s.all il with
 |false=>rfl
 |true=>
  have:=List.all_eq_true.1 ha (s.getD k 0) (by rw[gG,gE hk];exact List.getElem_mem hk)
  rw[h] at this;cases this
def aaN (s:aj):(decide (s=[48])||(decide ((1:Int)<=((eA s).length:Int))&&decide (((eA s).length:Int)<=3)&&(eA s).all il&&decide ((((eA s).getD 0 0).toNat:Int)≠48)))=(numeral s).isSome:=by
 rw[<-aaK,show decide ((1:Int)<=((eA s).length:Int))=decide (1<=(eA s).length) from decide_eq_decide.2 om,show decide (((eA s).length:Int)<=3)=decide ((eA s).length<=3) from decide_eq_decide.2 om,
  show decide ((((eA s).getD 0 0).toNat:Int)≠48)=decide ((eA s).getD 0 0≠48) from decide_eq_decide.2 (by
   have P8:(48:UInt8).toNat=48:=rfl
   constructor
   ·intro h h2;exact h (by rw[h2];rfl)
   ·intro h h2;exact h (UInt8.toNat_inj.1 om))]
def BG (ts:List aA) (g:aA->Bool):Int:=match ts.findIdx? g with
 |some i=>(i:Int)
 |none=> -1
def Fg {ts:List aA} {i:Nat} (h:i<ts.length):nth ts i=ts[i]:=by simp[nth,List.getD,gE h]
def aaO {ts:List aA} {g:aA->Bool} {k:Nat} (hk:k<ts.length) (h:∀i,i<k->g (nth ts i)=false) (hl:g (nth ts k)=true):BG ts g=(k:Int):=by
 have:ts.findIdx? g=some k:=by
  rw[List.findIdx?_eq_some_iff_getElem]
  refine⟨hk,by rw[<-Fg hk];exact hl,λj hj=>?_⟩
  have:=h j hj
  rw[Fg (Nat.lt_trans hj hk)] at this
  simpa using this
 unfold BG;rw[this]
def aaP {ts:List aA} {g:aA->Bool} (h:∀i,i<ts.length->g (nth ts i)=false):BG ts g= -1:=by
 have:ts.findIdx? g=none:=by
  rw[List.findIdx?_eq_none_iff]
  intro b hb
  obtain⟨i,hi,rfl⟩:=List.getElem_of_mem hb
  have:=h i hi
  rw[Fg hi] at this
  simpa using this
 unfold BG;rw[this]
def aaQ (ts:List aA) (g:aA->Bool):decide (0<=BG ts g)=ts.any g:=by
 unfold BG
 cases h:ts.findIdx? g with
 |none=>
  rw[List.findIdx?_eq_none_iff] at h
  have:ts.any g=false:=by rw[List.any_eq_false];intro x hx;simpa using h x hx
  rw[this];rfl
 |some i=>
  rw[List.findIdx?_eq_some_iff_getElem] at h
  obtain⟨hi,hg,_⟩:=h
  have:ts.any g=true:=List.any_eq_true.2 ⟨_,List.getElem_mem hi,hg⟩
  rw[this];exact dT (Int.natCast_nonneg i)
def ic (h:aj) (n:Nat):aj:=
 if h=[99,111,110,115,116] then[100,110]
 else if h=[109,111,118]∨h=[111,112,101,110] then[100,115]
 else if h=[97,100,100]∨h=[115,117,98]∨h=[109,117,108] then[100,115,115]
 else if h=[110,101,119] then[100]++List.replicate (n-2) 115
 else if h=[103,101,116] then[100,115,109]
 else if h=[108,97,98] then[100,108]
 else if h=[112,97,99,107] then[100,115,69,87]
 else if h=[122,101,114,111] then[115,108]
 else if h=[106,117,109,112]∨h=[104,97,108,116] then[115]
 else[]
def ie (z:Int) (t:aA):Bool:=
 if z=100∨z=115 then uL t.az else if z=110 then(numeral t.az).isSome
 else if z=109 then(numeral t.az).isSome&&decide (0<=(numeral t.az).getD 0)
 else if z=108 then nR t.az else if z=69 then(decide (t.au.length=2)&&decide (cJ t=[101]))&&fD false t
 else if z=87 then fD false t else false
def dJ (t:aA):Bool:=
 if ic (cJ t) t.au.length=[]∨t.au.length≠(ic (cJ t) t.au.length).length+1 then false
 else decide (∀i,i<(ic (cJ t) t.au.length).length->ie (((ic (cJ t) t.au.length).getD i 0).toNat:Int) (nth t.au (i+1))=true)
def HV {t:aA} (h:ic (cJ t) t.au.length=[]∨t.au.length≠(ic (cJ t) t.au.length).length+1):dJ t=false:=by
 unfold dJ;rw[iP h]
def aaR {t:aA} {i:Nat} (hi:i<(ic (cJ t) t.au.length).length) (h:ie (((ic (cJ t) t.au.length).getD i 0).toNat:Int) (nth t.au (i+1))=false):dJ t=false:=by
 unfold dJ;split
 ·rfl
 ·exact dF (λhh=>by have:=hh i hi;rw[h] at this;cases this)
def aaS {t:aA} (h:¬(ic (cJ t) t.au.length=[]∨t.au.length≠(ic (cJ t) t.au.length).length+1))
  (ha:∀i,i<(ic (cJ t) t.au.length).length->ie (((ic (cJ t) t.au.length).getD i 0).toNat:Int) (nth t.au (i+1))=true):dJ t=true:=by
 unfold dJ;rw[iN h,dT ha]
def shift {n:Nat} {P Q:Nat->Prop} (h:∀i,i<n->(P i↔Q (i+1))):(∀i,i<n->P i)↔(∀i,i<n+1->1<=i->Q i):=by
 constructor
 ·intro hp i hi h1
  have:=(h (i-1) om).1 (hp (i-1) om)
  rwa [show i-1+1=i from by omega] at this
 ·intro hq i hi
  exact(h i hi).2 (hq (i+1) om om)
def zR {t:aA} (σ τ:aj) (ex:Nat->aA->Bool) (h1:ic (cJ t) t.au.length=σ) (h2:shapeOf (cJ t)=τ) (hl:σ.length=τ.length) (eN:τ≠[]) (aaT:τ≠[114,42])
  (hp:∀i u,i<τ.length->ie ((σ.getD i 0).toNat:Int) u=(js ((τ.getD i 0).toNat:Int) u&&ex i u))
  (hx:t.au.length=τ.length+1->(decide (cJ t≠[103,101,116])||decide (0<=(numeral (nth t.au 3).az).getD 0))=decide (∀i,i<τ.length->ex i (nth t.au (i+1))=true)):dJ t=l4 t:=by
 have hτ:1<=τ.length:=List.length_pos_iff.2 eN
 have hσ:σ≠[]:=λh=>by rw[h] at hl;simp at hl;omega
 by_cases hn:t.au.length=τ.length+1
 ·unfold dJ l4 sA
  rw[h1,h2,iN (by rw[hl];rintro(h|h);exact hσ h;exact h hn),iN eN,hx hn]
  rw[iN (by rw[dF (p:=t.au.length≠τ.length+1) om,dF (p:=t.au.length<2) om];simp),<-Bool.decide_and,decide_eq_decide,hl,hn]
  rw[<-shift (P:=λi=>js ((τ.getD i 0).toNat:Int) (nth t.au (i+1))=true) (λi hi=>by
   unfold qo Dm
   rw[h2,show min (i+1) τ.length-1=i from by omega])]
  constructor
  ·intro h
   refine⟨λi hi=>?_,λi hi=>?_⟩<;>
   ·have:=h i hi
    rw[hp i _ hi,aE] at this
    first|exact this.1|exact this.2
  ·rintro⟨ha,hb⟩ i hi
   rw[hp i _ hi,ha i hi,hb i hi];rfl
 ·rw[HV (.inr (by rw[h1,hl];exact hn)),K0]
  unfold sA
  rw[h2,dT aaT,dT hn];rfl
def aaU (n:Nat) (u:Nat->aA):decide (∀i,i<n->(fun(_:Nat) (_:aA)=>true) i (u i)=true)=true:=dT (λ_ _=>rfl)
def aaV (u:aA):((decide (u.au.length=2)&&decide (cJ u=[101]))&&fD false u)=(decide (cJ u=[101])&&fD false u):=by
 by_cases he:cJ u=[101]
 ·rw[dT he,Bool.and_true,Bool.true_and]
  have ha:u.az=[]:=Classical.byContradiction λh=>by rw[Dj (.inl h)] at he;cases he
  rcases Nat.eq_zero_or_pos u.au.length with hz|hz
  ·rw[Dj (.inr (List.length_eq_zero_iff.1 hz))] at he;cases he
  ·have h0:=Fa ha (iK hz)
   rw[KX ha hz (by rw[<-h0];exact he),<-Bool.and_assoc,Bool.and_self]
 ·rw[dF he];simp
def QN {n:Nat} {P:Nat->Prop} (h:n<=4) (h0:P 0) (h1:2<=n->P 1) (h2:3<=n->P 2) (h3:4<=n->P 3):∀i,i<n->P i:=by
 intro i hi
 match i,hi with
 |0,_=>exact h0
 |1,hi=>exact h1 om
 |2,hi=>exact h2 om
 |3,hi=>exact h3 om
 |i+4,hi=>omega
def zS {σ τ:aj} {ex:Nat->aA->Bool} (hl:τ.length<=4) (h0:∀u,ie ((σ.getD 0 0).toNat:Int) u=(js ((τ.getD 0 0).toNat:Int) u&&ex 0 u)) (h1:∀u,2<=τ.length->ie ((σ.getD 1 0).toNat:Int) u=(js ((τ.getD 1 0).toNat:Int) u&&ex 1 u))
  (h2:∀u,3<=τ.length->ie ((σ.getD 2 0).toNat:Int) u=(js ((τ.getD 2 0).toNat:Int) u&&ex 2 u)) (h3:∀u,4<=τ.length->ie ((σ.getD 3 0).toNat:Int) u=(js ((τ.getD 3 0).toNat:Int) u&&ex 3 u)):
  ∀i u,i<τ.length->ie ((σ.getD i 0).toNat:Int) u=(js ((τ.getD i 0).toNat:Int) u&&ex i u):=λi u=>
 QN (P:=λi=>ie ((σ.getD i 0).toNat:Int) u=(js ((τ.getD i 0).toNat:Int) u&&ex i u)) hl (h0 u) (h1 u) (h2 u) (h3 u) i
def QO (u:aA):ie 100 u=uL u.az:=by simp[ie]
def QP (u:aA):ie 115 u=uL u.az:=by simp[ie]
def aaW (u:aA):ie 110 u=(numeral u.az).isSome:=by simp[ie]
def aaX (u:aA):ie 109 u=((numeral u.az).isSome&&decide (0<=(numeral u.az).getD 0)):=by simp[ie]
def aaY (u:aA):ie 108 u=nR u.az:=by simp[ie]
def aaZ (u:aA):ie 69 u=((decide (u.au.length=2)&&decide (cJ u=[101]))&&fD false u):=by simp[ie]
def aa0 (u:aA):ie 87 u=fD false u:=by simp[ie]
def K7 (u:aA):js 114 u=uL u.az:=by simp[js]
def aa1 (u:aA):js 42 u=uL u.az:=by simp[js]
def QQ (u:aA):js 110 u=(numeral u.az).isSome:=by simp[js]
def aa2 (u:aA):js 108 u=nR u.az:=by simp[js]
def aa3 (u:aA):js 101 u=(decide (cJ u=[101])&&fD false u):=by simp[js]
def aa4 (u:aA):js 119 u=fD false u:=by simp[js]
def Dt (u:aA):ie 100 u=(js 114 u&&true):=by rw[QO,K7,Bool.and_true]
def BH (u:aA):ie 115 u=(js 114 u&&true):=by rw[QP,K7,Bool.and_true]
def aa5 (u:aA):ie 110 u=(js 110 u&&true):=by rw[aaW,QQ,Bool.and_true]
def aa6 (u:aA):ie 109 u=(js 110 u&&decide (0<=(numeral u.az).getD 0)):=by rw[aaX,QQ]
def QR (u:aA):ie 108 u=(js 108 u&&true):=by rw[aaY,aa2,Bool.and_true]
def aa7 (u:aA):ie 69 u=(js 101 u&&true):=by rw[aaZ,aa3,Bool.and_true,aaV]
def aa8 (u:aA):ie 87 u=(js 119 u&&true):=by rw[aa0,aa4,Bool.and_true]
def aa9 {t:aA} (h:cJ t=[110,101,119]):dJ t=l4 t:=by
 have h1:ic (cJ t) t.au.length=[100]++List.replicate (t.au.length-2) 115:=by rw[h];rfl
 have h2:shapeOf (cJ t)=[114,42]:=by rw[h];rfl
 have hl:(ic (cJ t) t.au.length).length=t.au.length-2+1:=by rw[h1];simp
 by_cases hn:2<=t.au.length
 ·unfold dJ l4 sA
  rw[iN (by rw[hl];rintro(hh|hh);(·rw[h1] at hh;simp at hh);(·omega)),h2,iN de,
   iN (by rw[dF (p:=t.au.length<2) om];simp),dT (p:=cJ t≠[103,101,116]) (by rw[h];decide),Bool.true_or,Bool.and_true,decide_eq_decide,hl]
  rw[show(∀i,i<t.au.length->1<=i->qo t i=true)↔(∀i,i<(t.au.length-2+1)+1->1<=i->qo t i=true) from by rw[show t.au.length-2+1+1=t.au.length from by omega]]
  refine shift λi hi=>?_
  have e1:ie (((ic (cJ t) t.au.length).getD i 0).toNat:Int) (nth t.au (i+1))=uL (nth t.au (i+1)).az:=by
   rw[h1]
   cases i with
   |zero=>exact QO _
   |succ i=>
    have:([100]++List.replicate (t.au.length-2) (115:UInt8)).getD (i+1) 0=115:=by
     simp[List.getD,show i<t.au.length-2 from by omega]
    rw[this];exact QP _
  have e2:qo t (i+1)=uL (nth t.au (i+1)).az:=by
   unfold qo Dm
   rw[h2]
   cases i with
   |zero=>exact K7 _
   |succ i=>rw[show min (i+1+1) ([114,42]:aj).length-1=1 from by simp];exact aa1 _
  rw[e1,e2]
 ·rw[HV (.inr (by rw[hl];omega)),K0]
  unfold sA;rw[dT (p:=t.au.length<2) om,Bool.or_true]
def aba (t:aA):dJ t=l4 t:=by
 have nog:∀{τ:aj},cJ t≠[103,101,116]->(t.au.length=τ.length+1->(decide (cJ t≠[103,101,116])||decide (0<=(numeral (nth t.au 3).az).getD 0))=decide (∀i,i<τ.length->(fun(_:Nat) (_:aA)=>true) i (nth t.au (i+1))=true)):=by
  intro τ h _;rw[aaU _ (λi=>nth t.au (i+1)),dT h];rfl
 by_cases c1:cJ t=[99,111,110,115,116]
 ·exact zR [100,110] [114,110] (λ_ _=>true) (by rw[c1];rfl) (by rw[c1];rfl) rfl de de
   (zS de (λu=>Dt u) (λu _=>aa5 u) (λ_ h=>absurd h de) (λ_ h=>absurd h de)) (nog (by rw[c1];decide))
 by_cases c2:cJ t=[109,111,118]∨cJ t=[111,112,101,110]
 ·exact zR [100,115] [114,114] (λ_ _=>true) (by rcases c2 with c|c<;>rw[c]<;>rfl) (by rcases c2 with c|c<;>rw[c]<;>rfl) rfl de de
   (zS de (λu=>Dt u) (λu _=>BH u) (λ_ h=>absurd h de) (λ_ h=>absurd h de)) (nog (by rcases c2 with c|c<;>rw[c]<;>decide))
 by_cases c3:cJ t=[97,100,100]∨cJ t=[115,117,98]∨cJ t=[109,117,108]
 ·exact zR [100,115,115] [114,114,114] (λ_ _=>true) (by rcases c3 with c|c|c<;>rw[c]<;>rfl) (by rcases c3 with c|c|c<;>rw[c]<;>rfl) rfl de de
   (zS de (λu=>Dt u) (λu _=>BH u) (λu _=>BH u) (λ_ h=>absurd h de)) (nog (by rcases c3 with c|c|c<;>rw[c]<;>decide))
 by_cases c4:cJ t=[110,101,119]
 ·exact aa9 c4
 by_cases c5:cJ t=[103,101,116]
 ·refine zR [100,115,109] [114,114,110] (λi u=>if i=2 then decide (0<=(numeral u.az).getD 0) else true) (by rw[c5];rfl) (by rw[c5];rfl) rfl de de
   (zS de (λu=>Dt u) (λu _=>BH u) (λu _=>aa6 u) (λ_ h=>absurd h de)) (λ_=>?_)
  rw[show decide (cJ t≠[103,101,116])=false from dF (λh=>h c5),Bool.false_or]
  refine decide_eq_decide.2 ⟨λh=>QN de rfl (λ_=>rfl) (λ_=>by simpa using h) (λh=>by simp at h),λh=>by simpa using h 2 de⟩
 by_cases c6:cJ t=[108,97,98]
 ·exact zR [100,108] [114,108] (λ_ _=>true) (by rw[c6];rfl) (by rw[c6];rfl) rfl de de
   (zS de (λu=>Dt u) (λu _=>QR u) (λ_ h=>absurd h de) (λ_ h=>absurd h de)) (nog (by rw[c6];decide))
 by_cases c7:cJ t=[112,97,99,107]
 ·exact zR [100,115,69,87] [114,114,101,119] (λ_ _=>true) (by rw[c7];rfl) (by rw[c7];rfl) rfl de de
   (zS de (λu=>Dt u) (λu _=>BH u) (λu _=>aa7 u) (λu _=>aa8 u)) (nog (by rw[c7];decide))
 by_cases c8:cJ t=[122,101,114,111]
 ·exact zR [115,108] [114,108] (λ_ _=>true) (by rw[c8];rfl) (by rw[c8];rfl) rfl de de
   (zS de (λu=>BH u) (λu _=>QR u) (λ_ h=>absurd h de) (λ_ h=>absurd h de)) (nog (by rw[c8];decide))
 by_cases c9:cJ t=[106,117,109,112]∨cJ t=[104,97,108,116]
 ·exact zR [115] [114] (λ_ _=>true) (by rcases c9 with c|c<;>rw[c]<;>rfl) (by rcases c9 with c|c<;>rw[c]<;>rfl) rfl de de
   (zS de (λu=>BH u) (λ_ h=>absurd h de) (λ_ h=>absurd h de) (λ_ h=>absurd h de)) (nog (by rcases c9 with c|c<;>rw[c]<;>decide))
 ·have e1:ic (cJ t) t.au.length=[]:=by unfold ic;rw[iN c1,iN c2,iN c3,iN c4,iN c5,iN c6,iN c7,iN c8,iN c9]
  have e2:shapeOf (cJ t)=[]:=by unfold shapeOf;rw[iN c1,iN c2,iN c3,iN c4,iN c5,iN (λh=>by rcases h with h|h;exact c6 h;exact c8 h),iN c7,iN c9]
  rw[HV (.inl e1),Qr e2]
def abb (h:aj) (n:Nat):(ic h n).length<=n+4:=by
 unfold ic
 repeat' split
 all_goals simp
 all_goals omega
def QS {t:aA} (h:WF t):2<=t.size:=by
 cases h with
 |az a ha=>have:=List.length_pos_iff.2 ha;simp only[aA.size];omega
 |list ps hp hw=>
  cases ps with
  |nil=>exact absurd rfl hp
  |cons q r=>cases q;simp only[aA.size,aA.size.sizes];omega
def QT:∀{ps:List aA},(∀p,p∈ps->WF p)->2*ps.length<=aA.size.sizes ps
 |[],_=>by simp[aA.size.sizes]
 |q::ps,h=>by
  have h1:=QS (h q sm)
  have h2:=QT (ps:=ps) (λp hp=>h p (by simp[hp]))
  simp only[aA.size.sizes,lC];omega
def abc {t:aA} (h:WF t):2*t.au.length+1<=t.size:=by
 cases h with
 |az a ha=>simp[aA.au,aA.size];omega
 |list ps hp hw=>have:=QT hw;simp only[aA.au,aA.size];omega
def rV (t:aA):Bool:=decide (cJ t=[106,117,109,112])||decide (cJ t=[104,97,108,116])
def abd {t:aA} (h:l4 t=true):cJ t=(nth t.au 0).az:=by
 unfold l4 at h
 split at h
 ·cases h
 ·rename_i eN;exact(KZ eN).2.2
def abe {t:aA} (h:l4 t=true):HP t=rV t:=by
 unfold HP rV;rw[h,abd h];rfl
inductive Good:aA->Prop
 |az (a:aj) (h:a≠[]) (hb:a.all fC=true):Good (.mk a [])
 |list (ps:List aA) (h:ps≠[]) (hp:∀p,p∈ps->Good p):Good (.mk [] ps)
def Good.wf {t:aA} (h:Good t):WF t:=by
 induction h with
 |az a h _=>exact .az a h
 |list ps h _ ih=>exact .list ps h ih
def aA.depth:aA->Nat
 | .mk _ ps=>deeps ps
 where deeps:List aA->Nat
 |[]=>0
 |t::ts=>max (t.depth+1) (deeps ts)
def abf {ps:List aA}:∀{p:aA},p∈ps->p.depth+1<=aA.depth.deeps ps:=by
 induction ps with
 |nil=>intro p h;simp at h
 |cons q ps ih=>
  intro p h
  rcases mC.1 h with rfl|h
  ·simp only[aA.depth.deeps];omega
  ·have:=ih h;simp only[aA.depth.deeps];omega
def K8 {d:Nat}:∀{ps:List aA},(∀p,p∈ps->p.depth+1<=d)->aA.depth.deeps ps<=d
 |[],_=>by simp[aA.depth.deeps]
 |q::ps,h=>by
  have h1:=h q sm
  have h2:=K8 (ps:=ps) (λp hp=>h p (by simp[hp]))
  simp only[aA.depth.deeps];omega
def sE {a:aj} {ps:List aA} (h:a≠[]):(aA.mk a ps).text=a:=by simp[aA.text,h]
def rb (ps:List aA):(aA.mk [] ps).text=40::(mq ps++[41]):=by simp[aA.text]
def pL (t:aA):mq [t]=t.text:=by simp[mq]
def l6 (t u:aA) (r:List aA):mq (t::u::r)=t.text++32::mq (u::r):=by simp[mq]
def QU {rd:aj->Option (aA×aj)} (fu:∀s t r,rd s=some (t,r)->s=t.text++r):∀n s ts r,iT rd n s=some (ts,r)->ts≠[]∧s=mq ts++41::r
 |0,_,_,_,h=>by simp[iT] at h
 |n+1,s,ts,r,h=>by
  unfold iT at h
  cases hr:rd s with
  |none=>simp[hr] at h
  |some q=>
   obtain⟨t,r1⟩:=q
   have ht:=fu s t r1 hr
   simp only[hr] at h
   cases r1 with
   |nil=>simp at h
   |cons c r'=>
    simp only at h
    by_cases h1:c=41
    ·rw[iP h1] at h
     simp at h
     obtain⟨rfl,rfl⟩:=h
     exact⟨by simp,by rw[ht,h1,pL]⟩
    ·rw[iN h1] at h
     by_cases h2:c=32
     ·rw[iP h2] at h
      cases hp:iT rd n r' with
      |none=>simp[hp] at h
      |some q=>
       obtain⟨ts',r''⟩:=q
       simp[hp] at h
       obtain⟨rfl,rfl⟩:=h
       obtain⟨h4,h5⟩:=QU fu n r' ts' r'' hp
       cases ts' with
       |nil=>exact absurd rfl h4
       |cons u us=>exact⟨by simp,by rw[ht,h2,l6,h5];simp⟩
     ·rw[iN h2] at h;cases h
def abg:∀d s t r,fc d s=some (t,r)->s=t.text++r:=by
 have leaf:∀(s:aj) (t:aA) (r:aj),(if s.takeWhile fC=[] then none else some (aA.mk (s.takeWhile fC) [],s.dropWhile fC))=some (t,r)->s=t.text++r:=by
  intro s t r h
  split at h
  ·cases h
  ·rename_i hn
   simp only[Option.some.injEq,Prod.mk.injEq] at h
   rw[<-h.1,<-h.2,sE hn,List.takeWhile_append_dropWhile]
 intro d
 induction d with
 |zero=>
  intro s t r h
  cases s with
  |nil=>simp[fc] at h
  |cons c s=>
   simp only[fc] at h
   by_cases h1:c=40
   ·rw[iP h1] at h;cases h
   ·rw[iN h1] at h;exact leaf _ _ _ h
 |succ d ih=>
  intro s t r h
  cases s with
  |nil=>simp[fc] at h
  |cons c s=>
   simp only[fc] at h
   by_cases h1:c=40
   ·rw[iP h1] at h
    cases hp:iT (fc d) (s.length+1) s with
    |none=>simp[hp] at h
    |some q=>
     obtain⟨ts',r''⟩:=q
     simp[hp] at h
     obtain⟨h3,h4⟩:=QU ih _ _ _ _ hp
     rw[<-h.1,<-h.2,rb,h1,h4];simp
   ·rw[iN h1] at h;exact leaf _ _ _ h
def QV {rd:aj->Option (aA×aj)} (d:Nat) (fu:∀s t r,rd s=some (t,r)->Good t∧t.depth<=d):∀n s ts r,iT rd n s=some (ts,r)->ts≠[]∧∀p,p∈ts->Good p∧p.depth<=d
 |0,_,_,_,h=>by simp[iT] at h
 |n+1,s,ts,r,h=>by
  unfold iT at h
  cases hr:rd s with
  |none=>simp[hr] at h
  |some q=>
   obtain⟨t,r1⟩:=q
   have ht:=fu s t r1 hr
   simp only[hr] at h
   cases r1 with
   |nil=>simp at h
   |cons c r'=>
    simp only at h
    by_cases h1:c=41
    ·rw[iP h1] at h
     simp at h
     obtain⟨rfl,_⟩:=h
     exact⟨by simp,by intro p hp;simp at hp;subst hp;exact ht⟩
    ·rw[iN h1] at h
     by_cases h2:c=32
     ·rw[iP h2] at h
      cases hp:iT rd n r' with
      |none=>simp[hp] at h
      |some q=>
       obtain⟨ts',r''⟩:=q
       simp[hp] at h
       obtain⟨rfl,_⟩:=h
       obtain⟨_,h4⟩:=QV d fu n r' ts' r'' hp
       exact⟨by simp,by intro p hp;rcases mC.1 hp with rfl|hp;exact ht;exact h4 p hp⟩
     ·rw[iN h2] at h;cases h
def all_takeWhile (p:UInt8->Bool):∀s:aj,(s.takeWhile p).all p=true
 |[]=>rfl
 |c::s=>by
  by_cases h:p c=true
  ·simp only[List.takeWhile,h,List.all_cons,all_takeWhile p s];rfl
  ·simp[List.takeWhile,h]
def abh:∀d s t r,fc d s=some (t,r)->Good t∧t.depth<=d:=by
 have leaf:∀(d:Nat) (s:aj) (t:aA) (r:aj),(if s.takeWhile fC=[] then none else some (aA.mk (s.takeWhile fC) [],s.dropWhile fC))=some (t,r)->Good t∧t.depth<=d:=by
  intro d s t r h
  split at h
  ·cases h
  ·rename_i hn
   simp only[Option.some.injEq,Prod.mk.injEq] at h
   rw[<-h.1];exact⟨.az _ hn (all_takeWhile _ _),by simp[aA.depth,aA.depth.deeps]⟩
 intro d
 induction d with
 |zero=>
  intro s t r h
  cases s with
  |nil=>simp[fc] at h
  |cons c s=>
   simp only[fc] at h
   by_cases h1:c=40
   ·rw[iP h1] at h;cases h
   ·rw[iN h1] at h;exact leaf _ _ _ _ h
 |succ d ih=>
  intro s t r h
  cases s with
  |nil=>simp[fc] at h
  |cons c s=>
   simp only[fc] at h
   by_cases h1:c=40
   ·rw[iP h1] at h
    cases hp:iT (fc d) (s.length+1) s with
    |none=>simp[hp] at h
    |some q=>
     obtain⟨ts',r''⟩:=q
     simp[hp] at h
     obtain⟨h3,h4⟩:=QV d ih _ _ _ _ hp
     rw[<-h.1]
     exact⟨.list _ h3 (λp hp=>(h4 p hp).1),K8 (λp hp=>by have:=(h4 p hp).2;omega)⟩
   ·rw[iN h1] at h;exact leaf _ _ _ _ h
def Stop (r:aj):Prop:=∀c,r[0]?=some c->fC c=false
def K9 {p:UInt8->Bool}:∀{a r:aj},a.all p=true->(∀c,r[0]?=some c->p c=false)->(a++r).takeWhile p=a∧(a++r).dropWhile p=r
 |[],[],_,_=>⟨rfl,rfl⟩
 |[],c::r,_,h=>by have:=h c rfl;simp[this]
 |c::a,r,ha,h=>by
  simp only[List.all_cons,aE] at ha
  obtain⟨h1,h2⟩:=K9 (a:=a) ha.2 h
  simp[ha.1,h1,h2]
def QW {t:aA} (h:Good t):∃c r,t.text=c::r:=by
 cases h with
 |az a ha _=>
  rw[sE ha]
  cases a with
  |nil=>exact absurd rfl ha
  |cons c r=>exact⟨c,r,rfl⟩
 |list ps _ _=>exact⟨_,_,rb ps⟩
def QX {rd:aj->Option (aA×aj)}:∀(ts:List aA) (n:Nat) (r:aj),ts≠[]->ts.length<=n->(∀t,t∈ts->∀r,Stop r->rd (t.text++r)=some (t,r))->iT rd n (mq ts++41::r)=some (ts,r)
 |[],_,_,h,_,_=>absurd rfl h
 |[t],n,r,_,hn,h=>by
  cases n with
  |zero=>simp at hn
  |succ n=>
   unfold iT
   rw[pL,h t sm (41::r) (by intro c hc;simp at hc;subst hc;decide)]
   simp
 |t::u::us,n,r,_,hn,h=>by
  cases n with
  |zero=>simp at hn
  |succ n=>
   unfold iT
   rw[l6,List.append_assoc,List.cons_append,h t sm (32::(mq (u::us)++41::r)) (by intro c hc;simp at hc;subst hc;decide)]
   have:=QX (rd:=rd) (u::us) n r sm (by simp at hn⊢;omega) (λt ht=>h t (by simp at ht⊢;exact .inr ht))
   simp[this]
def QY:∀ts:List aA,(∀t,t∈ts->Good t)->ts.length<=(mq ts).length
 |[],_=>by simp
 |[t],h=>by obtain⟨c,r,e⟩:=QW (h t sm);rw[pL,e];simp
 |t::u::us,h=>by
  have:=QY (u::us) (λt ht=>h t (by simp at ht⊢;exact .inr ht))
  rw[l6];simp at this⊢;omega
def La:∀(d:Nat) (t:aA) (r:aj),Good t->t.depth<=d->Stop r->fc d (t.text++r)=some (t,r):=by
 intro d
 induction d with
 |zero=>
  intro t r hg hd hr
  cases hg with
  |az a ha hb=>
   obtain⟨c,a',rfl⟩:∃c a',a=c::a':=by cases a with|nil=>exact absurd rfl ha|cons c r=>exact⟨c,r,rfl⟩
   rw[sE ha,List.cons_append,EY 0 c _ (by rintro rfl;simp at hb;exact absurd hb.1 de)]
   obtain⟨h1,h2⟩:=K9 hb hr
   rw[List.cons_append] at h1 h2
   rw[h1,h2,iN sm]
  |list ps hp hw=>
   cases ps with
   |nil=>exact absurd rfl hp
   |cons q ps=>simp[aA.depth,aA.depth.deeps] at hd
 |succ d ih=>
  intro t r hg hd hr
  cases hg with
  |az a ha hb=>
   obtain⟨c,a',rfl⟩:∃c a',a=c::a':=by cases a with|nil=>exact absurd rfl ha|cons c r=>exact⟨c,r,rfl⟩
   rw[sE ha,List.cons_append,EY (d+1) c _ (by rintro rfl;simp at hb;exact absurd hb.1 de)]
   obtain⟨h1,h2⟩:=K9 hb hr
   rw[List.cons_append] at h1 h2
   rw[h1,h2,iN sm]
  |list ps hp hw=>
   rw[rb,List.cons_append,Da]
   have:=QX (rd:=fc d) ps ((mq ps++[41]++r).length+1) r hp (by have:=QY ps hw;simp at this⊢;omega)
    (λt ht r hr=>ih t r (hw t ht) (by have:=abf ht;simp only[aA.depth] at hd;omega) hr)
   unfold mQ
   rw[show rT (d+1)=fc d from funext λ_=>rfl]
   rw[show mq ps++[41]++r=mq ps++41::r from by simp] at this⊢
   rw[this];rfl
def Lb {t u:aA} (h:Good t) (k:Good u) (e:t.text=u.text):t=u:=by
 have h1:=La (max t.depth u.depth) t [] h om (by intro c hc;simp at hc)
 have h2:=La (max t.depth u.depth) u [] k om (by intro c hc;simp at hc)
 rw[e,h2] at h1
 simp at h1;exact h1.symm
def BI {s:aj} {t:aA} (h:ba s=some t):Good t∧t.depth<=60∧t.text=s∧s.length<=12000:=by
 have hs:=KV h
 unfold ba at h
 split at h
 ·cases h
 ·cases hr:fc 60 s with
  |none=>rw[hr] at h;cases h
  |some q=>
   obtain⟨t',r⟩:=q
   rw[hr] at h
   cases r with
   |nil=>
    simp at h;subst h
    have h1:=abh _ _ _ _ hr
    have h2:=abg _ _ _ _ hr
    exact⟨h1.1,h1.2,by rw[h2];simp,hs⟩
   |cons c r=>cases h
def abi {t:aA} (h:Good t):ba t.text=if t.depth<=60∧t.text.length<=12000 then some t else none:=by
 split
 ·rename_i hc
  unfold ba
  have:=La 60 t [] h hc.1 (by intro c hc;simp at hc)
  rw[List.append_nil] at this
  rw[iN om,this]
 ·rename_i hc
  cases hp:ba t.text with
  |none=>rfl
  |some u=>
   obtain⟨h1,h2,h3,h4⟩:=BI hp
   have:=Lb h1 h h3
   subst this
   exact absurd ⟨h2,h4⟩ hc
def Lc {t:aA} (h:Good t) (hd:t.depth<=60) (hl:t.text.length<=12000):ba t.text=some t:=by rw[abi h,iP ⟨hd,hl⟩]
structure gB where
 aP:aj
 regs:List aA
 code:List aA
def tr (s:aj):aA:=(ba s).getD (.mk [] [])
def QZ {s:aj} {t:aA} (h:ba s=some t):tr s=t:=by unfold tr;rw[h];rfl
def fV (b:Bk):gB:=⟨b.aP,b.cP.map tr,b.code.map tr⟩
def zT (b:Bk):Bool:=decide (b.aP.length<=12000)
def oG (b:Bk):Bool:=oD b&&zT b
def tH (bs:List Bk):Bool:=jN bs&&bs.all zT
def cg (a:aj):aA:=.mk a []
def wh (h:aj) (ts:List aA):aA:=.mk [] (cg h::ts)
def pM (ps:List aj):aj:=ps.flatMap λp=>32::p
def bO (h:aj) (ps:List aj):aj:=40::(h++pM ps++[41])
def Q0 (t:aA):∀ts:List aA,mq (t::ts)=t.text++pM (ts.map aA.text)
 |[]=>by rw[pL];simp[pM]
 |u::us=>by rw[l6,Q0 u us];simp[pM]
def Q1 {h:aj} (hh:h≠[]) (ts:List aA):(wh h ts).text=bO h (ts.map aA.text):=by
 unfold wh bO
 rw[rb,Q0];simp[cg,sE hh]
def abj {h:aj} (h1:h≠[]) (h2:h.all fC=true) {ts:List aA} (hp:∀t,t∈ts->Good t):Good (wh h ts):=by
 refine .list _ sm λp Du=>?_
 rcases mC.1 Du with rfl|Du
 ·exact .az _ h1 h2
 ·exact hp p Du
def abk {b:Bk} (h:oD b=true):nR b.aP=true∧(∀s,s∈b.cP->∃t,ba s=some t∧fD false t=true)∧∀s,s∈b.code->∃t,ba s=some t∧l4 t=true:=by
 unfold oD at h
 simp only[aE,dE] at h
 obtain⟨⟨⟨⟨h1,_⟩,_⟩,h2⟩,h3⟩:=h
 refine⟨h1,λs hs=>?_,λs hs=>?_⟩
 ·obtain⟨i,hi,rfl⟩:=List.getElem_of_mem hs
  have:=h2 i hi
  rw[aD,gG,gE hi] at this
  simp only[Option.getD_some] at this
  unfold rQ seen at this
  cases hp:ba b.cP[i] with
  |none=>rw[hp] at this;cases this
  |some t=>rw[hp] at this;exact⟨t,rfl,this⟩
 ·obtain⟨i,hi,rfl⟩:=List.getElem_of_mem hs
  have:=h3 i hi
  unfold sD at this
  rw[aE] at this
  have:=this.1
  rw[aD,gG,gE hi] at this
  simp only[Option.getD_some] at this
  unfold bH seen at this
  cases hp:ba b.code[i] with
  |none=>rw[hp] at this;cases this
  |some t=>rw[hp] at this;exact⟨t,rfl,this⟩
def Ld {bs:List Bk} (h:jN bs=true):∀b,b∈bs->oD b=true:=by
 intro b hb
 obtain⟨i,hi,rfl⟩:=List.getElem_of_mem hb
 unfold jN at h
 simp only[aE,dE] at h
 have:=(h.1 i hi).1
 rw[bB,gG,gE hi] at this
 exact this
def abl:List aA->aj
 |[]=>[]
 |h::_=>h.az
mutual
def Fh (y:aA):aA->aA
 | .mk a ps=>if a=[118] then y else if a≠[]∨abl ps=[101] then .mk a ps else .mk [] (Q2 y ps)
def Q2 (y:aA):List aA->List aA
 |[]=>[]
 |t::ts=>Fh y t::Q2 y ts
end
/-! ### States -/
abbrev TS:=List (Option aA)
def abm (a:aj):Nat:=(zI a).toNat
def abn (st:TS) (a:aj):Option aA:=st.getD (abm a) none
def bf (n:Nat):aj:=if n<10 then[UInt8.ofNat (48+n)] else bf (n/10)++[UInt8.ofNat (48+n%10)]
 termination_by n
def Dl (st:TS):List aA->Option (List aA)
 |[]=>some []
 |u::us=>(abn st u.az).bind λx=>(Dl st us).map λxs=>x::xs
def abo {s:aj} (h:Lib.hasPrefix s [40]=true):∃r,s=40::r:=by
 cases s with
 |nil=>simp[Lib.hasPrefix,List.isPrefixOf] at h
 |cons c r=>simp[Lib.hasPrefix,List.isPrefixOf] at h;exact⟨r,by rw[h]⟩
def abp {s:aj} (h:Lib.hasPrefix s [40]=false):∀c r,s=c::r->c≠40:=by
 rintro c r rfl rfl
 simp[Lib.hasPrefix,List.isPrefixOf] at h
def abq {s:aj} (h:Lib.hasPrefix s [40]=false) (d:Nat):fc d s=if s.takeWhile fC=[] then none else some (.mk (s.takeWhile fC) [],s.dropWhile fC):=by
 cases s with
 |nil=>rw[PE];simp
 |cons c r=>rw[EY d c r (abp h c r rfl)]
def abr {d:Nat} {s:aj} (h:fc d s=none):mQ (d+1) s=none:=by rw[EX];show(match fc d s with|none=>none|some (t,r)=>_)=none;rw[h]
def abt {d:Nat} {s:aj} {t:aA} (h:fc d s=some (t,[])):mQ (d+1) s=none:=by rw[EX];show(match fc d s with|none=>none|some (t,r)=>_)=none;rw[h]
def Q3 {d:Nat} {s:aj} {t:aA} {c:UInt8} {r:aj} (h:fc d s=some (t,c::r)):mQ (d+1) s=if c=41 then some ([t],r) else if c=32 then(mQ (d+1) r).map λp=>(t::p.1,p.2) else none:=by
 rw[EX];show(match fc d s with|none=>none|some (t,r)=>_)=_;rw[h]
def Le {s:aj} {k:Nat}:(s.drop k).take (s.length-k)=s.drop k:=List.take_of_length_le sm
def HW {c:UInt8} {k:Nat} (hk:k<256):decide ((c.toNat:Int)≠(k:Int))=decide (c≠UInt8.ofNat k):=decide_eq_decide.2 (by
 have e:(UInt8.ofNat k).toNat=k:=by simp;omega
 constructor
 ·intro h h2;rw[h2,e] at h;exact h rfl
 ·intro h h2;exact h (UInt8.toNat_inj.1 (by rw[e];omega)))
def BJ (d:Nat) (s:aj) (t:aA) (r:aj) (ok:Bool):Prop:=(fc d s=some (t,r)∧ok=true)∨(fc d s=none∧ok=false)
def BJ.le {d:Nat} {s r:aj} {t:aA} {ok:Bool} (h:BJ d s t r ok) (ho:ok=true):fc d s=some (t,r)∧r.length<s.length:=by
 rcases h with⟨h,_⟩|⟨_,h⟩
 ·obtain⟨k,h1,h2,rfl⟩:=HC d s t r h
  exact⟨h,by simp;omega⟩
 ·rw[ho] at h;cases h
def abu {d:Nat} {s r:aj} {t:aA} {ok:Bool} (hm:BJ d s t r ok) (h:((!ok||decide (r=[]))||(decide (((r.getD 0 0).toNat:Int)≠32)&&decide (((r.getD 0 0).toNat:Int)≠41)))=true):mQ (d+1) s=none:=by
 rcases hm with⟨hr,rfl⟩|⟨hr,rfl⟩
 ·cases r with
  |nil=>exact abt hr
  |cons c r=>
   rw[Q3 hr]
   simp only[Bool.not_true,Bool.false_or,List.getD_cons_zero,show decide (c::r=[])=false from by simp] at h
   rw[show(32:Int)=((32:Nat):Int) from rfl,show(41:Int)=((41:Nat):Int) from rfl,HW de,HW de,aE] at h
   have h1:¬c=32:=of_decide_eq_true h.1
   have h2:¬c=41:=of_decide_eq_true h.2
   rw[iN h2,iN h1]
 ·exact abr hr
def abv {d:Nat} {s r:aj} {t:aA} {ok:Bool} (hm:BJ d s t r ok) (h:((!ok||decide (r=[]))||(decide (((r.getD 0 0).toNat:Int)≠32)&&decide (((r.getD 0 0).toNat:Int)≠41)))=false):
  0<r.length∧r.length<s.length∧mQ (d+1) s=if r.getD 0 0=41 then some ([t],r.drop 1) else(mQ (d+1) (r.drop 1)).map λp=>(t::p.1,p.2):=by
 simp only[Bool.or_eq_false_iff,Bool.not_eq_false',decide_eq_false_iff_not] at h
 obtain⟨⟨h1,h2⟩,h3⟩:=h
 obtain⟨hr,hl⟩:=hm.le h1
 cases r with
 |nil=>exact absurd rfl h2
 |cons c r=>
  refine⟨by simp,hl,?_⟩
  rw[Q3 hr]
  simp only[List.getD_cons_zero,List.drop_one,List.tail_cons] at h3⊢
  by_cases Fi:c=41
  ·rw[iP Fi,iP Fi]
  ·rw[iN Fi,iN Fi]
   rw[show(32:Int)=((32:Nat):Int) from rfl,show(41:Int)=((41:Nat):Int) from rfl,HW de,HW de,Bool.and_eq_false_iff] at h3
   rcases h3 with h3|h3
   ·rw[iP (by simpa using h3)]
   ·exact absurd (by simpa using h3) Fi
def abw {s r:aj} {t:aA} {ok:Bool} (hl:s.length<=12000) (hm:BJ 60 s t r ok):(ok&&decide (r=[]))=(ba s).isSome∧∀t',ba s=some t'->t=t':=by
 unfold ba
 rw[iN om]
 rcases hm with⟨hr,rfl⟩|⟨hr,rfl⟩
 ·rw[hr]
  cases r with
  |nil=>simp
  |cons c r=>simp
 ·rw[hr];simp
def abx {b:Bk} {n1 n2:Nat} (h1:n1=b.cP.length) (h2:n2=b.code.length)
  (h:(((!nR b.aP||decide ((12000:Int)<(b.aP.length:Int)))||decide ((40:Int)<(n1:Int)))||!(decide ((1:Int)<=(n2:Int))&&decide ((n2:Int)<=80)))=true):oG b=false:=by
 subst h1 h2
 unfold oG zT
 by_cases hs:b.aP.length<=12000
 ·rw[dT hs,Bool.and_true]
  refine Qx ?_
  rw[dF (p:=(12000:Int)<(b.aP.length:Int)) om,Bool.or_false,HT rfl rfl] at h
  exact Qk h
 ·rw[dF hs,Bool.and_false]
def aby {b:Bk} {n1 n2:Nat} (h1:n1=b.cP.length) (h2:n2=b.code.length)
  (h:(((!nR b.aP||decide ((12000:Int)<(b.aP.length:Int)))||decide ((40:Int)<(n1:Int)))||!(decide ((1:Int)<=(n2:Int))&&decide ((n2:Int)<=80)))=false):
  (nR b.aP&&decide (b.cP.length<=40)&&(decide (1<=b.code.length)&&decide (b.code.length<=80)))=true∧zT b=true:=by
 subst h1 h2
 have hs:zT b=true:=by
  unfold zT
  simp only[Bool.or_eq_false_iff,decide_eq_false_iff_not] at h
  exact dT om
 refine⟨?_,hs⟩
 have zU:¬(12000:Int)<(b.aP.length:Int):=by have:=of_decide_eq_true hs;omega
 rw[dF zU,Bool.or_false,HT rfl rfl] at h
 exact Qj h
def abz {b:Bk} {i:Nat} (hi:i<b.cP.length) (h:rQ (aD b.cP i)=false):oG b=false:=by
 unfold oG;rw[Qy hi h];rfl
def abA {b:Bk} {i:Nat} (hi:i<b.code.length) (h:sD b.code i=false):oG b=false:=by
 unfold oG;rw[Qz hi h];rfl
def abB {s:aj} {t:aA} (h:rQ s=true) (ht:∀t',ba s=some t'->t=t'):t=tr s:=by
 unfold rQ seen at h
 cases hp:ba s with
 |none=>rw[hp] at h;cases h
 |some t'=>rw[QZ hp];exact ht t' hp
def Q4 {code:List aj} {i n:Nat} {t:aA} (hn:n=code.length) (hi:i<n) (ht:∀t',ba (aD code i)=some t'->t=t'):
  ((!(ba (aD code i)).isSome||!dJ t)||(rV t !=decide ((i:Int)=(n:Int)-1)))=!sD code i:=by
 rw[<-K3 hn hi,aba]
 unfold bH jt seen
 cases hp:ba (aD code i) with
 |none=>simp
 |some t'=>
  have:=ht t' hp
  subst this
  simp only[Option.isSome_some,Bool.not_true,Bool.false_or]
  cases hI:l4 t with
  |false=>simp
  |true=>rw[abe hI]
def abC {code:List aj} {i:Nat} {t:aA} (h:sD code i=true) (ht:∀t',ba (aD code i)=some t'->t=t'):t=tr (aD code i):=by
 unfold sD at h
 rw[aE] at h
 have h:=h.1
 unfold bH seen at h
 cases hp:ba (aD code i) with
 |none=>rw[hp] at h;cases h
 |some t'=>rw[QZ hp];exact ht t' hp
def Lf {α β:Type} (f:α->β) {xs:List α} {i:Nat} {x:α} (h:xs[i]?=some x):(xs.take i).map f++[f x]=(xs.take (i+1)).map f:=by
 obtain⟨hl,he⟩:=List.getElem?_eq_some_iff.1 h
 rw[List.take_succ_eq_append_getElem hl,List.map_append,he];rfl
def Lg {α β:Type} (f:α->β) {xs:List α} {i:Nat} (h:xs.length<=i):(xs.take i).map f=xs.map f:=by rw[List.take_of_length_le h]
def HX {α β:Type} (f:α->β) {xs:List α} {i:Nat} (h:i<=xs.length):((xs.take i).map f).length=i:=by simp;omega
def Dv {s:aj} {t:aA} (ht:∀t',ba s=some t'->t=t') (h:(ba s).isSome=true):WF t∧t.size<=12001:=by
 obtain⟨t',hp⟩:=Option.isSome_iff_exists.1 h
 rw[ht t' hp];exact⟨tF hp,Bz hp⟩
def zV (ps:List gB) (l:aj):Int:=match ps.findIdx? (λb=>decide (b.aP=l)) with
 |some i=>(i:Int)
 |none=> -1
abbrev wi (ps:List gB) (i:Nat):gB:=ps.getD i ⟨[],[],[]⟩
def Q5 {ps:List gB} {i:Nat} (h:i<ps.length):ps[i]?=some (wi ps i):=by simp[gE h]
def Fj (ps:List gB) (g:gB->Bool):Int:=match ps.findIdx? g with
 |some i=>(i:Int)
 |none=> -1
def Lh {ps:List gB} {i:Nat} (h:i<ps.length):wi ps i=ps[i]:=by simp[gE h]
def abD {ts:List gB} {g:gB->Bool} {k:Nat} (hk:k<ts.length) (h:∀i,i<k->g (wi ts i)=false) (hl:g (wi ts k)=true):Fj ts g=(k:Int):=by
 have:ts.findIdx? g=some k:=by
  rw[List.findIdx?_eq_some_iff_getElem]
  refine⟨hk,by rw[<-Lh hk];exact hl,λj hj=>?_⟩
  have:=h j hj
  rw[Lh (Nat.lt_trans hj hk)] at this
  simpa using this
 unfold Fj;rw[this]
def abE {ts:List gB} {g:gB->Bool} (h:∀i,i<ts.length->g (wi ts i)=false):Fj ts g= -1:=by
 have:ts.findIdx? g=none:=by
  rw[List.findIdx?_eq_none_iff]
  intro b hb
  obtain⟨i,hi,rfl⟩:=List.getElem_of_mem hb
  have:=h i hi
  rw[Lh hi] at this
  simpa using this
 unfold Fj;rw[this]
def abF {bs:List Bk} {i:Nat} (h:i<bs.length):bB bs i=bs[i]:=by simp[gE h]
def Q6 {bs:List Bk} {k:Nat} (hk:k<bs.length):decide ((0:Int)<=zV ((bs.take k).map fV) (bB bs k).aP)=decide (kc bs (bB bs k).aP≠(k:Int)):=by
 refine decide_eq_decide.2 ?_
 by_cases hex:∃j,j<k∧(bB bs j).aP=(bB bs k).aP
 ·obtain⟨j,hj,hl⟩:=hex
  have h1:kc bs (bB bs k).aP≠k:=by
   intro h
   unfold kc at h
   cases hf:bs.findIdx? (λb=>decide (b.aP=(bB bs k).aP)) with
   |none=>rw[hf] at h;simp at h
   |some i=>
    rw[hf] at h
    have uH:i=k:=Int.ofNat.inj h
    subst uH
    rw[List.findIdx?_eq_some_iff_getElem] at hf
    obtain⟨_,_,dA⟩:=hf
    have:=dA j hj
    rw[<-abF] at this
    simp only[dE] at this
    exact this hl
  have h2:0<=zV ((bs.take k).map fV) (bB bs k).aP:=by
   unfold zV
   cases hf:((bs.take k).map fV).findIdx? (λb=>decide (b.aP=(bB bs k).aP)) with
   |some i=>simp
   |none=>
    rw[List.findIdx?_eq_none_iff] at hf
    have:=hf (fV (bB bs j)) (List.mem_map.2 ⟨bB bs j,by rw[List.mem_take_iff_getElem];exact⟨j,om,by simp[gE (show j<bs.length by omega)]⟩,rfl⟩)
    exact absurd hl (of_decide_eq_false this)
  exact⟨λ_=>h1,λ_=>h2⟩
 ·have h1:kc bs (bB bs k).aP=k:=Qw hk (λj hj hl=>hex ⟨j,hj,hl⟩) rfl
  have h2:zV ((bs.take k).map fV) (bB bs k).aP= -1:=by
   unfold zV
   have:((bs.take k).map fV).findIdx? (λb=>decide (b.aP=(bB bs k).aP))=none:=by
    rw[List.findIdx?_eq_none_iff]
    intro x hx
    obtain⟨b,hb,rfl⟩:=List.mem_map.1 hx
    obtain⟨j,hj,rfl⟩:=List.mem_take_iff_getElem.1 hb
    refine dF λhl=>hex ⟨j,om,?_⟩
    rw[bB,gG,gE om]
    exact hl
   rw[this]
  rw[h1,h2];constructor
  ·intro h;omega
  ·intro h;exact absurd rfl h
def abG {bs:List Bk} {i:Nat} (hi:i<bs.length) (h:oG (bB bs i)=false∨kc bs (bB bs i).aP≠i):tH bs=false:=by
 unfold tH
 cases hp:jN bs with
 |false=>rfl
 |true=>
  rw[Bool.true_and]
  rcases h with h|h
  ·have hm:bB bs i∈bs:=List.mem_of_getElem? (sC hi)
   have hb:=Ld hp _ hm
   unfold oG at h
   rw[hb,Bool.true_and] at h
   exact List.all_eq_false.2 ⟨_,hm,by rw[h];decide⟩
  ·rw[QB hi (λhh=>h hh.2)] at hp;cases hp
def abH {bs:List Bk} (h:∀i,i<bs.length->oG (bB bs i)=true∧kc bs (bB bs i).aP=i):
  tH bs=(decide (1<=bs.length)&&decide (bs.length<=40)&&decide ((bB bs 0).aP=[109,97,105,110])&&decide ((bB bs 0).cP.length=0)):=by
 unfold tH
 rw[QC (λi hi=>⟨by have:=(h i hi).1;unfold oG at this;rw[aE] at this;exact this.1,(h i hi).2⟩),show bs.all zT=true from ?_,Bool.and_true]
 refine List.all_eq_true.2 λb hb=>?_
 obtain⟨i,hi,rfl⟩:=List.getElem_of_mem hb
 have:=(h i hi).1
 unfold oG at this
 rw[aE] at this
 rw[bB,gG,gE hi] at this
 exact this.2
def abI {bs:List Bk} (h:¬(1<=bs.length∧bs.length<=40)):tH bs=false:=by
 unfold tH jN
 by_cases h1:1<=bs.length
 ·rw[dF (p:=bs.length<=40) (λh2=>h ⟨h1,h2⟩)];simp
 ·rw[dF h1];simp
def gB.enc (b:gB):List C:=[.val (str b.aP),.sl 2 (dH b.regs),.sl 2 (dH b.code)]
def nT (L:List Nat) (w:World) (v:Value) (b:gB):Prop:=kD L w v b.enc
def nT.ext {L:List Nat} {w w':World} {v:Value} {b:gB} (h:nT L w v b) (k:ak [] w w'):nT L w' v b:=kD.ext h k
def nT.grow {L:List Nat} {w:World} {v:Value} {b:gB} (h:nT L w v b):nT (w.heap.size::L) w v b:=kD.fresh h zq
def nT.aL {L L':List Nat} {w w':World} {v:Value} {b:gB} (h:nT L w v b) (k:ak L' w w') (hL:∀x,x∈L'->x∈L):nT L w' v b:=kD.aO h (k.mono hL)
def nT.jk {L L':List Nat} {w:World} {v:Value} {b:gB} (h:nT L w v b) (hL:∀x,x∈L'->x∈L):nT L' w v b:=kD.fresh h λx hx=>.inl (hL x hx)
def Q7 {L:List Nat} {w:World} {vs:List Value} {b:gB} (h:dR L w vs b.enc):∃v1 v2,vs=[str b.aP,v1,v2]∧fI L w v1 b.regs∧fI L w v2 b.code:=by
 rw[gB.enc] at h
 match vs,h with
 |[v0,v1,v2],h=>obtain⟨h0,h1,h2,_⟩:=h;cases h0;exact⟨v1,v2,rfl,h1,h2⟩
 |[],h=>exact h.elim
 |[_],h=>exact h.2.elim
 |[_,_],h=>exact h.2.2.elim
 |_::_::_::_::_,h=>exact h.2.2.2.elim
def HY {L:List Nat} {w:World} {v:Value} {ts:List aA} (h:fI L w v ts):∃a c,v= .slice a ts.length c:=by
 obtain⟨a,c,rfl,_⟩:=rN h
 exact⟨a,c,by rw[iI]⟩
def Q8 {L:List Nat} {w:World} {v:Value} {b:gB} (h:nT L w v b):∃a1 c1 a2 c2,v= .agg #[str b.aP,.slice a1 b.regs.length c1,.slice a2 b.code.length c2]∧
  fI L w (.slice a1 b.regs.length c1) b.regs∧fI L w (.slice a2 b.code.length c2) b.code:=by
 obtain⟨vs,rfl,hr⟩:=h
 obtain⟨v1,v2,rfl,h1,h2⟩:=Q7 hr
 obtain⟨a1,c1,rfl⟩:=HY h1
 obtain⟨a2,c2,rfl⟩:=HY h2
 exact⟨a1,c1,a2,c2,rfl,h1,h2⟩
def Lj {L:List Nat} {w:World} {l:aj} {r c:List aA} {v1 v2:Value} (h1:fI L w v1 r) (h2:fI L w v2 c):nT L w (.agg #[str l,v1,v2]) ⟨l,r,c⟩:=
 ⟨[str l,v1,v2],rfl,.val _,h1,h2,trivial⟩
def nT.kQ {L:List Nat} {w:World} {x y z:Value} {b:gB} (h:nT L w (.agg #[x,y,z]) b):dR L w [x,y,z] b.enc:=by
 obtain⟨vs,he,hr⟩:=h
 have hv:vs=[x,y,z]:=by
  have:=cA (λv=>match v with|Value.agg x=>x.toList|_=>[]) he
  simpa using this.symm
 rw[<-hv];exact hr
def sF (L:List Nat) (w:World) (v:Value) (ps:List gB):Prop:=cF L w v (.sl 3 (ps.map gB.enc))
def sF.ext {L:List Nat} {w w':World} {v:Value} {ps:List gB} (h:sF L w v ps) (k:ak [] w w'):sF L w' v ps:=cF.ext h k
def sF.jk {L L':List Nat} {w:World} {v:Value} {b:List gB} (h:sF L w v b) (hL:∀x,x∈L'->x∈L):sF L' w v b:=cF.fresh h λx hx=>.inl (hL x hx)
def Q9 {L:List Nat} {w:World}:sF L w (.slice none 0 0) []:=.nil _ _ _
def abJ {L:List Nat} {w:World} {v:Value} {ps:List gB} (h:sF L w v ps):∃a c,v= .slice a ps.length c:=by
 obtain⟨a,c,rfl,_⟩:=rN h
 exact⟨a,c,sm⟩
def Ra {L:List Nat} {w:World} {a:Option Addr} {n c i:Nat} {ps:List gB} {k:gB} (h:sF L w (.slice a n c) ps) (hi:ps[i]?=some k):
  ∃b off a1 c1 a2 c2,a=some ⟨b,off,none⟩∧iS w b (off+i*3) [str k.aP,.slice a1 k.regs.length c1,.slice a2 k.code.length c2]∧fI L w (.slice a1 k.regs.length c1) k.regs∧fI L w (.slice a2 k.code.length c2) k.code:=by
 obtain⟨b,off,vs,ha,hb,hL,hl,hc,hr⟩:=yX h (show(ps.map gB.enc)[i]?=some k.enc by simp[hi])
 obtain⟨v1,v2,rfl,h1,h2⟩:=Q7 hr
 obtain⟨a1,c1,rfl⟩:=HY h1
 obtain⟨a2,c2,rfl⟩:=HY h2
 exact⟨b,off,a1,c1,a2,c2,ha,hc,h1,h2⟩
def Gr.prog {B:Nat} {L:List Nat} {w:World} {T:TypeId} {v:Value} {g:Option Nat} {ps:List gB} (h:Gr B L w T 3 v g (ps.map gB.enc)):sF L w v ps:=h.done
section
variable {P:Program} {n:Nat} {ops:Array Oper} {K:Env->World->Prop} {rest:List Oper} {e:Env} {w:World}
 {dst:Option Nat} {ty:TypeId} {pos:String} {after:Array Edge} {g:Option (Nat×Bool)} {x y:Operand}
def abK {B:Nat} {L:List Nat} {t E bytes:Nat} {z:Value} {v u1 u2 u3:Value} {gb:Option Nat} {ts:List gB} {f:gB} {b U:Nat} (hT:P.underlying t=some (.slice E)) (hE:TI P E 3 bytes z) (hg:gate ops e g=true) (hd:dy n dst=true) (hz:Nat.beq z.cells.size 3=true) (ij:Nat.ble bytes 1000=true)
  (hx:ev e x=v) (hy:ev e y= .slice (some ⟨b,0,none⟩) 1 1) (hO:Gr B L w E 3 v gb (ts.map gB.enc)) (hb:aY w b [u1,u2,u3].toArray U)
  (hr:nT (gb.toList++L) w (.agg #[u1,u2,u3]) f) (hn:ts.length<100000000)
  (k:∀a' cap' g' w',Gr B L w' E 3 (.slice a' (ts++[f]).length cap') g' ((ts++[f]).map gB.enc)->ak gb.toList w w'->OW P n ops K rest (cQ e dst (.slice a' (ts++[f]).length cap')) w'):
  OW P n ops K (⟨dst,.call {callee:=.builtin .append,args:=#[x,y],argTypes:=#[t,t]},ty,pos,after,g⟩::rest) e w:=by
 refine HU hT hE hg hd hz ij hx hy hO hb rfl ?_ hr.kQ (by simpa using hn) ?_
 ·rw[List.all_eq_true]
  refine λu hu=>dR.EZ hr.kQ (λc hc v hv=>?_) u hu
  rw[gB.enc] at hc
  simp only[mC,nN,oF] at hc
  rcases hc with h|h|h
  ·rw[h] at hv;cases hv;rfl
  ·rw[h] at hv;cases hv
  ·rw[h] at hv;cases hv
 ·intro a' cap' g' w' kr hk
  have e1:(ts.map gB.enc).length+1=(ts++[f]).length:=by simp
  have e2:ts.map gB.enc++[f.enc]=(ts++[f]).map gB.enc:=by simp
  rw[e1] at kr⊢
  rw[e2] at kr
  exact k a' cap' g' w' kr hk
end
def Lk:∀(ts:List aA) (t:aA),ts≠[]->mq (ts++[t])=mq ts++32::t.text
 |[],_,h=>absurd rfl h
 |[u],t,_=>by rw[List.cons_append,List.nil_append,l6,pL,pL]
 |u::v::r,t,_=>by
  have:=Lk (v::r) t sm
  rw[List.cons_append,List.cons_append,l6,<-List.cons_append,this,l6];simp
def pre (ts:List aA):aj:=if ts=[] then[] else 40::mq ts
def abL {ps:List aA} {k:Nat} (hk:k<ps.length):pre (ps.take (k+1))=pre (ps.take k)++((if k=0 then 40 else 32)::(nth ps k).text):=by
 have e:ps.take (k+1)=ps.take k++[nth ps k]:=by rw[List.take_succ_eq_append_getElem hk,Fg hk]
 rw[e]
 by_cases h0:k=0
 ·subst h0;simp[pre,pL]
 ·have eN:ps.take k≠[]:=by intro h;have:=cA List.length h;rw[List.length_take] at this;simp only[lN] at this;omega
  unfold pre
  rw[iN sm,iN eN,Lk _ _ eN,iN h0];simp
def abM {t:aA} (dz:WF t) (h:t.au.length≠0):pre (t.au.take t.au.length)++[41]=t.text:=by
 cases dz with
 |az a _=>simp[aA.au] at h
 |list ps hp _=>
  rw[rb]
  show pre (ps.take ps.length)++[41]=_
  rw[List.take_length]
  unfold pre;rw[iN hp];simp
def abN {t:aA} (dz:WF t) (h:t.au.length=0):t.text=t.az:=by
 cases dz with
 |az a ha=>exact sE ha
 |list ps hp _=>exact absurd (List.length_eq_zero_iff.1 h) hp
def alv {t:aA} (dz:WF t) {k:Nat} (hk:k<=t.au.length):(pre (t.au.take k)).length<=t.text.length:=by
 by_cases h:t.au.length=0
 ·rw[show k=0 from by omega];simp[pre]
 ·rw[<-abM dz h,lA]
  have mono:∀j,k<=j->j<=t.au.length->(pre (t.au.take k)).length<=(pre (t.au.take j)).length:=by
   intro j hj
   induction j with
   |zero=>intro _;rw[show k=0 from by omega];exact lR _
   |succ j ih=>
    intro vW
    rcases Nat.lt_or_ge k (j+1) with h|h
    ·have:=ih om om
     rw[abL om,lA];omega
    ·rw[show k=j+1 from by omega];exact lR _
  have:=mono _ hk (lR _)
  omega
def uM (ts:List aA):aj:=40::mq ts
def Rb {ps:List aA} {k:Nat} (hk:k<ps.length):uM (ps.take (k+1))=(uM (ps.take k)++(if k=0 then[] else[32]))++(nth ps k).text:=by
 have e:ps.take (k+1)=ps.take k++[nth ps k]:=by rw[List.take_succ_eq_append_getElem hk,Fg hk]
 rw[e]
 by_cases h0:k=0
 ·subst h0;simp[uM,pL,mq]
 ·have eN:ps.take k≠[]:=by intro h;have:=cA List.length h;rw[List.length_take] at this;simp only[lN] at this;omega
  unfold uM
  rw[Lk _ _ eN,iN h0];simp
def Rc {t:aA} (dz:WF t) (h:t.az=[]):uM (t.au.take t.au.length)++[41]=t.text:=by
 cases dz with
 |az a ha=>exact absurd h ha
 |list ps hp _=>
  rw[rb]
  show uM (ps.take ps.length)++[41]=_
  rw[List.take_length];rfl
def Ll {t:aA} (dz:WF t) (ha:t.az=[]) {k:Nat} (hk:k<=t.au.length):(uM (t.au.take k)).length<=t.text.length:=by
 rw[<-Rc dz ha,lA]
 have mono:∀j,k<=j->j<=t.au.length->(uM (t.au.take k)).length<=(uM (t.au.take j)).length:=by
  intro j hj
  induction j with
  |zero=>intro _;rw[show k=0 from by omega];exact lR _
  |succ j ih=>
   intro vW
   rcases Nat.lt_or_ge k (j+1) with h|h
   ·have:=ih om om
    rw[Rb om,lA,lA];omega
   ·rw[show k=j+1 from by omega];exact lR _
 have:=mono _ hk (lR _)
 omega
/-! ### Texts joined -/
def Rd (a b:List aj):pM (a++b)=pM a++pM b:=by simp[pM]
def uN (h:aj) (ps:List aj) (k:Nat):aj:=40::(h++pM (ps.take k))
def abO {h:aj} {ps:List aj} {k:Nat} (hk:k<ps.length):uN h ps (k+1)=(uN h ps k++[32])++aD ps k:=by
 unfold uN
 rw[List.take_succ_eq_append_getElem hk,Rd]
 simp[pM,aD,gE hk]
def abP {h:aj} {ps:List aj} {k:Nat} (hk:ps.length<=k):uN h ps k++[41]=bO h ps:=by
 unfold uN bO;rw[List.take_of_length_le hk];simp
def abQ {h:aj} {ps:List aj} (k:Nat):(uN h ps k).length+1<=(bO h ps).length:=by
 have:(pM (ps.take k)).length<=(pM ps).length:=by
  have:=Rd (ps.take k) (ps.drop k)
  rw[List.take_append_drop] at this
  rw[this,lA];omega
 simp[uN,bO];omega
/-! ### What the laws count -/
def j3 (xs:List aj):Nat:=xs.length+(xs.map List.length).sum
def Re (ps:List aj):(pM ps).length=j3 ps:=by
 unfold j3
 induction ps with
 |nil=>simp[pM]
 |cons p ps ih=>simp[pM] at ih⊢;omega
/-! ### A list that is filled -/
def fill {α:Type} (d:α) (xs:List α) (k:Nat):List α:=xs.take k++List.replicate (xs.length-k) d
def tI:∀(m:Nat) (t:aA),t.size<=m->WF t->t.size<=100000000->t.text.length<=100000000->∀(v:Value) (L:List Nat) (w:World),bT L w v t->
  ck Tryz.prog 96 [v] w λr w'=>r=str t.text∧ak [] w w':=by
 intro m
 induction m with
 |zero=>intro t h dz;have:=QS dz;omega
 |succ m ih=>
  intro t hm dz mY gx v L w hv
  obtain⟨a,n,c,rfl,hn,bc⟩:=dO hv
  subst hn
  have pK:=xI t
  have hK:=ak.refl [] w
  refine cX [.tmp 2] 31 Tryz.func96 rfl ZQ rfl rfl ?_
  refine zr<|fG rfl ?_
  intro w1 aK aT eh
  have hK:=hK.ext aK
  refine zA<|ag<|aQ<|zr<|zf dB rfl<|zl cm rfl (aT.at rfl)<|jI rfl rfl rfl rfl<|ag<|zc rfl (λh1=>?_) (λh1=>?_)
  have ht:=abN dz (by rw[dz.leaf h1];rfl)
  refine zr<|zf dB rfl<|zl cm rfl (aT.at rfl)<|zA<|ag<|aV ?_
  exact⟨_,rfl,show str _=str _ from cA _ ht.symm,hK⟩
  have ha:t.az=[]:=Classical.not_not.1 h1
  refine bz<|zr<|zA<|ag<|aQ<|zr<|zA<|ag<|cS ?_
  refine fY (λk:Nat=>[(1,.pointer (some ⟨w.heap.size,0,none⟩)),(3,str (uM (t.au.take k))),(4,.int .i64 (k:Int))]) (λk w'=>ak [] w w'∧aY w' w.heap.size [str t.az,.slice a t.au.length c].toArray 66∧k<=t.au.length) (λk=>t.au.length-k) (0) (⟨rfl,rfl,rfl⟩) (⟨hK,aT,om⟩) ?_
  intro gg w2 e2 hI
  obtain⟨hK,aT,hk⟩:=hI
  refine aQ<|zr<|zm<|zf cN rfl<|zl cK rfl (aT.at rfl)<|dZ cw rfl<|fA rfl rfl rfl<|ag<|zc rfl (λh2=>?_) (λh2=>?_)
  have gh:=iK (ps:=t.au) (i:=gg) om
  obtain⟨b1,ga,pa,pn,pc,rfl,kT,fR,iz⟩:=j9 bc gh
  subst fR
  have BK:=dz.nth (i:=gg) om
  have oz:=l3 (t:=t) (i:=gg) om
  have qp:=Ll dz ha hk
  have uO:=Ll dz ha (k:=gg+1) om
  have bg:=Rb (ps:=t.au) (k:=gg) om
  have hlen:=cA List.length bg
  rw[lA] at hlen
  refine bz<|aQ<|cS<|aQ<|zr<|zm<|jz rfl rfl rfl rfl rfl<|ag ?_
  refine ji (λ_:Unit=>[(1,.pointer (some ⟨w.heap.size,0,none⟩)),(3,str (uM (t.au.take gg)++(if gg=0 then[] else[32]))),(4,.int .i64 (gg:Int))]) (λ_ w'=>w'=w2) ?_ ?_
  refine zc rfl (λh3=>?_) (λh3=>?_)
  have Lm:¬gg=0:=by omega
  refine df<|zm<|cu rfl rfl so<|zA<|ag ?_
  exact⟨(),⟨rfl,by rw[iN Lm];rfl,rfl⟩,rfl⟩
  have Lm:gg=0:=by omega
  refine bz ?_
  exact⟨(),⟨rfl,by rw[iP Lm,List.append_nil];rfl,rfl⟩,rfl⟩
  intro gu w3 e3 hI
  obtain rfl:=hI
  refine df<|zm<|zf cN rfl<|zl cK rfl (aT.at rfl)<|zm<|zi cw aH rfl rfl om<|zL bU aH rfl (kT.ext hK) rfl<|aC (ih (nth t.au gg) om BK om om _ L w3 ((mT iz).ext hK)) ?_
  rintro v4 w4 ⟨eJ,aF⟩
  have gK:=aF.size
  have hK:=hK.ext aF;have aT:=aT.ext aF
  obtain rfl:=eJ
  refine cu rfl rfl om<|zA<|ag<|df<|zm<|eI rfl rfl rfl (wrap_i64 _ om om)<|zA<|ag ?_
  exact⟨gg+1,⟨rfl,by rw[bg];rfl,rfl⟩,⟨hK,aT,om⟩,om⟩
  have gJ:gg=t.au.length:=by omega
  have Fk:=Rc dz ha
  have qp:=Ll dz ha hk
  subst gJ
  refine gD<|gF rfl<|zr<|zm<|cu rfl rfl (by simp at qp⊢;omega)<|zA<|ag<|aV ?_
  exact⟨_,rfl,show str _=str _ from cA _ Fk,hK⟩
section
variable {P:Program} {n:Nat} {ops:Array Oper} {K:Env->World->Prop} {rest:List Oper} {e:Env} {w:World}
 {dst:Option Nat} {ty:TypeId} {pos:String} {after:Array Edge} {g:Option (Nat×Bool)} {x y:Operand}
/-! ### Elements that are stored -/
def setAt (cs:Array Value) (k:Nat):List Value->Array Value
 |[]=>cs
 |v::vs=>setAt (cs.setIfInBounds k v) (k+1) vs
def HZ:∀(vs:List Value) (cs:Array Value) (k:Nat),(setAt cs k vs).size=cs.size
 |[],_,_=>rfl
 |v::vs,cs,k=>by unfold setAt;rw[HZ vs];simp
def H0:∀(vs:List Value) (cs:Array Value) (k:Nat),k+vs.length<=cs.size->(setAt cs k vs).toList=cs.toList.take k++(vs++cs.toList.drop (k+vs.length))
 |[],cs,k,_=>by simp[setAt]
 |v::vs,cs,k,h=>by
  unfold setAt
  simp only[lC] at h
  rw[H0 vs _ _ so,Array.toList_setIfInBounds]
  have hk:k<cs.toList.length:=by simp;omega
  rw[List.take_add_one,List.getElem?_set_self hk,List.take_set_of_le (lR k)]
  rw[List.drop_set_of_lt om]
  simp only[Option.toList_some,List.append_assoc,List.cons_append,List.nil_append,lC]
  rw[show k+1+vs.length=k+(vs.length+1) from by omega]
def Ln:∀(vs:List Value) (i:Nat) (w:World) (b o:Nat) (U:TypeId) (cs:Array Value),aY w b cs U->o+i+vs.length<=cs.size->(∀u∈vs,u.oneCell'=true)->
  ∃w',(storeCells ⟨b,o,none⟩ vs i).run P w= .ok () w'∧ak [b] w w'∧aY w' b (setAt cs (o+i) vs) U∧w'.heap.size=w.heap.size
 |[],i,w,b,o,U,cs,hb,_,_=>⟨w,rfl,ak.refl _ _,hb,rfl⟩
 |v::vs,i,w,b,o,U,cs,hb,hs,h1=>by
  simp only[lC] at hs
  have mJ:o+i<cs.size:=by omega
  have bg:(store ((⟨b,o,none⟩:Addr).add i) v).run P w= .ok () (w.setCell ⟨b,o+i,none⟩ v):=by
   rw[vY,run_store P w _ v _ (h1 v sm),hb.cell,Array.getElem?_eq_getElem mJ,hb.frozen]
   simp
  obtain⟨w',hr,hk,gX,hz⟩:=Ln vs (i+1) (w.setCell ⟨b,o+i,none⟩ v) b o U (cs.setIfInBounds (o+i) v) (hb.set (o+i) v) so (λu hu=>h1 u (by simp[hu]))
  refine⟨w',?_,(ak.setCell w b (o+i) v).trans hk,gX,by rw[hz];simp[World.setCell]⟩
  simp only[storeCells,Sem.run_bind,bg,Result.andThen_ok]
  exact hr
def Rf {α:Type} {sz:Nat}:∀{rows:List (List α)} {i:Nat} {row:List α},(∀r,r∈rows->r.length=sz)->i<rows.length->row.length=sz->(rows.set i row).flatten=rows.flatten.take (i*sz)++(row++rows.flatten.drop (i*sz+sz))
 |r::rows,0,row,h,_,hr=>by
  have h0:r.length=sz:=h r sm
  simp[<-h0]
 |r::rows,i+1,row,h,hi,hr=>by
  have h0:r.length=sz:=h r sm
  have ih:=Rf (rows:=rows) (i:=i) (row:=row) (λr hr=>h r (by simp[hr])) (by simpa using hi) hr
  rw[List.set_cons_succ,List.flatten_cons,List.flatten_cons,ih]
  have e1:(i+1)*sz=r.length+i*sz:=by rw[h0,Nat.add_mul];omega
  have e2:(i+1)*sz+sz=r.length+(i*sz+sz):=by omega
  rw[e2,e1,List.take_length_add_append,List.drop_length_add_append,List.append_assoc]
def dR.take {L:List Nat} {w:World}:∀{k:Nat} {vs:List Value} {cs:List C},dR L w vs cs->dR L w (vs.take k) (cs.take k)
 |0,_,_,_=>by simp[dR]
 |_+1,[],[],_=>trivial
 |_+1,_::_,_::_,h=>⟨h.1,dR.take h.2⟩
def dR.drop {L:List Nat} {w:World}:∀{k:Nat} {vs:List Value} {cs:List C},dR L w vs cs->dR L w (vs.drop k) (cs.drop k)
 |0,_,_,h=>h
 |_+1,[],[],_=>trivial
 |k+1,_::_,_::_,h=>dR.drop (k:=k) h.2
def abR {T sz bytes:Nat} {z v:Value} {vs:List Value} {row:List C} {B:Nat} {L:List Nat} {E gb:Nat} {N c:Nat} {rows:List (List C)} {b o i:Nat} (kM:TI P T sz bytes z) (hg:gate ops e g=true)
  (hx:ev e x= .pointer (some ⟨b,o,none⟩)) (hy:ev e y=v) (hv:v.cells=vs.toArray) (ho:o=i*sz) (hO:Gr B L w E sz (.slice (some ⟨b,0,none⟩) N c) (some gb) rows) (hi:i<rows.length) (h1:vs.all Value.oneCell'=true)
  (oH:row.length=sz) (hr:dR (gb::L) w vs row)
  (k:∀w',ak [gb] w w'->w'.heap.size=w.heap.size->Gr B L w' E sz (.slice (some ⟨b,0,none⟩) N c) (some gb) (rows.set i row)->OW P n ops K rest e w'):
  OW P n ops K (⟨none,.store T x y,ty,pos,after,g⟩::rest) e w:=by
 subst ho
 obtain⟨xs,⟨⟨mM,h|⟨b',cap,cur,oI,Lo,hb,nM,mL,cL,ht⟩⟩,jo,iZ,abS⟩⟩:=hO.own
 ·obtain⟨h,_⟩:=h;cases h
 ·cases Lo;cases oI
  have gL:vs.length=sz:=by rw[hr.length,oH]
  have hle:(i+1)*sz<=rows.length*sz:=Nat.mul_le_mul_right _ hi
  have Rg:rows.length*sz<=c*sz:=Nat.mul_le_mul_right _ nM
  rw[Nat.add_mul,Nat.one_mul] at hle
  obtain⟨w',kn,hk,gX,hz⟩:=Ln (P:=P) vs 0 w gb (i*sz) E cur hb (by rw[cL,gL];omega) (λu hu=>List.all_eq_true.1 h1 u hu)
  rw[Nat.add_zero] at gX
  refine Hw hg (w':=w') (by
   simp[execOp,Instr.storeAt,Instr.sureAddr,hx,hy,storeVar,hv,kM.tt,gL,kn]) (k w' hk hz ⟨⟨xs.take (i*sz)++(vs++xs.drop (i*sz+sz)),⟨⟨?_,.inr ⟨gb,c,_,rfl,sm,gX,by simpa using nM,mL,by rw[HZ];exact cL,?_⟩⟩,?_,?_,abS⟩⟩,hO.low,λx hx=>by rw[hz];exact hO.db x hx,by rw[hz];exact hO.bsz⟩)
  ·rw[lA,lA,List.length_take,List.length_drop,List.length_set,mM,gL];omega
  ·rw[H0 _ _ _ (by rw[cL,gL];omega),List.length_set,<-ht,gL,List.take_append,List.take_append]
   simp only[List.length_take,Array.length_toList,cL,gL,List.take_take,List.drop_take]
   rw[Nat.min_eq_right (show i*sz<=rows.length*sz by omega),Nat.min_eq_left (show i*sz<=rows.length*sz by omega),Nat.min_eq_left (show i*sz<=c*sz by omega),List.take_of_length_le (l:=vs) om]
   rw[show rows.length*sz-i*sz-sz=rows.length*sz-(i*sz+sz) from by omega]
  ·rw[Rf iZ hi oH]
   refine dR.append (dR.aO jo.take (hk.mono sm)) (dR.append (hr.aO (hk.mono sm)) (dR.aO jo.drop (hk.mono sm)))
  ·intro r rP
   rcases List.mem_or_eq_of_mem_set rP with h|h
   ·exact iZ r h
   ·rw[h];exact oH
/-! ### Slices that are built of several au -/
def Rh (off:Nat):∀(us:List Value) (i:Nat) (cs:Array Value),((us.zipIdx i).foldl (fun(cs:Array Value) (p:Value×Nat)=>cs.setIfInBounds (off+p.2) p.1) cs)=setAt cs (off+i) us
 |[],_,_=>rfl
 |u::us,i,cs=>by rw[List.zipIdx_cons,List.foldl_cons,Rh off us];rfl
def Ri {sz:Nat}:∀(us:List Value) (vss:List (List Value)) (k:Nat) (cs:Array Value),us.map Value.cells=vss.map List.toArray->(∀vs,vs∈vss->vs.length=sz)->cs.size=(k+us.length)*sz->
  ∃cs',Instr.fill (λi=>some (i*sz,sz)) cs ((us.zipIdx k).map λp=>(p.2,p.1))=some cs'∧cs'.toList=cs.toList.take (k*sz)++vss.flatten
 |[],[],k,cs,_,_,hs=>⟨cs,rfl,by simp only[lN,Nat.add_zero] at hs;simp only[List.flatten_nil,List.append_nil];rw[List.take_of_length_le (by simp[hs])]⟩
 |[],_::_,_,_,h,_,_=>by simp at h
 |_::_,[],_,_,h,_,_=>by simp at h
 |u::us,vs::vss,k,cs,h,hl,hs=>by
  simp only[List.map_cons,List.cons.injEq] at h
  have gL:vs.length=sz:=hl vs sm
  simp only[lC] at hs
  have e:(k+(us.length+1))*sz=k*sz+sz+us.length*sz:=by rw[Nat.add_mul,Nat.add_mul,Nat.one_mul];omega
  rw[List.zipIdx_cons,List.map_cons]
  obtain⟨cs',h1,h2⟩:=Ri us vss (k+1) (setAt cs (k*sz) vs) h.2 (λv hv=>hl v (by simp[hv])) (by rw[HZ,hs];congr 1;omega)
  refine⟨cs',?_,?_⟩
  ·unfold Instr.fill
   simp only[h.1]
   rw[iN (by simp[gL];omega)]
   have h3:=Rh (k*sz) vs 0 cs
   simp only[Nat.add_zero] at h3
   have h4:Array.foldl (fun(cs:Array Value) (p:Value×Nat)=>cs.setIfInBounds (k*sz+p.2) p.1) cs vs.toArray.zipIdx=setAt cs (k*sz) vs:=by rw[<-h3];simp
   rw[h4];exact h1
  ·have e2:(k+1)*sz=k*sz+sz:=by rw[Nat.add_mul,Nat.one_mul]
   have ES:min (k*sz) cs.size=k*sz:=Nat.min_eq_left om
   rw[h2,H0 _ _ _ (by rw[gL];omega),e2,List.flatten_cons,List.take_append,List.take_append]
   simp only[List.length_take,Array.length_toList,ES,gL,List.take_take]
   rw[Nat.min_eq_right (show k*sz<=k*sz+sz by omega),show k*sz+sz-k*sz=sz from by omega,List.take_of_length_le (l:=vs) om,Nat.sub_self,List.take_zero,List.append_nil,List.append_assoc]
def abT {E sz bytes:Nat} {z:Value} {T:TypeId} {us:List Value} {vss:List (List Value)} (hT:P.underlying T=some (.slice E)) (hE:TI P E sz bytes z) (oB:0<sz) (zW:0<us.length) (dS:us.length*sz<=16777216)
  (hv:us.map Value.cells=vss.map List.toArray) (hl:∀vs,vs∈vss->vs.length=sz):(Instr.buildSlice T us.length ((us.zipIdx 0).map λp=>(p.2,p.1)).toArray).run P w= .ok (.slice (some ⟨w.heap.size,0,none⟩) us.length us.length) (w.alloc (.cells vss.flatten.toArray E)):=by
 have h0:¬us.length*sz=0:=by
  have:0<us.length*sz:=Nat.mul_pos zW oB
  omega
 have hb:¬(16777216<us.length*sz):=by omega
 obtain⟨cs',hf,cL⟩:=Ri us vss 0 ((Array.range (us.length*sz)).map (z.cells[·%z.cells.size]!)) hv hl sm
 have he:cs'=vss.flatten.toArray:=by apply Array.ext';simpa using cL
 subst he
 simp[Instr.buildSlice,Sem.run_bind,run_underlying hT,Result.andThen_ok,hE.tt,hb,h0,hE.Kd,hf,newRow]
def sG {E sz bytes m:Nat} {z:Value} {T:TypeId} {au:Array (Nat×Operand)} (qs:List Operand) (vss:List (List Value)) (hT:P.underlying T=some (.slice E)) (hE:TI P E sz bytes z) (hg:gate ops e g=true) (hd:dy n dst=true)
  (hp:au=((qs.zipIdx 0).map λp=>(p.2,p.1)).toArray) (hm:m=qs.length) (oB:Nat.blt 0 sz=true) (zW:Nat.blt 0 qs.length=true) (dS:Nat.ble (qs.length*sz) 16777216=true)
  (hv:qs.map (λq=>(ev e q).cells)=vss.map List.toArray) (hl:vss.all (λvs=>Nat.beq vs.length sz)=true)
  (k:∀w',ak [] w w'->aY w' w.heap.size vss.flatten.toArray E->w'.heap.size=w.heap.size+1->OW P n ops K rest (cQ e dst (.slice (some ⟨w.heap.size,0,none⟩) m m)) w'):
  OW P n ops K (⟨dst,.buildSlice T m au,ty,pos,after,g⟩::rest) e w:=by
 subst hp hm
 have Rj:(qs.map (ev e)).length=qs.length:=by simp
 have hr:=abT (P:=P) (w:=w) (us:=qs.map (ev e)) (vss:=vss) hT hE (by simpa[Nat.blt_eq] using oB) (by simpa[Nat.blt_eq] using zW) (by rw[Rj];exact Nat.le_of_ble_eq_true dS) (by rw[List.map_map];exact hv) (λvs h=>Nat.eq_of_beq_eq_true (List.all_eq_true.1 hl vs h))
 rw[Rj] at hr
 have abU:((qs.zipIdx 0).map λp=>(p.2,p.1)).toArray.map (fun(p:Nat×Operand)=>(p.1,ev e p.2))=(((qs.map (ev e)).zipIdx 0).map λp=>(p.2,p.1)).toArray:=by
  rw[List.map_toArray,List.map_map]
  congr 1
  have:∀(qs:List Operand) (i:Nat),(qs.zipIdx i).map ((fun(p:Nat×Operand)=>(p.1,ev e p.2))∘λp=>(p.2,p.1))=((qs.map (ev e)).zipIdx i).map λp=>(p.2,p.1):=by
   intro qs
   induction qs with
   |nil=>intro i;rfl
   |cons q qs ih=>intro i;simp only[List.zipIdx_cons,List.map_cons,List.map,ih];rfl
  exact this qs 0
 exact fT hg hd (w':=w.alloc (.cells vss.flatten.toArray E)) (by
  have rR:(Array.map (λx=>(x.fst,ev e x.snd)) ((qs.zipIdx 0).map λp=>(p.2,p.1)).toArray)=(((qs.map (ev e)).zipIdx 0).map λp=>(p.2,p.1)).toArray:=abU
  simp only[execOp]
  rw[rR,Sem.run_bind,hr];simp) (k _ (ak.alloc _ _ _) (aY.alloc _ _ _) sm)
/-! ### Slices that are appended whole -/
def Rk {L:List Nat} {w:World}:∀{rows:List (List C)} {f:Nat->List Value},(∀i row,rows[i]?=some row->dR L w (f i) row)->dR L w ((List.range rows.length).map f).flatten rows.flatten
 |[],_,_=>trivial
 |r::rows,f,h=>by
  rw[lC,List.range_succ_eq_map,List.map_cons,List.map_map,List.flatten_cons,List.flatten_cons]
  exact(h 0 r rfl).append (Rk (f:=f∘Nat.succ) λi row hi=>h (i+1) row (by simpa using hi))
def abV {w:World} {b off:Nat} {xs ys:List Value} (h:iS w b off xs) (k:iS w b (off+xs.length) ys):iS w b off (xs++ys):=λj v hj=>by
 rcases Nat.lt_or_ge j xs.length with hl|hl
 ·exact h j v (by rwa [List.getElem?_append_left hl] at hj)
 ·rw[List.getElem?_append_right hl] at hj
  have:=k (j-xs.length) v hj
  rwa [show off+xs.length+(j-xs.length)=off+j from by omega] at this
def Rl {w:World} {b sz:Nat}:∀{n off:Nat} {f:Nat->List Value},(∀i,i<n->(f i).length=sz∧iS w b (off+i*sz) (f i))->iS w b off ((List.range n).map f).flatten
 |0,_,_,_=>λj v hj=>by simp at hj
 |n+1,off,f,h=>by
  rw[List.range_succ_eq_map,List.map_cons,List.map_map,List.flatten_cons]
  obtain⟨h1,h2⟩:=h 0 om
  rw[Nat.zero_mul,Nat.add_zero] at h2
  refine abV h2 (Rl (sz:=sz) λi hi=>?_)
  obtain⟨h3,h4⟩:=h (i+1) om
  refine⟨h3,?_⟩
  rw[h1]
  rwa [show off+(i+1)*sz=off+sz+i*sz from by rw[Nat.add_mul];omega] at h4
def Rm {L:List Nat} {w:World} {a:Option Addr} {len cap size:Nat} {rows:List (List C)} (h:cF L w (.slice a len cap) (.sl size rows)) (hp:0<rows.length):
  ∃b off vs,a=some ⟨b,off,none⟩∧b<w.heap.size∧b∉L∧iS w b off vs∧dR L w vs rows.flatten∧len=rows.length∧∀row,row∈rows->row.length=size:=by
 cases h with
 |nil=>simp at hp
 |sl b off len cap size rows f hl hc hb hL hs kL jo=>
  refine⟨b,off,((List.range rows.length).map λi=>(List.range size).map (f i)).flatten,rfl,hb,hL,Rl (sz:=size) λi hi=>⟨by simp,λj v hj=>?_⟩,Rk λi row hi=>?_,hl.symm,hs⟩
  ·have xq:j<size:=by have:=(List.getElem?_eq_some_iff.1 hj).1;simpa using this
   have e:f i j=v:=by simpa[List.getElem?_map,xq] using hj
   rw[<-e];exact kL i j om xq
  ·have iZ:=hs row (List.mem_of_getElem? hi)
   refine dR.of (by simp[iZ]) λj v c hv pG=>?_
   have xq:j<size:=by have:=(List.getElem?_eq_some_iff.1 hv).1;simpa using this
   have e:f i j=v:=by simpa[List.getElem?_map,xq] using hv
   rw[<-e];exact jo i j row c hi pG
def Ro {t ty T:TypeId} {i:TypeInfo} (ht:P.underlying t=some (.slice T)) (hi:P.info? T=some i)
  {a:Option Addr} {m cap:Nat} (h:m<=cap) {a2:Option Addr} {c2:Nat}:
  (Builtin.append_ #[t,t] ty #[.slice a m cap,.slice a2 0 c2]).run P w= .ok (.slice a m cap) w:=by
 have hf:(Builtin.firstCells i.size 0 (.slice a2 0 c2)).run P w= .ok #[] w:=by
  cases a2 with
  |none=>simp[Builtin.firstCells]
  |some b=>exact run_firstCells_some (P:=P) (w:=w) i.size 0 b 0 c2 [] sm sm
 cases a<;>simp[Builtin.append_,run_underlying ht,sizeOf,typeInfo,hi,Builtin.lenOf,h,hf,storeCells]
def xO {B:Nat} {L:List Nat} {t E sz bytes:Nat} {z:Value} {v:Value} {gb:Option Nat} {rows new:List (List C)} {a2:Option Addr} {n2 c2:Nat} (hT:P.underlying t=some (.slice E)) (hE:TI P E sz bytes z) (hg:gate ops e g=true) (hd:dy n dst=true) (hz:Nat.beq z.cells.size sz=true) (ij:Nat.ble bytes 1000=true)
  (hx:ev e x=v) (hy:ev e y= .slice a2 n2 c2) (hO:Gr B L w E sz v gb rows) (hr:cF (gb.toList++L) w (.slice a2 n2 c2) (.sl sz new)) (h1:∀row,row∈new->∀c,c∈row->∀v,c= .val v->v.oneCell'=true)
  (hn:rows.length+new.length<100000000)
  (k:∀a' cap' g' w',Gr B L w' E sz (.slice a' (rows.length+new.length) cap') g' (rows++new)->ak gb.toList w w'->OW P n ops K rest (cQ e dst (.slice a' (rows.length+new.length) cap')) w'):
  OW P n ops K (⟨dst,.call {callee:=.builtin .append,args:=#[x,y],argTypes:=#[t,t]},ty,pos,after,g⟩::rest) e w:=by
 obtain⟨xs,hR⟩:=hO.own
 have Ds:bytes<=1000:=Nat.le_of_ble_eq_true ij
 by_cases hp:0<new.length
 ·obtain⟨b,off,vs,rfl,hb,rf,hc,H2,rfl,iZ⟩:=Rm hr hp
  refine PI hT hE hg hd hz hx hR hy rfl hp iZ hc ?_ H2 hO.db (Nat.le_trans (Nat.mul_le_mul (show rows.length+new.length<=100000000 by omega) (show bytes+1<=1001 by omega)) de) ?_
  ·refine dR.EZ H2 λc hc v hv=>?_
   obtain⟨row,h2,h3⟩:=List.mem_flatten.1 hc
   exact h1 row h2 c h3 v hv
  ·intro a' cap' g' w' kr hk k8
   refine k a' cap' g' w' ⟨⟨_,kr⟩,λb hb=>?_,λx hx=>lL (hO.db x hx) hk.size,Nat.le_trans hO.bsz hk.size⟩ hk
   rcases k8 with h|h
   ·rw[h] at hb;exact hO.low b hb
   ·rw[h] at hb;cases hb;exact hO.bsz
 ·have nU:new=[]:=List.length_eq_zero_iff.1 om
  subst nU
  obtain⟨a,cap,rfl⟩:=hR.len
  have h20:n2=0:=by
   obtain⟨_,_,he,_⟩:=rN hr
   cases he;rfl
  subst h20
  have C5:rows.length<=cap:=by
   rcases hR.own.2 with⟨h,h2,_⟩|⟨_,_,_,_,h,_,h2,_⟩
   ·rw[h2];omega
   ·cases h;exact h2
  obtain⟨i,hi,_,_,_⟩:=hE.get
  have kn:=Ro (P:=P) (w:=w) (t:=t) (ty:=ty) hT hi (a:=a) (m:=rows.length) (cap:=cap) C5 (a2:=a2) (c2:=c2)
  refine fT hg hd (v:=.slice a rows.length cap) (w':=w) (by
   simp only[execOp,resolve,invoke,builtin,Sem.run_bind,Sem.run_pure,Result.andThen_ok,List.map_toArray,List.map_cons,List.map_nil,hx,hy,kn]) ?_
  have:=k a cap gb w (by simpa using hO) (ak.refl _ _)
  simpa using this
end

def xP (h:aj) (ps:List aj) (hl:(bO h ps).length<=1000000000) (v:Value) (L:List Nat) (w:World) (hv:bI L w v ps):ck Tryz.prog 75 [str h,v] w λr w'=>r=str (bO h ps)∧ak [] w w':=by
 obtain⟨a,n,c,rfl,hn⟩:=eP hv
 subst hn
 have hK:=ak.refl [] w
 have hh:=λk=>abQ (h:=h) (ps:=ps) k
 have Rp:(uN h ps 0).length=h.length+1:=by simp[uN,pM]
 have h01:=hh 0
 have pK:ps.length<=(bO h ps).length:=by simp only[bO,lC,lA,Re,j3];omega
 refine cX [.tmp 4] 24 Tryz.func75 rfl Zv rfl rfl ?_
 refine zr<|zA<|ag<|zr<|zm<|cu rfl rfl (by simp only[lC,lN];omega)<|zA<|ag<|aQ<|zr<|zA<|ag<|cS ?_
 refine fY (λk:Nat=>[(1,.slice a ps.length c),(5,str (uN h ps k)),(6,.int .i64 (k:Int))]) (λk w'=>ak [] w w'∧k<=ps.length) (λk=>ps.length-k) (0) (⟨rfl,show str _=str _ from cA _ (by simp[uN,pM]),rfl⟩) (⟨hK,om⟩) ?_
 intro gg w1 e1 hI
 obtain⟨hK,hk⟩:=hI
 refine aQ<|zr<|zm<|zm<|dZ bh rfl<|fA rfl rfl rfl<|ag<|zc rfl (λh1=>?_) (λh1=>?_)
 have hg:=lp (xs:=ps) (i:=gg) om
 obtain⟨b1,ga,rfl,bC⟩:=qX hv hg
 have bg:=abO (h:=h) (ps:=ps) (k:=gg) om
 have hlen:=cA List.length bg
 simp only[lA,lC,lN] at hlen
 have hle:=hh (gg+1)
 refine bz<|aQ<|cS<|df<|zm<|cu rfl rfl (by simp only[lC,lN];omega)<|zm<|zm<|zi bh bA rfl rfl om<|zl cm rfl (bC.ext hK 0 _ rfl)<|cu rfl rfl (by simp only[lA,lC,lN];omega)<|zA<|ag<|df<|zm<|eI rfl rfl rfl (wrap_i64 _ om om)<|zA<|ag ?_
 exact⟨gg+1,⟨rfl,show str _=str _ from cA _ bg.symm,rfl⟩,⟨hK,om⟩,om⟩
 have hle:=hh gg
 refine gD<|gF rfl<|zr<|zm<|cu rfl rfl (by simp only[lC,lN];omega)<|zA<|ag<|aV ?_
 exact⟨_,rfl,show str _=str _ from cA _ (abP om),hK⟩
def apart:List (Option Nat×Option Nat)->Prop
 |[]=>True
 |g::gs=>(∀x,x∈jO g->x∉im gs)∧apart gs
def BL (g:Option Nat×Option Nat) (gs:List (Option Nat×Option Nat)):im (g::gs)=jO g++im gs:=by simp[im]
def Lp (gs:List (Option Nat×Option Nat)) (g:Option Nat×Option Nat):im (gs++[g])=im gs++jO g:=by simp[im]
section
variable {P:Program} {n:Nat} {ops:Array Oper} {K:Env->World->Prop} {rest:List Oper} {e:Env} {w:World}
 {dst:Option Nat} {ty:TypeId} {pos:String} {after:Array Edge} {g:Option (Nat×Bool)} {x y:Operand}
end
/-! ### Operations -/
section
variable {P:Program} {n:Nat} {ops:Array Oper} {K:Env->World->Prop} {rest:List Oper} {e:Env} {w:World}
 {dst:Option Nat} {ty:TypeId} {pos:String} {after:Array Edge} {g:Option (Nat×Bool)} {x y:Operand}
def Rq {S D E b cap:Nat} {z:Int} {c:UInt8} {U:TypeId} (hS:P.underlying S=some (.slice E)) (hE:P.underlying E=some (.int .u8)) (hD:P.underlying D=some .string) (hg:gate ops e g=true) (hd:dy n dst=true)
  (hx:ev e x= .slice (some ⟨b,0,none⟩) 1 cap) (hb:aY w b [.int .u8 z].toArray U) (hz:z=(c.toNat:Int)) (k:OW P n ops K rest (cQ e dst (str [c])) w):OW P n ops K (⟨dst,.convert S D x,ty,pos,after,g⟩::rest) e w:=by
 have kn:=run_convert_bytes_back (P:=P) w S D E ⟨b,0,none⟩ cap [c] hS hE hD (by
  intro j hj
  have:j=0:=by simpa using hj
  subst this
  have:=hb.cell 0
  simpa[Addr.add,hz] using this)
 exact fT hg hd (v:=str [c]) (w':=w) (by
  have uP:ev e x= .slice (some ⟨b,0,none⟩) ([c]:List UInt8).length cap:=hx
  simp only[execOp,uP,Sem.run_bind,kn,Result.andThen_ok,Sem.run_pure]) k
def Rr {T TS bytes:Nat} {z:Value} {gb:Option Nat} {xs:List aj} {s:aj} {b o nn c i:Nat} (kM:TI P T 1 bytes z) (hg:gate ops e g=true) (hx:ev e x= .pointer (some ⟨b,o,none⟩)) (hy:ev e y=str s) (ho:o=i)
  (hO:dj w TS (.slice (some ⟨b,0,none⟩) nn c) gb xs) (hi:i<xs.length)
  (k:∀w',ak gb.toList w w'->dj w' TS (.slice (some ⟨b,0,none⟩) nn c) gb (xs.set i s)->w'.heap.size=w.heap.size->OW P n ops K rest e w'):OW P n ops K (⟨none,.store T x y,ty,pos,after,g⟩::rest) e w:=by
 subst ho
 obtain⟨hl,h|⟨b',cap,cur,oI,hv,hb,nM,mL,cL,ht⟩⟩:=hO
 ·obtain⟨h,_⟩:=h;cases h
 ·cases hv
  subst oI
  refine Ke kM rfl hg hx hy rfl hb (by rw[cL];omega) λw' hk gX hz=>?_
  refine k w' (by simpa using hk) ⟨by simp,.inr ⟨b,_,_,rfl,sm,gX,by simpa using nM,mL,by simpa using cL,?_⟩⟩ hz
  rw[Array.toList_setIfInBounds,List.length_set,List.take_set,ht,List.map_set]
end
def Rs {α:Type} {sz:Nat}:∀{rows:List (List α)} {i j:Nat} {a:α} {row:List α},(∀row,row∈rows->row.length=sz)->rows[i]?=some row->j<sz->rows.flatten.set (i*sz+j) a=(rows.set i (row.set j a)).flatten
 |r::rows,0,j,a,row,h,hi,hj=>by
  simp only[List.getElem?_cons_zero,Option.some.injEq] at hi
  subst hi
  have hr:r.length=sz:=h r sm
  rw[List.flatten_cons,Nat.zero_mul,Nat.zero_add,List.set_cons_zero,List.flatten_cons,List.set_append_left _ _ om]
 |r::rows,i+1,j,a,row,h,hi,hj=>by
  have hr:r.length=sz:=h r sm
  have:=Rs (rows:=rows) (a:=a) (λrow hr=>h row (by simp[hr])) (by simpa using hi) hj
  rw[List.flatten_cons,List.set_cons_succ,List.flatten_cons,List.set_append_right _ _ (by rw[hr,Nat.add_mul];omega),hr,<-this]
  congr 2
  rw[Nat.add_mul];omega
def ju.set {w w':World} {T:TypeId}:∀{gss:List (Option Nat×Option Nat)} {vss:List (List Value)} {bs:List Bk} {i:Nat} {g:Option Nat×Option Nat} {v:List Value} {f:Bk},ju w T gss vss bs->gss[i]?=some g->qt w' T g v f->
  (∀(j:Nat) (g2:Option Nat×Option Nat) (v2:List Value) (b2:Bk),j≠i->gss[j]?=some g2->qt w T g2 v2 b2->qt w' T g2 v2 b2)->ju w' T gss (vss.set i v) (bs.set i f)
 |[],[],[],i,g,v,f,_,hg,_,_=>by simp at hg
 |g0::gs,v0::vs,b0::bs,0,g,v,f,h,hg,hf,hk=>by
  simp only[List.getElem?_cons_zero,Option.some.injEq] at hg
  subst hg
  refine⟨hf,?_⟩
  have key:∀{gs:List (Option Nat×Option Nat)} {vs:List (List Value)} {bs:List Bk},(∀(j:Nat) (g2:Option Nat×Option Nat) (v2:List Value) (b2:Bk),gs[j]?=some g2->qt w T g2 v2 b2->qt w' T g2 v2 b2)->ju w T gs vs bs->ju w' T gs vs bs:=by
   intro gs
   induction gs with
   |nil=>intro vs bs _ h;cases vs<;>cases bs<;>first|trivial|exact h.elim
   |cons g gs ih=>
    intro vs bs hk h
    cases vs with
    |nil=>cases bs<;>exact h.elim
    |cons v vs=>
     cases bs with
     |nil=>exact h.elim
     |cons b bs=>exact⟨hk 0 _ _ _ rfl h.1,ih (λj g2 v2 b2 hj=>hk (j+1) g2 v2 b2 (by simpa using hj)) h.2⟩
  exact key (λj g2 v2 b2 hj ho=>hk (j+1) g2 v2 b2 om (by simpa using hj) ho) h.2
 |g0::gs,v0::vs,b0::bs,i+1,g,v,f,h,hg,hf,hk=>
  ⟨hk 0 _ _ _ om rfl h.1,ju.set h.2 (by simpa using hg) hf λj g2 v2 b2 hj iA ho=>hk (j+1) g2 v2 b2 om (by simpa using iA) ho⟩
def xQ {gss:List (Option Nat×Option Nat)} {i:Nat} {g:Option Nat×Option Nat} {x:Nat} (hg:gss[i]?=some g) (hx:x∈jO g):x∈im gss:=by
 simp only[im,List.mem_flatMap]
 exact⟨g,List.mem_of_getElem? hg,hx⟩
def Rt:∀{gss:List (Option Nat×Option Nat)} {i j:Nat} {g g2:Option Nat×Option Nat} {x:Nat},(im gss).Nodup->i≠j->gss[i]?=some g->gss[j]?=some g2->x∈jO g->x∉jO g2
 |g0::gs,0,0,_,_,_,_,h,_,_,_=>absurd rfl h
 |g0::gs,0,j+1,g,g2,x,hn,_,hg,iA,hx=>by
  simp only[List.getElem?_cons_zero,Option.some.injEq] at hg
  subst hg
  rw[BL,List.nodup_append] at hn
  intro fH
  exact hn.2.2 x hx x (xQ (by simpa using iA) fH) rfl
 |g0::gs,i+1,0,g,g2,x,hn,_,hg,iA,hx=>by
  simp only[List.getElem?_cons_zero,Option.some.injEq] at iA
  subst iA
  rw[BL,List.nodup_append] at hn
  intro fH
  exact hn.2.2 x fH x (xQ (by simpa using hg) hx) rfl
 |g0::gs,i+1,j+1,g,g2,x,hn,ll,hg,iA,hx=>by
  rw[BL,List.nodup_append] at hn
  exact Rt (i:=i) (j:=j) hn.2.1 om (by simpa using hg) (by simpa using iA) hx
def mu.row {w w':World} {TB TS:TypeId} {v:Value} {g:Option Nat} {gss:List (Option Nat×Option Nat)} {vss:List (List Value)} {bs:List Bk} {i:Nat} {gs:Option Nat×Option Nat} {vs:List Value} {f:Bk} {L:List Nat}
  (h:mu w TB TS v g gss vss bs) (hg:gss[i]?=some gs) (hv:vss[i]?=some vs) (hk:ak L w w') (hL:∀x,x∈L->x∈jO gs) (hf:qt w' TS gs vs f):mu w' TB TS v g gss vss (bs.set i f):=by
 have hd:=(List.nodup_append.1 h.nodup)
 have ze:vss.set i vs=vss:=by
  refine List.ext_getElem sm λj h1 h2=>?_
  rw[List.getElem_set]
  split
  ·rename_i ll;subst ll
   rw[gE h2] at hv;simpa using hv.symm
  ·rfl
 have hr:=ju.set (w':=w') h.rows hg hf (λj g2 v2 b2 hj iA ho=>ho.aO hk λx hx mM=>Rt hd.2.1 hj iA hg hx (hL x mM))
 rw[ze] at hr
 exact⟨by rw[List.length_set];exact h.own.aO hk (λb hb hx=>hd.2.2 b (by simp[hb]) b (xQ hg (hL b hx)) rfl),hr,h.nodup,λx hx=>lL (h.lt x hx) hk.size⟩
section
variable {P:Program} {n:Nat} {ops:Array Oper} {K:Env->World->Prop} {rest:List Oper} {e:Env} {w:World}
 {dst:Option Nat} {ty:TypeId} {pos:String} {after:Array Edge} {g:Option (Nat×Bool)} {x y:Operand}
end
def Ru (k:Nat):(48:Int)+((k%10:Nat):Int)=((UInt8.ofNat (48+k%10)).toNat:Int):=by
 have:(48+k%10)%256=48+k%10:=Nat.mod_eq_of_lt om
 simp only[UInt8.toNat_ofNat',Nat.reducePow]
 omega
def dj.form {w:World} {T:TypeId} {a:Option Addr} {n c:Nat} {g:Option Nat} {xs:List aj} (h:dj w T (.slice a n c) g xs) (hx:0<xs.length):∃b,a=some ⟨b,0,none⟩∧g=some b:=by
 rcases h.2 with⟨_,h,_⟩|⟨b,_,_,e,hv,_⟩
 ·omega
 ·cases hv;exact⟨b,rfl,e⟩
def dj.cases {w:World} {T:TypeId} {v:Value} {g:Option Nat} {xs:List aj} (h:dj w T v g xs):∃a c,v= .slice a xs.length c:=jZ.len h
def mu.get {w:World} {TB TS:TypeId} {a:Option Addr} {n c:Nat} {g:Option Nat} {gss:List (Option Nat×Option Nat)} {vss:List (List Value)} {bs:List Bk} {i:Nat} (h:mu w TB TS (.slice a n c) g gss vss bs) (hi:i<bs.length):
  ∃b gs a1 c1 a2 c2,a=some ⟨b,0,none⟩∧g=some b∧b<w.heap.size∧b∉jO gs∧gss[i]?=some gs∧vss[i]?=some [str (bB bs i).aP,.slice a1 (bB bs i).cP.length c1,.slice a2 (bB bs i).code.length c2]∧
   iS w b (0+i*3) [str (bB bs i).aP,.slice a1 (bB bs i).cP.length c1,.slice a2 (bB bs i).code.length c2]∧
   dj w TS (.slice a1 (bB bs i).cP.length c1) gs.1 (bB bs i).cP∧dj w TS (.slice a2 (bB bs i).code.length c2) gs.2 (bB bs i).code∧(∀x,gs.1=some x->gs.2=some x->False):=by
 have hd:=List.nodup_append.1 h.nodup
 obtain⟨gi,ja,wj⟩:=h.rows.lens
 obtain⟨gs,vs,jP,bo,v1,v2,rfl,dS,eH⟩:=h.rows.get (sC hi)
 obtain⟨a1,c1,rfl⟩:=dj.cases dS
 obtain⟨a2,c2,rfl⟩:=dj.cases eH
 obtain⟨hl,hz|⟨b,cap,cur,oI,hv,hb,nM,mL,cL,ht⟩⟩:=h.own
 ·obtain⟨_,hz,_⟩:=hz;omega
 ·cases hv
  subst oI
  refine⟨b,gs,a1,c1,a2,c2,rfl,rfl,hb.lt,λhx=>hd.2.2 b sm b (xQ jP hx) rfl,jP,bo,λj v hj=>?_,dS,eH,λx h1 h2=>?_⟩
  ·have hf:=EH wj bo hj
   have eW:i*3+j<vss.flatten.length:=(List.getElem?_eq_some_iff.1 hf).1
   rw[hb.cell,Nat.zero_add]
   have h2:=ht
   have:(cur.toList.take (bs.length*3))[i*3+j]?=some v:=by rw[ht];exact hf
   rw[List.getElem?_take] at this
   split at this
   ·simpa using this
   ·cases this
  ·have hn:(jO gs).Nodup:=by
    have:∀{gss:List (Option Nat×Option Nat)} {i:Nat},(im gss).Nodup->gss[i]?=some gs->(jO gs).Nodup:=by
     intro gss
     induction gss with
     |nil=>intro i _ h;simp at h
     |cons p q ih=>
      intro i hn hg
      rw[BL,List.nodup_append] at hn
      cases i with
      |zero=>simp at hg;subst hg;exact hn.1
      |succ i=>exact ih hn.2.1 (by simpa using hg)
    exact this hd.2.1 jP
   simp[jO,h1,h2] at hn
/-! ### What it gives -/
section
variable {p:List gB} {st:TS} {o:Nat} {t:aA}
end
/-! ### Sizes of what is given -/
def size_pos (t:aA):1<=t.size:=by have:=xJ t;omega
def Lq (t:aA):∀m,t.size<=m->WF t->t.text.length+1<=2*t.size:=by
 intro m
 induction m generalizing t with
 |zero=>intro h;have:=size_pos t;omega
 |succ m ih=>
  intro hm dz
  cases dz with
  |az a ha=>rw[sE ha];simp only[aA.size,aA.size.sizes];omega
  |list ps hp hw=>
   rw[rb]
   have e:(aA.mk [] ps).size=1+aA.size.sizes ps:=by simp[aA.size]
   rw[e]
   have abX:∀qs:List aA,qs≠[]->(∀p,p∈qs->p.text.length+1<=2*p.size)->(mq qs).length+1<=2*aA.size.sizes qs:=by
    intro qs
    induction qs with
    |nil=>intro h;exact absurd rfl h
    |cons q qs xz=>
     intro _ h
     have h1:=h q sm
     cases qs with
     |nil=>rw[pL];simp only[aA.size.sizes];omega
     |cons u us=>
      have h2:=xz sm (λp hp=>h p (by simp[hp]))
      rw[l6];simp only[aA.size.sizes,lA,lC] at h2⊢;omega
   have aq:=abX ps hp (λp Du=>by
    obtain⟨i,hi,rfl⟩:=List.getElem_of_mem Du
    have h3:=Qc (t:=.mk [] ps) (p:=ps[i]) (i:=i) (gE hi)
    exact ih _ om (hw _ Du))
   simp only[lC,lA,lN];omega
section
variable {p:List gB} {st:TS} {o:Nat} {t:aA}
end
def abY {t:aA} (h:Good t):t.text≠[]:=by
 obtain⟨c,r,e⟩:=QW h
 rw[e];simp
structure Dw (s:aj) (t:aA):Prop where
 some:∀t',ba s=some t'->t=t'
 none:s=[]->cJ t=[]
def Rv:ba []=none:=by decide
def abZ (w:World):ck Tryz.prog 66 [str [],.int .i64 0,.int .i64 0] w λr w'=>r= .tuple #[.agg #[str [],.slice none 0 0],.int .i64 (-1)]∧ak [] w w':=by
 have hK:=ak.refl [] w
 refine lH [.cell 6 66,.tmp 7] 87 Tryz.func66 rfl HG rfl rfl rfl ?_
 refine zr<|eD aH rfl rfl rfl ?_
 intro w1 aK bQ eh
 have hK:=hK.grow;have hK:=hK.ext aK
 refine zA<|ag<|zr<|j7 (E1 _) rfl rfl<|eD aH rfl rfl rfl ?_
 intro w2 aq dx eO
 have hK:=hK.grow;have hK:=hK.ext aq;have bQ:=bQ.grow;have bQ:=bQ.ext aq
 refine dw aH rfl rfl rfl dx rfl ?_
 intro w3 aJ dx iJ
 have hK:=hK.aL aJ sx;have bQ:=bQ.aL aJ sx
 refine ag<|aQ<|zr<|zm<|jz rfl rfl rfl rfl rfl<|zm ?_
 apply fB 5 15 20 [15,16,17,18,19,20] (λw'=>w3=w') rfl
 intro h1
 replace h1:=bw h1
 refine zs<|zs<|zs<|zs<|zp rfl<|ag ?_
 exact mg rfl rfl
 intro h1
 replace h1:=bw h1
 refine zm<|zm<|kO fh rfl rfl rfl<|l0 rfl rfl rfl rfl rfl<|zp rfl<|ag ?_
 exact mg rfl rfl
 rintro xx _ rfl
 refine ag<|zc rfl (λh2=>?_) (λh2=>?_)
 refine zr<|zL bU aH rfl dx.all rfl<|dw aH rfl rfl rfl bQ rfl ?_
 intro w4 aF bQ iU
 have hK:=hK.aL aF sx
 refine zA<|ag<|aV ?_
 exact⟨[_,_],⟨gQ bU aH rfl bQ rfl,rfl⟩,rfl,hK⟩
 simp at h2
def H3 (s:aj) (L:List Nat) (w:World) (hL:∀x,x∈L->x<w.heap.size):
  ck Tryz.prog 38 [str s] w λv w'=>(∃t tv,v= .tuple #[tv,.bool (ba s).isSome]∧bT L w' tv t∧Dw s t)∧ak [] w w':=by
 by_cases hs:s=[]
 ·subst hs
  have hK:=ak.refl [] w
  refine lH [.cell 2 66,.tmp 3] 20 Tryz.func38 rfl PQ rfl rfl rfl ?_
  refine zr<|eD aH rfl rfl rfl ?_
  intro w1 aK aZ eh
  have hK:=hK.grow;have hK:=hK.ext aK
  refine zA<|ag<|aQ<|zr<|zm<|kO fh rfl rfl rfl<|jz rfl rfl rfl rfl rfl<|ag<|zc rfl (λh1=>?_) (λh1=>?_)
  simp at h1
  refine bz<|zr<|zm<|aC (abZ w1) ?_
  rintro v2 w2 ⟨dC,aq⟩
  have eH:=aq.size
  have hK:=hK.ext aq;have aZ:=aZ.ext aq
  obtain rfl:=dC
  refine zm<|zx (i:=0) rfl rfl<|zx (i:=1) rfl rfl<|eD aH rfl rfl rfl ?_
  intro w3 aJ aI iJ
  have hK:=hK.grow;have hK:=hK.ext aJ;have aZ:=aZ.grow;have aZ:=aZ.ext aJ
  refine dw aH rfl rfl rfl aI rfl ?_
  intro w4 aF aI iU
  have hK:=hK.aL aF sx;have aZ:=aZ.aL aF sx
  refine zA<|ag<|zr<|zL bU aH rfl aI.all rfl<|zm<|zm<|kO fh rfl rfl rfl<|dQ rfl rfl rfl<|dw aH rfl rfl rfl aZ rfl ?_
  intro w5 aU aZ jr
  have hK:=hK.aL aU sx
  refine zA<|ag<|aV ?_
  exact⟨[_,_],⟨gQ bU aH rfl aZ rfl,rfl⟩,⟨.mk [] [],_,by rw[Rv];rfl,lG o3,λt' h=>(by rw[Rv] at h;cases h),λ_=>rfl⟩,hK⟩
 ·obtain⟨h1,h2⟩:=zH s L w hL
  exact⟨h1,Calls.mono h2 λe w' ⟨v,he,⟨t,tv,hv,ht,hp⟩,hk⟩=>⟨v,he,⟨t,tv,hv,ht,hp,λe=>absurd e hs⟩,hk⟩⟩
def Gr.form {B:Nat} {L:List Nat} {w:World} {T:TypeId} {sz:Nat} {a:Option Addr} {n c:Nat} {g:Option Nat} {rows:List (List C)} (h:Gr B L w T sz (.slice a n c) g rows) (hp:0<rows.length):∃b,a=some ⟨b,0,none⟩∧g=some b:=by
 obtain⟨xs,hx⟩:=h.own
 rcases hx.own.2 with⟨_,h0,_⟩|⟨b,_,_,e,hv,_⟩
 ·omega
 ·cases hv;exact⟨b,rfl,e⟩
def zX (ps:List aj) (hl:ps.length<=1000000000) (s:aj) (v:Value) (L:List Nat) (w:World) (hv:bI L w v ps):ck Tryz.prog 177 [v,str s] w λr w'=>r= .bool (decide (s∈ps))∧ak [] w w':=by
 obtain⟨a,n,c,rfl,hn⟩:=eP hv
 subst hn
 have hK:=ak.refl [] w
 refine cX [.tmp 4] 18 Tryz.func177 rfl YE rfl rfl ?_
 refine zr<|zA<|ag<|aQ<|zr<|zA<|ag<|cS ?_
 refine fY (λk:Nat=>[(0,.slice a ps.length c),(1,str s),(5,.int .i64 (k:Int))]) (λk w'=>ak [] w w'∧k<=ps.length∧∀i,i<k->aD ps i≠s) (λk=>ps.length-k) (0) (⟨rfl,rfl,rfl⟩) (⟨hK,om,by intro i hi;omega⟩) ?_
 intro gg w1 e1 hI
 obtain⟨hK,hk,dA⟩:=hI
 refine aQ<|zr<|zm<|zm<|dZ bh rfl<|fA rfl rfl rfl<|ag<|zc rfl (λh1=>?_) (λh1=>?_)
 have hg:=lp (xs:=ps) (i:=gg) om
 obtain⟨b1,ga,rfl,bC⟩:=qX hv hg
 refine bz<|aQ<|cS<|zr<|zm<|zm<|zi bh bA rfl rfl om<|zl cm rfl (bC.ext hK 0 _ rfl)<|zm<|cY rfl rfl<|ag<|zc rfl (λh2=>?_) (λh2=>?_)
 have hq:s∈ps:=(by rw[<-h2];exact List.mem_of_getElem? hg)
 refine zr<|zA<|ag<|aV ?_
 exact⟨_,rfl,by rw[dT hq];rfl,hK⟩
 have eN:=h2
 refine bz<|df<|zm<|eI rfl rfl rfl (wrap_i64 _ om om)<|zA<|ag ?_
 exact⟨gg+1,⟨rfl,rfl,rfl⟩,⟨hK,om,by intro i hi;rcases Nat.lt_or_ge i gg with h|h;exact dA i h;rw[show i=gg by omega];exact eN⟩,om⟩
 have hq:¬s∈ps:=(λhm=>by obtain⟨i,hi,e⟩:=List.getElem_of_mem hm;exact dA i om (by simp[aD,gE hi,e]))
 refine gD<|gF rfl<|zr<|zA<|ag<|aV ?_
 exact⟨_,rfl,by rw[dF hq];rfl,hK⟩
def ab0 {n:Nat} (h:n<10):(48:Int)+(n:Int)=((UInt8.ofNat (48+n)).toNat:Int):=by
 have:=Ru n
 rwa [Nat.mod_eq_of_lt h] at this
def BM (z:Int) (v:Value) (w:World):Prop:=∃b,v= .slice (some ⟨b,0,none⟩) 1 1∧aY w b [.int .u8 z].toArray 5
def BM.ext {z:Int} {v:Value} {w w':World} (h:BM z v w) (k:ak [] w w'):BM z v w':=by
 obtain⟨b,e,h⟩:=h
 exact⟨b,e,h.ext k⟩
def Dx:∀(m n:Nat),n<=m->(bf n).length<=n+1
 |m,n,h=>by
  rw[bf]
  by_cases h9:n<10
  ·rw[iP h9];simp
  ·rw[iN h9]
   cases m with
   |zero=>omega
   |succ m=>have:=Dx m (n/10) om;simp only[lA,List.length_singleton];omega
def iQ:∀(m n:Nat),n<m->n<=1000000->∀w:World,ck Tryz.prog 104 [.int .i64 (n:Int)] w λr w'=>r=str (bf n)∧ak [] w w':=by
 intro m
 induction m with
 |zero=>intro n hn;omega
 |succ m ih=>
  intro n hn h9 w
  have hK:=ak.refl [] w
  have hl:=Dx _ (n/10) (lR _)
  refine cX [.tmp 2] 28 Tryz.func104 rfl XJ rfl rfl ?_
  refine zr<|zA<|ag<|aQ<|zr<|zm<|fA rfl rfl rfl<|ag<|zc rfl (λh1=>?_) (λh1=>?_)
  omega
  refine bz<|aQ<|zr<|zm<|fA rfl rfl rfl<|ag<|zc rfl (λh2=>?_) (λh2=>?_)
  omega
  refine bz<|aQ<|zr<|zm<|fA rfl rfl rfl<|ag<|zc rfl (λh3=>?_) (λh3=>?_)
  refine zr<|zm<|eI rfl rfl rfl (wrap_i64 _ om om)<|xv xG zD rfl rfl rfl (wrap_u8 _ om om)<|gH qU Df rfl rfl ?_
  intro w1 aK wk eh
  have hK:=hK.ext aK
  refine Rq qU zD fh rfl rfl rfl wk (ab0 om)<|zA<|ag<|aV ?_
  exact⟨_,rfl,cA str (show[UInt8.ofNat (48+n)]=bf n from by rw[bf,iP om]),hK⟩
  have gI:¬n<10:=by omega
  refine bz<|aQ ?_
  refine ql et aS 10 (rA 18 10) (rA 18 10) [[],[0],[1],[],[3],[4],[5],[6],[7],[2,8]] [λv _=>v=(.int .i64 (n:Int)),λv _=>v=(.int .i64 ((n/10:Nat):Int)),λv _=>v=(str (bf (n/10))),λv _=>v=(.int .i64 (n:Int)),λv _=>v=(.int .i64 ((n%10:Nat):Int)),λv _=>v=(.int .i64 ((48:Int)+((n%10:Nat):Int))),λv _=>v=(.int .u8 ((48:Int)+((n%10:Nat):Int))),fun(v:Value) (ww:World)=>BM ((48:Int)+((n%10:Nat):Int)) v ww,λv _=>v=(str [UInt8.ofNat (48+n%10)]),λv _=>v=(str (bf (n/10)++[UInt8.ofNat (48+n%10)]))] de (cZ (cZ (cZ (cZ (cZ (cZ (cZ (Xi (λv w w' h k=>BM.ext h k) (cZ (cZ trivial)))))))))) (λwd aB=>?_) ?_
  refine bN ?_ ?_
  intro x vs w1 e aK hd he
  replace aK:=aS.trans aB aK
  replace he:e=aM (aN _ x _) []:=he
  subst he
  refine zm<|ag ?_
  exact dn (aS.refl _) rfl
  refine bN ?_ ?_
  intro x vs w1 e aK hd he
  have d0:vs 0=(.int .i64 (n:Int)):=hd
  replace aK:=aS.trans aB aK
  replace he:e=aM (aN _ x _) [(18,vs 0)]:=he
  rw[d0] at he
  subst he
  refine Kf (b:=10) rfl rfl rfl rfl rfl om (wrap_i64 _ om om)<|ag ?_
  exact dn (aS.refl _) rfl
  refine bN ?_ ?_
  intro x vs w1 e aK hd he
  have d1:vs 1=(.int .i64 ((n/10:Nat):Int)):=hd
  replace aK:=aS.trans aB aK
  replace he:e=aM (aN _ x _) [(19,vs 1)]:=he
  rw[d1] at he
  subst he
  refine aC (ih (n/10) om om w1) ?_
  rintro v2 w2 ⟨dC,aq⟩
  have eH:=aq.size
  obtain rfl:=dC
  refine ag ?_
  exact dn (aS.of aq) rfl
  refine bN ?_ ?_
  intro x vs w1 e aK hd he
  replace aK:=aS.trans aB aK
  replace he:e=aM (aN _ x _) []:=he
  subst he
  refine zm<|ag ?_
  exact dn (aS.refl _) rfl
  refine bN ?_ ?_
  intro x vs w1 e aK hd he
  have d3:vs 3=(.int .i64 (n:Int)):=hd
  replace aK:=aS.trans aB aK
  replace he:e=aM (aN _ x _) [(21,vs 3)]:=he
  rw[d3] at he
  subst he
  refine EJ (b:=10) rfl rfl rfl rfl rfl om<|ag ?_
  exact dn (aS.refl _) rfl
  refine bN ?_ ?_
  intro x vs w1 e aK hd he
  have d4:vs 4=(.int .i64 ((n%10:Nat):Int)):=hd
  replace aK:=aS.trans aB aK
  replace he:e=aM (aN _ x _) [(22,vs 4)]:=he
  rw[d4] at he
  subst he
  refine eI rfl rfl rfl (wrap_i64 _ om om)<|ag ?_
  exact dn (aS.refl _) rfl
  refine bN ?_ ?_
  intro x vs w1 e aK hd he
  have d5:vs 5=(.int .i64 ((48:Int)+((n%10:Nat):Int))):=hd
  replace aK:=aS.trans aB aK
  replace he:e=aM (aN _ x _) [(23,vs 5)]:=he
  rw[d5] at he
  subst he
  refine xv xG zD rfl rfl rfl (wrap_u8 _ om om)<|ag ?_
  exact dn (aS.refl _) rfl
  refine bN ?_ ?_
  intro x vs w1 e aK hd he
  have d6:vs 6=(.int .u8 ((48:Int)+((n%10:Nat):Int))):=hd
  replace aK:=aS.trans aB aK
  replace he:e=aM (aN _ x _) [(24,vs 6)]:=he
  rw[d6] at he
  subst he
  refine gH qU Df rfl rfl ?_
  intro w2 aq BN eO
  refine ag ?_
  exact dn (aS.of aq) ⟨_,rfl,BN⟩
  refine bN ?_ ?_
  intro x vs w1 e aK hd he
  have d7:(fun(v:Value) (ww:World)=>BM ((48:Int)+((n%10:Nat):Int)) v ww) (vs 7) w1:=hd
  replace aK:=aS.trans aB aK
  replace he:e=aM (aN _ x _) [(25,vs 7)]:=he
  obtain⟨b7,e7,BN⟩:=d7
  rw[e7] at he
  subst he
  refine Rq qU zD fh rfl rfl rfl BN (Ru n)<|ag ?_
  exact dn (aS.refl _) rfl
  refine bN ?_ ?_
  intro x vs w1 e aK hd he
  have aR:(vs 2=(str (bf (n/10))))∧(vs 8=(str [UInt8.ofNat (48+n%10)])):=hd
  obtain⟨d2,d8⟩:=aR
  replace aK:=aS.trans aB aK
  replace he:e=aM (aN _ x _) [(20,vs 2),(26,vs 8)]:=he
  rw[d2,d8] at he
  subst he
  refine cu rfl rfl so<|ag ?_
  exact dn (aS.refl _) rfl
  exact trivial
  intro x vs Ls ab1 bJ
  have d0:vs 0=(.int .i64 (n:Int)):=bJ 0 de
  have d1:vs 1=(.int .i64 ((n/10:Nat):Int)):=bJ 1 de
  have d2:vs 2=(str (bf (n/10))):=bJ 2 de
  have d3:vs 3=(.int .i64 (n:Int)):=bJ 3 de
  have d4:vs 4=(.int .i64 ((n%10:Nat):Int)):=bJ 4 de
  have d5:vs 5=(.int .i64 ((48:Int)+((n%10:Nat):Int))):=bJ 5 de
  have d6:vs 6=(.int .u8 ((48:Int)+((n%10:Nat):Int))):=bJ 6 de
  have d7:(fun(v:Value) (ww:World)=>BM ((48:Int)+((n%10:Nat):Int)) v ww) (vs 7) Ls:=bJ 7 de
  have d8:vs 8=(str [UInt8.ofNat (48+n%10)]):=bJ 8 de
  have d9:vs 9=(str (bf (n/10)++[UInt8.ofNat (48+n%10)])):=bJ 9 de
  have hK:=hK.ext ab1
  change OW _ _ _ _ _ (aM (aN _ x _) (zZ 18 [vs 0,vs 1,vs 2,vs 3,vs 4,vs 5,vs 6,vs 7,vs 8,vs 9])) _
  rw[d0,d1,d2,d3,d4,d5,d6,d8,d9]
  refine zA<|ag<|aV ?_
  exact⟨_,rfl,cA str (show bf (n/10)++[UInt8.ofNat (48+n%10)]=bf n from by conv=>(rhs;rw[bf,iN gI])),hK⟩
def zY (s:aj) (w:World):ck Tryz.prog 180 [str s] w λr w'=>r= .agg #[str s,.slice none 0 0]∧ak [] w w':=by
 have hK:=ak.refl [] w
 refine lH [.cell 2 66] 5 Tryz.func180 rfl YH rfl rfl rfl ?_
 refine zr<|eD aH rfl rfl rfl ?_
 intro w1 aK aZ eh
 have hK:=hK.grow;have hK:=hK.ext aK
 refine ag<|zr<|zm<|j7 (ZY _ _) rfl rfl<|dw aH rfl rfl rfl aZ rfl ?_
 intro w2 aq aZ eO
 have hK:=hK.aL aq sx
 refine ag<|aV ?_
 exact⟨[_],gQ bU aH rfl aZ rfl,rfl,hK⟩
/-! ### Types -/
inductive Ty where
 |i
 |op (f:Bool) (a b:Ty)
def kt (f:Bool):aj:=if f then[62] else[42]
def Ty.av:Ty->aA
 | .i=>cg [105]
 | .op f a b=>.mk [] [cg (kt f),a.av,b.av]
def Ty.text (t:Ty):aj:=t.av.text
def Ty.n:Ty->Nat
 | .i=>1
 | .op _ a b=>1+a.n+b.n
def ab2 (f:Bool):Good (cg (kt f)):=by cases f<;>exact .az _ de de
def Ty.oJ (t:Ty):Good t.av:=by
 induction t with
 |i=>exact .az _ de de
 |op f a b iha ihb=>
  refine .list _ sm λp hp=>?_
  simp only[mC,nN,oF] at hp
  rcases hp with rfl|rfl|rfl
  ·exact ab2 f
  ·exact iha
  ·exact ihb
def ab3 (f:Bool):(cg (kt f)).text=kt f:=by cases f<;>exact sE de
def Ty.Lt:Ty.i.text=[105]:=sE de
def Ty.H4 (f:Bool) (a b:Ty):(Ty.op f a b).text=40::(kt f++32::(a.text++32::(b.text++[41]))):=by
 show(aA.mk [] [cg (kt f),a.av,b.av]).text=_
 rw[rb,l6,l6,pL,ab3]
 simp[Ty.text]
def Lu (f:Bool):(kt f).length=1:=by cases f<;>rfl
def Ty.pos (t:Ty):1<=t.n:=by cases t<;>simp[Ty.n];omega
def Ty.len (t:Ty):t.text.length+3<=4*t.n:=by
 induction t with
 |i=>rw[Ty.Lt];simp[Ty.n]
 |op f a b iha ihb=>
  rw[Ty.H4]
  simp only[lC,lA,lN,Lu,Ty.n]
  omega
def Ty.deep (t:Ty):t.av.depth+1<=t.n:=by
 induction t with
 |i=>simp[Ty.av,cg,aA.depth,aA.depth.deeps,Ty.n]
 |op f a b iha ihb=>
  have h0:(cg (kt f)).depth=0:=rfl
  have h1:=a.pos
  have h2:=b.pos
  show aA.depth.deeps [cg (kt f),a.av,b.av]+1<=_
  simp only[aA.depth.deeps,h0,Ty.n]
  omega
def Ty.size (t:Ty):t.av.size<=5*t.n:=by
 induction t with
 |i=>simp[Ty.av,cg,aA.size,aA.size.sizes,Ty.n]
 |op f a b iha ihb=>
  have h0:(cg (kt f)).size=2:=by cases f<;>rfl
  show 1+0+aA.size.sizes [cg (kt f),a.av,b.av]<=_
  simp only[aA.size.sizes,h0,Ty.n];omega
def Ty.ba {t:Ty} (h:t.n<=60):ba t.text=some t.av:=Lc t.oJ (by have:=t.deep;omega) (by have:=t.len;show t.text.length<=_;omega)
def Ty.ne (t:Ty):t.text≠[]:=abY t.oJ
def Fl:∀{t u:Ty},t.av=u.av->t=u
 | .i,.i,_=>rfl
 | .i,.op _ _ _,h=>by simp[Ty.av,cg] at h
 | .op _ _ _,.i,h=>by simp[Ty.av,cg] at h
 | .op f a b,.op g c d,h=>by
  simp only[Ty.av,aA.mk.injEq,true_and,List.cons.injEq,and_true] at h
  obtain⟨h1,h2,h3⟩:=h
  rw[Fl h2,Fl h3]
  cases f<;>cases g<;>first|rfl|(simp[cg,kt] at h1)
def Ty.inj {t u:Ty} (h:t.text=u.text):t=u:=Fl (Lb t.oJ u.oJ h)
/-! ### Forms that are types -/
mutual
def fP:aA->Nat
 | .mk a ps=>if a≠[] then 1 else jQ ps
def jQ:List aA->Nat
 |[]=>0
 |t::ts=>fP t+jQ ts
end
def Lv:∀(xs ys:List aA),jQ (xs++ys)=jQ xs+jQ ys
 |[],ys=>by simp[jQ]
 |x::xs,ys=>by simp[jQ,Lv xs ys];omega
def Lw (t:aA):fP t=if t.az≠[] then 1 else jQ t.au:=by cases t with|mk a ps=>rw[fP];rfl
def Rw {ps:List aA} {i:Nat} {p:aA} (h:ps[i]?=some p):jQ (ps.take (i+1))=jQ (ps.take i)+fP p:=by
 rw[List.take_add_one,h,Lv];simp[jQ]
mutual
def ab4:∀t:aA,fP t<=t.size
 | .mk a ps=>by
  have:=Ly ps
  unfold fP
  simp only[aA.size]
  split<;>omega
def Ly:∀ps:List aA,jQ ps<=aA.size.sizes ps
 |[]=>by simp[jQ]
 |t::ts=>by
  have h1:=ab4 t
  have h2:=Ly ts
  simp only[jQ,aA.size.sizes];omega
end
def Lz {a:aj} (h:a≠[]):fP (cg a)=1:=by simp[fP,cg,h]
def Ty.fP (t:Ty):fP t.av=t.n:=by
 induction t with
 |i=>simp[Ty.av,Lz,Ty.n]
 |op f a b iha ihb=>
  have h0:Go.Proofs.YtigijcjccmdmhaaGreatDoor.fP (cg (kt f))=1:=Lz (by cases f<;>decide)
  show Go.Proofs.YtigijcjccmdmhaaGreatDoor.fP (.mk [] [cg (kt f),a.av,b.av])=_
  simp only[Go.Proofs.YtigijcjccmdmhaaGreatDoor.fP,jQ,h0,iha,ihb,Ty.n]
  simp;omega
mutual
def o7:aA->Bool
 | .mk a ps=>if a≠[] then decide (a=[105]) else sH ps
def sH:List aA->Bool
 |[h,x,y]=>(decide (h.az=[62])||decide (h.az=[42]))&&(o7 x&&o7 y)
 |_=>false
end
def Rx (t:aA):o7 t=if t.az≠[] then decide (t.az=[105]) else sH t.au:=by cases t with|mk a ps=>rw[o7];rfl
def ab5 {t:aA} (hw:WF t):o7 t=true↔∃u:Ty,t=u.av:=by
 constructor
 ·intro h
  have key:∀m (t:aA),t.size<=m->WF t->o7 t=true->∃u:Ty,t=u.av:=by
   intro m
   induction m with
   |zero=>intro t ht;have:=xJ t;omega
   |succ m ih=>
    intro t hm hw h
    cases hw with
    |az a ha=>
     simp only[o7,iP ha,dE] at h
     exact⟨.i,by rw[h];rfl⟩
    |list ps hp hw=>
     simp only[o7] at h
     rw[iN de] at h
     match ps,h with
     |[hd,x,y],h=>
      simp only[sH,aE,oE,dE] at h
      obtain⟨hs,hx,hy⟩:=h
      simp only[aA.size,aA.size.sizes] at hm
      obtain⟨u,rfl⟩:=ih x om (hw x sm) hx
      obtain⟨v,rfl⟩:=ih y om (hw y sm) hy
      have tG:∀s:aj,s≠[]->hd.az=s->hd=cg s:=λs oB e=>by
       have hwh:=hw hd sm
       cases hwh with
       |az a ha=>cases e;rfl
       |list qs _ _=>exact absurd e.symm oB
      rcases hs with hs|hs
      ·exact⟨.op true u v,by rw[tG _ de hs];rfl⟩
      ·exact⟨.op false u v,by rw[tG _ de hs];rfl⟩
  exact key t.size t (lR _) hw h
 ·rintro⟨u,rfl⟩
  induction u with
  |i=>rfl
  |op f a b iha ihb=>
   show o7 (.mk [] [cg (kt f),a.av,b.av])=true
   have:=iha a.oJ.wf
   have:=ihb b.oJ.wf
   simp only[o7,sH, *]
   cases f<;>simp[cg,kt,aA.az]
def ku (t:aA):Bool:=o7 t&&decide (fP t<=16)
def xR {t:aA} (hw:WF t):ku t=true↔∃u:Ty,t=u.av∧u.n<=16:=by
 unfold ku
 rw[aE,dE,ab5 hw]
 constructor
 ·rintro⟨⟨u,rfl⟩,h⟩;exact⟨u,rfl,by rw[<-u.fP];exact h⟩
 ·rintro⟨u,rfl,h⟩;exact⟨⟨u,rfl⟩,by rw[u.fP];exact h⟩
/-! ### Names -/
def eQ (s:aj):Bool:=decide (1<=s.length)&&decide (s.length<=4)&&(decide (97<=s.getD 0 0)&&decide (s.getD 0 0<=122))&&(s.drop 1).all il
def qu (s:aj):Bool:=(numeral s).isSome||eQ s
def uQ {s:aj} (h:eQ s=true):s≠[]:=by rintro rfl;simp[eQ] at h
/-! ### Expressions -/
inductive Ex where
 |at(s:aj)
 |un (h:aj) (a:Ex)
 |bi (h:aj) (a b:Ex)
 |ite (a b c:Ex)
 |lt (x:aj) (a b:Ex)
 |fn (f x:aj) (A B:Ty) (e:Ex)
abbrev cE:aj:=[105,102]
abbrev gO:aj:=[108,101,116]
abbrev iq:aj:=[102,117,110]
abbrev BO:aj:=[102,115,116]
abbrev rh:aj:=[115,110,100]
abbrev kF:aj:=[99,97,108,108]
abbrev xS:aj:=[112,97,105,114]
def Ex.av:Ex->aA
 | .at s=>cg s
 | .un h a=>.mk [] [cg h,a.av]
 | .bi h a b=>.mk [] [cg h,a.av,b.av]
 | .ite a b c=>.mk [] [cg cE,a.av,b.av,c.av]
 | .lt x a b=>.mk [] [cg gO,cg x,a.av,b.av]
 | .fn f x A B e=>.mk [] [cg iq,cg f,cg x,A.av,B.av,e.av]
def gS (h:aj):Bool:=decide (h=BO)||decide (h=rh)
def iB (h:aj):Bool:=decide (h=[43])||decide (h=[45])||decide (h=[42])||decide (h=kF)||decide (h=xS)
def Ex.ok:Ex->Prop
 | .at s=>qu s=true
 | .un h a=>gS h=true∧a.ok
 | .bi h a b=>iB h=true∧a.ok∧b.ok
 | .ite a b c=>a.ok∧b.ok∧c.ok
 | .lt x a b=>eQ x=true∧a.ok∧b.ok
 | .fn f x A B e=>eQ f=true∧eQ x=true∧f≠x∧A.n<=16∧B.n<=16∧e.ok
def Ex.n:Ex->Nat
 | .at _=>1
 | .un _ a=>1+a.n
 | .bi _ a b=>1+a.n+b.n
 | .ite a b c=>1+a.n+b.n+c.n
 | .lt _ a b=>2+a.n+b.n
 | .fn _ _ A B e=>3+A.n+B.n+e.n
mutual
def dV:aA->Bool
 | .mk a ps=>if a≠[] then qu a else nV ps
def nV:List aA->Bool
 |[h,a]=>gS h.az&&dV a
 |[h,a,b]=>iB h.az&&(dV a&&dV b)
 |[h,a,b,c]=>if h.az=cE then dV a&&(dV b&&dV c) else if h.az=gO then eQ a.az&&(dV b&&dV c) else false
 |[h,f,x,A,B,e]=>decide (h.az=iq)&&(eQ f.az&&eQ x.az&&decide (f.az≠x.az)&&ku A&&ku B&&dV e)
 |_=>false
end
def z1 {t:aA} {s:aj} (hw:WF t) (hs:s≠[]) (e:t.az=s):t=cg s:=by
 cases hw with
 |az a ha=>cases e;rfl
 |list qs _ _=>exact absurd e.symm hs
def Ry {h:aj} (k:gS h=true):h≠[]:=by rintro rfl;cases k
def Rz {h:aj} (k:iB h=true):h≠[]:=by rintro rfl;cases k
def pN {s:aj} (k:qu s=true):s≠[]:=by rintro rfl;cases k
def ab7 {t:aA} (hw:WF t):dV t=true↔∃e:Ex,t=e.av∧e.ok:=by
 constructor
 ·intro h
  have key:∀m (t:aA),t.size<=m->WF t->dV t=true->∃e:Ex,t=e.av∧e.ok:=by
   intro m
   induction m with
   |zero=>intro t ht;have:=xJ t;omega
   |succ m ih=>
    intro t hm hw h
    cases hw with
    |az a ha=>
     simp only[dV,iP ha] at h
     exact⟨.at a,rfl,h⟩
    |list ps hp hw=>
     simp only[dV] at h
     rw[iN de] at h
     match ps,h with
     |[hd,x],h=>
      simp only[nV,aE] at h
      simp only[aA.size,aA.size.sizes] at hm
      obtain⟨u,rfl,hu⟩:=ih x om (hw x sm) h.2
      exact⟨.un hd.az u,by rw[z1 (hw hd sm) (Ry h.1) rfl];rfl,h.1,hu⟩
     |[hd,x,y],h=>
      simp only[nV,aE] at h
      simp only[aA.size,aA.size.sizes] at hm
      obtain⟨u,rfl,hu⟩:=ih x om (hw x sm) h.2.1
      obtain⟨v,rfl,hv⟩:=ih y om (hw y sm) h.2.2
      exact⟨.bi hd.az u v,by rw[z1 (hw hd sm) (Rz h.1) rfl];rfl,h.1,hu,hv⟩
     |[hd,x,y,z],h=>
      simp only[nV] at h
      simp only[aA.size,aA.size.sizes] at hm
      split at h
      ·rename_i hh
       simp only[aE] at h
       obtain⟨u,rfl,hu⟩:=ih x om (hw x sm) h.1
       obtain⟨v,rfl,hv⟩:=ih y om (hw y sm) h.2.1
       obtain⟨q,rfl,hq⟩:=ih z om (hw z sm) h.2.2
       exact⟨.ite u v q,by rw[z1 (hw hd sm) de hh];rfl,hu,hv,hq⟩
      ·split at h
       ·rename_i hh
        simp only[aE] at h
        obtain⟨v,rfl,hv⟩:=ih y om (hw y sm) h.2.1
        obtain⟨q,rfl,hq⟩:=ih z om (hw z sm) h.2.2
        exact⟨.lt x.az v q,by rw[z1 (hw hd sm) de hh,z1 (hw x sm) (uQ h.1) rfl];rfl,h.1,hv,hq⟩
       ·cases h
     |[hd,f,x,A,B,e],h=>
      simp only[nV,aE,dE] at h
      simp only[aA.size,aA.size.sizes] at hm
      obtain⟨hh,⟨⟨⟨⟨hf,hx⟩,eN⟩,hA⟩,hB⟩,he⟩:=h
      obtain⟨u,rfl,hu⟩:=ih e om (hw e sm) he
      obtain⟨tA,rfl,RA⟩:=(xR (hw A sm)).1 hA
      obtain⟨tB,rfl,H5⟩:=(xR (hw B sm)).1 hB
      exact⟨.fn f.az x.az tA tB u,by rw[z1 (hw hd sm) de hh,z1 (hw f sm) (uQ hf) rfl,z1 (hw x sm) (uQ hx) rfl];rfl,hf,hx,eN,RA,H5,hu⟩
  exact key t.size t (lR _) hw h
 ·rintro⟨e,rfl,bD⟩
  clear hw
  induction e with
  |«at» s=>
   show dV (.mk s [])=true
   simp only[dV];rw[iP (pN bD)];exact bD
  |un h a iha=>
   show dV (.mk [] [cg h,a.av])=true
   simp only[dV];rw[iN de]
   simp only[nV,aE]
   exact⟨bD.1,iha bD.2⟩
  |bi h a b iha ihb=>
   show dV (.mk [] [cg h,a.av,b.av])=true
   simp only[dV];rw[iN de]
   simp only[nV,aE]
   exact⟨bD.1,iha bD.2.1,ihb bD.2.2⟩
  |ite a b c iha ihb ihc=>
   show dV (.mk [] [cg cE,a.av,b.av,c.av])=true
   simp only[dV];rw[iN de]
   simp only[nV]
   rw[iP (show(cg cE).az=cE from rfl)]
   simp only[aE]
   exact⟨iha bD.1,ihb bD.2.1,ihc bD.2.2⟩
  |lt x a b iha ihb=>
   show dV (.mk [] [cg gO,cg x,a.av,b.av])=true
   simp only[dV];rw[iN de]
   simp only[nV]
   rw[iN (show¬(cg gO).az=cE by decide),iP (show(cg gO).az=gO from rfl)]
   simp only[aE]
   exact⟨bD.1,iha bD.2.1,ihb bD.2.2⟩
  |fn f x A B e ih=>
   show dV (.mk [] [cg iq,cg f,cg x,A.av,B.av,e.av])=true
   obtain⟨hf,hx,eN,hA,hB,he⟩:=bD
   simp only[dV];rw[iN de]
   simp only[nV,aE,dE]
   exact⟨rfl,⟨⟨⟨⟨hf,hx⟩,eN⟩,(xR A.oJ.wf).2 ⟨A,rfl,hA⟩⟩,(xR B.oJ.wf).2 ⟨B,rfl,hB⟩⟩,ih he⟩
/-! ### Parts -/
def Ex.head:Ex->aj
 | .at _=>[]
 | .un h _=>h
 | .bi h _ _=>h
 | .ite _ _ _=>cE
 | .lt _ _ _=>gO
 | .fn _ _ _ _ _=>iq
def Ex.from:Ex->Nat
 | .lt _ _ _=>2
 | .fn _ _ _ _ _=>5
 |_=>1
def Ex.kids:Ex->List Ex
 | .at _=>[]
 | .un _ a=>[a]
 | .bi _ a b=>[a,b]
 | .ite a b c=>[a,b,c]
 | .lt _ a b=>[a,b]
 | .fn _ _ _ _ e=>[e]
def Ex.binds:Ex->Nat->List aj
 | .lt x _ _,3=>[x]
 | .fn f x _ _ _,_=>[f,x]
 |_,_=>[]
def Ex.jl:Ex->Bool
 | .at _=>true
 |_=>false
def fL (e:Ex) (j:Nat):Ex:=e.kids.getD j (.at [])
def Ex.wf {e:Ex} (h:e.ok):Good e.av:=by
 have num:∀s:aj,qu s=true->s.all fC=true:=λs hs=>by
  unfold qu at hs
  rw[oE] at hs
  have LA:∀c:UInt8,il c=true->fC c=true:=λc hc=>by
   unfold il at hc;unfold fC
   rw[hc];simp
  rcases hs with hs|hs
  ·cases hn:numeral s with
   |none=>rw[hn] at hs;cases hs
   |some z=>
    unfold numeral at hn
    split at hn
    ·rename_i e;rw[e];decide
    ·split at hn
     ·cases hn
     ·split at hn
      ·rename_i ha
       rw[List.all_eq_true] at ha⊢
       intro c hc
       unfold eA at ha
       split at ha
       ·rename_i hm
        cases s with
        |nil=>simp at hm
        |cons d r=>
         simp only[List.getD_cons_zero,List.drop_succ_cons,List.drop_zero] at hm ha
         rcases mC.1 hc with rfl|hc
         ·rw[hm.2];decide
         ·exact LA c (ha c hc)
       ·exact LA c (ha c hc)
      ·cases hn
  ·cases s with
   |nil=>rfl
   |cons c r=>
    simp only[eQ,aE,dE,List.getD_cons_zero,List.drop_succ_cons,List.drop_zero] at hs
    obtain⟨⟨_,h1,h2⟩,h3⟩:=hs
    rw[List.all_cons,aE]
    refine⟨?_,?_⟩
    ·unfold fC;simp[h1,h2]
    ·rw[List.all_eq_true] at h3⊢
     exact λd hd=>LA d (h3 d hd)
 have nm:∀s:aj,eQ s=true->Good (cg s):=λs hs=>.az _ (uQ hs) (num s (by unfold qu;rw[hs];simp))
 induction e with
 |«at» s=>exact .az _ (pN h) (num s h)
 |un hd a iha=>
  refine .list _ sm λp hp=>?_
  simp only[mC,nN,oF] at hp
  rcases hp with rfl|rfl
  ·obtain⟨k,_⟩:=h
   simp only[gS,oE,dE] at k
   rcases k with k|k<;>(rw[k];exact .az _ de de)
  ·exact iha h.2
 |bi hd a b iha ihb=>
  refine .list _ sm λp hp=>?_
  simp only[mC,nN,oF] at hp
  rcases hp with rfl|rfl|rfl
  ·obtain⟨k,_⟩:=h
   simp only[iB,oE,dE] at k
   rcases k with(((k|k)|k)|k)|k<;>(rw[k];exact .az _ de de)
  ·exact iha h.2.1
  ·exact ihb h.2.2
 |ite a b c iha ihb ihc=>
  refine .list _ sm λp hp=>?_
  simp only[mC,nN,oF] at hp
  rcases hp with rfl|rfl|rfl|rfl
  ·exact .az _ de de
  ·exact iha h.1
  ·exact ihb h.2.1
  ·exact ihc h.2.2
 |lt x a b iha ihb=>
  refine .list _ sm λp hp=>?_
  simp only[mC,nN,oF] at hp
  rcases hp with rfl|rfl|rfl|rfl
  ·exact .az _ de de
  ·exact nm x h.1
  ·exact iha h.2.1
  ·exact ihb h.2.2
 |fn f x A B e ih=>
  refine .list _ sm λp hp=>?_
  simp only[mC,nN,oF] at hp
  obtain⟨hf,hx,_,_,_,he⟩:=h
  rcases hp with rfl|rfl|rfl|rfl|rfl|rfl
  ·exact .az _ de de
  ·exact nm f hf
  ·exact nm x hx
  ·exact A.oJ
  ·exact B.oJ
  ·exact ih he
def Ex.au {e:Ex} (h:e.jl=false):e.av.az=[]∧e.av.au.length=e.from+e.kids.length∧(nth e.av.au 0).az=e.head∧∀j,j<e.kids.length->nth e.av.au (e.from+j)=(fL e j).av:=by
 cases e with
 |«at» s=>cases h
 |un hd a=>exact⟨rfl,rfl,rfl,λj hj=>by
  have:j=0:=by simp[Ex.kids] at hj;omega
  subst this;rfl⟩
 |bi hd a b=>
  refine⟨rfl,rfl,rfl,λj hj=>?_⟩
  simp only[Ex.kids,lC,lN] at hj
  rcases(show j=0∨j=1 by omega) with rfl|rfl<;>rfl
 |ite a b c=>
  refine⟨rfl,rfl,rfl,λj hj=>?_⟩
  simp only[Ex.kids,lC,lN] at hj
  rcases(show j=0∨j=1∨j=2 by omega) with rfl|rfl|rfl<;>rfl
 |lt x a b=>
  refine⟨rfl,rfl,rfl,λj hj=>?_⟩
  simp only[Ex.kids,lC,lN] at hj
  rcases(show j=0∨j=1 by omega) with rfl|rfl<;>rfl
 |fn f x A B e=>exact⟨rfl,rfl,rfl,λj hj=>by
  have:j=0:=by simp[Ex.kids] at hj;omega
  subst this;rfl⟩
def Ex.pos (e:Ex):1<=e.n:=by cases e<;>simp[Ex.n]<;>omega
def Ex.fP {e:Ex} (h:e.ok):fP e.av=e.n:=by
 have xT:∀s:aj,s≠[]->Go.Proofs.YtigijcjccmdmhaaGreatDoor.fP (cg s)=1:=λs hs=>Lz hs
 have nl:∀ps:List aA,Go.Proofs.YtigijcjccmdmhaaGreatDoor.fP (.mk [] ps)=jQ ps:=λps=>by simp[Go.Proofs.YtigijcjccmdmhaaGreatDoor.fP]
 induction e with
 |«at» s=>exact xT s (pN h)
 |un hd a iha=>show Go.Proofs.YtigijcjccmdmhaaGreatDoor.fP (.mk [] [cg hd,a.av])=_;rw[nl];simp only[jQ,xT hd (Ry h.1),iha h.2,Ex.n];omega
 |bi hd a b iha ihb=>show Go.Proofs.YtigijcjccmdmhaaGreatDoor.fP (.mk [] [cg hd,a.av,b.av])=_;rw[nl];simp only[jQ,xT hd (Rz h.1),iha h.2.1,ihb h.2.2,Ex.n];omega
 |ite a b c iha ihb ihc=>show Go.Proofs.YtigijcjccmdmhaaGreatDoor.fP (.mk [] [cg cE,a.av,b.av,c.av])=_;rw[nl];simp only[jQ,xT cE de,iha h.1,ihb h.2.1,ihc h.2.2,Ex.n];omega
 |lt x a b iha ihb=>show Go.Proofs.YtigijcjccmdmhaaGreatDoor.fP (.mk [] [cg gO,cg x,a.av,b.av])=_;rw[nl];simp only[jQ,xT gO de,xT x (uQ h.1),iha h.2.1,ihb h.2.2,Ex.n];omega
 |fn f x A B e ih=>
  obtain⟨hf,hx,_,_,_,he⟩:=h
  show Go.Proofs.YtigijcjccmdmhaaGreatDoor.fP (.mk [] [cg iq,cg f,cg x,A.av,B.av,e.av])=_
  rw[nl];simp only[jQ,xT iq de,xT f (uQ hf),xT x (uQ hx),A.fP,B.fP,ih he,Ex.n];omega
def Fm {e:Ex} (h:e.ok) {j:Nat} (hj:j<e.kids.length):(fL e j).ok∧(fL e j).n<e.n:=by
 cases e with
 |«at» s=>simp[Ex.kids] at hj
 |un hd a=>
  have:j=0:=by simp[Ex.kids] at hj;omega
  subst this;exact⟨h.2,by show a.n<_;simp only[Ex.n];omega⟩
 |bi hd a b=>
  simp only[Ex.kids,lC,lN] at hj
  rcases(show j=0∨j=1 by omega) with rfl|rfl
  ·exact⟨h.2.1,by show a.n<_;simp only[Ex.n];omega⟩
  ·exact⟨h.2.2,by show b.n<_;simp only[Ex.n];omega⟩
 |ite a b c=>
  simp only[Ex.kids,lC,lN] at hj
  rcases(show j=0∨j=1∨j=2 by omega) with rfl|rfl|rfl
  ·exact⟨h.1,by show a.n<_;simp only[Ex.n];omega⟩
  ·exact⟨h.2.1,by show b.n<_;simp only[Ex.n];omega⟩
  ·exact⟨h.2.2,by show c.n<_;simp only[Ex.n];omega⟩
 |lt x a b=>
  simp only[Ex.kids,lC,lN] at hj
  rcases(show j=0∨j=1 by omega) with rfl|rfl
  ·exact⟨h.2.1,by show a.n<_;simp only[Ex.n];omega⟩
  ·exact⟨h.2.2,by show b.n<_;simp only[Ex.n];omega⟩
 |fn f x A B e=>
  have:j=0:=by simp[Ex.kids] at hj;omega
  subst this;exact⟨h.2.2.2.2.2,by show e.n<_;simp only[Ex.n];omega⟩
def eZ (h:aj):Nat×Nat:=
 if iB h then(1,3) else if h=cE then(1,4) else if h=gO then(2,4) else if h=iq then(5,6) else if gS h then(1,2) else(0,0)
def LB {e:Ex} (h:e.ok) (ha:e.jl=false):eZ e.head=(e.from,e.from+e.kids.length):=by
 cases e with
 |«at» s=>cases ha
 |un hd a=>
  obtain⟨k,_⟩:=h
  simp only[gS,oE,dE] at k
  rcases k with k|k<;>(subst k;rfl)
 |bi hd a b=>show eZ hd=_;unfold eZ;rw[h.1];rfl
 |ite a b c=>rfl
 |lt x a b=>rfl
 |fn f x A B e=>rfl
/-! ### Free aX -/
def Fv (x:aj):Ex->Prop
 | .at s=>s=x∧eQ x=true
 | .un _ a=>Fv x a
 | .bi _ a b=>Fv x a∨Fv x b
 | .ite a b c=>Fv x a∨Fv x b∨Fv x c
 | .lt y a b=>Fv x a∨(x≠y∧Fv x b)
 | .fn f y _ _ e=>x≠f∧x≠y∧Fv x e
def cG:Ex->List aj->List aj->List aj
 | .at s,bd,l=>if(!eQ s||decide (s∈bd)||decide (s∈l))=true then l else l++[s]
 | .un _ a,bd,l=>cG a bd l
 | .bi _ a b,bd,l=>cG b bd (cG a bd l)
 | .ite a b c,bd,l=>cG c bd (cG b bd (cG a bd l))
 | .lt x a b,bd,l=>cG b (bd++[x]) (cG a bd l)
 | .fn f x _ _ e,bd,l=>cG e (bd++[f,x]) l
def qv (x:aj):∀(e:Ex) (bd l:List aj),x∈cG e bd l↔x∈l∨(Fv x e∧x∉bd)
 | .at s,bd,l=>by
  unfold cG Fv
  by_cases h:(!eQ s||decide (s∈bd)||decide (s∈l))=true
  ·rw[iP h]
   simp only[oE,Bool.not_eq_true',dE] at h
   refine⟨.inl,λhh=>hh.elim id ?_⟩
   rintro⟨⟨rfl,hn⟩,hb⟩
   rcases h with(h|h)|h
   ·rw[hn] at h;cases h
   ·exact absurd h hb
   ·exact h
  ·rw[iN h]
   simp only[oE,Bool.not_eq_true',dE,not_or,Bool.not_eq_false] at h
   rw[mA,mS]
   refine⟨λhh=>hh.elim .inl (λe=>.inr ⟨⟨e.symm,by rw[e];exact h.1.1⟩,by rw[e];exact h.1.2⟩),λhh=>hh.elim .inl (λe=>.inr e.1.1.symm)⟩
 | .un _ a,bd,l=>qv x a bd l
 | .bi _ a b,bd,l=>by
  unfold cG Fv
  rw[qv x b,qv x a]
  constructor
  ·rintro((h|h)|h)
   ·exact .inl h
   ·exact .inr ⟨.inl h.1,h.2⟩
   ·exact .inr ⟨.inr h.1,h.2⟩
  ·rintro(h|⟨h|h,k⟩)
   ·exact .inl (.inl h)
   ·exact .inl (.inr ⟨h,k⟩)
   ·exact .inr ⟨h,k⟩
 | .ite a b c,bd,l=>by
  unfold cG Fv
  rw[qv x c,qv x b,qv x a]
  constructor
  ·rintro(((h|h)|h)|h)
   ·exact .inl h
   ·exact .inr ⟨.inl h.1,h.2⟩
   ·exact .inr ⟨.inr (.inl h.1),h.2⟩
   ·exact .inr ⟨.inr (.inr h.1),h.2⟩
  ·rintro(h|⟨h|h|h,k⟩)
   ·exact .inl (.inl (.inl h))
   ·exact .inl (.inl (.inr ⟨h,k⟩))
   ·exact .inl (.inr ⟨h,k⟩)
   ·exact .inr ⟨h,k⟩
 | .lt y a b,bd,l=>by
  unfold cG Fv
  rw[qv x b,qv x a]
  simp only[mA,mS,not_or]
  constructor
  ·rintro((h|h)|⟨h,k,k2⟩)
   ·exact .inl h
   ·exact .inr ⟨.inl h.1,h.2⟩
   ·exact .inr ⟨.inr ⟨k2,h⟩,k⟩
  ·rintro(h|⟨h|⟨h,h2⟩,k⟩)
   ·exact .inl (.inl h)
   ·exact .inl (.inr ⟨h,k⟩)
   ·exact .inr ⟨h2,k,h⟩
 | .fn f y _ _ e,bd,l=>by
  unfold cG Fv
  rw[qv x e]
  simp only[mA,mC,nN,oF,not_or]
  constructor
  ·rintro(h|⟨h,k,k2,k3⟩)
   ·exact .inl h
   ·exact .inr ⟨⟨k2,k3,h⟩,k⟩
  ·rintro(h|⟨⟨h,h2,h3⟩,k⟩)
   ·exact .inl h
   ·exact .inr ⟨h3,k,h,h2⟩
def wm:∀(e:Ex) (bd l:List aj),l.Nodup->(cG e bd l).Nodup
 | .at s,bd,l,hl=>by
  unfold cG
  split
  ·exact hl
  ·rename_i h
   simp only[oE,Bool.not_eq_true',dE,not_or,Bool.not_eq_false] at h
   rw[List.nodup_append]
   refine⟨hl,sm,λa ha b hb=>?_⟩
   rw[mS] at hb
   subst hb
   exact λe=>h.2 (e▸ha)
 | .un _ a,bd,l,hl=>wm a bd l hl
 | .bi _ a b,bd,l,hl=>wm b bd _ (wm a bd l hl)
 | .ite a b c,bd,l,hl=>wm c bd _ (wm b bd _ (wm a bd l hl))
 | .lt _ a b,bd,l,hl=>wm b _ _ (wm a bd l hl)
 | .fn _ _ _ _ e,bd,l,hl=>wm e _ l hl
def tJ:∀(e:Ex) (bd l:List aj),(cG e bd l).length<=l.length+e.n
 | .at s,bd,l=>by unfold cG;split<;>simp[Ex.n]
 | .un _ a,bd,l=>by have:=tJ a bd l;simp only[cG,Ex.n];omega
 | .bi _ a b,bd,l=>by have:=tJ a bd l;have:=tJ b bd (cG a bd l);simp only[cG,Ex.n];omega
 | .ite a b c,bd,l=>by have:=tJ a bd l;have:=tJ b bd (cG a bd l);have:=tJ c bd (cG b bd (cG a bd l));simp only[cG,Ex.n];omega
 | .lt x a b,bd,l=>by have:=tJ a bd l;have:=tJ b (bd++[x]) (cG a bd l);simp only[cG,Ex.n];omega
 | .fn f x _ _ e,bd,l=>by have:=tJ e (bd++[f,x]) l;simp only[cG,Ex.n];omega
def nW (e:Ex) (bd l:List aj):Nat->List aj
 |0=>l
 |j+1=>cG (fL e j) (bd++e.binds (e.from+j)) (nW e bd l j)
def ab8 {e:Ex} (ha:e.jl=false) (bd l:List aj):cG e bd l=nW e bd l e.kids.length:=by
 cases e with
 |«at» s=>cases ha
 |un hd a=>simp[Ex.kids,nW,cG,fL,Ex.binds]
 |bi hd a b=>simp[Ex.kids,nW,cG,fL,Ex.binds]
 |ite a b c=>simp[Ex.kids,nW,cG,fL,Ex.binds]
 |lt x a b=>simp[Ex.kids,nW,cG,fL,Ex.binds,Ex.from]
 |fn f x A B e=>simp[Ex.kids,nW,cG,fL,Ex.binds,Ex.from]
def ir (x:aj):Ex->Nat
 | .at s=>if s=x then 1 else 0
 | .un _ a=>ir x a
 | .bi _ a b=>ir x a+ir x b
 | .ite a b c=>ir x a+ir x b+ir x c
 | .lt y a b=>ir x a+if x=y then 0 else ir x b
 | .fn f y _ _ e=>if x=f∨x=y then 0 else ir x e
def wo {x:aj} (hx:eQ x=true):∀e:Ex,0<ir x e↔Fv x e
 | .at s=>by unfold ir Fv;by_cases h:s=x<;>simp[h,hx]
 | .un _ a=>wo hx a
 | .bi _ a b=>by unfold ir Fv;rw[<-wo hx a,<-wo hx b];omega
 | .ite a b c=>by unfold ir Fv;rw[<-wo hx a,<-wo hx b,<-wo hx c];omega
 | .lt y a b=>by
  unfold ir Fv
  rw[<-wo hx a,<-wo hx b]
  by_cases h:x=y
  ·rw[iP h];simp[h]
  ·rw[iN h];simp only[ne_eq,h,not_false_eq_true,true_and];omega
 | .fn f y _ _ e=>by
  have:=wo hx e
  unfold ir Fv
  by_cases h:x=f∨x=y
  ·rw[iP h];refine⟨λh=>absurd h om,λhh=>?_⟩
   rcases h with h|h
   ·exact absurd h hh.1
   ·exact absurd h hh.2.1
  ·rw[iN h];rw[not_or] at h
   exact⟨λhh=>⟨h.1,h.2,this.1 hh⟩,λhh=>this.2 hh.2.2⟩
def count_le (x:aj):∀e:Ex,ir x e<=e.n
 | .at s=>by unfold ir;split<;>simp[Ex.n]
 | .un _ a=>by have:=count_le x a;simp only[ir,Ex.n];omega
 | .bi _ a b=>by have:=count_le x a;have:=count_le x b;simp only[ir,Ex.n];omega
 | .ite a b c=>by have:=count_le x a;have:=count_le x b;have:=count_le x c;simp only[ir,Ex.n];omega
 | .lt y a b=>by have:=count_le x a;have:=count_le x b;simp only[ir,Ex.n];split<;>omega
 | .fn f y _ _ e=>by have:=count_le x e;simp only[ir,Ex.n];split<;>omega
def tK (x:aj) (e:Ex):Nat->Nat
 |0=>0
 |j+1=>tK x e j+if x∈e.binds (e.from+j) then 0 else ir x (fL e j)
def RB {e:Ex} (ha:e.jl=false) (x:aj):ir x e=tK x e e.kids.length:=by
 cases e with
 |«at» s=>cases ha
 |un hd a=>simp[Ex.kids,tK,ir,fL,Ex.binds]
 |bi hd a b=>simp[Ex.kids,tK,ir,fL,Ex.binds]
 |ite a b c=>simp[Ex.kids,tK,ir,fL,Ex.binds]
 |lt y a b=>simp[Ex.kids,tK,ir,fL,Ex.binds,Ex.from]
 |fn f y A B e=>simp[Ex.kids,tK,ir,fL,Ex.binds]
/-! ### Types of expressions -/
abbrev Sc:=List (aj×Ty)
def look (Γ:Sc) (s:aj):Option Ty:=(Γ.reverse.find? λp=>decide (p.1=s)).map Prod.snd
def mZ (Γ:Sc) (x s:aj) (T:Ty):look (Γ++[(x,T)]) s=if x=s then some T else look Γ s:=by
 unfold look
 rw[List.reverse_append]
 simp only[List.reverse_cons,List.reverse_nil,List.nil_append,List.cons_append,List.find?_cons]
 by_cases h:x=s
 ·simp[h]
 ·simp[h]
def z6 (Γ:Sc) (f x s:aj) (T U:Ty):look (Γ++[(f,T),(x,U)]) s=if x=s then some U else if f=s then some T else look Γ s:=by
 rw[show Γ++[(f,T),(x,U)]=(Γ++[(f,T)])++[(x,U)] from by simp,mZ,mZ]
def la (a b:Ty):Bool:=decide (a.text=b.text)
def ab9 {a b:Ty}:la a b=true↔a=b:=by
 unfold la;rw[dE];exact⟨Ty.inj,λh=>by rw[h]⟩
def ld (h:aj):List Ty->Option Ty
 |[a]=>match a with
  | .op false c d=>if h=BO then some c else if h=rh then some d else none
  |_=>none
 |[a,b]=>
  if h=kF then match a with
   | .op true c d=>if la c b then some d else none
   |_=>none
  else if h=xS then(if 1+a.n+b.n<=16 then some (.op false a b) else none)
  else if la a .i&&la b .i then some .i else none
 |[a,b,c]=>if la a .i&&la b c then some b else none
 |_=>none
def bM:Ex->Sc->Option Ty
 | .at s,Γ=>if eQ s then look Γ s else some .i
 | .un h a,Γ=>(bM a Γ).bind λA=>ld h [A]
 | .bi h a b,Γ=>(bM a Γ).bind λA=>(bM b Γ).bind λB=>ld h [A,B]
 | .ite a b c,Γ=>(bM a Γ).bind λA=>(bM b Γ).bind λB=>(bM c Γ).bind λC=>ld cE [A,B,C]
 | .lt x a b,Γ=>(bM a Γ).bind λA=>bM b (Γ++[(x,A)])
 | .fn f x A B e,Γ=>if 1+A.n+B.n<=16 then(bM e (Γ++[(f,.op true A B),(x,A)])).bind λC=>if la C B then some (.op true A B) else none else none
def qw:∀(e:Ex) (Γ Δ:Sc),(∀s,eQ s=true->Fv s e->look Γ s=look Δ s)->bM e Γ=bM e Δ
 | .at s,Γ,Δ,h=>by
  unfold bM
  by_cases hn:eQ s=true
  ·rw[iP hn,iP hn];exact h s hn ⟨rfl,hn⟩
  ·rw[iN hn,iN hn]
 | .un hd a,Γ,Δ,h=>by unfold bM;rw[qw a Γ Δ h]
 | .bi hd a b,Γ,Δ,h=>by unfold bM;rw[qw a Γ Δ λs hn hs=>h s hn (.inl hs),qw b Γ Δ λs hn hs=>h s hn (.inr hs)]
 | .ite a b c,Γ,Δ,h=>by unfold bM;rw[qw a Γ Δ λs hn hs=>h s hn (.inl hs),qw b Γ Δ λs hn hs=>h s hn (.inr (.inl hs)),qw c Γ Δ λs hn hs=>h s hn (.inr (.inr hs))]
 | .lt x a b,Γ,Δ,h=>by
  unfold bM
  rw[qw a Γ Δ λs hn hs=>h s hn (.inl hs)]
  cases bM a Δ with
  |none=>rfl
  |some A=>
   refine qw b _ _ λs hn hs=>?_
   rw[mZ,mZ]
   by_cases e:x=s
   ·rw[iP e,iP e]
   ·rw[iN e,iN e];exact h s hn (.inr ⟨λe'=>e e'.symm,hs⟩)
 | .fn f x A B e,Γ,Δ,h=>by
  unfold bM
  rw[qw e _ (Δ++[(f,.op true A B),(x,A)]) λs hn hs=>?_]
  rw[z6,z6]
  by_cases e1:x=s
  ·rw[iP e1,iP e1]
  ·by_cases e2:f=s
   ·rw[iN e1,iN e1,iP e2,iP e2]
   ·rw[iN e1,iN e1,iN e2,iN e2];exact h s hn ⟨λe'=>e2 e'.symm,λe'=>e1 e'.symm,hs⟩
def z7 (Γ:Sc):Prop:=∀s T,look Γ s=some T->T.n<=16
def Fo {Γ:Sc} (h:z7 Γ) {x:aj} {T:Ty} (hT:T.n<=16):z7 (Γ++[(x,T)]):=λs U hU=>by
 rw[mZ] at hU
 split at hU
 ·cases hU;exact hT
 ·exact h s U hU
def LC {h:aj}:∀{ks:List Ty} {T:Ty},(∀k,k∈ks->k.n<=16)->ld h ks=some T->T.n<=16
 |[],T,_,e=>by cases e
 |[a],T,hk,e=>by
  have ha:=hk a sm
  cases a with
  |i=>cases e
  |op f c d=>
   cases f with
   |true=>cases e
   |false=>
    simp only[Ty.n] at ha
    simp only[ld] at e
    split at e
    ·cases e;omega
    ·split at e
     ·cases e;omega
     ·cases e
 |[a,b],T,hk,e=>by
  have ha:=hk a sm
  have hb:=hk b sm
  simp only[ld] at e
  split at e
  ·cases a with
   |i=>cases e
   |op f c d=>
    cases f with
    |false=>cases e
    |true=>
     simp only at e
     split at e
     ·cases e;simp only[Ty.n] at ha;omega
     ·cases e
  ·split at e
   ·split at e
    ·rename_i hc;cases e;simpa[Ty.n] using hc
    ·cases e
   ·split at e
    ·cases e;decide
    ·cases e
 |[a,b,c],T,hk,e=>by
  simp only[ld] at e
  split at e
  ·cases e;exact hk b sm
  ·cases e
 |_::_::_::_::_,T,_,e=>by cases e
def l7:∀{e:Ex} {Γ:Sc} {T:Ty},z7 Γ->bM e Γ=some T->T.n<=16
 | .at s,Γ,T,hΓ,h=>by
  unfold bM at h
  split at h
  ·exact hΓ s T h
  ·cases h;decide
 | .un hd a,Γ,T,hΓ,h=>by
  unfold bM at h
  cases ha:bM a Γ with
  |none=>rw[ha] at h;cases h
  |some A=>
   rw[ha,bS] at h
   exact LC (λk hk=>by simp at hk;rw[hk];exact l7 hΓ ha) h
 | .bi hd a b,Γ,T,hΓ,h=>by
  unfold bM at h
  cases ha:bM a Γ with
  |none=>rw[ha] at h;cases h
  |some A=>
   cases hb:bM b Γ with
   |none=>rw[ha,hb] at h;cases h
   |some B=>
    rw[ha,hb,bS,bS] at h
    exact LC (λk hk=>by simp at hk;rcases hk with rfl|rfl;exact l7 hΓ ha;exact l7 hΓ hb) h
 | .ite a b c,Γ,T,hΓ,h=>by
  unfold bM at h
  cases ha:bM a Γ with
  |none=>rw[ha] at h;cases h
  |some A=>
   cases hb:bM b Γ with
   |none=>rw[ha,hb] at h;cases h
   |some B=>
    cases hc:bM c Γ with
    |none=>rw[ha,hb,hc] at h;cases h
    |some C=>
     rw[ha,hb,hc,bS,bS,bS] at h
     exact LC (λk hk=>by simp at hk;rcases hk with rfl|rfl|rfl;exact l7 hΓ ha;exact l7 hΓ hb;exact l7 hΓ hc) h
 | .lt x a b,Γ,T,hΓ,h=>by
  unfold bM at h
  cases ha:bM a Γ with
  |none=>rw[ha] at h;cases h
  |some A=>
   rw[ha,bS] at h
   exact l7 (Fo hΓ (l7 hΓ ha)) h
 | .fn f x A B e,Γ,T,hΓ,h=>by
  unfold bM at h
  split at h
  ·rename_i hc
   cases he:bM e (Γ++[(f,.op true A B),(x,A)]) with
   |none=>rw[he] at h;cases h
   |some C=>
    rw[he,bS] at h
    split at h
    ·cases h;simpa[Ty.n] using hc
    ·cases h
  ·cases h
/-! ### sv aX -/
def RC (n:Nat):val (bf n)=n:=by
 induction n using Nat.strongRecOn with
 |_ n ih=>
  have hd:∀k,k<10->(UInt8.ofNat (48+k)).toNat=48+k:=λk hk=>by
   rw[UInt8.toNat_ofNat'];exact Nat.mod_eq_of_lt om
  unfold bf
  by_cases h:n<10
  ·rw[iP h]
   show 10*0+((UInt8.ofNat (48+n)).toNat-48)=n
   rw[hd n h];omega
  ·rw[iN h,P1,ih (n/10) om,hd (n%10) om];omega
def aca {n m:Nat} (h:bf n=bf m):n=m:=by rw[<-RC n,<-RC m,h]
def dm (c:UInt8) (k:Nat):aj:=c::bf k
def pO {c:UInt8} {k j:Nat} (h:dm c k=dm c j):k=j:=aca (by unfold dm at h;simpa using h)
def LD {α:Type} [BEq α] [LawfulBEq α]:∀{l m:List α},l.Nodup->(∀x,x∈l->x∈m)->l.length<=m.length
 |[],m,_,_=>by simp
 |a::l,m,hn,hs=>by
  rw[List.nodup_cons] at hn
  have ha:=hs a sm
  have:=LD (l:=l) (m:=m.erase a) hn.2 λx hx=>(List.mem_erase_of_ne (fun(e:x=a)=>hn.1 (e▸hx))).2 (hs x (by simp[hx]))
  rw[List.length_erase_of_mem ha] at this
  have:=List.length_pos_of_mem ha
  simp only[lC];omega
def o8 (c:UInt8) (ai:List aj):Nat->Nat->Nat
 |0,n=>n
 |fuel+1,n=>if dm c n∈ai then o8 c ai fuel (n+1) else n
def bK (c:UInt8) (ai:List aj) (n:Nat):Nat:=o8 c ai (ai.length+1) n
def RD (c:UInt8) (ai:List aj):∀fuel n,n<=o8 c ai fuel n∧o8 c ai fuel n<=n+fuel
 |0,n=>by simp[o8]
 |fuel+1,n=>by
  unfold o8
  have:=RD c ai fuel (n+1)
  split<;>omega
def RE (c:UInt8) (ai:List aj):∀fuel n,dm c (o8 c ai fuel n)∉ai∨∀j,j<fuel->dm c (n+j)∈ai
 |0,n=>.inr λj hj=>by omega
 |fuel+1,n=>by
  unfold o8
  split
  ·rename_i h
   rcases RE c ai fuel (n+1) with h1|h1
   ·exact .inl h1
   ·refine .inr λj hj=>?_
    cases j with
    |zero=>exact h
    |succ j=>have:=h1 j om;rw[show n+(j+1)=n+1+j from by omega];exact this
  ·rename_i h;exact .inl h
def H6 (c:UInt8) (ai:List aj) (n:Nat):dm c (bK c ai n)∉ai:=by
 rcases RE c ai (ai.length+1) n with h|h
 ·exact h
 ·exfalso
  have hn:((List.range (ai.length+1)).map λj=>dm c (n+j)).Nodup:=by
   rw[List.nodup_iff_pairwise_ne,List.pairwise_map]
   refine List.Pairwise.imp ?_ (List.nodup_iff_pairwise_ne.1 List.nodup_range)
   intro a b H7 e
   exact H7 (by have:=pO e;omega)
  have:=LD hn (m:=ai) (λx hx=>by
   obtain⟨j,hj,rfl⟩:=List.mem_map.1 hx
   exact h j (List.mem_range.1 hj))
  simp at this;omega
def oK (c:UInt8) (ai:List aj) (n:Nat):n<=bK c ai n∧bK c ai n<=n+ai.length+1:=by
 have:=RD c ai (ai.length+1) n
 unfold bK;omega
def RF {c:UInt8} {ai:List aj} {n:Nat} (h:dm c n∈ai):bK c ai n=bK c ai (n+1):=by
 have key:∀f g n,dm c (o8 c ai f n)∉ai->dm c (o8 c ai g n)∉ai->o8 c ai f n=o8 c ai g n:=by
  intro f
  induction f with
  |zero=>
   intro g n h1 h2
   cases g with
   |zero=>rfl
   |succ g=>unfold o8 at h1⊢;rw[iN h1]
  |succ f ih=>
   intro g n h1 h2
   cases g with
   |zero=>unfold o8 at h2⊢;rw[iN h2]
   |succ g=>
    unfold o8 at h1 h2⊢
    by_cases hh:dm c n∈ai
    ·rw[iP hh] at h1 h2⊢;rw[iP hh];exact ih g (n+1) h1 h2
    ·rw[iN hh,iN hh]
 have e:bK c ai n=o8 c ai ai.length (n+1):=by
  unfold bK
  conv=>lhs;unfold o8
  rw[iP h]
 have h1:=H6 c ai n
 rw[e] at h1⊢
 exact key _ _ _ h1 (H6 c ai (n+1))
def RG {c:UInt8} {ai:List aj} {n:Nat} (h:dm c n∉ai):bK c ai n=n:=by
 unfold bK o8;rw[iN h]
def z8 {c:UInt8} (hc:97<=c∧c<=122) {k:Nat} (hk:k<1000):eQ (dm c k)=true:=by
 have hd:∀k,(bf k).all il=true:=λk=>by
  induction k using Nat.strongRecOn with
  |_ k ih=>
   have hd:∀j,j<10->il (UInt8.ofNat (48+j))=true:=by decide
   unfold bf
   by_cases h:k<10
   ·rw[iP h,List.all_cons,hd k h];rfl
   ·rw[iN h,List.all_append,ih (k/10) om,List.all_cons,hd (k%10) om];rfl
 have h1:∀k,k<10->(bf k).length=1:=λk hk=>by unfold bf;rw[iP hk];rfl
 have h2:∀k,k<100->(bf k).length<=2:=λk hk=>by
  unfold bf
  split
  ·simp
  ·have:=h1 (k/10) om
   simp;omega
 have h3:(bf k).length<=3:=by
  unfold bf
  split
  ·simp
  ·have:=h2 (k/10) om
   simp;omega
 unfold eQ dm
 simp only[lC,List.getD_cons_zero,List.drop_succ_cons,List.drop_zero,hd k,Bool.and_true,aE,dE]
 exact⟨⟨by omega,om⟩,hc⟩
/-! ### Bound aX renamed -/
abbrev Rn:=List (aj×aj)
def ri (ρ:Rn) (s:aj):aj:=((ρ.reverse.find? λp=>decide (p.1=s)).map Prod.snd).getD s
def Fp (ρ:Rn) (x y s:aj):ri (ρ++[(x,y)]) s=if x=s then y else ri ρ s:=by
 unfold ri
 rw[List.reverse_append]
 simp only[List.reverse_cons,List.reverse_nil,List.nil_append,List.cons_append,List.find?_cons]
 by_cases h:x=s
 ·simp[h]
 ·simp[h]
def RH (ρ:Rn) (f x s g y:aj):ri (ρ++[(f,g),(x,y)]) s=if x=s then y else if f=s then g else ri ρ s:=by
 rw[show ρ++[(f,g),(x,y)]=(ρ++[(f,g)])++[(x,y)] from by simp,Fp,Fp]
abbrev cx:UInt8:=120
def cj (ai:List aj):Ex->Rn->Nat->Ex×Nat
 | .at s,ρ,n=>(.at (if eQ s then ri ρ s else s),n)
 | .un h a,ρ,n=>(.un h (cj ai a ρ n).1,(cj ai a ρ n).2)
 | .bi h a b,ρ,n=>(.bi h (cj ai a ρ n).1 (cj ai b ρ (cj ai a ρ n).2).1,(cj ai b ρ (cj ai a ρ n).2).2)
 | .ite a b c,ρ,n=>(.ite (cj ai a ρ n).1 (cj ai b ρ (cj ai a ρ n).2).1 (cj ai c ρ (cj ai b ρ (cj ai a ρ n).2).2).1,(cj ai c ρ (cj ai b ρ (cj ai a ρ n).2).2).2)
 | .lt x a b,ρ,n=>(.lt (dm cx (bK cx ai n)) (cj ai a ρ (bK cx ai n+1)).1 (cj ai b (ρ++[(x,dm cx (bK cx ai n))]) (cj ai a ρ (bK cx ai n+1)).2).1,
   (cj ai b (ρ++[(x,dm cx (bK cx ai n))]) (cj ai a ρ (bK cx ai n+1)).2).2)
 | .fn f x A B e,ρ,n=>(.fn (dm cx (bK cx ai n)) (dm cx (bK cx ai (bK cx ai n+1))) A B (cj ai e (ρ++[(f,dm cx (bK cx ai n)),(x,dm cx (bK cx ai (bK cx ai n+1)))]) (bK cx ai (bK cx ai n+1)+1)).1,
   (cj ai e (ρ++[(f,dm cx (bK cx ai n)),(x,dm cx (bK cx ai (bK cx ai n+1)))]) (bK cx ai (bK cx ai n+1)+1)).2)
def jB (ai:List aj):∀(e:Ex) (ρ:Rn) (n:Nat),n<=(cj ai e ρ n).2∧(cj ai e ρ n).2+(ai.length+2)<=n+(e.n)*(ai.length+2)+(ai.length+2)
 | .at s,ρ,n=>by simp only[cj,Ex.n];omega
 | .un h a,ρ,n=>by
  have:=jB ai a ρ n
  simp only[cj,Ex.n,Nat.add_mul];omega
 | .bi h a b,ρ,n=>by
  have:=jB ai a ρ n
  have:=jB ai b ρ (cj ai a ρ n).2
  simp only[cj,Ex.n,Nat.add_mul];omega
 | .ite a b c,ρ,n=>by
  have:=jB ai a ρ n
  have:=jB ai b ρ (cj ai a ρ n).2
  have:=jB ai c ρ (cj ai b ρ (cj ai a ρ n).2).2
  simp only[cj,Ex.n,Nat.add_mul];omega
 | .lt x a b,ρ,n=>by
  have h0:=oK cx ai n
  have:=jB ai a ρ (bK cx ai n+1)
  have:=jB ai b (ρ++[(x,dm cx (bK cx ai n))]) (cj ai a ρ (bK cx ai n+1)).2
  simp only[cj,Ex.n,Nat.add_mul];omega
 | .fn f x A B e,ρ,n=>by
  have h0:=oK cx ai n
  have h1:=oK cx ai (bK cx ai n+1)
  have:=jB ai e (ρ++[(f,dm cx (bK cx ai n)),(x,dm cx (bK cx ai (bK cx ai n+1)))]) (bK cx ai (bK cx ai n+1)+1)
  simp only[cj,Ex.n,Nat.add_mul];omega
def uR (ai:List aj):∀(e:Ex) (ρ:Rn) (n:Nat),(cj ai e ρ n).1.n=e.n
 | .at s,ρ,n=>rfl
 | .un h a,ρ,n=>by simp only[cj,Ex.n,uR ai a]
 | .bi h a b,ρ,n=>by simp only[cj,Ex.n,uR ai a,uR ai b]
 | .ite a b c,ρ,n=>by simp only[cj,Ex.n,uR ai a,uR ai b,uR ai c]
 | .lt x a b,ρ,n=>by simp only[cj,Ex.n,uR ai a,uR ai b]
 | .fn f x A B e,ρ,n=>by simp only[cj,Ex.n,uR ai e]
def wq (ai:List aj):∀(e:Ex) (ρ:Rn) (n:Nat),e.ok->(cj ai e ρ n).2<=1000->(∀s,eQ s=true->Fv s e->eQ (ri ρ s)=true)->(cj ai e ρ n).1.ok
 | .at s,ρ,n,h,_,hr=>by
  show qu _=true
  by_cases hn:eQ s=true
  ·rw[iP hn];unfold qu;rw[hr s hn ⟨rfl,hn⟩];simp
  ·rw[iN hn];exact h
 | .un hd a,ρ,n,h,hm,hr=>⟨h.1,wq ai a ρ n h.2 hm hr⟩
 | .bi hd a b,ρ,n,h,hm,hr=>by
  have h2:=jB ai b ρ (cj ai a ρ n).2
  simp only[cj] at hm
  exact⟨h.1,wq ai a ρ n h.2.1 om λs hn hs=>hr s hn (.inl hs),wq ai b ρ _ h.2.2 hm λs hn hs=>hr s hn (.inr hs)⟩
 | .ite a b c,ρ,n,h,hm,hr=>by
  have h2:=jB ai b ρ (cj ai a ρ n).2
  have h3:=jB ai c ρ (cj ai b ρ (cj ai a ρ n).2).2
  simp only[cj] at hm
  exact⟨wq ai a ρ n h.1 om λs hn hs=>hr s hn (.inl hs),wq ai b ρ _ h.2.1 om λs hn hs=>hr s hn (.inr (.inl hs)),wq ai c ρ _ h.2.2 hm λs hn hs=>hr s hn (.inr (.inr hs))⟩
 | .lt x a b,ρ,n,h,hm,hr=>by
  have h1:=jB ai a ρ (bK cx ai n+1)
  have h2:=jB ai b (ρ++[(x,dm cx (bK cx ai n))]) (cj ai a ρ (bK cx ai n+1)).2
  simp only[cj] at hm
  have hk:eQ (dm cx (bK cx ai n))=true:=z8 de om
  refine⟨hk,wq ai a ρ _ h.2.1 om λs hn hs=>hr s hn (.inl hs),wq ai b _ _ h.2.2 hm λs hn hs=>?_⟩
  rw[Fp]
  split
  ·exact hk
  ·rename_i e;exact hr s hn (.inr ⟨λe'=>e e'.symm,hs⟩)
 | .fn f x A B e,ρ,n,h,hm,hr=>by
  have h0:=oK cx ai n
  have h1:=oK cx ai (bK cx ai n+1)
  have h2:=jB ai e (ρ++[(f,dm cx (bK cx ai n)),(x,dm cx (bK cx ai (bK cx ai n+1)))]) (bK cx ai (bK cx ai n+1)+1)
  simp only[cj] at hm
  have hk:eQ (dm cx (bK cx ai n))=true:=z8 de om
  have aq:eQ (dm cx (bK cx ai (bK cx ai n+1)))=true:=z8 de om
  obtain⟨_,_,_,hA,hB,he⟩:=h
  refine⟨hk,aq,λe=>by have:=pO e;omega,hA,hB,wq ai e _ _ he hm λs hn hs=>?_⟩
  rw[RH]
  split
  ·exact aq
  ·rename_i e1
   split
   ·exact hk
   ·rename_i e2;exact hr s hn ⟨λe'=>e2 e'.symm,λe'=>e1 e'.symm,hs⟩
def wu (ai:List aj):∀(e:Ex) (ρ:Rn) (n:Nat) (Γ Δ:Sc),(cj ai e ρ n).2<=1000->(∀s,eQ s=true->Fv s e->eQ (ri ρ s)=true∧look Δ (ri ρ s)=look Γ s∧∀k,n<=k->ri ρ s≠dm cx k)->bM (cj ai e ρ n).1 Δ=bM e Γ
 | .at s,ρ,n,Γ,Δ,_,h=>by
  unfold cj bM
  by_cases hn:eQ s=true
  ·obtain⟨h1,h2,_⟩:=h s hn ⟨rfl,hn⟩
   rw[iP hn,iP hn,iP h1,h2]
  ·rw[iN hn,iN hn,iN hn]
 | .un hd a,ρ,n,Γ,Δ,hm,h=>by
  unfold cj bM
  rw[wu ai a ρ n Γ Δ hm h]
 | .bi hd a b,ρ,n,Γ,Δ,hm,h=>by
  have h1:=jB ai a ρ n
  have h2:=jB ai b ρ (cj ai a ρ n).2
  simp only[cj] at hm
  unfold cj bM
  rw[wu ai a ρ n Γ Δ om λs hn hs=>h s hn (.inl hs),wu ai b ρ _ Γ Δ hm λs hn hs=>?_]
  obtain⟨q1,q2,q3⟩:=h s hn (.inr hs)
  exact⟨q1,q2,λk hk=>q3 k om⟩
 | .ite a b c,ρ,n,Γ,Δ,hm,h=>by
  have h1:=jB ai a ρ n
  have h2:=jB ai b ρ (cj ai a ρ n).2
  have h3:=jB ai c ρ (cj ai b ρ (cj ai a ρ n).2).2
  simp only[cj] at hm
  unfold cj bM
  rw[wu ai a ρ n Γ Δ om λs hn hs=>h s hn (.inl hs),wu ai b ρ _ Γ Δ om λs hn hs=>?_,wu ai c ρ _ Γ Δ hm λs hn hs=>?_]
  ·obtain⟨q1,q2,q3⟩:=h s hn (.inr (.inr hs))
   exact⟨q1,q2,λk hk=>q3 k om⟩
  ·obtain⟨q1,q2,q3⟩:=h s hn (.inr (.inl hs))
   exact⟨q1,q2,λk hk=>q3 k om⟩
 | .lt x a b,ρ,n,Γ,Δ,hm,h=>by
  have h0:=oK cx ai n
  have h1:=jB ai a ρ (bK cx ai n+1)
  have h2:=jB ai b (ρ++[(x,dm cx (bK cx ai n))]) (cj ai a ρ (bK cx ai n+1)).2
  simp only[cj] at hm
  have hk:eQ (dm cx (bK cx ai n))=true:=z8 de om
  unfold cj bM
  rw[wu ai a ρ _ Γ Δ om λs hn hs=>?_]
  ·cases bM a Γ with
   |none=>rfl
   |some A=>
    refine wu ai b _ _ _ _ hm λs hn hs=>?_
    rw[Fp,mZ Γ]
    by_cases e:x=s
    ·rw[iP e,iP e,mZ,iP rfl]
     exact⟨hk,rfl,λk hk e=>by have:=pO e;omega⟩
    ·rw[iN e,iN e]
     obtain⟨q1,q2,q3⟩:=h s hn (.inr ⟨λe'=>e e'.symm,hs⟩)
     rw[mZ,iN (λe=>q3 _ h0.1 e.symm)]
     exact⟨q1,q2,λk hk=>q3 k om⟩
  ·obtain⟨q1,q2,q3⟩:=h s hn (.inl hs)
   exact⟨q1,q2,λk hk=>q3 k om⟩
 | .fn f x A B e,ρ,n,Γ,Δ,hm,h=>by
  have h0:=oK cx ai n
  have h1:=oK cx ai (bK cx ai n+1)
  have h2:=jB ai e (ρ++[(f,dm cx (bK cx ai n)),(x,dm cx (bK cx ai (bK cx ai n+1)))]) (bK cx ai (bK cx ai n+1)+1)
  simp only[cj] at hm
  have hk:eQ (dm cx (bK cx ai n))=true:=z8 de om
  have aq:eQ (dm cx (bK cx ai (bK cx ai n+1)))=true:=z8 de om
  unfold cj bM
  rw[wu ai e _ _ (Γ++[(f,.op true A B),(x,A)]) _ hm λs hn hs=>?_]
  rw[RH,z6 Γ]
  by_cases e1:x=s
  ·rw[iP e1,iP e1,z6,iP rfl]
   exact⟨aq,rfl,λk hk e=>by have:=pO e;omega⟩
  ·by_cases e2:f=s
   ·rw[iN e1,iN e1,iP e2,iP e2,z6,iN (λe=>by have:=pO e;omega),iP rfl]
    exact⟨hk,rfl,λk hk e=>by have:=pO e;omega⟩
   ·rw[iN e1,iN e1,iN e2,iN e2]
    obtain⟨q1,q2,q3⟩:=h s hn ⟨λe'=>e2 e'.symm,λe'=>e1 e'.symm,hs⟩
    rw[z6,iN (λe=>q3 _ om e.symm),iN (λe=>q3 _ h0.1 e.symm)]
    exact⟨q1,q2,λk hk=>q3 k om⟩
/-! ### The aX that are bound -/
def fQ:Ex->List aj
 | .at _=>[]
 | .un _ a=>fQ a
 | .bi _ a b=>fQ a++fQ b
 | .ite a b c=>fQ a++(fQ b++fQ c)
 | .lt x a b=>x::(fQ a++fQ b)
 | .fn f x _ _ e=>f::x::fQ e
def wv (ai:List aj):∀(e:Ex) (ρ:Rn) (n:Nat),(fQ (cj ai e ρ n).1).Nodup∧∀y,y∈fQ (cj ai e ρ n).1->∃k,y=dm cx k∧n<=k∧k<(cj ai e ρ n).2
 | .at s,ρ,n=>by simp[cj,fQ]
 | .un hd a,ρ,n=>wv ai a ρ n
 | .bi hd a b,ρ,n=>by
  have h1:=jB ai a ρ n
  have h2:=jB ai b ρ (cj ai a ρ n).2
  obtain⟨a1,a2⟩:=wv ai a ρ n
  obtain⟨b1,b2⟩:=wv ai b ρ (cj ai a ρ n).2
  simp only[cj,fQ]
  refine⟨List.nodup_append.2 ⟨a1,b1,λx hx y hy e=>?_⟩,λy hy=>?_⟩
  ·obtain⟨k,rfl,_,hk⟩:=a2 x hx
   obtain⟨j,rfl,hj,_⟩:=b2 y hy
   have:=pO e;omega
  ·rcases mA.1 hy with hy|hy
   ·obtain⟨k,e,p,q⟩:=a2 y hy;exact⟨k,e,p,om⟩
   ·obtain⟨k,e,p,q⟩:=b2 y hy;exact⟨k,e,om,q⟩
 | .ite a b c,ρ,n=>by
  have h1:=jB ai a ρ n
  have h2:=jB ai b ρ (cj ai a ρ n).2
  have h3:=jB ai c ρ (cj ai b ρ (cj ai a ρ n).2).2
  obtain⟨a1,a2⟩:=wv ai a ρ n
  obtain⟨b1,b2⟩:=wv ai b ρ (cj ai a ρ n).2
  obtain⟨c1,c2⟩:=wv ai c ρ (cj ai b ρ (cj ai a ρ n).2).2
  simp only[cj,fQ]
  refine⟨List.nodup_append.2 ⟨a1,List.nodup_append.2 ⟨b1,c1,λx hx y hy e=>?_⟩,λx hx y hy e=>?_⟩,λy hy=>?_⟩
  ·obtain⟨k,rfl,_,hk⟩:=b2 x hx
   obtain⟨j,rfl,hj,_⟩:=c2 y hy
   have:=pO e;omega
  ·obtain⟨k,rfl,_,hk⟩:=a2 x hx
   rcases mA.1 hy with hy|hy
   ·obtain⟨j,rfl,hj,_⟩:=b2 y hy
    have:=pO e;omega
   ·obtain⟨j,rfl,hj,_⟩:=c2 y hy
    have:=pO e;omega
  ·rcases mA.1 hy with hy|hy
   ·obtain⟨k,e,p,q⟩:=a2 y hy;exact⟨k,e,p,om⟩
   ·rcases mA.1 hy with hy|hy
    ·obtain⟨k,e,p,q⟩:=b2 y hy;exact⟨k,e,om,om⟩
    ·obtain⟨k,e,p,q⟩:=c2 y hy;exact⟨k,e,om,q⟩
 | .lt x a b,ρ,n=>by
  have h0:=oK cx ai n
  have h1:=jB ai a ρ (bK cx ai n+1)
  have h2:=jB ai b (ρ++[(x,dm cx (bK cx ai n))]) (cj ai a ρ (bK cx ai n+1)).2
  obtain⟨a1,a2⟩:=wv ai a ρ (bK cx ai n+1)
  obtain⟨b1,b2⟩:=wv ai b (ρ++[(x,dm cx (bK cx ai n))]) (cj ai a ρ (bK cx ai n+1)).2
  simp only[cj,fQ]
  refine⟨List.nodup_cons.2 ⟨λhx=>?_,List.nodup_append.2 ⟨a1,b1,λx hx y hy e=>?_⟩⟩,λy hy=>?_⟩
  ·rcases mA.1 hx with hx|hx
   ·obtain⟨k,e,p,q⟩:=a2 _ hx;have:=pO e;omega
   ·obtain⟨k,e,p,q⟩:=b2 _ hx;have:=pO e;omega
  ·obtain⟨k,rfl,_,hk⟩:=a2 x hx
   obtain⟨j,rfl,hj,_⟩:=b2 y hy
   have:=pO e;omega
  ·rcases mC.1 hy with rfl|hy
   ·exact⟨_,rfl,om,om⟩
   ·rcases mA.1 hy with hy|hy
    ·obtain⟨k,e,p,q⟩:=a2 y hy;exact⟨k,e,om,om⟩
    ·obtain⟨k,e,p,q⟩:=b2 y hy;exact⟨k,e,om,q⟩
 | .fn f x A B e,ρ,n=>by
  have h0:=oK cx ai n
  have h1:=oK cx ai (bK cx ai n+1)
  have h2:=jB ai e (ρ++[(f,dm cx (bK cx ai n)),(x,dm cx (bK cx ai (bK cx ai n+1)))]) (bK cx ai (bK cx ai n+1)+1)
  obtain⟨a1,a2⟩:=wv ai e (ρ++[(f,dm cx (bK cx ai n)),(x,dm cx (bK cx ai (bK cx ai n+1)))]) (bK cx ai (bK cx ai n+1)+1)
  simp only[cj,fQ]
  refine⟨List.nodup_cons.2 ⟨λhx=>?_,List.nodup_cons.2 ⟨λhx=>?_,a1⟩⟩,λy hy=>?_⟩
  ·rcases mC.1 hx with hx|hx
   ·have:=pO hx;omega
   ·obtain⟨k,e,p,q⟩:=a2 _ hx;have:=pO e;omega
  ·obtain⟨k,e,p,q⟩:=a2 _ hx;have:=pO e;omega
  ·rcases mC.1 hy with rfl|hy
   ·exact⟨_,rfl,om,om⟩
   ·rcases mC.1 hy with rfl|hy
    ·exact⟨_,rfl,om,om⟩
    ·obtain⟨k,e,p,q⟩:=a2 y hy;exact⟨k,e,om,q⟩
def pP {s:aj}:∀{e:Ex} {Γ:Sc} {T:Ty},bM e Γ=some T->Fv s e->(look Γ s).isSome=true
 | .at x,Γ,T,h,hs=>by
  obtain⟨rfl,hn⟩:=hs
  unfold bM at h;rw[iP hn] at h;rw[h];rfl
 | .un hd a,Γ,T,h,hs=>by
  unfold bM at h
  cases ha:bM a Γ with
  |none=>rw[ha] at h;cases h
  |some A=>exact pP ha hs
 | .bi hd a b,Γ,T,h,hs=>by
  unfold bM at h
  cases ha:bM a Γ with
  |none=>rw[ha] at h;cases h
  |some A=>
   cases hb:bM b Γ with
   |none=>rw[ha,hb] at h;cases h
   |some B=>exact hs.elim (pP ha) (pP hb)
 | .ite a b c,Γ,T,h,hs=>by
  unfold bM at h
  cases ha:bM a Γ with
  |none=>rw[ha] at h;cases h
  |some A=>
   cases hb:bM b Γ with
   |none=>rw[ha,hb] at h;cases h
   |some B=>
    cases hc:bM c Γ with
    |none=>rw[ha,hb,hc] at h;cases h
    |some C=>exact hs.elim (pP ha) λhs=>hs.elim (pP hb) (pP hc)
 | .lt x a b,Γ,T,h,hs=>by
  unfold bM at h
  cases ha:bM a Γ with
  |none=>rw[ha] at h;cases h
  |some A=>
   rw[ha,bS] at h
   rcases hs with hs|⟨eN,hs⟩
   ·exact pP ha hs
   ·have:=pP h hs
    rw[mZ,iN (λe=>eN e.symm)] at this;exact this
 | .fn f x A B e,Γ,T,h,hs=>by
  unfold bM at h
  split at h
  ·cases he:bM e (Γ++[(f,.op true A B),(x,A)]) with
   |none=>rw[he] at h;cases h
   |some C=>
    obtain⟨h1,h2,h3⟩:=hs
    have:=pP he h3
    rw[z6,iN (λe=>h2 e.symm),iN (λe=>h1 e.symm)] at this;exact this
  ·cases h
abbrev Bs:=List (aj×Ex)
abbrev cy:UInt8:=121
def nest (bs:Bs) (e:Ex):Ex:=bs.foldr (λp e=>.lt p.1 p.2 e) e
def dW (ai:List aj) (r:Bs×Ex×Nat):Bs×Ex×Nat:=
 if r.2.1.jl=true then r else(r.1++[(dm cy (bK cy ai r.2.2),r.2.1)],.at (dm cy (bK cy ai r.2.2)),bK cy ai r.2.2+1)
def bu (ai:List aj):Ex->Nat->Bs×Ex×Nat
 | .at s,n=>([],.at s,n)
 | .un h a,n=>((dW ai (bu ai a n)).1,.un h (dW ai (bu ai a n)).2.1,(dW ai (bu ai a n)).2.2)
 | .bi h a b,n=>((dW ai (bu ai a n)).1++(dW ai (bu ai b (dW ai (bu ai a n)).2.2)).1,.bi h (dW ai (bu ai a n)).2.1 (dW ai (bu ai b (dW ai (bu ai a n)).2.2)).2.1,(dW ai (bu ai b (dW ai (bu ai a n)).2.2)).2.2)
 | .ite a b c,n=>((dW ai (bu ai a n)).1,.ite (dW ai (bu ai a n)).2.1 (nest (bu ai b (dW ai (bu ai a n)).2.2).1 (bu ai b (dW ai (bu ai a n)).2.2).2.1)
   (nest (bu ai c (bu ai b (dW ai (bu ai a n)).2.2).2.2).1 (bu ai c (bu ai b (dW ai (bu ai a n)).2.2).2.2).2.1),(bu ai c (bu ai b (dW ai (bu ai a n)).2.2).2.2).2.2)
 | .lt x a b,n=>((bu ai a n).1++(x,(bu ai a n).2.1)::(bu ai b (bu ai a n).2.2).1,(bu ai b (bu ai a n).2.2).2.1,(bu ai b (bu ai a n).2.2).2.2)
 | .fn f x A B e,n=>([],.fn f x A B (nest (bu ai e n).1 (bu ai e n).2.1),(bu ai e n).2.2)
def nh (ai:List aj) (e:Ex) (n:Nat):Ex:=nest (bu ai e n).1 (bu ai e n).2.1
/-! ### How many aX -/
def qx (ai:List aj) (r:Bs×Ex×Nat):r.2.2<=(dW ai r).2.2∧(dW ai r).2.2<=r.2.2+ai.length+2:=by
 unfold dW
 have:=oK cy ai r.2.2
 split
 ·omega
 ·dsimp only;omega
def iL (ai:List aj):∀(e:Ex) (n:Nat),n<=(bu ai e n).2.2∧(bu ai e n).2.2+2*(ai.length+2)<=n+e.n*(2*(ai.length+2))
 | .at s,n=>⟨lR _,by simp only[bu,Ex.n];omega⟩
 | .un h a,n=>by
  have:=iL ai a n
  have:=qx ai (bu ai a n)
  simp only[bu,Ex.n,Nat.add_mul];omega
 | .bi h a b,n=>by
  have:=iL ai a n
  have:=qx ai (bu ai a n)
  have:=iL ai b (dW ai (bu ai a n)).2.2
  have:=qx ai (bu ai b (dW ai (bu ai a n)).2.2)
  simp only[bu,Ex.n,Nat.add_mul];omega
 | .ite a b c,n=>by
  have:=iL ai a n
  have:=qx ai (bu ai a n)
  have:=iL ai b (dW ai (bu ai a n)).2.2
  have:=iL ai c (bu ai b (dW ai (bu ai a n)).2.2).2.2
  simp only[bu,Ex.n,Nat.add_mul];omega
 | .lt x a b,n=>by
  have:=iL ai a n
  have:=iL ai b (bu ai a n).2.2
  simp only[bu,Ex.n,Nat.add_mul];omega
 | .fn f x A B e,n=>by
  have:=iL ai e n
  simp only[bu,Ex.n,Nat.add_mul];omega
/-! ### Types -/
def rj:Bs->Sc->Option Sc
 |[],Γ=>some Γ
 |(x,s)::bs,Γ=>(bM s Γ).bind λT=>rj bs (Γ++[(x,T)])
def H8 (bs:Bs) (e:Ex) (Γ:Sc):bM (nest bs e) Γ=(rj bs Γ).bind (bM e):=by
 induction bs generalizing Γ with
 |nil=>rfl
 |cons p bs ih=>
  obtain⟨x,s⟩:=p
  show(bM s Γ).bind (λA=>bM (nest bs e) (Γ++[(x,A)]))=((bM s Γ).bind λT=>rj bs (Γ++[(x,T)])).bind (bM e)
  cases bM s Γ with
  |none=>rfl
  |some T=>exact ih _
def LF (bs cs:Bs) (Γ:Sc):rj (bs++cs) Γ=(rj bs Γ).bind (rj cs):=by
 induction bs generalizing Γ with
 |nil=>rfl
 |cons p bs ih=>
  obtain⟨x,s⟩:=p
  show(bM s Γ).bind (λT=>rj (bs++cs) (Γ++[(x,T)]))=((bM s Γ).bind λT=>rj bs (Γ++[(x,T)])).bind (rj cs)
  cases bM s Γ with
  |none=>rfl
  |some T=>exact ih _
def LG (Δ:Sc) (s:aj):Prop:=∀p,p∈Δ->p.1≠s
def Fq {Γ Δ:Sc} {s:aj} (h:LG Δ s):look (Γ++Δ) s=look Γ s:=by
 induction Δ generalizing Γ with
 |nil=>simp
 |cons p Δ ih=>
  obtain⟨x,T⟩:=p
  rw[show Γ++(x,T)::Δ=(Γ++[(x,T)])++Δ from by simp,ih λq hq=>h q (by simp[hq]),mZ,iN (h (x,T) sm)]
def sv (ai:List aj) (e:Ex) (n m:Nat) (y:aj):Prop:=y∈fQ e∨∃k,y=dm cy k∧n<=k∧k<m∧y∉ai
structure Made (ai:List aj) (e:Ex) (n:Nat) (r:Bs×Ex×Nat) (Γ:Sc) (T:Ty) (Δ:Sc):Prop where
 binds:rj r.1 Γ=some (Γ++Δ)
 type:bM r.2.1 (Γ++Δ)=some T
 aX:∀p,p∈Δ->sv ai e n r.2.2 p.1
def Dy (ai:List aj) (e:Ex) (n:Nat) (r:Bs×Ex×Nat):Prop:=∀s,(Fv s r.2.1∨∃p,p∈r.1∧Fv s p.2)->Fv s e∨sv ai e n r.2.2 s
structure RI (ai:List aj) (e:Ex):Prop where
 nodup:(fQ e).Nodup
 nofree:∀x,x∈fQ e->¬Fv x e
 noted:∀x,x∈fQ e∨Fv x e->x∈ai
def sv.more {ai:List aj} {e e':Ex} {n m n' m':Nat} {y:aj} (h:sv ai e n m y) (hb:∀x,x∈fQ e->x∈fQ e') (hn:n'<=n) (hm:m<=m'):sv ai e' n' m' y:=by
 rcases h with h|⟨k,e,p,q,r⟩
 ·exact .inl (hb y h)
 ·exact .inr ⟨k,e,om,om,r⟩
def Dy.az {ai:List aj} {e:Ex} {n:Nat} {r:Bs×Ex×Nat} (h:Dy ai e n r) (hn:n<=r.2.2):Dy ai e n (dW ai r):=by
 unfold dW
 have hf:=oK cy ai r.2.2
 have wy:=H6 cy ai r.2.2
 split
 ·exact h
 ·intro s hs
  have up:∀{s},Fv s e∨sv ai e n r.2.2 s->Fv s e∨sv ai e n (bK cy ai r.2.2+1) s:=λhh=>hh.imp id λhh=>hh.more (λx hx=>hx) (lR _) om
  rcases hs with⟨rfl,_⟩|⟨p,hp,hs⟩
  ·exact .inr (.inr ⟨_,rfl,om,by dsimp only;omega,wy⟩)
  ·rcases mA.1 hp with hp|hp
   ·exact up (h s (.inr ⟨p,hp,hs⟩))
   ·simp only[mS] at hp
    subst hp
    exact up (h s (.inl hs))
def H9:∀(bs:Bs) (e:Ex) (s:aj),Fv s (nest bs e)->Fv s e∨∃p,p∈bs∧Fv s p.2
 |[],e,s,h=>.inl h
 |p::bs,e,s,h=>by
  rcases h with h|⟨_,h⟩
  ·exact .inr ⟨p,sm,h⟩
  ·rcases H9 bs e s h with h|⟨q,hq,h⟩
   ·exact .inl h
   ·exact .inr ⟨q,by simp[hq],h⟩
def Dy.sub {ai:List aj} {e e':Ex} {n n' m':Nat} {r:Bs×Ex×Nat} (h:Dy ai e n r) (hf:∀s,Fv s e->Fv s e'∨s∈fQ e') (hb:∀x,x∈fQ e->x∈fQ e') (hn:n'<=n) (hm:r.2.2<=m') {s:aj} (hs:Fv s r.2.1∨∃p,p∈r.1∧Fv s p.2):Fv s e'∨sv ai e' n' m' s:=by
 rcases h s hs with h|h
 ·exact(hf s h).imp id .inl
 ·exact .inr (h.more hb hn hm)
def wA (ai:List aj):∀(e:Ex) (n:Nat),Dy ai e n (bu ai e n)
 | .at s,n=>λs hs=>hs.elim .inl fun⟨p,hp,_⟩=>by simp[bu] at hp
 | .un hd a,n=>λs hs=>((wA ai a n).az (iL ai a n).1).sub (λs h=>.inl h) (λx h=>h) (lR _) (lR _) hs
 | .bi hd a b,n=>λs hs=>by
  have h1:=iL ai a n
  have h2:=qx ai (bu ai a n)
  have h3:=iL ai b (dW ai (bu ai a n)).2.2
  have h4:=qx ai (bu ai b (dW ai (bu ai a n)).2.2)
  have ha:=((wA ai a n).az h1.1).sub (e':=.bi hd a b) (n':=n) (m':=(bu ai (.bi hd a b) n).2.2) (λs h=>.inl (.inl h)) (λx h=>mA.2 (.inl h)) (lR _) (by simp only[bu];omega) (s:=s)
  have hb:=((wA ai b (dW ai (bu ai a n)).2.2).az h3.1).sub (e':=.bi hd a b) (n':=n) (m':=(bu ai (.bi hd a b) n).2.2) (λs h=>.inl (.inr h)) (λx h=>mA.2 (.inr h)) om (by simp only[bu];omega) (s:=s)
  rcases hs with(hs|hs)|⟨p,hp,hs⟩
  ·exact ha (.inl hs)
  ·exact hb (.inl hs)
  ·rcases mA.1 hp with hp|hp
   ·exact ha (.inr ⟨p,hp,hs⟩)
   ·exact hb (.inr ⟨p,hp,hs⟩)
 | .ite a b c,n=>λs hs=>by
  have h1:=iL ai a n
  have h2:=qx ai (bu ai a n)
  have h3:=iL ai b (dW ai (bu ai a n)).2.2
  have h4:=iL ai c (bu ai b (dW ai (bu ai a n)).2.2).2.2
  have ha:=((wA ai a n).az h1.1).sub (e':=.ite a b c) (n':=n) (m':=(bu ai (.ite a b c) n).2.2) (λs h=>.inl (.inl h)) (λx h=>mA.2 (.inl h)) (lR _) (by simp only[bu];omega) (s:=s)
  have hb:=(wA ai b (dW ai (bu ai a n)).2.2).sub (e':=.ite a b c) (n':=n) (m':=(bu ai (.ite a b c) n).2.2) (λs h=>.inl (.inr (.inl h))) (λx h=>mA.2 (.inr (mA.2 (.inl h)))) om (by simp only[bu];omega) (s:=s)
  have hc:=(wA ai c (bu ai b (dW ai (bu ai a n)).2.2).2.2).sub (e':=.ite a b c) (n':=n) (m':=(bu ai (.ite a b c) n).2.2) (λs h=>.inl (.inr (.inr h))) (λx h=>mA.2 (.inr (mA.2 (.inr h)))) om (by simp only[bu];omega) (s:=s)
  rcases hs with(hs|hs|hs)|⟨p,hp,hs⟩
  ·exact ha (.inl hs)
  ·exact hb (H9 _ _ _ hs)
  ·exact hc (H9 _ _ _ hs)
  ·exact ha (.inr ⟨p,hp,hs⟩)
 | .lt x a b,n=>λs hs=>by
  have h1:=iL ai a n
  have h3:=iL ai b (bu ai a n).2.2
  have ha:=(wA ai a n).sub (e':=.lt x a b) (n':=n) (m':=(bu ai (.lt x a b) n).2.2) (λs h=>.inl (.inl h)) (λy h=>mK _ (mA.2 (.inl h))) (lR _) (by simp only[bu];omega) (s:=s)
  have hb:=(wA ai b (bu ai a n).2.2).sub (e':=.lt x a b) (n':=n) (m':=(bu ai (.lt x a b) n).2.2) (λs h=>by
   by_cases e:s=x
   ·exact .inr (by rw[e];exact List.mem_cons_self ..)
   ·exact .inl (.inr ⟨e,h⟩)) (λy h=>mK _ (mA.2 (.inr h))) om (by simp only[bu];omega) (s:=s)
  rcases hs with hs|⟨p,hp,hs⟩
  ·exact hb (.inl hs)
  ·rcases mA.1 hp with hp|hp
   ·exact ha (.inr ⟨p,hp,hs⟩)
   ·rcases mC.1 hp with rfl|hp
    ·exact ha (.inl hs)
    ·exact hb (.inr ⟨p,hp,hs⟩)
 | .fn f x A B e,n=>λs hs=>by
  rcases hs with⟨h1,h2,hs⟩|⟨p,hp,_⟩
  ·rcases wA ai e n s (H9 _ _ _ hs) with h|h
   ·exact .inl ⟨h1,h2,h⟩
   ·exact .inr (h.more (λy hy=>mK _ (mK _ hy)) (lR _) (lR _))
  ·simp[bu] at hp
def Made.az {ai:List aj} {e:Ex} {n:Nat} {r:Bs×Ex×Nat} {Γ:Sc} {T:Ty} {Δ:Sc} (h:Made ai e n r Γ T Δ) (hn:n<=r.2.2) (LH:(dW ai r).2.2<=1000):∃Δ',Made ai e n (dW ai r) Γ T Δ':=by
 unfold dW at LH⊢
 have hf:=oK cy ai r.2.2
 have wy:=H6 cy ai r.2.2
 split
 ·exact⟨Δ,h⟩
 ·rename_i fx
  rw[iN fx] at LH
  have hk:eQ (dm cy (bK cy ai r.2.2))=true:=z8 de (by dsimp only at LH;omega)
  refine⟨Δ++[(dm cy (bK cy ai r.2.2),T)],⟨?_,?_,?_⟩⟩
  ·rw[LF,h.binds,bS]
   show(bM r.2.1 (Γ++Δ)).bind _=_
   rw[h.type,bS,List.append_assoc];rfl
  ·show(if eQ (dm cy (bK cy ai r.2.2))=true then look (Γ++(Δ++[(dm cy (bK cy ai r.2.2),T)])) (dm cy (bK cy ai r.2.2)) else some Ty.i)=some T
   rw[iP hk,<-List.append_assoc,mZ,iP rfl]
  ·intro p hp
   rcases mA.1 hp with hp|hp
   ·exact(h.aX p hp).more (λx hx=>hx) (lR _) (by dsimp only;omega)
   ·simp only[mS] at hp
    subst hp
    exact .inr ⟨_,rfl,om,by dsimp only;omega,wy⟩
def Ia {ai:List aj} {a:Ex} {n m:Nat} {Δ:Sc} (h:∀p,p∈Δ->sv ai a n m p.1) {s:aj} (h1:s∉fQ a) (h2:s∈ai):LG Δ s:=λp hp e=>by
 rcases h p hp with h|⟨k,_,_,_,hr⟩
 ·exact h1 (e▸h)
 ·exact hr (e▸h2)
def acb {ai:List aj} {a b:Ex} {n m m':Nat} {Δ:Sc} {s:aj} (hs:Fv s a∨sv ai a n m s) (h:∀p,p∈Δ->sv ai b m m' p.1) (h1:∀x,x∈fQ b->¬Fv x a) (h2:∀x,x∈fQ b->x∉fQ a) (h3:∀x,x∈fQ b->x∈ai) (h4:∀x,x∈fQ a∨Fv x a->x∈ai):LG Δ s:=λp hp e=>by
 rcases h p hp with hb|⟨k,ek,hk,_,hr⟩
 ·rw[e] at hb
  rcases hs with hs|hs|⟨j,ej,_,_,hj⟩
  ·exact h1 s hb hs
  ·exact h2 s hb hs
  ·exact hj (h3 s hb)
 ·rcases hs with hs|hs|⟨j,ej,_,zn,_⟩
  ·exact hr (e▸h4 s (.inr hs))
  ·exact hr (e▸h4 s (.inl hs))
  ·rw[e,ej] at ek
   have:=pO ek;omega
def made (ai:List aj):∀(e:Ex) (n:Nat) (Γ:Sc) (T:Ty),RI ai e->(bu ai e n).2.2<=1000->bM e Γ=some T->∃Δ,Made ai e n (bu ai e n) Γ T Δ
 | .at s,n,Γ,T,hu,hm,h=>⟨[],⟨by simp[bu,rj],by simpa[bu] using h,sm⟩⟩
 | .un hd a,n,Γ,T,hu,hm,h=>by
  have h1:=iL ai a n
  have h2:=qx ai (bu ai a n)
  simp only[bu] at hm
  unfold bM at h
  cases ha:bM a Γ with
  |none=>rw[ha] at h;cases h
  |some A=>
   rw[ha,bS] at h
   obtain⟨Δ,hΔ⟩:=made ai a n Γ A ⟨hu.nodup,hu.nofree,hu.noted⟩ om ha
   obtain⟨Δ',hΔ'⟩:=hΔ.az h1.1 hm
   refine⟨Δ',⟨hΔ'.binds,?_,hΔ'.aX⟩⟩
   show(bM (dW ai (bu ai a n)).2.1 (Γ++Δ')).bind (λA=>ld hd [A])=some T
   rw[hΔ'.type,bS];exact h
 | .bi hd a b,n,Γ,T,hu,hm,h=>by
  have h1:=iL ai a n
  have h2:=qx ai (bu ai a n)
  have h3:=iL ai b (dW ai (bu ai a n)).2.2
  have h4:=qx ai (bu ai b (dW ai (bu ai a n)).2.2)
  have o9:=(wA ai a n).az h1.1
  simp only[bu] at hm
  unfold bM at h
  cases ha:bM a Γ with
  |none=>rw[ha] at h;cases h
  |some A=>
   cases hb:bM b Γ with
   |none=>rw[ha,hb] at h;cases h
   |some B=>
    rw[ha,hb,bS,bS] at h
    have jA:=List.nodup_append.1 hu.nodup
    obtain⟨Δ1,hΔ1⟩:=made ai a n Γ A ⟨jA.1,λx hx hf=>hu.nofree x (mA.2 (.inl hx)) (.inl hf),λx hx=>hu.noted x (hx.imp (λh=>mA.2 (.inl h)) .inl)⟩ om ha
    obtain⟨Δ1',hΔ1'⟩:=hΔ1.az h1.1 om
    have gX:bM b (Γ++Δ1')=some B:=by
     rw[<-hb]
     refine qw b _ _ λs hn hs=>Fq (Ia hΔ1'.aX (λhx=>hu.nofree s (mA.2 (.inl hx)) (.inr hs)) (hu.noted s (.inr (.inr hs))))
    obtain⟨Δ2,hΔ2⟩:=made ai b (dW ai (bu ai a n)).2.2 (Γ++Δ1') B ⟨jA.2.1,λx hx hf=>hu.nofree x (mA.2 (.inr hx)) (.inr hf),λx hx=>hu.noted x (hx.imp (λh=>mA.2 (.inr h)) .inr)⟩ om gX
    obtain⟨Δ2',hΔ2'⟩:=hΔ2.az h3.1 hm
    refine⟨Δ1'++Δ2',⟨?_,?_,?_⟩⟩
    ·show rj (_++_) Γ=_
     rw[LF,hΔ1'.binds,bS,hΔ2'.binds,List.append_assoc]
    ·show(bM (dW ai (bu ai a n)).2.1 (Γ++(Δ1'++Δ2'))).bind (λA=>(bM (dW ai (bu ai b (dW ai (bu ai a n)).2.2)).2.1 (Γ++(Δ1'++Δ2'))).bind λB=>ld hd [A,B])=some T
     have e1:bM (dW ai (bu ai a n)).2.1 (Γ++(Δ1'++Δ2'))=some A:=by
      rw[<-hΔ1'.type,<-List.append_assoc]
      refine qw _ _ _ λs hn hs=>Fq (acb (o9 s (.inl hs)) hΔ2'.aX ?_ ?_ ?_ ?_)
      ·exact λx hx hf=>hu.nofree x (mA.2 (.inr hx)) (.inl hf)
      ·exact λx hx fH=>jA.2.2 x fH x hx rfl
      ·exact λx hx=>hu.noted x (.inl (mA.2 (.inr hx)))
      ·exact λx hx=>hu.noted x (hx.imp (λh=>mA.2 (.inl h)) .inl)
     rw[e1,bS,<-List.append_assoc,hΔ2'.type,bS];exact h
    ·intro p hp
     rcases mA.1 hp with hp|hp
     ·exact(hΔ1'.aX p hp).more (λx hx=>mA.2 (.inl hx)) (lR _) (by simp only[bu];omega)
     ·exact(hΔ2'.aX p hp).more (λx hx=>mA.2 (.inr hx)) om (by simp only[bu];omega)
 | .ite a b c,n,Γ,T,hu,hm,h=>by
  have h1:=iL ai a n
  have h2:=qx ai (bu ai a n)
  have h3:=iL ai b (dW ai (bu ai a n)).2.2
  have h4:=iL ai c (bu ai b (dW ai (bu ai a n)).2.2).2.2
  simp only[bu] at hm
  unfold bM at h
  cases ha:bM a Γ with
  |none=>rw[ha] at h;cases h
  |some A=>
   cases hb:bM b Γ with
   |none=>rw[ha,hb] at h;cases h
   |some B=>
    cases hc:bM c Γ with
    |none=>rw[ha,hb,hc] at h;cases h
    |some C=>
     rw[ha,hb,hc,bS,bS,bS] at h
     have jA:=List.nodup_append.1 hu.nodup
     have RJ:=List.nodup_append.1 jA.2.1
     have inB:∀x,x∈fQ b->x∈fQ (.ite a b c):=λx hx=>mA.2 (.inr (mA.2 (.inl hx)))
     have inC:∀x,x∈fQ c->x∈fQ (.ite a b c):=λx hx=>mA.2 (.inr (mA.2 (.inr hx)))
     have inA:∀x,x∈fQ a->x∈fQ (.ite a b c):=λx hx=>mA.2 (.inl hx)
     obtain⟨Δ1,hΔ1⟩:=made ai a n Γ A ⟨jA.1,λx hx hf=>hu.nofree x (inA x hx) (.inl hf),λx hx=>hu.noted x (hx.imp (inA x) .inl)⟩ om ha
     obtain⟨Δ1',hΔ1'⟩:=hΔ1.az h1.1 om
     have gX:bM b (Γ++Δ1')=some B:=by
      rw[<-hb]
      refine qw b _ _ λs hn hs=>Fq (Ia hΔ1'.aX (λhx=>hu.nofree s (inA s hx) (.inr (.inl hs))) (hu.noted s (.inr (.inr (.inl hs)))))
     have pG:bM c (Γ++Δ1')=some C:=by
      rw[<-hc]
      refine qw c _ _ λs hn hs=>Fq (Ia hΔ1'.aX (λhx=>hu.nofree s (inA s hx) (.inr (.inr hs))) (hu.noted s (.inr (.inr (.inr hs)))))
     obtain⟨Δ2,hΔ2⟩:=made ai b (dW ai (bu ai a n)).2.2 (Γ++Δ1') B ⟨RJ.1,λx hx hf=>hu.nofree x (inB x hx) (.inr (.inl hf)),λx hx=>hu.noted x (hx.imp (inB x) λh=>.inr (.inl h))⟩ om gX
     obtain⟨Δ3,hΔ3⟩:=made ai c (bu ai b (dW ai (bu ai a n)).2.2).2.2 (Γ++Δ1') C ⟨RJ.2.1,λx hx hf=>hu.nofree x (inC x hx) (.inr (.inr hf)),λx hx=>hu.noted x (hx.imp (inC x) λh=>.inr (.inr h))⟩ hm pG
     refine⟨Δ1',⟨hΔ1'.binds,?_,?_⟩⟩
     ·show(bM (dW ai (bu ai a n)).2.1 (Γ++Δ1')).bind (λA=>(bM (nest _ _) (Γ++Δ1')).bind λB=>(bM (nest _ _) (Γ++Δ1')).bind λC=>ld cE [A,B,C])=some T
      rw[hΔ1'.type,H8,H8,hΔ2.binds,hΔ3.binds,bS,bS,bS,hΔ2.type,hΔ3.type,bS,bS];exact h
     ·exact λp hp=>(hΔ1'.aX p hp).more inA (lR _) (by simp only[bu];omega)
 | .lt x a b,n,Γ,T,hu,hm,h=>by
  have h1:=iL ai a n
  have h3:=iL ai b (bu ai a n).2.2
  simp only[bu] at hm
  unfold bM at h
  cases ha:bM a Γ with
  |none=>rw[ha] at h;cases h
  |some A=>
   rw[ha,bS] at h
   have Fs:=List.nodup_cons.1 hu.nodup
   have jA:=List.nodup_append.1 Fs.2
   have inA:∀y,y∈fQ a->y∈fQ (.lt x a b):=λy hy=>mK _ (mA.2 (.inl hy))
   have inB:∀y,y∈fQ b->y∈fQ (.lt x a b):=λy hy=>mK _ (mA.2 (.inr hy))
   have RK:x∈fQ (.lt x a b):=List.mem_cons_self ..
   obtain⟨Δ1,hΔ1⟩:=made ai a n Γ A ⟨jA.1,λy hy hf=>hu.nofree y (inA y hy) (.inl hf),λy hy=>hu.noted y (hy.imp (inA y) .inl)⟩ om ha
   have gX:bM b (Γ++(Δ1++[(x,A)]))=some T:=by
    rw[<-h,<-List.append_assoc]
    refine qw b _ _ λs hn hs=>?_
    rw[mZ,mZ]
    by_cases e:x=s
    ·rw[iP e,iP e]
    ·rw[iN e,iN e]
     have zU:Fv s (.lt x a b):=.inr ⟨λe'=>e e'.symm,hs⟩
     exact Fq (Ia hΔ1.aX (λhx=>hu.nofree s (inA s hx) zU) (hu.noted s (.inr zU)))
   obtain⟨Δ2,hΔ2⟩:=made ai b (bu ai a n).2.2 (Γ++(Δ1++[(x,A)])) T ⟨jA.2.1,λy hy hf=>by
    by_cases e:y=x
    ·exact Fs.1 (e▸mA.2 (.inr hy))
    ·exact hu.nofree y (inB y hy) (.inr ⟨e,hf⟩),λy hy=>by
    by_cases e:y=x
    ·rw[e];exact hu.noted x (.inl RK)
    ·exact hu.noted y (hy.imp (inB y) λh=>.inr ⟨e,h⟩)⟩ hm gX
   refine⟨Δ1++(x,A)::Δ2,⟨?_,?_,?_⟩⟩
   ·show rj (_++(x,_)::_) Γ=_
    rw[LF,hΔ1.binds,bS]
    show(bM (bu ai a n).2.1 (Γ++Δ1)).bind (λT=>rj _ ((Γ++Δ1)++[(x,T)]))=_
    rw[hΔ1.type,bS,List.append_assoc,hΔ2.binds]
    simp
   ·show bM (bu ai b (bu ai a n).2.2).2.1 _=some T
    have:=hΔ2.type
    rw[show Γ++(Δ1++(x,A)::Δ2)=Γ++(Δ1++[(x,A)])++Δ2 from by simp];exact this
   ·intro p hp
    rcases mA.1 hp with hp|hp
    ·exact(hΔ1.aX p hp).more inA (lR _) (by simp only[bu];omega)
    ·rcases mC.1 hp with rfl|hp
     ·exact .inl RK
     ·exact(hΔ2.aX p hp).more inB om (by simp only[bu];omega)
 | .fn f x A B e,n,Γ,T,hu,hm,h=>by
  simp only[bu] at hm
  unfold bM at h
  split at h
  ·rename_i hc
   cases he:bM e (Γ++[(f,.op true A B),(x,A)]) with
   |none=>rw[he] at h;cases h
   |some C=>
    rw[he,bS] at h
    have Fs:=List.nodup_cons.1 hu.nodup
    have jA:=List.nodup_cons.1 Fs.2
    have inE:∀y,y∈fQ e->y∈fQ (.fn f x A B e):=λy hy=>mK _ (mK _ hy)
    obtain⟨Δ1,hΔ1⟩:=made ai e n (Γ++[(f,.op true A B),(x,A)]) C ⟨jA.2,λy hy hf=>by
     by_cases e1:y=x
     ·exact jA.1 (e1▸hy)
     ·by_cases e2:y=f
      ·exact Fs.1 (e2▸mK _ hy)
      ·exact hu.nofree y (inE y hy) ⟨e2,e1,hf⟩,λy hy=>by
     by_cases e1:y=x
     ·rw[e1];exact hu.noted x (.inl (mK _ (List.mem_cons_self ..)))
     ·by_cases e2:y=f
      ·rw[e2];exact hu.noted f (.inl (List.mem_cons_self ..))
      ·exact hu.noted y (hy.imp (inE y) λh=>⟨e2,e1,h⟩)⟩ hm he
    refine⟨[],⟨by simp[bu,rj],?_,sm⟩⟩
    show(if 1+A.n+B.n<=16 then(bM (nest (bu ai e n).1 (bu ai e n).2.1) ((Γ++[])++[(f,.op true A B),(x,A)])).bind λC=>if la C B then some (.op true A B) else none else none)=some T
    rw[iP hc,List.append_nil,H8,hΔ1.binds,bS,hΔ1.type,bS];exact h
  ·cases h
def acd {ai:List aj} {e:Ex} {n:Nat} {Γ:Sc} {T:Ty} (hu:RI ai e) (hm:(bu ai e n).2.2<=1000) (h:bM e Γ=some T):bM (nh ai e n) Γ=some T:=by
 obtain⟨Δ,hΔ⟩:=made ai e n Γ T hu hm h
 unfold nh
 rw[H8,hΔ.binds,bS,hΔ.type]
/-! ### Atoms of a form -/
mutual
def lM:aA->List aj->List aj
 | .mk a ps,l=>if a≠[] then(if a∈l then l else l++[a]) else pb ps l
def pb:List aA->List aj->List aj
 |[],l=>l
 |t::ts,l=>pb ts (lM t l)
end
def RL (t:aA) (l:List aj):lM t l=if t.az≠[] then(if t.az∈l then l else l++[t.az]) else pb t.au l:=by cases t with|mk a ps=>rw[lM];rfl
def RM:∀(xs ys:List aA) (l:List aj),pb (xs++ys) l=pb ys (pb xs l)
 |[],ys,l=>rfl
 |x::xs,ys,l=>by simp only[List.cons_append,pb];exact RM xs ys _
def ace {ps:List aA} {i:Nat} {p:aA} (h:ps[i]?=some p) (l:List aj):pb (ps.take (i+1)) l=lM p (pb (ps.take i) l):=by
 rw[List.take_add_one,h,RM];rfl
mutual
def acf {x:aj}:∀(t:aA) (l:List aj),x∈l->x∈lM t l
 | .mk a ps,l,h=>by
  unfold lM
  split
  ·split
   ·exact h
   ·exact mA.2 (.inl h)
  ·exact LI ps l h
def LI {x:aj}:∀(ps:List aA) (l:List aj),x∈l->x∈pb ps l
 |[],l,h=>h
 |t::ts,l,h=>by unfold pb;exact LI ts _ (acf t l h)
end
mutual
def RO:∀(t:aA) (l:List aj),(lM t l).length<=l.length+fP t
 | .mk a ps,l=>by
  unfold lM fP
  split
  ·split
   ·omega
   ·simp
  ·exact LJ ps l
def LJ:∀(ps:List aA) (l:List aj),(pb ps l).length<=l.length+jQ ps
 |[],l=>by simp[pb,jQ]
 |t::ts,l=>by
  have h1:=RO t l
  have h2:=LJ ts (lM t l)
  unfold pb jQ;omega
end
def RP {x:aj}:∀{ps:List aA} {l:List aj} {p:aA},p∈ps->(∀l,x∈lM p l)->x∈pb ps l
 |q::ps,l,p,hp,h=>by
  unfold pb
  rcases mC.1 hp with rfl|hp
  ·exact LI ps _ (h l)
  ·exact RP hp h
def Ib {x:aj} (hx:x≠[]) (l:List aj):x∈lM (cg x) l:=by
 unfold cg lM
 rw[iP hx]
 split
 ·assumption
 ·exact mA.2 (.inr (mS.2 rfl))
def tL {x:aj} {ps:List aA} {p:aA} (hp:p∈ps) (h:∀l,x∈lM p l) (l:List aj):x∈lM (.mk [] ps) l:=by
 unfold lM
 rw[iN de]
 exact RP hp h
def wB {x:aj}:∀{e:Ex},e.ok->(x∈fQ e∨Fv x e)->∀l,x∈lM e.av l
 | .at s,h,hx,l=>by
  rcases hx with hx|⟨rfl,_⟩
  ·simp[fQ] at hx
  ·exact Ib (pN h) l
 | .un hd a,h,hx,l=>tL (p:=a.av) sm (wB h.2 hx) l
 | .bi hd a b,h,hx,l=>by
  have ha:(x∈fQ a∨Fv x a)∨(x∈fQ b∨Fv x b):=by
   rcases hx with hx|hx
   ·rcases mA.1 hx with h|h
    ·exact .inl (.inl h)
    ·exact .inr (.inl h)
   ·rcases hx with h|h
    ·exact .inl (.inr h)
    ·exact .inr (.inr h)
  rcases ha with ha|hb
  ·exact tL (p:=a.av) sm (wB h.2.1 ha) l
  ·exact tL (p:=b.av) sm (wB h.2.2 hb) l
 | .ite a b c,h,hx,l=>by
  have ha:(x∈fQ a∨Fv x a)∨(x∈fQ b∨Fv x b)∨(x∈fQ c∨Fv x c):=by
   rcases hx with hx|hx
   ·rcases mA.1 hx with h|h
    ·exact .inl (.inl h)
    ·rcases mA.1 h with h|h
     ·exact .inr (.inl (.inl h))
     ·exact .inr (.inr (.inl h))
   ·rcases hx with h|h|h
    ·exact .inl (.inr h)
    ·exact .inr (.inl (.inr h))
    ·exact .inr (.inr (.inr h))
  rcases ha with ha|hb|hc
  ·exact tL (p:=a.av) sm (wB h.1 ha) l
  ·exact tL (p:=b.av) sm (wB h.2.1 hb) l
  ·exact tL (p:=c.av) sm (wB h.2.2 hc) l
 | .lt y a b,h,hx,l=>by
  have ha:x=y∨(x∈fQ a∨Fv x a)∨(x∈fQ b∨Fv x b):=by
   rcases hx with hx|hx
   ·rcases mC.1 hx with h|h
    ·exact .inl h
    ·rcases mA.1 h with h|h
     ·exact .inr (.inl (.inl h))
     ·exact .inr (.inr (.inl h))
   ·rcases hx with h|⟨_,h⟩
    ·exact .inr (.inl (.inr h))
    ·exact .inr (.inr (.inr h))
  rcases ha with rfl|ha|hb
  ·exact tL (p:=cg x) sm (λl=>Ib (uQ h.1) l) l
  ·exact tL (p:=a.av) sm (wB h.2.1 ha) l
  ·exact tL (p:=b.av) sm (wB h.2.2 hb) l
 | .fn f y A B e,h,hx,l=>by
  obtain⟨hf,hy,_,_,_,he⟩:=h
  have ha:x=f∨x=y∨(x∈fQ e∨Fv x e):=by
   rcases hx with hx|hx
   ·rcases mC.1 hx with h|h
    ·exact .inl h
    ·rcases mC.1 h with h|h
     ·exact .inr (.inl h)
     ·exact .inr (.inr (.inl h))
   ·exact .inr (.inr (.inr hx.2.2))
  rcases ha with rfl|rfl|ha
  ·exact tL (p:=cg x) sm (λl=>Ib (uQ hf) l) l
  ·exact tL (p:=cg x) sm (λl=>Ib (uQ hy) l) l
  ·exact tL (p:=e.av) sm (wB he ha) l
/-! ### Expressions stay expressions -/
structure Ic (r:Bs×Ex×Nat):Prop where
 out:r.2.1.ok
 bs:∀p,p∈r.1->eQ p.1=true∧p.2.ok
def Ic.az {ai:List aj} {r:Bs×Ex×Nat} (h:Ic r) (hm:(dW ai r).2.2<=1000):Ic (dW ai r):=by
 unfold dW at hm⊢
 split
 ·exact h
 ·rename_i fx
  rw[iN fx] at hm
  have hk:eQ (dm cy (bK cy ai r.2.2))=true:=z8 de (by dsimp only at hm;omega)
  refine⟨?_,λp hp=>?_⟩
  ·show qu _=true
   unfold qu;rw[hk];simp
  ·rcases mA.1 hp with hp|hp
   ·exact h.bs p hp
   ·simp only[mS] at hp
    subst hp
    exact⟨hk,h.out⟩
def Ft:∀{bs:Bs} {e:Ex},(∀p,p∈bs->eQ p.1=true∧p.2.ok)->e.ok->(nest bs e).ok
 |[],e,_,h=>h
 |p::bs,e,hb,h=>⟨(hb p sm).1,(hb p sm).2,Ft (λq hq=>hb q (by simp[hq])) h⟩
def wC (ai:List aj):∀(e:Ex) (n:Nat),e.ok->(bu ai e n).2.2<=1000->Ic (bu ai e n)
 | .at s,n,h,_=>⟨h,by simp[bu]⟩
 | .un hd a,n,h,hm=>by
  have h1:=iL ai a n
  have h2:=qx ai (bu ai a n)
  simp only[bu] at hm
  have ha:=(wC ai a n h.2 om).az hm
  exact⟨⟨h.1,ha.out⟩,ha.bs⟩
 | .bi hd a b,n,h,hm=>by
  have h1:=iL ai a n
  have h2:=qx ai (bu ai a n)
  have h3:=iL ai b (dW ai (bu ai a n)).2.2
  have h4:=qx ai (bu ai b (dW ai (bu ai a n)).2.2)
  simp only[bu] at hm
  have ha:=(wC ai a n h.2.1 om).az (ai:=ai) om
  have hb:=(wC ai b (dW ai (bu ai a n)).2.2 h.2.2 om).az (ai:=ai) hm
  exact⟨⟨h.1,ha.out,hb.out⟩,λp hp=>(mA.1 hp).elim (ha.bs p) (hb.bs p)⟩
 | .ite a b c,n,h,hm=>by
  have h1:=iL ai a n
  have h2:=qx ai (bu ai a n)
  have h3:=iL ai b (dW ai (bu ai a n)).2.2
  have h4:=iL ai c (bu ai b (dW ai (bu ai a n)).2.2).2.2
  simp only[bu] at hm
  have ha:=(wC ai a n h.1 om).az (ai:=ai) om
  have hb:=wC ai b (dW ai (bu ai a n)).2.2 h.2.1 om
  have hc:=wC ai c (bu ai b (dW ai (bu ai a n)).2.2).2.2 h.2.2 hm
  exact⟨⟨ha.out,Ft hb.bs hb.out,Ft hc.bs hc.out⟩,ha.bs⟩
 | .lt x a b,n,h,hm=>by
  have h1:=iL ai a n
  have h3:=iL ai b (bu ai a n).2.2
  simp only[bu] at hm
  have ha:=wC ai a n h.2.1 om
  have hb:=wC ai b (bu ai a n).2.2 h.2.2 hm
  refine⟨hb.out,λp hp=>?_⟩
  rcases mA.1 hp with hp|hp
  ·exact ha.bs p hp
  ·rcases mC.1 hp with rfl|hp
   ·exact⟨h.1,ha.out⟩
   ·exact hb.bs p hp
 | .fn f x A B e,n,h,hm=>by
  obtain⟨hf,hx,eN,hA,hB,he⟩:=h
  simp only[bu] at hm
  have ha:=wC ai e n he hm
  exact⟨⟨hf,hx,eN,hA,hB,Ft ha.bs ha.out⟩,by simp[bu]⟩
def pQ (bs:Bs):Nat:=(bs.map λp=>2+p.2.n).sum
def LK (a b:Bs):pQ (a++b)=pQ a+pQ b:=by unfold pQ;rw[List.map_append,List.sum_append]
def Ig (p:aj×Ex) (b:Bs):pQ (p::b)=2+p.2.n+pQ b:=by simp[pQ]
def LL (bs:Bs) (e:Ex):(nest bs e).n=pQ bs+e.n:=by
 induction bs with
 |nil=>simp[nest,pQ]
 |cons p bs ih=>
  show(Ex.lt p.1 p.2 (nest bs e)).n=_
  rw[Ig];simp only[Ex.n,ih];omega
def Ih (ai:List aj) (r:Bs×Ex×Nat):pQ (dW ai r).1+(dW ai r).2.1.n<=pQ r.1+r.2.1.n+3:=by
 unfold dW
 split
 ·omega
 ·dsimp only;rw[LK,Ig];simp[pQ,Ex.n];omega
def uS (ai:List aj):∀(e:Ex) (n:Nat),pQ (bu ai e n).1+(bu ai e n).2.1.n+3<=4*e.n
 | .at s,n=>by simp[bu,pQ,Ex.n]
 | .un hd a,n=>by
  have:=uS ai a n
  have:=Ih ai (bu ai a n)
  simp only[bu,Ex.n];omega
 | .bi hd a b,n=>by
  have:=uS ai a n
  have:=Ih ai (bu ai a n)
  have:=uS ai b (dW ai (bu ai a n)).2.2
  have:=Ih ai (bu ai b (dW ai (bu ai a n)).2.2)
  simp only[bu,Ex.n,LK];omega
 | .ite a b c,n=>by
  have:=uS ai a n
  have:=Ih ai (bu ai a n)
  have:=uS ai b (dW ai (bu ai a n)).2.2
  have:=uS ai c (bu ai b (dW ai (bu ai a n)).2.2).2.2
  simp only[bu,Ex.n,LL];omega
 | .lt x a b,n=>by
  have:=uS ai a n
  have:=uS ai b (bu ai a n).2.2
  simp only[bu,Ex.n,LK,Ig];omega
 | .fn f x A B e,n=>by
  have:=uS ai e n
  simp only[bu,Ex.n,LL]
  rw[show pQ ([]:Bs)=0 from rfl];omega
/-! ### The normal form -/
def qy (e:Ex):Option Ex:=if(cj (cG e [] []) e [] 0).2<=100 then some (cj (cG e [] []) e [] 0).1 else none
def nX (e:Ex):Option Ex:=(qy e).bind λp=>if(bu (lM p.av []) p 0).2.2<=100 then some (nh (lM p.av []) p 0) else none
def LM {e p:Ex} (h:e.ok) (hp:qy e=some p):p.ok:=by
 unfold qy at hp
 split at hp
 ·cases hp
  exact wq _ e [] 0 h om λs hn _=>hn
 ·cases hp
def LN {e q:Ex} (h:e.ok) (hq:nX e=some q):q.ok:=by
 unfold nX at hq
 cases hp:qy e with
 |none=>rw[hp] at hq;cases hq
 |some p=>
  rw[hp,bS] at hq
  split at hq
  ·cases hq
   have:=wC (lM p.av []) p 0 (LM h hp) om
   exact Ft this.bs this.out
  ·cases hq
def RQ {e q:Ex} {T:Ty} (h:e.ok) (ht:bM e []=some T) (hq:nX e=some q):bM q []=some T:=by
 unfold nX at hq
 cases hp:qy e with
 |none=>rw[hp] at hq;cases hq
 |some p=>
  have Dk:=LM h hp
  rw[hp,bS] at hq
  split at hq
  ·rename_i hm
   cases hq
   unfold qy at hp
   split at hp
   ·rename_i rR
    cases hp
    have noFv:∀s,¬Fv s e:=λs hs=>by have:=pP ht hs;simp[look] at this
    have RR:bM (cj (cG e [] []) e [] 0).1 []=some T:=by
     rw[<-ht]
     exact wu _ e [] 0 [] [] om λs _ hs=>absurd hs (noFv s)
    have noFp:∀s,¬Fv s (cj (cG e [] []) e [] 0).1:=λs hs=>by have:=pP RR hs;simp[look] at this
    refine acd ⟨(wv _ e [] 0).1,λx _=>noFp x,λx hx=>wB Dk hx []⟩ om RR
   ·cases hp
  ·cases hq
/-! ### Target types -/
def Aa (x:aA):aA:=.mk [] [cg [101],.mk [] [cg [116],.mk [] [cg [99],cg [118],x],cg [118]]]
def pR:Ty->aA
 | .i=>cg [105]
 | .op false a b=>.mk [] [cg [116],pR a,pR b]
 | .op true a b=>.mk [] [cg [101],.mk [] [cg [116],.mk [] [cg [99],cg [118],pR a,Aa (pR b)],cg [118]]]
def bL (t:Ty):aj:=(pR t).text
def dX (s:aj):aj:=[40,101,32,40,116,32,40,99,32,118,32]++s++[41,32,118,41,41]
def tM (c:UInt8) (h:fC c=true):Good (cg [c]):=.az _ sm (by simp[h])
def RS {x:aA} (h:Good x):Good (Aa x):=by
 refine .list _ sm λp hp=>?_
 simp only[mC,nN,oF] at hp
 rcases hp with rfl|rfl
 ·exact tM _ de
 ·refine .list _ sm λp hp=>?_
  simp only[mC,nN,oF] at hp
  rcases hp with rfl|rfl|rfl
  ·exact tM _ de
  ·refine .list _ sm λp hp=>?_
   simp only[mC,nN,oF] at hp
   rcases hp with rfl|rfl|rfl
   ·exact tM _ de
   ·exact tM _ de
   ·exact h
  ·exact tM _ de
def RT (x:aA):(Aa x).text=dX x.text:=by
 have a1:∀c:UInt8,(cg [c]).text=[c]:=λc=>sE sm
 unfold Aa dX
 rw[rb,l6,pL,a1,rb,l6,l6,pL,a1,a1,rb,l6,l6,pL,a1,a1]
 simp
def LO (s:aj):(dX s).length=s.length+16:=by simp[dX]
def RU (x:aA):(Aa x).depth=max 3 (x.depth+3):=by
 have a0:∀c:UInt8,(cg [c]).depth=0:=λc=>rfl
 unfold Aa
 simp only[aA.depth,aA.depth.deeps,cg];omega
def Dz:∀t:Ty,Good (pR t)
 | .i=>tM _ de
 | .op false a b=>by
  refine .list _ sm λp hp=>?_
  simp only[mC,nN,oF] at hp
  rcases hp with rfl|rfl|rfl
  ·exact tM _ de
  ·exact Dz a
  ·exact Dz b
 | .op true a b=>by
  refine .list _ sm λp hp=>?_
  simp only[mC,nN,oF] at hp
  rcases hp with rfl|rfl
  ·exact tM _ de
  ·refine .list _ sm λp hp=>?_
   simp only[mC,nN,oF] at hp
   rcases hp with rfl|rfl|rfl
   ·exact tM _ de
   ·refine .list _ sm λp hp=>?_
    simp only[mC,nN,oF] at hp
    rcases hp with rfl|rfl|rfl|rfl
    ·exact tM _ de
    ·exact tM _ de
    ·exact Dz a
    ·exact RS (Dz b)
   ·exact tM _ de
def RV:bL .i=[105]:=sE sm
def RW (a b:Ty):bL (.op false a b)=[40,116,32]++bL a++[32]++bL b++[41]:=by
 have a1:∀c:UInt8,(cg [c]).text=[c]:=λc=>sE sm
 show(aA.mk [] [cg [116],pR a,pR b]).text=_
 rw[rb,l6,l6,pL,a1]
 simp[bL]
def RX (a b:Ty):bL (.op true a b)=[40,101,32,40,116,32,40,99,32,118,32]++bL a++[32]++dX (bL b)++[41,32,118,41,41]:=by
 have a1:∀c:UInt8,(cg [c]).text=[c]:=λc=>sE sm
 show(aA.mk [] [cg [101],.mk [] [cg [116],.mk [] [cg [99],cg [118],pR a,Aa (pR b)],cg [118]]]).text=_
 rw[rb,l6,pL,a1,rb,l6,l6,pL,a1,a1,rb,l6,l6,l6,pL,a1,a1,RT]
 simp[bL]
def BP:∀t:Ty,(bL t).length+16<=17*t.n
 | .i=>by rw[RV];simp[Ty.n]
 | .op false a b=>by
  have:=BP a;have:=BP b
  rw[RW];simp only[lA,lC,lN,Ty.n];omega
 | .op true a b=>by
  have:=BP a;have:=BP b
  rw[RX];simp only[lA,lC,lN,Ty.n,LO];omega
def DA:∀t:Ty,(pR t).depth+3<=3*t.n
 | .i=>by simp[pR,cg,aA.depth,aA.depth.deeps,Ty.n]
 | .op false a b=>by
  have:=DA a;have:=DA b
  have:=a.pos;have:=b.pos
  simp only[pR,aA.depth,aA.depth.deeps,cg,Ty.n];omega
 | .op true a b=>by
  have:=DA a;have:=DA b
  have:=a.pos;have:=b.pos
  have hn:=RU (pR b)
  simp only[pR,aA.depth,aA.depth.deeps,cg,Ty.n,hn];omega
/-! ### The maker's state -/
structure Tk where
 aP:aj
 regs:List aj
 loads:Nat
 self:List aj
 sc:List (aj×Nat×Ty)
 expr:Ex
 on:Nat
 bm:aj
 next:Nat
structure Mk where
 blocks:List Bk
 bX:List Tk
 count:Nat
 wide:Bool
 code:List aj
 types:List aj
abbrev dd:=List (aj×Nat×Ty)
def fl (s:dd):Sc:=s.map λp=>(p.1,p.2.2)
def DB (s:dd) (x:aj) (r:Nat) (T:Ty):fl (s++[(x,r,T)])=fl s++[(x,T)]:=by simp[fl]
def kU (s:dd) (x:aj):Nat:=((s.reverse.find? λp=>decide (p.1=x)).map λp=>p.2.1).getD 0
def kG (s:dd) (x:aj):Ty:=(look (fl s) x).getD .i
def Mk.dI (m:Mk) (kind:aj):Mk:={m with types:=m.types++[kind],wide:=m.wide||decide (40<m.types.length+1)}
def Mk.da (m:Mk) (h:aj) (ps:List aj):Mk:={m with code:=m.code++[bO h ps]}
def Mk.lO (m:Mk):Mk:={m with count:=m.count+1}
def Mk.aP (m:Mk):aj:=98::bf m.count
abbrev Ii:aj:=[99,111,110,115,116]
abbrev l8:aj:=[110,101,119]
abbrev sI:aj:=[108,97,98]
abbrev sJ:aj:=[112,97,99,107]
abbrev Ab:aj:=[111,112,101,110]
abbrev sK:aj:=[103,101,116]
abbrev nY:aj:=[109,111,118]
abbrev Ac:aj:=[106,117,109,112]
abbrev Fu:aj:=[122,101,114,111]
abbrev BQ:aj:=[109,97,105,110]
abbrev Ad:aj:=[101,110,100]
def Ex.az:Ex->aj
 | .at s=>s
 |_=>[]
def Ex.rk (e:Ex):e.av.az=e.az:=by cases e<;>rfl
def cH (m:Mk) (s:dd) (a:aj):Mk×Nat:=if eQ a then(m,kU s a) else((m.dI [105]).da Ii [bf m.types.length,a],m.types.length)
structure Pk where
 m:Mk
 r:Nat
 w:aj
def pd (m:Mk) (s:dd) (ton:Nat) (aX:List aj) (on aP kind:aj) (cP:List aj):Pk:=
 let regs:=aX.map (λx=>bf (kU s x))++(if on≠[] then[bf ton] else[])
 let tys:=aX.map (λx=>bL (kG s x))++(if on≠[] then[on] else[])
 let w:=bO [116] tys
 let r:=m.types.length
 let code:=bO [99] (w::cP)
 ⟨(((((((m.dI w).da l8 (bf r::regs)).dI code).da sI [bf (r+1),aP]).dI (bO [116] [code,w])).da l8 [bf (r+2),bf (r+1),bf r]).dI kind).da sJ [bf (r+3),bf (r+2),kind,w],r+3,w⟩
def iR (s:dd) (k:Nat) (aX:List aj) (from_:dd):dd:=from_++(aX.zipIdx).map λp=>(p.1,k+p.2,kG s p.1)
def oL (m:Mk) (s:dd) (f x:aj) (A B:Ty) (e:Ex):Pk:=pd m.lO s 0 (cG (.fn f x A B e) [] []) [] m.aP (bL (.op true A B)) [bL A,dX (bL B)]
def Ae (s:dd) (f x:aj) (A B:Ty) (e:Ex):dd:=
 (if 0<ir f e then iR s 3 (cG (.fn f x A B e) [] []) []++[(f,3+(cG (.fn f x A B e) [] []).length+2,.op true A B)] else iR s 3 (cG (.fn f x A B e) [] []) [])++[(x,1,A)]
def Af (m:Mk) (s:dd) (f x:aj) (A B:Ty) (e:Ex):Tk:=
 ⟨m.aP,[(oL m s f x A B e).w,bL A,dX (bL B)],(cG (.fn f x A B e) [] []).length,if 0<ir f e then[bL (.op true A B),(oL m s f x A B e).w] else[],Ae s f x A B e,e,2,dX (bL B),3⟩
def Ag (m:Mk) (s:dd) (f x:aj) (A B:Ty) (e:Ex):Mk×Nat:=
 ({(oL m s f x A B e).m with bX:=(oL m s f x A B e).m.bX++[Af m s f x A B e]},(oL m s f x A B e).r)
def qz (h:aj):aj:=if h=[43] then[97,100,100] else if h=[45] then[115,117,98] else if h=[42] then[109,117,108] else l8
def ni (m:Mk) (s:dd) (kind:Ty):Ex->Mk×Nat
 | .at a=>cH m s a
 | .fn f x A B e=>Ag m s f x A B e
 | .un h a=>
  let p:=cH m s a.az
  ((p.1.dI (bL kind)).da sK [bf p.1.types.length,bf p.2,if h=rh then[49] else[48]],p.1.types.length)
 | .bi h a b=>
  let p:=cH m s a.az
  let q:=cH p.1 s b.az
  ((q.1.dI (bL kind)).da (qz h) [bf q.1.types.length,bf p.2,bf q.2],q.1.types.length)
 | .ite a b _=>
  let p:=cH m s a.az
  let q:=cH p.1 s b.az
  ((q.1.dI (bL kind)).da (qz cE) [bf q.1.types.length,bf p.2,bf q.2],q.1.types.length)
 | .lt x a _=>
  let p:=cH m s x
  let q:=cH p.1 s a.az
  ((q.1.dI (bL kind)).da (qz gO) [bf q.1.types.length,bf p.2,bf q.2],q.1.types.length)
def oM (m:Mk) (s:dd) (ton:Nat) (bm name:aj) (kind:Ty) (rest:Ex):Pk:=pd m.lO s ton (cG rest [name] []) bm m.aP (dX (bL kind)) [bL kind]
def Ij (m:Mk) (s:dd) (ton:Nat) (bm name:aj) (kind:Ty) (rest:Ex):Tk:=
 ⟨m.aP,[(oM m s ton bm name kind rest).w,bL kind],(cG rest [name] []).length+1,[],iR s 2 (cG rest [name] []) []++[(name,1,kind)],rest,2+(cG rest [name] []).length,bm,2⟩
def tN (m:Mk) (s:dd) (ton:Nat) (bm name:aj) (kind:Ty) (rest:Ex):Mk×Nat×aj:=
 ({(oM m s ton bm name kind rest).m with bX:=(oM m s ton bm name kind rest).m.bX++[Ij m s ton bm name kind rest]},(oM m s ton bm name kind rest).r,dX (bL kind))
def sL (m:Mk) (s:Nat):Mk:=
 let r:=m.types.length
 (((((m.dI []).da Ab [bf r,bf s]).dI []).da sK [bf (r+1),bf r,[48]]).dI []).da sK [bf (r+2),bf r,[49]]
def xU (m:Mk) (f x:Nat) (on:Nat):Mk:=
 let r:=m.types.length
 ((((sL m f).da nY [[48],bf (r+2)]).da nY [[49],bf x]).da nY [[50],bf on]).da Ac [bf (r+1)]
def xV (m:Mk) (on r:Nat):Mk:=
 let q:=m.types.length
 (((sL m on).da nY [[48],bf (q+2)]).da nY [[49],bf r]).da Ac [bf (q+1)]
structure Goal where
 name:aj
 s:Ex
 rest:Ex
def bW:Ex->Goal
 | .lt x a b=>⟨x,a,b⟩
 |e=>⟨[],e,e⟩
def nZ (s:dd) (e:Ex):Ty:=(bM e (fl s)).getD .i
structure At where
 m:Mk
 s:dd
 on:Nat
 bm:aj
def Ik (a:At) (g:Goal):At:=
 if g.name≠[] then let c:=tN a.m a.s a.on a.bm g.name (nZ a.s g.s) g.rest;⟨c.1,a.s,c.2.1,c.2.2⟩ else a
def kH (a:At) (e:Ex):Mk ⊕ At×Ex:=
 let g:=bW e
 match g.s with
 | .bi h f x=>
  if h=kF then
   let p:=cH a.m a.s f.az
   let q:=cH p.1 a.s x.az
   let b:=Ik {a with m:=q.1} g
   .inl (xU b.m p.2 q.2 b.on)
  else
   let p:=ni a.m a.s (nZ a.s g.s) g.s
   if g.name=[] then .inl (xV p.1 a.on p.2) else .inr ({a with m:=p.1,s:=a.s++[(g.name,p.2,nZ a.s g.s)]},g.rest)
 | .ite c x y=>
  let p:=cH a.m a.s c.az
  let b:=Ik {a with m:=p.1} g
  let aP:=b.m.aP
  let m1:=b.m.lO.da Fu [bf p.2,aP]
  let br:Tk:=⟨aP,m1.types,0,[],a.s,x,b.on,b.bm,m1.types.length⟩
  .inr ({b with m:={m1 with bX:=m1.bX++[br]}},y)
 |s=>
  let p:=ni a.m a.s (nZ a.s s) s
  if g.name=[] then .inl (xV p.1 a.on p.2) else .inr ({a with m:=p.1,s:=a.s++[(g.name,p.2,nZ a.s s)]},g.rest)
structure Fr (L:List Nat) (w:World) (L':List Nat) (w':World):Prop where
 aO:ak L w w'
 mem:∀x,x∈L'->x∈L∨w.heap.size<=x
def Fr.refl (L:List Nat) (w:World):Fr L w L w:=⟨ak.refl L w,λx hx=>.inl hx⟩
def Fr.go {L L1 L2:List Nat} {w w1 w2:World} (h:Fr L w L1 w1) (k:Fr L1 w1 L2 w2):Fr L w L2 w2:=
 ⟨h.aO.since k.aO h.mem,λx hx=>by
  rcases k.mem x hx with h1|h1
  ·exact h.mem x h1
  ·have:=h.aO.size;right;omega⟩
def Fr.ext {L L1:List Nat} {w w1 w2:World} (h:Fr L w L1 w1) (k:ak [] w1 w2):Fr L w L1 w2:=⟨h.aO.trans k.any,h.mem⟩
def Fr.aL {L L1 G:List Nat} {w w1 w2:World} (h:Fr L w L1 w1) (k:ak G w1 w2) (hG:∀x,x∈G->x∈L1):Fr L w L1 w2:=⟨h.aO.since (k.mono hG) h.mem,h.mem⟩
def Fr.of {L G:List Nat} {w w':World} (k:ak G w w') (hG:∀x,x∈G->x∈L):Fr L w L w':=⟨k.mono hG,λx hx=>.inl hx⟩
def Fr.to {L L1 L2:List Nat} {w w1:World} (h:Fr L w L1 w1) (hL:∀x,x∈L2->x∈L1∨w.heap.size<=x):Fr L w L2 w1:=⟨h.aO,λx hx=>by
 rcases hL x hx with h1|h1
 ·exact h.mem x h1
 ·exact .inr h1⟩
def Fr.grow {L L1:List Nat} {w w1:World} (h:Fr L w L1 w1):Fr L w (w1.heap.size::L1) w1:=h.to λx hx=>by
 rcases mC.1 hx with rfl|hx
 ·exact .inr h.aO.size
 ·exact .inl hx
def cF.go {L L':List Nat} {w w':World} {v:Value} {c:C} (h:cF L w v c) (k:Fr L w L' w'):cF L' w' v c:=by
 have h1:cF (L++L') w v c:=h.fresh λx hx=>by
  rcases mA.1 hx with hx|hx
  ·exact .inl hx
  ·exact k.mem x hx
 exact(h1.aO (k.aO.mono λx hx=>List.mem_append_left _ hx)).weaken λx hx=>mR _ hx
def dR.go {L L':List Nat} {w w':World} {vs:List Value} {cs:List C} (h:dR L w vs cs) (k:Fr L w L' w'):dR L' w' vs cs:=dR.of h.length λ_ _ _ hv hc=>(h.get hv hc).go k
def kD.go {L L':List Nat} {w w':World} {v:Value} {cs:List C} (h:kD L w v cs) (k:Fr L w L' w'):kD L' w' v cs:=let⟨vs,e,h⟩:=h;⟨vs,e,h.go k⟩
def bT.go {L L':List Nat} {w w':World} {v:Value} {t:aA} (h:bT L w v t) (k:Fr L w L' w'):bT L' w' v t:=kD.go h k
def fI.go {L L':List Nat} {w w':World} {v:Value} {t:List aA} (h:fI L w v t) (k:Fr L w L' w'):fI L' w' v t:=cF.go h k
def bI.go {L L':List Nat} {w w':World} {v:Value} {xs:List aj} (h:bI L w v xs) (k:Fr L w L' w'):bI L' w' v xs:=cF.go h k
def bI.fresh {L L':List Nat} {w:World} {v:Value} {xs:List aj} (h:bI L w v xs) (hL:∀x,x∈L'->x∈L∨w.heap.size<=x):bI L' w v xs:=cF.fresh h hL
def bT.fresh {L L':List Nat} {w:World} {v:Value} {t:aA} (h:bT L w v t) (hL:∀x,x∈L'->x∈L∨w.heap.size<=x):bT L' w v t:=kD.fresh h hL
structure jb (L:List Nat) (w:World) (b off:Nat) (vs:List Value):Prop where
 cells:iS w b off vs
 lt:b<w.heap.size
 out:b∉L
def jb.go {L L':List Nat} {w w':World} {b off:Nat} {vs:List Value} (h:jb L w b off vs) (k:Fr L w L' w'):jb L' w' b off vs:=
 ⟨λj v hj=>(World.cell?_of_block (k.aO.block b h.lt h.out)).trans (h.cells j v hj),lL h.lt k.aO.size,λhx=>by
  rcases k.mem b hx with h1|h1
  ·exact h.out h1
  ·have:=h.lt;omega⟩
def jb.ext {L:List Nat} {w w':World} {b off:Nat} {vs:List Value} (h:jb L w b off vs) (k:ak [] w w'):jb L w' b off vs:=h.go (Fr.of k sm)
def jb.aL {L G:List Nat} {w w':World} {b off:Nat} {vs:List Value} (h:jb L w b off vs) (k:ak G w w') (hG:∀x,x∈G->x∈L):jb L w' b off vs:=h.go (Fr.of k hG)
/-! ### Tasks -/
def tO (xs:List Nat):List (List C):=xs.map λx:Nat=>[.val (.int .i64 (x:Int))]
def xW (L:List Nat) (w:World) (v:Value) (xs:List Nat):Prop:=cF L w v (.sl 1 (tO xs))
def xW.ext {L:List Nat} {w w':World} {v:Value} {xs:List Nat} (h:xW L w v xs) (k:ak [] w w'):xW L w' v xs:=cF.ext h k
def xW.go {L L':List Nat} {w w':World} {v:Value} {xs:List Nat} (h:xW L w v xs) (k:Fr L w L' w'):xW L' w' v xs:=cF.go h k
def acg {L:List Nat} {w:World} {a:Option Addr} {n c i x:Nat} {xs:List Nat} (h:xW L w (.slice a n c) xs) (hi:xs[i]?=some x):
  ∃b off,a=some ⟨b,off,none⟩∧iS w b (off+i*1) [.int .i64 (x:Int)]:=by
 obtain⟨b,off,vs,ha,hb,hL,hl,hc,hr⟩:=yX h (show(tO xs)[i]?=some [.val (.int .i64 (x:Int))] by simp[tO,hi])
 match vs,hr with
 |[v],hr=>obtain⟨h1,_⟩:=hr;cases h1;exact⟨b,off,ha,hc⟩
 |[],hr=>exact hr.elim
 |_::_::_,hr=>exact hr.2.elim
def ke (s:dd):List aj:=s.map λp=>p.1
def wD (s:dd):List Nat:=s.map λp=>p.2.1
def pe (s:dd):List aj:=s.map λp=>p.2.2.text
def ach (s:dd) (x:aj) (r:Nat) (T:Ty):ke (s++[(x,r,T)])=ke s++[x]:=by simp[ke]
def aci (s:dd) (x:aj) (r:Nat) (T:Ty):wD (s++[(x,r,T)])=wD s++[r]:=by simp[wD]
def acj (s:dd) (x:aj) (r:Nat) (T:Ty):pe (s++[(x,r,T)])=pe s++[T.text]:=by simp[pe]
def Tk.enc (t:Tk):List C:=
 [.val (str t.aP),.sl 1 (jj t.regs),.val (.int .i64 (t.loads:Int)),.sl 1 (jj t.self),.sl 1 (jj (ke t.sc)),.sl 1 (tO (wD t.sc)),.sl 1 (jj (pe t.sc)),.val (str t.expr.av.az),.sl 2 (dH t.expr.av.au),.val (.int .i64 (t.on:Int)),.val (str t.bm),.val (.int .i64 (t.next:Int))]
structure oN (L:List Nat) (w:World) (t:Tk) (v1 v3 v4 v5 v6 v8:Value):Prop where
 regs:bI L w v1 t.regs
 self:bI L w v3 t.self
 aX:bI L w v4 (ke t.sc)
 at_:xW L w v5 (wD t.sc)
 types:bI L w v6 (pe t.sc)
 au:fI L w v8 t.expr.av.au
def pS (t:Tk) (v1 v3 v4 v5 v6 v8:Value):List Value:=
 [str t.aP,v1,.int .i64 (t.loads:Int),v3,v4,v5,v6,str t.expr.av.az,v8,.int .i64 (t.on:Int),str t.bm,.int .i64 (t.next:Int)]
def ack {L:List Nat} {w:World} {vs:List Value} {t:Tk} (h:dR L w vs t.enc):∃v1 v3 v4 v5 v6 v8,vs=pS t v1 v3 v4 v5 v6 v8∧oN L w t v1 v3 v4 v5 v6 v8:=by
 have hl:=h.length
 unfold Tk.enc at h hl
 match vs,hl,h with
 |[u0,u1,u2,u3,u4,u5,u6,u7,u8,u9,u10,u11],_,h=>
  obtain⟨h0,h1,h2,h3,h4,h5,h6,h7,h8,h9,gI,kq,_⟩:=h
  cases h0;cases h2;cases h7;cases h9;cases gI;cases kq
  exact⟨u1,u3,u4,u5,u6,u8,rfl,h1,h3,h4,h5,h6,h8⟩
def oN.BF {L:List Nat} {w:World} {t:Tk} {v1 v3 v4 v5 v6 v8:Value} (h:oN L w t v1 v3 v4 v5 v6 v8):dR L w (pS t v1 v3 v4 v5 v6 v8) t.enc:=
 ⟨.val _,h.regs,.val _,h.self,h.aX,h.at_,h.types,.val _,h.au,.val _,.val _,.val _,trivial⟩
def oN.go {L L':List Nat} {w w':World} {t:Tk} {v1 v3 v4 v5 v6 v8:Value} (h:oN L w t v1 v3 v4 v5 v6 v8) (k:Fr L w L' w'):oN L' w' t v1 v3 v4 v5 v6 v8:=
 ⟨h.regs.go k,h.self.go k,h.aX.go k,h.at_.go k,h.types.go k,h.au.go k⟩
def oN.ext {L:List Nat} {w w':World} {t:Tk} {v1 v3 v4 v5 v6 v8:Value} (h:oN L w t v1 v3 v4 v5 v6 v8) (k:ak [] w w'):oN L w' t v1 v3 v4 v5 v6 v8:=h.go (Fr.of k sm)
def oN.aL {L G:List Nat} {w w':World} {t:Tk} {v1 v3 v4 v5 v6 v8:Value} (h:oN L w t v1 v3 v4 v5 v6 v8) (k:ak G w w') (hG:∀x,x∈G->x∈L):oN L w' t v1 v3 v4 v5 v6 v8:=h.go (Fr.of k hG)
def oN.grow {L:List Nat} {w:World} {t:Tk} {v1 v3 v4 v5 v6 v8:Value} (h:oN L w t v1 v3 v4 v5 v6 v8):oN (w.heap.size::L) w t v1 v3 v4 v5 v6 v8:=h.go ((Fr.refl L w).grow)
def iu (L:List Nat) (w:World) (T:TypeId) (b:Nat) (t:Tk):Prop:=∃v1 v3 v4 v5 v6 v8,aY w b (pS t v1 v3 v4 v5 v6 v8).toArray T∧oN L w t v1 v3 v4 v5 v6 v8
def iu.ext {L:List Nat} {w w':World} {T:TypeId} {b:Nat} {t:Tk} (h:iu L w T b t) (k:ak [] w w'):iu L w' T b t:=by
 obtain⟨v1,v3,v4,v5,v6,v8,hb,hc⟩:=h
 exact⟨v1,v3,v4,v5,v6,v8,hb.aO k sm,hc.ext k⟩
def iu.go {L L' G:List Nat} {w w':World} {T:TypeId} {b:Nat} {t:Tk} (h:iu L w T b t) (k:Fr L w L' w') (kg:ak G w w') (hb:b∉G):iu L' w' T b t:=by
 obtain⟨v1,v3,v4,v5,v6,v8,hB,hc⟩:=h
 exact⟨v1,v3,v4,v5,v6,v8,hB.aO kg hb,hc.go k⟩
/-! ### The maker -/
def dj.acm {w:World} {T:TypeId} {v:Value} {g:Option Nat} {xs:List aj} (h:dj w T v g xs):jZ w T 1 v g (jj xs).length (xs.map λx=>str x):=by rw[rS];exact h
structure eE (L:List Nat) (w:World) (T:TypeId) (sz:Nat) (v:Value) (g:Option Nat) (rows:List (List C)):Prop where
 own:∃xs,jZ w T sz v g rows.length xs∧dR L w xs rows.flatten
 row:∀row,row∈rows->row.length=sz
def eE.aO {L L' G:List Nat} {w w':World} {T:TypeId} {sz:Nat} {v:Value} {g:Option Nat} {rows:List (List C)} (h:eE L w T sz v g rows) (k:Fr L w L' w') (kg:ak G w w') (hg:∀x,x∈g.toList->x∉G):eE L' w' T sz v g rows:=by
 obtain⟨xs,h1,h2⟩:=h.own
 exact⟨⟨xs,h1.aO kg (λb hb=>hg b (by simp[hb])),h2.go k⟩,h.row⟩
def eE.len {L:List Nat} {w:World} {T:TypeId} {sz:Nat} {v:Value} {g:Option Nat} {rows:List (List C)} (h:eE L w T sz v g rows):∃a cap,v= .slice a rows.length cap:=by
 obtain⟨xs,h1,_⟩:=h.own;exact h1.len
def eE.lt {L:List Nat} {w:World} {T:TypeId} {sz:Nat} {v:Value} {g:Option Nat} {rows:List (List C)} (h:eE L w T sz v g rows):∀x,x∈g.toList->x<w.heap.size:=by
 obtain⟨xs,h1,_⟩:=h.own;intro x hx;exact h1.lt x (by simpa using hx)
def eE.rep {L L':List Nat} {w:World} {T:TypeId} {sz:Nat} {v:Value} {g:Option Nat} {rows:List (List C)} (h:eE L w T sz v g rows) (hL:∀x,x∈g.toList++L'->x∈L∨w.heap.size<=x) (hg:∀x,x∈g.toList->x∉L'):cF L' w v (.sl sz rows):=by
 obtain⟨xs,h1,h2⟩:=h.own
 exact ik.done (L:=L') ⟨h1,h2.fresh hL,h.row,λb hb=>hg b (by simp[hb])⟩
structure sM where
 M:TypeId
 B:TypeId
 T:TypeId
 S:TypeId
structure gV (τ:sM) (E L:List Nat) (w:World) (b:Nat) (o:Bool) (vb vt vc vy:Value) (gb gt gc gy:Option Nat) (m:Mk):Prop where
 bl:eE L w τ.B 3 vb gb (m.blocks.map Bk.enc)
 ta:eE L w τ.T 12 vt gt (m.bX.map Tk.enc)
 co:(o=true∧dj w τ.S vc gc m.code)∨(o=false∧gc=none∧bI L w vc m.code)
 ty:dj w τ.S vy gy m.types
 eL:L=E++b::(gb.toList++(gt.toList++(gc.toList++gy.toList)))
 nd:L.Nodup
 db:∀x,x∈L->x<w.heap.size
section
variable {τ:sM} {E L:List Nat} {w w':World} {b:Nat} {o:Bool} {vb vt vc vy:Value} {gb gt gc gy:Option Nat} {m:Mk}
def xX {A B C D E:List Nat} {b x:Nat}:x∈E++b::(A++(B++(C++D)))↔x∈E∨x=b∨x∈A∨x∈B∨x∈C∨x∈D:=by simp
def gV.mem (h:gV τ E L w b o vb vt vc vy gb gt gc gy m) {x:Nat}:x∈L↔x∈E∨x=b∨x∈gb.toList∨x∈gt.toList∨x∈gc.toList∨x∈gy.toList:=by
 rw[h.eL];exact xX
def gV.apart (h:gV τ E L w b o vb vt vc vy gb gt gc gy m):E.Nodup∧b∉E∧
  (∀x,x∈gb.toList->x∉E∧x≠b)∧(∀x,x∈gt.toList->x∉E∧x≠b∧x∉gb.toList)∧(∀x,x∈gc.toList->x∉E∧x≠b∧x∉gb.toList∧x∉gt.toList)∧
  (∀x,x∈gy.toList->x∉E∧x≠b∧x∉gb.toList∧x∉gt.toList∧x∉gc.toList):=by
 have hn:=h.nd
 rw[h.eL] at hn
 rw[List.nodup_append] at hn
 obtain⟨h1,h2,h3⟩:=hn
 rw[List.nodup_cons] at h2
 obtain⟨h4,h5⟩:=h2
 rw[List.nodup_append] at h5
 obtain⟨h6,h7,h8⟩:=h5
 rw[List.nodup_append] at h7
 obtain⟨h9,gI,kq⟩:=h7
 rw[List.nodup_append] at gI
 obtain⟨jM,lJ,uT⟩:=gI
 refine⟨h1,λhb=>h3 b hb b sm rfl,λx hx=>⟨λhe=>h3 x he x (by simp[hx]) rfl,λe=>h4 (by simp[<-e,hx])⟩,λx hx=>⟨λhe=>h3 x he x (by simp[hx]) rfl,λe=>h4 (by simp[<-e,hx]),λhy=>h8 x hy x (by simp[hx]) rfl⟩,
  λx hx=>⟨λhe=>h3 x he x (by simp[hx]) rfl,λe=>h4 (by simp[<-e,hx]),λhy=>h8 x hy x (by simp[hx]) rfl,λhy=>kq x hy x (by simp[hx]) rfl⟩,
  λx hx=>⟨λhe=>h3 x he x (by simp[hx]) rfl,λe=>h4 (by simp[<-e,hx]),λhy=>h8 x hy x (by simp[hx]) rfl,λhy=>kq x hy x (by simp[hx]) rfl,λhy=>uT x hy x hx rfl⟩⟩
def Ah (g:Option Nat):g.toList.Nodup:=by cases g<;>simp
def acn {A B C D:Option Nat} {F:List Nat} {b:Nat} (h1:F.Nodup) (h2:b∉F) (ha:∀x,x∈A.toList->x∉F∧x≠b) (hb:∀x,x∈B.toList->x∉F∧x≠b∧x∉A.toList) (hc:∀x,x∈C.toList->x∉F∧x≠b∧x∉A.toList∧x∉B.toList)
  (hd:∀x,x∈D.toList->x∉F∧x≠b∧x∉A.toList∧x∉B.toList∧x∉C.toList):(F++b::(A.toList++(B.toList++(C.toList++D.toList)))).Nodup:=by
 rw[List.nodup_append,List.nodup_cons,List.nodup_append,List.nodup_append,List.nodup_append]
 refine⟨h1,⟨?_,Ah A,⟨Ah B,⟨Ah C,Ah D,?_⟩,?_⟩,?_⟩,?_⟩
 ·intro h
  simp only[mA] at h
  rcases h with h|h|h|h
  ·exact(ha b h).2 rfl
  ·exact(hb b h).2.1 rfl
  ·exact(hc b h).2.1 rfl
  ·exact(hd b h).2.1 rfl
 ·intro x hx y hy e
  exact(hd y hy).2.2.2.2 (e▸hx)
 ·intro x hx y hy e
  rcases mA.1 hy with hy|hy
  ·exact(hc y hy).2.2.2 (e▸hx)
  ·exact(hd y hy).2.2.2.1 (e▸hx)
 ·intro x hx y hy e
  simp only[mA] at hy
  rcases hy with hy|hy|hy
  ·exact(hb y hy).2.2 (e▸hx)
  ·exact(hc y hy).2.2.1 (e▸hx)
  ·exact(hd y hy).2.2.1 (e▸hx)
 ·intro x hx y hy e
  rcases mC.1 hy with hy|hy
  ·exact h2 (by rw[<-hy,<-e];exact hx)
  ·simp only[mA] at hy
   rcases hy with hy|hy|hy|hy
   ·exact(ha y hy).1 (e▸hx)
   ·exact(hb y hy).1 (e▸hx)
   ·exact(hc y hy).1 (e▸hx)
   ·exact(hd y hy).1 (e▸hx)
def gV.swap (h:gV τ E L w b o vb vt vc vy gb gt gc gy m) {G:List Nat} (k:ak G w w') (hG:∀x,x∈G->x∈L∧x≠b∧x∉E) {gb' gt' gc' gy':Option Nat}
  (nb:∀x,x∈gb'.toList->x∈gb.toList∨w.heap.size<=x∧x∉gt'.toList∧x∉gc'.toList∧x∉gy'.toList) (nt:∀x,x∈gt'.toList->x∈gt.toList∨w.heap.size<=x∧x∉gb'.toList∧x∉gc'.toList∧x∉gy'.toList)
  (nc:∀x,x∈gc'.toList->x∈gc.toList∨w.heap.size<=x∧x∉gb'.toList∧x∉gt'.toList∧x∉gy'.toList) (ny:∀x,x∈gy'.toList->x∈gy.toList∨w.heap.size<=x∧x∉gb'.toList∧x∉gt'.toList∧x∉gc'.toList):
  Fr L w (E++b::(gb'.toList++(gt'.toList++(gc'.toList++gy'.toList)))) w'∧(E++b::(gb'.toList++(gt'.toList++(gc'.toList++gy'.toList)))).Nodup:=by
 obtain⟨a1,a2,a3,a4,a5,a6⟩:=h.apart
 have eW:∀x,x∈E∨x=b->x<w.heap.size:=λx hx=>h.db x (h.mem.2 (by rcases hx with hx|hx<;>simp[hx]))
 have nU:∀x,w.heap.size<=x->x∉E∧x≠b:=λx hx=>⟨λhe=>by have:=eW x (.inl he);omega,λe=>by have:=eW x (.inr e);omega⟩
 refine⟨⟨k.mono λx hx=>(hG x hx).1,λx hx=>?_⟩,acn a1 a2 (λx hx=>?_) (λx hx=>?_) (λx hx=>?_) (λx hx=>?_)⟩
 ·rw[xX] at hx
  rcases hx with hx|hx|hx|hx|hx|hx
  ·exact .inl (h.mem.2 (.inl hx))
  ·exact .inl (h.mem.2 (.inr (.inl hx)))
  ·rcases nb x hx with h1|h1
   ·exact .inl (h.mem.2 (by simp[h1]))
   ·exact .inr h1.1
  ·rcases nt x hx with h1|h1
   ·exact .inl (h.mem.2 (by simp[h1]))
   ·exact .inr h1.1
  ·rcases nc x hx with h1|h1
   ·exact .inl (h.mem.2 (by simp[h1]))
   ·exact .inr h1.1
  ·rcases ny x hx with h1|h1
   ·exact .inl (h.mem.2 (by simp[h1]))
   ·exact .inr h1.1
 ·rcases nb x hx with h1|h1
  ·exact a3 x h1
  ·exact nU x h1.1
 ·rcases nt x hx with h1|h1
  ·refine⟨(a4 x h1).1,(a4 x h1).2.1,λhb=>?_⟩
   rcases nb x hb with h2|h2
   ·exact(a4 x h1).2.2 h2
   ·exact h2.2.1 hx
  ·exact⟨(nU x h1.1).1,(nU x h1.1).2,h1.2.1⟩
 ·rcases nc x hx with h1|h1
  ·refine⟨(a5 x h1).1,(a5 x h1).2.1,λhb=>?_,λhb=>?_⟩
   ·rcases nb x hb with h2|h2
    ·exact(a5 x h1).2.2.1 h2
    ·exact h2.2.2.1 hx
   ·rcases nt x hb with h2|h2
    ·exact(a5 x h1).2.2.2 h2
    ·exact h2.2.2.1 hx
  ·exact⟨(nU x h1.1).1,(nU x h1.1).2,h1.2.1,h1.2.2.1⟩
 ·rcases ny x hx with h1|h1
  ·refine⟨(a6 x h1).1,(a6 x h1).2.1,λhb=>?_,λhb=>?_,λhb=>?_⟩
   ·rcases nb x hb with h2|h2
    ·exact(a6 x h1).2.2.1 h2
    ·exact h2.2.2.2 hx
   ·rcases nt x hb with h2|h2
    ·exact(a6 x h1).2.2.2.1 h2
    ·exact h2.2.2.2 hx
   ·rcases nc x hb with h2|h2
    ·exact(a6 x h1).2.2.2.2 h2
    ·exact h2.2.2.2 hx
  ·exact⟨(nU x h1.1).1,(nU x h1.1).2,h1.2.1,h1.2.2.1,h1.2.2.2⟩
def gV.Il (h:gV τ E L w b o vb vt vc vy gb gt gc gy m) {x:Nat} (hx:x∈gb.toList∨x∈gt.toList∨x∈gc.toList∨x∈gy.toList):x<w.heap.size:=h.db x (h.mem.2 (by simp only[hx,or_true]))
def dj.lt {w:World} {T:TypeId} {v:Value} {g:Option Nat} {xs:List aj} (h:dj w T v g xs):∀x,x∈g.toList->x<w.heap.size:=λx hx=>jZ.lt h x (by simpa using hx)
def gV.LQ (h:gV τ E L w b o vb vt vc vy gb gt gc gy m) {v:Value} {g:Option Nat} {ys:List aj} (hy:dj w' τ.S v g ys) (k:ak gy.toList w w') (hg:∀x,g=some x->gy=some x∨w.heap.size<=x):
  ∃L',gV τ E L' w' b o vb vt vc v gb gt gc g {m with types:=ys}∧Fr L w L' w':=by
 obtain⟨a1,a2,a3,a4,a5,a6⟩:=h.apart
 have k8:∀x,x∈g.toList->x∈gy.toList∨w.heap.size<=x∧x∉gb.toList∧x∉gt.toList∧x∉gc.toList:=λx hx=>by
  rcases hg x (by simpa using hx) with h1|h1
  ·exact .inl (by simp[h1])
  ·refine .inr ⟨h1,λhh=>?_,λhh=>?_,λhh=>?_⟩<;>have:=h.Il (x:=x) (by simp[hh])<;>omega
 obtain⟨hF,hN⟩:=h.swap k (λx hx=>⟨h.mem.2 (by simp[hx]),(a6 x hx).2.1,(a6 x hx).1⟩) (gb':=gb) (gt':=gt) (gc':=gc) (gy':=g) (λx hx=>.inl hx) (λx hx=>.inl hx) (λx hx=>.inl hx) k8
 refine⟨_,⟨h.bl.aO hF k (λx hx hy=>(a6 x hy).2.2.1 hx),h.ta.aO hF k (λx hx hy=>(a6 x hy).2.2.2.1 hx),?_,hy,rfl,hN,?_⟩,hF⟩
 ·rcases h.co with⟨ho,h1⟩|⟨ho,hn,h1⟩
  ·exact .inl ⟨ho,h1.aO k λx hx hy=>(a6 x hy).2.2.2.2 (by simp[hx])⟩
  ·exact .inr ⟨ho,hn,h1.go hF⟩
 ·intro x hx
  rw[xX] at hx
  have hs:=k.size
  rcases hx with hx|hx|hx|hx|hx|hx
  ·exact lL (h.db x (h.mem.2 (by simp[hx]))) hs
  ·exact lL (h.db x (h.mem.2 (by simp[hx]))) hs
  ·exact lL (h.db x (h.mem.2 (by simp[hx]))) hs
  ·exact lL (h.db x (h.mem.2 (by simp[hx]))) hs
  ·exact lL (h.db x (h.mem.2 (by simp[hx]))) hs
  ·exact hy.lt x hx
def gV.Im (h:gV τ E L w b o vb vt vc vy gb gt gc gy m) {v:Value} {g:Option Nat} {ys:List aj} (hy:dj w' τ.S v g ys) (k:ak gc.toList w w') (hg:∀x,g=some x->gc=some x∨w.heap.size<=x):
  ∃L',gV τ E L' w' b true vb vt v vy gb gt g gy {m with code:=ys}∧Fr L w L' w':=by
 obtain⟨a1,a2,a3,a4,a5,a6⟩:=h.apart
 have k8:∀x,x∈g.toList->x∈gc.toList∨w.heap.size<=x∧x∉gb.toList∧x∉gt.toList∧x∉gy.toList:=λx hx=>by
  rcases hg x (by simpa using hx) with h1|h1
  ·exact .inl (by simp[h1])
  ·refine .inr ⟨h1,λhh=>?_,λhh=>?_,λhh=>?_⟩<;>have:=h.Il (x:=x) (by simp[hh])<;>omega
 obtain⟨hF,hN⟩:=h.swap k (λx hx=>⟨h.mem.2 (by simp[hx]),(a5 x hx).2.1,(a5 x hx).1⟩) (gb':=gb) (gt':=gt) (gc':=g) (gy':=gy) (λx hx=>.inl hx) (λx hx=>.inl hx) k8 (λx hx=>.inl hx)
 refine⟨_,⟨h.bl.aO hF k (λx hx hy=>(a5 x hy).2.2.1 hx),h.ta.aO hF k (λx hx hy=>(a5 x hy).2.2.2 hx),.inl ⟨rfl,hy⟩,h.ty.aO k λx hx hy=>(a6 x (by simp[hx])).2.2.2.2 hy,rfl,hN,?_⟩,hF⟩
 intro x hx
 rw[xX] at hx
 have hs:=k.size
 rcases hx with hx|hx|hx|hx|hx|hx
 ·exact lL (h.db x (h.mem.2 (by simp[hx]))) hs
 ·exact lL (h.db x (h.mem.2 (by simp[hx]))) hs
 ·exact lL (h.db x (h.mem.2 (by simp[hx]))) hs
 ·exact lL (h.db x (h.mem.2 (by simp[hx]))) hs
 ·exact hy.lt x hx
 ·exact lL (h.db x (h.mem.2 (by simp[hx]))) hs
def aco (t:Tk) {v1 v3 v4 v5 v6 v8:Value} (h1:v1.oneCell'=true) (h3:v3.oneCell'=true) (h4:v4.oneCell'=true) (h5:v5.oneCell'=true) (h6:v6.oneCell'=true) (h8:v8.oneCell'=true):(pS t v1 v3 v4 v5 v6 v8).all Value.oneCell'=true:=by
 simp only[pS,List.all_cons,h1,h3,h4,h5,h6,h8];rfl
def DC {L:List Nat} {w:World} {v:Value} {sz:Nat} {rows:List (List C)} (h:cF L w v (.sl sz rows)):v.oneCell'=true:=by cases h<;>rfl
def oN.one {t:Tk} {v1 v3 v4 v5 v6 v8:Value} (h:oN L w t v1 v3 v4 v5 v6 v8):(pS t v1 v3 v4 v5 v6 v8).all Value.oneCell'=true:=aco t (DC h.regs) (DC h.self) (DC h.aX) (DC h.at_) (DC h.types) (DC h.au)
def gV.aO (h:gV τ E L w b o vb vt vc vy gb gt gc gy m) {G:List Nat} (k:ak G w w') (hG:∀x,x∈G->x∈b::E):gV τ E L w' b o vb vt vc vy gb gt gc gy m:=by
 obtain⟨a1,a2,a3,a4,a5,a6⟩:=h.apart
 have rW:∀x,x∈G->x∈L:=λx hx=>h.mem.2 (by rcases mC.1 (hG x hx) with h1|h1<;>simp[h1])
 have hF:Fr L w L w':=Fr.of k rW
 have out:∀x,x∉E->x≠b->x∉G:=λx h1 h2 h3=>by
  rcases mC.1 (hG x h3) with h4|h4
  ·exact h2 h4
  ·exact h1 h4
 refine⟨h.bl.aO hF k (λx hx=>out x (a3 x hx).1 (a3 x hx).2),h.ta.aO hF k (λx hx=>out x (a4 x hx).1 (a4 x hx).2.1),?_,h.ty.aO k (λx hx=>out x (a6 x (by simp[hx])).1 (a6 x (by simp[hx])).2.1),h.eL,h.nd,λx hx=>lL (h.db x hx) k.size⟩
 rcases h.co with⟨ho,h1⟩|⟨ho,hn,h1⟩
 ·exact .inl ⟨ho,h1.aO k λx hx=>out x (a5 x (by simp[hx])).1 (a5 x (by simp[hx])).2.1⟩
 ·exact .inr ⟨ho,hn,h1.go hF⟩
def gV.ext (h:gV τ E L w b o vb vt vc vy gb gt gc gy m) (k:ak [] w w'):gV τ E L w' b o vb vt vc vy gb gt gc gy m:=h.aO k sm
def gV.drop {x:Nat} (h:gV τ (x::E) L w b o vb vt vc vy gb gt gc gy m):∃L',L=x::L'∧gV τ E L' w b o vb vt vc vy gb gt gc gy m:=by
 have rW:∀y,y∈E++b::(gb.toList++(gt.toList++(gc.toList++gy.toList)))->y∈L:=λy hy=>by rw[h.eL];simp only[List.cons_append,mC];exact .inr hy
 have hF:Fr L w (E++b::(gb.toList++(gt.toList++(gc.toList++gy.toList)))) w:=(Fr.refl L w).to λy hy=>.inl (rW y hy)
 have jA:=h.nd
 rw[h.eL,List.cons_append,List.nodup_cons] at jA
 refine⟨_,h.eL,⟨h.bl.aO hF (ak.refl [] w) sm,h.ta.aO hF (ak.refl [] w) sm,?_,h.ty,rfl,jA.2,λy hy=>h.db y (rW y hy)⟩⟩
 rcases h.co with⟨ho,h1⟩|⟨ho,hn,h1⟩
 ·exact .inl ⟨ho,h1⟩
 ·exact .inr ⟨ho,hn,h1.go hF⟩
def mkV (m:Mk) (vb vt vc vy:Value):List Value:=[vb,vt,.int .i64 (m.count:Int),.bool m.wide,vc,vy]
def ei (τ:sM) (E L:List Nat) (w:World) (b:Nat) (o:Bool) (m:Mk):Prop:=∃vb vt vc vy gb gt gc gy,aY w b (mkV m vb vt vc vy).toArray τ.M∧gV τ E L w b o vb vt vc vy gb gt gc gy m
def ei.ext (h:ei τ E L w b o m) (k:ak [] w w'):ei τ E L w' b o m:=by
 obtain⟨vb,vt,vc,vy,gb,gt,gc,gy,h1,h2⟩:=h
 exact⟨vb,vt,vc,vy,gb,gt,gc,gy,h1.aO k sm,h2.ext k⟩
def ei.aO (h:ei τ E L w b o m) {G:List Nat} (k:ak G w w') (hG:∀x,x∈G->x∈E):ei τ E L w' b o m:=by
 obtain⟨vb,vt,vc,vy,gb,gt,gc,gy,h1,h2⟩:=h
 exact⟨vb,vt,vc,vy,gb,gt,gc,gy,h1.aO k (λhx=>h2.apart.2.1 (hG b hx)),h2.aO k (λx hx=>mK _ (hG x hx))⟩
def ei.drop {x:Nat} (h:ei τ (x::E) L w b o m):∃L',L=x::L'∧ei τ E L' w b o m:=by
 obtain⟨vb,vt,vc,vy,gb,gt,gc,gy,h1,h2⟩:=h
 obtain⟨L',e,h3⟩:=h2.drop
 exact⟨L',e,vb,vt,vc,vy,gb,gt,gc,gy,h1,h3⟩
def ei.mem (h:ei τ E L w b o m):(∀x,x∈b::E->x∈L)∧E.Nodup∧b∉E∧∀x,x∈L->x<w.heap.size:=by
 obtain⟨vb,vt,vc,vy,gb,gt,gc,gy,h1,h2⟩:=h
 obtain⟨a1,a2,_⟩:=h2.apart
 exact⟨λx hx=>h2.mem.2 (by rcases mC.1 hx with h|h<;>simp[h]),a1,a2,h2.db⟩
end
def eE.sub {L L':List Nat} {w:World} {T:TypeId} {sz:Nat} {v:Value} {g:Option Nat} {rows:List (List C)} (h:eE L w T sz v g rows) (hL:∀x,x∈L'->x∈L∨w.heap.size<=x):eE L' w T sz v g rows:=by
 obtain⟨xs,h1,h2⟩:=h.own
 exact⟨⟨xs,h1,h2.fresh hL⟩,h.row⟩
structure KA (L:List Nat) (T:TypeId) (sz:Nat) (g:Option Nat) (rows rows':List (List C)) (w w':World):Prop where
 aO:ak g.toList w w'
 old:∀v,eE (g.toList++L) w T sz v g rows->eE (g.toList++L) w' T sz v g rows
 new:∀v g',eE (g.toList++(g'.toList++L)) w T sz v g' rows'->eE (g.toList++(g'.toList++L)) w' T sz v g' rows'
def eE.any {L:List Nat} {w w':World} {T:TypeId} {sz:Nat} {v:Value} {g:Option Nat} {rows:List (List C)} (h:eE L w T sz v g rows) (k:ak [] w w'):eE L w' T sz v g rows:=h.aO (Fr.of k sm) k sm
def RY (L:List Nat) (T:TypeId) (sz:Nat) (g:Option Nat) (rows rows':List (List C)):Kept (KA L T sz g rows rows'):=
 ⟨λ_=>⟨ak.refl _ _,λ_ h=>h,λ_ _ h=>h⟩,λh k=>⟨h.aO.trans k.aO,λv x=>k.old v (h.old v x),λv g' x=>k.new v g' (h.new v g' x)⟩,
  λh=>⟨h.any,λ_ x=>x.any h,λ_ _ x=>x.any h⟩⟩
section
variable {P:Program} {w:World}
def acq {t ty T:TypeId} {i:TypeInfo} {z:Value} {sz bytes:Nat} (ht:P.underlying t=some (.slice T)) (hi:P.info? T=some i) (hz:i.zero=some z)
  (Bc:i.size=sz) (ij:i.bytes=bytes) (xr:z.cells.size=sz) {L:List Nat}
  {v:Value} {g:Option Nat} {rows:List (List C)} {row:List C} (hO:eE (g.toList++L) w T sz v g rows)
  (ab c:Nat) (news:List Value) (iZ:row.length=sz) (Bd:iS w ab 0 news) (h1:∀u∈news,u.oneCell'=true) (hr:dR (g.toList++L) w news row)
  (hb:(rows.length+1)*(bytes+1)<=140737488355328):
  ∃v' g' w',(Builtin.append_ #[t,t] ty #[v,.slice (some ⟨ab,0,none⟩) 1 c]).run P w= .ok v' w'∧eE (g.toList++(g'.toList++L)) w' T sz v' g' (rows++[row])∧KA L T sz g rows (rows++[row]) w w'∧
   (g'=g∨g'=some w.heap.size):=by
 subst Bc
 subst ij
 obtain⟨xs,ey,BR⟩:=hO.own
 have aT:(rows.length+1)*i.bytes+(rows.length+1)<=140737488355328:=by rw[Nat.mul_add,Nat.mul_one] at hb;exact hb
 have yY:rows.length+1<=maxLen:=by unfold maxLen;omega
 have xu:(rows.length+1)*i.bytes<=140737488355328:=by omega
 have hl:news.length=1*i.size:=by rw[hr.length,iZ,Nat.one_mul]
 have Hv:rows.length+1<=9223372036854775807:=by simp only[maxLen] at yY;omega
 have hlen:(xs++news).length=(rows.length+1)*i.size:=by rw[lA,ey.1,hl,Nat.add_mul]
 have vX:∀b o j:Nat,(⟨b,o,none⟩:Addr).add j=⟨b,o+j,none⟩:=λb o j=>by unfold Addr.add;split<;>simp_all
 have uz:∀j u,news[j]?=some u->w.cell? ((⟨ab,0,none⟩:Addr).add j)=some u:=λj u hu=>by rw[vX];exact Bd j u hu
 have RZ:∀r,r∈rows++[row]->r.length=i.size:=λr hx=>by
  rcases mA.1 hx with hx|hx
  ·exact hO.row r hx
  ·simp at hx;rw[hx];exact iZ
 have pg:(rows++[row]).flatten=rows.flatten++row:=by simp
 have grown:∀(old:Nat),old<rows.length+1->
   eE (g.toList++((some w.heap.size).toList++L)) (w.drew.alloc (.cells (xs.toArray++news.toArray++Builtin.zeroCells z.cells (grownCap w (rows.length+1) old T-(rows.length+1))) T)) T i.size
    (.slice (some ⟨w.heap.size,0,none⟩) (rows.length+1) (grownCap w (rows.length+1) old T)) (some w.heap.size) (rows++[row])∧
   ak [] w (w.drew.alloc (.cells (xs.toArray++news.toArray++Builtin.zeroCells z.cells (grownCap w (rows.length+1) old T-(rows.length+1))) T)):=by
  intro old ho
  have rO:=grownCap_ge w (rows.length+1) old T
  have mL:grownCap w (rows.length+1) old T<=maxLen:=grownCap_le_maxLen w (rows.length+1) old T yY
  have hk:ak [] w (w.drew.alloc (.cells (xs.toArray++news.toArray++Builtin.zeroCells z.cells (grownCap w (rows.length+1) old T-(rows.length+1))) T)):=⟨rfl,rfl,rfl,sm,λk hk _=>heap_alloc_old w.drew _ k hk⟩
  refine⟨⟨⟨xs++news,⟨by simpa using hlen,.inr ⟨w.heap.size,_,_,rfl,?_,heap_alloc_new w.drew _,?_,mL,?_,?_⟩⟩,?_⟩,RZ⟩,hk⟩
  ·simp
  ·simpa using rO
  ·simp only[Array.size_append,List.size_toArray,size_zeroCells,xr,ey.1,hl,<-Nat.add_mul]
   congr 1
   omega
  ·simp only[Array.toList_append,List.append_assoc]
   rw[<-List.append_assoc,lA,List.length_singleton,<-hlen]
   exact List.take_left
  ·rw[pg]
   refine((BR.append hr).fresh (L':=g.toList++((some w.heap.size).toList++L)) λx hx=>?_).aO hk.any
   rcases mA.1 hx with hx|hx
   ·exact .inl (by simp[hx])
   ·rcases mA.1 hx with hx|hx
    ·right;simp at hx;omega
    ·exact .inl (by simp[hx])
 rcases ey.2 with⟨rfl,zW,rfl⟩|⟨b,cap,cur,rfl,rfl,hb,nM,mL,cL,tn⟩
 ·have hx:xs=[]:=List.eq_nil_of_length_eq_zero (by rw[ey.1,zW];simp)
  subst hx
  have hr:=run_append_nil (P:=P) w t ty T i z ht hi hz ⟨ab,0,none⟩ 1 c news hl uz om om (by rw[zW] at xu;simp only[Nat.zero_add] at xu;omega)
  have lF:=grown 0 om
  rw[zW] at lF
  simp only[Nat.zero_add,List.nil_append,Array.empty_append] at lF⊢
  exact⟨_,some w.heap.size,_,hr,lF.1,(RY L T i.size none rows (rows++[row])).of lF.2,.inr rfl⟩
 ·by_cases su:rows.length+1<=cap
  ·have lE:rows.length*i.size+news.length<=cur.size:=by rw[hl,cL,<-Nat.add_mul];exact Nat.mul_le_mul_right _ su
   have kn:=run_append_room (P:=P) w t ty T i ht hi b rows.length cap cur hb ⟨ab,0,none⟩ 1 c news hl uz h1 su lE
   have DD:ak [b] w (w.setRow b (cur.toList.take (rows.length*i.size)++news++cur.toList.drop (rows.length*i.size+news.length)).toArray):=⟨rfl,rfl,rfl,sm,λk _ hk=>setRow_other w b k _ (by simpa using hk)⟩
   have LR:aY (w.setRow b (cur.toList.take (rows.length*i.size)++news++cur.toList.drop (rows.length*i.size+news.length)).toArray) b (cur.toList.take (rows.length*i.size)++news++cur.toList.drop (rows.length*i.size+news.length)).toArray T:=setRow_heap w b cur _ T _ hb
   have iY:(cur.toList.take (rows.length*i.size)++news++cur.toList.drop (rows.length*i.size+news.length)).toArray.size=cap*i.size:=by
    simp only[List.size_toArray,lA,List.length_take,List.length_drop,Array.length_toList]
    omega
   have R0:(cur.toList.take (rows.length*i.size)++news++cur.toList.drop (rows.length*i.size+news.length)).take ((rows.length+1)*i.size)=xs++news:=by
    rw[tn,<-hlen];exact List.take_left
   have acr:(cur.toList.take (rows.length*i.size)++news++cur.toList.drop (rows.length*i.size+news.length)).take (rows.length*i.size)=xs:=by
    rw[tn,<-ey.1,List.append_assoc];exact List.take_left
   -- whoever owns block b,owns it with this size
   have cap_of:∀(v:Value) (n:Nat) (ys:List Value),jZ w T i.size v (some b) n ys->∃cap',v= .slice (some ⟨b,0,none⟩) n cap'∧n<=cap'∧cap'<=maxLen∧cap'*i.size=cap*i.size∧ys=cur.toList.take (n*i.size):=by
    intro v n ys hv
    rcases hv.2 with⟨_,_,h⟩|⟨b',cap',cur',e',Fw,gX,C3,pG,zU,oA⟩
    ·cases h
    ·cases e'
     have:cur'=cur:=by have h2:=gX.symm.trans hb;simpa using h2
     subst this
     exact⟨cap',Fw,C3,pG,by rw[<-zU,cL],oA.symm⟩
   have wr:∀(v:Value) (n:Nat),(∃cap',v=Value.slice (some ⟨b,0,none⟩) n cap'∧n<=cap'∧cap'<=maxLen∧cap'*i.size=cap*i.size)->∀ys:List Value,ys.length=n*i.size->(cur.toList.take (rows.length*i.size)++news++cur.toList.drop (rows.length*i.size+news.length)).take (n*i.size)=ys->
     jZ (w.setRow b (cur.toList.take (rows.length*i.size)++news++cur.toList.drop (rows.length*i.size+news.length)).toArray) T i.size v (some b) n ys:=by
    rintro v n ⟨cap',Fw,C3,pG,zU⟩ ys hy fE
    exact⟨hy,.inr ⟨b,cap',_,rfl,Fw,LR,C3,pG,by rw[iY,zU],fE⟩⟩
   refine⟨_,some b,_,kn,⟨⟨xs++news,wr _ _ ⟨cap,sm,by simpa using su,mL,rfl⟩ _ (by simpa using hlen) (by simpa using R0),?_⟩,RZ⟩,⟨DD,λv hv=>?_,λv g' hv=>?_⟩,.inl rfl⟩
   ·rw[pg]
    exact((BR.append hr).fresh λx hx=>.inl (by simp only[mA] at hx⊢;rcases hx with h|h|h;exact .inl h;exact .inl h;exact .inr h)).aO (DD.mono λx hx=>by simp at hx;simp[hx])
   ·obtain⟨ys,h1,h2⟩:=hv.own
    obtain⟨cap',a1,a2,a3,a4,a5⟩:=cap_of _ _ _ h1
    refine⟨⟨ys,wr _ _ ⟨cap',a1,a2,a3,a4⟩ _ h1.1 ?_,h2.aO (DD.mono λx hx=>by simp at hx;simp[hx])⟩,hv.row⟩
    rw[acr,a5,tn]
   ·obtain⟨ys,h1,h2⟩:=hv.own
    by_cases Ai:g'=some b
    ·subst Ai
     obtain⟨cap',a1,a2,a3,a4,a5⟩:=cap_of _ _ _ h1
     refine⟨⟨xs++news,wr _ _ ⟨cap',a1,a2,a3,a4⟩ _ (by simpa using hlen) (by simpa using R0),?_⟩,hv.row⟩
     rw[pg]
     exact((BR.append hr).fresh λx hx=>.inl (by simp only[mA] at hx⊢;rcases hx with h|h|h;exact .inl h;exact .inl h;exact .inr h)).aO (DD.mono λx hx=>by simp at hx;simp[hx])
    ·exact⟨⟨ys,h1.aO DD (λx hx fH=>Ai (by simp at fH;rw[hx,fH])),h2.aO (DD.mono λx hx=>by simp at hx;simp[hx])⟩,hv.row⟩
  ·have holds:∀j u,xs[j]?=some u->w.cell? ((⟨b,0,none⟩:Addr).add j)=some u:=λj u hu=>by
    rw[vX,hb.cell]
    rw[<-tn,List.getElem?_take] at hu
    split at hu
    ·simpa using hu
    ·cases hu
   have hr:=run_append_grow (P:=P) w t ty T i z ht hi hz ⟨b,0,none⟩ rows.length cap xs ey.1 holds ⟨ab,0,none⟩ 1 c news hl uz om om (growslice_fits om xu)
   have lF:=grown cap om
   exact⟨_,some w.heap.size,_,hr,lF.1,(RY L T i.size (some b) rows (rows++[row])).of lF.2,.inr rfl⟩
end
section
variable {P:Program} {n:Nat} {ops:Array Oper} {K:Env->World->Prop} {rest:List Oper} {e:Env} {w:World}
 {dst:Option Nat} {ty:TypeId} {pos:String} {after:Array Edge} {g:Option (Nat×Bool)} {x y:Operand}
def BS {L:List Nat} {t E sz bytes:Nat} {z:Value} {v:Value} {gb:Option Nat} {rows:List (List C)} {row:List C} {news:List Value} {b c:Nat} (hT:P.underlying t=some (.slice E)) (hE:TI P E sz bytes z) (hg:gate ops e g=true) (hd:dy n dst=true) (hz:Nat.beq z.cells.size sz=true) (ij:Nat.ble bytes 1000=true)
  (hx:ev e x=v) (hy:ev e y= .slice (some ⟨b,0,none⟩) 1 c) (hO:eE (gb.toList++L) w E sz v gb rows) (iZ:row.length=sz) (hc:iS w b 0 news) (h1:∀u∈news,u.oneCell'=true)
  (hr:dR (gb.toList++L) w news row) (hn:rows.length<100000000)
  (k:∀v' g' w',eE (gb.toList++(g'.toList++L)) w' E sz v' g' (rows++[row])->KA L E sz gb rows (rows++[row]) w w'->(g'=gb∨g'=some w.heap.size)->OW P n ops K rest (cQ e dst v') w'):
  OW P n ops K (⟨dst,.call {callee:=.builtin .append,args:=#[x,y],argTypes:=#[t,t]},ty,pos,after,g⟩::rest) e w:=by
 obtain⟨i,hi,Bp,iY,LS⟩:=hE.get
 have Ds:bytes<=1000:=Nat.le_of_ble_eq_true ij
 obtain⟨v',g',w',kn,xB,hk,k8⟩:=acq (P:=P) (ty:=ty) hT hi Bp iY LS (Nat.eq_of_beq_eq_true hz) hO b c news iZ hc h1 hr
  (Nat.le_trans (Nat.mul_le_mul (show rows.length+1<=100000000 by omega) (show bytes+1<=1001 by omega)) de)
 exact fT hg hd (w':=w') (by
  simp only[execOp,resolve,invoke,builtin,Sem.run_bind,Sem.run_pure,Result.andThen_ok,List.map_toArray,List.map_cons,List.map_nil,hx,hy,kn]) (k v' g' w' xB hk k8)
end
/-! ### Behind it -/
def LU {L:List Nat} {w:World}:∀{vs:List Value} {xs:List aj},dR L w vs (jj xs).flatten->vs=xs.map λx=>str x
 |[],[],_=>rfl
 |v::vs,x::xs,h=>by
  obtain⟨h1,h2⟩:=h
  cases h1
  rw[LU (xs:=xs) h2];rfl
def eE.wg {L:List Nat} {w:World} {T:TypeId} {v:Value} {g:Option Nat} {xs:List aj} (h:eE L w T 1 v g (jj xs)):dj w T v g xs:=by
 obtain⟨vs,h1,h2⟩:=h.own
 rw[rS,LU h2] at h1;exact h1
def R1 (L:List Nat) (w:World):∀xs:List aj,dR L w (xs.map λx=>str x) (jj xs).flatten
 |[]=>trivial
 |_::xs=>⟨.val _,R1 L w xs⟩
def dj.R2 {w:World} {T:TypeId} {v:Value} {g:Option Nat} {xs:List aj} (h:dj w T v g xs) (L:List Nat):eE L w T 1 v g (jj xs):=
 ⟨⟨_,h.acm,R1 L w xs⟩,λrow hr=>by obtain⟨x,_,rfl⟩:=List.mem_map.1 hr;rfl⟩
def R3 (xs:List aj) (x:aj):jj xs++[[.val (str x)]]=jj (xs++[x]):=by simp[jj]
def acs (xs:List Nat) (x:Nat):tO xs++[[.val (.int .i64 (x:Int))]]=tO (xs++[x]):=by simp[tO]
section
variable {τ:sM} {E L:List Nat} {w w':World} {b:Nat} {o:Bool} {vb vt vc vy:Value} {gb gt gc gy:Option Nat} {m:Mk}
def pT (E:List Nat) (b:Nat) (gb gt gy:Option Nat):List Nat:=E++b::(gb.toList++(gt.toList++gy.toList))
def xY {x:Nat}:x∈pT E b gb gt gy↔x∈E∨x=b∨x∈gb.toList∨x∈gt.toList∨x∈gy.toList:=by simp[pT]
def gV.LV (h:gV τ E L w b o vb vt vc vy gb gt gc gy m):bI (pT E b gb gt gy) w vc m.code:=by
 obtain⟨a1,a2,a3,a4,a5,a6⟩:=h.apart
 rcases h.co with⟨_,h1⟩|⟨_,hn,h1⟩
 ·refine h1.rep λx hx hh=>?_
  have uP:x∈gc.toList:=by simp[hx]
  rw[xY] at hh
  rcases hh with hh|hh|hh|hh|hh
  ·exact(a5 x uP).1 hh
  ·exact(a5 x uP).2.1 hh
  ·exact(a5 x uP).2.2.1 hh
  ·exact(a5 x uP).2.2.2 hh
  ·exact(a6 x hh).2.2.2.2 uP
 ·exact h1.fresh λx hx=>.inl (h.mem.2 (by rw[xY] at hx;rcases hx with h|h|h|h|h<;>simp[h]))
def gV.R4 (h:gV τ E L w b o vb vt vc vy gb gt gc gy m):∀x,x∈pT E b gb gt gy->x∈L:=λx hx=>h.mem.2 (by rw[xY] at hx;rcases hx with h|h|h|h|h<;>simp[h])
def gV.acu (h:gV τ E L w b o vb vt vc vy gb gt gc gy m) {v:Value} {g:Option Nat} {bs:List Bk} (hy:eE (gb.toList++(g.toList++pT E b gb gt gy)) w' τ.B 3 v g (bs.map Bk.enc)) (k:ak gb.toList w w') (hg:g=gb∨∃x,g=some x∧w.heap.size<=x):
  ∃L',gV τ E L' w' b false v vt vc vy g gt none gy {m with blocks:=bs}∧Fr L w L' w':=by
 obtain⟨a1,a2,a3,a4,a5,a6⟩:=h.apart
 have k8:∀x,x∈g.toList->x∈gb.toList∨w.heap.size<=x∧x∉gt.toList∧x∉(none:Option Nat).toList∧x∉gy.toList:=λx hx=>by
  rcases hg with rfl|⟨y,rfl,hy⟩
  ·exact .inl hx
  ·have hx:x=y:=by simpa using hx
   refine .inr ⟨by omega,λhh=>?_,sm,λhh=>?_⟩<;>have:=h.Il (x:=x) (by simp[hh])<;>omega
 obtain⟨hF,hN⟩:=h.swap k (λx hx=>⟨h.mem.2 (by simp[hx]),(a3 x hx).2,(a3 x hx).1⟩) (gb':=g) (gt':=gt) (gc':=none) (gy':=gy) k8 (λx hx=>.inl hx) (λx hx=>by simp at hx) (λx hx=>.inl hx)
 have hcr:bI (E++b::(g.toList++(gt.toList++((none:Option Nat).toList++gy.toList)))) w' vc m.code:=by
  have h1:bI (pT E b gb gt gy) w' vc m.code:=cF.aL h.LV k λx hx=>xY.2 (by simp[hx])
  have h2:bI (g.toList++pT E b gb gt gy) w' vc m.code:=by
   rcases hg with rfl|⟨y,rfl,hy⟩
   ·exact h1.fresh λx hx=>.inl (by rcases mA.1 hx with h|h;exact xY.2 (by simp[h]);exact h)
   ·exact cF.aL (h.LV.fresh (L':=(some y).toList++pT E b gb gt gy) λx hx=>by
     rcases mA.1 hx with h|h
     ·simp at h;right;omega
     ·exact .inl h) k λx hx=>mR _ (xY.2 (by simp[hx]))
  exact h2.fresh λx hx=>.inl (by
   rw[xX] at hx
   rw[mA,xY]
   rcases hx with h|h|h|h|h|h
   ·simp[h]
   ·simp[h]
   ·simp[h]
   ·simp[h]
   ·simp at h
   ·simp[h])
 refine⟨_,⟨hy.sub λx hx=>.inl ?_,h.ta.aO hF k (λx hx hy=>(a4 x hx).2.2 hy),.inr ⟨rfl,rfl,hcr⟩,h.ty.aO k λx hx hy=>(a6 x (by simp[hx])).2.2.1 hy,rfl,hN,?_⟩,hF⟩
 ·rw[xX] at hx
  rw[mA,mA,xY]
  rcases hx with h|h|h|h|h|h
  ·simp[h]
  ·simp[h]
  ·simp[h]
  ·simp[h]
  ·simp at h
  ·simp[h]
 ·intro x hx
  rw[xX] at hx
  have hs:=k.size
  rcases hx with hx|hx|hx|hx|hx|hx
  ·exact lL (h.db x (h.mem.2 (by simp[hx]))) hs
  ·exact lL (h.db x (h.mem.2 (by simp[hx]))) hs
  ·exact hy.lt x hx
  ·exact lL (h.db x (h.mem.2 (by simp[hx]))) hs
  ·simp at hx
  ·exact lL (h.db x (h.mem.2 (by simp[hx]))) hs
def gV.Fh (h:gV τ E L w b o vb vt vc vy gb gt gc gy m) {v:Value} {g:Option Nat} {ts:List Tk} (hy:eE (gt.toList++(g.toList++L)) w' τ.T 12 v g (ts.map Tk.enc)) (k:ak gt.toList w w') (hg:g=gt∨∃x,g=some x∧w.heap.size<=x):
  ∃L',gV τ E L' w' b o vb v vc vy gb g gc gy {m with bX:=ts}∧Fr L w L' w':=by
 obtain⟨a1,a2,a3,a4,a5,a6⟩:=h.apart
 have k8:∀x,x∈g.toList->x∈gt.toList∨w.heap.size<=x∧x∉gb.toList∧x∉gc.toList∧x∉gy.toList:=λx hx=>by
  rcases hg with rfl|⟨y,rfl,hy⟩
  ·exact .inl hx
  ·have hx:x=y:=by simpa using hx
   refine .inr ⟨by omega,λhh=>?_,λhh=>?_,λhh=>?_⟩<;>have:=h.Il (x:=x) (by simp[hh])<;>omega
 obtain⟨hF,hN⟩:=h.swap k (λx hx=>⟨h.mem.2 (by simp[hx]),(a4 x hx).2.1,(a4 x hx).1⟩) (gb':=gb) (gt':=g) (gc':=gc) (gy':=gy) (λx hx=>.inl hx) k8 (λx hx=>.inl hx) (λx hx=>.inl hx)
 refine⟨_,⟨h.bl.aO hF k (λx hx hy=>(a4 x hy).2.2 hx),hy.sub λx hx=>.inl ?_,?_,h.ty.aO k λx hx hy=>(a6 x (by simp[hx])).2.2.2.1 hy,rfl,hN,?_⟩,hF⟩
 ·rw[xX] at hx
  rw[mA,mA,h.mem]
  rcases hx with h|h|h|h|h|h<;>simp[h]
 ·rcases h.co with⟨ho,h1⟩|⟨ho,hn,h1⟩
  ·exact .inl ⟨ho,h1.aO k λx hx hy=>(a5 x (by simp[hx])).2.2.2 hy⟩
  ·exact .inr ⟨ho,hn,h1.go hF⟩
 ·intro x hx
  rw[xX] at hx
  have hs:=k.size
  rcases hx with hx|hx|hx|hx|hx|hx
  ·exact lL (h.db x (h.mem.2 (by simp[hx]))) hs
  ·exact lL (h.db x (h.mem.2 (by simp[hx]))) hs
  ·exact lL (h.db x (h.mem.2 (by simp[hx]))) hs
  ·exact hy.lt x hx
  ·exact lL (h.db x (h.mem.2 (by simp[hx]))) hs
  ·exact lL (h.db x (h.mem.2 (by simp[hx]))) hs
def gV.num (h:gV τ E L w b o vb vt vc vy gb gt gc gy m) (c:Nat) (q:Bool):gV τ E L w b o vb vt vc vy gb gt gc gy {m with count:=c,wide:=q}:=⟨h.bl,h.ta,h.co,h.ty,h.eL,h.nd,h.db⟩
end
def Fr.in {G G':List Nat} {w w':World} (h:Fr G w G' w') (E:List Nat):Fr (E++G) w (E++G') w':=
 ⟨h.aO.mono λx hx=>mR _ hx,λx hx=>by
  rcases mA.1 hx with hx|hx
  ·exact .inl (List.mem_append_left _ hx)
  ·rcases h.mem x hx with h1|h1
   ·exact .inl (mR _ h1)
   ·exact .inr h1⟩
structure xZ where
 M:TypeId
 S:TypeId
 T:TypeId
structure jc (τ:xZ) (E G:List Nat) (w:World) (b:Nat) (vt vn ve:Value) (gn ge:Option Nat) (ai aX:List aj) (exprs:List aA):Prop where
 ta:bI (E++G) w vt ai
 na:dj w τ.S vn gn aX
 ex:eE (E++G) w τ.T 2 ve ge (dH exprs)
 eG:G=b::(gn.toList++ge.toList)
 nd:(E++G).Nodup
 db:∀x,x∈E++G->x<w.heap.size
section
variable {τ:xZ} {E G:List Nat} {w w':World} {b:Nat} {vt vn ve:Value} {gn ge:Option Nat} {ai aX:List aj} {exprs:List aA}
def jc.mem (h:jc τ E G w b vt vn ve gn ge ai aX exprs) {x:Nat}:x∈G↔x=b∨x∈gn.toList∨x∈ge.toList:=by rw[h.eG];simp
def jc.apart (h:jc τ E G w b vt vn ve gn ge ai aX exprs):E.Nodup∧b∉E∧(∀x,x∈gn.toList->x∉E∧x≠b)∧(∀x,x∈ge.toList->x∉E∧x≠b∧x∉gn.toList):=by
 have hn:=h.nd
 rw[h.eG,List.nodup_append,List.nodup_cons,List.nodup_append] at hn
 obtain⟨h1,⟨h2,h3,h4,h5⟩,h6⟩:=hn
 refine⟨h1,λhb=>h6 b hb b sm rfl,λx hx=>⟨λhe=>h6 x he x (by simp[hx]) rfl,λe=>h2 (by simp[<-e,hx])⟩,λx hx=>⟨λhe=>h6 x he x (by simp[hx]) rfl,λe=>h2 (by simp[<-e,hx]),λhy=>h5 x hy x hx rfl⟩⟩
def R5 {A B:Option Nat} {F:List Nat} {b:Nat} (h1:F.Nodup) (h2:b∉F) (ha:∀x,x∈A.toList->x∉F∧x≠b) (hb:∀x,x∈B.toList->x∉F∧x≠b∧x∉A.toList):(F++b::(A.toList++B.toList)).Nodup:=by
 rw[List.nodup_append,List.nodup_cons,List.nodup_append]
 refine⟨h1,⟨λh=>?_,Ah A,Ah B,λx hx y hy e=>(hb y hy).2.2 (e▸hx)⟩,λx hx y hy e=>?_⟩
 ·rcases mA.1 h with h|h
  ·exact(ha b h).2 rfl
  ·exact(hb b h).2.1 rfl
 ·rcases mC.1 hy with hy|hy
  ·exact h2 (by rw[<-hy,<-e];exact hx)
  ·rcases mA.1 hy with hy|hy
   ·exact(ha y hy).1 (e▸hx)
   ·exact(hb y hy).1 (e▸hx)
def jc.R6 (h:jc τ E G w b vt vn ve gn ge ai aX exprs) {v:Value} {g:Option Nat} {ys:List aj} (hy:dj w' τ.S v g ys) (k:ak gn.toList w w') (hg:g=gn∨g=some w.heap.size):
  ∃G',jc τ E G' w' b vt v ve g ge ai ys exprs∧Fr G w G' w':=by
 obtain⟨a1,a2,a3,a4⟩:=h.apart
 have ph:∀x,x∈g.toList->x∈gn.toList∨x=w.heap.size:=λx hx=>by
  rcases hg with rfl|rfl
  ·exact .inl hx
  ·right;simpa using hx
 have eW:∀x,x∈E++G->x≠w.heap.size:=λx hx e=>by have:=h.db x hx;omega
 have hF:Fr G w (b::(g.toList++ge.toList)) w':=⟨k.mono λx hx=>h.mem.2 (by simp[hx]),λx hx=>by
  rcases mC.1 hx with rfl|hx
  ·exact .inl (h.mem.2 (.inl rfl))
  ·rcases mA.1 hx with hx|hx
   ·rcases ph x hx with h1|h1
    ·exact .inl (h.mem.2 (by simp[h1]))
    ·right;omega
   ·exact .inl (h.mem.2 (by simp[hx]))⟩
 have hN:(E++b::(g.toList++ge.toList)).Nodup:=R5 a1 a2 (λx hx=>by
  rcases ph x hx with h1|h1
  ·exact a3 x h1
  ·exact⟨λhe=>eW x (by simp[he]) h1,λe=>eW x (mR _ (h.mem.2 (.inl e))) h1⟩) (λx hx=>⟨(a4 x hx).1,(a4 x hx).2.1,λhy=>by
  rcases ph x hy with h1|h1
  ·exact(a4 x hx).2.2 h1
  ·exact eW x (mR _ (h.mem.2 (by simp[hx]))) h1⟩)
 refine⟨_,⟨h.ta.go (hF.in E),hy,h.ex.aO (hF.in E) k (λx hx hy=>(a4 x hx).2.2 hy),rfl,hN,λx hx=>?_⟩,hF⟩
 have hs:=k.size
 rcases mA.1 hx with hx|hx
 ·exact lL (h.db x (by simp[hx])) hs
 ·rcases mC.1 hx with rfl|hx
  ·exact lL (h.db x (mR _ (h.mem.2 (.inl rfl)))) hs
  ·rcases mA.1 hx with hx|hx
   ·exact hy.lt x hx
   ·exact lL (h.db x (mR _ (h.mem.2 (by simp[hx])))) hs
def jc.aO (h:jc τ E G w b vt vn ve gn ge ai aX exprs) {H:List Nat} (k:ak H w w') (hH:∀x,x∈H->x=b):jc τ E G w' b vt vn ve gn ge ai aX exprs:=by
 obtain⟨a1,a2,a3,a4⟩:=h.apart
 have hF:Fr (E++G) w (E++G) w':=Fr.of k λx hx=>mR _ (h.mem.2 (.inl (hH x hx)))
 exact⟨h.ta.go hF,h.na.aO k (λx hx hy=>(a3 x (by simp[hx])).2 (hH x hy)),h.ex.aO hF k (λx hx hy=>(a4 x hx).2.1 (hH x hy)),h.eG,h.nd,λx hx=>lL (h.db x hx) k.size⟩
def LW {w:World} {T:TypeId} {sz x:Nat} (hx:aY w x #[] T):jZ w T sz (.slice (some ⟨x,0,none⟩) 0 0) (some x) 0 []:=⟨by simp,.inr ⟨x,0,#[],rfl,rfl,hx,lR _,by decide,sm,sm⟩⟩
def R7 {w:World} {T:TypeId} {x:Nat} (hx:aY w x #[] T):dj w T (.slice (some ⟨x,0,none⟩) 0 0) (some x) []:=LW hx
def LX {L:List Nat} {w:World} {T:TypeId} {sz x:Nat} (hx:aY w x #[] T):eE L w T sz (.slice (some ⟨x,0,none⟩) 0 0) (some x) []:=⟨⟨[],LW hx,trivial⟩,sm⟩
def jc.opened (h:jc τ E G w b vt vn ve gn ge ai aX exprs) (k:ak [b] w w') {x y:Nat} (hx:aY w' x #[] τ.S) (hy:aY w' y #[] τ.T) (h1:w.heap.size<=x) (h2:x<y):
  jc τ (gn.toList++(ge.toList++E)) (b::[x,y]) w' b vt (.slice (some ⟨x,0,none⟩) 0 0) (.slice (some ⟨y,0,none⟩) 0 0) (some x) (some y) ai [] []∧
   dj w' τ.S vn gn aX∧eE (E++G) w' τ.T 2 ve ge (dH exprs)∧Fr G w (b::[x,y]) w':=by
 obtain⟨a1,a2,a3,a4⟩:=h.apart
 have eW:∀z,z∈E++G->z<w.heap.size:=h.db
 have hF:Fr (E++G) w ((gn.toList++(ge.toList++E))++(b::[x,y])) w':=⟨k.mono λz hz=>mR _ (h.mem.2 (.inl (by simpa using hz))),λz hz=>by
  simp only[mA,mC,nN,oF] at hz
  rcases hz with(hz|hz|hz)|hz|hz|hz
  ·exact .inl (mR _ (h.mem.2 (.inr (.inl hz))))
  ·exact .inl (mR _ (h.mem.2 (.inr (.inr hz))))
  ·exact .inl (List.mem_append_left _ hz)
  ·exact .inl (mR _ (h.mem.2 (.inl hz)))
  ·right;omega
  ·right;omega⟩
 have tP:Fr (E++G) w (E++G) w':=Fr.of k λz hz=>mR _ (h.mem.2 (.inl (by simpa using hz)))
 have hb:b<w.heap.size:=eW b (mR _ (h.mem.2 (.inl rfl)))
 have ph:∀z,z∈gn.toList->z<w.heap.size:=λz hz=>eW z (mR _ (h.mem.2 (.inr (.inl hz))))
 have rO:∀z,z∈ge.toList->z<w.heap.size:=λz hz=>eW z (mR _ (h.mem.2 (.inr (.inr hz))))
 have hE:∀z,z∈E->z<w.heap.size:=λz hz=>eW z (List.mem_append_left _ hz)
 refine⟨⟨h.ta.go hF,R7 hx,LX hy,rfl,?_,?_⟩,h.na.aO k (λz hz hy=>(a3 z (by simp[hz])).2 (by simpa using hy)),h.ex.aO tP k (λz hz hy=>(a4 z hz).2.1 (by simpa using hy)),⟨k.mono λz hz=>h.mem.2 (.inl (by simpa using hz)),λz hz=>?_⟩⟩
 ·rw[List.nodup_append,List.nodup_append,List.nodup_append]
  refine⟨⟨Ah gn,⟨Ah ge,a1,λp hp q hq e=>(a4 p hp).1 (e▸hq)⟩,λp hp q hq e=>?_⟩,?_,λp hp q hq e=>?_⟩
  ·subst e
   rcases mA.1 hq with hq|hq
   ·exact(a4 p hq).2.2 hp
   ·exact(a3 p hp).1 hq
  ·simp only[List.nodup_cons,mC,nN,oF,not_false_eq_true,List.nodup_nil,and_true]
   omega
  ·subst e
   simp only[mC,nN,oF] at hq
   simp only[mA] at hp
   rcases hp with hp|hp|hp
   ·rcases hq with hq|hq|hq
    ·exact(a3 p hp).2 hq
    ·have:=ph p hp;omega
    ·have:=ph p hp;omega
   ·rcases hq with hq|hq|hq
    ·exact(a4 p hp).2.1 hq
    ·have:=rO p hp;omega
    ·have:=rO p hp;omega
   ·rcases hq with hq|hq|hq
    ·subst hq;exact a2 hp
    ·have:=hE p hp;omega
    ·have:=hE p hp;omega
 ·intro z hz
  simp only[mA,mC,nN,oF] at hz
  have hs:=k.size
  rcases hz with(hz|hz|hz)|hz|hz|hz
  ·have:=ph z hz;omega
  ·have:=rO z hz;omega
  ·have:=hE z hz;omega
  ·omega
  ·rw[hz];exact hx.lt
  ·rw[hz];exact hy.lt
 ·simp only[mC,nN,oF] at hz
  rcases hz with hz|hz|hz
  ·exact .inl (h.mem.2 (.inl hz))
  ·right;omega
  ·right;omega
def jc.closed {G2:List Nat} {BT vn2 ve2:Value} {gn2 ge2:Option Nat} {acA:List aj} {acB:List aA} {w0:World} (h:jc τ E G w0 b vt vn ve gn ge ai aX exprs)
  (h2:jc τ (gn.toList++(ge.toList++E)) G2 w b BT vn2 ve2 gn2 ge2 ai acA acB) (hn:dj w τ.S vn gn aX) (he:eE (E++G) w τ.T 2 ve ge (dH exprs)) (hk:Fr G w0 G2 w) (k:ak [b] w w'):
  jc τ E G w' b BT vn ve gn ge ai aX exprs∧Fr G w0 G w':=by
 obtain⟨a1,a2,a3,a4⟩:=h.apart
 have Fx:ak G w w':=k.mono λz hz=>h.mem.2 (.inl (by simpa using hz))
 have tP:Fr (E++G) w (E++G) w':=Fr.of Fx λz hz=>mR _ hz
 have rW:∀z,z∈E++G->z∈(gn.toList++(ge.toList++E))++G2:=λz hz=>by
  rcases mA.1 hz with hz|hz
  ·simp[hz]
  ·rcases h.mem.1 hz with hz|hz|hz
   ·exact mR _ (h2.mem.2 (.inl hz))
   ·simp[hz]
   ·simp[hz]
 have x4:bI (E++G) w BT ai:=h2.ta.fresh λz hz=>.inl (rW z hz)
 refine⟨⟨x4.go tP,hn.aO k (λz hz hy=>(a3 z (by simp[hz])).2 (by simpa using hy)),he.aO tP k (λz hz hy=>(a4 z hz).2.1 (by simpa using hy)),h.eG,h.nd,λz hz=>?_⟩,⟨hk.aO.since Fx λz hz=>.inl hz,λz hz=>.inl hz⟩⟩
 have:=h.db z hz
 have h3:=hk.aO.size
 have h4:=k.size
 omega
def m5V (n:Nat) (vt vn ve:Value):List Value:=[vt,.int .i64 (n:Int),vn,ve]
def M5 (τ:xZ) (E G:List Nat) (w:World) (b:Nat) (ai:List aj) (n:Nat) (aX:List aj) (exprs:List aA):Prop:=∃vt vn ve gn ge,aY w b (m5V n vt vn ve).toArray τ.M∧jc τ E G w b vt vn ve gn ge ai aX exprs
def jc.ext (h:jc τ E G w b vt vn ve gn ge ai aX exprs) (k:ak [] w w'):jc τ E G w' b vt vn ve gn ge ai aX exprs:=h.aO k sm
def M5.ext {n:Nat} (h:M5 τ E G w b ai n aX exprs) (k:ak [] w w'):M5 τ E G w' b ai n aX exprs:=by
 obtain⟨vt,vn,ve,gn,ge,h1,h2⟩:=h
 exact⟨vt,vn,ve,gn,ge,h1.aO k sm,h2.ext k⟩
end
inductive It where
 |v (V:Value)
 |p (f:Value->World->Prop)
def It.F:It->Value->World->Prop
 | .v V=>λv _=>v=V
 | .p f=>f
def It.Io:It->Bool
 | .v _=>true
 | .p _=>false
def dq (its:List It) (ds:List Nat) (w:World):List Nat->(List (Nat×Value)->Prop)->Prop
 |[],k=>k []
 |j::r,k=>match its.getD j (.p λ_ _=>True) with
  | .v V=>dq its ds w r λacc=>k ((ds.getD j 0,V)::acc)
  | .p f=>∀v,f v w->dq its ds w r λacc=>k ((ds.getD j 0,v)::acc)
def Ip {its:List It} {ds:List Nat} {w:World} {vs:Nat->Value}:∀{deps:List Nat} {k:List (Nat×Value)->Prop},dq its ds w deps k->(∀j,j∈deps->qj (its.map It.F) j (vs j) w)->k (tx ds vs deps)
 |[],k,h,_=>h
 |j::r,k,h,hd=>by
  have hj:=hd j (List.mem_cons_self ..)
  unfold dq at h
  have hp:((its.getD j (.p λ_ _=>True)).F) (vs j) w:=by
   unfold qj at hj
   rw[gG] at hj⊢
   rw[List.getElem?_map] at hj
   cases e:its[j]? with
   |none=>trivial
   |some q=>rw[e] at hj;exact hj
  cases e:its.getD j (.p λ_ _=>True) with
  |v V=>
   rw[e] at h hp
   have hv:vs j=V:=hp
   subst hv
   exact Ip (deps:=r) h λi hi=>hd i (mK _ hi)
  |p f=>
   rw[e] at h hp
   exact Ip (deps:=r) (h _ hp) λi hi=>hd i (mK _ hi)
def R8 {F:List (Value->World->Prop)} {vs:Nat->Value} {w:World}:∀{l:List Nat},Hy F vs w l->∀j,j∈l->qj F j (vs j) w
 |[],_,j,h=>by cases h
 |[i],h,j,hj=>by rw[mS] at hj;subst hj;exact h
 |i::a::l,h,j,hj=>by
  rcases mC.1 hj with e|hj
  ·subst e;exact h.1
  ·exact R8 h.2 j hj
def Iq (P:Program) (n:Nat) (ops:Array Oper) (W ds:List Nat) (its:List It) (e0:Env) (w0:World) (k:Nat) (o:Oper) (deps:List Nat):Prop:=
 ∀(x:Env) (w:World),ak [] w0 w->dq its ds w deps λacc=>OW P n ops (λe' w'=>ak [] w w'∧(its.getD k (.p λ_ _=>True)).F (e' (ds.getD k 0)) w'∧gv [ds.getD k 0] (aM (aN W x e0) acc) e') [o] (aM (aN W x e0) acc) w
def tQ (P:Program) (n:Nat) (ops:Array Oper) (W ds:List Nat) (its:List It) (e0:Env) (w0:World):Nat->List Oper->List (List Nat)->Prop
 |_,[],_=>True
 |_,_::_,[]=>True
 |k,o::l,d::r=>Iq P n ops W ds its e0 w0 k o d∧tQ P n ops W ds its e0 w0 (k+1) l r
def vc {P:Program} {n:Nat} {ops:Array Oper} {W ds:List Nat} {its:List It} {e0:Env} {w0:World} {k:Nat} {o:Oper} {l:List Oper} {d:List Nat} {r:List (List Nat)} (h:Iq P n ops W ds its e0 w0 k o d) (hr:tQ P n ops W ds its e0 w0 (k+1) l r):tQ P n ops W ds its e0 w0 k (o::l) (d::r):=⟨h,hr⟩
def R9 {P:Program} {n:Nat} {ops:Array Oper} {W ds:List Nat} {its:List It} {e0:Env} {w0:World}:∀(l:List Oper) (deps:List (List Nat)) (k:Nat),tQ P n ops W ds its e0 w0 k l deps->Bh (ak []) P n ops W ds (its.map It.F) e0 w0 k l deps
 |[],_,_,_=>trivial
 |_::_,[],_,_=>trivial
 |o::l,d::r,k,h=>by
  refine⟨λx vs w e hk hd he=>?_,R9 l r (k+1) h.2⟩
  have:=Ip (h.1 x w hk) (vs:=vs) (R8 hd)
  subst he
  have e2:qj (its.map It.F) k=(its.getD k (.p λ_ _=>True)).F:=by
   unfold qj
   rw[gG,gG,List.getElem?_map]
   cases its[k]?<;>rfl
  rw[e2]
  exact this
def Fy:List It->Prop
 |[]=>True
 | .v _::r=>Fy r
 | .p f::r=>(∀v w w',f v w->ak [] w w'->f v w')∧Fy r
def LY:∀{its:List It},Fy its->tC (ak []) (its.map It.F)
 |[],_=>trivial
 | .v _::r,h=>⟨λv w w' e _=>e,LY (its:=r) h⟩
 | .p f::r,h=>⟨h.1,LY (its:=r) h.2⟩
def Sa:∀{its:List It},its.all It.Io=true->Fy its
 |[],_=>trivial
 | .v _::r,h=>Sa (its:=r) (by simpa[It.Io] using h)
 | .p f::r,h=>by simp[It.Io] at h
section
variable {P:Program} {n:Nat} {l:List Oper} {m:Nat} {W ds:List Nat} {deps:List (List Nat)}
def wE {N R:Env->World->Prop} {X:Nat->Env->World->Prop} {id:Nat} {e0:Env} {w0:World} (hm:P.follows .mixedOrders=true) (m:Nat) (W ds:List Nat) (deps:List (List Nat)) (its:List It)
  (hB:wa l m W ds deps=true) (hS:Fy its)
  (hc:∀wd,ak [] w0 wd->tQ P n l.toArray W ds its e0 wd 0 (l.take m) deps)
  (ht:∀(x:Env) (w:World),ak [] w0 w->dq its ds w (List.range m) λacc=>OW P n l.toArray N (l.drop m) (aM (aN W x e0) acc) w):
  CW P n (.region id l.toArray true) N R X e0 w0:=
 ql hm aS m W ds deps (its.map It.F) hB (LY hS) (λwd hk=>R9 _ _ _ (hc wd hk)) λx vs w hk Kq=>
  Ip (ht x w hk) (vs:=vs) λj hj=>Kq j (List.mem_range.1 hj)
def mv {N R:Env->World->Prop} {X:Nat->Env->World->Prop} {id:Nat} {e0:Env} {w0:World} (hm:P.follows .mixedOrders=true) (m:Nat) (W ds:List Nat) (deps:List (List Nat)) (its:List It)
  (hB:wa l m W ds deps=true) (hS:its.all It.Io=true)
  (hc:∀wd,ak [] w0 wd->tQ P n l.toArray W ds its e0 wd 0 (l.take m) deps)
  (ht:∀(x:Env) (w:World),ak [] w0 w->dq its ds w (List.range m) λacc=>OW P n l.toArray N (l.drop m) (aM (aN W x e0) acc) w):
  CW P n (.region id l.toArray true) N R X e0 w0:=wE hm m W ds deps its hB (Sa hS) hc ht
end
section
variable {P:Program} {n:Nat} {ops:Array Oper} {e:Env} {w w':World}
def pv {d:Nat} {v V:Value} (h:v=V:=by rfl):OW P n ops (λe' w'=>ak [] w w'∧(It.v V).F (e' d) w'∧gv [d] e e') [] (cQ e (some d) v) w:=
 ag ⟨ak.refl _ _,by subst h;exact nL _ _ _,qR⟩
def pk {d:Nat} {v V:Value} (k:ak [] w w') (h:v=V:=by rfl):OW P n ops (λe' w'=>ak [] w w'∧(It.v V).F (e' d) w'∧gv [d] e e') [] (cQ e (some d) v) w':=
 ag ⟨k,by subst h;exact nL _ _ _,qR⟩
def pf {d:Nat} {v:Value} {f:Value->World->Prop} (k:ak [] w w') (h:f v w'):OW P n ops (λe' w'=>ak [] w w'∧(It.p f).F (e' d) w'∧gv [d] e e') [] (cQ e (some d) v) w':=
 ag ⟨k,by show f (kK e d v d) w';rw[nL];exact h,qR⟩
end
def vk {P:Program} {n:Nat} {ops:Array Oper} {W ds:List Nat} {its:List It} {e0:Env} {wz w0:World} {k:Nat} {o:Oper} {l:List Oper} {d:List Nat} {r:List (List Nat)} (aB:ak [] wz w0) (h:∀(x:Env) (w:World),ak [] wz w->dq its ds w d λacc=>OW P n ops (λe' w'=>ak [] w w'∧(its.getD k (.p λ_ _=>True)).F (e' (ds.getD k 0)) w'∧gv [ds.getD k 0] (aM (aN W x e0) acc) e') [o] (aM (aN W x e0) acc) w) (hr:tQ P n ops W ds its e0 w0 (k+1) l r):tQ P n ops W ds its e0 w0 k (o::l) (d::r):=vc (λx w hk=>h x w (ak.trans aB hk)) hr
def eK {P:Program} {n:Nat} {ops:Array Oper} {W ds:List Nat} {its:List It} {e0:Env} {w0:World} {k:Nat} {o:Oper} {l:List Oper} {d:List Nat} {r:List (List Nat)} (hr:tQ P n ops W ds its e0 w0 (k+1) l r) (h:Iq P n ops W ds its e0 w0 k o d:=by exact λ_ _ _=>zm pv):tQ P n ops W ds its e0 w0 k (o::l) (d::r):=⟨h,hr⟩
def vcs {P:Program} {n:Nat} {ops:Array Oper} {W ds:List Nat} {its:List It} {e0:Env} {w0:World} {k:Nat} {o:Oper} {l:List Oper} {d:List Nat} {r:List (List Nat)} (hr:tQ P n ops W ds its e0 w0 (k+1) l r) (h:Iq P n ops W ds its e0 w0 k o d:=by exact λ_ _ _=>Kc rfl rfl pv):tQ P n ops W ds its e0 w0 k (o::l) (d::r):=⟨h,hr⟩
end Go.Proofs.YtigijcjccmdmhaaGreatDoor
