/- Lemmas for the law FnReach, no statement of their own: no conditions. -/
import Derived.Test.YthbhobaiopccaaaGreatDoorKa
import Derived.KernelRfl
import Derived.Lib.Atoi
import Derived.Lib.Strings
import Derived.Test.YthbhobaiopccaaaGreatDoorProg
set_option maxHeartbeats 4000000
set_option linter.unusedVariables false
set_option linter.unusedSimpArgs false
namespace Go.Proofs.YthbhobaiopccaaaGreatDoor
open Go
variable {B E U bytes d i k n1 n2 sz:Nat} {L L':List Nat} {w w':World} {v z:Value} {g gb:Option Nat} {rows:List (List C)} {b:Bk} {p t:aq} {ps ts:List aq} {h l r s x:ai} {P:Program} {bs:List Bk} {xs:List ai} {a c:Prop}
structure Gr (B:Nat) (L:List Nat) (w:World) (T:TypeId) (sz:Nat) (v:Value) (g:Option Nat) (rows:List (List C)):Prop where
 own:∃xs,ig L w T sz v g rows xs
 low:∀b,g=some b->B<=b
 cF:∀x,x∈L->x<w.heap.size
 bsz:B<=w.heap.size
theorem Gr.nil {T:TypeId} (hL:∀x,x∈L->x<w.heap.size) (hB:B<=w.heap.size):Gr B L w T sz (.slice none 0 0) none []:=
 ⟨⟨[],ig.nil _ _ _ _⟩,sm,hL,hB⟩
theorem Gr.aF {T:TypeId} (h:Gr B L w T sz v g rows) (k:aj L' w w') (hL:∀x,x∈L'->x∈L):Gr B L w' T sz v g rows:=
 ⟨h.own.imp λ_ h=>h.aF k hL,h.low,λx hx=>lL (h.cF x hx) k.size,Nat.le_trans h.bsz k.size⟩
theorem Gr.ext {T:TypeId} (h:Gr B L w T sz v g rows) (k:aj [] w w'):Gr B L w' T sz v g rows:=h.aF k sm
theorem Gr.aD {T:TypeId} (h:Gr B L w T sz v g rows) (k:aj L' w w') (hL:∀x,x∈L'->x∈L):Gr B L w' T sz v g rows:=h.aF k hL
theorem Gr.alloc {T:TypeId} (h:Gr B L w T sz v g rows) (k:aj [] w w') (hz:w'.heap.size=w.heap.size+1):Gr B (w.heap.size::L) w' T sz v g rows:=
 ⟨h.own.imp λ_ h=>(h.more xj).aF k sm,h.low,λx hx=>by rcases mC.1 hx with rfl|hx;omega;have:=h.cF x hx;omega,Nat.le_trans h.bsz k.size⟩
theorem Gr.gm {T:TypeId} (h:Gr B L w T sz v g rows) (hL:∀x,x∈L'->x∈L):Gr B L' w T sz v g rows:=
 ⟨h.own.imp λ_ h=>h.more λx hx=>.inl (hL x hx),h.low,λx hx=>h.cF x (hL x hx),h.bsz⟩
theorem Gr.done {T:TypeId} (h:Gr B L w T sz v g rows):bP L w v (.sl sz rows):=by
 obtain⟨_,h⟩:=h.own;exact h.done
theorem Gr.AD {T:TypeId} (h:Gr B L w T sz v g rows) {b:Nat} (hb:b∈L):b∉g.toList:=by
 obtain⟨_,h⟩:=h.own;exact h.sep hb
theorem Gr.R3 {T:TypeId} (h:Gr B L w T sz v g rows) {b:Nat} (hb:b<B):b∉g.toList:=by
 intro hx;have:=h.low b (by simpa using hx);omega
theorem Gr.lt {T:TypeId} (h:Gr B L w T sz v g rows):∀x,x∈g.toList->x<w.heap.size:=by
 obtain⟨_,h⟩:=h.own;intro x hx;exact h.own.lt x (by simpa using hx)
theorem Gr.all {T:TypeId} (h:Gr B L w T sz v g rows):∀x,x∈g.toList++L->x<w.heap.size:=by
 intro x hx
 rcases mA.1 hx with hx|hx
 ·exact h.lt x hx
 ·exact h.cF x hx
theorem Gr.since {w0:World} {T:TypeId} (h:Gr w0.heap.size L w T sz v g rows) (k0:aj L' w0 w) (k:aj g.toList w w'):aj L' w0 w':=
 k0.since k λx hx=>.inr (h.low x (by simpa using hx))
theorem aj.Jt {w0:World} (hB:w0.heap.size<=B) (hl:∀b,g=some b->B<=b) (k0:aj L' w0 w) (k:aj g.toList w w'):aj L' w0 w':=
 k0.since k λx hx=>.inr (Nat.le_trans hB (hl x (by simpa using hx)))
section
variable {P:Program} {n:Nat} {ops:Array Oper} {K:Env->World->Prop} {rest:List Oper} {e:Env} {w:World}
 {dst:Option Nat} {ty:TypeId} {pos:String} {after:Array Edge} {g:Option (Nat×Bool)} {x y:Operand}
theorem Ev {B:Nat} {L:List Nat} {t:Nat} {v:Value} {gb:Option Nat} {rows:List (List C)} {row:List C} {news:List Value} {b U:Nat} (hT:P.underlying t=some (.slice E)) (hE:TI P E sz bytes z) (hg:gate ops e g=true) (hd:cj n dst=true) (hz:Nat.beq z.cells.size sz=true) (fY:Nat.ble bytes 1000=true) 
  (hx:ev e x=v) (hy:ev e y= .slice (some ⟨b,0,none⟩) 1 1) (hO:Gr B L w E sz v gb rows) (hb:aK w b news.toArray U) (iC:row.length=sz) (h1:news.all Value.oneCell'=true)
  (hr:cZ (gb.toList++L) w news row) (hn:rows.length<100000000)
  (k:∀a' cap' g' w',Gr B L w' E sz (.slice a' (rows.length+1) cap') g' (rows++[row])->aj gb.toList w w'->OW P n ops K rest (bQ e dst (.slice a' (rows.length+1) cap')) w'):
  OW P n ops K (⟨dst,.call {callee:=.builtin .append,args:=#[x,y],argTypes:=#[t,t]},ty,pos,after,g⟩::rest) e w:=by
 obtain⟨xs,hR⟩:=hO.own
 have AE:bytes<=1000:=Nat.le_of_ble_eq_true fY
 refine RY hT hE hg hd hz hx hy hR iC hb.all (λu hu=>List.all_eq_true.1 h1 u hu) hr hO.cF (Nat.le_trans (Nat.mul_le_mul (show rows.length+1<=100000000 by omega) (show bytes+1<=1001 by omega)) de) ?_
 intro a' cap' g' w' jj hk kT
 refine k a' cap' g' w' ⟨⟨_,jj⟩,λb hb=>?_,λx hx=>lL (hO.cF x hx) hk.size,Nat.le_trans hO.bsz hk.size⟩ hk
 rcases kT with h|h
 ·rw[h] at hb;exact hO.low b hb
 ·rw[h] at hb;cases hb;exact hO.bsz
theorem Mz {B:Nat} {L:List Nat} {t:Nat} {v u1 u2:Value} {gb:Option Nat} {ts:List aq} {f:aq} {b U:Nat} (hT:P.underlying t=some (.slice E)) (hE:TI P E 2 bytes z) (hg:gate ops e g=true) (hd:cj n dst=true) (hz:Nat.beq z.cells.size 2=true) (fY:Nat.ble bytes 1000=true) 
  (hx:ev e x=v) (hy:ev e y= .slice (some ⟨b,0,none⟩) 1 1) (hO:Gr B L w E 2 v gb (da ts)) (hb:aK w b [u1,u2].toArray U)
  (hr:bC (gb.toList++L) w (.agg #[u1,u2]) f) (hn:ts.length<100000000)
  (k:∀a' cap' g' w',Gr B L w' E 2 (.slice a' (ts++[f]).length cap') g' (da (ts++[f]))->aj gb.toList w w'->OW P n ops K rest (bQ e dst (.slice a' (ts++[f]).length cap')) w'):
  OW P n ops K (⟨dst,.call {callee:=.builtin .append,args:=#[x,y],argTypes:=#[t,t]},ty,pos,after,g⟩::rest) e w:=by
 refine Ev hT hE hg hd hz fY hx hy hO hb (ph f) ?_ hr.kG (by rw[iz];exact hn) ?_
 ·rw[List.all_eq_true]
  refine λu hu=>cZ.Gz hr.kG (λc hc v hv=>?_) u hu
  cases f;rw[aq.enc] at hc
  simp only[mC,List.not_mem_nil,or_false] at hc
  rcases hc with h|h
  ·rw[h] at hv;cases hv;rfl
  ·rw[h] at hv;cases hv
 ·intro a' cap' g' w' jj hk
  have e1:(da ts).length+1=(ts++[f]).length:=by simp[iz]
  have e2:da ts++[f.enc]=da (ts++[f]):=by simp[Mw,da]
  rw[e1] at jj⊢
  rw[e2] at jj
  exact k a' cap' g' w' jj hk
theorem Ew {B:Nat} {L:List Nat} {t:Nat} {v:Value} {gb:Option Nat} {ss:List ai} {s:ai} {b U:Nat} (hT:P.underlying t=some (.slice E)) (hE:TI P E 1 bytes z) (hg:gate ops e g=true) (hd:cj n dst=true) (hz:Nat.beq z.cells.size 1=true) (fY:Nat.ble bytes 1000=true) 
  (hx:ev e x=v) (hy:ev e y= .slice (some ⟨b,0,none⟩) 1 1) (hO:Gr B L w E 1 v gb (fb ss)) (hb:aK w b [str s].toArray U) (hn:ss.length<100000000)
  (k:∀a' cap' g' w',Gr B L w' E 1 (.slice a' (ss++[s]).length cap') g' (fb (ss++[s]))->aj gb.toList w w'->OW P n ops K rest (bQ e dst (.slice a' (ss++[s]).length cap')) w'):
  OW P n ops K (⟨dst,.call {callee:=.builtin .append,args:=#[x,y],argTypes:=#[t,t]},ty,pos,after,g⟩::rest) e w:=by
 refine Ev (row:=[.val (str s)]) hT hE hg hd hz fY hx hy hO hb rfl rfl ⟨.val _,trivial⟩ (by rw[po];exact hn) ?_
 intro a' cap' g' w' jj hk
 have e1:(fb ss).length+1=(ss++[s]).length:=by simp[po]
 have e2:fb ss++[[.val (str s)]]=fb (ss++[s]):=by simp[fb]
 rw[e1] at jj⊢
 rw[e2] at jj
 exact k a' cap' g' w' jj hk
end
theorem R4 {P:Program} {T:Nat} (hT:P.underlying T=some (.slice E)) (hE:TI P E sz bytes z):(Instr.buildSlice T 0 #[]).run P w= .ok (.slice (some ⟨w.heap.size,0,none⟩) 0 0) (w.alloc (.cells #[] E)):=by
 simp[Instr.buildSlice,Sem.run_bind,run_underlying hT,Result.andThen_ok,hE.qG,Instr.fill,newRow];congr 2;apply Array.ext<;>simp
theorem vJ {P:Program} {n:Nat} {ops:Array Oper} {K:Env->World->Prop} {rest:List Oper} {e:Env} {w:World} {dst:Option Nat} {ty:TypeId} {pos:String} {after:Array Edge} {g:Option (Nat×Bool)} 
  {T E sz bytes:Nat} {z:Value} (B:Nat) (L:List Nat) (hT:P.underlying T=some (.slice E)) (hE:TI P E sz bytes z) (hg:gate ops e g=true) (hd:cj n dst=true) (hB:B<=w.heap.size) (hL:∀x,x∈L->x<w.heap.size)
  (k:∀w',aj [] w w'->w'.heap.size=w.heap.size+1->Gr B L w' E sz (.slice (some ⟨w.heap.size,0,none⟩) 0 0) (some w.heap.size) []->OW P n ops K rest (bQ e dst (.slice (some ⟨w.heap.size,0,none⟩) 0 0)) w'):
  OW P n ops K (⟨dst,.buildSlice T 0 #[],ty,pos,after,g⟩::rest) e w:=
 eJ hg hd (w':=w.alloc (.cells #[] E)) (by simp[execOp,R4 (P:=P) (w:=w) hT hE])
  (k _ (aj.alloc _ _ _) sm ⟨⟨[],⟨by simp,.inr ⟨w.heap.size,0,#[],rfl,rfl,aK.alloc _ _ _,lR _,by decide,sm,sm⟩⟩,trivial,sm,by intro b hb hx;cases hb;have:=hL _ hx;omega⟩,
   by intro b hb;cases hb;exact hB,λx hx=>by have:=hL x hx;simp;omega,by simp;omega⟩)
theorem qI.kG {x y:Value} (h:qI L w (.agg #[x,y,z]) b):cZ L w [x,y,z] b.enc:=by
 obtain⟨vs,he,hr⟩:=h
 have hv:vs=[x,y,z]:=by
  have:=congrArg (λv=>match v with|Value.agg x=>x.toList|_=>[]) he
  simpa using this.symm
 rw[<-hv];exact hr
theorem MA {P:Program} {n:Nat} {ops:Array Oper} {K:Env->World->Prop} {rest:List Oper} {e:Env} {w:World} {dst:Option Nat} {ty:TypeId} {pos:String} {after:Array Edge} {g:Option (Nat×Bool)} {x y:Operand} 
  {B:Nat} {L:List Nat} {t E bytes:Nat} {z:Value} {v u1 u2 u3:Value} {gb:Option Nat} {ts:List Bk} {f:Bk} {b U:Nat} (hT:P.underlying t=some (.slice E)) (hE:TI P E 3 bytes z) (hg:gate ops e g=true) (hd:cj n dst=true) (hz:Nat.beq z.cells.size 3=true) (fY:Nat.ble bytes 1000=true)
  (hx:ev e x=v) (hy:ev e y= .slice (some ⟨b,0,none⟩) 1 1) (hO:Gr B L w E 3 v gb (ts.map Bk.enc)) (hb:aK w b [u1,u2,u3].toArray U)
  (hr:qI (gb.toList++L) w (.agg #[u1,u2,u3]) f) (hn:ts.length<100000000)
  (k:∀a' cap' g' w',Gr B L w' E 3 (.slice a' (ts++[f]).length cap') g' ((ts++[f]).map Bk.enc)->aj gb.toList w w'->OW P n ops K rest (bQ e dst (.slice a' (ts++[f]).length cap')) w'):
  OW P n ops K (⟨dst,.call {callee:=.builtin .append,args:=#[x,y],argTypes:=#[t,t]},ty,pos,after,g⟩::rest) e w:=by
 refine Ev hT hE hg hd hz fY hx hy hO hb rfl ?_ hr.kG (by simpa using hn) ?_
 ·rw[List.all_eq_true]
  refine λu hu=>cZ.Gz hr.kG (λc hc v hv=>?_) u hu
  rw[Bk.enc] at hc
  simp only[mC,List.not_mem_nil,or_false] at hc
  rcases hc with h|h|h
  ·rw[h] at hv;cases hv;rfl
  ·rw[h] at hv;cases hv
  ·rw[h] at hv;cases hv
 ·intro a' cap' g' w' jj hk
  have e1:(ts.map Bk.enc).length+1=(ts++[f]).length:=by simp
  have e2:ts.map Bk.enc++[f.enc]=(ts++[f]).map Bk.enc:=by simp
  rw[e1] at jj⊢
  rw[e2] at jj
  exact k a' cap' g' w' jj hk
theorem Gr.um {T:TypeId} (h:Gr B L w T 3 v g (bs.map Bk.enc)):lH L w v bs:=h.done
/-! ### Owned lists of texts,owned programs -/
def cG (w:World) (T:TypeId) (v:Value) (g:Option Nat) (xs:List ai):Prop:=jb w T 1 v g xs.length (xs.map λx=>str x)
theorem R5:∀{xs:List ai} {vs:List Value},cZ L w vs (fb xs).flatten->vs=xs.map λx=>str x
 |[],vs,h=>by
  cases vs with
  |nil=>rfl
  |cons v vs=>exact h.elim
 |x::xs,vs,h=>by
  cases vs with
  |nil=>exact h.elim
  |cons v vs=>
   obtain⟨h1,h2⟩:=h
   cases h1
   rw[List.map_cons,<-R5 (xs:=xs) h2]
theorem R6:∀xs:List ai,cZ L w (xs.map λx=>str x) (fb xs).flatten
 |[]=>trivial
 |_::xs=>⟨.val _,R6 xs⟩
theorem Gr.sn {T:TypeId} (h:Gr B L w T 1 v g (fb xs)):cG w T v g xs:=by
 obtain⟨vs,h⟩:=h.own
 have:=h.own
 rw[R5 h.rep,po] at this
 exact this
theorem cG.R7 {T:TypeId} (h:cG w T v g xs) (hL:∀b,g=some b->b∉L):ig L w T 1 v g (fb xs) (xs.map λx=>str x):=
 ⟨by rw[po];exact h,R6 xs,by intro row hr;simp[fb] at hr;obtain⟨_,_,rfl⟩:=hr;rfl,hL⟩
theorem cG.rep {T:TypeId} (h:cG w T v g xs) (hL:∀b,g=some b->b∉L):bf L w v xs:=(h.R7 hL).done
theorem cG.aF {T:TypeId} (h:cG w T v g xs) (k:aj L w w') (hL:∀b,g=some b->b∉L):cG w' T v g xs:=jb.aF h k hL
theorem cG.ext {T:TypeId} (h:cG w T v g xs) (k:aj [] w w'):cG w' T v g xs:=h.aF k sm
def qJ (w:World) (T:TypeId) (gs:Option Nat×Option Nat) (vs:List Value) (b:Bk):Prop:=
 ∃v1 v2,vs=[str b.aJ,v1,v2]∧cG w T v1 gs.1 b.ck∧cG w T v2 gs.2 b.code
def jk (gs:Option Nat×Option Nat):List Nat:=gs.1.toList++gs.2.toList
def gO (gss:List (Option Nat×Option Nat)):List Nat:=gss.flatMap jk
theorem qJ.aF {T:TypeId} {gs:Option Nat×Option Nat} {vs:List Value} (h:qJ w T gs vs b) (k:aj L w w') (hL:∀x,x∈jk gs->x∉L):qJ w' T gs vs b:=by
 obtain⟨v1,v2,e,h1,h2⟩:=h
 exact⟨v1,v2,e,h1.aF k (λb hb=>hL b (by simp[jk,hb])),h2.aF k (λb hb=>hL b (by simp[jk,hb]))⟩
def jd (w:World) (T:TypeId):List (Option Nat×Option Nat)->List (List Value)->List Bk->Prop
 |[],[],[]=>True
 |g::gs,v::vs,b::bs=>qJ w T g v b∧jd w T gs vs bs
 |_,_,_=>False
theorem jd.aF {T:TypeId} (k:aj L w w'):∀{gss:List (Option Nat×Option Nat)} {vss:List (List Value)} {bs:List Bk},jd w T gss vss bs->(∀x,x∈gO gss->x∉L)->jd w' T gss vss bs
 |[],[],[],_,_=>trivial
 |g::gs,v::vs,b::bs,h,hL=>⟨h.1.aF k (λx hx=>hL x (by simp[gO,hx])),jd.aF k h.2 (λx hx=>hL x (by simp[gO] at hx⊢;exact .inr hx))⟩
theorem jd.snoc {T:TypeId}:∀{gss:List (Option Nat×Option Nat)} {vss:List (List Value)} {bs:List Bk} {g:Option Nat×Option Nat} {v:List Value} {b:Bk},jd w T gss vss bs->qJ w T g v b->jd w T (gss++[g]) (vss++[v]) (bs++[b])
 |[],[],[],_,_,_,_,h=>⟨h,trivial⟩
 |_::_,_::_,_::_,_,_,_,h,k=>⟨h.1,jd.snoc h.2 k⟩
theorem jd.lens {T:TypeId}:∀{gss:List (Option Nat×Option Nat)} {vss:List (List Value)} {bs:List Bk},jd w T gss vss bs->gss.length=bs.length∧vss.length=bs.length∧∀row,row∈vss->row.length=3
 |[],[],[],_=>by simp
 |g::gs,v::vs,b::bs,h=>by
  obtain⟨h1,h2,h3⟩:=jd.lens h.2
  refine⟨by simp[h1],by simp[h2],λrow hr=>?_⟩
  rcases mC.1 hr with rfl|hr
  ·obtain⟨v1,v2,rfl,_⟩:=h.1;rfl
  ·exact h3 row hr
theorem jd.get {T:TypeId}:∀{gss:List (Option Nat×Option Nat)} {vss:List (List Value)} {bs:List Bk},jd w T gss vss bs->∀{i:Nat} {b:Bk},bs[i]?=some b->∃g v,gss[i]?=some g∧vss[i]?=some v∧qJ w T g v b
 |_::_,_::_,_::_,h,0,b,hb=>by simp at hb;subst hb;exact⟨_,_,rfl,rfl,h.1⟩
 |_::gs,_::vs,_::bs,h,i+1,b,hb=>by
  obtain⟨g,v,h1,h2,h3⟩:=jd.get h.2 (i:=i) (by simpa using hb)
  exact⟨g,v,by simpa using h1,by simpa using h2,h3⟩
 |[],[],[],_,i,b,hb=>by simp at hb
theorem jd.CC {T:TypeId}:∀{gss:List (Option Nat×Option Nat)} {vss:List (List Value)} {bs:List Bk},jd w T gss vss bs->(∀x,x∈gO gss->x∉L)->cZ L w vss.flatten (bs.map Bk.enc).flatten
 |[],[],[],_,_=>trivial
 |g::gs,v::vs,b::bs,h,hL=>by
  obtain⟨v1,v2,rfl,h1,h2⟩:=h.1
  refine⟨.val _,h1.rep (λb hb=>hL b (by simp[gO,jk,hb])),h2.rep (λb hb=>hL b (by simp[gO,jk,hb])),?_⟩
  exact jd.CC h.2 (λx hx=>hL x (by simp[gO] at hx⊢;exact .inr hx))
structure mB (w:World) (TB TS:TypeId) (v:Value) (g:Option Nat) (gss:List (Option Nat×Option Nat)) (vss:List (List Value)) (bs:List Bk):Prop where
 own:jb w TB 3 v g bs.length vss.flatten
 rows:jd w TS gss vss bs
 nodup:(g.toList++gO gss).Nodup
 lt:∀x,x∈gO gss->x<w.heap.size
theorem mB.aF {TB TS:TypeId} {gss:List (Option Nat×Option Nat)} {vss:List (List Value)} (h:mB w TB TS v g gss vss bs) (k:aj L w w') (hL:∀x,x∈g.toList++gO gss->x∉L):mB w' TB TS v g gss vss bs:=
 ⟨h.own.aF k (λb hb=>hL b (by simp[hb])),h.rows.aF k (λx hx=>hL x (by simp[hx])),h.nodup,λx hx=>lL (h.lt x hx) k.size⟩
theorem mB.ext {TB TS:TypeId} {gss:List (Option Nat×Option Nat)} {vss:List (List Value)} (h:mB w TB TS v g gss vss bs) (k:aj [] w w'):mB w' TB TS v g gss vss bs:=h.aF k sm
theorem bC.MB {A B:List Nat} {b:Nat} (h:bC (b::(A++B)) w v t):bC (A++(b::B)) w v t:=kn.fresh h λx hx=>.inl (RV x hx)
theorem bC.gm (h:bC L w v t) (hL:∀x,x∈L'->x∈L):bC L' w v t:=kn.fresh h λx hx=>.inl (hL x hx)
theorem eU.gm {t:List aq} (h:eU L w v t) (hL:∀x,x∈L'->x∈L):eU L' w v t:=bP.fresh h λx hx=>.inl (hL x hx)
theorem Gr.trees {T:TypeId} (h:Gr B L w T 2 v g (da ts)):eU L w v ts:=h.done
def iv (c:UInt8):Bool:=48<=c&&c<=57
theorem CD (c:UInt8):iv c=true↔48<=c.toNat∧c.toNat<=57:=by
 simp[iv,UInt8.le_iff_toNat_le]
def rz (s:ai):Int:=if 0<s.length∧s.getD 0 0=45 then -1 else 1
def eC (s:ai):ai:=if 0<s.length∧s.getD 0 0=45 then s.drop 1 else s
def val (ds:ai):Nat:=ds.foldl (λn c=>10*n+(c.toNat-48)) 0
def numeral (s:ai):Option Int:=
 if s=[48] then some 0
 else if(eC s).length<1∨3<(eC s).length∨(eC s).getD 0 0=48 then none
 else if(eC s).all iv=true then some (rz s*val (eC s)) else none
theorem R8 (ds:ai) (c:UInt8):val (ds++[c])=10*val ds+(c.toNat-48):=by simp[val]
theorem R9:∀(ds:ai),ds.all iv=true->val ds<10^ds.length:=by
 intro ds
 have key:∀(l:ai) (n k:Nat),l.all iv=true->n<10^k->l.foldl (λn c=>10*n+(c.toNat-48)) n<10^(k+l.length):=by
  intro l
  induction l with
  |nil=>intro n k _ h;simpa using h
  |cons c l ih=>
   intro n k hl h
   simp only[List.all_cons,aE] at hl
   have hc:=(CD c).1 hl.1
   simp only[List.foldl_cons,lC]
   have:=ih (10*n+(c.toNat-48)) (k+1) hl.2 (by rw[Nat.pow_succ];omega)
   rw[show k+(l.length+1)=k+1+l.length from by omega];exact this
 intro h
 have:=key ds 0 0 h sm
 simpa[val] using this
theorem MC (h:k<s.length):s.take (k+1)=s.take k++[s.getD k 0]:=by simp_all
def bX (t:aq):ai:=if t.aw≠[]∨t.ak=[] then[] else match t.ak with
 |[]=>[]
 |p::_=>p.aw
def Sa (c:UInt8):Bool:=97<=c&&c<=122
def CE (s:ai) (i:Nat):Bool:=Sa (s.getD i 0)||(decide (0<i)&&iv (s.getD i 0))
def nW (s:ai):Bool:=(List.range s.length).all (CE s)&&decide (s≠[])
theorem GB (k c:UInt8):decide ((k.toNat:Int)<=c.toNat)=decide (k<=c):=by simp[UInt8.le_iff_toNat_le]
theorem Sb (k c:UInt8):decide ((c.toNat:Int)=k.toNat)=(c==k):=by
 rw[Bool.eq_iff_iff];simp[<-UInt8.toNat_inj];omega
theorem Ju (s:ai) (k:Nat):((decide ((97:Int)<=(s.getD k 0).toNat)&&decide (((s.getD k 0).toNat:Int)<=122))||((decide ((0:Int)<(k:Int))&&decide ((48:Int)<=(s.getD k 0).toNat))&&decide (((s.getD k 0).toNat:Int)<=57)))=CE s k:=by
 have a:=GB 97 (s.getD k 0)
 have b:=GB (s.getD k 0) 122
 have c:=GB 48 (s.getD k 0)
 have d:=GB (s.getD k 0) 57
 simp only[show((97:UInt8).toNat:Int)=97 from rfl,show((122:UInt8).toNat:Int)=122 from rfl,show((48:UInt8).toNat:Int)=48 from rfl,show((57:UInt8).toNat:Int)=57 from rfl] at a b c d
 rw[a,b,c,d]
 unfold CE Sa iv
 rw[show decide ((0:Int)<(k:Int))=decide (0<k) from by simp,Bool.and_assoc]
theorem Sd {j:Nat} (hj:j<s.length) (h:CE s j=false):nW s=false:=by grind [nW]
theorem Se (h:∀j,j<s.length->CE s j=true):nW s=decide (s≠[]):=by grind [nW]
theorem Sf {P:Nat->Prop} (h:∀j,j<k->P j) (hk:P k):∀j,j<k+1->P j:=by grind
theorem GC (ha:t.aw=[]) (hp:t.ak[0]?=some p):bX t=p.aw:=by grind [aq.ak,bX]
theorem GD (h:t.aw≠[]∨t.ak=[]):bX t=[]:=by unfold bX;rw[iP h]
theorem aaG (h0:s≠[48]) (h:(eC s).length<1∨3<(eC s).length∨(eC s).getD 0 0=48):numeral s=none:=by grind [numeral]
theorem aaH (h0:s≠[48]) (hk:k<(eC s).length) (h:iv ((eC s).getD k 0)=false):numeral s=none:=by grind [numeral,eC]
theorem aaI (h0:s≠[48]) (h:1<=(eC s).length∧(eC s).length<=3∧(eC s).getD 0 0≠48) (cC:(eC s).all iv=true):numeral s=some (rz s*val (eC s)):=by grind [numeral]
theorem aaJ (s:ai):rz s=1∨rz s= -1:=by grind [rz]
theorem aaK {ds:ai} (h:(!(decide ((1:Int)<=(ds.length:Int))&&decide ((ds.length:Int)<=3))||decide (((ds.getD 0 0).toNat:Int)=48))=true):ds.length<1∨3<ds.length∨ds.getD 0 0=48:=by
 simp only[oE,Bool.not_eq_true',Bool.and_eq_false_iff,decide_eq_false_iff_not,dE] at h
 rcases h with(h|h)|h
 ·left;omega
 ·right;left;omega
 ·right;right;exact UInt8.toNat_inj.1 (by have:(48:UInt8).toNat=48:=rfl;rw[this];omega)
theorem aaL {ds:ai} (h:(!(decide ((1:Int)<=(ds.length:Int))&&decide ((ds.length:Int)<=3))||decide (((ds.getD 0 0).toNat:Int)=48))=false):1<=ds.length∧ds.length<=3∧ds.getD 0 0≠48:=by
 simp only[Bool.or_eq_false_iff,Bool.not_eq_false',aE,decide_eq_false_iff_not,dE] at h
 refine⟨by omega,om,λSg=>h.2 (by rw[Sg];rfl)⟩
theorem Sh {c:UInt8} (h:(decide ((c.toNat:Int)<48)||decide ((57:Int)<c.toNat))=true):iv c=false:=by grind [CD]
theorem Si {c:UInt8} (h:(decide ((c.toNat:Int)<48)||decide ((57:Int)<c.toNat))=false):48<=c.toNat∧c.toNat<=57∧iv c=true:=by grind [CD]
def aq.size:aq->Nat
 | .mk a ps=>1+a.length+sizes ps
 where sizes:List aq->Nat
 |[]=>0
 |t::ts=>t.size+sizes ts
theorem aaM {ps:List aq}:∀{i:Nat} {p:aq},ps[i]?=some p->p.size<=aq.size.sizes ps:=by
 induction ps with
 |nil=>intro i p h;simp at h
 |cons q ps ih=>
  intro i p h
  cases i with
  |zero=>simp at h;subst h;simp only[aq.size.sizes];omega
  |succ i=>have:=ih (by simpa using h);simp only[aq.size.sizes];omega
theorem Sj {t:aq} (h:t.ak[i]?=some p):p.size<t.size:=by
 cases t with
 |mk a ps=>have:=aaM (ps:=ps) h;simp only[aq.size];omega
theorem xo:∀t:aq,t.ak.length<t.size
 | .mk a ps=>by
  have:∀l:List aq,l.length<=aq.size.sizes l:=by
   intro l
   induction l with
   |nil=>simp[aq.size.sizes]
   |cons q r ih=>cases q;simp only[aq.size.sizes,aq.size,lC];omega
  have:=this ps
  simp only[aq.ak,aq.size];omega
inductive WF:aq->Prop
 |aw (a:ai) (h:a≠[]):WF (.mk a [])
 |list (ps:List aq) (h:ps≠[]) (hp:∀p,p∈ps->WF p):WF (.mk [] ps)
theorem WF.part (h:WF t) (hp:t.ak[i]?=some p):WF p:=by cases h<;>grind [aq.ak]
theorem WF.first (h:WF t) (ha:t.aw=[]):∃p,t.ak[0]?=some p:=by
 cases h with
 |aw a hn=>exact absurd ha hn
 |list ps hn _=>
  cases ps with
  |nil=>exact absurd rfl hn
  |cons q r=>exact⟨q,rfl⟩
theorem WF.leaf (h:WF t) (ha:t.aw≠[]):t.ak=[]:=by
 cases h with
 |aw a _=>rfl
 |list ps _ _=>exact absurd rfl ha
theorem Sk {rd:ai->Option (aq×ai)} (eQ:∀s t r,rd s=some (t,r)->WF t):∀n s ts r,iL rd n s=some (ts,r)->ts≠[]∧∀p,p∈ts->WF p
 |0,_,_,_,h=>by simp[iL] at h
 |n+1,s,ts,r,h=>by
  unfold iL at h
  cases hr:rd s with
  |none=>simp[hr] at h
  |some q=>
   obtain⟨t,r1⟩:=q
   have ht:=eQ s t r1 hr
   simp only[hr] at h
   cases r1 with
   |nil=>simp at h
   |cons c r'=>
    simp only at h
    by_cases h1:c=41
    ·rw[iP h1] at h
     simp at h
     obtain⟨rfl,_⟩:=h
     exact⟨by simp,by intro p hp;simp at hp;subst hp;exact ht⟩
    ·rw[iN h1] at h
     by_cases h2:c=32
     ·rw[iP h2] at h
      cases hp:iL rd n r' with
      |none=>simp[hp] at h
      |some q=>
       obtain⟨ts',r''⟩:=q
       simp[hp] at h
       obtain⟨rfl,_⟩:=h
       obtain⟨_,h4⟩:=Sk eQ n r' ts' r'' hp
       exact⟨by simp,by intro p hp;rcases mC.1 hp with rfl|hp;exact ht;exact h4 p hp⟩
     ·rw[iN h2] at h;cases h
theorem aaN:∀d s t r,eu d s=some (t,r)->WF t:=by
 have leaf:∀(s:ai) (t:aq) (r:ai),(if s.takeWhile fa=[] then none else some (aq.mk (s.takeWhile fa) [],s.dropWhile fa))=some (t,r)->WF t:=by
  intro s t r h
  split at h
  ·cases h
  ·rename_i hn
   simp only[Option.some.injEq,Prod.mk.injEq] at h
   rw[<-h.1];exact .aw _ hn
 intro d
 induction d with
 |zero=>
  intro s t r h
  cases s with
  |nil=>simp[eu] at h
  |cons c s=>
   simp only[eu] at h
   by_cases h1:c=40
   ·rw[iP h1] at h;cases h
   ·rw[iN h1] at h;exact leaf _ _ _ h
 |succ d ih=>
  intro s t r h
  cases s with
  |nil=>simp[eu] at h
  |cons c s=>
   simp only[eu] at h
   by_cases h1:c=40
   ·rw[iP h1] at h
    cases hp:iL (eu d) (s.length+1) s with
    |none=>simp[hp] at h
    |some q=>
     obtain⟨ts',r''⟩:=q
     simp[hp] at h
     obtain⟨h3,h4⟩:=Sk ih _ _ _ _ hp
     rw[<-h.1];exact .list _ h3 h4
   ·rw[iN h1] at h;exact leaf _ _ _ h
theorem uo (h:bB s=some t):WF t:=by grind [bB,eu,aaN]
theorem Sl {rd:ai->Option (aq×ai)} (eQ:∀s t r,rd s=some (t,r)->t.size+r.length<=s.length+1):∀n s ts r,iL rd n s=some (ts,r)->aq.size.sizes ts+r.length<=s.length
 |0,_,_,_,h=>by simp[iL] at h
 |n+1,s,ts,r,h=>by
  unfold iL at h
  cases hr:rd s with
  |none=>simp[hr] at h
  |some q=>
   obtain⟨t,r1⟩:=q
   have ht:=eQ s t r1 hr
   simp only[hr] at h
   cases r1 with
   |nil=>simp at h
   |cons c r'=>
    simp only at h
    rw[lC] at ht
    by_cases h1:c=41
    ·rw[iP h1] at h
     simp at h
     obtain⟨rfl,rfl⟩:=h
     simp only[aq.size.sizes];omega
    ·rw[iN h1] at h
     by_cases h2:c=32
     ·rw[iP h2] at h
      cases hp:iL rd n r' with
      |none=>simp[hp] at h
      |some q=>
       obtain⟨ts',r''⟩:=q
       simp[hp] at h
       obtain⟨rfl,rfl⟩:=h
       have h4:=Sl eQ n r' ts' r'' hp
       simp only[aq.size.sizes];omega
     ·rw[iN h2] at h;cases h
theorem aaO:∀d s t r,eu d s=some (t,r)->t.size+r.length<=s.length+1:=by
 have leaf:∀(s:ai) (t:aq) (r:ai),(if s.takeWhile fa=[] then none else some (aq.mk (s.takeWhile fa) [],s.dropWhile fa))=some (t,r)->t.size+r.length<=s.length+1:=by
  intro s t r h
  split at h
  ·cases h
  ·simp only[Option.some.injEq,Prod.mk.injEq] at h
   obtain⟨rfl,rfl⟩:=h
   have h1:=Gw fa s
   rw[Gv,List.length_drop]
   simp only[aq.size,aq.size.sizes];omega
 intro d
 induction d with
 |zero=>
  intro s t r h
  cases s with
  |nil=>simp[eu] at h
  |cons c s=>
   simp only[eu] at h
   by_cases h1:c=40
   ·rw[iP h1] at h;cases h
   ·rw[iN h1] at h;exact leaf _ _ _ h
 |succ d ih=>
  intro s t r h
  cases s with
  |nil=>simp[eu] at h
  |cons c s=>
   simp only[eu] at h
   by_cases h1:c=40
   ·rw[iP h1] at h
    cases hp:iL (eu d) (s.length+1) s with
    |none=>simp[hp] at h
    |some q=>
     obtain⟨ts',r''⟩:=q
     simp[hp] at h
     have h3:=Sl ih _ _ _ _ hp
     obtain⟨rfl,rfl⟩:=h
     simp only[aq.size,lC,List.length_nil];omega
   ·rw[iN h1] at h;exact leaf _ _ _ h
theorem MD (h:bB s=some t):s.length<=12000:=by grind [bB]
theorem AF (h:bB s=some t):t.size<=12001:=by
 have hs:=MD h
 unfold bB at h
 split at h
 ·cases h
 ·cases hr:eu 60 s with
  |none=>rw[hr] at h;cases h
  |some q=>
   obtain⟨t',r⟩:=q
   rw[hr] at h
   cases r with
   |nil=>simp at h;subst h;have:=aaO _ _ _ _ hr;simp at this;omega
   |cons c r=>cases h
theorem yL:∀t:aq,t.aw.length<t.size
 | .mk a ps=>by simp only[aq.aw,aq.size];omega
def fl (hidden:Bool):aq->Bool
 | .mk a ps=>if a≠[] then decide (a=[105])||(hidden&&decide (a=[118])) else match ps with
  |[]=>false
  |h::rest=>if h.aw=[101] then oneT rest else if h.aw=[116]∨h.aw=[99] then Ey hidden rest else false
 where
 oneT:List aq->Bool
  |[]=>false
  |[t]=>fl true t
  |_::_::_=>false
 Ey (hidden:Bool):List aq->Bool
  |[]=>true
  |t::ts=>fl hidden t&&Ey hidden ts
theorem ME (hidden:Bool):∀ts,fl.Ey hidden ts=ts.all (fl hidden)
 |[]=>rfl
 |t::ts=>by simp[fl.Ey,ME hidden ts]
def nth (ps:List aq) (i:Nat):aq:=ps.getD i (.mk [] [])
theorem gh (h:i<ps.length):ps[i]?=some (nth ps i):=by grind [nth]
theorem lI (h:i<t.ak.length):(nth t.ak i).size<t.size:=Sj (gh h)
theorem WF.nth (h:WF t) (hi:i<t.ak.length):WF (nth t.ak i):=h.part (gh hi)
theorem WF.pos (h:WF t) (ha:t.aw=[]):0<t.ak.length:=by grind [WF.first]
theorem Sm (h:t.aw≠[]) (hidden:Bool):fl hidden t=(decide (t.aw=[105])||(hidden&&decide (t.aw=[118]))):=by
 cases t with
 |mk a ps=>unfold fl;exact iP h
theorem MF (ha:t.aw=[]) (hp:0<t.ak.length) (he:(nth t.ak 0).aw=[101]) (hidden:Bool):fl hidden t=(decide (t.ak.length=2)&&fl true (nth t.ak 1)):=by
 cases t with
 |mk a ps=>
  simp only[aq.aw] at ha
  subst ha
  cases ps with
  |nil=>simp[aq.ak] at hp
  |cons h rest=>
   have vF:h.aw=[101]:=he
   simp only[fl,vF,aq.ak,ne_eq,not_true_eq_false,if_false,if_true]
   match rest with
   |[]=>simp[fl.oneT]
   |[p]=>simp[fl.oneT,_root_.Go.Proofs.YthbhobaiopccaaaGreatDoor.nth]
   |p::q::r=>simp[fl.oneT]
theorem MG (ha:t.aw=[]) (hp:0<t.ak.length) (he:(nth t.ak 0).aw=[116]∨(nth t.ak 0).aw=[99]) (hidden:Bool):fl hidden t=(t.ak.drop 1).all (fl hidden):=by
 cases t with
 |mk a ps=>
  simp only[aq.aw] at ha
  subst ha
  cases ps with
  |nil=>simp[aq.ak] at hp
  |cons h rest=>
   have vF:h.aw=[116]∨h.aw=[99]:=he
   have dN:h.aw≠[101]:=by rcases vF with h|h<;>rw[h]<;>decide
   simp only[fl,dN,vF,aq.ak,ne_eq,not_true_eq_false,if_false,if_true,ME,List.drop_one,List.tail_cons]
theorem Sn (ha:t.aw=[]) (hp:0<t.ak.length) (h1:(nth t.ak 0).aw≠[101]) (h2:¬((nth t.ak 0).aw=[116]∨(nth t.ak 0).aw=[99])) (hidden:Bool):fl hidden t=false:=by
 cases t with
 |mk a ps=>
  simp only[aq.aw] at ha
  subst ha
  cases ps with
  |nil=>simp[aq.ak] at hp
  |cons h rest=>
   have h1':h.aw≠[101]:=h1
   have h2':¬(h.aw=[116]∨h.aw=[99]):=h2
   simp only[fl,h1',h2',ne_eq,not_true_eq_false,if_false]
theorem So {f:aq->Bool} (hi:i<ps.length):(ps.drop i).all f=(f (nth ps i)&&(ps.drop (i+1)).all f):=by
 rw[List.drop_eq_getElem_cons hi,List.all_cons]
 simp[nth,List.getD,gE hi]
theorem aaR {a y:ai} (h:(decide (a≠x)&&decide (a≠y))=false):a=x∨a=y:=by grind
theorem aaS {a y:ai} (h:(decide (a≠x)&&decide (a≠y))=true):¬(a=x∨a=y):=by grind
def AG (a:ai):Int:=match numeral a with
 |some n=>if 0<=n∧n<=39 then n else -1
 |none=> -1
def vK (a:ai):Bool:=decide (0<=AG a)
def jl (z:Int) (t:aq):Bool:=
 if z=114∨z=42 then vK t.aw else if z=110 then(numeral t.aw).isSome else if z=108 then nW t.aw
 else if z=101 then decide (bX t=[101])&&fl false t else fl false t
theorem Sp {b:Bool} (h:(!b)=false):b=true:=by grind
theorem Sq {b:Bool} (h:(!b)=true):b=false:=by grind
theorem AH {b:Prop} [Decidable a] [Decidable b] (h:a):decide a=(decide a||decide b):=by grind
theorem AI {b:Prop} [Decidable a] [Decidable b] (h:¬a):decide b=(decide a||decide b):=by grind
theorem Sr {b:Prop} [Decidable a] [Decidable b] [Decidable c] (h:a):decide a=(decide a||decide b||decide c):=by grind
theorem Ss {b:Prop} [Decidable a] [Decidable b] [Decidable c] (h:¬a) (h2:b):decide b=(decide a||decide b||decide c):=by grind
theorem St {b:Prop} [Decidable a] [Decidable b] [Decidable c] (h:¬a) (h2:¬b):decide c=(decide a||decide b||decide c):=by grind
theorem AJ {b:Prop} [Decidable a] [Decidable b] (h:(decide a||decide b)=true):a∨b:=by simpa using h
theorem AK {b:Prop} [Decidable a] [Decidable b] (h:(decide a||decide b)=false):¬(a∨b):=by simpa using h
theorem Su {b:Prop} [Decidable a] [Decidable b] [Decidable c] (h:(decide a||decide b||decide c)=true):a∨b∨c:=by grind
theorem Sv {b:Prop} [Decidable a] [Decidable b] [Decidable c] (h:(decide a||decide b||decide c)=false):¬(a∨b∨c):=by grind
def shapeOf (h:ai):ai:=
 if h=[99,111,110,115,116] then[114,110]
 else if h=[109,111,118]∨h=[111,112,101,110] then[114,114]
 else if h=[97,100,100]∨h=[115,117,98]∨h=[109,117,108] then[114,114,114]
 else if h=[110,101,119] then[114,42]
 else if h=[103,101,116] then[114,114,110]
 else if h=[108,97,98]∨h=[122,101,114,111] then[114,108]
 else if h=[112,97,99,107] then[114,114,101,119]
 else if h=[106,117,109,112]∨h=[104,97,108,116] then[114]
 else[]
def MH (h:ai) (i:Nat):Int:=((h.getD (min i h.length-1) 0).toNat:Int)
def sZ (t:aq):Bool:=(decide (shapeOf (bX t)≠[114,42])&&decide (t.ak.length≠(shapeOf (bX t)).length+1))||decide (t.ak.length<2)
def uq (t:aq) (i:Nat):Bool:=jl (MH (shapeOf (bX t)) i) (nth t.ak i)
def l3 (t:aq):Bool:=if shapeOf (bX t)=[] then false else if sZ t then false
 else decide (∀i,i<t.ak.length->1<=i->uq t i=true)&&(decide (bX t≠[103,101,116])||decide (0<=(numeral (nth t.ak 3).aw).getD 0))
theorem aaT (hh:h=[103,101,116]):shapeOf h=[114,114,110]:=by rw[hh];decide
theorem aaU (h:sZ t=false) (hh:bX t=[103,101,116]):t.ak.length=4:=by grind [sZ,aaT]
theorem aaV (h:sZ t=false):2<=t.ak.length:=by grind [sZ]
theorem MI (h:shapeOf (bX t)≠[]):t.aw=[]∧0<t.ak.length∧bX t=(nth t.ak 0).aw:=by
 have dN:bX t≠[]:=λhh=>by rw[hh] at h;exact h de
 by_cases ha:t.aw=[]
 ·rcases Nat.eq_zero_or_pos t.ak.length with hz|hz
  ·exact absurd (GD (.inr (List.length_eq_zero_iff.1 hz))) dN
  ·exact⟨ha,hz,GC ha (gh hz)⟩
 ·exact absurd (GD (.inl ha)) dN
theorem aaW (h:ai):(shapeOf h).length<=4:=by grind [shapeOf]
theorem Sw {n:Nat} (hn:n=t.ak.length):((decide (shapeOf (bX t)≠[114,42])&&decide ((n:Int)≠((shapeOf (bX t)).length:Int)+1))||decide ((n:Int)<2))=sZ t:=by grind [sZ]
theorem Sx (h:shapeOf (bX t)=[]):l3 t=false:=by unfold l3;rw[iP h]
theorem MJ (h:sZ t=true):l3 t=false:=by grind [l3]
theorem aaX (hi:i<t.ak.length) (h1:1<=i) (h:uq t i=false):l3 t=false:=by grind [l3]
theorem aaY (h1:shapeOf (bX t)≠[]) (h2:sZ t=false) (h:∀i,i<t.ak.length->1<=i->uq t i=true):
  l3 t=(decide (bX t≠[103,101,116])||decide (0<=(numeral (nth t.ak 3).aw).getD 0)):=by grind [l3]
theorem aaZ (h:l3 t=true):0<t.ak.length:=by
 unfold l3 at h
 split at h
 ·cases h
 ·rename_i dN;exact(MI dN).2.1
def seen (f:aq->Bool) (s:ai):Bool:=match bB s with
 |some t=>f t
 |none=>false
theorem Jv {f:aq->Bool} (h:∀t',bB s=some t'->t=t'):((bB s).isSome&&f t)=seen f s:=by grind [bB,seen]
def Jw (t:aq):Bool:=l3 t&&(decide ((nth t.ak 0).aw=[106,117,109,112])||decide ((nth t.ak 0).aw=[104,97,108,116]))
abbrev s0 (s:ai):Bool:=seen (fl false) s
abbrev s5 (s:ai):Bool:=seen l3 s
abbrev Ez (s:ai):Bool:=seen Jw s
def nob:Bk:=⟨[],[],[]⟩
abbrev bR (bs:List Bk) (i:Nat):Bk:=bs.getD i nob
theorem kq (h:i<bs.length):bs[i]?=some (bR bs i):=by grind
def lJ (bs:List Bk) (l:ai):Int:=match bs.findIdx? (λb=>decide (b.aJ=l)) with
 |some i=>(i:Int)
 |none=> -1
theorem MK (hk:k<bs.length) (h:∀i,i<k->(bR bs i).aJ≠l) (hl:(bR bs k).aJ=l):lJ bs l=(k:Int):=by
 have:bs.findIdx? (λb=>decide (b.aJ=l))=some k:=by
  rw[List.findIdx?_eq_some_iff_getElem]
  refine⟨hk,by simpa[gE hk] using hl,λj hj=>?_⟩
  have:=h j hj
  simpa[gE (Nat.lt_trans hj hk)] using this
 unfold lJ;rw[this]
theorem aa1 (h:∀i,i<bs.length->(bR bs i).aJ≠l):lJ bs l= -1:=by
 have:bs.findIdx? (λb=>decide (b.aJ=l))=none:=by
  rw[List.findIdx?_eq_none_iff]
  intro b hb
  obtain⟨i,hi,rfl⟩:=List.getElem_of_mem hb
  have:=h i hi
  simpa[gE hi] using this
 unfold lJ;rw[this]
def sq (code:List ai) (i:Nat):Bool:=s5 (bD code i)&&(Ez (bD code i)==decide (i+1=code.length))
def kH (b:Bk):Bool:=nW b.aJ&&decide (b.ck.length<=40)&&(decide (1<=b.code.length)&&decide (b.code.length<=80))&&
 decide (∀i,i<b.ck.length->s0 (bD b.ck i)=true)&&decide (∀i,i<b.code.length->sq b.code i=true)
def eN (bs:List Bk):Bool:=decide (∀i,i<bs.length->kH (bR bs i)=true∧lJ bs (bR bs i).aJ=i)&&
 (decide (1<=bs.length)&&decide (bs.length<=40)&&decide ((bR bs 0).aJ=[109,97,105,110])&&decide ((bR bs 0).ck.length=0))
theorem Sy (h:(nW b.aJ&&decide (b.ck.length<=40)&&(decide (1<=b.code.length)&&decide (b.code.length<=80)))=false):kH b=false:=by
 unfold kH;rw[h];rfl
theorem Sz (hi:i<b.ck.length) (h:s0 (bD b.ck i)=false):kH b=false:=by grind [kH]
theorem SA (hi:i<b.code.length) (h:sq b.code i=false):kH b=false:=by grind [sq,kH]
theorem SB (h:(nW b.aJ&&decide (b.ck.length<=40)&&(decide (1<=b.code.length)&&decide (b.code.length<=80)))=true) (h1:∀i,i<b.ck.length->s0 (bD b.ck i)=true) 
  (h2:∀i,i<b.code.length->sq b.code i=true):kH b=true:=by grind [kH]
theorem SC (hi:i<bs.length) (h:¬(kH (bR bs i)=true∧lJ bs (bR bs i).aJ=i)):eN bs=false:=by
 unfold eN
 rw[dF (p:=∀i:Nat,i<bs.length->kH (bR bs i)=true∧lJ bs (bR bs i).aJ=i) (λhh=>h (hh i hi))]
 rfl
theorem SD (h:∀i,i<bs.length->kH (bR bs i)=true∧lJ bs (bR bs i).aJ=i):
  eN bs=(decide (1<=bs.length)&&decide (bs.length<=40)&&decide ((bR bs 0).aJ=[109,97,105,110])&&decide ((bR bs 0).ck.length=0)):=by grind [eN]
theorem Jx (h1:n1=b.ck.length) (h2:n2=b.code.length):(!nW b.aJ||decide ((40:Int)<n1)||!(decide ((1:Int)<=n2)&&decide ((n2:Int)<=80)))=
  !(nW b.aJ&&decide (b.ck.length<=40)&&(decide (1<=b.code.length)&&decide (b.code.length<=80))):=by grind
theorem ML {code:List ai} {n:Nat} (hn:n=code.length) (hi:i<n):(!s5 (bD code i)||(Ez (bD code i) !=decide ((i:Int)=(n:Int)-1)))=!sq code i:=by grind [sq]
def Bk.small (b:Bk):Prop:=b.aJ.length<1000000000∧b.ck.length<1000000000∧b.code.length<1000000000
def ur (bs:List Bk):Prop:=bs.length<1000000000∧∀i,i<bs.length->(bR bs i).small
theorem aa2 {n:Nat} (hn:n=bs.length) (fu:0<bs.length->n1=(bR bs 0).ck.length):
  ((decide ((1:Int)<=n)&&decide ((n:Int)<=40))&&decide ((bR bs 0).aJ=[109,97,105,110])&&decide ((n1:Int)=0))=(decide (1<=bs.length)&&decide (bs.length<=40)&&decide ((bR bs 0).aJ=[109,97,105,110])&&decide ((bR bs 0).ck.length=0)):=by grind
theorem aa3 (s:ai):Lib.trimPrefix s [45]=eC s:=by
 unfold Lib.trimPrefix Lib.hasPrefix eC
 cases s with
 |nil=>simp
 |cons c r=>
  by_cases h:c=45
  ·subst h;simp
  ·have h2:((45:UInt8)==c)=false:=by simpa using λhe=>h he.symm
   simp[List.isPrefixOf,h2,h]
theorem SE:∀(l:ai) (n:Nat),l.all iv=true->Lib.decFrom n l=some (l.foldl (λn c=>10*n+(c.toNat-48)) n)
 |[],n,_=>rfl
 |c::r,n,h=>by
  simp only[List.all_cons,aE] at h
  have hc:=(CD c).1 h.1
  have hd:Lib.digitVal c=some (c.toNat-48):=by unfold Lib.digitVal;rw[iP hc]
  simp only[Lib.decFrom,hd,List.foldl_cons]
  rw[show n*10+(c.toNat-48)=10*n+(c.toNat-48) from by omega]
  exact SE r _ h.2
theorem aa4 (hl:l≠[]) (h:l.all iv=true):Lib.decNat l=some (val l):=by
 unfold Lib.decNat
 rw[iN (by simpa using hl)]
 exact SE l 0 h
theorem aa5 {z:Int} (h:numeral s=some z):Lib.atoi s=some z:=by
 unfold numeral at h
 by_cases h0:s=[48]
 ·rw[iP h0] at h;subst h0;rw[<-h];decide
 ·rw[iN h0] at h
  by_cases h1:(eC s).length<1∨3<(eC s).length∨(eC s).getD 0 0=48
  ·rw[iP h1] at h;cases h
  ·rw[iN h1] at h
   by_cases h2:(eC s).all iv=true
   ·rw[iP h2] at h
    have dN:eC s≠[]:=λhe=>h1 (.inl (by rw[he];simp))
    have hv:=aa4 dN h2
    cases s with
    |nil=>exact absurd (by unfold eC;simp) dN
    |cons c r=>
     by_cases hc:c=45
     ·subst hc
      have hd:eC (45::r)=r:=by unfold eC;simp
      have hs:rz (45::r)= -1:=by unfold rz;simp
      rw[hd] at hv h
      rw[hs] at h
      simp only[Lib.atoi,hv,beq_self_eq_true,if_true,Option.map_some]
      rw[<-h];simp
     ·have hd:eC (c::r)=c::r:=by unfold eC;simp[hc]
      have hs:rz (c::r)=1:=by unfold rz;simp[hc]
      rw[hd] at hv h h2
      rw[hs] at h
      have SF:=(CD c).1 (by simp only[List.all_cons,aE] at h2;exact h2.1)
      have e1:(c==45)=false:=by simpa using hc
      have e2:(c==43)=false:=by
       have:c≠43:=λhe=>by rw[he] at SF;exact absurd SF.1 de
       simpa using this
      simp only[Lib.atoi,e1,e2,hv,Bool.false_eq_true,if_false,Option.map_some]
      rw[<-h];simp
   ·rw[iN h2] at h;cases h
theorem SG {z:Int} (h:numeral s=some z):s.length<=4:=by grind [numeral,eC]
theorem aa6 (s:ai):(decide (s=[48])||(decide (1<=(eC s).length)&&decide ((eC s).length<=3)&&(eC s).all iv&&decide ((eC s).getD 0 0≠48)))=(numeral s).isSome:=by grind [eC,iv,numeral]
theorem aa7 (s:ai):((numeral s).isSome&&(decide (0<=(numeral s).getD 0)&&decide ((numeral s).getD 0<=39)))=vK s:=by grind [numeral,vK,AG]
theorem aa8 (hk:k<s.length) (h:iv (s.getD k 0)=false):s.all iv=false:=by grind
theorem aa9 (s:ai):(decide (s=[48])||(decide ((1:Int)<=((eC s).length:Int))&&decide (((eC s).length:Int)<=3)&&(eC s).all iv&&decide ((((eC s).getD 0 0).toNat:Int)≠48)))=(numeral s).isSome:=by
 rw[<-aa6,show decide ((1:Int)<=((eC s).length:Int))=decide (1<=(eC s).length) from decide_eq_decide.2 om,show decide (((eC s).length:Int)<=3)=decide ((eC s).length<=3) from decide_eq_decide.2 om,
  show decide ((((eC s).getD 0 0).toNat:Int)≠48)=decide ((eC s).getD 0 0≠48) from decide_eq_decide.2 (by
   have Sg:(48:UInt8).toNat=48:=rfl
   constructor
   ·intro h h2;exact h (by rw[h2];rfl)
   ·intro h h2;exact h (UInt8.toNat_inj.1 om))]
def CF (ts:List aq) (g:aq->Bool):Int:=match ts.findIdx? g with
 |some i=>(i:Int)
 |none=> -1
theorem GF (h:i<ts.length):nth ts i=ts[i]:=by grind [nth]
theorem aba {g:aq->Bool} (hk:k<ts.length) (h:∀i,i<k->g (nth ts i)=false) (hl:g (nth ts k)=true):CF ts g=(k:Int):=by
 have:ts.findIdx? g=some k:=by
  rw[List.findIdx?_eq_some_iff_getElem]
  refine⟨hk,by rw[<-GF hk];exact hl,λj hj=>?_⟩
  have:=h j hj
  rw[GF (Nat.lt_trans hj hk)] at this
  simpa using this
 unfold CF;rw[this]
theorem abb {g:aq->Bool} (h:∀i,i<ts.length->g (nth ts i)=false):CF ts g= -1:=by grind [GF,CF,List.findIdx?_eq_none_iff,List.getElem_of_mem]
theorem abc (ts:List aq) (g:aq->Bool):decide (0<=CF ts g)=ts.any g:=by grind [CF]
def gI (h:ai) (n:Nat):ai:=
 if h=[99,111,110,115,116] then[100,110]
 else if h=[109,111,118]∨h=[111,112,101,110] then[100,115]
 else if h=[97,100,100]∨h=[115,117,98]∨h=[109,117,108] then[100,115,115]
 else if h=[110,101,119] then[100]++List.replicate (n-2) 115
 else if h=[103,101,116] then[100,115,109]
 else if h=[108,97,98] then[100,108]
 else if h=[112,97,99,107] then[100,115,69,87]
 else if h=[122,101,114,111] then[115,108]
 else if h=[106,117,109,112]∨h=[104,97,108,116] then[115]
 else[]
def gP (z:Int) (t:aq):Bool:=
 if z=100∨z=115 then vK t.aw else if z=110 then(numeral t.aw).isSome
 else if z=109 then(numeral t.aw).isSome&&decide (0<=(numeral t.aw).getD 0)
 else if z=108 then nW t.aw else if z=69 then(decide (t.ak.length=2)&&decide (bX t=[101]))&&fl false t
 else if z=87 then fl false t else false
def oD (t:aq):Bool:=
 if gI (bX t) t.ak.length=[]∨t.ak.length≠(gI (bX t) t.ak.length).length+1 then false
 else decide (∀i,i<(gI (bX t) t.ak.length).length->gP (((gI (bX t) t.ak.length).getD i 0).toNat:Int) (nth t.ak (i+1))=true)
theorem Jy (h:gI (bX t) t.ak.length=[]∨t.ak.length≠(gI (bX t) t.ak.length).length+1):oD t=false:=by
 unfold oD;rw[iP h]
theorem abd (hi:i<(gI (bX t) t.ak.length).length) (h:gP (((gI (bX t) t.ak.length).getD i 0).toNat:Int) (nth t.ak (i+1))=false):oD t=false:=by grind [oD]
theorem abe (h:¬(gI (bX t) t.ak.length=[]∨t.ak.length≠(gI (bX t) t.ak.length).length+1)) 
  (ha:∀i,i<(gI (bX t) t.ak.length).length->gP (((gI (bX t) t.ak.length).getD i 0).toNat:Int) (nth t.ak (i+1))=true):oD t=true:=by grind [oD]
theorem shift {n:Nat} {P Q:Nat->Prop} (h:∀i,i<n->(P i↔Q (i+1))):(∀i,i<n->P i)↔(∀i,i<n+1->1<=i->Q i):=by
 constructor
 ·intro hp i hi h1
  have:=(h (i-1) om).1 (hp (i-1) om)
  rwa [show i-1+1=i from by omega] at this
 ·intro hq i hi
  exact(h i hi).2 (hq (i+1) om om)
theorem AL (σ τ:ai) (ex:Nat->aq->Bool) (h1:gI (bX t) t.ak.length=σ) (h2:shapeOf (bX t)=τ) (hl:σ.length=τ.length) (dN:τ≠[]) (abf:τ≠[114,42]) 
  (hp:∀i u,i<τ.length->gP ((σ.getD i 0).toNat:Int) u=(jl ((τ.getD i 0).toNat:Int) u&&ex i u))
  (hx:t.ak.length=τ.length+1->(decide (bX t≠[103,101,116])||decide (0<=(numeral (nth t.ak 3).aw).getD 0))=decide (∀i,i<τ.length->ex i (nth t.ak (i+1))=true)):oD t=l3 t:=by
 have hτ:1<=τ.length:=List.length_pos_iff.2 dN
 have hσ:σ≠[]:=λh=>by rw[h] at hl;simp at hl;omega
 by_cases hn:t.ak.length=τ.length+1
 ·unfold oD l3 sZ
  rw[h1,h2,iN (by rw[hl];rintro(h|h);exact hσ h;exact h hn),iN dN,hx hn]
  rw[iN (by rw[dF (p:=t.ak.length≠τ.length+1) om,dF (p:=t.ak.length<2) om];simp),<-Bool.decide_and,decide_eq_decide,hl,hn]
  rw[<-shift (P:=λi=>jl ((τ.getD i 0).toNat:Int) (nth t.ak (i+1))=true) (λi hi=>by
   unfold uq MH
   rw[h2,show min (i+1) τ.length-1=i from by omega])]
  constructor
  ·intro h
   refine⟨λi hi=>?_,λi hi=>?_⟩<;>
   ·have:=h i hi
    rw[hp i _ hi,aE] at this
    first|exact this.1|exact this.2
  ·rintro⟨ha,hb⟩ i hi
   rw[hp i _ hi,ha i hi,hb i hi];rfl
 ·rw[Jy (.inr (by rw[h1,hl];exact hn)),MJ]
  unfold sZ
  rw[h2,dT abf,dT hn];rfl
theorem abg (n:Nat) (u:Nat->aq):decide (∀i,i<n->(fun(_:Nat) (_:aq)=>true) i (u i)=true)=true:=by grind
theorem abh (u:aq):((decide (u.ak.length=2)&&decide (bX u=[101]))&&fl false u)=(decide (bX u=[101])&&fl false u):=by grind [GD,cZ.length,GC,gh,MF]
theorem abi {n:Nat} {P:Nat->Prop} (h:n<=4) (h0:P 0) (h1:2<=n->P 1) (h2:3<=n->P 2) (h3:4<=n->P 3):∀i,i<n->P i:=by grind
theorem AM {σ τ:ai} {ex:Nat->aq->Bool} (hl:τ.length<=4) (h0:∀u,gP ((σ.getD 0 0).toNat:Int) u=(jl ((τ.getD 0 0).toNat:Int) u&&ex 0 u)) (h1:∀u,2<=τ.length->gP ((σ.getD 1 0).toNat:Int) u=(jl ((τ.getD 1 0).toNat:Int) u&&ex 1 u)) 
  (h2:∀u,3<=τ.length->gP ((σ.getD 2 0).toNat:Int) u=(jl ((τ.getD 2 0).toNat:Int) u&&ex 2 u)) (h3:∀u,4<=τ.length->gP ((σ.getD 3 0).toNat:Int) u=(jl ((τ.getD 3 0).toNat:Int) u&&ex 3 u)):
  ∀i u,i<τ.length->gP ((σ.getD i 0).toNat:Int) u=(jl ((τ.getD i 0).toNat:Int) u&&ex i u):=by grind
theorem SH (u:aq):gP 100 u=vK u.aw:=by simp[gP]
theorem SI (u:aq):gP 115 u=vK u.aw:=by simp[gP]
theorem abj (u:aq):gP 110 u=(numeral u.aw).isSome:=by simp[gP]
theorem abk (u:aq):gP 109 u=((numeral u.aw).isSome&&decide (0<=(numeral u.aw).getD 0)):=by simp[gP]
theorem abl (u:aq):gP 108 u=nW u.aw:=by simp[gP]
theorem abm (u:aq):gP 69 u=((decide (u.ak.length=2)&&decide (bX u=[101]))&&fl false u):=by simp[gP]
theorem abn (u:aq):gP 87 u=fl false u:=by simp[gP]
theorem MM (u:aq):jl 114 u=vK u.aw:=by simp[jl]
theorem abo (u:aq):jl 42 u=vK u.aw:=by simp[jl]
theorem SJ (u:aq):jl 110 u=(numeral u.aw).isSome:=by simp[jl]
theorem abp (u:aq):jl 108 u=nW u.aw:=by simp[jl]
theorem abq (u:aq):jl 101 u=(decide (bX u=[101])&&fl false u):=by simp[jl]
theorem abr (u:aq):jl 119 u=fl false u:=by simp[jl]
theorem EA (u:aq):gP 100 u=(jl 114 u&&true):=by rw[SH,MM,Bool.and_true]
theorem CG (u:aq):gP 115 u=(jl 114 u&&true):=by rw[SI,MM,Bool.and_true]
theorem abt (u:aq):gP 110 u=(jl 110 u&&true):=by rw[abj,SJ,Bool.and_true]
theorem abu (u:aq):gP 109 u=(jl 110 u&&decide (0<=(numeral u.aw).getD 0)):=by rw[abk,SJ]
theorem SK (u:aq):gP 108 u=(jl 108 u&&true):=by rw[abl,abp,Bool.and_true]
theorem abv (u:aq):gP 69 u=(jl 101 u&&true):=by rw[abm,abq,Bool.and_true,abh]
theorem abw (u:aq):gP 87 u=(jl 119 u&&true):=by rw[abn,abr,Bool.and_true]
theorem abx (h:bX t=[110,101,119]):oD t=l3 t:=by
 have h1:gI (bX t) t.ak.length=[100]++List.replicate (t.ak.length-2) 115:=by rw[h];rfl
 have h2:shapeOf (bX t)=[114,42]:=by rw[h];rfl
 have hl:(gI (bX t) t.ak.length).length=t.ak.length-2+1:=by rw[h1];simp
 by_cases hn:2<=t.ak.length
 ·unfold oD l3 sZ
  rw[iN (by rw[hl];rintro(hh|hh);(·rw[h1] at hh;simp at hh);(·omega)),h2,iN de,
   iN (by rw[dF (p:=t.ak.length<2) om];simp),dT (p:=bX t≠[103,101,116]) (by rw[h];decide),Bool.true_or,Bool.and_true,decide_eq_decide,hl]
  rw[show(∀i,i<t.ak.length->1<=i->uq t i=true)↔(∀i,i<(t.ak.length-2+1)+1->1<=i->uq t i=true) from by rw[show t.ak.length-2+1+1=t.ak.length from by omega]]
  refine shift λi hi=>?_
  have e1:gP (((gI (bX t) t.ak.length).getD i 0).toNat:Int) (nth t.ak (i+1))=vK (nth t.ak (i+1)).aw:=by
   rw[h1]
   cases i with
   |zero=>exact SH _
   |succ i=>
    have:([100]++List.replicate (t.ak.length-2) (115:UInt8)).getD (i+1) 0=115:=by
     simp[List.getD,show i<t.ak.length-2 from by omega]
    rw[this];exact SI _
  have e2:uq t (i+1)=vK (nth t.ak (i+1)).aw:=by
   unfold uq MH
   rw[h2]
   cases i with
   |zero=>exact MM _
   |succ i=>rw[show min (i+1+1) ([114,42]:ai).length-1=1 from by simp];exact abo _
  rw[e1,e2]
 ·rw[Jy (.inr (by rw[hl];omega)),MJ]
  unfold sZ;rw[dT (p:=t.ak.length<2) om,Bool.or_true]
theorem SL (t:aq):oD t=l3 t:=by
 have nog:∀{τ:ai},bX t≠[103,101,116]->(t.ak.length=τ.length+1->(decide (bX t≠[103,101,116])||decide (0<=(numeral (nth t.ak 3).aw).getD 0))=decide (∀i,i<τ.length->(fun(_:Nat) (_:aq)=>true) i (nth t.ak (i+1))=true)):=by
  intro τ h _;rw[abg _ (λi=>nth t.ak (i+1)),dT h];rfl
 by_cases c1:bX t=[99,111,110,115,116]
 ·exact AL [100,110] [114,110] (λ_ _=>true) (by rw[c1];rfl) (by rw[c1];rfl) rfl de de
   (AM de (λu=>EA u) (λu _=>abt u) (λ_ h=>absurd h de) (λ_ h=>absurd h de)) (nog (by rw[c1];decide))
 by_cases c2:bX t=[109,111,118]∨bX t=[111,112,101,110]
 ·exact AL [100,115] [114,114] (λ_ _=>true) (by rcases c2 with c|c<;>rw[c]<;>rfl) (by rcases c2 with c|c<;>rw[c]<;>rfl) rfl de de
   (AM de (λu=>EA u) (λu _=>CG u) (λ_ h=>absurd h de) (λ_ h=>absurd h de)) (nog (by rcases c2 with c|c<;>rw[c]<;>decide))
 by_cases c3:bX t=[97,100,100]∨bX t=[115,117,98]∨bX t=[109,117,108]
 ·exact AL [100,115,115] [114,114,114] (λ_ _=>true) (by rcases c3 with c|c|c<;>rw[c]<;>rfl) (by rcases c3 with c|c|c<;>rw[c]<;>rfl) rfl de de
   (AM de (λu=>EA u) (λu _=>CG u) (λu _=>CG u) (λ_ h=>absurd h de)) (nog (by rcases c3 with c|c|c<;>rw[c]<;>decide))
 by_cases c4:bX t=[110,101,119]
 ·exact abx c4
 by_cases c5:bX t=[103,101,116]
 ·refine AL [100,115,109] [114,114,110] (λi u=>if i=2 then decide (0<=(numeral u.aw).getD 0) else true) (by rw[c5];rfl) (by rw[c5];rfl) rfl de de
   (AM de (λu=>EA u) (λu _=>CG u) (λu _=>abu u) (λ_ h=>absurd h de)) (λ_=>?_)
  rw[show decide (bX t≠[103,101,116])=false from dF (λh=>h c5),Bool.false_or]
  refine decide_eq_decide.2 ⟨λh=>abi de rfl (λ_=>rfl) (λ_=>by simpa using h) (λh=>by simp at h),λh=>by simpa using h 2 de⟩
 by_cases c6:bX t=[108,97,98]
 ·exact AL [100,108] [114,108] (λ_ _=>true) (by rw[c6];rfl) (by rw[c6];rfl) rfl de de
   (AM de (λu=>EA u) (λu _=>SK u) (λ_ h=>absurd h de) (λ_ h=>absurd h de)) (nog (by rw[c6];decide))
 by_cases c7:bX t=[112,97,99,107]
 ·exact AL [100,115,69,87] [114,114,101,119] (λ_ _=>true) (by rw[c7];rfl) (by rw[c7];rfl) rfl de de
   (AM de (λu=>EA u) (λu _=>CG u) (λu _=>abv u) (λu _=>abw u)) (nog (by rw[c7];decide))
 by_cases c8:bX t=[122,101,114,111]
 ·exact AL [115,108] [114,108] (λ_ _=>true) (by rw[c8];rfl) (by rw[c8];rfl) rfl de de
   (AM de (λu=>CG u) (λu _=>SK u) (λ_ h=>absurd h de) (λ_ h=>absurd h de)) (nog (by rw[c8];decide))
 by_cases c9:bX t=[106,117,109,112]∨bX t=[104,97,108,116]
 ·exact AL [115] [114] (λ_ _=>true) (by rcases c9 with c|c<;>rw[c]<;>rfl) (by rcases c9 with c|c<;>rw[c]<;>rfl) rfl de de
   (AM de (λu=>CG u) (λ_ h=>absurd h de) (λ_ h=>absurd h de) (λ_ h=>absurd h de)) (nog (by rcases c9 with c|c<;>rw[c]<;>decide))
 ·have e1:gI (bX t) t.ak.length=[]:=by unfold gI;rw[iN c1,iN c2,iN c3,iN c4,iN c5,iN c6,iN c7,iN c8,iN c9]
  have e2:shapeOf (bX t)=[]:=by unfold shapeOf;rw[iN c1,iN c2,iN c3,iN c4,iN c5,iN (λh=>by rcases h with h|h;exact c6 h;exact c8 h),iN c7,iN c9]
  rw[Jy (.inl e1),Sx e2]
theorem aby (h:ai) (n:Nat):(gI h n).length<=n+4:=by grind [gI]
theorem MN (h:WF t):2<=t.size:=by
 cases h with
 |aw a ha=>have:=List.length_pos_iff.2 ha;simp only[aq.size];omega
 |list ps hp hw=>
  cases ps with
  |nil=>exact absurd rfl hp
  |cons q r=>cases q;simp only[aq.size,aq.size.sizes];omega
theorem SM:∀{ps:List aq},(∀p,p∈ps->WF p)->2*ps.length<=aq.size.sizes ps
 |[],_=>by simp[aq.size.sizes]
 |q::ps,h=>by
  have h1:=MN (h q sm)
  have h2:=SM (ps:=ps) (λp hp=>h p (by simp[hp]))
  simp only[aq.size.sizes,lC];omega
theorem abz (h:WF t):2*t.ak.length+1<=t.size:=by cases h<;>grind [aq.ak,aq.size,SM]
def GG (t:aq):Bool:=decide (bX t=[106,117,109,112])||decide (bX t=[104,97,108,116])
theorem SN (h:l3 t=true):bX t=(nth t.ak 0).aw:=by grind [l3,bX,nth,aq.ak,MI]
theorem abA (h:l3 t=true):Jw t=GG t:=by
 unfold Jw GG;rw[h,SN h];rfl
inductive Good:aq->Prop
 |aw (a:ai) (h:a≠[]) (hb:a.all fa=true):Good (.mk a [])
 |list (ps:List aq) (h:ps≠[]) (hp:∀p,p∈ps->Good p):Good (.mk [] ps)
theorem Good.wf (h:Good t):WF t:=by
 induction h with
 |aw a h _=>exact .aw a h
 |list ps h _ ih=>exact .list ps h ih
def aq.depth:aq->Nat
 | .mk _ ps=>deeps ps
 where deeps:List aq->Nat
 |[]=>0
 |t::ts=>max (t.depth+1) (deeps ts)
theorem abB:∀{p:aq},p∈ps->p.depth+1<=aq.depth.deeps ps:=by
 induction ps with
 |nil=>intro p h;simp at h
 |cons q ps ih=>
  intro p h
  rcases mC.1 h with rfl|h
  ·simp only[aq.depth.deeps];omega
  ·have:=ih h;simp only[aq.depth.deeps];omega
theorem MO:∀{ps:List aq},(∀p,p∈ps->p.depth+1<=d)->aq.depth.deeps ps<=d
 |[],_=>by simp[aq.depth.deeps]
 |q::ps,h=>by
  have h1:=h q sm
  have h2:=MO (ps:=ps) (λp hp=>h p (by simp[hp]))
  simp only[aq.depth.deeps];omega
theorem rB {a:ai} (h:a≠[]):(aq.mk a ps).text=a:=by simp[aq.text,h]
theorem s8 (ps:List aq):(aq.mk [] ps).text=40::(lD ps++[41]):=by simp[aq.text]
theorem rC (t:aq):lD [t]=t.text:=by simp[lD]
theorem rD (t u:aq) (r:List aq):lD (t::u::r)=t.text++32::lD (u::r):=by simp[lD]
theorem SO {rd:ai->Option (aq×ai)} (eQ:∀s t r,rd s=some (t,r)->s=t.text++r):∀n s ts r,iL rd n s=some (ts,r)->ts≠[]∧s=lD ts++41::r
 |0,_,_,_,h=>by simp[iL] at h
 |n+1,s,ts,r,h=>by
  unfold iL at h
  cases hr:rd s with
  |none=>simp[hr] at h
  |some q=>
   obtain⟨t,r1⟩:=q
   have ht:=eQ s t r1 hr
   simp only[hr] at h
   cases r1 with
   |nil=>simp at h
   |cons c r'=>
    simp only at h
    by_cases h1:c=41
    ·rw[iP h1] at h
     simp at h
     obtain⟨rfl,rfl⟩:=h
     exact⟨by simp,by rw[ht,h1,rC]⟩
    ·rw[iN h1] at h
     by_cases h2:c=32
     ·rw[iP h2] at h
      cases hp:iL rd n r' with
      |none=>simp[hp] at h
      |some q=>
       obtain⟨ts',r''⟩:=q
       simp[hp] at h
       obtain⟨rfl,rfl⟩:=h
       obtain⟨h4,h5⟩:=SO eQ n r' ts' r'' hp
       cases ts' with
       |nil=>exact absurd rfl h4
       |cons u us=>exact⟨by simp,by rw[ht,h2,rD,h5];simp⟩
     ·rw[iN h2] at h;cases h
theorem abC:∀d s t r,eu d s=some (t,r)->s=t.text++r:=by
 have leaf:∀(s:ai) (t:aq) (r:ai),(if s.takeWhile fa=[] then none else some (aq.mk (s.takeWhile fa) [],s.dropWhile fa))=some (t,r)->s=t.text++r:=by
  intro s t r h
  split at h
  ·cases h
  ·rename_i hn
   simp only[Option.some.injEq,Prod.mk.injEq] at h
   rw[<-h.1,<-h.2,rB hn,List.takeWhile_append_dropWhile]
 intro d
 induction d with
 |zero=>
  intro s t r h
  cases s with
  |nil=>simp[eu] at h
  |cons c s=>
   simp only[eu] at h
   by_cases h1:c=40
   ·rw[iP h1] at h;cases h
   ·rw[iN h1] at h;exact leaf _ _ _ h
 |succ d ih=>
  intro s t r h
  cases s with
  |nil=>simp[eu] at h
  |cons c s=>
   simp only[eu] at h
   by_cases h1:c=40
   ·rw[iP h1] at h
    cases hp:iL (eu d) (s.length+1) s with
    |none=>simp[hp] at h
    |some q=>
     obtain⟨ts',r''⟩:=q
     simp[hp] at h
     obtain⟨h3,h4⟩:=SO ih _ _ _ _ hp
     rw[<-h.1,<-h.2,s8,h1,h4];simp
   ·rw[iN h1] at h;exact leaf _ _ _ h
theorem SP {rd:ai->Option (aq×ai)} (d:Nat) (eQ:∀s t r,rd s=some (t,r)->Good t∧t.depth<=d):∀n s ts r,iL rd n s=some (ts,r)->ts≠[]∧∀p,p∈ts->Good p∧p.depth<=d
 |0,_,_,_,h=>by simp[iL] at h
 |n+1,s,ts,r,h=>by
  unfold iL at h
  cases hr:rd s with
  |none=>simp[hr] at h
  |some q=>
   obtain⟨t,r1⟩:=q
   have ht:=eQ s t r1 hr
   simp only[hr] at h
   cases r1 with
   |nil=>simp at h
   |cons c r'=>
    simp only at h
    by_cases h1:c=41
    ·rw[iP h1] at h
     simp at h
     obtain⟨rfl,_⟩:=h
     exact⟨by simp,by intro p hp;simp at hp;subst hp;exact ht⟩
    ·rw[iN h1] at h
     by_cases h2:c=32
     ·rw[iP h2] at h
      cases hp:iL rd n r' with
      |none=>simp[hp] at h
      |some q=>
       obtain⟨ts',r''⟩:=q
       simp[hp] at h
       obtain⟨rfl,_⟩:=h
       obtain⟨_,h4⟩:=SP d eQ n r' ts' r'' hp
       exact⟨by simp,by intro p hp;rcases mC.1 hp with rfl|hp;exact ht;exact h4 p hp⟩
     ·rw[iN h2] at h;cases h
theorem all_takeWhile (p:UInt8->Bool):∀s:ai,(s.takeWhile p).all p=true:=by simp_all
theorem abD:∀d s t r,eu d s=some (t,r)->Good t∧t.depth<=d:=by
 have leaf:∀(d:Nat) (s:ai) (t:aq) (r:ai),(if s.takeWhile fa=[] then none else some (aq.mk (s.takeWhile fa) [],s.dropWhile fa))=some (t,r)->Good t∧t.depth<=d:=by
  intro d s t r h
  split at h
  ·cases h
  ·rename_i hn
   simp only[Option.some.injEq,Prod.mk.injEq] at h
   rw[<-h.1];exact⟨.aw _ hn (all_takeWhile _ _),by simp[aq.depth,aq.depth.deeps]⟩
 intro d
 induction d with
 |zero=>
  intro s t r h
  cases s with
  |nil=>simp[eu] at h
  |cons c s=>
   simp only[eu] at h
   by_cases h1:c=40
   ·rw[iP h1] at h;cases h
   ·rw[iN h1] at h;exact leaf _ _ _ _ h
 |succ d ih=>
  intro s t r h
  cases s with
  |nil=>simp[eu] at h
  |cons c s=>
   simp only[eu] at h
   by_cases h1:c=40
   ·rw[iP h1] at h
    cases hp:iL (eu d) (s.length+1) s with
    |none=>simp[hp] at h
    |some q=>
     obtain⟨ts',r''⟩:=q
     simp[hp] at h
     obtain⟨h3,h4⟩:=SP d ih _ _ _ _ hp
     rw[<-h.1]
     exact⟨.list _ h3 (λp hp=>(h4 p hp).1),MO (λp hp=>by have:=(h4 p hp).2;omega)⟩
   ·rw[iN h1] at h;exact leaf _ _ _ _ h
def Stop (r:ai):Prop:=∀c,r[0]?=some c->fa c=false
theorem MP {p:UInt8->Bool}:∀{a r:ai},a.all p=true->(∀c,r[0]?=some c->p c=false)->(a++r).takeWhile p=a∧(a++r).dropWhile p=r
 |[],[],_,_=>⟨rfl,rfl⟩
 |[],c::r,_,h=>by have:=h c rfl;simp[this]
 |c::a,r,ha,h=>by
  simp only[List.all_cons,aE] at ha
  obtain⟨h1,h2⟩:=MP (a:=a) ha.2 h
  simp[ha.1,h1,h2]
theorem SQ (h:Good t):∃c r,t.text=c::r:=by
 cases h with
 |aw a ha _=>
  rw[rB ha]
  cases a with
  |nil=>exact absurd rfl ha
  |cons c r=>exact⟨c,r,rfl⟩
 |list ps _ _=>exact⟨_,_,s8 ps⟩
theorem SR {rd:ai->Option (aq×ai)}:∀(ts:List aq) (n:Nat) (r:ai),ts≠[]->ts.length<=n->(∀t,t∈ts->∀r,Stop r->rd (t.text++r)=some (t,r))->iL rd n (lD ts++41::r)=some (ts,r)
 |[],_,_,h,_,_=>absurd rfl h
 |[t],n,r,_,hn,h=>by
  cases n with
  |zero=>simp at hn
  |succ n=>
   unfold iL
   rw[rC,h t sm (41::r) (by intro c hc;simp at hc;subst hc;decide)]
   simp
 |t::u::us,n,r,_,hn,h=>by
  cases n with
  |zero=>simp at hn
  |succ n=>
   unfold iL
   rw[rD,List.append_assoc,List.cons_append,h t sm (32::(lD (u::us)++41::r)) (by intro c hc;simp at hc;subst hc;decide)]
   have:=SR (rd:=rd) (u::us) n r sm (by simp at hn⊢;omega) (λt ht=>h t (by simp at ht⊢;exact .inr ht))
   simp[this]
theorem SS:∀ts:List aq,(∀t,t∈ts->Good t)->ts.length<=(lD ts).length
 |[],_=>by simp
 |[t],h=>by obtain⟨c,r,e⟩:=SQ (h t sm);rw[rC,e];simp
 |t::u::us,h=>by
  have:=SS (u::us) (λt ht=>h t (by simp at ht⊢;exact .inr ht))
  rw[rD];simp at this⊢;omega
theorem MQ:∀(d:Nat) (t:aq) (r:ai),Good t->t.depth<=d->Stop r->eu d (t.text++r)=some (t,r):=by
 intro d
 induction d with
 |zero=>
  intro t r hg hd hr
  cases hg with
  |aw a ha hb=>
   obtain⟨c,a',rfl⟩:∃c a',a=c::a':=by cases a with|nil=>exact absurd rfl ha|cons c r=>exact⟨c,r,rfl⟩
   rw[rB ha,List.cons_append,Gy 0 c _ (by rintro rfl;simp at hb;exact absurd hb.1 de)]
   obtain⟨h1,h2⟩:=MP hb hr
   rw[List.cons_append] at h1 h2
   rw[h1,h2,iN sm]
  |list ps hp hw=>
   cases ps with
   |nil=>exact absurd rfl hp
   |cons q ps=>simp[aq.depth,aq.depth.deeps] at hd
 |succ d ih=>
  intro t r hg hd hr
  cases hg with
  |aw a ha hb=>
   obtain⟨c,a',rfl⟩:∃c a',a=c::a':=by cases a with|nil=>exact absurd rfl ha|cons c r=>exact⟨c,r,rfl⟩
   rw[rB ha,List.cons_append,Gy (d+1) c _ (by rintro rfl;simp at hb;exact absurd hb.1 de)]
   obtain⟨h1,h2⟩:=MP hb hr
   rw[List.cons_append] at h1 h2
   rw[h1,h2,iN sm]
  |list ps hp hw=>
   rw[s8,List.cons_append,Eu]
   have:=SR (rd:=eu d) ps ((lD ps++[41]++r).length+1) r hp (by have:=SS ps hw;simp at this⊢;omega)
    (λt ht r hr=>ih t r (hw t ht) (by have:=abB ht;simp only[aq.depth] at hd;omega) hr)
   unfold mU
   rw[show rT (d+1)=eu d from funext λ_=>rfl]
   rw[show lD ps++[41]++r=lD ps++41::r from by simp] at this⊢
   rw[this];rfl
theorem MR {u:aq} (h:Good t) (k:Good u) (e:t.text=u.text):t=u:=by
 have h1:=MQ (max t.depth u.depth) t [] h om (by intro c hc;simp at hc)
 have h2:=MQ (max t.depth u.depth) u [] k om (by intro c hc;simp at hc)
 rw[e,h2] at h1
 simp at h1;exact h1.symm
theorem uw (h:bB s=some t):Good t∧t.depth<=60∧t.text=s∧s.length<=12000:=by
 have hs:=MD h
 unfold bB at h
 split at h
 ·cases h
 ·cases hr:eu 60 s with
  |none=>rw[hr] at h;cases h
  |some q=>
   obtain⟨t',r⟩:=q
   rw[hr] at h
   cases r with
   |nil=>
    simp at h;subst h
    have h1:=abD _ _ _ _ hr
    have h2:=abC _ _ _ _ hr
    exact⟨h1.1,h1.2,by rw[h2];simp,hs⟩
   |cons c r=>cases h
theorem abE (h:Good t):bB t.text=if t.depth<=60∧t.text.length<=12000 then some t else none:=by
 split
 ·rename_i hc
  unfold bB
  have:=MQ 60 t [] h hc.1 (by intro c hc;simp at hc)
  rw[List.append_nil] at this
  rw[iN om,this]
 ·rename_i hc
  cases hp:bB t.text with
  |none=>rfl
  |some u=>
   obtain⟨h1,h2,h3,h4⟩:=uw hp
   have:=MR h1 h h3
   subst this
   exact absurd ⟨h2,h4⟩ hc
theorem MS (h:Good t) (hd:t.depth<=60) (hl:t.text.length<=12000):bB t.text=some t:=by grind [abE]
def aq.len:aq->Nat
 | .mk a ps=>if ps=[] then a.length else 1+lens ps
 where lens:List aq->Nat
 |[]=>0
 |t::ts=>t.len+1+lens ts
theorem SU:∀ps:List aq,ps≠[]->(∀p,p∈ps->p.len=p.text.length)->aq.len.lens ps=(lD ps).length+1
 |[],h,_=>absurd rfl h
 |[t],_,h=>by rw[rC];simp only[aq.len.lens,h t sm]
 |t::u::us,_,h=>by
  have:=SU (u::us) sm (λp hp=>h p (by simp at hp⊢;exact .inr hp))
  rw[rD]
  simp only[aq.len.lens,h t sm,lA,lC] at this⊢
  omega
theorem MT (h:WF t):t.len=t.text.length:=by
 induction h with
 |aw a ha=>rw[rB ha];simp[aq.len]
 |list ps hp _ ih=>
  rw[s8]
  simp only[aq.len,hp,if_false,SU ps hp ih,lC,lA,List.length_nil]
  omega
structure cI where
 aJ:ai
 regs:List aq
 code:List aq
def tr (s:ai):aq:=(bB s).getD (.mk [] [])
theorem GH (h:bB s=some t):tr s=t:=by unfold tr;rw[h];rfl
def cP (b:Bk):cI:=⟨b.aJ,b.ck.map tr,b.code.map tr⟩
def CH (b:Bk):Bool:=decide (b.aJ.length<=12000)
def oF (b:Bk):Bool:=kH b&&CH b
def lg (bs:List Bk):Bool:=eN bs&&bs.all CH
def bM (a:ai):aq:=.mk a []
def xp (h:ai) (ts:List aq):aq:=.mk [] (bM h::ts)
def qK (ps:List ai):ai:=ps.flatMap λp=>32::p
def dW (h:ai) (ps:List ai):ai:=40::(h++qK ps++[41])
theorem SV (t:aq):∀ts:List aq,lD (t::ts)=t.text++qK (ts.map aq.text)
 |[]=>by rw[rC];simp[qK]
 |u::us=>by rw[rD,SV u us];simp[qK]
theorem SW (hh:h≠[]) (ts:List aq):(xp h ts).text=dW h (ts.map aq.text):=by
 unfold xp dW
 rw[s8,SV];simp[bM,rB hh]
theorem abF (h1:h≠[]) (h2:h.all fa=true) (hp:∀t,t∈ts->Good t):Good (xp h ts):=by
 refine .list _ sm λp sr=>?_
 rcases mC.1 sr with rfl|sr
 ·exact .aw _ h1 h2
 ·exact hp p sr
theorem GI (h:kH b=true):nW b.aJ=true∧(∀s,s∈b.ck->∃t,bB s=some t∧fl false t=true)∧∀s,s∈b.code->∃t,bB s=some t∧l3 t=true:=by
 unfold kH at h
 simp only[aE,dE] at h
 obtain⟨⟨⟨⟨h1,_⟩,_⟩,h2⟩,h3⟩:=h
 refine⟨h1,λs hs=>?_,λs hs=>?_⟩
 ·obtain⟨i,hi,rfl⟩:=List.getElem_of_mem hs
  have:=h2 i hi
  rw[bD,gG,gE hi] at this
  simp only[Option.getD_some] at this
  unfold s0 seen at this
  cases hp:bB b.ck[i] with
  |none=>rw[hp] at this;cases this
  |some t=>rw[hp] at this;exact⟨t,rfl,this⟩
 ·obtain⟨i,hi,rfl⟩:=List.getElem_of_mem hs
  have:=h3 i hi
  unfold sq at this
  rw[aE] at this
  have:=this.1
  rw[bD,gG,gE hi] at this
  simp only[Option.getD_some] at this
  unfold s5 seen at this
  cases hp:bB b.code[i] with
  |none=>rw[hp] at this;cases this
  |some t=>rw[hp] at this;exact⟨t,rfl,this⟩
theorem AN (h:eN bs=true):∀b,b∈bs->kH b=true:=by grind [eN,List.getElem_of_mem,gE]
def Jz (t:aq):Bool:=decide (t.depth<=60)&&decide (t.len<=12000)
def SX:List aq->ai
 |[]=>[]
 |h::_=>h.aw
mutual
def GJ (y:aq):aq->aq
 | .mk a ps=>if a=[118] then y else if a≠[]∨SX ps=[101] then .mk a ps else .mk [] (SY y ps)
def SY (y:aq):List aq->List aq
 |[]=>[]
 |t::ts=>GJ y t::SY y ts
end
/-! ### States -/
abbrev TS:=List (Option aq)
def abG (a:ai):Nat:=(AG a).toNat
def abH (st:TS) (a:ai):Option aq:=st.getD (abG a) none
def aU (n:Nat):ai:=if n<10 then[UInt8.ofNat (48+n)] else aU (n/10)++[UInt8.ofNat (48+n%10)]
 termination_by n
def Ey (st:TS):List aq->Option (List aq)
 |[]=>some []
 |u::us=>(abH st u.aw).bind λx=>(Ey st us).map λxs=>x::xs
theorem abI (h:Lib.hasPrefix s [40]=true):∃r,s=40::r:=by
 cases s with
 |nil=>simp[Lib.hasPrefix,List.isPrefixOf] at h
 |cons c r=>simp[Lib.hasPrefix,List.isPrefixOf] at h;exact⟨r,by rw[h]⟩
theorem abJ (h:Lib.hasPrefix s [40]=false):∀c r,s=c::r->c≠40:=by
 rintro c r rfl rfl
 simp[Lib.hasPrefix,List.isPrefixOf] at h
theorem abK (h:Lib.hasPrefix s [40]=false) (d:Nat):eu d s=if s.takeWhile fa=[] then none else some (.mk (s.takeWhile fa) [],s.dropWhile fa):=by
 cases s with
 |nil=>rw[RS];simp
 |cons c r=>rw[Gy d c r (abJ h c r rfl)]
theorem abL (h:eu d s=none):mU (d+1) s=none:=by rw[Gx];show(match eu d s with|none=>none|some (t,r)=>_)=none;rw[h]
theorem abM (h:eu d s=some (t,[])):mU (d+1) s=none:=by rw[Gx];show(match eu d s with|none=>none|some (t,r)=>_)=none;rw[h]
theorem SZ {c:UInt8} (h:eu d s=some (t,c::r)):mU (d+1) s=if c=41 then some ([t],r) else if c=32 then(mU (d+1) r).map λp=>(t::p.1,p.2) else none:=by
 rw[Gx];show(match eu d s with|none=>none|some (t,r)=>_)=_;rw[h]
theorem MU:(s.drop k).take (s.length-k)=s.drop k:=List.take_of_length_le sm
theorem JA {c:UInt8} (hk:k<256):decide ((c.toNat:Int)≠(k:Int))=decide (c≠UInt8.ofNat k):=decide_eq_decide.2 (by
 have e:(UInt8.ofNat k).toNat=k:=by simp;omega
 constructor
 ·intro h h2;rw[h2,e] at h;exact h rfl
 ·intro h h2;exact h (UInt8.toNat_inj.1 (by rw[e];omega)))
def AO (d:Nat) (s:ai) (t:aq) (r:ai) (ok:Bool):Prop:=(eu d s=some (t,r)∧ok=true)∨(eu d s=none∧ok=false)
theorem AO.le {ok:Bool} (h:AO d s t r ok) (ho:ok=true):eu d s=some (t,r)∧r.length<s.length:=by
 rcases h with⟨h,_⟩|⟨_,h⟩
 ·obtain⟨k,h1,h2,rfl⟩:=Jl d s t r h
  exact⟨h,by simp;omega⟩
 ·rw[ho] at h;cases h
theorem abN {ok:Bool} (hm:AO d s t r ok) (h:((!ok||decide (r=[]))||(decide (((r.getD 0 0).toNat:Int)≠32)&&decide (((r.getD 0 0).toNat:Int)≠41)))=true):mU (d+1) s=none:=by
 rcases hm with⟨hr,rfl⟩|⟨hr,rfl⟩
 ·cases r with
  |nil=>exact abM hr
  |cons c r=>
   rw[SZ hr]
   simp only[Bool.not_true,Bool.false_or,List.getD_cons_zero,show decide (c::r=[])=false from by simp] at h
   rw[show(32:Int)=((32:Nat):Int) from rfl,show(41:Int)=((41:Nat):Int) from rfl,JA de,JA de,aE] at h
   have h1:¬c=32:=of_decide_eq_true h.1
   have h2:¬c=41:=of_decide_eq_true h.2
   rw[iN h2,iN h1]
 ·exact abL hr
theorem abO {ok:Bool} (hm:AO d s t r ok) (h:((!ok||decide (r=[]))||(decide (((r.getD 0 0).toNat:Int)≠32)&&decide (((r.getD 0 0).toNat:Int)≠41)))=false):
  0<r.length∧r.length<s.length∧mU (d+1) s=if r.getD 0 0=41 then some ([t],r.drop 1) else(mU (d+1) (r.drop 1)).map λp=>(t::p.1,p.2):=by
 simp only[Bool.or_eq_false_iff,Bool.not_eq_false',decide_eq_false_iff_not] at h
 obtain⟨⟨h1,h2⟩,h3⟩:=h
 obtain⟨hr,hl⟩:=hm.le h1
 cases r with
 |nil=>exact absurd rfl h2
 |cons c r=>
  refine⟨by simp,hl,?_⟩
  rw[SZ hr]
  simp only[List.getD_cons_zero,List.drop_one,List.tail_cons] at h3⊢
  by_cases GK:c=41
  ·rw[iP GK,iP GK]
  ·rw[iN GK,iN GK]
   rw[show(32:Int)=((32:Nat):Int) from rfl,show(41:Int)=((41:Nat):Int) from rfl,JA de,JA de,Bool.and_eq_false_iff] at h3
   rcases h3 with h3|h3
   ·rw[iP (by simpa using h3)]
   ·exact absurd (by simpa using h3) GK
theorem abP {ok:Bool} (hl:s.length<=12000) (hm:AO 60 s t r ok):(ok&&decide (r=[]))=(bB s).isSome∧∀t',bB s=some t'->t=t':=by grind [AO,bB]
theorem abQ (h1:n1=b.ck.length) (h2:n2=b.code.length) 
  (h:(((!nW b.aJ||decide ((12000:Int)<(b.aJ.length:Int)))||decide ((40:Int)<(n1:Int)))||!(decide ((1:Int)<=(n2:Int))&&decide ((n2:Int)<=80)))=true):oF b=false:=by grind [oF,CH,cZ.length,Sy,Jx,Sq]
theorem abR (h1:n1=b.ck.length) (h2:n2=b.code.length) 
  (h:(((!nW b.aJ||decide ((12000:Int)<(b.aJ.length:Int)))||decide ((40:Int)<(n1:Int)))||!(decide ((1:Int)<=(n2:Int))&&decide ((n2:Int)<=80)))=false):
  (nW b.aJ&&decide (b.ck.length<=40)&&(decide (1<=b.code.length)&&decide (b.code.length<=80)))=true∧CH b=true:=by grind [CH,cZ.length,Jx,Sp]
theorem abS (hi:i<b.ck.length) (h:s0 (bD b.ck i)=false):oF b=false:=by
 unfold oF;rw[Sz hi h];rfl
theorem abT (hi:i<b.code.length) (h:sq b.code i=false):oF b=false:=by
 unfold oF;rw[SA hi h];rfl
theorem abU (h:s0 s=true) (ht:∀t',bB s=some t'->t=t'):t=tr s:=by grind [bB,tr,seen]
theorem S0 {code:List ai} {n:Nat} (hn:n=code.length) (hi:i<n) (ht:∀t',bB (bD code i)=some t'->t=t'):
  ((!(bB (bD code i)).isSome||!oD t)||(GG t !=decide ((i:Int)=(n:Int)-1)))=!sq code i:=by grind [ML,SL,seen,bB,l3,abA]
theorem abV {code:List ai} (h:sq code i=true) (ht:∀t',bB (bD code i)=some t'->t=t'):t=tr (bD code i):=by grind [sq,bB,tr,seen]
theorem AP {α β:Type} (f:α->β) {xs:List α} {x:α} (h:xs[i]?=some x):(xs.take i).map f++[f x]=(xs.take (i+1)).map f:=by grind [List.getElem?_eq_some_iff,List.take_succ_eq_append_getElem]
theorem CI {α β:Type} (f:α->β) {xs:List α} (h:xs.length<=i):(xs.take i).map f=xs.map f:=by rw[List.take_of_length_le h]
theorem EB {α β:Type} (f:α->β) {xs:List α} (h:i<=xs.length):((xs.take i).map f).length=i:=by simp;omega
theorem EC (ht:∀t',bB s=some t'->t=t') (h:(bB s).isSome=true):WF t∧t.size<=12001:=by grind [bB,aq.size,uo,AF]
def iO (ps:List cI) (l:ai):Int:=match ps.findIdx? (λb=>decide (b.aJ=l)) with
 |some i=>(i:Int)
 |none=> -1
abbrev dJ (ps:List cI) (i:Nat):cI:=ps.getD i ⟨[],[],[]⟩
theorem rE {ps:List cI} (h:i<ps.length):ps[i]?=some (dJ ps i):=by grind
def GL (ps:List cI) (g:cI->Bool):Int:=match ps.findIdx? g with
 |some i=>(i:Int)
 |none=> -1
theorem MV {ps:List cI} (h:i<ps.length):dJ ps i=ps[i]:=by grind
theorem abW {ts:List cI} {g:cI->Bool} (hk:k<ts.length) (h:∀i,i<k->g (dJ ts i)=false) (hl:g (dJ ts k)=true):GL ts g=(k:Int):=by
 have:ts.findIdx? g=some k:=by
  rw[List.findIdx?_eq_some_iff_getElem]
  refine⟨hk,by rw[<-MV hk];exact hl,λj hj=>?_⟩
  have:=h j hj
  rw[MV (Nat.lt_trans hj hk)] at this
  simpa using this
 unfold GL;rw[this]
theorem abX {ts:List cI} {g:cI->Bool} (h:∀i,i<ts.length->g (dJ ts i)=false):GL ts g= -1:=by grind [MV,GL,List.findIdx?_eq_none_iff,List.getElem_of_mem]
theorem GM (h:i<bs.length):bR bs i=bs[i]:=by grind
theorem S1 (hk:k<bs.length):decide ((0:Int)<=iO ((bs.take k).map cP) (bR bs k).aJ)=decide (lJ bs (bR bs k).aJ≠(k:Int)):=by
 refine decide_eq_decide.2 ?_
 by_cases hex:∃j,j<k∧(bR bs j).aJ=(bR bs k).aJ
 ·obtain⟨j,hj,hl⟩:=hex
  have h1:lJ bs (bR bs k).aJ≠k:=by
   intro h
   unfold lJ at h
   cases hf:bs.findIdx? (λb=>decide (b.aJ=(bR bs k).aJ)) with
   |none=>rw[hf] at h;simp at h
   |some i=>
    rw[hf] at h
    have vE:i=k:=Int.ofNat.inj h
    subst vE
    rw[List.findIdx?_eq_some_iff_getElem] at hf
    obtain⟨_,_,cC⟩:=hf
    have:=cC j hj
    rw[<-GM] at this
    simp only[dE] at this
    exact this hl
  have h2:0<=iO ((bs.take k).map cP) (bR bs k).aJ:=by
   unfold iO
   cases hf:((bs.take k).map cP).findIdx? (λb=>decide (b.aJ=(bR bs k).aJ)) with
   |some i=>simp
   |none=>
    rw[List.findIdx?_eq_none_iff] at hf
    have:=hf (cP (bR bs j)) (List.mem_map.2 ⟨bR bs j,by rw[List.mem_take_iff_getElem];exact⟨j,om,by simp[gE (show j<bs.length by omega)]⟩,rfl⟩)
    exact absurd hl (of_decide_eq_false this)
  exact⟨λ_=>h1,λ_=>h2⟩
 ·have h1:lJ bs (bR bs k).aJ=k:=MK hk (λj hj hl=>hex ⟨j,hj,hl⟩) rfl
  have h2:iO ((bs.take k).map cP) (bR bs k).aJ= -1:=by
   unfold iO
   have:((bs.take k).map cP).findIdx? (λb=>decide (b.aJ=(bR bs k).aJ))=none:=by
    rw[List.findIdx?_eq_none_iff]
    intro x hx
    obtain⟨b,hb,rfl⟩:=List.mem_map.1 hx
    obtain⟨j,hj,rfl⟩:=List.mem_take_iff_getElem.1 hb
    refine dF λhl=>hex ⟨j,om,?_⟩
    rw[bR,gG,gE om]
    exact hl
   rw[this]
  rw[h1,h2];constructor
  ·intro h;omega
  ·intro h;exact absurd rfl h
theorem abY (hi:i<bs.length) (h:oF (bR bs i)=false∨lJ bs (bR bs i).aJ≠i):lg bs=false:=by grind [lg,eN,kq,AN,oF,SC]
theorem abZ (h:∀i,i<bs.length->oF (bR bs i)=true∧lJ bs (bR bs i).aJ=i):
  lg bs=(decide (1<=bs.length)&&decide (bs.length<=40)&&decide ((bR bs 0).aJ=[109,97,105,110])&&decide ((bR bs 0).ck.length=0)):=by
 unfold lg
 rw[SD (λi hi=>⟨by have:=(h i hi).1;unfold oF at this;rw[aE] at this;exact this.1,(h i hi).2⟩),show bs.all CH=true from ?_,Bool.and_true]
 refine List.all_eq_true.2 λb hb=>?_
 obtain⟨i,hi,rfl⟩:=List.getElem_of_mem hb
 have:=(h i hi).1
 unfold oF at this
 rw[aE] at this
 rw[bR,gG,gE hi] at this
 exact this.2
theorem ab0 (h:¬(1<=bs.length∧bs.length<=40)):lg bs=false:=by grind [lg,eN]
theorem MW:∀(ts:List aq) (t:aq),ts≠[]->lD (ts++[t])=lD ts++32::t.text
 |[],_,h=>absurd rfl h
 |[u],t,_=>by rw[List.cons_append,List.nil_append,rD,rC,rC]
 |u::v::r,t,_=>by
  have:=MW (v::r) t sm
  rw[List.cons_append,List.cons_append,rD,<-List.cons_append,this,rD];simp
def pre (ts:List aq):ai:=if ts=[] then[] else 40::lD ts
theorem S2 (hk:k<ps.length):pre (ps.take (k+1))=pre (ps.take k)++((if k=0 then 40 else 32)::(nth ps k).text):=by
 have e:ps.take (k+1)=ps.take k++[nth ps k]:=by rw[List.take_succ_eq_append_getElem hk,GF hk]
 rw[e]
 by_cases h0:k=0
 ·subst h0;simp[pre,rC]
 ·have dN:ps.take k≠[]:=by intro h;have:=congrArg List.length h;rw[List.length_take] at this;simp only[List.length_nil] at this;omega
  unfold pre
  rw[iN sm,iN dN,MW _ _ dN,iN h0];simp
theorem S3 (cB:WF t) (h:t.ak.length≠0):pre (t.ak.take t.ak.length)++[41]=t.text:=by
 cases cB with
 |aw a _=>simp[aq.ak] at h
 |list ps hp _=>
  rw[s8]
  show pre (ps.take ps.length)++[41]=_
  rw[List.take_length]
  unfold pre;rw[iN hp];simp
theorem S4 (cB:WF t) (h:t.ak.length=0):t.text=t.aw:=by
 cases cB with
 |aw a ha=>exact rB ha
 |list ps hp _=>exact absurd (List.length_eq_zero_iff.1 h) hp
theorem S5 (cB:WF t) (hk:k<=t.ak.length):(pre (t.ak.take k)).length<=t.text.length:=by
 by_cases h:t.ak.length=0
 ·rw[show k=0 from by omega];simp[pre]
 ·rw[<-S3 cB h,lA]
  have mono:∀j,k<=j->j<=t.ak.length->(pre (t.ak.take k)).length<=(pre (t.ak.take j)).length:=by
   intro j hj
   induction j with
   |zero=>intro _;rw[show k=0 from by omega];exact lR _
   |succ j ih=>
    intro lZ
    rcases Nat.lt_or_ge k (j+1) with h|h
    ·have:=ih om om
     rw[S2 om,lA];omega
    ·rw[show k=j+1 from by omega];exact lR _
  have:=mono _ hk (lR _)
  omega
def vL (ts:List aq):ai:=40::lD ts
theorem S6 (hk:k<ps.length):vL (ps.take (k+1))=(vL (ps.take k)++(if k=0 then[] else[32]))++(nth ps k).text:=by
 have e:ps.take (k+1)=ps.take k++[nth ps k]:=by rw[List.take_succ_eq_append_getElem hk,GF hk]
 rw[e]
 by_cases h0:k=0
 ·subst h0;simp[vL,rC,lD]
 ·have dN:ps.take k≠[]:=by intro h;have:=congrArg List.length h;rw[List.length_take] at this;simp only[List.length_nil] at this;omega
  unfold vL
  rw[MW _ _ dN,iN h0];simp
theorem S7 (cB:WF t) (h:t.aw=[]):vL (t.ak.take t.ak.length)++[41]=t.text:=by
 cases cB with
 |aw a ha=>exact absurd h ha
 |list ps hp _=>
  rw[s8]
  show vL (ps.take ps.length)++[41]=_
  rw[List.take_length];rfl
theorem MX (cB:WF t) (ha:t.aw=[]) (hk:k<=t.ak.length):(vL (t.ak.take k)).length<=t.text.length:=by
 rw[<-S7 cB ha,lA]
 have mono:∀j,k<=j->j<=t.ak.length->(vL (t.ak.take k)).length<=(vL (t.ak.take j)).length:=by
  intro j hj
  induction j with
  |zero=>intro _;rw[show k=0 from by omega];exact lR _
  |succ j ih=>
   intro lZ
   rcases Nat.lt_or_ge k (j+1) with h|h
   ·have:=ih om om
    rw[S6 om,lA,lA];omega
   ·rw[show k=j+1 from by omega];exact lR _
 have:=mono _ hk (lR _)
 omega
structure S8 (t:aq):Prop where
 wf:WF t
 size:t.size<=12001
 text:t.text.length<=12000
theorem ab1 (h:bB s=some t):S8 t:=by
 obtain⟨h1,h2,h3,h4⟩:=uw h
 exact⟨h1.wf,AF h,by rw[h3];exact h4⟩
def ED (ts:List aq):Prop:=ts.length<1000000∧∀t,t∈ts->WF t∧t.size<=100000000∧t.text.length<=100000000
theorem ab2 (h:Good t):t.size<=2*t.text.length:=by
 induction h with
 |aw a ha hb=>
  have:=List.length_pos_iff.2 ha
  rw[rB ha]
  simp only[aq.size,aq.size.sizes];omega
 |list ps hp hw ih=>
  have key:∀qs:List aq,(∀p,p∈qs->p.size<=2*p.text.length)->aq.size.sizes qs<=2*(lD qs).length:=by
   intro qs
   induction qs with
   |nil=>intro _;simp[aq.size.sizes]
   |cons q qs vD=>
    intro h
    have h1:=h q sm
    have h2:=vD (λp hp=>h p (by simp[hp]))
    cases qs with
    |nil=>rw[rC];simp only[aq.size.sizes];omega
    |cons u us=>
     rw[rD]
     simp only[aq.size.sizes,lA,lC] at h2⊢;omega
  have:=key ps ih
  rw[s8]
  simp only[aq.size,lC,lA,List.length_nil];omega
/-! ### Texts joined -/
theorem S9 (a b:List ai):qK (a++b)=qK a++qK b:=by simp[qK]
def vM (h:ai) (ps:List ai) (k:Nat):ai:=40::(h++qK (ps.take k))
theorem ab3 {ps:List ai} (hk:k<ps.length):vM h ps (k+1)=(vM h ps k++[32])++bD ps k:=by
 unfold vM
 rw[List.take_succ_eq_append_getElem hk,S9]
 simp[qK,bD,gE hk]
theorem ab4 {ps:List ai} (hk:ps.length<=k):vM h ps k++[41]=dW h ps:=by
 unfold vM dW;rw[List.take_of_length_le hk];simp
theorem ab5 {ps:List ai} (k:Nat):(vM h ps k).length+1<=(dW h ps).length:=by
 have:(qK (ps.take k)).length<=(qK ps).length:=by
  have:=S9 (ps.take k) (ps.drop k)
  rw[List.take_append_drop] at this
  rw[this,lA];omega
 simp[vM,dW];omega
/-! ### What the laws count -/
def jH (xs:List ai):Nat:=xs.length+(xs.map List.length).sum
theorem Ta (ps:List ai):(qK ps).length=jH ps:=by induction ps<;>grind [qK,jH]
/-! ### A list that is filled -/
def fill {α:Type} (d:α) (xs:List α) (k:Nat):List α:=xs.take k++List.replicate (xs.length-k) d
theorem ab6:NG Tryz.f10:=ng
theorem ab7:NG Tryz.f100:=ng
theorem ab8:NG Tryz.f101:=ng
theorem ab9:NG Tryz.f102:=ng
theorem aca:NG Tryz.f103:=ng
theorem acb:NG Tryz.f106:=ng
theorem acd:NG Tryz.f108:=ng
theorem ace:NG Tryz.f109:=ng
theorem acf:NG Tryz.f110:=ng
theorem Tb:NG Tryz.f111:=ng
theorem acg:NG Tryz.f112:=ng
theorem ach:NG Tryz.f113:=ng
theorem aci:NG Tryz.f114:=ng
theorem acj:NG Tryz.f115:=ng
theorem Tc:NG Tryz.f116:=ng
theorem ack:NG Tryz.f117:=ng
theorem acm:NG Tryz.f118:=ng
theorem acn:NG Tryz.f119:=ng
theorem aco:NG Tryz.f120:=ng
theorem acp:NG Tryz.f126:=ng
theorem acq:NG Tryz.f127:=ng
theorem acr:NG Tryz.f128:=ng
theorem acs:NG Tryz.f129:=ng
theorem acu:NG Tryz.f130:=ng
theorem acv:NG Tryz.f131:=ng
theorem Td:NG Tryz.f132:=ng
theorem acw:NG Tryz.f133:=ng
theorem acx:NG Tryz.f134:=ng
theorem acy:NG Tryz.f135:=ng
theorem acz:NG Tryz.f136:=ng
theorem acA:NG Tryz.f137:=ng
theorem acB:NG Tryz.f138:=ng
theorem acC:NG Tryz.f139:=ng
theorem acD:NG Tryz.f142:=ng
theorem acE:NG Tryz.f143:=ng
theorem acF:NG Tryz.f144:=ng
theorem acG:NG Tryz.f145:=ng
theorem acH:NG Tryz.f146:=ng
theorem acI:NG Tryz.f150:=ng
theorem acJ:NG Tryz.f151:=ng
theorem acK:NG Tryz.f152:=ng
theorem acL:NG Tryz.f153:=ng
theorem acM:NG Tryz.f154:=ng
theorem acN:NG Tryz.f155:=ng
theorem acO:NG Tryz.f156:=ng
theorem acP:NG Tryz.f157:=ng
theorem acQ:NG Tryz.f158:=ng
theorem acR:NG Tryz.f159:=ng
theorem acS:NG Tryz.f160:=ng
theorem acT:NG Tryz.f161:=ng
theorem acU:NG Tryz.f162:=ng
theorem acV:NG Tryz.f163:=ng
theorem acW:NG Tryz.f165:=ng
theorem acX:NG Tryz.f166:=ng
theorem acY:NG Tryz.f168:=ng
theorem acZ:NG Tryz.f169:=ng
theorem ac0:NG Tryz.f17:=ng
theorem ac1:NG Tryz.f170:=ng
theorem ac2:NG Tryz.f172:=ng
theorem ac3:NG Tryz.f173:=ng
theorem ac4:NG Tryz.f174:=ng
theorem ac5:NG Tryz.f179:=ng
theorem ac6:NG Tryz.f18:=ng
theorem ac7:NG Tryz.f180:=ng
theorem ac8:NG Tryz.f181:=ng
theorem ac9:NG Tryz.f182:=ng
theorem ada:NG Tryz.f183:=ng
theorem adb:NG Tryz.f184:=ng
theorem ade:NG Tryz.f185:=ng
theorem adf:NG Tryz.f186:=ng
theorem adg:NG Tryz.f187:=ng
theorem adh:NG Tryz.f188:=ng
theorem adi:NG Tryz.f189:=ng
theorem adj:NG Tryz.f19:=ng
theorem adk:NG Tryz.f190:=ng
theorem adl:NG Tryz.f191:=ng
theorem adm:NG Tryz.f192:=ng
theorem adn:NG Tryz.f193:=ng
theorem ado:NG Tryz.f194:=ng
theorem adp:NG Tryz.f195:=ng
theorem adq:NG Tryz.f196:=ng
theorem adr:NG Tryz.f197:=ng
theorem Te:NG Tryz.f198:=ng
theorem ads:NG Tryz.f199:=ng
theorem adt:NG Tryz.f20:=ng
theorem adu:NG Tryz.f200:=ng
theorem adv:NG Tryz.f201:=ng
theorem adw:NG Tryz.f202:=ng
theorem adx:NG Tryz.f203:=ng
theorem ady:NG Tryz.f21:=ng
theorem adz:NG Tryz.f216:=ng
theorem adA:NG Tryz.f217:=ng
theorem adB:NG Tryz.f218:=ng
theorem adC:NG Tryz.f219:=ng
theorem adD:NG Tryz.f22:=ng
theorem adE:NG Tryz.f220:=ng
theorem adF:NG Tryz.f221:=ng
theorem adG:NG Tryz.f222:=ng
theorem adH:NG Tryz.f223:=ng
theorem adI:NG Tryz.f224:=ng
theorem adJ:NG Tryz.f225:=ng
theorem adK:NG Tryz.f226:=ng
theorem adL:NG Tryz.f227:=ng
theorem MY:NG Tryz.f228:=ng
theorem adM:NG Tryz.f229:=ng
theorem adN:NG Tryz.f23:=ng
theorem adO:NG Tryz.f239:=ng
theorem adP:NG Tryz.f24:=ng
theorem adQ:NG Tryz.f240:=ng
theorem adR:NG Tryz.f241:=ng
theorem adS:NG Tryz.f242:=ng
theorem adT:NG Tryz.f243:=ng
theorem adU:NG Tryz.f244:=ng
theorem adV:NG Tryz.f249:=ng
theorem adW:NG Tryz.f32:=ng
theorem adX:NG Tryz.f33:=ng
theorem adY:NG Tryz.f34:=ng
theorem adZ:NG Tryz.f35:=ng
theorem ad0:NG Tryz.f37:=ng
theorem ad1:NG Tryz.f38:=ng
theorem ad2:NG Tryz.f39:=ng
theorem ad3:NG Tryz.f40:=ng
theorem ad4:NG Tryz.f41:=ng
theorem Tf:NG Tryz.f42:=ng
theorem ad5:NG Tryz.f43:=ng
theorem ad6:NG Tryz.f48:=ng
theorem ad7:NG Tryz.f49:=ng
theorem nm5:NG Tryz.f5:=ng
theorem ad9:NG Tryz.f50:=ng
theorem aea:NG Tryz.f51:=ng
theorem aeb:NG Tryz.f52:=ng
theorem aec:NG Tryz.f53:=ng
theorem aed:NG Tryz.f54:=ng
theorem aee:NG Tryz.f57:=ng
theorem aef:NG Tryz.f61:=ng
theorem aeg:NG Tryz.f62:=ng
theorem aeh:NG Tryz.f63:=ng
theorem aei:NG Tryz.f64:=ng
theorem aej:NG Tryz.f65:=ng
theorem aek:NG Tryz.f66:=ng
theorem ael:NG Tryz.f69:=ng
theorem aem:NG Tryz.f70:=ng
theorem aen:NG Tryz.f71:=ng
theorem JB:NG Tryz.f72:=ng
theorem aeo:NG Tryz.f78:=ng
theorem Tg:NG Tryz.f79:=ng
theorem aep:NG Tryz.f80:=ng
theorem aeq:NG Tryz.f81:=ng
theorem aer:NG Tryz.f82:=ng
theorem aes:NG Tryz.f83:=ng
theorem aet:NG Tryz.f84:=ng
theorem aeu:NG Tryz.f85:=ng
theorem aev:NG Tryz.f86:=ng
theorem aew:NG Tryz.f87:=ng
theorem aex:NG Tryz.f88:=ng
theorem aey:NG Tryz.f93:=ng
theorem aez:NG Tryz.f94:=ng
theorem aeA:NG Tryz.f95:=ng
theorem aeB:NG Tryz.f96:=ng
theorem aeC:NG Tryz.f97:=ng
theorem aeD:NG Tryz.f98:=ng
theorem aeE:NG Tryz.f99:=ng
theorem aeF:sX Tryz.prog 152=true:=by kernel_rfl
theorem Th:sX Tryz.prog 166=true:=by kernel_rfl
theorem CJ:sX Tryz.prog 56=true:=by kernel_rfl
theorem CK:sX Tryz.prog 58=true:=by kernel_rfl
theorem ux:sX Tryz.prog 66=true:=by kernel_rfl
theorem fc:sX Tryz.prog 74=true:=by kernel_rfl
theorem aeG:∀(x0a:Option Addr) (x0n x0c:Nat) (w:World),(Instr.build 102 #[(0,(.slice x0a x0n x0c))]).run Tryz.prog w= .ok (.agg #[.slice x0a x0n x0c,.int .i64 0]) w:=by intros;kernel_rfl
theorem MZ:∀(x0a:Option Addr) (x0n x0c:Nat) (x1a:Option Addr) (x1n x1c:Nat) (w:World),(Instr.build 152 #[(0,(.slice x0a x0n x0c)),(1,(.slice x1a x1n x1c))]).run Tryz.prog w= .ok (.agg #[.slice x0a x0n x0c,.slice x1a x1n x1c]) w:=by intros;kernel_rfl
theorem aeH:∀(x0a:Option Addr) (x0n x0c:Nat) (x1a:Option Addr) (x1n x1c:Nat) (w:World),(Instr.build 164 #[(0,(.slice x0a x0n x0c)),(1,(.slice x1a x1n x1c))]).run Tryz.prog w= .ok (.agg #[.slice x0a x0n x0c,.slice x1a x1n x1c,.int .i64 0,.bool false,.slice none 0 0,.slice none 0 0]) w:=by intros;kernel_rfl
theorem aeI:∀(x0a:Option Addr) (x0n x0c:Nat) (x1:Int) (x2a:Option Addr) (x2n x2c:Nat) (x3a:Option Addr) (x3n x3c:Nat) (w:World),(Instr.build 190 #[(0,(.slice x0a x0n x0c)),(1,(.int .i64 x1)),(2,(.slice x2a x2n x2c)),(3,(.slice x3a x3n x3c))]).run Tryz.prog w= .ok (.agg #[.slice x0a x0n x0c,.int .i64 x1,.slice x2a x2n x2c,.slice x3a x3n x3c]) w:=by intros;kernel_rfl
theorem aeJ:∀(x0a:Option Addr) (x0n x0c:Nat) (x1:Int) (w:World),(Instr.build 228 #[(0,(.slice x0a x0n x0c)),(1,(.int .i64 x1))]).run Tryz.prog w= .ok (.agg #[.slice x0a x0n x0c,.int .i64 x1]) w:=by intros;kernel_rfl
theorem M0:∀(w:World),(Instr.build 56 #[]).run Tryz.prog w= .ok (.agg #[.string ⟨#[]⟩,.slice none 0 0,.slice none 0 0]) w:=by intros;kernel_rfl
theorem aeK:∀(x0:ByteArray) (w:World),(Instr.build 56 #[(0,(.string x0))]).run Tryz.prog w= .ok (.agg #[.string x0,.slice none 0 0,.slice none 0 0]) w:=by intros;kernel_rfl
theorem JC:∀(x0:ByteArray) (x1a:Option Addr) (x1n x1c:Nat) (x2a:Option Addr) (x2n x2c:Nat) (w:World),(Instr.build 58 #[(0,(.string x0)),(1,(.slice x1a x1n x1c)),(2,(.slice x2a x2n x2c))]).run Tryz.prog w= .ok (.agg #[.string x0,.slice x1a x1n x1c,.slice x2a x2n x2c]) w:=by intros;kernel_rfl
theorem M1:∀(w:World),(Instr.build 66 #[]).run Tryz.prog w= .ok (.agg #[.string ⟨#[]⟩,.slice none 0 0]) w:=by intros;kernel_rfl
theorem aeL:∀(x0:ByteArray) (w:World),(Instr.build 66 #[(0,(.string x0))]).run Tryz.prog w= .ok (.agg #[.string x0,.slice none 0 0]) w:=by intros;kernel_rfl
theorem GN:∀(w:World),(Instr.build 74 #[]).run Tryz.prog w= .ok (.agg #[.string ⟨#[]⟩,.slice none 0 0]) w:=by intros;kernel_rfl
theorem aeM:∀(x0:ByteArray) (w:World),(Instr.build 74 #[(0,(.string x0))]).run Tryz.prog w= .ok (.agg #[.string x0,.slice none 0 0]) w:=by intros;kernel_rfl
theorem M3:∀(x1a:Option Addr) (x1n x1c:Nat) (w:World),(Instr.build 74 #[(1,(.slice x1a x1n x1c))]).run Tryz.prog w= .ok (.agg #[.string ⟨#[]⟩,.slice x1a x1n x1c]) w:=by intros;kernel_rfl
theorem aeN:Tryz.prog.underlying 4=some .bool:=by kernel_rfl
theorem aeO:gU Tryz.prog 102 0=some 0:=by kernel_rfl
theorem Ti:gU Tryz.prog 102 1=some 1:=by kernel_rfl
theorem aeP:gU Tryz.prog 152 0=some 0:=by kernel_rfl
theorem aeQ:gU Tryz.prog 152 1=some 1:=by kernel_rfl
theorem aeR:gU Tryz.prog 164 0=some 0:=by kernel_rfl
theorem aeS:gU Tryz.prog 164 1=some 1:=by kernel_rfl
theorem aeT:gU Tryz.prog 164 2=some 2:=by kernel_rfl
theorem aeU:gU Tryz.prog 164 3=some 3:=by kernel_rfl
theorem aeV:gU Tryz.prog 164 4=some 4:=by kernel_rfl
theorem aeW:gU Tryz.prog 164 5=some 5:=by kernel_rfl
theorem aeX:gU Tryz.prog 166 0=some 0:=by kernel_rfl
theorem Tj:gU Tryz.prog 166 1=some 1:=by kernel_rfl
theorem aeY:gU Tryz.prog 166 10=some 11:=by kernel_rfl
theorem aeZ:gU Tryz.prog 166 2=some 2:=by kernel_rfl
theorem JD:gU Tryz.prog 166 3=some 3:=by kernel_rfl
theorem ae0:gU Tryz.prog 166 4=some 4:=by kernel_rfl
theorem ae1:gU Tryz.prog 166 5=some 5:=by kernel_rfl
theorem ae2:gU Tryz.prog 166 6=some 6:=by kernel_rfl
theorem Tl:gU Tryz.prog 166 7=some 7:=by kernel_rfl
theorem Tm:gU Tryz.prog 166 8=some 9:=by kernel_rfl
theorem ae3:gU Tryz.prog 166 9=some 10:=by kernel_rfl
theorem ae4:gU Tryz.prog 190 0=some 0:=by kernel_rfl
theorem ae5:gU Tryz.prog 190 1=some 1:=by kernel_rfl
theorem ae6:gU Tryz.prog 190 2=some 2:=by kernel_rfl
theorem ae7:gU Tryz.prog 190 3=some 3:=by kernel_rfl
theorem ae8:gU Tryz.prog 228 0=some 0:=by kernel_rfl
theorem ae9:gU Tryz.prog 228 1=some 1:=by kernel_rfl
theorem Tn:gU Tryz.prog 56 0=some 0:=by kernel_rfl
theorem To:gU Tryz.prog 56 1=some 1:=by kernel_rfl
theorem Tp:gU Tryz.prog 56 2=some 2:=by kernel_rfl
theorem EE:gU Tryz.prog 58 0=some 0:=by kernel_rfl
theorem M4:gU Tryz.prog 58 1=some 1:=by kernel_rfl
theorem AQ:gU Tryz.prog 58 2=some 2:=by kernel_rfl
theorem afa:gU Tryz.prog 66 0=some 0:=by kernel_rfl
theorem Tq:gU Tryz.prog 66 1=some 1:=by kernel_rfl
theorem lK:gU Tryz.prog 74 0=some 0:=by kernel_rfl
theorem jI:gU Tryz.prog 74 1=some 1:=by kernel_rfl
theorem M6:TI Tryz.prog 113 2 32 (.agg #[.pointer none,.slice none 0 0]):=by unfold TI;kernel_rfl
theorem CL:TI Tryz.prog 152 2 48 (.agg #[.slice none 0 0,.slice none 0 0]):=by unfold TI;kernel_rfl
theorem JE:TI Tryz.prog 162 1 24 (.slice none 0 0):=by unfold TI;kernel_rfl
theorem mV:TI Tryz.prog 166 12 216 (.agg #[.string ⟨#[]⟩,.slice none 0 0,.int .i64 0,.slice none 0 0,.slice none 0 0,.slice none 0 0,.slice none 0 0,.string ⟨#[]⟩,.slice none 0 0,.int .i64 0,.string ⟨#[]⟩,.int .i64 0]):=by unfold TI;kernel_rfl
theorem Tr:TI Tryz.prog 23 1 24 (.slice none 0 0):=by unfold TI;kernel_rfl
theorem pq:TI Tryz.prog 3 1 8 (.int .i64 0):=by unfold TI;kernel_rfl
theorem mW:TI Tryz.prog 35 1 24 (.slice none 0 0):=by unfold TI;kernel_rfl
theorem CM:TI Tryz.prog 4 1 1 (.bool false):=by unfold TI;kernel_rfl
theorem GO:TI Tryz.prog 5 1 1 (.int .u8 0):=by unfold TI;kernel_rfl
theorem M7:TI Tryz.prog 51 1 24 (.slice none 0 0):=by unfold TI;kernel_rfl
theorem JG:TI Tryz.prog 54 1 24 (.slice none 0 0):=by unfold TI;kernel_rfl
theorem jT:TI Tryz.prog 56 3 64 (.agg #[.string ⟨#[]⟩,.slice none 0 0,.slice none 0 0]):=by unfold TI;kernel_rfl
theorem fm:TI Tryz.prog 58 3 64 (.agg #[.string ⟨#[]⟩,.slice none 0 0,.slice none 0 0]):=by unfold TI;kernel_rfl
theorem fx:TI Tryz.prog 66 2 40 (.agg #[.string ⟨#[]⟩,.slice none 0 0]):=by unfold TI;kernel_rfl
theorem EF:TI Tryz.prog 72 1 24 (.slice none 0 0):=by unfold TI;kernel_rfl
theorem aM:TI Tryz.prog 74 2 40 (.agg #[.string ⟨#[]⟩,.slice none 0 0]):=by unfold TI;kernel_rfl
theorem ba:TI Tryz.prog 9 1 16 (.string ⟨#[]⟩):=by unfold TI;kernel_rfl
theorem Tt:TI Tryz.prog 98 1 24 (.slice none 0 0):=by unfold TI;kernel_rfl
theorem JH:Tryz.prog.underlying 181=some (.int .u64):=by kernel_rfl
theorem xq:Tryz.prog.underlying 3=some (.int .i64):=by kernel_rfl
theorem yM:Tryz.prog.underlying 5=some (.int .u8):=by kernel_rfl
theorem dv:Tryz.prog.follows .mixedOrders=true:=by kernel_rfl
theorem afb:p3 Tryz.prog 162=true:=by kernel_rfl
theorem afc:p3 Tryz.prog 22=true:=by kernel_rfl
theorem afd:p3 Tryz.prog 23=true:=by kernel_rfl
theorem M8:p3 Tryz.prog 3=true:=by kernel_rfl
theorem vN:p3 Tryz.prog 35=true:=by kernel_rfl
theorem GP:p3 Tryz.prog 4=true:=by kernel_rfl
theorem afe:p3 Tryz.prog 5=true:=by kernel_rfl
theorem aff:p3 Tryz.prog 51=true:=by kernel_rfl
theorem afg:p3 Tryz.prog 54=true:=by kernel_rfl
theorem iW:p3 Tryz.prog 72=true:=by kernel_rfl
theorem fo:p3 Tryz.prog 9=true:=by kernel_rfl
theorem afh:p3 Tryz.prog 98=true:=by kernel_rfl
theorem AR:Tryz.prog.underlying 162=some (.slice 166):=by kernel_rfl
theorem CN:Tryz.prog.underlying 22=some (.slice 5):=by kernel_rfl
theorem iD:Tryz.prog.underlying 23=some (.slice 58):=by kernel_rfl
theorem bg:Tryz.prog.underlying 35=some (.slice 9):=by kernel_rfl
theorem vO:Tryz.prog.underlying 51=some (.slice 56):=by kernel_rfl
theorem s9:Tryz.prog.underlying 54=some (.slice 66):=by kernel_rfl
theorem GQ:Tryz.prog.underlying 59=some (.slice 4):=by kernel_rfl
theorem cD:Tryz.prog.underlying 72=some (.slice 74):=by kernel_rfl
theorem vQ:Tryz.prog.underlying 98=some (.slice 3):=by kernel_rfl
theorem iE:Tryz.prog.underlying 9=some .string:=by kernel_rfl
/-! ### Packages have two ak -/
inductive EG:aq->Prop
 |aw (a:ai):EG (.mk a [])
 |list (ps:List aq) (h:SX ps=[101]->ps.length=2) (hp:∀p,p∈ps->EG p):EG (.mk [] ps)
theorem afi (cB:WF t):∀h,fl h t=true->EG t:=by
 induction cB with
 |aw a _=>intro _ _;exact .aw a
 |list ps hp hw ih=>
  intro h ht
  cases ps with
  |nil=>exact absurd rfl hp
  |cons hd rest=>
   have nX:∀a,hd.aw=a->a≠[]->EG hd:=λa ha dN=>by
    have:=hw hd sm
    cases this with
    |aw b _=>exact .aw b
    |list qs _ _=>exact absurd ha.symm dN
   unfold fl at ht
   simp only[ne_eq,not_true,if_false] at ht
   by_cases he:hd.aw=[101]
   ·rw[iP he] at ht
    cases rest with
    |nil=>simp[fl.oneT] at ht
    |cons x r2=>
     cases r2 with
     |nil=>
      refine .list _ (λ_=>rfl) λp sr=>?_
      simp only[mC,List.not_mem_nil,or_false] at sr
      rcases sr with rfl|rfl
      ·exact nX _ he de
      ·exact ih p sm true ht
     |cons y r3=>simp[fl.oneT] at ht
   ·rw[iN he] at ht
    by_cases uy:hd.aw=[116]∨hd.aw=[99]
    ·rw[iP uy,ME,List.all_eq_true] at ht
     refine .list _ (λh=>absurd h he) λp sr=>?_
     rcases mC.1 sr with rfl|sr
     ·rcases uy with h|h
      ·exact nX _ h de
      ·exact nX _ h de
     ·exact ih p (by simp[sr]) h (ht p sr)
    ·rw[iN uy] at ht;cases ht
/-! ### States -/
structure CP (t:aq):Prop where
 l4:Good t
 fits:Jz t=true
 eok:EG t
def OkP (p:List cI):Prop:=p.length<=1000000∧∀b,b∈p->b.regs.length<=40∧∀t,t∈b.regs->CP t
theorem Tu (h:oD t=true):gI (bX t) t.ak.length≠[]∧t.ak.length=(gI (bX t) t.ak.length).length+1∧
  ∀i,i<(gI (bX t) t.ak.length).length->gP (((gI (bX t) t.ak.length).getD i 0).toNat:Int) (nth t.ak (i+1))=true:=by
 unfold oD at h
 split at h
 ·cases h
 ·rename_i hn
  exact⟨λh=>hn (.inl h),Classical.not_not.1 λh=>hn (.inr h),of_decide_eq_true h⟩
/-! ### What it gives -/
section
variable {p:List cI} {st:TS} {o:Nat} {t:aq}
end
/-! ### Sizes of what is given -/
theorem size_pos (t:aq):1<=t.size:=by have:=yL t;omega
theorem M9 (t:aq):∀m,t.size<=m->WF t->t.text.length+1<=2*t.size:=by
 intro m
 induction m generalizing t with
 |zero=>intro h;have:=size_pos t;omega
 |succ m ih=>
  intro hm cB
  cases cB with
  |aw a ha=>rw[rB ha];simp only[aq.size,aq.size.sizes];omega
  |list ps hp hw=>
   rw[s8]
   have e:(aq.mk [] ps).size=1+aq.size.sizes ps:=by simp[aq.size]
   rw[e]
   have afk:∀qs:List aq,qs≠[]->(∀p,p∈qs->p.text.length+1<=2*p.size)->(lD qs).length+1<=2*aq.size.sizes qs:=by
    intro qs
    induction qs with
    |nil=>intro h;exact absurd rfl h
    |cons q qs vD=>
     intro _ h
     have h1:=h q sm
     cases qs with
     |nil=>rw[rC];simp only[aq.size.sizes];omega
     |cons u us=>
      have h2:=vD sm (λp hp=>h p (by simp[hp]))
      rw[rD];simp only[aq.size.sizes,lA,lC] at h2⊢;omega
   have az:=afk ps hp (λp sr=>by
    obtain⟨i,hi,rfl⟩:=List.getElem_of_mem sr
    have h3:=Sj (t:=.mk [] ps) (p:=ps[i]) (i:=i) (gE hi)
    exact ih _ om (hw _ sr))
   simp only[lC,lA,List.length_nil];omega
theorem CP.size (h:CP t):t.size<=24000:=by
 have:=h.fits
 unfold Jz at this
 rw[aE,dE,dE] at this
 have h1:=ab2 h.l4
 have h2:=MT h.l4.wf
 omega
section
variable {p:List cI} {st:TS} {o:Nat} {t:aq}
end
/-! ### Blocks -/
structure CQ (b:cI):Prop where
 regs:b.regs.length<=40
 rok:∀t,t∈b.regs->CP t
 code:b.code.length<=80
 cok:∀t,t∈b.code->S8 t∧Good t∧oD t=true
theorem afl (h:bB s=some t) (ht:fl false t=true):CP t:=by
 obtain⟨h1,h2,h3,h4⟩:=uw h
 refine⟨h1,?_,afi h1.wf _ ht⟩
 unfold Jz
 rw[aE,dE,dE,MT h1.wf,h3]
 exact⟨h2,h4⟩
theorem GR (h:kH b=true):CQ (cP b):=by
 obtain⟨_,h2,h3⟩:=GI h
 unfold kH at h
 simp only[aE,dE] at h
 refine⟨by simp[cP];omega,λt ht=>?_,by simp[cP];omega,λt ht=>?_⟩
 ·obtain⟨s,hs,rfl⟩:=List.mem_map.1 ht
  obtain⟨u,hu,hq⟩:=h2 s hs
  rw[GH hu];exact afl hu hq
 ·obtain⟨s,hs,rfl⟩:=List.mem_map.1 ht
  obtain⟨u,hu,hq⟩:=h3 s hs
  rw[GH hu];exact⟨ab1 hu,(uw hu).1,by rw[SL];exact hq⟩
theorem AS (h:eN bs=true):OkP (bs.map cP)∧∀b,b∈bs.map cP->CQ b:=by
 have hb:=AN h
 have cC:∀b,b∈bs.map cP->CQ b:=λb hm=>by
  obtain⟨k,hk,rfl⟩:=List.mem_map.1 hm
  exact GR (hb k hk)
 refine⟨⟨?_,λb hm=>⟨(cC b hm).regs,(cC b hm).rok⟩⟩,cC⟩
 unfold eN at h
 simp only[aE,dE] at h
 simp;omega
theorem afm (h:Good t):t.text≠[]:=by grind [SQ]
theorem CP.short (h:CP t):t.text.length<=12000:=by
 have:=h.fits
 unfold Jz at this
 rw[aE,dE,dE,MT h.l4.wf] at this
 exact this.2
structure EH (s:ai) (t:aq):Prop where
 some:∀t',bB s=some t'->t=t'
 none:s=[]->bX t=[]
theorem Tv:bB []=none:=by decide
/-! ### Types -/
inductive Ty where
 |i
 |op (f:Bool) (a b:Ty)
def j7 (f:Bool):ai:=if f then[62] else[42]
def Ty.au:Ty->aq
 | .i=>bM [105]
 | .op f a b=>.mk [] [bM (j7 f),a.au,b.au]
def Ty.text (t:Ty):ai:=t.au.text
def Ty.n:Ty->Nat
 | .i=>1
 | .op _ a b=>1+a.n+b.n
theorem afn (f:Bool):Good (bM (j7 f)):=by cases f<;>exact .aw _ de de
theorem Ty.l4 (t:Ty):Good t.au:=by
 induction t with
 |i=>exact .aw _ de de
 |op f a b iha ihb=>
  refine .list _ sm λp hp=>?_
  simp only[mC,List.not_mem_nil,or_false] at hp
  rcases hp with rfl|rfl|rfl
  ·exact afn f
  ·exact iha
  ·exact ihb
theorem afo (f:Bool):(bM (j7 f)).text=j7 f:=by cases f<;>exact rB de
theorem Ty.Na:Ty.i.text=[105]:=rB de
theorem Ty.JI (f:Bool) (a b:Ty):(Ty.op f a b).text=40::(j7 f++32::(a.text++32::(b.text++[41]))):=by
 show(aq.mk [] [bM (j7 f),a.au,b.au]).text=_
 rw[s8,rD,rD,rC,afo]
 simp[Ty.text]
theorem Nb (f:Bool):(j7 f).length=1:=by cases f<;>rfl
theorem Ty.pos (t:Ty):1<=t.n:=by cases t<;>simp[Ty.n];omega
theorem Ty.len (t:Ty):t.text.length+3<=4*t.n:=by induction t<;>grind [Ty.Na,Ty.n,Ty.JI,Nb]
theorem Ty.deep (t:Ty):t.au.depth+1<=t.n:=by
 induction t with
 |i=>simp[Ty.au,bM,aq.depth,aq.depth.deeps,Ty.n]
 |op f a b iha ihb=>
  have h0:(bM (j7 f)).depth=0:=rfl
  have h1:=a.pos
  have h2:=b.pos
  show aq.depth.deeps [bM (j7 f),a.au,b.au]+1<=_
  simp only[aq.depth.deeps,h0,Ty.n]
  omega
theorem Ty.size (t:Ty):t.au.size<=5*t.n:=by
 induction t with
 |i=>simp[Ty.au,bM,aq.size,aq.size.sizes,Ty.n]
 |op f a b iha ihb=>
  have h0:(bM (j7 f)).size=2:=by cases f<;>rfl
  show 1+0+aq.size.sizes [bM (j7 f),a.au,b.au]<=_
  simp only[aq.size.sizes,h0,Ty.n];omega
theorem Ty.bB {t:Ty} (h:t.n<=60):bB t.text=some t.au:=MS t.l4 (by have:=t.deep;omega) (by have:=t.len;show t.text.length<=_;omega)
theorem Ty.ne (t:Ty):t.text≠[]:=afm t.l4
theorem GS:∀{t u:Ty},t.au=u.au->t=u
 | .i,.i,_=>rfl
 | .i,.op _ _ _,h=>by simp[Ty.au,bM] at h
 | .op _ _ _,.i,h=>by simp[Ty.au,bM] at h
 | .op f a b,.op g c d,h=>by
  simp only[Ty.au,aq.mk.injEq,true_and,List.cons.injEq,and_true] at h
  obtain⟨h1,h2,h3⟩:=h
  rw[GS h2,GS h3]
  cases f<;>cases g<;>first|rfl|(simp[bM,j7] at h1)
theorem Ty.inj {t u:Ty} (h:t.text=u.text):t=u:=GS (MR t.l4 u.l4 h)
/-! ### Forms that are types -/
mutual
def fy:aq->Nat
 | .mk a ps=>if a≠[] then 1 else jJ ps
def jJ:List aq->Nat
 |[]=>0
 |t::ts=>fy t+jJ ts
end
theorem Tw:∀(xs ys:List aq),jJ (xs++ys)=jJ xs+jJ ys:=by intro x;induction x<;>grind [jJ]
theorem Nc (t:aq):fy t=if t.aw≠[] then 1 else jJ t.ak:=by cases t with|mk a ps=>rw[fy];rfl
theorem Tx (h:ps[i]?=some p):jJ (ps.take (i+1))=jJ (ps.take i)+fy p:=by
 rw[List.take_add_one,h,Tw];simp[jJ]
mutual
theorem afp:∀t:aq,fy t<=t.size
 | .mk a ps=>by
  have:=Nd ps
  unfold fy
  simp only[aq.size]
  split<;>omega
theorem Nd:∀ps:List aq,jJ ps<=aq.size.sizes ps
 |[]=>by simp[jJ]
 |t::ts=>by
  have h1:=afp t
  have h2:=Nd ts
  simp only[jJ,aq.size.sizes];omega
end
theorem Nf {a:ai} (h:a≠[]):fy (bM a)=1:=by simp[fy,bM,h]
theorem Ty.fy (t:Ty):fy t.au=t.n:=by
 induction t with
 |i=>simp[Ty.au,Nf,Ty.n]
 |op f a b iha ihb=>
  have h0:Go.Proofs.YthbhobaiopccaaaGreatDoor.fy (bM (j7 f))=1:=Nf (by cases f<;>decide)
  show Go.Proofs.YthbhobaiopccaaaGreatDoor.fy (.mk [] [bM (j7 f),a.au,b.au])=_
  simp only[Go.Proofs.YthbhobaiopccaaaGreatDoor.fy,jJ,h0,iha,ihb,Ty.n]
  simp;omega
mutual
def pr:aq->Bool
 | .mk a ps=>if a≠[] then decide (a=[105]) else th ps
def th:List aq->Bool
 |[h,x,y]=>(decide (h.aw=[62])||decide (h.aw=[42]))&&(pr x&&pr y)
 |_=>false
end
theorem Tz (t:aq):pr t=if t.aw≠[] then decide (t.aw=[105]) else th t.ak:=by cases t with|mk a ps=>rw[pr];rfl
theorem afq (hw:WF t):pr t=true↔∃u:Ty,t=u.au:=by
 constructor
 ·intro h
  have key:∀m (t:aq),t.size<=m->WF t->pr t=true->∃u:Ty,t=u.au:=by
   intro m
   induction m with
   |zero=>intro t ht;have:=yL t;omega
   |succ m ih=>
    intro t hm hw h
    cases hw with
    |aw a ha=>
     simp only[pr,iP ha,dE] at h
     exact⟨.i,by rw[h];rfl⟩
    |list ps hp hw=>
     simp only[pr] at h
     rw[iN de] at h
     match ps,h with
     |[hd,x,y],h=>
      simp only[th,aE,oE,dE] at h
      obtain⟨hs,hx,hy⟩:=h
      simp only[aq.size,aq.size.sizes] at hm
      obtain⟨u,rfl⟩:=ih x om (hw x sm) hx
      obtain⟨v,rfl⟩:=ih y om (hw y sm) hy
      have nX:∀s:ai,s≠[]->hd.aw=s->hd=bM s:=λs oC e=>by
       have hwh:=hw hd sm
       cases hwh with
       |aw a ha=>cases e;rfl
       |list qs _ _=>exact absurd e.symm oC
      rcases hs with hs|hs
      ·exact⟨.op true u v,by rw[nX _ de hs];rfl⟩
      ·exact⟨.op false u v,by rw[nX _ de hs];rfl⟩
  exact key t.size t (lR _) hw h
 ·rintro⟨u,rfl⟩
  induction u with
  |i=>rfl
  |op f a b iha ihb=>
   show pr (.mk [] [bM (j7 f),a.au,b.au])=true
   have:=iha a.l4.wf
   have:=ihb b.l4.wf
   simp only[pr,th, *]
   cases f<;>simp[bM,j7,aq.aw]
def j8 (t:aq):Bool:=pr t&&decide (fy t<=16)
theorem AT (hw:WF t):j8 t=true↔∃u:Ty,t=u.au∧u.n<=16:=by
 unfold j8
 rw[aE,dE,afq hw]
 constructor
 ·rintro⟨⟨u,rfl⟩,h⟩;exact⟨u,rfl,by rw[<-u.fy];exact h⟩
 ·rintro⟨u,rfl,h⟩;exact⟨⟨u,rfl⟩,by rw[u.fy];exact h⟩
/-! ### Names -/
def dQ (s:ai):Bool:=decide (1<=s.length)&&decide (s.length<=4)&&(decide (97<=s.getD 0 0)&&decide (s.getD 0 0<=122))&&(s.drop 1).all iv
def qL (s:ai):Bool:=(numeral s).isSome||dQ s
theorem vR (h:dQ s=true):s≠[]:=by grind [dQ]
/-! ### Expressions -/
inductive Ex where
 |at(s:ai)
 |un (h:ai) (a:Ex)
 |bi (h:ai) (a b:Ex)
 |ite (a b c:Ex)
 |lt (x:ai) (a b:Ex)
 |fn (f x:ai) (A B:Ty) (e:Ex)
abbrev gJ:ai:=[105,102]
abbrev gv:ai:=[108,101,116]
abbrev gV:ai:=[102,117,110]
abbrev CR:ai:=[102,115,116]
abbrev rF:ai:=[115,110,100]
abbrev kr:ai:=[99,97,108,108]
abbrev yN:ai:=[112,97,105,114]
def Ex.au:Ex->aq
 | .at s=>bM s
 | .un h a=>.mk [] [bM h,a.au]
 | .bi h a b=>.mk [] [bM h,a.au,b.au]
 | .ite a b c=>.mk [] [bM gJ,a.au,b.au,c.au]
 | .lt x a b=>.mk [] [bM gv,bM x,a.au,b.au]
 | .fn f x A B e=>.mk [] [bM gV,bM f,bM x,A.au,B.au,e.au]
def gw (h:ai):Bool:=decide (h=CR)||decide (h=rF)
def gW (h:ai):Bool:=decide (h=[43])||decide (h=[45])||decide (h=[42])||decide (h=kr)||decide (h=yN)
def Ex.ok:Ex->Prop
 | .at s=>qL s=true
 | .un h a=>gw h=true∧a.ok
 | .bi h a b=>gW h=true∧a.ok∧b.ok
 | .ite a b c=>a.ok∧b.ok∧c.ok
 | .lt x a b=>dQ x=true∧a.ok∧b.ok
 | .fn f x A B e=>dQ f=true∧dQ x=true∧f≠x∧A.n<=16∧B.n<=16∧e.ok
def Ex.n:Ex->Nat
 | .at _=>1
 | .un _ a=>1+a.n
 | .bi _ a b=>1+a.n+b.n
 | .ite a b c=>1+a.n+b.n+c.n
 | .lt _ a b=>2+a.n+b.n
 | .fn _ _ A B e=>3+A.n+B.n+e.n
mutual
def dA:aq->Bool
 | .mk a ps=>if a≠[] then qL a else nY ps
def nY:List aq->Bool
 |[h,a]=>gw h.aw&&dA a
 |[h,a,b]=>gW h.aw&&(dA a&&dA b)
 |[h,a,b,c]=>if h.aw=gJ then dA a&&(dA b&&dA c) else if h.aw=gv then dQ a.aw&&(dA b&&dA c) else false
 |[h,f,x,A,B,e]=>decide (h.aw=gV)&&(dQ f.aw&&dQ x.aw&&decide (f.aw≠x.aw)&&j8 A&&j8 B&&dA e)
 |_=>false
end
theorem AU (hw:WF t) (hs:s≠[]) (e:t.aw=s):t=bM s:=by
 cases hw with
 |aw a ha=>cases e;rfl
 |list qs _ _=>exact absurd e.symm hs
theorem TH (k:gw h=true):h≠[]:=by rintro rfl;cases k
theorem TJ (k:gW h=true):h≠[]:=by rintro rfl;cases k
theorem p8 (k:qL s=true):s≠[]:=by rintro rfl;cases k
theorem afs (hw:WF t):dA t=true↔∃e:Ex,t=e.au∧e.ok:=by
 constructor
 ·intro h
  have key:∀m (t:aq),t.size<=m->WF t->dA t=true->∃e:Ex,t=e.au∧e.ok:=by
   intro m
   induction m with
   |zero=>intro t ht;have:=yL t;omega
   |succ m ih=>
    intro t hm hw h
    cases hw with
    |aw a ha=>
     simp only[dA,iP ha] at h
     exact⟨.at a,rfl,h⟩
    |list ps hp hw=>
     simp only[dA] at h
     rw[iN de] at h
     match ps,h with
     |[hd,x],h=>
      simp only[nY,aE] at h
      simp only[aq.size,aq.size.sizes] at hm
      obtain⟨u,rfl,hu⟩:=ih x om (hw x sm) h.2
      exact⟨.un hd.aw u,by rw[AU (hw hd sm) (TH h.1) rfl];rfl,h.1,hu⟩
     |[hd,x,y],h=>
      simp only[nY,aE] at h
      simp only[aq.size,aq.size.sizes] at hm
      obtain⟨u,rfl,hu⟩:=ih x om (hw x sm) h.2.1
      obtain⟨v,rfl,hv⟩:=ih y om (hw y sm) h.2.2
      exact⟨.bi hd.aw u v,by rw[AU (hw hd sm) (TJ h.1) rfl];rfl,h.1,hu,hv⟩
     |[hd,x,y,z],h=>
      simp only[nY] at h
      simp only[aq.size,aq.size.sizes] at hm
      split at h
      ·rename_i hh
       simp only[aE] at h
       obtain⟨u,rfl,hu⟩:=ih x om (hw x sm) h.1
       obtain⟨v,rfl,hv⟩:=ih y om (hw y sm) h.2.1
       obtain⟨q,rfl,hq⟩:=ih z om (hw z sm) h.2.2
       exact⟨.ite u v q,by rw[AU (hw hd sm) de hh];rfl,hu,hv,hq⟩
      ·split at h
       ·rename_i hh
        simp only[aE] at h
        obtain⟨v,rfl,hv⟩:=ih y om (hw y sm) h.2.1
        obtain⟨q,rfl,hq⟩:=ih z om (hw z sm) h.2.2
        exact⟨.lt x.aw v q,by rw[AU (hw hd sm) de hh,AU (hw x sm) (vR h.1) rfl];rfl,h.1,hv,hq⟩
       ·cases h
     |[hd,f,x,A,B,e],h=>
      simp only[nY,aE,dE] at h
      simp only[aq.size,aq.size.sizes] at hm
      obtain⟨hh,⟨⟨⟨⟨hf,hx⟩,dN⟩,hA⟩,hB⟩,he⟩:=h
      obtain⟨u,rfl,hu⟩:=ih e om (hw e sm) he
      obtain⟨tA,rfl,TK⟩:=(AT (hw A sm)).1 hA
      obtain⟨tB,rfl,JJ⟩:=(AT (hw B sm)).1 hB
      exact⟨.fn f.aw x.aw tA tB u,by rw[AU (hw hd sm) de hh,AU (hw f sm) (vR hf) rfl,AU (hw x sm) (vR hx) rfl];rfl,hf,hx,dN,TK,JJ,hu⟩
  exact key t.size t (lR _) hw h
 ·rintro⟨e,rfl,bh⟩
  clear hw
  induction e with
  |«at» s=>
   show dA (.mk s [])=true
   simp only[dA];rw[iP (p8 bh)];exact bh
  |un h a iha=>
   show dA (.mk [] [bM h,a.au])=true
   simp only[dA];rw[iN de]
   simp only[nY,aE]
   exact⟨bh.1,iha bh.2⟩
  |bi h a b iha ihb=>
   show dA (.mk [] [bM h,a.au,b.au])=true
   simp only[dA];rw[iN de]
   simp only[nY,aE]
   exact⟨bh.1,iha bh.2.1,ihb bh.2.2⟩
  |ite a b c iha ihb ihc=>
   show dA (.mk [] [bM gJ,a.au,b.au,c.au])=true
   simp only[dA];rw[iN de]
   simp only[nY]
   rw[iP (show(bM gJ).aw=gJ from rfl)]
   simp only[aE]
   exact⟨iha bh.1,ihb bh.2.1,ihc bh.2.2⟩
  |lt x a b iha ihb=>
   show dA (.mk [] [bM gv,bM x,a.au,b.au])=true
   simp only[dA];rw[iN de]
   simp only[nY]
   rw[iN (show¬(bM gv).aw=gJ by decide),iP (show(bM gv).aw=gv from rfl)]
   simp only[aE]
   exact⟨bh.1,iha bh.2.1,ihb bh.2.2⟩
  |fn f x A B e ih=>
   show dA (.mk [] [bM gV,bM f,bM x,A.au,B.au,e.au])=true
   obtain⟨hf,hx,dN,hA,hB,he⟩:=bh
   simp only[dA];rw[iN de]
   simp only[nY,aE,dE]
   exact⟨rfl,⟨⟨⟨⟨hf,hx⟩,dN⟩,(AT A.l4.wf).2 ⟨A,rfl,hA⟩⟩,(AT B.l4.wf).2 ⟨B,rfl,hB⟩⟩,ih he⟩
/-! ### Parts -/
def Ex.head:Ex->ai
 | .at _=>[]
 | .un h _=>h
 | .bi h _ _=>h
 | .ite _ _ _=>gJ
 | .lt _ _ _=>gv
 | .fn _ _ _ _ _=>gV
def Ex.from:Ex->Nat
 | .lt _ _ _=>2
 | .fn _ _ _ _ _=>5
 |_=>1
def Ex.kids:Ex->List Ex
 | .at _=>[]
 | .un _ a=>[a]
 | .bi _ a b=>[a,b]
 | .ite a b c=>[a,b,c]
 | .lt _ a b=>[a,b]
 | .fn _ _ _ _ e=>[e]
def Ex.binds:Ex->Nat->List ai
 | .lt x _ _,3=>[x]
 | .fn f x _ _ _,_=>[f,x]
 |_,_=>[]
def Ex.iQ:Ex->Bool
 | .at _=>true
 |_=>false
def fZ (e:Ex) (j:Nat):Ex:=e.kids.getD j (.at [])
theorem Ex.wf {e:Ex} (h:e.ok):Good e.au:=by
 have num:∀s:ai,qL s=true->s.all fa=true:=λs hs=>by
  unfold qL at hs
  rw[oE] at hs
  have Ng:∀c:UInt8,iv c=true->fa c=true:=λc hc=>by
   unfold iv at hc;unfold fa
   rw[hc];simp
  rcases hs with hs|hs
  ·cases hn:numeral s with
   |none=>rw[hn] at hs;cases hs
   |some z=>
    unfold numeral at hn
    split at hn
    ·rename_i e;rw[e];decide
    ·split at hn
     ·cases hn
     ·split at hn
      ·rename_i ha
       rw[List.all_eq_true] at ha⊢
       intro c hc
       unfold eC at ha
       split at ha
       ·rename_i hm
        cases s with
        |nil=>simp at hm
        |cons d r=>
         simp only[List.getD_cons_zero,List.drop_succ_cons,List.drop_zero] at hm ha
         rcases mC.1 hc with rfl|hc
         ·rw[hm.2];decide
         ·exact Ng c (ha c hc)
       ·exact Ng c (ha c hc)
      ·cases hn
  ·cases s with
   |nil=>rfl
   |cons c r=>
    simp only[dQ,aE,dE,List.getD_cons_zero,List.drop_succ_cons,List.drop_zero] at hs
    obtain⟨⟨_,h1,h2⟩,h3⟩:=hs
    rw[List.all_cons,aE]
    refine⟨?_,?_⟩
    ·unfold fa;simp[h1,h2]
    ·rw[List.all_eq_true] at h3⊢
     exact λd hd=>Ng d (h3 d hd)
 have nm:∀s:ai,dQ s=true->Good (bM s):=λs hs=>.aw _ (vR hs) (num s (by unfold qL;rw[hs];simp))
 induction e with
 |«at» s=>exact .aw _ (p8 h) (num s h)
 |un hd a iha=>
  refine .list _ sm λp hp=>?_
  simp only[mC,List.not_mem_nil,or_false] at hp
  rcases hp with rfl|rfl
  ·obtain⟨k,_⟩:=h
   simp only[gw,oE,dE] at k
   rcases k with k|k<;>(rw[k];exact .aw _ de de)
  ·exact iha h.2
 |bi hd a b iha ihb=>
  refine .list _ sm λp hp=>?_
  simp only[mC,List.not_mem_nil,or_false] at hp
  rcases hp with rfl|rfl|rfl
  ·obtain⟨k,_⟩:=h
   simp only[gW,oE,dE] at k
   rcases k with(((k|k)|k)|k)|k<;>(rw[k];exact .aw _ de de)
  ·exact iha h.2.1
  ·exact ihb h.2.2
 |ite a b c iha ihb ihc=>
  refine .list _ sm λp hp=>?_
  simp only[mC,List.not_mem_nil,or_false] at hp
  rcases hp with rfl|rfl|rfl|rfl
  ·exact .aw _ de de
  ·exact iha h.1
  ·exact ihb h.2.1
  ·exact ihc h.2.2
 |lt x a b iha ihb=>
  refine .list _ sm λp hp=>?_
  simp only[mC,List.not_mem_nil,or_false] at hp
  rcases hp with rfl|rfl|rfl|rfl
  ·exact .aw _ de de
  ·exact nm x h.1
  ·exact iha h.2.1
  ·exact ihb h.2.2
 |fn f x A B e ih=>
  refine .list _ sm λp hp=>?_
  simp only[mC,List.not_mem_nil,or_false] at hp
  obtain⟨hf,hx,_,_,_,he⟩:=h
  rcases hp with rfl|rfl|rfl|rfl|rfl|rfl
  ·exact .aw _ de de
  ·exact nm f hf
  ·exact nm x hx
  ·exact A.l4
  ·exact B.l4
  ·exact ih he
theorem Ex.ak {e:Ex} (h:e.iQ=false):e.au.aw=[]∧e.au.ak.length=e.from+e.kids.length∧(nth e.au.ak 0).aw=e.head∧∀j,j<e.kids.length->nth e.au.ak (e.from+j)=(fZ e j).au:=by
 cases e with
 |«at» s=>cases h
 |un hd a=>exact⟨rfl,rfl,rfl,λj hj=>by
  have:j=0:=by simp[Ex.kids] at hj;omega
  subst this;rfl⟩
 |bi hd a b=>
  refine⟨rfl,rfl,rfl,λj hj=>?_⟩
  simp only[Ex.kids,lC,List.length_nil] at hj
  rcases(show j=0∨j=1 by omega) with rfl|rfl<;>rfl
 |ite a b c=>
  refine⟨rfl,rfl,rfl,λj hj=>?_⟩
  simp only[Ex.kids,lC,List.length_nil] at hj
  rcases(show j=0∨j=1∨j=2 by omega) with rfl|rfl|rfl<;>rfl
 |lt x a b=>
  refine⟨rfl,rfl,rfl,λj hj=>?_⟩
  simp only[Ex.kids,lC,List.length_nil] at hj
  rcases(show j=0∨j=1 by omega) with rfl|rfl<;>rfl
 |fn f x A B e=>exact⟨rfl,rfl,rfl,λj hj=>by
  have:j=0:=by simp[Ex.kids] at hj;omega
  subst this;rfl⟩
theorem Ex.pos (e:Ex):1<=e.n:=by cases e<;>simp[Ex.n]<;>omega
theorem Ex.fy {e:Ex} (h:e.ok):fy e.au=e.n:=by
 have yO:∀s:ai,s≠[]->Go.Proofs.YthbhobaiopccaaaGreatDoor.fy (bM s)=1:=λs hs=>Nf hs
 have nl:∀ps:List aq,Go.Proofs.YthbhobaiopccaaaGreatDoor.fy (.mk [] ps)=jJ ps:=λps=>by simp[Go.Proofs.YthbhobaiopccaaaGreatDoor.fy]
 induction e with
 |«at» s=>exact yO s (p8 h)
 |un hd a iha=>show Go.Proofs.YthbhobaiopccaaaGreatDoor.fy (.mk [] [bM hd,a.au])=_;rw[nl];simp only[jJ,yO hd (TH h.1),iha h.2,Ex.n];omega
 |bi hd a b iha ihb=>show Go.Proofs.YthbhobaiopccaaaGreatDoor.fy (.mk [] [bM hd,a.au,b.au])=_;rw[nl];simp only[jJ,yO hd (TJ h.1),iha h.2.1,ihb h.2.2,Ex.n];omega
 |ite a b c iha ihb ihc=>show Go.Proofs.YthbhobaiopccaaaGreatDoor.fy (.mk [] [bM gJ,a.au,b.au,c.au])=_;rw[nl];simp only[jJ,yO gJ de,iha h.1,ihb h.2.1,ihc h.2.2,Ex.n];omega
 |lt x a b iha ihb=>show Go.Proofs.YthbhobaiopccaaaGreatDoor.fy (.mk [] [bM gv,bM x,a.au,b.au])=_;rw[nl];simp only[jJ,yO gv de,yO x (vR h.1),iha h.2.1,ihb h.2.2,Ex.n];omega
 |fn f x A B e ih=>
  obtain⟨hf,hx,_,_,_,he⟩:=h
  show Go.Proofs.YthbhobaiopccaaaGreatDoor.fy (.mk [] [bM gV,bM f,bM x,A.au,B.au,e.au])=_
  rw[nl];simp only[jJ,yO gV de,yO f (vR hf),yO x (vR hx),A.fy,B.fy,ih he,Ex.n];omega
theorem GU {e:Ex} (h:e.ok) {j:Nat} (hj:j<e.kids.length):(fZ e j).ok∧(fZ e j).n<e.n:=by cases e<;>grind [Ex.ok,fZ,Ty.n,Ex.n,Ex.kids]
def dZ (h:ai):Nat×Nat:=
 if gW h then(1,3) else if h=gJ then(1,4) else if h=gv then(2,4) else if h=gV then(5,6) else if gw h then(1,2) else(0,0)
theorem Nh {e:Ex} (h:e.ok) (ha:e.iQ=false):dZ e.head=(e.from,e.from+e.kids.length):=by
 cases e with
 |«at» s=>cases ha
 |un hd a=>
  obtain⟨k,_⟩:=h
  simp only[gw,oE,dE] at k
  rcases k with k|k<;>(subst k;rfl)
 |bi hd a b=>show dZ hd=_;unfold dZ;rw[h.1];rfl
 |ite a b c=>rfl
 |lt x a b=>rfl
 |fn f x A B e=>rfl
/-! ### Free aL -/
def Fv (x:ai):Ex->Prop
 | .at s=>s=x∧dQ x=true
 | .un _ a=>Fv x a
 | .bi _ a b=>Fv x a∨Fv x b
 | .ite a b c=>Fv x a∨Fv x b∨Fv x c
 | .lt y a b=>Fv x a∨(x≠y∧Fv x b)
 | .fn f y _ _ e=>x≠f∧x≠y∧Fv x e
def cM:Ex->List ai->List ai->List ai
 | .at s,bd,l=>if(!dQ s||decide (s∈bd)||decide (s∈l))=true then l else l++[s]
 | .un _ a,bd,l=>cM a bd l
 | .bi _ a b,bd,l=>cM b bd (cM a bd l)
 | .ite a b c,bd,l=>cM c bd (cM b bd (cM a bd l))
 | .lt x a b,bd,l=>cM b (bd++[x]) (cM a bd l)
 | .fn f x _ _ e,bd,l=>cM e (bd++[f,x]) l
theorem CS (x:ai):∀(e:Ex) (bd l:List ai),x∈cM e bd l↔x∈l∨(Fv x e∧x∉bd):=by intro x;induction x<;>grind [cM,Fv,dQ]
theorem aft:∀(e:Ex) (bd l:List ai),l.Nodup->(cM e bd l).Nodup:=by intro x;induction x<;>grind [cM]
theorem Ni:∀(e:Ex) (bd l:List ai),(cM e bd l).length<=l.length+e.n:=by intro x;induction x<;>grind [cM,Ty.n,Ex.n]
def qM (e:Ex) (bd l:List ai):Nat->List ai
 |0=>l
 |j+1=>cM (fZ e j) (bd++e.binds (e.from+j)) (qM e bd l j)
theorem afu {e:Ex} (ha:e.iQ=false) (bd l:List ai):cM e bd l=qM e bd l e.kids.length:=by cases e<;>simp_all[Ex.iQ,cM,qM,Ex.kids,fZ,Ex.binds,Ex.from]
def j9 (x:ai):Ex->Nat
 | .at s=>if s=x then 1 else 0
 | .un _ a=>j9 x a
 | .bi _ a b=>j9 x a+j9 x b
 | .ite a b c=>j9 x a+j9 x b+j9 x c
 | .lt y a b=>j9 x a+if x=y then 0 else j9 x b
 | .fn f y _ _ e=>if x=f∨x=y then 0 else j9 x e
theorem afv (hx:dQ x=true):∀e:Ex,0<j9 x e↔Fv x e:=by intro x;induction x<;>grind [dQ,j9,Fv]
theorem count_le (x:ai):∀e:Ex,j9 x e<=e.n:=by intro x;induction x<;>grind [j9,Ty.n,Ex.n]
def AV (x:ai) (e:Ex):Nat->Nat
 |0=>0
 |j+1=>AV x e j+if x∈e.binds (e.from+j) then 0 else j9 x (fZ e j)
theorem TL {e:Ex} (ha:e.iQ=false) (x:ai):j9 x e=AV x e e.kids.length:=by cases e<;>simp_all[Ex.iQ,j9,AV,Ex.kids,fZ,Ex.binds,Ex.from]
/-! ### Types of expressions -/
abbrev Sc:=List (ai×Ty)
def look (Γ:Sc) (s:ai):Option Ty:=(Γ.reverse.find? λp=>decide (p.1=s)).map Prod.snd
theorem pw (Γ:Sc) (x s:ai) (T:Ty):look (Γ++[(x,T)]) s=if x=s then some T else look Γ s:=by grind [look]
theorem AW (Γ:Sc) (f x s:ai) (T U:Ty):look (Γ++[(f,T),(x,U)]) s=if x=s then some U else if f=s then some T else look Γ s:=by grind [look]
def kU (a b:Ty):Bool:=decide (a.text=b.text)
theorem afw {a b:Ty}:kU a b=true↔a=b:=by grind [kU,Ty.inj]
def kV (h:ai):List Ty->Option Ty
 |[a]=>match a with
  | .op false c d=>if h=CR then some c else if h=rF then some d else none
  |_=>none
 |[a,b]=>
  if h=kr then match a with
   | .op true c d=>if kU c b then some d else none
   |_=>none
  else if h=yN then(if 1+a.n+b.n<=16 then some (.op false a b) else none)
  else if kU a .i&&kU b .i then some .i else none
 |[a,b,c]=>if kU a .i&&kU b c then some b else none
 |_=>none
def bA:Ex->Sc->Option Ty
 | .at s,Γ=>if dQ s then look Γ s else some .i
 | .un h a,Γ=>(bA a Γ).bind λA=>kV h [A]
 | .bi h a b,Γ=>(bA a Γ).bind λA=>(bA b Γ).bind λB=>kV h [A,B]
 | .ite a b c,Γ=>(bA a Γ).bind λA=>(bA b Γ).bind λB=>(bA c Γ).bind λC=>kV gJ [A,B,C]
 | .lt x a b,Γ=>(bA a Γ).bind λA=>bA b (Γ++[(x,A)])
 | .fn f x A B e,Γ=>if 1+A.n+B.n<=16 then(bA e (Γ++[(f,.op true A B),(x,A)])).bind λC=>if kU C B then some (.op true A B) else none else none
theorem qN:∀(e:Ex) (Γ Δ:Sc),(∀s,dQ s=true->Fv s e->look Γ s=look Δ s)->bA e Γ=bA e Δ
 | .at s,Γ,Δ,h=>by
  unfold bA
  by_cases hn:dQ s=true
  ·rw[iP hn,iP hn];exact h s hn ⟨rfl,hn⟩
  ·rw[iN hn,iN hn]
 | .un hd a,Γ,Δ,h=>by unfold bA;rw[qN a Γ Δ h]
 | .bi hd a b,Γ,Δ,h=>by unfold bA;rw[qN a Γ Δ λs hn hs=>h s hn (.inl hs),qN b Γ Δ λs hn hs=>h s hn (.inr hs)]
 | .ite a b c,Γ,Δ,h=>by unfold bA;rw[qN a Γ Δ λs hn hs=>h s hn (.inl hs),qN b Γ Δ λs hn hs=>h s hn (.inr (.inl hs)),qN c Γ Δ λs hn hs=>h s hn (.inr (.inr hs))]
 | .lt x a b,Γ,Δ,h=>by
  unfold bA
  rw[qN a Γ Δ λs hn hs=>h s hn (.inl hs)]
  cases bA a Δ with
  |none=>rfl
  |some A=>
   refine qN b _ _ λs hn hs=>?_
   rw[pw,pw]
   by_cases e:x=s
   ·rw[iP e,iP e]
   ·rw[iN e,iN e];exact h s hn (.inr ⟨λe'=>e e'.symm,hs⟩)
 | .fn f x A B e,Γ,Δ,h=>by
  unfold bA
  rw[qN e _ (Δ++[(f,.op true A B),(x,A)]) λs hn hs=>?_]
  rw[AW,AW]
  by_cases e1:x=s
  ·rw[iP e1,iP e1]
  ·by_cases e2:f=s
   ·rw[iN e1,iN e1,iP e2,iP e2]
   ·rw[iN e1,iN e1,iN e2,iN e2];exact h s hn ⟨λe'=>e2 e'.symm,λe'=>e1 e'.symm,hs⟩
def yP (Γ:Sc):Prop:=∀s T,look Γ s=some T->T.n<=16
theorem GV {Γ:Sc} (h:yP Γ) {T:Ty} (hT:T.n<=16):yP (Γ++[(x,T)]):=by grind [yP,Ty.n,Ex.n,pw]
theorem Nj:∀{ks:List Ty} {T:Ty},(∀k,k∈ks->k.n<=16)->kV h ks=some T->T.n<=16
 |[],T,_,e=>by cases e
 |[a],T,hk,e=>by
  have ha:=hk a sm
  cases a with
  |i=>cases e
  |op f c d=>
   cases f with
   |true=>cases e
   |false=>
    simp only[Ty.n] at ha
    simp only[kV] at e
    split at e
    ·cases e;omega
    ·split at e
     ·cases e;omega
     ·cases e
 |[a,b],T,hk,e=>by
  have ha:=hk a sm
  have hb:=hk b sm
  simp only[kV] at e
  split at e
  ·cases a with
   |i=>cases e
   |op f c d=>
    cases f with
    |false=>cases e
    |true=>
     simp only at e
     split at e
     ·cases e;simp only[Ty.n] at ha;omega
     ·cases e
  ·split at e
   ·split at e
    ·rename_i hc;cases e;simpa[Ty.n] using hc
    ·cases e
   ·split at e
    ·cases e;decide
    ·cases e
 |[a,b,c],T,hk,e=>by
  simp only[kV] at e
  split at e
  ·cases e;exact hk b sm
  ·cases e
 |_::_::_::_::_,T,_,e=>by cases e
theorem l5:∀{e:Ex} {Γ:Sc} {T:Ty},yP Γ->bA e Γ=some T->T.n<=16
 | .at s,Γ,T,hΓ,h=>by
  unfold bA at h
  split at h
  ·exact hΓ s T h
  ·cases h;decide
 | .un hd a,Γ,T,hΓ,h=>by
  unfold bA at h
  cases ha:bA a Γ with
  |none=>rw[ha] at h;cases h
  |some A=>
   rw[ha,Option.bind_some] at h
   exact Nj (λk hk=>by simp at hk;rw[hk];exact l5 hΓ ha) h
 | .bi hd a b,Γ,T,hΓ,h=>by
  unfold bA at h
  cases ha:bA a Γ with
  |none=>rw[ha] at h;cases h
  |some A=>
   cases hb:bA b Γ with
   |none=>rw[ha,hb] at h;cases h
   |some B=>
    rw[ha,hb,Option.bind_some,Option.bind_some] at h
    exact Nj (λk hk=>by simp at hk;rcases hk with rfl|rfl;exact l5 hΓ ha;exact l5 hΓ hb) h
 | .ite a b c,Γ,T,hΓ,h=>by
  unfold bA at h
  cases ha:bA a Γ with
  |none=>rw[ha] at h;cases h
  |some A=>
   cases hb:bA b Γ with
   |none=>rw[ha,hb] at h;cases h
   |some B=>
    cases hc:bA c Γ with
    |none=>rw[ha,hb,hc] at h;cases h
    |some C=>
     rw[ha,hb,hc,Option.bind_some,Option.bind_some,Option.bind_some] at h
     exact Nj (λk hk=>by simp at hk;rcases hk with rfl|rfl|rfl;exact l5 hΓ ha;exact l5 hΓ hb;exact l5 hΓ hc) h
 | .lt x a b,Γ,T,hΓ,h=>by
  unfold bA at h
  cases ha:bA a Γ with
  |none=>rw[ha] at h;cases h
  |some A=>
   rw[ha,Option.bind_some] at h
   exact l5 (GV hΓ (l5 hΓ ha)) h
 | .fn f x A B e,Γ,T,hΓ,h=>by
  unfold bA at h
  split at h
  ·rename_i hc
   cases he:bA e (Γ++[(f,.op true A B),(x,A)]) with
   |none=>rw[he] at h;cases h
   |some C=>
    rw[he,Option.bind_some] at h
    split at h
    ·cases h;simpa[Ty.n] using hc
    ·cases h
  ·cases h
end Go.Proofs.YthbhobaiopccaaaGreatDoor
