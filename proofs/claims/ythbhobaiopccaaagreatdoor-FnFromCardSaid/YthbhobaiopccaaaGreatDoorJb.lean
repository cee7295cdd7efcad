/- Lemmas for the law FnFrom, no statement of their own: no conditions. -/
import Derived.Test.YthbhobaiopccaaaGreatDoorJa
import Derived.KernelRfl
import Derived.Lib.Atoi
import Derived.Lib.Strings
import Derived.Test.YthbhobaiopccaaaGreatDoorProg
set_option maxHeartbeats 4000000
set_option linter.unusedVariables false
set_option linter.unusedSimpArgs false
namespace Go.Proofs.YthbhobaiopccaaaGreatDoor
open Go
variable {B E U bytes d i k n1 n2 sz:Nat} {L L':List Nat} {w w':World} {v z:Value} {g gb:Option Nat} {rows:List (List C)} {b:Bk} {p t u:aq} {ps ts:List aq} {h l r s x:aj} {P:Program} {bs:List Bk} {xs:List aj} {gss:List (Option Nat×Option Nat)} {vss:List (List Value)} {c:UInt8} {a:Prop}
structure Gr (B:Nat) (L:List Nat) (w:World) (T:TypeId) (sz:Nat) (v:Value) (g:Option Nat) (rows:List (List C)):Prop where
 own:∃xs,gS L w T sz v g rows xs
 low:∀b,g=some b->B<=b
 cN:∀x,x∈L->x<w.heap.size
 bsz:B<=w.heap.size
theorem Gr.nil {T:TypeId} (hL:∀x,x∈L->x<w.heap.size) (hB:B<=w.heap.size):Gr B L w T sz (.slice none 0 0) none []:=
 ⟨⟨[],gS.nil _ _ _ _⟩,sm,hL,hB⟩
theorem Gr.aG {T:TypeId} (h:Gr B L w T sz v g rows) (k:ak L' w w') (hL:∀x,x∈L'->x∈L):Gr B L w' T sz v g rows:=
 ⟨h.own.imp λ_ h=>h.aG k hL,h.low,λx hx=>lL (h.cN x hx) k.size,Nat.le_trans h.bsz k.size⟩
theorem Gr.ext {T:TypeId} (h:Gr B L w T sz v g rows) (k:ak [] w w'):Gr B L w' T sz v g rows:=h.aG k sm
theorem Gr.aD {T:TypeId} (h:Gr B L w T sz v g rows) (k:ak L' w w') (hL:∀x,x∈L'->x∈L):Gr B L w' T sz v g rows:=h.aG k hL
theorem Gr.alloc {T:TypeId} (h:Gr B L w T sz v g rows) (k:ak [] w w') (hz:w'.heap.size=w.heap.size+1):Gr B (w.heap.size::L) w' T sz v g rows:=
 ⟨h.own.imp λ_ h=>(h.more yd).aG k sm,h.low,λx hx=>by rcases mC.1 hx with rfl|hx;omega;have:=h.cN x hx;omega,Nat.le_trans h.bsz k.size⟩
theorem Gr.fV {T:TypeId} (h:Gr B L w T sz v g rows) (hL:∀x,x∈L'->x∈L):Gr B L' w T sz v g rows:=
 ⟨h.own.imp λ_ h=>h.more λx hx=>.inl (hL x hx),h.low,λx hx=>h.cN x (hL x hx),h.bsz⟩
theorem Gr.done {T:TypeId} (h:Gr B L w T sz v g rows):ck L w v (.sl sz rows):=by
 obtain⟨_,h⟩:=h.own;exact h.done
theorem Gr.vg {T:TypeId} (h:Gr B L w T sz v g rows) {b:Nat} (hb:b∈L):b∉g.toList:=by
 obtain⟨_,h⟩:=h.own;exact h.sep hb
theorem Gr.Gh {T:TypeId} (h:Gr B L w T sz v g rows) {b:Nat} (hb:b<B):b∉g.toList:=by
 intro hx;have:=h.low b (by simpa using hx);omega
theorem Gr.lt {T:TypeId} (h:Gr B L w T sz v g rows):∀x,x∈g.toList->x<w.heap.size:=by
 obtain⟨_,h⟩:=h.own;intro x hx;exact h.own.lt x (by simpa using hx)
theorem Gr.all {T:TypeId} (h:Gr B L w T sz v g rows):∀x,x∈g.toList++L->x<w.heap.size:=by
 intro x hx
 rcases mA.1 hx with hx|hx
 ·exact h.lt x hx
 ·exact h.cN x hx
theorem Gr.since {w0:World} {T:TypeId} (h:Gr w0.heap.size L w T sz v g rows) (k0:ak L' w0 w) (k:ak g.toList w w'):ak L' w0 w':=
 k0.since k λx hx=>.inr (h.low x (by simpa using hx))
theorem ak.Cq {w0:World} (hB:w0.heap.size<=B) (hl:∀b,g=some b->B<=b) (k0:ak L' w0 w) (k:ak g.toList w w'):ak L' w0 w':=
 k0.since k λx hx=>.inr (Nat.le_trans hB (hl x (by simpa using hx)))
section
variable {P:Program} {n:Nat} {ops:Array Oper} {K:Env->World->Prop} {rest:List Oper} {e:Env} {w:World}
 {dst:Option Nat} {ty:TypeId} {pos:String} {after:Array Edge} {g:Option (Nat×Bool)} {x y:Operand}
theorem Gi {B:Nat} {L:List Nat} {t:Nat} {v:Value} {gb:Option Nat} {rows:List (List C)} {row:List C} {news:List Value} {b U:Nat} (hT:P.underlying t=some (.slice E)) (hE:TI P E sz bytes z) (hg:gate ops e g=true) (hd:cC n dst=true) (hz:Nat.beq z.cells.size sz=true) (gm:Nat.ble bytes 1000=true) 
  (hx:ev e x=v) (hy:ev e y= .slice (some ⟨b,0,none⟩) 1 1) (hO:Gr B L w E sz v gb rows) (hb:aL w b news.toArray U) (gR:row.length=sz) (h1:news.all Value.oneCell'=true)
  (hr:dd (gb.toList++L) w news row) (hn:rows.length<100000000)
  (k:∀a' cap' g' w',Gr B L w' E sz (.slice a' (rows.length+1) cap') g' (rows++[row])->ak gb.toList w w'->OW P n ops K rest (bY e dst (.slice a' (rows.length+1) cap')) w'):
  OW P n ops K (⟨dst,.call {callee:=.builtin .append,args:=#[x,y],argTypes:=#[t,t]},ty,pos,after,g⟩::rest) e w:=by
 obtain⟨xs,hR⟩:=hO.own
 have Aj:bytes<=1000:=Nat.le_of_ble_eq_true gm
 refine Rj hT hE hg hd hz hx hy hR gR hb.all (λu hu=>List.all_eq_true.1 h1 u hu) hr hO.cN (Nat.le_trans (Nat.mul_le_mul (show rows.length+1<=100000000 by omega) (show bytes+1<=1001 by omega)) de) ?_
 intro a' cap' g' w' jj hk jZ
 refine k a' cap' g' w' ⟨⟨_,jj⟩,λb hb=>?_,λx hx=>lL (hO.cN x hx) hk.size,Nat.le_trans hO.bsz hk.size⟩ hk
 rcases jZ with h|h
 ·rw[h] at hb;exact hO.low b hb
 ·rw[h] at hb;cases hb;exact hO.bsz
theorem Gj {B:Nat} {L:List Nat} {t:Nat} {v u1 u2:Value} {gb:Option Nat} {ts:List aq} {f:aq} {b U:Nat} (hT:P.underlying t=some (.slice E)) (hE:TI P E 2 bytes z) (hg:gate ops e g=true) (hd:cC n dst=true) (hz:Nat.beq z.cells.size 2=true) (gm:Nat.ble bytes 1000=true) 
  (hx:ev e x=v) (hy:ev e y= .slice (some ⟨b,0,none⟩) 1 1) (hO:Gr B L w E 2 v gb (cQ ts)) (hb:aL w b [u1,u2].toArray U)
  (hr:bh (gb.toList++L) w (.agg #[u1,u2]) f) (hn:ts.length<100000000)
  (k:∀a' cap' g' w',Gr B L w' E 2 (.slice a' (ts++[f]).length cap') g' (cQ (ts++[f]))->ak gb.toList w w'->OW P n ops K rest (bY e dst (.slice a' (ts++[f]).length cap')) w'):
  OW P n ops K (⟨dst,.call {callee:=.builtin .append,args:=#[x,y],argTypes:=#[t,t]},ty,pos,after,g⟩::rest) e w:=by
 refine Gi hT hE hg hd hz gm hx hy hO hb (o5 f) ?_ hr.ji (by rw[gK];exact hn) ?_
 ·rw[List.all_eq_true]
  refine λu hu=>dd.Gf hr.ji (λc hc v hv=>?_) u hu
  cases f;rw[aq.enc] at hc
  simp only[mC,List.not_mem_nil,or_false] at hc
  rcases hc with h|h
  ·rw[h] at hv;cases hv;rfl
  ·rw[h] at hv;cases hv
 ·intro a' cap' g' w' jj hk
  have e1:(cQ ts).length+1=(ts++[f]).length:=by simp[gK]
  have e2:cQ ts++[f.enc]=cQ (ts++[f]):=by simp[Mf,cQ]
  rw[e1] at jj⊢
  rw[e2] at jj
  exact k a' cap' g' w' jj hk
theorem Mh {B:Nat} {L:List Nat} {t:Nat} {v:Value} {gb:Option Nat} {ss:List aj} {s:aj} {b U:Nat} (hT:P.underlying t=some (.slice E)) (hE:TI P E 1 bytes z) (hg:gate ops e g=true) (hd:cC n dst=true) (hz:Nat.beq z.cells.size 1=true) (gm:Nat.ble bytes 1000=true) 
  (hx:ev e x=v) (hy:ev e y= .slice (some ⟨b,0,none⟩) 1 1) (hO:Gr B L w E 1 v gb (gL ss)) (hb:aL w b [str s].toArray U) (hn:ss.length<100000000)
  (k:∀a' cap' g' w',Gr B L w' E 1 (.slice a' (ss++[s]).length cap') g' (gL (ss++[s]))->ak gb.toList w w'->OW P n ops K rest (bY e dst (.slice a' (ss++[s]).length cap')) w'):
  OW P n ops K (⟨dst,.call {callee:=.builtin .append,args:=#[x,y],argTypes:=#[t,t]},ty,pos,after,g⟩::rest) e w:=by
 refine Gi (row:=[.val (str s)]) hT hE hg hd hz gm hx hy hO hb rfl rfl ⟨.val _,trivial⟩ (by rw[qA];exact hn) ?_
 intro a' cap' g' w' jj hk
 have e1:(gL ss).length+1=(ss++[s]).length:=by simp[qA]
 have e2:gL ss++[[.val (str s)]]=gL (ss++[s]):=by simp[gL]
 rw[e1] at jj⊢
 rw[e2] at jj
 exact k a' cap' g' w' jj hk
end
theorem Rt {P:Program} {T:Nat} (hT:P.underlying T=some (.slice E)) (hE:TI P E sz bytes z):(Instr.buildSlice T 0 #[]).run P w= .ok (.slice (some ⟨w.heap.size,0,none⟩) 0 0) (w.alloc (.cells #[] E)):=by
 simp[Instr.buildSlice,Sem.run_bind,run_underlying hT,Result.andThen_ok,hE.tL,Instr.fill,newRow];congr 2;apply Array.ext<;>simp
theorem tQ {P:Program} {n:Nat} {ops:Array Oper} {K:Env->World->Prop} {rest:List Oper} {e:Env} {w:World} {dst:Option Nat} {ty:TypeId} {pos:String} {after:Array Edge} {g:Option (Nat×Bool)} 
  {T E sz bytes:Nat} {z:Value} (B:Nat) (L:List Nat) (hT:P.underlying T=some (.slice E)) (hE:TI P E sz bytes z) (hg:gate ops e g=true) (hd:cC n dst=true) (hB:B<=w.heap.size) (hL:∀x,x∈L->x<w.heap.size)
  (k:∀w',ak [] w w'->w'.heap.size=w.heap.size+1->Gr B L w' E sz (.slice (some ⟨w.heap.size,0,none⟩) 0 0) (some w.heap.size) []->OW P n ops K rest (bY e dst (.slice (some ⟨w.heap.size,0,none⟩) 0 0)) w'):
  OW P n ops K (⟨dst,.buildSlice T 0 #[],ty,pos,after,g⟩::rest) e w:=
 fA hg hd (w':=w.alloc (.cells #[] E)) (by simp[execOp,Rt (P:=P) (w:=w) hT hE])
  (k _ (ak.alloc _ _ _) sm ⟨⟨[],⟨by simp,.inr ⟨w.heap.size,0,#[],rfl,rfl,aL.alloc _ _ _,lR _,by decide,sm,sm⟩⟩,trivial,sm,by intro b hb hx;cases hb;have:=hL _ hx;omega⟩,
   by intro b hb;cases hb;exact hB,λx hx=>by have:=hL x hx;simp;omega,by simp;omega⟩)
theorem nN.ji {x y:Value} (h:nN L w (.agg #[x,y,z]) b):dd L w [x,y,z] b.enc:=by
 obtain⟨vs,he,hr⟩:=h
 have hv:vs=[x,y,z]:=by
  have:=congrArg (λv=>match v with|Value.agg x=>x.toList|_=>[]) he
  simpa using this.symm
 rw[<-hv];exact hr
theorem Ru {P:Program} {n:Nat} {ops:Array Oper} {K:Env->World->Prop} {rest:List Oper} {e:Env} {w:World} {dst:Option Nat} {ty:TypeId} {pos:String} {after:Array Edge} {g:Option (Nat×Bool)} {x y:Operand} 
  {B:Nat} {L:List Nat} {t E bytes:Nat} {z:Value} {v u1 u2 u3:Value} {gb:Option Nat} {ts:List Bk} {f:Bk} {b U:Nat} (hT:P.underlying t=some (.slice E)) (hE:TI P E 3 bytes z) (hg:gate ops e g=true) (hd:cC n dst=true) (hz:Nat.beq z.cells.size 3=true) (gm:Nat.ble bytes 1000=true)
  (hx:ev e x=v) (hy:ev e y= .slice (some ⟨b,0,none⟩) 1 1) (hO:Gr B L w E 3 v gb (ts.map Bk.enc)) (hb:aL w b [u1,u2,u3].toArray U)
  (hr:nN (gb.toList++L) w (.agg #[u1,u2,u3]) f) (hn:ts.length<100000000)
  (k:∀a' cap' g' w',Gr B L w' E 3 (.slice a' (ts++[f]).length cap') g' ((ts++[f]).map Bk.enc)->ak gb.toList w w'->OW P n ops K rest (bY e dst (.slice a' (ts++[f]).length cap')) w'):
  OW P n ops K (⟨dst,.call {callee:=.builtin .append,args:=#[x,y],argTypes:=#[t,t]},ty,pos,after,g⟩::rest) e w:=by
 refine Gi hT hE hg hd hz gm hx hy hO hb rfl ?_ hr.ji (by simpa using hn) ?_
 ·rw[List.all_eq_true]
  refine λu hu=>dd.Gf hr.ji (λc hc v hv=>?_) u hu
  rw[Bk.enc] at hc
  simp only[mC,List.not_mem_nil,or_false] at hc
  rcases hc with h|h|h
  ·rw[h] at hv;cases hv;rfl
  ·rw[h] at hv;cases hv
  ·rw[h] at hv;cases hv
 ·intro a' cap' g' w' jj hk
  have e1:(ts.map Bk.enc).length+1=(ts++[f]).length:=by simp
  have e2:ts.map Bk.enc++[f.enc]=(ts++[f]).map Bk.enc:=by simp
  rw[e1] at jj⊢
  rw[e2] at jj
  exact k a' cap' g' w' jj hk
theorem Gr.tR {T:TypeId} (h:Gr B L w T 3 v g (bs.map Bk.enc)):mO L w v bs:=h.done
/-! ### Owned lists of texts,owned programs -/
def cE (w:World) (T:TypeId) (v:Value) (g:Option Nat) (xs:List aj):Prop:=im w T 1 v g xs.length (xs.map λx=>str x)
theorem Rv:∀{xs:List aj} {vs:List Value},dd L w vs (gL xs).flatten->vs=xs.map λx=>str x
 |[],vs,h=>by
  cases vs with
  |nil=>rfl
  |cons v vs=>exact h.elim
 |x::xs,vs,h=>by
  cases vs with
  |nil=>exact h.elim
  |cons v vs=>
   obtain⟨h1,h2⟩:=h
   cases h1
   rw[List.map_cons,<-Rv (xs:=xs) h2]
theorem Rw:∀xs:List aj,dd L w (xs.map λx=>str x) (gL xs).flatten
 |[]=>trivial
 |_::xs=>⟨.val _,Rw xs⟩
theorem Gr.vh {T:TypeId} (h:Gr B L w T 1 v g (gL xs)):cE w T v g xs:=by
 obtain⟨vs,h⟩:=h.own
 have:=h.own
 rw[Rv h.rep,qA] at this
 exact this
theorem cE.ZW {T:TypeId} (h:cE w T v g xs) (hL:∀b,g=some b->b∉L):gS L w T 1 v g (gL xs) (xs.map λx=>str x):=
 ⟨by rw[qA];exact h,Rw xs,by intro row hr;simp[gL] at hr;obtain⟨_,_,rfl⟩:=hr;rfl,hL⟩
theorem cE.rep {T:TypeId} (h:cE w T v g xs) (hL:∀b,g=some b->b∉L):bg L w v xs:=(h.ZW hL).done
theorem cE.aG {T:TypeId} (h:cE w T v g xs) (k:ak L w w') (hL:∀b,g=some b->b∉L):cE w' T v g xs:=im.aG h k hL
theorem cE.ext {T:TypeId} (h:cE w T v g xs) (k:ak [] w w'):cE w' T v g xs:=h.aG k sm
def pS (w:World) (T:TypeId) (gs:Option Nat×Option Nat) (vs:List Value) (b:Bk):Prop:=
 ∃v1 v2,vs=[str b.aM,v1,v2]∧cE w T v1 gs.1 b.bW∧cE w T v2 gs.2 b.code
def gM (gs:Option Nat×Option Nat):List Nat:=gs.1.toList++gs.2.toList
def eT (gss:List (Option Nat×Option Nat)):List Nat:=gss.flatMap gM
theorem pS.aG {T:TypeId} {gs:Option Nat×Option Nat} {vs:List Value} (h:pS w T gs vs b) (k:ak L w w') (hL:∀x,x∈gM gs->x∉L):pS w' T gs vs b:=by
 obtain⟨v1,v2,e,h1,h2⟩:=h
 exact⟨v1,v2,e,h1.aG k (λb hb=>hL b (by simp[gM,hb])),h2.aG k (λb hb=>hL b (by simp[gM,hb]))⟩
def iL (w:World) (T:TypeId):List (Option Nat×Option Nat)->List (List Value)->List Bk->Prop
 |[],[],[]=>True
 |g::gs,v::vs,b::bs=>pS w T g v b∧iL w T gs vs bs
 |_,_,_=>False
theorem iL.aG {T:TypeId} (k:ak L w w'):∀{gss:List (Option Nat×Option Nat)} {vss:List (List Value)} {bs:List Bk},iL w T gss vss bs->(∀x,x∈eT gss->x∉L)->iL w' T gss vss bs
 |[],[],[],_,_=>trivial
 |g::gs,v::vs,b::bs,h,hL=>⟨h.1.aG k (λx hx=>hL x (by simp[eT,hx])),iL.aG k h.2 (λx hx=>hL x (by simp[eT] at hx⊢;exact .inr hx))⟩
theorem iL.snoc {T:TypeId}:∀{gss:List (Option Nat×Option Nat)} {vss:List (List Value)} {bs:List Bk} {g:Option Nat×Option Nat} {v:List Value} {b:Bk},iL w T gss vss bs->pS w T g v b->iL w T (gss++[g]) (vss++[v]) (bs++[b])
 |[],[],[],_,_,_,_,h=>⟨h,trivial⟩
 |_::_,_::_,_::_,_,_,_,h,k=>⟨h.1,iL.snoc h.2 k⟩
theorem iL.lens {T:TypeId}:∀{gss:List (Option Nat×Option Nat)} {vss:List (List Value)} {bs:List Bk},iL w T gss vss bs->gss.length=bs.length∧vss.length=bs.length∧∀row,row∈vss->row.length=3
 |[],[],[],_=>by simp
 |g::gs,v::vs,b::bs,h=>by
  obtain⟨h1,h2,h3⟩:=iL.lens h.2
  refine⟨by simp[h1],by simp[h2],λrow hr=>?_⟩
  rcases mC.1 hr with rfl|hr
  ·obtain⟨v1,v2,rfl,_⟩:=h.1;rfl
  ·exact h3 row hr
theorem iL.get {T:TypeId}:∀{gss:List (Option Nat×Option Nat)} {vss:List (List Value)} {bs:List Bk},iL w T gss vss bs->∀{i:Nat} {b:Bk},bs[i]?=some b->∃g v,gss[i]?=some g∧vss[i]?=some v∧pS w T g v b
 |_::_,_::_,_::_,h,0,b,hb=>by simp at hb;subst hb;exact⟨_,_,rfl,rfl,h.1⟩
 |_::gs,_::vs,_::bs,h,i+1,b,hb=>by
  obtain⟨g,v,h1,h2,h3⟩:=iL.get h.2 (i:=i) (by simpa using hb)
  exact⟨g,v,by simpa using h1,by simpa using h2,h3⟩
 |[],[],[],_,i,b,hb=>by simp at hb
theorem iL.yh {T:TypeId}:∀{gss:List (Option Nat×Option Nat)} {vss:List (List Value)} {bs:List Bk},iL w T gss vss bs->(∀x,x∈eT gss->x∉L)->dd L w vss.flatten (bs.map Bk.enc).flatten
 |[],[],[],_,_=>trivial
 |g::gs,v::vs,b::bs,h,hL=>by
  obtain⟨v1,v2,rfl,h1,h2⟩:=h.1
  refine⟨.val _,h1.rep (λb hb=>hL b (by simp[eT,gM,hb])),h2.rep (λb hb=>hL b (by simp[eT,gM,hb])),?_⟩
  exact iL.yh h.2 (λx hx=>hL x (by simp[eT] at hx⊢;exact .inr hx))
structure j3 (w:World) (TB TS:TypeId) (v:Value) (g:Option Nat) (gss:List (Option Nat×Option Nat)) (vss:List (List Value)) (bs:List Bk):Prop where
 own:im w TB 3 v g bs.length vss.flatten
 rows:iL w TS gss vss bs
 nodup:(g.toList++eT gss).Nodup
 lt:∀x,x∈eT gss->x<w.heap.size
theorem j3.aG {TB TS:TypeId} (h:j3 w TB TS v g gss vss bs) (k:ak L w w') (hL:∀x,x∈g.toList++eT gss->x∉L):j3 w' TB TS v g gss vss bs:=
 ⟨h.own.aG k (λb hb=>hL b (by simp[hb])),h.rows.aG k (λx hx=>hL x (by simp[hx])),h.nodup,λx hx=>lL (h.lt x hx) k.size⟩
theorem j3.ext {TB TS:TypeId} (h:j3 w TB TS v g gss vss bs) (k:ak [] w w'):j3 w' TB TS v g gss vss bs:=h.aG k sm
theorem j3.rep {TB TS:TypeId} (h:j3 w TB TS v g gss vss bs) (hL:∀x,x∈g.toList++eT gss->x∉L):mO L w v bs:=by
 have hd:=(List.nodup_append.1 h.nodup).2.2
 refine gS.done (L:=L) (w:=w) (T:=TB) (g:=g) (xs:=vss.flatten) ⟨by simpa using h.own,h.rows.yh λx hx=>?_,?_,λb hb=>hL b (by simp[hb])⟩
 ·intro hc
  rcases mA.1 hc with hc|hc
  ·exact hd x hc x hx rfl
  ·exact hL x (by simp[hx]) hc
 ·intro row hr
  obtain⟨b,_,rfl⟩:=List.mem_map.1 hr
  rfl
theorem j3.nil {TB TS:TypeId}:j3 w TB TS (.slice none 0 0) none [] [] []:=⟨im.nil _ _ _,trivial,by simp[eT],by simp[eT]⟩
theorem bh.Mi {A B:List Nat} {b:Nat} (h:bh (b::(A++B)) w v t):bh (A++(b::B)) w v t:=jW.fresh h λx hx=>.inl (Rg x hx)
theorem bh.fV (h:bh L w v t) (hL:∀x,x∈L'->x∈L):bh L' w v t:=jW.fresh h λx hx=>.inl (hL x hx)
theorem cX.fV {t:List aq} (h:cX L w v t) (hL:∀x,x∈L'->x∈L):cX L' w v t:=ck.fresh h λx hx=>.inl (hL x hx)
theorem Gr.trees {T:TypeId} (h:Gr B L w T 2 v g (cQ ts)):cX L w v ts:=h.done
def gZ (c:UInt8):Bool:=48<=c&&c<=57
theorem Cr (c:UInt8):gZ c=true↔48<=c.toNat∧c.toNat<=57:=by
 simp[gZ,UInt8.le_iff_toNat_le]
def rj (s:aj):Int:=if 0<s.length∧s.getD 0 0=45 then -1 else 1
def eH (s:aj):aj:=if 0<s.length∧s.getD 0 0=45 then s.drop 1 else s
def val (ds:aj):Nat:=ds.foldl (λn c=>10*n+(c.toNat-48)) 0
def numeral (s:aj):Option Int:=
 if s=[48] then some 0
 else if(eH s).length<1∨3<(eH s).length∨(eH s).getD 0 0=48 then none
 else if(eH s).all gZ=true then some (rj s*val (eH s)) else none
theorem Rx (ds:aj) (c:UInt8):val (ds++[c])=10*val ds+(c.toNat-48):=by simp[val]
theorem Ry:∀(ds:aj),ds.all gZ=true->val ds<10^ds.length:=by
 intro ds
 have key:∀(l:aj) (n k:Nat),l.all gZ=true->n<10^k->l.foldl (λn c=>10*n+(c.toNat-48)) n<10^(k+l.length):=by
  intro l
  induction l with
  |nil=>intro n k _ h;simpa using h
  |cons c l ih=>
   intro n k hl h
   simp only[List.all_cons,aE] at hl
   have hc:=(Cr c).1 hl.1
   simp only[List.foldl_cons,lC]
   have:=ih (10*n+(c.toNat-48)) (k+1) hl.2 (by rw[Nat.pow_succ];omega)
   rw[show k+(l.length+1)=k+1+l.length from by omega];exact this
 intro h
 have:=key ds 0 0 h sm
 simpa[val] using this
theorem Mj (h:k<s.length):s.take (k+1)=s.take k++[s.getD k 0]:=by simp_all
def cH (t:aq):aj:=if t.av≠[]∨t.ai=[] then[] else match t.ai with
 |[]=>[]
 |p::_=>p.av
def I9 (c:UInt8):Bool:=97<=c&&c<=122
def Ak (s:aj) (i:Nat):Bool:=I9 (s.getD i 0)||(decide (0<i)&&gZ (s.getD i 0))
def mj (s:aj):Bool:=(List.range s.length).all (Ak s)&&decide (s≠[])
theorem Gk (k c:UInt8):decide ((k.toNat:Int)<=c.toNat)=decide (k<=c):=by simp[UInt8.le_iff_toNat_le]
theorem Rz (k c:UInt8):decide ((c.toNat:Int)=k.toNat)=(c==k):=by
 rw[Bool.eq_iff_iff];simp[<-UInt8.toNat_inj];omega
theorem Ja (s:aj) (k:Nat):((decide ((97:Int)<=(s.getD k 0).toNat)&&decide (((s.getD k 0).toNat:Int)<=122))||((decide ((0:Int)<(k:Int))&&decide ((48:Int)<=(s.getD k 0).toNat))&&decide (((s.getD k 0).toNat:Int)<=57)))=Ak s k:=by
 have a:=Gk 97 (s.getD k 0)
 have b:=Gk (s.getD k 0) 122
 have c:=Gk 48 (s.getD k 0)
 have d:=Gk (s.getD k 0) 57
 simp only[show((97:UInt8).toNat:Int)=97 from rfl,show((122:UInt8).toNat:Int)=122 from rfl,show((48:UInt8).toNat:Int)=48 from rfl,show((57:UInt8).toNat:Int)=57 from rfl] at a b c d
 rw[a,b,c,d]
 unfold Ak I9 gZ
 rw[show decide ((0:Int)<(k:Int))=decide (0<k) from by simp,Bool.and_assoc]
theorem RA {j:Nat} (hj:j<s.length) (h:Ak s j=false):mj s=false:=by grind [mj]
theorem RB (h:∀j,j<s.length->Ak s j=true):mj s=decide (s≠[]):=by grind [mj]
theorem RC {P:Nat->Prop} (h:∀j,j<k->P j) (hk:P k):∀j,j<k+1->P j:=by grind
theorem Ef (ha:t.av=[]) (hp:t.ai[0]?=some p):cH t=p.av:=by grind [aq.ai,cH]
theorem sF (h:t.av≠[]∨t.ai=[]):cH t=[]:=by unfold cH;rw[iP h]
theorem ZX (h0:s≠[48]) (h:(eH s).length<1∨3<(eH s).length∨(eH s).getD 0 0=48):numeral s=none:=by grind [numeral]
theorem ZY (h0:s≠[48]) (hk:k<(eH s).length) (h:gZ ((eH s).getD k 0)=false):numeral s=none:=by grind [numeral,eH]
theorem ZZ (h0:s≠[48]) (h:1<=(eH s).length∧(eH s).length<=3∧(eH s).getD 0 0≠48) (cZ:(eH s).all gZ=true):numeral s=some (rj s*val (eH s)):=by grind [numeral]
theorem Z0 (s:aj):rj s=1∨rj s= -1:=by grind [rj]
theorem Z1 {ds:aj} (h:(!(decide ((1:Int)<=(ds.length:Int))&&decide ((ds.length:Int)<=3))||decide (((ds.getD 0 0).toNat:Int)=48))=true):ds.length<1∨3<ds.length∨ds.getD 0 0=48:=by
 simp only[oE,Bool.not_eq_true',Bool.and_eq_false_iff,decide_eq_false_iff_not,dE] at h
 rcases h with(h|h)|h
 ·left;omega
 ·right;left;omega
 ·right;right;exact UInt8.toNat_inj.1 (by have:(48:UInt8).toNat=48:=rfl;rw[this];omega)
theorem Z2 {ds:aj} (h:(!(decide ((1:Int)<=(ds.length:Int))&&decide ((ds.length:Int)<=3))||decide (((ds.getD 0 0).toNat:Int)=48))=false):1<=ds.length∧ds.length<=3∧ds.getD 0 0≠48:=by
 simp only[Bool.or_eq_false_iff,Bool.not_eq_false',aE,decide_eq_false_iff_not,dE] at h
 refine⟨by omega,om,λRD=>h.2 (by rw[RD];rfl)⟩
theorem RE (h:(decide ((c.toNat:Int)<48)||decide ((57:Int)<c.toNat))=true):gZ c=false:=by grind [Cr]
theorem RF (h:(decide ((c.toNat:Int)<48)||decide ((57:Int)<c.toNat))=false):48<=c.toNat∧c.toNat<=57∧gZ c=true:=by grind [Cr]
def aq.size:aq->Nat
 | .mk a ps=>1+a.length+sizes ps
 where sizes:List aq->Nat
 |[]=>0
 |t::ts=>t.size+sizes ts
theorem Z3 {ps:List aq}:∀{i:Nat} {p:aq},ps[i]?=some p->p.size<=aq.size.sizes ps:=by
 induction ps with
 |nil=>intro i p h;simp at h
 |cons q ps ih=>
  intro i p h
  cases i with
  |zero=>simp at h;subst h;simp only[aq.size.sizes];omega
  |succ i=>have:=ih (by simpa using h);simp only[aq.size.sizes];omega
theorem Gl {t:aq} (h:t.ai[i]?=some p):p.size<t.size:=by
 cases t with
 |mk a ps=>have:=Z3 (ps:=ps) h;simp only[aq.size];omega
theorem mP:∀t:aq,t.ai.length<t.size
 | .mk a ps=>by
  have:∀l:List aq,l.length<=aq.size.sizes l:=by
   intro l
   induction l with
   |nil=>simp[aq.size.sizes]
   |cons q r ih=>cases q;simp only[aq.size.sizes,aq.size,lC];omega
  have:=this ps
  simp only[aq.ai,aq.size];omega
inductive WF:aq->Prop
 |av (a:aj) (h:a≠[]):WF (.mk a [])
 |list (ps:List aq) (h:ps≠[]) (hp:∀p,p∈ps->WF p):WF (.mk [] ps)
theorem WF.part (h:WF t) (hp:t.ai[i]?=some p):WF p:=by cases h<;>grind [aq.ai]
theorem WF.first (h:WF t) (ha:t.av=[]):∃p,t.ai[0]?=some p:=by
 cases h with
 |av a hn=>exact absurd ha hn
 |list ps hn _=>
  cases ps with
  |nil=>exact absurd rfl hn
  |cons q r=>exact⟨q,rfl⟩
theorem WF.leaf (h:WF t) (ha:t.av≠[]):t.ai=[]:=by
 cases h with
 |av a _=>rfl
 |list ps _ _=>exact absurd rfl ha
theorem RG {rd:aj->Option (aq×aj)} (eW:∀s t r,rd s=some (t,r)->WF t):∀n s ts r,iK rd n s=some (ts,r)->ts≠[]∧∀p,p∈ts->WF p
 |0,_,_,_,h=>by simp[iK] at h
 |n+1,s,ts,r,h=>by
  unfold iK at h
  cases hr:rd s with
  |none=>simp[hr] at h
  |some q=>
   obtain⟨t,r1⟩:=q
   have ht:=eW s t r1 hr
   simp only[hr] at h
   cases r1 with
   |nil=>simp at h
   |cons c r'=>
    simp only at h
    by_cases h1:c=41
    ·rw[iP h1] at h
     simp at h
     obtain⟨rfl,_⟩:=h
     exact⟨by simp,by intro p hp;simp at hp;subst hp;exact ht⟩
    ·rw[iN h1] at h
     by_cases h2:c=32
     ·rw[iP h2] at h
      cases hp:iK rd n r' with
      |none=>simp[hp] at h
      |some q=>
       obtain⟨ts',r''⟩:=q
       simp[hp] at h
       obtain⟨rfl,_⟩:=h
       obtain⟨_,h4⟩:=RG eW n r' ts' r'' hp
       exact⟨by simp,by intro p hp;rcases mC.1 hp with rfl|hp;exact ht;exact h4 p hp⟩
     ·rw[iN h2] at h;cases h
theorem Z4:∀d s t r,eE d s=some (t,r)->WF t:=by
 have leaf:∀(s:aj) (t:aq) (r:aj),(if s.takeWhile eV=[] then none else some (aq.mk (s.takeWhile eV) [],s.dropWhile eV))=some (t,r)->WF t:=by
  intro s t r h
  split at h
  ·cases h
  ·rename_i hn
   simp only[Option.some.injEq,Prod.mk.injEq] at h
   rw[<-h.1];exact .av _ hn
 intro d
 induction d with
 |zero=>
  intro s t r h
  cases s with
  |nil=>simp[eE] at h
  |cons c s=>
   simp only[eE] at h
   by_cases h1:c=40
   ·rw[iP h1] at h;cases h
   ·rw[iN h1] at h;exact leaf _ _ _ h
 |succ d ih=>
  intro s t r h
  cases s with
  |nil=>simp[eE] at h
  |cons c s=>
   simp only[eE] at h
   by_cases h1:c=40
   ·rw[iP h1] at h
    cases hp:iK (eE d) (s.length+1) s with
    |none=>simp[hp] at h
    |some q=>
     obtain⟨ts',r''⟩:=q
     simp[hp] at h
     obtain⟨h3,h4⟩:=RG ih _ _ _ _ hp
     rw[<-h.1];exact .list _ h3 h4
   ·rw[iN h1] at h;exact leaf _ _ _ h
theorem tS (h:bA s=some t):WF t:=by grind [bA,eE,Z4]
theorem RH {rd:aj->Option (aq×aj)} (eW:∀s t r,rd s=some (t,r)->t.size+r.length<=s.length+1):∀n s ts r,iK rd n s=some (ts,r)->aq.size.sizes ts+r.length<=s.length
 |0,_,_,_,h=>by simp[iK] at h
 |n+1,s,ts,r,h=>by
  unfold iK at h
  cases hr:rd s with
  |none=>simp[hr] at h
  |some q=>
   obtain⟨t,r1⟩:=q
   have ht:=eW s t r1 hr
   simp only[hr] at h
   cases r1 with
   |nil=>simp at h
   |cons c r'=>
    simp only at h
    rw[lC] at ht
    by_cases h1:c=41
    ·rw[iP h1] at h
     simp at h
     obtain⟨rfl,rfl⟩:=h
     simp only[aq.size.sizes];omega
    ·rw[iN h1] at h
     by_cases h2:c=32
     ·rw[iP h2] at h
      cases hp:iK rd n r' with
      |none=>simp[hp] at h
      |some q=>
       obtain⟨ts',r''⟩:=q
       simp[hp] at h
       obtain⟨rfl,rfl⟩:=h
       have h4:=RH eW n r' ts' r'' hp
       simp only[aq.size.sizes];omega
     ·rw[iN h2] at h;cases h
theorem Z5:∀d s t r,eE d s=some (t,r)->t.size+r.length<=s.length+1:=by
 have leaf:∀(s:aj) (t:aq) (r:aj),(if s.takeWhile eV=[] then none else some (aq.mk (s.takeWhile eV) [],s.dropWhile eV))=some (t,r)->t.size+r.length<=s.length+1:=by
  intro s t r h
  split at h
  ·cases h
  ·simp only[Option.some.injEq,Prod.mk.injEq] at h
   obtain⟨rfl,rfl⟩:=h
   have h1:=Gc eV s
   rw[Gb,List.length_drop]
   simp only[aq.size,aq.size.sizes];omega
 intro d
 induction d with
 |zero=>
  intro s t r h
  cases s with
  |nil=>simp[eE] at h
  |cons c s=>
   simp only[eE] at h
   by_cases h1:c=40
   ·rw[iP h1] at h;cases h
   ·rw[iN h1] at h;exact leaf _ _ _ h
 |succ d ih=>
  intro s t r h
  cases s with
  |nil=>simp[eE] at h
  |cons c s=>
   simp only[eE] at h
   by_cases h1:c=40
   ·rw[iP h1] at h
    cases hp:iK (eE d) (s.length+1) s with
    |none=>simp[hp] at h
    |some q=>
     obtain⟨ts',r''⟩:=q
     simp[hp] at h
     have h3:=RH ih _ _ _ _ hp
     obtain⟨rfl,rfl⟩:=h
     simp only[aq.size,lC,List.length_nil];omega
   ·rw[iN h1] at h;exact leaf _ _ _ h
theorem Ml (h:bA s=some t):s.length<=12000:=by grind [bA]
theorem Al (h:bA s=some t):t.size<=12001:=by
 have hs:=Ml h
 unfold bA at h
 split at h
 ·cases h
 ·cases hr:eE 60 s with
  |none=>rw[hr] at h;cases h
  |some q=>
   obtain⟨t',r⟩:=q
   rw[hr] at h
   cases r with
   |nil=>simp at h;subst h;have:=Z5 _ _ _ _ hr;simp at this;omega
   |cons c r=>cases h
theorem qB:∀t:aq,t.av.length<t.size
 | .mk a ps=>by simp only[aq.av,aq.size];omega
def fQ (hidden:Bool):aq->Bool
 | .mk a ps=>if a≠[] then decide (a=[105])||(hidden&&decide (a=[118])) else match ps with
  |[]=>false
  |h::rest=>if h.av=[101] then oneT rest else if h.av=[116]∨h.av=[99] then Eg hidden rest else false
 where
 oneT:List aq->Bool
  |[]=>false
  |[t]=>fQ true t
  |_::_::_=>false
 Eg (hidden:Bool):List aq->Bool
  |[]=>true
  |t::ts=>fQ hidden t&&Eg hidden ts
theorem RI (hidden:Bool):∀ts,fQ.Eg hidden ts=ts.all (fQ hidden)
 |[]=>rfl
 |t::ts=>by simp[fQ.Eg,RI hidden ts]
def nth (ps:List aq) (i:Nat):aq:=ps.getD i (.mk [] [])
theorem ej (h:i<ps.length):ps[i]?=some (nth ps i):=by grind [nth]
theorem kB (h:i<t.ai.length):(nth t.ai i).size<t.size:=Gl (ej h)
theorem WF.nth (h:WF t) (hi:i<t.ai.length):WF (nth t.ai i):=h.part (ej hi)
theorem WF.pos (h:WF t) (ha:t.av=[]):0<t.ai.length:=by grind [WF.first]
theorem RJ (h:t.av≠[]) (hidden:Bool):fQ hidden t=(decide (t.av=[105])||(hidden&&decide (t.av=[118]))):=by
 cases t with
 |mk a ps=>unfold fQ;exact iP h
theorem Mm (ha:t.av=[]) (hp:0<t.ai.length) (he:(nth t.ai 0).av=[101]) (hidden:Bool):fQ hidden t=(decide (t.ai.length=2)&&fQ true (nth t.ai 1)):=by
 cases t with
 |mk a ps=>
  simp only[aq.av] at ha
  subst ha
  cases ps with
  |nil=>simp[aq.ai] at hp
  |cons h rest=>
   have uZ:h.av=[101]:=he
   simp only[fQ,uZ,aq.ai,ne_eq,not_true_eq_false,if_false,if_true]
   match rest with
   |[]=>simp[fQ.oneT]
   |[p]=>simp[fQ.oneT,_root_.Go.Proofs.YthbhobaiopccaaaGreatDoor.nth]
   |p::q::r=>simp[fQ.oneT]
theorem Mn (ha:t.av=[]) (hp:0<t.ai.length) (he:(nth t.ai 0).av=[116]∨(nth t.ai 0).av=[99]) (hidden:Bool):fQ hidden t=(t.ai.drop 1).all (fQ hidden):=by
 cases t with
 |mk a ps=>
  simp only[aq.av] at ha
  subst ha
  cases ps with
  |nil=>simp[aq.ai] at hp
  |cons h rest=>
   have uZ:h.av=[116]∨h.av=[99]:=he
   have dY:h.av≠[101]:=by rcases uZ with h|h<;>rw[h]<;>decide
   simp only[fQ,dY,uZ,aq.ai,ne_eq,not_true_eq_false,if_false,if_true,RI,List.drop_one,List.tail_cons]
theorem Mo (ha:t.av=[]) (hp:0<t.ai.length) (h1:(nth t.ai 0).av≠[101]) (h2:¬((nth t.ai 0).av=[116]∨(nth t.ai 0).av=[99])) (hidden:Bool):fQ hidden t=false:=by
 cases t with
 |mk a ps=>
  simp only[aq.av] at ha
  subst ha
  cases ps with
  |nil=>simp[aq.ai] at hp
  |cons h rest=>
   have Z6:h.av≠[101]:=h1
   have Z7:¬(h.av=[116]∨h.av=[99]):=h2
   simp only[fQ,Z6,Z7,ne_eq,not_true_eq_false,if_false]
theorem RK {f:aq->Bool} (hi:i<ps.length):(ps.drop i).all f=(f (nth ps i)&&(ps.drop (i+1)).all f):=by
 rw[List.drop_eq_getElem_cons hi,List.all_cons]
 simp[nth,List.getD,gE hi]
theorem Z8 {a y:aj} (h:(decide (a≠x)&&decide (a≠y))=false):a=x∨a=y:=by grind
theorem Z9 {a y:aj} (h:(decide (a≠x)&&decide (a≠y))=true):¬(a=x∨a=y):=by grind
def Am (a:aj):Int:=match numeral a with
 |some n=>if 0<=n∧n<=39 then n else -1
 |none=> -1
def vi (a:aj):Bool:=decide (0<=Am a)
def jk (z:Int) (t:aq):Bool:=
 if z=114∨z=42 then vi t.av else if z=110 then(numeral t.av).isSome else if z=108 then mj t.av
 else if z=101 then decide (cH t=[101])&&fQ false t else fQ false t
theorem RL {b:Bool} (h:(!b)=false):b=true:=by grind
theorem RM {b:Bool} (h:(!b)=true):b=false:=by grind
theorem An {b:Prop} [Decidable a] [Decidable b] (h:a):decide a=(decide a||decide b):=by grind
theorem Ao {b:Prop} [Decidable a] [Decidable b] (h:¬a):decide b=(decide a||decide b):=by grind
theorem RO {b c:Prop} [Decidable a] [Decidable b] [Decidable c] (h:a):decide a=(decide a||decide b||decide c):=by grind
theorem RP {b c:Prop} [Decidable a] [Decidable b] [Decidable c] (h:¬a) (h2:b):decide b=(decide a||decide b||decide c):=by grind
theorem RQ {b c:Prop} [Decidable a] [Decidable b] [Decidable c] (h:¬a) (h2:¬b):decide c=(decide a||decide b||decide c):=by grind
theorem Ap {b:Prop} [Decidable a] [Decidable b] (h:(decide a||decide b)=true):a∨b:=by simpa using h
theorem Aq {b:Prop} [Decidable a] [Decidable b] (h:(decide a||decide b)=false):¬(a∨b):=by simpa using h
theorem RR {b c:Prop} [Decidable a] [Decidable b] [Decidable c] (h:(decide a||decide b||decide c)=true):a∨b∨c:=by grind
theorem RS {b c:Prop} [Decidable a] [Decidable b] [Decidable c] (h:(decide a||decide b||decide c)=false):¬(a∨b∨c):=by grind
def shapeOf (h:aj):aj:=
 if h=[99,111,110,115,116] then[114,110]
 else if h=[109,111,118]∨h=[111,112,101,110] then[114,114]
 else if h=[97,100,100]∨h=[115,117,98]∨h=[109,117,108] then[114,114,114]
 else if h=[110,101,119] then[114,42]
 else if h=[103,101,116] then[114,114,110]
 else if h=[108,97,98]∨h=[122,101,114,111] then[114,108]
 else if h=[112,97,99,107] then[114,114,101,119]
 else if h=[106,117,109,112]∨h=[104,97,108,116] then[114]
 else[]
def Mp (h:aj) (i:Nat):Int:=((h.getD (min i h.length-1) 0).toNat:Int)
def sG (t:aq):Bool:=(decide (shapeOf (cH t)≠[114,42])&&decide (t.ai.length≠(shapeOf (cH t)).length+1))||decide (t.ai.length<2)
def tT (t:aq) (i:Nat):Bool:=jk (Mp (shapeOf (cH t)) i) (nth t.ai i)
def lz (t:aq):Bool:=if shapeOf (cH t)=[] then false else if sG t then false
 else decide (∀i,i<t.ai.length->1<=i->tT t i=true)&&(decide (cH t≠[103,101,116])||decide (0<=(numeral (nth t.ai 3).av).getD 0))
theorem aaa (hh:h=[103,101,116]):shapeOf h=[114,114,110]:=by rw[hh];decide
theorem aab (h:sG t=false) (hh:cH t=[103,101,116]):t.ai.length=4:=by grind [sG,aaa]
theorem aac (h:sG t=false):2<=t.ai.length:=by grind [sG]
theorem Mq (h:shapeOf (cH t)≠[]):t.av=[]∧0<t.ai.length∧cH t=(nth t.ai 0).av:=by
 have dY:cH t≠[]:=λhh=>by rw[hh] at h;exact h de
 by_cases ha:t.av=[]
 ·rcases Nat.eq_zero_or_pos t.ai.length with hz|hz
  ·exact absurd (sF (.inr (List.length_eq_zero_iff.1 hz))) dY
  ·exact⟨ha,hz,Ef ha (ej hz)⟩
 ·exact absurd (sF (.inl ha)) dY
theorem aad (h:aj):(shapeOf h).length<=4:=by grind [shapeOf]
theorem RT {n:Nat} (hn:n=t.ai.length):((decide (shapeOf (cH t)≠[114,42])&&decide ((n:Int)≠((shapeOf (cH t)).length:Int)+1))||decide ((n:Int)<2))=sG t:=by grind [sG]
theorem Mr (h:shapeOf (cH t)=[]):lz t=false:=by unfold lz;rw[iP h]
theorem Ms (h:sG t=true):lz t=false:=by grind [lz]
theorem aae (hi:i<t.ai.length) (h1:1<=i) (h:tT t i=false):lz t=false:=by grind [lz]
theorem aaf (h1:shapeOf (cH t)≠[]) (h2:sG t=false) (h:∀i,i<t.ai.length->1<=i->tT t i=true):
  lz t=(decide (cH t≠[103,101,116])||decide (0<=(numeral (nth t.ai 3).av).getD 0)):=by grind [lz]
theorem aag (h:lz t=true):0<t.ai.length:=by
 unfold lz at h
 split at h
 ·cases h
 ·rename_i dY;exact(Mq dY).2.1
def seen (f:aq->Bool) (s:aj):Bool:=match bA s with
 |some t=>f t
 |none=>false
theorem Jb {f:aq->Bool} (h:∀t',bA s=some t'->t=t'):((bA s).isSome&&f t)=seen f s:=by grind [bA,seen]
def Jc (t:aq):Bool:=lz t&&(decide ((nth t.ai 0).av=[106,117,109,112])||decide ((nth t.ai 0).av=[104,97,108,116]))
abbrev sH (s:aj):Bool:=seen (fQ false) s
abbrev sI (s:aj):Bool:=seen lz s
abbrev Eh (s:aj):Bool:=seen Jc s
def Ar:Bk:=⟨[],[],[]⟩
abbrev bN (bs:List Bk) (i:Nat):Bk:=bs.getD i Ar
theorem rW (h:i<bs.length):bs[i]?=some (bN bs i):=by grind
def o6 (bs:List Bk) (l:aj):Int:=match bs.findIdx? (λb=>decide (b.aM=l)) with
 |some i=>(i:Int)
 |none=> -1
theorem RU (hk:k<bs.length) (h:∀i,i<k->(bN bs i).aM≠l) (hl:(bN bs k).aM=l):o6 bs l=(k:Int):=by
 have:bs.findIdx? (λb=>decide (b.aM=l))=some k:=by
  rw[List.findIdx?_eq_some_iff_getElem]
  refine⟨hk,by simpa[gE hk] using hl,λj hj=>?_⟩
  have:=h j hj
  simpa[gE (Nat.lt_trans hj hk)] using this
 unfold o6;rw[this]
theorem aah (h:∀i,i<bs.length->(bN bs i).aM≠l):o6 bs l= -1:=by
 have:bs.findIdx? (λb=>decide (b.aM=l))=none:=by
  rw[List.findIdx?_eq_none_iff]
  intro b hb
  obtain⟨i,hi,rfl⟩:=List.getElem_of_mem hb
  have:=h i hi
  simpa[gE hi] using this
 unfold o6;rw[this]
def rX (code:List aj) (i:Nat):Bool:=sI (cJ code i)&&(Eh (cJ code i)==decide (i+1=code.length))
def kO (b:Bk):Bool:=mj b.aM&&decide (b.bW.length<=40)&&(decide (1<=b.code.length)&&decide (b.code.length<=80))&&
 decide (∀i,i<b.bW.length->sH (cJ b.bW i)=true)&&decide (∀i,i<b.code.length->rX b.code i=true)
def iB (bs:List Bk):Bool:=decide (∀i,i<bs.length->kO (bN bs i)=true∧o6 bs (bN bs i).aM=i)&&
 (decide (1<=bs.length)&&decide (bs.length<=40)&&decide ((bN bs 0).aM=[109,97,105,110])&&decide ((bN bs 0).bW.length=0))
theorem RV (h:(mj b.aM&&decide (b.bW.length<=40)&&(decide (1<=b.code.length)&&decide (b.code.length<=80)))=false):kO b=false:=by
 unfold kO;rw[h];rfl
theorem RW (hi:i<b.bW.length) (h:sH (cJ b.bW i)=false):kO b=false:=by grind [kO]
theorem RX (hi:i<b.code.length) (h:rX b.code i=false):kO b=false:=by grind [rX,kO]
theorem RY (h:(mj b.aM&&decide (b.bW.length<=40)&&(decide (1<=b.code.length)&&decide (b.code.length<=80)))=true) (h1:∀i,i<b.bW.length->sH (cJ b.bW i)=true) 
  (h2:∀i,i<b.code.length->rX b.code i=true):kO b=true:=by grind [kO]
theorem RZ (hi:i<bs.length) (h:¬(kO (bN bs i)=true∧o6 bs (bN bs i).aM=i)):iB bs=false:=by
 unfold iB
 rw[dF (p:=∀i:Nat,i<bs.length->kO (bN bs i)=true∧o6 bs (bN bs i).aM=i) (λhh=>h (hh i hi))]
 rfl
theorem R0 (h:∀i,i<bs.length->kO (bN bs i)=true∧o6 bs (bN bs i).aM=i):
  iB bs=(decide (1<=bs.length)&&decide (bs.length<=40)&&decide ((bN bs 0).aM=[109,97,105,110])&&decide ((bN bs 0).bW.length=0)):=by grind [iB]
theorem Jd (h1:n1=b.bW.length) (h2:n2=b.code.length):(!mj b.aM||decide ((40:Int)<n1)||!(decide ((1:Int)<=n2)&&decide ((n2:Int)<=80)))=
  !(mj b.aM&&decide (b.bW.length<=40)&&(decide (1<=b.code.length)&&decide (b.code.length<=80))):=by grind
theorem Mt {code:List aj} {n:Nat} (hn:n=code.length) (hi:i<n):(!sI (cJ code i)||(Eh (cJ code i) !=decide ((i:Int)=(n:Int)-1)))=!rX code i:=by grind [rX]
def Bk.small (b:Bk):Prop:=b.aM.length<1000000000∧b.bW.length<1000000000∧b.code.length<1000000000
def tU (bs:List Bk):Prop:=bs.length<1000000000∧∀i,i<bs.length->(bN bs i).small
theorem aai {n:Nat} (hn:n=bs.length) (fj:0<bs.length->n1=(bN bs 0).bW.length):
  ((decide ((1:Int)<=n)&&decide ((n:Int)<=40))&&decide ((bN bs 0).aM=[109,97,105,110])&&decide ((n1:Int)=0))=(decide (1<=bs.length)&&decide (bs.length<=40)&&decide ((bN bs 0).aM=[109,97,105,110])&&decide ((bN bs 0).bW.length=0)):=by grind
theorem aaj (s:aj):Lib.trimPrefix s [45]=eH s:=by
 unfold Lib.trimPrefix Lib.hasPrefix eH
 cases s with
 |nil=>simp
 |cons c r=>
  by_cases h:c=45
  ·subst h;simp
  ·have h2:((45:UInt8)==c)=false:=by simpa using λhe=>h he.symm
   simp[List.isPrefixOf,h2,h]
theorem R1:∀(l:aj) (n:Nat),l.all gZ=true->Lib.decFrom n l=some (l.foldl (λn c=>10*n+(c.toNat-48)) n)
 |[],n,_=>rfl
 |c::r,n,h=>by
  simp only[List.all_cons,aE] at h
  have hc:=(Cr c).1 h.1
  have hd:Lib.digitVal c=some (c.toNat-48):=by unfold Lib.digitVal;rw[iP hc]
  simp only[Lib.decFrom,hd,List.foldl_cons]
  rw[show n*10+(c.toNat-48)=10*n+(c.toNat-48) from by omega]
  exact R1 r _ h.2
theorem aak (hl:l≠[]) (h:l.all gZ=true):Lib.decNat l=some (val l):=by
 unfold Lib.decNat
 rw[iN (by simpa using hl)]
 exact R1 l 0 h
theorem aal {z:Int} (h:numeral s=some z):Lib.atoi s=some z:=by
 unfold numeral at h
 by_cases h0:s=[48]
 ·rw[iP h0] at h;subst h0;rw[<-h];decide
 ·rw[iN h0] at h
  by_cases h1:(eH s).length<1∨3<(eH s).length∨(eH s).getD 0 0=48
  ·rw[iP h1] at h;cases h
  ·rw[iN h1] at h
   by_cases h2:(eH s).all gZ=true
   ·rw[iP h2] at h
    have dY:eH s≠[]:=λhe=>h1 (.inl (by rw[he];simp))
    have hv:=aak dY h2
    cases s with
    |nil=>exact absurd (by unfold eH;simp) dY
    |cons c r=>
     by_cases hc:c=45
     ·subst hc
      have hd:eH (45::r)=r:=by unfold eH;simp
      have hs:rj (45::r)= -1:=by unfold rj;simp
      rw[hd] at hv h
      rw[hs] at h
      simp only[Lib.atoi,hv,beq_self_eq_true,if_true,Option.map_some]
      rw[<-h];simp
     ·have hd:eH (c::r)=c::r:=by unfold eH;simp[hc]
      have hs:rj (c::r)=1:=by unfold rj;simp[hc]
      rw[hd] at hv h h2
      rw[hs] at h
      have R2:=(Cr c).1 (by simp only[List.all_cons,aE] at h2;exact h2.1)
      have e1:(c==45)=false:=by simpa using hc
      have e2:(c==43)=false:=by
       have:c≠43:=λhe=>by rw[he] at R2;exact absurd R2.1 de
       simpa using this
      simp only[Lib.atoi,e1,e2,hv,Bool.false_eq_true,if_false,Option.map_some]
      rw[<-h];simp
   ·rw[iN h2] at h;cases h
theorem R3 {z:Int} (h:numeral s=some z):s.length<=4:=by grind [numeral,eH]
theorem aam (s:aj):(decide (s=[48])||(decide (1<=(eH s).length)&&decide ((eH s).length<=3)&&(eH s).all gZ&&decide ((eH s).getD 0 0≠48)))=(numeral s).isSome:=by grind [eH,gZ,numeral]
theorem aan (s:aj):((numeral s).isSome&&(decide (0<=(numeral s).getD 0)&&decide ((numeral s).getD 0<=39)))=vi s:=by grind [numeral,vi,Am]
theorem aao (hk:k<s.length) (h:gZ (s.getD k 0)=false):s.all gZ=false:=by grind
theorem aap (s:aj):(decide (s=[48])||(decide ((1:Int)<=((eH s).length:Int))&&decide (((eH s).length:Int)<=3)&&(eH s).all gZ&&decide ((((eH s).getD 0 0).toNat:Int)≠48)))=(numeral s).isSome:=by
 rw[<-aam,show decide ((1:Int)<=((eH s).length:Int))=decide (1<=(eH s).length) from decide_eq_decide.2 om,show decide (((eH s).length:Int)<=3)=decide ((eH s).length<=3) from decide_eq_decide.2 om,
  show decide ((((eH s).getD 0 0).toNat:Int)≠48)=decide ((eH s).getD 0 0≠48) from decide_eq_decide.2 (by
   have RD:(48:UInt8).toNat=48:=rfl
   constructor
   ·intro h h2;exact h (by rw[h2];rfl)
   ·intro h h2;exact h (UInt8.toNat_inj.1 om))]
def Cs (ts:List aq) (g:aq->Bool):Int:=match ts.findIdx? g with
 |some i=>(i:Int)
 |none=> -1
theorem Ct (h:i<ts.length):nth ts i=ts[i]:=by grind [nth]
theorem aaq {g:aq->Bool} (hk:k<ts.length) (h:∀i,i<k->g (nth ts i)=false) (hl:g (nth ts k)=true):Cs ts g=(k:Int):=by
 have:ts.findIdx? g=some k:=by
  rw[List.findIdx?_eq_some_iff_getElem]
  refine⟨hk,by rw[<-Ct hk];exact hl,λj hj=>?_⟩
  have:=h j hj
  rw[Ct (Nat.lt_trans hj hk)] at this
  simpa using this
 unfold Cs;rw[this]
theorem aar {g:aq->Bool} (h:∀i,i<ts.length->g (nth ts i)=false):Cs ts g= -1:=by grind [Ct,Cs,List.findIdx?_eq_none_iff,List.getElem_of_mem]
theorem aas (ts:List aq) (g:aq->Bool):decide (0<=Cs ts g)=ts.any g:=by grind [Cs]
def iC (h:aj) (n:Nat):aj:=
 if h=[99,111,110,115,116] then[100,110]
 else if h=[109,111,118]∨h=[111,112,101,110] then[100,115]
 else if h=[97,100,100]∨h=[115,117,98]∨h=[109,117,108] then[100,115,115]
 else if h=[110,101,119] then[100]++List.replicate (n-2) 115
 else if h=[103,101,116] then[100,115,109]
 else if h=[108,97,98] then[100,108]
 else if h=[112,97,99,107] then[100,115,69,87]
 else if h=[122,101,114,111] then[115,108]
 else if h=[106,117,109,112]∨h=[104,97,108,116] then[115]
 else[]
def ia (z:Int) (t:aq):Bool:=
 if z=100∨z=115 then vi t.av else if z=110 then(numeral t.av).isSome
 else if z=109 then(numeral t.av).isSome&&decide (0<=(numeral t.av).getD 0)
 else if z=108 then mj t.av else if z=69 then(decide (t.ai.length=2)&&decide (cH t=[101]))&&fQ false t
 else if z=87 then fQ false t else false
def rk (t:aq):Bool:=
 if iC (cH t) t.ai.length=[]∨t.ai.length≠(iC (cH t) t.ai.length).length+1 then false
 else decide (∀i,i<(iC (cH t) t.ai.length).length->ia (((iC (cH t) t.ai.length).getD i 0).toNat:Int) (nth t.ai (i+1))=true)
theorem Je (h:iC (cH t) t.ai.length=[]∨t.ai.length≠(iC (cH t) t.ai.length).length+1):rk t=false:=by
 unfold rk;rw[iP h]
theorem aat (hi:i<(iC (cH t) t.ai.length).length) (h:ia (((iC (cH t) t.ai.length).getD i 0).toNat:Int) (nth t.ai (i+1))=false):rk t=false:=by grind [rk]
theorem aau (h:¬(iC (cH t) t.ai.length=[]∨t.ai.length≠(iC (cH t) t.ai.length).length+1)) 
  (ha:∀i,i<(iC (cH t) t.ai.length).length->ia (((iC (cH t) t.ai.length).getD i 0).toNat:Int) (nth t.ai (i+1))=true):rk t=true:=by grind [rk]
theorem shift {n:Nat} {P Q:Nat->Prop} (h:∀i,i<n->(P i↔Q (i+1))):(∀i,i<n->P i)↔(∀i,i<n+1->1<=i->Q i):=by
 constructor
 ·intro hp i hi h1
  have:=(h (i-1) om).1 (hp (i-1) om)
  rwa [show i-1+1=i from by omega] at this
 ·intro hq i hi
  exact(h i hi).2 (hq (i+1) om om)
theorem As (σ τ:aj) (ex:Nat->aq->Bool) (h1:iC (cH t) t.ai.length=σ) (h2:shapeOf (cH t)=τ) (hl:σ.length=τ.length) (dY:τ≠[]) (aav:τ≠[114,42]) 
  (hp:∀i u,i<τ.length->ia ((σ.getD i 0).toNat:Int) u=(jk ((τ.getD i 0).toNat:Int) u&&ex i u))
  (hx:t.ai.length=τ.length+1->(decide (cH t≠[103,101,116])||decide (0<=(numeral (nth t.ai 3).av).getD 0))=decide (∀i,i<τ.length->ex i (nth t.ai (i+1))=true)):rk t=lz t:=by
 have hτ:1<=τ.length:=List.length_pos_iff.2 dY
 have hσ:σ≠[]:=λh=>by rw[h] at hl;simp at hl;omega
 by_cases hn:t.ai.length=τ.length+1
 ·unfold rk lz sG
  rw[h1,h2,iN (by rw[hl];rintro(h|h);exact hσ h;exact h hn),iN dY,hx hn]
  rw[iN (by rw[dF (p:=t.ai.length≠τ.length+1) om,dF (p:=t.ai.length<2) om];simp),<-Bool.decide_and,decide_eq_decide,hl,hn]
  rw[<-shift (P:=λi=>jk ((τ.getD i 0).toNat:Int) (nth t.ai (i+1))=true) (λi hi=>by
   unfold tT Mp
   rw[h2,show min (i+1) τ.length-1=i from by omega])]
  constructor
  ·intro h
   refine⟨λi hi=>?_,λi hi=>?_⟩<;>
   ·have:=h i hi
    rw[hp i _ hi,aE] at this
    first|exact this.1|exact this.2
  ·rintro⟨ha,hb⟩ i hi
   rw[hp i _ hi,ha i hi,hb i hi];rfl
 ·rw[Je (.inr (by rw[h1,hl];exact hn)),Ms]
  unfold sG
  rw[h2,dT aav,dT hn];rfl
theorem aaw (n:Nat) (u:Nat->aq):decide (∀i,i<n->(fun(_:Nat) (_:aq)=>true) i (u i)=true)=true:=by grind
theorem aax (u:aq):((decide (u.ai.length=2)&&decide (cH u=[101]))&&fQ false u)=(decide (cH u=[101])&&fQ false u):=by grind [sF,dd.length,Ef,ej,Mm]
theorem aay {n:Nat} {P:Nat->Prop} (h:n<=4) (h0:P 0) (h1:2<=n->P 1) (h2:3<=n->P 2) (h3:4<=n->P 3):∀i,i<n->P i:=by grind
theorem Au {σ τ:aj} {ex:Nat->aq->Bool} (hl:τ.length<=4) (h0:∀u,ia ((σ.getD 0 0).toNat:Int) u=(jk ((τ.getD 0 0).toNat:Int) u&&ex 0 u)) (h1:∀u,2<=τ.length->ia ((σ.getD 1 0).toNat:Int) u=(jk ((τ.getD 1 0).toNat:Int) u&&ex 1 u)) 
  (h2:∀u,3<=τ.length->ia ((σ.getD 2 0).toNat:Int) u=(jk ((τ.getD 2 0).toNat:Int) u&&ex 2 u)) (h3:∀u,4<=τ.length->ia ((σ.getD 3 0).toNat:Int) u=(jk ((τ.getD 3 0).toNat:Int) u&&ex 3 u)):
  ∀i u,i<τ.length->ia ((σ.getD i 0).toNat:Int) u=(jk ((τ.getD i 0).toNat:Int) u&&ex i u):=by grind
theorem R4 (u:aq):ia 100 u=vi u.av:=by simp[ia]
theorem R5 (u:aq):ia 115 u=vi u.av:=by simp[ia]
theorem aaz (u:aq):ia 110 u=(numeral u.av).isSome:=by simp[ia]
theorem aaA (u:aq):ia 109 u=((numeral u.av).isSome&&decide (0<=(numeral u.av).getD 0)):=by simp[ia]
theorem aaB (u:aq):ia 108 u=mj u.av:=by simp[ia]
theorem aaC (u:aq):ia 69 u=((decide (u.ai.length=2)&&decide (cH u=[101]))&&fQ false u):=by simp[ia]
theorem aaD (u:aq):ia 87 u=fQ false u:=by simp[ia]
theorem Mu (u:aq):jk 114 u=vi u.av:=by simp[jk]
theorem aaE (u:aq):jk 42 u=vi u.av:=by simp[jk]
theorem R6 (u:aq):jk 110 u=(numeral u.av).isSome:=by simp[jk]
theorem aaF (u:aq):jk 108 u=mj u.av:=by simp[jk]
theorem aaG (u:aq):jk 101 u=(decide (cH u=[101])&&fQ false u):=by simp[jk]
theorem aaH (u:aq):jk 119 u=fQ false u:=by simp[jk]
theorem Ei (u:aq):ia 100 u=(jk 114 u&&true):=by rw[R4,Mu,Bool.and_true]
theorem Cu (u:aq):ia 115 u=(jk 114 u&&true):=by rw[R5,Mu,Bool.and_true]
theorem aaI (u:aq):ia 110 u=(jk 110 u&&true):=by rw[aaz,R6,Bool.and_true]
theorem aaJ (u:aq):ia 109 u=(jk 110 u&&decide (0<=(numeral u.av).getD 0)):=by rw[aaA,R6]
theorem R7 (u:aq):ia 108 u=(jk 108 u&&true):=by rw[aaB,aaF,Bool.and_true]
theorem aaK (u:aq):ia 69 u=(jk 101 u&&true):=by rw[aaC,aaG,Bool.and_true,aax]
theorem aaL (u:aq):ia 87 u=(jk 119 u&&true):=by rw[aaD,aaH,Bool.and_true]
theorem aaM (h:cH t=[110,101,119]):rk t=lz t:=by
 have h1:iC (cH t) t.ai.length=[100]++List.replicate (t.ai.length-2) 115:=by rw[h];rfl
 have h2:shapeOf (cH t)=[114,42]:=by rw[h];rfl
 have hl:(iC (cH t) t.ai.length).length=t.ai.length-2+1:=by rw[h1];simp
 by_cases hn:2<=t.ai.length
 ·unfold rk lz sG
  rw[iN (by rw[hl];rintro(hh|hh);(·rw[h1] at hh;simp at hh);(·omega)),h2,iN de,
   iN (by rw[dF (p:=t.ai.length<2) om];simp),dT (p:=cH t≠[103,101,116]) (by rw[h];decide),Bool.true_or,Bool.and_true,decide_eq_decide,hl]
  rw[show(∀i,i<t.ai.length->1<=i->tT t i=true)↔(∀i,i<(t.ai.length-2+1)+1->1<=i->tT t i=true) from by rw[show t.ai.length-2+1+1=t.ai.length from by omega]]
  refine shift λi hi=>?_
  have e1:ia (((iC (cH t) t.ai.length).getD i 0).toNat:Int) (nth t.ai (i+1))=vi (nth t.ai (i+1)).av:=by
   rw[h1]
   cases i with
   |zero=>exact R4 _
   |succ i=>
    have:([100]++List.replicate (t.ai.length-2) (115:UInt8)).getD (i+1) 0=115:=by
     simp[List.getD,show i<t.ai.length-2 from by omega]
    rw[this];exact R5 _
  have e2:tT t (i+1)=vi (nth t.ai (i+1)).av:=by
   unfold tT Mp
   rw[h2]
   cases i with
   |zero=>exact Mu _
   |succ i=>rw[show min (i+1+1) ([114,42]:aj).length-1=1 from by simp];exact aaE _
  rw[e1,e2]
 ·rw[Je (.inr (by rw[hl];omega)),Ms]
  unfold sG;rw[dT (p:=t.ai.length<2) om,Bool.or_true]
theorem aaN (t:aq):rk t=lz t:=by
 have nog:∀{τ:aj},cH t≠[103,101,116]->(t.ai.length=τ.length+1->(decide (cH t≠[103,101,116])||decide (0<=(numeral (nth t.ai 3).av).getD 0))=decide (∀i,i<τ.length->(fun(_:Nat) (_:aq)=>true) i (nth t.ai (i+1))=true)):=by
  intro τ h _;rw[aaw _ (λi=>nth t.ai (i+1)),dT h];rfl
 by_cases c1:cH t=[99,111,110,115,116]
 ·exact As [100,110] [114,110] (λ_ _=>true) (by rw[c1];rfl) (by rw[c1];rfl) rfl de de
   (Au de (λu=>Ei u) (λu _=>aaI u) (λ_ h=>absurd h de) (λ_ h=>absurd h de)) (nog (by rw[c1];decide))
 by_cases c2:cH t=[109,111,118]∨cH t=[111,112,101,110]
 ·exact As [100,115] [114,114] (λ_ _=>true) (by rcases c2 with c|c<;>rw[c]<;>rfl) (by rcases c2 with c|c<;>rw[c]<;>rfl) rfl de de
   (Au de (λu=>Ei u) (λu _=>Cu u) (λ_ h=>absurd h de) (λ_ h=>absurd h de)) (nog (by rcases c2 with c|c<;>rw[c]<;>decide))
 by_cases c3:cH t=[97,100,100]∨cH t=[115,117,98]∨cH t=[109,117,108]
 ·exact As [100,115,115] [114,114,114] (λ_ _=>true) (by rcases c3 with c|c|c<;>rw[c]<;>rfl) (by rcases c3 with c|c|c<;>rw[c]<;>rfl) rfl de de
   (Au de (λu=>Ei u) (λu _=>Cu u) (λu _=>Cu u) (λ_ h=>absurd h de)) (nog (by rcases c3 with c|c|c<;>rw[c]<;>decide))
 by_cases c4:cH t=[110,101,119]
 ·exact aaM c4
 by_cases c5:cH t=[103,101,116]
 ·refine As [100,115,109] [114,114,110] (λi u=>if i=2 then decide (0<=(numeral u.av).getD 0) else true) (by rw[c5];rfl) (by rw[c5];rfl) rfl de de
   (Au de (λu=>Ei u) (λu _=>Cu u) (λu _=>aaJ u) (λ_ h=>absurd h de)) (λ_=>?_)
  rw[show decide (cH t≠[103,101,116])=false from dF (λh=>h c5),Bool.false_or]
  refine decide_eq_decide.2 ⟨λh=>aay de rfl (λ_=>rfl) (λ_=>by simpa using h) (λh=>by simp at h),λh=>by simpa using h 2 de⟩
 by_cases c6:cH t=[108,97,98]
 ·exact As [100,108] [114,108] (λ_ _=>true) (by rw[c6];rfl) (by rw[c6];rfl) rfl de de
   (Au de (λu=>Ei u) (λu _=>R7 u) (λ_ h=>absurd h de) (λ_ h=>absurd h de)) (nog (by rw[c6];decide))
 by_cases c7:cH t=[112,97,99,107]
 ·exact As [100,115,69,87] [114,114,101,119] (λ_ _=>true) (by rw[c7];rfl) (by rw[c7];rfl) rfl de de
   (Au de (λu=>Ei u) (λu _=>Cu u) (λu _=>aaK u) (λu _=>aaL u)) (nog (by rw[c7];decide))
 by_cases c8:cH t=[122,101,114,111]
 ·exact As [115,108] [114,108] (λ_ _=>true) (by rw[c8];rfl) (by rw[c8];rfl) rfl de de
   (Au de (λu=>Cu u) (λu _=>R7 u) (λ_ h=>absurd h de) (λ_ h=>absurd h de)) (nog (by rw[c8];decide))
 by_cases c9:cH t=[106,117,109,112]∨cH t=[104,97,108,116]
 ·exact As [115] [114] (λ_ _=>true) (by rcases c9 with c|c<;>rw[c]<;>rfl) (by rcases c9 with c|c<;>rw[c]<;>rfl) rfl de de
   (Au de (λu=>Cu u) (λ_ h=>absurd h de) (λ_ h=>absurd h de) (λ_ h=>absurd h de)) (nog (by rcases c9 with c|c<;>rw[c]<;>decide))
 ·have e1:iC (cH t) t.ai.length=[]:=by unfold iC;rw[iN c1,iN c2,iN c3,iN c4,iN c5,iN c6,iN c7,iN c8,iN c9]
  have e2:shapeOf (cH t)=[]:=by unfold shapeOf;rw[iN c1,iN c2,iN c3,iN c4,iN c5,iN (λh=>by rcases h with h|h;exact c6 h;exact c8 h),iN c7,iN c9]
  rw[Je (.inl e1),Mr e2]
theorem aaO (h:aj) (n:Nat):(iC h n).length<=n+4:=by grind [iC]
theorem Mv (h:WF t):2<=t.size:=by
 cases h with
 |av a ha=>have:=List.length_pos_iff.2 ha;simp only[aq.size];omega
 |list ps hp hw=>
  cases ps with
  |nil=>exact absurd rfl hp
  |cons q r=>cases q;simp only[aq.size,aq.size.sizes];omega
theorem R8:∀{ps:List aq},(∀p,p∈ps->WF p)->2*ps.length<=aq.size.sizes ps
 |[],_=>by simp[aq.size.sizes]
 |q::ps,h=>by
  have h1:=Mv (h q sm)
  have h2:=R8 (ps:=ps) (λp hp=>h p (by simp[hp]))
  simp only[aq.size.sizes,lC];omega
theorem aaP (h:WF t):2*t.ai.length+1<=t.size:=by cases h<;>grind [aq.ai,aq.size,R8]
def Gm (t:aq):Bool:=decide (cH t=[106,117,109,112])||decide (cH t=[104,97,108,116])
theorem aaQ (h:lz t=true):cH t=(nth t.ai 0).av:=by grind [lz,cH,nth,aq.ai,Mq]
theorem aaR (h:lz t=true):Jc t=Gm t:=by
 unfold Jc Gm;rw[h,aaQ h];rfl
inductive Good:aq->Prop
 |av (a:aj) (h:a≠[]) (hb:a.all eV=true):Good (.mk a [])
 |list (ps:List aq) (h:ps≠[]) (hp:∀p,p∈ps->Good p):Good (.mk [] ps)
theorem Good.wf (h:Good t):WF t:=by
 induction h with
 |av a h _=>exact .av a h
 |list ps h _ ih=>exact .list ps h ih
theorem Good.part (h:Good t) (hp:t.ai[i]?=some p):Good p:=by
 cases h with
 |av a _ _=>simp[aq.ai] at hp
 |list ps _ hw=>exact hw p (List.mem_of_getElem? hp)
theorem Good.nth (h:Good t) (hi:i<t.ai.length):Good (nth t.ai i):=h.part (ej hi)
def aq.depth:aq->Nat
 | .mk _ ps=>deeps ps
 where deeps:List aq->Nat
 |[]=>0
 |t::ts=>max (t.depth+1) (deeps ts)
theorem R9:∀{p:aq},p∈ps->p.depth+1<=aq.depth.deeps ps:=by
 induction ps with
 |nil=>intro p h;simp at h
 |cons q ps ih=>
  intro p h
  rcases mC.1 h with rfl|h
  ·simp only[aq.depth.deeps];omega
  ·have:=ih h;simp only[aq.depth.deeps];omega
theorem Jf:∀{ps:List aq},(∀p,p∈ps->p.depth+1<=d)->aq.depth.deeps ps<=d
 |[],_=>by simp[aq.depth.deeps]
 |q::ps,h=>by
  have h1:=h q sm
  have h2:=Jf (ps:=ps) (λp hp=>h p (by simp[hp]))
  simp only[aq.depth.deeps];omega
theorem o7 {a:aj} (h:a≠[]):(aq.mk a ps).text=a:=by simp[aq.text,h]
theorem qC (ps:List aq):(aq.mk [] ps).text=40::(kA ps++[41]):=by simp[aq.text]
theorem pT (t:aq):kA [t]=t.text:=by simp[kA]
theorem o8 (t u:aq) (r:List aq):kA (t::u::r)=t.text++32::kA (u::r):=by simp[kA]
theorem Sa {rd:aj->Option (aq×aj)} (eW:∀s t r,rd s=some (t,r)->s=t.text++r):∀n s ts r,iK rd n s=some (ts,r)->ts≠[]∧s=kA ts++41::r
 |0,_,_,_,h=>by simp[iK] at h
 |n+1,s,ts,r,h=>by
  unfold iK at h
  cases hr:rd s with
  |none=>simp[hr] at h
  |some q=>
   obtain⟨t,r1⟩:=q
   have ht:=eW s t r1 hr
   simp only[hr] at h
   cases r1 with
   |nil=>simp at h
   |cons c r'=>
    simp only at h
    by_cases h1:c=41
    ·rw[iP h1] at h
     simp at h
     obtain⟨rfl,rfl⟩:=h
     exact⟨by simp,by rw[ht,h1,pT]⟩
    ·rw[iN h1] at h
     by_cases h2:c=32
     ·rw[iP h2] at h
      cases hp:iK rd n r' with
      |none=>simp[hp] at h
      |some q=>
       obtain⟨ts',r''⟩:=q
       simp[hp] at h
       obtain⟨rfl,rfl⟩:=h
       obtain⟨h4,h5⟩:=Sa eW n r' ts' r'' hp
       cases ts' with
       |nil=>exact absurd rfl h4
       |cons u us=>exact⟨by simp,by rw[ht,h2,o8,h5];simp⟩
     ·rw[iN h2] at h;cases h
theorem aaS:∀d s t r,eE d s=some (t,r)->s=t.text++r:=by
 have leaf:∀(s:aj) (t:aq) (r:aj),(if s.takeWhile eV=[] then none else some (aq.mk (s.takeWhile eV) [],s.dropWhile eV))=some (t,r)->s=t.text++r:=by
  intro s t r h
  split at h
  ·cases h
  ·rename_i hn
   simp only[Option.some.injEq,Prod.mk.injEq] at h
   rw[<-h.1,<-h.2,o7 hn,List.takeWhile_append_dropWhile]
 intro d
 induction d with
 |zero=>
  intro s t r h
  cases s with
  |nil=>simp[eE] at h
  |cons c s=>
   simp only[eE] at h
   by_cases h1:c=40
   ·rw[iP h1] at h;cases h
   ·rw[iN h1] at h;exact leaf _ _ _ h
 |succ d ih=>
  intro s t r h
  cases s with
  |nil=>simp[eE] at h
  |cons c s=>
   simp only[eE] at h
   by_cases h1:c=40
   ·rw[iP h1] at h
    cases hp:iK (eE d) (s.length+1) s with
    |none=>simp[hp] at h
    |some q=>
     obtain⟨ts',r''⟩:=q
     simp[hp] at h
     obtain⟨h3,h4⟩:=Sa ih _ _ _ _ hp
     rw[<-h.1,<-h.2,qC,h1,h4];simp
   ·rw[iN h1] at h;exact leaf _ _ _ h
theorem Sb {rd:aj->Option (aq×aj)} (d:Nat) (eW:∀s t r,rd s=some (t,r)->Good t∧t.depth<=d):∀n s ts r,iK rd n s=some (ts,r)->ts≠[]∧∀p,p∈ts->Good p∧p.depth<=d
 |0,_,_,_,h=>by simp[iK] at h
 |n+1,s,ts,r,h=>by
  unfold iK at h
  cases hr:rd s with
  |none=>simp[hr] at h
  |some q=>
   obtain⟨t,r1⟩:=q
   have ht:=eW s t r1 hr
   simp only[hr] at h
   cases r1 with
   |nil=>simp at h
   |cons c r'=>
    simp only at h
    by_cases h1:c=41
    ·rw[iP h1] at h
     simp at h
     obtain⟨rfl,_⟩:=h
     exact⟨by simp,by intro p hp;simp at hp;subst hp;exact ht⟩
    ·rw[iN h1] at h
     by_cases h2:c=32
     ·rw[iP h2] at h
      cases hp:iK rd n r' with
      |none=>simp[hp] at h
      |some q=>
       obtain⟨ts',r''⟩:=q
       simp[hp] at h
       obtain⟨rfl,_⟩:=h
       obtain⟨_,h4⟩:=Sb d eW n r' ts' r'' hp
       exact⟨by simp,by intro p hp;rcases mC.1 hp with rfl|hp;exact ht;exact h4 p hp⟩
     ·rw[iN h2] at h;cases h
theorem all_takeWhile (p:UInt8->Bool):∀s:aj,(s.takeWhile p).all p=true:=by simp_all
theorem aaT:∀d s t r,eE d s=some (t,r)->Good t∧t.depth<=d:=by
 have leaf:∀(d:Nat) (s:aj) (t:aq) (r:aj),(if s.takeWhile eV=[] then none else some (aq.mk (s.takeWhile eV) [],s.dropWhile eV))=some (t,r)->Good t∧t.depth<=d:=by
  intro d s t r h
  split at h
  ·cases h
  ·rename_i hn
   simp only[Option.some.injEq,Prod.mk.injEq] at h
   rw[<-h.1];exact⟨.av _ hn (all_takeWhile _ _),by simp[aq.depth,aq.depth.deeps]⟩
 intro d
 induction d with
 |zero=>
  intro s t r h
  cases s with
  |nil=>simp[eE] at h
  |cons c s=>
   simp only[eE] at h
   by_cases h1:c=40
   ·rw[iP h1] at h;cases h
   ·rw[iN h1] at h;exact leaf _ _ _ _ h
 |succ d ih=>
  intro s t r h
  cases s with
  |nil=>simp[eE] at h
  |cons c s=>
   simp only[eE] at h
   by_cases h1:c=40
   ·rw[iP h1] at h
    cases hp:iK (eE d) (s.length+1) s with
    |none=>simp[hp] at h
    |some q=>
     obtain⟨ts',r''⟩:=q
     simp[hp] at h
     obtain⟨h3,h4⟩:=Sb d ih _ _ _ _ hp
     rw[<-h.1]
     exact⟨.list _ h3 (λp hp=>(h4 p hp).1),Jf (λp hp=>by have:=(h4 p hp).2;omega)⟩
   ·rw[iN h1] at h;exact leaf _ _ _ _ h
def Stop (r:aj):Prop:=∀c,r[0]?=some c->eV c=false
theorem Mw {p:UInt8->Bool}:∀{a r:aj},a.all p=true->(∀c,r[0]?=some c->p c=false)->(a++r).takeWhile p=a∧(a++r).dropWhile p=r
 |[],[],_,_=>⟨rfl,rfl⟩
 |[],c::r,_,h=>by have:=h c rfl;simp[this]
 |c::a,r,ha,h=>by
  simp only[List.all_cons,aE] at ha
  obtain⟨h1,h2⟩:=Mw (a:=a) ha.2 h
  simp[ha.1,h1,h2]
theorem Sd (h:Good t):∃c r,t.text=c::r:=by
 cases h with
 |av a ha _=>
  rw[o7 ha]
  cases a with
  |nil=>exact absurd rfl ha
  |cons c r=>exact⟨c,r,rfl⟩
 |list ps _ _=>exact⟨_,_,qC ps⟩
theorem Se {rd:aj->Option (aq×aj)}:∀(ts:List aq) (n:Nat) (r:aj),ts≠[]->ts.length<=n->(∀t,t∈ts->∀r,Stop r->rd (t.text++r)=some (t,r))->iK rd n (kA ts++41::r)=some (ts,r)
 |[],_,_,h,_,_=>absurd rfl h
 |[t],n,r,_,hn,h=>by
  cases n with
  |zero=>simp at hn
  |succ n=>
   unfold iK
   rw[pT,h t sm (41::r) (by intro c hc;simp at hc;subst hc;decide)]
   simp
 |t::u::us,n,r,_,hn,h=>by
  cases n with
  |zero=>simp at hn
  |succ n=>
   unfold iK
   rw[o8,List.append_assoc,List.cons_append,h t sm (32::(kA (u::us)++41::r)) (by intro c hc;simp at hc;subst hc;decide)]
   have:=Se (rd:=rd) (u::us) n r sm (by simp at hn⊢;omega) (λt ht=>h t (by simp at ht⊢;exact .inr ht))
   simp[this]
theorem Sf:∀ts:List aq,(∀t,t∈ts->Good t)->ts.length<=(kA ts).length
 |[],_=>by simp
 |[t],h=>by obtain⟨c,r,e⟩:=Sd (h t sm);rw[pT,e];simp
 |t::u::us,h=>by
  have:=Sf (u::us) (λt ht=>h t (by simp at ht⊢;exact .inr ht))
  rw[o8];simp at this⊢;omega
theorem Mx:∀(d:Nat) (t:aq) (r:aj),Good t->t.depth<=d->Stop r->eE d (t.text++r)=some (t,r):=by
 intro d
 induction d with
 |zero=>
  intro t r hg hd hr
  cases hg with
  |av a ha hb=>
   obtain⟨c,a',rfl⟩:∃c a',a=c::a':=by cases a with|nil=>exact absurd rfl ha|cons c r=>exact⟨c,r,rfl⟩
   rw[o7 ha,List.cons_append,Ge 0 c _ (by rintro rfl;simp at hb;exact absurd hb.1 de)]
   obtain⟨h1,h2⟩:=Mw hb hr
   rw[List.cons_append] at h1 h2
   rw[h1,h2,iN sm]
  |list ps hp hw=>
   cases ps with
   |nil=>exact absurd rfl hp
   |cons q ps=>simp[aq.depth,aq.depth.deeps] at hd
 |succ d ih=>
  intro t r hg hd hr
  cases hg with
  |av a ha hb=>
   obtain⟨c,a',rfl⟩:∃c a',a=c::a':=by cases a with|nil=>exact absurd rfl ha|cons c r=>exact⟨c,r,rfl⟩
   rw[o7 ha,List.cons_append,Ge (d+1) c _ (by rintro rfl;simp at hb;exact absurd hb.1 de)]
   obtain⟨h1,h2⟩:=Mw hb hr
   rw[List.cons_append] at h1 h2
   rw[h1,h2,iN sm]
  |list ps hp hw=>
   rw[qC,List.cons_append,Ee]
   have:=Se (rd:=eE d) ps ((kA ps++[41]++r).length+1) r hp (by have:=Sf ps hw;simp at this⊢;omega)
    (λt ht r hr=>ih t r (hw t ht) (by have:=R9 ht;simp only[aq.depth] at hd;omega) hr)
   unfold mN
   rw[show rT (d+1)=eE d from funext λ_=>rfl]
   rw[show kA ps++[41]++r=kA ps++41::r from by simp] at this⊢
   rw[this];rfl
theorem My (h:Good t) (k:Good u) (e:t.text=u.text):t=u:=by
 have h1:=Mx (max t.depth u.depth) t [] h om (by intro c hc;simp at hc)
 have h2:=Mx (max t.depth u.depth) u [] k om (by intro c hc;simp at hc)
 rw[e,h2] at h1
 simp at h1;exact h1.symm
theorem pU (h:bA s=some t):Good t∧t.depth<=60∧t.text=s∧s.length<=12000:=by
 have hs:=Ml h
 unfold bA at h
 split at h
 ·cases h
 ·cases hr:eE 60 s with
  |none=>rw[hr] at h;cases h
  |some q=>
   obtain⟨t',r⟩:=q
   rw[hr] at h
   cases r with
   |nil=>
    simp at h;subst h
    have h1:=aaT _ _ _ _ hr
    have h2:=aaS _ _ _ _ hr
    exact⟨h1.1,h1.2,by rw[h2];simp,hs⟩
   |cons c r=>cases h
theorem Sg (h:Good t):bA t.text=if t.depth<=60∧t.text.length<=12000 then some t else none:=by
 split
 ·rename_i hc
  unfold bA
  have:=Mx 60 t [] h hc.1 (by intro c hc;simp at hc)
  rw[List.append_nil] at this
  rw[iN om,this]
 ·rename_i hc
  cases hp:bA t.text with
  |none=>rfl
  |some u=>
   obtain⟨h1,h2,h3,h4⟩:=pU hp
   have:=My h1 h h3
   subst this
   exact absurd ⟨h2,h4⟩ hc
theorem Mz (h:Good t) (hd:t.depth<=60) (hl:t.text.length<=12000):bA t.text=some t:=by grind [Sg]
theorem aaU:∀{p:aq},p∈ps->p.text.length<=(kA ps).length:=by
 induction ps with
 |nil=>intro p h;simp at h
 |cons q ps ih=>
  intro p h
  cases ps with
  |nil=>simp at h;subst h;rw[pT];exact lR _
  |cons u us=>
   rw[o8]
   rcases mC.1 h with rfl|h
   ·simp
   ·have:=ih h;simp at this⊢;omega
theorem Good.sub (h:Good t) (hp:t.ai[i]?=some p):Good p∧p.depth+1<=t.depth∧p.text.length+2<=t.text.length:=by
 refine⟨h.part hp,?_,?_⟩
 ·cases t with
  |mk a ps=>exact R9 (List.mem_of_getElem? hp)
 ·cases h with
  |av a _ _=>simp[aq.ai] at hp
  |list ps _ hw=>have:=aaU (List.mem_of_getElem? hp);rw[qC];simp;exact this
def aq.len:aq->Nat
 | .mk a ps=>if ps=[] then a.length else 1+lens ps
 where lens:List aq->Nat
 |[]=>0
 |t::ts=>t.len+1+lens ts
theorem Sh:∀ps:List aq,ps≠[]->(∀p,p∈ps->p.len=p.text.length)->aq.len.lens ps=(kA ps).length+1
 |[],h,_=>absurd rfl h
 |[t],_,h=>by rw[pT];simp only[aq.len.lens,h t sm]
 |t::u::us,_,h=>by
  have:=Sh (u::us) sm (λp hp=>h p (by simp at hp⊢;exact .inr hp))
  rw[o8]
  simp only[aq.len.lens,h t sm,lA,lC] at this⊢
  omega
theorem Si (h:WF t):t.len=t.text.length:=by
 induction h with
 |av a ha=>rw[o7 ha];simp[aq.len]
 |list ps hp _ ih=>
  rw[qC]
  simp only[aq.len,hp,if_false,Sh ps hp ih,lC,lA,List.length_nil]
  omega
structure fJ where
 aM:aj
 regs:List aq
 code:List aq
def tr (s:aj):aq:=(bA s).getD (.mk [] [])
theorem Sj (h:bA s=some t):tr s=t:=by unfold tr;rw[h];rfl
def fy (b:Bk):fJ:=⟨b.aM,b.bW.map tr,b.code.map tr⟩
def vj (b:Bk):Bool:=decide (b.aM.length<=12000)
def ow (b:Bk):Bool:=kO b&&vj b
def ml (bs:List Bk):Bool:=iB bs&&bs.all vj
def bH (a:aj):aq:=.mk a []
def ju (h:aj) (ts:List aq):aq:=.mk [] (bH h::ts)
def o9 (b:fJ):aq:=ju [98,108,111,99,107] [bH b.aM,ju [114,101,103,115] b.regs,ju [99,111,100,101] b.code]
def mQ (ps:List fJ):aq:=ju [112,114,111,103,114,97,109] (ps.map o9)
def ox (ps:List aj):aj:=ps.flatMap λp=>32::p
def cY (h:aj) (ps:List aj):aj:=40::(h++ox ps++[41])
theorem Sk (t:aq):∀ts:List aq,kA (t::ts)=t.text++ox (ts.map aq.text)
 |[]=>by rw[pT];simp[ox]
 |u::us=>by rw[o8,Sk u us];simp[ox]
theorem wJ {h:aj} (hh:h≠[]) (ts:List aq):(ju h ts).text=cY h (ts.map aq.text):=by
 unfold ju cY
 rw[qC,Sk];simp[bH,o7 hh]
def lB (b:Bk):aj:=cY [98,108,111,99,107] [b.aM,cY [114,101,103,115] b.bW,cY [99,111,100,101] b.code]
def lD (bs:List Bk):aj:=cY [112,114,111,103,114,97,109] (bs.map lB)
theorem aaV (h:(I9 c||gZ c)=true):eV c=true:=by
 unfold I9 gZ at h
 unfold eV
 simp only[oE,aE] at h⊢
 rcases h with h|h
 ·simp[h]
 ·simp[h]
theorem aaW (h:mj s=true):s≠[]∧s.all eV=true:=by
 unfold mj at h
 simp only[aE,dE,List.all_eq_true,List.mem_range] at h
 refine⟨h.2,List.all_eq_true.2 λc hc=>?_⟩
 obtain⟨i,hi,rfl⟩:=List.getElem_of_mem hc
 have:=h.1 i hi
 unfold Ak at this
 rw[gG,gE hi] at this
 simp only[Option.getD_some] at this
 refine aaV ?_
 simp only[oE,aE] at this⊢
 rcases this with h|h
 ·exact .inl h
 ·exact .inr h.2
theorem Gn (h1:h≠[]) (h2:h.all eV=true) (hp:∀t,t∈ts->Good t):Good (ju h ts):=by
 refine .list _ sm λp Av=>?_
 rcases mC.1 Av with rfl|Av
 ·exact .av _ h1 h2
 ·exact hp p Av
theorem MA (h:kO b=true):mj b.aM=true∧(∀s,s∈b.bW->∃t,bA s=some t∧fQ false t=true)∧∀s,s∈b.code->∃t,bA s=some t∧lz t=true:=by
 unfold kO at h
 simp only[aE,dE] at h
 obtain⟨⟨⟨⟨h1,_⟩,_⟩,h2⟩,h3⟩:=h
 refine⟨h1,λs hs=>?_,λs hs=>?_⟩
 ·obtain⟨i,hi,rfl⟩:=List.getElem_of_mem hs
  have:=h2 i hi
  rw[cJ,gG,gE hi] at this
  simp only[Option.getD_some] at this
  unfold sH seen at this
  cases hp:bA b.bW[i] with
  |none=>rw[hp] at this;cases this
  |some t=>rw[hp] at this;exact⟨t,rfl,this⟩
 ·obtain⟨i,hi,rfl⟩:=List.getElem_of_mem hs
  have:=h3 i hi
  unfold rX at this
  rw[aE] at this
  have:=this.1
  rw[cJ,gG,gE hi] at this
  simp only[Option.getD_some] at this
  unfold sI seen at this
  cases hp:bA b.code[i] with
  |none=>rw[hp] at this;cases this
  |some t=>rw[hp] at this;exact⟨t,rfl,this⟩
theorem Sl {xs:List aj} (h:∀s,s∈xs->∃t,bA s=some t):(∀t,t∈xs.map tr->Good t)∧(xs.map tr).map aq.text=xs:=by
 constructor
 ·intro t ht
  obtain⟨s,hs,rfl⟩:=List.mem_map.1 ht
  obtain⟨t,ht⟩:=h s hs
  rw[Sj ht];exact(pU ht).1
 ·rw[List.map_map]
  conv=>rhs;rw[<-List.map_id xs]
  refine List.map_congr_left λs hs=>?_
  obtain⟨t,ht⟩:=h s hs
  simp only[Function.comp,Sj ht,id];exact(pU ht).2.2.1
theorem Sm (h:kO b=true):Good (o9 (fy b))∧(o9 (fy b)).text=lB b:=by
 obtain⟨h1,h2,h3⟩:=MA h
 obtain⟨a1,a2⟩:=Sl (xs:=b.bW) (λs hs=>(h2 s hs).imp λ_ h=>h.1)
 obtain⟨b1,b2⟩:=Sl (xs:=b.code) (λs hs=>(h3 s hs).imp λ_ h=>h.1)
 obtain⟨l1,l2⟩:=aaW h1
 refine⟨Gn de de λt ht=>?_,?_⟩
 ·simp only[mC,List.not_mem_nil,or_false] at ht
  rcases ht with rfl|rfl|rfl
  ·exact .av _ l1 l2
  ·exact Gn de de a1
  ·exact Gn de de b1
 ·unfold o9 lB
  rw[wJ de]
  simp only[List.map_cons,List.map_nil,wJ (h:=[114,101,103,115]) de,wJ (h:=[99,111,100,101]) de]
  rw[show(fy b).regs=b.bW.map tr from rfl,show(fy b).code=b.code.map tr from rfl,a2,b2,bH,o7 (show(fy b).aM≠[] from l1)];rfl
theorem Aw (h:iB bs=true):∀b,b∈bs->kO b=true:=by grind [iB,List.getElem_of_mem,gE]
theorem Jg (h:iB bs=true):Good (mQ (bs.map fy))∧(mQ (bs.map fy)).text=lD bs:=by
 have hb:=Aw h
 refine⟨Gn de de λt ht=>?_,?_⟩
 ·rw[List.map_map] at ht
  obtain⟨b,gC,rfl⟩:=List.mem_map.1 ht
  exact(Sm (hb b gC)).1
 ·unfold mQ lD
  rw[wJ de,List.map_map,List.map_map]
  congr 1
  exact List.map_congr_left λb gC=>(Sm (hb b gC)).2
def rl (bs:List Bk):Option aj:=if iB bs&&(bA (lD bs)).isSome then some (lD bs) else none
def yi (t:aq):Bool:=decide (t.depth<=60)&&decide (t.len<=12000)
def Jh (bs:List Bk):Option aj:=if ml bs&&yi (mQ (bs.map fy)) then some (mQ (bs.map fy)).text else none
theorem aaX {ps:List aj} {p:aj} (h:p∈ps):p.length<=(ox ps).length:=by
 induction ps with
 |nil=>simp at h
 |cons q ps ih=>
  rcases mC.1 h with rfl|h
  ·simp[ox];omega
  ·have:=ih h;simp[ox] at this⊢;omega
theorem Gp {h:aj} {ps:List aj} {p:aj} (hp:p∈ps):p.length<=(cY h ps).length:=by
 have:=aaX hp;simp[cY];omega
theorem Sn (h:b∈bs):b.aM.length<=(lD bs).length:=
 Nat.le_trans (Gp (h:=[98,108,111,99,107]) (ps:=[b.aM,cY [114,101,103,115] b.bW,cY [99,111,100,101] b.code]) sm) (Gp (List.mem_map.2 ⟨b,h,rfl⟩))
theorem So (bs:List Bk):Jh bs=rl bs:=by
 unfold Jh rl ml
 cases h:iB bs with
 |false=>simp
 |true=>
  obtain⟨h1,h2⟩:=Jg h
  rw[Bool.true_and,Bool.true_and,<-h2,Sg h1]
  have e:yi (mQ (bs.map fy))=decide ((mQ (bs.map fy)).depth<=60∧(mQ (bs.map fy)).text.length<=12000):=by
   unfold yi;rw[Si h1.wf,<-Bool.decide_and]
  rw[e]
  by_cases hc:(mQ (bs.map fy)).depth<=60∧(mQ (bs.map fy)).text.length<=12000
  ·have hs:bs.all vj=true:=List.all_eq_true.2 λb hb=>by
    have:=Sn hb
    rw[h2] at hc
    unfold vj;exact dT om
   rw[hs,dT hc,iP hc];simp
  ·rw[dF hc,iN hc];simp
def oy (u:aq):Bool:=decide (cH u=[98,108,111,99,107])&&decide (u.ai.length=4)&&decide (cH (nth u.ai 2)=[114,101,103,115])&&decide (cH (nth u.ai 3)=[99,111,100,101])
def Ej (u:aq):Bk:=⟨(nth u.ai 1).av,((nth u.ai 2).ai.drop 1).map aq.text,((nth u.ai 3).ai.drop 1).map aq.text⟩
def kP (u:aq):Bk:=if oy u then Ej u else Ar
def lE (t:aq):List Bk:=(t.ai.drop 1).map kP
def nO (s:aj):Option (List Bk):=match bA s with
 |none=>none
 |some t=>if decide (cH t=[112,114,111,103,114,97,109])&&iB (lE t) then some (lE t) else none
theorem aaY:kO Ar=false:=by decide
theorem Sp (h:Ar∈bs):iB bs=false:=by
 cases hp:iB bs with
 |false=>rfl
 |true=>have:=Aw hp Ar h;rw[aaY] at this;cases this
def MB:List aq->aj
 |[]=>[]
 |h::_=>h.av
mutual
def Gq (y:aq):aq->aq
 | .mk a ps=>if a=[118] then y else if a≠[]∨MB ps=[101] then .mk a ps else .mk [] (Sq y ps)
def Sq (y:aq):List aq->List aq
 |[]=>[]
 |t::ts=>Gq y t::Sq y ts
end
theorem aaZ (ps:List aq):cH (.mk [] ps)=MB ps:=by
 cases ps<;>simp[cH,MB,aq.av,aq.ai]
/-! ### States -/
abbrev TS:=List (Option aq)
def aa0 (a:aj):Nat:=(Am a).toNat
def aa1 (st:TS) (a:aj):Option aq:=st.getD (aa0 a) none
def aZ (n:Nat):aj:=if n<10 then[UInt8.ofNat (48+n)] else aZ (n/10)++[UInt8.ofNat (48+n%10)]
 termination_by n
def Eg (st:TS):List aq->Option (List aq)
 |[]=>some []
 |u::us=>(aa1 st u.av).bind λx=>(Eg st us).map λxs=>x::xs
theorem aa2 (h:Lib.hasPrefix s [40]=true):∃r,s=40::r:=by
 cases s with
 |nil=>simp[Lib.hasPrefix,List.isPrefixOf] at h
 |cons c r=>simp[Lib.hasPrefix,List.isPrefixOf] at h;exact⟨r,by rw[h]⟩
theorem aa3 (h:Lib.hasPrefix s [40]=false):∀c r,s=c::r->c≠40:=by
 rintro c r rfl rfl
 simp[Lib.hasPrefix,List.isPrefixOf] at h
theorem aa4 (h:Lib.hasPrefix s [40]=false) (d:Nat):eE d s=if s.takeWhile eV=[] then none else some (.mk (s.takeWhile eV) [],s.dropWhile eV):=by
 cases s with
 |nil=>rw[Re];simp
 |cons c r=>rw[Ge d c r (aa3 h c r rfl)]
theorem aa5 (h:eE d s=none):mN (d+1) s=none:=by rw[Gd];show(match eE d s with|none=>none|some (t,r)=>_)=none;rw[h]
theorem aa6 (h:eE d s=some (t,[])):mN (d+1) s=none:=by rw[Gd];show(match eE d s with|none=>none|some (t,r)=>_)=none;rw[h]
theorem Sr (h:eE d s=some (t,c::r)):mN (d+1) s=if c=41 then some ([t],r) else if c=32 then(mN (d+1) r).map λp=>(t::p.1,p.2) else none:=by
 rw[Gd];show(match eE d s with|none=>none|some (t,r)=>_)=_;rw[h]
theorem MC:(s.drop k).take (s.length-k)=s.drop k:=List.take_of_length_le sm
theorem Ji (hk:k<256):decide ((c.toNat:Int)≠(k:Int))=decide (c≠UInt8.ofNat k):=decide_eq_decide.2 (by
 have e:(UInt8.ofNat k).toNat=k:=by simp;omega
 constructor
 ·intro h h2;rw[h2,e] at h;exact h rfl
 ·intro h h2;exact h (UInt8.toNat_inj.1 (by rw[e];omega)))
def Ax (d:Nat) (s:aj) (t:aq) (r:aj) (ok:Bool):Prop:=(eE d s=some (t,r)∧ok=true)∨(eE d s=none∧ok=false)
theorem Ax.le {ok:Bool} (h:Ax d s t r ok) (ho:ok=true):eE d s=some (t,r)∧r.length<s.length:=by
 rcases h with⟨h,_⟩|⟨_,h⟩
 ·obtain⟨k,h1,h2,rfl⟩:=I3 d s t r h
  exact⟨h,by simp;omega⟩
 ·rw[ho] at h;cases h
theorem aa7 {ok:Bool} (hm:Ax d s t r ok) (h:((!ok||decide (r=[]))||(decide (((r.getD 0 0).toNat:Int)≠32)&&decide (((r.getD 0 0).toNat:Int)≠41)))=true):mN (d+1) s=none:=by
 rcases hm with⟨hr,rfl⟩|⟨hr,rfl⟩
 ·cases r with
  |nil=>exact aa6 hr
  |cons c r=>
   rw[Sr hr]
   simp only[Bool.not_true,Bool.false_or,List.getD_cons_zero,show decide (c::r=[])=false from by simp] at h
   rw[show(32:Int)=((32:Nat):Int) from rfl,show(41:Int)=((41:Nat):Int) from rfl,Ji de,Ji de,aE] at h
   have h1:¬c=32:=of_decide_eq_true h.1
   have h2:¬c=41:=of_decide_eq_true h.2
   rw[iN h2,iN h1]
 ·exact aa5 hr
theorem aa8 {ok:Bool} (hm:Ax d s t r ok) (h:((!ok||decide (r=[]))||(decide (((r.getD 0 0).toNat:Int)≠32)&&decide (((r.getD 0 0).toNat:Int)≠41)))=false):
  0<r.length∧r.length<s.length∧mN (d+1) s=if r.getD 0 0=41 then some ([t],r.drop 1) else(mN (d+1) (r.drop 1)).map λp=>(t::p.1,p.2):=by
 simp only[Bool.or_eq_false_iff,Bool.not_eq_false',decide_eq_false_iff_not] at h
 obtain⟨⟨h1,h2⟩,h3⟩:=h
 obtain⟨hr,hl⟩:=hm.le h1
 cases r with
 |nil=>exact absurd rfl h2
 |cons c r=>
  refine⟨by simp,hl,?_⟩
  rw[Sr hr]
  simp only[List.getD_cons_zero,List.drop_one,List.tail_cons] at h3⊢
  by_cases Gs:c=41
  ·rw[iP Gs,iP Gs]
  ·rw[iN Gs,iN Gs]
   rw[show(32:Int)=((32:Nat):Int) from rfl,show(41:Int)=((41:Nat):Int) from rfl,Ji de,Ji de,Bool.and_eq_false_iff] at h3
   rcases h3 with h3|h3
   ·rw[iP (by simpa using h3)]
   ·exact absurd (by simpa using h3) Gs
theorem aa9 {ok:Bool} (hl:s.length<=12000) (hm:Ax 60 s t r ok):(ok&&decide (r=[]))=(bA s).isSome∧∀t',bA s=some t'->t=t':=by grind [Ax,bA]
theorem aba (h1:n1=b.bW.length) (h2:n2=b.code.length) 
  (h:(((!mj b.aM||decide ((12000:Int)<(b.aM.length:Int)))||decide ((40:Int)<(n1:Int)))||!(decide ((1:Int)<=(n2:Int))&&decide ((n2:Int)<=80)))=true):ow b=false:=by grind [ow,vj,dd.length,RV,Jd,RM]
theorem abb (h1:n1=b.bW.length) (h2:n2=b.code.length) 
  (h:(((!mj b.aM||decide ((12000:Int)<(b.aM.length:Int)))||decide ((40:Int)<(n1:Int)))||!(decide ((1:Int)<=(n2:Int))&&decide ((n2:Int)<=80)))=false):
  (mj b.aM&&decide (b.bW.length<=40)&&(decide (1<=b.code.length)&&decide (b.code.length<=80)))=true∧vj b=true:=by grind [vj,dd.length,Jd,RL]
theorem abc (hi:i<b.bW.length) (h:sH (cJ b.bW i)=false):ow b=false:=by
 unfold ow;rw[RW hi h];rfl
theorem abd (hi:i<b.code.length) (h:rX b.code i=false):ow b=false:=by
 unfold ow;rw[RX hi h];rfl
theorem abe (h:sH s=true) (ht:∀t',bA s=some t'->t=t'):t=tr s:=by grind [bA,tr,seen]
theorem Ss {code:List aj} {n:Nat} (hn:n=code.length) (hi:i<n) (ht:∀t',bA (cJ code i)=some t'->t=t'):
  ((!(bA (cJ code i)).isSome||!rk t)||(Gm t !=decide ((i:Int)=(n:Int)-1)))=!rX code i:=by grind [Mt,aaN,seen,bA,lz,aaR]
theorem abf {code:List aj} (h:rX code i=true) (ht:∀t',bA (cJ code i)=some t'->t=t'):t=tr (cJ code i):=by grind [rX,bA,tr,seen]
theorem yj {α β:Type} (f:α->β) {xs:List α} {x:α} (h:xs[i]?=some x):(xs.take i).map f++[f x]=(xs.take (i+1)).map f:=by grind [List.getElem?_eq_some_iff,List.take_succ_eq_append_getElem]
theorem yk {α β:Type} (f:α->β) {xs:List α} (h:xs.length<=i):(xs.take i).map f=xs.map f:=by rw[List.take_of_length_le h]
theorem wK {α β:Type} (f:α->β) {xs:List α} (h:i<=xs.length):((xs.take i).map f).length=i:=by simp;omega
theorem Cv (ht:∀t',bA s=some t'->t=t') (h:(bA s).isSome=true):WF t∧t.size<=12001:=by grind [bA,aq.size,tS,Al]
def Ek (ps:List fJ) (l:aj):Int:=match ps.findIdx? (λb=>decide (b.aM=l)) with
 |some i=>(i:Int)
 |none=> -1
abbrev fl (ps:List fJ) (i:Nat):fJ:=ps.getD i ⟨[],[],[]⟩
theorem MD {ps:List fJ} (h:i<ps.length):ps[i]?=some (fl ps i):=by grind
def Gt (ps:List fJ) (g:fJ->Bool):Int:=match ps.findIdx? g with
 |some i=>(i:Int)
 |none=> -1
theorem Jj {ps:List fJ} (h:i<ps.length):fl ps i=ps[i]:=by grind
theorem abg {ts:List fJ} {g:fJ->Bool} (hk:k<ts.length) (h:∀i,i<k->g (fl ts i)=false) (hl:g (fl ts k)=true):Gt ts g=(k:Int):=by
 have:ts.findIdx? g=some k:=by
  rw[List.findIdx?_eq_some_iff_getElem]
  refine⟨hk,by rw[<-Jj hk];exact hl,λj hj=>?_⟩
  have:=h j hj
  rw[Jj (Nat.lt_trans hj hk)] at this
  simpa using this
 unfold Gt;rw[this]
theorem abh {ts:List fJ} {g:fJ->Bool} (h:∀i,i<ts.length->g (fl ts i)=false):Gt ts g= -1:=by grind [Jj,Gt,List.findIdx?_eq_none_iff,List.getElem_of_mem]
theorem abi (h:i<bs.length):bN bs i=bs[i]:=by grind
theorem St (hk:k<bs.length):decide ((0:Int)<=Ek ((bs.take k).map fy) (bN bs k).aM)=decide (o6 bs (bN bs k).aM≠(k:Int)):=by
 refine decide_eq_decide.2 ?_
 by_cases hex:∃j,j<k∧(bN bs j).aM=(bN bs k).aM
 ·obtain⟨j,hj,hl⟩:=hex
  have h1:o6 bs (bN bs k).aM≠k:=by
   intro h
   unfold o6 at h
   cases hf:bs.findIdx? (λb=>decide (b.aM=(bN bs k).aM)) with
   |none=>rw[hf] at h;simp at h
   |some i=>
    rw[hf] at h
    have uY:i=k:=Int.ofNat.inj h
    subst uY
    rw[List.findIdx?_eq_some_iff_getElem] at hf
    obtain⟨_,_,cZ⟩:=hf
    have:=cZ j hj
    rw[<-abi] at this
    simp only[dE] at this
    exact this hl
  have h2:0<=Ek ((bs.take k).map fy) (bN bs k).aM:=by
   unfold Ek
   cases hf:((bs.take k).map fy).findIdx? (λb=>decide (b.aM=(bN bs k).aM)) with
   |some i=>simp
   |none=>
    rw[List.findIdx?_eq_none_iff] at hf
    have:=hf (fy (bN bs j)) (List.mem_map.2 ⟨bN bs j,by rw[List.mem_take_iff_getElem];exact⟨j,om,by simp[gE (show j<bs.length by omega)]⟩,rfl⟩)
    exact absurd hl (of_decide_eq_false this)
  exact⟨λ_=>h1,λ_=>h2⟩
 ·have h1:o6 bs (bN bs k).aM=k:=RU hk (λj hj hl=>hex ⟨j,hj,hl⟩) rfl
  have h2:Ek ((bs.take k).map fy) (bN bs k).aM= -1:=by
   unfold Ek
   have:((bs.take k).map fy).findIdx? (λb=>decide (b.aM=(bN bs k).aM))=none:=by
    rw[List.findIdx?_eq_none_iff]
    intro x hx
    obtain⟨b,hb,rfl⟩:=List.mem_map.1 hx
    obtain⟨j,hj,rfl⟩:=List.mem_take_iff_getElem.1 hb
    refine dF λhl=>hex ⟨j,om,?_⟩
    rw[bN,gG,gE om]
    exact hl
   rw[this]
  rw[h1,h2];constructor
  ·intro h;omega
  ·intro h;exact absurd rfl h
theorem abj (hi:i<bs.length) (h:ow (bN bs i)=false∨o6 bs (bN bs i).aM≠i):ml bs=false:=by grind [ml,iB,rW,Aw,ow,RZ]
theorem abk (h:∀i,i<bs.length->ow (bN bs i)=true∧o6 bs (bN bs i).aM=i):
  ml bs=(decide (1<=bs.length)&&decide (bs.length<=40)&&decide ((bN bs 0).aM=[109,97,105,110])&&decide ((bN bs 0).bW.length=0)):=by
 unfold ml
 rw[R0 (λi hi=>⟨by have:=(h i hi).1;unfold ow at this;rw[aE] at this;exact this.1,(h i hi).2⟩),show bs.all vj=true from ?_,Bool.and_true]
 refine List.all_eq_true.2 λb hb=>?_
 obtain⟨i,hi,rfl⟩:=List.getElem_of_mem hb
 have:=(h i hi).1
 unfold ow at this
 rw[aE] at this
 rw[bN,gG,gE hi] at this
 exact this.2
theorem abl (h:¬(1<=bs.length∧bs.length<=40)):ml bs=false:=by grind [ml,iB]
theorem ME:∀(ts:List aq) (t:aq),ts≠[]->kA (ts++[t])=kA ts++32::t.text
 |[],_,h=>absurd rfl h
 |[u],t,_=>by rw[List.cons_append,List.nil_append,o8,pT,pT]
 |u::v::r,t,_=>by
  have:=ME (v::r) t sm
  rw[List.cons_append,List.cons_append,o8,<-List.cons_append,this,o8];simp
def pre (ts:List aq):aj:=if ts=[] then[] else 40::kA ts
theorem Su (hk:k<ps.length):pre (ps.take (k+1))=pre (ps.take k)++((if k=0 then 40 else 32)::(nth ps k).text):=by
 have e:ps.take (k+1)=ps.take k++[nth ps k]:=by rw[List.take_succ_eq_append_getElem hk,Ct hk]
 rw[e]
 by_cases h0:k=0
 ·subst h0;simp[pre,pT]
 ·have dY:ps.take k≠[]:=by intro h;have:=congrArg List.length h;rw[List.length_take] at this;simp only[List.length_nil] at this;omega
  unfold pre
  rw[iN sm,iN dY,ME _ _ dY,iN h0];simp
theorem Sv (cF:WF t) (h:t.ai.length≠0):pre (t.ai.take t.ai.length)++[41]=t.text:=by
 cases cF with
 |av a _=>simp[aq.ai] at h
 |list ps hp _=>
  rw[qC]
  show pre (ps.take ps.length)++[41]=_
  rw[List.take_length]
  unfold pre;rw[iN hp];simp
theorem Sw (cF:WF t) (h:t.ai.length=0):t.text=t.av:=by
 cases cF with
 |av a ha=>exact o7 ha
 |list ps hp _=>exact absurd (List.length_eq_zero_iff.1 h) hp
theorem Sx (cF:WF t) (hk:k<=t.ai.length):(pre (t.ai.take k)).length<=t.text.length:=by
 by_cases h:t.ai.length=0
 ·rw[show k=0 from by omega];simp[pre]
 ·rw[<-Sv cF h,lA]
  have mono:∀j,k<=j->j<=t.ai.length->(pre (t.ai.take k)).length<=(pre (t.ai.take j)).length:=by
   intro j hj
   induction j with
   |zero=>intro _;rw[show k=0 from by omega];exact lR _
   |succ j ih=>
    intro wo
    rcases Nat.lt_or_ge k (j+1) with h|h
    ·have:=ih om om
     rw[Su om,lA];omega
    ·rw[show k=j+1 from by omega];exact lR _
  have:=mono _ hk (lR _)
  omega
def vm (ts:List aq):aj:=40::kA ts
theorem Sy (hk:k<ps.length):vm (ps.take (k+1))=(vm (ps.take k)++(if k=0 then[] else[32]))++(nth ps k).text:=by
 have e:ps.take (k+1)=ps.take k++[nth ps k]:=by rw[List.take_succ_eq_append_getElem hk,Ct hk]
 rw[e]
 by_cases h0:k=0
 ·subst h0;simp[vm,pT,kA]
 ·have dY:ps.take k≠[]:=by intro h;have:=congrArg List.length h;rw[List.length_take] at this;simp only[List.length_nil] at this;omega
  unfold vm
  rw[ME _ _ dY,iN h0];simp
theorem Sz (cF:WF t) (h:t.av=[]):vm (t.ai.take t.ai.length)++[41]=t.text:=by
 cases cF with
 |av a ha=>exact absurd h ha
 |list ps hp _=>
  rw[qC]
  show vm (ps.take ps.length)++[41]=_
  rw[List.take_length];rfl
theorem MF (cF:WF t) (ha:t.av=[]) (hk:k<=t.ai.length):(vm (t.ai.take k)).length<=t.text.length:=by
 rw[<-Sz cF ha,lA]
 have mono:∀j,k<=j->j<=t.ai.length->(vm (t.ai.take k)).length<=(vm (t.ai.take j)).length:=by
  intro j hj
  induction j with
  |zero=>intro _;rw[show k=0 from by omega];exact lR _
  |succ j ih=>
   intro wo
   rcases Nat.lt_or_ge k (j+1) with h|h
   ·have:=ih om om
    rw[Sy om,lA,lA];omega
   ·rw[show k=j+1 from by omega];exact lR _
 have:=mono _ hk (lR _)
 omega
theorem MG (h:oy u=false):kP u=Ar:=by unfold kP;rw[h];rfl
theorem Jk (h:oy u=true):kP u=Ej u:=by unfold kP;rw[h];rfl
theorem MH {n:Nat} (hn:n=u.ai.length):((((decide (cH u≠[98,108,111,99,107])||decide ((n:Int)≠4))||decide (cH (nth u.ai 2)≠[114,101,103,115]))||decide (cH (nth u.ai 3)≠[99,111,100,101])))=!oy u:=by
 subst hn
 unfold oy
 rw[show decide ((u.ai.length:Int)≠4)=decide (u.ai.length≠4) from decide_eq_decide.2 om]
 simp only[decide_not,Bool.not_and]
theorem Gu (h:oy u=true):u.ai.length=4:=by
 unfold oy at h
 simp only[aE,dE] at h;exact h.1.1.2
structure tV (t:aq):Prop where
 wf:WF t
 size:t.size<=12001
 text:t.text.length<=12000
theorem tV.part (h:tV t) (hg:Good t) (hp:t.ai[i]?=some p):tV p:=by
 obtain⟨_,_,h3⟩:=hg.sub hp
 exact⟨h.wf.part hp,by have:=Gl hp;have:=h.size;omega,by have:=h.text;omega⟩
theorem MI (h:bA s=some t):tV t:=by
 obtain⟨h1,h2,h3,h4⟩:=pU h
 exact⟨h1.wf,Al h,by rw[h3];exact h4⟩
theorem tV.nth (h:tV t) (hg:Good t) (hi:i<t.ai.length):tV (nth t.ai i):=h.part hg (ej hi)
theorem SA (hp:∀t',bA s=some t'->t=t') (h:(!(bA s).isSome||decide (cH t≠[112,114,111,103,114,97,109]))=true):nO s=none:=by
 unfold nO
 cases hq:bA s with
 |none=>rfl
 |some t'=>
  rw[<-hp t' hq]
  rw[hq] at h
  simp only[Option.isSome_some,Bool.not_true,Bool.false_or] at h
  simp only
  rw[dF (of_decide_eq_true h)];rfl
theorem SB (hp:∀t',bA s=some t'->t=t') (h:(!(bA s).isSome||decide (cH t≠[112,114,111,103,114,97,109]))=false):bA s=some t∧nO s=(if iB (lE t) then some (lE t) else none)∧0<t.ai.length:=by
 unfold nO
 cases hq:bA s with
 |none=>rw[hq] at h;simp at h
 |some t'=>
  have ht:=hp t' hq
  subst ht
  rw[hq] at h
  simp only[Option.isSome_some,Bool.not_true,Bool.false_or,decide_eq_false_iff_not,Classical.not_not] at h
  refine⟨rfl,by simp only;rw[dT h,Bool.true_and],Nat.pos_of_ne_zero λhz=>?_⟩
  rw[sF (.inr (List.length_eq_zero_iff.1 hz))] at h;cases h
theorem MJ (h:k+1<t.ai.length):(t.ai.drop 1)[k]?=some (nth t.ai (k+1)):=by
 rw[List.getElem?_drop,show 1+k=k+1 from by omega,ej h]
def MK (ts:List aq):Prop:=ts.length<1000000∧∀t,t∈ts->WF t∧t.size<=100000000∧t.text.length<=100000000
theorem Jl (h:tV u) (hg:Good u) (k:Nat):MK (u.ai.drop k):=by
 have hp:=mP u
 have hs:=h.size
 refine⟨by simp;omega,λt ht=>?_⟩
 obtain⟨i,hi,rfl⟩:=List.getElem_of_mem (List.mem_of_mem_drop ht)
 have:=h.part hg (gE hi)
 exact⟨this.wf,by have:=this.size;omega,by have:=this.text;omega⟩
theorem abm (h:tV u) (hg:Good u):(kP u).small:=by
 unfold kP
 split
 ·rename_i hb
  have h4:=Gu hb
  have f1:=h.nth (i:=1) hg om
  have f2:=h.nth (i:=2) hg om
  have f3:=h.nth (i:=3) hg om
  have a1:=qB (nth u.ai 1)
  have p2:=mP (nth u.ai 2)
  have p3:=mP (nth u.ai 3)
  have:=f1.size
  have:=f2.size
  have:=f3.size
  refine⟨?_,?_,?_⟩
  ·show(nth u.ai 1).av.length<_;omega
  ·show(((nth u.ai 2).ai.drop 1).map aq.text).length<_;simp;omega
  ·show(((nth u.ai 3).ai.drop 1).map aq.text).length<_;simp;omega
 ·exact⟨by decide,by decide,by decide⟩
theorem ML (h:tV t) (hg:Good t):tU (lE t):=by
 have hp:=mP t
 have hs:=h.size
 have hl:(lE t).length=t.ai.length-1:=by simp[lE]
 refine⟨by omega,λi hi=>?_⟩
 have e:bN (lE t) i=kP (nth t.ai (i+1)):=by
  simp[lE,bN,List.getD,gE (show i+1<t.ai.length by omega),nth]
 rw[e]
 exact abm (h.nth hg om) (hg.nth om)
/-! ### Depth and length,part by part -/
def maxD:List aq->Nat
 |[]=>0
 |t::ts=>max t.depth (maxD ts)
theorem SC:∀(a b:List aq),maxD (a++b)=max (maxD a) (maxD b)
 |[],b=>by simp[maxD]
 |t::ts,b=>by rw[List.cons_append,maxD,maxD,SC ts b];omega
theorem abn (hk:k<ps.length):maxD (ps.take (k+1))=max (maxD (ps.take k)) (nth ps k).depth:=by
 rw[List.take_succ_eq_append_getElem hk,SC,Ct hk];simp[maxD]
theorem SD:∀{ps:List aq},ps≠[]->aq.depth.deeps ps=maxD ps+1
 |[],h=>absurd rfl h
 |[t],_=>by simp[aq.depth.deeps,maxD]
 |t::u::us,_=>by
  have:=SD (ps:=u::us) sm
  simp only[aq.depth.deeps,maxD] at this⊢;omega
theorem MM (t:aq):t.depth=aq.depth.deeps t.ai:=by cases t;simp[aq.depth,aq.ai]
theorem abo (h:t.ai.length=0):t.depth=0:=by rw[MM,List.length_eq_zero_iff.1 h];rfl
theorem abp (h:t.ai.length≠0):t.depth=maxD (t.ai.take t.ai.length)+1:=by
 rw[MM,List.take_length,SD (λhh=>h (by rw[hh];rfl))]
theorem abq {m:Nat}:∀t:aq,t.size<=m->t.depth<t.size:=by
 induction m with
 |zero=>intro t h;have:=qB t;omega
 |succ m ih=>
  intro t h
  have h1:=mP t
  have h2:aq.depth.deeps t.ai<=t.size-1:=Jf λp hp=>by
   obtain⟨i,hi,rfl⟩:=List.getElem_of_mem hp
   have h3:=Gl (t:=t) (gE hi)
   have:=ih _ (by omega:t.ai[i].size<=m)
   omega
  rw[MM];omega
theorem abr:maxD (t.ai.take k)<t.size:=by
 have key:∀(ps:List aq) (d:Nat),0<d->(∀p,p∈ps->p.depth<d)->maxD ps<d:=by
  intro ps
  induction ps with
  |nil=>intro d hd _;simpa[maxD] using hd
  |cons p ps ih=>
   intro d hd h
   have h1:=h p sm
   have h2:=ih d hd (λq hq=>h q (by simp[hq]))
   rw[maxD];omega
 refine key _ _ (by have:=qB t;omega) λp hp=>?_
 obtain⟨i,hi,rfl⟩:=List.getElem_of_mem (List.mem_of_mem_take hp)
 have h3:=Gl (t:=t) (gE hi)
 have:=abq _ (lR (t.ai[i]).size)
 omega
theorem MN:∀(a b:List aq),aq.len.lens (a++b)=aq.len.lens a+aq.len.lens b
 |[],b=>by simp[aq.len.lens]
 |t::ts,b=>by rw[List.cons_append,aq.len.lens,aq.len.lens,MN ts b];omega
theorem abt (hk:k<ps.length):aq.len.lens (ps.take (k+1))=aq.len.lens (ps.take k)+((nth ps k).len+1):=by
 rw[List.take_succ_eq_append_getElem hk,MN,Ct hk];simp[aq.len.lens]
theorem abu (h:t.ai.length=0):t.len=t.av.length:=by
 cases t with
 |mk a ps=>simp only[aq.ai] at h;have:=List.length_eq_zero_iff.1 h;subst this;simp[aq.len,aq.av]
theorem SE (h:t.ai.length≠0):t.len=1+aq.len.lens (t.ai.take t.ai.length):=by
 cases t with
 |mk a ps=>
  have:ps≠[]:=λhh=>h (by rw[hh];rfl)
  simp[aq.len,aq.ai,this]
theorem abv (h:t.ai.length≠0):1+aq.len.lens (t.ai.take k)<=t.len:=by
 rw[SE h,List.take_length]
 have:=MN (t.ai.take k) (t.ai.drop k)
 rw[List.take_append_drop] at this
 omega
theorem Gv (h:Good t):t.size<=2*t.text.length:=by
 induction h with
 |av a ha hb=>
  have:=List.length_pos_iff.2 ha
  rw[o7 ha]
  simp only[aq.size,aq.size.sizes];omega
 |list ps hp hw ih=>
  have key:∀qs:List aq,(∀p,p∈qs->p.size<=2*p.text.length)->aq.size.sizes qs<=2*(kA qs).length:=by
   intro qs
   induction qs with
   |nil=>intro _;simp[aq.size.sizes]
   |cons q qs uX=>
    intro h
    have h1:=h q sm
    have h2:=uX (λp hp=>h p (by simp[hp]))
    cases qs with
    |nil=>rw[pT];simp only[aq.size.sizes];omega
    |cons u us=>
     rw[o8]
     simp only[aq.size.sizes,lA,lC] at h2⊢;omega
  have:=key ps ih
  rw[qC]
  simp only[aq.size,lC,lA,List.length_nil];omega
/-! ### Texts joined -/
theorem SF (a b:List aj):ox (a++b)=ox a++ox b:=by simp[ox]
def vq (h:aj) (ps:List aj) (k:Nat):aj:=40::(h++ox (ps.take k))
theorem abw {ps:List aj} (hk:k<ps.length):vq h ps (k+1)=(vq h ps k++[32])++cJ ps k:=by
 unfold vq
 rw[List.take_succ_eq_append_getElem hk,SF]
 simp[ox,cJ,gE hk]
theorem abx {ps:List aj} (hk:ps.length<=k):vq h ps k++[41]=cY h ps:=by
 unfold vq cY;rw[List.take_of_length_le hk];simp
theorem aby {ps:List aj} (k:Nat):(vq h ps k).length+1<=(cY h ps).length:=by
 have:(ox (ps.take k)).length<=(ox ps).length:=by
  have:=SF (ps.take k) (ps.drop k)
  rw[List.take_append_drop] at this
  rw[this,lA];omega
 simp[vq,cY];omega
/-! ### What the laws count -/
def iU (xs:List aj):Nat:=xs.length+(xs.map List.length).sum
theorem Jm (ps:List aj):(ox ps).length=iU ps:=by induction ps<;>grind [ox,iU]
theorem apg (h:iB bs=true) (hl:(lD bs).length<=50000000):WF (mQ (bs.map fy))∧(mQ (bs.map fy)).size<=100000000∧(mQ (bs.map fy)).text.length<=100000000:=by
 obtain⟨h1,h2⟩:=Jg h
 have:=Gv h1
 rw[h2] at this⊢
 exact⟨h1.wf,om,om⟩
/-! ### A list that is filled -/
def fill {α:Type} (d:α) (xs:List α) (k:Nat):List α:=xs.take k++List.replicate (xs.length-k) d
theorem abz:NG Tryz.f100:=ng
theorem abA:NG Tryz.f101:=ng
theorem abB:NG Tryz.f102:=ng
theorem abC:NG Tryz.f103:=ng
theorem abD:NG Tryz.f104:=ng
theorem abE:NG Tryz.f105:=ng
theorem abF:NG Tryz.f106:=ng
theorem abG:NG Tryz.f107:=ng
theorem abH:NG Tryz.f108:=ng
theorem abI:NG Tryz.f109:=ng
theorem abJ:NG Tryz.f11:=ng
theorem abK:NG Tryz.f110:=ng
theorem SG:NG Tryz.f111:=ng
theorem abL:NG Tryz.f112:=ng
theorem abM:NG Tryz.f113:=ng
theorem abN:NG Tryz.f114:=ng
theorem SH:NG Tryz.f116:=ng
theorem abO:NG Tryz.f118:=ng
theorem abP:NG Tryz.f119:=ng
theorem abQ:NG Tryz.f12:=ng
theorem abR:NG Tryz.f120:=ng
theorem abS:NG Tryz.f126:=ng
theorem abT:NG Tryz.f127:=ng
theorem abU:NG Tryz.f128:=ng
theorem abV:NG Tryz.f129:=ng
theorem abW:NG Tryz.f13:=ng
theorem abX:NG Tryz.f130:=ng
theorem abY:NG Tryz.f131:=ng
theorem SI:NG Tryz.f132:=ng
theorem abZ:NG Tryz.f133:=ng
theorem ab0:NG Tryz.f134:=ng
theorem ab1:NG Tryz.f135:=ng
theorem ab2:NG Tryz.f136:=ng
theorem ab3:NG Tryz.f137:=ng
theorem ab4:NG Tryz.f138:=ng
theorem ab5:NG Tryz.f139:=ng
theorem ab6:NG Tryz.f14:=ng
theorem ab7:NG Tryz.f142:=ng
theorem ab8:NG Tryz.f143:=ng
theorem ab9:NG Tryz.f144:=ng
theorem aca:NG Tryz.f145:=ng
theorem acb:NG Tryz.f146:=ng
theorem acd:NG Tryz.f15:=ng
theorem ace:NG Tryz.f150:=ng
theorem acf:NG Tryz.f151:=ng
theorem acg:NG Tryz.f152:=ng
theorem ach:NG Tryz.f153:=ng
theorem aci:NG Tryz.f154:=ng
theorem acj:NG Tryz.f155:=ng
theorem ack:NG Tryz.f156:=ng
theorem acm:NG Tryz.f157:=ng
theorem acn:NG Tryz.f158:=ng
theorem aco:NG Tryz.f159:=ng
theorem acp:NG Tryz.f16:=ng
theorem acq:NG Tryz.f160:=ng
theorem acr:NG Tryz.f161:=ng
theorem acs:NG Tryz.f162:=ng
theorem acu:NG Tryz.f163:=ng
theorem acv:NG Tryz.f165:=ng
theorem acw:NG Tryz.f166:=ng
theorem acx:NG Tryz.f168:=ng
theorem acy:NG Tryz.f169:=ng
theorem acz:NG Tryz.f170:=ng
theorem acA:NG Tryz.f172:=ng
theorem acB:NG Tryz.f173:=ng
theorem acC:NG Tryz.f174:=ng
theorem acD:NG Tryz.f179:=ng
theorem acE:NG Tryz.f180:=ng
theorem acF:NG Tryz.f181:=ng
theorem acG:NG Tryz.f182:=ng
theorem acH:NG Tryz.f183:=ng
theorem acI:NG Tryz.f184:=ng
theorem acJ:NG Tryz.f185:=ng
theorem acK:NG Tryz.f186:=ng
theorem acL:NG Tryz.f187:=ng
theorem acM:NG Tryz.f188:=ng
theorem acN:NG Tryz.f189:=ng
theorem acO:NG Tryz.f190:=ng
theorem acP:NG Tryz.f191:=ng
theorem acQ:NG Tryz.f192:=ng
theorem acR:NG Tryz.f193:=ng
theorem acS:NG Tryz.f194:=ng
theorem acT:NG Tryz.f195:=ng
theorem acU:NG Tryz.f196:=ng
theorem acV:NG Tryz.f197:=ng
theorem SJ:NG Tryz.f198:=ng
theorem acW:NG Tryz.f199:=ng
theorem acX:NG Tryz.f20:=ng
theorem acY:NG Tryz.f200:=ng
theorem acZ:NG Tryz.f201:=ng
theorem ac0:NG Tryz.f202:=ng
theorem ac1:NG Tryz.f203:=ng
theorem ac2:NG Tryz.f216:=ng
theorem ac3:NG Tryz.f217:=ng
theorem ac4:NG Tryz.f218:=ng
theorem ac5:NG Tryz.f219:=ng
theorem ac6:NG Tryz.f220:=ng
theorem ac7:NG Tryz.f221:=ng
theorem ac8:NG Tryz.f222:=ng
theorem ac9:NG Tryz.f223:=ng
theorem ada:NG Tryz.f224:=ng
theorem adb:NG Tryz.f225:=ng
theorem ade:NG Tryz.f226:=ng
theorem adf:NG Tryz.f227:=ng
theorem MO:NG Tryz.f228:=ng
theorem adg:NG Tryz.f229:=ng
theorem adh:NG Tryz.f239:=ng
theorem adi:NG Tryz.f240:=ng
theorem adj:NG Tryz.f241:=ng
theorem adk:NG Tryz.f242:=ng
theorem adl:NG Tryz.f243:=ng
theorem adm:NG Tryz.f244:=ng
theorem adn:NG Tryz.f249:=ng
theorem ado:NG Tryz.f32:=ng
theorem adp:NG Tryz.f33:=ng
theorem adq:NG Tryz.f36:=ng
theorem adr:NG Tryz.f37:=ng
theorem ads:NG Tryz.f38:=ng
theorem adt:NG Tryz.f39:=ng
theorem nm4:NG Tryz.f4:=ng
theorem adv:NG Tryz.f40:=ng
theorem adw:NG Tryz.f41:=ng
theorem SK:NG Tryz.f42:=ng
theorem adx:NG Tryz.f43:=ng
theorem ady:NG Tryz.f44:=ng
theorem adz:NG Tryz.f45:=ng
theorem adA:NG Tryz.f46:=ng
theorem adB:NG Tryz.f47:=ng
theorem adC:NG Tryz.f48:=ng
theorem adD:NG Tryz.f54:=ng
theorem adE:NG Tryz.f57:=ng
theorem adF:NG Tryz.f61:=ng
theorem adG:NG Tryz.f62:=ng
theorem adH:NG Tryz.f63:=ng
theorem adI:NG Tryz.f64:=ng
theorem adJ:NG Tryz.f65:=ng
theorem adK:NG Tryz.f66:=ng
theorem adL:NG Tryz.f67:=ng
theorem adM:NG Tryz.f68:=ng
theorem adN:NG Tryz.f69:=ng
theorem adO:NG Tryz.f70:=ng
theorem adP:NG Tryz.f71:=ng
theorem Jn:NG Tryz.f72:=ng
theorem adQ:NG Tryz.f73:=ng
theorem adR:NG Tryz.f74:=ng
theorem adS:NG Tryz.f75:=ng
theorem adT:NG Tryz.f76:=ng
theorem adU:NG Tryz.f77:=ng
theorem adV:NG Tryz.f78:=ng
theorem SL:NG Tryz.f79:=ng
theorem adW:NG Tryz.f80:=ng
theorem adX:NG Tryz.f82:=ng
theorem adY:NG Tryz.f83:=ng
theorem adZ:NG Tryz.f87:=ng
theorem ad0:NG Tryz.f88:=ng
theorem ad1:NG Tryz.f93:=ng
theorem ad2:NG Tryz.f94:=ng
theorem ad3:NG Tryz.f95:=ng
theorem ad4:NG Tryz.f96:=ng
theorem ad5:NG Tryz.f97:=ng
theorem ad6:NG Tryz.f98:=ng
theorem ad7:NG Tryz.f99:=ng
theorem ad8:sD Tryz.prog 152=true:=by kernel_rfl
theorem SM:sD Tryz.prog 166=true:=by kernel_rfl
theorem Gw:sD Tryz.prog 56=true:=by kernel_rfl
theorem wL:sD Tryz.prog 58=true:=by kernel_rfl
theorem oz:sD Tryz.prog 66=true:=by kernel_rfl
theorem eK:sD Tryz.prog 74=true:=by kernel_rfl
theorem ad9:∀(x0a:Option Addr) (x0n x0c:Nat) (w:World),(Instr.build 102 #[(0,(.slice x0a x0n x0c))]).run Tryz.prog w= .ok (.agg #[.slice x0a x0n x0c,.int .i64 0]) w:=by intros;kernel_rfl
theorem MP:∀(x0a:Option Addr) (x0n x0c:Nat) (x1a:Option Addr) (x1n x1c:Nat) (w:World),(Instr.build 152 #[(0,(.slice x0a x0n x0c)),(1,(.slice x1a x1n x1c))]).run Tryz.prog w= .ok (.agg #[.slice x0a x0n x0c,.slice x1a x1n x1c]) w:=by intros;kernel_rfl
theorem aea:∀(x0a:Option Addr) (x0n x0c:Nat) (x1a:Option Addr) (x1n x1c:Nat) (w:World),(Instr.build 164 #[(0,(.slice x0a x0n x0c)),(1,(.slice x1a x1n x1c))]).run Tryz.prog w= .ok (.agg #[.slice x0a x0n x0c,.slice x1a x1n x1c,.int .i64 0,.bool false,.slice none 0 0,.slice none 0 0]) w:=by intros;kernel_rfl
theorem aeb:∀(x0a:Option Addr) (x0n x0c:Nat) (x1:Int) (x2a:Option Addr) (x2n x2c:Nat) (x3a:Option Addr) (x3n x3c:Nat) (w:World),(Instr.build 190 #[(0,(.slice x0a x0n x0c)),(1,(.int .i64 x1)),(2,(.slice x2a x2n x2c)),(3,(.slice x3a x3n x3c))]).run Tryz.prog w= .ok (.agg #[.slice x0a x0n x0c,.int .i64 x1,.slice x2a x2n x2c,.slice x3a x3n x3c]) w:=by intros;kernel_rfl
theorem aec:∀(x0a:Option Addr) (x0n x0c:Nat) (x1:Int) (w:World),(Instr.build 228 #[(0,(.slice x0a x0n x0c)),(1,(.int .i64 x1))]).run Tryz.prog w= .ok (.agg #[.slice x0a x0n x0c,.int .i64 x1]) w:=by intros;kernel_rfl
theorem MQ:∀(w:World),(Instr.build 56 #[]).run Tryz.prog w= .ok (.agg #[.string ⟨#[]⟩,.slice none 0 0,.slice none 0 0]) w:=by intros;kernel_rfl
theorem aed:∀(x0:ByteArray) (w:World),(Instr.build 56 #[(0,(.string x0))]).run Tryz.prog w= .ok (.agg #[.string x0,.slice none 0 0,.slice none 0 0]) w:=by intros;kernel_rfl
theorem aee:∀(w:World),(Instr.build 58 #[]).run Tryz.prog w= .ok (.agg #[.string ⟨#[]⟩,.slice none 0 0,.slice none 0 0]) w:=by intros;kernel_rfl
theorem Gx:∀(x0:ByteArray) (x1a:Option Addr) (x1n x1c:Nat) (x2a:Option Addr) (x2n x2c:Nat) (w:World),(Instr.build 58 #[(0,(.string x0)),(1,(.slice x1a x1n x1c)),(2,(.slice x2a x2n x2c))]).run Tryz.prog w= .ok (.agg #[.string x0,.slice x1a x1n x1c,.slice x2a x2n x2c]) w:=by intros;kernel_rfl
theorem MR:∀(w:World),(Instr.build 66 #[]).run Tryz.prog w= .ok (.agg #[.string ⟨#[]⟩,.slice none 0 0]) w:=by intros;kernel_rfl
theorem SN:∀(x0:ByteArray) (w:World),(Instr.build 66 #[(0,(.string x0))]).run Tryz.prog w= .ok (.agg #[.string x0,.slice none 0 0]) w:=by intros;kernel_rfl
theorem aef:∀(x1a:Option Addr) (x1n x1c:Nat) (w:World),(Instr.build 66 #[(1,(.slice x1a x1n x1c))]).run Tryz.prog w= .ok (.agg #[.string ⟨#[]⟩,.slice x1a x1n x1c]) w:=by intros;kernel_rfl
theorem El:∀(w:World),(Instr.build 74 #[]).run Tryz.prog w= .ok (.agg #[.string ⟨#[]⟩,.slice none 0 0]) w:=by intros;kernel_rfl
theorem aeg:∀(x0:ByteArray) (w:World),(Instr.build 74 #[(0,(.string x0))]).run Tryz.prog w= .ok (.agg #[.string x0,.slice none 0 0]) w:=by intros;kernel_rfl
theorem MS:∀(x1a:Option Addr) (x1n x1c:Nat) (w:World),(Instr.build 74 #[(1,(.slice x1a x1n x1c))]).run Tryz.prog w= .ok (.agg #[.string ⟨#[]⟩,.slice x1a x1n x1c]) w:=by intros;kernel_rfl
theorem aeh:Tryz.prog.underlying 4=some .bool:=by kernel_rfl
theorem aei:gY Tryz.prog 102 0=some 0:=by kernel_rfl
theorem SO:gY Tryz.prog 102 1=some 1:=by kernel_rfl
theorem aej:gY Tryz.prog 152 0=some 0:=by kernel_rfl
theorem aek:gY Tryz.prog 152 1=some 1:=by kernel_rfl
theorem ael:gY Tryz.prog 164 0=some 0:=by kernel_rfl
theorem aem:gY Tryz.prog 164 1=some 1:=by kernel_rfl
theorem aen:gY Tryz.prog 164 2=some 2:=by kernel_rfl
theorem aeo:gY Tryz.prog 164 3=some 3:=by kernel_rfl
theorem aep:gY Tryz.prog 164 4=some 4:=by kernel_rfl
theorem aeq:gY Tryz.prog 164 5=some 5:=by kernel_rfl
theorem aer:gY Tryz.prog 166 0=some 0:=by kernel_rfl
theorem SP:gY Tryz.prog 166 1=some 1:=by kernel_rfl
theorem aes:gY Tryz.prog 166 10=some 11:=by kernel_rfl
theorem aet:gY Tryz.prog 166 2=some 2:=by kernel_rfl
theorem Jo:gY Tryz.prog 166 3=some 3:=by kernel_rfl
theorem aeu:gY Tryz.prog 166 4=some 4:=by kernel_rfl
theorem aev:gY Tryz.prog 166 5=some 5:=by kernel_rfl
theorem aew:gY Tryz.prog 166 6=some 6:=by kernel_rfl
theorem SQ:gY Tryz.prog 166 7=some 7:=by kernel_rfl
theorem SR:gY Tryz.prog 166 8=some 9:=by kernel_rfl
theorem aex:gY Tryz.prog 166 9=some 10:=by kernel_rfl
theorem aey:gY Tryz.prog 190 0=some 0:=by kernel_rfl
theorem aez:gY Tryz.prog 190 1=some 1:=by kernel_rfl
theorem aeA:gY Tryz.prog 190 2=some 2:=by kernel_rfl
theorem aeB:gY Tryz.prog 190 3=some 3:=by kernel_rfl
theorem aeC:gY Tryz.prog 228 0=some 0:=by kernel_rfl
theorem aeD:gY Tryz.prog 228 1=some 1:=by kernel_rfl
theorem aeE:gY Tryz.prog 56 0=some 0:=by kernel_rfl
theorem SS:gY Tryz.prog 56 1=some 1:=by kernel_rfl
theorem SU:gY Tryz.prog 56 2=some 2:=by kernel_rfl
theorem MT:gY Tryz.prog 58 0=some 0:=by kernel_rfl
theorem MU:gY Tryz.prog 58 1=some 1:=by kernel_rfl
theorem Ay:gY Tryz.prog 58 2=some 2:=by kernel_rfl
theorem aeF:gY Tryz.prog 66 0=some 0:=by kernel_rfl
theorem Gy:gY Tryz.prog 66 1=some 1:=by kernel_rfl
theorem lF:gY Tryz.prog 74 0=some 0:=by kernel_rfl
theorem ja:gY Tryz.prog 74 1=some 1:=by kernel_rfl
theorem MV:TI Tryz.prog 113 2 32 (.agg #[.pointer none,.slice none 0 0]):=by unfold TI;kernel_rfl
theorem Cw:TI Tryz.prog 152 2 48 (.agg #[.slice none 0 0,.slice none 0 0]):=by unfold TI;kernel_rfl
theorem Jp:TI Tryz.prog 162 1 24 (.slice none 0 0):=by unfold TI;kernel_rfl
theorem mS:TI Tryz.prog 166 12 216 (.agg #[.string ⟨#[]⟩,.slice none 0 0,.int .i64 0,.slice none 0 0,.slice none 0 0,.slice none 0 0,.slice none 0 0,.string ⟨#[]⟩,.slice none 0 0,.int .i64 0,.string ⟨#[]⟩,.int .i64 0]):=by unfold TI;kernel_rfl
theorem SV:TI Tryz.prog 23 1 24 (.slice none 0 0):=by unfold TI;kernel_rfl
theorem sJ:TI Tryz.prog 3 1 8 (.int .i64 0):=by unfold TI;kernel_rfl
theorem mT:TI Tryz.prog 35 1 24 (.slice none 0 0):=by unfold TI;kernel_rfl
theorem SW:TI Tryz.prog 4 1 1 (.bool false):=by unfold TI;kernel_rfl
theorem Gz:TI Tryz.prog 5 1 1 (.int .u8 0):=by unfold TI;kernel_rfl
theorem GA:TI Tryz.prog 54 1 24 (.slice none 0 0):=by unfold TI;kernel_rfl
theorem mU:TI Tryz.prog 56 3 64 (.agg #[.string ⟨#[]⟩,.slice none 0 0,.slice none 0 0]):=by unfold TI;kernel_rfl
theorem fD:TI Tryz.prog 58 3 64 (.agg #[.string ⟨#[]⟩,.slice none 0 0,.slice none 0 0]):=by unfold TI;kernel_rfl
theorem dD:TI Tryz.prog 66 2 40 (.agg #[.string ⟨#[]⟩,.slice none 0 0]):=by unfold TI;kernel_rfl
theorem Cx:TI Tryz.prog 72 1 24 (.slice none 0 0):=by unfold TI;kernel_rfl
theorem aK:TI Tryz.prog 74 2 40 (.agg #[.string ⟨#[]⟩,.slice none 0 0]):=by unfold TI;kernel_rfl
theorem bm:TI Tryz.prog 9 1 16 (.string ⟨#[]⟩):=by unfold TI;kernel_rfl
theorem SX:TI Tryz.prog 98 1 24 (.slice none 0 0):=by unfold TI;kernel_rfl
theorem Jq:Tryz.prog.underlying 181=some (.int .u64):=by kernel_rfl
theorem wO:Tryz.prog.underlying 3=some (.int .i64):=by kernel_rfl
theorem yl:Tryz.prog.underlying 5=some (.int .u8):=by kernel_rfl
theorem du:Tryz.prog.follows .mixedOrders=true:=by kernel_rfl
theorem aeG:qy Tryz.prog 162=true:=by kernel_rfl
theorem aeH:qy Tryz.prog 22=true:=by kernel_rfl
theorem aeI:qy Tryz.prog 23=true:=by kernel_rfl
theorem SY:qy Tryz.prog 3=true:=by kernel_rfl
theorem vu:qy Tryz.prog 35=true:=by kernel_rfl
theorem SZ:qy Tryz.prog 4=true:=by kernel_rfl
theorem aeJ:qy Tryz.prog 5=true:=by kernel_rfl
theorem GB:qy Tryz.prog 54=true:=by kernel_rfl
theorem ix:qy Tryz.prog 72=true:=by kernel_rfl
theorem gv:qy Tryz.prog 9=true:=by kernel_rfl
theorem aeK:qy Tryz.prog 98=true:=by kernel_rfl
theorem Az:Tryz.prog.underlying 162=some (.slice 166):=by kernel_rfl
theorem Cy:Tryz.prog.underlying 22=some (.slice 5):=by kernel_rfl
theorem jH:Tryz.prog.underlying 23=some (.slice 58):=by kernel_rfl
theorem bo:Tryz.prog.underlying 35=some (.slice 9):=by kernel_rfl
theorem Em:Tryz.prog.underlying 51=some (.slice 56):=by kernel_rfl
theorem lG:Tryz.prog.underlying 54=some (.slice 66):=by kernel_rfl
theorem cw:Tryz.prog.underlying 72=some (.slice 74):=by kernel_rfl
theorem En:Tryz.prog.underlying 98=some (.slice 3):=by kernel_rfl
theorem iG:Tryz.prog.underlying 9=some .string:=by kernel_rfl
/-! ### What it gives -/
section
variable {p:List fJ} {st:TS} {o:Nat} {t:aq}
end
/-! ### Sizes of what is given -/
theorem size_pos (t:aq):1<=t.size:=by have:=qB t;omega
theorem MW (t:aq):∀m,t.size<=m->WF t->t.text.length+1<=2*t.size:=by
 intro m
 induction m generalizing t with
 |zero=>intro h;have:=size_pos t;omega
 |succ m ih=>
  intro hm cF
  cases cF with
  |av a ha=>rw[o7 ha];simp only[aq.size,aq.size.sizes];omega
  |list ps hp hw=>
   rw[qC]
   have e:(aq.mk [] ps).size=1+aq.size.sizes ps:=by simp[aq.size]
   rw[e]
   have aeL:∀qs:List aq,qs≠[]->(∀p,p∈qs->p.text.length+1<=2*p.size)->(kA qs).length+1<=2*aq.size.sizes qs:=by
    intro qs
    induction qs with
    |nil=>intro h;exact absurd rfl h
    |cons q qs uX=>
     intro _ h
     have h1:=h q sm
     cases qs with
     |nil=>rw[pT];simp only[aq.size.sizes];omega
     |cons u us=>
      have h2:=uX sm (λp hp=>h p (by simp[hp]))
      rw[o8];simp only[aq.size.sizes,lA,lC] at h2⊢;omega
   have az:=aeL ps hp (λp Av=>by
    obtain⟨i,hi,rfl⟩:=List.getElem_of_mem Av
    have h3:=Gl (t:=.mk [] ps) (p:=ps[i]) (i:=i) (gE hi)
    exact ih _ om (hw _ Av))
   simp only[lC,lA,List.length_nil];omega
section
variable {p:List fJ} {st:TS} {o:Nat} {t:aq}
end
theorem aeM (h:Good t):t.text≠[]:=by grind [Sd]
structure Eo (s:aj) (t:aq):Prop where
 some:∀t',bA s=some t'->t=t'
 none:s=[]->cH t=[]
theorem S0:bA []=none:=by decide
/-! ### Types -/
inductive Ty where
 |i
 |op (f:Bool) (a b:Ty)
def j4 (f:Bool):aj:=if f then[62] else[42]
def Ty.au:Ty->aq
 | .i=>bH [105]
 | .op f a b=>.mk [] [bH (j4 f),a.au,b.au]
def Ty.text (t:Ty):aj:=t.au.text
def Ty.n:Ty->Nat
 | .i=>1
 | .op _ a b=>1+a.n+b.n
theorem aeN (f:Bool):Good (bH (j4 f)):=by cases f<;>exact .av _ de de
theorem Ty.pb (t:Ty):Good t.au:=by
 induction t with
 |i=>exact .av _ de de
 |op f a b iha ihb=>
  refine .list _ sm λp hp=>?_
  simp only[mC,List.not_mem_nil,or_false] at hp
  rcases hp with rfl|rfl|rfl
  ·exact aeN f
  ·exact iha
  ·exact ihb
theorem aeO (f:Bool):(bH (j4 f)).text=j4 f:=by cases f<;>exact o7 de
theorem Ty.MX:Ty.i.text=[105]:=o7 de
theorem Ty.Jr (f:Bool) (a b:Ty):(Ty.op f a b).text=40::(j4 f++32::(a.text++32::(b.text++[41]))):=by
 show(aq.mk [] [bH (j4 f),a.au,b.au]).text=_
 rw[qC,o8,o8,pT,aeO]
 simp[Ty.text]
theorem MY (f:Bool):(j4 f).length=1:=by cases f<;>rfl
theorem Ty.pos (t:Ty):1<=t.n:=by cases t<;>simp[Ty.n];omega
theorem Ty.len (t:Ty):t.text.length+3<=4*t.n:=by induction t<;>grind [Ty.MX,Ty.n,Ty.Jr,MY]
theorem Ty.deep (t:Ty):t.au.depth+1<=t.n:=by
 induction t with
 |i=>simp[Ty.au,bH,aq.depth,aq.depth.deeps,Ty.n]
 |op f a b iha ihb=>
  have h0:(bH (j4 f)).depth=0:=rfl
  have h1:=a.pos
  have h2:=b.pos
  show aq.depth.deeps [bH (j4 f),a.au,b.au]+1<=_
  simp only[aq.depth.deeps,h0,Ty.n]
  omega
theorem Ty.size (t:Ty):t.au.size<=5*t.n:=by
 induction t with
 |i=>simp[Ty.au,bH,aq.size,aq.size.sizes,Ty.n]
 |op f a b iha ihb=>
  have h0:(bH (j4 f)).size=2:=by cases f<;>rfl
  show 1+0+aq.size.sizes [bH (j4 f),a.au,b.au]<=_
  simp only[aq.size.sizes,h0,Ty.n];omega
theorem Ty.bA {t:Ty} (h:t.n<=60):bA t.text=some t.au:=Mz t.pb (by have:=t.deep;omega) (by have:=t.len;show t.text.length<=_;omega)
theorem Ty.ne (t:Ty):t.text≠[]:=aeM t.pb
theorem GC:∀{t u:Ty},t.au=u.au->t=u
 | .i,.i,_=>rfl
 | .i,.op _ _ _,h=>by simp[Ty.au,bH] at h
 | .op _ _ _,.i,h=>by simp[Ty.au,bH] at h
 | .op f a b,.op g c d,h=>by
  simp only[Ty.au,aq.mk.injEq,true_and,List.cons.injEq,and_true] at h
  obtain⟨h1,h2,h3⟩:=h
  rw[GC h2,GC h3]
  cases f<;>cases g<;>first|rfl|(simp[bH,j4] at h1)
theorem Ty.inj {t u:Ty} (h:t.text=u.text):t=u:=GC (My t.pb u.pb h)
/-! ### Forms that are types -/
mutual
def fE:aq->Nat
 | .mk a ps=>if a≠[] then 1 else jI ps
def jI:List aq->Nat
 |[]=>0
 |t::ts=>fE t+jI ts
end
theorem S1:∀(xs ys:List aq),jI (xs++ys)=jI xs+jI ys:=by intro x;induction x<;>grind [jI]
theorem MZ (t:aq):fE t=if t.av≠[] then 1 else jI t.ai:=by cases t with|mk a ps=>rw[fE];rfl
theorem S2 (h:ps[i]?=some p):jI (ps.take (i+1))=jI (ps.take i)+fE p:=by
 rw[List.take_add_one,h,S1];simp[jI]
mutual
theorem aeP:∀t:aq,fE t<=t.size
 | .mk a ps=>by
  have:=M0 ps
  unfold fE
  simp only[aq.size]
  split<;>omega
theorem M0:∀ps:List aq,jI ps<=aq.size.sizes ps
 |[]=>by simp[jI]
 |t::ts=>by
  have h1:=aeP t
  have h2:=M0 ts
  simp only[jI,aq.size.sizes];omega
end
theorem M1 {a:aj} (h:a≠[]):fE (bH a)=1:=by simp[fE,bH,h]
theorem Ty.fE (t:Ty):fE t.au=t.n:=by
 induction t with
 |i=>simp[Ty.au,M1,Ty.n]
 |op f a b iha ihb=>
  have h0:Go.Proofs.YthbhobaiopccaaaGreatDoor.fE (bH (j4 f))=1:=M1 (by cases f<;>decide)
  show Go.Proofs.YthbhobaiopccaaaGreatDoor.fE (.mk [] [bH (j4 f),a.au,b.au])=_
  simp only[Go.Proofs.YthbhobaiopccaaaGreatDoor.fE,jI,h0,iha,ihb,Ty.n]
  simp;omega
mutual
def pd:aq->Bool
 | .mk a ps=>if a≠[] then decide (a=[105]) else sK ps
def sK:List aq->Bool
 |[h,x,y]=>(decide (h.av=[62])||decide (h.av=[42]))&&(pd x&&pd y)
 |_=>false
end
theorem S3 (t:aq):pd t=if t.av≠[] then decide (t.av=[105]) else sK t.ai:=by cases t with|mk a ps=>rw[pd];rfl
theorem aeQ (hw:WF t):pd t=true↔∃u:Ty,t=u.au:=by
 constructor
 ·intro h
  have key:∀m (t:aq),t.size<=m->WF t->pd t=true->∃u:Ty,t=u.au:=by
   intro m
   induction m with
   |zero=>intro t ht;have:=qB t;omega
   |succ m ih=>
    intro t hm hw h
    cases hw with
    |av a ha=>
     simp only[pd,iP ha,dE] at h
     exact⟨.i,by rw[h];rfl⟩
    |list ps hp hw=>
     simp only[pd] at h
     rw[iN de] at h
     match ps,h with
     |[hd,x,y],h=>
      simp only[sK,aE,oE,dE] at h
      obtain⟨hs,hx,hy⟩:=h
      simp only[aq.size,aq.size.sizes] at hm
      obtain⟨u,rfl⟩:=ih x om (hw x sm) hx
      obtain⟨v,rfl⟩:=ih y om (hw y sm) hy
      have tW:∀s:aj,s≠[]->hd.av=s->hd=bH s:=λs ov e=>by
       have hwh:=hw hd sm
       cases hwh with
       |av a ha=>cases e;rfl
       |list qs _ _=>exact absurd e.symm ov
      rcases hs with hs|hs
      ·exact⟨.op true u v,by rw[tW _ de hs];rfl⟩
      ·exact⟨.op false u v,by rw[tW _ de hs];rfl⟩
  exact key t.size t (lR _) hw h
 ·rintro⟨u,rfl⟩
  induction u with
  |i=>rfl
  |op f a b iha ihb=>
   show pd (.mk [] [bH (j4 f),a.au,b.au])=true
   have:=iha a.pb.wf
   have:=ihb b.pb.wf
   simp only[pd,sK, *]
   cases f<;>simp[bH,j4,aq.av]
def j5 (t:aq):Bool:=pd t&&decide (fE t<=16)
theorem AA (hw:WF t):j5 t=true↔∃u:Ty,t=u.au∧u.n<=16:=by
 unfold j5
 rw[aE,dE,aeQ hw]
 constructor
 ·rintro⟨⟨u,rfl⟩,h⟩;exact⟨u,rfl,by rw[<-u.fE];exact h⟩
 ·rintro⟨u,rfl,h⟩;exact⟨⟨u,rfl⟩,by rw[u.fE];exact h⟩
/-! ### Names -/
def dX (s:aj):Bool:=decide (1<=s.length)&&decide (s.length<=4)&&(decide (97<=s.getD 0 0)&&decide (s.getD 0 0<=122))&&(s.drop 1).all gZ
def qD (s:aj):Bool:=(numeral s).isSome||dX s
theorem vv (h:dX s=true):s≠[]:=by grind [dX]
/-! ### Expressions -/
inductive Ex where
 |at(s:aj)
 |un (h:aj) (a:Ex)
 |bi (h:aj) (a b:Ex)
 |ite (a b c:Ex)
 |lt (x:aj) (a b:Ex)
 |fn (f x:aj) (A B:Ty) (e:Ex)
abbrev gN:aj:=[105,102]
abbrev gw:aj:=[108,101,116]
abbrev ic:aj:=[102,117,110]
abbrev Cz:aj:=[102,115,116]
abbrev rm:aj:=[115,110,100]
abbrev kn:aj:=[99,97,108,108]
abbrev ym:aj:=[112,97,105,114]
def Ex.au:Ex->aq
 | .at s=>bH s
 | .un h a=>.mk [] [bH h,a.au]
 | .bi h a b=>.mk [] [bH h,a.au,b.au]
 | .ite a b c=>.mk [] [bH gN,a.au,b.au,c.au]
 | .lt x a b=>.mk [] [bH gw,bH x,a.au,b.au]
 | .fn f x A B e=>.mk [] [bH ic,bH f,bH x,A.au,B.au,e.au]
def gx (h:aj):Bool:=decide (h=Cz)||decide (h=rm)
def ie (h:aj):Bool:=decide (h=[43])||decide (h=[45])||decide (h=[42])||decide (h=kn)||decide (h=ym)
def Ex.ok:Ex->Prop
 | .at s=>qD s=true
 | .un h a=>gx h=true∧a.ok
 | .bi h a b=>ie h=true∧a.ok∧b.ok
 | .ite a b c=>a.ok∧b.ok∧c.ok
 | .lt x a b=>dX x=true∧a.ok∧b.ok
 | .fn f x A B e=>dX f=true∧dX x=true∧f≠x∧A.n<=16∧B.n<=16∧e.ok
def Ex.n:Ex->Nat
 | .at _=>1
 | .un _ a=>1+a.n
 | .bi _ a b=>1+a.n+b.n
 | .ite a b c=>1+a.n+b.n+c.n
 | .lt _ a b=>2+a.n+b.n
 | .fn _ _ A B e=>3+A.n+B.n+e.n
mutual
def dI:aq->Bool
 | .mk a ps=>if a≠[] then qD a else nP ps
def nP:List aq->Bool
 |[h,a]=>gx h.av&&dI a
 |[h,a,b]=>ie h.av&&(dI a&&dI b)
 |[h,a,b,c]=>if h.av=gN then dI a&&(dI b&&dI c) else if h.av=gw then dX a.av&&(dI b&&dI c) else false
 |[h,f,x,A,B,e]=>decide (h.av=ic)&&(dX f.av&&dX x.av&&decide (f.av≠x.av)&&j5 A&&j5 B&&dI e)
 |_=>false
end
theorem AB (hw:WF t) (hs:s≠[]) (e:t.av=s):t=bH s:=by
 cases hw with
 |av a ha=>cases e;rfl
 |list qs _ _=>exact absurd e.symm hs
theorem S4 (k:gx h=true):h≠[]:=by rintro rfl;cases k
theorem S5 (k:ie h=true):h≠[]:=by rintro rfl;cases k
theorem pV (k:qD s=true):s≠[]:=by rintro rfl;cases k
theorem aeS (hw:WF t):dI t=true↔∃e:Ex,t=e.au∧e.ok:=by
 constructor
 ·intro h
  have key:∀m (t:aq),t.size<=m->WF t->dI t=true->∃e:Ex,t=e.au∧e.ok:=by
   intro m
   induction m with
   |zero=>intro t ht;have:=qB t;omega
   |succ m ih=>
    intro t hm hw h
    cases hw with
    |av a ha=>
     simp only[dI,iP ha] at h
     exact⟨.at a,rfl,h⟩
    |list ps hp hw=>
     simp only[dI] at h
     rw[iN de] at h
     match ps,h with
     |[hd,x],h=>
      simp only[nP,aE] at h
      simp only[aq.size,aq.size.sizes] at hm
      obtain⟨u,rfl,hu⟩:=ih x om (hw x sm) h.2
      exact⟨.un hd.av u,by rw[AB (hw hd sm) (S4 h.1) rfl];rfl,h.1,hu⟩
     |[hd,x,y],h=>
      simp only[nP,aE] at h
      simp only[aq.size,aq.size.sizes] at hm
      obtain⟨u,rfl,hu⟩:=ih x om (hw x sm) h.2.1
      obtain⟨v,rfl,hv⟩:=ih y om (hw y sm) h.2.2
      exact⟨.bi hd.av u v,by rw[AB (hw hd sm) (S5 h.1) rfl];rfl,h.1,hu,hv⟩
     |[hd,x,y,z],h=>
      simp only[nP] at h
      simp only[aq.size,aq.size.sizes] at hm
      split at h
      ·rename_i hh
       simp only[aE] at h
       obtain⟨u,rfl,hu⟩:=ih x om (hw x sm) h.1
       obtain⟨v,rfl,hv⟩:=ih y om (hw y sm) h.2.1
       obtain⟨q,rfl,hq⟩:=ih z om (hw z sm) h.2.2
       exact⟨.ite u v q,by rw[AB (hw hd sm) de hh];rfl,hu,hv,hq⟩
      ·split at h
       ·rename_i hh
        simp only[aE] at h
        obtain⟨v,rfl,hv⟩:=ih y om (hw y sm) h.2.1
        obtain⟨q,rfl,hq⟩:=ih z om (hw z sm) h.2.2
        exact⟨.lt x.av v q,by rw[AB (hw hd sm) de hh,AB (hw x sm) (vv h.1) rfl];rfl,h.1,hv,hq⟩
       ·cases h
     |[hd,f,x,A,B,e],h=>
      simp only[nP,aE,dE] at h
      simp only[aq.size,aq.size.sizes] at hm
      obtain⟨hh,⟨⟨⟨⟨hf,hx⟩,dY⟩,hA⟩,hB⟩,he⟩:=h
      obtain⟨u,rfl,hu⟩:=ih e om (hw e sm) he
      obtain⟨tA,rfl,S6⟩:=(AA (hw A sm)).1 hA
      obtain⟨tB,rfl,Jt⟩:=(AA (hw B sm)).1 hB
      exact⟨.fn f.av x.av tA tB u,by rw[AB (hw hd sm) de hh,AB (hw f sm) (vv hf) rfl,AB (hw x sm) (vv hx) rfl];rfl,hf,hx,dY,S6,Jt,hu⟩
  exact key t.size t (lR _) hw h
 ·rintro⟨e,rfl,bj⟩
  clear hw
  induction e with
  |«at» s=>
   show dI (.mk s [])=true
   simp only[dI];rw[iP (pV bj)];exact bj
  |un h a iha=>
   show dI (.mk [] [bH h,a.au])=true
   simp only[dI];rw[iN de]
   simp only[nP,aE]
   exact⟨bj.1,iha bj.2⟩
  |bi h a b iha ihb=>
   show dI (.mk [] [bH h,a.au,b.au])=true
   simp only[dI];rw[iN de]
   simp only[nP,aE]
   exact⟨bj.1,iha bj.2.1,ihb bj.2.2⟩
  |ite a b c iha ihb ihc=>
   show dI (.mk [] [bH gN,a.au,b.au,c.au])=true
   simp only[dI];rw[iN de]
   simp only[nP]
   rw[iP (show(bH gN).av=gN from rfl)]
   simp only[aE]
   exact⟨iha bj.1,ihb bj.2.1,ihc bj.2.2⟩
  |lt x a b iha ihb=>
   show dI (.mk [] [bH gw,bH x,a.au,b.au])=true
   simp only[dI];rw[iN de]
   simp only[nP]
   rw[iN (show¬(bH gw).av=gN by decide),iP (show(bH gw).av=gw from rfl)]
   simp only[aE]
   exact⟨bj.1,iha bj.2.1,ihb bj.2.2⟩
  |fn f x A B e ih=>
   show dI (.mk [] [bH ic,bH f,bH x,A.au,B.au,e.au])=true
   obtain⟨hf,hx,dY,hA,hB,he⟩:=bj
   simp only[dI];rw[iN de]
   simp only[nP,aE,dE]
   exact⟨rfl,⟨⟨⟨⟨hf,hx⟩,dY⟩,(AA A.pb.wf).2 ⟨A,rfl,hA⟩⟩,(AA B.pb.wf).2 ⟨B,rfl,hB⟩⟩,ih he⟩
/-! ### Parts -/
def Ex.head:Ex->aj
 | .at _=>[]
 | .un h _=>h
 | .bi h _ _=>h
 | .ite _ _ _=>gN
 | .lt _ _ _=>gw
 | .fn _ _ _ _ _=>ic
def Ex.from:Ex->Nat
 | .lt _ _ _=>2
 | .fn _ _ _ _ _=>5
 |_=>1
def Ex.kids:Ex->List Ex
 | .at _=>[]
 | .un _ a=>[a]
 | .bi _ a b=>[a,b]
 | .ite a b c=>[a,b,c]
 | .lt _ a b=>[a,b]
 | .fn _ _ _ _ e=>[e]
def Ex.binds:Ex->Nat->List aj
 | .lt x _ _,3=>[x]
 | .fn f x _ _ _,_=>[f,x]
 |_,_=>[]
def Ex.iM:Ex->Bool
 | .at _=>true
 |_=>false
def fZ (e:Ex) (j:Nat):Ex:=e.kids.getD j (.at [])
theorem Ex.wf {e:Ex} (h:e.ok):Good e.au:=by
 have num:∀s:aj,qD s=true->s.all eV=true:=λs hs=>by
  unfold qD at hs
  rw[oE] at hs
  have M3:∀c:UInt8,gZ c=true->eV c=true:=λc hc=>by
   unfold gZ at hc;unfold eV
   rw[hc];simp
  rcases hs with hs|hs
  ·cases hn:numeral s with
   |none=>rw[hn] at hs;cases hs
   |some z=>
    unfold numeral at hn
    split at hn
    ·rename_i e;rw[e];decide
    ·split at hn
     ·cases hn
     ·split at hn
      ·rename_i ha
       rw[List.all_eq_true] at ha⊢
       intro c hc
       unfold eH at ha
       split at ha
       ·rename_i hm
        cases s with
        |nil=>simp at hm
        |cons d r=>
         simp only[List.getD_cons_zero,List.drop_succ_cons,List.drop_zero] at hm ha
         rcases mC.1 hc with rfl|hc
         ·rw[hm.2];decide
         ·exact M3 c (ha c hc)
       ·exact M3 c (ha c hc)
      ·cases hn
  ·cases s with
   |nil=>rfl
   |cons c r=>
    simp only[dX,aE,dE,List.getD_cons_zero,List.drop_succ_cons,List.drop_zero] at hs
    obtain⟨⟨_,h1,h2⟩,h3⟩:=hs
    rw[List.all_cons,aE]
    refine⟨?_,?_⟩
    ·unfold eV;simp[h1,h2]
    ·rw[List.all_eq_true] at h3⊢
     exact λd hd=>M3 d (h3 d hd)
 have nm:∀s:aj,dX s=true->Good (bH s):=λs hs=>.av _ (vv hs) (num s (by unfold qD;rw[hs];simp))
 induction e with
 |«at» s=>exact .av _ (pV h) (num s h)
 |un hd a iha=>
  refine .list _ sm λp hp=>?_
  simp only[mC,List.not_mem_nil,or_false] at hp
  rcases hp with rfl|rfl
  ·obtain⟨k,_⟩:=h
   simp only[gx,oE,dE] at k
   rcases k with k|k<;>(rw[k];exact .av _ de de)
  ·exact iha h.2
 |bi hd a b iha ihb=>
  refine .list _ sm λp hp=>?_
  simp only[mC,List.not_mem_nil,or_false] at hp
  rcases hp with rfl|rfl|rfl
  ·obtain⟨k,_⟩:=h
   simp only[ie,oE,dE] at k
   rcases k with(((k|k)|k)|k)|k<;>(rw[k];exact .av _ de de)
  ·exact iha h.2.1
  ·exact ihb h.2.2
 |ite a b c iha ihb ihc=>
  refine .list _ sm λp hp=>?_
  simp only[mC,List.not_mem_nil,or_false] at hp
  rcases hp with rfl|rfl|rfl|rfl
  ·exact .av _ de de
  ·exact iha h.1
  ·exact ihb h.2.1
  ·exact ihc h.2.2
 |lt x a b iha ihb=>
  refine .list _ sm λp hp=>?_
  simp only[mC,List.not_mem_nil,or_false] at hp
  rcases hp with rfl|rfl|rfl|rfl
  ·exact .av _ de de
  ·exact nm x h.1
  ·exact iha h.2.1
  ·exact ihb h.2.2
 |fn f x A B e ih=>
  refine .list _ sm λp hp=>?_
  simp only[mC,List.not_mem_nil,or_false] at hp
  obtain⟨hf,hx,_,_,_,he⟩:=h
  rcases hp with rfl|rfl|rfl|rfl|rfl|rfl
  ·exact .av _ de de
  ·exact nm f hf
  ·exact nm x hx
  ·exact A.pb
  ·exact B.pb
  ·exact ih he
theorem Ex.ai {e:Ex} (h:e.iM=false):e.au.av=[]∧e.au.ai.length=e.from+e.kids.length∧(nth e.au.ai 0).av=e.head∧∀j,j<e.kids.length->nth e.au.ai (e.from+j)=(fZ e j).au:=by
 cases e with
 |«at» s=>cases h
 |un hd a=>exact⟨rfl,rfl,rfl,λj hj=>by
  have:j=0:=by simp[Ex.kids] at hj;omega
  subst this;rfl⟩
 |bi hd a b=>
  refine⟨rfl,rfl,rfl,λj hj=>?_⟩
  simp only[Ex.kids,lC,List.length_nil] at hj
  rcases(show j=0∨j=1 by omega) with rfl|rfl<;>rfl
 |ite a b c=>
  refine⟨rfl,rfl,rfl,λj hj=>?_⟩
  simp only[Ex.kids,lC,List.length_nil] at hj
  rcases(show j=0∨j=1∨j=2 by omega) with rfl|rfl|rfl<;>rfl
 |lt x a b=>
  refine⟨rfl,rfl,rfl,λj hj=>?_⟩
  simp only[Ex.kids,lC,List.length_nil] at hj
  rcases(show j=0∨j=1 by omega) with rfl|rfl<;>rfl
 |fn f x A B e=>exact⟨rfl,rfl,rfl,λj hj=>by
  have:j=0:=by simp[Ex.kids] at hj;omega
  subst this;rfl⟩
theorem Ex.pos (e:Ex):1<=e.n:=by cases e<;>simp[Ex.n]<;>omega
theorem Ex.fE {e:Ex} (h:e.ok):fE e.au=e.n:=by
 have yo:∀s:aj,s≠[]->Go.Proofs.YthbhobaiopccaaaGreatDoor.fE (bH s)=1:=λs hs=>M1 hs
 have nl:∀ps:List aq,Go.Proofs.YthbhobaiopccaaaGreatDoor.fE (.mk [] ps)=jI ps:=λps=>by simp[Go.Proofs.YthbhobaiopccaaaGreatDoor.fE]
 induction e with
 |«at» s=>exact yo s (pV h)
 |un hd a iha=>show Go.Proofs.YthbhobaiopccaaaGreatDoor.fE (.mk [] [bH hd,a.au])=_;rw[nl];simp only[jI,yo hd (S4 h.1),iha h.2,Ex.n];omega
 |bi hd a b iha ihb=>show Go.Proofs.YthbhobaiopccaaaGreatDoor.fE (.mk [] [bH hd,a.au,b.au])=_;rw[nl];simp only[jI,yo hd (S5 h.1),iha h.2.1,ihb h.2.2,Ex.n];omega
 |ite a b c iha ihb ihc=>show Go.Proofs.YthbhobaiopccaaaGreatDoor.fE (.mk [] [bH gN,a.au,b.au,c.au])=_;rw[nl];simp only[jI,yo gN de,iha h.1,ihb h.2.1,ihc h.2.2,Ex.n];omega
 |lt x a b iha ihb=>show Go.Proofs.YthbhobaiopccaaaGreatDoor.fE (.mk [] [bH gw,bH x,a.au,b.au])=_;rw[nl];simp only[jI,yo gw de,yo x (vv h.1),iha h.2.1,ihb h.2.2,Ex.n];omega
 |fn f x A B e ih=>
  obtain⟨hf,hx,_,_,_,he⟩:=h
  show Go.Proofs.YthbhobaiopccaaaGreatDoor.fE (.mk [] [bH ic,bH f,bH x,A.au,B.au,e.au])=_
  rw[nl];simp only[jI,yo ic de,yo f (vv hf),yo x (vv hx),A.fE,B.fE,ih he,Ex.n];omega
theorem GD {e:Ex} (h:e.ok) {j:Nat} (hj:j<e.kids.length):(fZ e j).ok∧(fZ e j).n<e.n:=by cases e<;>grind [Ex.ok,fZ,Ty.n,Ex.n,Ex.kids]
def ek (h:aj):Nat×Nat:=
 if ie h then(1,3) else if h=gN then(1,4) else if h=gw then(2,4) else if h=ic then(5,6) else if gx h then(1,2) else(0,0)
theorem M4 {e:Ex} (h:e.ok) (ha:e.iM=false):ek e.head=(e.from,e.from+e.kids.length):=by
 cases e with
 |«at» s=>cases ha
 |un hd a=>
  obtain⟨k,_⟩:=h
  simp only[gx,oE,dE] at k
  rcases k with k|k<;>(subst k;rfl)
 |bi hd a b=>show ek hd=_;unfold ek;rw[h.1];rfl
 |ite a b c=>rfl
 |lt x a b=>rfl
 |fn f x A B e=>rfl
/-! ### Free aP -/
def Fv (x:aj):Ex->Prop
 | .at s=>s=x∧dX x=true
 | .un _ a=>Fv x a
 | .bi _ a b=>Fv x a∨Fv x b
 | .ite a b c=>Fv x a∨Fv x b∨Fv x c
 | .lt y a b=>Fv x a∨(x≠y∧Fv x b)
 | .fn f y _ _ e=>x≠f∧x≠y∧Fv x e
def cU:Ex->List aj->List aj->List aj
 | .at s,bd,l=>if(!dX s||decide (s∈bd)||decide (s∈l))=true then l else l++[s]
 | .un _ a,bd,l=>cU a bd l
 | .bi _ a b,bd,l=>cU b bd (cU a bd l)
 | .ite a b c,bd,l=>cU c bd (cU b bd (cU a bd l))
 | .lt x a b,bd,l=>cU b (bd++[x]) (cU a bd l)
 | .fn f x _ _ e,bd,l=>cU e (bd++[f,x]) l
theorem CA (x:aj):∀(e:Ex) (bd l:List aj),x∈cU e bd l↔x∈l∨(Fv x e∧x∉bd):=by intro x;induction x<;>grind [cU,Fv,dX]
theorem aeT:∀(e:Ex) (bd l:List aj),l.Nodup->(cU e bd l).Nodup:=by intro x;induction x<;>grind [cU]
theorem M6:∀(e:Ex) (bd l:List aj),(cU e bd l).length<=l.length+e.n:=by intro x;induction x<;>grind [cU,Ty.n,Ex.n]
def qE (e:Ex) (bd l:List aj):Nat->List aj
 |0=>l
 |j+1=>cU (fZ e j) (bd++e.binds (e.from+j)) (qE e bd l j)
theorem aeU {e:Ex} (ha:e.iM=false) (bd l:List aj):cU e bd l=qE e bd l e.kids.length:=by cases e<;>simp_all[Ex.iM,cU,qE,Ex.kids,fZ,Ex.binds,Ex.from]
def j6 (x:aj):Ex->Nat
 | .at s=>if s=x then 1 else 0
 | .un _ a=>j6 x a
 | .bi _ a b=>j6 x a+j6 x b
 | .ite a b c=>j6 x a+j6 x b+j6 x c
 | .lt y a b=>j6 x a+if x=y then 0 else j6 x b
 | .fn f y _ _ e=>if x=f∨x=y then 0 else j6 x e
theorem aeV (hx:dX x=true):∀e:Ex,0<j6 x e↔Fv x e:=by intro x;induction x<;>grind [dX,j6,Fv]
theorem count_le (x:aj):∀e:Ex,j6 x e<=e.n:=by intro x;induction x<;>grind [j6,Ty.n,Ex.n]
def AD (x:aj) (e:Ex):Nat->Nat
 |0=>0
 |j+1=>AD x e j+if x∈e.binds (e.from+j) then 0 else j6 x (fZ e j)
theorem S7 {e:Ex} (ha:e.iM=false) (x:aj):j6 x e=AD x e e.kids.length:=by cases e<;>simp_all[Ex.iM,j6,AD,Ex.kids,fZ,Ex.binds,Ex.from]
/-! ### Types of expressions -/
abbrev Sc:=List (aj×Ty)
def look (Γ:Sc) (s:aj):Option Ty:=(Γ.reverse.find? λp=>decide (p.1=s)).map Prod.snd
theorem pe (Γ:Sc) (x s:aj) (T:Ty):look (Γ++[(x,T)]) s=if x=s then some T else look Γ s:=by grind [look]
theorem AE (Γ:Sc) (f x s:aj) (T U:Ty):look (Γ++[(f,T),(x,U)]) s=if x=s then some U else if f=s then some T else look Γ s:=by grind [look]
def kQ (a b:Ty):Bool:=decide (a.text=b.text)
theorem aeW {a b:Ty}:kQ a b=true↔a=b:=by grind [kQ,Ty.inj]
def kR (h:aj):List Ty->Option Ty
 |[a]=>match a with
  | .op false c d=>if h=Cz then some c else if h=rm then some d else none
  |_=>none
 |[a,b]=>
  if h=kn then match a with
   | .op true c d=>if kQ c b then some d else none
   |_=>none
  else if h=ym then(if 1+a.n+b.n<=16 then some (.op false a b) else none)
  else if kQ a .i&&kQ b .i then some .i else none
 |[a,b,c]=>if kQ a .i&&kQ b c then some b else none
 |_=>none
def bD:Ex->Sc->Option Ty
 | .at s,Γ=>if dX s then look Γ s else some .i
 | .un h a,Γ=>(bD a Γ).bind λA=>kR h [A]
 | .bi h a b,Γ=>(bD a Γ).bind λA=>(bD b Γ).bind λB=>kR h [A,B]
 | .ite a b c,Γ=>(bD a Γ).bind λA=>(bD b Γ).bind λB=>(bD c Γ).bind λC=>kR gN [A,B,C]
 | .lt x a b,Γ=>(bD a Γ).bind λA=>bD b (Γ++[(x,A)])
 | .fn f x A B e,Γ=>if 1+A.n+B.n<=16 then(bD e (Γ++[(f,.op true A B),(x,A)])).bind λC=>if kQ C B then some (.op true A B) else none else none
theorem qF:∀(e:Ex) (Γ Δ:Sc),(∀s,dX s=true->Fv s e->look Γ s=look Δ s)->bD e Γ=bD e Δ
 | .at s,Γ,Δ,h=>by
  unfold bD
  by_cases hn:dX s=true
  ·rw[iP hn,iP hn];exact h s hn ⟨rfl,hn⟩
  ·rw[iN hn,iN hn]
 | .un hd a,Γ,Δ,h=>by unfold bD;rw[qF a Γ Δ h]
 | .bi hd a b,Γ,Δ,h=>by unfold bD;rw[qF a Γ Δ λs hn hs=>h s hn (.inl hs),qF b Γ Δ λs hn hs=>h s hn (.inr hs)]
 | .ite a b c,Γ,Δ,h=>by unfold bD;rw[qF a Γ Δ λs hn hs=>h s hn (.inl hs),qF b Γ Δ λs hn hs=>h s hn (.inr (.inl hs)),qF c Γ Δ λs hn hs=>h s hn (.inr (.inr hs))]
 | .lt x a b,Γ,Δ,h=>by
  unfold bD
  rw[qF a Γ Δ λs hn hs=>h s hn (.inl hs)]
  cases bD a Δ with
  |none=>rfl
  |some A=>
   refine qF b _ _ λs hn hs=>?_
   rw[pe,pe]
   by_cases e:x=s
   ·rw[iP e,iP e]
   ·rw[iN e,iN e];exact h s hn (.inr ⟨λe'=>e e'.symm,hs⟩)
 | .fn f x A B e,Γ,Δ,h=>by
  unfold bD
  rw[qF e _ (Δ++[(f,.op true A B),(x,A)]) λs hn hs=>?_]
  rw[AE,AE]
  by_cases e1:x=s
  ·rw[iP e1,iP e1]
  ·by_cases e2:f=s
   ·rw[iN e1,iN e1,iP e2,iP e2]
   ·rw[iN e1,iN e1,iN e2,iN e2];exact h s hn ⟨λe'=>e2 e'.symm,λe'=>e1 e'.symm,hs⟩
def yp (Γ:Sc):Prop:=∀s T,look Γ s=some T->T.n<=16
theorem GF {Γ:Sc} (h:yp Γ) {T:Ty} (hT:T.n<=16):yp (Γ++[(x,T)]):=by grind [yp,Ty.n,Ex.n,pe]
theorem M7:∀{ks:List Ty} {T:Ty},(∀k,k∈ks->k.n<=16)->kR h ks=some T->T.n<=16
 |[],T,_,e=>by cases e
 |[a],T,hk,e=>by
  have ha:=hk a sm
  cases a with
  |i=>cases e
  |op f c d=>
   cases f with
   |true=>cases e
   |false=>
    simp only[Ty.n] at ha
    simp only[kR] at e
    split at e
    ·cases e;omega
    ·split at e
     ·cases e;omega
     ·cases e
 |[a,b],T,hk,e=>by
  have ha:=hk a sm
  have hb:=hk b sm
  simp only[kR] at e
  split at e
  ·cases a with
   |i=>cases e
   |op f c d=>
    cases f with
    |false=>cases e
    |true=>
     simp only at e
     split at e
     ·cases e;simp only[Ty.n] at ha;omega
     ·cases e
  ·split at e
   ·split at e
    ·rename_i hc;cases e;simpa[Ty.n] using hc
    ·cases e
   ·split at e
    ·cases e;decide
    ·cases e
 |[a,b,c],T,hk,e=>by
  simp only[kR] at e
  split at e
  ·cases e;exact hk b sm
  ·cases e
 |_::_::_::_::_,T,_,e=>by cases e
theorem lX:∀{e:Ex} {Γ:Sc} {T:Ty},yp Γ->bD e Γ=some T->T.n<=16
 | .at s,Γ,T,hΓ,h=>by
  unfold bD at h
  split at h
  ·exact hΓ s T h
  ·cases h;decide
 | .un hd a,Γ,T,hΓ,h=>by
  unfold bD at h
  cases ha:bD a Γ with
  |none=>rw[ha] at h;cases h
  |some A=>
   rw[ha,Option.bind_some] at h
   exact M7 (λk hk=>by simp at hk;rw[hk];exact lX hΓ ha) h
 | .bi hd a b,Γ,T,hΓ,h=>by
  unfold bD at h
  cases ha:bD a Γ with
  |none=>rw[ha] at h;cases h
  |some A=>
   cases hb:bD b Γ with
   |none=>rw[ha,hb] at h;cases h
   |some B=>
    rw[ha,hb,Option.bind_some,Option.bind_some] at h
    exact M7 (λk hk=>by simp at hk;rcases hk with rfl|rfl;exact lX hΓ ha;exact lX hΓ hb) h
 | .ite a b c,Γ,T,hΓ,h=>by
  unfold bD at h
  cases ha:bD a Γ with
  |none=>rw[ha] at h;cases h
  |some A=>
   cases hb:bD b Γ with
   |none=>rw[ha,hb] at h;cases h
   |some B=>
    cases hc:bD c Γ with
    |none=>rw[ha,hb,hc] at h;cases h
    |some C=>
     rw[ha,hb,hc,Option.bind_some,Option.bind_some,Option.bind_some] at h
     exact M7 (λk hk=>by simp at hk;rcases hk with rfl|rfl|rfl;exact lX hΓ ha;exact lX hΓ hb;exact lX hΓ hc) h
 | .lt x a b,Γ,T,hΓ,h=>by
  unfold bD at h
  cases ha:bD a Γ with
  |none=>rw[ha] at h;cases h
  |some A=>
   rw[ha,Option.bind_some] at h
   exact lX (GF hΓ (lX hΓ ha)) h
 | .fn f x A B e,Γ,T,hΓ,h=>by
  unfold bD at h
  split at h
  ·rename_i hc
   cases he:bD e (Γ++[(f,.op true A B),(x,A)]) with
   |none=>rw[he] at h;cases h
   |some C=>
    rw[he,Option.bind_some] at h
    split at h
    ·cases h;simpa[Ty.n] using hc
    ·cases h
  ·cases h
end Go.Proofs.YthbhobaiopccaaaGreatDoor
