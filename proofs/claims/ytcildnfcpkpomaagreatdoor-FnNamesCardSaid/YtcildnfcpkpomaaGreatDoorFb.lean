/- Lemmas for the law FnNames, no statement of their own: no conditions. -/
import Derived.Test.YtcildnfcpkpomaaGreatDoorFa
import Derived.KernelRfl
import Derived.Lib.Atoi
import Derived.Lib.Strings
import Derived.Test.YtcildnfcpkpomaaGreatDoorProg
set_option maxHeartbeats 4000000
set_option linter.unusedVariables false
set_option linter.unusedSimpArgs false
namespace Go.Proofs.YtcildnfcpkpomaaGreatDoor
open Go
variable {B E U bytes d i k m n n1 n2 sz:Nat} {L L' W:List Nat} {w w' w0:World} {V v z:Value} {g gb:Option Nat} {rows:List (List C)} {b:Bk} {p t x y:aq} {ps ts:List aq} {h l r s:aj} {P:Program} {ops:Array Oper} {bs:List Bk} {xs:List aj} {c:UInt8} {a:Prop} {e0:Env} {o:Oper} {N R:Env->World->Prop} {X:Nat->Env->World->Prop}
structure Gr (B:Nat) (L:List Nat) (w:World) (T:TypeId) (sz:Nat) (v:Value) (g:Option Nat) (rows:List (List C)):Prop where
 own:∃xs,iL L w T sz v g rows xs
 low:∀b,g=some b->B<=b
 cN:∀x∈L,x<w.heap.size
 bsz:B<=w.heap.size
theorem Gr.nil {T:TypeId} (b:∀x∈L,x<w.heap.size) (a:B<=w.heap.size):Gr B L w T sz (.slice none 0 0) none []:=
 ⟨⟨[],iL.nil _ _ _ _⟩,sm,b,a⟩
theorem Gr.aG {T:TypeId} (h:Gr B L w T sz v g rows) (k:ak L' w w') (a:∀x∈L',x∈L):Gr B L w' T sz v g rows:=
 ⟨h.own.imp λ_ h=>h.aG k a,h.low,λx b=>lL (h.cN x b) k.size,Nat.le_trans h.bsz k.size⟩
theorem Gr.ext {T:TypeId} (h:Gr B L w T sz v g rows) (k:ak [] w w'):Gr B L w' T sz v g rows:=h.aG k sm
theorem Gr.aB {T:TypeId} (h:Gr B L w T sz v g rows) (k:ak L' w w') (a:∀x∈L',x∈L):Gr B L w' T sz v g rows:=h.aG k a
theorem Gr.alloc {T:TypeId} (h:Gr B L w T sz v g rows) (k:ak [] w w') (b:w'.heap.size=w.heap.size+1):Gr B (w.heap.size::L) w' T sz v g rows:=
 ⟨h.own.imp λ_ h=>(h.more tU).aG k sm,h.low,λx a=>by rcases mC.1 a with rfl|a;omega;have:=h.cN x a;omega,Nat.le_trans h.bsz k.size⟩
theorem Gr.dR {T:TypeId} (h:Gr B L w T sz v g rows) (b:∀x∈L',x∈L):Gr B L' w T sz v g rows:=
 ⟨h.own.imp λ_ h=>h.more λx a=>.inl<|b x a,h.low,λx a=>h.cN x<|b x a,h.bsz⟩
theorem Gr.done {T:TypeId} (h:Gr B L w T sz v g rows):cg L w v (.sl sz rows):=by obtain⟨_,h⟩:=h.own;exact h.done
theorem Gr.xT {T:TypeId} (h:Gr B L w T sz v g rows) {b:Nat} (hb:b∈L):b∉g.toList:=by obtain⟨_,h⟩:=h.own;exact h.sep hb
theorem Gr.Ko {T:TypeId} (h:Gr B L w T sz v g rows) {b:Nat} (hb:b<B):b∉g.toList:=by intro a;have:=h.low b (by simpa using a);omega
theorem Gr.lt {T:TypeId} (h:Gr B L w T sz v g rows):∀x∈g.toList,x<w.heap.size:=by obtain⟨_,h⟩:=h.own;intro x a;exact h.own.lt x (by simpa using a)
theorem Gr.all {T:TypeId} (h:Gr B L w T sz v g rows):∀x∈g.toList++L,x<w.heap.size:=by
 intro x a;rcases mA.1 a with a|a
 .exact h.lt x a
 .exact h.cN x a
theorem Gr.since {T:TypeId} (h:Gr w0.heap.size L w T sz v g rows) (b:ak L' w0 w) (k:ak g.toList w w'):ak L' w0 w':=
 b.since k λx a=>.inr (h.low x<|by simpa using a)
theorem ak.Kp (a:w0.heap.size<=B) (c:∀b,g=some b->B<=b) (e:ak L' w0 w) (k:ak g.toList w w'):ak L' w0 w':=
 e.since k λx d=>.inr<|Nat.le_trans a (c x<|by simpa using d)
section
variable {P:Program} {n:Nat} {ops:Array Oper} {K:Env->World->Prop} {rest:List Oper} {e:Env} {w:World}
 {dst:Option Nat} {ty:TypeId} {pos:String} {after:Array Edge} {g:Option (Nat×Bool)} {x y:Operand}
theorem HD {B:Nat} {L:List Nat} {t:Nat} {v:Value} {j:Option Nat} {rows:List (List C)} {row:List C} {c:List Value} {b U:Nat} (q:P.underlying t=some (.slice E)) (o:TI P E sz bytes z) (s:gate ops e g=true) (r:cC n dst=true) (H:Nat.beq z.cells.size sz=true) (J:Nat.ble bytes 1000=true) 
  (l:ev e x=v) (F:ev e y= .slice (some ⟨b,0,none⟩) 1 1) (d:Gr B L w E sz v j rows) (hb:aJ w b c.toArray U) (I:row.length=sz) (m:c.all Value.oneCell'=true)
  (A:dz (j.toList++L) w c row) (Q:rows.length<100000000)
  (k:∀f a i w',Gr B L w' E sz (.slice f (rows.length+1) a) i (rows++[row])->ak j.toList w w'->OW P n ops K rest (bW e dst (.slice f (rows.length+1) a)) w'):
  OW P n ops K (⟨dst,.call {callee:=.builtin .append,args:=#[x,y],argTypes:=#[t,t]},ty,pos,after,g⟩::rest) e w:=by
 obtain⟨xs,p⟩:=d.own;have O:bytes<=1000:=Nat.le_of_ble_eq_true J;refine Tf q o s r H l F p I hb.all (λu D=>List.all_eq_true.1 m u D) A d.cN (Nat.le_trans (Nat.mul_le_mul (show rows.length+1<=100000000 by omega)<|show bytes+1<=1001 by omega) de) ?_;intro f a i w' M hk N;refine k f a i w' ⟨⟨_,M⟩,λb hb=>?_,λx l=>lL (d.cN x l) hk.size,Nat.le_trans d.bsz hk.size⟩ hk;rcases N with h|h
 .rw[h] at hb;exact d.low b hb
 .rw[h] at hb;cases hb;exact d.bsz
theorem HE {B:Nat} {L:List Nat} {t:Nat} {v r s:Value} {m:Option Nat} {d:List aq} {f:aq} {b U:Nat} (H:P.underlying t=some (.slice E)) (D:TI P E 2 bytes z) (J:gate ops e g=true) (I:cC n dst=true) (R:Nat.beq z.cells.size 2=true) (S:Nat.ble bytes 1000=true) 
  (O:ev e x=v) (Q:ev e y= .slice (some ⟨b,0,none⟩) 1 1) (F:Gr B L w E 2 v m (di d)) (hb:aJ w b [r,s].toArray U)
  (q:bg (m.toList++L) w (.agg #[r,s]) f) (M:d.length<100000000)
  (k:∀i a l w',Gr B L w' E 2 (.slice i (d++[f]).length a) l (di (d++[f]))->ak m.toList w w'->OW P n ops K rest (bW e dst (.slice i (d++[f]).length a)) w'):
  OW P n ops K (⟨dst,.call {callee:=.builtin .append,args:=#[x,y],argTypes:=#[t,t]},ty,pos,after,g⟩::rest) e w:=by
 refine HD H D J I R S O Q F hb (pQ f) ?_ q.lj (by rw[iz];exact M) ?_
 .rw[List.all_eq_true];refine λu N=>dz.HA q.lj (λc o v j=>?_) u N;cases f;rw[aq.enc] at o;simp only[mC,List.not_mem_nil,or_false] at o;rcases o with h|h
  .rw[h] at j;cases j;rfl
  .rw[h] at j;cases j
 .intro i a l w' p hk;have A:(di d).length+1=(d++[f]).length:=by simp[iz]
  have C:di d++[f.enc]=di (d++[f]):=by simp[NP,di]
  rw[A] at p⊢;rw[C] at p;exact k i a l w' p hk
theorem Tm {B:Nat} {L:List Nat} {t:Nat} {v:Value} {j:Option Nat} {c:List aj} {s:aj} {b U:Nat} (q:P.underlying t=some (.slice E)) (o:TI P E 1 bytes z) (u:gate ops e g=true) (r:cC n dst=true) (F:Nat.beq z.cells.size 1=true) (H:Nat.ble bytes 1000=true) 
  (C:ev e x=v) (D:ev e y= .slice (some ⟨b,0,none⟩) 1 1) (p:Gr B L w E 1 v j (fQ c)) (hb:aJ w b [str s].toArray U) (A:c.length<100000000)
  (k:∀d a f w',Gr B L w' E 1 (.slice d (c++[s]).length a) f (fQ (c++[s]))->ak j.toList w w'->OW P n ops K rest (bW e dst (.slice d (c++[s]).length a)) w'):
  OW P n ops K (⟨dst,.call {callee:=.builtin .append,args:=#[x,y],argTypes:=#[t,t]},ty,pos,after,g⟩::rest) e w:=by
 refine HD (row:=[.val (str s)]) q o u r F H C D p hb rfl rfl ⟨.val _,trivial⟩ (by rw[pR];exact A) ?_;intro d a f w' i hk;have l:(fQ c).length+1=(c++[s]).length:=by simp[pR]
 have m:fQ c++[[.val (str s)]]=fQ (c++[s]):=by simp[fQ]
 rw[l] at i⊢;rw[m] at i;exact k d a f w' i hk
end
theorem Tn {P:Program} {T:Nat} (b:P.underlying T=some (.slice E)) (a:TI P E sz bytes z):(Instr.buildSlice T 0 #[]).run P w= .ok (.slice (some ⟨w.heap.size,0,none⟩) 0 0) (w.alloc<|.cells #[] E):=by simp[Instr.buildSlice,Sem.run_bind,run_underlying b,Result.andThen_ok,a.rX,Instr.fill,newRow];congr 2;apply Array.ext<;>simp
theorem xU {P:Program} {n:Nat} {d:Array Oper} {K:Env->World->Prop} {rest:List Oper} {e:Env} {w:World} {c:Option Nat} {ty:TypeId} {pos:String} {a:Array Edge} {g:Option (Nat×Bool)} 
  {T E j bytes:Nat} {z:Value} (B:Nat) (L:List Nat) (o:P.underlying T=some (.slice E)) (m:TI P E j bytes z) (q:gate d e g=true) (p:cC n c=true) (l:B<=w.heap.size) (i:∀x∈L,x<w.heap.size)
  (k:∀w',ak [] w w'->w'.heap.size=w.heap.size+1->Gr B L w' E j (.slice (some ⟨w.heap.size,0,none⟩) 0 0) (some w.heap.size) []->OW P n d K rest (bW e c<|.slice (some ⟨w.heap.size,0,none⟩) 0 0) w'):
  OW P n d K (⟨c,.buildSlice T 0 #[],ty,pos,a,g⟩::rest) e w:=
 fC q p (w':=w.alloc<|.cells #[] E) (by simp[execOp,Tn (P:=P) (w:=w) o m])
  (k _ (ak.alloc _ _ _) sm ⟨⟨[],⟨by simp,.inr ⟨w.heap.size,0,#[],rfl,rfl,aJ.alloc _ _ _,lR _,by decide,sm,sm⟩⟩,trivial,sm,by intro b hb f;cases hb;have:=i _ f;omega⟩,
   by intro b hb;cases hb;exact l,λx f=>by have:=i x f;simp;omega,by simp;omega⟩)
theorem ri.lj {x y:Value} (h:ri L w (.agg #[x,y,z]) b):dz L w [x,y,z] b.enc:=by
 obtain⟨e,a,c⟩:=h;have d:e=[x,y,z]:=by have:=congrArg (λv=>match v with|Value.agg x=>x.toList|_=>[]) a;simpa using this.symm
 rw[<-d];exact c
theorem ab8 {P:Program} {n:Nat} {l:Array Oper} {K:Env->World->Prop} {rest:List Oper} {e:Env} {w:World} {j:Option Nat} {ty:TypeId} {pos:String} {i:Array Edge} {g:Option (Nat×Bool)} {x y:Operand} 
  {B:Nat} {L:List Nat} {t E bytes:Nat} {z:Value} {v C D F:Value} {q:Option Nat} {d:List Bk} {f:Bk} {b U:Nat} (N:P.underlying t=some (.slice E)) (J:TI P E 3 bytes z) (Q:gate l e g=true) (O:cC n j=true) (X:Nat.beq z.cells.size 3=true) (Y:Nat.ble bytes 1000=true)
  (T:ev e x=v) (V:ev e y= .slice (some ⟨b,0,none⟩) 1 1) (M:Gr B L w E 3 v q (d.map Bk.enc)) (hb:aJ w b [C,D,F].toArray U)
  (A:ri (q.toList++L) w (.agg #[C,D,F]) f) (R:d.length<100000000)
  (k:∀o a p w',Gr B L w' E 3 (.slice o (d++[f]).length a) p ((d++[f]).map Bk.enc)->ak q.toList w w'->OW P n l K rest (bW e j (.slice o (d++[f]).length a)) w'):
  OW P n l K (⟨j,.call {callee:=.builtin .append,args:=#[x,y],argTypes:=#[t,t]},ty,pos,i,g⟩::rest) e w:=by
 refine HD N J Q O X Y T V M hb rfl ?_ A.lj (by simpa using R) ?_
 .rw[List.all_eq_true];refine λu S=>dz.HA A.lj (λc r v m=>?_) u S;rw[Bk.enc] at r;simp only[mC,List.not_mem_nil,or_false] at r;rcases r with h|h|h
  .rw[h] at m;cases m;rfl
  .rw[h] at m;cases m
  .rw[h] at m;cases m
 .intro o a p w' s hk;have H:(d.map Bk.enc).length+1=(d++[f]).length:=by simp
  have I:d.map Bk.enc++[f.enc]=(d++[f]).map Bk.enc:=by simp
  rw[H] at s⊢;rw[I] at s;exact k o a p w' s hk
theorem Gr.Bh {T:TypeId} (h:Gr B L w T 3 v g (bs.map Bk.enc)):pd L w v bs:=h.done
/-! ### Owned lists of texts,owned programs -/
def cV (w:World) (T:TypeId) (v:Value) (g:Option Nat) (a:List aj):Prop:=jv w T 1 v g a.length<|a.map λx=>str x
theorem To:∀{xs:List aj} {a:List Value},dz L w a (fQ xs).flatten->a=xs.map λx=>str x
 |[],a,h=>by
  cases a with
  |nil=>rfl
  |cons v a=>exact h.elim
 |x::xs,a,h=>by
  cases a with
  |nil=>exact h.elim
  |cons v a=>obtain⟨b,c⟩:=h;cases b;rw[List.map_cons,<-To (xs:=xs) c]
theorem Tp:∀xs:List aj,dz L w (xs.map λx=>str x) (fQ xs).flatten
 |[]=>trivial
 |_::xs=>⟨.val _,Tp xs⟩
theorem Gr.tV {T:TypeId} (h:Gr B L w T 1 v g (fQ xs)):cV w T v g xs:=by obtain⟨_,h⟩:=h.own;have:=h.own;rw[To h.rep,pR] at this;exact this
theorem cV.ab9 {T:TypeId} (h:cV w T v g xs) (c:∀b,g=some b->b∉L):iL L w T 1 v g (fQ xs) (xs.map λx=>str x):=
 ⟨by rw[pR];exact h,Tp xs,by intro row a;simp[fQ] at a;obtain⟨_,_,rfl⟩:=a;rfl,c⟩
theorem cV.rep {T:TypeId} (h:cV w T v g xs) (a:∀b,g=some b->b∉L):bu L w v xs:=(h.ab9 a).done
theorem cV.aG {T:TypeId} (h:cV w T v g xs) (k:ak L w w') (a:∀b,g=some b->b∉L):cV w' T v g xs:=jv.aG h k a
theorem cV.ext {T:TypeId} (h:cV w T v g xs) (k:ak [] w w'):cV w' T v g xs:=h.aG k sm
def rj (w:World) (T:TypeId) (a:Option Nat×Option Nat) (e:List Value) (b:Bk):Prop:=
 ∃c d,e=[str b.aO,c,d]/\cV w T c a.1 b.cM/\cV w T d a.2 b.code
def jK (a:Option Nat×Option Nat):List Nat:=a.1.toList++a.2.toList
def ix (a:List (Option Nat×Option Nat)):List Nat:=a.flatMap jK
theorem rj.aG {T:TypeId} {a:Option Nat×Option Nat} {d:List Value} (h:rj w T a d b) (k:ak L w w') (c:∀x,x∈jK a->x∉L):rj w' T a d b:=by obtain⟨i,j,e,f,g⟩:=h;exact⟨i,j,e,f.aG k λb hb=>c b<|by simp[jK,hb],g.aG k λb hb=>c b<|by simp[jK,hb]⟩
def jA (w:World) (T:TypeId):List (Option Nat×Option Nat)->List (List Value)->List Bk->Prop
 |[],[],[]=>True
 |g::gs,v::vs,b::bs=>rj w T g v b/\jA w T gs vs bs
 |_,_,_=>False
theorem jA.aG {T:TypeId} (k:ak L w w'):∀{a:List (Option Nat×Option Nat)} {c:List (List Value)} {bs:List Bk},jA w T a c bs->(∀x,x∈ix a->x∉L)->jA w' T a c bs
 |[],[],[],_,_=>trivial
 |g::gs,v::vs,b::bs,h,hL=>⟨h.1.aG k λx d=>hL x<|by simp[ix,d],jA.aG k h.2 λx d=>hL x (by simp[ix] at d⊢;exact .inr d)⟩
theorem jA.snoc {T:TypeId}:∀{a:List (Option Nat×Option Nat)} {c:List (List Value)} {bs:List Bk} {g:Option Nat×Option Nat} {v:List Value} {b:Bk},jA w T a c bs->rj w T g v b->jA w T (a++[g]) (c++[v]) (bs++[b])
 |[],[],[],_,_,_,_,h=>⟨h,trivial⟩
 |_::_,_::_,_::_,_,_,_,h,k=>⟨h.1,jA.snoc h.2 k⟩
theorem jA.lens {T:TypeId}:∀{c:List (Option Nat×Option Nat)} {a:List (List Value)} {bs:List Bk},jA w T c a bs->c.length=bs.length/\a.length=bs.length/\∀row∈a,row.length=3
 |[],[],[],_=>by simp
 |g::gs,v::vs,b::bs,h=>by
  obtain⟨e,f,i⟩:=jA.lens h.2;refine⟨by simp[e],by simp[f],λrow d=>?_⟩;rcases mC.1 d with rfl|d
  .obtain⟨_,_,rfl,_⟩:=h.1;rfl
  .exact i row d
theorem jA.get {T:TypeId}:∀{a:List (Option Nat×Option Nat)} {c:List (List Value)} {bs:List Bk},jA w T a c bs->∀{i:Nat} {b:Bk},bs[i]?=some b->∃g v,a[i]?=some g/\c[i]?=some v/\rj w T g v b
 |_::_,_::_,_::_,h,0,b,hb=>by simp at hb;subst hb;exact⟨_,_,rfl,rfl,h.1⟩
 |_::gs,_::vs,_::bs,h,i+1,b,hb=>by obtain⟨g,v,d,e,f⟩:=jA.get h.2 (i:=i) (by simpa using hb);exact⟨g,v,by simpa using d,by simpa using e,f⟩
 |[],[],[],_,i,b,hb=>by simp at hb
theorem jA.Dj {T:TypeId}:∀{a:List (Option Nat×Option Nat)} {c:List (List Value)} {bs:List Bk},jA w T a c bs->(∀x,x∈ix a->x∉L)->dz L w c.flatten (bs.map Bk.enc).flatten
 |[],[],[],_,_=>trivial
 |g::gs,v::vs,b::bs,h,hL=>by obtain⟨_,_,rfl,e,f⟩:=h.1;refine⟨.val _,e.rep λb hb=>hL b<|by simp[ix,jK,hb],f.rep λb hb=>hL b<|by simp[ix,jK,hb],?_⟩;exact jA.Dj h.2 λx d=>hL x (by simp[ix] at d⊢;exact .inr d)
structure nz (w:World) (TB TS:TypeId) (v:Value) (g:Option Nat) (gss:List (Option Nat×Option Nat)) (vss:List (List Value)) (bs:List Bk):Prop where
 own:jv w TB 3 v g bs.length vss.flatten
 rows:jA w TS gss vss bs
 nodup:(g.toList++ix gss).Nodup
 lt:∀x,x∈ix gss->x<w.heap.size
theorem nz.aG {e TS:TypeId} {a:List (Option Nat×Option Nat)} {c:List (List Value)} (h:nz w e TS v g a c bs) (k:ak L w w') (f:∀x,x∈g.toList++ix a->x∉L):nz w' e TS v g a c bs:=
 ⟨h.own.aG k λb hb=>f b<|by simp[hb],h.rows.aG k λx d=>f x<|by simp[d],h.nodup,λx d=>lL (h.lt x d) k.size⟩
theorem nz.ext {c TS:TypeId} {a:List (Option Nat×Option Nat)} {b:List (List Value)} (h:nz w c TS v g a b bs) (k:ak [] w w'):nz w' c TS v g a b bs:=h.aG k sm
theorem bg.NR {A B:List Nat} {b:Nat} (h:bg (b::(A++B)) w v t):bg (A++(b::B)) w v t:=iZ.fresh h λx a=>.inl<|Tc x a
theorem bg.dR (h:bg L w v t) (a:∀x∈L',x∈L):bg L' w v t:=iZ.fresh h λx b=>.inl<|a x b
theorem cY.dR {t:List aq} (h:cY L w v t) (a:∀x∈L',x∈L):cY L' w v t:=cg.fresh h λx b=>.inl<|a x b
theorem Gr.trees {T:TypeId} (h:Gr B L w T 2 v g (di ts)):cY L w v ts:=h.done
def iU (c:UInt8):Bool:=48<=c&&c<=57
theorem Dk (c:UInt8):iU c=true↔48<=c.toNat/\c.toNat<=57:=by simp[iU,UInt8.le_iff_toNat_le]
def rZ (s:aj):Int:=if 0<s.length/\s.getD 0 0=45 then -1 else 1
def eX (s:aj):aj:=if 0<s.length/\s.getD 0 0=45 then s.drop 1 else s
def val (a:aj):Nat:=a.foldl (λn c=>10*n+(c.toNat-48)) 0
def numeral (s:aj):Option Int:=
 if s=[48] then some 0
 else if(eX s).length<1\/3<(eX s).length\/(eX s).getD 0 0=48 then none
 else if(eX s).all iU=true then some (rZ s*val (eX s)) else none
theorem Tq (a:aj) (c:UInt8):val (a++[c])=10*val a+(c.toNat-48):=by simp[val]
theorem Tr:∀(a:aj),a.all iU=true->val a<10^a.length:=by
 intro a;have d:∀(l:aj) (n k:Nat),l.all iU=true->n<10^k->l.foldl (λn c=>10*n+(c.toNat-48)) n<10^(k+l.length):=by
  intro l;induction l with
  |nil=>intro n k _ h;simpa using h
  |cons c l e=>intro n k b h;simp only[List.all_cons,aE] at b;have f:=(Dk c).1 b.1;simp only[List.foldl_cons,lC];have:=e (10*n+(c.toNat-48)) (k+1) b.2 (by rw[Nat.pow_succ];omega);rw[show k+(l.length+1)=k+1+l.length from by omega];exact this
 intro h;have:=d a 0 0 h sm;simpa[val] using this
theorem NS (h:k<s.length):s.take (k+1)=s.take k++[s.getD k 0]:=by simp_all
def bz (t:aq):aj:=if t.au≠[]\/t.ag=[] then[] else match t.ag with
 |[]=>[]
 |p::_=>p.au
def Tt (c:UInt8):Bool:=97<=c&&c<=122
def Dl (s:aj) (i:Nat):Bool:=Tt (s.getD i 0)||(decide (0<i)&&iU (s.getD i 0))
def oG (s:aj):Bool:=(List.range s.length).all (Dl s)&&decide (s≠[])
theorem HF (k c:UInt8):decide ((k.toNat:Int)<=c.toNat)=decide (k<=c):=by simp[UInt8.le_iff_toNat_le]
theorem Tu (k c:UInt8):decide ((c.toNat:Int)=k.toNat)=(c==k):=by rw[Bool.eq_iff_iff];simp[<-UInt8.toNat_inj];omega
theorem Kq (s:aj) (k:Nat):((decide ((97:Int)<=(s.getD k 0).toNat)&&decide (((s.getD k 0).toNat:Int)<=122))||((decide ((0:Int)<(k:Int))&&decide ((48:Int)<=(s.getD k 0).toNat))&&decide (((s.getD k 0).toNat:Int)<=57)))=Dl s k:=by have a:=HF 97<|s.getD k 0;have b:=HF (s.getD k 0) 122;have c:=HF 48<|s.getD k 0;have d:=HF (s.getD k 0) 57;simp only[show((97:UInt8).toNat:Int)=97 from rfl,show((122:UInt8).toNat:Int)=122 from rfl,show((48:UInt8).toNat:Int)=48 from rfl,show((57:UInt8).toNat:Int)=57 from rfl] at a b c d;rw[a,b,c,d];unfold Dl Tt iU;rw[show decide ((0:Int)<(k:Int))=decide (0<k) from by simp,Bool.and_assoc]
theorem Tv {j:Nat} (a:j<s.length) (h:Dl s j=false):oG s=false:=by grind [oG]
theorem Tw (h:∀j,j<s.length->Dl s j=true):oG s=decide (s≠[]):=by grind [oG]
theorem Tx {P:Nat->Prop} (h:∀j,j<k->P j) (hk:P k):∀j,j<k+1->P j:=by grind
theorem HG (a:t.au=[]) (b:t.ag[0]?=some p):bz t=p.au:=by grind [aq.ag,bz]
theorem Dm (h:t.au≠[]\/t.ag=[]):bz t=[]:=by unfold bz;rw[iP h]
theorem aca (a:s≠[48]) (h:(eX s).length<1\/3<(eX s).length\/(eX s).getD 0 0=48):numeral s=none:=by grind [numeral]
theorem acb (a:s≠[48]) (hk:k<(eX s).length) (h:iU ((eX s).getD k 0)=false):numeral s=none:=by grind [numeral,eX]
theorem acd (b:s≠[48]) (h:1<=(eX s).length/\(eX s).length<=3/\(eX s).getD 0 0≠48) (a:(eX s).all iU=true):numeral s=some (rZ s*val (eX s)):=by grind [numeral]
theorem ace (s:aj):rZ s=1\/rZ s= -1:=by grind [rZ]
theorem acf {a:aj} (h:(!(decide ((1:Int)<=(a.length:Int))&&decide ((a.length:Int)<=3))||decide (((a.getD 0 0).toNat:Int)=48))=true):a.length<1\/3<a.length\/a.getD 0 0=48:=by
 simp only[oE,Bool.not_eq_true',Bool.and_eq_false_iff,decide_eq_false_iff_not,dE] at h;rcases h with(h|h)|h
 .left;omega
 .right;left;omega
 .right;right;exact UInt8.toNat_inj.1 (by have:(48:UInt8).toNat=48:=rfl;rw[this];omega)
theorem acg {a:aj} (h:(!(decide ((1:Int)<=(a.length:Int))&&decide ((a.length:Int)<=3))||decide (((a.getD 0 0).toNat:Int)=48))=false):1<=a.length/\a.length<=3/\a.getD 0 0≠48:=by simp only[Bool.or_eq_false_iff,Bool.not_eq_false',aE,decide_eq_false_iff_not,dE] at h;refine⟨by omega,om,λb=>h.2 (by rw[b];rfl)⟩
theorem TH (h:(decide ((c.toNat:Int)<48)||decide ((57:Int)<c.toNat))=true):iU c=false:=by grind [Dk]
theorem TJ (h:(decide ((c.toNat:Int)<48)||decide ((57:Int)<c.toNat))=false):48<=c.toNat/\c.toNat<=57/\iU c=true:=by grind [Dk]
def aq.size:aq->Nat
 | .mk a ps=>1+a.length+sizes ps
 where sizes:List aq->Nat
 |[]=>0
 |t::ts=>t.size+sizes ts
theorem ach {ps:List aq}:∀{i:Nat} {p:aq},ps[i]?=some p->p.size<=aq.size.sizes ps:=by
 induction ps with
 |nil=>intro i p h;simp at h
 |cons q ps a=>
  intro i p h;cases i with
  |zero=>simp at h;subst h;simp only[aq.size.sizes];omega
  |succ i=>have:=a (by simpa using h);simp only[aq.size.sizes];omega
theorem HH {t:aq} (h:t.ag[i]?=some p):p.size<t.size:=by
 cases t with
 |mk a ps=>have:=ach (ps:=ps) h;simp only[aq.size];omega
theorem oH:∀t:aq,t.ag.length<t.size
 | .mk a ps=>by
  have:∀l:List aq,l.length<=aq.size.sizes l:=by
   intro l;induction l with
   |nil=>simp[aq.size.sizes]
   |cons q r _=>cases q;simp only[aq.size.sizes,aq.size,lC];omega
  have:=this ps;simp only[aq.ag,aq.size];omega
inductive WF:aq->Prop
 |au (a:aj) (h:a≠[]):WF (.mk a [])
 |list (ps:List aq) (h:ps≠[]) (hp:∀p∈ps,WF p):WF (.mk [] ps)
theorem WF.part (h:WF t) (a:t.ag[i]?=some p):WF p:=by cases h<;>grind [aq.ag]
theorem WF.first (h:WF t) (c:t.au=[]):∃p,t.ag[0]?=some p:=by
 cases h with
 |au a b=>exact absurd c b
 |list ps b _=>
  cases ps with
  |nil=>exact absurd rfl b
  |cons q r=>exact⟨q,rfl⟩
theorem WF.leaf (h:WF t) (b:t.au≠[]):t.ag=[]:=by
 cases h with
 |au a _=>rfl
 |list ps _ _=>exact absurd rfl b
theorem TK {rd:aj->Option (aq×aj)} (f:∀s t r,rd s=some (t,r)->WF t):∀n s ts r,ji rd n s=some (ts,r)->ts≠[]/\∀p∈ts,WF p
 |0,_,_,_,h=>by simp[ji] at h
 |n+1,s,ts,r,h=>by
  unfold ji at h;cases b:rd s with
  |none=>simp[b] at h
  |some q=>
   obtain⟨t,m⟩:=q;have j:=f s t m b;simp only[b] at h;cases m with
   |nil=>simp at h
   |cons c l=>
    simp only at h;by_cases g:c=41
    .rw[iP g] at h;simp at h;obtain⟨rfl,_⟩:=h;exact⟨by simp,by intro p a;simp at a;subst a;exact j⟩
    .rw[iN g] at h;by_cases i:c=32
     .rw[iP i] at h;cases a:ji rd n l with
      |none=>simp[a] at h
      |some q=>obtain⟨e,d⟩:=q;simp[a] at h;obtain⟨rfl,_⟩:=h;obtain⟨_,o⟩:=TK f n l e d a;exact⟨by simp,by intro p a;rcases mC.1 a with rfl|a;exact j;exact o p a⟩
     .rw[iN i] at h;cases h
theorem aci:∀d s t r,eW d s=some (t,r)->WF t:=by
 have leaf:∀(s:aj) (t:aq) (r:aj),(if s.takeWhile fj=[] then none else some (aq.mk (s.takeWhile fj) [],s.dropWhile fj))=some (t,r)->WF t:=by
  intro s t r h;split at h
  .cases h
  .rename_i g;simp only[Option.some.injEq,Prod.mk.injEq] at h;rw[<-h.1];exact .au _ g
 intro d;induction d with
 |zero=>
  intro s t r h;cases s with
  |nil=>simp[eW] at h
  |cons c s=>
   simp only[eW] at h;by_cases a:c=40
   .rw[iP a] at h;cases h
   .rw[iN a] at h;exact leaf _ _ _ h
 |succ d i=>
  intro s t r h;cases s with
  |nil=>simp[eW] at h
  |cons c s=>
   simp only[eW] at h;by_cases a:c=40
   .rw[iP a] at h;cases b:ji (eW d) (s.length+1) s with
    |none=>simp[b] at h
    |some q=>obtain⟨_,_⟩:=q;simp[b] at h;obtain⟨e,f⟩:=TK i _ _ _ _ b;rw[<-h.1];exact .list _ e f
   .rw[iN a] at h;exact leaf _ _ _ h
theorem vm (h:bS s=some t):WF t:=by grind [bS,eW,aci]
theorem TL {rd:aj->Option (aq×aj)} (f:∀s t r,rd s=some (t,r)->t.size+r.length<=s.length+1):∀n s ts r,ji rd n s=some (ts,r)->aq.size.sizes ts+r.length<=s.length
 |0,_,_,_,h=>by simp[ji] at h
 |n+1,s,ts,r,h=>by
  unfold ji at h;cases b:rd s with
  |none=>simp[b] at h
  |some q=>
   obtain⟨t,l⟩:=q;have m:=f s t l b;simp only[b] at h;cases l with
   |nil=>simp at h
   |cons c j=>
    simp only at h;rw[lC] at m;by_cases g:c=41
    .rw[iP g] at h;simp at h;obtain⟨rfl,rfl⟩:=h;simp only[aq.size.sizes];omega
    .rw[iN g] at h;by_cases i:c=32
     .rw[iP i] at h;cases a:ji rd n j with
      |none=>simp[a] at h
      |some q=>obtain⟨e,d⟩:=q;simp[a] at h;obtain⟨rfl,rfl⟩:=h;have o:=TL f n j e d a;simp only[aq.size.sizes];omega
     .rw[iN i] at h;cases h
theorem acj:∀d s t r,eW d s=some (t,r)->t.size+r.length<=s.length+1:=by
 have leaf:∀(s:aj) (t:aq) (r:aj),(if s.takeWhile fj=[] then none else some (aq.mk (s.takeWhile fj) [],s.dropWhile fj))=some (t,r)->t.size+r.length<=s.length+1:=by
  intro s t r h;split at h
  .cases h
  .simp only[Option.some.injEq,Prod.mk.injEq] at h;obtain⟨rfl,rfl⟩:=h;have a:=Hx fj s;rw[Hw,List.length_drop];simp only[aq.size,aq.size.sizes];omega
 intro d;induction d with
 |zero=>
  intro s t r h;cases s with
  |nil=>simp[eW] at h
  |cons c s=>
   simp only[eW] at h;by_cases a:c=40
   .rw[iP a] at h;cases h
   .rw[iN a] at h;exact leaf _ _ _ h
 |succ d e=>
  intro s t r h;cases s with
  |nil=>simp[eW] at h
  |cons c s=>
   simp only[eW] at h;by_cases a:c=40
   .rw[iP a] at h;cases b:ji (eW d) (s.length+1) s with
    |none=>simp[b] at h
    |some q=>obtain⟨_,_⟩:=q;simp[b] at h;have f:=TL e _ _ _ _ b;obtain⟨rfl,rfl⟩:=h;simp only[aq.size,lC,List.length_nil];omega
   .rw[iN a] at h;exact leaf _ _ _ h
theorem NT (h:bS s=some t):s.length<=12000:=by grind [bS]
theorem Bi (h:bS s=some t):t.size<=12001:=by
 have b:=NT h;unfold bS at h;split at h
 .cases h
 .cases a:eW 60 s with
  |none=>rw[a] at h;cases h
  |some q=>
   obtain⟨_,r⟩:=q;rw[a] at h;cases r with
   |nil=>simp at h;subst h;have:=acj _ _ _ _ a;simp at this;omega
   |cons c r=>cases h
theorem r5:∀t:aq,t.au.length<t.size
 | .mk a ps=>by simp only[aq.au,aq.size];omega
def fR (b:Bool):aq->Bool
 | .mk a ps=>if a≠[] then decide (a=[105])||(b&&decide (a=[118])) else match ps with
  |[]=>false
  |h::rest=>if h.au=[101] then oneT rest else if h.au=[116]\/h.au=[99] then nA b rest else false
 where
 oneT:List aq->Bool
  |[]=>false
  |[t]=>fR true t
  |_::_::_=>false
 nA (b:Bool):List aq->Bool
  |[]=>true
  |t::ts=>fR b t&&nA b ts
theorem NU (a:Bool):∀ts,fR.nA a ts=ts.all (fR a)
 |[]=>rfl
 |t::ts=>by simp[fR.nA,NU a ts]
def nth (a:List aq) (i:Nat):aq:=a.getD i<|.mk [] []
theorem ew (h:i<ps.length):ps[i]?=some (nth ps i):=by grind [nth]
theorem kW (h:i<t.ag.length):(nth t.ag i).size<t.size:=HH<|ew h
theorem WF.nth (h:WF t) (a:i<t.ag.length):WF (nth t.ag i):=h.part<|ew a
theorem WF.pos (h:WF t) (a:t.au=[]):0<t.ag.length:=by grind [WF.first]
theorem TO (h:t.au≠[]) (b:Bool):fR b t=(decide (t.au=[105])||(b&&decide (t.au=[118]))):=by
 cases t with
 |mk a ps=>unfold fR;exact iP h
theorem NV (c:t.au=[]) (e:0<t.ag.length) (d:(nth t.ag 0).au=[101]) (b:Bool):fR b t=(decide (t.ag.length=2)&&fR true (nth t.ag 1)):=by
 cases t with
 |mk a ps=>
  simp only[aq.au] at c;subst c;cases ps with
  |nil=>simp[aq.ag] at e
  |cons h rest=>
   have f:h.au=[101]:=d;simp only[fR,f,aq.ag,ne_eq,not_true_eq_false,if_false,if_true]
   match rest with
   |[]=>simp[fR.oneT]
   |[p]=>simp[fR.oneT,_root_.Go.Proofs.YtcildnfcpkpomaaGreatDoor.nth]
   |p::q::r=>simp[fR.oneT]
theorem NW (c:t.au=[]) (g:0<t.ag.length) (f:(nth t.ag 0).au=[116]\/(nth t.ag 0).au=[99]) (b:Bool):fR b t=(t.ag.drop 1).all (fR b):=by
 cases t with
 |mk a ps=>
  simp only[aq.au] at c;subst c;cases ps with
  |nil=>simp[aq.ag] at g
  |cons h rest=>
   have d:h.au=[116]\/h.au=[99]:=f;have e:h.au≠[101]:=by rcases d with h|h<;>rw[h]<;>decide
   simp only[fR,e,d,aq.ag,ne_eq,not_true_eq_false,if_false,if_true,NU,List.drop_one,List.tail_cons]
theorem TP (e:t.au=[]) (i:0<t.ag.length) (f:(nth t.ag 0).au≠[101]) (g:¬((nth t.ag 0).au=[116]\/(nth t.ag 0).au=[99])) (b:Bool):fR b t=false:=by
 cases t with
 |mk a ps=>
  simp only[aq.au] at e;subst e;cases ps with
  |nil=>simp[aq.ag] at i
  |cons h rest=>have c:h.au≠[101]:=f;have d:¬(h.au=[116]\/h.au=[99]):=g;simp only[fR,c,d,ne_eq,not_true_eq_false,if_false]
theorem TQ {f:aq->Bool} (a:i<ps.length):(ps.drop i).all f=(f (nth ps i)&&(ps.drop<|i+1).all f):=by rw[List.drop_eq_getElem_cons a,List.all_cons];simp[nth,List.getD,gE a]
theorem acn {a x y:aj} (h:(decide (a≠x)&&decide (a≠y))=false):a=x\/a=y:=by grind
theorem aco {a x y:aj} (h:(decide (a≠x)&&decide (a≠y))=true):¬(a=x\/a=y):=by grind
def tW (a:aj):Int:=match numeral a with
 |some n=>if 0<=n/\n<=39 then n else -1
 |none=> -1
def qw (a:aj):Bool:=decide<|0<=tW a
def jL (z:Int) (t:aq):Bool:=
 if z=114\/z=42 then qw t.au else if z=110 then(numeral t.au).isSome else if z=108 then oG t.au
 else if z=101 then decide (bz t=[101])&&fR false t else fR false t
theorem TR {b:Bool} (h:(!b)=false):b=true:=by grind
theorem TT {b:Bool} (h:(!b)=true):b=false:=by grind
theorem Bj {b:Prop} [Decidable a] [Decidable b] (h:a):decide a=(decide a||decide b):=by grind
theorem Bl {b:Prop} [Decidable a] [Decidable b] (h:¬a):decide b=(decide a||decide b):=by grind
theorem NX {b c:Prop} [Decidable a] [Decidable b] [Decidable c] (h:a):decide a=(decide a||decide b||decide c):=by grind
theorem NY {b c:Prop} [Decidable a] [Decidable b] [Decidable c] (h:¬a) (d:b):decide b=(decide a||decide b||decide c):=by grind
theorem NZ {b c:Prop} [Decidable a] [Decidable b] [Decidable c] (h:¬a) (d:¬b):decide c=(decide a||decide b||decide c):=by grind
theorem Bm {b:Prop} [Decidable a] [Decidable b] (h:(decide a||decide b)=true):a\/b:=by simpa using h
theorem Bn {b:Prop} [Decidable a] [Decidable b] (h:(decide a||decide b)=false):¬(a\/b):=by simpa using h
theorem N0 {b c:Prop} [Decidable a] [Decidable b] [Decidable c] (h:(decide a||decide b||decide c)=true):a\/b\/c:=by grind
theorem N2 {b c:Prop} [Decidable a] [Decidable b] [Decidable c] (h:(decide a||decide b||decide c)=false):¬(a\/b\/c):=by grind
def shapeOf (h:aj):aj:=
 if h=[99,111,110,115,116] then[114,110]
 else if h=[109,111,118]\/h=[111,112,101,110] then[114,114]
 else if h=[97,100,100]\/h=[115,117,98]\/h=[109,117,108] then[114,114,114]
 else if h=[110,101,119] then[114,42]
 else if h=[103,101,116] then[114,114,110]
 else if h=[108,97,98]\/h=[122,101,114,111] then[114,108]
 else if h=[112,97,99,107] then[114,114,101,119]
 else if h=[106,117,109,112]\/h=[104,97,108,116] then[114]
 else[]
def N3 (h:aj) (i:Nat):Int:=((h.getD (min i h.length-1) 0).toNat:Int)
def tX (t:aq):Bool:=(decide (shapeOf (bz t)≠[114,42])&&decide (t.ag.length≠(shapeOf<|bz t).length+1))||decide (t.ag.length<2)
def vq (t:aq) (i:Nat):Bool:=jL (N3 (shapeOf<|bz t) i)<|nth t.ag i
def mw (t:aq):Bool:=if shapeOf (bz t)=[] then false else if tX t then false
 else decide (∀i,i<t.ag.length->1<=i->vq t i=true)&&(decide (bz t≠[103,101,116])||decide (0<=(numeral (nth t.ag 3).au).getD 0))
theorem acp (a:h=[103,101,116]):shapeOf h=[114,114,110]:=by rw[a];decide
theorem acq (h:tX t=false) (a:bz t=[103,101,116]):t.ag.length=4:=by grind [tX,acp]
theorem acr (h:tX t=false):2<=t.ag.length:=by grind [tX]
theorem N4 (h:shapeOf (bz t)≠[]):t.au=[]/\0<t.ag.length/\bz t=(nth t.ag 0).au:=by
 have c:bz t≠[]:=λd=>by rw[d] at h;exact h de
 by_cases b:t.au=[]
 .rcases Nat.eq_zero_or_pos t.ag.length with a|a
  .exact absurd (Dm (.inr<|List.length_eq_zero_iff.1 a)) c
  .exact⟨b,a,HG b<|ew a⟩
 .exact absurd (Dm<|.inl b) c
theorem acs (h:aj):(shapeOf h).length<=4:=by grind [shapeOf]
theorem TU (a:n=t.ag.length):((decide (shapeOf (bz t)≠[114,42])&&decide ((n:Int)≠((shapeOf<|bz t).length:Int)+1))||decide ((n:Int)<2))=tX t:=by grind [tX]
theorem TV (h:shapeOf (bz t)=[]):mw t=false:=by unfold mw;rw[iP h]
theorem N5 (h:tX t=true):mw t=false:=by grind [mw]
theorem acu (b:i<t.ag.length) (a:1<=i) (h:vq t i=false):mw t=false:=by grind [mw]
theorem acv (a:shapeOf (bz t)≠[]) (b:tX t=false) (h:∀i,i<t.ag.length->1<=i->vq t i=true):
  mw t=(decide (bz t≠[103,101,116])||decide (0<=(numeral (nth t.ag 3).au).getD 0)):=by grind [mw]
theorem acw (h:mw t=true):0<t.ag.length:=by
 unfold mw at h;split at h
 .cases h
 .rename_i a;exact(N4 a).2.1
def seen (f:aq->Bool) (s:aj):Bool:=match bS s with
 |some t=>f t
 |none=>false
theorem Kr {f:aq->Bool} (h:∀a,bS s=some a->t=a):((bS s).isSome&&f t)=seen f s:=by grind [bS,seen]
def Ks (t:aq):Bool:=mw t&&(decide ((nth t.ag 0).au=[106,117,109,112])||decide ((nth t.ag 0).au=[104,97,108,116]))
abbrev tY (s:aj):Bool:=seen (fR false) s
abbrev tZ (s:aj):Bool:=seen mw s
abbrev Fq (s:aj):Bool:=seen Ks s
def nob:Bk:=⟨[],[],[]⟩
abbrev cA (bs:List Bk) (i:Nat):Bk:=bs.getD i nob
theorem r6 (h:i<bs.length):bs[i]?=some (cA bs i):=by grind
def mx (bs:List Bk) (l:aj):Int:=match bs.findIdx? (λb=>decide<|b.aO=l) with
 |some i=>(i:Int)
 |none=> -1
theorem TW (hk:k<bs.length) (h:∀i,i<k->(cA bs i).aO≠l) (c:(cA bs k).aO=l):mx bs l=(k:Int):=by
 have:bs.findIdx? (λb=>decide<|b.aO=l)=some k:=by rw[List.findIdx?_eq_some_iff_getElem];refine⟨hk,by simpa[gE hk] using c,λj a=>?_⟩;have:=h j a;simpa[gE (Nat.lt_trans a hk)] using this
 unfold mx;rw[this]
theorem acy (h:∀i,i<bs.length->(cA bs i).aO≠l):mx bs l= -1:=by
 have:bs.findIdx? (λb=>decide<|b.aO=l)=none:=by rw[List.findIdx?_eq_none_iff];intro b hb;obtain⟨i,a,rfl⟩:=List.getElem_of_mem hb;have:=h i a;simpa[gE a] using this
 unfold mx;rw[this]
def sR (code:List aj) (i:Nat):Bool:=tZ (bP code i)&&(Fq (bP code i)==decide (i+1=code.length))
def my (b:Bk):Bool:=oG b.aO&&decide (b.cM.length<=40)&&(decide (1<=b.code.length)&&decide (b.code.length<=80))&&
 decide (∀i,i<b.cM.length->tY (bP b.cM i)=true)&&decide (∀i,i<b.code.length->sR b.code i=true)
def ia (bs:List Bk):Bool:=decide (∀i,i<bs.length->my (cA bs i)=true/\mx bs (cA bs i).aO=i)&&
 (decide (1<=bs.length)&&decide (bs.length<=40)&&decide ((cA bs 0).aO=[109,97,105,110])&&decide ((cA bs 0).cM.length=0))
theorem TX (h:(oG b.aO&&decide (b.cM.length<=40)&&(decide (1<=b.code.length)&&decide (b.code.length<=80)))=false):my b=false:=by unfold my;rw[h];rfl
theorem TZ (a:i<b.cM.length) (h:tY (bP b.cM i)=false):my b=false:=by grind [my]
theorem T0 (a:i<b.code.length) (h:sR b.code i=false):my b=false:=by grind [sR,my]
theorem T1 (h:(oG b.aO&&decide (b.cM.length<=40)&&(decide (1<=b.code.length)&&decide (b.code.length<=80)))=true) (a:∀i,i<b.cM.length->tY (bP b.cM i)=true) 
  (c:∀i,i<b.code.length->sR b.code i=true):my b=true:=by grind [my]
theorem T2 (b:i<bs.length) (h:¬(my (cA bs i)=true/\mx bs (cA bs i).aO=i)):ia bs=false:=by unfold ia;rw[dF (p:=∀i:Nat,i<bs.length->my (cA bs i)=true/\mx bs (cA bs i).aO=i) λa=>h (a i b)];rfl
theorem T3 (h:∀i,i<bs.length->my (cA bs i)=true/\mx bs (cA bs i).aO=i):
  ia bs=(decide (1<=bs.length)&&decide (bs.length<=40)&&decide ((cA bs 0).aO=[109,97,105,110])&&decide ((cA bs 0).cM.length=0)):=by grind [ia]
theorem Kt (a:n1=b.cM.length) (c:n2=b.code.length):(!oG b.aO||decide ((40:Int)<n1)||!(decide ((1:Int)<=n2)&&decide ((n2:Int)<=80)))=
  !(oG b.aO&&decide (b.cM.length<=40)&&(decide (1<=b.code.length)&&decide (b.code.length<=80))):=by grind
theorem N6 {code:List aj} (b:n=code.length) (a:i<n):(!tZ (bP code i)||(Fq (bP code i) !=decide ((i:Int)=(n:Int)-1)))=!sR code i:=by grind [sR]
def Bk.small (b:Bk):Prop:=b.aO.length<1000000000/\b.cM.length<1000000000/\b.code.length<1000000000
def xV (bs:List Bk):Prop:=bs.length<1000000000/\∀i,i<bs.length->(cA bs i).small
theorem acz (b:n=bs.length) (a:0<bs.length->n1=(cA bs 0).cM.length):
  ((decide ((1:Int)<=n)&&decide ((n:Int)<=40))&&decide ((cA bs 0).aO=[109,97,105,110])&&decide ((n1:Int)=0))=(decide (1<=bs.length)&&decide (bs.length<=40)&&decide ((cA bs 0).aO=[109,97,105,110])&&decide ((cA bs 0).cM.length=0)):=by grind
theorem acA (s:aj):Lib.trimPrefix s [45]=eX s:=by
 unfold Lib.trimPrefix Lib.hasPrefix eX;cases s with
 |nil=>simp
 |cons c r=>
  by_cases h:c=45
  .subst h;simp
  .have a:((45:UInt8)==c)=false:=by simpa using λb=>h b.symm
   simp[List.isPrefixOf,a,h]
theorem T4:∀(l:aj) (n:Nat),l.all iU=true->Lib.decFrom n l=some (l.foldl (λn c=>10*n+(c.toNat-48)) n)
 |[],n,_=>rfl
 |c::r,n,h=>by
  simp only[List.all_cons,aE] at h;have a:=(Dk c).1 h.1;have b:Lib.digitVal c=some (c.toNat-48):=by unfold Lib.digitVal;rw[iP a]
  simp only[Lib.decFrom,b,List.foldl_cons];rw[show n*10+(c.toNat-48)=10*n+(c.toNat-48) from by omega];exact T4 r _ h.2
theorem acB (a:l≠[]) (h:l.all iU=true):Lib.decNat l=some (val l):=by unfold Lib.decNat;rw[iN (by simpa using a)];exact T4 l 0 h
theorem acC {z:Int} (h:numeral s=some z):Lib.atoi s=some z:=by
 unfold numeral at h;by_cases e:s=[48]
 .rw[iP e] at h;subst e;rw[<-h];decide
 .rw[iN e] at h;by_cases f:(eX s).length<1\/3<(eX s).length\/(eX s).getD 0 0=48
  .rw[iP f] at h;cases h
  .rw[iN f] at h;by_cases a:(eX s).all iU=true
   .rw[iP a] at h;have m:eX s≠[]:=λi=>f<|.inl (by rw[i];simp);have d:=acB m a;cases s with
    |nil=>exact absurd (by unfold eX;simp) m
    |cons c r=>
     by_cases b:c=45
     .subst b;have g:eX (45::r)=r:=by unfold eX;simp
      have j:rZ (45::r)= -1:=by unfold rZ;simp
      rw[g] at d h;rw[j] at h;simp only[Lib.atoi,d,beq_self_eq_true,if_true,Option.map_some];rw[<-h];simp
     .have g:eX (c::r)=c::r:=by unfold eX;simp[b]
      have j:rZ (c::r)=1:=by unfold rZ;simp[b]
      rw[g] at d h a;rw[j] at h;have l:=(Dk c).1 (by simp only[List.all_cons,aE] at a;exact a.1);have n:(c==45)=false:=by simpa using b
      have o:(c==43)=false:=by
       have:c≠43:=λi=>by rw[i] at l;exact absurd l.1 de
       simpa using this
      simp only[Lib.atoi,n,o,d,Bool.false_eq_true,if_false,Option.map_some];rw[<-h];simp
   .rw[iN a] at h;cases h
theorem T6 {z:Int} (h:numeral s=some z):s.length<=4:=by grind [numeral,eX]
theorem acD (s:aj):(decide (s=[48])||(decide (1<=(eX s).length)&&decide ((eX s).length<=3)&&(eX s).all iU&&decide ((eX s).getD 0 0≠48)))=(numeral s).isSome:=by grind [eX,iU,numeral]
theorem acE (s:aj):((numeral s).isSome&&(decide (0<=(numeral s).getD 0)&&decide ((numeral s).getD 0<=39)))=qw s:=by grind [numeral,qw,tW]
theorem acF (hk:k<s.length) (h:iU (s.getD k 0)=false):s.all iU=false:=by grind
theorem acG (s:aj):(decide (s=[48])||(decide ((1:Int)<=((eX s).length:Int))&&decide (((eX s).length:Int)<=3)&&(eX s).all iU&&decide ((((eX s).getD 0 0).toNat:Int)≠48)))=(numeral s).isSome:=by
 rw[<-acD,show decide ((1:Int)<=((eX s).length:Int))=decide (1<=(eX s).length) from decide_eq_decide.2 om,show decide (((eX s).length:Int)<=3)=decide ((eX s).length<=3) from decide_eq_decide.2 om,
  show decide ((((eX s).getD 0 0).toNat:Int)≠48)=decide ((eX s).getD 0 0≠48) from decide_eq_decide.2 (by
   have b:(48:UInt8).toNat=48:=rfl;constructor
   .intro h a;exact h (by rw[a];rfl)
   .intro h a;exact h (UInt8.toNat_inj.1 om))]
def Dn (a:List aq) (g:aq->Bool):Int:=match a.findIdx? g with
 |some i=>(i:Int)
 |none=> -1
theorem wL (h:i<ts.length):nth ts i=ts[i]:=by grind [nth]
theorem acH {g:aq->Bool} (hk:k<ts.length) (h:∀i,i<k->g (nth ts i)=false) (b:g (nth ts k)=true):Dn ts g=(k:Int):=by
 have:ts.findIdx? g=some k:=by rw[List.findIdx?_eq_some_iff_getElem];refine⟨hk,by rw[<-wL hk];exact b,λj a=>?_⟩;have:=h j a;rw[wL (Nat.lt_trans a hk)] at this;simpa using this
 unfold Dn;rw[this]
theorem acI {g:aq->Bool} (h:∀i,i<ts.length->g (nth ts i)=false):Dn ts g= -1:=by grind [wL,Dn,List.findIdx?_eq_none_iff,List.getElem_of_mem]
theorem acJ (a:List aq) (g:aq->Bool):decide (0<=Dn a g)=a.any g:=by grind [Dn]
def er (h:aj) (n:Nat):aj:=
 if h=[99,111,110,115,116] then[100,110]
 else if h=[109,111,118]\/h=[111,112,101,110] then[100,115]
 else if h=[97,100,100]\/h=[115,117,98]\/h=[109,117,108] then[100,115,115]
 else if h=[110,101,119] then[100]++List.replicate (n-2) 115
 else if h=[103,101,116] then[100,115,109]
 else if h=[108,97,98] then[100,108]
 else if h=[112,97,99,107] then[100,115,69,87]
 else if h=[122,101,114,111] then[115,108]
 else if h=[106,117,109,112]\/h=[104,97,108,116] then[115]
 else[]
def iy (z:Int) (t:aq):Bool:=
 if z=100\/z=115 then qw t.au else if z=110 then(numeral t.au).isSome
 else if z=109 then(numeral t.au).isSome&&decide (0<=(numeral t.au).getD 0)
 else if z=108 then oG t.au else if z=69 then(decide (t.ag.length=2)&&decide (bz t=[101]))&&fR false t
 else if z=87 then fR false t else false
def mz (t:aq):Bool:=
 if er (bz t) t.ag.length=[]\/t.ag.length≠(er (bz t) t.ag.length).length+1 then false
 else decide (∀i,i<(er (bz t) t.ag.length).length->iy (((er (bz t) t.ag.length).getD i 0).toNat:Int) (nth t.ag (i+1))=true)
theorem Ku (h:er (bz t) t.ag.length=[]\/t.ag.length≠(er (bz t) t.ag.length).length+1):mz t=false:=by unfold mz;rw[iP h]
theorem acK (a:i<(er (bz t) t.ag.length).length) (h:iy (((er (bz t) t.ag.length).getD i 0).toNat:Int) (nth t.ag<|i+1)=false):mz t=false:=by grind [mz]
theorem acL (h:¬(er (bz t) t.ag.length=[]\/t.ag.length≠(er (bz t) t.ag.length).length+1)) 
  (a:∀i,i<(er (bz t) t.ag.length).length->iy (((er (bz t) t.ag.length).getD i 0).toNat:Int) (nth t.ag (i+1))=true):mz t=true:=by grind [mz]
theorem shift {P Q:Nat->Prop} (h:∀i,i<n->(P i↔Q (i+1))):(∀i,i<n->P i)↔(∀i,i<n+1->1<=i->Q i):=by
 constructor
 .intro b i a _;have:=(h (i-1) om).1<|b (i-1) om;rwa [show i-1+1=i from by omega] at this
 .intro c i a;exact(h i a).2 (c (i+1) om om)
theorem Bo (e a:aj) (ex:Nat->aq->Bool) (m:er (bz t) t.ag.length=e) (g:shapeOf (bz t)=a) (c:e.length=a.length) (l:a≠[]) (f:a≠[114,42]) 
  (n:∀i u,i<a.length->iy ((e.getD i 0).toNat:Int) u=(jL ((a.getD i 0).toNat:Int) u&&ex i u))
  (q:t.ag.length=a.length+1->(decide (bz t≠[103,101,116])||decide (0<=(numeral (nth t.ag 3).au).getD 0))=decide (∀i,i<a.length->ex i (nth t.ag (i+1))=true)):mz t=mw t:=by
 have r:1<=a.length:=List.length_pos_iff.2 l;have j:e≠[]:=λh=>by rw[h] at c;simp at c;omega
 by_cases d:t.ag.length=a.length+1
 .unfold mz mw tX;rw[m,g,iN (by rw[c];rintro(h|h);exact j h;exact h d),iN l,q d];rw[iN (by rw[dF (p:=t.ag.length≠a.length+1) om,dF (p:=t.ag.length<2) om];simp),<-Bool.decide_and,decide_eq_decide,c,d];rw[<-shift (P:=λi=>jL ((a.getD i 0).toNat:Int) (nth t.ag<|i+1)=true) λi b=>by
   unfold vq N3;rw[g,show min (i+1) a.length-1=i from by omega]]
  constructor
  .intro h;refine⟨λi b=>?_,λi b=>?_⟩<;>
   .have:=h i b;rw[n i _ b,aE] at this
    first|exact this.1|exact this.2
  .rintro⟨o,hb⟩ i b;rw[n i _ b,o i b,hb i b];rfl
 .rw[Ku<|.inr (by rw[m,c];exact d),N5];unfold tX;rw[g,dT f,dT d];rfl
theorem acN (n:Nat) (u:Nat->aq):decide (∀i,i<n->(fun(_:Nat) (_:aq)=>true) i (u i)=true)=true:=by grind
theorem acO (u:aq):((decide (u.ag.length=2)&&decide (bz u=[101]))&&fR false u)=(decide (bz u=[101])&&fR false u):=by grind [Dm,dz.length,HG,ew,NV]
theorem acP {P:Nat->Prop} (h:n<=4) (a:P 0) (b:2<=n->P 1) (c:3<=n->P 2) (d:4<=n->P 3):∀i,i<n->P i:=by grind
theorem Bp {b a:aj} {ex:Nat->aq->Bool} (g:a.length<=4) (c:∀u,iy ((b.getD 0 0).toNat:Int) u=(jL ((a.getD 0 0).toNat:Int) u&&ex 0 u)) (d:∀u,2<=a.length->iy ((b.getD 1 0).toNat:Int) u=(jL ((a.getD 1 0).toNat:Int) u&&ex 1 u)) 
  (e:∀u,3<=a.length->iy ((b.getD 2 0).toNat:Int) u=(jL ((a.getD 2 0).toNat:Int) u&&ex 2 u)) (f:∀u,4<=a.length->iy ((b.getD 3 0).toNat:Int) u=(jL ((a.getD 3 0).toNat:Int) u&&ex 3 u)):
  ∀i u,i<a.length->iy ((b.getD i 0).toNat:Int) u=(jL ((a.getD i 0).toNat:Int) u&&ex i u):=by grind
theorem N7 (u:aq):iy 100 u=qw u.au:=by simp[iy]
theorem Kv (u:aq):iy 115 u=qw u.au:=by simp[iy]
theorem acQ (u:aq):iy 110 u=(numeral u.au).isSome:=by simp[iy]
theorem N8 (u:aq):iy 109 u=((numeral u.au).isSome&&decide (0<=(numeral u.au).getD 0)):=by simp[iy]
theorem acR (u:aq):iy 108 u=oG u.au:=by simp[iy]
theorem N9 (u:aq):iy 69 u=((decide (u.ag.length=2)&&decide (bz u=[101]))&&fR false u):=by simp[iy]
theorem acS (u:aq):iy 87 u=fR false u:=by simp[iy]
theorem Oa (u:aq):jL 114 u=qw u.au:=by simp[jL]
theorem acT (u:aq):jL 42 u=qw u.au:=by simp[jL]
theorem T7 (u:aq):jL 110 u=(numeral u.au).isSome:=by simp[jL]
theorem acU (u:aq):jL 108 u=oG u.au:=by simp[jL]
theorem acV (u:aq):jL 101 u=(decide (bz u=[101])&&fR false u):=by simp[jL]
theorem acW (u:aq):jL 119 u=fR false u:=by simp[jL]
theorem Fs (u:aq):iy 100 u=(jL 114 u&&true):=by rw[N7,Oa,Bool.and_true]
theorem Dp (u:aq):iy 115 u=(jL 114 u&&true):=by rw[Kv,Oa,Bool.and_true]
theorem acX (u:aq):iy 110 u=(jL 110 u&&true):=by rw[acQ,T7,Bool.and_true]
theorem acY (u:aq):iy 109 u=(jL 110 u&&decide (0<=(numeral u.au).getD 0)):=by rw[N8,T7]
theorem T8 (u:aq):iy 108 u=(jL 108 u&&true):=by rw[acR,acU,Bool.and_true]
theorem acZ (u:aq):iy 69 u=(jL 101 u&&true):=by rw[N9,acV,Bool.and_true,acO]
theorem ac0 (u:aq):iy 87 u=(jL 119 u&&true):=by rw[acS,acW,Bool.and_true]
theorem ac1 (h:bz t=[110,101,119]):mz t=mw t:=by
 have a:er (bz t) t.ag.length=[100]++List.replicate (t.ag.length-2) 115:=by rw[h];rfl
 have d:shapeOf (bz t)=[114,42]:=by rw[h];rfl
 have c:(er (bz t) t.ag.length).length=t.ag.length-2+1:=by rw[a];simp
 by_cases g:2<=t.ag.length
 .unfold mz mw tX;rw[iN (by rw[c];rintro(b|b);(·rw[a] at b;simp at b);(·omega)),d,iN de,
   iN (by rw[dF (p:=t.ag.length<2) om];simp),dT (p:=bz t≠[103,101,116]) (by rw[h];decide),Bool.true_or,Bool.and_true,decide_eq_decide,c]
  rw[show(∀i,i<t.ag.length->1<=i->vq t i=true)↔(∀i,i<(t.ag.length-2+1)+1->1<=i->vq t i=true) from by rw[show t.ag.length-2+1+1=t.ag.length from by omega]];refine shift λi _=>?_;have e:iy (((er (bz t) t.ag.length).getD i 0).toNat:Int) (nth t.ag<|i+1)=qw (nth t.ag<|i+1).au:=by
   rw[a];cases i with
   |zero=>exact N7 _
   |succ i=>
    have:([100]++List.replicate (t.ag.length-2) (115:UInt8)).getD (i+1) 0=115:=by simp[List.getD,show i<t.ag.length-2 from by omega]
    rw[this];exact Kv _
  have f:vq t (i+1)=qw (nth t.ag<|i+1).au:=by
   unfold vq N3;rw[d];cases i with
   |zero=>exact Oa _
   |succ i=>rw[show min (i+1+1) ([114,42]:aj).length-1=1 from by simp];exact acT _
  rw[e,f]
 .rw[Ku<|.inr (by rw[c];omega),N5];unfold tX;rw[dT (p:=t.ag.length<2) om,Bool.or_true]
theorem T9 (t:aq):mz t=mw t:=by
 have a:∀{m:aj},bz t≠[103,101,116]->(t.ag.length=m.length+1->(decide (bz t≠[103,101,116])||decide (0<=(numeral (nth t.ag 3).au).getD 0))=decide (∀i,i<m.length->(fun(_:Nat) (_:aq)=>true) i (nth t.ag<|i+1)=true)):=by intro m h _;rw[acN _ λi=>nth t.ag<|i+1,dT h];rfl
 by_cases c1:bz t=[99,111,110,115,116]
 .exact Bo [100,110] [114,110] (λ_ _=>true) (by rw[c1];rfl) (by rw[c1];rfl) rfl de de
   (Bp de (λu=>Fs u) (λu _=>acX u) (λ_ h=>absurd h de) λ_ h=>absurd h de) (a (by rw[c1];decide))
 by_cases c2:bz t=[109,111,118]\/bz t=[111,112,101,110]
 .exact Bo [100,115] [114,114] (λ_ _=>true) (by rcases c2 with c|c<;>rw[c]<;>rfl) (by rcases c2 with c|c<;>rw[c]<;>rfl) rfl de de
   (Bp de (λu=>Fs u) (λu _=>Dp u) (λ_ h=>absurd h de) λ_ h=>absurd h de) (a (by rcases c2 with c|c<;>rw[c]<;>decide))
 by_cases b:bz t=[97,100,100]\/bz t=[115,117,98]\/bz t=[109,117,108]
 .exact Bo [100,115,115] [114,114,114] (λ_ _=>true) (by rcases b with c|c|c<;>rw[c]<;>rfl) (by rcases b with c|c|c<;>rw[c]<;>rfl) rfl de de
   (Bp de (λu=>Fs u) (λu _=>Dp u) (λu _=>Dp u) λ_ h=>absurd h de) (a (by rcases b with c|c|c<;>rw[c]<;>decide))
 by_cases l:bz t=[110,101,119]
 .exact ac1 l
 by_cases d:bz t=[103,101,116]
 .refine Bo [100,115,109] [114,114,110] (λi u=>if i=2 then decide (0<=(numeral u.au).getD 0) else true) (by rw[d];rfl) (by rw[d];rfl) rfl de de
   (Bp de (λu=>Fs u) (λu _=>Dp u) (λu _=>acY u) λ_ h=>absurd h de) λ_=>?_
  rw[show decide (bz t≠[103,101,116])=false from dF λh=>h d,Bool.false_or];refine decide_eq_decide.2 ⟨λh=>acP de rfl (λ_=>rfl) (λ_=>by simpa using h) λh=>by simp at h,λh=>by simpa using h 2 de⟩
 by_cases e:bz t=[108,97,98]
 .exact Bo [100,108] [114,108] (λ_ _=>true) (by rw[e];rfl) (by rw[e];rfl) rfl de de
   (Bp de (λu=>Fs u) (λu _=>T8 u) (λ_ h=>absurd h de) λ_ h=>absurd h de) (a (by rw[e];decide))
 by_cases f:bz t=[112,97,99,107]
 .exact Bo [100,115,69,87] [114,114,101,119] (λ_ _=>true) (by rw[f];rfl) (by rw[f];rfl) rfl de de
   (Bp de (λu=>Fs u) (λu _=>Dp u) (λu _=>acZ u) λu _=>ac0 u) (a (by rw[f];decide))
 by_cases g:bz t=[122,101,114,111]
 .exact Bo [115,108] [114,108] (λ_ _=>true) (by rw[g];rfl) (by rw[g];rfl) rfl de de
   (Bp de (λu=>Dp u) (λu _=>T8 u) (λ_ h=>absurd h de) λ_ h=>absurd h de) (a (by rw[g];decide))
 by_cases j:bz t=[106,117,109,112]\/bz t=[104,97,108,116]
 .exact Bo [115] [114] (λ_ _=>true) (by rcases j with c|c<;>rw[c]<;>rfl) (by rcases j with c|c<;>rw[c]<;>rfl) rfl de de
   (Bp de (λu=>Dp u) (λ_ h=>absurd h de) (λ_ h=>absurd h de) λ_ h=>absurd h de) (a (by rcases j with c|c<;>rw[c]<;>decide))
 .have n:er (bz t) t.ag.length=[]:=by unfold er;rw[iN c1,iN c2,iN b,iN l,iN d,iN e,iN f,iN g,iN j]
  have o:shapeOf (bz t)=[]:=by unfold shapeOf;rw[iN c1,iN c2,iN b,iN l,iN d,iN (λh=>by rcases h with h|h;exact e h;exact g h),iN f,iN j]
  rw[Ku<|.inl n,TV o]
theorem ac2 (h:aj) (n:Nat):(er h n).length<=n+4:=by grind [er]
theorem Ua (h:WF t):2<=t.size:=by
 cases h with
 |au a b=>have:=List.length_pos_iff.2 b;simp only[aq.size];omega
 |list ps c _=>
  cases ps with
  |nil=>exact absurd rfl c
  |cons q r=>cases q;simp only[aq.size,aq.size.sizes];omega
theorem Ub:∀{ps:List aq},(∀p∈ps,WF p)->2*ps.length<=aq.size.sizes ps
 |[],_=>by simp[aq.size.sizes]
 |q::ps,h=>by have b:=Ua<|h q sm;have c:=Ub (ps:=ps) λp a=>h p (by simp[a]);simp only[aq.size.sizes,lC];omega
theorem Uc (h:WF t):2*t.ag.length+1<=t.size:=by cases h<;>grind [aq.ag,aq.size,Ub]
def HI (t:aq):Bool:=decide (bz t=[106,117,109,112])||decide (bz t=[104,97,108,116])
theorem Ud (h:mw t=true):bz t=(nth t.ag 0).au:=by grind [mw,bz,nth,aq.ag,N4]
theorem ac3 (h:mw t=true):Ks t=HI t:=by unfold Ks HI;rw[h,Ud h];rfl
inductive Good:aq->Prop
 |au (a:aj) (h:a≠[]) (hb:a.all fj=true):Good (.mk a [])
 |list (ps:List aq) (h:ps≠[]) (hp:∀p∈ps,Good p):Good (.mk [] ps)
theorem Good.wf (h:Good t):WF t:=by
 induction h with
 |au a h _=>exact .au a h
 |list ps h _ b=>exact .list ps h b
theorem Good.part (h:Good t) (b:t.ag[i]?=some p):Good p:=by
 cases h with
 |au a _ _=>simp[aq.ag] at b
 |list ps _ c=>exact c p<|List.mem_of_getElem? b
theorem Good.nth (h:Good t) (a:i<t.ag.length):Good (nth t.ag i):=h.part<|ew a
def aq.depth:aq->Nat
 | .mk _ ps=>deeps ps
 where deeps:List aq->Nat
 |[]=>0
 |t::ts=>max (t.depth+1)<|deeps ts
theorem Ue:∀{p:aq},p∈ps->p.depth+1<=aq.depth.deeps ps:=by
 induction ps with
 |nil=>intro p h;simp at h
 |cons q ps a=>
  intro p h;rcases mC.1 h with rfl|h
  .simp only[aq.depth.deeps];omega
  .have:=a h;simp only[aq.depth.deeps];omega
theorem Kw:∀{ps:List aq},(∀p∈ps,p.depth+1<=d)->aq.depth.deeps ps<=d
 |[],_=>by simp[aq.depth.deeps]
 |q::ps,h=>by have b:=h q sm;have c:=Kw (ps:=ps) λp a=>h p (by simp[a]);simp only[aq.depth.deeps];omega
theorem r7 {a:aj} (h:a≠[]):(aq.mk a ps).text=a:=by simp[aq.text,h]
theorem sS (a:List aq):(aq.mk [] a).text=40::(lO a++[41]):=by simp[aq.text]
theorem rk (t:aq):lO [t]=t.text:=by simp[lO]
theorem rl (t u:aq) (r:List aq):lO (t::u::r)=t.text++32::lO (u::r):=by simp[lO]
theorem Uf {rd:aj->Option (aq×aj)} (i:∀s t r,rd s=some (t,r)->s=t.text++r):∀n s ts r,ji rd n s=some (ts,r)->ts≠[]/\s=lO ts++41::r
 |0,_,_,_,h=>by simp[ji] at h
 |n+1,s,ts,r,h=>by
  unfold ji at h;cases f:rd s with
  |none=>simp[f] at h
  |some q=>
   obtain⟨t,m⟩:=q;have j:=i s t m f;simp only[f] at h;cases m with
   |nil=>simp at h
   |cons c l=>
    simp only at h;by_cases b:c=41
    .rw[iP b] at h;simp at h;obtain⟨rfl,rfl⟩:=h;exact⟨by simp,by rw[j,b,rk]⟩
    .rw[iN b] at h;by_cases d:c=32
     .rw[iP d] at h;cases e:ji rd n l with
      |none=>simp[e] at h
      |some q=>
       obtain⟨a,g⟩:=q;simp[e] at h;obtain⟨rfl,rfl⟩:=h;obtain⟨o,p⟩:=Uf i n l a g e;cases a with
       |nil=>exact absurd rfl o
       |cons u _=>exact⟨by simp,by rw[j,d,rl,p];simp⟩
     .rw[iN d] at h;cases h
theorem ac4:∀d s t r,eW d s=some (t,r)->s=t.text++r:=by
 have leaf:∀(s:aj) (t:aq) (r:aj),(if s.takeWhile fj=[] then none else some (aq.mk (s.takeWhile fj) [],s.dropWhile fj))=some (t,r)->s=t.text++r:=by
  intro s t r h;split at h
  .cases h
  .rename_i f;simp only[Option.some.injEq,Prod.mk.injEq] at h;rw[<-h.1,<-h.2,r7 f,List.takeWhile_append_dropWhile]
 intro d;induction d with
 |zero=>
  intro s t r h;cases s with
  |nil=>simp[eW] at h
  |cons c s=>
   simp only[eW] at h;by_cases a:c=40
   .rw[iP a] at h;cases h
   .rw[iN a] at h;exact leaf _ _ _ h
 |succ d g=>
  intro s t r h;cases s with
  |nil=>simp[eW] at h
  |cons c s=>
   simp only[eW] at h;by_cases a:c=40
   .rw[iP a] at h;cases b:ji (eW d) (s.length+1) s with
    |none=>simp[b] at h
    |some q=>obtain⟨_,_⟩:=q;simp[b] at h;obtain⟨_,e⟩:=Uf g _ _ _ _ b;rw[<-h.1,<-h.2,sS,a,e];simp
   .rw[iN a] at h;exact leaf _ _ _ h
theorem Ug {rd:aj->Option (aq×aj)} (d:Nat) (g:∀s t r,rd s=some (t,r)->Good t/\t.depth<=d):∀n s ts r,ji rd n s=some (ts,r)->ts≠[]/\∀p∈ts,Good p/\p.depth<=d
 |0,_,_,_,h=>by simp[ji] at h
 |n+1,s,ts,r,h=>by
  unfold ji at h;cases b:rd s with
  |none=>simp[b] at h
  |some q=>
   obtain⟨t,o⟩:=q;have l:=g s t o b;simp only[b] at h;cases o with
   |nil=>simp at h
   |cons c m=>
    simp only at h;by_cases i:c=41
    .rw[iP i] at h;simp at h;obtain⟨rfl,_⟩:=h;exact⟨by simp,by intro p a;simp at a;subst a;exact l⟩
    .rw[iN i] at h;by_cases j:c=32
     .rw[iP j] at h;cases a:ji rd n m with
      |none=>simp[a] at h
      |some q=>obtain⟨f,e⟩:=q;simp[a] at h;obtain⟨rfl,_⟩:=h;obtain⟨_,u⟩:=Ug d g n m f e a;exact⟨by simp,by intro p a;rcases mC.1 a with rfl|a;exact l;exact u p a⟩
     .rw[iN j] at h;cases h
theorem all_takeWhile (p:UInt8->Bool):∀s:aj,(s.takeWhile p).all p=true:=by simp_all
theorem ac5:∀d s t r,eW d s=some (t,r)->Good t/\t.depth<=d:=by
 have leaf:∀(d:Nat) (s:aj) (t:aq) (r:aj),(if s.takeWhile fj=[] then none else some (aq.mk (s.takeWhile fj) [],s.dropWhile fj))=some (t,r)->Good t/\t.depth<=d:=by
  intro d s t r h;split at h
  .cases h
  .rename_i g;simp only[Option.some.injEq,Prod.mk.injEq] at h;rw[<-h.1];exact⟨.au _ g<|all_takeWhile _ _,by simp[aq.depth,aq.depth.deeps]⟩
 intro d;induction d with
 |zero=>
  intro s t r h;cases s with
  |nil=>simp[eW] at h
  |cons c s=>
   simp only[eW] at h;by_cases b:c=40
   .rw[iP b] at h;cases h
   .rw[iN b] at h;exact leaf _ _ _ _ h
 |succ d i=>
  intro s t r h;cases s with
  |nil=>simp[eW] at h
  |cons c s=>
   simp only[eW] at h;by_cases b:c=40
   .rw[iP b] at h;cases a:ji (eW d) (s.length+1) s with
    |none=>simp[a] at h
    |some q=>obtain⟨_,_⟩:=q;simp[a] at h;obtain⟨f,e⟩:=Ug d i _ _ _ _ a;rw[<-h.1];exact⟨.list _ f λp a=>(e p a).1,Kw λp a=>by have:=(e p a).2;omega⟩
   .rw[iN b] at h;exact leaf _ _ _ _ h
def Stop (r:aj):Prop:=∀c,r[0]?=some c->fj c=false
theorem Ob {p:UInt8->Bool}:∀{a r:aj},a.all p=true->(∀c,r[0]?=some c->p c=false)->(a++r).takeWhile p=a/\(a++r).dropWhile p=r
 |[],[],_,_=>⟨rfl,rfl⟩
 |[],c::r,_,h=>by have:=h c rfl;simp[this]
 |c::a,r,ha,h=>by simp only[List.all_cons,aE] at ha;obtain⟨b,d⟩:=Ob (a:=a) ha.2 h;simp[ha.1,b,d]
theorem Uh (h:Good t):∃c r,t.text=c::r:=by
 cases h with
 |au a b _=>
  rw[r7 b];cases a with
  |nil=>exact absurd rfl b
  |cons c r=>exact⟨c,r,rfl⟩
 |list ps _ _=>exact⟨_,_,sS ps⟩
theorem Ui {rd:aj->Option (aq×aj)}:∀(ts:List aq) (n:Nat) (r:aj),ts≠[]->ts.length<=n->(∀t∈ts,∀r,Stop r->rd (t.text++r)=some (t,r))->ji rd n (lO ts++41::r)=some (ts,r)
 |[],_,_,h,_,_=>absurd rfl h
 |[t],n,r,_,b,h=>by
  cases n with
  |zero=>simp at b
  |succ n=>unfold ji;rw[rk,h t sm (41::r) (by intro c a;simp at a;subst a;decide)];simp
 |t::u::us,n,r,_,b,h=>by
  cases n with
  |zero=>simp at b
  |succ n=>unfold ji;rw[rl,List.append_assoc,List.cons_append,h t sm (32::(lO (u::us)++41::r)) (by intro c a;simp at a;subst a;decide)];have:=Ui (rd:=rd) (u::us) n r sm (by simp at b⊢;omega) λt d=>h t (by simp at d⊢;exact .inr d);simp[this]
theorem Uj:∀ts:List aq,(∀t∈ts,Good t)->ts.length<=(lO ts).length
 |[],_=>by simp
 |[t],h=>by obtain⟨c,r,e⟩:=Uh<|h t sm;rw[rk,e];simp
 |t::u::us,h=>by have:=Uj (u::us) λt a=>h t (by simp at a⊢;exact .inr a);rw[rl];simp at this⊢;omega
theorem Oc:∀(d:Nat) (t:aq) (r:aj),Good t->t.depth<=d->Stop r->eW d (t.text++r)=some (t,r):=by
 intro d;induction d with
 |zero=>
  intro t r l j i;cases l with
  |au a g hb=>
   obtain⟨c,b,rfl⟩:∃c b,a=c::b:=by cases a with|nil=>exact absurd rfl g|cons c r=>exact⟨c,r,rfl⟩
   rw[r7 g,List.cons_append,Hz 0 c _ (by rintro rfl;simp at hb;exact absurd hb.1 de)];obtain⟨e,f⟩:=Ob hb i;rw[List.cons_append] at e f;rw[e,f,iN sm]
  |list ps m n=>
   cases ps with
   |nil=>exact absurd rfl m
   |cons q ps=>simp[aq.depth,aq.depth.deeps] at j
 |succ d p=>
  intro t r l j i;cases l with
  |au a g hb=>
   obtain⟨c,b,rfl⟩:∃c b,a=c::b:=by cases a with|nil=>exact absurd rfl g|cons c r=>exact⟨c,r,rfl⟩
   rw[r7 g,List.cons_append,Hz (d+1) c _ (by rintro rfl;simp at hb;exact absurd hb.1 de)];obtain⟨e,f⟩:=Ob hb i;rw[List.cons_append] at e f;rw[e,f,iN sm]
  |list ps m n=>
   rw[sS,List.cons_append,Fm];have:=Ui (rd:=eW d) ps ((lO ps++[41]++r).length+1) r m (by have:=Uj ps n;simp at this⊢;omega)
    λt o r i=>p t r (n t o) (by have:=Ue o;simp only[aq.depth] at j;omega) i
   unfold nW;rw[show rT (d+1)=eW d from funext λ_=>rfl];rw[show lO ps++[41]++r=lO ps++41::r from by simp] at this⊢;rw[this];rfl
theorem Kx {u:aq} (h:Good t) (k:Good u) (e:t.text=u.text):t=u:=by have a:=Oc (max t.depth u.depth) t [] h om (by intro c b;simp at b);have d:=Oc (max t.depth u.depth) u [] k om (by intro c b;simp at b);rw[e,d] at a;simp at a;exact a.symm
theorem xW (h:bS s=some t):Good t/\t.depth<=60/\t.text=s/\s.length<=12000:=by
 have e:=NT h;unfold bS at h;split at h
 .cases h
 .cases a:eW 60 s with
  |none=>rw[a] at h;cases h
  |some q=>
   obtain⟨_,r⟩:=q;rw[a] at h;cases r with
   |nil=>simp at h;subst h;have b:=ac5 _ _ _ _ a;have d:=ac4 _ _ _ _ a;exact⟨b.1,b.2,by rw[d];simp,e⟩
   |cons c r=>cases h
theorem ac6 (h:Good t):bS t.text=if t.depth<=60/\t.text.length<=12000 then some t else none:=by
 split
 .rename_i a;unfold bS;have:=Oc 60 t [] h a.1 (by intro c a;simp at a);rw[List.append_nil] at this;rw[iN om,this]
 .rename_i a;cases g:bS t.text with
  |none=>rfl
  |some u=>obtain⟨b,d,e,f⟩:=xW g;have:=Kx b h e;subst this;exact absurd ⟨d,f⟩ a
theorem Od (h:Good t) (a:t.depth<=60) (b:t.text.length<=12000):bS t.text=some t:=by grind [ac6]
theorem ac7:∀{p:aq},p∈ps->p.text.length<=(lO ps).length:=by
 induction ps with
 |nil=>intro p h;simp at h
 |cons q ps a=>
  intro p h;cases ps with
  |nil=>simp at h;subst h;rw[rk];exact lR _
  |cons u _=>
   rw[rl];rcases mC.1 h with rfl|h
   .simp
   .have:=a h;simp at this⊢;omega
theorem Good.sub (h:Good t) (b:t.ag[i]?=some p):Good p/\p.depth+1<=t.depth/\p.text.length+2<=t.text.length:=by
 refine⟨h.part b,?_,?_⟩
 .cases t with
  |mk a ps=>exact Ue<|List.mem_of_getElem? b
 .cases h with
  |au a _ _=>simp[aq.ag] at b
  |list ps _ _=>have:=ac7<|List.mem_of_getElem? b;rw[sS];simp;exact this
def aq.len:aq->Nat
 | .mk a ps=>if ps=[] then a.length else 1+lens ps
 where lens:List aq->Nat
 |[]=>0
 |t::ts=>t.len+1+lens ts
theorem Uk:∀ps:List aq,ps≠[]->(∀p∈ps,p.len=p.text.length)->aq.len.lens ps=(lO ps).length+1
 |[],h,_=>absurd rfl h
 |[t],_,h=>by rw[rk];simp only[aq.len.lens,h t sm]
 |t::u::us,_,h=>by have:=Uk (u::us) sm λp a=>h p (by simp at a⊢;exact .inr a);rw[rl];simp only[aq.len.lens,h t sm,lA,lC] at this⊢;omega
theorem Dq (h:WF t):t.len=t.text.length:=by
 induction h with
 |au a c=>rw[r7 c];simp[aq.len]
 |list ps b _ d=>rw[sS];simp only[aq.len,b,if_false,Uk ps b d,lC,lA,List.length_nil];omega
structure cW where
 aO:aj
 regs:List aq
 code:List aq
def tr (s:aj):aq:=(bS s).getD<|.mk [] []
theorem Oe (h:bS s=some t):tr s=t:=by unfold tr;rw[h];rfl
def dM (b:Bk):cW:=⟨b.aO,b.cM.map tr,b.code.map tr⟩
def Bq (b:Bk):Bool:=decide<|b.aO.length<=12000
def pe (b:Bk):Bool:=my b&&Bq b
def l7 (bs:List Bk):Bool:=ia bs&&bs.all Bq
def bJ (a:aj):aq:=.mk a []
def l8 (h:aj) (a:List aq):aq:=.mk [] (bJ h::a)
def rm (a:List aj):aj:=a.flatMap λp=>32::p
def eH (h:aj) (a:List aj):aj:=40::(h++rm a++[41])
theorem Ul (t:aq):∀ts:List aq,lO (t::ts)=t.text++rm (ts.map aq.text)
 |[]=>by rw[rk];simp[rm]
 |u::us=>by rw[rl,Ul u us];simp[rm]
theorem Um (b:h≠[]) (a:List aq):(l8 h a).text=eH h (a.map aq.text):=by unfold l8 eH;rw[sS,Ul];simp[bJ,r7 b]
theorem Ky (b:h≠[]) (c:h.all fj=true) (d:∀t∈ts,Good t):Good (l8 h ts):=by
 refine .list _ sm λp a=>?_;rcases mC.1 a with rfl|a
 .exact .au _ b c
 .exact d p a
theorem Of (h:my b=true):oG b.aO=true/\(∀s∈b.cM,∃t,bS s=some t/\fR false t=true)/\∀s∈b.code,∃t,bS s=some t/\mw t=true:=by
 unfold my at h;simp only[aE,dE] at h;obtain⟨⟨⟨⟨e,_⟩,_⟩,f⟩,g⟩:=h;refine⟨e,λs d=>?_,λs d=>?_⟩
 .obtain⟨i,a,rfl⟩:=List.getElem_of_mem d;have:=f i a;rw[bP,gG,gE a] at this;simp only[Option.getD_some] at this;unfold tY seen at this;cases c:bS b.cM[i] with
  |none=>rw[c] at this;cases this
  |some t=>rw[c] at this;exact⟨t,rfl,this⟩
 .obtain⟨i,a,rfl⟩:=List.getElem_of_mem d;have:=g i a;unfold sR at this;rw[aE] at this;have:=this.1;rw[bP,gG,gE a] at this;simp only[Option.getD_some] at this;unfold tZ seen at this;cases c:bS b.code[i] with
  |none=>rw[c] at this;cases this
  |some t=>rw[c] at this;exact⟨t,rfl,this⟩
theorem HJ (h:ia bs=true):∀b∈bs,my b=true:=by grind [ia,List.getElem_of_mem,gE]
def sU (t:aq):Bool:=decide (t.depth<=60)&&decide (t.len<=12000)
def zz:List aq->aj
 |[]=>[]
 |h::_=>h.au
mutual
def dS (y:aq):aq->aq
 | .mk a ps=>if a=[118] then y else if a≠[]\/zz ps=[101] then .mk a ps else .mk [] (zB y ps)
def zB (y:aq):List aq->List aq
 |[]=>[]
 |t::ts=>dS y t::zB y ts
end
theorem Kz (y:aq):∀ps,zB y ps=ps.map (dS y)
 |[]=>by simp[zB]
 |t::ts=>by simp[zB,Kz y ts]
theorem Og (a:List aq):bz (.mk [] a)=zz a:=by cases a<;>simp[bz,zz,aq.au,aq.ag]
theorem Oh (f:Good y) (h:Good t):Good (dS y t):=by
 induction h with
 |au a b hb=>
  unfold dS;split
  .exact f
  .rw[iP (.inl b)];exact .au a b hb
 |list ps c e g=>
  unfold dS;rw[iN de];split
  .exact .list ps c e
  .rw[Kz];refine .list _ (by simpa using c) λp i=>?_;obtain⟨q,d,rfl⟩:=List.mem_map.1 i;exact g q d
/-! ### States -/
abbrev TS:=List<|Option aq
def iT:aq:=bJ [105]
def gO (a:aj):Nat:=(tW a).toNat
def eQ (b:TS) (a:aj):Option aq:=b.getD (gO a) none
def wO (x y:aq):Bool:=decide<|x.text=y.text
def sV (o:Option aq) (y:aq):Bool:=match o with
 |some x=>wO x y
 |none=>false
def meets (b:TS) (a:List aq):Bool:=decide (∀i,i<a.length->sV (b.getD i none) (nth a i)=true)
def bT (p:List cW) (l:aj):Option (List aq):=(p.find? λb=>decide<|b.aO=l).map cW.regs
def wP (a:aj):Int:=(numeral a).getD 0
def aS (n:Nat):aj:=if n<10 then[UInt8.ofNat (48+n)] else aS (n/10)++[UInt8.ofNat (48+n%10)]
 termination_by n
def nC (p:List cW) (b:TS) (opens:Nat) (t:aq):Option aq:=
 let h:=bz t;let a (i:Nat):=(nth t.ag i).au
 if h=[99,111,110,115,116] then some iT
 else if h=[109,111,118] then eQ b (a 2)
 else if h=[97,100,100]\/h=[115,117,98]\/h=[109,117,108] then(if sV (eQ b<|a 2) iT&&sV (eQ b<|a 3) iT then some iT else none)
 else if h=[103,101,116] then(eQ b<|a 2).bind λk=>if bz k=[116]/\wP (a 3)+1<k.ag.length then some (nth k.ag (wP (a 3)+1).toNat) else none
 else if h=[108,97,98] then(bT p<|a 2).map (l8 [99])
 else if h=[112,97,99,107] then(eQ b<|a 2).bind λx=>if wO x (dS (nth t.ag 4)<|nth (nth t.ag 3).ag 1) then some (nth t.ag 3) else none
 else if h=[111,112,101,110] then(eQ b<|a 2).bind λk=>if bz k=[101] then some (dS (bJ (97::aS opens))<|nth k.ag 1) else none
 else none
def eR (a:TS) (d:Nat) (o:Option aq):Option TS:=o.bind λt=>if sU t then some (a.set d<|some t) else none
def nA (a:TS):List aq->Option (List aq)
 |[]=>some []
 |u::us=>(eQ a u.au).bind λx=>(nA a us).map λxs=>x::xs
def stepT (p:List cW) (a:TS) (opens:Nat) (t:aq):Option TS:=
 let h:=bz t;let b:=(nth t.ag 1).au
 if h=[104,97,108,116] then(eQ a b).map λ_=>a
 else if h=[106,117,109,112] then(eQ a b).bind λk=>if bz k=[99]/\meets a (k.ag.drop 1)=true then some a else none
 else if h=[122,101,114,111] then(bT p (nth t.ag 2).au).bind λc=>if sV (eQ a b) iT&&meets a c then some a else none
 else if h=[110,101,119] then eR a (gO b) ((nA a<|t.ag.drop 2).map<|l8 [116])
 else eR a (gO b) (nC p a opens t)
def sW (opens:Nat) (t:aq):Nat:=if bz t=[111,112,101,110] then opens+1 else opens
def wQ (p:List cW) (b:TS) (opens:Nat):List aq->TS×Nat
 |[]=>(b,0)
 |t::ts=>match stepT p b opens t with
  |none=>(b,0)
  |some a=>((wQ p a (sW opens t) ts).1,(wQ p a (sW opens t) ts).2+1)
def Br (b:cW):TS:=(List.range 40).map λi=>if i<b.regs.length then some (nth b.regs i) else none
def Dr (p:List cW) (b:cW):Nat:=(wQ p (Br b) 0 b.code).2
def vu (p:List cW) (b:cW):Bool:=decide<|Dr p b=b.code.length
theorem ac8 (h:Lib.hasPrefix s [40]=true):∃r,s=40::r:=by
 cases s with
 |nil=>simp[Lib.hasPrefix,List.isPrefixOf] at h
 |cons c r=>simp[Lib.hasPrefix,List.isPrefixOf] at h;exact⟨r,by rw[h]⟩
theorem ac9 (h:Lib.hasPrefix s [40]=false):∀c r,s=c::r->c≠40:=by rintro c r rfl rfl;simp[Lib.hasPrefix,List.isPrefixOf] at h
theorem ada (h:Lib.hasPrefix s [40]=false) (d:Nat):eW d s=if s.takeWhile fj=[] then none else some (.mk (s.takeWhile fj) [],s.dropWhile fj):=by
 cases s with
 |nil=>rw[S9];simp
 |cons c r=>rw[Hz d c r (ac9 h c r rfl)]
theorem adb (h:eW d s=none):nW (d+1) s=none:=by rw[Hy];show(match eW d s with|none=>none|some (t,r)=>_)=none;rw[h]
theorem ade (h:eW d s=some (t,[])):nW (d+1) s=none:=by rw[Hy];show(match eW d s with|none=>none|some (t,r)=>_)=none;rw[h]
theorem Un (h:eW d s=some (t,c::r)):nW (d+1) s=if c=41 then some ([t],r) else if c=32 then(nW (d+1) r).map λp=>(t::p.1,p.2) else none:=by rw[Hy];show(match eW d s with|none=>none|some (t,r)=>_)=_;rw[h]
theorem Oi:(s.drop k).take (s.length-k)=s.drop k:=List.take_of_length_le sm
theorem KB (hk:k<256):decide ((c.toNat:Int)≠(k:Int))=decide (c≠UInt8.ofNat k):=decide_eq_decide.2 (by
 have e:(UInt8.ofNat k).toNat=k:=by simp;omega
 constructor
 .intro h a;rw[a,e] at h;exact h rfl
 .intro h a;exact h (UInt8.toNat_inj.1 (by rw[e];omega)))
def Bt (d:Nat) (s:aj) (t:aq) (r:aj) (ok:Bool):Prop:=(eW d s=some (t,r)/\ok=true)\/(eW d s=none/\ok=false)
theorem Bt.le {ok:Bool} (h:Bt d s t r ok) (a:ok=true):eW d s=some (t,r)/\r.length<s.length:=by
 rcases h with⟨h,_⟩|⟨_,h⟩
 .obtain⟨k,_,_,rfl⟩:=Kg d s t r h;exact⟨h,by simp;omega⟩
 .rw[a] at h;cases h
theorem adf {ok:Bool} (e:Bt d s t r ok) (h:((!ok||decide (r=[]))||(decide (((r.getD 0 0).toNat:Int)≠32)&&decide (((r.getD 0 0).toNat:Int)≠41)))=true):nW (d+1) s=none:=by
 rcases e with⟨hr,rfl⟩|⟨hr,rfl⟩
 .cases r with
  |nil=>exact ade hr
  |cons c r=>rw[Un hr];simp only[Bool.not_true,Bool.false_or,List.getD_cons_zero,show decide (c::r=[])=false from by simp] at h;rw[show(32:Int)=((32:Nat):Int) from rfl,show(41:Int)=((41:Nat):Int) from rfl,KB de,KB de,aE] at h;have a:¬c=32:=of_decide_eq_true h.1;have b:¬c=41:=of_decide_eq_true h.2;rw[iN b,iN a]
 .exact adb hr
theorem adg {ok:Bool} (i:Bt d s t r ok) (h:((!ok||decide (r=[]))||(decide (((r.getD 0 0).toNat:Int)≠32)&&decide (((r.getD 0 0).toNat:Int)≠41)))=false):
  0<r.length/\r.length<s.length/\nW (d+1) s=if r.getD 0 0=41 then some ([t],r.drop 1) else(nW (d+1)<|r.drop 1).map λp=>(t::p.1,p.2):=by
 simp only[Bool.or_eq_false_iff,Bool.not_eq_false',decide_eq_false_iff_not] at h;obtain⟨⟨e,f⟩,a⟩:=h;obtain⟨j,g⟩:=i.le e;cases r with
 |nil=>exact absurd rfl f
 |cons c r=>
  refine⟨by simp,g,?_⟩;rw[Un j];simp only[List.getD_cons_zero,List.drop_one,List.tail_cons] at a⊢;by_cases b:c=41
  .rw[iP b,iP b]
  .rw[iN b,iN b];rw[show(32:Int)=((32:Nat):Int) from rfl,show(41:Int)=((41:Nat):Int) from rfl,KB de,KB de,Bool.and_eq_false_iff] at a;rcases a with a|a
   .rw[iP (by simpa using a)]
   .exact absurd (by simpa using a) b
theorem adh {ok:Bool} (b:s.length<=12000) (c:Bt 60 s t r ok):(ok&&decide (r=[]))=(bS s).isSome/\∀a,bS s=some a->t=a:=by grind [Bt,bS]
theorem adi (a:n1=b.cM.length) (c:n2=b.code.length) 
  (h:(((!oG b.aO||decide ((12000:Int)<(b.aO.length:Int)))||decide ((40:Int)<(n1:Int)))||!(decide ((1:Int)<=(n2:Int))&&decide ((n2:Int)<=80)))=true):pe b=false:=by grind [pe,Bq,dz.length,TX,Kt,TT]
theorem adj (a:n1=b.cM.length) (c:n2=b.code.length) 
  (h:(((!oG b.aO||decide ((12000:Int)<(b.aO.length:Int)))||decide ((40:Int)<(n1:Int)))||!(decide ((1:Int)<=(n2:Int))&&decide ((n2:Int)<=80)))=false):
  (oG b.aO&&decide (b.cM.length<=40)&&(decide (1<=b.code.length)&&decide (b.code.length<=80)))=true/\Bq b=true:=by grind [Bq,dz.length,Kt,TR]
theorem adk (a:i<b.cM.length) (h:tY (bP b.cM i)=false):pe b=false:=by unfold pe;rw[TZ a h];rfl
theorem adl (a:i<b.code.length) (h:sR b.code i=false):pe b=false:=by unfold pe;rw[T0 a h];rfl
theorem adm (h:tY s=true) (b:∀a,bS s=some a->t=a):t=tr s:=by grind [bS,tr,seen]
theorem Uo {code:List aj} (c:n=code.length) (b:i<n) (d:∀a,bS (bP code i)=some a->t=a):
  ((!(bS<|bP code i).isSome||!mz t)||(HI t !=decide ((i:Int)=(n:Int)-1)))=!sR code i:=by grind [N6,T9,seen,bS,mw,ac3]
theorem adn {code:List aj} (h:sR code i=true) (b:∀a,bS (bP code i)=some a->t=a):t=tr (bP code i):=by grind [sR,bS,tr,seen]
theorem KC {b c:Type} (f:b->c) {a:List b} {x:b} (h:a[i]?=some x):(a.take i).map f++[f x]=(a.take<|i+1).map f:=by grind [List.getElem?_eq_some_iff,List.take_succ_eq_append_getElem]
theorem KD {b c:Type} (f:b->c) {a:List b} (h:a.length<=i):(a.take i).map f=a.map f:=by rw[List.take_of_length_le h]
theorem HL {b c:Type} (f:b->c) {a:List b} (h:i<=a.length):((a.take i).map f).length=i:=by simp;omega
theorem Ft (b:∀a,bS s=some a->t=a) (h:(bS s).isSome=true):WF t/\t.size<=12001:=by grind [bS,aq.size,vm,Bi]
def lP (a:List cW) (l:aj):Int:=match a.findIdx? (λb=>decide<|b.aO=l) with
 |some i=>(i:Int)
 |none=> -1
abbrev eS (a:List cW) (i:Nat):cW:=a.getD i ⟨[],[],[]⟩
theorem zC {ps:List cW} (h:i<ps.length):ps[i]?=some (eS ps i):=by grind
def HM (a:List cW) (g:cW->Bool):Int:=match a.findIdx? g with
 |some i=>(i:Int)
 |none=> -1
theorem KE {a:List cW} (h:i<a.length):eS a i=a[i]:=by grind
theorem ado {a:List cW} {g:cW->Bool} (hk:k<a.length) (h:∀i,i<k->g (eS a i)=false) (c:g (eS a k)=true):HM a g=(k:Int):=by
 have:a.findIdx? g=some k:=by rw[List.findIdx?_eq_some_iff_getElem];refine⟨hk,by rw[<-KE hk];exact c,λj b=>?_⟩;have:=h j b;rw[KE (Nat.lt_trans b hk)] at this;simpa using this
 unfold HM;rw[this]
theorem adp {a:List cW} {g:cW->Bool} (h:∀i,i<a.length->g (eS a i)=false):HM a g= -1:=by grind [KE,HM,List.findIdx?_eq_none_iff,List.getElem_of_mem]
theorem adq (h:i<bs.length):cA bs i=bs[i]:=by grind
theorem Up (hk:k<bs.length):decide ((0:Int)<=lP ((bs.take k).map dM) (cA bs k).aO)=decide (mx bs (cA bs k).aO≠(k:Int)):=by
 refine decide_eq_decide.2 ?_;by_cases a:∃j,j<k/\(cA bs j).aO=(cA bs k).aO
 .obtain⟨j,e,d⟩:=a;have f:mx bs (cA bs k).aO≠k:=by
   intro h;unfold mx at h;cases c:bs.findIdx? (λb=>decide<|b.aO=(cA bs k).aO) with
   |none=>rw[c] at h;simp at h
   |some i=>rw[c] at h;have n:i=k:=Int.ofNat.inj h;subst n;rw[List.findIdx?_eq_some_iff_getElem] at c;obtain⟨_,_,l⟩:=c;have:=l j e;rw[<-adq] at this;simp only[dE] at this;exact this d
  have g:0<=lP ((bs.take k).map dM) (cA bs k).aO:=by
   unfold lP;cases c:((bs.take k).map dM).findIdx? (λb=>decide<|b.aO=(cA bs k).aO) with
   |some i=>simp
   |none=>rw[List.findIdx?_eq_none_iff] at c;have:=c (dM<|cA bs j)<|List.mem_map.2 ⟨cA bs j,by rw[List.mem_take_iff_getElem];exact⟨j,om,by simp[gE (show j<bs.length by omega)]⟩,rfl⟩;exact absurd d<|of_decide_eq_false this
  exact⟨λ_=>f,λ_=>g⟩
 .have f:mx bs (cA bs k).aO=k:=TW hk (λj e d=>a ⟨j,e,d⟩) rfl;have g:lP ((bs.take k).map dM) (cA bs k).aO= -1:=by
   unfold lP;have:((bs.take k).map dM).findIdx? (λb=>decide<|b.aO=(cA bs k).aO)=none:=by rw[List.findIdx?_eq_none_iff];intro x m;obtain⟨b,hb,rfl⟩:=List.mem_map.1 m;obtain⟨j,e,rfl⟩:=List.mem_take_iff_getElem.1 hb;refine dF λd=>a ⟨j,om,?_⟩;rw[cA,gG,gE om];exact d
   rw[this]
  rw[f,g];constructor
  .intro h;omega
  .intro h;exact absurd rfl h
theorem adr (a:i<bs.length) (h:pe (cA bs i)=false\/mx bs (cA bs i).aO≠i):l7 bs=false:=by grind [l7,ia,r6,HJ,pe,T2]
theorem ads (h:∀i,i<bs.length->pe (cA bs i)=true/\mx bs (cA bs i).aO=i):
  l7 bs=(decide (1<=bs.length)&&decide (bs.length<=40)&&decide ((cA bs 0).aO=[109,97,105,110])&&decide ((cA bs 0).cM.length=0)):=by
 unfold l7;rw[T3 λi a=>⟨by have:=(h i a).1;unfold pe at this;rw[aE] at this;exact this.1,(h i a).2⟩,show bs.all Bq=true from ?_,Bool.and_true];refine List.all_eq_true.2 λb hb=>?_;obtain⟨i,a,rfl⟩:=List.getElem_of_mem hb;have:=(h i a).1;unfold pe at this;rw[aE] at this;rw[cA,gG,gE a] at this;exact this.2
theorem adt (h:¬(1<=bs.length/\bs.length<=40)):l7 bs=false:=by grind [l7,ia]
theorem Oj:∀(ts:List aq) (t:aq),ts≠[]->lO (ts++[t])=lO ts++32::t.text
 |[],_,h=>absurd rfl h
 |[u],t,_=>by rw[List.cons_append,List.nil_append,rl,rk,rk]
 |u::v::r,t,_=>by have:=Oj (v::r) t sm;rw[List.cons_append,List.cons_append,rl,<-List.cons_append,this,rl];simp
def pre (a:List aq):aj:=if a=[] then[] else 40::lO a
theorem adu (hk:k<ps.length):pre (ps.take<|k+1)=pre (ps.take k)++((if k=0 then 40 else 32)::(nth ps k).text):=by
 have e:ps.take (k+1)=ps.take k++[nth ps k]:=by rw[List.take_succ_eq_append_getElem hk,wL hk]
 rw[e];by_cases b:k=0
 .subst b;simp[pre,rk]
 .have a:ps.take k≠[]:=by intro h;have:=congrArg List.length h;rw[List.length_take] at this;simp only[List.length_nil] at this;omega
  unfold pre;rw[iN sm,iN a,Oj _ _ a,iN b];simp
theorem adv (b:WF t) (h:t.ag.length≠0):pre (t.ag.take t.ag.length)++[41]=t.text:=by
 cases b with
 |au a _=>simp[aq.ag] at h
 |list ps c _=>rw[sS];show pre (ps.take ps.length)++[41]=_;rw[List.take_length];unfold pre;rw[iN c];simp
theorem adw (b:WF t) (h:t.ag.length=0):t.text=t.au:=by
 cases b with
 |au a c=>exact r7 c
 |list ps d _=>exact absurd (List.length_eq_zero_iff.1 h) d
theorem asM (a:WF t) (hk:k<=t.ag.length):(pre<|t.ag.take k).length<=t.text.length:=by
 by_cases h:t.ag.length=0
 .rw[show k=0 from by omega];simp[pre]
 .rw[<-adv a h,lA];have mono:∀j,k<=j->j<=t.ag.length->(pre<|t.ag.take k).length<=(pre<|t.ag.take j).length:=by
   intro j _;induction j with
   |zero=>intro _;rw[show k=0 from by omega];exact lR _
   |succ j b=>
    intro _;rcases Nat.lt_or_ge k (j+1) with h|h
    .have:=b om om;rw[adu om,lA];omega
    .rw[show k=j+1 from by omega];exact lR _
  have:=mono _ hk<|lR _;omega
def wR (a:List aq):aj:=40::lO a
theorem Uq (hk:k<ps.length):wR (ps.take<|k+1)=(wR (ps.take k)++(if k=0 then[] else[32]))++(nth ps k).text:=by
 have e:ps.take (k+1)=ps.take k++[nth ps k]:=by rw[List.take_succ_eq_append_getElem hk,wL hk]
 rw[e];by_cases a:k=0
 .subst a;simp[wR,rk,lO]
 .have b:ps.take k≠[]:=by intro h;have:=congrArg List.length h;rw[List.length_take] at this;simp only[List.length_nil] at this;omega
  unfold wR;rw[Oj _ _ b,iN a];simp
theorem Ur (b:WF t) (h:t.au=[]):wR (t.ag.take t.ag.length)++[41]=t.text:=by
 cases b with
 |au a c=>exact absurd h c
 |list ps _ _=>rw[sS];show wR (ps.take ps.length)++[41]=_;rw[List.take_length];rfl
theorem Ok (a:WF t) (b:t.au=[]) (hk:k<=t.ag.length):(wR<|t.ag.take k).length<=t.text.length:=by
 rw[<-Ur a b,lA];have mono:∀j,k<=j->j<=t.ag.length->(wR<|t.ag.take k).length<=(wR<|t.ag.take j).length:=by
  intro j _;induction j with
  |zero=>intro _;rw[show k=0 from by omega];exact lR _
  |succ j c=>
   intro _;rcases Nat.lt_or_ge k (j+1) with h|h
   .have:=c om om;rw[Uq om,lA,lA];omega
   .rw[show k=j+1 from by omega];exact lR _
 have:=mono _ hk<|lR _;omega
structure zD (t:aq):Prop where
 wf:WF t
 size:t.size<=12001
 text:t.text.length<=12000
theorem zD.part (h:zD t) (b:Good t) (a:t.ag[i]?=some p):zD p:=by obtain⟨_,_,_⟩:=b.sub a;exact⟨h.wf.part a,by have:=HH a;have:=h.size;omega,by have:=h.text;omega⟩
theorem adx (h:bS s=some t):zD t:=by obtain⟨a,_,b,c⟩:=xW h;exact⟨a.wf,Bi h,by rw[b];exact c⟩
theorem zD.nth (h:zD t) (a:Good t) (b:i<t.ag.length):zD (nth t.ag i):=h.part a<|ew b
theorem ady (h:k+1<t.ag.length):(t.ag.drop 1)[k]?=some (nth t.ag<|k+1):=by rw[List.getElem?_drop,show 1+k=k+1 from by omega,ew h]
/-! ### Depth and length,part by part -/
def maxD:List aq->Nat
 |[]=>0
 |t::ts=>max t.depth<|maxD ts
theorem Us:∀(a b:List aq),maxD (a++b)=max (maxD a) (maxD b)
 |[],b=>by simp[maxD]
 |t::ts,b=>by rw[List.cons_append,maxD,maxD,Us ts b];omega
theorem adz (hk:k<ps.length):maxD (ps.take<|k+1)=max (maxD<|ps.take k) (nth ps k).depth:=by rw[List.take_succ_eq_append_getElem hk,Us,wL hk];simp[maxD]
theorem Ut:∀{ps:List aq},ps≠[]->aq.depth.deeps ps=maxD ps+1
 |[],h=>absurd rfl h
 |[t],_=>by simp[aq.depth.deeps,maxD]
 |t::u::us,_=>by have:=Ut (ps:=u::us) sm;simp only[aq.depth.deeps,maxD] at this⊢;omega
theorem Ol (t:aq):t.depth=aq.depth.deeps t.ag:=by cases t;simp[aq.depth,aq.ag]
theorem adA (h:t.ag.length=0):t.depth=0:=by rw[Ol,List.length_eq_zero_iff.1 h];rfl
theorem adB (h:t.ag.length≠0):t.depth=maxD (t.ag.take t.ag.length)+1:=by rw[Ol,List.take_length,Ut λa=>h (by rw[a];rfl)]
theorem adC:∀t:aq,t.size<=m->t.depth<t.size:=by
 induction m with
 |zero=>intro t h;have:=r5 t;omega
 |succ m c=>
  intro t h;have d:=oH t;have e:aq.depth.deeps t.ag<=t.size-1:=Kw λp b=>by obtain⟨i,a,rfl⟩:=List.getElem_of_mem b;have f:=HH (t:=t)<|gE a;have:=c _ (by omega:t.ag[i].size<=m);omega
  rw[Ol];omega
theorem adD:maxD (t.ag.take k)<t.size:=by
 have b:∀(ps:List aq) (d:Nat),0<d->(∀p∈ps,p.depth<d)->maxD ps<d:=by
  intro ps;induction ps with
  |nil=>intro d a _;simpa[maxD] using a
  |cons p ps g=>intro d a h;have j:=h p sm;have l:=g d a λq f=>h q (by simp[f]);rw[maxD];omega
 refine b _ _ (by have:=r5 t;omega) λp e=>?_;obtain⟨i,c,rfl⟩:=List.getElem_of_mem<|List.mem_of_mem_take e;have m:=HH (t:=t)<|gE c;have:=adC _<|lR (t.ag[i]).size;omega
theorem Om:∀(a b:List aq),aq.len.lens (a++b)=aq.len.lens a+aq.len.lens b
 |[],b=>by simp[aq.len.lens]
 |t::ts,b=>by rw[List.cons_append,aq.len.lens,aq.len.lens,Om ts b];omega
theorem adE (hk:k<ps.length):aq.len.lens (ps.take<|k+1)=aq.len.lens (ps.take k)+((nth ps k).len+1):=by rw[List.take_succ_eq_append_getElem hk,Om,wL hk];simp[aq.len.lens]
theorem adF (h:t.ag.length=0):t.len=t.au.length:=by
 cases t with
 |mk a ps=>simp only[aq.ag] at h;have:=List.length_eq_zero_iff.1 h;subst this;simp[aq.len,aq.au]
theorem Uu (h:t.ag.length≠0):t.len=1+aq.len.lens (t.ag.take t.ag.length):=by
 cases t with
 |mk a ps=>have:ps≠[]:=λb=>h (by rw[b];rfl);simp[aq.len,aq.ag,this]
theorem adG (h:t.ag.length≠0):1+aq.len.lens (t.ag.take k)<=t.len:=by rw[Uu h,List.take_length];have:=Om (t.ag.take k)<|t.ag.drop k;rw[List.take_append_drop] at this;omega
theorem Uv (h:Good t):t.size<=2*t.text.length:=by
 induction h with
 |au a d hb=>have:=List.length_pos_iff.2 d;rw[r7 d];simp only[aq.size,aq.size.sizes];omega
 |list ps e _ g=>
  have c:∀b:List aq,(∀p∈b,p.size<=2*p.text.length)->aq.size.sizes b<=2*(lO b).length:=by
   intro b;induction b with
   |nil=>intro _;simp[aq.size.sizes]
   |cons q b i=>
    intro h;have j:=h q sm;have f:=i λp e=>h p (by simp[e]);cases b with
    |nil=>rw[rk];simp only[aq.size.sizes];omega
    |cons u _=>rw[rl];simp only[aq.size.sizes,lA,lC] at f⊢;omega
  have:=c ps g;rw[sS];simp only[aq.size,lC,lA,List.length_nil];omega
/-! ### Texts joined -/
theorem Uw (a b:List aj):rm (a++b)=rm a++rm b:=by simp[rm]
def wS (h:aj) (a:List aj) (k:Nat):aj:=40::(h++rm (a.take k))
theorem adH {ps:List aj} (hk:k<ps.length):wS h ps (k+1)=(wS h ps k++[32])++bP ps k:=by unfold wS;rw[List.take_succ_eq_append_getElem hk,Uw];simp[rm,bP,gE hk]
theorem adI {a:List aj} (hk:a.length<=k):wS h a k++[41]=eH h a:=by unfold wS eH;rw[List.take_of_length_le hk];simp
theorem adJ {ps:List aj} (k:Nat):(wS h ps k).length+1<=(eH h ps).length:=by
 have:(rm<|ps.take k).length<=(rm ps).length:=by have:=Uw (ps.take k)<|ps.drop k;rw[List.take_append_drop] at this;rw[this,lA];omega
 simp[wS,eH];omega
/-! ### What the laws count -/
def kc (a:List aj):Nat:=a.length+(a.map List.length).sum
theorem Ux (a:List aj):(rm a).length=kc a:=by induction a<;>grind [rm,kc]
/-! ### A list that is filled -/
def fill {a:Type} (d:a) (b:List a) (k:Nat):List a:=b.take k++List.replicate (b.length-k) d
inductive It where
 |v (V:Value)
 |p (f:Value->World->Prop)
def It.F:It->Value->World->Prop
 | .v V=>λv _=>v=V
 | .p f=>f
def It.HN:It->Bool
 | .v _=>true
 | .p _=>false
def dq (b:List It) (c:List Nat) (w:World):List Nat->(List (Nat×Value)->Prop)->Prop
 |[],k=>k []
 |j::r,k=>match b.getD j (.p λ_ _=>True) with
  | .v V=>dq b c w r λa=>k ((c.getD j 0,V)::a)
  | .p f=>∀v,f v w->dq b c w r λa=>k ((c.getD j 0,v)::a)
theorem Fu {a:List It} {g:List Nat} {vs:Nat->Value}:∀{deps:List Nat} {k:List (Nat×Value)->Prop},dq a g w deps k->(∀j∈deps,o9 (a.map It.F) j (vs j) w)->k (vh g vs deps)
 |[],k,h,_=>h
 |j::r,k,h,hd=>by
  have b:=hd j<|List.mem_cons_self ..;unfold dq at h;have c:((a.getD j<|.p λ_ _=>True).F) (vs j) w:=by
   unfold o9 at b;rw[gG] at b⊢;rw[List.getElem?_map] at b;cases e:a[j]? with
   |none=>trivial
   |some q=>rw[e] at b;exact b
  cases e:a.getD j (.p λ_ _=>True) with
  |v V=>rw[e] at h c;have l:vs j=V:=c;subst l;exact Fu (deps:=r) h λi d=>hd i<|mK _ d
  |p f=>rw[e] at h c;exact Fu (deps:=r) (h _ c) λi d=>hd i<|mK _ d
theorem Oo {F:List (Value->World->Prop)} {c:Nat->Value}:∀{l:List Nat},Hn F c w l->∀j∈l,o9 F j (c j) w
 |[],_,j,h=>by cases h
 |[i],h,j,b=>by rw[List.mem_singleton] at b;subst b;exact h
 |i::a::l,h,j,b=>by
  rcases mC.1 b with e|b
  .subst e;exact h.1
  .exact Oo h.2 j b
def HO (P:Program) (n:Nat) (e:Array Oper) (W d:List Nat) (c:List It) (g:Env) (i:World) (k:Nat) (o:Oper) (b:List Nat):Prop:=
 ∀(x:Env) (w:World),ak [] i w->dq c d w b λa=>OW P n e (λf w'=>ak [] w w'/\(c.getD k<|.p λ_ _=>True).F (f<|d.getD k 0) w'/\eM [d.getD k 0] (ba (aZ W x g) a) f) [o] (ba (aZ W x g) a) w
def r8 (P:Program) (n:Nat) (b:Array Oper) (W c:List Nat) (a:List It) (e:Env) (f:World):Nat->List Oper->List (List Nat)->Prop
 |_,[],_=>True
 |_,_::_,[]=>True
 |k,o::l,d::r=>HO P n b W c a e f k o d/\r8 P n b W c a e f (k+1) l r
theorem vc {b:List Nat} {a:List It} {l:List Oper} {d:List Nat} {r:List (List Nat)} (h:HO P n ops W b a e0 w0 k o d) (c:r8 P n ops W b a e0 w0 (k+1) l r):r8 P n ops W b a e0 w0 k (o::l) (d::r):=⟨h,c⟩
theorem Uy {c:List Nat} {a:List It}:∀(l:List Oper) (b:List (List Nat)) (k:Nat),r8 P n ops W c a e0 w0 k l b->vi (ak []) P n ops W c (a.map It.F) e0 w0 k l b
 |[],_,_,_=>trivial
 |_::_,[],_,_=>trivial
 |o::l,d::r,k,h=>by
  refine⟨λx vs w e hk g i=>?_,Uy l r (k+1) h.2⟩;have:=Fu (h.1 x w hk) (vs:=vs)<|Oo g;subst i;have f:o9 (a.map It.F) k=(a.getD k<|.p λ_ _=>True).F:=by unfold o9;rw[gG,gG,List.getElem?_map];cases a[k]?<;>rfl
  rw[f];exact this
def HP:List It->Prop
 |[]=>True
 | .v _::r=>HP r
 | .p f::r=>(∀v w w',f v w->ak [] w w'->f v w')/\HP r
theorem Oq:∀{its:List It},HP its->rf (ak []) (its.map It.F)
 |[],_=>trivial
 | .v _::r,h=>⟨λv w w' e _=>e,Oq (its:=r) h⟩
 | .p f::r,h=>⟨h.1,Oq (its:=r) h.2⟩
theorem Uz:∀{its:List It},its.all It.HN=true->HP its
 |[],_=>trivial
 | .v _::r,h=>Uz (its:=r)<|by simpa[It.HN] using h
 | .p f::r,h=>by simp[It.HN] at h
section
variable {P:Program} {n:Nat} {l:List Oper} {m:Nat} {W ds:List Nat} {deps:List (List Nat)}
theorem xX {N R:Env->World->Prop} {X:Nat->Env->World->Prop} {id:Nat} {f:Env} {g:World} (s:P.follows .mixedOrders=true) (m:Nat) (W c:List Nat) (a:List (List Nat)) (b:List It) 
  (o:vj l m W c a=true) (p:HP b)
  (q:∀d,ak [] g d->r8 P n l.toArray W c b f d 0 (l.take m) a)
  (t:∀(x:Env) (w:World),ak [] g w->dq b c w (List.range m) λe=>OW P n l.toArray N (l.drop m) (ba (aZ W x f) e) w):
  CW P n (.region id l.toArray true) N R X f g:=
 S5 s cE m W c a (b.map It.F) o (Oq p) (λd hk=>Uy _ _ _<|q d hk) λx vs w hk i=>
  Fu (t x w hk) (vs:=vs) λj r=>i j<|List.mem_range.1 r
theorem ke {N R:Env->World->Prop} {X:Nat->Env->World->Prop} {id:Nat} {e:Env} {f:World} (p:P.follows .mixedOrders=true) (m:Nat) (W c:List Nat) (a:List (List Nat)) (b:List It) 
  (i:vj l m W c a=true) (j:b.all It.HN=true)
  (o:∀g,ak [] f g->r8 P n l.toArray W c b e g 0 (l.take m) a)
  (q:∀(x:Env) (w:World),ak [] f w->dq b c w (List.range m) λd=>OW P n l.toArray N (l.drop m) (ba (aZ W x e) d) w):
  CW P n (.region id l.toArray true) N R X e f:=xX p m W c a b i (Uz j) o q
end
section
variable {P:Program} {n:Nat} {ops:Array Oper} {e:Env} {w w':World}
theorem pv (h:v=V:=by rfl):OW P n ops (λa w'=>ak [] w w'/\(It.v V).F (a d) w'/\eM [d] e a) [] (bW e (some d) v) w:=
 aW ⟨ak.refl _ _,by subst h;exact ni _ _ _,qp⟩
theorem pk (k:ak [] w w') (h:v=V:=by rfl):OW P n ops (λa w'=>ak [] w w'/\(It.v V).F (a d) w'/\eM [d] e a) [] (bW e (some d) v) w':=
 aW ⟨k,by subst h;exact ni _ _ _,qp⟩
theorem pf {f:Value->World->Prop} (k:ak [] w w') (h:f v w'):OW P n ops (λa w'=>ak [] w w'/\(It.p f).F (a d) w'/\eM [d] e a) [] (bW e (some d) v) w':=
 aW ⟨k,by show f (iR e d v d) w';rw[ni];exact h,qp⟩
end
section
variable {P:Program} {n:Nat} {N R:Env->World->Prop} {X:Nat->Env->World->Prop} {e0:Env} {w:World}
theorem Ds {c:Code} (d:List Nat) (a:List (Nat×Value)) (h:CW P n c (λb w'=>eM d e0 b/\Holds a b/\ak [] w w') R X e0 w) 
  (k:∀x w',ak [] w w'->N (ba (aZ d x e0) a) w'):CW P n c N R X e0 w:=
 h.mono (λb w' ⟨e,f,hk⟩=>by have:=k b w' hk;rw[zu e,J3 f] at this;exact this) (λ_ _ h=>h) λ_ _ _ h=>h
end
theorem kE {p q r:Prop} (k:r) (h:p:=by repeat(first|with_reducible exact zt|refine Kc rfl ?_|refine NB rfl ?_)) (a:q:=by repeat' (first|rfl|(rw[gP];rfl)|(rw[jV];rfl)|constructor)):p/\q/\r:=⟨h,a,k⟩
theorem cZ {g:World->World->Prop} {P:Program} {n:Nat} {b:Array Oper} {W f:List Nat} {a:List It} {i:Env} {j:World} {k:Nat} {o:Oper} {l:List Oper} {d:List Nat} {r:List (List Nat)} 
  (h:∀(x:Env) (w:World),g j w->dq a f w d λc=>OW P n b (λm w'=>g w w'/\(a.getD k<|.p λ_ _=>True).F (m<|f.getD k 0) w'/\eM [f.getD k 0] (ba (aZ W x i) c) m) [o] (ba (aZ W x i) c) w)
  (t:vi g P n b W f (a.map It.F) i j (k+1) l r):vi g P n b W f (a.map It.F) i j k (o::l) (d::r):=
 ⟨λx vs w e hk q s=>by
  have:=Fu (h x w hk) (vs:=vs)<|Oo q;subst s;have p:o9 (a.map It.F) k=(a.getD k<|.p λ_ _=>True).F:=by unfold o9;rw[gG,gG,List.getElem?_map];cases a[k]?<;>rfl
  rw[p];exact this,t⟩
theorem qx {n:Nat} {l:List Oper} {N R:Env->World->Prop} {X:Nat->Env->World->Prop} {id:Nat} {f:Env} {g:World} (t:P.follows .mixedOrders=true) {c:World->World->Prop} (v:Kept c) (m:Nat) (W d:List Nat) (a:List (List Nat)) (b:List It) 
  (p:vj l m W d a=true) (q:rf c (b.map It.F))
  (r:∀i,c g i->vi c P n l.toArray W d (b.map It.F) f i 0 (l.take m) a)
  (u:∀(x:Env) (w:World),c g w->dq b d w (List.range m) λe=>OW P n l.toArray N (l.drop m) (ba (aZ W x f) e) w):
  CW P n (.region id l.toArray true) N R X f g:=
 S5 t v m W d a _ p q r λx vs w hk o=>Fu (u x w hk) (vs:=vs) λj s=>o j<|List.mem_range.1 s
theorem jj {c:World->World->Prop} (K:Kept c) {P:Program} {n:Nat} {b:Array Oper} {W f:List Nat} {a:List It} {g:Env} {j:World} (aC:c j w0) {k:Nat} {o:Oper} {l:List Oper} {d:List Nat} {r:List (List Nat)} 
  (h:∀(x:Env) (w:World),c j w->dq a f w d λe=>OW P n b (λi w'=>c w w'/\(a.getD k<|.p λ_ _=>True).F (i<|f.getD k 0) w'/\eM [f.getD k 0] (ba (aZ W x g) e) i) [o] (ba (aZ W x g) e) w)
  (m:vi c P n b W f (a.map It.F) g w0 (k+1) l r):vi c P n b W f (a.map It.F) g w0 k (o::l) (d::r):=
 cZ (λx w hk=>h x w<|K.trans aC hk) m
section
variable {KK:World->World->Prop} {P:Program} {n:Nat} {ops:Array Oper} {e:Env} {w w':World}
theorem ck (K:Kept KK) (h:v=V:=by rfl):OW P n ops (λa w'=>KK w w'/\(It.v V).F (a d) w'/\eM [d] e a) [] (bW e (some d) v) w:=
 aW ⟨K.refl _,by subst h;exact ni _ _ _,qp⟩
theorem HQ (K:Kept KK) (k:ak [] w w') (h:v=V:=by rfl):OW P n ops (λa w'=>KK w w'/\(It.v V).F (a d) w'/\eM [d] e a) [] (bW e (some d) v) w':=
 aW ⟨K.of k,by subst h;exact ni _ _ _,qp⟩
end
theorem adK:NG Tryz.f10:=ng
theorem adL:NG Tryz.f100:=ng
theorem adM:NG Tryz.f101:=ng
theorem adN:NG Tryz.f102:=ng
theorem adO:NG Tryz.f103:=ng
theorem adP:NG Tryz.f104:=ng
theorem adQ:NG Tryz.f105:=ng
theorem KF:NG Tryz.f107:=ng
theorem adR:NG Tryz.f108:=ng
theorem adS:NG Tryz.f109:=ng
theorem adT:NG Tryz.f11:=ng
theorem adU:NG Tryz.f110:=ng
theorem adV:NG Tryz.f111:=ng
theorem adW:NG Tryz.f112:=ng
theorem adX:NG Tryz.f113:=ng
theorem adY:NG Tryz.f114:=ng
theorem adZ:NG Tryz.f115:=ng
theorem ad0:NG Tryz.f116:=ng
theorem ad1:NG Tryz.f117:=ng
theorem ad2:NG Tryz.f118:=ng
theorem ad3:NG Tryz.f119:=ng
theorem ad4:NG Tryz.f12:=ng
theorem ad5:NG Tryz.f120:=ng
theorem ad6:NG Tryz.f121:=ng
theorem ad7:NG Tryz.f122:=ng
theorem ad8:NG Tryz.f123:=ng
theorem ad9:NG Tryz.f124:=ng
theorem aea:NG Tryz.f125:=ng
theorem aeb:NG Tryz.f126:=ng
theorem aec:NG Tryz.f127:=ng
theorem aed:NG Tryz.f128:=ng
theorem aee:NG Tryz.f129:=ng
theorem aef:NG Tryz.f13:=ng
theorem aeg:NG Tryz.f130:=ng
theorem aeh:NG Tryz.f131:=ng
theorem aei:NG Tryz.f132:=ng
theorem aej:NG Tryz.f133:=ng
theorem aek:NG Tryz.f134:=ng
theorem ael:NG Tryz.f135:=ng
theorem aem:NG Tryz.f137:=ng
theorem aen:NG Tryz.f139:=ng
theorem aeo:NG Tryz.f14:=ng
theorem aep:NG Tryz.f140:=ng
theorem aeq:NG Tryz.f141:=ng
theorem aer:NG Tryz.f142:=ng
theorem aes:NG Tryz.f143:=ng
theorem aet:NG Tryz.f144:=ng
theorem aeu:NG Tryz.f145:=ng
theorem aev:NG Tryz.f146:=ng
theorem aew:NG Tryz.f147:=ng
theorem aex:NG Tryz.f148:=ng
theorem aey:NG Tryz.f149:=ng
theorem aez:NG Tryz.f150:=ng
theorem aeA:NG Tryz.f151:=ng
theorem aeB:NG Tryz.f152:=ng
theorem aeC:NG Tryz.f153:=ng
theorem aeD:NG Tryz.f154:=ng
theorem aeE:NG Tryz.f155:=ng
theorem aeF:NG Tryz.f156:=ng
theorem aeG:NG Tryz.f157:=ng
theorem aeH:NG Tryz.f158:=ng
theorem aeI:NG Tryz.f159:=ng
theorem aeJ:NG Tryz.f160:=ng
theorem aeK:NG Tryz.f161:=ng
theorem aeL:NG Tryz.f162:=ng
theorem aeM:NG Tryz.f163:=ng
theorem aeN:NG Tryz.f164:=ng
theorem aeO:NG Tryz.f165:=ng
theorem aeP:NG Tryz.f166:=ng
theorem aeQ:NG Tryz.f167:=ng
theorem UA:NG Tryz.f168:=ng
theorem aeR:NG Tryz.f169:=ng
theorem aeS:NG Tryz.f170:=ng
theorem aeT:NG Tryz.f171:=ng
theorem aeU:NG Tryz.f173:=ng
theorem aeV:NG Tryz.f174:=ng
theorem aeW:NG Tryz.f175:=ng
theorem aeX:NG Tryz.f176:=ng
theorem aeY:NG Tryz.f177:=ng
theorem aeZ:NG Tryz.f178:=ng
theorem ae0:NG Tryz.f181:=ng
theorem ae1:NG Tryz.f182:=ng
theorem ae2:NG Tryz.f184:=ng
theorem ae3:NG Tryz.f185:=ng
theorem ae4:NG Tryz.f186:=ng
theorem ae5:NG Tryz.f187:=ng
theorem ae6:NG Tryz.f188:=ng
theorem ae7:NG Tryz.f189:=ng
theorem ae8:NG Tryz.f190:=ng
theorem ae9:NG Tryz.f191:=ng
theorem afa:NG Tryz.f192:=ng
theorem afb:NG Tryz.f193:=ng
theorem afc:NG Tryz.f194:=ng
theorem afd:NG Tryz.f195:=ng
theorem Ot:NG Tryz.f196:=ng
theorem afe:NG Tryz.f197:=ng
theorem aff:NG Tryz.f199:=ng
theorem afg:NG Tryz.f200:=ng
theorem afh:NG Tryz.f201:=ng
theorem afi:NG Tryz.f202:=ng
theorem afj:NG Tryz.f207:=ng
theorem afk:NG Tryz.f208:=ng
theorem afl:NG Tryz.f209:=ng
theorem afm:NG Tryz.f210:=ng
theorem afn:NG Tryz.f211:=ng
theorem afo:NG Tryz.f212:=ng
theorem afp:NG Tryz.f226:=ng
theorem afq:NG Tryz.f29:=ng
theorem nm3:NG Tryz.f3:=ng
theorem afs:NG Tryz.f30:=ng
theorem aft:NG Tryz.f31:=ng
theorem afu:NG Tryz.f32:=ng
theorem afv:NG Tryz.f33:=ng
theorem afw:NG Tryz.f34:=ng
theorem afx:NG Tryz.f35:=ng
theorem afy:NG Tryz.f36:=ng
theorem afz:NG Tryz.f37:=ng
theorem afA:NG Tryz.f38:=ng
theorem afB:NG Tryz.f40:=ng
theorem afC:NG Tryz.f44:=ng
theorem afD:NG Tryz.f45:=ng
theorem afE:NG Tryz.f46:=ng
theorem afF:NG Tryz.f50:=ng
theorem afG:NG Tryz.f52:=ng
theorem afH:NG Tryz.f53:=ng
theorem afI:NG Tryz.f54:=ng
theorem afJ:NG Tryz.f55:=ng
theorem afK:NG Tryz.f58:=ng
theorem afL:NG Tryz.f59:=ng
theorem afM:NG Tryz.f60:=ng
theorem afN:NG Tryz.f61:=ng
theorem afO:NG Tryz.f62:=ng
theorem afP:NG Tryz.f63:=ng
theorem afQ:NG Tryz.f64:=ng
theorem afR:NG Tryz.f65:=ng
theorem afS:NG Tryz.f66:=ng
theorem afT:NG Tryz.f67:=ng
theorem afU:NG Tryz.f68:=ng
theorem afV:NG Tryz.f69:=ng
theorem nm7:NG Tryz.f7:=ng
theorem afX:NG Tryz.f70:=ng
theorem afY:NG Tryz.f71:=ng
theorem afZ:NG Tryz.f72:=ng
theorem af0:NG Tryz.f73:=ng
theorem af1:NG Tryz.f74:=ng
theorem af2:NG Tryz.f75:=ng
theorem af3:NG Tryz.f77:=ng
theorem UB:NG Tryz.f78:=ng
theorem af4:NG Tryz.f79:=ng
theorem nm8:NG Tryz.f8:=ng
theorem af6:NG Tryz.f80:=ng
theorem af7:NG Tryz.f81:=ng
theorem af8:NG Tryz.f82:=ng
theorem af9:NG Tryz.f83:=ng
theorem aga:NG Tryz.f84:=ng
theorem agb:NG Tryz.f85:=ng
theorem UC:NG Tryz.f86:=ng
theorem agc:NG Tryz.f87:=ng
theorem agd:NG Tryz.f88:=ng
theorem age:NG Tryz.f89:=ng
theorem nm9:NG Tryz.f9:=ng
theorem agh:NG Tryz.f90:=ng
theorem agi:NG Tryz.f91:=ng
theorem agj:NG Tryz.f92:=ng
theorem agk:NG Tryz.f93:=ng
theorem UD:NG Tryz.f94:=ng
theorem agl:NG Tryz.f95:=ng
theorem agm:NG Tryz.f96:=ng
theorem agn:NG Tryz.f97:=ng
theorem ago:NG Tryz.f98:=ng
theorem agp:NG Tryz.f99:=ng
theorem fJ:tR Tryz.prog 103=true:=by kernel_rfl
theorem agq:tR Tryz.prog 117=true:=by kernel_rfl
theorem UE:tR Tryz.prog 144=true:=by kernel_rfl
theorem Fw:tR Tryz.prog 39=true:=by kernel_rfl
theorem jk:tR Tryz.prog 61=true:=by kernel_rfl
theorem Fx:tR Tryz.prog 80=true:=by kernel_rfl
theorem HR:Tryz.prog.underlying 158=some (.array 40 61):=by kernel_rfl
theorem Fy:Tryz.prog.underlying 159=some (.array 40 4):=by kernel_rfl
theorem HS:∀(w:World),(Instr.build 103 #[]).run Tryz.prog w= .ok (.agg #[.string ⟨#[]⟩,.slice none 0 0]) w:=by intros;kernel_rfl
theorem agr:∀(a:ByteArray) (w:World),(Instr.build 103 #[(0,(.string a))]).run Tryz.prog w= .ok (.agg #[.string a,.slice none 0 0]) w:=by intros;kernel_rfl
theorem Ou:∀(a:Option Addr) (c b:Nat) (w:World),(Instr.build 103 #[(1,(.slice a c b))]).run Tryz.prog w= .ok (.agg #[.string ⟨#[]⟩,.slice a c b]) w:=by intros;kernel_rfl
theorem Ov:∀(a:Option Addr) (c b:Nat) (d:Option Addr) (f e:Nat) (w:World),(Instr.build 117 #[(0,(.slice a c b)),(1,(.slice d f e))]).run Tryz.prog w= .ok (.agg #[.slice a c b,.slice d f e]) w:=by intros;kernel_rfl
theorem ags:∀(a:Option Addr) (c b:Nat) (d:Option Addr) (f e:Nat) (w:World),(Instr.build 142 #[(0,(.slice a c b)),(1,(.slice d f e))]).run Tryz.prog w= .ok (.agg #[.slice a c b,.slice d f e,.int .i64 0,.bool false,.slice none 0 0,.slice none 0 0]) w:=by intros;kernel_rfl
theorem agt:∀(c:Fn) (a b:Array Value) (w:World),(Instr.build 161 #[(3,(.func c a b))]).run Tryz.prog w= .ok (.agg #[.string ⟨#[]⟩,.slice none 0 0,.string ⟨#[]⟩,.slice none 0 0,.string ⟨#[]⟩,.slice none 0 0,.string ⟨#[]⟩,.slice none 0 0,.string ⟨#[]⟩,.slice none 0 0,.string ⟨#[]⟩,.slice none 0 0,.string ⟨#[]⟩,.slice none 0 0,.string ⟨#[]⟩,.slice none 0 0,.string ⟨#[]⟩,.slice none 0 0,.string ⟨#[]⟩,.slice none 0 0,.string ⟨#[]⟩,.slice none 0 0,.string ⟨#[]⟩,.slice none 0 0,.string ⟨#[]⟩,.slice none 0 0,.string ⟨#[]⟩,.slice none 0 0,.string ⟨#[]⟩,.slice none 0 0,.string ⟨#[]⟩,.slice none 0 0,.string ⟨#[]⟩,.slice none 0 0,.string ⟨#[]⟩,.slice none 0 0,.string ⟨#[]⟩,.slice none 0 0,.string ⟨#[]⟩,.slice none 0 0,.string ⟨#[]⟩,.slice none 0 0,.string ⟨#[]⟩,.slice none 0 0,.string ⟨#[]⟩,.slice none 0 0,.string ⟨#[]⟩,.slice none 0 0,.string ⟨#[]⟩,.slice none 0 0,.string ⟨#[]⟩,.slice none 0 0,.string ⟨#[]⟩,.slice none 0 0,.string ⟨#[]⟩,.slice none 0 0,.string ⟨#[]⟩,.slice none 0 0,.string ⟨#[]⟩,.slice none 0 0,.string ⟨#[]⟩,.slice none 0 0,.string ⟨#[]⟩,.slice none 0 0,.string ⟨#[]⟩,.slice none 0 0,.string ⟨#[]⟩,.slice none 0 0,.string ⟨#[]⟩,.slice none 0 0,.string ⟨#[]⟩,.slice none 0 0,.string ⟨#[]⟩,.slice none 0 0,.string ⟨#[]⟩,.slice none 0 0,.string ⟨#[]⟩,.slice none 0 0,.string ⟨#[]⟩,.slice none 0 0,.bool false,.bool false,.bool false,.bool false,.bool false,.bool false,.bool false,.bool false,.bool false,.bool false,.bool false,.bool false,.bool false,.bool false,.bool false,.bool false,.bool false,.bool false,.bool false,.bool false,.bool false,.bool false,.bool false,.bool false,.bool false,.bool false,.bool false,.bool false,.bool false,.bool false,.bool false,.bool false,.bool false,.bool false,.bool false,.bool false,.bool false,.bool false,.bool false,.bool false,.int .i64 0,.func c a b]) w:=by intros;kernel_rfl
theorem agu:∀(a:Option Addr) (c b:Nat) (x1:Int) (d:Option Addr) (f e:Nat) (g:Option Addr) (j i:Nat) (w:World),(Instr.build 169 #[(0,(.slice a c b)),(1,(.int .i64 x1)),(2,(.slice d f e)),(3,(.slice g j i))]).run Tryz.prog w= .ok (.agg #[.slice a c b,.int .i64 x1,.slice d f e,.slice g j i]) w:=by intros;kernel_rfl
theorem agv:∀(a:Option Addr) (c b:Nat) (x1:Int) (w:World),(Instr.build 195 #[(0,(.slice a c b)),(1,(.int .i64 x1))]).run Tryz.prog w= .ok (.agg #[.slice a c b,.int .i64 x1]) w:=by intros;kernel_rfl
theorem Ow:∀(g:ByteArray) (a:Option Addr) (c b:Nat) (d:Option Addr) (f e:Nat) (w:World),(Instr.build 39 #[(0,(.string g)),(1,(.slice a c b)),(2,(.slice d f e))]).run Tryz.prog w= .ok (.agg #[.string g,.slice a c b,.slice d f e]) w:=by intros;kernel_rfl
theorem Ox:∀(w:World),(Instr.build 61 #[]).run Tryz.prog w= .ok (.agg #[.string ⟨#[]⟩,.slice none 0 0]) w:=by intros;kernel_rfl
theorem UF:∀(a:ByteArray) (w:World),(Instr.build 61 #[(0,(.string a))]).run Tryz.prog w= .ok (.agg #[.string a,.slice none 0 0]) w:=by intros;kernel_rfl
theorem agw:∀(a:Option Addr) (c b:Nat) (w:World),(Instr.build 61 #[(1,(.slice a c b))]).run Tryz.prog w= .ok (.agg #[.string ⟨#[]⟩,.slice a c b]) w:=by intros;kernel_rfl
theorem Oy:∀(w:World),(Instr.build 80 #[]).run Tryz.prog w= .ok (.agg #[.string ⟨#[]⟩,.slice none 0 0,.slice none 0 0]) w:=by intros;kernel_rfl
theorem agx:∀(a:ByteArray) (w:World),(Instr.build 80 #[(0,(.string a))]).run Tryz.prog w= .ok (.agg #[.string a,.slice none 0 0,.slice none 0 0]) w:=by intros;kernel_rfl
theorem agy:∀(a:Option Addr) (c b:Nat) (w:World),(Instr.build 84 #[(0,(.slice a c b))]).run Tryz.prog w= .ok (.agg #[.slice a c b,.int .i64 0]) w:=by intros;kernel_rfl
theorem agz:Tryz.prog.underlying 4=some .bool:=by kernel_rfl
theorem l9:gN Tryz.prog 103 0=some 0:=by kernel_rfl
theorem kf:gN Tryz.prog 103 1=some 1:=by kernel_rfl
theorem agA:gN Tryz.prog 117 0=some 0:=by kernel_rfl
theorem agB:gN Tryz.prog 117 1=some 1:=by kernel_rfl
theorem agC:gN Tryz.prog 142 0=some 0:=by kernel_rfl
theorem agD:gN Tryz.prog 142 1=some 1:=by kernel_rfl
theorem agE:gN Tryz.prog 142 2=some 2:=by kernel_rfl
theorem agF:gN Tryz.prog 142 3=some 3:=by kernel_rfl
theorem agG:gN Tryz.prog 142 4=some 4:=by kernel_rfl
theorem agH:gN Tryz.prog 142 5=some 5:=by kernel_rfl
theorem agI:gN Tryz.prog 144 0=some 0:=by kernel_rfl
theorem UG:gN Tryz.prog 144 1=some 1:=by kernel_rfl
theorem agJ:gN Tryz.prog 144 10=some 11:=by kernel_rfl
theorem agK:gN Tryz.prog 144 2=some 2:=by kernel_rfl
theorem KH:gN Tryz.prog 144 3=some 3:=by kernel_rfl
theorem agL:gN Tryz.prog 144 4=some 4:=by kernel_rfl
theorem agM:gN Tryz.prog 144 5=some 5:=by kernel_rfl
theorem agN:gN Tryz.prog 144 6=some 6:=by kernel_rfl
theorem UH:gN Tryz.prog 144 7=some 7:=by kernel_rfl
theorem UI:gN Tryz.prog 144 8=some 9:=by kernel_rfl
theorem agO:gN Tryz.prog 144 9=some 10:=by kernel_rfl
theorem agP:gN Tryz.prog 161 0=some 0:=by kernel_rfl
theorem agQ:gN Tryz.prog 161 1=some 80:=by kernel_rfl
theorem agR:gN Tryz.prog 161 2=some 120:=by kernel_rfl
theorem agS:gN Tryz.prog 161 3=some 121:=by kernel_rfl
theorem agT:gN Tryz.prog 169 0=some 0:=by kernel_rfl
theorem agU:gN Tryz.prog 169 1=some 1:=by kernel_rfl
theorem agV:gN Tryz.prog 169 2=some 2:=by kernel_rfl
theorem agW:gN Tryz.prog 169 3=some 3:=by kernel_rfl
theorem agX:gN Tryz.prog 195 0=some 0:=by kernel_rfl
theorem agY:gN Tryz.prog 195 1=some 1:=by kernel_rfl
theorem Oz:gN Tryz.prog 39 0=some 0:=by kernel_rfl
theorem OB:gN Tryz.prog 39 1=some 1:=by kernel_rfl
theorem Bu:gN Tryz.prog 39 2=some 2:=by kernel_rfl
theorem OC:gN Tryz.prog 61 0=some 0:=by kernel_rfl
theorem zE:gN Tryz.prog 61 1=some 1:=by kernel_rfl
theorem agZ:gN Tryz.prog 80 0=some 0:=by kernel_rfl
theorem UJ:gN Tryz.prog 80 1=some 1:=by kernel_rfl
theorem UK:gN Tryz.prog 80 2=some 2:=by kernel_rfl
theorem ag0:gN Tryz.prog 84 0=some 0:=by kernel_rfl
theorem UM:gN Tryz.prog 84 1=some 1:=by kernel_rfl
theorem Fz:TI Tryz.prog 101 1 24 (.slice none 0 0):=by unfold TI;kernel_rfl
theorem aM:TI Tryz.prog 103 2 40 (.agg #[.string ⟨#[]⟩,.slice none 0 0]):=by unfold TI;kernel_rfl
theorem UN:TI Tryz.prog 110 1 24 (.slice none 0 0):=by unfold TI;kernel_rfl
theorem Dt:TI Tryz.prog 117 2 48 (.agg #[.slice none 0 0,.slice none 0 0]):=by unfold TI;kernel_rfl
theorem KI:TI Tryz.prog 140 1 24 (.slice none 0 0):=by unfold TI;kernel_rfl
theorem nX:TI Tryz.prog 144 12 216 (.agg #[.string ⟨#[]⟩,.slice none 0 0,.int .i64 0,.slice none 0 0,.slice none 0 0,.slice none 0 0,.slice none 0 0,.string ⟨#[]⟩,.slice none 0 0,.int .i64 0,.string ⟨#[]⟩,.int .i64 0]):=by unfold TI;kernel_rfl
theorem UO:TI Tryz.prog 23 1 24 (.slice none 0 0):=by unfold TI;kernel_rfl
theorem nY:TI Tryz.prog 25 1 24 (.slice none 0 0):=by unfold TI;kernel_rfl
theorem sX:TI Tryz.prog 3 1 8 (.int .i64 0):=by unfold TI;kernel_rfl
theorem ja:TI Tryz.prog 39 3 64 (.agg #[.string ⟨#[]⟩,.slice none 0 0,.slice none 0 0]):=by unfold TI;kernel_rfl
theorem zF:TI Tryz.prog 4 1 1 (.bool false):=by unfold TI;kernel_rfl
theorem HT:TI Tryz.prog 5 1 1 (.int .u8 0):=by unfold TI;kernel_rfl
theorem OD:TI Tryz.prog 50 1 24 (.slice none 0 0):=by unfold TI;kernel_rfl
theorem HU:TI Tryz.prog 59 1 24 (.slice none 0 0):=by unfold TI;kernel_rfl
theorem bX:TI Tryz.prog 61 2 40 (.agg #[.string ⟨#[]⟩,.slice none 0 0]):=by unfold TI;kernel_rfl
theorem mB:TI Tryz.prog 80 3 64 (.agg #[.string ⟨#[]⟩,.slice none 0 0,.slice none 0 0]):=by unfold TI;kernel_rfl
theorem bo:TI Tryz.prog 9 1 16 (.string ⟨#[]⟩):=by unfold TI;kernel_rfl
theorem UP:TI Tryz.prog 99 2 32 (.agg #[.pointer none,.slice none 0 0]):=by unfold TI;kernel_rfl
theorem KJ:Tryz.prog.underlying 204=some (.int .u64):=by kernel_rfl
theorem xY:Tryz.prog.underlying 3=some (.int .i64):=by kernel_rfl
theorem zG:Tryz.prog.underlying 5=some (.int .u8):=by kernel_rfl
theorem dj:Tryz.prog.follows .mixedOrders=true:=by kernel_rfl
theorem jy:pO Tryz.prog 101=true:=by kernel_rfl
theorem ag1:pO Tryz.prog 110=true:=by kernel_rfl
theorem OE:pO Tryz.prog 134=true:=by kernel_rfl
theorem ag2:pO Tryz.prog 140=true:=by kernel_rfl
theorem ag3:pO Tryz.prog 22=true:=by kernel_rfl
theorem ag4:pO Tryz.prog 23=true:=by kernel_rfl
theorem wT:pO Tryz.prog 25=true:=by kernel_rfl
theorem KL:pO Tryz.prog 3=true:=by kernel_rfl
theorem HV:pO Tryz.prog 4=true:=by kernel_rfl
theorem ag5:pO Tryz.prog 5=true:=by kernel_rfl
theorem ag6:pO Tryz.prog 50=true:=by kernel_rfl
theorem vv:pO Tryz.prog 59=true:=by kernel_rfl
theorem fS:pO Tryz.prog 9=true:=by kernel_rfl
theorem cQ:Tryz.prog.underlying 101=some (.slice 103):=by kernel_rfl
theorem FB:Tryz.prog.underlying 110=some (.slice 3):=by kernel_rfl
theorem Bv:Tryz.prog.underlying 140=some (.slice 144):=by kernel_rfl
theorem Du:Tryz.prog.underlying 22=some (.slice 5):=by kernel_rfl
theorem lE:Tryz.prog.underlying 23=some (.slice 39):=by kernel_rfl
theorem bw:Tryz.prog.underlying 25=some (.slice 9):=by kernel_rfl
theorem Dv:Tryz.prog.underlying 50=some (.slice 80):=by kernel_rfl
theorem iA:Tryz.prog.underlying 59=some (.slice 61):=by kernel_rfl
theorem jb:Tryz.prog.underlying 9=some .string:=by kernel_rfl
/-! ### Packages have two ag -/
inductive nZ:aq->Prop
 |au (a:aj):nZ (.mk a [])
 |list (ps:List aq) (h:zz ps=[101]->ps.length=2) (hp:∀p∈ps,nZ p):nZ (.mk [] ps)
theorem nZ.part (h:nZ t) (b:t.ag[i]?=some p):nZ p:=by
 cases h with
 |au a=>simp[aq.ag] at b
 |list ps _ c=>exact c p<|List.mem_of_getElem? b
theorem nZ.nth (h:nZ t) (a:i<t.ag.length):nZ (nth t.ag i):=h.part<|ew a
theorem nZ.two (h:nZ t) (b:bz t=[101]):t.ag.length=2:=by
 cases h with
 |au a=>rw[Dm (.inr rfl)] at b;cases b
 |list ps c _=>rw[Og] at b;exact c b
theorem UQ (l:WF t):∀h,fR h t=true->nZ t:=by
 induction l with
 |au a _=>intro _ _;exact .au a
 |list ps o q j=>
  intro h c;cases ps with
  |nil=>exact absurd rfl o
  |cons e rest=>
   have g:∀a,e.au=a->a≠[]->nZ e:=λa n m=>by
    have:=q e sm;cases this with
    |au b _=>exact .au b
    |list _ _ _=>exact absurd n.symm m
   unfold fR at c;simp only[ne_eq,not_true,if_false] at c;by_cases f:e.au=[101]
   .rw[iP f] at c;cases rest with
    |nil=>simp[fR.oneT] at c
    |cons x r=>
     cases r with
     |nil=>
      refine .list _ (λ_=>rfl) λp d=>?_;simp only[mC,List.not_mem_nil,or_false] at d;rcases d with rfl|rfl
      .exact g _ f de
      .exact j p sm true c
     |cons y _=>simp[fR.oneT] at c
   .rw[iN f] at c;by_cases i:e.au=[116]\/e.au=[99]
    .rw[iP i,NU,List.all_eq_true] at c;refine .list _ (λh=>absurd h f) λp d=>?_;rcases mC.1 d with rfl|d
     .rcases i with h|h
      .exact g _ h de
      .exact g _ h de
     .exact j p (by simp[d]) h<|c p d
    .rw[iN i] at c;cases c
theorem UR (c:h≠[101]) (d:∀t∈ts,nZ t):nZ (l8 h ts):=
 .list _ (λb=>absurd b c) λp a=>by
  rcases mC.1 a with rfl|a
  .exact .au _
  .exact d p a
theorem ag7 (l:nZ y) (d:y.au≠[101]) (h:nZ t):nZ (dS y t):=by
 induction h with
 |au a=>
  unfold dS;split
  .exact l
  .split
   .exact .au a
   .simp only[zB];exact .list _ (by simp[zz]) sm
 |list ps i j m=>
  unfold dS;rw[iN de];by_cases c:([]:aj)≠[]\/zz ps=[101]
  .rw[iP c];exact .list ps i j
  .rw[iN c,Kz];refine .list _ (λg=>?_) λp n=>?_
   .cases ps with
    |nil=>simp[zz] at g
    |cons q _=>
     exfalso;have b:(dS y q).au=[101]:=g;cases q with
     |mk a rs=>
      unfold dS at b;by_cases e:a=[118]
      .rw[iP e] at b;exact d b
      .rw[iN e] at b;by_cases f:a≠[]\/zz rs=[101]
       .rw[iP f] at b;exact c<|.inr b
       .rw[iN f] at b;cases b
   .obtain⟨q,b,rfl⟩:=List.mem_map.1 n;exact m q b
/-! ### States -/
structure sd (t:aq):Prop where
 fE:Good t
 fits:sU t=true
 eok:nZ t
def wU (a:TS):Prop:=∀i t,a.getD i none=some t->sd t
theorem Dw:sd iT:=⟨.au _ de de,by decide,.au _⟩
theorem ag9 (a:Good t) (h:sU t=true) (c:i<t.ag.length):sU (nth t.ag i)=true:=by unfold sU at h⊢;rw[aE,dE,dE] at h⊢;obtain⟨b,_,_⟩:=a.sub<|ew c;rw[Dq a.wf] at h;rw[Dq b.wf];omega
theorem sd.nth (h:sd t) (a:i<t.ag.length):sd (nth t.ag i):=⟨h.fE.nth a,ag9 h.fE h.fits a,h.eok.nth a⟩
theorem aha {a:TS} {r:Nat} {o:Option aq} (c:r<a.length):(a.set r o).getD i none=if i=r then o else a.getD i none:=by
 rw[gG,List.getElem?_set,gG];by_cases h:r=i
 .subst h;rw[iP rfl,iP c,iP rfl];rfl
 .rw[iN h,iN λb=>h b.symm]
theorem ahb {e:TS} (h:wU e) (j:d<e.length) {o:Option aq} (g:∀t,o=some t->Good t/\nZ t) {b:TS} (a:eR e d o=some b):wU b/\b.length=e.length:=by
 unfold eR at a;cases o with
 |none=>cases a
 |some t=>
  simp only[Option.bind_some] at a;by_cases f:sU t=true
  .rw[iP f] at a;cases a;refine⟨λi l c=>?_,sm⟩;rw[aha j] at c;split at c
   .cases c;exact⟨(g t rfl).1,f,(g t rfl).2⟩
   .exact h i l c
  .rw[iN f] at a;cases a
theorem FC {b:TS} (h:wU b) {a:aj} (c:eQ b a=some t):sd t:=h _ t c
def Bw (p:List cW):Prop:=p.length<=1000000/\∀b∈p,b.regs.length<=40/\∀t∈b.regs,sd t
theorem OF {p:List cW} (h:Bw p) {a:List aq} (c:bT p l=some a):a.length<=40/\∀t∈a,sd t:=by
 unfold bT at c;cases d:p.find? (λb=>decide<|b.aO=l) with
 |none=>rw[d] at c;cases c
 |some b=>rw[d] at c;cases c;exact h.2 b<|List.mem_of_find?_eq_some d
theorem UT {b:TS} (h:wU b):∀{c xs:List aq},nA b c=some xs->xs.length=c.length/\∀t∈xs,sd t
 |[],xs,a=>by cases a;simp
 |u::c,xs,a=>by
  unfold nA at a;cases e:eQ b u.au with
  |none=>rw[e] at a;cases a
  |some x=>
   rw[e] at a;simp only[Option.bind_some] at a;cases d:nA b c with
   |none=>rw[d] at a;cases a
   |some _=>
    rw[d] at a;cases a;obtain⟨g,i⟩:=UT h d;refine⟨by simp[g],λt f=>?_⟩;rcases mC.1 f with rfl|f
    .exact FC h e
    .exact i t f
theorem UU {a:TS}:∀(b:List aq) (u:aq),nA a (b++[u])=(nA a b).bind λxs=>(eQ a u.au).map λx=>xs++[x]
 |[],u=>by show(eQ a u.au).bind (λx=>(nA a []).map λxs=>x::xs)=_;cases eQ a u.au<;>rfl
 |v::b,u=>by
  show(eQ a v.au).bind (λx=>(nA a<|b++[u]).map λxs=>x::xs)=((eQ a v.au).bind λx=>(nA a b).map λxs=>x::xs).bind _;rw[UU b u];cases eQ a v.au with
  |none=>rfl
  |some x=>
   cases nA a b with
   |none=>rfl
   |some xs=>cases eQ a u.au<;>rfl
/-! ### What an instruction has -/
def gQ (b:TS) (c:aj) (a:List aq):Nat->Option (List aq)
 |0=>some []
 |k+1=>(gQ b c a k).bind λxs=>if c.getD k 0=115 then(eQ b (nth a<|k+1).au).map λx=>xs++[x] else some xs
theorem ahc {a:TS} {b:aj} (h:gQ a b ps k=none):∀n,k<=n->gQ a b ps n=none:=by
 intro n _;induction n with
 |zero=>rw[show k=0 from by omega] at h;exact h
 |succ n d=>
  rcases Nat.lt_or_ge k (n+1) with c|c
  .unfold gQ;rw[d om];rfl
  .rw[show k=n+1 from by omega] at h;exact h
theorem ahd {b:TS} {a:aj} {c:List aq} (h:gQ b a ps k=some c) (d:a.getD k 0≠115):gQ b a ps (k+1)=some c:=by unfold gQ;rw[h,Option.bind_some,iN d]
theorem ahe {a:TS} {b:aj} {c:List aq} (h:gQ a b ps k=some c) (d:b.getD k 0=115) (e:eQ a (nth ps<|k+1).au=some x):gQ a b ps (k+1)=some (c++[x]):=by unfold gQ;rw[h,Option.bind_some,iP d,e];rfl
theorem ahf {a:TS} {b:aj} {e:List aq} (h:gQ a b ps k=some e) (c:b.getD k 0=115) (d:eQ a (nth ps<|k+1).au=none):gQ a b ps (k+1)=none:=by unfold gQ;rw[h,Option.bind_some,iP c,d];rfl
theorem OG {st:TS} (b:ps.length=m+2):∀k,k<=m->gQ st ([100]++List.replicate m 115) ps (k+1)=nA st ((ps.drop 2).take k)
 |0,_=>by simp[gQ,nA]
 |k+1,hk=>by
  have d:=OG (st:=st) b k om;have c:([100]++List.replicate m 115:aj).getD (k+1) 0=115:=by rw[gG,List.getElem?_append_right sm,List.getElem?_replicate,iP so];rfl
  have a:k<(ps.drop 2).length:=by simp;omega
  have e:(ps.drop 2).take (k+1)=(ps.drop 2).take k++[nth ps (k+2)]:=by rw[List.take_succ_eq_append_getElem a,List.getElem_drop,wL (show k+2<ps.length by omega)];simp[Nat.add_comm]
  rw[e,UU,<-d]
  conv=>lhs;unfold gQ
  simp only[c,if_true]
theorem FD (h:mz t=true):er (bz t) t.ag.length≠[]/\t.ag.length=(er (bz t) t.ag.length).length+1/\
  ∀i,i<(er (bz t) t.ag.length).length->iy (((er (bz t) t.ag.length).getD i 0).toNat:Int) (nth t.ag (i+1))=true:=by
 unfold mz at h;split at h
 .cases h
 .rename_i a;exact⟨λh=>a<|.inl h,Classical.not_not.1 λh=>a<|.inr h,of_decide_eq_true h⟩
/-! ### What it gives -/
section
variable {p:List cW} {st:TS} {o:Nat} {t:aq}
theorem UW (a:bz t=[99,111,110,115,116]):stepT p st o t=eR st (gO (nth t.ag 1).au) (some iT):=by simp[stepT,nC,a]
theorem UX (a:bz t=[109,111,118]) (b:eQ st (nth t.ag 2).au=some x):stepT p st o t=eR st (gO (nth t.ag 1).au) (some x):=by simp[stepT,nC,a,b]
theorem UY (a:bz t=[97,100,100]\/bz t=[115,117,98]\/bz t=[109,117,108]) (b:eQ st (nth t.ag 2).au=some x) (c:eQ st (nth t.ag 3).au=some y):
  stepT p st o t=if wO x iT&&wO y iT then eR st (gO (nth t.ag 1).au) (some iT) else none:=by
 rcases a with a|a|a<;>simp only[stepT,nC,a,b,c,sV]<;>cases(wO x iT&&wO y iT)<;>simp[eR]
theorem UZ {a:List aq} (b:bz t=[110,101,119]) (c:nA st (t.ag.drop 2)=some a):stepT p st o t=eR st (gO (nth t.ag 1).au) (some<|l8 [116] a):=by simp[stepT,b,c]
theorem U0 (a:bz t=[110,101,119]) (b:nA st (t.ag.drop 2)=none):stepT p st o t=none:=by simp[stepT,a,b,eR]
theorem OH (b:bz t=[103,101,116]) (d:eQ st (nth t.ag 2).au=some x):
  stepT p st o t=if bz x=[116]/\wP (nth t.ag 3).au+1<x.ag.length then eR st (gO (nth t.ag 1).au) (some<|nth x.ag (wP (nth t.ag 3).au+1).toNat) else none:=by
 have e:nC p st o t=(if bz x=[116]/\wP (nth t.ag 3).au+1<x.ag.length then some (nth x.ag (wP (nth t.ag 3).au+1).toNat) else none):=by simp[nC,b,d]
 have c:stepT p st o t=eR st (gO (nth t.ag 1).au) (nC p st o t):=by simp[stepT,b]
 rw[c,e];by_cases a:bz x=[116]/\wP (nth t.ag 3).au+1<x.ag.length
 .rw[iP a,iP a]
 .rw[iN a,iN a];rfl
theorem HW {l:Option (List aq)} (a:bz t=[108,97,98]) (b:bT p (nth t.ag 2).au=l):stepT p st o t=eR st (gO (nth t.ag 1).au) (l.map<|l8 [99]):=by subst b;simp[stepT,nC,a]
theorem U1 (a:bz t=[112,97,99,107]) (b:eQ st (nth t.ag 2).au=some x):
  stepT p st o t=if wO x (dS (nth t.ag 4)<|nth (nth t.ag 3).ag 1) then eR st (gO (nth t.ag 1).au) (some<|nth t.ag 3) else none:=by
 simp only[stepT,nC,a,b,Option.bind_some];cases wO x (dS (nth t.ag 4)<|nth (nth t.ag 3).ag 1)<;>simp[eR]
theorem OI (b:bz t=[111,112,101,110]) (d:eQ st (nth t.ag 2).au=some x):
  stepT p st o t=if bz x=[101] then eR st (gO (nth t.ag 1).au) (some (dS (bJ (97::aS o))<|nth x.ag 1)) else none:=by
 have e:nC p st o t=(if bz x=[101] then some (dS (bJ (97::aS o))<|nth x.ag 1) else none):=by simp[nC,b,d]
 have c:stepT p st o t=eR st (gO (nth t.ag 1).au) (nC p st o t):=by simp[stepT,b]
 rw[c,e];by_cases a:bz x=[101]
 .rw[iP a,iP a]
 .rw[iN a,iN a];rfl
theorem U2 (b:bz t=[122,101,114,111]) (c:eQ st (nth t.ag 1).au=some x):
  stepT p st o t=(bT p (nth t.ag 2).au).bind λa=>if wO x iT&&meets st a then some st else none:=by
 simp[stepT,b,c,sV]
theorem U3 (a:bz t=[106,117,109,112]) (b:eQ st (nth t.ag 1).au=some x):
  stepT p st o t=if bz x=[99]/\meets st (x.ag.drop 1)=true then some st else none:=by
 simp[stepT,a,b]
theorem U4 (a:bz t=[104,97,108,116]):stepT p st o t=(eQ st (nth t.ag 1).au).map λ_=>st:=by simp[stepT,a]
theorem U5 (u:mz t=true) (h:gQ st (er (bz t) t.ag.length) t.ag (er (bz t) t.ag.length).length=none):stepT p st o t=none:=by
 obtain⟨d,a,_⟩:=FD u;have f:∀{q:Nat},eQ st (nth t.ag q).au=none\/∃x,eQ st (nth t.ag q).au=some x:=fun{q}=>by cases eQ st (nth t.ag q).au<;>simp
 unfold er at h d a;by_cases c1:bz t=[99,111,110,115,116]
 .rw[iP c1] at h;simp[gQ] at h
 rw[iN c1] at h d a;by_cases c2:bz t=[109,111,118]\/bz t=[111,112,101,110]
 .rw[iP c2] at h;have c:eQ st (nth t.ag 2).au=none:=by
   rcases f (q:=2) with b|⟨x,b⟩
   .exact b
   .simp[gQ,b] at h
  rcases c2 with e|e<;>simp[stepT,nC,e,c,eR]
 rw[iN c2] at h d a;by_cases g:bz t=[97,100,100]\/bz t=[115,117,98]\/bz t=[109,117,108]
 .rw[iP g] at h;have c:eQ st (nth t.ag 2).au=none\/eQ st (nth t.ag 3).au=none:=by
   rcases f (q:=2) with b|⟨x,b⟩
   .exact .inl b
   .rcases f (q:=3) with r|⟨y,r⟩
    .exact .inr r
    .simp[gQ,b,r] at h
  rcases c with c|c<;>rcases g with e|e|e<;>simp[stepT,nC,e,c,eR,sV]
 rw[iN g] at h d a;by_cases i:bz t=[110,101,119]
 .rw[iP i] at h a;refine U0 i ?_;have v:t.ag.length=(t.ag.length-2)+2:=by simp at a;omega
  have:=OG (st:=st) v (t.ag.length-2)<|lR _;rw[show([100]++List.replicate (t.ag.length-2) 115:aj).length=t.ag.length-2+1 from by simp[Nat.add_comm]] at h;rw[h,List.take_of_length_le sm] at this;exact this.symm
 rw[iN i] at h d a;by_cases j:bz t=[103,101,116]
 .rw[iP j] at h;have c:eQ st (nth t.ag 2).au=none:=by
   rcases f (q:=2) with b|⟨x,b⟩
   .exact b
   .simp[gQ,b] at h
  simp[stepT,nC,j,c,eR]
 rw[iN j] at h d a;by_cases s:bz t=[108,97,98]
 .rw[iP s] at h;simp[gQ] at h
 rw[iN s] at h d a;by_cases l:bz t=[112,97,99,107]
 .rw[iP l] at h;have c:eQ st (nth t.ag 2).au=none:=by
   rcases f (q:=2) with b|⟨x,b⟩
   .exact b
   .simp[gQ,b] at h
  simp[stepT,nC,l,c,eR]
 rw[iN l] at h d a;by_cases m:bz t=[122,101,114,111]
 .rw[iP m] at h;have c:eQ st (nth t.ag 1).au=none:=by
   rcases f (q:=1) with b|⟨x,b⟩
   .exact b
   .simp[gQ,b] at h
  simp[stepT,m,c,sV]
 rw[iN m] at h d a;by_cases n:bz t=[106,117,109,112]\/bz t=[104,97,108,116]
 .rw[iP n] at h;have c:eQ st (nth t.ag 1).au=none:=by
   rcases f (q:=1) with b|⟨x,b⟩
   .exact b
   .simp[gQ,b] at h
  rcases n with e|e<;>simp[stepT,e,c]
 rw[iN n] at d;exact absurd rfl d
end
/-! ### Sizes of what is given -/
theorem size_pos (t:aq):1<=t.size:=by have:=r5 t;omega
theorem OJ (y:aq) (h:Good t):(dS y t).size<=t.size*y.size:=by
 have e:=size_pos y;induction h with
 |au a f hb=>
  unfold dS;split
  .have:=size_pos<|aq.mk a [];exact Nat.le_mul_of_pos_left _ this
  .rw[iP (.inl f)];exact Nat.le_mul_of_pos_right _ e
 |list ps d _ g=>
  unfold dS;rw[iN de];split
  .exact Nat.le_mul_of_pos_right _ e
  .have c:∀b:List aq,(∀p∈b,(dS y p).size<=p.size*y.size)->aq.size.sizes (zB y b)<=aq.size.sizes b*y.size:=by
    intro b;induction b with
    |nil=>intro _;simp[zB,aq.size.sizes]
    |cons q b i=>intro h;have j:=h q sm;have l:=i λp d=>h p (by simp[d]);simp only[zB,aq.size.sizes,Nat.add_mul];omega
   have:=c ps g;simp only[aq.size,List.length_nil,Nat.add_mul];omega
theorem KM (t:aq):∀m,t.size<=m->WF t->t.text.length+1<=2*t.size:=by
 intro m;induction m generalizing t with
 |zero=>intro h;have:=size_pos t;omega
 |succ m r=>
  intro _ g;cases g with
  |au a l=>rw[r7 l];simp only[aq.size,aq.size.sizes];omega
  |list ps d o=>
   rw[sS];have e:(aq.mk [] ps).size=1+aq.size.sizes ps:=by simp[aq.size]
   rw[e];have c:∀b:List aq,b≠[]->(∀p∈b,p.text.length+1<=2*p.size)->(lO b).length+1<=2*aq.size.sizes b:=by
    intro b;induction b with
    |nil=>intro h;exact absurd rfl h
    |cons q b s=>
     intro _ h;have y:=h q sm;cases b with
     |nil=>rw[rk];simp only[aq.size.sizes];omega
     |cons u _=>have j:=s sm λp d=>h p (by simp[d]);rw[rl];simp only[aq.size.sizes,lA,lC] at j⊢;omega
   have v:=c ps d (λp f=>by obtain⟨i,n,rfl⟩:=List.getElem_of_mem f;have z:=HH (t:=.mk [] ps) (p:=ps[i]) (i:=i)<|gE n;exact r _ om<|o _ f);simp only[lC,lA,List.length_nil];omega
theorem U6 (h:WF t):t.len<=2*t.size:=by have:=KM t _ (lR _) h;rw[Dq h];omega
theorem sd.size (h:sd t):t.size<=24000:=by have:=h.fits;unfold sU at this;rw[aE,dE,dE] at this;have a:=Uv h.fE;have b:=Dq h.fE.wf;omega
theorem U7:∀ts:List aq,(∀t∈ts,t.size<=m)->aq.size.sizes ts<=ts.length*m
 |[],_=>by simp[aq.size.sizes]
 |t::ts,h=>by have b:=h t sm;have c:=U7 ts λu a=>h u (by simp[a]);simp only[aq.size.sizes,lC,Nat.add_mul];omega
theorem U8 (d:fj c=true) (h:∀t∈ts,sd t) (f:ts.length<=8000):Good (l8 [c] ts)/\(l8 [c] ts).size<=1000000000/\(l8 [c] ts).len<=1000000000:=by
 have b:Good (l8 [c] ts):=Ky sm (by simp[d]) λt a=>(h t a).fE;have j:=U7 ts λt a=>(h t a).size;have g:ts.length*24000<=8000*24000:=Nat.mul_le_mul_right _ f;have e:(l8 [c] ts).size=1+(2+aq.size.sizes ts):=by simp[l8,bJ,aq.size,aq.size.sizes]
 have i:=U6 b.wf;refine⟨b,om,om⟩
theorem KN:iT.size<=1000000000/\iT.len<=1000000000:=by decide
end Go.Proofs.YtcildnfcpkpomaaGreatDoor
