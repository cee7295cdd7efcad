/- Lemmas for the law FnFrom, no statement of their own: no conditions. -/
import Derived.Test.YthbhobaiopccaaaGreatDoorJd
import Derived.Laws.IdiomStrings
set_option maxHeartbeats 4000000
set_option linter.unusedVariables false
set_option linter.unusedSimpArgs false
namespace Go.Proofs.YthbhobaiopccaaaGreatDoor
open Go
variable {t:aq} {B E b bytes c i k n sz x:Nat} {w w':World} {L:List Nat} {v z:Value} {g gb:Option Nat} {gss:List (Option Nat×Option Nat)} {vss:List (List Value)} {bs:List Bk} {ps xs:List aj} {vs:Array Value} {s:cP} {a:Option Addr} {rows:List (List C)} {q1 q2 q3 q4 q5 q6:Operand} {a1 a2 a3 a4 a5 a6:aj} {ts:List aq} {m m1 m2:Mk} {e:Ex}
theorem afU (h:fQ false t=true):lz t=false:=by
 refine Mr ?_
 by_cases ha:t.av=[]
 ·rcases Nat.eq_zero_or_pos t.ai.length with hz|hp
  ·rw[sF (.inr (List.length_eq_zero_iff.1 hz))];rfl
  ·have hh:=Ef ha (ej hp)
   by_cases he:(nth t.ai 0).av=[101]
   ·rw[hh,he];rfl
   ·by_cases vC:(nth t.ai 0).av=[116]∨(nth t.ai 0).av=[99]
    ·rcases vC with h|h<;>rw[hh,h]<;>rfl
    ·rw[Mo ha hp he vC] at h;cases h
 ·rw[sF (.inl ha)];rfl
def Hg:List (Option Nat×Option Nat)->List Bk->Prop
 |[],[]=>True
 |g::gs,b::bs=>((b.bW=[]->g.1=none)∧(b.code=[]->g.2=none))∧Hg gs bs
 |_,_=>False
theorem Ul:∀{gss:List (Option Nat×Option Nat)} {bs:List Bk} {g:Option Nat×Option Nat} {b:Bk},Hg gss bs->((b.bW=[]->g.1=none)∧(b.code=[]->g.2=none))->Hg (gss++[g]) (bs++[b])
 |[],[],_,_,_,h=>⟨h,trivial⟩
 |_::_,_::_,_,_,h,k=>⟨h.1,Ul h.2 k⟩
def apart:List (Option Nat×Option Nat)->Prop
 |[]=>True
 |g::gs=>(∀x,x∈gM g->x∉eT gs)∧apart gs
theorem CR (g:Option Nat×Option Nat) (gs:List (Option Nat×Option Nat)):eT (g::gs)=gM g++eT gs:=by simp[eT]
theorem CS (gs:List (Option Nat×Option Nat)) (g:Option Nat×Option Nat):eT (gs++[g])=eT gs++gM g:=by simp[eT]
theorem Um:∀{gss:List (Option Nat×Option Nat)} {g:Option Nat×Option Nat},apart gss->(∀x,x∈gM g->x∉eT gss)->apart (gss++[g])
 |[],_,_,_=>⟨by simp[eT],trivial⟩
 |p::gs,g,h,k=>by
  refine⟨λx hx eA=>?_,Um h.2 λx hx eA=>k x hx (by rw[CR];simp[eA])⟩
  change x∈eT (gs++[g]) at eA
  rw[CS,mA] at eA
  rcases eA with eA|eA
  ·exact h.1 x hx eA
  ·exact k x eA (by rw[CR];simp[hx])
structure qO (B:Nat) (w:World) (TB TS:TypeId) (v:Value) (g:Option Nat) (gss:List (Option Nat×Option Nat)) (vss:List (List Value)) (bs:List Bk):Prop where
 own:im w TB 3 v g bs.length vss.flatten
 rows:iL w TS gss vss bs
 sep:∀b,g=some b->b∉eT gss
 low:∀x,x∈g.toList++eT gss->B<=x
 lt:∀x,x∈eT gss->x<w.heap.size
 apart:apart gss
 nils:Hg gss bs
 bsz:B<=w.heap.size
theorem qO.nil {TB TS:TypeId} (h:B<=w.heap.size):qO B w TB TS (.slice none 0 0) none [] [] []:=
 ⟨im.nil _ _ _,trivial,sm,by simp[eT],by simp[eT],trivial,trivial,h⟩
theorem qO.aG {TB TS:TypeId} (h:qO B w TB TS v g gss vss bs) (k:ak L w w') (hL:∀x,x∈L->x<B∨w.heap.size<=x):qO B w' TB TS v g gss vss bs:=by
 have hx:∀x,x∈g.toList++eT gss->x∉L:=λx hx hl=>by
  have h1:=h.low x hx
  have h2:x<w.heap.size:=by
   rcases mA.1 hx with hx|hx
   ·exact h.own.lt x (by simpa using hx)
   ·exact h.lt x hx
  rcases hL x hl with h|h<;>omega
 exact⟨h.own.aG k (λb hb=>hx b (by simp[hb])),h.rows.aG k (λx h=>hx x (by simp[h])),h.sep,h.low,λx hx=>lL (h.lt x hx) k.size,h.apart,h.nils,Nat.le_trans h.bsz k.size⟩
theorem qO.ext {TB TS:TypeId} (h:qO B w TB TS v g gss vss bs) (k:ak [] w w'):qO B w' TB TS v g gss vss bs:=h.aG k sm
theorem qO.rep {TB TS:TypeId} (h:qO B w TB TS v g gss vss bs):mO [] w v bs:=by
 refine gS.done (L:=[]) (w:=w) (T:=TB) (g:=g) (xs:=vss.flatten) ⟨by simpa using h.own,h.rows.yh λx hx hc=>?_,?_,sm⟩
 ·simp at hc;exact h.sep x hc hx
 ·intro row hr
  obtain⟨b,_,rfl⟩:=List.mem_map.1 hr
  rfl
theorem cE.head {T:TypeId} (h:cE w T v (some b) xs) (dY:xs≠[]):∃cur,aL w b cur T∧cur[0]?=some (str (xs.headD [])):=by
 rcases h.2 with⟨_,_,h⟩|⟨b',cap,cur,e,_,hb,mI,_,cG,ht⟩
 ·cases h
 ·cases e
  refine⟨cur,hb,?_⟩
  cases xs with
  |nil=>exact absurd rfl dY
  |cons x r=>
   have h1:=congrArg (λl=>l[0]?) ht
   simp only[List.map_cons,List.getElem?_cons_zero] at h1
   rw[List.getElem?_take,iP sm] at h1
   simpa using h1
theorem afV {T:TypeId} {g:Option Nat×Option Nat} {vs:List Value} {b:Bk} (h:pS w T g vs b) (hb:kO b=true) (hn:(b.bW=[]->g.1=none)∧(b.code=[]->g.2=none)):(gM g).Nodup:=by
 obtain⟨v1,v2,_,h1,h2⟩:=h
 obtain⟨g1,g2⟩:=g
 cases g1 with
 |none=>cases g2<;>simp[gM]
 |some x=>
  cases g2 with
  |none=>simp[gM]
  |some y=>
   have hxy:x≠y:=by
    rintro rfl
    have e1:b.bW≠[]:=λh=>by have:=hn.1 h;cases this
    have e2:b.code≠[]:=λh=>by have:=hn.2 h;cases this
    obtain⟨c1,aT,bM⟩:=cE.head h1 e1
    obtain⟨c2,aO,bZ⟩:=cE.head h2 e2
    have:c1=c2:=by
     unfold aL at aT aO
     rw[aT] at aO;injection aO with h;injection h
    subst this
    rw[bM] at bZ
    have hs:b.bW.headD []=b.code.headD []:=by
     injection bZ with h;injection h with h;injection h with h
     simpa using congrArg Array.toList h
    obtain⟨_,p1,p2⟩:=MA hb
    obtain⟨t1,Hh,kX⟩:=p1 (b.bW.headD []) (by cases qd:b.bW with|nil=>exact absurd qd e1|cons a r=>simp)
    obtain⟨t2,Bj,gi⟩:=p2 (b.code.headD []) (by cases qd:b.code with|nil=>exact absurd qd e2|cons a r=>simp)
    rw[hs,Bj] at Hh
    cases Hh
    rw[afU kX] at gi;cases gi
   simp[gM,hxy]
theorem Un {T:TypeId}:∀{gss:List (Option Nat×Option Nat)} {vss:List (List Value)} {bs:List Bk},iL w T gss vss bs->apart gss->Hg gss bs->(∀b,b∈bs->kO b=true)->(eT gss).Nodup
 |[],[],[],_,_,_,_=>by simp[eT]
 |g::gs,v::vs,b::bs,h,ha,hn,hb=>by
  rw[CR,List.nodup_append]
  refine⟨afV h.1 (hb b sm) hn.1,Un h.2 ha.2 hn.2 (λb h=>hb b (by simp[h])),λx hx y hy e=>?_⟩
  subst e;exact ha.1 x hx hy
theorem qO.full {TB TS:TypeId} (h:qO B w TB TS v g gss vss bs) (hp:iB bs=true):j3 w TB TS v g gss vss bs:=
 ⟨h.own,h.rows,by
  rw[List.nodup_append]
  refine⟨by cases g<;>simp,Un h.rows h.apart h.nils (Aw hp),λx hx y hy e=>?_⟩
  subst e;exact h.sep x (by simpa using hx) hy,h.lt⟩
section
variable {P:Program} {n:Nat} {ops:Array Oper} {K:Env->World->Prop} {rest:List Oper} {e:Env} {w:World}
 {dst:Option Nat} {ty:TypeId} {pos:String} {after:Array Edge} {g:Option (Nat×Bool)} {x y:Operand}
theorem afX {B:Nat} {t TS:Nat} {v:Value} {gb:Option Nat} {gss:List (Option Nat×Option Nat)} {vss:List (List Value)} {bs:List Bk} {f:Bk} {gs:Option Nat×Option Nat} {a1 a2:Option Addr} {n1 c1 n2 c2:Nat} {b U:Nat} (hT:P.underlying t=some (.slice E)) (hE:TI P E 3 bytes z) (hg:gate ops e g=true) (hd:cC n dst=true) (hz:Nat.beq z.cells.size 3=true) (gm:Nat.ble bytes 1000=true) 
  (hx:ev e x=v) (hy:ev e y= .slice (some ⟨b,0,none⟩) 1 1) (hP:qO B w E TS v gb gss vss bs) (hb:aL w b [str f.aM,.slice a1 n1 c1,.slice a2 n2 c2].toArray U)
  (h1:cE w TS (.slice a1 n1 c1) gs.1 f.bW) (h2:cE w TS (.slice a2 n2 c2) gs.2 f.code) (kT:∀x,x∈gM gs->B<=x∧x∉gb.toList++eT gss) (afY:(f.bW=[]->gs.1=none)∧(f.code=[]->gs.2=none)) (hn:bs.length<100000000)
  (k:∀a' cap' g' w',qO B w' E TS (.slice a' (bs++[f]).length cap') g' (gss++[gs]) (vss++[[str f.aM,.slice a1 n1 c1,.slice a2 n2 c2]]) (bs++[f])->ak gb.toList w w'->OW P n ops K rest (bY e dst (.slice a' (bs++[f]).length cap')) w'):
  OW P n ops K (⟨dst,.call {callee:=.builtin .append,args:=#[x,y],argTypes:=#[t,t]},ty,pos,after,g⟩::rest) e w:=by
 obtain⟨i,hi,ye,fU,xf⟩:=hE.get
 have Aj:bytes<=1000:=Nat.le_of_ble_eq_true gm
 have D6:(bs.length+1)*bytes<=140737488355328:=Nat.le_trans (Nat.mul_le_mul (show bs.length+1<=100000000 by omega) Aj) de
 obtain⟨v',g',w',jG,dH,hk,jZ⟩:=LJ (P:=P) (w:=w) (ty:=ty) hT hi ye fU xf (Nat.eq_of_beq_eq_true hz) hP.own b 0 1 1 [str f.aM,.slice a1 n1 c1,.slice a2 n2 c2] rfl (by have:=hb.all;simpa using this)
  (by intro u hu;simp at hu;rcases hu with rfl|rfl|rfl<;>rfl) de (by unfold maxLen;omega) D6
 have tP:im w' E 3 v' g' (bs++[f]).length (vss++[[str f.aM,.slice a1 n1 c1,.slice a2 n2 c2]]).flatten:=by
  simpa using dH
 obtain⟨a',cap',he⟩:=tP.len
 subst he
 have Hi:∀x,x∈gM gs->x<w.heap.size:=λx hx=>by
  simp only[gM,mA] at hx
  rcases hx with hx|hx
  ·exact im.lt h1 x (by simpa using hx)
  ·exact im.lt h2 x (by simpa using hx)
 refine fA hg hd (w':=w') (by
  simp only[execOp,resolve,invoke,builtin,Sem.run_bind,Sem.run_pure,Result.andThen_ok,List.map_toArray,List.map_cons,List.map_nil,hx,hy,jG]) (k a' cap' g' w' ⟨tP,?_,?_,?_,?_,?_,?_,?_⟩ hk)
 ·refine iL.snoc (hP.rows.aG hk λx hx hg=>hP.sep x (by simpa using hg) hx) ⟨_,_,rfl,h1.aG hk λb hb hx=>?_,h2.aG hk λb hb hx=>?_⟩
  ·exact(kT b (by simp[gM,hb])).2 (by simp at hx;simp[hx])
  ·exact(kT b (by simp[gM,hb])).2 (by simp at hx;simp[hx])
 ·intro b hb hx
  rw[CS,mA] at hx
  rcases jZ with h|h
  ·rw[h] at hb
   rcases hx with hx|hx
   ·exact hP.sep b hb hx
   ·exact(kT b hx).2 (by simp[hb])
  ·rw[h] at hb;cases hb
   rcases hx with hx|hx
   ·have:=hP.lt _ hx;omega
   ·have:=Hi _ hx;omega
 ·intro x hx
  rw[CS] at hx
  simp only[mA] at hx
  rcases hx with hx|hx|hx
  ·rcases jZ with h|h
   ·rw[h] at hx;exact hP.low x (by simp only[mA];exact .inl hx)
   ·rw[h] at hx;simp at hx;have:=hP.bsz;omega
  ·exact hP.low x (by simp only[mA];exact .inr hx)
  ·exact(kT x hx).1
 ·intro x hx
  rw[CS,mA] at hx
  rcases hx with hx|hx
  ·exact lL (hP.lt x hx) hk.size
  ·exact lL (Hi x hx) hk.size
 ·exact Um hP.apart λx hx eA=>(kT x hx).2 (by simp[eA])
 ·exact Ul hP.nils afY
 ·exact Nat.le_trans hP.bsz hk.size
end
theorem afZ (h:tV t) (hg:Good t):ml (lE t)=iB (lE t):=by
 unfold ml
 rw[show(lE t).all vj=true from ?_,Bool.and_true]
 refine List.all_eq_true.2 λb hb=>?_
 obtain⟨u,hu,rfl⟩:=List.mem_map.1 hb
 obtain⟨i,hi,rfl⟩:=List.getElem_of_mem (List.mem_of_mem_drop hu)
 have CT:=h.part hg (gE hi)
 have EJ:=hg.part (gE hi)
 unfold vj
 refine dT ?_
 unfold kP
 split
 ·rename_i fN
  have h4:=Gu fN
  have f1:=CT.nth (i:=1) EJ om
  have f2:=f1.size
  have:=qB (nth t.ai[i].ai 1)
  show(nth t.ai[i].ai 1).av.length<=12000
  omega
 ·simp[Ar]
theorem af0 (hi:i+1<t.ai.length) (h:oy (nth t.ai (i+1))=false):iB (lE t)=false:=by
 refine Sp ?_
 refine List.mem_map.2 ⟨nth t.ai (i+1),List.mem_of_getElem? (MJ hi),MG h⟩
/-! ### Operations -/
section
variable {P:Program} {n:Nat} {ops:Array Oper} {K:Env->World->Prop} {rest:List Oper} {e:Env} {w:World}
 {dst:Option Nat} {ty:TypeId} {pos:String} {after:Array Edge} {g:Option (Nat×Bool)} {x y:Operand}
theorem Uo {S D b cap:Nat} {z:Int} {c:UInt8} {U:TypeId} (hS:P.underlying S=some (.slice E)) (hE:P.underlying E=some (.int .u8)) (hD:P.underlying D=some .string) (hg:gate ops e g=true) (hd:cC n dst=true) 
  (hx:ev e x= .slice (some ⟨b,0,none⟩) 1 cap) (hb:aL w b [.int .u8 z].toArray U) (hz:z=(c.toNat:Int)) (k:OW P n ops K rest (bY e dst (str [c])) w):OW P n ops K (⟨dst,.convert S D x,ty,pos,after,g⟩::rest) e w:=by
 have jG:=run_convert_bytes_back (P:=P) w S D E ⟨b,0,none⟩ cap [c] hS hE hD (by
  intro j hj
  have:j=0:=by simpa using hj
  subst this
  have:=hb.cell 0
  simpa[Addr.add,hz] using this)
 exact fA hg hd (v:=str [c]) (w':=w) (by
  have vD:ev e x= .slice (some ⟨b,0,none⟩) ([c]:List UInt8).length cap:=hx
  simp only[execOp,vD,Sem.run_bind,jG,Result.andThen_ok,Sem.run_pure]) k
theorem Up {T TS:Nat} {gb:Option Nat} {xs:List aj} {s:aj} {o nn c:Nat} (jX:TI P T 1 bytes z) (hg:gate ops e g=true) (hx:ev e x= .pointer (some ⟨b,o,none⟩)) (hy:ev e y=str s) (ho:o=i) 
  (hO:cE w TS (.slice (some ⟨b,0,none⟩) nn c) gb xs) (hi:i<xs.length)
  (k:∀w',ak gb.toList w w'->cE w' TS (.slice (some ⟨b,0,none⟩) nn c) gb (xs.set i s)->w'.heap.size=w.heap.size->OW P n ops K rest e w'):OW P n ops K (⟨none,.store T x y,ty,pos,after,g⟩::rest) e w:=by
 subst ho
 obtain⟨hl,h|⟨b',cap,cur,oJ,hv,hb,mI,mH,cG,ht⟩⟩:=hO
 ·obtain⟨h,_⟩:=h;cases h
 ·cases hv
  subst oJ
  refine LM jX rfl hg hx hy rfl hb (by rw[cG];omega) λw' hk gC hz=>?_
  refine k w' (by simpa using hk) ⟨by simp,.inr ⟨b,_,_,rfl,sm,gC,by simpa using mI,mH,by simpa using cG,?_⟩⟩ hz
  rw[Array.toList_setIfInBounds,List.length_set,List.take_set,ht,List.map_set]
end
theorem Uq {α:Type}:∀{rows:List (List α)} {i j:Nat} {a:α} {row:List α},(∀row,row∈rows->row.length=sz)->rows[i]?=some row->j<sz->rows.flatten.set (i*sz+j) a=(rows.set i (row.set j a)).flatten
 |r::rows,0,j,a,row,h,hi,hj=>by
  simp only[List.getElem?_cons_zero,Option.some.injEq] at hi
  subst hi
  have hr:r.length=sz:=h r sm
  rw[List.flatten_cons,Nat.zero_mul,Nat.zero_add,List.set_cons_zero,List.flatten_cons,List.set_append_left _ _ om]
 |r::rows,i+1,j,a,row,h,hi,hj=>by
  have hr:r.length=sz:=h r sm
  have:=Uq (rows:=rows) (a:=a) (λrow hr=>h row (by simp[hr])) (by simpa using hi) hj
  rw[List.flatten_cons,List.set_cons_succ,List.flatten_cons,List.set_append_right _ _ (by rw[hr,Nat.add_mul];omega),hr,<-this]
  congr 2
  rw[Nat.add_mul];omega
theorem iL.set {T:TypeId}:∀{gss:List (Option Nat×Option Nat)} {vss:List (List Value)} {bs:List Bk} {i:Nat} {g:Option Nat×Option Nat} {v:List Value} {f:Bk},iL w T gss vss bs->gss[i]?=some g->pS w' T g v f->
  (∀(j:Nat) (g2:Option Nat×Option Nat) (v2:List Value) (b2:Bk),j≠i->gss[j]?=some g2->pS w T g2 v2 b2->pS w' T g2 v2 b2)->iL w' T gss (vss.set i v) (bs.set i f)
 |[],[],[],i,g,v,f,_,hg,_,_=>by simp at hg
 |g0::gs,v0::vs,b0::bs,0,g,v,f,h,hg,hf,hk=>by
  simp only[List.getElem?_cons_zero,Option.some.injEq] at hg
  subst hg
  refine⟨hf,?_⟩
  have key:∀{gs:List (Option Nat×Option Nat)} {vs:List (List Value)} {bs:List Bk},(∀(j:Nat) (g2:Option Nat×Option Nat) (v2:List Value) (b2:Bk),gs[j]?=some g2->pS w T g2 v2 b2->pS w' T g2 v2 b2)->iL w T gs vs bs->iL w' T gs vs bs:=by
   intro gs
   induction gs with
   |nil=>intro vs bs _ h;cases vs<;>cases bs<;>first|trivial|exact h.elim
   |cons g gs ih=>
    intro vs bs hk h
    cases vs with
    |nil=>cases bs<;>exact h.elim
    |cons v vs=>
     cases bs with
     |nil=>exact h.elim
     |cons b bs=>exact⟨hk 0 _ _ _ rfl h.1,ih (λj g2 v2 b2 hj=>hk (j+1) g2 v2 b2 (by simpa using hj)) h.2⟩
  exact key (λj g2 v2 b2 hj ho=>hk (j+1) g2 v2 b2 om (by simpa using hj) ho) h.2
 |g0::gs,v0::vs,b0::bs,i+1,g,v,f,h,hg,hf,hk=>
  ⟨hk 0 _ _ _ om rfl h.1,iL.set h.2 (by simpa using hg) hf λj g2 v2 b2 hj jc ho=>hk (j+1) g2 v2 b2 om (by simpa using jc) ho⟩
theorem CU {g:Option Nat×Option Nat} (hg:gss[i]?=some g) (hx:x∈gM g):x∈eT gss:=by grind [eT]
theorem af1:∀{gss:List (Option Nat×Option Nat)} {i j:Nat} {g g2:Option Nat×Option Nat} {x:Nat},(eT gss).Nodup->i≠j->gss[i]?=some g->gss[j]?=some g2->x∈gM g->x∉gM g2:=by intro x;induction x<;>grind [eT,gM]
theorem j3.row {w w':World} {TB TS:TypeId} {v:Value} {g:Option Nat} {gss:List (Option Nat×Option Nat)} {vss:List (List Value)} {bs:List Bk} {i:Nat} {gs:Option Nat×Option Nat} {vs:List Value} {f:Bk} {L:List Nat} 
  (h:j3 w TB TS v g gss vss bs) (hg:gss[i]?=some gs) (hv:vss[i]?=some vs) (hk:ak L w w') (hL:∀x,x∈L->x∈gM gs) (hf:pS w' TS gs vs f):j3 w' TB TS v g gss vss (bs.set i f):=by
 have hd:=(List.nodup_append.1 h.nodup)
 have Ac:vss.set i vs=vss:=by
  refine List.ext_getElem sm λj h1 h2=>?_
  rw[List.getElem_set]
  split
  ·rename_i mi;subst mi
   rw[gE h2] at hv;simpa using hv.symm
  ·rfl
 have hr:=iL.set (w':=w') h.rows hg hf (λj g2 v2 b2 hj jc ho=>ho.aG hk λx hx mJ=>af1 hd.2.1 hj jc hg hx (hL x mJ))
 rw[Ac] at hr
 exact⟨by rw[List.length_set];exact h.own.aG hk (λb hb hx=>hd.2.2 b (by simp[hb]) b (CU hg (hL b hx)) rfl),hr,h.nodup,λx hx=>lL (h.lt x hx) hk.size⟩
section
variable {P:Program} {n:Nat} {ops:Array Oper} {K:Env->World->Prop} {rest:List Oper} {e:Env} {w:World}
 {dst:Option Nat} {ty:TypeId} {pos:String} {after:Array Edge} {g:Option (Nat×Bool)} {x y:Operand}
end
theorem Ur (k:Nat):(48:Int)+((k%10:Nat):Int)=((UInt8.ofNat (48+k%10)).toNat:Int):=by simp_all[Nat.mod_eq_of_lt,Nat.reducePow];omega
theorem cE.form {T:TypeId} (h:cE w T (.slice a n c) g xs) (hx:0<xs.length):∃b,a=some ⟨b,0,none⟩∧g=some b:=by cases h.2<;>grind
theorem cE.cases {T:TypeId} (h:cE w T v g xs):∃a c,v= .slice a xs.length c:=im.len h
theorem j3.get {TB TS:TypeId} (h:j3 w TB TS (.slice a n c) g gss vss bs) (hi:i<bs.length):
  ∃b gs a1 c1 a2 c2,a=some ⟨b,0,none⟩∧g=some b∧b<w.heap.size∧b∉gM gs∧gss[i]?=some gs∧vss[i]?=some [str (bN bs i).aM,.slice a1 (bN bs i).bW.length c1,.slice a2 (bN bs i).code.length c2]∧
   gJ w b (0+i*3) [str (bN bs i).aM,.slice a1 (bN bs i).bW.length c1,.slice a2 (bN bs i).code.length c2]∧
   cE w TS (.slice a1 (bN bs i).bW.length c1) gs.1 (bN bs i).bW∧cE w TS (.slice a2 (bN bs i).code.length c2) gs.2 (bN bs i).code∧(∀x,gs.1=some x->gs.2=some x->False):=by
 have hd:=List.nodup_append.1 h.nodup
 obtain⟨fF,iz,vE⟩:=h.rows.lens
 obtain⟨gs,vs,jA,ba,v1,v2,rfl,df,dz⟩:=h.rows.get (rW hi)
 obtain⟨a1,c1,rfl⟩:=cE.cases df
 obtain⟨a2,c2,rfl⟩:=cE.cases dz
 obtain⟨hl,hz|⟨b,cap,cur,oJ,hv,hb,mI,mH,cG,ht⟩⟩:=h.own
 ·obtain⟨_,hz,_⟩:=hz;omega
 ·cases hv
  subst oJ
  refine⟨b,gs,a1,c1,a2,c2,rfl,rfl,hb.lt,λhx=>hd.2.2 b sm b (CU jA hx) rfl,jA,ba,λj v hj=>?_,df,dz,λx h1 h2=>?_⟩
  ·have hf:=FU vE ba hj
   have et:i*3+j<vss.flatten.length:=(List.getElem?_eq_some_iff.1 hf).1
   rw[hb.cell,Nat.zero_add]
   have h2:=ht
   have:(cur.toList.take (bs.length*3))[i*3+j]?=some v:=by rw[ht];exact hf
   rw[List.getElem?_take] at this
   split at this
   ·simpa using this
   ·cases this
  ·have hn:(gM gs).Nodup:=by
    have:∀{gss:List (Option Nat×Option Nat)} {i:Nat},(eT gss).Nodup->gss[i]?=some gs->(gM gs).Nodup:=by
     intro gss
     induction gss with
     |nil=>intro i _ h;simp at h
     |cons p q ih=>
      intro i hn hg
      rw[CR,List.nodup_append] at hn
      cases i with
      |zero=>simp at hg;subst hg;exact hn.1
      |succ i=>exact ih hn.2.1 (by simpa using hg)
    exact this hd.2.1 jA
   simp[gM,h1,h2] at hn
theorem af2 (s:aj):tU ((nO s).getD [])∧((nO s).getD []).length<=12001:=by
 unfold nO
 cases hp:bA s with
 |none=>exact⟨⟨by simp,by intro i hi;simp at hi⟩,sm⟩
 |some t=>
  simp only
  split
  ·have hf:=MI hp
   refine⟨ML hf (pU hp).1,?_⟩
   have h1:=mP t
   have h2:=hf.size
   simp[lE];omega
  ·exact⟨⟨by simp,by intro i hi;simp at hi⟩,sm⟩
theorem af3 (w:World):bC Tryz.prog 72 [str [],.int .i64 0,.int .i64 0] w λr w'=>r= .tuple #[.agg #[str [],.slice none 0 0],.int .i64 (-1)]∧ak [] w w':=by
 have hK:=ak.refl [] w
 refine j1 [.cell 6 74,.tmp 7] 87 Tryz.func72 rfl Jn rfl rfl rfl ?_
 refine zr<|da aK rfl rfl rfl λw1 aI bK di=>?_
 have hK:=hK.grow;have hK:=hK.ext aI
 refine zA<|aV<|zr<|iT (El _) rfl rfl<|da aK rfl rfl rfl λw2 az cz dK=>?_
 have hK:=hK.grow;have hK:=hK.ext az;have bK:=bK.grow;have bK:=bK.ext az
 refine cu aK rfl rfl rfl cz rfl λw3 aH cz fS=>?_
 have hK:=hK.aD aH sx;have bK:=bK.aD aH sx
 refine aV<|jV<|zr<|zm<|FX rfl rfl rfl rfl rfl<|zm ?_
 apply Ce 5 15 20 [15,16,17,18,19,20] (λw'=>w3=w') rfl
 intro h1
 replace h1:=jy h1
 refine W ?_
 exact mg rfl rfl
 intro h1
 replace h1:=jy h1
 refine W ?_
 exact mg rfl rfl
 rintro xx _ rfl
 refine aV<|zc rfl (λh2=>?_) (λh2=>?_)
 refine W ?_
 refine cu aK rfl rfl rfl bK rfl λw4 aN bK ga=>?_
 have hK:=hK.aD aN sx
 refine W ?_
 exact⟨[_,_],⟨fB eK aK rfl bK rfl,rfl⟩,rfl,hK⟩
 simp at h2
theorem JW (s:aj) (L:List Nat) (w:World) (hL:∀x,x∈L->x<w.heap.size):
  bC Tryz.prog 42 [str s] w λv w'=>(∃t tv,v= .tuple #[tv,.bool (bA s).isSome]∧bh L w' tv t∧Eo s t)∧ak [] w w':=by
 by_cases hs:s=[]
 ·subst hs
  have hK:=ak.refl [] w
  refine j1 [.cell 2 74,.tmp 3] 20 Tryz.func42 rfl SK rfl rfl rfl ?_
  refine zr<|da aK rfl rfl rfl λw1 aI aO di=>?_
  have hK:=hK.grow;have hK:=hK.ext aI
  refine W ?_
  refine zc rfl (λh1=>?_) (λh1=>?_)
  simp at h1
  refine gX<|zr<|zm<|aA (af3 w1) ?_
  rintro _ w2 ⟨rfl,az⟩
  have dz:=az.size
  refine bL az hK aO λhK aO=>?_
  refine W ?_
  refine da aK rfl rfl rfl λw3 aH aF fS=>?_
  have hK:=hK.grow;have hK:=hK.ext aH;have aO:=aO.grow;have aO:=aO.ext aH
  refine cu aK rfl rfl rfl aF rfl λw4 aN aF ga=>?_
  have hK:=hK.aD aN sx;have aO:=aO.aD aN sx
  refine W ?_
  refine cu aK rfl rfl rfl aO rfl λw5 aJ aO iq=>?_
  have hK:=hK.aD aJ sx
  refine W ?_
  exact⟨[_,_],⟨fB eK aK rfl aO rfl,rfl⟩,⟨.mk [] [],_,by rw[S0];rfl,km nM,λt' h=>(by rw[S0] at h;cases h),λ_=>rfl⟩,hK⟩
 ·obtain⟨h1,h2⟩:=sX s L w hL
  exact⟨h1,Calls.mono h2 λe w' ⟨v,he,⟨t,tv,hv,ht,hp⟩,hk⟩=>⟨v,he,⟨t,tv,hv,ht,hp,λe=>absurd e hs⟩,hk⟩⟩
theorem Gr.form {T:TypeId} (h:Gr B L w T sz (.slice a n c) g rows) (hp:0<rows.length):∃b,a=some ⟨b,0,none⟩∧g=some b:=by
 obtain⟨xs,hx⟩:=h.own
 rcases hx.own.2 with⟨_,h0,_⟩|⟨b,_,_,e,hv,_⟩
 ·omega
 ·cases hv;exact⟨b,rfl,e⟩
theorem Bl (ps:List aj) (hl:ps.length<=1000000000) (s:aj) (v:Value) (L:List Nat) (w:World) (hv:bg L w v ps):bC Tryz.prog 82 [v,str s] w λr w'=>r= .bool (decide (s∈ps))∧ak [] w w':=by
 obtain⟨a,n,c,rfl,hn⟩:=dU hv
 subst hn
 have hK:=ak.refl [] w
 refine cj [.tmp 4] 18 Tryz.func82 rfl adX rfl rfl ?_
 refine W ?_
 refine eO (λk:Nat=>[(0,.slice a ps.length c),(1,str s),(5,.int .i64 (k:Int))]) (λk w'=>ak [] w w'∧k<=ps.length∧∀i,i<k->cJ ps i≠s) (λk=>ps.length-k) (0) (⟨rfl,rfl,rfl⟩) (⟨hK,om,by intro i hi;omega⟩) λgg w1 e1 hI=>?_
 obtain⟨hK,hk,cZ⟩:=hI
 refine W ?_
 refine zc rfl (λh1=>?_) (λh1=>?_)
 have hg:=kM (xs:=ps) (i:=gg) om
 obtain⟨b1,eh,rfl,bM⟩:=pR hv hg
 refine WL ?_
 refine zl gv rfl (bM.ext hK 0 _ rfl)<|zm<|Cc rfl rfl rfl rfl<|aV<|zc rfl (λh2=>?_) (λh2=>?_)
 have hq:s∈ps:=(by rw[<-h2];exact List.mem_of_getElem? hg)
 refine W ?_
 exact⟨_,rfl,by rw[dT hq];rfl,hK⟩
 have dY:=h2
 refine W ?_
 exact⟨gg+1,⟨rfl,rfl,rfl⟩,⟨hK,om,by intro i hi;rcases Nat.lt_or_ge i gg with h|h;exact cZ i h;rw[show i=gg by omega];exact dY⟩,om⟩
 have hq:¬s∈ps:=(λhm=>by obtain⟨i,hi,e⟩:=List.getElem_of_mem hm;exact cZ i om (by simp[cJ,gE hi,e]))
 refine W ?_
 exact⟨_,rfl,by rw[dF hq];rfl,hK⟩
theorem af4 (h:n<10):(48:Int)+(n:Int)=((UInt8.ofNat (48+n)).toNat:Int):=by
 have:=Ur n
 rwa [Nat.mod_eq_of_lt h] at this
def CV (z:Int) (v:Value) (w:World):Prop:=∃b,v= .slice (some ⟨b,0,none⟩) 1 1∧aL w b [.int .u8 z].toArray 5
theorem CV.ext {z:Int} (h:CV z v w) (k:ak [] w w'):CV z v w':=by
 obtain⟨b,e,h⟩:=h
 exact⟨b,e,h.ext k⟩
theorem EK:∀(m n:Nat),n<=m->(aZ n).length<=n+1
 |m,n,h=>by
  rw[aZ]
  by_cases h9:n<10
  ·rw[iP h9];simp
  ·rw[iN h9]
   cases m with
   |zero=>omega
   |succ m=>have:=EK m (n/10) om;simp only[lA,List.length_singleton];omega
theorem iI:∀(m n:Nat),n<m->n<=1000000->∀w:World,bC Tryz.prog 142 [.int .i64 (n:Int)] w λr w'=>r=str (aZ n)∧ak [] w w':=by
 intro m
 induction m with
 |zero=>intro n hn;omega
 |succ m ih=>
  intro n hn h9 w
  have hK:=ak.refl [] w
  have hl:=EK _ (n/10) (lR _)
  refine cj [.tmp 2] 28 Tryz.func142 rfl ab7 rfl rfl ?_
  refine W ?_
  refine zc rfl (λh1=>?_) (λh1=>?_)
  omega
  refine W ?_
  refine zc rfl (λh2=>?_) (λh2=>?_)
  omega
  refine W ?_
  refine zc rfl (λh3=>?_) (λh3=>?_)
  refine W ?_
  refine xZ wO yl rfl rfl rfl (wrap_u8 _ om om)<|fo Cy Gz rfl rfl λw1 aI xg di=>?_
  have hK:=hK.ext aI
  refine Uo Cy yl iG rfl rfl rfl xg (af4 om)<|zA<|aV<|kj ?_
  exact⟨_,rfl,congrArg str (show[UInt8.ofNat (48+n)]=aZ n from by rw[aZ,iP om]),hK⟩
  have gh:¬n<10:=by omega
  refine WZ ?_
  refine sE du bF 10 (rA 18 10) (rA 18 10) [[],[0],[1],[],[3],[4],[5],[6],[7],[2,8]] [λv _=>v=(.int .i64 (n:Int)),λv _=>v=(.int .i64 ((n/10:Nat):Int)),λv _=>v=(str (aZ (n/10))),λv _=>v=(.int .i64 (n:Int)),λv _=>v=(.int .i64 ((n%10:Nat):Int)),λv _=>v=(.int .i64 ((48:Int)+((n%10:Nat):Int))),λv _=>v=(.int .u8 ((48:Int)+((n%10:Nat):Int))),fun(v:Value) (ww:World)=>CV ((48:Int)+((n%10:Nat):Int)) v ww,λv _=>v=(str [UInt8.ofNat (48+n%10)]),λv _=>v=(str (aZ (n/10)++[UInt8.ofNat (48+n%10)]))] de (cR (cR (cR (cR (cR (cR (cR (mL (λv w w' h k=>CV.ext h k) (cR (cR trivial)))))))))) (λwd aB=>?_) ?_
  refine bV ?_ ?_
  intro x vs w1 e aI hd he
  replace aI:=bF.trans aB aI
  replace he:e=aS (aR _ x _) []:=he
  subst he
  refine W ?_
  exact dn (bF.refl _) rfl
  refine bV ?_ ?_
  intro x vs w1 e aI hd he
  have d0:vs 0=(.int .i64 (n:Int)):=hd
  replace aI:=bF.trans aB aI
  replace he:e=aS (aR _ x _) [(18,vs 0)]:=he
  rw[d0] at he
  subst he
  refine LN (b:=10) rfl rfl rfl rfl rfl om (wrap_i64 _ om om)<|aV ?_
  exact dn (bF.refl _) rfl
  refine bV ?_ ?_
  intro x vs w1 e aI hd he
  have d1:vs 1=(.int .i64 ((n/10:Nat):Int)):=hd
  replace aI:=bF.trans aB aI
  replace he:e=aS (aR _ x _) [(19,vs 1)]:=he
  rw[d1] at he
  subst he
  refine aA (ih (n/10) om om w1) ?_
  rintro _ w2 ⟨rfl,az⟩
  have dz:=az.size
  refine W ?_
  exact dn (bF.of az) rfl
  refine bV ?_ ?_
  intro x vs w1 e aI hd he
  replace aI:=bF.trans aB aI
  replace he:e=aS (aR _ x _) []:=he
  subst he
  refine W ?_
  exact dn (bF.refl _) rfl
  refine bV ?_ ?_
  intro x vs w1 e aI hd he
  have d3:vs 3=(.int .i64 (n:Int)):=hd
  replace aI:=bF.trans aB aI
  replace he:e=aS (aR _ x _) [(21,vs 3)]:=he
  rw[d3] at he
  subst he
  refine FY (b:=10) rfl rfl rfl rfl rfl om<|aV ?_
  exact dn (bF.refl _) rfl
  refine bV ?_ ?_
  intro x vs w1 e aI hd he
  have d4:vs 4=(.int .i64 ((n%10:Nat):Int)):=hd
  replace aI:=bF.trans aB aI
  replace he:e=aS (aR _ x _) [(22,vs 4)]:=he
  rw[d4] at he
  subst he
  refine W ?_
  exact dn (bF.refl _) rfl
  refine bV ?_ ?_
  intro x vs w1 e aI hd he
  have d5:vs 5=(.int .i64 ((48:Int)+((n%10:Nat):Int))):=hd
  replace aI:=bF.trans aB aI
  replace he:e=aS (aR _ x _) [(23,vs 5)]:=he
  rw[d5] at he
  subst he
  refine xZ wO yl rfl rfl rfl (wrap_u8 _ om om)<|aV ?_
  exact dn (bF.refl _) rfl
  refine bV ?_ ?_
  intro x vs w1 e aI hd he
  have d6:vs 6=(.int .u8 ((48:Int)+((n%10:Nat):Int))):=hd
  replace aI:=bF.trans aB aI
  replace he:e=aS (aR _ x _) [(24,vs 6)]:=he
  rw[d6] at he
  subst he
  refine fo Cy Gz rfl rfl λw2 az CX dK=>W ?_
  exact dn (bF.of az) ⟨_,rfl,CX⟩
  refine bV ?_ ?_
  intro x vs w1 e aI hd he
  have d7:(fun(v:Value) (ww:World)=>CV ((48:Int)+((n%10:Nat):Int)) v ww) (vs 7) w1:=hd
  replace aI:=bF.trans aB aI
  replace he:e=aS (aR _ x _) [(25,vs 7)]:=he
  obtain⟨b7,e7,CX⟩:=d7
  rw[e7] at he
  subst he
  refine Uo Cy yl iG rfl rfl rfl CX (Ur n)<|aV ?_
  exact dn (bF.refl _) rfl
  refine bV ?_ ?_
  intro x vs w1 e aI hd he
  have aY:(vs 2=(str (aZ (n/10))))∧(vs 8=(str [UInt8.ofNat (48+n%10)])):=hd
  obtain⟨d2,d8⟩:=aY
  replace aI:=bF.trans aB aI
  replace he:e=aS (aR _ x _) [(20,vs 2),(26,vs 8)]:=he
  rw[d2,d8] at he
  subst he
  refine W ?_
  exact dn (bF.refl _) rfl
  exact trivial
  intro x vs NJ af5 bT
  have d0:vs 0=(.int .i64 (n:Int)):=bT 0 de
  have d1:vs 1=(.int .i64 ((n/10:Nat):Int)):=bT 1 de
  have d2:vs 2=(str (aZ (n/10))):=bT 2 de
  have d3:vs 3=(.int .i64 (n:Int)):=bT 3 de
  have d4:vs 4=(.int .i64 ((n%10:Nat):Int)):=bT 4 de
  have d5:vs 5=(.int .i64 ((48:Int)+((n%10:Nat):Int))):=bT 5 de
  have d6:vs 6=(.int .u8 ((48:Int)+((n%10:Nat):Int))):=bT 6 de
  have d7:(fun(v:Value) (ww:World)=>CV ((48:Int)+((n%10:Nat):Int)) v ww) (vs 7) NJ:=bT 7 de
  have d8:vs 8=(str [UInt8.ofNat (48+n%10)]):=bT 8 de
  have d9:vs 9=(str (aZ (n/10)++[UInt8.ofNat (48+n%10)])):=bT 9 de
  have hK:=hK.ext af5
  change OW _ _ _ _ _ (aS (aR _ x _) (zZ 18 [vs 0,vs 1,vs 2,vs 3,vs 4,vs 5,vs 6,vs 7,vs 8,vs 9])) _
  rw[d0,d1,d2,d3,d4,d5,d6,d8,d9]
  refine W ?_
  exact⟨_,rfl,congrArg str (show aZ (n/10)++[UInt8.ofNat (48+n%10)]=aZ n from by conv=>(rhs;rw[aZ,iN gh])),hK⟩
theorem Bm (s:aj) (w:World):bC Tryz.prog 220 [str s] w λr w'=>r= .agg #[str s,.slice none 0 0]∧ak [] w w':=by
 have hK:=ak.refl [] w
 refine j1 [.cell 2 74] 5 Tryz.func220 rfl ac6 rfl rfl rfl ?_
 refine zr<|da aK rfl rfl rfl λw1 aI aO di=>?_
 have hK:=hK.grow;have hK:=hK.ext aI
 refine aV<|zr<|zm<|iT (aeg _ _) rfl rfl<|cu aK rfl rfl rfl aO rfl λw2 az aO dK=>?_
 have hK:=hK.aD az sx
 refine W ?_
 exact⟨[_],fB eK aK rfl aO rfl,rfl,hK⟩
theorem dO.sub {L':List Nat} {T:TypeId} (h:dO L w T sz v g rows) (hL:∀x,x∈L'->x∈L∨w.heap.size<=x):dO L' w T sz v g rows:=by
 obtain⟨xs,h1,h2⟩:=h.own
 exact⟨⟨xs,h1,h2.fresh hL⟩,h.row⟩
structure KA (L:List Nat) (T:TypeId) (sz:Nat) (g:Option Nat) (rows rows':List (List C)) (w w':World):Prop where
 aG:ak g.toList w w'
 old:∀v,dO (g.toList++L) w T sz v g rows->dO (g.toList++L) w' T sz v g rows
 new:∀v g',dO (g.toList++(g'.toList++L)) w T sz v g' rows'->dO (g.toList++(g'.toList++L)) w' T sz v g' rows'
theorem dO.any {T:TypeId} (h:dO L w T sz v g rows) (k:ak [] w w'):dO L w' T sz v g rows:=h.aG (Fr.of k sm) k sm
theorem Us (L:List Nat) (T:TypeId) (sz:Nat) (g:Option Nat) (rows rows':List (List C)):Kept (KA L T sz g rows rows'):=
 ⟨λ_=>⟨ak.refl _ _,λ_ h=>h,λ_ _ h=>h⟩,λh k=>⟨h.aG.trans k.aG,λv x=>k.old v (h.old v x),λv g' x=>k.new v g' (h.new v g' x)⟩,
  λh=>⟨h.any,λ_ x=>x.any h,λ_ _ x=>x.any h⟩⟩
section
variable {P:Program} {w:World}
theorem af6 {t ty T:TypeId} {i:TypeInfo} {sz bytes:Nat} (ht:P.underlying t=some (.slice T)) (hi:P.info? T=some i) (hz:i.zero=some z) 
  (Ca:i.size=sz) (gm:i.bytes=bytes) (xV:z.cells.size=sz) {L:List Nat}
  {v:Value} {g:Option Nat} {rows:List (List C)} {row:List C} (hO:dO (g.toList++L) w T sz v g rows)
  (ab c:Nat) (news:List Value) (gR:row.length=sz) (Cb:gJ w ab 0 news) (h1:∀u∈news,u.oneCell'=true) (hr:dd (g.toList++L) w news row)
  (hb:(rows.length+1)*(bytes+1)<=140737488355328):
  ∃v' g' w',(Builtin.append_ #[t,t] ty #[v,.slice (some ⟨ab,0,none⟩) 1 c]).run P w= .ok v' w'∧dO (g.toList++(g'.toList++L)) w' T sz v' g' (rows++[row])∧KA L T sz g rows (rows++[row]) w w'∧
   (g'=g∨g'=some w.heap.size):=by
 subst Ca
 subst gm
 obtain⟨xs,dH,CY⟩:=hO.own
 have aT:(rows.length+1)*i.bytes+(rows.length+1)<=140737488355328:=by rw[Nat.mul_add,Nat.mul_one] at hb;exact hb
 have Aa:rows.length+1<=maxLen:=by unfold maxLen;omega
 have xW:(rows.length+1)*i.bytes<=140737488355328:=by omega
 have hl:news.length=1*i.size:=by rw[hr.length,gR,Nat.one_mul]
 have D6:rows.length+1<=9223372036854775807:=by simp only[maxLen] at Aa;omega
 have hlen:(xs++news).length=(rows.length+1)*i.size:=by rw[lA,dH.1,hl,Nat.add_mul]
 have wq:∀b o j:Nat,(⟨b,o,none⟩:Addr).add j=⟨b,o+j,none⟩:=λb o j=>by unfold Addr.add;split<;>simp_all
 have uP:∀j u,news[j]?=some u->w.cell? ((⟨ab,0,none⟩:Addr).add j)=some u:=λj u hu=>by rw[wq];exact Cb j u hu
 have yw:∀r,r∈rows++[row]->r.length=i.size:=λr hx=>by
  rcases mA.1 hx with hx|hx
  ·exact hO.row r hx
  ·simp at hx;rw[hx];exact gR
 have mZ:(rows++[row]).flatten=rows.flatten++row:=by simp
 have grown:∀(old:Nat),old<rows.length+1->
   dO (g.toList++((some w.heap.size).toList++L)) (w.drew.alloc (.cells (xs.toArray++news.toArray++Builtin.zeroCells z.cells (grownCap w (rows.length+1) old T-(rows.length+1))) T)) T i.size
    (.slice (some ⟨w.heap.size,0,none⟩) (rows.length+1) (grownCap w (rows.length+1) old T)) (some w.heap.size) (rows++[row])∧
   ak [] w (w.drew.alloc (.cells (xs.toArray++news.toArray++Builtin.zeroCells z.cells (grownCap w (rows.length+1) old T-(rows.length+1))) T)):=by
  intro old ho
  have rU:=grownCap_ge w (rows.length+1) old T
  have mH:grownCap w (rows.length+1) old T<=maxLen:=grownCap_le_maxLen w (rows.length+1) old T Aa
  have hk:ak [] w (w.drew.alloc (.cells (xs.toArray++news.toArray++Builtin.zeroCells z.cells (grownCap w (rows.length+1) old T-(rows.length+1))) T)):=⟨rfl,rfl,rfl,sm,λk hk _=>(ak.alloc [] w.drew _).block k hk sm⟩
  refine⟨⟨⟨xs++news,⟨by simpa using hlen,.inr ⟨w.heap.size,_,_,rfl,?_,heap_alloc_new w.drew _,?_,mH,?_,?_⟩⟩,?_⟩,yw⟩,hk⟩
  ·simp
  ·simpa using rU
  ·simp only[Array.size_append,List.size_toArray,size_zeroCells,xV,dH.1,hl,<-Nat.add_mul]
   congr 1
   omega
  ·simp only[Array.toList_append,List.append_assoc]
   rw[<-List.append_assoc,lA,List.length_singleton,<-hlen]
   exact List.take_left
  ·rw[mZ]
   refine((CY.append hr).fresh (L':=g.toList++((some w.heap.size).toList++L)) λx hx=>?_).aG hk.any
   rcases mA.1 hx with hx|hx
   ·exact .inl (by simp[hx])
   ·rcases mA.1 hx with hx|hx
    ·right;simp at hx;omega
    ·exact .inl (by simp[hx])
 rcases dH.2 with⟨rfl,Bc,rfl⟩|⟨b,cap,cur,rfl,rfl,hb,mI,mH,cG,tJ⟩
 ·have hx:xs=[]:=List.eq_nil_of_length_eq_zero (by rw[dH.1,Bc];simp)
  subst hx
  have hr:=run_append_nil (P:=P) w t ty T i z ht hi hz ⟨ab,0,none⟩ 1 c news hl uP om om (by rw[Bc] at xW;simp only[Nat.zero_add] at xW;omega)
  have ly:=grown 0 om
  rw[Bc] at ly
  simp only[Nat.zero_add,List.nil_append,Array.empty_append] at ly⊢
  exact⟨_,some w.heap.size,_,hr,ly.1,(Us L T i.size none rows (rows++[row])).of ly.2,.inr rfl⟩
 ·by_cases sC:rows.length+1<=cap
  ·have lx:rows.length*i.size+news.length<=cur.size:=by rw[hl,cG,<-Nat.add_mul];exact Nat.mul_le_mul_right _ sC
   have jG:=run_append_room (P:=P) w t ty T i ht hi b rows.length cap cur hb ⟨ab,0,none⟩ 1 c news hl uP h1 sC lx
   have EL:ak [b] w (w.setRow b (cur.toList.take (rows.length*i.size)++news++cur.toList.drop (rows.length*i.size+news.length)).toArray):=⟨rfl,rfl,rfl,sm,λk _ hk=>setRow_other w b k _ (by simpa using hk)⟩
   have JX:aL (w.setRow b (cur.toList.take (rows.length*i.size)++news++cur.toList.drop (rows.length*i.size+news.length)).toArray) b (cur.toList.take (rows.length*i.size)++news++cur.toList.drop (rows.length*i.size+news.length)).toArray T:=setRow_heap w b cur _ T _ hb
   have fU:(cur.toList.take (rows.length*i.size)++news++cur.toList.drop (rows.length*i.size+news.length)).toArray.size=cap*i.size:=by
    simp only[List.size_toArray,lA,List.length_take,List.length_drop,Array.length_toList]
    omega
   have Ut:(cur.toList.take (rows.length*i.size)++news++cur.toList.drop (rows.length*i.size+news.length)).take ((rows.length+1)*i.size)=xs++news:=by
    rw[tJ,<-hlen];exact List.take_left
   have af7:(cur.toList.take (rows.length*i.size)++news++cur.toList.drop (rows.length*i.size+news.length)).take (rows.length*i.size)=xs:=by
    rw[tJ,<-dH.1,List.append_assoc];exact List.take_left
   -- whoever owns block b,owns it with this size
   have cap_of:∀(v:Value) (n:Nat) (ys:List Value),im w T i.size v (some b) n ys->∃cap',v= .slice (some ⟨b,0,none⟩) n cap'∧n<=cap'∧cap'<=maxLen∧cap'*i.size=cap*i.size∧ys=cur.toList.take (n*i.size):=by
    intro v n ys hv
    rcases hv.2 with⟨_,_,h⟩|⟨b',cap',cur',e',GW,gC,D7,pM,Er,ou⟩
    ·cases h
    ·cases e'
     have:cur'=cur:=by have h2:=gC.symm.trans hb;simpa using h2
     subst this
     exact⟨cap',GW,D7,pM,by rw[<-Er,cG],ou.symm⟩
   have wr:∀(v:Value) (n:Nat),(∃cap',v=Value.slice (some ⟨b,0,none⟩) n cap'∧n<=cap'∧cap'<=maxLen∧cap'*i.size=cap*i.size)->∀ys:List Value,ys.length=n*i.size->(cur.toList.take (rows.length*i.size)++news++cur.toList.drop (rows.length*i.size+news.length)).take (n*i.size)=ys->
     im (w.setRow b (cur.toList.take (rows.length*i.size)++news++cur.toList.drop (rows.length*i.size+news.length)).toArray) T i.size v (some b) n ys:=by
    rintro v n ⟨cap',GW,D7,pM,Er⟩ ys hy fh
    exact⟨hy,.inr ⟨b,cap',_,rfl,GW,JX,D7,pM,by rw[fU,Er],fh⟩⟩
   refine⟨_,some b,_,jG,⟨⟨xs++news,wr _ _ ⟨cap,sm,by simpa using sC,mH,rfl⟩ _ (by simpa using hlen) (by simpa using Ut),?_⟩,yw⟩,⟨EL,λv hv=>?_,λv g' hv=>?_⟩,.inl rfl⟩
   ·rw[mZ]
    exact((CY.append hr).fresh λx hx=>.inl (by simp only[mA] at hx⊢;rcases hx with h|h|h;exact .inl h;exact .inl h;exact .inr h)).aG (EL.mono λx hx=>by simp at hx;simp[hx])
   ·obtain⟨ys,h1,h2⟩:=hv.own
    obtain⟨cap',a1,a2,a3,a4,a5⟩:=cap_of _ _ _ h1
    refine⟨⟨ys,wr _ _ ⟨cap',a1,a2,a3,a4⟩ _ h1.1 ?_,h2.aG (EL.mono λx hx=>by simp at hx;simp[hx])⟩,hv.row⟩
    rw[af7,a5,tJ]
   ·obtain⟨ys,h1,h2⟩:=hv.own
    by_cases Bn:g'=some b
    ·subst Bn
     obtain⟨cap',a1,a2,a3,a4,a5⟩:=cap_of _ _ _ h1
     refine⟨⟨xs++news,wr _ _ ⟨cap',a1,a2,a3,a4⟩ _ (by simpa using hlen) (by simpa using Ut),?_⟩,hv.row⟩
     rw[mZ]
     exact((CY.append hr).fresh λx hx=>.inl (by simp only[mA] at hx⊢;rcases hx with h|h|h;exact .inl h;exact .inl h;exact .inr h)).aG (EL.mono λx hx=>by simp at hx;simp[hx])
    ·exact⟨⟨ys,h1.aG EL (λx hx eA=>Bn (by simp at eA;rw[hx,eA])),h2.aG (EL.mono λx hx=>by simp at hx;simp[hx])⟩,hv.row⟩
  ·have holds:∀j u,xs[j]?=some u->w.cell? ((⟨b,0,none⟩:Addr).add j)=some u:=λj u hu=>by
    rw[wq,hb.cell]
    rw[<-tJ,List.getElem?_take] at hu
    split at hu
    ·simpa using hu
    ·cases hu
   have hr:=run_append_grow (P:=P) w t ty T i z ht hi hz ⟨b,0,none⟩ rows.length cap xs dH.1 holds ⟨ab,0,none⟩ 1 c news hl uP om om (growslice_fits om xW)
   have ly:=grown cap om
   exact⟨_,some w.heap.size,_,hr,ly.1,(Us L T i.size (some b) rows (rows++[row])).of ly.2,.inr rfl⟩
end
section
variable {P:Program} {n:Nat} {ops:Array Oper} {K:Env->World->Prop} {rest:List Oper} {e:Env} {w:World}
 {dst:Option Nat} {ty:TypeId} {pos:String} {after:Array Edge} {g:Option (Nat×Bool)} {x y:Operand}
theorem CZ {L:List Nat} {t:Nat} {v:Value} {gb:Option Nat} {rows:List (List C)} {row:List C} {news:List Value} {b c:Nat} (hT:P.underlying t=some (.slice E)) (hE:TI P E sz bytes z) (hg:gate ops e g=true) (hd:cC n dst=true) (hz:Nat.beq z.cells.size sz=true) (gm:Nat.ble bytes 1000=true) 
  (hx:ev e x=v) (hy:ev e y= .slice (some ⟨b,0,none⟩) 1 c) (hO:dO (gb.toList++L) w E sz v gb rows) (gR:row.length=sz) (hc:gJ w b 0 news) (h1:∀u∈news,u.oneCell'=true)
  (hr:dd (gb.toList++L) w news row) (hn:rows.length<100000000)
  (k:∀v' g' w',dO (gb.toList++(g'.toList++L)) w' E sz v' g' (rows++[row])->KA L E sz gb rows (rows++[row]) w w'->(g'=gb∨g'=some w.heap.size)->OW P n ops K rest (bY e dst v') w'):
  OW P n ops K (⟨dst,.call {callee:=.builtin .append,args:=#[x,y],argTypes:=#[t,t]},ty,pos,after,g⟩::rest) e w:=by
 obtain⟨i,hi,ye,fU,NK⟩:=hE.get
 have Aj:bytes<=1000:=Nat.le_of_ble_eq_true gm
 obtain⟨v',g',w',jG,tP,hk,jZ⟩:=af6 (P:=P) (ty:=ty) hT hi ye fU NK (Nat.eq_of_beq_eq_true hz) hO b c news gR hc h1 hr
  (Nat.le_trans (Nat.mul_le_mul (show rows.length+1<=100000000 by omega) (show bytes+1<=1001 by omega)) de)
 exact fA hg hd (w':=w') (by
  simp only[execOp,resolve,invoke,builtin,Sem.run_bind,Sem.run_pure,Result.andThen_ok,List.map_toArray,List.map_cons,List.map_nil,hx,hy,jG]) (k v' g' w' tP hk jZ)
end
/-! ### Behind it -/
theorem NL:∀{vs:List Value} {xs:List aj},dd L w vs (gL xs).flatten->vs=xs.map λx=>str x
 |[],[],_=>rfl
 |v::vs,x::xs,h=>by
  obtain⟨h1,h2⟩:=h
  cases h1
  rw[NL (xs:=xs) h2];rfl
theorem dO.vh {T:TypeId} (h:dO L w T 1 v g (gL xs)):cE w T v g xs:=by
 obtain⟨vs,h1,h2⟩:=h.own
 rw[qA,NL h2] at h1;exact h1
theorem Uu (L:List Nat) (w:World):∀xs:List aj,dd L w (xs.map λx=>str x) (gL xs).flatten
 |[]=>trivial
 |_::xs=>⟨.val _,Uu L w xs⟩
theorem cE.Uv {T:TypeId} (h:cE w T v g xs) (L:List Nat):dO L w T 1 v g (gL xs):=
 ⟨⟨_,h.afb,Uu L w xs⟩,λrow hr=>by obtain⟨x,_,rfl⟩:=List.mem_map.1 hr;rfl⟩
theorem Uw (xs:List aj) (x:aj):gL xs++[[.val (str x)]]=gL (xs++[x]):=by simp[gL]
theorem af8 (xs:List Nat) (x:Nat):ua xs++[[.val (.int .i64 (x:Int))]]=ua (xs++[x]):=by simp[ua]
section
variable {τ:sP} {E L:List Nat} {w w':World} {b:Nat} {o:Bool} {vb vt vc vy:Value} {gb gt gc gy:Option Nat} {m:Mk}
def qe (E:List Nat) (b:Nat) (gb gt gy:Option Nat):List Nat:=E++b::(gb.toList++(gt.toList++gy.toList))
theorem yI:x∈qe E b gb gt gy↔x∈E∨x=b∨x∈gb.toList∨x∈gt.toList∨x∈gy.toList:=by simp[qe]
theorem gO.NM (h:gO τ E L w b o vb vt vc vy gb gt gc gy m):bg (qe E b gb gt gy) w vc m.code:=by
 obtain⟨a1,a2,a3,a4,a5,a6⟩:=h.apart
 rcases h.co with⟨_,h1⟩|⟨_,hn,h1⟩
 ·refine h1.rep λx hx hh=>?_
  have vD:x∈gc.toList:=by simp[hx]
  rw[yI] at hh
  rcases hh with hh|hh|hh|hh|hh
  ·exact(a5 x vD).1 hh
  ·exact(a5 x vD).2.1 hh
  ·exact(a5 x vD).2.2.1 hh
  ·exact(a5 x vD).2.2.2 hh
  ·exact(a6 x hh).2.2.2.2 vD
 ·exact h1.fresh λx hx=>.inl (h.mem.2 (by rw[yI] at hx;rcases hx with h|h|h|h|h<;>simp[h]))
theorem gO.Ux (h:gO τ E L w b o vb vt vc vy gb gt gc gy m):∀x,x∈qe E b gb gt gy->x∈L:=λx hx=>h.mem.2 (by rw[yI] at hx;rcases hx with h|h|h|h|h<;>simp[h])
theorem gO.af9 (h:gO τ E L w b o vb vt vc vy gb gt gc gy m) (hy:dO (gb.toList++(g.toList++qe E b gb gt gy)) w' τ.B 3 v g (bs.map Bk.enc)) (k:ak gb.toList w w') (hg:g=gb∨∃x,g=some x∧w.heap.size<=x):
  ∃L',gO τ E L' w' b false v vt vc vy g gt none gy {m with blocks:=bs}∧Fr L w L' w':=by
 obtain⟨a1,a2,a3,a4,a5,a6⟩:=h.apart
 have jZ:∀x,x∈g.toList->x∈gb.toList∨w.heap.size<=x∧x∉gt.toList∧x∉(none:Option Nat).toList∧x∉gy.toList:=λx hx=>by
  rcases hg with rfl|⟨y,rfl,hy⟩
  ·exact .inl hx
  ·have hx:x=y:=by simpa using hx
   refine .inr ⟨by omega,λhh=>?_,sm,λhh=>?_⟩<;>have:=h.JG (x:=x) (by simp[hh])<;>omega
 obtain⟨hF,hN⟩:=h.swap k (λx hx=>⟨h.mem.2 (by simp[hx]),(a3 x hx).2,(a3 x hx).1⟩) (gb':=g) (gt':=gt) (gc':=none) (gy':=gy) jZ (λx hx=>.inl hx) (λx hx=>by simp at hx) (λx hx=>.inl hx)
 have hcr:bg (E++b::(g.toList++(gt.toList++((none:Option Nat).toList++gy.toList)))) w' vc m.code:=by
  have h1:bg (qe E b gb gt gy) w' vc m.code:=ck.aD h.NM k λx hx=>yI.2 (by simp[hx])
  have h2:bg (g.toList++qe E b gb gt gy) w' vc m.code:=by
   rcases hg with rfl|⟨y,rfl,hy⟩
   ·exact h1.fresh λx hx=>.inl (by rcases mA.1 hx with h|h;exact yI.2 (by simp[h]);exact h)
   ·exact ck.aD (h.NM.fresh (L':=(some y).toList++qe E b gb gt gy) λx hx=>by
     rcases mA.1 hx with h|h
     ·simp at h;right;omega
     ·exact .inl h) k λx hx=>mR _ (yI.2 (by simp[hx]))
  exact h2.fresh λx hx=>.inl (by
   rw[yu] at hx
   rw[mA,yI]
   rcases hx with h|h|h|h|h|h
   ·simp[h]
   ·simp[h]
   ·simp[h]
   ·simp[h]
   ·simp at h
   ·simp[h])
 refine⟨_,⟨hy.sub λx hx=>.inl ?_,h.ta.aG hF k (λx hx hy=>(a4 x hx).2.2 hy),.inr ⟨rfl,rfl,hcr⟩,h.ty.aG k λx hx hy=>(a6 x (by simp[hx])).2.2.1 hy,rfl,hN,?_⟩,hF⟩
 ·rw[yu] at hx
  rw[mA,mA,yI]
  rcases hx with h|h|h|h|h|h
  ·simp[h]
  ·simp[h]
  ·simp[h]
  ·simp[h]
  ·simp at h
  ·simp[h]
 ·intro x hx
  rw[yu] at hx
  have hs:=k.size
  rcases hx with hx|hx|hx|hx|hx|hx
  ·exact lL (h.cN x (h.mem.2 (by simp[hx]))) hs
  ·exact lL (h.cN x (h.mem.2 (by simp[hx]))) hs
  ·exact hy.lt x hx
  ·exact lL (h.cN x (h.mem.2 (by simp[hx]))) hs
  ·simp at hx
  ·exact lL (h.cN x (h.mem.2 (by simp[hx]))) hs
theorem gO.Gq (h:gO τ E L w b o vb vt vc vy gb gt gc gy m) {ts:List Tk} (hy:dO (gt.toList++(g.toList++L)) w' τ.T 12 v g (ts.map Tk.enc)) (k:ak gt.toList w w') (hg:g=gt∨∃x,g=some x∧w.heap.size<=x):
  ∃L',gO τ E L' w' b o vb v vc vy gb g gc gy {m with bP:=ts}∧Fr L w L' w':=by
 obtain⟨a1,a2,a3,a4,a5,a6⟩:=h.apart
 have jZ:∀x,x∈g.toList->x∈gt.toList∨w.heap.size<=x∧x∉gb.toList∧x∉gc.toList∧x∉gy.toList:=λx hx=>by
  rcases hg with rfl|⟨y,rfl,hy⟩
  ·exact .inl hx
  ·have hx:x=y:=by simpa using hx
   refine .inr ⟨by omega,λhh=>?_,λhh=>?_,λhh=>?_⟩<;>have:=h.JG (x:=x) (by simp[hh])<;>omega
 obtain⟨hF,hN⟩:=h.swap k (λx hx=>⟨h.mem.2 (by simp[hx]),(a4 x hx).2.1,(a4 x hx).1⟩) (gb':=gb) (gt':=g) (gc':=gc) (gy':=gy) (λx hx=>.inl hx) jZ (λx hx=>.inl hx) (λx hx=>.inl hx)
 refine⟨_,⟨h.bl.aG hF k (λx hx hy=>(a4 x hy).2.2 hx),hy.sub λx hx=>.inl ?_,?_,h.ty.aG k λx hx hy=>(a6 x (by simp[hx])).2.2.2.1 hy,rfl,hN,?_⟩,hF⟩
 ·rw[yu] at hx
  rw[mA,mA,h.mem]
  rcases hx with h|h|h|h|h|h<;>simp[h]
 ·rcases h.co with⟨ho,h1⟩|⟨ho,hn,h1⟩
  ·exact .inl ⟨ho,h1.aG k λx hx hy=>(a5 x (by simp[hx])).2.2.2 hy⟩
  ·exact .inr ⟨ho,hn,h1.go hF⟩
 ·intro x hx
  rw[yu] at hx
  have hs:=k.size
  rcases hx with hx|hx|hx|hx|hx|hx
  ·exact lL (h.cN x (h.mem.2 (by simp[hx]))) hs
  ·exact lL (h.cN x (h.mem.2 (by simp[hx]))) hs
  ·exact lL (h.cN x (h.mem.2 (by simp[hx]))) hs
  ·exact hy.lt x hx
  ·exact lL (h.cN x (h.mem.2 (by simp[hx]))) hs
  ·exact lL (h.cN x (h.mem.2 (by simp[hx]))) hs
theorem gO.num (h:gO τ E L w b o vb vt vc vy gb gt gc gy m) (c:Nat) (q:Bool):gO τ E L w b o vb vt vc vy gb gt gc gy {m with count:=c,wide:=q}:=⟨h.bl,h.ta,h.co,h.ty,h.eL,h.nd,h.cN⟩
end
theorem Fr.in {G G':List Nat} (h:Fr G w G' w') (E:List Nat):Fr (E++G) w (E++G') w':=
 ⟨h.aG.mono λx hx=>mR _ hx,λx hx=>by
  rcases mA.1 hx with hx|hx
  ·exact .inl (List.mem_append_left _ hx)
  ·rcases h.mem x hx with h1|h1
   ·exact .inl (mR _ h1)
   ·exact .inr h1⟩
structure yJ where
 M:TypeId
 S:TypeId
 T:TypeId
structure iV (τ:yJ) (E G:List Nat) (w:World) (b:Nat) (vt vn ve:Value) (gn ge:Option Nat) (ag aP:List aj) (exprs:List aq):Prop where
 ta:bg (E++G) w vt ag
 na:cE w τ.S vn gn aP
 ex:dO (E++G) w τ.T 2 ve ge (cQ exprs)
 eG:G=b::(gn.toList++ge.toList)
 nd:(E++G).Nodup
 cN:∀x,x∈E++G->x<w.heap.size
section
variable {τ:yJ} {E G:List Nat} {w w':World} {b:Nat} {vt vn ve:Value} {gn ge:Option Nat} {ag aP:List aj} {exprs:List aq}
theorem iV.mem (h:iV τ E G w b vt vn ve gn ge ag aP exprs):x∈G↔x=b∨x∈gn.toList∨x∈ge.toList:=by rw[h.eG];simp
theorem iV.apart (h:iV τ E G w b vt vn ve gn ge ag aP exprs):E.Nodup∧b∉E∧(∀x,x∈gn.toList->x∉E∧x≠b)∧(∀x,x∈ge.toList->x∉E∧x≠b∧x∉gn.toList):=by
 have hn:=h.nd
 rw[h.eG,List.nodup_append,List.nodup_cons,List.nodup_append] at hn
 obtain⟨h1,⟨h2,h3,h4,h5⟩,h6⟩:=hn
 refine⟨h1,λhb=>h6 b hb b sm rfl,λx hx=>⟨λhe=>h6 x he x (by simp[hx]) rfl,λe=>h2 (by simp[<-e,hx])⟩,λx hx=>⟨λhe=>h6 x he x (by simp[hx]) rfl,λe=>h2 (by simp[<-e,hx]),λhy=>h5 x hy x hx rfl⟩⟩
theorem Uy {A B:Option Nat} {F:List Nat} {b:Nat} (h1:F.Nodup) (h2:b∉F) (ha:∀x,x∈A.toList->x∉F∧x≠b) (hb:∀x,x∈B.toList->x∉F∧x≠b∧x∉A.toList):(F++b::(A.toList++B.toList)).Nodup:=by grind
theorem iV.Uz (h:iV τ E G w b vt vn ve gn ge ag aP exprs) {ys:List aj} (hy:cE w' τ.S v g ys) (k:ak gn.toList w w') (hg:g=gn∨g=some w.heap.size):
  ∃G',iV τ E G' w' b vt v ve g ge ag ys exprs∧Fr G w G' w':=by
 obtain⟨a1,a2,a3,a4⟩:=h.apart
 have px:∀x,x∈g.toList->x∈gn.toList∨x=w.heap.size:=λx hx=>by
  rcases hg with rfl|rfl
  ·exact .inl hx
  ·right;simpa using hx
 have et:∀x,x∈E++G->x≠w.heap.size:=λx hx e=>by have:=h.cN x hx;omega
 have hF:Fr G w (b::(g.toList++ge.toList)) w':=⟨k.mono λx hx=>h.mem.2 (by simp[hx]),λx hx=>by
  rcases mC.1 hx with rfl|hx
  ·exact .inl (h.mem.2 (.inl rfl))
  ·rcases mA.1 hx with hx|hx
   ·rcases px x hx with h1|h1
    ·exact .inl (h.mem.2 (by simp[h1]))
    ·right;omega
   ·exact .inl (h.mem.2 (by simp[hx]))⟩
 have hN:(E++b::(g.toList++ge.toList)).Nodup:=Uy a1 a2 (λx hx=>by
  rcases px x hx with h1|h1
  ·exact a3 x h1
  ·exact⟨λhe=>et x (by simp[he]) h1,λe=>et x (mR _ (h.mem.2 (.inl e))) h1⟩) (λx hx=>⟨(a4 x hx).1,(a4 x hx).2.1,λhy=>by
  rcases px x hy with h1|h1
  ·exact(a4 x hx).2.2 h1
  ·exact et x (mR _ (h.mem.2 (by simp[hx]))) h1⟩)
 refine⟨_,⟨h.ta.go (hF.in E),hy,h.ex.aG (hF.in E) k (λx hx hy=>(a4 x hx).2.2 hy),rfl,hN,λx hx=>?_⟩,hF⟩
 have hs:=k.size
 rcases mA.1 hx with hx|hx
 ·exact lL (h.cN x (by simp[hx])) hs
 ·rcases mC.1 hx with rfl|hx
  ·exact lL (h.cN x (mR _ (h.mem.2 (.inl rfl)))) hs
  ·rcases mA.1 hx with hx|hx
   ·exact hy.lt x hx
   ·exact lL (h.cN x (mR _ (h.mem.2 (by simp[hx])))) hs
theorem iV.aG (h:iV τ E G w b vt vn ve gn ge ag aP exprs) {H:List Nat} (k:ak H w w') (hH:∀x,x∈H->x=b):iV τ E G w' b vt vn ve gn ge ag aP exprs:=by
 obtain⟨a1,a2,a3,a4⟩:=h.apart
 have hF:Fr (E++G) w (E++G) w':=Fr.of k λx hx=>mR _ (h.mem.2 (.inl (hH x hx)))
 exact⟨h.ta.go hF,h.na.aG k (λx hx hy=>(a3 x (by simp[hx])).2 (hH x hy)),h.ex.aG hF k (λx hx hy=>(a4 x hx).2.1 (hH x hy)),h.eG,h.nd,λx hx=>lL (h.cN x hx) k.size⟩
theorem NN {w:World} {T:TypeId} (hx:aL w x #[] T):im w T sz (.slice (some ⟨x,0,none⟩) 0 0) (some x) 0 []:=by grind [aL,im]
theorem UA {w:World} {T:TypeId} (hx:aL w x #[] T):cE w T (.slice (some ⟨x,0,none⟩) 0 0) (some x) []:=NN hx
theorem NO {w:World} {T:TypeId} (hx:aL w x #[] T):dO L w T sz (.slice (some ⟨x,0,none⟩) 0 0) (some x) []:=⟨⟨[],NN hx,trivial⟩,sm⟩
theorem iV.opened (h:iV τ E G w b vt vn ve gn ge ag aP exprs) (k:ak [b] w w') {y:Nat} (hx:aL w' x #[] τ.S) (hy:aL w' y #[] τ.T) (h1:w.heap.size<=x) (h2:x<y):
  iV τ (gn.toList++(ge.toList++E)) (b::[x,y]) w' b vt (.slice (some ⟨x,0,none⟩) 0 0) (.slice (some ⟨y,0,none⟩) 0 0) (some x) (some y) ag [] []∧
   cE w' τ.S vn gn aP∧dO (E++G) w' τ.T 2 ve ge (cQ exprs)∧Fr G w (b::[x,y]) w':=by
 obtain⟨a1,a2,a3,a4⟩:=h.apart
 have et:∀z,z∈E++G->z<w.heap.size:=h.cN
 have hF:Fr (E++G) w ((gn.toList++(ge.toList++E))++(b::[x,y])) w':=⟨k.mono λz hz=>mR _ (h.mem.2 (.inl (by simpa using hz))),λz hz=>by
  simp only[mA,mC,List.not_mem_nil,or_false] at hz
  rcases hz with(hz|hz|hz)|hz|hz|hz
  ·exact .inl (mR _ (h.mem.2 (.inr (.inl hz))))
  ·exact .inl (mR _ (h.mem.2 (.inr (.inr hz))))
  ·exact .inl (List.mem_append_left _ hz)
  ·exact .inl (mR _ (h.mem.2 (.inl hz)))
  ·right;omega
  ·right;omega⟩
 have kv:Fr (E++G) w (E++G) w':=Fr.of k λz hz=>mR _ (h.mem.2 (.inl (by simpa using hz)))
 have hb:b<w.heap.size:=et b (mR _ (h.mem.2 (.inl rfl)))
 have px:∀z,z∈gn.toList->z<w.heap.size:=λz hz=>et z (mR _ (h.mem.2 (.inr (.inl hz))))
 have rU:∀z,z∈ge.toList->z<w.heap.size:=λz hz=>et z (mR _ (h.mem.2 (.inr (.inr hz))))
 have hE:∀z,z∈E->z<w.heap.size:=λz hz=>et z (List.mem_append_left _ hz)
 refine⟨⟨h.ta.go hF,UA hx,NO hy,rfl,?_,?_⟩,h.na.aG k (λz hz hy=>(a3 z (by simp[hz])).2 (by simpa using hy)),h.ex.aG kv k (λz hz hy=>(a4 z hz).2.1 (by simpa using hy)),⟨k.mono λz hz=>h.mem.2 (.inl (by simpa using hz)),λz hz=>?_⟩⟩
 ·rw[List.nodup_append,List.nodup_append,List.nodup_append]
  refine⟨⟨Nk gn,⟨Nk ge,a1,λp hp q hq e=>(a4 p hp).1 (e▸hq)⟩,λp hp q hq e=>?_⟩,?_,λp hp q hq e=>?_⟩
  ·subst e
   rcases mA.1 hq with hq|hq
   ·exact(a4 p hq).2.2 hp
   ·exact(a3 p hp).1 hq
  ·simp only[List.nodup_cons,mC,List.not_mem_nil,or_false,not_false_eq_true,List.nodup_nil,and_true]
   omega
  ·subst e
   simp only[mC,List.not_mem_nil,or_false] at hq
   simp only[mA] at hp
   rcases hp with hp|hp|hp
   ·rcases hq with hq|hq|hq
    ·exact(a3 p hp).2 hq
    ·have:=px p hp;omega
    ·have:=px p hp;omega
   ·rcases hq with hq|hq|hq
    ·exact(a4 p hp).2.1 hq
    ·have:=rU p hp;omega
    ·have:=rU p hp;omega
   ·rcases hq with hq|hq|hq
    ·subst hq;exact a2 hp
    ·have:=hE p hp;omega
    ·have:=hE p hp;omega
 ·intro z hz
  simp only[mA,mC,List.not_mem_nil,or_false] at hz
  have hs:=k.size
  rcases hz with(hz|hz|hz)|hz|hz|hz
  ·have:=px z hz;omega
  ·have:=rU z hz;omega
  ·have:=hE z hz;omega
  ·omega
  ·rw[hz];exact hx.lt
  ·rw[hz];exact hy.lt
 ·simp only[mC,List.not_mem_nil,or_false] at hz
  rcases hz with hz|hz|hz
  ·exact .inl (h.mem.2 (.inl hz))
  ·right;omega
  ·right;omega
theorem iV.closed {G2:List Nat} {C1 vn2 ve2:Value} {gn2 ge2:Option Nat} {agf:List aj} {agh:List aq} {w0:World} (h:iV τ E G w0 b vt vn ve gn ge ag aP exprs) 
  (h2:iV τ (gn.toList++(ge.toList++E)) G2 w b C1 vn2 ve2 gn2 ge2 ag agf agh) (hn:cE w τ.S vn gn aP) (he:dO (E++G) w τ.T 2 ve ge (cQ exprs)) (hk:Fr G w0 G2 w) (k:ak [b] w w'):
  iV τ E G w' b C1 vn ve gn ge ag aP exprs∧Fr G w0 G w':=by
 obtain⟨a1,a2,a3,a4⟩:=h.apart
 have Hj:ak G w w':=k.mono λz hz=>h.mem.2 (.inl (by simpa using hz))
 have kv:Fr (E++G) w (E++G) w':=Fr.of Hj λz hz=>mR _ hz
 have rY:∀z,z∈E++G->z∈(gn.toList++(ge.toList++E))++G2:=λz hz=>by
  rcases mA.1 hz with hz|hz
  ·simp[hz]
  ·rcases h.mem.1 hz with hz|hz|hz
   ·exact mR _ (h2.mem.2 (.inl hz))
   ·simp[hz]
   ·simp[hz]
 have yK:bg (E++G) w C1 ag:=h2.ta.fresh λz hz=>.inl (rY z hz)
 refine⟨⟨yK.go kv,hn.aG k (λz hz hy=>(a3 z (by simp[hz])).2 (by simpa using hy)),he.aG kv k (λz hz hy=>(a4 z hz).2.1 (by simpa using hy)),h.eG,h.nd,λz hz=>?_⟩,⟨hk.aG.since Hj λz hz=>.inl hz,λz hz=>.inl hz⟩⟩
 have:=h.cN z hz
 have h3:=hk.aG.size
 have h4:=k.size
 omega
def m5V (n:Nat) (vt vn ve:Value):List Value:=[vt,.int .i64 (n:Int),vn,ve]
def M5 (τ:yJ) (E G:List Nat) (w:World) (b:Nat) (ag:List aj) (n:Nat) (aP:List aj) (exprs:List aq):Prop:=∃vt vn ve gn ge,aL w b (m5V n vt vn ve).toArray τ.M∧iV τ E G w b vt vn ve gn ge ag aP exprs
theorem iV.ext (h:iV τ E G w b vt vn ve gn ge ag aP exprs) (k:ak [] w w'):iV τ E G w' b vt vn ve gn ge ag aP exprs:=h.aG k sm
theorem M5.ext (h:M5 τ E G w b ag n aP exprs) (k:ak [] w w'):M5 τ E G w' b ag n aP exprs:=by
 obtain⟨vt,vn,ve,gn,ge,h1,h2⟩:=h
 exact⟨vt,vn,ve,gn,ge,h1.aG k sm,h2.ext k⟩
end
structure dW (L:List Nat) (w:World) (b:Nat) (vs:Array Value) (T:TypeId):Prop where
 iy:aL w b vs T
 out:b∉L
theorem dW.lt {T:TypeId} (h:dW L w b vs T):b<w.heap.size:=h.iy.lt
theorem dW.at {vs:List Value} {T:TypeId} (h:dW L w b vs.toArray T) (hv:vs[i]?=some v):w.cell? ⟨b,i,none⟩=some v:=h.iy.at hv
theorem dW.all {vs:List Value} {T:TypeId} (h:dW L w b vs.toArray T):gJ w b 0 vs:=h.iy.all
theorem dW.go {L':List Nat} {T:TypeId} (h:dW L w b vs T) (k:Fr L w L' w'):dW L' w' b vs T:=
 ⟨h.iy.aG k.aG h.out,λhx=>by
  rcases k.mem b hx with h1|h1
  ·exact h.out h1
  ·have:=h.iy.lt;omega⟩
theorem dW.ext {T:TypeId} (h:dW L w b vs T) (k:ak [] w w'):dW L w' b vs T:=⟨h.iy.ext k,h.out⟩
theorem dW.aD {G:List Nat} {T:TypeId} (h:dW L w b vs T) (k:ak G w w') (hG:∀x,x∈G->x∈L):dW L w' b vs T:=h.go (Fr.of k hG)
theorem aL.o {T:TypeId} (h:aL w b vs T) (hL:∀x,x∈L->x<b):dW L w b vs T:=⟨h,λhx=>by have:=hL b hx;omega⟩
theorem cE.rs {T:TypeId} (h:cE w T v g xs):bg [] w v xs:=h.rep sm
theorem j8 {T:TypeId} (h:cE w T v g xs):∃a c,v= .slice a xs.length c:=im.len h
section
variable {P:Program} {n:Nat} {ops:Array Oper} {K:Env->World->Prop} {rest:List Oper} {e:Env} {w:World} {dst:Option Nat} {ty:TypeId} {pos:String} {after:Array Edge} {g:Option (Nat×Bool)} {x y:Operand}
theorem UB {t:Nat} {v:Value} {gb:Option Nat} {xs:List aj} {s:aj} {b U:Nat} (hT:P.underlying t=some (.slice E)) (hE:TI P E 1 bytes z) (hg:gate ops e g=true) (hd:cC n dst=true) (hz:Nat.beq z.cells.size 1=true) (gm:Nat.ble bytes 1000=true) 
  (hx:ev e x=v) (hy:ev e y= .slice (some ⟨b,0,none⟩) 1 1) (hO:cE w E v gb xs) (hb:aL w b [str s].toArray U) (hn:xs.length<100000000)
  (k:∀v' g' w',cE w' E v' g' (xs++[s])->ak gb.toList w w'->Fr gb.toList w g'.toList w'->OW P n ops K rest (bY e dst v') w'):
  OW P n ops K (⟨dst,.call {callee:=.builtin .append,args:=#[x,y],argTypes:=#[t,t]},ty,pos,after,g⟩::rest) e w:=by
 refine CZ (L:=[]) (row:=[.val (str s)]) hT hE hg hd hz gm hx hy (hO.Uv _) rfl hb.all (by simp[Value.oneCell']) ⟨.val _,trivial⟩ (by rw[qA];exact hn) ?_
 intro v' g' w' jj hk jZ
 rw[Uw] at jj
 refine k v' g' w' jj.vh hk.aG ⟨hk.aG,λq hq=>?_⟩
 rcases jZ with h|h
 ·rw[h] at hq;exact .inl hq
 ·rw[h] at hq;simp at hq;right;omega
theorem lg {T:Nat} (hT:P.underlying T=some (.slice E)) (hE:TI P E 1 bytes z) (hg:gate ops e g=true) (hd:cC n dst=true) (h1:ev e q1=str a1) (h2:ev e q2=str a2) 
  (k:∀w',ak [] w w'->aL w' w.heap.size [str a1,str a2].toArray E->w'.heap.size=w.heap.size+1->OW P n ops K rest (bY e dst (.slice (some ⟨w.heap.size,0,none⟩) 2 2)) w'):
  OW P n ops K (⟨dst,.buildSlice T 2 #[(0,q1),(1,q2)],ty,pos,after,g⟩::rest) e w:=
 rz [q1,q2] [[str a1],[str a2]] hT hE hg hd rfl rfl rfl rfl rfl (by simp[h1,h2,Value.cells]) rfl k
theorem qf {T:Nat} (hT:P.underlying T=some (.slice E)) (hE:TI P E 1 bytes z) (hg:gate ops e g=true) (hd:cC n dst=true) (h1:ev e q1=str a1) (h2:ev e q2=str a2) (h3:ev e q3=str a3) 
  (k:∀w',ak [] w w'->aL w' w.heap.size [str a1,str a2,str a3].toArray E->w'.heap.size=w.heap.size+1->OW P n ops K rest (bY e dst (.slice (some ⟨w.heap.size,0,none⟩) 3 3)) w'):
  OW P n ops K (⟨dst,.buildSlice T 3 #[(0,q1),(1,q2),(2,q3)],ty,pos,after,g⟩::rest) e w:=
 rz [q1,q2,q3] [[str a1],[str a2],[str a3]] hT hE hg hd rfl rfl rfl rfl rfl (by simp[h1,h2,h3,Value.cells]) rfl k
theorem xh {T:Nat} (hT:P.underlying T=some (.slice E)) (hE:TI P E 1 bytes z) (hg:gate ops e g=true) (hd:cC n dst=true) (h1:ev e q1=str a1) (h2:ev e q2=str a2) (h3:ev e q3=str a3) (h4:ev e q4=str a4) 
  (k:∀w',ak [] w w'->aL w' w.heap.size [str a1,str a2,str a3,str a4].toArray E->w'.heap.size=w.heap.size+1->OW P n ops K rest (bY e dst (.slice (some ⟨w.heap.size,0,none⟩) 4 4)) w'):
  OW P n ops K (⟨dst,.buildSlice T 4 #[(0,q1),(1,q2),(2,q3),(3,q4)],ty,pos,after,g⟩::rest) e w:=
 rz [q1,q2,q3,q4] [[str a1],[str a2],[str a3],[str a4]] hT hE hg hd rfl rfl rfl rfl rfl (by simp[h1,h2,h3,h4,Value.cells]) rfl k
theorem NP {T:Nat} (hT:P.underlying T=some (.slice E)) (hE:TI P E 1 bytes z) (hg:gate ops e g=true) (hd:cC n dst=true) (h1:ev e q1=str a1) (h2:ev e q2=str a2) (h3:ev e q3=str a3) (h4:ev e q4=str a4) (h5:ev e q5=str a5) 
  (k:∀w',ak [] w w'->aL w' w.heap.size [str a1,str a2,str a3,str a4,str a5].toArray E->w'.heap.size=w.heap.size+1->OW P n ops K rest (bY e dst (.slice (some ⟨w.heap.size,0,none⟩) 5 5)) w'):
  OW P n ops K (⟨dst,.buildSlice T 5 #[(0,q1),(1,q2),(2,q3),(3,q4),(4,q5)],ty,pos,after,g⟩::rest) e w:=
 rz [q1,q2,q3,q4,q5] [[str a1],[str a2],[str a3],[str a4],[str a5]] hT hE hg hd rfl rfl rfl rfl rfl (by simp[h1,h2,h3,h4,h5,Value.cells]) rfl k
theorem agj {T:Nat} (hT:P.underlying T=some (.slice E)) (hE:TI P E 1 bytes z) (hg:gate ops e g=true) (hd:cC n dst=true) (h1:ev e q1=str a1) (h2:ev e q2=str a2) (h3:ev e q3=str a3) (h4:ev e q4=str a4) (h5:ev e q5=str a5) (h6:ev e q6=str a6) 
  (k:∀w',ak [] w w'->aL w' w.heap.size [str a1,str a2,str a3,str a4,str a5,str a6].toArray E->w'.heap.size=w.heap.size+1->OW P n ops K rest (bY e dst (.slice (some ⟨w.heap.size,0,none⟩) 6 6)) w'):
  OW P n ops K (⟨dst,.buildSlice T 6 #[(0,q1),(1,q2),(2,q3),(3,q4),(4,q5),(5,q6)],ty,pos,after,g⟩::rest) e w:=
 rz [q1,q2,q3,q4,q5,q6] [[str a1],[str a2],[str a3],[str a4],[str a5],[str a6]] hT hE hg hd rfl rfl rfl rfl rfl (by simp[h1,h2,h3,h4,h5,h6,Value.cells]) rfl k
theorem UC {T:Nat} {q7 q8:Operand} {a7 a8:aj} (hT:P.underlying T=some (.slice E)) (hE:TI P E 1 bytes z) (hg:gate ops e g=true) (hd:cC n dst=true) (h1:ev e q1=str a1) (h2:ev e q2=str a2) (h3:ev e q3=str a3) (h4:ev e q4=str a4) (h5:ev e q5=str a5) (h6:ev e q6=str a6) (h7:ev e q7=str a7) (h8:ev e q8=str a8) 
  (k:∀w',ak [] w w'->aL w' w.heap.size [str a1,str a2,str a3,str a4,str a5,str a6,str a7,str a8].toArray E->w'.heap.size=w.heap.size+1->OW P n ops K rest (bY e dst (.slice (some ⟨w.heap.size,0,none⟩) 8 8)) w'):
  OW P n ops K (⟨dst,.buildSlice T 8 #[(0,q1),(1,q2),(2,q3),(3,q4),(4,q5),(5,q6),(6,q7),(7,q8)],ty,pos,after,g⟩::rest) e w:=
 rz [q1,q2,q3,q4,q5,q6,q7,q8] [[str a1],[str a2],[str a3],[str a4],[str a5],[str a6],[str a7],[str a8]] hT hE hg hd rfl rfl rfl rfl rfl (by simp[h1,h2,h3,h4,h5,h6,h7,h8,Value.cells]) rfl k
theorem agk {T:Nat} {q7 q8 q9 NQ:Operand} {a7 a8 a9 JY:aj} (hT:P.underlying T=some (.slice E)) (hE:TI P E 1 bytes z) (hg:gate ops e g=true) (hd:cC n dst=true) (h1:ev e q1=str a1) (h2:ev e q2=str a2) (h3:ev e q3=str a3) (h4:ev e q4=str a4) (h5:ev e q5=str a5) (h6:ev e q6=str a6) (h7:ev e q7=str a7) (h8:ev e q8=str a8) (h9:ev e q9=str a9) (gh:ev e NQ=str JY) 
  (k:∀w',ak [] w w'->aL w' w.heap.size [str a1,str a2,str a3,str a4,str a5,str a6,str a7,str a8,str a9,str JY].toArray E->w'.heap.size=w.heap.size+1->OW P n ops K rest (bY e dst (.slice (some ⟨w.heap.size,0,none⟩) 10 10)) w'):
  OW P n ops K (⟨dst,.buildSlice T 10 #[(0,q1),(1,q2),(2,q3),(3,q4),(4,q5),(5,q6),(6,q7),(7,q8),(8,q9),(9,NQ)],ty,pos,after,g⟩::rest) e w:=
 rz [q1,q2,q3,q4,q5,q6,q7,q8,q9,NQ] [[str a1],[str a2],[str a3],[str a4],[str a5],[str a6],[str a7],[str a8],[str a9],[str JY]] hT hE hg hd rfl rfl rfl rfl rfl (by simp[h1,h2,h3,h4,h5,h6,h7,h8,h9,gh,Value.cells]) rfl k
end
theorem bh.eq {u:aq} (h:bh L w v t) (e:t=u):bh L w v u:=e▸h
theorem fm (h:cX L w (.slice a n c) ts) (hi:i<ts.length):
  ∃b off pa pc,a=some ⟨b,off,none⟩∧fM L w b (off+i*2) [str (nth ts i).av,.slice pa (nth ts i).ai.length pc]∧bh L w (.agg #[str (nth ts i).av,.slice pa (nth ts i).ai.length pc]) (nth ts i):=by
 obtain⟨b,off,vs,ha,hb,hL,hl,hc,hr⟩:=z8 h (Mg (ej hi))
 obtain⟨pa,pn,pc,he,hn,hp⟩:=cS (t:=nth ts i) ⟨vs,rfl,hr⟩
 have hv:vs=[str (nth ts i).av,.slice pa pn pc]:=by
  have:=congrArg (λv=>match v with|Value.agg x=>x.toList|_=>[]) he
  simpa using this
 subst hv hn
 exact⟨b,off,pa,pc,ha,⟨hc,hb,hL⟩,jh hp⟩
theorem aL.vh {T:Nat} (xs:List aj) (h:aL w b (xs.map λx=>str x).toArray T) (hl:xs.length<=100000:=by simp):cE w T (.slice (some ⟨b,0,none⟩) xs.length xs.length) (some b) xs:=
 ⟨by simp,.inr ⟨b,xs.length,_,rfl,rfl,h,lR _,Nat.le_trans hl de,sm,by rw[Nat.mul_one,List.take_of_length_le sm]⟩⟩
theorem aL.dS {T:Nat} (xs:List aj) (h:aL w b (xs.map λx=>str x).toArray T) (hL:b∉L) (hl:xs.length<=100000:=by simp):bg L w (.slice (some ⟨b,0,none⟩) xs.length xs.length) xs:=
 (h.vh xs hl).rep λq hq=>by cases hq;exact hL
theorem aL.lh {T:Nat} (h:aL w b #[] T):cE w T (.slice (some ⟨b,0,none⟩) 0 0) (some b) []:=UA h
theorem s5 (h:n<1000):(aZ n).length<=3:=by grind [aZ]
theorem l6 (h:aj) (ps:List aj):(cY h ps).length=h.length+2+iU ps:=by grind [cY,Jm,iU]
theorem agl {m:Nat}:∀xs:List aj,(∀s,s∈xs->s.length<=m)->(xs.map List.length).sum<=xs.length*m:=by intro x;induction x<;>grind [lC,Nat.add_mul]
theorem Bo {m:Nat} (xs:List aj) (h:∀s,s∈xs->s.length<=m):iU xs<=xs.length*(m+1):=by
 have:=agl xs h
 unfold iU;rw[Nat.mul_add];omega
structure j9 (s:cP):Prop where
 types:yp (eP s)
 regs:∀p,p∈s->p.2.1<1000
theorem Hk (h:j9 s) (x:aj):kC s x<1000:=by
 unfold kC
 cases hf:s.reverse.find? λp=>decide (p.1=x) with
 |none=>simp
 |some p=>exact h.regs p (List.mem_reverse.1 (List.mem_of_find?_eq_some hf))
theorem JZ (h:j9 s) (x:aj):(ko s x).n<=16:=by
 unfold ko
 cases hl:look (eP s) x with
 |none=>decide
 |some T=>exact h.types x T hl
theorem qg {T:Ty} (h:T.n<=16):(bz T).length<=256:=by have:=CB T;omega
theorem uj {T:Ty} (h:T.n<=16):(dJ (bz T)).length<=272:=by have:=qg h;rw[Nj];omega
theorem j9.snoc (h:j9 s) {x:aj} {r:Nat} {T:Ty} (hr:r<1000) (hT:T.n<=16):j9 (s++[(x,r,T)]):=by
 refine⟨by rw[Ev];exact GF h.types hT,λp hp=>?_⟩
 rcases mA.1 hp with hp|hp
 ·exact h.regs p hp
 ·simp only[List.mem_singleton] at hp;rw[hp];exact hr
def Bp (s:aj):Prop:=∃T:Ty,T.n<=16∧s=dJ (bz T)
/-! ### The type of a package's tuple -/
def l7 (s:cP) (aP:List aj) (on:aj):List aj:=aP.map (λx=>bz (ko s x))++(if on≠[] then[on] else[])
def EM:Option Ty->aj
 |some T=>dJ (bz T)
 |none=>[]
def uk (s:cP) (aP:List aj) (on:Option Ty):List aq:=aP.map (λx=>rr (ko s x))++(match on with|some T=>[AH (rr T)]|none=>[])
theorem EN (s:cP) (aP:List aj) (on:Option Ty):l7 s aP (EM on)=(uk s aP on).map aq.text:=by
 unfold l7 uk
 rw[List.map_append,List.map_map]
 congr 1
 cases on with
 |none=>rfl
 |some T=>
  have dY:dJ (bz T)≠[]:=by simp[dJ]
  refine(iP (show EM (some T)≠[] from dY)).trans ?_
  simp[EM,To,bz]
theorem UD (s:cP) (aP:List aj) (on:aj):(l7 s aP on).length<=aP.length+1:=by grind [l7]
theorem UE (h:j9 s) {aP:List aj} {on:aj} (kK:on.length<=272):∀t,t∈l7 s aP on->t.length<=272:=by grind [l7,qg,JZ]
theorem Hl (h:j9 s) {aP:List aj} {on:aj} (hn:aP.length<=40) (kK:on.length<=272):(cY [116] (l7 s aP on)).length<=11200:=by
 have h1:=Bo _ (UE h (aP:=aP) kK)
 have h2:=UD s aP on
 have h3:(l7 s aP on).length*(272+1)<=41*(272+1):=Nat.mul_le_mul om (lR _)
 rw[l6];simp only[lC,List.length_nil];omega
theorem agm (s:cP) (aP:List aj) (on:Option Ty):aP.length<=(uk s aP on).length:=by simp_all[uk]
theorem agn (s:cP) (aP:List aj) (on:Option Ty):∀t,t∈uk s aP on->Good t:=λt ht=>by
 unfold uk at ht
 rcases mA.1 ht with ht|ht
 ·obtain⟨x,_,rfl⟩:=List.mem_map.1 ht
  exact Et _
 ·cases on with
  |none=>simp at ht
  |some T=>simp only[List.mem_singleton] at ht;rw[ht];exact Tn (Et T)
theorem UF (h:j9 s) {aP:List aj} {on:Option Ty} (hn:aP.length<=40) (kK:∀T,on=some T->T.n<=16):
  bA (cY [116] (l7 s aP (EM on)))=some (ju [116] (uk s aP on)):=by
 have hg:=Gn (h:=[116]) de de (agn s aP on)
 rw[EN,<-wJ de]
 refine Mz hg ?_ ?_
 ·show aq.depth.deeps (bH [116]::uk s aP on)<=60
  refine Jf λp hp=>?_
  rcases mC.1 hp with rfl|hp
  ·have:(bH [116]).depth=0:=rfl
   omega
  ·unfold uk at hp
   rcases mA.1 hp with hp|hp
   ·obtain⟨x,_,rfl⟩:=List.mem_map.1 hp
    have:=Eu (ko s x)
    have:=JZ h x
    omega
   ·cases on with
    |none=>simp at hp
    |some T=>
     simp only[List.mem_singleton] at hp
     have:=Eu T
     have:=kK T rfl
     rw[hp,Tp];omega
 ·rw[wJ de,<-EN]
  have:=Hl h (aP:=aP) (on:=EM on) hn (by
   cases on with
   |none=>simp[EM]
   |some T=>exact uj (kK T rfl))
  omega
/-! ### The state stays small -/
structure fu (m:Mk):Prop where
 types:∀s,s∈m.types->s.length<=100000
 code:∀s,s∈m.code->s.length<=100000
theorem fu.dy (h:fu m) {k:aj} (hk:k.length<=100000):fu (m.dy k):=⟨λs hs=>by
 rcases mA.1 hs with hs|hs
 ·exact h.types s hs
 ·simp only[List.mem_singleton] at hs;rw[hs];exact hk,h.code⟩
theorem fu.cM (h:fu m) {hd:aj} (hk:(cY hd ps).length<=100000):fu (m.cM hd ps):=⟨h.types,λs hs=>by
 rcases mA.1 hs with hs|hs
 ·exact h.code s hs
 ·simp only[List.mem_singleton] at hs;rw[hs];exact hk⟩
structure ago (m m':Mk) (dt dc:Nat):Prop where
 blocks:m'.blocks=m.blocks
 bP:m'.bP=m.bP
 types:m'.types.length=m.types.length+dt
 code:m'.code.length=m.code.length+dc
theorem UG (m:Mk) (s:cP) (ton:Nat) (aP:List aj) (on aM kind:aj) (bW:List aj):ago m (pj m s ton aP on aM kind bW).m 4 4:=by
 refine⟨rfl,rfl,?_,?_⟩<;>simp[pj,Mk.dy,Mk.cM]
theorem UH (m:Mk) (s:cP) (ton:Nat) (aP:List aj) (on aM kind:aj) (bW:List aj):(pj m s ton aP on aM kind bW).w=cY [116] (l7 s aP on):=rfl
theorem UI (hm:fu m) (hs:j9 s) {ton:Nat} (ht:ton<1000) {aP:List aj} (hn:aP.length<=40) {on aM kind:aj} (kK:on.length<=272) (hl:aM.length<=10) (hk:kind.length<=272) {bW:List aj} (dY:bW.length<=2) (NR:∀x,x∈bW->x.length<=272) (fh:m.types.length+4<1000):fu (pj m s ton aP on aM kind bW).m:=by
 have hw:=Hl hs hn kK
 have dec:∀k,k<1000->(aZ k).length<=3:=λk hk=>s5 hk
 have apo:=Bo bW NR
 have UJ:(cY [99] (cY [116] (l7 s aP on)::bW)).length<=12000:=by
  rw[l6]
  have:iU (cY [116] (l7 s aP on)::bW)=1+(cY [116] (l7 s aP on)).length+iU bW:=by unfold iU;simp;omega
  have h3:bW.length*(272+1)<=2*(272+1):=Nat.mul_le_mul dY (lR _)
  simp only[lC,List.length_nil];omega
 have regs:∀x,x∈aP.map (λx=>aZ (kC s x))++(if on≠[] then[aZ ton] else[])->x.length<=3:=λx hx=>by
  rcases mA.1 hx with hx|hx
  ·obtain⟨y,_,rfl⟩:=List.mem_map.1 hx
   exact dec _ (Hk hs y)
  ·split at hx
   ·simp only[List.mem_singleton] at hx;rw[hx];exact dec _ ht
   ·simp at hx
 have oI:(aP.map (λx=>aZ (kC s x))++(if on≠[] then[aZ ton] else[])).length<=41:=by
  rw[lA,List.length_map]
  split<;>simp<;>omega
 unfold pj
 have s2:∀a b:aj,iU [a,b]=2+a.length+b.length:=λa b=>by simp[iU];omega
 have s3:∀a b c:aj,iU [a,b,c]=3+a.length+b.length+c.length:=λa b c=>by simp[iU];omega
 have s4:∀a b c d:aj,iU [a,b,c,d]=4+a.length+b.length+c.length+d.length:=λa b c d=>by simp[iU];omega
 have o4:=dec m.types.length om
 have cK:=dec (m.types.length+1) om
 have cI:=dec (m.types.length+2) om
 have J0:=dec (m.types.length+3) om
 refine fu.cM (fu.dy (fu.cM (fu.dy (fu.cM (fu.dy (fu.cM (fu.dy hm ?_) ?_) ?_) ?_) ?_) ?_) ?_) ?_
 ·exact Nat.le_trans hw om
 ·have h1:=Bo _ regs
  have h2:(aP.map (λx=>aZ (kC s x))++(if on≠[] then[aZ ton] else[])).length*(3+1)<=41*(3+1):=Nat.mul_le_mul oI (lR _)
  rw[l6]
  have:iU (aZ m.types.length::(aP.map (λx=>aZ (kC s x))++(if on≠[] then[aZ ton] else[])))=1+(aZ m.types.length).length+iU (aP.map (λx=>aZ (kC s x))++(if on≠[] then[aZ ton] else[])):=by unfold iU;simp;omega
  rw[this]
  simp only[lC,List.length_nil];omega
 ·exact Nat.le_trans UJ om
 ·rw[l6,s2];simp only[lC,List.length_nil];omega
 ·rw[l6,s2];have:=hw;unfold l7 at this UJ;simp only[lC,List.length_nil];unfold l7 at hw;omega
 ·rw[l6,s3];simp only[lC,List.length_nil];omega
 ·omega
 ·rw[l6,s4];have:=hw;unfold l7 at this;simp only[lC,List.length_nil];omega
structure Ext (m m':Mk) (k:Nat) (new:List Tk):Prop where
 blocks:m'.blocks=m.blocks
 bP:m'.bP=m.bP++new
 count:m'.count=m.count+new.length
 types:m.types.length<=m'.types.length∧m'.types.length<=m.types.length+k
 code:m'.code.length<=m.code.length+2*k
theorem Ext.refl (m:Mk):Ext m m 0 []:=⟨rfl,sm,rfl,om,om⟩
theorem Ext.trans {j:Nat} {p q:List Tk} (h:Ext m m1 j p) (h2:Ext m1 m2 k q):Ext m m2 (j+k) (p++q):=
 ⟨h2.blocks.trans h.blocks,by rw[h2.bP,h.bP,List.append_assoc],by rw[h2.count,h.count,lA];omega,by have:=h.types;have:=h2.types;omega,by have:=h.code;have:=h2.code;omega⟩
theorem Ext.more {m':Mk} {j:Nat} {p:List Tk} (h:Ext m m' j p) (hk:j<=k):Ext m m' k p:=⟨h.blocks,h.bP,h.count,by have:=h.types;omega,by have:=h.code;omega⟩
theorem NS {s:aj} (h:qD s=true):s.length<=4:=by grind [qD,numeral,R3,dX]
theorem oL (h:e.ok):e.av.length<=4:=by cases e<;>grind [Ex.ok,Ex.av,NS]
theorem Bq (a b:aj):iU [a,b]=2+a.length+b.length:=by simp[iU];omega
theorem Hm {m:Mk} {a:aj} (hm:fu m) (hs:j9 s) (ha:a.length<=4) (ht:m.types.length<1000):Ext m (cv m s a).1 1 []∧fu (cv m s a).1∧(cv m s a).2<1000:=by
 unfold cv
 split
 ·exact⟨(Ext.refl m).more om,hm,Hk hs a⟩
 ·refine⟨⟨rfl,by simp[Mk.dy,Mk.cM],rfl,by simp[Mk.dy,Mk.cM],by simp[Mk.dy,Mk.cM]⟩,fu.cM (fu.dy hm sm) ?_,ht⟩
  have:=s5 ht
  rw[l6,Bq];simp only[lC,List.length_nil];omega
/-! ### Tasks -/
structure oN (t:Tk):Prop where
 ok:t.expr.ok
 type:∃T,bD t.expr (eP t.sc)=some T
 sc:j9 t.sc
 bud:5*t.sc.length+2*t.expr.n<=240
 room:t.regs.length+t.loads+8*t.expr.n<=990
 regs:∀r,r∈t.regs->r.length<=100000
 loads:t.loads=0∨∃ts:List aq,t.regs.head?=some (cY [116] (ts.map aq.text))∧t.loads<=ts.length∧bA (cY [116] (ts.map aq.text))=some (ju [116] ts)
 self:t.self=[]∨∃a b,t.self=[a,b]∧a.length<=272∧b.length<=11200∧t.regs.length=3∧∀r,r∈t.regs->r.length<=11200
 bc:Bp t.bc
 on:t.on<1000
 aM:t.aM.length<=4
theorem NT (s:cP) (k:Nat) (aP:List aj):eP (iH s k aP [])=aP.map λx=>(x,ko s x):=by
 unfold iH eP
 rw[List.nil_append,List.map_map]
 have:∀(l:List aj) (j:Nat),(l.zipIdx j).map ((λp:aj×Nat×Ty=>(p.1,p.2.2))∘λp=>(p.1,k+p.2,ko s p.1))=l.map λx=>(x,ko s x):=by
  intro l
  induction l with
  |nil=>intro j;rfl
  |cons x l ih=>intro j;simp only[List.zipIdx_cons,List.map_cons,Function.comp,ih]
 exact this aP 0
theorem NU:∀{aP:List aj} {x:aj},x∈aP->look (aP.map λx=>(x,ko s x)) x=some (ko s x):=by
 intro aP x h
 have key:∀(l:List aj),(∃y,y∈l∧y=x)->(l.map λx=>(x,ko s x)).find? (λp=>decide (p.1=x))=some (x,ko s x):=by
  intro l
  induction l with
  |nil=>rintro⟨_,hy,_⟩;simp at hy
  |cons y l ih=>
   intro hh
   rw[List.map_cons,List.find?_cons]
   by_cases e:y=x
   ·rw[dT e,e]
   ·rw[dF e]
    obtain⟨z,hz,UK⟩:=hh
    rcases mC.1 hz with hz|hz
    ·exact absurd (hz▸UK) e
    ·exact ih ⟨z,hz,UK⟩
 unfold look
 rw[<-List.map_reverse,key aP.reverse ⟨x,List.mem_reverse.2 h,rfl⟩];rfl
theorem UM (h:j9 s) (k:Nat) (aP:List aj) (hn:k+aP.length<1000):j9 (iH s k aP []):=by
 refine⟨λx T hT=>?_,λp hp=>?_⟩
 ·rw[NT] at hT
  have hx:x∈aP:=by
   unfold look at hT
   cases hf:(aP.map λx=>(x,ko s x)).reverse.find? (λp=>decide (p.1=x)) with
   |none=>rw[hf] at hT;cases hT
   |some q=>
    have h1:=List.find?_some hf
    have h2:=List.mem_reverse.1 (List.mem_of_find?_eq_some hf)
    obtain⟨y,hy,rfl⟩:=List.mem_map.1 h2
    rw[<-of_decide_eq_true h1];exact hy
  rw[NU hx] at hT
  cases hT;exact JZ h x
 ·unfold iH at hp
  rw[List.nil_append] at hp
  obtain⟨q,hq,rfl⟩:=List.mem_map.1 hp
  have:=List.snd_lt_of_mem_zipIdx hq
  show k+q.2<1000;omega
theorem yL (s:cP) (k:Nat) (aP:List aj):(iH s k aP []).length=aP.length:=by simp[iH]
theorem NV {x:aj} (h:(look (eP s) x).isSome=true):look (eP s) x=some (ko s x):=by
 unfold ko
 cases hl:look (eP s) x with
 |none=>rw[hl] at h;cases h
 |some T=>rfl
theorem NW {bd:List aj} (hb:5*s.length+2*e.n<=240) (hf:∀x,Fv x e->x∉bd->(look (eP s) x).isSome=true):(cU e bd []).length<=34∧(cU e bd []).length<=s.length:=by
 have h1:=M6 e bd []
 have h2:(cU e bd []).length<=(s.map Prod.fst).length:=M8 (aeT e bd [] List.nodup_nil) λx hx=>by
  rcases(CA x e bd []).1 hx with h|⟨hx,hb⟩
  ·simp at h
  ·have:=hf x hx hb
   unfold look at this
   cases hq:(eP s).reverse.find? λp=>decide (p.1=x) with
   |none=>rw[hq] at this;cases this
   |some q=>
    have h3:=List.find?_some hq
    have h4:=List.mem_reverse.1 (List.mem_of_find?_eq_some hq)
    unfold eP at h4
    obtain⟨p,hp,rfl⟩:=List.mem_map.1 h4
    rw[<-of_decide_eq_true h3]
    exact List.mem_map.2 ⟨p,hp,rfl⟩
 simp only[List.length_nil,Nat.zero_add,List.length_map] at h1 h2
 omega
theorem UN {ton:Nat} {aP:List aj} {on aM kind:aj} {bW:List aj}:Ext m (pj m s ton aP on aM kind bW).m 4 []:=by
 have h:=UG m s ton aP on aM kind bW
 exact⟨h.blocks,by rw[h.bP];simp,rfl,by rw[h.types];omega,by rw[h.code];omega⟩
theorem Br {m:Mk} (h:m.count<1000):m.aM.length<=4:=by grind [Mk.aM,s5]
theorem UO {m:Mk} {f x:aj} {A B:Ty} {T:Ty} (hs:j9 s) (bj:(Ex.fn f x A B e).ok) (ht:bD (.fn f x A B e) (eP s)=some T) (hb:5*s.length+2*(Ex.fn f x A B e).n<=240) (hc:m.count<1000):oN (AM m s f x A B e)∧(cU (.fn f x A B e) [] []).length<=34∧1+A.n+B.n<=16:=by
 obtain⟨hf,hx,dY,hA,hB,he⟩:=bj
 have s8:∀y,Fv y (.fn f x A B e)->y∉([]:List aj)->(look (eP s) y).isSome=true:=λy hy _=>pY ht hy
 obtain⟨fF,iz⟩:=NW hb s8
 have yy:1+A.n+B.n<=16∧bD e (eP s++[(f,.op true A B),(x,A)])=some B:=by
  unfold bD at ht
  split at ht
  ·rename_i gV
   cases yM:bD e (eP s++[(f,.op true A B),(x,A)]) with
   |none=>rw[yM] at ht;cases ht
   |some C=>
    rw[yM,Option.bind_some] at ht
    split at ht
    ·rename_i hq;rw[aeW.1 hq];exact⟨gV,rfl⟩
    ·cases ht
  ·cases ht
 have Bt:(Ty.op true A B).n<=16:=yy.1
 have xi:(bz (.op true A B)).length<=256:=qg Bt
 have hn:(Ex.fn f x A B e).n=3+A.n+B.n+e.n:=rfl
 rw[hn] at hb
 have hA1:=A.pos
 have J1:=B.pos
 have J2:=UM hs 3 (cU (.fn f x A B e) [] []) om
 have Hn:(oD m s f x A B e).w=cY [116] (l7 s (cU (.fn f x A B e) [] []) []):=UH ..
 have J3:(oD m s f x A B e).w.length<=11200:=by rw[Hn];exact Hl hs om sm
 have fh:bD e (eP (AL s f x A B e))=some B:=by
  rw[<-yy.2]
  unfold AL
  rw[Ev]
  refine qF e _ _ λy J4 hy=>?_
  rw[pe,AE]
  by_cases e1:x=y
  ·rw[iP e1,iP e1]
  ·rw[iN e1,iN e1]
   by_cases e2:f=y
   ·have h0:0<j6 f e:=(aeV hf e).2 (e2▸hy)
    rw[iP e2,iP h0,Ev,pe,iP e2]
   ·rw[iN e2]
    have UP:Fv y (.fn f x A B e):=⟨λe'=>e2 e'.symm,λe'=>e1 e'.symm,hy⟩
    have r8:y∈cU (.fn f x A B e) [] []:=(CA y _ [] []).2 (.inr ⟨UP,sm⟩)
    have hl:look (eP (iH s 3 (cU (.fn f x A B e) [] []) [])) y=look (eP s) y:=by
     rw[NT,NU r8,NV (pY ht UP)]
    split
    ·rw[Ev,pe,iN e2,hl]
    ·exact hl
 have UQ:j9 (AL s f x A B e):=by
  unfold AL
  split
  ·exact(J2.snoc om Bt).snoc om hA
  ·exact J2.snoc om hA
 have nV:5*(AL s f x A B e).length+2*e.n<=240:=by
  unfold AL
  rw[lA]
  split
  ·rw[lA,yL];simp only[lC,List.length_nil];omega
  ·rw[yL];simp only[lC,List.length_nil];omega
 refine⟨{ok:=he,type:=⟨B,fh⟩,sc:=UQ,bud:=nV,room:=?_,regs:=?_,loads:=?_,self:=?_,bc:=⟨B,hB,rfl⟩,on:=?_,aM:=Br hc},fF,yy.1⟩
 ·show 3+(cU (.fn f x A B e) [] []).length+8*e.n<=990
  omega
 ·intro r hr
  have rV:r∈[(oD m s f x A B e).w,bz A,dJ (bz B)]:=hr
  simp only[mC,List.not_mem_nil,or_false] at rV
  rcases rV with rfl|rfl|rfl
  ·omega
  ·have:=qg hA;omega
  ·have:=uj hB;omega
 ·refine .inr ⟨uk s (cU (.fn f x A B e) [] []) none,?_,agm _ _ _,?_⟩
  ·show some (oD m s f x A B e).w=_
   rw[Hn,<-EN];rfl
  ·rw[<-EN];exact UF hs om sm
 ·show(if 0<j6 f e then[bz (.op true A B),(oD m s f x A B e).w] else[])=[]∨_
  by_cases h0:0<j6 f e
  ·refine .inr ⟨bz (.op true A B),(oD m s f x A B e).w,iP h0,om,J3,rfl,λr hr=>?_⟩
   have rV:r∈[(oD m s f x A B e).w,bz A,dJ (bz B)]:=hr
   simp only[mC,List.not_mem_nil,or_false] at rV
   rcases rV with rfl|rfl|rfl
   ·exact J3
   ·have:=qg hA;omega
   ·have:=uj hB;omega
  ·exact .inl (iN h0)
 ·show(2:Nat)<1000;omega
theorem agp {f x:aj} {A B:Ty} {T:Ty} (hm:fu m) (hs:j9 s) (bj:(Ex.fn f x A B e).ok) (ht:bD (.fn f x A B e) (eP s)=some T) (hb:5*s.length+2*(Ex.fn f x A B e).n<=240) (fh:m.types.length+4<1000) (hc:m.count<1000):
  Ext m (AN m s f x A B e).1 4 [AM m s f x A B e]∧fu (AN m s f x A B e).1∧(AN m s f x A B e).2<1000∧oN (AM m s f x A B e):=by
 obtain⟨hi,fF,Bt⟩:=UO (m:=m) hs bj ht hb hc
 obtain⟨_,_,_,hA,hB,_⟩:=bj
 have xi:(bz (.op true A B)).length<=256:=qg Bt
 have hp:Ext m.lI (oD m s f x A B e).m 4 []:=UN
 have Ho:fu m.lI:=⟨hm.types,hm.code⟩
 have mu:fu (oD m s f x A B e).m:=UI Ho hs om om sm (by have:=Br hc;omega) om sm (λy hy=>by
  simp only[mC,List.not_mem_nil,or_false] at hy
  rcases hy with rfl|rfl
  ·have:=qg hA;omega
  ·exact uj hB) fh
 have h1:(oD m s f x A B e).m.bP=m.bP:=by rw[hp.bP];simp[Mk.lI]
 have h2:(oD m s f x A B e).m.count=m.count+1:=by rw[hp.count];simp[Mk.lI]
 refine⟨⟨hp.blocks,?_,h2,hp.types,hp.code⟩,⟨mu.types,mu.code⟩,?_,hi⟩
 ·show(oD m s f x A B e).m.bP++[AM m s f x A B e]=m.bP++[AM m s f x A B e]
  rw[h1]
 ·show m.types.length+3<1000;omega
theorem agq {m:Mk} {ton:Nat} {bc name:aj} {kind:Ty} {rest:Ex} {T:Ty} (hs:j9 s) (kK:Bp bc) (xi:kind.n<=16) (bj:rest.ok) (ht:bD rest (eP s++[(name,kind)])=some T) (hb:5*(s.length+1)+2*rest.n<=240) (hc:m.count<1000):oN (JD m s ton bc name kind rest)∧(cU rest [name] []).length<=34:=by
 obtain⟨O,hO,rfl⟩:=kK
 have s8:∀y,Fv y rest->y∉[name]->(look (eP s) y).isSome=true:=λy hy hn=>by
  have:=pY ht hy
  rw[pe,iN (λe=>hn (by rw[e];simp))] at this;exact this
 obtain⟨fF,iz⟩:=NW om s8
 have J2:=UM hs 2 (cU rest [name] []) om
 have Hn:(oF m s ton (dJ (bz O)) name kind rest).w=cY [116] (l7 s (cU rest [name] []) (dJ (bz O))):=UH ..
 have J3:(oF m s ton (dJ (bz O)) name kind rest).w.length<=11200:=by rw[Hn];exact Hl hs om (uj hO)
 have fh:bD rest (eP (iH s 2 (cU rest [name] []) []++[(name,1,kind)]))=some T:=by
  rw[<-ht,Ev]
  refine qF rest _ _ λy J4 hy=>?_
  rw[pe,pe]
  by_cases e1:name=y
  ·rw[iP e1,iP e1]
  ·rw[iN e1,iN e1]
   have gk:y∉[name]:=λh=>e1 (by simpa using h:y=name).symm
   have r8:y∈cU rest [name] []:=(CA y _ [name] []).2 (.inr ⟨hy,gk⟩)
   rw[NT,NU r8,NV (s8 y hy gk)]
 refine⟨{ok:=bj,type:=⟨T,fh⟩,sc:=J2.snoc om xi,bud:=?_,room:=?_,regs:=?_,loads:=?_,self:=.inl rfl,bc:=⟨O,hO,rfl⟩,on:=?_,aM:=Br hc},fF⟩
 ·show 5*(iH s 2 (cU rest [name] []) []++[(name,1,kind)]).length+2*rest.n<=240
  rw[lA,yL];simp only[lC,List.length_nil];omega
 ·show 2+((cU rest [name] []).length+1)+8*rest.n<=990
  omega
 ·intro r hr
  have rV:r∈[(oF m s ton (dJ (bz O)) name kind rest).w,bz kind]:=hr
  simp only[mC,List.not_mem_nil,or_false] at rV
  rcases rV with rfl|rfl
  ·omega
  ·have:=qg xi;omega
 ·refine .inr ⟨uk s (cU rest [name] []) (some O),?_,?_,?_⟩
  ·show some (oF m s ton (dJ (bz O)) name kind rest).w=_
   rw[Hn,<-EN];rfl
  ·show(cU rest [name] []).length+1<=_
   unfold uk;rw[lA,List.length_map];simp
  ·rw[<-EN];exact UF hs om (λT hT=>by cases hT;exact hO)
 ·show 2+(cU rest [name] []).length<1000;omega
theorem agr {ton:Nat} {bc name:aj} {kind:Ty} {rest:Ex} {T:Ty} (hm:fu m) (hs:j9 s) (rC:ton<1000) (kK:Bp bc) (xi:kind.n<=16) (bj:rest.ok) (ht:bD rest (eP s++[(name,kind)])=some T) (hb:5*(s.length+1)+2*rest.n<=240) (fh:m.types.length+4<1000) (hc:m.count<1000):
  Ext m (tZ m s ton bc name kind rest).1 4 [JD m s ton bc name kind rest]∧fu (tZ m s ton bc name kind rest).1∧(tZ m s ton bc name kind rest).2.1<1000∧Bp (tZ m s ton bc name kind rest).2.2∧oN (JD m s ton bc name kind rest):=by
 obtain⟨hi,fF⟩:=agq (m:=m) (ton:=ton) hs kK xi bj ht hb hc
 obtain⟨O,hO,rfl⟩:=kK
 have hp:Ext m.lI (oF m s ton (dJ (bz O)) name kind rest).m 4 []:=UN
 have Ho:fu m.lI:=⟨hm.types,hm.code⟩
 have mu:fu (oF m s ton (dJ (bz O)) name kind rest).m:=UI Ho hs rC om (uj hO) (by have:=Br hc;omega) (uj xi) sm (λy hy=>by
  simp only[List.mem_singleton] at hy
  rw[hy];have:=qg xi;omega) fh
 have h1:(oF m s ton (dJ (bz O)) name kind rest).m.bP=m.bP:=by rw[hp.bP];simp[Mk.lI]
 have h2:(oF m s ton (dJ (bz O)) name kind rest).m.count=m.count+1:=by rw[hp.count];simp[Mk.lI]
 refine⟨⟨hp.blocks,?_,h2,hp.types,hp.code⟩,⟨mu.types,mu.code⟩,?_,⟨kind,xi,rfl⟩,hi⟩
 ·show(oF m s ton (dJ (bz O)) name kind rest).m.bP++[_]=m.bP++[_]
  rw[h1]
 ·show m.types.length+3<1000;omega
theorem Hp (m:Mk) (k:aj):Ext m (m.dy k) 1 []:=⟨rfl,by simp[Mk.dy],rfl,by simp[Mk.dy],by simp[Mk.dy]⟩
theorem um (m:Mk) (h:aj) (ps:List aj):Ext m (m.cM h ps) 1 []:=⟨rfl,by simp[Mk.cM],rfl,by simp[Mk.cM],by simp[Mk.cM]⟩
theorem yN (m:Mk) (k:aj):(m.dy k).types.length=m.types.length+1:=by simp[Mk.dy]
theorem oR (m:Mk) (h:aj) (ps:List aj):(m.cM h ps).types=m.types:=rfl
theorem nZ {n:Nat} (h:n<1000):(aZ n).length<=3:=s5 h
theorem oS {m:Mk} (h:fu m) {hd:aj} (hh:hd.length<=5) (hp:ps.length<=4) (hs:∀p,p∈ps->p.length<=300):fu (m.cM hd ps):=h.cM (by
 have h1:=Bo (m:=300) ps hs
 have h2:ps.length*301<=4*301:=Nat.mul_le_mul hp (lR _)
 rw[l6];omega)
theorem EO {s:aj} (h:dX s=true):s.length<=4:=by grind [dX]
def k7 (ts:List Tk):Nat:=(ts.map λt=>t.expr.n+1).sum
theorem Hq (a b:List Tk):k7 (a++b)=k7 a+k7 b:=by grind [k7]
theorem NX (t:Tk):k7 [t]=t.expr.n+1:=by simp[k7]
theorem Hr:k7 []=0:=rfl
theorem UR {a b:aj} (hm:fu m) (hs:j9 s) (ha:a.length<=4) (hb:b.length<=4) (ht:m.types.length+1<1000):
  (Ext m (cv m s a).1 1 []∧fu (cv m s a).1∧(cv m s a).2<1000)∧Ext m (cv (cv m s a).1 s b).1 2 []∧fu (cv (cv m s a).1 s b).1∧(cv (cv m s a).1 s b).2<1000:=by
 have h1:=Hm hm hs ha om
 have h2:=Hm (m:=(cv m s a).1) (a:=b) h1.2.1 hs hb (by have:=h1.1.types;omega)
 exact⟨h1,h1.1.trans h2.1,h2.2⟩
structure UT (m m':Mk) (r:Nat) (n:Nat) (new:List Tk):Prop where
 ext:Ext m m' 4 new
 sml:fu m'
 dy:r<1000
 inv:∀k,k∈new->oN k
 num:k7 new+1<=n
theorem NY {T:Ty} (hm:fu m) (hs:j9 s) (bj:e.ok) (ht:bD e (eP s)=some T) (hb:5*s.length+2*e.n<=240) (fh:m.types.length+8*e.n<=1000) (hc:m.count<1000):
  ∃new,UT m (mW m s T e).1 (mW m s T e).2 e.n new:=by
 have hT:=lX hs.types ht
 have hk:=qg hT
 have two:∀(h a b:aj),a.length<=4->b.length<=4->h.length<=5->m.types.length+8<=1000->∀n,1<=n->
   UT m (((cv (cv m s a).1 s b).1.dy (bz T)).cM h [aZ (cv (cv m s a).1 s b).1.types.length,aZ (cv m s a).2,aZ (cv (cv m s a).1 s b).2]) (cv (cv m s a).1 s b).1.types.length n []:=by
  intro h a b ha hb hh h8 n hn
  obtain⟨⟨e1,_,r1⟩,e2,s2,r2⟩:=UR hm hs ha hb om
  have Bj:=e2.types
  refine⟨(e2.trans ((Hp _ _).trans (um _ _ _))),oS (s2.dy om) hh sm ?_,om,sm,by simp[Hr];omega⟩
  intro p hp
  simp only[mC,List.not_mem_nil,or_false] at hp
  rcases hp with rfl|rfl|rfl
  ·have:=nZ (n:=(cv (cv m s a).1 s b).1.types.length) om;omega
  ·have:=nZ r1;omega
  ·have:=nZ r2;omega
 cases e with
 |«at» a=>
  obtain⟨h1,h2,h3⟩:=Hm hm hs (NS bj) (by simp only[Ex.n] at fh;omega)
  exact⟨[],h1.more om,h2,h3,sm,by simp[Hr,Ex.n]⟩
 |un h a=>
  simp only[Ex.n] at fh
  have yO:=a.pos
  obtain⟨h1,h2,h3⟩:=Hm hm hs (oL bj.2) om
  have Bj:=h1.types
  refine⟨[],((h1.trans ((Hp _ _).trans (um _ _ _)))).more om,oS (h2.dy om) sm sm ?_,?_,sm,by simp[Hr,Ex.n]⟩
  ·intro p hp
   simp only[mC,List.not_mem_nil,or_false] at hp
   rcases hp with rfl|rfl|rfl
   ·have:=nZ (n:=(cv m s a.av).1.types.length) om;omega
   ·have:=nZ h3;omega
   ·split<;>simp
  ·show(cv m s a.av).1.types.length<1000;omega
 |bi h a b=>
  simp only[Ex.n] at fh
  have yO:=a.pos
  refine⟨[],two (qJ h) a.av b.av (oL bj.2.1) (oL bj.2.2) ?_ om _ (Ex.pos _)⟩
  unfold qJ;split
  ·simp
  ·split
   ·simp
   ·split<;>simp
 |ite a b c=>
  simp only[Ex.n] at fh
  exact⟨[],two (qJ gN) a.av b.av (oL bj.1) (oL bj.2.1) de om _ (Ex.pos _)⟩
 |lt x a b=>
  simp only[Ex.n] at fh
  exact⟨[],two (qJ gw) x a.av (EO bj.1) (oL bj.2.1) de om _ (Ex.pos _)⟩
 |fn f x A B e=>
  simp only[Ex.n] at fh
  obtain⟨h1,h2,h3,h4⟩:=agp hm hs bj ht hb om hc
  refine⟨_,h1,h2,h3,λk hk=>by simp only[List.mem_singleton] at hk;rw[hk];exact h4,?_⟩
  rw[NX];simp only[AM,Ex.n];omega
theorem UU (hm:fu m) {s:Nat} (hs:s<1000) (ht:m.types.length+3<1000):Ext m (sO m s) 6 []∧fu (sO m s)∧(sO m s).types.length=m.types.length+3:=by
 have h0:=nZ hs
 have h1:=nZ (n:=m.types.length) om
 have h2:=nZ (n:=m.types.length+1) om
 have h3:=nZ (n:=m.types.length+2) om
 unfold sO
 have z:([]:aj).length<=100000:=by simp
 refine⟨(Hp _ _).trans ((um _ _ _).trans ((Hp _ _).trans ((um _ _ _).trans ((Hp _ _).trans (um _ _ _))))),?_,by simp[Mk.dy,Mk.cM]⟩
 refine oS (fu.dy (oS (fu.dy (oS (fu.dy hm z) sm sm ?_) z) sm sm ?_) z) sm sm ?_
 all_goals
  intro p hp
  simp only[mC,List.not_mem_nil,or_false] at hp
  rcases hp with rfl|rfl|rfl<;>first|omega|simp
theorem ags (hm:fu m) {f on:Nat} (hf:f<1000) (hx:x<1000) (ho:on<1000) (ht:m.types.length+3<1000):Ext m (yq m f x on) 10 []∧fu (yq m f x on):=by
 obtain⟨h1,h2,h3⟩:=UU hm hf ht
 have d1:=nZ (n:=m.types.length+1) om
 have d2:=nZ (n:=m.types.length+2) om
 have d3:=nZ hx
 have d4:=nZ ho
 unfold yq
 refine⟨h1.trans ((um _ _ _).trans ((um _ _ _).trans ((um _ _ _).trans (um _ _ _)))),?_⟩
 refine oS (oS (oS (oS h2 sm sm ?_) sm sm ?_) sm sm ?_) sm sm ?_
 all_goals
  intro p hp
  simp only[mC,List.not_mem_nil,or_false] at hp
  first
  |(rcases hp with rfl|rfl<;>first|omega|simp)
  |(rw[hp];omega)
theorem agt (hm:fu m) {on r:Nat} (ho:on<1000) (hr:r<1000) (ht:m.types.length+3<1000):Ext m (yr m on r) 10 []∧fu (yr m on r):=by
 obtain⟨h1,h2,h3⟩:=UU hm ho ht
 have d1:=nZ (n:=m.types.length+1) om
 have d2:=nZ (n:=m.types.length+2) om
 have d3:=nZ hr
 unfold yr
 refine⟨(h1.trans ((um _ _ _).trans ((um _ _ _).trans (um _ _ _)))).more om,?_⟩
 refine oS (oS (oS h2 sm sm ?_) sm sm ?_) sm sm ?_
 all_goals
  intro p hp
  simp only[mC,List.not_mem_nil,or_false] at hp
  first
  |(rcases hp with rfl|rfl<;>first|omega|simp)
  |(rw[hp];omega)
structure oa (m:Mk) (s:cP) (on:Nat) (bc:aj) (e:Ex):Prop where
 sml:fu m
 sc:j9 s
 ok:e.ok
 type:∃T,bD e (eP s)=some T
 bud:5*s.length+2*e.n<=240
 room:m.types.length+8*e.n<=1000
 on:on<1000
 bc:Bp bc
 cnt:m.count+e.n<=900
structure vF (m:Mk) (s:cP) (on:Nat) (bc:aj) (e:Ex) (T:Ty):Prop where
 ok:(bO e).s.ok
 type:bD (bO e).s (eP s)=some T
 small:T.n<=16
 nS:nS s (bO e).s=T
 le:(bO e).s.n<=e.n
 last:(bO e).name=[]->(bO e).s=e
 rest:(bO e).name≠[]->dX (bO e).name=true∧(bO e).rest.ok∧(∃U,bD (bO e).rest (eP s++[((bO e).name,T)])=some U)∧(bO e).s.n+(bO e).rest.n+2<=e.n
theorem oa.goal {on:Nat} {bc:aj} (h:oa m s on bc e):∃T,vF m s on bc e T:=by
 obtain⟨T,hT⟩:=h.type
 have same:bO e=⟨[],e,e⟩->∃T,vF m s on bc e T:=λhg=>by
  refine⟨T,?_,?_,lX h.sc.types hT,?_,?_,?_,?_⟩
  ·rw[hg];exact h.ok
  ·rw[hg];exact hT
  ·rw[hg];unfold nS;rw[hT];rfl
  ·rw[hg];exact lR _
  ·intro _;rw[hg]
  ·intro hn;rw[hg] at hn;exact absurd rfl hn
 have bj:=h.ok
 cases e with
 |lt x a b=>
  unfold bD at hT
  cases ha:bD a (eP s) with
  |none=>rw[ha] at hT;cases hT
  |some A=>
   rw[ha,Option.bind_some] at hT
   refine⟨A,bj.2.1,ha,lX h.sc.types ha,by show(bD a (eP s)).getD .i=A;rw[ha];rfl,by simp only[bO,Ex.n];omega,λhn=>absurd hn (vv bj.1),λ_=>⟨bj.1,bj.2.2,⟨T,hT⟩,by simp only[bO,Ex.n];omega⟩⟩
 |«at» a=>exact same rfl
 |un a b=>exact same rfl
 |bi a b c=>exact same rfl
 |ite a b c=>exact same rfl
 |fn a b c d f=>exact same rfl
def eU (m:Mk) (s:cP) (on:Nat) (bc name:aj) (kind:Ty) (rest:Ex):Mk×Nat×aj:=if name≠[] then tZ m s on bc name kind rest else(m,on,bc)
structure Cut (m m':Mk) (on':Nat) (onOf':aj) (n:Nat) (new:List Tk):Prop where
 ext:Ext m m' 4 new
 sml:fu m'
 on:on'<1000
 bc:Bp onOf'
 inv:∀k,k∈new->oN k
 num:k7 new<=n
theorem UW {m0:Mk} {on:Nat} {bc:aj} {T:Ty} (h:oa m0 s on bc e) (g:vF m0 s on bc e T) (hm:fu m) (fh:m.types.length+4<1000) (hc:m.count<1000) (h3:2<=(bO e).s.n):
  ∃new,Cut m (eU m s on bc (bO e).name T (bO e).rest).1 (eU m s on bc (bO e).name T (bO e).rest).2.1 (eU m s on bc (bO e).name T (bO e).rest).2.2 (e.n-(bO e).s.n) new:=by
 by_cases hn:(bO e).name=[]
 ·unfold eU
  rw[iN (by simp[hn])]
  exact⟨[],(Ext.refl m).more om,hm,h.on,h.bc,sm,by simp[Hr]⟩
 ·unfold eU
  rw[iP hn]
  obtain⟨gk,Hs,⟨U,hU⟩,qd⟩:=g.rest hn
  have hb:=h.bud
  obtain⟨h1,h2,h3,h4,h5⟩:=agr (name:=(bO e).name) hm h.sc h.on h.bc g.small Hs hU om fh hc
  refine⟨_,h1,h2,h3,h4,λk hk=>by simp only[List.mem_singleton] at hk;rw[hk];exact h5,?_⟩
  rw[NX]
  show(bO e).rest.n+1<=_
  omega
structure Fin (m m':Mk) (n:Nat) (new:List Tk):Prop where
 ext:Ext m m' 20 new
 sml:fu m'
 inv:∀k,k∈new->oN k
 num:k7 new+1<=n
structure On (m m':Mk) (s:cP) (on:Nat) (bc:aj) (n:Nat) (r:Ex) (new:List Tk):Prop where
 ext:Ext m m' 20 new
 inv:oa m' s on bc r
 bP:∀k,k∈new->oN k
 num:k7 new+r.n+1<=n
theorem agu {on:Nat} {bc:aj} {T:Ty} (h:oa m s on bc e) (g:vF m s on bc e T) (hn:(bO e).name=[]):
  ∃new,Fin m (yr (mW m s T (bO e).s).1 on (mW m s T (bO e).s).2) e.n new:=by
 have hr:=h.room
 have hc:=h.cnt
 have hp:=(bO e).s.pos
 have hle:=g.le
 obtain⟨new,hP⟩:=NY h.sml h.sc g.ok g.type (by have:=h.bud;omega) om om
 have ht:=hP.ext.types
 obtain⟨h1,h2⟩:=agt hP.sml h.on hP.dy om
 exact⟨new,by have:=hP.ext.trans h1;rw[List.append_nil] at this;exact this.more om,h2,hP.inv,by have:=hP.num;omega⟩
theorem UX {on:Nat} {bc:aj} {T:Ty} (h:oa m s on bc e) (g:vF m s on bc e T) (hn:(bO e).name≠[]):
  ∃new,On m (mW m s T (bO e).s).1 (s++[((bO e).name,(mW m s T (bO e).s).2,T)]) on bc e.n (bO e).rest new:=by
 have hr:=h.room
 have hc:=h.cnt
 have hp:=(bO e).s.pos
 have hle:=g.le
 obtain⟨gk,Hs,⟨U,hU⟩,qd⟩:=g.rest hn
 obtain⟨new,hP⟩:=NY h.sml h.sc g.ok g.type (by have:=h.bud;omega) om om
 have ht:=hP.ext.types
 have hct:=hP.ext.count
 have J6:=hP.num
 have hlen:new.length<=k7 new:=by
  unfold k7
  clear hP hct J6
  induction new with
  |nil=>simp
  |cons t l ih=>simp only[lC,List.map_cons,List.sum_cons];omega
 refine⟨new,hP.ext.more om,⟨hP.sml,h.sc.snoc hP.dy g.small,Hs,⟨U,by rw[Ev];exact hU⟩,?_,om,h.on,h.bc,om⟩,hP.inv,om⟩
 have:=h.bud
 simp only[lA,lC,List.length_nil];omega
theorem agw {on:Nat} {bc:aj} {f x:Ex} {T:Ty} (h:oa m s on bc e) (g:vF m s on bc e T) (hs:(bO e).s= .bi kn f x):
  ∃new,Cut (cv (cv m s f.av).1 s x.av).1 (eU (cv (cv m s f.av).1 s x.av).1 s on bc (bO e).name T (bO e).rest).1 (eU (cv (cv m s f.av).1 s x.av).1 s on bc (bO e).name T (bO e).rest).2.1 (eU (cv (cv m s f.av).1 s x.av).1 s on bc (bO e).name T (bO e).rest).2.2 (e.n-3) new∧
   Fin m (yq (eU (cv (cv m s f.av).1 s x.av).1 s on bc (bO e).name T (bO e).rest).1 (cv m s f.av).2 (cv (cv m s f.av).1 s x.av).2 (eU (cv (cv m s f.av).1 s x.av).1 s on bc (bO e).name T (bO e).rest).2.1) e.n new:=by
 have bj:=g.ok
 rw[hs] at bj
 have hr:=h.room
 have hc:=h.cnt
 have hle:=g.le
 have NZ:3<=(bO e).s.n:=by rw[hs];simp only[Ex.n];have:=f.pos;have:=x.pos;omega
 obtain⟨⟨e1,s1,r1⟩,e2,s2,r2⟩:=UR h.sml h.sc (oL bj.2.1) (oL bj.2.2) om
 have t2:=e2.types
 have c2:=e2.count
 simp only[List.length_nil] at c2
 obtain⟨new,hC⟩:=UW h g s2 om om om
 have t3:=hC.ext.types
 obtain⟨h1,h2⟩:=ags hC.sml r1 r2 hC.on om
 refine⟨new,⟨hC.ext,hC.sml,hC.on,hC.bc,hC.inv,by have:=hC.num;omega⟩,?_,h2,hC.inv,by have:=hC.num;omega⟩
 have:=(e2.trans hC.ext).trans h1
 rw[List.append_nil,List.nil_append] at this;exact this.more om
def N0 (m:Mk) (s:cP) (on:Nat) (bc:aj) (x:Ex):Tk:=⟨m.aM,m.types,0,[],s,x,on,bc,m.types.length⟩
def Ht (m:Mk) (s:cP) (on:Nat) (bc:aj) (r:Nat) (x:Ex):Mk:={(m.lI.cM GI [aZ r,m.aM]) with bP:=m.bP++[N0 m s on bc x]}
theorem UY {on:Nat} {bc:aj} {c x y:Ex} {T:Ty} (h:oa m s on bc e) (g:vF m s on bc e T) (hs:(bO e).s= .ite c x y):
  ∃new yP,Cut (cv m s c.av).1 (eU (cv m s c.av).1 s on bc (bO e).name T (bO e).rest).1 (eU (cv m s c.av).1 s on bc (bO e).name T (bO e).rest).2.1 (eU (cv m s c.av).1 s on bc (bO e).name T (bO e).rest).2.2 (e.n-(bO e).s.n) new∧
   On m (Ht (eU (cv m s c.av).1 s on bc (bO e).name T (bO e).rest).1 s (eU (cv m s c.av).1 s on bc (bO e).name T (bO e).rest).2.1 (eU (cv m s c.av).1 s on bc (bO e).name T (bO e).rest).2.2 (cv m s c.av).2 x) s
    (eU (cv m s c.av).1 s on bc (bO e).name T (bO e).rest).2.1 (eU (cv m s c.av).1 s on bc (bO e).name T (bO e).rest).2.2 e.n y yP:=by
 have bj:=g.ok
 have fh:=g.type
 rw[hs] at bj fh
 have hr:=h.room
 have hc:=h.cnt
 have hle:=g.le
 have hb:=h.bud
 have hcp:=c.pos
 have NZ:(bO e).s.n=1+c.n+x.n+y.n:=by rw[hs];rfl
 have hxp:=x.pos
 have hyp:=y.pos
 obtain⟨e1,s1,r1⟩:=Hm h.sml h.sc (oL bj.1) om
 have t1:=e1.types
 have c1:=e1.count
 simp only[List.length_nil] at c1
 obtain⟨new,hC⟩:=UW h g s1 om om om
 generalize eU (cv m s c.av).1 s on bc (bO e).name T (bO e).rest=Q at hC⊢
 obtain⟨m2,yQ,UZ⟩:=Q
 dsimp only at hC⊢
 have t3:=hC.ext.types
 have c3:=hC.ext.count
 have J6:=hC.num
 have hlen:new.length<=k7 new:=by
  unfold k7
  clear hC c3 J6 t3
  induction new with
  |nil=>simp
  |cons t l ih=>simp only[lC,List.map_cons,List.sum_cons];omega
 have hl:=Br (m:=m2) om
 have tys:(∃X,bD x (eP s)=some X)∧∃Y,bD y (eP s)=some Y:=by
  unfold bD at fh
  cases h1:bD c (eP s) with
  |none=>rw[h1] at fh;cases fh
  |some A=>
   cases h2:bD x (eP s) with
   |none=>rw[h1,h2] at fh;cases fh
   |some B=>
    cases h3:bD y (eP s) with
    |none=>rw[h1,h2,h3] at fh;cases fh
    |some D=>exact⟨⟨B,rfl⟩,⟨D,rfl⟩⟩
 have oT:oN (N0 m2 s yQ UZ x):=
  ⟨bj.2.1,tys.1,h.sc,by show 5*s.length+2*x.n<=240;omega,by show m2.types.length+0+8*x.n<=990;omega,hC.sml.types,.inl rfl,.inl rfl,hC.bc,hC.on,hl⟩
 refine⟨new,new++[N0 m2 s yQ UZ x],hC,⟨?_,⟨?_,h.sc,bj.2.2,tys.2,om,?_,hC.on,hC.bc,?_⟩,?_,?_⟩⟩
 ·have he:=e1.trans hC.ext
  rw[List.nil_append] at he
  refine⟨he.blocks,?_,?_,?_,?_⟩
  ·show m2.bP++[_]=_
   rw[he.bP,List.append_assoc]
  ·show m2.count+1=_
   rw[he.count,lA];simp;omega
  ·have:=he.types;exact⟨this.1,by show m2.types.length<=_;omega⟩
  ·have:=he.code
   show(m2.code++[_]).length<=_
   simp only[lA,lC,List.length_nil];omega
 ·have:=oS (m:=m2.lI) (hd:=GI) (ps:=[aZ (cv m s c.av).2,m2.aM]) ⟨hC.sml.types,hC.sml.code⟩ de sm (λp hp=>by
   simp only[mC,List.not_mem_nil,or_false] at hp
   rcases hp with rfl|rfl
   ·have:=nZ r1;omega
   ·omega)
  exact⟨this.types,this.code⟩
 ·show m2.types.length+_<=_;omega
 ·show m2.count+1+_<=_;omega
 ·intro k hk
  rcases mA.1 hk with hk|hk
  ·exact hC.inv k hk
  ·simp only[List.mem_singleton] at hk;rw[hk];exact oT
 ·rw[Hq,NX]
  show _+(x.n+1)+_+1<=_
  omega
def py (m:Mk) (ts:List aq):Nat->Mk
 |0=>m
 |k+1=>((py m ts k).dy (nth ts k).text).cM sN [aZ (py m ts k).types.length,[48],aZ k]
def Bu (m:Mk) (aM:aj) (regs:List aj) (a b:aj):Mk:=
 let code:=cY [99] regs
 let r:=m.types.length
 (((((m.dy code).cM sL [aZ r,aM]).dy (cY [116] [code,b])).cM lY [aZ (r+1),aZ r,[48]]).dy a).cM sM [aZ (r+2),aZ (r+1),a,b]
def ob (m:Mk) (regs:List aj):Mk:={m with code:=[],types:=regs}
def J7 (m:Mk) (t:Tk):Mk:=match t.self with
 |[a,b]=>Bu m t.aM t.regs a b
 |_=>m
def nh (t:Tk):List aq:=match bA (t.regs.getD 0 [105]) with
 |some x=>x.ai.drop 1
 |none=>[]
def qP (m:Mk) (t:Tk):Mk:=J7 (py (ob m t.regs) (nh t) t.loads) t
theorem N2 {t:Tk} (h:t.regs.head?=some (cY [116] (ts.map aq.text))) (hp:bA (cY [116] (ts.map aq.text))=some (ju [116] ts)):nh t=ts∧bA (t.regs.getD 0 [105])=some (ju [116] ts):=by
 have e:t.regs.getD 0 [105]=cY [116] (ts.map aq.text):=by
  cases hr:t.regs with
  |nil=>rw[hr] at h;cases h
  |cons a l=>rw[hr] at h;simpa using h
 unfold nh
 rw[e,hp]
 exact⟨rfl,rfl⟩
structure C3 (m m':Mk) (regs:List aj) (k:Nat):Prop where
 blocks:m'.blocks=m.blocks
 bP:m'.bP=m.bP
 count:m'.count=m.count
 types:m'.types.length=regs.length+k
 code:m'.code.length<=k
 sml:fu m'
theorem N3 {regs:List aj} (h:∀r,r∈regs->r.length<=100000):C3 m (ob m regs) regs 0:=⟨rfl,rfl,rfl,rfl,by simp[ob],⟨h,by simp[ob]⟩⟩
theorem N4 {m:Mk} {regs:List aj} (h:∀r,r∈regs->r.length<=100000) (kW:∀t,t∈ts->t.text.length<=100000):∀k,regs.length+k<1000->k<=ts.length->C3 m (py (ob m regs) ts k) regs k
 |0,_,_=>N3 h
 |k+1,hk,hl=>by
  have ih:=N4 (m:=m) h kW k om om
  have d1:=nZ (n:=(py (ob m regs) ts k).types.length) (by rw[ih.types];omega)
  have d2:=nZ (n:=k) om
  refine⟨ih.blocks,ih.bP,ih.count,by show(((py (ob m regs) ts k).types++[_])).length=_;rw[lA,ih.types];rfl,?_,?_⟩
  ·show((py (ob m regs) ts k).code++[_]).length<=_
   have:=ih.code
   rw[lA];simp;omega
  ·refine oS (ih.sml.dy ?_) sm sm ?_
   ·have:=kW (nth ts k) (by unfold nth;rw[gG,gE om];exact List.getElem_mem _)
    omega
   ·intro p hp
    simp only[mC,List.not_mem_nil,or_false] at hp
    rcases hp with rfl|rfl|rfl
    ·omega
    ·simp
    ·omega
theorem U0 {regs:List aj} (h3:regs.length=3) (h:∀r,r∈regs->r.length<=11200):(cY [99] regs).length<=33610:=by
 have h1:=Bo (m:=11200) regs h
 rw[h3] at h1
 rw[l6]
 simp only[lC,List.length_nil];omega
theorem agx (a b c d:aj):iU [a,b,c,d]=4+a.length+b.length+c.length+d.length:=by simp[iU];omega
theorem agy (hm:fu m) {aM:aj} (hl:aM.length<=4) {regs:List aj} (h3:regs.length=3) (h:∀r,r∈regs->r.length<=11200) {a b:aj} (ha:a.length<=272) (hb:b.length<=11200) (ht:m.types.length+3<1000):fu (Bu m aM regs a b):=by grind [U0,nZ,dd.length,cY,l6,Bq,Bu,fu.cM,fu.dy,oS,agx]
theorem agz {m':Mk} {regs:List aj} (h:C3 m m' regs k) (aM a b:aj) (hs:fu (Bu m' aM regs a b)):C3 m (Bu m' aM regs a b) regs (k+3):=
 ⟨h.blocks,h.bP,h.count,by have:=h.types;simp[Bu,Mk.dy,Mk.cM];omega,by have:=h.code;simp[Bu,Mk.dy,Mk.cM];omega,hs⟩
theorem U1 {s:aj} (h:s∈ps):s.length<=iU ps:=by
 unfold iU
 have:∀{xs:List aj},s∈xs->s.length<=(xs.map List.length).sum:=by
  intro xs
  induction xs with
  |nil=>intro h;cases h
  |cons x xs ih=>
   intro h
   rw[List.map_cons,List.sum_cons]
   rcases mC.1 h with rfl|h
   ·omega
   ·have:=ih h;omega
 have:=this h;omega
theorem N5 {m:Mk} {t:Tk} (h:oN t):C3 m (qP m t) t.regs (t.loads+(if t.self=[] then 0 else 3)):=by
 have hr:=h.room
 have hp:=t.expr.pos
 have h1:C3 m (py (ob m t.regs) (nh t) t.loads) t.regs t.loads:=by
  rcases h.loads with h0|⟨ts,hh,hl,Hu⟩
  ·rw[h0];exact N3 h.regs
  ·obtain⟨e1,_⟩:=N2 hh Hu
   rw[e1]
   refine N4 h.regs (λx hx=>?_) _ om hl
   have h2:=h.regs _ (List.mem_of_mem_head? hh)
   rw[l6] at h2
   have:=U1 (List.mem_map_of_mem (f:=aq.text) hx)
   omega
 unfold qP J7
 rcases h.self with h0|⟨a,b,hs,ha,hb,h3,hl⟩
 ·rw[h0,iP rfl];exact h1
 ·rw[hs,iN sm]
  refine agz h1 _ _ _ (agy h1.sml h.aM h3 hl ha hb ?_)
  rw[h1.types];omega
theorem U2 {t:Tk} (h:oN t) (hc:m.count+t.expr.n<=900):oa (qP m t) t.sc t.on t.bc t.expr:=by
 have hb:=N5 (m:=m) h
 have hr:=h.room
 refine⟨hb.sml,h.sc,h.ok,h.type,h.bud,?_,h.on,h.bc,by rw[hb.count];exact hc⟩
 rw[hb.types]
 split<;>omega
/-! ### A block's body -/
def mv:Nat->At->Ex->Mk
 |0,a,_=>a.m
 |k+1,a,e=>match kq a e with
  | .inl m=>m
  | .inr p=>mv k p.1 p.2
theorem J8 (m:Mk) (s:cP) (on:Nat) (bc:aj) (g:Goal):JE ⟨m,s,on,bc⟩ g=⟨(eU m s on bc g.name (nS s g.s) g.rest).1,s,(eU m s on bc g.name (nS s g.s) g.rest).2.1,(eU m s on bc g.name (nS s g.s) g.rest).2.2⟩:=by
 unfold JE eU
 split<;>rfl
theorem U3 {on:Nat} {bc:aj} (h:oa m s on bc e):match kq ⟨m,s,on,bc⟩ e with
  | .inl m'=>∃new,Fin m m' e.n new
  | .inr p=>∃new,On m p.1.m p.1.s p.1.on p.1.bc e.n p.2 new:=by
 obtain⟨T,g⟩:=h.goal
 have hY:=g.nS
 have simple:kq ⟨m,s,on,bc⟩ e=(if(bO e).name=[] then .inl (yr (mW m s (nS s (bO e).s) (bO e).s).1 on (mW m s (nS s (bO e).s) (bO e).s).2) else .inr (⟨(mW m s (nS s (bO e).s) (bO e).s).1,s++[((bO e).name,(mW m s (nS s (bO e).s) (bO e).s).2,nS s (bO e).s)],on,bc⟩,(bO e).rest))->
   match kq ⟨m,s,on,bc⟩ e with
   | .inl m'=>∃new,Fin m m' e.n new
   | .inr p=>∃new,On m p.1.m p.1.s p.1.on p.1.bc e.n p.2 new:=λhs=>by
  rw[hs,hY]
  by_cases hn:(bO e).name=[]
  ·rw[iP hn];exact agu h g hn
  ·rw[iN hn];exact UX h g hn
 cases hg:(bO e).s with
 |«at» a=>exact simple (by unfold kq;simp only[hg])
 |un a b=>exact simple (by unfold kq;simp only[hg])
 |lt a b c=>exact simple (by unfold kq;simp only[hg])
 |fn a b c d f=>exact simple (by unfold kq;simp only[hg])
 |bi hd f x=>
  by_cases hc:hd=kn
  ·subst hc
   have hs:kq ⟨m,s,on,bc⟩ e= .inl (yq (eU (cv (cv m s f.av).1 s x.av).1 s on bc (bO e).name T (bO e).rest).1 (cv m s f.av).2 (cv (cv m s f.av).1 s x.av).2 (eU (cv (cv m s f.av).1 s x.av).1 s on bc (bO e).name T (bO e).rest).2.1):=by
    unfold kq
    simp only[hg,if_true,J8]
    rw[<-hg,hY]
   rw[hs]
   obtain⟨new,_,hF⟩:=agw h g hg
   exact⟨new,hF⟩
  ·exact simple (by unfold kq;simp only[hg,iN hc])
 |ite c x y=>
  have hs:kq ⟨m,s,on,bc⟩ e= .inr (⟨Ht (eU (cv m s c.av).1 s on bc (bO e).name T (bO e).rest).1 s (eU (cv m s c.av).1 s on bc (bO e).name T (bO e).rest).2.1 (eU (cv m s c.av).1 s on bc (bO e).name T (bO e).rest).2.2 (cv m s c.av).2 x,s,
    (eU (cv m s c.av).1 s on bc (bO e).name T (bO e).rest).2.1,(eU (cv m s c.av).1 s on bc (bO e).name T (bO e).rest).2.2⟩,y):=by
   unfold kq
   simp only[hg,J8]
   rw[<-hg,hY];rfl
  rw[hs]
  obtain⟨_,new,_,hO⟩:=UY h g hg
  exact⟨new,hO⟩
structure xj (m m':Mk) (s:cP) (on:Nat) (bc:aj) (n k:Nat) (r:Ex) (new:List Tk):Prop where
 ext:Ext m m' k new
 inv:oa m' s on bc r
 bP:∀k,k∈new->oN k
 num:k7 new+r.n<=n
 steps:k+20*r.n<=20*n
theorem xj.start {on:Nat} {bc:aj} (h:oa m s on bc e):xj m m s on bc e.n 0 e []:=⟨Ext.refl m,h,sm,by simp[Hr],om⟩
theorem xj.step {s2:cP} {on yQ:Nat} {bc EP:aj} {r r2:Ex} {new yP:List Tk} (h:xj m m1 s on bc n k r new) (h2:On m1 m2 s2 yQ EP r.n r2 yP):xj m m2 s2 yQ EP n (k+20) r2 (new++yP):=
 ⟨h.ext.trans h2.ext,h2.inv,λt ht=>by rcases mA.1 ht with ht|ht;exact h.bP t ht;exact h2.bP t ht,by rw[Hq];have:=h.num;have:=h2.num;omega,by have:=h.steps;have:=h2.num;omega⟩
structure N6 (m m':Mk) (n:Nat) (new:List Tk):Prop where
 ext:Ext m m' (20*n) new
 sml:fu m'
 inv:∀k,k∈new->oN k
 num:k7 new+1<=n
theorem xj.fin {on:Nat} {bc:aj} {r:Ex} {new yP:List Tk} (h:xj m m1 s on bc n k r new) (h2:Fin m1 m2 r.n yP):N6 m m2 n (new++yP):=by
 have h3:=h.steps
 have h4:=r.pos
 refine⟨(h.ext.trans h2.ext).more om,h2.sml,λt ht=>?_,by rw[Hq];have:=h.num;have:=h2.num;omega⟩
 rcases mA.1 ht with ht|ht
 ·exact h.bP t ht
 ·exact h2.inv t ht
theorem J9:∀(k:Nat) {m:Mk} {s:cP} {on:Nat} {bc:aj} {e:Ex},oa m s on bc e->e.n<=k->∃new,N6 m (mv k ⟨m,s,on,bc⟩ e) e.n new
 |0,_,_,_,_,e,_,hk=>absurd hk (by have:=e.pos;omega)
 |k+1,m,s,on,bc,e,h,hk=>by
  have h1:=U3 h
  unfold mv
  cases hs:kq ⟨m,s,on,bc⟩ e with
  |inl m'=>
   rw[hs] at h1
   obtain⟨new,h1⟩:=h1
   exact⟨_,(xj.start h).fin h1⟩
  |inr p=>
   rw[hs] at h1
   obtain⟨⟨m1,s1,vG,agA⟩,e1⟩:=p
   obtain⟨new,h1⟩:=h1
   dsimp only at h1⊢
   obtain⟨yP,h2⟩:=J9 k h1.inv (by have:=h1.num;omega)
   have h3:=h1.num
   refine⟨new++yP,(h1.ext.trans h2.ext).more om,h2.sml,λt ht=>?_,by rw[Hq];have:=h2.num;omega⟩
   rcases mA.1 ht with ht|ht
   ·exact h1.bP t ht
   ·exact h2.inv t ht
theorem agB:∀(k:Nat) {m:Mk} {s:cP} {on:Nat} {bc:aj} {e:Ex},oa m s on bc e->e.n<=k->mv k ⟨m,s,on,bc⟩ e=mv e.n ⟨m,s,on,bc⟩ e:=by
 have key:∀(k j:Nat) {m:Mk} {s:cP} {on:Nat} {bc:aj} {e:Ex},oa m s on bc e->e.n<=k->e.n<=j->mv k ⟨m,s,on,bc⟩ e=mv j ⟨m,s,on,bc⟩ e:=by
  intro k
  induction k with
  |zero=>intro j _ _ _ _ e _ hk;have:=e.pos;omega
  |succ k ih=>
   intro j m s on bc e h hk hj
   cases j with
   |zero=>have:=e.pos;omega
   |succ j=>
    have h1:=U3 h
    unfold mv
    cases hs:kq ⟨m,s,on,bc⟩ e with
    |inl m'=>rfl
    |inr p=>
     rw[hs] at h1
     obtain⟨⟨m1,s1,vG,agA⟩,e1⟩:=p
     obtain⟨new,h1⟩:=h1
     dsimp only at h1⊢
     have h3:=h1.num
     exact ih j h1.inv om om
 exact λk m s on bc e h hk=>key k e.n h hk (lR _)
/-! ### A program -/
def C4 (m:Mk) (aM:aj) (regs:List aj):Mk:={m with blocks:=m.blocks++[⟨aM,regs,m.code⟩]}
abbrev sT:aj:=[40,116,41]
def s9 (T:Ty):Mk:=
 let on:=dJ (bz T)
 let code:=cY [99] [sT,bz T]
 ((((⟨[],[],0,false,[],[sT,code,cY [116] [code,sT],on]⟩:Mk).cM lY [[48]]).cM sL [[49],AK]).cM lY [[50],[49],[48]]).cM sM [[51],[50],on,sT]
def Hv (e:Ex) (T:Ty):Tk:=⟨CC,[],0,[],[],e,3,dJ (bz T),0⟩
def sd (e:Ex) (T:Ty):Mk:=mv e.n ⟨s9 T,[],3,dJ (bz T)⟩ e
def C5 (e:Ex) (T:Ty):Mk:=C4 {(C4 (sd e T) CC []) with code:=[[40,104,97,108,116,32,49,41]]} AK [sT,bz T]
def ER (m:Mk) (t:Tk):Mk:=C4 (mv t.expr.n ⟨qP m t,t.sc,t.on,t.bc⟩ t.expr) t.aM t.regs
def ij (ts:List Tk) (i:Nat):Tk:=ts.getD i ⟨[],[],0,[],[],.at [],0,[],0⟩
def yR:Nat->Mk->Nat->Mk
 |0,m,_=>m
 |k+1,m,i=>if i<m.bP.length then yR k (ER m (ij m.bP i)) (i+1) else m
def ofM (e:Ex) (T:Ty):Mk:=yR 1000 (C5 e T) 0
structure se (m:Mk) (i:Nat):Prop where
 le:i<=m.bP.length
 count:m.count=m.bP.length
 num:i+k7 (m.bP.drop i)<=120
 inv:∀t,t∈m.bP.drop i->oN t
 tR:∀b,b∈m.blocks->b.small∧b.aM.length<=10
 bnum:m.blocks.length=i+2
theorem U4 {T:Ty} (bj:e.ok) (ht:bD e []=some T) (hn:e.n<=120):oa (s9 T) [] 3 (dJ (bz T)) e:=by
 have hT:=lX (Γ:=[]) (λs T h=>by simp[look] at h) ht
 have h1:=qg hT
 have h2:=uj hT
 have hc:(cY [99] [sT,bz T]).length<=300:=by rw[l6,Bq];simp only[lC,List.length_nil];omega
 have ho:Bp (dJ (bz T)):=⟨T,hT,rfl⟩
 refine⟨?_,⟨λs T h=>by simp[eP,look] at h,sm⟩,bj,⟨T,ht⟩,by simp;omega,by simp[s9,Mk.cM];omega,om,ho,by simp[s9,Mk.cM];omega⟩
 unfold s9
 refine oS (oS (oS (oS ⟨?_,sm⟩ sm sm ?_) sm sm ?_) sm sm ?_) sm sm ?_
 ·intro s hs
  simp only[mC,List.not_mem_nil,or_false] at hs
  rcases hs with rfl|rfl|rfl|rfl
  ·simp
  ·omega
  ·rw[l6,Bq];simp only[lC,List.length_nil];omega
  ·omega
 all_goals
  intro p hp
  simp only[mC,List.not_mem_nil,or_false] at hp
  first
  |(rcases hp with rfl|rfl|rfl|rfl<;>first|omega|simp)
  |(rcases hp with rfl|rfl|rfl<;>first|omega|simp)
  |(rcases hp with rfl|rfl<;>first|omega|simp)
  |(rw[hp];simp)
theorem U5 {T:Ty} (bj:e.ok) (ht:bD e []=some T) (hn:e.n<=120):∃new,N6 (s9 T) (sd e T) e.n new:=J9 _ (U4 bj ht hn) (lR _)
theorem U6 (ts:List Tk):ts.length<=k7 ts:=by induction ts<;>grind [k7]
theorem agC (m:Mk) (l:aj) (r:List aj):(C4 m l r).blocks=m.blocks++[⟨l,r,m.code⟩]:=rfl
theorem N7 {T:Ty} (bj:e.ok) (ht:bD e []=some T) (hn:e.n<=120):se (C5 e T) 0:=by
 obtain⟨new,h⟩:=U5 bj ht hn
 have h1:=h.ext.bP
 have h2:=h.ext.count
 have h3:=h.num
 have h4:=h.ext.code
 have h5:=h.ext.blocks
 have hb:(C5 e T).blocks=[⟨CC,[],(sd e T).code⟩,⟨AK,[sT,bz T],[[40,104,97,108,116,32,49,41]]⟩]:=by
  unfold C5
  rw[agC]
  show(sd e T).blocks++_++_=_
  rw[h5];rfl
 have ou:(C5 e T).bP=new:=by
  show(sd e T).bP=new
  rw[h1];rfl
 refine⟨Nat.zero_le _,?_,?_,?_,?_,by rw[hb];rfl⟩
 ·rw[ou]
  show(sd e T).count=_
  rw[h2];simp[s9,Mk.cM]
 ·rw[ou,List.drop_zero];omega
 ·rw[ou,List.drop_zero];exact h.inv
 ·intro b fX
  rw[hb] at fX
  have h6:(s9 T).code.length=4:=rfl
  simp only[mC,List.not_mem_nil,or_false] at fX
  rcases fX with rfl|rfl
  ·exact⟨⟨by simp,sm,by show(sd e T).code.length<_;omega⟩,sm⟩
  ·exact⟨⟨by simp,sm,sm⟩,sm⟩
theorem Ka {ts:List Tk} (hi:i<ts.length):ts.drop i=ij ts i::ts.drop (i+1):=by simp_all[ij]
theorem se.task (h:se m i) (hi:i<m.bP.length):oN (ij m.bP i)∧m.count+(ij m.bP i).expr.n<=900∧m.bP.length<=120:=by
 have h1:=h.num
 have hl:=U6 (m.bP.drop i)
 rw[List.length_drop] at hl
 have h2:k7 (m.bP.drop i)=(ij m.bP i).expr.n+1+k7 (m.bP.drop (i+1)):=by rw[Ka hi];simp[k7]
 have h3:=h.count
 exact⟨h.inv _ (by rw[Ka hi];simp),om,om⟩
theorem se.step (h:se m i) (hi:i<m.bP.length):se (ER m (ij m.bP i)) (i+1):=by
 obtain⟨hT,hc,_⟩:=h.task hi
 have h1:=h.num
 have h2:k7 (m.bP.drop i)=(ij m.bP i).expr.n+1+k7 (m.bP.drop (i+1)):=by rw[Ka hi];simp[k7]
 have hb:=N5 (m:=m) hT
 obtain⟨new,hF⟩:=J9 _ (U2 hT hc) (lR _)
 have e1:=hF.ext.bP
 have e2:=hF.ext.count
 have e3:=hF.ext.code
 have e4:=hF.ext.blocks
 have e5:=hF.num
 have hbc:=hb.code
 rw[hb.bP] at e1
 rw[hb.count] at e2
 rw[hb.blocks] at e4
 have hr:=hT.room
 have hd:(m.bP++new).drop (i+1)=m.bP.drop (i+1)++new:=by rw[List.drop_append_of_le_length hi]
 have ht:(ER m (ij m.bP i)).bP=m.bP++new:=e1
 refine⟨by rw[ht,lA];omega,?_,?_,?_,?_,?_⟩
 ·rw[ht,lA,<-h.count];exact e2
 ·rw[ht,hd,Hq];omega
 ·intro t ES
  rw[ht,hd] at ES
  rcases mA.1 ES with ES|ES
  ·exact h.inv t (by rw[Ka hi];simp[ES])
  ·exact hF.inv t ES
 ·intro b fX
  have ET:b∈m.blocks++[⟨(ij m.bP i).aM,(ij m.bP i).regs,(mv (ij m.bP i).expr.n ⟨qP m (ij m.bP i),(ij m.bP i).sc,(ij m.bP i).on,(ij m.bP i).bc⟩ (ij m.bP i).expr).code⟩]:=by rw[<-e4];exact fX
  rcases mA.1 ET with ET|ET
  ·exact h.tR b ET
  ·simp only[List.mem_singleton] at ET
   rw[ET]
   have hl:=hT.aM
   refine⟨⟨by show(ij m.bP i).aM.length<_;omega,by show(ij m.bP i).regs.length<_;omega,?_⟩,by show(ij m.bP i).aM.length<=_;omega⟩
   refine Nat.lt_of_le_of_lt e3 ?_
   have:(if(ij m.bP i).self=[] then 0 else 3)<=3:=by split<;>omega
   omega
 ·show((mv _ _ _).blocks++[_]).length=_
  rw[e4,lA,h.bnum];rfl
theorem U7 (h:¬i<m.bP.length):∀k,yR k m i=m
 |0=>rfl
 |k+1=>by unfold yR;rw[iN h]
theorem U8 (h:i<m.bP.length) (k:Nat):yR (k+1) m i=yR k (ER m (ij m.bP i)) (i+1):=by
 rw[yR,iP h]
theorem se.small (h:se m i):tU m.blocks:=by
 have h1:=h.num
 refine⟨by rw[h.bnum];omega,λj hj=>(h.tR _ ?_).1⟩
 unfold bN
 rw[gG,gE hj];exact List.getElem_mem hj
theorem se.labels (h:se m i):∀b,b∈m.blocks->b.aM.length<=10:=λb hb=>(h.tR b hb).2
theorem Bv (h:aj):(ie h=true∧gx h=false∧h≠gN∧h≠gw∧h≠ic∧ek h=(1,3))∨(ie h=false∧gx h=false∧h=gN∧ek h=(1,4))∨
  (ie h=false∧gx h=false∧h=gw∧ek h=(2,4))∨(ie h=false∧gx h=false∧h=ic∧ek h=(5,6))∨(ie h=false∧gx h=true∧h≠gN∧h≠gw∧h≠ic∧ek h=(1,2))∨
  (ie h=false∧gx h=false∧h≠gN∧h≠gw∧h≠ic∧ek h=(0,0)):=by
 by_cases hb:ie h=true
 ·left
  have hk:ek h=(1,3):=by unfold ek;rw[iP hb]
  have aO:=hb
  simp only[ie,oE,dE] at aO
  rcases aO with(((e|e)|e)|e)|e<;>subst e<;>refine⟨rfl,rfl,by decide,by decide,by decide,hk⟩
 ·have gC:ie h=false:=by simpa using hb
  right
  by_cases h1:h=gN
  ·left;exact⟨gC,by rw[h1];rfl,h1,by rw[h1];rfl⟩
  ·right
   by_cases h2:h=gw
   ·left;exact⟨gC,by rw[h2];rfl,h2,by rw[h2];rfl⟩
   ·right
    by_cases h3:h=ic
    ·left;exact⟨gC,by rw[h3];rfl,h3,by rw[h3];rfl⟩
    ·right
     by_cases h4:gx h=true
     ·left;exact⟨gC,h4,h1,h2,h3,by unfold ek;rw[iN hb,iN h1,iN h2,iN h3,iP h4]⟩
     ·right;exact⟨gC,by simpa using h4,h1,h2,h3,by unfold ek;rw[iN hb,iN h1,iN h2,iN h3,iN h4]⟩
theorem Kb:ek gN=(1,4)∧ek gw=(2,4)∧ek ic=(5,6)∧gx gN=false∧gx gw=false∧gx ic=false∧ie gN=false∧ie gw=false∧ie ic=false:=by simp_all[ek,gx,ie]
def EU (ps:List aq):Bool:=(decide ((ek (nth ps 0).av).1<=1)||dX (nth ps 1).av)&&
 (decide ((ek (nth ps 0).av).1≠5)||(dX (nth ps 2).av&&decide ((nth ps 1).av≠(nth ps 2).av)&&j5 (nth ps 3)&&j5 (nth ps 4)))
theorem agD (ps:List aq):nP ps=(decide ((ek (nth ps 0).av).1≠0)&&decide (ps.length=(ek (nth ps 0).av).2)&&EU ps&&(ps.drop (ek (nth ps 0).av).1).all dI):=by
 unfold EU
 match ps with
 |[]=>simp[nP,nth,aq.av,ek,ie,gx]
 |[h]=>rcases Bv h.av with⟨h1,h2,h3,h4,h5,hk⟩|⟨h1,h2,h3,hk⟩|⟨h1,h2,h3,hk⟩|⟨h1,h2,h3,hk⟩|⟨h1,h2,h3,h4,h5,hk⟩|⟨h1,h2,h3,h4,h5,hk⟩<;>simp[nP,nth,hk]
 |[h,a]=>rcases Bv h.av with⟨h1,h2,h3,h4,h5,hk⟩|⟨h1,h2,h3,hk⟩|⟨h1,h2,h3,hk⟩|⟨h1,h2,h3,hk⟩|⟨h1,h2,h3,h4,h5,hk⟩|⟨h1,h2,h3,h4,h5,hk⟩<;>simp[nP,nth,hk,h1,h2,h3,Kb]
 |[h,a,b]=>rcases Bv h.av with⟨h1,h2,h3,h4,h5,hk⟩|⟨h1,h2,h3,hk⟩|⟨h1,h2,h3,hk⟩|⟨h1,h2,h3,hk⟩|⟨h1,h2,h3,h4,h5,hk⟩|⟨h1,h2,h3,h4,h5,hk⟩<;>simp[nP,nth,hk,h1,h2,h3,Kb]
 |[h,a,b,c]=>rcases Bv h.av with⟨h1,h2,h3,h4,h5,hk⟩|⟨h1,h2,h3,hk⟩|⟨h1,h2,h3,hk⟩|⟨h1,h2,h3,hk⟩|⟨h1,h2,h3,h4,h5,hk⟩|⟨h1,h2,h3,h4,h5,hk⟩<;>simp[nP,nth,hk,h1,h2,h3,Kb]<;>try simp[*]
 |[h,a,b,c,d]=>rcases Bv h.av with⟨h1,h2,h3,h4,h5,hk⟩|⟨h1,h2,h3,hk⟩|⟨h1,h2,h3,hk⟩|⟨h1,h2,h3,hk⟩|⟨h1,h2,h3,h4,h5,hk⟩|⟨h1,h2,h3,h4,h5,hk⟩<;>simp[nP,nth,hk]
 |[h,a,b,c,d,e]=>rcases Bv h.av with⟨h1,h2,h3,h4,h5,hk⟩|⟨h1,h2,h3,hk⟩|⟨h1,h2,h3,hk⟩|⟨h1,h2,h3,hk⟩|⟨h1,h2,h3,h4,h5,hk⟩|⟨h1,h2,h3,h4,h5,hk⟩<;>simp[nP,nth,hk,h3,Kb]<;>try simp[*,Bool.and_assoc]
 |h::a::b::c::d::e::f::r=>rcases Bv h.av with⟨h1,h2,h3,h4,h5,hk⟩|⟨h1,h2,h3,hk⟩|⟨h1,h2,h3,hk⟩|⟨h1,h2,h3,hk⟩|⟨h1,h2,h3,h4,h5,hk⟩|⟨h1,h2,h3,h4,h5,hk⟩<;>simp[nP,nth,hk]<;>omega
theorem U9 (t:aq):dI t=if t.av≠[] then qD t.av else nP t.ai:=by cases t with|mk a ps=>rw[dI];rfl
theorem agE (ha:t.av=[]):dI t=(decide ((ek (nth t.ai 0).av).1≠0)&&decide (t.ai.length=(ek (nth t.ai 0).av).2)&&EU t.ai&&(t.ai.drop (ek (nth t.ai 0).av).1).all dI):=by grind [U9,agD]
theorem Va (ps:List aq):sK ps=(decide (ps.length=3)&&(decide ((nth ps 0).av=[62])||decide ((nth ps 0).av=[42]))&&(pd (nth ps 1)&&pd (nth ps 2))):=by
 match ps with
 |[]=>simp[sK]
 |[h]=>simp[sK]
 |[h,a]=>simp[sK]
 |[h,a,b]=>simp[sK,nth]
 |h::a::b::c::r=>simp[sK]
/-! ### Texts -/
def yS (s:aj):Bool:=match bA s with
 |some t=>j5 t
 |none=>false
theorem agF {s:aj}:yS s=true↔∃T:Ty,T.n<=16∧s=T.text:=by grind [yS,bA,AA,tS,pU,Ty.bA,Good.wf,Ex.wf]
theorem Vb {T:Ty}:yS T.text=decide (T.n<=16):=by grind [agF,Ty.inj]
def C6 (s sg:aj):Option (Ty×Ty)->Prop
 |some (a,b)=>∃f,sg=j4 f∧s=(Ty.op f a b).text∧(Ty.op f a b).n<=16
 |none=>∀f a b,sg=j4 f->s=(Ty.op f a b).text->¬(Ty.op f a b).n<=16
def Kc (t:aq):Bool:=dI t&&decide (fE t<=120)
def mw (s:aj):Bool:=match bA s with
 |some t=>Kc t
 |none=>false
theorem agG (hw:WF t):Kc t=true↔∃e:Ex,t=e.au∧e.ok∧e.n<=120:=by grind [Kc,aeS,Ex.fE]
theorem xk {s:aj}:mw s=true↔∃e:Ex,bA s=some e.au∧e.ok∧e.n<=120:=by grind [mw,bA,agG,tS]
theorem Vc {ps:List aq} (i:Nat):jI (ps.take i)<=jI ps:=by
 conv=>rhs;rw[<-List.take_append_drop i ps,S1]
 omega
theorem agH (t:aq):jI t.ai<=t.size:=by
 cases t with
 |mk a ps=>have:=M0 ps;simp only[aq.size,aq.ai];omega
theorem Vd:∀(m:Nat) (t:aq),t.size<=m->t.size<=10000000->WF t->∀(v:Value) (L:List Nat) (w:World),bh L w v t->
  bC Tryz.prog 152 [v] w λr w'=>r= .int .i64 (fE t:Int)∧ak [] w w':=by
 intro m
 induction m with
 |zero=>intro t h;have:=qB t;omega
 |succ m ih=>
  intro t hm kW cF v L w hv
  obtain⟨a,n,c,rfl,hn,aQ⟩:=cS hv
  subst hn
  have lK:=mP t
  have hhs:=agH t
  have hK:=ak.refl [] w
  refine cj [.tmp 2] 24 Tryz.func152 rfl acg rfl rfl ?_
  refine zr<|ey rfl λw1 aI aT di=>?_
  have hK:=hK.ext aI
  refine W ?_
  refine zc rfl (λh1=>?_) (λh1=>?_)
  have hq:fE t=1:=by rw[MZ,iP h1]
  refine W ?_
  exact⟨_,rfl,by rw[hq];rfl,hK⟩
  have hq:fE t=jI t.ai:=by rw[MZ,iN h1]
  refine W ?_
  refine eO (λk:Nat=>[(1,.pointer (some ⟨w.heap.size,0,none⟩)),(3,.int .i64 ((jI (t.ai.take k):Nat):Int)),(4,.int .i64 (k:Int))]) (λk w'=>ak [] w w'∧aL w' w.heap.size [str t.av,.slice a t.ai.length c].toArray 74∧k<=t.ai.length) (λk=>t.ai.length-k) (0) (⟨rfl,rfl,rfl⟩) (⟨hK,aT,om⟩) λgg w2 e2 hI=>?_
  obtain⟨hK,aT,hk⟩:=hI
  refine W ?_
  refine zc rfl (λh2=>?_) (λh2=>?_)
  have dR:=ej (ps:=t.ai) (i:=gg) om
  obtain⟨b1,eh,pa,pn,pc,rfl,gV,dZ,fG⟩:=fC aQ dR
  subst dZ
  have yC:=cF.nth (i:=gg) om
  have lW:=kB (t:=t) (i:=gg) om
  have aW:=S2 dR
  have hle:=Vc (ps:=t.ai) (gg+1)
  refine WL ?_
  refine zl ix rfl (aT.at rfl)<|zm<|zi cw aK rfl rfl om<|zL eK aK rfl (gV.ext hK) rfl<|aA (ih (nth t.ai gg) om om yC _ L w2 ((jh fG).ext hK)) ?_
  rintro _ w3 ⟨rfl,aH⟩
  have eM:=aH.size
  refine bL aH hK aT λhK aT=>?_
  refine W ?_
  exact⟨gg+1,⟨rfl,congrArg (Value.int .i64) om,rfl⟩,⟨hK,aT,om⟩,om⟩
  have fH:gg=t.ai.length:=by omega
  subst fH
  refine W ?_
  exact⟨_,rfl,by rw[hq,List.take_length];rfl,hK⟩
theorem agI:∀(m:Nat) (t:aq),t.size<=m->t.size<=10000000->WF t->∀(v:Value) (L:List Nat) (w:World),bh L w v t->
  bC Tryz.prog 221 [v] w λr w'=>r= .bool (pd t)∧ak [] w w':=by
 intro m
 induction m with
 |zero=>intro t h;have:=qB t;omega
 |succ m ih=>
  intro t hm kW cF v L w hv
  obtain⟨a,n,c,rfl,hn,aQ⟩:=cS hv
  subst hn
  have hK:=ak.refl [] w
  have lK:=mP t
  refine cj [.tmp 2] 41 Tryz.func221 rfl ac7 rfl rfl ?_
  refine zr<|ey rfl λw1 aI aT di=>bL aI hK aQ λhK aQ=>?_
  refine W ?_
  refine zc rfl (λh1=>?_) (λh1=>?_)
  have hq:pd t=decide (t.av=[105]):=by rw[S3,iP h1]
  refine W ?_
  exact⟨_,rfl,by rw[hq];rfl,hK⟩
  have ha:t.av=[]:=Classical.not_not.1 h1
  have jS:=cF.pos ha
  have hq:pd t=sK t.ai:=by rw[S3,iN (λh=>h ha)]
  obtain⟨b,off,pa,pn,pc,rfl,eR,dZ,fG⟩:=fC aQ (ej jS)
  refine WZ ?_
  apply oP 15 13 28 rfl oQ
  intro h2
  refine WZ ?_
  apply oB 7 20 27 rfl oQ
  intro h3
  refine WZ ?_
  exact oQ
  intro xx
  exact oQ
  intro xx
  refine aV<|zc rfl (λh4=>?_) (λh4=>?_)
  have hz:sK t.ai=false:=by rw[Va];simp only[oE,aE,dE] at h4;rcases h4 with h|⟨h1,h2⟩;(·rw[dF om];rfl);(·rw[dF h1,dF h2];simp)
  refine W ?_
  exact⟨_,rfl,by rw[hq,hz];rfl,hK⟩
  simp only[Bool.or_eq_false_iff,Bool.and_eq_false_iff,decide_eq_false_iff_not,Classical.not_not] at h4
  obtain⟨h31,Ve⟩:=h4
  have h3:t.ai.length=3:=om
  have gi:sK t.ai=(pd (nth t.ai 1)&&pd (nth t.ai 2)):=by rw[Va,dT h3];rcases Ve with h|h<;>rw[h]<;>rfl
  obtain⟨b1,eh,gT,rB,gU,e1,bM,sY,pw⟩:=fC aQ (ej (i:=1) om)
  cases e1
  subst sY
  obtain⟨b2,kY,iQ,yT,iR,e2,bZ,EV,N8⟩:=fC aQ (ej (i:=2) om)
  cases e2
  subst EV
  have df:=kB (t:=t) (i:=1) om
  have dz:=kB (t:=t) (i:=2) om
  have cV:=jh pw
  have dQ:=jh N8
  refine gX<|zr<|zf ja rfl<|zl ix rfl (aT.at rfl)<|zi (i:=1) cw aK rfl rfl om<|zL eK aK rfl bM rfl<|aA (ih (nth t.ai 1) om om (cF.nth om) _ L w1 cV) ?_
  rintro _ w2 ⟨rfl,az⟩
  have dz:=az.size
  refine gH az hK aT bZ dQ λhK aT bZ dQ=>?_
  refine WZ ?_
  apply oA 6 34 40 (ak [] w2) rfl oQ
  intro h5
  refine zf ja rfl<|zl ix rfl (aT.at rfl)<|zi (i:=2) cw aK rfl rfl om<|zL eK aK rfl bZ rfl<|aA (ih (nth t.ai 2) om om (cF.nth om) _ L w2 dQ) ?_
  rintro _ w3 ⟨rfl,aH⟩
  have eM:=aH.size
  exact oQ
  intro xx w3 aH
  have hK:=hK.ext aH
  refine W ?_
  exact⟨_,rfl,by rw[hq,gi];rfl,hK⟩
theorem Bw (t:aq) (kW:t.size<=10000000) (cF:WF t) (v:Value) (L:List Nat) (w:World) (hv:bh L w v t):
  bC Tryz.prog 184 [v] w λr w'=>r= .bool (j5 t)∧ak [] w w':=by
 have cm:=hv
 obtain⟨a,n,c,rfl,hn,aQ⟩:=cS hv
 have hK:=ak.refl [] w
 refine cj [.tmp 2] 10 Tryz.func184 rfl acI rfl rfl ?_
 refine zr<|ey rfl λw1 aI aT di=>bL aI hK cm λhK cm=>?_
 refine W ?_
 refine aA (agI t.size t (lR _) kW cF _ L w1 cm) ?_
 rintro _ w2 ⟨rfl,az⟩
 have dz:=az.size
 refine cO az hK cm aT λhK cm aT=>?_
 refine WZ ?_
 apply oA 4 5 9 (ak [] w2) rfl oQ
 intro _
 refine W ?_
 refine aA (Vd t.size t (lR _) kW cF _ L w2 cm) ?_
 rintro _ w3 ⟨rfl,aH⟩
 have eM:=aH.size
 exact oQ
 intro xx w3 aH
 have hK:=hK.ext aH
 refine W ?_
 exact⟨_,rfl,congrArg Value.bool (show _=j5 t from by unfold j5;congr 1;exact decide_eq_decide.2 om),hK⟩
theorem agJ {s:aj} (h:Eo s t):((bA s).isSome&&j5 t)=yS s:=by
 unfold yS
 cases hp:bA s with
 |none=>rfl
 |some u=>rw[h.1 u hp];rfl
theorem N9 (s:aj) (w:World):bC Tryz.prog 227 [str s] w λr w'=>r= .bool (yS s)∧ak [] w w':=by
 have hK:=ak.refl [] w
 refine cj [.tmp 2] 15 Tryz.func227 rfl adf rfl rfl ?_
 refine W ?_
 refine aA (JW s [] w sm) ?_
 rintro v1 w1 ⟨fK,aI⟩
 have df:=aI.size
 have hK:=hK.ext aI
 obtain⟨t,tv,rfl,ht,hp⟩:=fK
 obtain⟨pa,pn,pc,rfl,dZ,aQ⟩:=cS ht
 refine W ?_
 refine da aK rfl rfl rfl λw2 az bU dK=>?_
 have hK:=hK.grow;have hK:=hK.ext az;have ht:=ht.grow;have ht:=ht.ext az
 refine cu aK rfl rfl rfl bU rfl λw3 aH bU fS=>?_
 have hK:=hK.aD aH sx;have ht:=ht.aD aH sx
 refine W ?_
 apply oA 3 11 14 (ak [] w3) rfl oQ
 intro h1
 obtain⟨u,hu⟩:=Option.isSome_iff_exists.1 h1
 have e:=hp.1 u hu
 subst e
 refine W ?_
 refine aA (Bw t (by have:=Al hu;omega) (tS hu) _ _ w3 ht) ?_
 rintro _ w4 ⟨rfl,aN⟩
 have fg:=aN.size
 exact oQ
 intro xx w4 aN
 have hK:=hK.ext aN
 refine W ?_
 exact⟨_,rfl,congrArg Value.bool (agJ hp),hK⟩
def th:Option (Ty×Ty)->aj
 |some p=>p.1.text
 |none=>[]
def yU:Option (Ty×Ty)->aj
 |some p=>p.2.text
 |none=>[]
def Oa (o:Option (Ty×Ty)):Value:=.tuple #[str (th o),str (yU o),.bool o.isSome]
theorem agK {s sg:aj} (hp:Eo s t) (h:(((!(bA s).isSome||!j5 t)||decide (t.av≠[]))||decide ((nth t.ai 0).av≠sg))=true):C6 s sg none:=by
 intro f a b e1 e2 hn
 have aQ:bA s=some (Ty.op f a b).au:=by rw[e2];exact Ty.bA om
 have e:=hp.1 _ aQ
 subst e
 have ht:j5 (Ty.op f a b).au=true:=(AA (tS aQ)).2 ⟨_,rfl,hn⟩
 rw[aQ,ht] at h
 simp[Ty.au,aq.av,aq.ai,nth,bH,e1] at h
theorem agL {s sg:aj} (hp:Eo s t) (h:(((!(bA s).isSome||!j5 t)||decide (t.av≠[]))||decide ((nth t.ai 0).av≠sg))=false):∃f A B,t=(Ty.op f A B).au∧(Ty.op f A B).n<=16∧C6 s sg (some (A,B)):=by
 simp only[Bool.or_eq_false_iff,Bool.not_eq_false',decide_eq_false_iff_not,Classical.not_not] at h
 obtain⟨⟨⟨h1,h2⟩,h3⟩,h4⟩:=h
 obtain⟨u,hu⟩:=Option.isSome_iff_exists.1 h1
 have e:=hp.1 u hu
 subst e
 obtain⟨T,rfl,hn⟩:=(AA (tS hu)).1 h2
 cases T with
 |i=>simp[Ty.au,bH,aq.av] at h3
 |op f A B=>exact⟨f,A,B,rfl,hn,f,by rw[<-h4];rfl,(pU hu).2.2.1.symm,hn⟩
theorem Vf (s sg:aj) (w:World):bC Tryz.prog 229 [str s,str sg] w λr w'=>(∃o,C6 s sg o∧r=Oa o)∧ak [] w w':=by
 have hK:=ak.refl [] w
 refine cj [.tmp 4,.tmp 5,.tmp 6] 45 Tryz.func229 rfl adg rfl rfl ?_
 refine W ?_
 refine aA (JW s [] w sm) ?_
 rintro v1 w1 ⟨fK,aI⟩
 have df:=aI.size
 have hK:=hK.ext aI
 obtain⟨t,tv,rfl,ht,hp⟩:=fK
 obtain⟨pa,pn,pc,rfl,dZ,aQ⟩:=cS ht
 subst dZ
 refine W ?_
 refine da aK rfl rfl rfl λw2 az cL dK=>?_
 have hK:=hK.grow;have hK:=hK.ext az;have ht:=ht.grow;have ht:=ht.ext az;have aQ:=aQ.grow;have aQ:=aQ.ext az
 refine cu aK rfl rfl rfl cL rfl λw3 aH cL fS=>?_
 have hK:=hK.aD aH sx;have ht:=ht.aD aH sx;have aQ:=aQ.aD aH sx
 refine W ?_
 apply oO 4 16 20 (ak [] w3) rfl oQ
 intro h1
 obtain⟨u,hu⟩:=Option.isSome_iff_exists.1 h1
 have e:=hp.1 u hu
 subst e
 refine W ?_
 refine aA (Bw t (by have:=Al hu;omega) (tS hu) _ _ w3 ht) ?_
 rintro _ w4 ⟨rfl,aN⟩
 have fg:=aN.size
 exact oQ
 intro xx w5 aJ
 refine cO aJ hK aQ cL λhK aQ cL=>?_
 refine WZ ?_
 apply oP 4 21 25 rfl oQ
 intro _
 refine WZ ?_
 exact oQ
 intro xx
 refine WZ ?_
 apply oP 8 26 34 rfl oQ
 intro h3
 simp only[Bool.or_eq_false_iff,Bool.not_eq_false',decide_eq_false_iff_not,Classical.not_not] at h3
 obtain⟨⟨q1,q2⟩,q3⟩:=h3
 obtain⟨u,hu⟩:=Option.isSome_iff_exists.1 q1
 have e:=hp.1 u hu
 subst e
 have jS:=(tS hu).pos q3
 obtain⟨b0,yV,qa,qn,qc,e0,eR,_,_⟩:=fC aQ (ej jS)
 subst e0
 refine WZ ?_
 exact oQ
 intro xx
 refine aV<|zc rfl (λh4=>?_) (λh4=>?_)
 refine W ?_
 exact⟨_,rfl,⟨none,agK hp h4,rfl⟩,hK⟩
 obtain⟨f,A,B,e,hn,hT⟩:=agL hp h4
 subst e
 have S6:(Ty.op f A B).n=1+A.n+B.n:=rfl
 have hA:=Ty.size A
 have hB:=Ty.size B
 have Ob:=Ty.len A
 have Oc:=Ty.len B
 have ui:(Ty.op f A B).au.ai.length=3:=rfl
 obtain⟨b1,eh,gT,rB,gU,e1,bM,sY,pw⟩:=fC aQ (ej (i:=1) om)
 subst e1
 subst sY
 obtain⟨b2,kY,iQ,yT,iR,e2,bZ,EV,N8⟩:=fC aQ (ej (i:=2) om)
 cases e2
 subst EV
 have cV:bh _ w5 _ A.au:=jh pw
 have dQ:bh _ w5 _ B.au:=jh N8
 refine WZ ?_
 apply dV du 13 [35,36,37,38,39,40,41,42,43,44,4,5,6] [[],[0],[1],[2],[3],[],[5],[6],[7],[8],[4],[9],[]] (it [_,_,_,_,_,_,_,_,_,_,_,_,_]) de rfl
 intro wd aB
 refine VA ?_
 refine vk aB (λx w6 bB=>?_) ?_
 refine zi (i:=1) cw aK rfl rfl ((show 1<3 from om)) ?_
 exact pv
 refine VA ?_
 refine vk aB (λx w6 bB=>?_) ?_
 have cV:=cV.ext bB
 refine aA (r6 A.au.size A.au (lR _) A.pb.wf om (show A.text.length<=100000000 from om) _ _ w6 cV) ?_
 rintro _ w7 ⟨rfl,bJ⟩
 have jd:=bJ.size
 exact pk bJ
 refine VA ?_
 refine vk aB (λx w6 bB=>?_) ?_
 refine zi (i:=2) cw aK rfl rfl ((show 2<3 from om)) ?_
 exact pv
 refine VA ?_
 refine vk aB (λx w6 bB=>?_) ?_
 have dQ:=dQ.ext bB
 refine aA (r6 B.au.size B.au (lR _) B.pb.wf om (show B.text.length<=100000000 from om) _ _ w6 dQ) ?_
 rintro _ w7 ⟨rfl,bJ⟩
 have jd:=bJ.size
 exact pk bJ
 exact VZ
 intro x qb qN
 have hK:=hK.ext qN
 change OW _ _ _ _ [] (aS (aR _ x _) (zZ 35 [_,_,_,_,_,_,_,_,_,_]++[(4,_),(5,_),(6,_)])) _
 refine W ?_
 exact⟨_,rfl,⟨some (A,B),hT,rfl⟩,hK⟩
theorem Vg (s:aj) (w:World):bC Tryz.prog 201 [str s] w λr w'=>(∃o,C6 s [62] o∧r=Oa o)∧ak [] w w':=by
 have hK:=ak.refl [] w
 refine cj [.tmp 2,.tmp 3,.tmp 4] 10 Tryz.func201 rfl acZ rfl rfl ?_
 refine W ?_
 refine aA (Vf s [62] w) ?_
 rintro v1 w1 ⟨fK,aI⟩
 have df:=aI.size
 have hK:=hK.ext aI
 obtain⟨o,ho,rfl⟩:=fK
 refine W ?_
 exact⟨_,rfl,⟨o,ho,rfl⟩,hK⟩
theorem Vh (s:aj) (w:World):bC Tryz.prog 200 [str s] w λr w'=>(∃o,C6 s [42] o∧r=Oa o)∧ak [] w w':=by
 have hK:=ak.refl [] w
 refine cj [.tmp 2,.tmp 3,.tmp 4] 10 Tryz.func200 rfl acY rfl rfl ?_
 refine W ?_
 refine aA (Vf s [42] w) ?_
 rintro v1 w1 ⟨fK,aI⟩
 have df:=aI.size
 have hK:=hK.ext aI
 obtain⟨o,ho,rfl⟩:=fK
 refine W ?_
 exact⟨_,rfl,⟨o,ho,rfl⟩,hK⟩
theorem Vi {T:Ty} (hT:T.n<=16) (f:Bool) {o:Option (Ty×Ty)} (h:C6 T.text (j4 f) o):o=match T with| .op g a b=>if g=f then some (a,b) else none| .i=>none:=by
 cases o with
 |some p=>
  obtain⟨g,h1,h2,h3⟩:=h
  have e:=Ty.inj h2
  subst e
  have:f=g:=by cases f<;>cases g<;>first|rfl|(simp[j4] at h1)
  subst this
  simp
 |none=>
  cases T with
  |i=>rfl
  |op g a b=>
   have dY:¬g=f:=λe=>h f a b rfl (by rw[e]) (by rw[<-e];exact hT)
   simp[dY]
theorem Vj {T:Ty} (h:T.n<=16):yS T.text=true:=by rw[Vb];exact dT h
theorem Vk (f:Bool) (A B:Ty) (hA:A.n<=16) (hB:B.n<=16) (w:World):
  bC Tryz.prog 197 [.bool f,str A.text,str B.text] w λr w'=>r= .tuple #[str (if 1+A.n+B.n<=16 then(Ty.op f A B).text else[]),.bool (decide (1+A.n+B.n<=16))]∧ak [] w w':=by
 have hK:=ak.refl [] w
 have Ob:=Ty.len A
 have Oc:=Ty.len B
 have Ve:=MY f
 have qh:(((((([40]++j4 f)++[32])++A.text)++[32])++B.text)++[41])=(Ty.op f A B).text:=by rw[Ty.Jr];simp
 have hy:yS (Ty.op f A B).text=decide (1+A.n+B.n<=16):=Vb
 refine cj [.tmp 6,.tmp 7] 34 Tryz.func197 rfl acV rfl rfl ?_
 refine W ?_
 refine iS (λ_:Unit=>[(0,.bool f),(1,str A.text),(2,str B.text),(8,str (j4 f))]) (λ_ w'=>w'=w) ?_ ?_
 refine zc rfl (λh1=>?_) (λh1=>?_)
 have hf:=h1
 refine W ?_
 exact⟨(),⟨rfl,rfl,rfl,by rw[hf];rfl⟩,rfl⟩
 have hf:=h1
 refine WZ ?_
 exact⟨(),⟨rfl,rfl,rfl,by rw[hf];rfl⟩,rfl⟩
 intro gu w1 e1 hI
 subst hI
 refine W ?_
 refine aA (N9 A.text w1) ?_
 rintro v2 w2 ⟨gP,az⟩
 have dz:=az.size
 have hK:=hK.ext az
 obtain rfl:=gP.trans (congrArg Value.bool (Vj hA))
 refine jY rfl rfl rfl<|zm<|F2 (t:=23) (b:=false) rfl<|zm<|aA (N9 B.text w2) ?_
 rintro v3 w3 ⟨ka,aH⟩
 have eM:=aH.size
 have hK:=hK.ext aH
 obtain rfl:=ka.trans (congrArg Value.bool (Vj hB))
 refine jY rfl rfl rfl<|zp rfl<|zm<|F2 (t:=28) (b:=false) rfl<|zm<|aA (N9 _ w3) ?_
 rintro v4 w4 ⟨kF,aN⟩
 have fg:=aN.size
 have hK:=hK.ext aN
 obtain rfl:=kF.trans (congrArg Value.bool ((congrArg yS qh).trans hy))
 refine W ?_
 refine zc rfl (λh2=>?_) (λh2=>?_)
 have hn:¬1+A.n+B.n<=16:=by simpa using h2
 refine W ?_
 have hr:Value.tuple #[str (if 1+A.n+B.n<=16 then(Ty.op f A B).text else[]),.bool (decide (1+A.n+B.n<=16))]=Value.tuple #[str [],.bool false]:=by rw[iN hn,dF hn]
 exact⟨_,rfl,hr.symm,hK⟩
 have hn:1+A.n+B.n<=16:=by simpa using h2
 refine W ?_
 have hr:Value.tuple #[str (if 1+A.n+B.n<=16 then(Ty.op f A B).text else[]),.bool (decide (1+A.n+B.n<=16))]=Value.tuple #[str (((((([40]++j4 f)++[32])++A.text)++[32])++B.text)++[41]),.bool true]:=by rw[iP hn,dT hn,qh]
 exact⟨_,rfl,hr.symm,hK⟩
end Go.Proofs.YthbhobaiopccaaaGreatDoor
