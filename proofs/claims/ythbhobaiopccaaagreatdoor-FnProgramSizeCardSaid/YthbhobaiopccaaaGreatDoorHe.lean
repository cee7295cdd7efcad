/- Lemmas for the law FnProgramSize, no statement of their own: no conditions. -/
import Derived.Test.YthbhobaiopccaaaGreatDoorHd
set_option maxHeartbeats 4000000
set_option linter.unusedVariables false
set_option linter.unusedSimpArgs false
namespace Go.Proofs.YthbhobaiopccaaaGreatDoor
open Go
variable {L:List Nat} {w w':World} {T:Ty} {E b bytes i k n sz x:Nat} {v z:Value} {g:Option Nat} {rows:List (List C)} {ps xs:List ai} {vs:Array Value} {s:cD} {q1 q2 q3 q4 q5 q6:Operand} {a a1 a2 a3 a4 a5 a6 h:ai} {t:aq} {ts:List aq} {m m1 m2:Mk} {e:Ex}
theorem dH.sub {L':List Nat} {T:TypeId} (h:dH L w T sz v g rows) (hL:∀x,x∈L'->x∈L∨w.heap.size<=x):dH L' w T sz v g rows:=by
 obtain⟨xs,h1,h2⟩:=h.own
 exact⟨⟨xs,h1,h2.fresh hL⟩,h.row⟩
structure KA (L:List Nat) (T:TypeId) (sz:Nat) (g:Option Nat) (rows rows':List (List C)) (w w':World):Prop where
 aF:aj g.toList w w'
 old:∀v,dH (g.toList++L) w T sz v g rows->dH (g.toList++L) w' T sz v g rows
 new:∀v g',dH (g.toList++(g'.toList++L)) w T sz v g' rows'->dH (g.toList++(g'.toList++L)) w' T sz v g' rows'
theorem dH.any {T:TypeId} (h:dH L w T sz v g rows) (k:aj [] w w'):dH L w' T sz v g rows:=h.aF (Fr.of k sm) k sm
theorem Te (L:List Nat) (T:TypeId) (sz:Nat) (g:Option Nat) (rows rows':List (List C)):Kept (KA L T sz g rows rows'):=
 ⟨λ_=>⟨aj.refl _ _,λ_ h=>h,λ_ _ h=>h⟩,λh k=>⟨h.aF.trans k.aF,λv x=>k.old v (h.old v x),λv g' x=>k.new v g' (h.new v g' x)⟩,
  λh=>⟨h.any,λ_ x=>x.any h,λ_ _ x=>x.any h⟩⟩
section
variable {P:Program} {w:World}
theorem aeF {t ty T:TypeId} {i:TypeInfo} {sz bytes:Nat} (ht:P.underlying t=some (.slice T)) (hi:P.info? T=some i) (hz:i.zero=some z) 
  (BC:i.size=sz) (fK:i.bytes=bytes) (xI:z.cells.size=sz) {L:List Nat}
  {v:Value} {g:Option Nat} {rows:List (List C)} {row:List C} (hO:dH (g.toList++L) w T sz v g rows)
  (ab c:Nat) (news:List Value) (gZ:row.length=sz) (tl:fS w ab 0 news) (h1:∀u∈news,u.oneCell'=true) (hr:cS (g.toList++L) w news row)
  (hb:(rows.length+1)*(bytes+1)<=140737488355328):
  ∃v' g' w',(Builtin.append_ #[t,t] ty #[v,.slice (some ⟨ab,0,none⟩) 1 c]).run P w= .ok v' w'∧dH (g.toList++(g'.toList++L)) w' T sz v' g' (rows++[row])∧KA L T sz g rows (rows++[row]) w w'∧
   (g'=g∨g'=some w.heap.size):=by
 subst BC
 subst fK
 obtain⟨xs,dv,Cn⟩:=hO.own
 have aX:(rows.length+1)*i.bytes+(rows.length+1)<=140737488355328:=by rw[Nat.mul_add,Nat.mul_one] at hb;exact hb
 have zo:rows.length+1<=maxLen:=by unfold maxLen;omega
 have xJ:(rows.length+1)*i.bytes<=140737488355328:=by omega
 have hl:news.length=1*i.size:=by rw[hr.length,gZ,Nat.one_mul]
 have H7:rows.length+1<=9223372036854775807:=by simp only[maxLen] at zo;omega
 have hlen:(xs++news).length=(rows.length+1)*i.size:=by rw[lA,dv.1,hl,Nat.add_mul]
 have uF:∀b o j:Nat,(⟨b,o,none⟩:Addr).add j=⟨b,o+j,none⟩:=λb o j=>by unfold Addr.add;split<;>simp_all
 have uG:∀j u,news[j]?=some u->w.cell? ((⟨ab,0,none⟩:Addr).add j)=some u:=λj u hu=>by rw[uF];exact tl j u hu
 have Tf:∀r,r∈rows++[row]->r.length=i.size:=λr hx=>by
  rcases mA.1 hx with hx|hx
  ·exact hO.row r hx
  ·simp at hx;rw[hx];exact gZ
 have mE:(rows++[row]).flatten=rows.flatten++row:=by simp
 have grown:∀(old:Nat),old<rows.length+1->
   dH (g.toList++((some w.heap.size).toList++L)) (w.drew.alloc (.cells (xs.toArray++news.toArray++Builtin.zeroCells z.cells (grownCap w (rows.length+1) old T-(rows.length+1))) T)) T i.size
    (.slice (some ⟨w.heap.size,0,none⟩) (rows.length+1) (grownCap w (rows.length+1) old T)) (some w.heap.size) (rows++[row])∧
   aj [] w (w.drew.alloc (.cells (xs.toArray++news.toArray++Builtin.zeroCells z.cells (grownCap w (rows.length+1) old T-(rows.length+1))) T)):=by
  intro old ho
  have oC:=grownCap_ge w (rows.length+1) old T
  have lU:grownCap w (rows.length+1) old T<=maxLen:=grownCap_le_maxLen w (rows.length+1) old T zo
  have hk:aj [] w (w.drew.alloc (.cells (xs.toArray++news.toArray++Builtin.zeroCells z.cells (grownCap w (rows.length+1) old T-(rows.length+1))) T)):=⟨rfl,rfl,rfl,sm,λk hk _=>(aj.alloc [] w.drew _).block k hk sm⟩
  refine⟨⟨⟨xs++news,⟨by simpa using hlen,.inr ⟨w.heap.size,_,_,rfl,?_,heap_alloc_new w.drew _,?_,lU,?_,?_⟩⟩,?_⟩,Tf⟩,hk⟩
  ·simp
  ·simpa using oC
  ·simp only[Array.size_append,List.size_toArray,size_zeroCells,xI,dv.1,hl,<-Nat.add_mul]
   congr 1
   omega
  ·simp only[Array.toList_append,List.append_assoc]
   rw[<-List.append_assoc,lA,List.length_singleton,<-hlen]
   exact List.take_left
  ·rw[mE]
   refine((Cn.append hr).fresh (L':=g.toList++((some w.heap.size).toList++L)) λx hx=>?_).aF hk.any
   rcases mA.1 hx with hx|hx
   ·exact .inl (by simp[hx])
   ·rcases mA.1 hx with hx|hx
    ·right;simp at hx;omega
    ·exact .inl (by simp[hx])
 rcases dv.2 with⟨rfl,wO,rfl⟩|⟨b,cap,cur,rfl,rfl,hb,ml,lU,bZ,tq⟩
 ·have hx:xs=[]:=List.eq_nil_of_length_eq_zero (by rw[dv.1,wO];simp)
  subst hx
  have hr:=run_append_nil (P:=P) w t ty T i z ht hi hz ⟨ab,0,none⟩ 1 c news hl uG om om (by rw[wO] at xJ;simp only[Nat.zero_add] at xJ;omega)
  have kS:=grown 0 om
  rw[wO] at kS
  simp only[Nat.zero_add,List.nil_append,Array.empty_append] at kS⊢
  exact⟨_,some w.heap.size,_,hr,kS.1,(Te L T i.size none rows (rows++[row])).of kS.2,.inr rfl⟩
 ·by_cases oD:rows.length+1<=cap
  ·have kv:rows.length*i.size+news.length<=cur.size:=by rw[hl,bZ,<-Nat.add_mul];exact Nat.mul_le_mul_right _ oD
   have jM:=run_append_room (P:=P) w t ty T i ht hi b rows.length cap cur hb ⟨ab,0,none⟩ 1 c news hl uG h1 oD kv
   have Ek:aj [b] w (w.setRow b (cur.toList.take (rows.length*i.size)++news++cur.toList.drop (rows.length*i.size+news.length)).toArray):=⟨rfl,rfl,rfl,sm,λk _ hk=>setRow_other w b k _ (by simpa using hk)⟩
   have Je:aJ (w.setRow b (cur.toList.take (rows.length*i.size)++news++cur.toList.drop (rows.length*i.size+news.length)).toArray) b (cur.toList.take (rows.length*i.size)++news++cur.toList.drop (rows.length*i.size+news.length)).toArray T:=setRow_heap w b cur _ T _ hb
   have fC:(cur.toList.take (rows.length*i.size)++news++cur.toList.drop (rows.length*i.size+news.length)).toArray.size=cap*i.size:=by
    simp only[List.size_toArray,lA,List.length_take,List.length_drop,Array.length_toList]
    omega
   have Tg:(cur.toList.take (rows.length*i.size)++news++cur.toList.drop (rows.length*i.size+news.length)).take ((rows.length+1)*i.size)=xs++news:=by
    rw[tq,<-hlen];exact List.take_left
   have aeG:(cur.toList.take (rows.length*i.size)++news++cur.toList.drop (rows.length*i.size+news.length)).take (rows.length*i.size)=xs:=by
    rw[tq,<-dv.1,List.append_assoc];exact List.take_left
   -- whoever owns block b,owns it with this size
   have cap_of:∀(v:Value) (n:Nat) (ys:List Value),iH w T i.size v (some b) n ys->∃cap',v= .slice (some ⟨b,0,none⟩) n cap'∧n<=cap'∧cap'<=maxLen∧cap'*i.size=cap*i.size∧ys=cur.toList.take (n*i.size):=by
    intro v n ys hv
    rcases hv.2 with⟨_,_,h⟩|⟨b',cap',cur',e',Gm,gN,DF,px,D0,nP⟩
    ·cases h
    ·cases e'
     have:cur'=cur:=by have h2:=gN.symm.trans hb;simpa using h2
     subst this
     exact⟨cap',Gm,DF,px,by rw[<-D0,bZ],nP.symm⟩
   have wr:∀(v:Value) (n:Nat),(∃cap',v=Value.slice (some ⟨b,0,none⟩) n cap'∧n<=cap'∧cap'<=maxLen∧cap'*i.size=cap*i.size)->∀ys:List Value,ys.length=n*i.size->(cur.toList.take (rows.length*i.size)++news++cur.toList.drop (rows.length*i.size+news.length)).take (n*i.size)=ys->
     iH (w.setRow b (cur.toList.take (rows.length*i.size)++news++cur.toList.drop (rows.length*i.size+news.length)).toArray) T i.size v (some b) n ys:=by
    rintro v n ⟨cap',Gm,DF,px,D0⟩ ys hy eR
    exact⟨hy,.inr ⟨b,cap',_,rfl,Gm,Je,DF,px,by rw[fC,D0],eR⟩⟩
   refine⟨_,some b,_,jM,⟨⟨xs++news,wr _ _ ⟨cap,sm,by simpa using oD,lU,rfl⟩ _ (by simpa using hlen) (by simpa using Tg),?_⟩,Tf⟩,⟨Ek,λv hv=>?_,λv g' hv=>?_⟩,.inl rfl⟩
   ·rw[mE]
    exact((Cn.append hr).fresh λx hx=>.inl (by simp only[mA] at hx⊢;rcases hx with h|h|h;exact .inl h;exact .inl h;exact .inr h)).aF (Ek.mono λx hx=>by simp at hx;simp[hx])
   ·obtain⟨ys,h1,h2⟩:=hv.own
    obtain⟨cap',a1,a2,a3,a4,a5⟩:=cap_of _ _ _ h1
    refine⟨⟨ys,wr _ _ ⟨cap',a1,a2,a3,a4⟩ _ h1.1 ?_,h2.aF (Ek.mono λx hx=>by simp at hx;simp[hx])⟩,hv.row⟩
    rw[aeG,a5,tq]
   ·obtain⟨ys,h1,h2⟩:=hv.own
    by_cases AL:g'=some b
    ·subst AL
     obtain⟨cap',a1,a2,a3,a4,a5⟩:=cap_of _ _ _ h1
     refine⟨⟨xs++news,wr _ _ ⟨cap',a1,a2,a3,a4⟩ _ (by simpa using hlen) (by simpa using Tg),?_⟩,hv.row⟩
     rw[mE]
     exact((Cn.append hr).fresh λx hx=>.inl (by simp only[mA] at hx⊢;rcases hx with h|h|h;exact .inl h;exact .inl h;exact .inr h)).aF (Ek.mono λx hx=>by simp at hx;simp[hx])
    ·exact⟨⟨ys,h1.aF Ek (λx hx fj=>AL (by simp at fj;rw[hx,fj])),h2.aF (Ek.mono λx hx=>by simp at hx;simp[hx])⟩,hv.row⟩
  ·have holds:∀j u,xs[j]?=some u->w.cell? ((⟨b,0,none⟩:Addr).add j)=some u:=λj u hu=>by
    rw[uF,hb.cell]
    rw[<-tq,List.getElem?_take] at hu
    split at hu
    ·simpa using hu
    ·cases hu
   have hr:=run_append_grow (P:=P) w t ty T i z ht hi hz ⟨b,0,none⟩ rows.length cap xs dv.1 holds ⟨ab,0,none⟩ 1 c news hl uG om om (growslice_fits om xJ)
   have kS:=grown cap om
   exact⟨_,some w.heap.size,_,hr,kS.1,(Te L T i.size (some b) rows (rows++[row])).of kS.2,.inr rfl⟩
end
section
variable {P:Program} {n:Nat} {ops:Array Oper} {K:Env->World->Prop} {rest:List Oper} {e:Env} {w:World}
 {dst:Option Nat} {ty:TypeId} {pos:String} {after:Array Edge} {g:Option (Nat×Bool)} {x y:Operand}
theorem Co {L:List Nat} {t:Nat} {v:Value} {gb:Option Nat} {rows:List (List C)} {row:List C} {news:List Value} {b c:Nat} (hT:P.underlying t=some (.slice E)) (hE:TI P E sz bytes z) (hg:gate ops e g=true) (hd:bV n dst=true) (hz:Nat.beq z.cells.size sz=true) (fK:Nat.ble bytes 1000=true) 
  (hx:ev e x=v) (hy:ev e y= .slice (some ⟨b,0,none⟩) 1 c) (hO:dH (gb.toList++L) w E sz v gb rows) (gZ:row.length=sz) (hc:fS w b 0 news) (h1:∀u∈news,u.oneCell'=true)
  (hr:cS (gb.toList++L) w news row) (hn:rows.length<100000000)
  (k:∀v' g' w',dH (gb.toList++(g'.toList++L)) w' E sz v' g' (rows++[row])->KA L E sz gb rows (rows++[row]) w w'->(g'=gb∨g'=some w.heap.size)->OW P n ops K rest (bM e dst v') w'):
  OW P n ops K (⟨dst,.call {callee:=.builtin .append,args:=#[x,y],argTypes:=#[t,t]},ty,pos,after,g⟩::rest) e w:=by
 obtain⟨i,hi,uO,fC,MN⟩:=hE.get
 have zH:bytes<=1000:=Nat.le_of_ble_eq_true fK
 obtain⟨v',g',w',jM,xP,hk,kz⟩:=aeF (P:=P) (ty:=ty) hT hi uO fC MN (Nat.eq_of_beq_eq_true hz) hO b c news gZ hc h1 hr
  (Nat.le_trans (Nat.mul_le_mul (show rows.length+1<=100000000 by omega) (show bytes+1<=1001 by omega)) de)
 exact eQ hg hd (w':=w') (by
  simp only[execOp,resolve,invoke,builtin,Sem.run_bind,Sem.run_pure,Result.andThen_ok,List.map_toArray,List.map_cons,List.map_nil,hx,hy,jM]) (k v' g' w' xP hk kz)
end
/-! ### Behind it -/
theorem MO:∀{vs:List Value} {xs:List ai},cS L w vs (fU xs).flatten->vs=xs.map λx=>str x
 |[],[],_=>rfl
 |v::vs,x::xs,h=>by
  obtain⟨h1,h2⟩:=h
  cases h1
  rw[MO (xs:=xs) h2];rfl
theorem dH.uP {T:TypeId} (h:dH L w T 1 v g (fU xs)):cG w T v g xs:=by
 obtain⟨vs,h1,h2⟩:=h.own
 rw[qb,MO h2] at h1;exact h1
theorem Th (L:List Nat) (w:World):∀xs:List ai,cS L w (xs.map λx=>str x) (fU xs).flatten
 |[]=>trivial
 |_::xs=>⟨.val _,Th L w xs⟩
theorem cG.Ti {T:TypeId} (h:cG w T v g xs) (L:List Nat):dH L w T 1 v g (fU xs):=
 ⟨⟨_,h.ad6,Th L w xs⟩,λrow hr=>by obtain⟨x,_,rfl⟩:=List.mem_map.1 hr;rfl⟩
theorem Tj (xs:List ai) (x:ai):fU xs++[[.val (str x)]]=fU (xs++[x]):=by simp[fU]
theorem aeH (xs:List Nat) (x:Nat):tP xs++[[.val (.int .i64 (x:Int))]]=tP (xs++[x]):=by simp[tP]
section
variable {τ:sD} {E L:List Nat} {w w':World} {b:Nat} {o:Bool} {vb vt vc vy:Value} {gb gt gc gy:Option Nat} {m:Mk}
def pL (E:List Nat) (b:Nat) (gb gt gy:Option Nat):List Nat:=E++b::(gb.toList++(gt.toList++gy.toList))
theorem yf:x∈pL E b gb gt gy↔x∈E∨x=b∨x∈gb.toList∨x∈gt.toList∨x∈gy.toList:=by simp[pL]
theorem gk.MP (h:gk τ E L w b o vb vt vc vy gb gt gc gy m):bc (pL E b gb gt gy) w vc m.code:=by
 obtain⟨a1,a2,a3,a4,a5,a6⟩:=h.apart
 rcases h.co with⟨_,h1⟩|⟨_,hn,h1⟩
 ·refine h1.rep λx hx hh=>?_
  have vm:x∈gc.toList:=by simp[hx]
  rw[yf] at hh
  rcases hh with hh|hh|hh|hh|hh
  ·exact(a5 x vm).1 hh
  ·exact(a5 x vm).2.1 hh
  ·exact(a5 x vm).2.2.1 hh
  ·exact(a5 x vm).2.2.2 hh
  ·exact(a6 x hh).2.2.2.2 vm
 ·exact h1.fresh λx hx=>.inl (h.mem.2 (by rw[yf] at hx;rcases hx with h|h|h|h|h<;>simp[h]))
theorem gk.Tl (h:gk τ E L w b o vb vt vc vy gb gt gc gy m):∀x,x∈pL E b gb gt gy->x∈L:=λx hx=>h.mem.2 (by rw[yf] at hx;rcases hx with h|h|h|h|h<;>simp[h])
theorem gk.aeI (h:gk τ E L w b o vb vt vc vy gb gt gc gy m) {bs:List Bk} (hy:dH (gb.toList++(g.toList++pL E b gb gt gy)) w' τ.B 3 v g (bs.map Bk.enc)) (k:aj gb.toList w w') (hg:g=gb∨∃x,g=some x∧w.heap.size<=x):
  ∃L',gk τ E L' w' b false v vt vc vy g gt none gy {m with blocks:=bs}∧Fr L w L' w':=by
 obtain⟨a1,a2,a3,a4,a5,a6⟩:=h.apart
 have kz:∀x,x∈g.toList->x∈gb.toList∨w.heap.size<=x∧x∉gt.toList∧x∉(none:Option Nat).toList∧x∉gy.toList:=λx hx=>by
  rcases hg with rfl|⟨y,rfl,hy⟩
  ·exact .inl hx
  ·have hx:x=y:=by simpa using hx
   refine .inr ⟨by omega,λhh=>?_,sm,λhh=>?_⟩<;>have:=h.IX (x:=x) (by simp[hh])<;>omega
 obtain⟨hF,hN⟩:=h.swap k (λx hx=>⟨h.mem.2 (by simp[hx]),(a3 x hx).2,(a3 x hx).1⟩) (gb':=g) (gt':=gt) (gc':=none) (gy':=gy) kz (λx hx=>.inl hx) (λx hx=>by simp at hx) (λx hx=>.inl hx)
 have hcr:bc (E++b::(g.toList++(gt.toList++((none:Option Nat).toList++gy.toList)))) w' vc m.code:=by
  have h1:bc (pL E b gb gt gy) w' vc m.code:=bQ.aD h.MP k λx hx=>yf.2 (by simp[hx])
  have h2:bc (g.toList++pL E b gb gt gy) w' vc m.code:=by
   rcases hg with rfl|⟨y,rfl,hy⟩
   ·exact h1.fresh λx hx=>.inl (by rcases mA.1 hx with h|h;exact yf.2 (by simp[h]);exact h)
   ·exact bQ.aD (h.MP.fresh (L':=(some y).toList++pL E b gb gt gy) λx hx=>by
     rcases mA.1 hx with h|h
     ·simp at h;right;omega
     ·exact .inl h) k λx hx=>mR _ (yf.2 (by simp[hx]))
  exact h2.fresh λx hx=>.inl (by
   rw[xY] at hx
   rw[mA,yf]
   rcases hx with h|h|h|h|h|h
   ·simp[h]
   ·simp[h]
   ·simp[h]
   ·simp[h]
   ·simp at h
   ·simp[h])
 refine⟨_,⟨hy.sub λx hx=>.inl ?_,h.ta.aF hF k (λx hx hy=>(a4 x hx).2.2 hy),.inr ⟨rfl,rfl,hcr⟩,h.ty.aF k λx hx hy=>(a6 x (by simp[hx])).2.2.1 hy,rfl,hN,?_⟩,hF⟩
 ·rw[xY] at hx
  rw[mA,mA,yf]
  rcases hx with h|h|h|h|h|h
  ·simp[h]
  ·simp[h]
  ·simp[h]
  ·simp[h]
  ·simp at h
  ·simp[h]
 ·intro x hx
  rw[xY] at hx
  have hs:=k.size
  rcases hx with hx|hx|hx|hx|hx|hx
  ·exact lL (h.cC x (h.mem.2 (by simp[hx]))) hs
  ·exact lL (h.cC x (h.mem.2 (by simp[hx]))) hs
  ·exact hy.lt x hx
  ·exact lL (h.cC x (h.mem.2 (by simp[hx]))) hs
  ·simp at hx
  ·exact lL (h.cC x (h.mem.2 (by simp[hx]))) hs
theorem gk.FW (h:gk τ E L w b o vb vt vc vy gb gt gc gy m) {ts:List Tk} (hy:dH (gt.toList++(g.toList++L)) w' τ.T 12 v g (ts.map Tk.enc)) (k:aj gt.toList w w') (hg:g=gt∨∃x,g=some x∧w.heap.size<=x):
  ∃L',gk τ E L' w' b o vb v vc vy gb g gc gy {m with bF:=ts}∧Fr L w L' w':=by
 obtain⟨a1,a2,a3,a4,a5,a6⟩:=h.apart
 have kz:∀x,x∈g.toList->x∈gt.toList∨w.heap.size<=x∧x∉gb.toList∧x∉gc.toList∧x∉gy.toList:=λx hx=>by
  rcases hg with rfl|⟨y,rfl,hy⟩
  ·exact .inl hx
  ·have hx:x=y:=by simpa using hx
   refine .inr ⟨by omega,λhh=>?_,λhh=>?_,λhh=>?_⟩<;>have:=h.IX (x:=x) (by simp[hh])<;>omega
 obtain⟨hF,hN⟩:=h.swap k (λx hx=>⟨h.mem.2 (by simp[hx]),(a4 x hx).2.1,(a4 x hx).1⟩) (gb':=gb) (gt':=g) (gc':=gc) (gy':=gy) (λx hx=>.inl hx) kz (λx hx=>.inl hx) (λx hx=>.inl hx)
 refine⟨_,⟨h.bl.aF hF k (λx hx hy=>(a4 x hy).2.2 hx),hy.sub λx hx=>.inl ?_,?_,h.ty.aF k λx hx hy=>(a6 x (by simp[hx])).2.2.2.1 hy,rfl,hN,?_⟩,hF⟩
 ·rw[xY] at hx
  rw[mA,mA,h.mem]
  rcases hx with h|h|h|h|h|h<;>simp[h]
 ·rcases h.co with⟨ho,h1⟩|⟨ho,hn,h1⟩
  ·exact .inl ⟨ho,h1.aF k λx hx hy=>(a5 x (by simp[hx])).2.2.2 hy⟩
  ·exact .inr ⟨ho,hn,h1.go hF⟩
 ·intro x hx
  rw[xY] at hx
  have hs:=k.size
  rcases hx with hx|hx|hx|hx|hx|hx
  ·exact lL (h.cC x (h.mem.2 (by simp[hx]))) hs
  ·exact lL (h.cC x (h.mem.2 (by simp[hx]))) hs
  ·exact lL (h.cC x (h.mem.2 (by simp[hx]))) hs
  ·exact hy.lt x hx
  ·exact lL (h.cC x (h.mem.2 (by simp[hx]))) hs
  ·exact lL (h.cC x (h.mem.2 (by simp[hx]))) hs
theorem gk.num (h:gk τ E L w b o vb vt vc vy gb gt gc gy m) (c:Nat) (q:Bool):gk τ E L w b o vb vt vc vy gb gt gc gy {m with count:=c,wide:=q}:=⟨h.bl,h.ta,h.co,h.ty,h.eL,h.nd,h.cC⟩
end
theorem Fr.in {G G':List Nat} (h:Fr G w G' w') (E:List Nat):Fr (E++G) w (E++G') w':=
 ⟨h.aF.mono λx hx=>mR _ hx,λx hx=>by
  rcases mA.1 hx with hx|hx
  ·exact .inl (List.mem_append_left _ hx)
  ·rcases h.mem x hx with h1|h1
   ·exact .inl (mR _ h1)
   ·exact .inr h1⟩
structure yg where
 M:TypeId
 S:TypeId
 T:TypeId
structure iz (τ:yg) (E G:List Nat) (w:World) (b:Nat) (vt vn ve:Value) (gn ge:Option Nat) (ag aK:List ai) (exprs:List aq):Prop where
 ta:bc (E++G) w vt ag
 na:cG w τ.S vn gn aK
 ex:dH (E++G) w τ.T 2 ve ge (cT exprs)
 eG:G=b::(gn.toList++ge.toList)
 nd:(E++G).Nodup
 cC:∀x,x∈E++G->x<w.heap.size
section
variable {τ:yg} {E G:List Nat} {w w':World} {b:Nat} {vt vn ve:Value} {gn ge:Option Nat} {ag aK:List ai} {exprs:List aq}
theorem iz.mem (h:iz τ E G w b vt vn ve gn ge ag aK exprs):x∈G↔x=b∨x∈gn.toList∨x∈ge.toList:=by rw[h.eG];simp
theorem iz.apart (h:iz τ E G w b vt vn ve gn ge ag aK exprs):E.Nodup∧b∉E∧(∀x,x∈gn.toList->x∉E∧x≠b)∧(∀x,x∈ge.toList->x∉E∧x≠b∧x∉gn.toList):=by
 have hn:=h.nd
 rw[h.eG,List.nodup_append,List.nodup_cons,List.nodup_append] at hn
 obtain⟨h1,⟨h2,h3,h4,h5⟩,h6⟩:=hn
 refine⟨h1,λhb=>h6 b hb b sm rfl,λx hx=>⟨λhe=>h6 x he x (by simp[hx]) rfl,λe=>h2 (by simp[<-e,hx])⟩,λx hx=>⟨λhe=>h6 x he x (by simp[hx]) rfl,λe=>h2 (by simp[<-e,hx]),λhy=>h5 x hy x hx rfl⟩⟩
theorem Tm {A B:Option Nat} {F:List Nat} {b:Nat} (h1:F.Nodup) (h2:b∉F) (ha:∀x,x∈A.toList->x∉F∧x≠b) (hb:∀x,x∈B.toList->x∉F∧x≠b∧x∉A.toList):(F++b::(A.toList++B.toList)).Nodup:=by grind
theorem iz.Tn (h:iz τ E G w b vt vn ve gn ge ag aK exprs) {ys:List ai} (hy:cG w' τ.S v g ys) (k:aj gn.toList w w') (hg:g=gn∨g=some w.heap.size):
  ∃G',iz τ E G' w' b vt v ve g ge ag ys exprs∧Fr G w G' w':=by
 obtain⟨a1,a2,a3,a4⟩:=h.apart
 have o3:∀x,x∈g.toList->x∈gn.toList∨x=w.heap.size:=λx hx=>by
  rcases hg with rfl|rfl
  ·exact .inl hx
  ·right;simpa using hx
 have dU:∀x,x∈E++G->x≠w.heap.size:=λx hx e=>by have:=h.cC x hx;omega
 have hF:Fr G w (b::(g.toList++ge.toList)) w':=⟨k.mono λx hx=>h.mem.2 (by simp[hx]),λx hx=>by
  rcases mC.1 hx with rfl|hx
  ·exact .inl (h.mem.2 (.inl rfl))
  ·rcases mA.1 hx with hx|hx
   ·rcases o3 x hx with h1|h1
    ·exact .inl (h.mem.2 (by simp[h1]))
    ·right;omega
   ·exact .inl (h.mem.2 (by simp[hx]))⟩
 have hN:(E++b::(g.toList++ge.toList)).Nodup:=Tm a1 a2 (λx hx=>by
  rcases o3 x hx with h1|h1
  ·exact a3 x h1
  ·exact⟨λhe=>dU x (by simp[he]) h1,λe=>dU x (mR _ (h.mem.2 (.inl e))) h1⟩) (λx hx=>⟨(a4 x hx).1,(a4 x hx).2.1,λhy=>by
  rcases o3 x hy with h1|h1
  ·exact(a4 x hx).2.2 h1
  ·exact dU x (mR _ (h.mem.2 (by simp[hx]))) h1⟩)
 refine⟨_,⟨h.ta.go (hF.in E),hy,h.ex.aF (hF.in E) k (λx hx hy=>(a4 x hx).2.2 hy),rfl,hN,λx hx=>?_⟩,hF⟩
 have hs:=k.size
 rcases mA.1 hx with hx|hx
 ·exact lL (h.cC x (by simp[hx])) hs
 ·rcases mC.1 hx with rfl|hx
  ·exact lL (h.cC x (mR _ (h.mem.2 (.inl rfl)))) hs
  ·rcases mA.1 hx with hx|hx
   ·exact hy.lt x hx
   ·exact lL (h.cC x (mR _ (h.mem.2 (by simp[hx])))) hs
theorem iz.aF (h:iz τ E G w b vt vn ve gn ge ag aK exprs) {H:List Nat} (k:aj H w w') (hH:∀x,x∈H->x=b):iz τ E G w' b vt vn ve gn ge ag aK exprs:=by
 obtain⟨a1,a2,a3,a4⟩:=h.apart
 have hF:Fr (E++G) w (E++G) w':=Fr.of k λx hx=>mR _ (h.mem.2 (.inl (hH x hx)))
 exact⟨h.ta.go hF,h.na.aF k (λx hx hy=>(a3 x (by simp[hx])).2 (hH x hy)),h.ex.aF hF k (λx hx hy=>(a4 x hx).2.1 (hH x hy)),h.eG,h.nd,λx hx=>lL (h.cC x hx) k.size⟩
theorem MQ {w:World} {T:TypeId} (hx:aJ w x #[] T):iH w T sz (.slice (some ⟨x,0,none⟩) 0 0) (some x) 0 []:=by grind [aJ,iH]
theorem To {w:World} {T:TypeId} (hx:aJ w x #[] T):cG w T (.slice (some ⟨x,0,none⟩) 0 0) (some x) []:=MQ hx
theorem MR {w:World} {T:TypeId} (hx:aJ w x #[] T):dH L w T sz (.slice (some ⟨x,0,none⟩) 0 0) (some x) []:=⟨⟨[],MQ hx,trivial⟩,sm⟩
theorem iz.opened (h:iz τ E G w b vt vn ve gn ge ag aK exprs) (k:aj [b] w w') {y:Nat} (hx:aJ w' x #[] τ.S) (hy:aJ w' y #[] τ.T) (h1:w.heap.size<=x) (h2:x<y):
  iz τ (gn.toList++(ge.toList++E)) (b::[x,y]) w' b vt (.slice (some ⟨x,0,none⟩) 0 0) (.slice (some ⟨y,0,none⟩) 0 0) (some x) (some y) ag [] []∧
   cG w' τ.S vn gn aK∧dH (E++G) w' τ.T 2 ve ge (cT exprs)∧Fr G w (b::[x,y]) w':=by
 obtain⟨a1,a2,a3,a4⟩:=h.apart
 have dU:∀z,z∈E++G->z<w.heap.size:=h.cC
 have hF:Fr (E++G) w ((gn.toList++(ge.toList++E))++(b::[x,y])) w':=⟨k.mono λz hz=>mR _ (h.mem.2 (.inl (by simpa using hz))),λz hz=>by
  simp only[mA,mC,List.not_mem_nil,or_false] at hz
  rcases hz with(hz|hz|hz)|hz|hz|hz
  ·exact .inl (mR _ (h.mem.2 (.inr (.inl hz))))
  ·exact .inl (mR _ (h.mem.2 (.inr (.inr hz))))
  ·exact .inl (List.mem_append_left _ hz)
  ·exact .inl (mR _ (h.mem.2 (.inl hz)))
  ·right;omega
  ·right;omega⟩
 have ka:Fr (E++G) w (E++G) w':=Fr.of k λz hz=>mR _ (h.mem.2 (.inl (by simpa using hz)))
 have hb:b<w.heap.size:=dU b (mR _ (h.mem.2 (.inl rfl)))
 have o3:∀z,z∈gn.toList->z<w.heap.size:=λz hz=>dU z (mR _ (h.mem.2 (.inr (.inl hz))))
 have oC:∀z,z∈ge.toList->z<w.heap.size:=λz hz=>dU z (mR _ (h.mem.2 (.inr (.inr hz))))
 have hE:∀z,z∈E->z<w.heap.size:=λz hz=>dU z (List.mem_append_left _ hz)
 refine⟨⟨h.ta.go hF,To hx,MR hy,rfl,?_,?_⟩,h.na.aF k (λz hz hy=>(a3 z (by simp[hz])).2 (by simpa using hy)),h.ex.aF ka k (λz hz hy=>(a4 z hz).2.1 (by simpa using hy)),⟨k.mono λz hz=>h.mem.2 (.inl (by simpa using hz)),λz hz=>?_⟩⟩
 ·rw[List.nodup_append,List.nodup_append,List.nodup_append]
  refine⟨⟨Mt gn,⟨Mt ge,a1,λp hp q hq e=>(a4 p hp).1 (e▸hq)⟩,λp hp q hq e=>?_⟩,?_,λp hp q hq e=>?_⟩
  ·subst e
   rcases mA.1 hq with hq|hq
   ·exact(a4 p hq).2.2 hp
   ·exact(a3 p hp).1 hq
  ·simp only[List.nodup_cons,mC,List.not_mem_nil,or_false,not_false_eq_true,List.nodup_nil,and_true]
   omega
  ·subst e
   simp only[mC,List.not_mem_nil,or_false] at hq
   simp only[mA] at hp
   rcases hp with hp|hp|hp
   ·rcases hq with hq|hq|hq
    ·exact(a3 p hp).2 hq
    ·have:=o3 p hp;omega
    ·have:=o3 p hp;omega
   ·rcases hq with hq|hq|hq
    ·exact(a4 p hp).2.1 hq
    ·have:=oC p hp;omega
    ·have:=oC p hp;omega
   ·rcases hq with hq|hq|hq
    ·subst hq;exact a2 hp
    ·have:=hE p hp;omega
    ·have:=hE p hp;omega
 ·intro z hz
  simp only[mA,mC,List.not_mem_nil,or_false] at hz
  have hs:=k.size
  rcases hz with(hz|hz|hz)|hz|hz|hz
  ·have:=o3 z hz;omega
  ·have:=oC z hz;omega
  ·have:=hE z hz;omega
  ·omega
  ·rw[hz];exact hx.lt
  ·rw[hz];exact hy.lt
 ·simp only[mC,List.not_mem_nil,or_false] at hz
  rcases hz with hz|hz|hz
  ·exact .inl (h.mem.2 (.inl hz))
  ·right;omega
  ·right;omega
theorem iz.closed {G2:List Nat} {Cp vn2 ve2:Value} {gn2 ge2:Option Nat} {aeO:List ai} {aeP:List aq} {w0:World} (h:iz τ E G w0 b vt vn ve gn ge ag aK exprs) 
  (h2:iz τ (gn.toList++(ge.toList++E)) G2 w b Cp vn2 ve2 gn2 ge2 ag aeO aeP) (hn:cG w τ.S vn gn aK) (he:dH (E++G) w τ.T 2 ve ge (cT exprs)) (hk:Fr G w0 G2 w) (k:aj [b] w w'):
  iz τ E G w' b Cp vn ve gn ge ag aK exprs∧Fr G w0 G w':=by
 obtain⟨a1,a2,a3,a4⟩:=h.apart
 have Gv:aj G w w':=k.mono λz hz=>h.mem.2 (.inl (by simpa using hz))
 have ka:Fr (E++G) w (E++G) w':=Fr.of Gv λz hz=>mR _ hz
 have rI:∀z,z∈E++G->z∈(gn.toList++(ge.toList++E))++G2:=λz hz=>by
  rcases mA.1 hz with hz|hz
  ·simp[hz]
  ·rcases h.mem.1 hz with hz|hz|hz
   ·exact mR _ (h2.mem.2 (.inl hz))
   ·simp[hz]
   ·simp[hz]
 have sL:bc (E++G) w Cp ag:=h2.ta.fresh λz hz=>.inl (rI z hz)
 refine⟨⟨sL.go ka,hn.aF k (λz hz hy=>(a3 z (by simp[hz])).2 (by simpa using hy)),he.aF ka k (λz hz hy=>(a4 z hz).2.1 (by simpa using hy)),h.eG,h.nd,λz hz=>?_⟩,⟨hk.aF.since Gv λz hz=>.inl hz,λz hz=>.inl hz⟩⟩
 have:=h.cC z hz
 have h3:=hk.aF.size
 have h4:=k.size
 omega
def m5V (n:Nat) (vt vn ve:Value):List Value:=[vt,.int .i64 (n:Int),vn,ve]
def M5 (τ:yg) (E G:List Nat) (w:World) (b:Nat) (ag:List ai) (n:Nat) (aK:List ai) (exprs:List aq):Prop:=∃vt vn ve gn ge,aJ w b (m5V n vt vn ve).toArray τ.M∧iz τ E G w b vt vn ve gn ge ag aK exprs
theorem iz.ext (h:iz τ E G w b vt vn ve gn ge ag aK exprs) (k:aj [] w w'):iz τ E G w' b vt vn ve gn ge ag aK exprs:=h.aF k sm
theorem M5.ext (h:M5 τ E G w b ag n aK exprs) (k:aj [] w w'):M5 τ E G w' b ag n aK exprs:=by
 obtain⟨vt,vn,ve,gn,ge,h1,h2⟩:=h
 exact⟨vt,vn,ve,gn,ge,h1.aF k sm,h2.ext k⟩
end
structure dM (L:List Nat) (w:World) (b:Nat) (vs:Array Value) (T:TypeId):Prop where
 gX:aJ w b vs T
 out:b∉L
theorem dM.lt {T:TypeId} (h:dM L w b vs T):b<w.heap.size:=h.gX.lt
theorem dM.at {vs:List Value} {T:TypeId} (h:dM L w b vs.toArray T) (hv:vs[i]?=some v):w.cell? ⟨b,i,none⟩=some v:=h.gX.at hv
theorem dM.all {vs:List Value} {T:TypeId} (h:dM L w b vs.toArray T):fS w b 0 vs:=h.gX.all
theorem dM.go {L':List Nat} {T:TypeId} (h:dM L w b vs T) (k:Fr L w L' w'):dM L' w' b vs T:=
 ⟨h.gX.aF k.aF h.out,λhx=>by
  rcases k.mem b hx with h1|h1
  ·exact h.out h1
  ·have:=h.gX.lt;omega⟩
theorem dM.ext {T:TypeId} (h:dM L w b vs T) (k:aj [] w w'):dM L w' b vs T:=⟨h.gX.ext k,h.out⟩
theorem dM.aD {G:List Nat} {T:TypeId} (h:dM L w b vs T) (k:aj G w w') (hG:∀x,x∈G->x∈L):dM L w' b vs T:=h.go (Fr.of k hG)
theorem aJ.o {T:TypeId} (h:aJ w b vs T) (hL:∀x,x∈L->x<b):dM L w b vs T:=⟨h,λhx=>by have:=hL b hx;omega⟩
theorem cG.rs {T:TypeId} (h:cG w T v g xs):bc [] w v xs:=h.rep sm
theorem jR {T:TypeId} (h:cG w T v g xs):∃a c,v= .slice a xs.length c:=iH.len h
section
variable {P:Program} {n:Nat} {ops:Array Oper} {K:Env->World->Prop} {rest:List Oper} {e:Env} {w:World} {dst:Option Nat} {ty:TypeId} {pos:String} {after:Array Edge} {g:Option (Nat×Bool)} {x y:Operand}
theorem Tp {t:Nat} {v:Value} {gb:Option Nat} {xs:List ai} {s:ai} {b U:Nat} (hT:P.underlying t=some (.slice E)) (hE:TI P E 1 bytes z) (hg:gate ops e g=true) (hd:bV n dst=true) (hz:Nat.beq z.cells.size 1=true) (fK:Nat.ble bytes 1000=true) 
  (hx:ev e x=v) (hy:ev e y= .slice (some ⟨b,0,none⟩) 1 1) (hO:cG w E v gb xs) (hb:aJ w b [str s].toArray U) (hn:xs.length<100000000)
  (k:∀v' g' w',cG w' E v' g' (xs++[s])->aj gb.toList w w'->Fr gb.toList w g'.toList w'->OW P n ops K rest (bM e dst v') w'):
  OW P n ops K (⟨dst,.call {callee:=.builtin .append,args:=#[x,y],argTypes:=#[t,t]},ty,pos,after,g⟩::rest) e w:=by
 refine Co (L:=[]) (row:=[.val (str s)]) hT hE hg hd hz fK hx hy (hO.Ti _) rfl hb.all (by simp[Value.oneCell']) ⟨.val _,trivial⟩ (by rw[qb];exact hn) ?_
 intro v' g' w' iT hk kz
 rw[Tj] at iT
 refine k v' g' w' iT.uP hk.aF ⟨hk.aF,λq hq=>?_⟩
 rcases kz with h|h
 ·rw[h] at hq;exact .inl hq
 ·rw[h] at hq;simp at hq;right;omega
theorem kJ {T:Nat} (hT:P.underlying T=some (.slice E)) (hE:TI P E 1 bytes z) (hg:gate ops e g=true) (hd:bV n dst=true) (h1:ev e q1=str a1) (h2:ev e q2=str a2) 
  (k:∀w',aj [] w w'->aJ w' w.heap.size [str a1,str a2].toArray E->w'.heap.size=w.heap.size+1->OW P n ops K rest (bM e dst (.slice (some ⟨w.heap.size,0,none⟩) 2 2)) w'):
  OW P n ops K (⟨dst,.buildSlice T 2 #[(0,q1),(1,q2)],ty,pos,after,g⟩::rest) e w:=
 sH [q1,q2] [[str a1],[str a2]] hT hE hg hd rfl rfl rfl rfl rfl (by simp[h1,h2,Value.cells]) rfl k
theorem pM {T:Nat} (hT:P.underlying T=some (.slice E)) (hE:TI P E 1 bytes z) (hg:gate ops e g=true) (hd:bV n dst=true) (h1:ev e q1=str a1) (h2:ev e q2=str a2) (h3:ev e q3=str a3) 
  (k:∀w',aj [] w w'->aJ w' w.heap.size [str a1,str a2,str a3].toArray E->w'.heap.size=w.heap.size+1->OW P n ops K rest (bM e dst (.slice (some ⟨w.heap.size,0,none⟩) 3 3)) w'):
  OW P n ops K (⟨dst,.buildSlice T 3 #[(0,q1),(1,q2),(2,q3)],ty,pos,after,g⟩::rest) e w:=
 sH [q1,q2,q3] [[str a1],[str a2],[str a3]] hT hE hg hd rfl rfl rfl rfl rfl (by simp[h1,h2,h3,Value.cells]) rfl k
theorem yh {T:Nat} (hT:P.underlying T=some (.slice E)) (hE:TI P E 1 bytes z) (hg:gate ops e g=true) (hd:bV n dst=true) (h1:ev e q1=str a1) (h2:ev e q2=str a2) (h3:ev e q3=str a3) (h4:ev e q4=str a4) 
  (k:∀w',aj [] w w'->aJ w' w.heap.size [str a1,str a2,str a3,str a4].toArray E->w'.heap.size=w.heap.size+1->OW P n ops K rest (bM e dst (.slice (some ⟨w.heap.size,0,none⟩) 4 4)) w'):
  OW P n ops K (⟨dst,.buildSlice T 4 #[(0,q1),(1,q2),(2,q3),(3,q4)],ty,pos,after,g⟩::rest) e w:=
 sH [q1,q2,q3,q4] [[str a1],[str a2],[str a3],[str a4]] hT hE hg hd rfl rfl rfl rfl rfl (by simp[h1,h2,h3,h4,Value.cells]) rfl k
theorem Tq {T:Nat} (hT:P.underlying T=some (.slice E)) (hE:TI P E 1 bytes z) (hg:gate ops e g=true) (hd:bV n dst=true) (h1:ev e q1=str a1) (h2:ev e q2=str a2) (h3:ev e q3=str a3) (h4:ev e q4=str a4) (h5:ev e q5=str a5) 
  (k:∀w',aj [] w w'->aJ w' w.heap.size [str a1,str a2,str a3,str a4,str a5].toArray E->w'.heap.size=w.heap.size+1->OW P n ops K rest (bM e dst (.slice (some ⟨w.heap.size,0,none⟩) 5 5)) w'):
  OW P n ops K (⟨dst,.buildSlice T 5 #[(0,q1),(1,q2),(2,q3),(3,q4),(4,q5)],ty,pos,after,g⟩::rest) e w:=
 sH [q1,q2,q3,q4,q5] [[str a1],[str a2],[str a3],[str a4],[str a5]] hT hE hg hd rfl rfl rfl rfl rfl (by simp[h1,h2,h3,h4,h5,Value.cells]) rfl k
theorem aeR {T:Nat} (hT:P.underlying T=some (.slice E)) (hE:TI P E 1 bytes z) (hg:gate ops e g=true) (hd:bV n dst=true) (h1:ev e q1=str a1) (h2:ev e q2=str a2) (h3:ev e q3=str a3) (h4:ev e q4=str a4) (h5:ev e q5=str a5) (h6:ev e q6=str a6) 
  (k:∀w',aj [] w w'->aJ w' w.heap.size [str a1,str a2,str a3,str a4,str a5,str a6].toArray E->w'.heap.size=w.heap.size+1->OW P n ops K rest (bM e dst (.slice (some ⟨w.heap.size,0,none⟩) 6 6)) w'):
  OW P n ops K (⟨dst,.buildSlice T 6 #[(0,q1),(1,q2),(2,q3),(3,q4),(4,q5),(5,q6)],ty,pos,after,g⟩::rest) e w:=
 sH [q1,q2,q3,q4,q5,q6] [[str a1],[str a2],[str a3],[str a4],[str a5],[str a6]] hT hE hg hd rfl rfl rfl rfl rfl (by simp[h1,h2,h3,h4,h5,h6,Value.cells]) rfl k
theorem Tr {T:Nat} {q7 q8:Operand} {a7 a8:ai} (hT:P.underlying T=some (.slice E)) (hE:TI P E 1 bytes z) (hg:gate ops e g=true) (hd:bV n dst=true) (h1:ev e q1=str a1) (h2:ev e q2=str a2) (h3:ev e q3=str a3) (h4:ev e q4=str a4) (h5:ev e q5=str a5) (h6:ev e q6=str a6) (h7:ev e q7=str a7) (h8:ev e q8=str a8) 
  (k:∀w',aj [] w w'->aJ w' w.heap.size [str a1,str a2,str a3,str a4,str a5,str a6,str a7,str a8].toArray E->w'.heap.size=w.heap.size+1->OW P n ops K rest (bM e dst (.slice (some ⟨w.heap.size,0,none⟩) 8 8)) w'):
  OW P n ops K (⟨dst,.buildSlice T 8 #[(0,q1),(1,q2),(2,q3),(3,q4),(4,q5),(5,q6),(6,q7),(7,q8)],ty,pos,after,g⟩::rest) e w:=
 sH [q1,q2,q3,q4,q5,q6,q7,q8] [[str a1],[str a2],[str a3],[str a4],[str a5],[str a6],[str a7],[str a8]] hT hE hg hd rfl rfl rfl rfl rfl (by simp[h1,h2,h3,h4,h5,h6,h7,h8,Value.cells]) rfl k
theorem aeS {T:Nat} {q7 q8 q9 MS:Operand} {a7 a8 a9 Jf:ai} (hT:P.underlying T=some (.slice E)) (hE:TI P E 1 bytes z) (hg:gate ops e g=true) (hd:bV n dst=true) (h1:ev e q1=str a1) (h2:ev e q2=str a2) (h3:ev e q3=str a3) (h4:ev e q4=str a4) (h5:ev e q5=str a5) (h6:ev e q6=str a6) (h7:ev e q7=str a7) (h8:ev e q8=str a8) (h9:ev e q9=str a9) (fO:ev e MS=str Jf) 
  (k:∀w',aj [] w w'->aJ w' w.heap.size [str a1,str a2,str a3,str a4,str a5,str a6,str a7,str a8,str a9,str Jf].toArray E->w'.heap.size=w.heap.size+1->OW P n ops K rest (bM e dst (.slice (some ⟨w.heap.size,0,none⟩) 10 10)) w'):
  OW P n ops K (⟨dst,.buildSlice T 10 #[(0,q1),(1,q2),(2,q3),(3,q4),(4,q5),(5,q6),(6,q7),(7,q8),(8,q9),(9,MS)],ty,pos,after,g⟩::rest) e w:=
 sH [q1,q2,q3,q4,q5,q6,q7,q8,q9,MS] [[str a1],[str a2],[str a3],[str a4],[str a5],[str a6],[str a7],[str a8],[str a9],[str Jf]] hT hE hg hd rfl rfl rfl rfl rfl (by simp[h1,h2,h3,h4,h5,h6,h7,h8,h9,fO,Value.cells]) rfl k
end
theorem bB.eq {u:aq} (h:bB L w v t) (e:t=u):bB L w v u:=e▸h
theorem eW {a:Option Addr} {c:Nat} (h:eM L w (.slice a n c) ts) (hi:i<ts.length):
  ∃b off pa pc,a=some ⟨b,off,none⟩∧fy L w b (off+i*2) [str (nth ts i).aw,.slice pa (nth ts i).ak.length pc]∧bB L w (.agg #[str (nth ts i).aw,.slice pa (nth ts i).ak.length pc]) (nth ts i):=by
 obtain⟨b,off,vs,ha,hb,hL,hl,hc,hr⟩:=zn h (Lj (gh hi))
 obtain⟨pa,pn,pc,he,hn,hp⟩:=cU (t:=nth ts i) ⟨vs,rfl,hr⟩
 have hv:vs=[str (nth ts i).aw,.slice pa pn pc]:=by
  have:=congrArg (λv=>match v with|Value.agg x=>x.toList|_=>[]) he
  simpa using this
 subst hv hn
 exact⟨b,off,pa,pc,ha,⟨hc,hb,hL⟩,kV hp⟩
theorem aJ.uP {T:Nat} (xs:List ai) (h:aJ w b (xs.map λx=>str x).toArray T) (hl:xs.length<=100000:=by simp):cG w T (.slice (some ⟨b,0,none⟩) xs.length xs.length) (some b) xs:=
 ⟨by simp,.inr ⟨b,xs.length,_,rfl,rfl,h,lR _,Nat.le_trans hl de,sm,by rw[Nat.mul_one,List.take_of_length_le sm]⟩⟩
theorem aJ.dK {T:Nat} (xs:List ai) (h:aJ w b (xs.map λx=>str x).toArray T) (hL:b∉L) (hl:xs.length<=100000:=by simp):bc L w (.slice (some ⟨b,0,none⟩) xs.length xs.length) xs:=
 (h.uP xs hl).rep λq hq=>by cases hq;exact hL
theorem aJ.kK {T:Nat} (h:aJ w b #[] T):cG w T (.slice (some ⟨b,0,none⟩) 0 0) (some b) []:=To h
theorem sM (h:n<1000):(aT n).length<=3:=by grind [aT]
theorem lE (h:ai) (ps:List ai):(dR h ps).length=h.length+2+ju ps:=by grind [dR,RO,ju]
theorem aeT {m:Nat}:∀xs:List ai,(∀s,s∈xs->s.length<=m)->(xs.map List.length).sum<=xs.length*m:=by intro x;induction x<;>grind [lC,Nat.add_mul]
theorem AM {m:Nat} (xs:List ai) (h:∀s,s∈xs->s.length<=m):ju xs<=xs.length*(m+1):=by
 have:=aeT xs h
 unfold ju;rw[Nat.mul_add];omega
structure jS (s:cD):Prop where
 types:xU (ew s)
 regs:∀p,p∈s->p.2.1<1000
theorem Gw (h:jS s) (x:ai):kn s x<1000:=by
 unfold kn
 cases hf:s.reverse.find? λp=>decide (p.1=x) with
 |none=>simp
 |some p=>exact h.regs p (List.mem_reverse.1 (List.mem_of_find?_eq_some hf))
theorem Jg (h:jS s) (x:ai):(j5 s x).n<=16:=by
 unfold j5
 cases hl:look (ew s) x with
 |none=>decide
 |some T=>exact h.types x T hl
theorem pN (h:T.n<=16):(bu T).length<=256:=by have:=B4 T;omega
theorem tU (h:T.n<=16):(dz (bu T)).length<=272:=by have:=pN h;rw[Ms];omega
theorem jS.snoc (h:jS s) {x:ai} {r:Nat} (hr:r<1000) (hT:T.n<=16):jS (s++[(x,r,T)]):=by
 refine⟨by rw[D5];exact F6 h.types hT,λp hp=>?_⟩
 rcases mA.1 hp with hp|hp
 ·exact h.regs p hp
 ·simp only[List.mem_singleton] at hp;rw[hp];exact hr
def AN (s:ai):Prop:=∃T:Ty,T.n<=16∧s=dz (bu T)
/-! ### The type of a package's tuple -/
def lF (s:cD) (aK:List ai) (on:ai):List ai:=aK.map (λx=>bu (j5 s x))++(if on≠[] then[on] else[])
def El:Option Ty->ai
 |some T=>dz (bu T)
 |none=>[]
def tV (s:cD) (aK:List ai) (on:Option Ty):List aq:=aK.map (λx=>qW (j5 s x))++(match on with|some T=>[Aa (qW T)]|none=>[])
theorem Em (s:cD) (aK:List ai) (on:Option Ty):lF s aK (El on)=(tV s aK on).map aq.text:=by
 unfold lF tV
 rw[List.map_append,List.map_map]
 congr 1
 cases on with
 |none=>rfl
 |some T=>
  have dL:dz (bu T)≠[]:=by simp[dz]
  refine(iP (show El (some T)≠[] from dL)).trans ?_
  simp[El,Su,bu]
theorem Tt (s:cD) (aK:List ai) (on:ai):(lF s aK on).length<=aK.length+1:=by grind [lF]
theorem Tu (h:jS s) {aK:List ai} {on:ai} (ky:on.length<=272):∀t,t∈lF s aK on->t.length<=272:=by grind [lF,pN,Jg]
theorem Gx (h:jS s) {aK:List ai} {on:ai} (hn:aK.length<=40) (ky:on.length<=272):(dR [116] (lF s aK on)).length<=11200:=by
 have h1:=AM _ (Tu h (aK:=aK) ky)
 have h2:=Tt s aK on
 have h3:(lF s aK on).length*(272+1)<=41*(272+1):=Nat.mul_le_mul om (lR _)
 rw[lE];simp only[lC,List.length_nil];omega
theorem aeU (s:cD) (aK:List ai) (on:Option Ty):aK.length<=(tV s aK on).length:=by simp_all[tV]
theorem aeV (s:cD) (aK:List ai) (on:Option Ty):∀t,t∈tV s aK on->Good t:=λt ht=>by
 unfold tV at ht
 rcases mA.1 ht with ht|ht
 ·obtain⟨x,_,rfl⟩:=List.mem_map.1 ht
  exact D3 _
 ·cases on with
  |none=>simp at ht
  |some T=>simp only[List.mem_singleton] at ht;rw[ht];exact St (D3 T)
theorem Tv (h:jS s) {aK:List ai} {on:Option Ty} (hn:aK.length<=40) (ky:∀T,on=some T->T.n<=16):
  bA (dR [116] (lF s aK (El on)))=some (wm [116] (tV s aK on)):=by
 have hg:=Z7 (h:=[116]) de de (aeV s aK on)
 rw[Em,<-Ry de]
 refine LG hg ?_ ?_
 ·show aq.depth.deeps (bJ [116]::tV s aK on)<=60
  refine LB λp hp=>?_
  rcases mC.1 hp with rfl|hp
  ·have:(bJ [116]).depth=0:=rfl
   omega
  ·unfold tV at hp
   rcases mA.1 hp with hp|hp
   ·obtain⟨x,_,rfl⟩:=List.mem_map.1 hp
    have:=D4 (j5 s x)
    have:=Jg h x
    omega
   ·cases on with
    |none=>simp at hp
    |some T=>
     simp only[List.mem_singleton] at hp
     have:=D4 T
     have:=ky T rfl
     rw[hp,Sv];omega
 ·rw[Ry de,<-Em]
  have:=Gx h (aK:=aK) (on:=El on) hn (by
   cases on with
   |none=>simp[El]
   |some T=>exact tU (ky T rfl))
  omega
/-! ### The state stays small -/
structure eY (m:Mk):Prop where
 types:∀s,s∈m.types->s.length<=100000
 code:∀s,s∈m.code->s.length<=100000
theorem eY.cY (h:eY m) {k:ai} (hk:k.length<=100000):eY (m.cY k):=⟨λs hs=>by
 rcases mA.1 hs with hs|hs
 ·exact h.types s hs
 ·simp only[List.mem_singleton] at hs;rw[hs];exact hk,h.code⟩
theorem eY.cA (h:eY m) {hd:ai} (hk:(dR hd ps).length<=100000):eY (m.cA hd ps):=⟨h.types,λs hs=>by
 rcases mA.1 hs with hs|hs
 ·exact h.code s hs
 ·simp only[List.mem_singleton] at hs;rw[hs];exact hk⟩
structure aeW (m m':Mk) (dt dc:Nat):Prop where
 blocks:m'.blocks=m.blocks
 bF:m'.bF=m.bF
 types:m'.types.length=m.types.length+dt
 code:m'.code.length=m.code.length+dc
theorem Tw (m:Mk) (s:cD) (ton:Nat) (aK:List ai) (on aM kind:ai) (bY:List ai):aeW m (oS m s ton aK on aM kind bY).m 4 4:=by
 refine⟨rfl,rfl,?_,?_⟩<;>simp[oS,Mk.cY,Mk.cA]
theorem Tx (m:Mk) (s:cD) (ton:Nat) (aK:List ai) (on aM kind:ai) (bY:List ai):(oS m s ton aK on aM kind bY).w=dR [116] (lF s aK on):=rfl
theorem Tz (hm:eY m) (hs:jS s) {ton:Nat} (ht:ton<1000) {aK:List ai} (hn:aK.length<=40) {on aM kind:ai} (ky:on.length<=272) (hl:aM.length<=10) (hk:kind.length<=272) {bY:List ai} (dL:bY.length<=2) (MT:∀x,x∈bY->x.length<=272) (eR:m.types.length+4<1000):eY (oS m s ton aK on aM kind bY).m:=by
 have hw:=Gx hs hn ky
 have dec:∀k,k<1000->(aT k).length<=3:=λk hk=>sM hk
 have aob:=AM bY MT
 have TH:(dR [99] (dR [116] (lF s aK on)::bY)).length<=12000:=by
  rw[lE]
  have:ju (dR [116] (lF s aK on)::bY)=1+(dR [116] (lF s aK on)).length+ju bY:=by unfold ju;simp;omega
  have h3:bY.length*(272+1)<=2*(272+1):=Nat.mul_le_mul dL (lR _)
  simp only[lC,List.length_nil];omega
 have regs:∀x,x∈aK.map (λx=>aT (kn s x))++(if on≠[] then[aT ton] else[])->x.length<=3:=λx hx=>by
  rcases mA.1 hx with hx|hx
  ·obtain⟨y,_,rfl⟩:=List.mem_map.1 hx
   exact dec _ (Gw hs y)
  ·split at hx
   ·simp only[List.mem_singleton] at hx;rw[hx];exact dec _ ht
   ·simp at hx
 have nZ:(aK.map (λx=>aT (kn s x))++(if on≠[] then[aT ton] else[])).length<=41:=by
  rw[lA,List.length_map]
  split<;>simp<;>omega
 unfold oS
 have s2:∀a b:ai,ju [a,b]=2+a.length+b.length:=λa b=>by simp[ju];omega
 have s3:∀a b c:ai,ju [a,b,c]=3+a.length+b.length+c.length:=λa b c=>by simp[ju];omega
 have s4:∀a b c d:ai,ju [a,b,c,d]=4+a.length+b.length+c.length+d.length:=λa b c d=>by simp[ju];omega
 have nh:=dec m.types.length om
 have cv:=dec (m.types.length+1) om
 have ck:=dec (m.types.length+2) om
 have Jh:=dec (m.types.length+3) om
 refine eY.cA (eY.cY (eY.cA (eY.cY (eY.cA (eY.cY (eY.cA (eY.cY hm ?_) ?_) ?_) ?_) ?_) ?_) ?_) ?_
 ·exact Nat.le_trans hw om
 ·have h1:=AM _ regs
  have h2:(aK.map (λx=>aT (kn s x))++(if on≠[] then[aT ton] else[])).length*(3+1)<=41*(3+1):=Nat.mul_le_mul nZ (lR _)
  rw[lE]
  have:ju (aT m.types.length::(aK.map (λx=>aT (kn s x))++(if on≠[] then[aT ton] else[])))=1+(aT m.types.length).length+ju (aK.map (λx=>aT (kn s x))++(if on≠[] then[aT ton] else[])):=by unfold ju;simp;omega
  rw[this]
  simp only[lC,List.length_nil];omega
 ·exact Nat.le_trans TH om
 ·rw[lE,s2];simp only[lC,List.length_nil];omega
 ·rw[lE,s2];have:=hw;unfold lF at this TH;simp only[lC,List.length_nil];unfold lF at hw;omega
 ·rw[lE,s3];simp only[lC,List.length_nil];omega
 ·omega
 ·rw[lE,s4];have:=hw;unfold lF at this;simp only[lC,List.length_nil];omega
structure Ext (m m':Mk) (k:Nat) (new:List Tk):Prop where
 blocks:m'.blocks=m.blocks
 bF:m'.bF=m.bF++new
 count:m'.count=m.count+new.length
 types:m.types.length<=m'.types.length∧m'.types.length<=m.types.length+k
 code:m'.code.length<=m.code.length+2*k
theorem Ext.refl (m:Mk):Ext m m 0 []:=⟨rfl,sm,rfl,om,om⟩
theorem Ext.trans {j:Nat} {p q:List Tk} (h:Ext m m1 j p) (h2:Ext m1 m2 k q):Ext m m2 (j+k) (p++q):=
 ⟨h2.blocks.trans h.blocks,by rw[h2.bF,h.bF,List.append_assoc],by rw[h2.count,h.count,lA];omega,by have:=h.types;have:=h2.types;omega,by have:=h.code;have:=h2.code;omega⟩
theorem Ext.more {m':Mk} {j:Nat} {p:List Tk} (h:Ext m m' j p) (hk:j<=k):Ext m m' k p:=⟨h.blocks,h.bF,h.count,by have:=h.types;omega,by have:=h.code;omega⟩
theorem MU {s:ai} (h:qg s=true):s.length<=4:=by grind [qg,numeral,Ri,dN]
theorem oc (h:e.ok):e.aw.length<=4:=by cases e<;>grind [Ex.ok,Ex.aw,MU]
theorem AO (a b:ai):ju [a,b]=2+a.length+b.length:=by simp[ju];omega
theorem Gy {m:Mk} (hm:eY m) (hs:jS s) (ha:a.length<=4) (ht:m.types.length<1000):Ext m (bT m s a).1 1 []∧eY (bT m s a).1∧(bT m s a).2<1000:=by
 unfold bT
 split
 ·exact⟨(Ext.refl m).more om,hm,Gw hs a⟩
 ·refine⟨⟨rfl,by simp[Mk.cY,Mk.cA],rfl,by simp[Mk.cY,Mk.cA],by simp[Mk.cY,Mk.cA]⟩,eY.cA (eY.cY hm sm) ?_,ht⟩
  have:=sM ht
  rw[lE,AO];simp only[lC,List.length_nil];omega
/-! ### Tasks -/
structure od (t:Tk):Prop where
 ok:t.expr.ok
 type:∃T,bw t.expr (ew t.sc)=some T
 sc:jS t.sc
 bud:5*t.sc.length+2*t.expr.n<=240
 room:t.regs.length+t.loads+8*t.expr.n<=990
 regs:∀r,r∈t.regs->r.length<=100000
 loads:t.loads=0∨∃ts:List aq,t.regs.head?=some (dR [116] (ts.map aq.text))∧t.loads<=ts.length∧bA (dR [116] (ts.map aq.text))=some (wm [116] ts)
 self:t.self=[]∨∃a b,t.self=[a,b]∧a.length<=272∧b.length<=11200∧t.regs.length=3∧∀r,r∈t.regs->r.length<=11200
 aV:AN t.aV
 on:t.on<1000
 aM:t.aM.length<=4
theorem MV (s:cD) (k:Nat) (aK:List ai):ew (im s k aK [])=aK.map λx=>(x,j5 s x):=by
 unfold im ew
 rw[List.nil_append,List.map_map]
 have:∀(l:List ai) (j:Nat),(l.zipIdx j).map ((λp:ai×Nat×Ty=>(p.1,p.2.2))∘λp=>(p.1,k+p.2,j5 s p.1))=l.map λx=>(x,j5 s x):=by
  intro l
  induction l with
  |nil=>intro j;rfl
  |cons x l ih=>intro j;simp only[List.zipIdx_cons,List.map_cons,Function.comp,ih]
 exact this aK 0
theorem MW:∀{aK:List ai} {x:ai},x∈aK->look (aK.map λx=>(x,j5 s x)) x=some (j5 s x):=by
 intro aK x h
 have key:∀(l:List ai),(∃y,y∈l∧y=x)->(l.map λx=>(x,j5 s x)).find? (λp=>decide (p.1=x))=some (x,j5 s x):=by
  intro l
  induction l with
  |nil=>rintro⟨_,hy,_⟩;simp at hy
  |cons y l ih=>
   intro hh
   rw[List.map_cons,List.find?_cons]
   by_cases e:y=x
   ·rw[dT e,e]
   ·rw[dF e]
    obtain⟨z,hz,TJ⟩:=hh
    rcases mC.1 hz with hz|hz
    ·exact absurd (hz▸TJ) e
    ·exact ih ⟨z,hz,TJ⟩
 unfold look
 rw[<-List.map_reverse,key aK.reverse ⟨x,List.mem_reverse.2 h,rfl⟩];rfl
theorem TK (h:jS s) (k:Nat) (aK:List ai) (hn:k+aK.length<1000):jS (im s k aK []):=by
 refine⟨λx T hT=>?_,λp hp=>?_⟩
 ·rw[MV] at hT
  have hx:x∈aK:=by
   unfold look at hT
   cases hf:(aK.map λx=>(x,j5 s x)).reverse.find? (λp=>decide (p.1=x)) with
   |none=>rw[hf] at hT;cases hT
   |some q=>
    have h1:=List.find?_some hf
    have h2:=List.mem_reverse.1 (List.mem_of_find?_eq_some hf)
    obtain⟨y,hy,rfl⟩:=List.mem_map.1 h2
    rw[<-of_decide_eq_true h1];exact hy
  rw[MW hx] at hT
  cases hT;exact Jg h x
 ·unfold im at hp
  rw[List.nil_append] at hp
  obtain⟨q,hq,rfl⟩:=List.mem_map.1 hp
  have:=List.snd_lt_of_mem_zipIdx hq
  show k+q.2<1000;omega
theorem yi (s:cD) (k:Nat) (aK:List ai):(im s k aK []).length=aK.length:=by simp[im]
theorem MX {x:ai} (h:(look (ew s) x).isSome=true):look (ew s) x=some (j5 s x):=by
 unfold j5
 cases hl:look (ew s) x with
 |none=>rw[hl] at h;cases h
 |some T=>rfl
theorem MY {bd:List ai} (hb:5*s.length+2*e.n<=240) (hf:∀x,Fv x e->x∉bd->(look (ew s) x).isSome=true):(cH e bd []).length<=34∧(cH e bd []).length<=s.length:=by
 have h1:=Mf e bd []
 have h2:(cH e bd []).length<=(s.map Prod.fst).length:=Mh (adO e bd [] List.nodup_nil) λx hx=>by
  rcases(B3 x e bd []).1 hx with h|⟨hx,hb⟩
  ·simp at h
  ·have:=hf x hx hb
   unfold look at this
   cases hq:(ew s).reverse.find? λp=>decide (p.1=x) with
   |none=>rw[hq] at this;cases this
   |some q=>
    have h3:=List.find?_some hq
    have h4:=List.mem_reverse.1 (List.mem_of_find?_eq_some hq)
    unfold ew at h4
    obtain⟨p,hp,rfl⟩:=List.mem_map.1 h4
    rw[<-of_decide_eq_true h3]
    exact List.mem_map.2 ⟨p,hp,rfl⟩
 simp only[List.length_nil,Nat.zero_add,List.length_map] at h1 h2
 omega
theorem TL {ton:Nat} {aK:List ai} {on aM kind:ai} {bY:List ai}:Ext m (oS m s ton aK on aM kind bY).m 4 []:=by
 have h:=Tw m s ton aK on aM kind bY
 exact⟨h.blocks,by rw[h.bF];simp,rfl,by rw[h.types];omega,by rw[h.code];omega⟩
theorem AP {m:Mk} (h:m.count<1000):m.aM.length<=4:=by grind [Mk.aM,sM]
theorem TO {m:Mk} {f x:ai} {A B:Ty} (hs:jS s) (ba:(Ex.fn f x A B e).ok) (ht:bw (.fn f x A B e) (ew s)=some T) (hb:5*s.length+2*(Ex.fn f x A B e).n<=240) (hc:m.count<1000):od (Af m s f x A B e)∧(cH (.fn f x A B e) [] []).length<=34∧1+A.n+B.n<=16:=by
 obtain⟨hf,hx,dL,hA,hB,he⟩:=ba
 have sN:∀y,Fv y (.fn f x A B e)->y∉([]:List ai)->(look (ew s) y).isSome=true:=λy hy _=>pG ht hy
 obtain⟨fl,iy⟩:=MY hb sN
 have x5:1+A.n+B.n<=16∧bw e (ew s++[(f,.op true A B),(x,A)])=some B:=by
  unfold bw at ht
  split at ht
  ·rename_i jl
   cases yj:bw e (ew s++[(f,.op true A B),(x,A)]) with
   |none=>rw[yj] at ht;cases ht
   |some C=>
    rw[yj,Option.bind_some] at ht
    split at ht
    ·rename_i hq;rw[adR.1 hq];exact⟨jl,rfl⟩
    ·cases ht
  ·cases ht
 have AQ:(Ty.op true A B).n<=16:=x5.1
 have wT:(bu (.op true A B)).length<=256:=pN AQ
 have hn:(Ex.fn f x A B e).n=3+A.n+B.n+e.n:=rfl
 rw[hn] at hb
 have hA1:=A.pos
 have Ji:=B.pos
 have Jj:=TK hs 3 (cH (.fn f x A B e) [] []) om
 have Gz:(nV m s f x A B e).w=dR [116] (lF s (cH (.fn f x A B e) [] []) []):=Tx ..
 have Jk:(nV m s f x A B e).w.length<=11200:=by rw[Gz];exact Gx hs om sm
 have eR:bw e (ew (Ae s f x A B e))=some B:=by
  rw[<-x5.2]
  unfold Ae
  rw[D5]
  refine qi e _ _ λy Jl hy=>?_
  rw[oL,z6]
  by_cases e1:x=y
  ·rw[iP e1,iP e1]
  ·rw[iN e1,iN e1]
   by_cases e2:f=y
   ·have h0:0<jQ f e:=(adQ hf e).2 (e2▸hy)
    rw[iP e2,iP h0,D5,oL,iP e2]
   ·rw[iN e2]
    have TP:Fv y (.fn f x A B e):=⟨λe'=>e2 e'.symm,λe'=>e1 e'.symm,hy⟩
    have rM:y∈cH (.fn f x A B e) [] []:=(B3 y _ [] []).2 (.inr ⟨TP,sm⟩)
    have hl:look (ew (im s 3 (cH (.fn f x A B e) [] []) [])) y=look (ew s) y:=by
     rw[MV,MW rM,MX (pG ht TP)]
    split
    ·rw[D5,oL,iN e2,hl]
    ·exact hl
 have TQ:jS (Ae s f x A B e):=by
  unfold Ae
  split
  ·exact(Jj.snoc om AQ).snoc om hA
  ·exact Jj.snoc om hA
 have nD:5*(Ae s f x A B e).length+2*e.n<=240:=by
  unfold Ae
  rw[lA]
  split
  ·rw[lA,yi];simp only[lC,List.length_nil];omega
  ·rw[yi];simp only[lC,List.length_nil];omega
 refine⟨{ok:=he,type:=⟨B,eR⟩,sc:=TQ,bud:=nD,room:=?_,regs:=?_,loads:=?_,self:=?_,aV:=⟨B,hB,rfl⟩,on:=?_,aM:=AP hc},fl,x5.1⟩
 ·show 3+(cH (.fn f x A B e) [] []).length+8*e.n<=990
  omega
 ·intro r hr
  have rE:r∈[(nV m s f x A B e).w,bu A,dz (bu B)]:=hr
  simp only[mC,List.not_mem_nil,or_false] at rE
  rcases rE with rfl|rfl|rfl
  ·omega
  ·have:=pN hA;omega
  ·have:=tU hB;omega
 ·refine .inr ⟨tV s (cH (.fn f x A B e) [] []) none,?_,aeU _ _ _,?_⟩
  ·show some (nV m s f x A B e).w=_
   rw[Gz,<-Em];rfl
  ·rw[<-Em];exact Tv hs om sm
 ·show(if 0<jQ f e then[bu (.op true A B),(nV m s f x A B e).w] else[])=[]∨_
  by_cases h0:0<jQ f e
  ·refine .inr ⟨bu (.op true A B),(nV m s f x A B e).w,iP h0,om,Jk,rfl,λr hr=>?_⟩
   have rE:r∈[(nV m s f x A B e).w,bu A,dz (bu B)]:=hr
   simp only[mC,List.not_mem_nil,or_false] at rE
   rcases rE with rfl|rfl|rfl
   ·exact Jk
   ·have:=pN hA;omega
   ·have:=tU hB;omega
  ·exact .inl (iN h0)
 ·show(2:Nat)<1000;omega
theorem aeX {f x:ai} {A B:Ty} (hm:eY m) (hs:jS s) (ba:(Ex.fn f x A B e).ok) (ht:bw (.fn f x A B e) (ew s)=some T) (hb:5*s.length+2*(Ex.fn f x A B e).n<=240) (eR:m.types.length+4<1000) (hc:m.count<1000):
  Ext m (Ag m s f x A B e).1 4 [Af m s f x A B e]∧eY (Ag m s f x A B e).1∧(Ag m s f x A B e).2<1000∧od (Af m s f x A B e):=by
 obtain⟨hi,fl,AQ⟩:=TO (m:=m) hs ba ht hb hc
 obtain⟨_,_,_,hA,hB,_⟩:=ba
 have wT:(bu (.op true A B)).length<=256:=pN AQ
 have hp:Ext m.k7 (nV m s f x A B e).m 4 []:=TL
 have GA:eY m.k7:=⟨hm.types,hm.code⟩
 have qt:eY (nV m s f x A B e).m:=Tz GA hs om om sm (by have:=AP hc;omega) om sm (λy hy=>by
  simp only[mC,List.not_mem_nil,or_false] at hy
  rcases hy with rfl|rfl
  ·have:=pN hA;omega
  ·exact tU hB) eR
 have h1:(nV m s f x A B e).m.bF=m.bF:=by rw[hp.bF];simp[Mk.k7]
 have h2:(nV m s f x A B e).m.count=m.count+1:=by rw[hp.count];simp[Mk.k7]
 refine⟨⟨hp.blocks,?_,h2,hp.types,hp.code⟩,⟨qt.types,qt.code⟩,?_,hi⟩
 ·show(nV m s f x A B e).m.bF++[Af m s f x A B e]=m.bF++[Af m s f x A B e]
  rw[h1]
 ·show m.types.length+3<1000;omega
theorem aeY {m:Mk} {ton:Nat} {aV name:ai} {kind:Ty} {rest:Ex} (hs:jS s) (ky:AN aV) (wT:kind.n<=16) (ba:rest.ok) (ht:bw rest (ew s++[(name,kind)])=some T) (hb:5*(s.length+1)+2*rest.n<=240) (hc:m.count<1000):od (IV m s ton aV name kind rest)∧(cH rest [name] []).length<=34:=by
 obtain⟨O,hO,rfl⟩:=ky
 have sN:∀y,Fv y rest->y∉[name]->(look (ew s) y).isSome=true:=λy hy hn=>by
  have:=pG ht hy
  rw[oL,iN (λe=>hn (by rw[e];simp))] at this;exact this
 obtain⟨fl,iy⟩:=MY om sN
 have Jj:=TK hs 2 (cH rest [name] []) om
 have Gz:(nW m s ton (dz (bu O)) name kind rest).w=dR [116] (lF s (cH rest [name] []) (dz (bu O))):=Tx ..
 have Jk:(nW m s ton (dz (bu O)) name kind rest).w.length<=11200:=by rw[Gz];exact Gx hs om (tU hO)
 have eR:bw rest (ew (im s 2 (cH rest [name] []) []++[(name,1,kind)]))=some T:=by
  rw[<-ht,D5]
  refine qi rest _ _ λy Jl hy=>?_
  rw[oL,oL]
  by_cases e1:name=y
  ·rw[iP e1,iP e1]
  ·rw[iN e1,iN e1]
   have eK:y∉[name]:=λh=>e1 (by simpa using h:y=name).symm
   have rM:y∈cH rest [name] []:=(B3 y _ [name] []).2 (.inr ⟨hy,eK⟩)
   rw[MV,MW rM,MX (sN y hy eK)]
 refine⟨{ok:=ba,type:=⟨T,eR⟩,sc:=Jj.snoc om wT,bud:=?_,room:=?_,regs:=?_,loads:=?_,self:=.inl rfl,aV:=⟨O,hO,rfl⟩,on:=?_,aM:=AP hc},fl⟩
 ·show 5*(im s 2 (cH rest [name] []) []++[(name,1,kind)]).length+2*rest.n<=240
  rw[lA,yi];simp only[lC,List.length_nil];omega
 ·show 2+((cH rest [name] []).length+1)+8*rest.n<=990
  omega
 ·intro r hr
  have rE:r∈[(nW m s ton (dz (bu O)) name kind rest).w,bu kind]:=hr
  simp only[mC,List.not_mem_nil,or_false] at rE
  rcases rE with rfl|rfl
  ·omega
  ·have:=pN wT;omega
 ·refine .inr ⟨tV s (cH rest [name] []) (some O),?_,?_,?_⟩
  ·show some (nW m s ton (dz (bu O)) name kind rest).w=_
   rw[Gz,<-Em];rfl
  ·show(cH rest [name] []).length+1<=_
   unfold tV;rw[lA,List.length_map];simp
  ·rw[<-Em];exact Tv hs om (λT hT=>by cases hT;exact hO)
 ·show 2+(cH rest [name] []).length<1000;omega
theorem aeZ {ton:Nat} {aV name:ai} {kind:Ty} {rest:Ex} (hm:eY m) (hs:jS s) (rh:ton<1000) (ky:AN aV) (wT:kind.n<=16) (ba:rest.ok) (ht:bw rest (ew s++[(name,kind)])=some T) (hb:5*(s.length+1)+2*rest.n<=240) (eR:m.types.length+4<1000) (hc:m.count<1000):
  Ext m (tO m s ton aV name kind rest).1 4 [IV m s ton aV name kind rest]∧eY (tO m s ton aV name kind rest).1∧(tO m s ton aV name kind rest).2.1<1000∧AN (tO m s ton aV name kind rest).2.2∧od (IV m s ton aV name kind rest):=by
 obtain⟨hi,fl⟩:=aeY (m:=m) (ton:=ton) hs ky wT ba ht hb hc
 obtain⟨O,hO,rfl⟩:=ky
 have hp:Ext m.k7 (nW m s ton (dz (bu O)) name kind rest).m 4 []:=TL
 have GA:eY m.k7:=⟨hm.types,hm.code⟩
 have qt:eY (nW m s ton (dz (bu O)) name kind rest).m:=Tz GA hs rh om (tU hO) (by have:=AP hc;omega) (tU wT) sm (λy hy=>by
  simp only[List.mem_singleton] at hy
  rw[hy];have:=pN wT;omega) eR
 have h1:(nW m s ton (dz (bu O)) name kind rest).m.bF=m.bF:=by rw[hp.bF];simp[Mk.k7]
 have h2:(nW m s ton (dz (bu O)) name kind rest).m.count=m.count+1:=by rw[hp.count];simp[Mk.k7]
 refine⟨⟨hp.blocks,?_,h2,hp.types,hp.code⟩,⟨qt.types,qt.code⟩,?_,⟨kind,wT,rfl⟩,hi⟩
 ·show(nW m s ton (dz (bu O)) name kind rest).m.bF++[_]=m.bF++[_]
  rw[h1]
 ·show m.types.length+3<1000;omega
theorem GB (m:Mk) (k:ai):Ext m (m.cY k) 1 []:=⟨rfl,by simp[Mk.cY],rfl,by simp[Mk.cY],by simp[Mk.cY]⟩
theorem tW (m:Mk) (h:ai) (ps:List ai):Ext m (m.cA h ps) 1 []:=⟨rfl,by simp[Mk.cA],rfl,by simp[Mk.cA],by simp[Mk.cA]⟩
theorem yk (m:Mk) (k:ai):(m.cY k).types.length=m.types.length+1:=by simp[Mk.cY]
theorem oe (m:Mk) (h:ai) (ps:List ai):(m.cA h ps).types=m.types:=rfl
theorem nH {n:Nat} (h:n<1000):(aT n).length<=3:=sM h
theorem og {m:Mk} (h:eY m) {hd:ai} (hh:hd.length<=5) (hp:ps.length<=4) (hs:∀p,p∈ps->p.length<=300):eY (m.cA hd ps):=h.cA (by
 have h1:=AM (m:=300) ps hs
 have h2:ps.length*301<=4*301:=Nat.mul_le_mul hp (lR _)
 rw[lE];omega)
theorem En {s:ai} (h:dN s=true):s.length<=4:=by grind [dN]
def kD (ts:List Tk):Nat:=(ts.map λt=>t.expr.n+1).sum
theorem GC (a b:List Tk):kD (a++b)=kD a+kD b:=by grind [kD]
theorem MZ (t:Tk):kD [t]=t.expr.n+1:=by simp[kD]
theorem GD:kD []=0:=rfl
theorem TR {b:ai} (hm:eY m) (hs:jS s) (ha:a.length<=4) (hb:b.length<=4) (ht:m.types.length+1<1000):
  (Ext m (bT m s a).1 1 []∧eY (bT m s a).1∧(bT m s a).2<1000)∧Ext m (bT (bT m s a).1 s b).1 2 []∧eY (bT (bT m s a).1 s b).1∧(bT (bT m s a).1 s b).2<1000:=by
 have h1:=Gy hm hs ha om
 have h2:=Gy (m:=(bT m s a).1) (a:=b) h1.2.1 hs hb (by have:=h1.1.types;omega)
 exact⟨h1,h1.1.trans h2.1,h2.2⟩
structure TT (m m':Mk) (r:Nat) (n:Nat) (new:List Tk):Prop where
 ext:Ext m m' 4 new
 sml:eY m'
 cY:r<1000
 inv:∀k,k∈new->od k
 num:kD new+1<=n
theorem M0 (hm:eY m) (hs:jS s) (ba:e.ok) (ht:bw e (ew s)=some T) (hb:5*s.length+2*e.n<=240) (eR:m.types.length+8*e.n<=1000) (hc:m.count<1000):
  ∃new,TT m (mw m s T e).1 (mw m s T e).2 e.n new:=by
 have hT:=lv hs.types ht
 have hk:=pN hT
 have two:∀(h a b:ai),a.length<=4->b.length<=4->h.length<=5->m.types.length+8<=1000->∀n,1<=n->
   TT m (((bT (bT m s a).1 s b).1.cY (bu T)).cA h [aT (bT (bT m s a).1 s b).1.types.length,aT (bT m s a).2,aT (bT (bT m s a).1 s b).2]) (bT (bT m s a).1 s b).1.types.length n []:=by
  intro h a b ha hb hh h8 n hn
  obtain⟨⟨e1,_,r1⟩,e2,s2,r2⟩:=TR hm hs ha hb om
  have M1:=e2.types
  refine⟨(e2.trans ((GB _ _).trans (tW _ _ _))),og (s2.cY om) hh sm ?_,om,sm,by simp[GD];omega⟩
  intro p hp
  simp only[mC,List.not_mem_nil,or_false] at hp
  rcases hp with rfl|rfl|rfl
  ·have:=nH (n:=(bT (bT m s a).1 s b).1.types.length) om;omega
  ·have:=nH r1;omega
  ·have:=nH r2;omega
 cases e with
 |«at» a=>
  obtain⟨h1,h2,h3⟩:=Gy hm hs (MU ba) (by simp only[Ex.n] at eR;omega)
  exact⟨[],h1.more om,h2,h3,sm,by simp[GD,Ex.n]⟩
 |un h a=>
  simp only[Ex.n] at eR
  have yl:=a.pos
  obtain⟨h1,h2,h3⟩:=Gy hm hs (oc ba.2) om
  have M1:=h1.types
  refine⟨[],((h1.trans ((GB _ _).trans (tW _ _ _)))).more om,og (h2.cY om) sm sm ?_,?_,sm,by simp[GD,Ex.n]⟩
  ·intro p hp
   simp only[mC,List.not_mem_nil,or_false] at hp
   rcases hp with rfl|rfl|rfl
   ·have:=nH (n:=(bT m s a.aw).1.types.length) om;omega
   ·have:=nH h3;omega
   ·split<;>simp
  ·show(bT m s a.aw).1.types.length<1000;omega
 |bi h a b=>
  simp only[Ex.n] at eR
  have yl:=a.pos
  refine⟨[],two (qm h) a.aw b.aw (oc ba.2.1) (oc ba.2.2) ?_ om _ (Ex.pos _)⟩
  unfold qm;split
  ·simp
  ·split
   ·simp
   ·split<;>simp
 |ite a b c=>
  simp only[Ex.n] at eR
  exact⟨[],two (qm gj) a.aw b.aw (oc ba.1) (oc ba.2.1) de om _ (Ex.pos _)⟩
 |lt x a b=>
  simp only[Ex.n] at eR
  exact⟨[],two (qm fW) x a.aw (En ba.1) (oc ba.2.1) de om _ (Ex.pos _)⟩
 |fn f x A B e=>
  simp only[Ex.n] at eR
  obtain⟨h1,h2,h3,h4⟩:=aeX hm hs ba ht hb om hc
  refine⟨_,h1,h2,h3,λk hk=>by simp only[List.mem_singleton] at hk;rw[hk];exact h4,?_⟩
  rw[MZ];simp only[Af,Ex.n];omega
theorem TU (hm:eY m) {s:Nat} (hs:s<1000) (ht:m.types.length+3<1000):Ext m (sC m s) 6 []∧eY (sC m s)∧(sC m s).types.length=m.types.length+3:=by
 have h0:=nH hs
 have h1:=nH (n:=m.types.length) om
 have h2:=nH (n:=m.types.length+1) om
 have h3:=nH (n:=m.types.length+2) om
 unfold sC
 have z:([]:ai).length<=100000:=by simp
 refine⟨(GB _ _).trans ((tW _ _ _).trans ((GB _ _).trans ((tW _ _ _).trans ((GB _ _).trans (tW _ _ _))))),?_,by simp[Mk.cY,Mk.cA]⟩
 refine og (eY.cY (og (eY.cY (og (eY.cY hm z) sm sm ?_) z) sm sm ?_) z) sm sm ?_
 all_goals
  intro p hp
  simp only[mC,List.not_mem_nil,or_false] at hp
  rcases hp with rfl|rfl|rfl<;>first|omega|simp
theorem ae0 (hm:eY m) {f on:Nat} (hf:f<1000) (hx:x<1000) (ho:on<1000) (ht:m.types.length+3<1000):Ext m (xV m f x on) 10 []∧eY (xV m f x on):=by
 obtain⟨h1,h2,h3⟩:=TU hm hf ht
 have d1:=nH (n:=m.types.length+1) om
 have d2:=nH (n:=m.types.length+2) om
 have d3:=nH hx
 have d4:=nH ho
 unfold xV
 refine⟨h1.trans ((tW _ _ _).trans ((tW _ _ _).trans ((tW _ _ _).trans (tW _ _ _)))),?_⟩
 refine og (og (og (og h2 sm sm ?_) sm sm ?_) sm sm ?_) sm sm ?_
 all_goals
  intro p hp
  simp only[mC,List.not_mem_nil,or_false] at hp
  first
  |(rcases hp with rfl|rfl<;>first|omega|simp)
  |(rw[hp];omega)
theorem ae1 (hm:eY m) {on r:Nat} (ho:on<1000) (hr:r<1000) (ht:m.types.length+3<1000):Ext m (xW m on r) 10 []∧eY (xW m on r):=by
 obtain⟨h1,h2,h3⟩:=TU hm ho ht
 have d1:=nH (n:=m.types.length+1) om
 have d2:=nH (n:=m.types.length+2) om
 have d3:=nH hr
 unfold xW
 refine⟨(h1.trans ((tW _ _ _).trans ((tW _ _ _).trans (tW _ _ _)))).more om,?_⟩
 refine og (og (og h2 sm sm ?_) sm sm ?_) sm sm ?_
 all_goals
  intro p hp
  simp only[mC,List.not_mem_nil,or_false] at hp
  first
  |(rcases hp with rfl|rfl<;>first|omega|simp)
  |(rw[hp];omega)
structure nI (m:Mk) (s:cD) (on:Nat) (aV:ai) (e:Ex):Prop where
 sml:eY m
 sc:jS s
 ok:e.ok
 type:∃T,bw e (ew s)=some T
 bud:5*s.length+2*e.n<=240
 room:m.types.length+8*e.n<=1000
 on:on<1000
 aV:AN aV
 cnt:m.count+e.n<=900
structure vq (m:Mk) (s:cD) (on:Nat) (aV:ai) (e:Ex) (T:Ty):Prop where
 ok:(bD e).s.ok
 type:bw (bD e).s (ew s)=some T
 small:T.n<=16
 nv:nv s (bD e).s=T
 le:(bD e).s.n<=e.n
 last:(bD e).name=[]->(bD e).s=e
 rest:(bD e).name≠[]->dN (bD e).name=true∧(bD e).rest.ok∧(∃U,bw (bD e).rest (ew s++[((bD e).name,T)])=some U)∧(bD e).s.n+(bD e).rest.n+2<=e.n
theorem nI.goal {on:Nat} {aV:ai} (h:nI m s on aV e):∃T,vq m s on aV e T:=by
 obtain⟨T,hT⟩:=h.type
 have same:bD e=⟨[],e,e⟩->∃T,vq m s on aV e T:=λhg=>by
  refine⟨T,?_,?_,lv h.sc.types hT,?_,?_,?_,?_⟩
  ·rw[hg];exact h.ok
  ·rw[hg];exact hT
  ·rw[hg];unfold nv;rw[hT];rfl
  ·rw[hg];exact lR _
  ·intro _;rw[hg]
  ·intro hn;rw[hg] at hn;exact absurd rfl hn
 have ba:=h.ok
 cases e with
 |lt x a b=>
  unfold bw at hT
  cases ha:bw a (ew s) with
  |none=>rw[ha] at hT;cases hT
  |some A=>
   rw[ha,Option.bind_some] at hT
   refine⟨A,ba.2.1,ha,lv h.sc.types ha,by show(bw a (ew s)).getD .i=A;rw[ha];rfl,by simp only[bD,Ex.n];omega,λhn=>absurd hn (uX ba.1),λ_=>⟨ba.1,ba.2.2,⟨T,hT⟩,by simp only[bD,Ex.n];omega⟩⟩
 |«at» a=>exact same rfl
 |un a b=>exact same rfl
 |bi a b c=>exact same rfl
 |ite a b c=>exact same rfl
 |fn a b c d f=>exact same rfl
def eF (m:Mk) (s:cD) (on:Nat) (aV name:ai) (kind:Ty) (rest:Ex):Mk×Nat×ai:=if name≠[] then tO m s on aV name kind rest else(m,on,aV)
structure Cut (m m':Mk) (on':Nat) (onOf':ai) (n:Nat) (new:List Tk):Prop where
 ext:Ext m m' 4 new
 sml:eY m'
 on:on'<1000
 aV:AN onOf'
 inv:∀k,k∈new->od k
 num:kD new<=n
theorem TV {m0:Mk} {on:Nat} {aV:ai} (h:nI m0 s on aV e) (g:vq m0 s on aV e T) (hm:eY m) (eR:m.types.length+4<1000) (hc:m.count<1000) (h3:2<=(bD e).s.n):
  ∃new,Cut m (eF m s on aV (bD e).name T (bD e).rest).1 (eF m s on aV (bD e).name T (bD e).rest).2.1 (eF m s on aV (bD e).name T (bD e).rest).2.2 (e.n-(bD e).s.n) new:=by
 by_cases hn:(bD e).name=[]
 ·unfold eF
  rw[iN (by simp[hn])]
  exact⟨[],(Ext.refl m).more om,hm,h.on,h.aV,sm,by simp[GD]⟩
 ·unfold eF
  rw[iP hn]
  obtain⟨eK,GF,⟨U,hU⟩,rN⟩:=g.rest hn
  have hb:=h.bud
  obtain⟨h1,h2,h3,h4,h5⟩:=aeZ (name:=(bD e).name) hm h.sc h.on h.aV g.small GF hU om eR hc
  refine⟨_,h1,h2,h3,h4,λk hk=>by simp only[List.mem_singleton] at hk;rw[hk];exact h5,?_⟩
  rw[MZ]
  show(bD e).rest.n+1<=_
  omega
structure Fin (m m':Mk) (n:Nat) (new:List Tk):Prop where
 ext:Ext m m' 20 new
 sml:eY m'
 inv:∀k,k∈new->od k
 num:kD new+1<=n
structure On (m m':Mk) (s:cD) (on:Nat) (aV:ai) (n:Nat) (r:Ex) (new:List Tk):Prop where
 ext:Ext m m' 20 new
 inv:nI m' s on aV r
 bF:∀k,k∈new->od k
 num:kD new+r.n+1<=n
theorem ae2 {on:Nat} {aV:ai} (h:nI m s on aV e) (g:vq m s on aV e T) (hn:(bD e).name=[]):
  ∃new,Fin m (xW (mw m s T (bD e).s).1 on (mw m s T (bD e).s).2) e.n new:=by
 have hr:=h.room
 have hc:=h.cnt
 have hp:=(bD e).s.pos
 have hle:=g.le
 obtain⟨new,hP⟩:=M0 h.sml h.sc g.ok g.type (by have:=h.bud;omega) om om
 have ht:=hP.ext.types
 obtain⟨h1,h2⟩:=ae1 hP.sml h.on hP.cY om
 exact⟨new,by have:=hP.ext.trans h1;rw[List.append_nil] at this;exact this.more om,h2,hP.inv,by have:=hP.num;omega⟩
theorem TW {on:Nat} {aV:ai} (h:nI m s on aV e) (g:vq m s on aV e T) (hn:(bD e).name≠[]):
  ∃new,On m (mw m s T (bD e).s).1 (s++[((bD e).name,(mw m s T (bD e).s).2,T)]) on aV e.n (bD e).rest new:=by
 have hr:=h.room
 have hc:=h.cnt
 have hp:=(bD e).s.pos
 have hle:=g.le
 obtain⟨eK,GF,⟨U,hU⟩,rN⟩:=g.rest hn
 obtain⟨new,hP⟩:=M0 h.sml h.sc g.ok g.type (by have:=h.bud;omega) om om
 have ht:=hP.ext.types
 have hct:=hP.ext.count
 have Jm:=hP.num
 have hlen:new.length<=kD new:=by
  unfold kD
  clear hP hct Jm
  induction new with
  |nil=>simp
  |cons t l ih=>simp only[lC,List.map_cons,List.sum_cons];omega
 refine⟨new,hP.ext.more om,⟨hP.sml,h.sc.snoc hP.cY g.small,GF,⟨U,by rw[D5];exact hU⟩,?_,om,h.on,h.aV,om⟩,hP.inv,om⟩
 have:=h.bud
 simp only[lA,lC,List.length_nil];omega
theorem ae4 {on:Nat} {aV:ai} {f x:Ex} (h:nI m s on aV e) (g:vq m s on aV e T) (hs:(bD e).s= .bi j4 f x):
  ∃new,Cut (bT (bT m s f.aw).1 s x.aw).1 (eF (bT (bT m s f.aw).1 s x.aw).1 s on aV (bD e).name T (bD e).rest).1 (eF (bT (bT m s f.aw).1 s x.aw).1 s on aV (bD e).name T (bD e).rest).2.1 (eF (bT (bT m s f.aw).1 s x.aw).1 s on aV (bD e).name T (bD e).rest).2.2 (e.n-3) new∧
   Fin m (xV (eF (bT (bT m s f.aw).1 s x.aw).1 s on aV (bD e).name T (bD e).rest).1 (bT m s f.aw).2 (bT (bT m s f.aw).1 s x.aw).2 (eF (bT (bT m s f.aw).1 s x.aw).1 s on aV (bD e).name T (bD e).rest).2.1) e.n new:=by
 have ba:=g.ok
 rw[hs] at ba
 have hr:=h.room
 have hc:=h.cnt
 have hle:=g.le
 have M3:3<=(bD e).s.n:=by rw[hs];simp only[Ex.n];have:=f.pos;have:=x.pos;omega
 obtain⟨⟨e1,s1,r1⟩,e2,s2,r2⟩:=TR h.sml h.sc (oc ba.2.1) (oc ba.2.2) om
 have t2:=e2.types
 have c2:=e2.count
 simp only[List.length_nil] at c2
 obtain⟨new,hC⟩:=TV h g s2 om om om
 have t3:=hC.ext.types
 obtain⟨h1,h2⟩:=ae0 hC.sml r1 r2 hC.on om
 refine⟨new,⟨hC.ext,hC.sml,hC.on,hC.aV,hC.inv,by have:=hC.num;omega⟩,?_,h2,hC.inv,by have:=hC.num;omega⟩
 have:=(e2.trans hC.ext).trans h1
 rw[List.append_nil,List.nil_append] at this;exact this.more om
def M4 (m:Mk) (s:cD) (on:Nat) (aV:ai) (x:Ex):Tk:=⟨m.aM,m.types,0,[],s,x,on,aV,m.types.length⟩
def GG (m:Mk) (s:cD) (on:Nat) (aV:ai) (r:Nat) (x:Ex):Mk:={(m.k7.cA F9 [aT r,m.aM]) with bF:=m.bF++[M4 m s on aV x]}
theorem TX {on:Nat} {aV:ai} {c x y:Ex} (h:nI m s on aV e) (g:vq m s on aV e T) (hs:(bD e).s= .ite c x y):
  ∃new ym,Cut (bT m s c.aw).1 (eF (bT m s c.aw).1 s on aV (bD e).name T (bD e).rest).1 (eF (bT m s c.aw).1 s on aV (bD e).name T (bD e).rest).2.1 (eF (bT m s c.aw).1 s on aV (bD e).name T (bD e).rest).2.2 (e.n-(bD e).s.n) new∧
   On m (GG (eF (bT m s c.aw).1 s on aV (bD e).name T (bD e).rest).1 s (eF (bT m s c.aw).1 s on aV (bD e).name T (bD e).rest).2.1 (eF (bT m s c.aw).1 s on aV (bD e).name T (bD e).rest).2.2 (bT m s c.aw).2 x) s
    (eF (bT m s c.aw).1 s on aV (bD e).name T (bD e).rest).2.1 (eF (bT m s c.aw).1 s on aV (bD e).name T (bD e).rest).2.2 e.n y ym:=by
 have ba:=g.ok
 have eR:=g.type
 rw[hs] at ba eR
 have hr:=h.room
 have hc:=h.cnt
 have hle:=g.le
 have hb:=h.bud
 have hcp:=c.pos
 have M3:(bD e).s.n=1+c.n+x.n+y.n:=by rw[hs];rfl
 have hxp:=x.pos
 have hyp:=y.pos
 obtain⟨e1,s1,r1⟩:=Gy h.sml h.sc (oc ba.1) om
 have t1:=e1.types
 have c1:=e1.count
 simp only[List.length_nil] at c1
 obtain⟨new,hC⟩:=TV h g s1 om om om
 generalize eF (bT m s c.aw).1 s on aV (bD e).name T (bD e).rest=Q at hC⊢
 obtain⟨m2,yn,TZ⟩:=Q
 dsimp only at hC⊢
 have t3:=hC.ext.types
 have c3:=hC.ext.count
 have Jm:=hC.num
 have hlen:new.length<=kD new:=by
  unfold kD
  clear hC c3 Jm t3
  induction new with
  |nil=>simp
  |cons t l ih=>simp only[lC,List.map_cons,List.sum_cons];omega
 have hl:=AP (m:=m2) om
 have tys:(∃X,bw x (ew s)=some X)∧∃Y,bw y (ew s)=some Y:=by
  unfold bw at eR
  cases h1:bw c (ew s) with
  |none=>rw[h1] at eR;cases eR
  |some A=>
   cases h2:bw x (ew s) with
   |none=>rw[h1,h2] at eR;cases eR
   |some B=>
    cases h3:bw y (ew s) with
    |none=>rw[h1,h2,h3] at eR;cases eR
    |some D=>exact⟨⟨B,rfl⟩,⟨D,rfl⟩⟩
 have oh:od (M4 m2 s yn TZ x):=
  ⟨ba.2.1,tys.1,h.sc,by show 5*s.length+2*x.n<=240;omega,by show m2.types.length+0+8*x.n<=990;omega,hC.sml.types,.inl rfl,.inl rfl,hC.aV,hC.on,hl⟩
 refine⟨new,new++[M4 m2 s yn TZ x],hC,⟨?_,⟨?_,h.sc,ba.2.2,tys.2,om,?_,hC.on,hC.aV,?_⟩,?_,?_⟩⟩
 ·have he:=e1.trans hC.ext
  rw[List.nil_append] at he
  refine⟨he.blocks,?_,?_,?_,?_⟩
  ·show m2.bF++[_]=_
   rw[he.bF,List.append_assoc]
  ·show m2.count+1=_
   rw[he.count,lA];simp;omega
  ·have:=he.types;exact⟨this.1,by show m2.types.length<=_;omega⟩
  ·have:=he.code
   show(m2.code++[_]).length<=_
   simp only[lA,lC,List.length_nil];omega
 ·have:=og (m:=m2.k7) (hd:=F9) (ps:=[aT (bT m s c.aw).2,m2.aM]) ⟨hC.sml.types,hC.sml.code⟩ de sm (λp hp=>by
   simp only[mC,List.not_mem_nil,or_false] at hp
   rcases hp with rfl|rfl
   ·have:=nH r1;omega
   ·omega)
  exact⟨this.types,this.code⟩
 ·show m2.types.length+_<=_;omega
 ·show m2.count+1+_<=_;omega
 ·intro k hk
  rcases mA.1 hk with hk|hk
  ·exact hC.inv k hk
  ·simp only[List.mem_singleton] at hk;rw[hk];exact oh
 ·rw[GC,MZ]
  show _+(x.n+1)+_+1<=_
  omega
def o4 (m:Mk) (ts:List aq):Nat->Mk
 |0=>m
 |k+1=>((o4 m ts k).cY (nth ts k).text).cA sB [aT (o4 m ts k).types.length,[48],aT k]
def AR (m:Mk) (aM:ai) (regs:List ai) (a b:ai):Mk:=
 let code:=dR [99] regs
 let r:=m.types.length
 (((((m.cY code).cA sy [aT r,aM]).cY (dR [116] [code,b])).cA lx [aT (r+1),aT r,[48]]).cY a).cA sA [aT (r+2),aT (r+1),a,b]
def nJ (m:Mk) (regs:List ai):Mk:={m with code:=[],types:=regs}
def Jn (m:Mk) (t:Tk):Mk:=match t.self with
 |[a,b]=>AR m t.aM t.regs a b
 |_=>m
def mF (t:Tk):List aq:=match bA (t.regs.getD 0 [105]) with
 |some x=>x.ak.drop 1
 |none=>[]
def qu (m:Mk) (t:Tk):Mk:=Jn (o4 (nJ m t.regs) (mF t) t.loads) t
theorem M6 {t:Tk} (h:t.regs.head?=some (dR [116] (ts.map aq.text))) (hp:bA (dR [116] (ts.map aq.text))=some (wm [116] ts)):mF t=ts∧bA (t.regs.getD 0 [105])=some (wm [116] ts):=by
 have e:t.regs.getD 0 [105]=dR [116] (ts.map aq.text):=by
  cases hr:t.regs with
  |nil=>rw[hr] at h;cases h
  |cons a l=>rw[hr] at h;simpa using h
 unfold mF
 rw[e,hp]
 exact⟨rfl,rfl⟩
structure Cq (m m':Mk) (regs:List ai) (k:Nat):Prop where
 blocks:m'.blocks=m.blocks
 bF:m'.bF=m.bF
 count:m'.count=m.count
 types:m'.types.length=regs.length+k
 code:m'.code.length<=k
 sml:eY m'
theorem M7 {regs:List ai} (h:∀r,r∈regs->r.length<=100000):Cq m (nJ m regs) regs 0:=⟨rfl,rfl,rfl,rfl,by simp[nJ],⟨h,by simp[nJ]⟩⟩
theorem M8 {m:Mk} {regs:List ai} (h:∀r,r∈regs->r.length<=100000) (lD:∀t,t∈ts->t.text.length<=100000):∀k,regs.length+k<1000->k<=ts.length->Cq m (o4 (nJ m regs) ts k) regs k
 |0,_,_=>M7 h
 |k+1,hk,hl=>by
  have ih:=M8 (m:=m) h lD k om om
  have d1:=nH (n:=(o4 (nJ m regs) ts k).types.length) (by rw[ih.types];omega)
  have d2:=nH (n:=k) om
  refine⟨ih.blocks,ih.bF,ih.count,by show(((o4 (nJ m regs) ts k).types++[_])).length=_;rw[lA,ih.types];rfl,?_,?_⟩
  ·show((o4 (nJ m regs) ts k).code++[_]).length<=_
   have:=ih.code
   rw[lA];simp;omega
  ·refine og (ih.sml.cY ?_) sm sm ?_
   ·have:=lD (nth ts k) (by unfold nth;rw[gG,gE om];exact List.getElem_mem _)
    omega
   ·intro p hp
    simp only[mC,List.not_mem_nil,or_false] at hp
    rcases hp with rfl|rfl|rfl
    ·omega
    ·simp
    ·omega
theorem T0 {regs:List ai} (h3:regs.length=3) (h:∀r,r∈regs->r.length<=11200):(dR [99] regs).length<=33610:=by
 have h1:=AM (m:=11200) regs h
 rw[h3] at h1
 rw[lE]
 simp only[lC,List.length_nil];omega
theorem ae5 (a b c d:ai):ju [a,b,c,d]=4+a.length+b.length+c.length+d.length:=by simp[ju];omega
theorem ae6 (hm:eY m) {aM:ai} (hl:aM.length<=4) {regs:List ai} (h3:regs.length=3) (h:∀r,r∈regs->r.length<=11200) {b:ai} (ha:a.length<=272) (hb:b.length<=11200) (ht:m.types.length+3<1000):eY (AR m aM regs a b):=by grind [T0,nH,cS.length,dR,lE,AO,AR,eY.cA,eY.cY,og,ae5]
theorem ae7 {m':Mk} {regs:List ai} (h:Cq m m' regs k) (aM a b:ai) (hs:eY (AR m' aM regs a b)):Cq m (AR m' aM regs a b) regs (k+3):=
 ⟨h.blocks,h.bF,h.count,by have:=h.types;simp[AR,Mk.cY,Mk.cA];omega,by have:=h.code;simp[AR,Mk.cY,Mk.cA];omega,hs⟩
theorem T1 {s:ai} (h:s∈ps):s.length<=ju ps:=by
 unfold ju
 have:∀{xs:List ai},s∈xs->s.length<=(xs.map List.length).sum:=by
  intro xs
  induction xs with
  |nil=>intro h;cases h
  |cons x xs ih=>
   intro h
   rw[List.map_cons,List.sum_cons]
   rcases mC.1 h with rfl|h
   ·omega
   ·have:=ih h;omega
 have:=this h;omega
theorem M9 {m:Mk} {t:Tk} (h:od t):Cq m (qu m t) t.regs (t.loads+(if t.self=[] then 0 else 3)):=by
 have hr:=h.room
 have hp:=t.expr.pos
 have h1:Cq m (o4 (nJ m t.regs) (mF t) t.loads) t.regs t.loads:=by
  rcases h.loads with h0|⟨ts,hh,hl,GH⟩
  ·rw[h0];exact M7 h.regs
  ·obtain⟨e1,_⟩:=M6 hh GH
   rw[e1]
   refine M8 h.regs (λx hx=>?_) _ om hl
   have h2:=h.regs _ (List.mem_of_mem_head? hh)
   rw[lE] at h2
   have:=T1 (List.mem_map_of_mem (f:=aq.text) hx)
   omega
 unfold qu Jn
 rcases h.self with h0|⟨a,b,hs,ha,hb,h3,hl⟩
 ·rw[h0,iP rfl];exact h1
 ·rw[hs,iN sm]
  refine ae7 h1 _ _ _ (ae6 h1.sml h.aM h3 hl ha hb ?_)
  rw[h1.types];omega
theorem T2 {t:Tk} (h:od t) (hc:m.count+t.expr.n<=900):nI (qu m t) t.sc t.on t.aV t.expr:=by
 have hb:=M9 (m:=m) h
 have hr:=h.room
 refine⟨hb.sml,h.sc,h.ok,h.type,h.bud,?_,h.on,h.aV,by rw[hb.count];exact hc⟩
 rw[hb.types]
 split<;>omega
/-! ### A block's body -/
def l4:Nat->At->Ex->Mk
 |0,a,_=>a.m
 |k+1,a,e=>match j6 a e with
  | .inl m=>m
  | .inr p=>l4 k p.1 p.2
theorem Jo (m:Mk) (s:cD) (on:Nat) (aV:ai) (g:Goal):IW ⟨m,s,on,aV⟩ g=⟨(eF m s on aV g.name (nv s g.s) g.rest).1,s,(eF m s on aV g.name (nv s g.s) g.rest).2.1,(eF m s on aV g.name (nv s g.s) g.rest).2.2⟩:=by
 unfold IW eF
 split<;>rfl
theorem T3 {on:Nat} {aV:ai} (h:nI m s on aV e):match j6 ⟨m,s,on,aV⟩ e with
  | .inl m'=>∃new,Fin m m' e.n new
  | .inr p=>∃new,On m p.1.m p.1.s p.1.on p.1.aV e.n p.2 new:=by
 obtain⟨T,g⟩:=h.goal
 have hY:=g.nv
 have simple:j6 ⟨m,s,on,aV⟩ e=(if(bD e).name=[] then .inl (xW (mw m s (nv s (bD e).s) (bD e).s).1 on (mw m s (nv s (bD e).s) (bD e).s).2) else .inr (⟨(mw m s (nv s (bD e).s) (bD e).s).1,s++[((bD e).name,(mw m s (nv s (bD e).s) (bD e).s).2,nv s (bD e).s)],on,aV⟩,(bD e).rest))->
   match j6 ⟨m,s,on,aV⟩ e with
   | .inl m'=>∃new,Fin m m' e.n new
   | .inr p=>∃new,On m p.1.m p.1.s p.1.on p.1.aV e.n p.2 new:=λhs=>by
  rw[hs,hY]
  by_cases hn:(bD e).name=[]
  ·rw[iP hn];exact ae2 h g hn
  ·rw[iN hn];exact TW h g hn
 cases hg:(bD e).s with
 |«at» a=>exact simple (by unfold j6;simp only[hg])
 |un a b=>exact simple (by unfold j6;simp only[hg])
 |lt a b c=>exact simple (by unfold j6;simp only[hg])
 |fn a b c d f=>exact simple (by unfold j6;simp only[hg])
 |bi hd f x=>
  by_cases hc:hd=j4
  ·subst hc
   have hs:j6 ⟨m,s,on,aV⟩ e= .inl (xV (eF (bT (bT m s f.aw).1 s x.aw).1 s on aV (bD e).name T (bD e).rest).1 (bT m s f.aw).2 (bT (bT m s f.aw).1 s x.aw).2 (eF (bT (bT m s f.aw).1 s x.aw).1 s on aV (bD e).name T (bD e).rest).2.1):=by
    unfold j6
    simp only[hg,if_true,Jo]
    rw[<-hg,hY]
   rw[hs]
   obtain⟨new,_,hF⟩:=ae4 h g hg
   exact⟨new,hF⟩
  ·exact simple (by unfold j6;simp only[hg,iN hc])
 |ite c x y=>
  have hs:j6 ⟨m,s,on,aV⟩ e= .inr (⟨GG (eF (bT m s c.aw).1 s on aV (bD e).name T (bD e).rest).1 s (eF (bT m s c.aw).1 s on aV (bD e).name T (bD e).rest).2.1 (eF (bT m s c.aw).1 s on aV (bD e).name T (bD e).rest).2.2 (bT m s c.aw).2 x,s,
    (eF (bT m s c.aw).1 s on aV (bD e).name T (bD e).rest).2.1,(eF (bT m s c.aw).1 s on aV (bD e).name T (bD e).rest).2.2⟩,y):=by
   unfold j6
   simp only[hg,Jo]
   rw[<-hg,hY];rfl
  rw[hs]
  obtain⟨_,new,_,hO⟩:=TX h g hg
  exact⟨new,hO⟩
structure wU (m m':Mk) (s:cD) (on:Nat) (aV:ai) (n k:Nat) (r:Ex) (new:List Tk):Prop where
 ext:Ext m m' k new
 inv:nI m' s on aV r
 bF:∀k,k∈new->od k
 num:kD new+r.n<=n
 steps:k+20*r.n<=20*n
theorem wU.start {on:Nat} {aV:ai} (h:nI m s on aV e):wU m m s on aV e.n 0 e []:=⟨Ext.refl m,h,sm,by simp[GD],om⟩
theorem wU.step {s2:cD} {on yn:Nat} {aV Eo:ai} {r r2:Ex} {new ym:List Tk} (h:wU m m1 s on aV n k r new) (h2:On m1 m2 s2 yn Eo r.n r2 ym):wU m m2 s2 yn Eo n (k+20) r2 (new++ym):=
 ⟨h.ext.trans h2.ext,h2.inv,λt ht=>by rcases mA.1 ht with ht|ht;exact h.bF t ht;exact h2.bF t ht,by rw[GC];have:=h.num;have:=h2.num;omega,by have:=h.steps;have:=h2.num;omega⟩
structure Na (m m':Mk) (n:Nat) (new:List Tk):Prop where
 ext:Ext m m' (20*n) new
 sml:eY m'
 inv:∀k,k∈new->od k
 num:kD new+1<=n
theorem wU.fin {on:Nat} {aV:ai} {r:Ex} {new ym:List Tk} (h:wU m m1 s on aV n k r new) (h2:Fin m1 m2 r.n ym):Na m m2 n (new++ym):=by
 have h3:=h.steps
 have h4:=r.pos
 refine⟨(h.ext.trans h2.ext).more om,h2.sml,λt ht=>?_,by rw[GC];have:=h.num;have:=h2.num;omega⟩
 rcases mA.1 ht with ht|ht
 ·exact h.bF t ht
 ·exact h2.inv t ht
theorem Jp:∀(k:Nat) {m:Mk} {s:cD} {on:Nat} {aV:ai} {e:Ex},nI m s on aV e->e.n<=k->∃new,Na m (l4 k ⟨m,s,on,aV⟩ e) e.n new
 |0,_,_,_,_,e,_,hk=>absurd hk (by have:=e.pos;omega)
 |k+1,m,s,on,aV,e,h,hk=>by
  have h1:=T3 h
  unfold l4
  cases hs:j6 ⟨m,s,on,aV⟩ e with
  |inl m'=>
   rw[hs] at h1
   obtain⟨new,h1⟩:=h1
   exact⟨_,(wU.start h).fin h1⟩
  |inr p=>
   rw[hs] at h1
   obtain⟨⟨m1,s1,vu,ae8⟩,e1⟩:=p
   obtain⟨new,h1⟩:=h1
   dsimp only at h1⊢
   obtain⟨ym,h2⟩:=Jp k h1.inv (by have:=h1.num;omega)
   have h3:=h1.num
   refine⟨new++ym,(h1.ext.trans h2.ext).more om,h2.sml,λt ht=>?_,by rw[GC];have:=h2.num;omega⟩
   rcases mA.1 ht with ht|ht
   ·exact h1.bF t ht
   ·exact h2.inv t ht
theorem ae9:∀(k:Nat) {m:Mk} {s:cD} {on:Nat} {aV:ai} {e:Ex},nI m s on aV e->e.n<=k->l4 k ⟨m,s,on,aV⟩ e=l4 e.n ⟨m,s,on,aV⟩ e:=by
 have key:∀(k j:Nat) {m:Mk} {s:cD} {on:Nat} {aV:ai} {e:Ex},nI m s on aV e->e.n<=k->e.n<=j->l4 k ⟨m,s,on,aV⟩ e=l4 j ⟨m,s,on,aV⟩ e:=by
  intro k
  induction k with
  |zero=>intro j _ _ _ _ e _ hk;have:=e.pos;omega
  |succ k ih=>
   intro j m s on aV e h hk hj
   cases j with
   |zero=>have:=e.pos;omega
   |succ j=>
    have h1:=T3 h
    unfold l4
    cases hs:j6 ⟨m,s,on,aV⟩ e with
    |inl m'=>rfl
    |inr p=>
     rw[hs] at h1
     obtain⟨⟨m1,s1,vu,ae8⟩,e1⟩:=p
     obtain⟨new,h1⟩:=h1
     dsimp only at h1⊢
     have h3:=h1.num
     exact ih j h1.inv om om
 exact λk m s on aV e h hk=>key k e.n h hk (lR _)
/-! ### A program -/
def Cr (m:Mk) (aM:ai) (regs:List ai):Mk:={m with blocks:=m.blocks++[⟨aM,regs,m.code⟩]}
abbrev sT:ai:=[40,116,41]
def sO (T:Ty):Mk:=
 let on:=dz (bu T)
 let code:=dR [99] [sT,bu T]
 ((((⟨[],[],0,false,[],[sT,code,dR [116] [code,sT],on]⟩:Mk).cA lx [[48]]).cA sy [[49],Ad]).cA lx [[50],[49],[48]]).cA sA [[51],[50],on,sT]
def GI (e:Ex) (T:Ty):Tk:=⟨B5,[],0,[],[],e,3,dz (bu T),0⟩
def rO (e:Ex) (T:Ty):Mk:=l4 e.n ⟨sO T,[],3,dz (bu T)⟩ e
def Cs (e:Ex) (T:Ty):Mk:=Cr {(Cr (rO e T) B5 []) with code:=[[40,104,97,108,116,32,49,41]]} Ad [sT,bu T]
def Ep (m:Mk) (t:Tk):Mk:=Cr (l4 t.expr.n ⟨qu m t,t.sc,t.on,t.aV⟩ t.expr) t.aM t.regs
def gK (ts:List Tk) (i:Nat):Tk:=ts.getD i ⟨[],[],0,[],[],.at [],0,[],0⟩
def yo:Nat->Mk->Nat->Mk
 |0,m,_=>m
 |k+1,m,i=>if i<m.bF.length then yo k (Ep m (gK m.bF i)) (i+1) else m
def ofM (e:Ex) (T:Ty):Mk:=yo 1000 (Cs e T) 0
structure rP (m:Mk) (i:Nat):Prop where
 le:i<=m.bF.length
 count:m.count=m.bF.length
 num:i+kD (m.bF.drop i)<=120
 inv:∀t,t∈m.bF.drop i->od t
 tF:∀b,b∈m.blocks->b.small∧b.aM.length<=10
 bnum:m.blocks.length=i+2
theorem T4 (ba:e.ok) (ht:bw e []=some T) (hn:e.n<=120):nI (sO T) [] 3 (dz (bu T)) e:=by
 have hT:=lv (Γ:=[]) (λs T h=>by simp[look] at h) ht
 have h1:=pN hT
 have h2:=tU hT
 have hc:(dR [99] [sT,bu T]).length<=300:=by rw[lE,AO];simp only[lC,List.length_nil];omega
 have ho:AN (dz (bu T)):=⟨T,hT,rfl⟩
 refine⟨?_,⟨λs T h=>by simp[ew,look] at h,sm⟩,ba,⟨T,ht⟩,by simp;omega,by simp[sO,Mk.cA];omega,om,ho,by simp[sO,Mk.cA];omega⟩
 unfold sO
 refine og (og (og (og ⟨?_,sm⟩ sm sm ?_) sm sm ?_) sm sm ?_) sm sm ?_
 ·intro s hs
  simp only[mC,List.not_mem_nil,or_false] at hs
  rcases hs with rfl|rfl|rfl|rfl
  ·simp
  ·omega
  ·rw[lE,AO];simp only[lC,List.length_nil];omega
  ·omega
 all_goals
  intro p hp
  simp only[mC,List.not_mem_nil,or_false] at hp
  first
  |(rcases hp with rfl|rfl|rfl|rfl<;>first|omega|simp)
  |(rcases hp with rfl|rfl|rfl<;>first|omega|simp)
  |(rcases hp with rfl|rfl<;>first|omega|simp)
  |(rw[hp];simp)
theorem T5 (ba:e.ok) (ht:bw e []=some T) (hn:e.n<=120):∃new,Na (sO T) (rO e T) e.n new:=Jp _ (T4 ba ht hn) (lR _)
theorem T6 (ts:List Tk):ts.length<=kD ts:=by induction ts<;>grind [kD]
theorem afa (m:Mk) (l:ai) (r:List ai):(Cr m l r).blocks=m.blocks++[⟨l,r,m.code⟩]:=rfl
theorem Nb (ba:e.ok) (ht:bw e []=some T) (hn:e.n<=120):rP (Cs e T) 0:=by
 obtain⟨new,h⟩:=T5 ba ht hn
 have h1:=h.ext.bF
 have h2:=h.ext.count
 have h3:=h.num
 have h4:=h.ext.code
 have h5:=h.ext.blocks
 have hb:(Cs e T).blocks=[⟨B5,[],(rO e T).code⟩,⟨Ad,[sT,bu T],[[40,104,97,108,116,32,49,41]]⟩]:=by
  unfold Cs
  rw[afa]
  show(rO e T).blocks++_++_=_
  rw[h5];rfl
 have nP:(Cs e T).bF=new:=by
  show(rO e T).bF=new
  rw[h1];rfl
 refine⟨Nat.zero_le _,?_,?_,?_,?_,by rw[hb];rfl⟩
 ·rw[nP]
  show(rO e T).count=_
  rw[h2];simp[sO,Mk.cA]
 ·rw[nP,List.drop_zero];omega
 ·rw[nP,List.drop_zero];exact h.inv
 ·intro b fH
  rw[hb] at fH
  have h6:(sO T).code.length=4:=rfl
  simp only[mC,List.not_mem_nil,or_false] at fH
  rcases fH with rfl|rfl
  ·exact⟨⟨by simp,sm,by show(rO e T).code.length<_;omega⟩,sm⟩
  ·exact⟨⟨by simp,sm,sm⟩,sm⟩
theorem Jq {ts:List Tk} (hi:i<ts.length):ts.drop i=gK ts i::ts.drop (i+1):=by simp_all[gK]
theorem rP.task (h:rP m i) (hi:i<m.bF.length):od (gK m.bF i)∧m.count+(gK m.bF i).expr.n<=900∧m.bF.length<=120:=by
 have h1:=h.num
 have hl:=T6 (m.bF.drop i)
 rw[List.length_drop] at hl
 have h2:kD (m.bF.drop i)=(gK m.bF i).expr.n+1+kD (m.bF.drop (i+1)):=by rw[Jq hi];simp[kD]
 have h3:=h.count
 exact⟨h.inv _ (by rw[Jq hi];simp),om,om⟩
theorem rP.step (h:rP m i) (hi:i<m.bF.length):rP (Ep m (gK m.bF i)) (i+1):=by
 obtain⟨hT,hc,_⟩:=h.task hi
 have h1:=h.num
 have h2:kD (m.bF.drop i)=(gK m.bF i).expr.n+1+kD (m.bF.drop (i+1)):=by rw[Jq hi];simp[kD]
 have hb:=M9 (m:=m) hT
 obtain⟨new,hF⟩:=Jp _ (T2 hT hc) (lR _)
 have e1:=hF.ext.bF
 have e2:=hF.ext.count
 have e3:=hF.ext.code
 have e4:=hF.ext.blocks
 have e5:=hF.num
 have hbc:=hb.code
 rw[hb.bF] at e1
 rw[hb.count] at e2
 rw[hb.blocks] at e4
 have hr:=hT.room
 have hd:(m.bF++new).drop (i+1)=m.bF.drop (i+1)++new:=by rw[List.drop_append_of_le_length hi]
 have ht:(Ep m (gK m.bF i)).bF=m.bF++new:=e1
 refine⟨by rw[ht,lA];omega,?_,?_,?_,?_,?_⟩
 ·rw[ht,lA,<-h.count];exact e2
 ·rw[ht,hd,GC];omega
 ·intro t Er
  rw[ht,hd] at Er
  rcases mA.1 Er with Er|Er
  ·exact h.inv t (by rw[Jq hi];simp[Er])
  ·exact hF.inv t Er
 ·intro b fH
  have Es:b∈m.blocks++[⟨(gK m.bF i).aM,(gK m.bF i).regs,(l4 (gK m.bF i).expr.n ⟨qu m (gK m.bF i),(gK m.bF i).sc,(gK m.bF i).on,(gK m.bF i).aV⟩ (gK m.bF i).expr).code⟩]:=by rw[<-e4];exact fH
  rcases mA.1 Es with Es|Es
  ·exact h.tF b Es
  ·simp only[List.mem_singleton] at Es
   rw[Es]
   have hl:=hT.aM
   refine⟨⟨by show(gK m.bF i).aM.length<_;omega,by show(gK m.bF i).regs.length<_;omega,?_⟩,by show(gK m.bF i).aM.length<=_;omega⟩
   refine Nat.lt_of_le_of_lt e3 ?_
   have:(if(gK m.bF i).self=[] then 0 else 3)<=3:=by split<;>omega
   omega
 ·show((l4 _ _ _).blocks++[_]).length=_
  rw[e4,lA,h.bnum];rfl
theorem T7 (h:¬i<m.bF.length):∀k,yo k m i=m
 |0=>rfl
 |k+1=>by unfold yo;rw[iN h]
theorem T8 (h:i<m.bF.length) (k:Nat):yo (k+1) m i=yo k (Ep m (gK m.bF i)) (i+1):=by
 rw[yo,iP h]
theorem rP.small (h:rP m i):tI m.blocks:=by
 have h1:=h.num
 refine⟨by rw[h.bnum];omega,λj hj=>(h.tF _ ?_).1⟩
 unfold bR
 rw[gG,gE hj];exact List.getElem_mem hj
theorem rP.labels (h:rP m i):∀b,b∈m.blocks->b.aM.length<=10:=λb hb=>(h.tF b hb).2
theorem AS (h:ai):(gH h=true∧fX h=false∧h≠gj∧h≠fW∧h≠gF∧dW h=(1,3))∨(gH h=false∧fX h=false∧h=gj∧dW h=(1,4))∨
  (gH h=false∧fX h=false∧h=fW∧dW h=(2,4))∨(gH h=false∧fX h=false∧h=gF∧dW h=(5,6))∨(gH h=false∧fX h=true∧h≠gj∧h≠fW∧h≠gF∧dW h=(1,2))∨
  (gH h=false∧fX h=false∧h≠gj∧h≠fW∧h≠gF∧dW h=(0,0)):=by
 by_cases hb:gH h=true
 ·left
  have hk:dW h=(1,3):=by unfold dW;rw[iP hb]
  have aU:=hb
  simp only[gH,oE,dE] at aU
  rcases aU with(((e|e)|e)|e)|e<;>subst e<;>refine⟨rfl,rfl,by decide,by decide,by decide,hk⟩
 ·have gN:gH h=false:=by simpa using hb
  right
  by_cases h1:h=gj
  ·left;exact⟨gN,by rw[h1];rfl,h1,by rw[h1];rfl⟩
  ·right
   by_cases h2:h=fW
   ·left;exact⟨gN,by rw[h2];rfl,h2,by rw[h2];rfl⟩
   ·right
    by_cases h3:h=gF
    ·left;exact⟨gN,by rw[h3];rfl,h3,by rw[h3];rfl⟩
    ·right
     by_cases h4:fX h=true
     ·left;exact⟨gN,h4,h1,h2,h3,by unfold dW;rw[iN hb,iN h1,iN h2,iN h3,iP h4]⟩
     ·right;exact⟨gN,by simpa using h4,h1,h2,h3,by unfold dW;rw[iN hb,iN h1,iN h2,iN h3,iN h4]⟩
theorem Jr:dW gj=(1,4)∧dW fW=(2,4)∧dW gF=(5,6)∧fX gj=false∧fX fW=false∧fX gF=false∧gH gj=false∧gH fW=false∧gH gF=false:=by simp_all[dW,fX,gH]
def Et (ps:List aq):Bool:=(decide ((dW (nth ps 0).aw).1<=1)||dN (nth ps 1).aw)&&
 (decide ((dW (nth ps 0).aw).1≠5)||(dN (nth ps 2).aw&&decide ((nth ps 1).aw≠(nth ps 2).aw)&&jP (nth ps 3)&&jP (nth ps 4)))
theorem afb (ps:List aq):nk ps=(decide ((dW (nth ps 0).aw).1≠0)&&decide (ps.length=(dW (nth ps 0).aw).2)&&Et ps&&(ps.drop (dW (nth ps 0).aw).1).all dx):=by
 unfold Et
 match ps with
 |[]=>simp[nk,nth,aq.aw,dW,gH,fX]
 |[h]=>rcases AS h.aw with⟨h1,h2,h3,h4,h5,hk⟩|⟨h1,h2,h3,hk⟩|⟨h1,h2,h3,hk⟩|⟨h1,h2,h3,hk⟩|⟨h1,h2,h3,h4,h5,hk⟩|⟨h1,h2,h3,h4,h5,hk⟩<;>simp[nk,nth,hk]
 |[h,a]=>rcases AS h.aw with⟨h1,h2,h3,h4,h5,hk⟩|⟨h1,h2,h3,hk⟩|⟨h1,h2,h3,hk⟩|⟨h1,h2,h3,hk⟩|⟨h1,h2,h3,h4,h5,hk⟩|⟨h1,h2,h3,h4,h5,hk⟩<;>simp[nk,nth,hk,h1,h2,h3,Jr]
 |[h,a,b]=>rcases AS h.aw with⟨h1,h2,h3,h4,h5,hk⟩|⟨h1,h2,h3,hk⟩|⟨h1,h2,h3,hk⟩|⟨h1,h2,h3,hk⟩|⟨h1,h2,h3,h4,h5,hk⟩|⟨h1,h2,h3,h4,h5,hk⟩<;>simp[nk,nth,hk,h1,h2,h3,Jr]
 |[h,a,b,c]=>rcases AS h.aw with⟨h1,h2,h3,h4,h5,hk⟩|⟨h1,h2,h3,hk⟩|⟨h1,h2,h3,hk⟩|⟨h1,h2,h3,hk⟩|⟨h1,h2,h3,h4,h5,hk⟩|⟨h1,h2,h3,h4,h5,hk⟩<;>simp[nk,nth,hk,h1,h2,h3,Jr]<;>try simp[*]
 |[h,a,b,c,d]=>rcases AS h.aw with⟨h1,h2,h3,h4,h5,hk⟩|⟨h1,h2,h3,hk⟩|⟨h1,h2,h3,hk⟩|⟨h1,h2,h3,hk⟩|⟨h1,h2,h3,h4,h5,hk⟩|⟨h1,h2,h3,h4,h5,hk⟩<;>simp[nk,nth,hk]
 |[h,a,b,c,d,e]=>rcases AS h.aw with⟨h1,h2,h3,h4,h5,hk⟩|⟨h1,h2,h3,hk⟩|⟨h1,h2,h3,hk⟩|⟨h1,h2,h3,hk⟩|⟨h1,h2,h3,h4,h5,hk⟩|⟨h1,h2,h3,h4,h5,hk⟩<;>simp[nk,nth,hk,h3,Jr]<;>try simp[*,Bool.and_assoc]
 |h::a::b::c::d::e::f::r=>rcases AS h.aw with⟨h1,h2,h3,h4,h5,hk⟩|⟨h1,h2,h3,hk⟩|⟨h1,h2,h3,hk⟩|⟨h1,h2,h3,hk⟩|⟨h1,h2,h3,h4,h5,hk⟩|⟨h1,h2,h3,h4,h5,hk⟩<;>simp[nk,nth,hk]<;>omega
theorem T9 (t:aq):dx t=if t.aw≠[] then qg t.aw else nk t.ak:=by cases t with|mk a ps=>rw[dx];rfl
theorem afc (ha:t.aw=[]):dx t=(decide ((dW (nth t.ak 0).aw).1≠0)&&decide (t.ak.length=(dW (nth t.ak 0).aw).2)&&Et t.ak&&(t.ak.drop (dW (nth t.ak 0).aw).1).all dx):=by grind [T9,afb]
theorem Ua (ps:List aq):sw ps=(decide (ps.length=3)&&(decide ((nth ps 0).aw=[62])||decide ((nth ps 0).aw=[42]))&&(oK (nth ps 1)&&oK (nth ps 2))):=by
 match ps with
 |[]=>simp[sw]
 |[h]=>simp[sw]
 |[h,a]=>simp[sw]
 |[h,a,b]=>simp[sw,nth]
 |h::a::b::c::r=>simp[sw]
/-! ### Texts -/
def yp (s:ai):Bool:=match bA s with
 |some t=>jP t
 |none=>false
theorem afd {s:ai}:yp s=true↔∃T:Ty,T.n<=16∧s=T.text:=by grind [yp,bA,zX,tG,wk,Ty.bA,Good.wf,Ex.wf]
theorem Ub:yp T.text=decide (T.n<=16):=by grind [afd,Ty.inj]
def Ct (s sg:ai):Option (Ty×Ty)->Prop
 |some (a,b)=>∃f,sg=jO f∧s=(Ty.op f a b).text∧(Ty.op f a b).n<=16
 |none=>∀f a b,sg=jO f->s=(Ty.op f a b).text->¬(Ty.op f a b).n<=16
def Jt (t:aq):Bool:=dx t&&decide (fh t<=120)
def l5 (s:ai):Bool:=match bA s with
 |some t=>Jt t
 |none=>false
theorem afe (hw:WF t):Jt t=true↔∃e:Ex,t=e.au∧e.ok∧e.n<=120:=by grind [Jt,adN,Ex.fh]
theorem wV {s:ai}:l5 s=true↔∃e:Ex,bA s=some e.au∧e.ok∧e.n<=120:=by grind [l5,bA,afe,tG]
theorem Uc {ps:List aq} (i:Nat):jw (ps.take i)<=jw ps:=by
 conv=>rhs;rw[<-List.take_append_drop i ps,R7]
 omega
theorem aff (t:aq):jw t.ak<=t.size:=by
 cases t with
 |mk a ps=>have:=Mb ps;simp only[aq.size,aq.ak];omega
theorem Ud:∀(m:Nat) (t:aq),t.size<=m->t.size<=10000000->WF t->∀(v:Value) (L:List Nat) (w:World),bB L w v t->
  bz Tryz.prog 152 [v] w λr w'=>r= .int .i64 (fh t:Int)∧aj [] w w':=by
 intro m
 induction m with
 |zero=>intro t h;have:=xQ t;omega
 |succ m ih=>
  intro t hm lD cm v L w hv
  obtain⟨a,n,c,rfl,hn,aP⟩:=cU hv
  subst hn
  have ob:=wj t
  have hhs:=aff t
  have hK:=aj.refl [] w
  refine bS [.tmp 2] 24 Tryz.func152 rfl aa9 rfl rfl ?_
  refine zr<|eH rfl λw1 aI aX dk=>?_
  have hK:=hK.ext aI
  refine W ?_
  refine zc rfl (λh1=>?_) (λh1=>?_)
  have hq:fh t=1:=by rw[Ma,iP h1]
  refine W ?_
  exact⟨_,rfl,by rw[hq];rfl,hK⟩
  have hq:fh t=jw t.ak:=by rw[Ma,iN h1]
  refine W ?_
  refine eA (λk:Nat=>[(1,.pointer (some ⟨w.heap.size,0,none⟩)),(3,.int .i64 ((jw (t.ak.take k):Nat):Int)),(4,.int .i64 (k:Int))]) (λk w'=>aj [] w w'∧aJ w' w.heap.size [str t.aw,.slice a t.ak.length c].toArray 74∧k<=t.ak.length) (λk=>t.ak.length-k) (0) (⟨rfl,rfl,rfl⟩) (⟨hK,aX,om⟩) λgg w2 e2 hI=>?_
  obtain⟨hK,aX,hk⟩:=hI
  refine W ?_
  refine zc rfl (λh2=>?_) (λh2=>?_)
  have ey:=gh (ps:=t.ak) (i:=gg) om
  obtain⟨b1,eX,pa,pn,pc,rfl,jl,eP,fM⟩:=iJ aP ey
  subst eP
  have yc:=cm.nth (i:=gg) om
  have mZ:=kX (t:=t) (i:=gg) om
  have aR:=R8 ey
  have hle:=Uc (ps:=t.ak) (gg+1)
  refine WL ?_
  refine zl iC rfl (aX.at rfl)<|zm<|zi cz aL rfl rfl om<|zL eV aL rfl (jl.ext hK) rfl<|aA (ih (nth t.ak gg) om om yc _ L w2 ((kV fM).ext hK)) ?_
  rintro _ w3 ⟨rfl,aH⟩
  have fm:=aH.size
  refine bI aH hK aX λhK aX=>?_
  refine W ?_
  exact⟨gg+1,⟨rfl,congrArg (Value.int .i64) om,rfl⟩,⟨hK,aX,om⟩,om⟩
  have fG:gg=t.ak.length:=by omega
  subst fG
  refine W ?_
  exact⟨_,rfl,by rw[hq,List.take_length];rfl,hK⟩
theorem afg:∀(m:Nat) (t:aq),t.size<=m->t.size<=10000000->WF t->∀(v:Value) (L:List Nat) (w:World),bB L w v t->
  bz Tryz.prog 221 [v] w λr w'=>r= .bool (oK t)∧aj [] w w':=by
 intro m
 induction m with
 |zero=>intro t h;have:=xQ t;omega
 |succ m ih=>
  intro t hm lD cm v L w hv
  obtain⟨a,n,c,rfl,hn,aP⟩:=cU hv
  subst hn
  have hK:=aj.refl [] w
  have ob:=wj t
  refine bS [.tmp 2] 41 Tryz.func221 rfl abX rfl rfl ?_
  refine zr<|eH rfl λw1 aI aX dk=>bI aI hK aP λhK aP=>?_
  refine W ?_
  refine zc rfl (λh1=>?_) (λh1=>?_)
  have hq:oK t=decide (t.aw=[105]):=by rw[R9,iP h1]
  refine W ?_
  exact⟨_,rfl,by rw[hq];rfl,hK⟩
  have ha:t.aw=[]:=Classical.not_not.1 h1
  have j8:=cm.pos ha
  have hq:oK t=sw t.ak:=by rw[R9,iN (λh=>h ha)]
  obtain⟨b,off,pa,pn,pc,rfl,et,eP,fM⟩:=iJ aP (gh j8)
  refine WZ ?_
  apply oP 15 13 28 rfl oQ
  intro h2
  refine WZ ?_
  apply oB 7 20 27 rfl oQ
  intro h3
  refine WZ ?_
  exact oQ
  intro xx
  exact oQ
  intro xx
  refine aZ<|zc rfl (λh4=>?_) (λh4=>?_)
  have hz:sw t.ak=false:=by rw[Ua];simp only[oE,aE,dE] at h4;rcases h4 with h|⟨h1,h2⟩;(·rw[dF om];rfl);(·rw[dF h1,dF h2];simp)
  refine W ?_
  exact⟨_,rfl,by rw[hq,hz];rfl,hK⟩
  simp only[Bool.or_eq_false_iff,Bool.and_eq_false_iff,decide_eq_false_iff_not,Classical.not_not] at h4
  obtain⟨h31,Ue⟩:=h4
  have h3:t.ak.length=3:=om
  have nY:sw t.ak=(oK (nth t.ak 1)&&oK (nth t.ak 2)):=by rw[Ua,dT h3];rcases Ue with h|h<;>rw[h]<;>rfl
  obtain⟨b1,eX,gA,rf,gm,e1,bK,sK,oY⟩:=iJ aP (gh (i:=1) om)
  cases e1
  subst sK
  obtain⟨b2,lG,iA,AT,iw,e2,bU,Ju,Nc⟩:=iJ aP (gh (i:=2) om)
  cases e2
  subst Ju
  have cV:=kX (t:=t) (i:=1) om
  have dm:=kX (t:=t) (i:=2) om
  have cI:=kV oY
  have dI:=kV Nc
  refine gY<|zr<|zf jv rfl<|zl iC rfl (aX.at rfl)<|zi (i:=1) cz aL rfl rfl om<|zL eV aL rfl bK rfl<|aA (ih (nth t.ak 1) om om (cm.nth om) _ L w1 cI) ?_
  rintro _ w2 ⟨rfl,az⟩
  have dm:=az.size
  refine ie az hK aX bU dI λhK aX bU dI=>?_
  refine WZ ?_
  apply oA 6 34 40 (aj [] w2) rfl oQ
  intro h5
  refine zf jv rfl<|zl iC rfl (aX.at rfl)<|zi (i:=2) cz aL rfl rfl om<|zL eV aL rfl bU rfl<|aA (ih (nth t.ak 2) om om (cm.nth om) _ L w2 dI) ?_
  rintro _ w3 ⟨rfl,aH⟩
  have fm:=aH.size
  exact oQ
  intro xx w3 aH
  have hK:=hK.ext aH
  refine W ?_
  exact⟨_,rfl,by rw[hq,nY];rfl,hK⟩
theorem AU (t:aq) (lD:t.size<=10000000) (cm:WF t) (v:Value) (L:List Nat) (w:World) (hv:bB L w v t):
  bz Tryz.prog 184 [v] w λr w'=>r= .bool (jP t)∧aj [] w w':=by
 have cO:=hv
 obtain⟨a,n,c,rfl,hn,aP⟩:=cU hv
 have hK:=aj.refl [] w
 refine bS [.tmp 2] 10 Tryz.func184 rfl abz rfl rfl ?_
 refine zr<|eH rfl λw1 aI aX dk=>bI aI hK cO λhK cO=>?_
 refine W ?_
 refine aA (afg t.size t (lR _) lD cm _ L w1 cO) ?_
 rintro _ w2 ⟨rfl,az⟩
 have dm:=az.size
 refine cN az hK cO aX λhK cO aX=>?_
 refine WZ ?_
 apply oA 4 5 9 (aj [] w2) rfl oQ
 intro _
 refine W ?_
 refine aA (Ud t.size t (lR _) lD cm _ L w2 cO) ?_
 rintro _ w3 ⟨rfl,aH⟩
 have fm:=aH.size
 exact oQ
 intro xx w3 aH
 have hK:=hK.ext aH
 refine W ?_
 exact⟨_,rfl,congrArg Value.bool (show _=jP t from by unfold jP;congr 1;exact decide_eq_decide.2 om),hK⟩
theorem afh {s:ai} (h:DY s t):((bA s).isSome&&jP t)=yp s:=by
 unfold yp
 cases hp:bA s with
 |none=>rfl
 |some u=>rw[h.1 u hp];rfl
theorem Nd (s:ai) (w:World):bz Tryz.prog 227 [str s] w λr w'=>r= .bool (yp s)∧aj [] w w':=by
 have hK:=aj.refl [] w
 refine bS [.tmp 2] 15 Tryz.func227 rfl ab3 rfl rfl ?_
 refine W ?_
 refine aA (Jd s [] w sm) ?_
 rintro v1 w1 ⟨fY,aI⟩
 have cV:=aI.size
 have hK:=hK.ext aI
 obtain⟨t,tv,rfl,ht,hp⟩:=fY
 obtain⟨pa,pn,pc,rfl,eP,aP⟩:=cU ht
 refine W ?_
 refine dy aL rfl rfl rfl λw2 az cQ dC=>?_
 have hK:=hK.grow;have hK:=hK.ext az;have ht:=ht.grow;have ht:=ht.ext az
 refine cJ aL rfl rfl rfl cQ rfl λw3 aH cQ gJ=>?_
 have hK:=hK.aD aH sx;have ht:=ht.aD aH sx
 refine W ?_
 apply oA 3 11 14 (aj [] w3) rfl oQ
 intro h1
 obtain⟨u,hu⟩:=Option.isSome_iff_exists.1 h1
 have e:=hp.1 u hu
 subst e
 refine W ?_
 refine aA (AU t (by have:=zJ hu;omega) (tG hu) _ _ w3 ht) ?_
 rintro _ w4 ⟨rfl,aO⟩
 have fE:=aO.size
 exact oQ
 intro xx w4 aO
 have hK:=hK.ext aO
 refine W ?_
 exact⟨_,rfl,congrArg Value.bool (afh hp),hK⟩
def sP:Option (Ty×Ty)->ai
 |some p=>p.1.text
 |none=>[]
def yq:Option (Ty×Ty)->ai
 |some p=>p.2.text
 |none=>[]
def Nf (o:Option (Ty×Ty)):Value:=.tuple #[str (sP o),str (yq o),.bool o.isSome]
theorem afi {s sg:ai} (hp:DY s t) (h:(((!(bA s).isSome||!jP t)||decide (t.aw≠[]))||decide ((nth t.ak 0).aw≠sg))=true):Ct s sg none:=by
 intro f a b e1 e2 hn
 have aP:bA s=some (Ty.op f a b).au:=by rw[e2];exact Ty.bA om
 have e:=hp.1 _ aP
 subst e
 have ht:jP (Ty.op f a b).au=true:=(zX (tG aP)).2 ⟨_,rfl,hn⟩
 rw[aP,ht] at h
 simp[Ty.au,aq.aw,aq.ak,nth,bJ,e1] at h
theorem afj {s sg:ai} (hp:DY s t) (h:(((!(bA s).isSome||!jP t)||decide (t.aw≠[]))||decide ((nth t.ak 0).aw≠sg))=false):∃f A B,t=(Ty.op f A B).au∧(Ty.op f A B).n<=16∧Ct s sg (some (A,B)):=by
 simp only[Bool.or_eq_false_iff,Bool.not_eq_false',decide_eq_false_iff_not,Classical.not_not] at h
 obtain⟨⟨⟨h1,h2⟩,h3⟩,h4⟩:=h
 obtain⟨u,hu⟩:=Option.isSome_iff_exists.1 h1
 have e:=hp.1 u hu
 subst e
 obtain⟨T,rfl,hn⟩:=(zX (tG hu)).1 h2
 cases T with
 |i=>simp[Ty.au,bJ,aq.aw] at h3
 |op f A B=>exact⟨f,A,B,rfl,hn,f,by rw[<-h4];rfl,(wk hu).2.2.1.symm,hn⟩
theorem Uf (s sg:ai) (w:World):bz Tryz.prog 229 [str s,str sg] w λr w'=>(∃o,Ct s sg o∧r=Nf o)∧aj [] w w':=by
 have hK:=aj.refl [] w
 refine bS [.tmp 4,.tmp 5,.tmp 6] 45 Tryz.func229 rfl ab4 rfl rfl ?_
 refine W ?_
 refine aA (Jd s [] w sm) ?_
 rintro v1 w1 ⟨fY,aI⟩
 have cV:=aI.size
 have hK:=hK.ext aI
 obtain⟨t,tv,rfl,ht,hp⟩:=fY
 obtain⟨pa,pn,pc,rfl,eP,aP⟩:=cU ht
 subst eP
 refine W ?_
 refine dy aL rfl rfl rfl λw2 az cM dC=>?_
 have hK:=hK.grow;have hK:=hK.ext az;have ht:=ht.grow;have ht:=ht.ext az;have aP:=aP.grow;have aP:=aP.ext az
 refine cJ aL rfl rfl rfl cM rfl λw3 aH cM gJ=>?_
 have hK:=hK.aD aH sx;have ht:=ht.aD aH sx;have aP:=aP.aD aH sx
 refine W ?_
 apply oO 4 16 20 (aj [] w3) rfl oQ
 intro h1
 obtain⟨u,hu⟩:=Option.isSome_iff_exists.1 h1
 have e:=hp.1 u hu
 subst e
 refine W ?_
 refine aA (AU t (by have:=zJ hu;omega) (tG hu) _ _ w3 ht) ?_
 rintro _ w4 ⟨rfl,aO⟩
 have fE:=aO.size
 exact oQ
 intro xx w5 aN
 refine cN aN hK aP cM λhK aP cM=>?_
 refine WZ ?_
 apply oP 4 21 25 rfl oQ
 intro _
 refine WZ ?_
 exact oQ
 intro xx
 refine WZ ?_
 apply oP 8 26 34 rfl oQ
 intro h3
 simp only[Bool.or_eq_false_iff,Bool.not_eq_false',decide_eq_false_iff_not,Classical.not_not] at h3
 obtain⟨⟨q1,q2⟩,q3⟩:=h3
 obtain⟨u,hu⟩:=Option.isSome_iff_exists.1 q1
 have e:=hp.1 u hu
 subst e
 have j8:=(tG hu).pos q3
 obtain⟨b0,vv,qa,qn,qc,e0,et,_,_⟩:=iJ aP (gh j8)
 subst e0
 refine WZ ?_
 exact oQ
 intro xx
 refine aZ<|zc rfl (λh4=>?_) (λh4=>?_)
 refine W ?_
 exact⟨_,rfl,⟨none,afi hp h4,rfl⟩,hK⟩
 obtain⟨f,A,B,e,hn,hT⟩:=afj hp h4
 subst e
 have Sd:(Ty.op f A B).n=1+A.n+B.n:=rfl
 have hA:=Ty.size A
 have hB:=Ty.size B
 have Ng:=Ty.len A
 have Nh:=Ty.len B
 have Eg:(Ty.op f A B).au.ak.length=3:=rfl
 obtain⟨b1,eX,gA,rf,gm,e1,bK,sK,oY⟩:=iJ aP (gh (i:=1) om)
 subst e1
 subst sK
 obtain⟨b2,lG,iA,AT,iw,e2,bU,Ju,Nc⟩:=iJ aP (gh (i:=2) om)
 cases e2
 subst Ju
 have cI:bB _ w5 _ A.au:=kV oY
 have dI:bB _ w5 _ B.au:=kV Nc
 refine WZ ?_
 apply dV dj 13 [35,36,37,38,39,40,41,42,43,44,4,5,6] [[],[0],[1],[2],[3],[],[5],[6],[7],[8],[4],[9],[]] (it [_,_,_,_,_,_,_,_,_,_,_,_,_]) de rfl
 intro wd aC
 refine VA ?_
 refine vk aC (λx w6 bN=>?_) ?_
 refine zi (i:=1) cz aL rfl rfl ((show 1<3 from om)) ?_
 exact pv
 refine VA ?_
 refine vk aC (λx w6 bN=>?_) ?_
 have cI:=cI.ext bN
 refine aA (tT A.au.size A.au (lR _) A.lu.wf om (show A.text.length<=100000000 from om) _ _ w6 cI) ?_
 rintro _ w7 ⟨rfl,bW⟩
 have lf:=bW.size
 exact pk bW
 refine VA ?_
 refine vk aC (λx w6 bN=>?_) ?_
 refine zi (i:=2) cz aL rfl rfl ((show 2<3 from om)) ?_
 exact pv
 refine VA ?_
 refine vk aC (λx w6 bN=>?_) ?_
 have dI:=dI.ext bN
 refine aA (tT B.au.size B.au (lR _) B.lu.wf om (show B.text.length<=100000000 from om) _ _ w6 dI) ?_
 rintro _ w7 ⟨rfl,bW⟩
 have lf:=bW.size
 exact pk bW
 exact VZ
 intro x qw rQ
 have hK:=hK.ext rQ
 change OW _ _ _ _ [] (bo (bj _ x _) (zZ 35 [_,_,_,_,_,_,_,_,_,_]++[(4,_),(5,_),(6,_)])) _
 refine W ?_
 exact⟨_,rfl,⟨some (A,B),hT,rfl⟩,hK⟩
theorem Ug (s:ai) (w:World):bz Tryz.prog 201 [str s] w λr w'=>(∃o,Ct s [62] o∧r=Nf o)∧aj [] w w':=by
 have hK:=aj.refl [] w
 refine bS [.tmp 2,.tmp 3,.tmp 4] 10 Tryz.func201 rfl abP rfl rfl ?_
 refine W ?_
 refine aA (Uf s [62] w) ?_
 rintro v1 w1 ⟨fY,aI⟩
 have cV:=aI.size
 have hK:=hK.ext aI
 obtain⟨o,ho,rfl⟩:=fY
 refine W ?_
 exact⟨_,rfl,⟨o,ho,rfl⟩,hK⟩
theorem Uh (s:ai) (w:World):bz Tryz.prog 200 [str s] w λr w'=>(∃o,Ct s [42] o∧r=Nf o)∧aj [] w w':=by
 have hK:=aj.refl [] w
 refine bS [.tmp 2,.tmp 3,.tmp 4] 10 Tryz.func200 rfl abO rfl rfl ?_
 refine W ?_
 refine aA (Uf s [42] w) ?_
 rintro v1 w1 ⟨fY,aI⟩
 have cV:=aI.size
 have hK:=hK.ext aI
 obtain⟨o,ho,rfl⟩:=fY
 refine W ?_
 exact⟨_,rfl,⟨o,ho,rfl⟩,hK⟩
theorem Ui (hT:T.n<=16) (f:Bool) {o:Option (Ty×Ty)} (h:Ct T.text (jO f) o):o=match T with| .op g a b=>if g=f then some (a,b) else none| .i=>none:=by
 cases o with
 |some p=>
  obtain⟨g,h1,h2,h3⟩:=h
  have e:=Ty.inj h2
  subst e
  have:f=g:=by cases f<;>cases g<;>first|rfl|(simp[jO] at h1)
  subst this
  simp
 |none=>
  cases T with
  |i=>rfl
  |op g a b=>
   have dL:¬g=f:=λe=>h f a b rfl (by rw[e]) (by rw[<-e];exact hT)
   simp[dL]
theorem Uj (h:T.n<=16):yp T.text=true:=by rw[Ub];exact dT h
theorem Uk (f:Bool) (A B:Ty) (hA:A.n<=16) (hB:B.n<=16) (w:World):
  bz Tryz.prog 197 [.bool f,str A.text,str B.text] w λr w'=>r= .tuple #[str (if 1+A.n+B.n<=16 then(Ty.op f A B).text else[]),.bool (decide (1+A.n+B.n<=16))]∧aj [] w w':=by
 have hK:=aj.refl [] w
 have Ng:=Ty.len A
 have Nh:=Ty.len B
 have Ue:=LZ f
 have pO:(((((([40]++jO f)++[32])++A.text)++[32])++B.text)++[41])=(Ty.op f A B).text:=by rw[Ty.II];simp
 have hy:yp (Ty.op f A B).text=decide (1+A.n+B.n<=16):=Ub
 refine bS [.tmp 6,.tmp 7] 34 Tryz.func197 rfl abM rfl rfl ?_
 refine W ?_
 refine ix (λ_:Unit=>[(0,.bool f),(1,str A.text),(2,str B.text),(8,str (jO f))]) (λ_ w'=>w'=w) ?_ ?_
 refine zc rfl (λh1=>?_) (λh1=>?_)
 have hf:=h1
 refine W ?_
 exact⟨(),⟨rfl,rfl,rfl,by rw[hf];rfl⟩,rfl⟩
 have hf:=h1
 refine WZ ?_
 exact⟨(),⟨rfl,rfl,rfl,by rw[hf];rfl⟩,rfl⟩
 intro gu w1 e1 hI
 subst hI
 refine W ?_
 refine aA (Nd A.text w1) ?_
 rintro v2 w2 ⟨ij,az⟩
 have dm:=az.size
 have hK:=hK.ext az
 obtain rfl:=ij.trans (congrArg Value.bool (Uj hA))
 refine kx rfl rfl rfl<|zm<|Fw (t:=23) (b:=false) rfl<|zm<|aA (Nd B.text w2) ?_
 rintro v3 w3 ⟨ko,aH⟩
 have fm:=aH.size
 have hK:=hK.ext aH
 obtain rfl:=ko.trans (congrArg Value.bool (Uj hB))
 refine kx rfl rfl rfl<|zp rfl<|zm<|Fw (t:=28) (b:=false) rfl<|zm<|aA (Nd _ w3) ?_
 rintro v4 w4 ⟨jT,aO⟩
 have fE:=aO.size
 have hK:=hK.ext aO
 obtain rfl:=jT.trans (congrArg Value.bool ((congrArg yp pO).trans hy))
 refine W ?_
 refine zc rfl (λh2=>?_) (λh2=>?_)
 have hn:¬1+A.n+B.n<=16:=by simpa using h2
 refine W ?_
 have hr:Value.tuple #[str (if 1+A.n+B.n<=16 then(Ty.op f A B).text else[]),.bool (decide (1+A.n+B.n<=16))]=Value.tuple #[str [],.bool false]:=by rw[iN hn,dF hn]
 exact⟨_,rfl,hr.symm,hK⟩
 have hn:1+A.n+B.n<=16:=by simpa using h2
 refine W ?_
 have hr:Value.tuple #[str (if 1+A.n+B.n<=16 then(Ty.op f A B).text else[]),.bool (decide (1+A.n+B.n<=16))]=Value.tuple #[str (((((([40]++jO f)++[32])++A.text)++[32])++B.text)++[41]),.bool true]:=by rw[iP hn,dT hn,pO]
 exact⟨_,rfl,hr.symm,hK⟩
theorem Ul (c:UInt8):(decide ((c.toNat:Int)<97)||decide ((122:Int)<(c.toNat:Int)))=!(decide (97<=c)&&decide (c<=122)):=by
 have h1:decide (97<=c)=decide ((97:Int)<=c.toNat):=(FN 97 c).symm
 have h2:decide (c<=122)=decide ((c.toNat:Int)<=122):=decide_eq_decide.2 (by rw[UInt8.le_iff_toNat_le];have:(122:UInt8).toNat=122:=rfl;omega)
 rw[h1,h2,Bool.not_and,<-decide_not,<-decide_not]
 congr 1<;>exact decide_eq_decide.2 om
theorem afk {s:ai} (h1:1<=k) (hk:k<s.length) (h:gW (s.getD k 0)=false):(s.drop 1).all gW=false:=by
 rw[List.all_eq_false]
 refine⟨s.getD k 0,?_,by rw[h];simp⟩
 rw[List.mem_iff_getElem?]
 refine⟨k-1,?_⟩
 rw[List.getElem?_drop,show 1+(k-1)=k by omega]
 exact jf hk
theorem afl {s:ai} (h:∀k,1<=k->k<s.length->gW (s.getD k 0)=true):(s.drop 1).all gW=true:=by
 rw[List.all_eq_true]
 intro c hc
 obtain⟨i,hi⟩:=List.mem_iff_getElem?.1 hc
 rw[List.getElem?_drop] at hi
 have hl:=(List.getElem?_eq_some_iff.1 hi).1
 have:=h (1+i) om hl
 rw[jf hl] at hi
 cases hi
 exact this
theorem vw (s:ai) (w:World):bz Tryz.prog 182 [str s] w λv w'=>v= .bool (dN s)∧w=w':=by
 have hN:dN s=(((decide (1<=s.length)&&decide (s.length<=4))&&(decide (97<=s.getD 0 0)&&decide (s.getD 0 0<=122)))&&(s.drop 1).all gW):=rfl
 have hz:∀c:UInt8,(decide ((c.toNat:Int)<48)||decide ((57:Int)<(c.toNat:Int)))=!gW c:=by
  intro c
  cases hd:gW c with
  |true=>have:=(BS c).1 hd;simp;omega
  |false=>rw[Bool.not_false,oE,dE,dE];apply Classical.byContradiction;intro hh;have:=(BS c).2 om;rw[hd] at this;cases this
 refine bS [.tmp 2] 34 Tryz.func182 rfl abx rfl rfl ?_
 refine W ?_
 refine aA (Gn _ _ _ _) ?_
 rintro _ _ ⟨rfl,rfl⟩
 refine WZ ?_
 apply oP 4 8 12 rfl oQ
 intro h1
 have hl:1<=s.length∧s.length<=4:=(by simp at h1;omega)
 refine zm<|j3 (i:=0) il rfl rfl rfl rfl (jf om) ?_
 exact oQ
 intro xx
 refine WZ ?_
 apply oP 4 13 17 rfl oQ
 intro h2
 have hl:1<=s.length∧s.length<=4:=(by simp at h2;omega)
 refine zm<|j3 (i:=0) il rfl rfl rfl rfl (jf om) ?_
 exact oQ
 intro xx
 refine aZ<|zc rfl (λh3=>?_) (λh3=>?_)
 have hq:dN s=false:=(by rw[hN];rw[Bool.or_assoc,Ul] at h3;simp only[oE,Bool.not_eq_true',Bool.and_eq_false_iff,decide_eq_false_iff_not] at h3;simp only[Bool.and_eq_false_iff,decide_eq_false_iff_not];left;rcases h3 with(h|h)|h;(·left;left;omega);(·left;right;omega);(·right;exact h))
 refine W ?_
 exact⟨_,rfl,by rw[hq];rfl,rfl⟩
 have hl:(1<=s.length∧s.length<=4)∧(decide (97<=s.getD 0 0)&&decide (s.getD 0 0<=122))=true:=(by rw[Bool.or_assoc,Ul] at h3;simp only[Bool.or_eq_false_iff,Bool.not_eq_false'] at h3;refine⟨?_,h3.2⟩;have h1:=h3.1;simp at h1;omega)
 have hq:dN s=(s.drop 1).all gW:=(by rw[hN,hl.2,dT hl.1.1,dT hl.1.2];rfl)
 refine W ?_
 refine eA (λk:Nat=>[(0,str s),(3,.int .i64 (k:Int))]) (λk w'=>w'=w∧1<=k∧k<=s.length∧∀j,1<=j->j<k->gW (s.getD j 0)=true) (λk=>s.length-k) (1) (⟨rfl,rfl⟩) (⟨rfl,om,om,by intro j h1 h2;omega⟩) λgg w1 e1 hI=>?_
 obtain⟨rfl,aI,hk,cL⟩:=hI
 refine W ?_
 refine zc rfl (λh4=>?_) (λh4=>?_)
 refine W ?_
 refine j3 il rfl rfl rfl rfl (jf om)<|WZ ?_
 apply oP 5 28 33 rfl oQ
 intro h5
 refine zm<|zm<|j3 il rfl rfl rfl rfl (jf om) ?_
 exact oQ
 intro xx
 refine aZ<|zc rfl (λh6=>?_) (λh6=>?_)
 have hd:gW (s.getD gg 0)=false:=(by rw[hz] at h6;simpa using h6)
 refine W ?_
 exact⟨_,rfl,by rw[hq,afk aI om hd];rfl,rfl⟩
 have hd:gW (s.getD gg 0)=true:=(by rw[hz] at h6;simpa using h6)
 refine W ?_
 exact⟨gg+1,⟨rfl,rfl⟩,⟨rfl,om,om,by intro j h1 h2;rcases Nat.lt_or_ge j gg with h|h;exact cL j h1 h;rw[show j=gg by omega];exact hd⟩,om⟩
 refine W ?_
 exact⟨_,rfl,by rw[hq,afl (λj h1 h2=>cL j h1 om)];rfl,rfl⟩
def Ni (h:ai):Value:=.tuple #[.int .i64 ((dW h).1:Int),.int .i64 ((dW h).2:Int)]
theorem yr {a:Nat} (e:dW h=(a,b)):Ni h= .tuple #[.int .i64 (a:Int),.int .i64 (b:Int)]:=by unfold Ni;rw[e]
theorem afm (e:gH h=true):dW h=(1,3):=by unfold dW;rw[iP e]
theorem afn (e:fX h=true):dW h=(1,2):=by
 unfold fX at e
 simp only[oE,dE] at e
 rcases e with e|e<;>subst e<;>decide
theorem Jv (h:ai) (w:World):bz Tryz.prog 183 [str h] w λv w'=>v=Ni h∧w=w':=by
 refine bS [.tmp 2,.tmp 3] 20 Tryz.func183 rfl aby rfl rfl ?_
 refine W ?_
 refine ix (λ_:Unit=>[(4,str h),(5,.bool (gH h))]) (λ_ w'=>w'=w) ?_ ?_
 refine zc rfl (λh1=>?_) (λh1=>?_)
 refine WZ ?_
 exact⟨(),⟨rfl,congrArg Value.bool (show decide (h=[43])=gH h from by rw[dT h1,show gH h=true from by rw[h1];rfl])⟩,rfl⟩
 have n1:=h1
 refine W ?_
 refine zc rfl (λh2=>?_) (λh2=>?_)
 refine WZ ?_
 exact⟨(),⟨rfl,congrArg Value.bool (show decide (h=[45])=gH h from by rw[dT h2,show gH h=true from by rw[h2];rfl])⟩,rfl⟩
 have n2:=h2
 refine W ?_
 refine zc rfl (λh3=>?_) (λh3=>?_)
 refine WZ ?_
 exact⟨(),⟨rfl,congrArg Value.bool (show decide (h=[42])=gH h from by rw[dT h3,show gH h=true from by rw[h3];rfl])⟩,rfl⟩
 have n3:=h3
 refine W ?_
 refine zc rfl (λh4=>?_) (λh4=>?_)
 refine WZ ?_
 exact⟨(),⟨rfl,congrArg Value.bool (show decide (h=j4)=gH h from by rw[dT h4,show gH h=true from by rw[h4];rfl])⟩,rfl⟩
 have n4:=h4
 refine W ?_
 exact⟨(),⟨rfl,congrArg Value.bool (show decide (h=xS)=gH h from by unfold gH;rw[dF n1,dF n2,dF n3,dF n4];rfl)⟩,rfl⟩
 intro gu w1 e1 hI
 obtain rfl:=hI.symm
 refine zc rfl (λh5=>?_) (λh5=>?_)
 have hq:=h5
 refine W ?_
 exact⟨_,rfl,(yr (afm hq)).symm,rfl⟩
 have b0:=h5
 refine W ?_
 refine zc rfl (λh6=>?_) (λh6=>?_)
 have hq:=h6
 refine W ?_
 exact⟨_,rfl,(yr (by rw[hq];rfl)).symm,rfl⟩
 have m1:=h6
 refine W ?_
 refine zc rfl (λh7=>?_) (λh7=>?_)
 have hq:=h7
 refine W ?_
 exact⟨_,rfl,(yr (by rw[hq];rfl)).symm,rfl⟩
 have m2:=h7
 refine W ?_
 refine zc rfl (λh8=>?_) (λh8=>?_)
 have hq:=h8
 refine W ?_
 exact⟨_,rfl,(yr (by rw[hq];rfl)).symm,rfl⟩
 have m3:=h8
 refine W ?_
 refine ix (λ_:Unit=>[(4,str h),(17,.bool (fX h))]) (λ_ w'=>w'=w) ?_ ?_
 refine zc rfl (λh9=>?_) (λh9=>?_)
 refine WZ ?_
 exact⟨(),⟨rfl,congrArg Value.bool (show decide (h=B2)=fX h from by rw[dT h9,show fX h=true from by rw[h9];rfl])⟩,rfl⟩
 have n5:=h9
 refine W ?_
 exact⟨(),⟨rfl,congrArg Value.bool (show decide (h=qU)=fX h from by unfold fX;rw[dF n5];rfl)⟩,rfl⟩
 intro gu w2 e2 hI
 obtain rfl:=hI.symm
 refine zc rfl (λfO=>?_) (λfO=>?_)
 have hq:=fO
 refine W ?_
 exact⟨_,rfl,(yr (afn hq)).symm,rfl⟩
 have m4:=fO
 refine W ?_
 exact⟨_,rfl,(yr (by unfold dW;rw[iN (by rw[b0];simp),iN m1,iN m2,iN m3,iN (by rw[m4];simp)])).symm,rfl⟩
end Go.Proofs.YthbhobaiopccaaaGreatDoor
