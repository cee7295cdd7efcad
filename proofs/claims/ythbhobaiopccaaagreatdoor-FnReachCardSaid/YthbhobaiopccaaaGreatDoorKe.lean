/- Lemmas for the law FnReach, no statement of their own: no conditions. -/
import Derived.Test.YthbhobaiopccaaaGreatDoorKd
set_option maxHeartbeats 4000000
set_option linter.unusedVariables false
set_option linter.unusedSimpArgs false
namespace Go.Proofs.YthbhobaiopccaaaGreatDoor
open Go
variable {L:List Nat} {w w':World} {T:Ty} {E b bytes i k n sz x:Nat} {v z:Value} {g:Option Nat} {rows:List (List C)} {ps xs:List ai} {vs:Array Value} {s:cH} {q1 q2 q3 q4 q5 q6:Operand} {a a1 a2 a3 a4 a5 a6 h:ai} {t:aq} {ts:List aq} {m m1 m2:Mk} {e:Ex}
theorem dL.sub {L':List Nat} {T:TypeId} (h:dL L w T sz v g rows) (hL:∀x,x∈L'->x∈L∨w.heap.size<=x):dL L' w T sz v g rows:=by
 obtain⟨xs,h1,h2⟩:=h.own
 exact⟨⟨xs,h1,h2.fresh hL⟩,h.row⟩
structure KA (L:List Nat) (T:TypeId) (sz:Nat) (g:Option Nat) (rows rows':List (List C)) (w w':World):Prop where
 aF:aj g.toList w w'
 old:∀v,dL (g.toList++L) w T sz v g rows->dL (g.toList++L) w' T sz v g rows
 new:∀v g',dL (g.toList++(g'.toList++L)) w T sz v g' rows'->dL (g.toList++(g'.toList++L)) w' T sz v g' rows'
theorem dL.any {T:TypeId} (h:dL L w T sz v g rows) (k:aj [] w w'):dL L w' T sz v g rows:=h.aF (Fr.of k sm) k sm
theorem UP (L:List Nat) (T:TypeId) (sz:Nat) (g:Option Nat) (rows rows':List (List C)):Kept (KA L T sz g rows rows'):=
 ⟨λ_=>⟨aj.refl _ _,λ_ h=>h,λ_ _ h=>h⟩,λh k=>⟨h.aF.trans k.aF,λv x=>k.old v (h.old v x),λv g' x=>k.new v g' (h.new v g' x)⟩,
  λh=>⟨h.any,λ_ x=>x.any h,λ_ _ x=>x.any h⟩⟩
section
variable {P:Program} {w:World}
theorem agi {t ty T:TypeId} {i:TypeInfo} {sz bytes:Nat} (ht:P.underlying t=some (.slice T)) (hi:P.info? T=some i) (hz:i.zero=some z) 
  (Cq:i.size=sz) (fY:i.bytes=bytes) (yB:z.cells.size=sz) {L:List Nat}
  {v:Value} {g:Option Nat} {rows:List (List C)} {row:List C} (hO:dL (g.toList++L) w T sz v g rows)
  (ab c:Nat) (news:List Value) (iC:row.length=sz) (ub:gH w ab 0 news) (h1:∀u∈news,u.oneCell'=true) (hr:cZ (g.toList++L) w news row)
  (hb:(rows.length+1)*(bytes+1)<=140737488355328):
  ∃v' g' w',(Builtin.append_ #[t,t] ty #[v,.slice (some ⟨ab,0,none⟩) 1 c]).run P w= .ok v' w'∧dL (g.toList++(g'.toList++L)) w' T sz v' g' (rows++[row])∧KA L T sz g rows (rows++[row]) w w'∧
   (g'=g∨g'=some w.heap.size):=by
 subst Cq
 subst fY
 obtain⟨xs,dm,Dd⟩:=hO.own
 have aY:(rows.length+1)*i.bytes+(rows.length+1)<=140737488355328:=by rw[Nat.mul_add,Nat.mul_one] at hb;exact hb
 have Ao:rows.length+1<=maxLen:=by unfold maxLen;omega
 have yC:(rows.length+1)*i.bytes<=140737488355328:=by omega
 have hl:news.length=1*i.size:=by rw[hr.length,iC,Nat.one_mul]
 have I8:rows.length+1<=9223372036854775807:=by simp only[maxLen] at Ao;omega
 have hlen:(xs++news).length=(rows.length+1)*i.size:=by rw[lA,dm.1,hl,Nat.add_mul]
 have sW:∀b o j:Nat,(⟨b,o,none⟩:Addr).add j=⟨b,o+j,none⟩:=λb o j=>by unfold Addr.add;split<;>simp_all
 have vw:∀j u,news[j]?=some u->w.cell? ((⟨ab,0,none⟩:Addr).add j)=some u:=λj u hu=>by rw[sW];exact ub j u hu
 have UQ:∀r,r∈rows++[row]->r.length=i.size:=λr hx=>by
  rcases mA.1 hx with hx|hx
  ·exact hO.row r hx
  ·simp at hx;rw[hx];exact iC
 have nq:(rows++[row]).flatten=rows.flatten++row:=by simp
 have grown:∀(old:Nat),old<rows.length+1->
   dL (g.toList++((some w.heap.size).toList++L)) (w.drew.alloc (.cells (xs.toArray++news.toArray++Builtin.zeroCells z.cells (grownCap w (rows.length+1) old T-(rows.length+1))) T)) T i.size
    (.slice (some ⟨w.heap.size,0,none⟩) (rows.length+1) (grownCap w (rows.length+1) old T)) (some w.heap.size) (rows++[row])∧
   aj [] w (w.drew.alloc (.cells (xs.toArray++news.toArray++Builtin.zeroCells z.cells (grownCap w (rows.length+1) old T-(rows.length+1))) T)):=by
  intro old ho
  have qE:=grownCap_ge w (rows.length+1) old T
  have l0:grownCap w (rows.length+1) old T<=maxLen:=grownCap_le_maxLen w (rows.length+1) old T Ao
  have hk:aj [] w (w.drew.alloc (.cells (xs.toArray++news.toArray++Builtin.zeroCells z.cells (grownCap w (rows.length+1) old T-(rows.length+1))) T)):=⟨rfl,rfl,rfl,sm,λk hk _=>(aj.alloc [] w.drew _).block k hk sm⟩
  refine⟨⟨⟨xs++news,⟨by simpa using hlen,.inr ⟨w.heap.size,_,_,rfl,?_,heap_alloc_new w.drew _,?_,l0,?_,?_⟩⟩,?_⟩,UQ⟩,hk⟩
  ·simp
  ·simpa using qE
  ·simp only[Array.size_append,List.size_toArray,size_zeroCells,yB,dm.1,hl,<-Nat.add_mul]
   congr 1
   omega
  ·simp only[Array.toList_append,List.append_assoc]
   rw[<-List.append_assoc,lA,List.length_singleton,<-hlen]
   exact List.take_left
  ·rw[nq]
   refine((Dd.append hr).fresh (L':=g.toList++((some w.heap.size).toList++L)) λx hx=>?_).aF hk.any
   rcases mA.1 hx with hx|hx
   ·exact .inl (by simp[hx])
   ·rcases mA.1 hx with hx|hx
    ·right;simp at hx;omega
    ·exact .inl (by simp[hx])
 rcases dm.2 with⟨rfl,vX,rfl⟩|⟨b,cap,cur,rfl,rfl,hb,my,l0,bV,ug⟩
 ·have hx:xs=[]:=List.eq_nil_of_length_eq_zero (by rw[dm.1,vX];simp)
  subst hx
  have hr:=run_append_nil (P:=P) w t ty T i z ht hi hz ⟨ab,0,none⟩ 1 c news hl vw om om (by rw[vX] at yC;simp only[Nat.zero_add] at yC;omega)
  have lz:=grown 0 om
  rw[vX] at lz
  simp only[Nat.zero_add,List.nil_append,Array.empty_append] at lz⊢
  exact⟨_,some w.heap.size,_,hr,lz.1,(UP L T i.size none rows (rows++[row])).of lz.2,.inr rfl⟩
 ·by_cases pe:rows.length+1<=cap
  ·have kQ:rows.length*i.size+news.length<=cur.size:=by rw[hl,bV,<-Nat.add_mul];exact Nat.mul_le_mul_right _ pe
   have j5:=run_append_room (P:=P) w t ty T i ht hi b rows.length cap cur hb ⟨ab,0,none⟩ 1 c news hl vw h1 pe kQ
   have E1:aj [b] w (w.setRow b (cur.toList.take (rows.length*i.size)++news++cur.toList.drop (rows.length*i.size+news.length)).toArray):=⟨rfl,rfl,rfl,sm,λk _ hk=>setRow_other w b k _ (by simpa using hk)⟩
   have Kd:aK (w.setRow b (cur.toList.take (rows.length*i.size)++news++cur.toList.drop (rows.length*i.size+news.length)).toArray) b (cur.toList.take (rows.length*i.size)++news++cur.toList.drop (rows.length*i.size+news.length)).toArray T:=setRow_heap w b cur _ T _ hb
   have fR:(cur.toList.take (rows.length*i.size)++news++cur.toList.drop (rows.length*i.size+news.length)).toArray.size=cap*i.size:=by
    simp only[List.size_toArray,lA,List.length_take,List.length_drop,Array.length_toList]
    omega
   have UR:(cur.toList.take (rows.length*i.size)++news++cur.toList.drop (rows.length*i.size+news.length)).take ((rows.length+1)*i.size)=xs++news:=by
    rw[ug,<-hlen];exact List.take_left
   have agj:(cur.toList.take (rows.length*i.size)++news++cur.toList.drop (rows.length*i.size+news.length)).take (rows.length*i.size)=xs:=by
    rw[ug,<-dm.1,List.append_assoc];exact List.take_left
   -- whoever owns block b,owns it with this size
   have cap_of:∀(v:Value) (n:Nat) (ys:List Value),jb w T i.size v (some b) n ys->∃cap',v= .slice (some ⟨b,0,none⟩) n cap'∧n<=cap'∧cap'<=maxLen∧cap'*i.size=cap*i.size∧ys=cur.toList.take (n*i.size):=by
    intro v n ys hv
    rcases hv.2 with⟨_,_,h⟩|⟨b',cap',cur',e',Hn,gB,Er,pZ,EJ,oz⟩
    ·cases h
    ·cases e'
     have:cur'=cur:=by have h2:=gB.symm.trans hb;simpa using h2
     subst this
     exact⟨cap',Hn,Er,pZ,by rw[<-EJ,bV],oz.symm⟩
   have wr:∀(v:Value) (n:Nat),(∃cap',v=Value.slice (some ⟨b,0,none⟩) n cap'∧n<=cap'∧cap'<=maxLen∧cap'*i.size=cap*i.size)->∀ys:List Value,ys.length=n*i.size->(cur.toList.take (rows.length*i.size)++news++cur.toList.drop (rows.length*i.size+news.length)).take (n*i.size)=ys->
     jb (w.setRow b (cur.toList.take (rows.length*i.size)++news++cur.toList.drop (rows.length*i.size+news.length)).toArray) T i.size v (some b) n ys:=by
    rintro v n ⟨cap',Hn,Er,pZ,EJ⟩ ys hy eY
    exact⟨hy,.inr ⟨b,cap',_,rfl,Hn,Kd,Er,pZ,by rw[fR,EJ],eY⟩⟩
   refine⟨_,some b,_,j5,⟨⟨xs++news,wr _ _ ⟨cap,sm,by simpa using pe,l0,rfl⟩ _ (by simpa using hlen) (by simpa using UR),?_⟩,UQ⟩,⟨E1,λv hv=>?_,λv g' hv=>?_⟩,.inl rfl⟩
   ·rw[nq]
    exact((Dd.append hr).fresh λx hx=>.inl (by simp only[mA] at hx⊢;rcases hx with h|h|h;exact .inl h;exact .inl h;exact .inr h)).aF (E1.mono λx hx=>by simp at hx;simp[hx])
   ·obtain⟨ys,h1,h2⟩:=hv.own
    obtain⟨cap',a1,a2,a3,a4,a5⟩:=cap_of _ _ _ h1
    refine⟨⟨ys,wr _ _ ⟨cap',a1,a2,a3,a4⟩ _ h1.1 ?_,h2.aF (E1.mono λx hx=>by simp at hx;simp[hx])⟩,hv.row⟩
    rw[agj,a5,ug]
   ·obtain⟨ys,h1,h2⟩:=hv.own
    by_cases BE:g'=some b
    ·subst BE
     obtain⟨cap',a1,a2,a3,a4,a5⟩:=cap_of _ _ _ h1
     refine⟨⟨xs++news,wr _ _ ⟨cap',a1,a2,a3,a4⟩ _ (by simpa using hlen) (by simpa using UR),?_⟩,hv.row⟩
     rw[nq]
     exact((Dd.append hr).fresh λx hx=>.inl (by simp only[mA] at hx⊢;rcases hx with h|h|h;exact .inl h;exact .inl h;exact .inr h)).aF (E1.mono λx hx=>by simp at hx;simp[hx])
    ·exact⟨⟨ys,h1.aF E1 (λx hx fC=>BE (by simp at fC;rw[hx,fC])),h2.aF (E1.mono λx hx=>by simp at hx;simp[hx])⟩,hv.row⟩
  ·have holds:∀j u,xs[j]?=some u->w.cell? ((⟨b,0,none⟩:Addr).add j)=some u:=λj u hu=>by
    rw[sW,hb.cell]
    rw[<-ug,List.getElem?_take] at hu
    split at hu
    ·simpa using hu
    ·cases hu
   have hr:=run_append_grow (P:=P) w t ty T i z ht hi hz ⟨b,0,none⟩ rows.length cap xs dm.1 holds ⟨ab,0,none⟩ 1 c news hl vw om om (growslice_fits om yC)
   have lz:=grown cap om
   exact⟨_,some w.heap.size,_,hr,lz.1,(UP L T i.size (some b) rows (rows++[row])).of lz.2,.inr rfl⟩
end
section
variable {P:Program} {n:Nat} {ops:Array Oper} {K:Env->World->Prop} {rest:List Oper} {e:Env} {w:World}
 {dst:Option Nat} {ty:TypeId} {pos:String} {after:Array Edge} {g:Option (Nat×Bool)} {x y:Operand}
theorem De {L:List Nat} {t:Nat} {v:Value} {gb:Option Nat} {rows:List (List C)} {row:List C} {news:List Value} {b c:Nat} (hT:P.underlying t=some (.slice E)) (hE:TI P E sz bytes z) (hg:gate ops e g=true) (hd:cj n dst=true) (hz:Nat.beq z.cells.size sz=true) (fY:Nat.ble bytes 1000=true) 
  (hx:ev e x=v) (hy:ev e y= .slice (some ⟨b,0,none⟩) 1 c) (hO:dL (gb.toList++L) w E sz v gb rows) (iC:row.length=sz) (hc:gH w b 0 news) (h1:∀u∈news,u.oneCell'=true)
  (hr:cZ (gb.toList++L) w news row) (hn:rows.length<100000000)
  (k:∀v' g' w',dL (gb.toList++(g'.toList++L)) w' E sz v' g' (rows++[row])->KA L E sz gb rows (rows++[row]) w w'->(g'=gb∨g'=some w.heap.size)->OW P n ops K rest (bQ e dst v') w'):
  OW P n ops K (⟨dst,.call {callee:=.builtin .append,args:=#[x,y],argTypes:=#[t,t]},ty,pos,after,g⟩::rest) e w:=by
 obtain⟨i,hi,vG,fR,NT⟩:=hE.get
 have AE:bytes<=1000:=Nat.le_of_ble_eq_true fY
 obtain⟨v',g',w',j5,yK,hk,kT⟩:=agi (P:=P) (ty:=ty) hT hi vG fR NT (Nat.eq_of_beq_eq_true hz) hO b c news iC hc h1 hr
  (Nat.le_trans (Nat.mul_le_mul (show rows.length+1<=100000000 by omega) (show bytes+1<=1001 by omega)) de)
 exact eJ hg hd (w':=w') (by
  simp only[execOp,resolve,invoke,builtin,Sem.run_bind,Sem.run_pure,Result.andThen_ok,List.map_toArray,List.map_cons,List.map_nil,hx,hy,j5]) (k v' g' w' yK hk kT)
end
/-! ### Behind it -/
theorem NU:∀{vs:List Value} {xs:List ai},cZ L w vs (fb xs).flatten->vs=xs.map λx=>str x
 |[],[],_=>rfl
 |v::vs,x::xs,h=>by
  obtain⟨h1,h2⟩:=h
  cases h1
  rw[NU (xs:=xs) h2];rfl
theorem dL.sn {T:TypeId} (h:dL L w T 1 v g (fb xs)):cG w T v g xs:=by
 obtain⟨vs,h1,h2⟩:=h.own
 rw[po,NU h2] at h1;exact h1
theorem UT (L:List Nat) (w:World):∀xs:List ai,cZ L w (xs.map λx=>str x) (fb xs).flatten
 |[]=>trivial
 |_::xs=>⟨.val _,UT L w xs⟩
theorem cG.UU {T:TypeId} (h:cG w T v g xs) (L:List Nat):dL L w T 1 v g (fb xs):=
 ⟨⟨_,h.afL,UT L w xs⟩,λrow hr=>by obtain⟨x,_,rfl⟩:=List.mem_map.1 hr;rfl⟩
theorem UW (xs:List ai) (x:ai):fb xs++[[.val (str x)]]=fb (xs++[x]):=by simp[fb]
theorem agk (xs:List Nat) (x:Nat):uG xs++[[.val (.int .i64 (x:Int))]]=uG (xs++[x]):=by simp[uG]
section
variable {τ:tt} {E L:List Nat} {w w':World} {b:Nat} {o:Bool} {vb vt vc vy:Value} {gb gt gc gy:Option Nat} {m:Mk}
def qi (E:List Nat) (b:Nat) (gb gt gy:Option Nat):List Nat:=E++b::(gb.toList++(gt.toList++gy.toList))
theorem ze:x∈qi E b gb gt gy↔x∈E∨x=b∨x∈gb.toList∨x∈gt.toList∨x∈gy.toList:=by simp[qi]
theorem gK.NV (h:gK τ E L w b o vb vt vc vy gb gt gc gy m):bf (qi E b gb gt gy) w vc m.code:=by
 obtain⟨a1,a2,a3,a4,a5,a6⟩:=h.apart
 rcases h.co with⟨_,h1⟩|⟨_,hn,h1⟩
 ·refine h1.rep λx hx hh=>?_
  have vZ:x∈gc.toList:=by simp[hx]
  rw[ze] at hh
  rcases hh with hh|hh|hh|hh|hh
  ·exact(a5 x vZ).1 hh
  ·exact(a5 x vZ).2.1 hh
  ·exact(a5 x vZ).2.2.1 hh
  ·exact(a5 x vZ).2.2.2 hh
  ·exact(a6 x hh).2.2.2.2 vZ
 ·exact h1.fresh λx hx=>.inl (h.mem.2 (by rw[ze] at hx;rcases hx with h|h|h|h|h<;>simp[h]))
theorem gK.UX (h:gK τ E L w b o vb vt vc vy gb gt gc gy m):∀x,x∈qi E b gb gt gy->x∈L:=λx hx=>h.mem.2 (by rw[ze] at hx;rcases hx with h|h|h|h|h<;>simp[h])
theorem gK.agl (h:gK τ E L w b o vb vt vc vy gb gt gc gy m) {bs:List Bk} (hy:dL (gb.toList++(g.toList++qi E b gb gt gy)) w' τ.B 3 v g (bs.map Bk.enc)) (k:aj gb.toList w w') (hg:g=gb∨∃x,g=some x∧w.heap.size<=x):
  ∃L',gK τ E L' w' b false v vt vc vy g gt none gy {m with blocks:=bs}∧Fr L w L' w':=by
 obtain⟨a1,a2,a3,a4,a5,a6⟩:=h.apart
 have kT:∀x,x∈g.toList->x∈gb.toList∨w.heap.size<=x∧x∉gt.toList∧x∉(none:Option Nat).toList∧x∉gy.toList:=λx hx=>by
  rcases hg with rfl|⟨y,rfl,hy⟩
  ·exact .inl hx
  ·have hx:x=y:=by simpa using hx
   refine .inr ⟨by omega,λhh=>?_,sm,λhh=>?_⟩<;>have:=h.JV (x:=x) (by simp[hh])<;>omega
 obtain⟨hF,hN⟩:=h.swap k (λx hx=>⟨h.mem.2 (by simp[hx]),(a3 x hx).2,(a3 x hx).1⟩) (gb':=g) (gt':=gt) (gc':=none) (gy':=gy) kT (λx hx=>.inl hx) (λx hx=>by simp at hx) (λx hx=>.inl hx)
 have hcr:bf (E++b::(g.toList++(gt.toList++((none:Option Nat).toList++gy.toList)))) w' vc m.code:=by
  have h1:bf (qi E b gb gt gy) w' vc m.code:=bP.aD h.NV k λx hx=>ze.2 (by simp[hx])
  have h2:bf (g.toList++qi E b gb gt gy) w' vc m.code:=by
   rcases hg with rfl|⟨y,rfl,hy⟩
   ·exact h1.fresh λx hx=>.inl (by rcases mA.1 hx with h|h;exact ze.2 (by simp[h]);exact h)
   ·exact bP.aD (h.NV.fresh (L':=(some y).toList++qi E b gb gt gy) λx hx=>by
     rcases mA.1 hx with h|h
     ·simp at h;right;omega
     ·exact .inl h) k λx hx=>mR _ (ze.2 (by simp[hx]))
  exact h2.fresh λx hx=>.inl (by
   rw[yT] at hx
   rw[mA,ze]
   rcases hx with h|h|h|h|h|h
   ·simp[h]
   ·simp[h]
   ·simp[h]
   ·simp[h]
   ·simp at h
   ·simp[h])
 refine⟨_,⟨hy.sub λx hx=>.inl ?_,h.ta.aF hF k (λx hx hy=>(a4 x hx).2.2 hy),.inr ⟨rfl,rfl,hcr⟩,h.ty.aF k λx hx hy=>(a6 x (by simp[hx])).2.2.1 hy,rfl,hN,?_⟩,hF⟩
 ·rw[yT] at hx
  rw[mA,mA,ze]
  rcases hx with h|h|h|h|h|h
  ·simp[h]
  ·simp[h]
  ·simp[h]
  ·simp[h]
  ·simp at h
  ·simp[h]
 ·intro x hx
  rw[yT] at hx
  have hs:=k.size
  rcases hx with hx|hx|hx|hx|hx|hx
  ·exact lL (h.cF x (h.mem.2 (by simp[hx]))) hs
  ·exact lL (h.cF x (h.mem.2 (by simp[hx]))) hs
  ·exact hy.lt x hx
  ·exact lL (h.cF x (h.mem.2 (by simp[hx]))) hs
  ·simp at hx
  ·exact lL (h.cF x (h.mem.2 (by simp[hx]))) hs
theorem gK.GJ (h:gK τ E L w b o vb vt vc vy gb gt gc gy m) {ts:List Tk} (hy:dL (gt.toList++(g.toList++L)) w' τ.T 12 v g (ts.map Tk.enc)) (k:aj gt.toList w w') (hg:g=gt∨∃x,g=some x∧w.heap.size<=x):
  ∃L',gK τ E L' w' b o vb v vc vy gb g gc gy {m with bJ:=ts}∧Fr L w L' w':=by
 obtain⟨a1,a2,a3,a4,a5,a6⟩:=h.apart
 have kT:∀x,x∈g.toList->x∈gt.toList∨w.heap.size<=x∧x∉gb.toList∧x∉gc.toList∧x∉gy.toList:=λx hx=>by
  rcases hg with rfl|⟨y,rfl,hy⟩
  ·exact .inl hx
  ·have hx:x=y:=by simpa using hx
   refine .inr ⟨by omega,λhh=>?_,λhh=>?_,λhh=>?_⟩<;>have:=h.JV (x:=x) (by simp[hh])<;>omega
 obtain⟨hF,hN⟩:=h.swap k (λx hx=>⟨h.mem.2 (by simp[hx]),(a4 x hx).2.1,(a4 x hx).1⟩) (gb':=gb) (gt':=g) (gc':=gc) (gy':=gy) (λx hx=>.inl hx) kT (λx hx=>.inl hx) (λx hx=>.inl hx)
 refine⟨_,⟨h.bl.aF hF k (λx hx hy=>(a4 x hy).2.2 hx),hy.sub λx hx=>.inl ?_,?_,h.ty.aF k λx hx hy=>(a6 x (by simp[hx])).2.2.2.1 hy,rfl,hN,?_⟩,hF⟩
 ·rw[yT] at hx
  rw[mA,mA,h.mem]
  rcases hx with h|h|h|h|h|h<;>simp[h]
 ·rcases h.co with⟨ho,h1⟩|⟨ho,hn,h1⟩
  ·exact .inl ⟨ho,h1.aF k λx hx hy=>(a5 x (by simp[hx])).2.2.2 hy⟩
  ·exact .inr ⟨ho,hn,h1.go hF⟩
 ·intro x hx
  rw[yT] at hx
  have hs:=k.size
  rcases hx with hx|hx|hx|hx|hx|hx
  ·exact lL (h.cF x (h.mem.2 (by simp[hx]))) hs
  ·exact lL (h.cF x (h.mem.2 (by simp[hx]))) hs
  ·exact lL (h.cF x (h.mem.2 (by simp[hx]))) hs
  ·exact hy.lt x hx
  ·exact lL (h.cF x (h.mem.2 (by simp[hx]))) hs
  ·exact lL (h.cF x (h.mem.2 (by simp[hx]))) hs
theorem gK.num (h:gK τ E L w b o vb vt vc vy gb gt gc gy m) (c:Nat) (q:Bool):gK τ E L w b o vb vt vc vy gb gt gc gy {m with count:=c,wide:=q}:=⟨h.bl,h.ta,h.co,h.ty,h.eL,h.nd,h.cF⟩
end
theorem Fr.in {G G':List Nat} (h:Fr G w G' w') (E:List Nat):Fr (E++G) w (E++G') w':=
 ⟨h.aF.mono λx hx=>mR _ hx,λx hx=>by
  rcases mA.1 hx with hx|hx
  ·exact .inl (List.mem_append_left _ hx)
  ·rcases h.mem x hx with h1|h1
   ·exact .inl (mR _ h1)
   ·exact .inr h1⟩
structure zg where
 M:TypeId
 S:TypeId
 T:TypeId
structure iU (τ:zg) (E G:List Nat) (w:World) (b:Nat) (vt vn ve:Value) (gn ge:Option Nat) (ag aL:List ai) (exprs:List aq):Prop where
 ta:bf (E++G) w vt ag
 na:cG w τ.S vn gn aL
 ex:dL (E++G) w τ.T 2 ve ge (da exprs)
 eG:G=b::(gn.toList++ge.toList)
 nd:(E++G).Nodup
 cF:∀x,x∈E++G->x<w.heap.size
section
variable {τ:zg} {E G:List Nat} {w w':World} {b:Nat} {vt vn ve:Value} {gn ge:Option Nat} {ag aL:List ai} {exprs:List aq}
theorem iU.mem (h:iU τ E G w b vt vn ve gn ge ag aL exprs):x∈G↔x=b∨x∈gn.toList∨x∈ge.toList:=by rw[h.eG];simp
theorem iU.apart (h:iU τ E G w b vt vn ve gn ge ag aL exprs):E.Nodup∧b∉E∧(∀x,x∈gn.toList->x∉E∧x≠b)∧(∀x,x∈ge.toList->x∉E∧x≠b∧x∉gn.toList):=by
 have hn:=h.nd
 rw[h.eG,List.nodup_append,List.nodup_cons,List.nodup_append] at hn
 obtain⟨h1,⟨h2,h3,h4,h5⟩,h6⟩:=hn
 refine⟨h1,λhb=>h6 b hb b sm rfl,λx hx=>⟨λhe=>h6 x he x (by simp[hx]) rfl,λe=>h2 (by simp[<-e,hx])⟩,λx hx=>⟨λhe=>h6 x he x (by simp[hx]) rfl,λe=>h2 (by simp[<-e,hx]),λhy=>h5 x hy x hx rfl⟩⟩
theorem UY {A B:Option Nat} {F:List Nat} {b:Nat} (h1:F.Nodup) (h2:b∉F) (ha:∀x,x∈A.toList->x∉F∧x≠b) (hb:∀x,x∈B.toList->x∉F∧x≠b∧x∉A.toList):(F++b::(A.toList++B.toList)).Nodup:=by grind
theorem iU.UZ (h:iU τ E G w b vt vn ve gn ge ag aL exprs) {ys:List ai} (hy:cG w' τ.S v g ys) (k:aj gn.toList w w') (hg:g=gn∨g=some w.heap.size):
  ∃G',iU τ E G' w' b vt v ve g ge ag ys exprs∧Fr G w G' w':=by
 obtain⟨a1,a2,a3,a4⟩:=h.apart
 have pI:∀x,x∈g.toList->x∈gn.toList∨x=w.heap.size:=λx hx=>by
  rcases hg with rfl|rfl
  ·exact .inl hx
  ·right;simpa using hx
 have dY:∀x,x∈E++G->x≠w.heap.size:=λx hx e=>by have:=h.cF x hx;omega
 have hF:Fr G w (b::(g.toList++ge.toList)) w':=⟨k.mono λx hx=>h.mem.2 (by simp[hx]),λx hx=>by
  rcases mC.1 hx with rfl|hx
  ·exact .inl (h.mem.2 (.inl rfl))
  ·rcases mA.1 hx with hx|hx
   ·rcases pI x hx with h1|h1
    ·exact .inl (h.mem.2 (by simp[h1]))
    ·right;omega
   ·exact .inl (h.mem.2 (by simp[hx]))⟩
 have hN:(E++b::(g.toList++ge.toList)).Nodup:=UY a1 a2 (λx hx=>by
  rcases pI x hx with h1|h1
  ·exact a3 x h1
  ·exact⟨λhe=>dY x (by simp[he]) h1,λe=>dY x (mR _ (h.mem.2 (.inl e))) h1⟩) (λx hx=>⟨(a4 x hx).1,(a4 x hx).2.1,λhy=>by
  rcases pI x hy with h1|h1
  ·exact(a4 x hx).2.2 h1
  ·exact dY x (mR _ (h.mem.2 (by simp[hx]))) h1⟩)
 refine⟨_,⟨h.ta.go (hF.in E),hy,h.ex.aF (hF.in E) k (λx hx hy=>(a4 x hx).2.2 hy),rfl,hN,λx hx=>?_⟩,hF⟩
 have hs:=k.size
 rcases mA.1 hx with hx|hx
 ·exact lL (h.cF x (by simp[hx])) hs
 ·rcases mC.1 hx with rfl|hx
  ·exact lL (h.cF x (mR _ (h.mem.2 (.inl rfl)))) hs
  ·rcases mA.1 hx with hx|hx
   ·exact hy.lt x hx
   ·exact lL (h.cF x (mR _ (h.mem.2 (by simp[hx])))) hs
theorem iU.aF (h:iU τ E G w b vt vn ve gn ge ag aL exprs) {H:List Nat} (k:aj H w w') (hH:∀x,x∈H->x=b):iU τ E G w' b vt vn ve gn ge ag aL exprs:=by
 obtain⟨a1,a2,a3,a4⟩:=h.apart
 have hF:Fr (E++G) w (E++G) w':=Fr.of k λx hx=>mR _ (h.mem.2 (.inl (hH x hx)))
 exact⟨h.ta.go hF,h.na.aF k (λx hx hy=>(a3 x (by simp[hx])).2 (hH x hy)),h.ex.aF hF k (λx hx hy=>(a4 x hx).2.1 (hH x hy)),h.eG,h.nd,λx hx=>lL (h.cF x hx) k.size⟩
theorem NW {w:World} {T:TypeId} (hx:aK w x #[] T):jb w T sz (.slice (some ⟨x,0,none⟩) 0 0) (some x) 0 []:=by grind [aK,jb]
theorem U0 {w:World} {T:TypeId} (hx:aK w x #[] T):cG w T (.slice (some ⟨x,0,none⟩) 0 0) (some x) []:=NW hx
theorem NX {w:World} {T:TypeId} (hx:aK w x #[] T):dL L w T sz (.slice (some ⟨x,0,none⟩) 0 0) (some x) []:=⟨⟨[],NW hx,trivial⟩,sm⟩
theorem iU.opened (h:iU τ E G w b vt vn ve gn ge ag aL exprs) (k:aj [b] w w') {y:Nat} (hx:aK w' x #[] τ.S) (hy:aK w' y #[] τ.T) (h1:w.heap.size<=x) (h2:x<y):
  iU τ (gn.toList++(ge.toList++E)) (b::[x,y]) w' b vt (.slice (some ⟨x,0,none⟩) 0 0) (.slice (some ⟨y,0,none⟩) 0 0) (some x) (some y) ag [] []∧
   cG w' τ.S vn gn aL∧dL (E++G) w' τ.T 2 ve ge (da exprs)∧Fr G w (b::[x,y]) w':=by
 obtain⟨a1,a2,a3,a4⟩:=h.apart
 have dY:∀z,z∈E++G->z<w.heap.size:=h.cF
 have hF:Fr (E++G) w ((gn.toList++(ge.toList++E))++(b::[x,y])) w':=⟨k.mono λz hz=>mR _ (h.mem.2 (.inl (by simpa using hz))),λz hz=>by
  simp only[mA,mC,List.not_mem_nil,or_false] at hz
  rcases hz with(hz|hz|hz)|hz|hz|hz
  ·exact .inl (mR _ (h.mem.2 (.inr (.inl hz))))
  ·exact .inl (mR _ (h.mem.2 (.inr (.inr hz))))
  ·exact .inl (List.mem_append_left _ hz)
  ·exact .inl (mR _ (h.mem.2 (.inl hz)))
  ·right;omega
  ·right;omega⟩
 have kz:Fr (E++G) w (E++G) w':=Fr.of k λz hz=>mR _ (h.mem.2 (.inl (by simpa using hz)))
 have hb:b<w.heap.size:=dY b (mR _ (h.mem.2 (.inl rfl)))
 have pI:∀z,z∈gn.toList->z<w.heap.size:=λz hz=>dY z (mR _ (h.mem.2 (.inr (.inl hz))))
 have qE:∀z,z∈ge.toList->z<w.heap.size:=λz hz=>dY z (mR _ (h.mem.2 (.inr (.inr hz))))
 have hE:∀z,z∈E->z<w.heap.size:=λz hz=>dY z (List.mem_append_left _ hz)
 refine⟨⟨h.ta.go hF,U0 hx,NX hy,rfl,?_,?_⟩,h.na.aF k (λz hz hy=>(a3 z (by simp[hz])).2 (by simpa using hy)),h.ex.aF kz k (λz hz hy=>(a4 z hz).2.1 (by simpa using hy)),⟨k.mono λz hz=>h.mem.2 (.inl (by simpa using hz)),λz hz=>?_⟩⟩
 ·rw[List.nodup_append,List.nodup_append,List.nodup_append]
  refine⟨⟨Nw gn,⟨Nw ge,a1,λp hp q hq e=>(a4 p hp).1 (e▸hq)⟩,λp hp q hq e=>?_⟩,?_,λp hp q hq e=>?_⟩
  ·subst e
   rcases mA.1 hq with hq|hq
   ·exact(a4 p hq).2.2 hp
   ·exact(a3 p hp).1 hq
  ·simp only[List.nodup_cons,mC,List.not_mem_nil,or_false,not_false_eq_true,List.nodup_nil,and_true]
   omega
  ·subst e
   simp only[mC,List.not_mem_nil,or_false] at hq
   simp only[mA] at hp
   rcases hp with hp|hp|hp
   ·rcases hq with hq|hq|hq
    ·exact(a3 p hp).2 hq
    ·have:=pI p hp;omega
    ·have:=pI p hp;omega
   ·rcases hq with hq|hq|hq
    ·exact(a4 p hp).2.1 hq
    ·have:=qE p hp;omega
    ·have:=qE p hp;omega
   ·rcases hq with hq|hq|hq
    ·subst hq;exact a2 hp
    ·have:=hE p hp;omega
    ·have:=hE p hp;omega
 ·intro z hz
  simp only[mA,mC,List.not_mem_nil,or_false] at hz
  have hs:=k.size
  rcases hz with(hz|hz|hz)|hz|hz|hz
  ·have:=pI z hz;omega
  ·have:=qE z hz;omega
  ·have:=hE z hz;omega
  ·omega
  ·rw[hz];exact hx.lt
  ·rw[hz];exact hy.lt
 ·simp only[mC,List.not_mem_nil,or_false] at hz
  rcases hz with hz|hz|hz
  ·exact .inl (h.mem.2 (.inl hz))
  ·right;omega
  ·right;omega
theorem iU.closed {G2:List Nat} {Df vn2 ve2:Value} {gn2 ge2:Option Nat} {agr:List ai} {ags:List aq} {w0:World} (h:iU τ E G w0 b vt vn ve gn ge ag aL exprs) 
  (h2:iU τ (gn.toList++(ge.toList++E)) G2 w b Df vn2 ve2 gn2 ge2 ag agr ags) (hn:cG w τ.S vn gn aL) (he:dL (E++G) w τ.T 2 ve ge (da exprs)) (hk:Fr G w0 G2 w) (k:aj [b] w w'):
  iU τ E G w' b Df vn ve gn ge ag aL exprs∧Fr G w0 G w':=by
 obtain⟨a1,a2,a3,a4⟩:=h.apart
 have Hu:aj G w w':=k.mono λz hz=>h.mem.2 (.inl (by simpa using hz))
 have kz:Fr (E++G) w (E++G) w':=Fr.of Hu λz hz=>mR _ hz
 have oK:∀z,z∈E++G->z∈(gn.toList++(ge.toList++E))++G2:=λz hz=>by
  rcases mA.1 hz with hz|hz
  ·simp[hz]
  ·rcases h.mem.1 hz with hz|hz|hz
   ·exact mR _ (h2.mem.2 (.inl hz))
   ·simp[hz]
   ·simp[hz]
 have zh:bf (E++G) w Df ag:=h2.ta.fresh λz hz=>.inl (oK z hz)
 refine⟨⟨zh.go kz,hn.aF k (λz hz hy=>(a3 z (by simp[hz])).2 (by simpa using hy)),he.aF kz k (λz hz hy=>(a4 z hz).2.1 (by simpa using hy)),h.eG,h.nd,λz hz=>?_⟩,⟨hk.aF.since Hu λz hz=>.inl hz,λz hz=>.inl hz⟩⟩
 have:=h.cF z hz
 have h3:=hk.aF.size
 have h4:=k.size
 omega
def m5V (n:Nat) (vt vn ve:Value):List Value:=[vt,.int .i64 (n:Int),vn,ve]
def M5 (τ:zg) (E G:List Nat) (w:World) (b:Nat) (ag:List ai) (n:Nat) (aL:List ai) (exprs:List aq):Prop:=∃vt vn ve gn ge,aK w b (m5V n vt vn ve).toArray τ.M∧iU τ E G w b vt vn ve gn ge ag aL exprs
theorem iU.ext (h:iU τ E G w b vt vn ve gn ge ag aL exprs) (k:aj [] w w'):iU τ E G w' b vt vn ve gn ge ag aL exprs:=h.aF k sm
theorem M5.ext (h:M5 τ E G w b ag n aL exprs) (k:aj [] w w'):M5 τ E G w' b ag n aL exprs:=by
 obtain⟨vt,vn,ve,gn,ge,h1,h2⟩:=h
 exact⟨vt,vn,ve,gn,ge,h1.aF k sm,h2.ext k⟩
end
structure dP (L:List Nat) (w:World) (b:Nat) (vs:Array Value) (T:TypeId):Prop where
 iw:aK w b vs T
 out:b∉L
theorem dP.lt {T:TypeId} (h:dP L w b vs T):b<w.heap.size:=h.iw.lt
theorem dP.at {vs:List Value} {T:TypeId} (h:dP L w b vs.toArray T) (hv:vs[i]?=some v):w.cell? ⟨b,i,none⟩=some v:=h.iw.at hv
theorem dP.all {vs:List Value} {T:TypeId} (h:dP L w b vs.toArray T):gH w b 0 vs:=h.iw.all
theorem dP.go {L':List Nat} {T:TypeId} (h:dP L w b vs T) (k:Fr L w L' w'):dP L' w' b vs T:=
 ⟨h.iw.aF k.aF h.out,λhx=>by
  rcases k.mem b hx with h1|h1
  ·exact h.out h1
  ·have:=h.iw.lt;omega⟩
theorem dP.ext {T:TypeId} (h:dP L w b vs T) (k:aj [] w w'):dP L w' b vs T:=⟨h.iw.ext k,h.out⟩
theorem dP.aD {G:List Nat} {T:TypeId} (h:dP L w b vs T) (k:aj G w w') (hG:∀x,x∈G->x∈L):dP L w' b vs T:=h.go (Fr.of k hG)
theorem aK.o {T:TypeId} (h:aK w b vs T) (hL:∀x,x∈L->x<b):dP L w b vs T:=⟨h,λhx=>by have:=hL b hx;omega⟩
theorem cG.rs {T:TypeId} (h:cG w T v g xs):bf [] w v xs:=h.rep sm
theorem jn {T:TypeId} (h:cG w T v g xs):∃a c,v= .slice a xs.length c:=jb.len h
section
variable {P:Program} {n:Nat} {ops:Array Oper} {K:Env->World->Prop} {rest:List Oper} {e:Env} {w:World} {dst:Option Nat} {ty:TypeId} {pos:String} {after:Array Edge} {g:Option (Nat×Bool)} {x y:Operand}
theorem U1 {t:Nat} {v:Value} {gb:Option Nat} {xs:List ai} {s:ai} {b U:Nat} (hT:P.underlying t=some (.slice E)) (hE:TI P E 1 bytes z) (hg:gate ops e g=true) (hd:cj n dst=true) (hz:Nat.beq z.cells.size 1=true) (fY:Nat.ble bytes 1000=true) 
  (hx:ev e x=v) (hy:ev e y= .slice (some ⟨b,0,none⟩) 1 1) (hO:cG w E v gb xs) (hb:aK w b [str s].toArray U) (hn:xs.length<100000000)
  (k:∀v' g' w',cG w' E v' g' (xs++[s])->aj gb.toList w w'->Fr gb.toList w g'.toList w'->OW P n ops K rest (bQ e dst v') w'):
  OW P n ops K (⟨dst,.call {callee:=.builtin .append,args:=#[x,y],argTypes:=#[t,t]},ty,pos,after,g⟩::rest) e w:=by
 refine De (L:=[]) (row:=[.val (str s)]) hT hE hg hd hz fY hx hy (hO.UU _) rfl hb.all (by simp[Value.oneCell']) ⟨.val _,trivial⟩ (by rw[po];exact hn) ?_
 intro v' g' w' jj hk kT
 rw[UW] at jj
 refine k v' g' w' jj.sn hk.aF ⟨hk.aF,λq hq=>?_⟩
 rcases kT with h|h
 ·rw[h] at hq;exact .inl hq
 ·rw[h] at hq;simp at hq;right;omega
theorem lk {T:Nat} (hT:P.underlying T=some (.slice E)) (hE:TI P E 1 bytes z) (hg:gate ops e g=true) (hd:cj n dst=true) (h1:ev e q1=str a1) (h2:ev e q2=str a2) 
  (k:∀w',aj [] w w'->aK w' w.heap.size [str a1,str a2].toArray E->w'.heap.size=w.heap.size+1->OW P n ops K rest (bQ e dst (.slice (some ⟨w.heap.size,0,none⟩) 2 2)) w'):
  OW P n ops K (⟨dst,.buildSlice T 2 #[(0,q1),(1,q2)],ty,pos,after,g⟩::rest) e w:=
 tE [q1,q2] [[str a1],[str a2]] hT hE hg hd rfl rfl rfl rfl rfl (by simp[h1,h2,Value.cells]) rfl k
theorem pJ {T:Nat} (hT:P.underlying T=some (.slice E)) (hE:TI P E 1 bytes z) (hg:gate ops e g=true) (hd:cj n dst=true) (h1:ev e q1=str a1) (h2:ev e q2=str a2) (h3:ev e q3=str a3) 
  (k:∀w',aj [] w w'->aK w' w.heap.size [str a1,str a2,str a3].toArray E->w'.heap.size=w.heap.size+1->OW P n ops K rest (bQ e dst (.slice (some ⟨w.heap.size,0,none⟩) 3 3)) w'):
  OW P n ops K (⟨dst,.buildSlice T 3 #[(0,q1),(1,q2),(2,q3)],ty,pos,after,g⟩::rest) e w:=
 tE [q1,q2,q3] [[str a1],[str a2],[str a3]] hT hE hg hd rfl rfl rfl rfl rfl (by simp[h1,h2,h3,Value.cells]) rfl k
theorem zj {T:Nat} (hT:P.underlying T=some (.slice E)) (hE:TI P E 1 bytes z) (hg:gate ops e g=true) (hd:cj n dst=true) (h1:ev e q1=str a1) (h2:ev e q2=str a2) (h3:ev e q3=str a3) (h4:ev e q4=str a4) 
  (k:∀w',aj [] w w'->aK w' w.heap.size [str a1,str a2,str a3,str a4].toArray E->w'.heap.size=w.heap.size+1->OW P n ops K rest (bQ e dst (.slice (some ⟨w.heap.size,0,none⟩) 4 4)) w'):
  OW P n ops K (⟨dst,.buildSlice T 4 #[(0,q1),(1,q2),(2,q3),(3,q4)],ty,pos,after,g⟩::rest) e w:=
 tE [q1,q2,q3,q4] [[str a1],[str a2],[str a3],[str a4]] hT hE hg hd rfl rfl rfl rfl rfl (by simp[h1,h2,h3,h4,Value.cells]) rfl k
theorem U2 {T:Nat} (hT:P.underlying T=some (.slice E)) (hE:TI P E 1 bytes z) (hg:gate ops e g=true) (hd:cj n dst=true) (h1:ev e q1=str a1) (h2:ev e q2=str a2) (h3:ev e q3=str a3) (h4:ev e q4=str a4) (h5:ev e q5=str a5) 
  (k:∀w',aj [] w w'->aK w' w.heap.size [str a1,str a2,str a3,str a4,str a5].toArray E->w'.heap.size=w.heap.size+1->OW P n ops K rest (bQ e dst (.slice (some ⟨w.heap.size,0,none⟩) 5 5)) w'):
  OW P n ops K (⟨dst,.buildSlice T 5 #[(0,q1),(1,q2),(2,q3),(3,q4),(4,q5)],ty,pos,after,g⟩::rest) e w:=
 tE [q1,q2,q3,q4,q5] [[str a1],[str a2],[str a3],[str a4],[str a5]] hT hE hg hd rfl rfl rfl rfl rfl (by simp[h1,h2,h3,h4,h5,Value.cells]) rfl k
theorem agu {T:Nat} (hT:P.underlying T=some (.slice E)) (hE:TI P E 1 bytes z) (hg:gate ops e g=true) (hd:cj n dst=true) (h1:ev e q1=str a1) (h2:ev e q2=str a2) (h3:ev e q3=str a3) (h4:ev e q4=str a4) (h5:ev e q5=str a5) (h6:ev e q6=str a6) 
  (k:∀w',aj [] w w'->aK w' w.heap.size [str a1,str a2,str a3,str a4,str a5,str a6].toArray E->w'.heap.size=w.heap.size+1->OW P n ops K rest (bQ e dst (.slice (some ⟨w.heap.size,0,none⟩) 6 6)) w'):
  OW P n ops K (⟨dst,.buildSlice T 6 #[(0,q1),(1,q2),(2,q3),(3,q4),(4,q5),(5,q6)],ty,pos,after,g⟩::rest) e w:=
 tE [q1,q2,q3,q4,q5,q6] [[str a1],[str a2],[str a3],[str a4],[str a5],[str a6]] hT hE hg hd rfl rfl rfl rfl rfl (by simp[h1,h2,h3,h4,h5,h6,Value.cells]) rfl k
theorem U3 {T:Nat} {q7 q8:Operand} {a7 a8:ai} (hT:P.underlying T=some (.slice E)) (hE:TI P E 1 bytes z) (hg:gate ops e g=true) (hd:cj n dst=true) (h1:ev e q1=str a1) (h2:ev e q2=str a2) (h3:ev e q3=str a3) (h4:ev e q4=str a4) (h5:ev e q5=str a5) (h6:ev e q6=str a6) (h7:ev e q7=str a7) (h8:ev e q8=str a8) 
  (k:∀w',aj [] w w'->aK w' w.heap.size [str a1,str a2,str a3,str a4,str a5,str a6,str a7,str a8].toArray E->w'.heap.size=w.heap.size+1->OW P n ops K rest (bQ e dst (.slice (some ⟨w.heap.size,0,none⟩) 8 8)) w'):
  OW P n ops K (⟨dst,.buildSlice T 8 #[(0,q1),(1,q2),(2,q3),(3,q4),(4,q5),(5,q6),(6,q7),(7,q8)],ty,pos,after,g⟩::rest) e w:=
 tE [q1,q2,q3,q4,q5,q6,q7,q8] [[str a1],[str a2],[str a3],[str a4],[str a5],[str a6],[str a7],[str a8]] hT hE hg hd rfl rfl rfl rfl rfl (by simp[h1,h2,h3,h4,h5,h6,h7,h8,Value.cells]) rfl k
theorem agv {T:Nat} {q7 q8 q9 NY:Operand} {a7 a8 a9 Ke:ai} (hT:P.underlying T=some (.slice E)) (hE:TI P E 1 bytes z) (hg:gate ops e g=true) (hd:cj n dst=true) (h1:ev e q1=str a1) (h2:ev e q2=str a2) (h3:ev e q3=str a3) (h4:ev e q4=str a4) (h5:ev e q5=str a5) (h6:ev e q6=str a6) (h7:ev e q7=str a7) (h8:ev e q8=str a8) (h9:ev e q9=str a9) (gi:ev e NY=str Ke) 
  (k:∀w',aj [] w w'->aK w' w.heap.size [str a1,str a2,str a3,str a4,str a5,str a6,str a7,str a8,str a9,str Ke].toArray E->w'.heap.size=w.heap.size+1->OW P n ops K rest (bQ e dst (.slice (some ⟨w.heap.size,0,none⟩) 10 10)) w'):
  OW P n ops K (⟨dst,.buildSlice T 10 #[(0,q1),(1,q2),(2,q3),(3,q4),(4,q5),(5,q6),(6,q7),(7,q8),(8,q9),(9,NY)],ty,pos,after,g⟩::rest) e w:=
 tE [q1,q2,q3,q4,q5,q6,q7,q8,q9,NY] [[str a1],[str a2],[str a3],[str a4],[str a5],[str a6],[str a7],[str a8],[str a9],[str Ke]] hT hE hg hd rfl rfl rfl rfl rfl (by simp[h1,h2,h3,h4,h5,h6,h7,h8,h9,gi,Value.cells]) rfl k
end
theorem bC.eq {u:aq} (h:bC L w v t) (e:t=u):bC L w v u:=e▸h
theorem fg {a:Option Addr} {c:Nat} (h:eU L w (.slice a n c) ts) (hi:i<ts.length):
  ∃b off pa pc,a=some ⟨b,off,none⟩∧fF L w b (off+i*2) [str (nth ts i).aw,.slice pa (nth ts i).ak.length pc]∧bC L w (.agg #[str (nth ts i).aw,.slice pa (nth ts i).ak.length pc]) (nth ts i):=by
 obtain⟨b,off,vs,ha,hb,hL,hl,hc,hr⟩:=An h (Mx (gh hi))
 obtain⟨pa,pn,pc,he,hn,hp⟩:=cY (t:=nth ts i) ⟨vs,rfl,hr⟩
 have hv:vs=[str (nth ts i).aw,.slice pa pn pc]:=by
  have:=congrArg (λv=>match v with|Value.agg x=>x.toList|_=>[]) he
  simpa using this
 subst hv hn
 exact⟨b,off,pa,pc,ha,⟨hc,hb,hL⟩,lF hp⟩
theorem aK.sn {T:Nat} (xs:List ai) (h:aK w b (xs.map λx=>str x).toArray T) (hl:xs.length<=100000:=by simp):cG w T (.slice (some ⟨b,0,none⟩) xs.length xs.length) (some b) xs:=
 ⟨by simp,.inr ⟨b,xs.length,_,rfl,rfl,h,lR _,Nat.le_trans hl de,sm,by rw[Nat.mul_one,List.take_of_length_le sm]⟩⟩
theorem aK.dO {T:Nat} (xs:List ai) (h:aK w b (xs.map λx=>str x).toArray T) (hL:b∉L) (hl:xs.length<=100000:=by simp):bf L w (.slice (some ⟨b,0,none⟩) xs.length xs.length) xs:=
 (h.sn xs hl).rep λq hq=>by cases hq;exact hL
theorem aK.ll {T:Nat} (h:aK w b #[] T):cG w T (.slice (some ⟨b,0,none⟩) 0 0) (some b) []:=U0 h
theorem tI (h:n<1000):(aU n).length<=3:=by grind [aU]
theorem mi (h:ai) (ps:List ai):(dW h ps).length=h.length+2+jH ps:=by grind [dW,Ta,jH]
theorem agw {m:Nat}:∀xs:List ai,(∀s,s∈xs->s.length<=m)->(xs.map List.length).sum<=xs.length*m:=by intro x;induction x<;>grind [lC,Nat.add_mul]
theorem BF {m:Nat} (xs:List ai) (h:∀s,s∈xs->s.length<=m):jH xs<=xs.length*(m+1):=by
 have:=agw xs h
 unfold jH;rw[Nat.mul_add];omega
structure ka (s:cH):Prop where
 types:yP (eH s)
 regs:∀p,p∈s->p.2.1<1000
theorem Hv (h:ka s) (x:ai):kI s x<1000:=by
 unfold kI
 cases hf:s.reverse.find? λp=>decide (p.1=x) with
 |none=>simp
 |some p=>exact h.regs p (List.mem_reverse.1 (List.mem_of_find?_eq_some hf))
theorem Kf (h:ka s) (x:ai):(kt s x).n<=16:=by
 unfold kt
 cases hl:look (eH s) x with
 |none=>decide
 |some T=>exact h.types x T hl
theorem qj (h:T.n<=16):(bz T).length<=256:=by have:=CT T;omega
theorem uK (h:T.n<=16):(dC (bz T)).length<=272:=by have:=qj h;rw[Nv];omega
theorem ka.snoc (h:ka s) {x:ai} {r:Nat} (hr:r<1000) (hT:T.n<=16):ka (s++[(x,r,T)]):=by
 refine⟨by rw[EN];exact GV h.types hT,λp hp=>?_⟩
 rcases mA.1 hp with hp|hp
 ·exact h.regs p hp
 ·simp only[List.mem_singleton] at hp;rw[hp];exact hr
def BG (s:ai):Prop:=∃T:Ty,T.n<=16∧s=dC (bz T)
/-! ### The type of a package's tuple -/
def mj (s:cH) (aL:List ai) (on:ai):List ai:=aL.map (λx=>bz (kt s x))++(if on≠[] then[on] else[])
def E2:Option Ty->ai
 |some T=>dC (bz T)
 |none=>[]
def uL (s:cH) (aL:List ai) (on:Option Ty):List aq:=aL.map (λx=>rH (kt s x))++(match on with|some T=>[AZ (rH T)]|none=>[])
theorem E3 (s:cH) (aL:List ai) (on:Option Ty):mj s aL (E2 on)=(uL s aL on).map aq.text:=by
 unfold mj uL
 rw[List.map_append,List.map_map]
 congr 1
 cases on with
 |none=>rfl
 |some T=>
  have dN:dC (bz T)≠[]:=by simp[dC]
  refine(iP (show E2 (some T)≠[] from dN)).trans ?_
  simp[E2,T4,bz]
theorem U4 (s:cH) (aL:List ai) (on:ai):(mj s aL on).length<=aL.length+1:=by grind [mj]
theorem U5 (h:ka s) {aL:List ai} {on:ai} (kS:on.length<=272):∀t,t∈mj s aL on->t.length<=272:=by grind [mj,qj,Kf]
theorem Hw (h:ka s) {aL:List ai} {on:ai} (hn:aL.length<=40) (kS:on.length<=272):(dW [116] (mj s aL on)).length<=11200:=by
 have h1:=BF _ (U5 h (aL:=aL) kS)
 have h2:=U4 s aL on
 have h3:(mj s aL on).length*(272+1)<=41*(272+1):=Nat.mul_le_mul om (lR _)
 rw[mi];simp only[lC,List.length_nil];omega
theorem agx (s:cH) (aL:List ai) (on:Option Ty):aL.length<=(uL s aL on).length:=by simp_all[uL]
theorem agy (s:cH) (aL:List ai) (on:Option Ty):∀t,t∈uL s aL on->Good t:=λt ht=>by
 unfold uL at ht
 rcases mA.1 ht with ht|ht
 ·obtain⟨x,_,rfl⟩:=List.mem_map.1 ht
  exact EL _
 ·cases on with
  |none=>simp at ht
  |some T=>simp only[List.mem_singleton] at ht;rw[ht];exact T3 (EL T)
theorem U6 (h:ka s) {aL:List ai} {on:Option Ty} (hn:aL.length<=40) (kS:∀T,on=some T->T.n<=16):
  bB (dW [116] (mj s aL (E2 on)))=some (xp [116] (uL s aL on)):=by
 have hg:=abF (h:=[116]) de de (agy s aL on)
 rw[E3,<-SW de]
 refine MS hg ?_ ?_
 ·show aq.depth.deeps (bM [116]::uL s aL on)<=60
  refine MO λp hp=>?_
  rcases mC.1 hp with rfl|hp
  ·have:(bM [116]).depth=0:=rfl
   omega
  ·unfold uL at hp
   rcases mA.1 hp with hp|hp
   ·obtain⟨x,_,rfl⟩:=List.mem_map.1 hp
    have:=EM (kt s x)
    have:=Kf h x
    omega
   ·cases on with
    |none=>simp at hp
    |some T=>
     simp only[List.mem_singleton] at hp
     have:=EM T
     have:=kS T rfl
     rw[hp,T5];omega
 ·rw[SW de,<-E3]
  have:=Hw h (aL:=aL) (on:=E2 on) hn (by
   cases on with
   |none=>simp[E2]
   |some T=>exact uK (kS T rfl))
  omega
/-! ### The state stays small -/
structure fi (m:Mk):Prop where
 types:∀s,s∈m.types->s.length<=100000
 code:∀s,s∈m.code->s.length<=100000
theorem fi.df (h:fi m) {k:ai} (hk:k.length<=100000):fi (m.df k):=⟨λs hs=>by
 rcases mA.1 hs with hs|hs
 ·exact h.types s hs
 ·simp only[List.mem_singleton] at hs;rw[hs];exact hk,h.code⟩
theorem fi.cE (h:fi m) {hd:ai} (hk:(dW hd ps).length<=100000):fi (m.cE hd ps):=⟨h.types,λs hs=>by
 rcases mA.1 hs with hs|hs
 ·exact h.code s hs
 ·simp only[List.mem_singleton] at hs;rw[hs];exact hk⟩
structure agz (m m':Mk) (dt dc:Nat):Prop where
 blocks:m'.blocks=m.blocks
 bJ:m'.bJ=m.bJ
 types:m'.types.length=m.types.length+dt
 code:m'.code.length=m.code.length+dc
theorem U7 (m:Mk) (s:cH) (ton:Nat) (aL:List ai) (on aJ kind:ai) (ck:List ai):agz m (pA m s ton aL on aJ kind ck).m 4 4:=by
 refine⟨rfl,rfl,?_,?_⟩<;>simp[pA,Mk.df,Mk.cE]
theorem U8 (m:Mk) (s:cH) (ton:Nat) (aL:List ai) (on aJ kind:ai) (ck:List ai):(pA m s ton aL on aJ kind ck).w=dW [116] (mj s aL on):=rfl
theorem U9 (hm:fi m) (hs:ka s) {ton:Nat} (ht:ton<1000) {aL:List ai} (hn:aL.length<=40) {on aJ kind:ai} (kS:on.length<=272) (hl:aJ.length<=10) (hk:kind.length<=272) {ck:List ai} (dN:ck.length<=2) (NZ:∀x,x∈ck->x.length<=272) (eY:m.types.length+4<1000):fi (pA m s ton aL on aJ kind ck).m:=by
 have hw:=Hw hs hn kS
 have dec:∀k,k<1000->(aU k).length<=3:=λk hk=>tI hk
 have aqm:=BF ck NZ
 have Va:(dW [99] (dW [116] (mj s aL on)::ck)).length<=12000:=by
  rw[mi]
  have:jH (dW [116] (mj s aL on)::ck)=1+(dW [116] (mj s aL on)).length+jH ck:=by unfold jH;simp;omega
  have h3:ck.length*(272+1)<=2*(272+1):=Nat.mul_le_mul dN (lR _)
  simp only[lC,List.length_nil];omega
 have regs:∀x,x∈aL.map (λx=>aU (kI s x))++(if on≠[] then[aU ton] else[])->x.length<=3:=λx hx=>by
  rcases mA.1 hx with hx|hx
  ·obtain⟨y,_,rfl⟩:=List.mem_map.1 hx
   exact dec _ (Hv hs y)
  ·split at hx
   ·simp only[List.mem_singleton] at hx;rw[hx];exact dec _ ht
   ·simp at hx
 have oN:(aL.map (λx=>aU (kI s x))++(if on≠[] then[aU ton] else[])).length<=41:=by
  rw[lA,List.length_map]
  split<;>simp<;>omega
 unfold pA
 have s2:∀a b:ai,jH [a,b]=2+a.length+b.length:=λa b=>by simp[jH];omega
 have s3:∀a b c:ai,jH [a,b,c]=3+a.length+b.length+c.length:=λa b c=>by simp[jH];omega
 have s4:∀a b c d:ai,jH [a,b,c,d]=4+a.length+b.length+c.length+d.length:=λa b c d=>by simp[jH];omega
 have pg:=dec m.types.length om
 have cz:=dec (m.types.length+1) om
 have bZ:=dec (m.types.length+2) om
 have BH:=dec (m.types.length+3) om
 refine fi.cE (fi.df (fi.cE (fi.df (fi.cE (fi.df (fi.cE (fi.df hm ?_) ?_) ?_) ?_) ?_) ?_) ?_) ?_
 ·exact Nat.le_trans hw om
 ·have h1:=BF _ regs
  have h2:(aL.map (λx=>aU (kI s x))++(if on≠[] then[aU ton] else[])).length*(3+1)<=41*(3+1):=Nat.mul_le_mul oN (lR _)
  rw[mi]
  have:jH (aU m.types.length::(aL.map (λx=>aU (kI s x))++(if on≠[] then[aU ton] else[])))=1+(aU m.types.length).length+jH (aL.map (λx=>aU (kI s x))++(if on≠[] then[aU ton] else[])):=by unfold jH;simp;omega
  rw[this]
  simp only[lC,List.length_nil];omega
 ·exact Nat.le_trans Va om
 ·rw[mi,s2];simp only[lC,List.length_nil];omega
 ·rw[mi,s2];have:=hw;unfold mj at this Va;simp only[lC,List.length_nil];unfold mj at hw;omega
 ·rw[mi,s3];simp only[lC,List.length_nil];omega
 ·omega
 ·rw[mi,s4];have:=hw;unfold mj at this;simp only[lC,List.length_nil];omega
structure Ext (m m':Mk) (k:Nat) (new:List Tk):Prop where
 blocks:m'.blocks=m.blocks
 bJ:m'.bJ=m.bJ++new
 count:m'.count=m.count+new.length
 types:m.types.length<=m'.types.length∧m'.types.length<=m.types.length+k
 code:m'.code.length<=m.code.length+2*k
theorem Ext.refl (m:Mk):Ext m m 0 []:=⟨rfl,sm,rfl,om,om⟩
theorem Ext.trans {j:Nat} {p q:List Tk} (h:Ext m m1 j p) (h2:Ext m1 m2 k q):Ext m m2 (j+k) (p++q):=
 ⟨h2.blocks.trans h.blocks,by rw[h2.bJ,h.bJ,List.append_assoc],by rw[h2.count,h.count,lA];omega,by have:=h.types;have:=h2.types;omega,by have:=h.code;have:=h2.code;omega⟩
theorem Ext.more {m':Mk} {j:Nat} {p:List Tk} (h:Ext m m' j p) (hk:j<=k):Ext m m' k p:=⟨h.blocks,h.bJ,h.count,by have:=h.types;omega,by have:=h.code;omega⟩
theorem N0 {s:ai} (h:qL s=true):s.length<=4:=by grind [qL,numeral,SG,dQ]
theorem oR (h:e.ok):e.aw.length<=4:=by cases e<;>grind [Ex.ok,Ex.aw,N0]
theorem BI (a b:ai):jH [a,b]=2+a.length+b.length:=by simp[jH];omega
theorem Hx {m:Mk} (hm:fi m) (hs:ka s) (ha:a.length<=4) (ht:m.types.length<1000):Ext m (cm m s a).1 1 []∧fi (cm m s a).1∧(cm m s a).2<1000:=by
 unfold cm
 split
 ·exact⟨(Ext.refl m).more om,hm,Hv hs a⟩
 ·refine⟨⟨rfl,by simp[Mk.df,Mk.cE],rfl,by simp[Mk.df,Mk.cE],by simp[Mk.df,Mk.cE]⟩,fi.cE (fi.df hm sm) ?_,ht⟩
  have:=tI ht
  rw[mi,BI];simp only[lC,List.length_nil];omega
/-! ### Tasks -/
structure oS (t:Tk):Prop where
 ok:t.expr.ok
 type:∃T,bA t.expr (eH t.sc)=some T
 sc:ka t.sc
 bud:5*t.sc.length+2*t.expr.n<=240
 room:t.regs.length+t.loads+8*t.expr.n<=990
 regs:∀r,r∈t.regs->r.length<=100000
 loads:t.loads=0∨∃ts:List aq,t.regs.head?=some (dW [116] (ts.map aq.text))∧t.loads<=ts.length∧bB (dW [116] (ts.map aq.text))=some (xp [116] ts)
 self:t.self=[]∨∃a b,t.self=[a,b]∧a.length<=272∧b.length<=11200∧t.regs.length=3∧∀r,r∈t.regs->r.length<=11200
 aW:BG t.aW
 on:t.on<1000
 aJ:t.aJ.length<=4
theorem N2 (s:cH) (k:Nat) (aL:List ai):eH (iF s k aL [])=aL.map λx=>(x,kt s x):=by
 unfold iF eH
 rw[List.nil_append,List.map_map]
 have:∀(l:List ai) (j:Nat),(l.zipIdx j).map ((λp:ai×Nat×Ty=>(p.1,p.2.2))∘λp=>(p.1,k+p.2,kt s p.1))=l.map λx=>(x,kt s x):=by
  intro l
  induction l with
  |nil=>intro j;rfl
  |cons x l ih=>intro j;simp only[List.zipIdx_cons,List.map_cons,Function.comp,ih]
 exact this aL 0
theorem N3:∀{aL:List ai} {x:ai},x∈aL->look (aL.map λx=>(x,kt s x)) x=some (kt s x):=by
 intro aL x h
 have key:∀(l:List ai),(∃y,y∈l∧y=x)->(l.map λx=>(x,kt s x)).find? (λp=>decide (p.1=x))=some (x,kt s x):=by
  intro l
  induction l with
  |nil=>rintro⟨_,hy,_⟩;simp at hy
  |cons y l ih=>
   intro hh
   rw[List.map_cons,List.find?_cons]
   by_cases e:y=x
   ·rw[dT e,e]
   ·rw[dF e]
    obtain⟨z,hz,Vb⟩:=hh
    rcases mC.1 hz with hz|hz
    ·exact absurd (hz▸Vb) e
    ·exact ih ⟨z,hz,Vb⟩
 unfold look
 rw[<-List.map_reverse,key aL.reverse ⟨x,List.mem_reverse.2 h,rfl⟩];rfl
theorem Vc (h:ka s) (k:Nat) (aL:List ai) (hn:k+aL.length<1000):ka (iF s k aL []):=by
 refine⟨λx T hT=>?_,λp hp=>?_⟩
 ·rw[N2] at hT
  have hx:x∈aL:=by
   unfold look at hT
   cases hf:(aL.map λx=>(x,kt s x)).reverse.find? (λp=>decide (p.1=x)) with
   |none=>rw[hf] at hT;cases hT
   |some q=>
    have h1:=List.find?_some hf
    have h2:=List.mem_reverse.1 (List.mem_of_find?_eq_some hf)
    obtain⟨y,hy,rfl⟩:=List.mem_map.1 h2
    rw[<-of_decide_eq_true h1];exact hy
  rw[N3 hx] at hT
  cases hT;exact Kf h x
 ·unfold iF at hp
  rw[List.nil_append] at hp
  obtain⟨q,hq,rfl⟩:=List.mem_map.1 hp
  have:=List.snd_lt_of_mem_zipIdx hq
  show k+q.2<1000;omega
theorem zk (s:cH) (k:Nat) (aL:List ai):(iF s k aL []).length=aL.length:=by simp[iF]
theorem N4 {x:ai} (h:(look (eH s) x).isSome=true):look (eH s) x=some (kt s x):=by
 unfold kt
 cases hl:look (eH s) x with
 |none=>rw[hl] at h;cases h
 |some T=>rfl
theorem N5 {bd:List ai} (hb:5*s.length+2*e.n<=240) (hf:∀x,Fv x e->x∉bd->(look (eH s) x).isSome=true):(cM e bd []).length<=34∧(cM e bd []).length<=s.length:=by
 have h1:=Ni e bd []
 have h2:(cM e bd []).length<=(s.map Prod.fst).length:=Nk (aft e bd [] List.nodup_nil) λx hx=>by
  rcases(CS x e bd []).1 hx with h|⟨hx,hb⟩
  ·simp at h
  ·have:=hf x hx hb
   unfold look at this
   cases hq:(eH s).reverse.find? λp=>decide (p.1=x) with
   |none=>rw[hq] at this;cases this
   |some q=>
    have h3:=List.find?_some hq
    have h4:=List.mem_reverse.1 (List.mem_of_find?_eq_some hq)
    unfold eH at h4
    obtain⟨p,hp,rfl⟩:=List.mem_map.1 h4
    rw[<-of_decide_eq_true h3]
    exact List.mem_map.2 ⟨p,hp,rfl⟩
 simp only[List.length_nil,Nat.zero_add,List.length_map] at h1 h2
 omega
theorem Vd {ton:Nat} {aL:List ai} {on aJ kind:ai} {ck:List ai}:Ext m (pA m s ton aL on aJ kind ck).m 4 []:=by
 have h:=U7 m s ton aL on aJ kind ck
 exact⟨h.blocks,by rw[h.bJ];simp,rfl,by rw[h.types];omega,by rw[h.code];omega⟩
theorem BJ {m:Mk} (h:m.count<1000):m.aJ.length<=4:=by grind [Mk.aJ,tI]
theorem Ve {m:Mk} {f x:ai} {A B:Ty} (hs:ka s) (bh:(Ex.fn f x A B e).ok) (ht:bA (.fn f x A B e) (eH s)=some T) (hb:5*s.length+2*(Ex.fn f x A B e).n<=240) (hc:m.count<1000):oS (A5 m s f x A B e)∧(cM (.fn f x A B e) [] []).length<=34∧1+A.n+B.n<=16:=by
 obtain⟨hf,hx,dN,hA,hB,he⟩:=bh
 have tJ:∀y,Fv y (.fn f x A B e)->y∉([]:List ai)->(look (eH s) y).isSome=true:=λy hy _=>qd ht hy
 obtain⟨fD,iG⟩:=N5 hb tJ
 have yX:1+A.n+B.n<=16∧bA e (eH s++[(f,.op true A B),(x,A)])=some B:=by
  unfold bA at ht
  split at ht
  ·rename_i jz
   cases wb:bA e (eH s++[(f,.op true A B),(x,A)]) with
   |none=>rw[wb] at ht;cases ht
   |some C=>
    rw[wb,Option.bind_some] at ht
    split at ht
    ·rename_i hq;rw[afw.1 hq];exact⟨jz,rfl⟩
    ·cases ht
  ·cases ht
 have BK:(Ty.op true A B).n<=16:=yX.1
 have xO:(bz (.op true A B)).length<=256:=qj BK
 have hn:(Ex.fn f x A B e).n=3+A.n+B.n+e.n:=rfl
 rw[hn] at hb
 have hA1:=A.pos
 have Kg:=B.pos
 have Kh:=Vc hs 3 (cM (.fn f x A B e) [] []) om
 have Hy:(oH m s f x A B e).w=dW [116] (mj s (cM (.fn f x A B e) [] []) []):=U8 ..
 have Hz:(oH m s f x A B e).w.length<=11200:=by rw[Hy];exact Hw hs om sm
 have eY:bA e (eH (A4 s f x A B e))=some B:=by
  rw[<-yX.2]
  unfold A4
  rw[EN]
  refine qN e _ _ λy Ki hy=>?_
  rw[pw,AW]
  by_cases e1:x=y
  ·rw[iP e1,iP e1]
  ·rw[iN e1,iN e1]
   by_cases e2:f=y
   ·have h0:0<j9 f e:=(afv hf e).2 (e2▸hy)
    rw[iP e2,iP h0,EN,pw,iP e2]
   ·rw[iN e2]
    have Vf:Fv y (.fn f x A B e):=⟨λe'=>e2 e'.symm,λe'=>e1 e'.symm,hy⟩
    have sw:y∈cM (.fn f x A B e) [] []:=(CS y _ [] []).2 (.inr ⟨Vf,sm⟩)
    have hl:look (eH (iF s 3 (cM (.fn f x A B e) [] []) [])) y=look (eH s) y:=by
     rw[N2,N3 sw,N4 (qd ht Vf)]
    split
    ·rw[EN,pw,iN e2,hl]
    ·exact hl
 have Vg:ka (A4 s f x A B e):=by
  unfold A4
  split
  ·exact(Kh.snoc om BK).snoc om hA
  ·exact Kh.snoc om hA
 have oh:5*(A4 s f x A B e).length+2*e.n<=240:=by
  unfold A4
  rw[lA]
  split
  ·rw[lA,zk];simp only[lC,List.length_nil];omega
  ·rw[zk];simp only[lC,List.length_nil];omega
 refine⟨{ok:=he,type:=⟨B,eY⟩,sc:=Vg,bud:=oh,room:=?_,regs:=?_,loads:=?_,self:=?_,aW:=⟨B,hB,rfl⟩,on:=?_,aJ:=BJ hc},fD,yX.1⟩
 ·show 3+(cM (.fn f x A B e) [] []).length+8*e.n<=990
  omega
 ·intro r hr
  have sk:r∈[(oH m s f x A B e).w,bz A,dC (bz B)]:=hr
  simp only[mC,List.not_mem_nil,or_false] at sk
  rcases sk with rfl|rfl|rfl
  ·omega
  ·have:=qj hA;omega
  ·have:=uK hB;omega
 ·refine .inr ⟨uL s (cM (.fn f x A B e) [] []) none,?_,agx _ _ _,?_⟩
  ·show some (oH m s f x A B e).w=_
   rw[Hy,<-E3];rfl
  ·rw[<-E3];exact U6 hs om sm
 ·show(if 0<j9 f e then[bz (.op true A B),(oH m s f x A B e).w] else[])=[]∨_
  by_cases h0:0<j9 f e
  ·refine .inr ⟨bz (.op true A B),(oH m s f x A B e).w,iP h0,om,Hz,rfl,λr hr=>?_⟩
   have sk:r∈[(oH m s f x A B e).w,bz A,dC (bz B)]:=hr
   simp only[mC,List.not_mem_nil,or_false] at sk
   rcases sk with rfl|rfl|rfl
   ·exact Hz
   ·have:=qj hA;omega
   ·have:=uK hB;omega
  ·exact .inl (iN h0)
 ·show(2:Nat)<1000;omega
theorem agA {f x:ai} {A B:Ty} (hm:fi m) (hs:ka s) (bh:(Ex.fn f x A B e).ok) (ht:bA (.fn f x A B e) (eH s)=some T) (hb:5*s.length+2*(Ex.fn f x A B e).n<=240) (eY:m.types.length+4<1000) (hc:m.count<1000):
  Ext m (A6 m s f x A B e).1 4 [A5 m s f x A B e]∧fi (A6 m s f x A B e).1∧(A6 m s f x A B e).2<1000∧oS (A5 m s f x A B e):=by
 obtain⟨hi,fD,BK⟩:=Ve (m:=m) hs bh ht hb hc
 obtain⟨_,_,_,hA,hB,_⟩:=bh
 have xO:(bz (.op true A B)).length<=256:=qj BK
 have hp:Ext m.lN (oH m s f x A B e).m 4 []:=Vd
 have HA:fi m.lN:=⟨hm.types,hm.code⟩
 have pH:fi (oH m s f x A B e).m:=U9 HA hs om om sm (by have:=BJ hc;omega) om sm (λy hy=>by
  simp only[mC,List.not_mem_nil,or_false] at hy
  rcases hy with rfl|rfl
  ·have:=qj hA;omega
  ·exact uK hB) eY
 have h1:(oH m s f x A B e).m.bJ=m.bJ:=by rw[hp.bJ];simp[Mk.lN]
 have h2:(oH m s f x A B e).m.count=m.count+1:=by rw[hp.count];simp[Mk.lN]
 refine⟨⟨hp.blocks,?_,h2,hp.types,hp.code⟩,⟨pH.types,pH.code⟩,?_,hi⟩
 ·show(oH m s f x A B e).m.bJ++[A5 m s f x A B e]=m.bJ++[A5 m s f x A B e]
  rw[h1]
 ·show m.types.length+3<1000;omega
theorem agB {m:Mk} {ton:Nat} {aW name:ai} {kind:Ty} {rest:Ex} (hs:ka s) (kS:BG aW) (xO:kind.n<=16) (bh:rest.ok) (ht:bA rest (eH s++[(name,kind)])=some T) (hb:5*(s.length+1)+2*rest.n<=240) (hc:m.count<1000):oS (JT m s ton aW name kind rest)∧(cM rest [name] []).length<=34:=by
 obtain⟨O,hO,rfl⟩:=kS
 have tJ:∀y,Fv y rest->y∉[name]->(look (eH s) y).isSome=true:=λy hy hn=>by
  have:=qd ht hy
  rw[pw,iN (λe=>hn (by rw[e];simp))] at this;exact this
 obtain⟨fD,iG⟩:=N5 om tJ
 have Kh:=Vc hs 2 (cM rest [name] []) om
 have Hy:(oI m s ton (dC (bz O)) name kind rest).w=dW [116] (mj s (cM rest [name] []) (dC (bz O))):=U8 ..
 have Hz:(oI m s ton (dC (bz O)) name kind rest).w.length<=11200:=by rw[Hy];exact Hw hs om (uK hO)
 have eY:bA rest (eH (iF s 2 (cM rest [name] []) []++[(name,1,kind)]))=some T:=by
  rw[<-ht,EN]
  refine qN rest _ _ λy Ki hy=>?_
  rw[pw,pw]
  by_cases e1:name=y
  ·rw[iP e1,iP e1]
  ·rw[iN e1,iN e1]
   have eT:y∉[name]:=λh=>e1 (by simpa using h:y=name).symm
   have sw:y∈cM rest [name] []:=(CS y _ [name] []).2 (.inr ⟨hy,eT⟩)
   rw[N2,N3 sw,N4 (tJ y hy eT)]
 refine⟨{ok:=bh,type:=⟨T,eY⟩,sc:=Kh.snoc om xO,bud:=?_,room:=?_,regs:=?_,loads:=?_,self:=.inl rfl,aW:=⟨O,hO,rfl⟩,on:=?_,aJ:=BJ hc},fD⟩
 ·show 5*(iF s 2 (cM rest [name] []) []++[(name,1,kind)]).length+2*rest.n<=240
  rw[lA,zk];simp only[lC,List.length_nil];omega
 ·show 2+((cM rest [name] []).length+1)+8*rest.n<=990
  omega
 ·intro r hr
  have sk:r∈[(oI m s ton (dC (bz O)) name kind rest).w,bz kind]:=hr
  simp only[mC,List.not_mem_nil,or_false] at sk
  rcases sk with rfl|rfl
  ·omega
  ·have:=qj xO;omega
 ·refine .inr ⟨uL s (cM rest [name] []) (some O),?_,?_,?_⟩
  ·show some (oI m s ton (dC (bz O)) name kind rest).w=_
   rw[Hy,<-E3];rfl
  ·show(cM rest [name] []).length+1<=_
   unfold uL;rw[lA,List.length_map];simp
  ·rw[<-E3];exact U6 hs om (λT hT=>by cases hT;exact hO)
 ·show 2+(cM rest [name] []).length<1000;omega
theorem agC {ton:Nat} {aW name:ai} {kind:Ty} {rest:Ex} (hm:fi m) (hs:ka s) (rN:ton<1000) (kS:BG aW) (xO:kind.n<=16) (bh:rest.ok) (ht:bA rest (eH s++[(name,kind)])=some T) (hb:5*(s.length+1)+2*rest.n<=240) (eY:m.types.length+4<1000) (hc:m.count<1000):
  Ext m (uF m s ton aW name kind rest).1 4 [JT m s ton aW name kind rest]∧fi (uF m s ton aW name kind rest).1∧(uF m s ton aW name kind rest).2.1<1000∧BG (uF m s ton aW name kind rest).2.2∧oS (JT m s ton aW name kind rest):=by
 obtain⟨hi,fD⟩:=agB (m:=m) (ton:=ton) hs kS xO bh ht hb hc
 obtain⟨O,hO,rfl⟩:=kS
 have hp:Ext m.lN (oI m s ton (dC (bz O)) name kind rest).m 4 []:=Vd
 have HA:fi m.lN:=⟨hm.types,hm.code⟩
 have pH:fi (oI m s ton (dC (bz O)) name kind rest).m:=U9 HA hs rN om (uK hO) (by have:=BJ hc;omega) (uK xO) sm (λy hy=>by
  simp only[List.mem_singleton] at hy
  rw[hy];have:=qj xO;omega) eY
 have h1:(oI m s ton (dC (bz O)) name kind rest).m.bJ=m.bJ:=by rw[hp.bJ];simp[Mk.lN]
 have h2:(oI m s ton (dC (bz O)) name kind rest).m.count=m.count+1:=by rw[hp.count];simp[Mk.lN]
 refine⟨⟨hp.blocks,?_,h2,hp.types,hp.code⟩,⟨pH.types,pH.code⟩,?_,⟨kind,xO,rfl⟩,hi⟩
 ·show(oI m s ton (dC (bz O)) name kind rest).m.bJ++[_]=m.bJ++[_]
  rw[h1]
 ·show m.types.length+3<1000;omega
theorem HB (m:Mk) (k:ai):Ext m (m.df k) 1 []:=⟨rfl,by simp[Mk.df],rfl,by simp[Mk.df],by simp[Mk.df]⟩
theorem uM (m:Mk) (h:ai) (ps:List ai):Ext m (m.cE h ps) 1 []:=⟨rfl,by simp[Mk.cE],rfl,by simp[Mk.cE],by simp[Mk.cE]⟩
theorem zn (m:Mk) (k:ai):(m.df k).types.length=m.types.length+1:=by simp[Mk.df]
theorem oT (m:Mk) (h:ai) (ps:List ai):(m.cE h ps).types=m.types:=rfl
theorem oq {n:Nat} (h:n<1000):(aU n).length<=3:=tI h
theorem oU {m:Mk} (h:fi m) {hd:ai} (hh:hd.length<=5) (hp:ps.length<=4) (hs:∀p,p∈ps->p.length<=300):fi (m.cE hd ps):=h.cE (by
 have h1:=BF (m:=300) ps hs
 have h2:ps.length*301<=4*301:=Nat.mul_le_mul hp (lR _)
 rw[mi];omega)
theorem E4 {s:ai} (h:dQ s=true):s.length<=4:=by grind [dQ]
def kY (ts:List Tk):Nat:=(ts.map λt=>t.expr.n+1).sum
theorem HC (a b:List Tk):kY (a++b)=kY a+kY b:=by grind [kY]
theorem N6 (t:Tk):kY [t]=t.expr.n+1:=by simp[kY]
theorem HD:kY []=0:=rfl
theorem Vh {b:ai} (hm:fi m) (hs:ka s) (ha:a.length<=4) (hb:b.length<=4) (ht:m.types.length+1<1000):
  (Ext m (cm m s a).1 1 []∧fi (cm m s a).1∧(cm m s a).2<1000)∧Ext m (cm (cm m s a).1 s b).1 2 []∧fi (cm (cm m s a).1 s b).1∧(cm (cm m s a).1 s b).2<1000:=by
 have h1:=Hx hm hs ha om
 have h2:=Hx (m:=(cm m s a).1) (a:=b) h1.2.1 hs hb (by have:=h1.1.types;omega)
 exact⟨h1,h1.1.trans h2.1,h2.2⟩
structure Vi (m m':Mk) (r:Nat) (n:Nat) (new:List Tk):Prop where
 ext:Ext m m' 4 new
 sml:fi m'
 df:r<1000
 inv:∀k,k∈new->oS k
 num:kY new+1<=n
theorem N7 (hm:fi m) (hs:ka s) (bh:e.ok) (ht:bA e (eH s)=some T) (hb:5*s.length+2*e.n<=240) (eY:m.types.length+8*e.n<=1000) (hc:m.count<1000):
  ∃new,Vi m (mY m s T e).1 (mY m s T e).2 e.n new:=by
 have hT:=l5 hs.types ht
 have hk:=qj hT
 have two:∀(h a b:ai),a.length<=4->b.length<=4->h.length<=5->m.types.length+8<=1000->∀n,1<=n->
   Vi m (((cm (cm m s a).1 s b).1.df (bz T)).cE h [aU (cm (cm m s a).1 s b).1.types.length,aU (cm m s a).2,aU (cm (cm m s a).1 s b).2]) (cm (cm m s a).1 s b).1.types.length n []:=by
  intro h a b ha hb hh h8 n hn
  obtain⟨⟨e1,_,r1⟩,e2,s2,r2⟩:=Vh hm hs ha hb om
  have N8:=e2.types
  refine⟨(e2.trans ((HB _ _).trans (uM _ _ _))),oU (s2.df om) hh sm ?_,om,sm,by simp[HD];omega⟩
  intro p hp
  simp only[mC,List.not_mem_nil,or_false] at hp
  rcases hp with rfl|rfl|rfl
  ·have:=oq (n:=(cm (cm m s a).1 s b).1.types.length) om;omega
  ·have:=oq r1;omega
  ·have:=oq r2;omega
 cases e with
 |«at» a=>
  obtain⟨h1,h2,h3⟩:=Hx hm hs (N0 bh) (by simp only[Ex.n] at eY;omega)
  exact⟨[],h1.more om,h2,h3,sm,by simp[HD,Ex.n]⟩
 |un h a=>
  simp only[Ex.n] at eY
  have zo:=a.pos
  obtain⟨h1,h2,h3⟩:=Hx hm hs (oR bh.2) om
  have N8:=h1.types
  refine⟨[],((h1.trans ((HB _ _).trans (uM _ _ _)))).more om,oU (h2.df om) sm sm ?_,?_,sm,by simp[HD,Ex.n]⟩
  ·intro p hp
   simp only[mC,List.not_mem_nil,or_false] at hp
   rcases hp with rfl|rfl|rfl
   ·have:=oq (n:=(cm m s a.aw).1.types.length) om;omega
   ·have:=oq h3;omega
   ·split<;>simp
  ·show(cm m s a.aw).1.types.length<1000;omega
 |bi h a b=>
  simp only[Ex.n] at eY
  have zo:=a.pos
  refine⟨[],two (qR h) a.aw b.aw (oR bh.2.1) (oR bh.2.2) ?_ om _ (Ex.pos _)⟩
  unfold qR;split
  ·simp
  ·split
   ·simp
   ·split<;>simp
 |ite a b c=>
  simp only[Ex.n] at eY
  exact⟨[],two (qR gJ) a.aw b.aw (oR bh.1) (oR bh.2.1) de om _ (Ex.pos _)⟩
 |lt x a b=>
  simp only[Ex.n] at eY
  exact⟨[],two (qR gv) x a.aw (E4 bh.1) (oR bh.2.1) de om _ (Ex.pos _)⟩
 |fn f x A B e=>
  simp only[Ex.n] at eY
  obtain⟨h1,h2,h3,h4⟩:=agA hm hs bh ht hb om hc
  refine⟨_,h1,h2,h3,λk hk=>by simp only[List.mem_singleton] at hk;rw[hk];exact h4,?_⟩
  rw[N6];simp only[A5,Ex.n];omega
theorem Vj (hm:fi m) {s:Nat} (hs:s<1000) (ht:m.types.length+3<1000):Ext m (tq m s) 6 []∧fi (tq m s)∧(tq m s).types.length=m.types.length+3:=by
 have h0:=oq hs
 have h1:=oq (n:=m.types.length) om
 have h2:=oq (n:=m.types.length+1) om
 have h3:=oq (n:=m.types.length+2) om
 unfold tq
 have z:([]:ai).length<=100000:=by simp
 refine⟨(HB _ _).trans ((uM _ _ _).trans ((HB _ _).trans ((uM _ _ _).trans ((HB _ _).trans (uM _ _ _))))),?_,by simp[Mk.df,Mk.cE]⟩
 refine oU (fi.df (oU (fi.df (oU (fi.df hm z) sm sm ?_) z) sm sm ?_) z) sm sm ?_
 all_goals
  intro p hp
  simp only[mC,List.not_mem_nil,or_false] at hp
  rcases hp with rfl|rfl|rfl<;>first|omega|simp
theorem agD (hm:fi m) {f on:Nat} (hf:f<1000) (hx:x<1000) (ho:on<1000) (ht:m.types.length+3<1000):Ext m (yQ m f x on) 10 []∧fi (yQ m f x on):=by
 obtain⟨h1,h2,h3⟩:=Vj hm hf ht
 have d1:=oq (n:=m.types.length+1) om
 have d2:=oq (n:=m.types.length+2) om
 have d3:=oq hx
 have d4:=oq ho
 unfold yQ
 refine⟨h1.trans ((uM _ _ _).trans ((uM _ _ _).trans ((uM _ _ _).trans (uM _ _ _)))),?_⟩
 refine oU (oU (oU (oU h2 sm sm ?_) sm sm ?_) sm sm ?_) sm sm ?_
 all_goals
  intro p hp
  simp only[mC,List.not_mem_nil,or_false] at hp
  first
  |(rcases hp with rfl|rfl<;>first|omega|simp)
  |(rw[hp];omega)
theorem agE (hm:fi m) {on r:Nat} (ho:on<1000) (hr:r<1000) (ht:m.types.length+3<1000):Ext m (yR m on r) 10 []∧fi (yR m on r):=by
 obtain⟨h1,h2,h3⟩:=Vj hm ho ht
 have d1:=oq (n:=m.types.length+1) om
 have d2:=oq (n:=m.types.length+2) om
 have d3:=oq hr
 unfold yR
 refine⟨(h1.trans ((uM _ _ _).trans ((uM _ _ _).trans (uM _ _ _)))).more om,?_⟩
 refine oU (oU (oU h2 sm sm ?_) sm sm ?_) sm sm ?_
 all_goals
  intro p hp
  simp only[mC,List.not_mem_nil,or_false] at hp
  first
  |(rcases hp with rfl|rfl<;>first|omega|simp)
  |(rw[hp];omega)
structure ot (m:Mk) (s:cH) (on:Nat) (aW:ai) (e:Ex):Prop where
 sml:fi m
 sc:ka s
 ok:e.ok
 type:∃T,bA e (eH s)=some T
 bud:5*s.length+2*e.n<=240
 room:m.types.length+8*e.n<=1000
 on:on<1000
 aW:BG aW
 cnt:m.count+e.n<=900
structure we (m:Mk) (s:cH) (on:Nat) (aW:ai) (e:Ex) (T:Ty):Prop where
 ok:(bH e).s.ok
 type:bA (bH e).s (eH s)=some T
 small:T.n<=16
 oc:oc s (bH e).s=T
 le:(bH e).s.n<=e.n
 last:(bH e).name=[]->(bH e).s=e
 rest:(bH e).name≠[]->dQ (bH e).name=true∧(bH e).rest.ok∧(∃U,bA (bH e).rest (eH s++[((bH e).name,T)])=some U)∧(bH e).s.n+(bH e).rest.n+2<=e.n
theorem ot.goal {on:Nat} {aW:ai} (h:ot m s on aW e):∃T,we m s on aW e T:=by
 obtain⟨T,hT⟩:=h.type
 have same:bH e=⟨[],e,e⟩->∃T,we m s on aW e T:=λhg=>by
  refine⟨T,?_,?_,l5 h.sc.types hT,?_,?_,?_,?_⟩
  ·rw[hg];exact h.ok
  ·rw[hg];exact hT
  ·rw[hg];unfold oc;rw[hT];rfl
  ·rw[hg];exact lR _
  ·intro _;rw[hg]
  ·intro hn;rw[hg] at hn;exact absurd rfl hn
 have bh:=h.ok
 cases e with
 |lt x a b=>
  unfold bA at hT
  cases ha:bA a (eH s) with
  |none=>rw[ha] at hT;cases hT
  |some A=>
   rw[ha,Option.bind_some] at hT
   refine⟨A,bh.2.1,ha,l5 h.sc.types ha,by show(bA a (eH s)).getD .i=A;rw[ha];rfl,by simp only[bH,Ex.n];omega,λhn=>absurd hn (vR bh.1),λ_=>⟨bh.1,bh.2.2,⟨T,hT⟩,by simp only[bH,Ex.n];omega⟩⟩
 |«at» a=>exact same rfl
 |un a b=>exact same rfl
 |bi a b c=>exact same rfl
 |ite a b c=>exact same rfl
 |fn a b c d f=>exact same rfl
def eP (m:Mk) (s:cH) (on:Nat) (aW name:ai) (kind:Ty) (rest:Ex):Mk×Nat×ai:=if name≠[] then uF m s on aW name kind rest else(m,on,aW)
structure Cut (m m':Mk) (on':Nat) (onOf':ai) (n:Nat) (new:List Tk):Prop where
 ext:Ext m m' 4 new
 sml:fi m'
 on:on'<1000
 aW:BG onOf'
 inv:∀k,k∈new->oS k
 num:kY new<=n
theorem Vk {m0:Mk} {on:Nat} {aW:ai} (h:ot m0 s on aW e) (g:we m0 s on aW e T) (hm:fi m) (eY:m.types.length+4<1000) (hc:m.count<1000) (h3:2<=(bH e).s.n):
  ∃new,Cut m (eP m s on aW (bH e).name T (bH e).rest).1 (eP m s on aW (bH e).name T (bH e).rest).2.1 (eP m s on aW (bH e).name T (bH e).rest).2.2 (e.n-(bH e).s.n) new:=by
 by_cases hn:(bH e).name=[]
 ·unfold eP
  rw[iN (by simp[hn])]
  exact⟨[],(Ext.refl m).more om,hm,h.on,h.aW,sm,by simp[HD]⟩
 ·unfold eP
  rw[iP hn]
  obtain⟨eT,HE,⟨U,hU⟩,qk⟩:=g.rest hn
  have hb:=h.bud
  obtain⟨h1,h2,h3,h4,h5⟩:=agC (name:=(bH e).name) hm h.sc h.on h.aW g.small HE hU om eY hc
  refine⟨_,h1,h2,h3,h4,λk hk=>by simp only[List.mem_singleton] at hk;rw[hk];exact h5,?_⟩
  rw[N6]
  show(bH e).rest.n+1<=_
  omega
structure Fin (m m':Mk) (n:Nat) (new:List Tk):Prop where
 ext:Ext m m' 20 new
 sml:fi m'
 inv:∀k,k∈new->oS k
 num:kY new+1<=n
structure On (m m':Mk) (s:cH) (on:Nat) (aW:ai) (n:Nat) (r:Ex) (new:List Tk):Prop where
 ext:Ext m m' 20 new
 inv:ot m' s on aW r
 bJ:∀k,k∈new->oS k
 num:kY new+r.n+1<=n
theorem agF {on:Nat} {aW:ai} (h:ot m s on aW e) (g:we m s on aW e T) (hn:(bH e).name=[]):
  ∃new,Fin m (yR (mY m s T (bH e).s).1 on (mY m s T (bH e).s).2) e.n new:=by
 have hr:=h.room
 have hc:=h.cnt
 have hp:=(bH e).s.pos
 have hle:=g.le
 obtain⟨new,hP⟩:=N7 h.sml h.sc g.ok g.type (by have:=h.bud;omega) om om
 have ht:=hP.ext.types
 obtain⟨h1,h2⟩:=agE hP.sml h.on hP.df om
 exact⟨new,by have:=hP.ext.trans h1;rw[List.append_nil] at this;exact this.more om,h2,hP.inv,by have:=hP.num;omega⟩
theorem Vl {on:Nat} {aW:ai} (h:ot m s on aW e) (g:we m s on aW e T) (hn:(bH e).name≠[]):
  ∃new,On m (mY m s T (bH e).s).1 (s++[((bH e).name,(mY m s T (bH e).s).2,T)]) on aW e.n (bH e).rest new:=by
 have hr:=h.room
 have hc:=h.cnt
 have hp:=(bH e).s.pos
 have hle:=g.le
 obtain⟨eT,HE,⟨U,hU⟩,qk⟩:=g.rest hn
 obtain⟨new,hP⟩:=N7 h.sml h.sc g.ok g.type (by have:=h.bud;omega) om om
 have ht:=hP.ext.types
 have N9:=hP.ext.count
 have wg:=hP.num
 have hlen:new.length<=kY new:=by
  unfold kY
  clear hP N9 wg
  induction new with
  |nil=>simp
  |cons t l ih=>simp only[lC,List.map_cons,List.sum_cons];omega
 refine⟨new,hP.ext.more om,⟨hP.sml,h.sc.snoc hP.df g.small,HE,⟨U,by rw[EN];exact hU⟩,?_,om,h.on,h.aW,om⟩,hP.inv,om⟩
 have:=h.bud
 simp only[lA,lC,List.length_nil];omega
theorem agG {on:Nat} {aW:ai} {f x:Ex} (h:ot m s on aW e) (g:we m s on aW e T) (hs:(bH e).s= .bi kr f x):
  ∃new,Cut (cm (cm m s f.aw).1 s x.aw).1 (eP (cm (cm m s f.aw).1 s x.aw).1 s on aW (bH e).name T (bH e).rest).1 (eP (cm (cm m s f.aw).1 s x.aw).1 s on aW (bH e).name T (bH e).rest).2.1 (eP (cm (cm m s f.aw).1 s x.aw).1 s on aW (bH e).name T (bH e).rest).2.2 (e.n-3) new∧
   Fin m (yQ (eP (cm (cm m s f.aw).1 s x.aw).1 s on aW (bH e).name T (bH e).rest).1 (cm m s f.aw).2 (cm (cm m s f.aw).1 s x.aw).2 (eP (cm (cm m s f.aw).1 s x.aw).1 s on aW (bH e).name T (bH e).rest).2.1) e.n new:=by
 have bh:=g.ok
 rw[hs] at bh
 have hr:=h.room
 have hc:=h.cnt
 have hle:=g.le
 have Oa:3<=(bH e).s.n:=by rw[hs];simp only[Ex.n];have:=f.pos;have:=x.pos;omega
 obtain⟨⟨e1,s1,r1⟩,e2,s2,r2⟩:=Vh h.sml h.sc (oR bh.2.1) (oR bh.2.2) om
 have t2:=e2.types
 have c2:=e2.count
 simp only[List.length_nil] at c2
 obtain⟨new,hC⟩:=Vk h g s2 om om om
 have t3:=hC.ext.types
 obtain⟨h1,h2⟩:=agD hC.sml r1 r2 hC.on om
 refine⟨new,⟨hC.ext,hC.sml,hC.on,hC.aW,hC.inv,by have:=hC.num;omega⟩,?_,h2,hC.inv,by have:=hC.num;omega⟩
 have:=(e2.trans hC.ext).trans h1
 rw[List.append_nil,List.nil_append] at this;exact this.more om
def Ob (m:Mk) (s:cH) (on:Nat) (aW:ai) (x:Ex):Tk:=⟨m.aJ,m.types,0,[],s,x,on,aW,m.types.length⟩
def HF (m:Mk) (s:cH) (on:Nat) (aW:ai) (r:Nat) (x:Ex):Mk:={(m.lN.cE GZ [aU r,m.aJ]) with bJ:=m.bJ++[Ob m s on aW x]}
theorem Vm {on:Nat} {aW:ai} {c x y:Ex} (h:ot m s on aW e) (g:we m s on aW e T) (hs:(bH e).s= .ite c x y):
  ∃new zq,Cut (cm m s c.aw).1 (eP (cm m s c.aw).1 s on aW (bH e).name T (bH e).rest).1 (eP (cm m s c.aw).1 s on aW (bH e).name T (bH e).rest).2.1 (eP (cm m s c.aw).1 s on aW (bH e).name T (bH e).rest).2.2 (e.n-(bH e).s.n) new∧
   On m (HF (eP (cm m s c.aw).1 s on aW (bH e).name T (bH e).rest).1 s (eP (cm m s c.aw).1 s on aW (bH e).name T (bH e).rest).2.1 (eP (cm m s c.aw).1 s on aW (bH e).name T (bH e).rest).2.2 (cm m s c.aw).2 x) s
    (eP (cm m s c.aw).1 s on aW (bH e).name T (bH e).rest).2.1 (eP (cm m s c.aw).1 s on aW (bH e).name T (bH e).rest).2.2 e.n y zq:=by
 have bh:=g.ok
 have eY:=g.type
 rw[hs] at bh eY
 have hr:=h.room
 have hc:=h.cnt
 have hle:=g.le
 have hb:=h.bud
 have Vn:=c.pos
 have Oa:(bH e).s.n=1+c.n+x.n+y.n:=by rw[hs];rfl
 have hxp:=x.pos
 have hyp:=y.pos
 obtain⟨e1,s1,r1⟩:=Hx h.sml h.sc (oR bh.1) om
 have t1:=e1.types
 have c1:=e1.count
 simp only[List.length_nil] at c1
 obtain⟨new,hC⟩:=Vk h g s1 om om om
 generalize eP (cm m s c.aw).1 s on aW (bH e).name T (bH e).rest=Q at hC⊢
 obtain⟨m2,zt,Vo⟩:=Q
 dsimp only at hC⊢
 have t3:=hC.ext.types
 have c3:=hC.ext.count
 have wg:=hC.num
 have hlen:new.length<=kY new:=by
  unfold kY
  clear hC c3 wg t3
  induction new with
  |nil=>simp
  |cons t l ih=>simp only[lC,List.map_cons,List.sum_cons];omega
 have hl:=BJ (m:=m2) om
 have tys:(∃X,bA x (eH s)=some X)∧∃Y,bA y (eH s)=some Y:=by
  unfold bA at eY
  cases h1:bA c (eH s) with
  |none=>rw[h1] at eY;cases eY
  |some A=>
   cases h2:bA x (eH s) with
   |none=>rw[h1,h2] at eY;cases eY
   |some B=>
    cases h3:bA y (eH s) with
    |none=>rw[h1,h2,h3] at eY;cases eY
    |some D=>exact⟨⟨B,rfl⟩,⟨D,rfl⟩⟩
 have oV:oS (Ob m2 s zt Vo x):=
  ⟨bh.2.1,tys.1,h.sc,by show 5*s.length+2*x.n<=240;omega,by show m2.types.length+0+8*x.n<=990;omega,hC.sml.types,.inl rfl,.inl rfl,hC.aW,hC.on,hl⟩
 refine⟨new,new++[Ob m2 s zt Vo x],hC,⟨?_,⟨?_,h.sc,bh.2.2,tys.2,om,?_,hC.on,hC.aW,?_⟩,?_,?_⟩⟩
 ·have he:=e1.trans hC.ext
  rw[List.nil_append] at he
  refine⟨he.blocks,?_,?_,?_,?_⟩
  ·show m2.bJ++[_]=_
   rw[he.bJ,List.append_assoc]
  ·show m2.count+1=_
   rw[he.count,lA];simp;omega
  ·have:=he.types;exact⟨this.1,by show m2.types.length<=_;omega⟩
  ·have:=he.code
   show(m2.code++[_]).length<=_
   simp only[lA,lC,List.length_nil];omega
 ·have:=oU (m:=m2.lN) (hd:=GZ) (ps:=[aU (cm m s c.aw).2,m2.aJ]) ⟨hC.sml.types,hC.sml.code⟩ de sm (λp hp=>by
   simp only[mC,List.not_mem_nil,or_false] at hp
   rcases hp with rfl|rfl
   ·have:=oq r1;omega
   ·omega)
  exact⟨this.types,this.code⟩
 ·show m2.types.length+_<=_;omega
 ·show m2.count+1+_<=_;omega
 ·intro k hk
  rcases mA.1 hk with hk|hk
  ·exact hC.inv k hk
  ·simp only[List.mem_singleton] at hk;rw[hk];exact oV
 ·rw[HC,N6]
  show _+(x.n+1)+_+1<=_
  omega
def pK (m:Mk) (ts:List aq):Nat->Mk
 |0=>m
 |k+1=>((pK m ts k).df (nth ts k).text).cE tl [aU (pK m ts k).types.length,[48],aU k]
def BL (m:Mk) (aJ:ai) (regs:List ai) (a b:ai):Mk:=
 let code:=dW [99] regs
 let r:=m.types.length
 (((((m.df code).cE ti [aU r,aJ]).df (dW [116] [code,b])).cE l6 [aU (r+1),aU r,[48]]).df a).cE tj [aU (r+2),aU (r+1),a,b]
def ou (m:Mk) (regs:List ai):Mk:={m with code:=[],types:=regs}
def Kj (m:Mk) (t:Tk):Mk:=match t.self with
 |[a,b]=>BL m t.aJ t.regs a b
 |_=>m
def nu (t:Tk):List aq:=match bB (t.regs.getD 0 [105]) with
 |some x=>x.ak.drop 1
 |none=>[]
def qW (m:Mk) (t:Tk):Mk:=Kj (pK (ou m t.regs) (nu t) t.loads) t
theorem Oc {t:Tk} (h:t.regs.head?=some (dW [116] (ts.map aq.text))) (hp:bB (dW [116] (ts.map aq.text))=some (xp [116] ts)):nu t=ts∧bB (t.regs.getD 0 [105])=some (xp [116] ts):=by
 have e:t.regs.getD 0 [105]=dW [116] (ts.map aq.text):=by
  cases hr:t.regs with
  |nil=>rw[hr] at h;cases h
  |cons a l=>rw[hr] at h;simpa using h
 unfold nu
 rw[e,hp]
 exact⟨rfl,rfl⟩
structure Dg (m m':Mk) (regs:List ai) (k:Nat):Prop where
 blocks:m'.blocks=m.blocks
 bJ:m'.bJ=m.bJ
 count:m'.count=m.count
 types:m'.types.length=regs.length+k
 code:m'.code.length<=k
 sml:fi m'
theorem Od {regs:List ai} (h:∀r,r∈regs->r.length<=100000):Dg m (ou m regs) regs 0:=⟨rfl,rfl,rfl,rfl,by simp[ou],⟨h,by simp[ou]⟩⟩
theorem Oe {m:Mk} {regs:List ai} (h:∀r,r∈regs->r.length<=100000) (mh:∀t,t∈ts->t.text.length<=100000):∀k,regs.length+k<1000->k<=ts.length->Dg m (pK (ou m regs) ts k) regs k
 |0,_,_=>Od h
 |k+1,hk,hl=>by
  have ih:=Oe (m:=m) h mh k om om
  have d1:=oq (n:=(pK (ou m regs) ts k).types.length) (by rw[ih.types];omega)
  have d2:=oq (n:=k) om
  refine⟨ih.blocks,ih.bJ,ih.count,by show(((pK (ou m regs) ts k).types++[_])).length=_;rw[lA,ih.types];rfl,?_,?_⟩
  ·show((pK (ou m regs) ts k).code++[_]).length<=_
   have:=ih.code
   rw[lA];simp;omega
  ·refine oU (ih.sml.df ?_) sm sm ?_
   ·have:=mh (nth ts k) (by unfold nth;rw[gG,gE om];exact List.getElem_mem _)
    omega
   ·intro p hp
    simp only[mC,List.not_mem_nil,or_false] at hp
    rcases hp with rfl|rfl|rfl
    ·omega
    ·simp
    ·omega
theorem Vp {regs:List ai} (h3:regs.length=3) (h:∀r,r∈regs->r.length<=11200):(dW [99] regs).length<=33610:=by
 have h1:=BF (m:=11200) regs h
 rw[h3] at h1
 rw[mi]
 simp only[lC,List.length_nil];omega
theorem agH (a b c d:ai):jH [a,b,c,d]=4+a.length+b.length+c.length+d.length:=by simp[jH];omega
theorem agI (hm:fi m) {aJ:ai} (hl:aJ.length<=4) {regs:List ai} (h3:regs.length=3) (h:∀r,r∈regs->r.length<=11200) {b:ai} (ha:a.length<=272) (hb:b.length<=11200) (ht:m.types.length+3<1000):fi (BL m aJ regs a b):=by grind [Vp,oq,cZ.length,dW,mi,BI,BL,fi.cE,fi.df,oU,agH]
theorem agJ {m':Mk} {regs:List ai} (h:Dg m m' regs k) (aJ a b:ai) (hs:fi (BL m' aJ regs a b)):Dg m (BL m' aJ regs a b) regs (k+3):=
 ⟨h.blocks,h.bJ,h.count,by have:=h.types;simp[BL,Mk.df,Mk.cE];omega,by have:=h.code;simp[BL,Mk.df,Mk.cE];omega,hs⟩
theorem Vq {s:ai} (h:s∈ps):s.length<=jH ps:=by
 unfold jH
 have:∀{xs:List ai},s∈xs->s.length<=(xs.map List.length).sum:=by
  intro xs
  induction xs with
  |nil=>intro h;cases h
  |cons x xs ih=>
   intro h
   rw[List.map_cons,List.sum_cons]
   rcases mC.1 h with rfl|h
   ·omega
   ·have:=ih h;omega
 have:=this h;omega
theorem Of {m:Mk} {t:Tk} (h:oS t):Dg m (qW m t) t.regs (t.loads+(if t.self=[] then 0 else 3)):=by
 have hr:=h.room
 have hp:=t.expr.pos
 have h1:Dg m (pK (ou m t.regs) (nu t) t.loads) t.regs t.loads:=by
  rcases h.loads with h0|⟨ts,hh,hl,HG⟩
  ·rw[h0];exact Od h.regs
  ·obtain⟨e1,_⟩:=Oc hh HG
   rw[e1]
   refine Oe h.regs (λx hx=>?_) _ om hl
   have h2:=h.regs _ (List.mem_of_mem_head? hh)
   rw[mi] at h2
   have:=Vq (List.mem_map_of_mem (f:=aq.text) hx)
   omega
 unfold qW Kj
 rcases h.self with h0|⟨a,b,hs,ha,hb,h3,hl⟩
 ·rw[h0,iP rfl];exact h1
 ·rw[hs,iN sm]
  refine agJ h1 _ _ _ (agI h1.sml h.aJ h3 hl ha hb ?_)
  rw[h1.types];omega
theorem Vr {t:Tk} (h:oS t) (hc:m.count+t.expr.n<=900):ot (qW m t) t.sc t.on t.aW t.expr:=by
 have hb:=Of (m:=m) h
 have hr:=h.room
 refine⟨hb.sml,h.sc,h.ok,h.type,h.bud,?_,h.on,h.aW,by rw[hb.count];exact hc⟩
 rw[hb.types]
 split<;>omega
/-! ### A block's body -/
def mE:Nat->At->Ex->Mk
 |0,a,_=>a.m
 |k+1,a,e=>match ku a e with
  | .inl m=>m
  | .inr p=>mE k p.1 p.2
theorem Kk (m:Mk) (s:cH) (on:Nat) (aW:ai) (g:Goal):JU ⟨m,s,on,aW⟩ g=⟨(eP m s on aW g.name (oc s g.s) g.rest).1,s,(eP m s on aW g.name (oc s g.s) g.rest).2.1,(eP m s on aW g.name (oc s g.s) g.rest).2.2⟩:=by
 unfold JU eP
 split<;>rfl
theorem Vs {on:Nat} {aW:ai} (h:ot m s on aW e):match ku ⟨m,s,on,aW⟩ e with
  | .inl m'=>∃new,Fin m m' e.n new
  | .inr p=>∃new,On m p.1.m p.1.s p.1.on p.1.aW e.n p.2 new:=by
 obtain⟨T,g⟩:=h.goal
 have hY:=g.oc
 have simple:ku ⟨m,s,on,aW⟩ e=(if(bH e).name=[] then .inl (yR (mY m s (oc s (bH e).s) (bH e).s).1 on (mY m s (oc s (bH e).s) (bH e).s).2) else .inr (⟨(mY m s (oc s (bH e).s) (bH e).s).1,s++[((bH e).name,(mY m s (oc s (bH e).s) (bH e).s).2,oc s (bH e).s)],on,aW⟩,(bH e).rest))->
   match ku ⟨m,s,on,aW⟩ e with
   | .inl m'=>∃new,Fin m m' e.n new
   | .inr p=>∃new,On m p.1.m p.1.s p.1.on p.1.aW e.n p.2 new:=λhs=>by
  rw[hs,hY]
  by_cases hn:(bH e).name=[]
  ·rw[iP hn];exact agF h g hn
  ·rw[iN hn];exact Vl h g hn
 cases hg:(bH e).s with
 |«at» a=>exact simple (by unfold ku;simp only[hg])
 |un a b=>exact simple (by unfold ku;simp only[hg])
 |lt a b c=>exact simple (by unfold ku;simp only[hg])
 |fn a b c d f=>exact simple (by unfold ku;simp only[hg])
 |bi hd f x=>
  by_cases hc:hd=kr
  ·subst hc
   have hs:ku ⟨m,s,on,aW⟩ e= .inl (yQ (eP (cm (cm m s f.aw).1 s x.aw).1 s on aW (bH e).name T (bH e).rest).1 (cm m s f.aw).2 (cm (cm m s f.aw).1 s x.aw).2 (eP (cm (cm m s f.aw).1 s x.aw).1 s on aW (bH e).name T (bH e).rest).2.1):=by
    unfold ku
    simp only[hg,if_true,Kk]
    rw[<-hg,hY]
   rw[hs]
   obtain⟨new,_,hF⟩:=agG h g hg
   exact⟨new,hF⟩
  ·exact simple (by unfold ku;simp only[hg,iN hc])
 |ite c x y=>
  have hs:ku ⟨m,s,on,aW⟩ e= .inr (⟨HF (eP (cm m s c.aw).1 s on aW (bH e).name T (bH e).rest).1 s (eP (cm m s c.aw).1 s on aW (bH e).name T (bH e).rest).2.1 (eP (cm m s c.aw).1 s on aW (bH e).name T (bH e).rest).2.2 (cm m s c.aw).2 x,s,
    (eP (cm m s c.aw).1 s on aW (bH e).name T (bH e).rest).2.1,(eP (cm m s c.aw).1 s on aW (bH e).name T (bH e).rest).2.2⟩,y):=by
   unfold ku
   simp only[hg,Kk]
   rw[<-hg,hY];rfl
  rw[hs]
  obtain⟨_,new,_,hO⟩:=Vm h g hg
  exact⟨new,hO⟩
structure xP (m m':Mk) (s:cH) (on:Nat) (aW:ai) (n k:Nat) (r:Ex) (new:List Tk):Prop where
 ext:Ext m m' k new
 inv:ot m' s on aW r
 bJ:∀k,k∈new->oS k
 num:kY new+r.n<=n
 steps:k+20*r.n<=20*n
theorem xP.start {on:Nat} {aW:ai} (h:ot m s on aW e):xP m m s on aW e.n 0 e []:=⟨Ext.refl m,h,sm,by simp[HD],om⟩
theorem xP.step {s2:cH} {on zt:Nat} {aW E5:ai} {r r2:Ex} {new zq:List Tk} (h:xP m m1 s on aW n k r new) (h2:On m1 m2 s2 zt E5 r.n r2 zq):xP m m2 s2 zt E5 n (k+20) r2 (new++zq):=
 ⟨h.ext.trans h2.ext,h2.inv,λt ht=>by rcases mA.1 ht with ht|ht;exact h.bJ t ht;exact h2.bJ t ht,by rw[HC];have:=h.num;have:=h2.num;omega,by have:=h.steps;have:=h2.num;omega⟩
structure Og (m m':Mk) (n:Nat) (new:List Tk):Prop where
 ext:Ext m m' (20*n) new
 sml:fi m'
 inv:∀k,k∈new->oS k
 num:kY new+1<=n
theorem xP.fin {on:Nat} {aW:ai} {r:Ex} {new zq:List Tk} (h:xP m m1 s on aW n k r new) (h2:Fin m1 m2 r.n zq):Og m m2 n (new++zq):=by
 have h3:=h.steps
 have h4:=r.pos
 refine⟨(h.ext.trans h2.ext).more om,h2.sml,λt ht=>?_,by rw[HC];have:=h.num;have:=h2.num;omega⟩
 rcases mA.1 ht with ht|ht
 ·exact h.bJ t ht
 ·exact h2.inv t ht
theorem Kl:∀(k:Nat) {m:Mk} {s:cH} {on:Nat} {aW:ai} {e:Ex},ot m s on aW e->e.n<=k->∃new,Og m (mE k ⟨m,s,on,aW⟩ e) e.n new
 |0,_,_,_,_,e,_,hk=>absurd hk (by have:=e.pos;omega)
 |k+1,m,s,on,aW,e,h,hk=>by
  have h1:=Vs h
  unfold mE
  cases hs:ku ⟨m,s,on,aW⟩ e with
  |inl m'=>
   rw[hs] at h1
   obtain⟨new,h1⟩:=h1
   exact⟨_,(xP.start h).fin h1⟩
  |inr p=>
   rw[hs] at h1
   obtain⟨⟨m1,s1,wh,agK⟩,e1⟩:=p
   obtain⟨new,h1⟩:=h1
   dsimp only at h1⊢
   obtain⟨zq,h2⟩:=Kl k h1.inv (by have:=h1.num;omega)
   have h3:=h1.num
   refine⟨new++zq,(h1.ext.trans h2.ext).more om,h2.sml,λt ht=>?_,by rw[HC];have:=h2.num;omega⟩
   rcases mA.1 ht with ht|ht
   ·exact h1.bJ t ht
   ·exact h2.inv t ht
theorem agL:∀(k:Nat) {m:Mk} {s:cH} {on:Nat} {aW:ai} {e:Ex},ot m s on aW e->e.n<=k->mE k ⟨m,s,on,aW⟩ e=mE e.n ⟨m,s,on,aW⟩ e:=by
 have key:∀(k j:Nat) {m:Mk} {s:cH} {on:Nat} {aW:ai} {e:Ex},ot m s on aW e->e.n<=k->e.n<=j->mE k ⟨m,s,on,aW⟩ e=mE j ⟨m,s,on,aW⟩ e:=by
  intro k
  induction k with
  |zero=>intro j _ _ _ _ e _ hk;have:=e.pos;omega
  |succ k ih=>
   intro j m s on aW e h hk hj
   cases j with
   |zero=>have:=e.pos;omega
   |succ j=>
    have h1:=Vs h
    unfold mE
    cases hs:ku ⟨m,s,on,aW⟩ e with
    |inl m'=>rfl
    |inr p=>
     rw[hs] at h1
     obtain⟨⟨m1,s1,wh,agK⟩,e1⟩:=p
     obtain⟨new,h1⟩:=h1
     dsimp only at h1⊢
     have h3:=h1.num
     exact ih j h1.inv om om
 exact λk m s on aW e h hk=>key k e.n h hk (lR _)
/-! ### A program -/
def Dh (m:Mk) (aJ:ai) (regs:List ai):Mk:={m with blocks:=m.blocks++[⟨aJ,regs,m.code⟩]}
abbrev sT:ai:=[40,116,41]
def tK (T:Ty):Mk:=
 let on:=dC (bz T)
 let code:=dW [99] [sT,bz T]
 ((((⟨[],[],0,false,[],[sT,code,dW [116] [code,sT],on]⟩:Mk).cE l6 [[48]]).cE ti [[49],A3]).cE l6 [[50],[49],[48]]).cE tj [[51],[50],on,sT]
def HH (e:Ex) (T:Ty):Tk:=⟨CU,[],0,[],[],e,3,dC (bz T),0⟩
def sy (e:Ex) (T:Ty):Mk:=mE e.n ⟨tK T,[],3,dC (bz T)⟩ e
def Di (e:Ex) (T:Ty):Mk:=Dh {(Dh (sy e T) CU []) with code:=[[40,104,97,108,116,32,49,41]]} A3 [sT,bz T]
def E6 (m:Mk) (t:Tk):Mk:=Dh (mE t.expr.n ⟨qW m t,t.sc,t.on,t.aW⟩ t.expr) t.aJ t.regs
def ia (ts:List Tk) (i:Nat):Tk:=ts.getD i ⟨[],[],0,[],[],.at [],0,[],0⟩
def zu:Nat->Mk->Nat->Mk
 |0,m,_=>m
 |k+1,m,i=>if i<m.bJ.length then zu k (E6 m (ia m.bJ i)) (i+1) else m
def ofM (e:Ex) (T:Ty):Mk:=zu 1000 (Di e T) 0
structure sA (m:Mk) (i:Nat):Prop where
 le:i<=m.bJ.length
 count:m.count=m.bJ.length
 num:i+kY (m.bJ.drop i)<=120
 inv:∀t,t∈m.bJ.drop i->oS t
 um:∀b,b∈m.blocks->b.small∧b.aJ.length<=10
 bnum:m.blocks.length=i+2
theorem Vt (bh:e.ok) (ht:bA e []=some T) (hn:e.n<=120):ot (tK T) [] 3 (dC (bz T)) e:=by
 have hT:=l5 (Γ:=[]) (λs T h=>by simp[look] at h) ht
 have h1:=qj hT
 have h2:=uK hT
 have hc:(dW [99] [sT,bz T]).length<=300:=by rw[mi,BI];simp only[lC,List.length_nil];omega
 have ho:BG (dC (bz T)):=⟨T,hT,rfl⟩
 refine⟨?_,⟨λs T h=>by simp[eH,look] at h,sm⟩,bh,⟨T,ht⟩,by simp;omega,by simp[tK,Mk.cE];omega,om,ho,by simp[tK,Mk.cE];omega⟩
 unfold tK
 refine oU (oU (oU (oU ⟨?_,sm⟩ sm sm ?_) sm sm ?_) sm sm ?_) sm sm ?_
 ·intro s hs
  simp only[mC,List.not_mem_nil,or_false] at hs
  rcases hs with rfl|rfl|rfl|rfl
  ·simp
  ·omega
  ·rw[mi,BI];simp only[lC,List.length_nil];omega
  ·omega
 all_goals
  intro p hp
  simp only[mC,List.not_mem_nil,or_false] at hp
  first
  |(rcases hp with rfl|rfl|rfl|rfl<;>first|omega|simp)
  |(rcases hp with rfl|rfl|rfl<;>first|omega|simp)
  |(rcases hp with rfl|rfl<;>first|omega|simp)
  |(rw[hp];simp)
theorem Vu (bh:e.ok) (ht:bA e []=some T) (hn:e.n<=120):∃new,Og (tK T) (sy e T) e.n new:=Kl _ (Vt bh ht hn) (lR _)
theorem Vv (ts:List Tk):ts.length<=kY ts:=by induction ts<;>grind [kY]
theorem agM (m:Mk) (l:ai) (r:List ai):(Dh m l r).blocks=m.blocks++[⟨l,r,m.code⟩]:=rfl
theorem Oh (bh:e.ok) (ht:bA e []=some T) (hn:e.n<=120):sA (Di e T) 0:=by
 obtain⟨new,h⟩:=Vu bh ht hn
 have h1:=h.ext.bJ
 have h2:=h.ext.count
 have h3:=h.num
 have h4:=h.ext.code
 have h5:=h.ext.blocks
 have hb:(Di e T).blocks=[⟨CU,[],(sy e T).code⟩,⟨A3,[sT,bz T],[[40,104,97,108,116,32,49,41]]⟩]:=by
  unfold Di
  rw[agM]
  show(sy e T).blocks++_++_=_
  rw[h5];rfl
 have oz:(Di e T).bJ=new:=by
  show(sy e T).bJ=new
  rw[h1];rfl
 refine⟨Nat.zero_le _,?_,?_,?_,?_,by rw[hb];rfl⟩
 ·rw[oz]
  show(sy e T).count=_
  rw[h2];simp[tK,Mk.cE]
 ·rw[oz,List.drop_zero];omega
 ·rw[oz,List.drop_zero];exact h.inv
 ·intro b fT
  rw[hb] at fT
  have h6:(tK T).code.length=4:=rfl
  simp only[mC,List.not_mem_nil,or_false] at fT
  rcases fT with rfl|rfl
  ·exact⟨⟨by simp,sm,by show(sy e T).code.length<_;omega⟩,sm⟩
  ·exact⟨⟨by simp,sm,sm⟩,sm⟩
theorem Km {ts:List Tk} (hi:i<ts.length):ts.drop i=ia ts i::ts.drop (i+1):=by simp_all[ia]
theorem sA.task (h:sA m i) (hi:i<m.bJ.length):oS (ia m.bJ i)∧m.count+(ia m.bJ i).expr.n<=900∧m.bJ.length<=120:=by
 have h1:=h.num
 have hl:=Vv (m.bJ.drop i)
 rw[List.length_drop] at hl
 have h2:kY (m.bJ.drop i)=(ia m.bJ i).expr.n+1+kY (m.bJ.drop (i+1)):=by rw[Km hi];simp[kY]
 have h3:=h.count
 exact⟨h.inv _ (by rw[Km hi];simp),om,om⟩
theorem sA.step (h:sA m i) (hi:i<m.bJ.length):sA (E6 m (ia m.bJ i)) (i+1):=by
 obtain⟨hT,hc,_⟩:=h.task hi
 have h1:=h.num
 have h2:kY (m.bJ.drop i)=(ia m.bJ i).expr.n+1+kY (m.bJ.drop (i+1)):=by rw[Km hi];simp[kY]
 have hb:=Of (m:=m) hT
 obtain⟨new,hF⟩:=Kl _ (Vr hT hc) (lR _)
 have e1:=hF.ext.bJ
 have e2:=hF.ext.count
 have e3:=hF.ext.code
 have e4:=hF.ext.blocks
 have e5:=hF.num
 have hbc:=hb.code
 rw[hb.bJ] at e1
 rw[hb.count] at e2
 rw[hb.blocks] at e4
 have hr:=hT.room
 have hd:(m.bJ++new).drop (i+1)=m.bJ.drop (i+1)++new:=by rw[List.drop_append_of_le_length hi]
 have ht:(E6 m (ia m.bJ i)).bJ=m.bJ++new:=e1
 refine⟨by rw[ht,lA];omega,?_,?_,?_,?_,?_⟩
 ·rw[ht,lA,<-h.count];exact e2
 ·rw[ht,hd,HC];omega
 ·intro t E7
  rw[ht,hd] at E7
  rcases mA.1 E7 with E7|E7
  ·exact h.inv t (by rw[Km hi];simp[E7])
  ·exact hF.inv t E7
 ·intro b fT
  have E8:b∈m.blocks++[⟨(ia m.bJ i).aJ,(ia m.bJ i).regs,(mE (ia m.bJ i).expr.n ⟨qW m (ia m.bJ i),(ia m.bJ i).sc,(ia m.bJ i).on,(ia m.bJ i).aW⟩ (ia m.bJ i).expr).code⟩]:=by rw[<-e4];exact fT
  rcases mA.1 E8 with E8|E8
  ·exact h.um b E8
  ·simp only[List.mem_singleton] at E8
   rw[E8]
   have hl:=hT.aJ
   refine⟨⟨by show(ia m.bJ i).aJ.length<_;omega,by show(ia m.bJ i).regs.length<_;omega,?_⟩,by show(ia m.bJ i).aJ.length<=_;omega⟩
   refine Nat.lt_of_le_of_lt e3 ?_
   have:(if(ia m.bJ i).self=[] then 0 else 3)<=3:=by split<;>omega
   omega
 ·show((mE _ _ _).blocks++[_]).length=_
  rw[e4,lA,h.bnum];rfl
theorem Vw (h:¬i<m.bJ.length):∀k,zu k m i=m
 |0=>rfl
 |k+1=>by unfold zu;rw[iN h]
theorem Vx (h:i<m.bJ.length) (k:Nat):zu (k+1) m i=zu k (E6 m (ia m.bJ i)) (i+1):=by
 rw[zu,iP h]
theorem sA.small (h:sA m i):ur m.blocks:=by
 have h1:=h.num
 refine⟨by rw[h.bnum];omega,λj hj=>(h.um _ ?_).1⟩
 unfold bR
 rw[gG,gE hj];exact List.getElem_mem hj
theorem sA.labels (h:sA m i):∀b,b∈m.blocks->b.aJ.length<=10:=λb hb=>(h.um b hb).2
theorem BM (h:ai):(gW h=true∧gw h=false∧h≠gJ∧h≠gv∧h≠gV∧dZ h=(1,3))∨(gW h=false∧gw h=false∧h=gJ∧dZ h=(1,4))∨
  (gW h=false∧gw h=false∧h=gv∧dZ h=(2,4))∨(gW h=false∧gw h=false∧h=gV∧dZ h=(5,6))∨(gW h=false∧gw h=true∧h≠gJ∧h≠gv∧h≠gV∧dZ h=(1,2))∨
  (gW h=false∧gw h=false∧h≠gJ∧h≠gv∧h≠gV∧dZ h=(0,0)):=by
 by_cases hb:gW h=true
 ·left
  have hk:dZ h=(1,3):=by unfold dZ;rw[iP hb]
  have aR:=hb
  simp only[gW,oE,dE] at aR
  rcases aR with(((e|e)|e)|e)|e<;>subst e<;>refine⟨rfl,rfl,by decide,by decide,by decide,hk⟩
 ·have gB:gW h=false:=by simpa using hb
  right
  by_cases h1:h=gJ
  ·left;exact⟨gB,by rw[h1];rfl,h1,by rw[h1];rfl⟩
  ·right
   by_cases h2:h=gv
   ·left;exact⟨gB,by rw[h2];rfl,h2,by rw[h2];rfl⟩
   ·right
    by_cases h3:h=gV
    ·left;exact⟨gB,by rw[h3];rfl,h3,by rw[h3];rfl⟩
    ·right
     by_cases h4:gw h=true
     ·left;exact⟨gB,h4,h1,h2,h3,by unfold dZ;rw[iN hb,iN h1,iN h2,iN h3,iP h4]⟩
     ·right;exact⟨gB,by simpa using h4,h1,h2,h3,by unfold dZ;rw[iN hb,iN h1,iN h2,iN h3,iN h4]⟩
theorem Kn:dZ gJ=(1,4)∧dZ gv=(2,4)∧dZ gV=(5,6)∧gw gJ=false∧gw gv=false∧gw gV=false∧gW gJ=false∧gW gv=false∧gW gV=false:=by simp_all[dZ,gw,gW]
def E9 (ps:List aq):Bool:=(decide ((dZ (nth ps 0).aw).1<=1)||dQ (nth ps 1).aw)&&
 (decide ((dZ (nth ps 0).aw).1≠5)||(dQ (nth ps 2).aw&&decide ((nth ps 1).aw≠(nth ps 2).aw)&&j8 (nth ps 3)&&j8 (nth ps 4)))
theorem agN (ps:List aq):nY ps=(decide ((dZ (nth ps 0).aw).1≠0)&&decide (ps.length=(dZ (nth ps 0).aw).2)&&E9 ps&&(ps.drop (dZ (nth ps 0).aw).1).all dA):=by
 unfold E9
 match ps with
 |[]=>simp[nY,nth,aq.aw,dZ,gW,gw]
 |[h]=>rcases BM h.aw with⟨h1,h2,h3,h4,h5,hk⟩|⟨h1,h2,h3,hk⟩|⟨h1,h2,h3,hk⟩|⟨h1,h2,h3,hk⟩|⟨h1,h2,h3,h4,h5,hk⟩|⟨h1,h2,h3,h4,h5,hk⟩<;>simp[nY,nth,hk]
 |[h,a]=>rcases BM h.aw with⟨h1,h2,h3,h4,h5,hk⟩|⟨h1,h2,h3,hk⟩|⟨h1,h2,h3,hk⟩|⟨h1,h2,h3,hk⟩|⟨h1,h2,h3,h4,h5,hk⟩|⟨h1,h2,h3,h4,h5,hk⟩<;>simp[nY,nth,hk,h1,h2,h3,Kn]
 |[h,a,b]=>rcases BM h.aw with⟨h1,h2,h3,h4,h5,hk⟩|⟨h1,h2,h3,hk⟩|⟨h1,h2,h3,hk⟩|⟨h1,h2,h3,hk⟩|⟨h1,h2,h3,h4,h5,hk⟩|⟨h1,h2,h3,h4,h5,hk⟩<;>simp[nY,nth,hk,h1,h2,h3,Kn]
 |[h,a,b,c]=>rcases BM h.aw with⟨h1,h2,h3,h4,h5,hk⟩|⟨h1,h2,h3,hk⟩|⟨h1,h2,h3,hk⟩|⟨h1,h2,h3,hk⟩|⟨h1,h2,h3,h4,h5,hk⟩|⟨h1,h2,h3,h4,h5,hk⟩<;>simp[nY,nth,hk,h1,h2,h3,Kn]<;>try simp[*]
 |[h,a,b,c,d]=>rcases BM h.aw with⟨h1,h2,h3,h4,h5,hk⟩|⟨h1,h2,h3,hk⟩|⟨h1,h2,h3,hk⟩|⟨h1,h2,h3,hk⟩|⟨h1,h2,h3,h4,h5,hk⟩|⟨h1,h2,h3,h4,h5,hk⟩<;>simp[nY,nth,hk]
 |[h,a,b,c,d,e]=>rcases BM h.aw with⟨h1,h2,h3,h4,h5,hk⟩|⟨h1,h2,h3,hk⟩|⟨h1,h2,h3,hk⟩|⟨h1,h2,h3,hk⟩|⟨h1,h2,h3,h4,h5,hk⟩|⟨h1,h2,h3,h4,h5,hk⟩<;>simp[nY,nth,hk,h3,Kn]<;>try simp[*,Bool.and_assoc]
 |h::a::b::c::d::e::f::r=>rcases BM h.aw with⟨h1,h2,h3,h4,h5,hk⟩|⟨h1,h2,h3,hk⟩|⟨h1,h2,h3,hk⟩|⟨h1,h2,h3,hk⟩|⟨h1,h2,h3,h4,h5,hk⟩|⟨h1,h2,h3,h4,h5,hk⟩<;>simp[nY,nth,hk]<;>omega
theorem Vy (t:aq):dA t=if t.aw≠[] then qL t.aw else nY t.ak:=by cases t with|mk a ps=>rw[dA];rfl
theorem agO (ha:t.aw=[]):dA t=(decide ((dZ (nth t.ak 0).aw).1≠0)&&decide (t.ak.length=(dZ (nth t.ak 0).aw).2)&&E9 t.ak&&(t.ak.drop (dZ (nth t.ak 0).aw).1).all dA):=by grind [Vy,agN]
theorem Vz (ps:List aq):th ps=(decide (ps.length=3)&&(decide ((nth ps 0).aw=[62])||decide ((nth ps 0).aw=[42]))&&(pr (nth ps 1)&&pr (nth ps 2))):=by
 match ps with
 |[]=>simp[th]
 |[h]=>simp[th]
 |[h,a]=>simp[th]
 |[h,a,b]=>simp[th,nth]
 |h::a::b::c::r=>simp[th]
/-! ### Texts -/
def zv (s:ai):Bool:=match bB s with
 |some t=>j8 t
 |none=>false
theorem agP {s:ai}:zv s=true↔∃T:Ty,T.n<=16∧s=T.text:=by grind [zv,bB,AT,uo,uw,Ty.bB,Good.wf,Ex.wf]
theorem VB:zv T.text=decide (T.n<=16):=by grind [agP,Ty.inj]
def Dj (s sg:ai):Option (Ty×Ty)->Prop
 |some (a,b)=>∃f,sg=j7 f∧s=(Ty.op f a b).text∧(Ty.op f a b).n<=16
 |none=>∀f a b,sg=j7 f->s=(Ty.op f a b).text->¬(Ty.op f a b).n<=16
def Ko (t:aq):Bool:=dA t&&decide (fy t<=120)
def mF (s:ai):Bool:=match bB s with
 |some t=>Ko t
 |none=>false
theorem agQ (hw:WF t):Ko t=true↔∃e:Ex,t=e.au∧e.ok∧e.n<=120:=by grind [Ko,afs,Ex.fy]
theorem xQ {s:ai}:mF s=true↔∃e:Ex,bB s=some e.au∧e.ok∧e.n<=120:=by grind [mF,bB,agQ,uo]
theorem VC {ps:List aq} (i:Nat):jJ (ps.take i)<=jJ ps:=by
 conv=>rhs;rw[<-List.take_append_drop i ps,Tw]
 omega
theorem agR (t:aq):jJ t.ak<=t.size:=by
 cases t with
 |mk a ps=>have:=Nd ps;simp only[aq.size,aq.ak];omega
theorem VD:∀(m:Nat) (t:aq),t.size<=m->t.size<=10000000->WF t->∀(v:Value) (L:List Nat) (w:World),bC L w v t->
  bw Tryz.prog 152 [v] w λr w'=>r= .int .i64 (fy t:Int)∧aj [] w w':=by
 intro m
 induction m with
 |zero=>intro t h;have:=yL t;omega
 |succ m ih=>
  intro t hm mh cB v L w hv
  obtain⟨a,n,c,rfl,hn,aO⟩:=cY hv
  subst hn
  have nj:=xo t
  have hhs:=agR t
  have hK:=aj.refl [] w
  refine bU [.tmp 2] 24 Tryz.func152 rfl acK rfl rfl ?_
  refine zr<|eK rfl λw1 aI aY dh=>?_
  have hK:=hK.ext aI
  refine W ?_
  refine zc rfl (λh1=>?_) (λh1=>?_)
  have hq:fy t=1:=by rw[Nc,iP h1]
  refine W ?_
  exact⟨_,rfl,by rw[hq];rfl,hK⟩
  have hq:fy t=jJ t.ak:=by rw[Nc,iN h1]
  refine W ?_
  refine dR (λk:Nat=>[(1,.pointer (some ⟨w.heap.size,0,none⟩)),(3,.int .i64 ((jJ (t.ak.take k):Nat):Int)),(4,.int .i64 (k:Int))]) (λk w'=>aj [] w w'∧aK w' w.heap.size [str t.aw,.slice a t.ak.length c].toArray 74∧k<=t.ak.length) (λk=>t.ak.length-k) (0) (⟨rfl,rfl,rfl⟩) (⟨hK,aY,om⟩) λgg w2 e2 hI=>?_
  obtain⟨hK,aY,hk⟩:=hI
  refine W ?_
  refine zc rfl (λh2=>?_) (λh2=>?_)
  have ej:=gh (ps:=t.ak) (i:=gg) om
  obtain⟨b1,eX,pa,pn,pc,rfl,jz,eO,ga⟩:=iM aO ej
  subst eO
  have yY:=cB.nth (i:=gg) om
  have nV:=lI (t:=t) (i:=gg) om
  have aS:=Tx ej
  have hle:=VC (ps:=t.ak) (gg+1)
  refine WL ?_
  refine zl iW rfl (aY.at rfl)<|zm<|zi cD aM rfl rfl om<|zL fc aM rfl (jz.ext hK) rfl<|aA (ih (nth t.ak gg) om om yY _ L w2 ((lF ga).ext hK)) ?_
  rintro _ w3 ⟨rfl,aH⟩
  have fh:=aH.size
  refine bI aH hK aY λhK aY=>?_
  refine W ?_
  exact⟨gg+1,⟨rfl,congrArg (Value.int .i64) om,rfl⟩,⟨hK,aY,om⟩,om⟩
  have fG:gg=t.ak.length:=by omega
  subst fG
  refine W ?_
  exact⟨_,rfl,by rw[hq,List.take_length];rfl,hK⟩
theorem agS:∀(m:Nat) (t:aq),t.size<=m->t.size<=10000000->WF t->∀(v:Value) (L:List Nat) (w:World),bC L w v t->
  bw Tryz.prog 221 [v] w λr w'=>r= .bool (pr t)∧aj [] w w':=by
 intro m
 induction m with
 |zero=>intro t h;have:=yL t;omega
 |succ m ih=>
  intro t hm mh cB v L w hv
  obtain⟨a,n,c,rfl,hn,aO⟩:=cY hv
  subst hn
  have hK:=aj.refl [] w
  have nj:=xo t
  refine bU [.tmp 2] 41 Tryz.func221 rfl adF rfl rfl ?_
  refine zr<|eK rfl λw1 aI aY dh=>bI aI hK aO λhK aO=>?_
  refine W ?_
  refine zc rfl (λh1=>?_) (λh1=>?_)
  have hq:pr t=decide (t.aw=[105]):=by rw[Tz,iP h1]
  refine W ?_
  exact⟨_,rfl,by rw[hq];rfl,hK⟩
  have ha:t.aw=[]:=Classical.not_not.1 h1
  have kK:=cB.pos ha
  have hq:pr t=th t.ak:=by rw[Tz,iN (λh=>h ha)]
  obtain⟨b,off,pa,pn,pc,rfl,eD,eO,ga⟩:=iM aO (gh kK)
  refine WZ ?_
  apply oP 15 13 28 rfl oQ
  intro h2
  refine WZ ?_
  apply oB 7 20 27 rfl oQ
  intro h3
  refine WZ ?_
  exact oQ
  intro xx
  exact oQ
  intro xx
  refine aV<|zc rfl (λh4=>?_) (λh4=>?_)
  have hz:th t.ak=false:=by rw[Vz];simp only[oE,aE,dE] at h4;rcases h4 with h|⟨h1,h2⟩;(·rw[dF om];rfl);(·rw[dF h1,dF h2];simp)
  refine W ?_
  exact⟨_,rfl,by rw[hq,hz];rfl,hK⟩
  simp only[Bool.or_eq_false_iff,Bool.and_eq_false_iff,decide_eq_false_iff_not,Classical.not_not] at h4
  obtain⟨h31,VE⟩:=h4
  have h3:t.ak.length=3:=om
  have oL:th t.ak=(pr (nth t.ak 1)&&pr (nth t.ak 2)):=by rw[Vz,dT h3];rcases VE with h|h<;>rw[h]<;>rfl
  obtain⟨b1,eX,gR,rM,gF,e1,bK,tH,pF⟩:=iM aO (gh (i:=1) om)
  cases e1
  subst tH
  obtain⟨b2,lP,iI,xR,iy,e2,bY,Kp,Oi⟩:=iM aO (gh (i:=2) om)
  cases e2
  subst Kp
  have dk:=lI (t:=t) (i:=1) om
  have dx:=lI (t:=t) (i:=2) om
  have cN:=lF pF
  have dM:=lF Oi
  refine gT<|zr<|zf jI rfl<|zl iW rfl (aY.at rfl)<|zi (i:=1) cD aM rfl rfl om<|zL fc aM rfl bK rfl<|aA (ih (nth t.ak 1) om om (cB.nth om) _ L w1 cN) ?_
  rintro _ w2 ⟨rfl,az⟩
  have dx:=az.size
  refine gY az hK aY bY dM λhK aY bY dM=>?_
  refine WZ ?_
  apply oA 6 34 40 (aj [] w2) rfl oQ
  intro h5
  refine zf jI rfl<|zl iW rfl (aY.at rfl)<|zi (i:=2) cD aM rfl rfl om<|zL fc aM rfl bY rfl<|aA (ih (nth t.ak 2) om om (cB.nth om) _ L w2 dM) ?_
  rintro _ w3 ⟨rfl,aH⟩
  have fh:=aH.size
  exact oQ
  intro xx w3 aH
  have hK:=hK.ext aH
  refine W ?_
  exact⟨_,rfl,by rw[hq,oL];rfl,hK⟩
theorem BN (t:aq) (mh:t.size<=10000000) (cB:WF t) (v:Value) (L:List Nat) (w:World) (hv:bC L w v t):
  bw Tryz.prog 184 [v] w λr w'=>r= .bool (j8 t)∧aj [] w w':=by
 have cQ:=hv
 obtain⟨a,n,c,rfl,hn,aO⟩:=cY hv
 have hK:=aj.refl [] w
 refine bU [.tmp 2] 10 Tryz.func184 rfl adb rfl rfl ?_
 refine zr<|eK rfl λw1 aI aY dh=>bI aI hK cQ λhK cQ=>?_
 refine W ?_
 refine aA (agS t.size t (lR _) mh cB _ L w1 cQ) ?_
 rintro _ w2 ⟨rfl,az⟩
 have dx:=az.size
 refine cJ az hK cQ aY λhK cQ aY=>?_
 refine WZ ?_
 apply oA 4 5 9 (aj [] w2) rfl oQ
 intro _
 refine W ?_
 refine aA (VD t.size t (lR _) mh cB _ L w2 cQ) ?_
 rintro _ w3 ⟨rfl,aH⟩
 have fh:=aH.size
 exact oQ
 intro xx w3 aH
 have hK:=hK.ext aH
 refine W ?_
 exact⟨_,rfl,congrArg Value.bool (show _=j8 t from by unfold j8;congr 1;exact decide_eq_decide.2 om),hK⟩
theorem agT {s:ai} (h:EH s t):((bB s).isSome&&j8 t)=zv s:=by
 unfold zv
 cases hp:bB s with
 |none=>rfl
 |some u=>rw[h.1 u hp];rfl
theorem Oj (s:ai) (w:World):bw Tryz.prog 227 [str s] w λr w'=>r= .bool (zv s)∧aj [] w w':=by
 have hK:=aj.refl [] w
 refine bU [.tmp 2] 15 Tryz.func227 rfl adL rfl rfl ?_
 refine W ?_
 refine aA (Kc s [] w sm) ?_
 rintro v1 w1 ⟨fN,aI⟩
 have dk:=aI.size
 have hK:=hK.ext aI
 obtain⟨t,tv,rfl,ht,hp⟩:=fN
 obtain⟨pa,pn,pc,rfl,eO,aO⟩:=cY ht
 refine W ?_
 refine dz aM rfl rfl rfl λw2 az cW dD=>?_
 have hK:=hK.grow;have hK:=hK.ext az;have ht:=ht.grow;have ht:=ht.ext az
 refine cL aM rfl rfl rfl cW rfl λw3 aH cW gL=>?_
 have hK:=hK.aD aH sx;have ht:=ht.aD aH sx
 refine W ?_
 apply oA 3 11 14 (aj [] w3) rfl oQ
 intro h1
 obtain⟨u,hu⟩:=Option.isSome_iff_exists.1 h1
 have e:=hp.1 u hu
 subst e
 refine W ?_
 refine aA (BN t (by have:=AF hu;omega) (uo hu) _ _ w3 ht) ?_
 rintro _ w4 ⟨rfl,aP⟩
 have fH:=aP.size
 exact oQ
 intro xx w4 aP
 have hK:=hK.ext aP
 refine W ?_
 exact⟨_,rfl,congrArg Value.bool (agT hp),hK⟩
def tL:Option (Ty×Ty)->ai
 |some p=>p.1.text
 |none=>[]
def zw:Option (Ty×Ty)->ai
 |some p=>p.2.text
 |none=>[]
def Ok (o:Option (Ty×Ty)):Value:=.tuple #[str (tL o),str (zw o),.bool o.isSome]
theorem agU {s sg:ai} (hp:EH s t) (h:(((!(bB s).isSome||!j8 t)||decide (t.aw≠[]))||decide ((nth t.ak 0).aw≠sg))=true):Dj s sg none:=by
 intro f a b e1 e2 hn
 have aO:bB s=some (Ty.op f a b).au:=by rw[e2];exact Ty.bB om
 have e:=hp.1 _ aO
 subst e
 have ht:j8 (Ty.op f a b).au=true:=(AT (uo aO)).2 ⟨_,rfl,hn⟩
 rw[aO,ht] at h
 simp[Ty.au,aq.aw,aq.ak,nth,bM,e1] at h
theorem agV {s sg:ai} (hp:EH s t) (h:(((!(bB s).isSome||!j8 t)||decide (t.aw≠[]))||decide ((nth t.ak 0).aw≠sg))=false):∃f A B,t=(Ty.op f A B).au∧(Ty.op f A B).n<=16∧Dj s sg (some (A,B)):=by
 simp only[Bool.or_eq_false_iff,Bool.not_eq_false',decide_eq_false_iff_not,Classical.not_not] at h
 obtain⟨⟨⟨h1,h2⟩,h3⟩,h4⟩:=h
 obtain⟨u,hu⟩:=Option.isSome_iff_exists.1 h1
 have e:=hp.1 u hu
 subst e
 obtain⟨T,rfl,hn⟩:=(AT (uo hu)).1 h2
 cases T with
 |i=>simp[Ty.au,bM,aq.aw] at h3
 |op f A B=>exact⟨f,A,B,rfl,hn,f,by rw[<-h4];rfl,(uw hu).2.2.1.symm,hn⟩
theorem VF (s sg:ai) (w:World):bw Tryz.prog 229 [str s,str sg] w λr w'=>(∃o,Dj s sg o∧r=Ok o)∧aj [] w w':=by
 have hK:=aj.refl [] w
 refine bU [.tmp 4,.tmp 5,.tmp 6] 45 Tryz.func229 rfl adM rfl rfl ?_
 refine W ?_
 refine aA (Kc s [] w sm) ?_
 rintro v1 w1 ⟨fN,aI⟩
 have dk:=aI.size
 have hK:=hK.ext aI
 obtain⟨t,tv,rfl,ht,hp⟩:=fN
 obtain⟨pa,pn,pc,rfl,eO,aO⟩:=cY ht
 subst eO
 refine W ?_
 refine dz aM rfl rfl rfl λw2 az cS dD=>?_
 have hK:=hK.grow;have hK:=hK.ext az;have ht:=ht.grow;have ht:=ht.ext az;have aO:=aO.grow;have aO:=aO.ext az
 refine cL aM rfl rfl rfl cS rfl λw3 aH cS gL=>?_
 have hK:=hK.aD aH sx;have ht:=ht.aD aH sx;have aO:=aO.aD aH sx
 refine W ?_
 apply oO 4 16 20 (aj [] w3) rfl oQ
 intro h1
 obtain⟨u,hu⟩:=Option.isSome_iff_exists.1 h1
 have e:=hp.1 u hu
 subst e
 refine W ?_
 refine aA (BN t (by have:=AF hu;omega) (uo hu) _ _ w3 ht) ?_
 rintro _ w4 ⟨rfl,aP⟩
 have fH:=aP.size
 exact oQ
 intro xx w5 aN
 refine cJ aN hK aO cS λhK aO cS=>?_
 refine WZ ?_
 apply oP 4 21 25 rfl oQ
 intro _
 refine WZ ?_
 exact oQ
 intro xx
 refine WZ ?_
 apply oP 8 26 34 rfl oQ
 intro h3
 simp only[Bool.or_eq_false_iff,Bool.not_eq_false',decide_eq_false_iff_not,Classical.not_not] at h3
 obtain⟨⟨q1,q2⟩,q3⟩:=h3
 obtain⟨u,hu⟩:=Option.isSome_iff_exists.1 q1
 have e:=hp.1 u hu
 subst e
 have kK:=(uo hu).pos q3
 obtain⟨b0,wj,qa,qn,qc,e0,eD,_,_⟩:=iM aO (gh kK)
 subst e0
 refine WZ ?_
 exact oQ
 intro xx
 refine aV<|zc rfl (λh4=>?_) (λh4=>?_)
 refine W ?_
 exact⟨_,rfl,⟨none,agU hp h4,rfl⟩,hK⟩
 obtain⟨f,A,B,e,hn,hT⟩:=agV hp h4
 subst e
 have TK:(Ty.op f A B).n=1+A.n+B.n:=rfl
 have hA:=Ty.size A
 have hB:=Ty.size B
 have Ol:=Ty.len A
 have Om:=Ty.len B
 have BA:(Ty.op f A B).au.ak.length=3:=rfl
 obtain⟨b1,eX,gR,rM,gF,e1,bK,tH,pF⟩:=iM aO (gh (i:=1) om)
 subst e1
 subst tH
 obtain⟨b2,lP,iI,xR,iy,e2,bY,Kp,Oi⟩:=iM aO (gh (i:=2) om)
 cases e2
 subst Kp
 have cN:bC _ w5 _ A.au:=lF pF
 have dM:bC _ w5 _ B.au:=lF Oi
 refine WZ ?_
 apply dV dv 13 [35,36,37,38,39,40,41,42,43,44,4,5,6] [[],[0],[1],[2],[3],[],[5],[6],[7],[8],[4],[9],[]] (it [_,_,_,_,_,_,_,_,_,_,_,_,_]) de rfl
 intro wd aC
 refine VA ?_
 refine vk aC (λx w6 bN=>?_) ?_
 refine zi (i:=1) cD aM rfl rfl ((show 1<3 from om)) ?_
 exact pv
 refine VA ?_
 refine vk aC (λx w6 bN=>?_) ?_
 have cN:=cN.ext bN
 refine aA (uJ A.au.size A.au (lR _) A.l4.wf om (show A.text.length<=100000000 from om) _ _ w6 cN) ?_
 rintro _ w7 ⟨rfl,bW⟩
 have lp:=bW.size
 exact pk bW
 refine VA ?_
 refine vk aC (λx w6 bN=>?_) ?_
 refine zi (i:=2) cD aM rfl rfl ((show 2<3 from om)) ?_
 exact pv
 refine VA ?_
 refine vk aC (λx w6 bN=>?_) ?_
 have dM:=dM.ext bN
 refine aA (uJ B.au.size B.au (lR _) B.l4.wf om (show B.text.length<=100000000 from om) _ _ w6 dM) ?_
 rintro _ w7 ⟨rfl,bW⟩
 have lp:=bW.size
 exact pk bW
 exact VZ
 intro x qX sB
 have hK:=hK.ext sB
 change OW _ _ _ _ [] (bo (bm _ x _) (zZ 35 [_,_,_,_,_,_,_,_,_,_]++[(4,_),(5,_),(6,_)])) _
 refine W ?_
 exact⟨_,rfl,⟨some (A,B),hT,rfl⟩,hK⟩
theorem VG (s:ai) (w:World):bw Tryz.prog 201 [str s] w λr w'=>(∃o,Dj s [62] o∧r=Ok o)∧aj [] w w':=by
 have hK:=aj.refl [] w
 refine bU [.tmp 2,.tmp 3,.tmp 4] 10 Tryz.func201 rfl adv rfl rfl ?_
 refine W ?_
 refine aA (VF s [62] w) ?_
 rintro v1 w1 ⟨fN,aI⟩
 have dk:=aI.size
 have hK:=hK.ext aI
 obtain⟨o,ho,rfl⟩:=fN
 refine W ?_
 exact⟨_,rfl,⟨o,ho,rfl⟩,hK⟩
theorem VH (s:ai) (w:World):bw Tryz.prog 200 [str s] w λr w'=>(∃o,Dj s [42] o∧r=Ok o)∧aj [] w w':=by
 have hK:=aj.refl [] w
 refine bU [.tmp 2,.tmp 3,.tmp 4] 10 Tryz.func200 rfl adu rfl rfl ?_
 refine W ?_
 refine aA (VF s [42] w) ?_
 rintro v1 w1 ⟨fN,aI⟩
 have dk:=aI.size
 have hK:=hK.ext aI
 obtain⟨o,ho,rfl⟩:=fN
 refine W ?_
 exact⟨_,rfl,⟨o,ho,rfl⟩,hK⟩
theorem VI (hT:T.n<=16) (f:Bool) {o:Option (Ty×Ty)} (h:Dj T.text (j7 f) o):o=match T with| .op g a b=>if g=f then some (a,b) else none| .i=>none:=by
 cases o with
 |some p=>
  obtain⟨g,h1,h2,h3⟩:=h
  have e:=Ty.inj h2
  subst e
  have:f=g:=by cases f<;>cases g<;>first|rfl|(simp[j7] at h1)
  subst this
  simp
 |none=>
  cases T with
  |i=>rfl
  |op g a b=>
   have dN:¬g=f:=λe=>h f a b rfl (by rw[e]) (by rw[<-e];exact hT)
   simp[dN]
theorem VJ (h:T.n<=16):zv T.text=true:=by rw[VB];exact dT h
theorem VK (f:Bool) (A B:Ty) (hA:A.n<=16) (hB:B.n<=16) (w:World):
  bw Tryz.prog 197 [.bool f,str A.text,str B.text] w λr w'=>r= .tuple #[str (if 1+A.n+B.n<=16 then(Ty.op f A B).text else[]),.bool (decide (1+A.n+B.n<=16))]∧aj [] w w':=by
 have hK:=aj.refl [] w
 have Ol:=Ty.len A
 have Om:=Ty.len B
 have VE:=Nb f
 have ql:(((((([40]++j7 f)++[32])++A.text)++[32])++B.text)++[41])=(Ty.op f A B).text:=by rw[Ty.JI];simp
 have hy:zv (Ty.op f A B).text=decide (1+A.n+B.n<=16):=VB
 refine bU [.tmp 6,.tmp 7] 34 Tryz.func197 rfl adr rfl rfl ?_
 refine W ?_
 refine iS (λ_:Unit=>[(0,.bool f),(1,str A.text),(2,str B.text),(8,str (j7 f))]) (λ_ w'=>w'=w) ?_ ?_
 refine zc rfl (λh1=>?_) (λh1=>?_)
 have hf:=h1
 refine W ?_
 exact⟨(),⟨rfl,rfl,rfl,by rw[hf];rfl⟩,rfl⟩
 have hf:=h1
 refine WZ ?_
 exact⟨(),⟨rfl,rfl,rfl,by rw[hf];rfl⟩,rfl⟩
 intro gu w1 e1 hI
 subst hI
 refine W ?_
 refine aA (Oj A.text w1) ?_
 rintro v2 w2 ⟨gz,az⟩
 have dx:=az.size
 have hK:=hK.ext az
 obtain rfl:=gz.trans (congrArg Value.bool (VJ hA))
 refine kF rfl rfl rfl<|zm<|yH (t:=23) (b:=false) rfl<|zm<|aA (Oj B.text w2) ?_
 rintro v3 w3 ⟨jo,aH⟩
 have fh:=aH.size
 have hK:=hK.ext aH
 obtain rfl:=jo.trans (congrArg Value.bool (VJ hB))
 refine kF rfl rfl rfl<|zp rfl<|zm<|yH (t:=28) (b:=false) rfl<|zm<|aA (Oj _ w3) ?_
 rintro v4 w4 ⟨ke,aP⟩
 have fH:=aP.size
 have hK:=hK.ext aP
 obtain rfl:=ke.trans (congrArg Value.bool ((congrArg zv ql).trans hy))
 refine W ?_
 refine zc rfl (λh2=>?_) (λh2=>?_)
 have hn:¬1+A.n+B.n<=16:=by simpa using h2
 refine W ?_
 have hr:Value.tuple #[str (if 1+A.n+B.n<=16 then(Ty.op f A B).text else[]),.bool (decide (1+A.n+B.n<=16))]=Value.tuple #[str [],.bool false]:=by rw[iN hn,dF hn]
 exact⟨_,rfl,hr.symm,hK⟩
 have hn:1+A.n+B.n<=16:=by simpa using h2
 refine W ?_
 have hr:Value.tuple #[str (if 1+A.n+B.n<=16 then(Ty.op f A B).text else[]),.bool (decide (1+A.n+B.n<=16))]=Value.tuple #[str (((((([40]++j7 f)++[32])++A.text)++[32])++B.text)++[41]),.bool true]:=by rw[iP hn,dT hn,ql]
 exact⟨_,rfl,hr.symm,hK⟩
theorem VL (c:UInt8):(decide ((c.toNat:Int)<97)||decide ((122:Int)<(c.toNat:Int)))=!(decide (97<=c)&&decide (c<=122)):=by
 have h1:decide (97<=c)=decide ((97:Int)<=c.toNat):=(GB 97 c).symm
 have h2:decide (c<=122)=decide ((c.toNat:Int)<=122):=decide_eq_decide.2 (by rw[UInt8.le_iff_toNat_le];have:(122:UInt8).toNat=122:=rfl;omega)
 rw[h1,h2,Bool.not_and,<-decide_not,<-decide_not]
 congr 1<;>exact decide_eq_decide.2 om
theorem agW {s:ai} (h1:1<=k) (hk:k<s.length) (h:iv (s.getD k 0)=false):(s.drop 1).all iv=false:=by
 rw[List.all_eq_false]
 refine⟨s.getD k 0,?_,by rw[h];simp⟩
 rw[List.mem_iff_getElem?]
 refine⟨k-1,?_⟩
 rw[List.getElem?_drop,show 1+(k-1)=k by omega]
 exact jv hk
theorem agX {s:ai} (h:∀k,1<=k->k<s.length->iv (s.getD k 0)=true):(s.drop 1).all iv=true:=by
 rw[List.all_eq_true]
 intro c hc
 obtain⟨i,hi⟩:=List.mem_iff_getElem?.1 hc
 rw[List.getElem?_drop] at hi
 have hl:=(List.getElem?_eq_some_iff.1 hi).1
 have:=h (1+i) om hl
 rw[jv hl] at hi
 cases hi
 exact this
theorem wk (s:ai) (w:World):bw Tryz.prog 182 [str s] w λv w'=>v= .bool (dQ s)∧w=w':=by
 have hN:dQ s=(((decide (1<=s.length)&&decide (s.length<=4))&&(decide (97<=s.getD 0 0)&&decide (s.getD 0 0<=122)))&&(s.drop 1).all iv):=rfl
 have hz:∀c:UInt8,(decide ((c.toNat:Int)<48)||decide ((57:Int)<(c.toNat:Int)))=!iv c:=by
  intro c
  cases hd:iv c with
  |true=>have:=(CD c).1 hd;simp;omega
  |false=>rw[Bool.not_false,oE,dE,dE];apply Classical.byContradiction;intro hh;have:=(CD c).2 om;rw[hd] at this;cases this
 refine bU [.tmp 2] 34 Tryz.func182 rfl ac9 rfl rfl ?_
 refine W ?_
 refine aA (Ho _ _ _ _) ?_
 rintro _ _ ⟨rfl,rfl⟩
 refine WZ ?_
 apply oP 4 8 12 rfl oQ
 intro h1
 have hl:1<=s.length∧s.length<=4:=(by simp at h1;omega)
 refine zm<|ko (i:=0) iE rfl rfl rfl rfl (jv om) ?_
 exact oQ
 intro xx
 refine WZ ?_
 apply oP 4 13 17 rfl oQ
 intro h2
 have hl:1<=s.length∧s.length<=4:=(by simp at h2;omega)
 refine zm<|ko (i:=0) iE rfl rfl rfl rfl (jv om) ?_
 exact oQ
 intro xx
 refine aV<|zc rfl (λh3=>?_) (λh3=>?_)
 have hq:dQ s=false:=(by rw[hN];rw[Bool.or_assoc,VL] at h3;simp only[oE,Bool.not_eq_true',Bool.and_eq_false_iff,decide_eq_false_iff_not] at h3;simp only[Bool.and_eq_false_iff,decide_eq_false_iff_not];left;rcases h3 with(h|h)|h;(·left;left;omega);(·left;right;omega);(·right;exact h))
 refine W ?_
 exact⟨_,rfl,by rw[hq];rfl,rfl⟩
 have hl:(1<=s.length∧s.length<=4)∧(decide (97<=s.getD 0 0)&&decide (s.getD 0 0<=122))=true:=(by rw[Bool.or_assoc,VL] at h3;simp only[Bool.or_eq_false_iff,Bool.not_eq_false'] at h3;refine⟨?_,h3.2⟩;have h1:=h3.1;simp at h1;omega)
 have hq:dQ s=(s.drop 1).all iv:=(by rw[hN,hl.2,dT hl.1.1,dT hl.1.2];rfl)
 refine W ?_
 refine dR (λk:Nat=>[(0,str s),(3,.int .i64 (k:Int))]) (λk w'=>w'=w∧1<=k∧k<=s.length∧∀j,1<=j->j<k->iv (s.getD j 0)=true) (λk=>s.length-k) (1) (⟨rfl,rfl⟩) (⟨rfl,om,om,by intro j h1 h2;omega⟩) λgg w1 e1 hI=>?_
 obtain⟨rfl,aI,hk,cC⟩:=hI
 refine W ?_
 refine zc rfl (λh4=>?_) (λh4=>?_)
 refine W ?_
 refine ko iE rfl rfl rfl rfl (jv om)<|WZ ?_
 apply oP 5 28 33 rfl oQ
 intro h5
 refine zm<|zm<|ko iE rfl rfl rfl rfl (jv om) ?_
 exact oQ
 intro xx
 refine aV<|zc rfl (λh6=>?_) (λh6=>?_)
 have hd:iv (s.getD gg 0)=false:=(by rw[hz] at h6;simpa using h6)
 refine W ?_
 exact⟨_,rfl,by rw[hq,agW aI om hd];rfl,rfl⟩
 have hd:iv (s.getD gg 0)=true:=(by rw[hz] at h6;simpa using h6)
 refine W ?_
 exact⟨gg+1,⟨rfl,rfl⟩,⟨rfl,om,om,by intro j h1 h2;rcases Nat.lt_or_ge j gg with h|h;exact cC j h1 h;rw[show j=gg by omega];exact hd⟩,om⟩
 refine W ?_
 exact⟨_,rfl,by rw[hq,agX (λj h1 h2=>cC j h1 om)];rfl,rfl⟩
def Oo (h:ai):Value:=.tuple #[.int .i64 ((dZ h).1:Int),.int .i64 ((dZ h).2:Int)]
theorem zy {a:Nat} (e:dZ h=(a,b)):Oo h= .tuple #[.int .i64 (a:Int),.int .i64 (b:Int)]:=by unfold Oo;rw[e]
theorem agY (e:gW h=true):dZ h=(1,3):=by unfold dZ;rw[iP e]
theorem agZ (e:gw h=true):dZ h=(1,2):=by
 unfold gw at e
 simp only[oE,dE] at e
 rcases e with e|e<;>subst e<;>decide
theorem Kq (h:ai) (w:World):bw Tryz.prog 183 [str h] w λv w'=>v=Oo h∧w=w':=by
 refine bU [.tmp 2,.tmp 3] 20 Tryz.func183 rfl ada rfl rfl ?_
 refine W ?_
 refine iS (λ_:Unit=>[(4,str h),(5,.bool (gW h))]) (λ_ w'=>w'=w) ?_ ?_
 refine zc rfl (λh1=>?_) (λh1=>?_)
 refine WZ ?_
 exact⟨(),⟨rfl,congrArg Value.bool (show decide (h=[43])=gW h from by rw[dT h1,show gW h=true from by rw[h1];rfl])⟩,rfl⟩
 have n1:=h1
 refine W ?_
 refine zc rfl (λh2=>?_) (λh2=>?_)
 refine WZ ?_
 exact⟨(),⟨rfl,congrArg Value.bool (show decide (h=[45])=gW h from by rw[dT h2,show gW h=true from by rw[h2];rfl])⟩,rfl⟩
 have n2:=h2
 refine W ?_
 refine zc rfl (λh3=>?_) (λh3=>?_)
 refine WZ ?_
 exact⟨(),⟨rfl,congrArg Value.bool (show decide (h=[42])=gW h from by rw[dT h3,show gW h=true from by rw[h3];rfl])⟩,rfl⟩
 have n3:=h3
 refine W ?_
 refine zc rfl (λh4=>?_) (λh4=>?_)
 refine WZ ?_
 exact⟨(),⟨rfl,congrArg Value.bool (show decide (h=kr)=gW h from by rw[dT h4,show gW h=true from by rw[h4];rfl])⟩,rfl⟩
 have n4:=h4
 refine W ?_
 exact⟨(),⟨rfl,congrArg Value.bool (show decide (h=yN)=gW h from by unfold gW;rw[dF n1,dF n2,dF n3,dF n4];rfl)⟩,rfl⟩
 intro gu w1 e1 hI
 obtain rfl:=hI.symm
 refine zc rfl (λh5=>?_) (λh5=>?_)
 have hq:=h5
 refine W ?_
 exact⟨_,rfl,(zy (agY hq)).symm,rfl⟩
 have b0:=h5
 refine W ?_
 refine zc rfl (λh6=>?_) (λh6=>?_)
 have hq:=h6
 refine W ?_
 exact⟨_,rfl,(zy (by rw[hq];rfl)).symm,rfl⟩
 have m1:=h6
 refine W ?_
 refine zc rfl (λh7=>?_) (λh7=>?_)
 have hq:=h7
 refine W ?_
 exact⟨_,rfl,(zy (by rw[hq];rfl)).symm,rfl⟩
 have m2:=h7
 refine W ?_
 refine zc rfl (λh8=>?_) (λh8=>?_)
 have hq:=h8
 refine W ?_
 exact⟨_,rfl,(zy (by rw[hq];rfl)).symm,rfl⟩
 have m3:=h8
 refine W ?_
 refine iS (λ_:Unit=>[(4,str h),(17,.bool (gw h))]) (λ_ w'=>w'=w) ?_ ?_
 refine zc rfl (λh9=>?_) (λh9=>?_)
 refine WZ ?_
 exact⟨(),⟨rfl,congrArg Value.bool (show decide (h=CR)=gw h from by rw[dT h9,show gw h=true from by rw[h9];rfl])⟩,rfl⟩
 have n5:=h9
 refine W ?_
 exact⟨(),⟨rfl,congrArg Value.bool (show decide (h=rF)=gw h from by unfold gw;rw[dF n5];rfl)⟩,rfl⟩
 intro gu w2 e2 hI
 obtain rfl:=hI.symm
 refine zc rfl (λgi=>?_) (λgi=>?_)
 have hq:=gi
 refine W ?_
 exact⟨_,rfl,(zy (agZ hq)).symm,rfl⟩
 have m4:=gi
 refine W ?_
 exact⟨_,rfl,(zy (by unfold dZ;rw[iN (by rw[b0];simp),iN m1,iN m2,iN m3,iN (by rw[m4];simp)])).symm,rfl⟩
end Go.Proofs.YthbhobaiopccaaaGreatDoor
