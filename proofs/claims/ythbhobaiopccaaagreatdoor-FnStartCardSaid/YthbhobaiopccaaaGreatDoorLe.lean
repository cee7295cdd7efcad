/- Lemmas for the law FnStart, no statement of their own: no conditions. -/
import Derived.Test.YthbhobaiopccaaaGreatDoorLd
set_option maxHeartbeats 4000000
set_option linter.unusedVariables false
set_option linter.unusedSimpArgs false
namespace Go.Proofs.YthbhobaiopccaaaGreatDoor
open Go
variable {L:List Nat} {w w':World} {T:Ty} {E b bytes i k n sz x:Nat} {v z:Value} {g:Option Nat} {rows:List (List C)} {ps xs:List ai} {vs:Array Value} {s:cE} {q1 q2 q3 q4 q5 q6:Operand} {a a1 a2 a3 a4 a5 a6 h:ai} {t:au} {ts:List au} {m m1 m2:Mk} {e:Ex}
theorem dD.sub {L':List Nat} {T:TypeId} (h:dD L w T sz v g rows) (hL:∀x,x∈L'->x∈L∨w.heap.size<=x):dD L' w T sz v g rows:=by
 obtain⟨xs,h1,h2⟩:=h.own
 exact⟨⟨xs,h1,h2.fresh hL⟩,h.row⟩
structure KA (L:List Nat) (T:TypeId) (sz:Nat) (g:Option Nat) (rows rows':List (List C)) (w w':World):Prop where
 aG:aj g.toList w w'
 old:∀v,dD (g.toList++L) w T sz v g rows->dD (g.toList++L) w' T sz v g rows
 new:∀v g',dD (g.toList++(g'.toList++L)) w T sz v g' rows'->dD (g.toList++(g'.toList++L)) w' T sz v g' rows'
theorem dD.any {T:TypeId} (h:dD L w T sz v g rows) (k:aj [] w w'):dD L w' T sz v g rows:=h.aG (Fr.of k sm) k sm
theorem S6 (L:List Nat) (T:TypeId) (sz:Nat) (g:Option Nat) (rows rows':List (List C)):Kept (KA L T sz g rows rows'):=
 ⟨λ_=>⟨aj.refl _ _,λ_ h=>h,λ_ _ h=>h⟩,λh k=>⟨h.aG.trans k.aG,λv x=>k.old v (h.old v x),λv g' x=>k.new v g' (h.new v g' x)⟩,
  λh=>⟨h.any,λ_ x=>x.any h,λ_ _ x=>x.any h⟩⟩
section
variable {P:Program} {w:World}
theorem aeM {t ty T:TypeId} {i:TypeInfo} {sz bytes:Nat} (ht:P.underlying t=some (.slice T)) (hi:P.info? T=some i) (hz:i.zero=some z) 
  (Bf:i.size=sz) (gj:i.bytes=bytes) (xf:z.cells.size=sz) {L:List Nat}
  {v:Value} {g:Option Nat} {rows:List (List C)} {row:List C} (hO:dD (g.toList++L) w T sz v g rows)
  (ab c:Nat) (news:List Value) (gY:row.length=sz) (Bg:fQ w ab 0 news) (h1:∀u∈news,u.oneCell'=true) (hr:cW (g.toList++L) w news row)
  (hb:(rows.length+1)*(bytes+1)<=140737488355328):
  ∃v' g' w',(Builtin.append_ #[t,t] ty #[v,.slice (some ⟨ab,0,none⟩) 1 c]).run P w= .ok v' w'∧dD (g.toList++(g'.toList++L)) w' T sz v' g' (rows++[row])∧KA L T sz g rows (rows++[row]) w w'∧
   (g'=g∨g'=some w.heap.size):=by
 subst Bf
 subst gj
 obtain⟨xs,dA,BZ⟩:=hO.own
 have aW:(rows.length+1)*i.bytes+(rows.length+1)<=140737488355328:=by rw[Nat.mul_add,Nat.mul_one] at hb;exact hb
 have yS:rows.length+1<=maxLen:=by unfold maxLen;omega
 have xg:(rows.length+1)*i.bytes<=140737488355328:=by omega
 have hl:news.length=1*i.size:=by rw[hr.length,gY,Nat.one_mul]
 have HX:rows.length+1<=9223372036854775807:=by simp only[maxLen] at yS;omega
 have hlen:(xs++news).length=(rows.length+1)*i.size:=by rw[lA,dA.1,hl,Nat.add_mul]
 have vD:∀b o j:Nat,(⟨b,o,none⟩:Addr).add j=⟨b,o+j,none⟩:=λb o j=>by unfold Addr.add;split<;>simp_all
 have ui:∀j u,news[j]?=some u->w.cell? ((⟨ab,0,none⟩:Addr).add j)=some u:=λj u hu=>by rw[vD];exact Bg j u hu
 have S7:∀r,r∈rows++[row]->r.length=i.size:=λr hx=>by
  rcases mA.1 hx with hx|hx
  ·exact hO.row r hx
  ·simp at hx;rw[hx];exact gY
 have oW:(rows++[row]).flatten=rows.flatten++row:=by simp
 have grown:∀(old:Nat),old<rows.length+1->
   dD (g.toList++((some w.heap.size).toList++L)) (w.drew.alloc (.cells (xs.toArray++news.toArray++Builtin.zeroCells z.cells (grownCap w (rows.length+1) old T-(rows.length+1))) T)) T i.size
    (.slice (some ⟨w.heap.size,0,none⟩) (rows.length+1) (grownCap w (rows.length+1) old T)) (some w.heap.size) (rows++[row])∧
   aj [] w (w.drew.alloc (.cells (xs.toArray++news.toArray++Builtin.zeroCells z.cells (grownCap w (rows.length+1) old T-(rows.length+1))) T)):=by
  intro old ho
  have oF:=grownCap_ge w (rows.length+1) old T
  have lT:grownCap w (rows.length+1) old T<=maxLen:=grownCap_le_maxLen w (rows.length+1) old T yS
  have hk:aj [] w (w.drew.alloc (.cells (xs.toArray++news.toArray++Builtin.zeroCells z.cells (grownCap w (rows.length+1) old T-(rows.length+1))) T)):=⟨rfl,rfl,rfl,sm,λk hk _=>(aj.alloc [] w.drew _).block k hk sm⟩
  refine⟨⟨⟨xs++news,⟨by simpa using hlen,.inr ⟨w.heap.size,_,_,rfl,?_,heap_alloc_new w.drew _,?_,lT,?_,?_⟩⟩,?_⟩,S7⟩,hk⟩
  ·simp
  ·simpa using oF
  ·simp only[Array.size_append,List.size_toArray,size_zeroCells,xf,dA.1,hl,<-Nat.add_mul]
   congr 1
   omega
  ·simp only[Array.toList_append,List.append_assoc]
   rw[<-List.append_assoc,lA,List.length_singleton,<-hlen]
   exact List.take_left
  ·rw[oW]
   refine((BZ.append hr).fresh (L':=g.toList++((some w.heap.size).toList++L)) λx hx=>?_).aG hk.any
   rcases mA.1 hx with hx|hx
   ·exact .inl (by simp[hx])
   ·rcases mA.1 hx with hx|hx
    ·right;simp at hx;omega
    ·exact .inl (by simp[hx])
 rcases dA.2 with⟨rfl,Ai,rfl⟩|⟨b,cap,cur,rfl,rfl,hb,mn,lT,bY,sX⟩
 ·have hx:xs=[]:=List.eq_nil_of_length_eq_zero (by rw[dA.1,Ai];simp)
  subst hx
  have hr:=run_append_nil (P:=P) w t ty T i z ht hi hz ⟨ab,0,none⟩ 1 c news hl ui om om (by rw[Ai] at xg;simp only[Nat.zero_add] at xg;omega)
  have kU:=grown 0 om
  rw[Ai] at kU
  simp only[Nat.zero_add,List.nil_append,Array.empty_append] at kU⊢
  exact⟨_,some w.heap.size,_,hr,kU.1,(S6 L T i.size none rows (rows++[row])).of kU.2,.inr rfl⟩
 ·by_cases r8:rows.length+1<=cap
  ·have kT:rows.length*i.size+news.length<=cur.size:=by rw[hl,bY,<-Nat.add_mul];exact Nat.mul_le_mul_right _ r8
   have jK:=run_append_room (P:=P) w t ty T i ht hi b rows.length cap cur hb ⟨ab,0,none⟩ 1 c news hl ui h1 r8 kT
   have DZ:aj [b] w (w.setRow b (cur.toList.take (rows.length*i.size)++news++cur.toList.drop (rows.length*i.size+news.length)).toArray):=⟨rfl,rfl,rfl,sm,λk _ hk=>setRow_other w b k _ (by simpa using hk)⟩
   have MM:aJ (w.setRow b (cur.toList.take (rows.length*i.size)++news++cur.toList.drop (rows.length*i.size+news.length)).toArray) b (cur.toList.take (rows.length*i.size)++news++cur.toList.drop (rows.length*i.size+news.length)).toArray T:=setRow_heap w b cur _ T _ hb
   have gN:(cur.toList.take (rows.length*i.size)++news++cur.toList.drop (rows.length*i.size+news.length)).toArray.size=cap*i.size:=by
    simp only[List.size_toArray,lA,List.length_take,List.length_drop,Array.length_toList]
    omega
   have S8:(cur.toList.take (rows.length*i.size)++news++cur.toList.drop (rows.length*i.size+news.length)).take ((rows.length+1)*i.size)=xs++news:=by
    rw[sX,<-hlen];exact List.take_left
   have aeN:(cur.toList.take (rows.length*i.size)++news++cur.toList.drop (rows.length*i.size+news.length)).take (rows.length*i.size)=xs:=by
    rw[sX,<-dA.1,List.append_assoc];exact List.take_left
   -- whoever owns block b,owns it with this size
   have cap_of:∀(v:Value) (n:Nat) (ys:List Value),iE w T i.size v (some b) n ys->∃cap',v= .slice (some ⟨b,0,none⟩) n cap'∧n<=cap'∧cap'<=maxLen∧cap'*i.size=cap*i.size∧ys=cur.toList.take (n*i.size):=by
    intro v n ys hv
    rcases hv.2 with⟨_,_,h⟩|⟨b',cap',cur',e',F9,gO,Dk,pj,DJ,nW⟩
    ·cases h
    ·cases e'
     have:cur'=cur:=by have h2:=gO.symm.trans hb;simpa using h2
     subst this
     exact⟨cap',F9,Dk,pj,by rw[<-DJ,bY],nW.symm⟩
   have wr:∀(v:Value) (n:Nat),(∃cap',v=Value.slice (some ⟨b,0,none⟩) n cap'∧n<=cap'∧cap'<=maxLen∧cap'*i.size=cap*i.size)->∀ys:List Value,ys.length=n*i.size->(cur.toList.take (rows.length*i.size)++news++cur.toList.drop (rows.length*i.size+news.length)).take (n*i.size)=ys->
     iE (w.setRow b (cur.toList.take (rows.length*i.size)++news++cur.toList.drop (rows.length*i.size+news.length)).toArray) T i.size v (some b) n ys:=by
    rintro v n ⟨cap',F9,Dk,pj,DJ⟩ ys hy eM
    exact⟨hy,.inr ⟨b,cap',_,rfl,F9,MM,Dk,pj,by rw[gN,DJ],eM⟩⟩
   refine⟨_,some b,_,jK,⟨⟨xs++news,wr _ _ ⟨cap,sm,by simpa using r8,lT,rfl⟩ _ (by simpa using hlen) (by simpa using S8),?_⟩,S7⟩,⟨DZ,λv hv=>?_,λv g' hv=>?_⟩,.inl rfl⟩
   ·rw[oW]
    exact((BZ.append hr).fresh λx hx=>.inl (by simp only[mA] at hx⊢;rcases hx with h|h|h;exact .inl h;exact .inl h;exact .inr h)).aG (DZ.mono λx hx=>by simp at hx;simp[hx])
   ·obtain⟨ys,h1,h2⟩:=hv.own
    obtain⟨cap',a1,a2,a3,a4,a5⟩:=cap_of _ _ _ h1
    refine⟨⟨ys,wr _ _ ⟨cap',a1,a2,a3,a4⟩ _ h1.1 ?_,h2.aG (DZ.mono λx hx=>by simp at hx;simp[hx])⟩,hv.row⟩
    rw[aeN,a5,sX]
   ·obtain⟨ys,h1,h2⟩:=hv.own
    by_cases Ap:g'=some b
    ·subst Ap
     obtain⟨cap',a1,a2,a3,a4,a5⟩:=cap_of _ _ _ h1
     refine⟨⟨xs++news,wr _ _ ⟨cap',a1,a2,a3,a4⟩ _ (by simpa using hlen) (by simpa using S8),?_⟩,hv.row⟩
     rw[oW]
     exact((BZ.append hr).fresh λx hx=>.inl (by simp only[mA] at hx⊢;rcases hx with h|h|h;exact .inl h;exact .inl h;exact .inr h)).aG (DZ.mono λx hx=>by simp at hx;simp[hx])
    ·exact⟨⟨ys,h1.aG DZ (λx hx fh=>Ap (by simp at fh;rw[hx,fh])),h2.aG (DZ.mono λx hx=>by simp at hx;simp[hx])⟩,hv.row⟩
  ·have holds:∀j u,xs[j]?=some u->w.cell? ((⟨b,0,none⟩:Addr).add j)=some u:=λj u hu=>by
    rw[vD,hb.cell]
    rw[<-sX,List.getElem?_take] at hu
    split at hu
    ·simpa using hu
    ·cases hu
   have hr:=run_append_grow (P:=P) w t ty T i z ht hi hz ⟨b,0,none⟩ rows.length cap xs dA.1 holds ⟨ab,0,none⟩ 1 c news hl ui om om (growslice_fits om xg)
   have kU:=grown cap om
   exact⟨_,some w.heap.size,_,hr,kU.1,(S6 L T i.size (some b) rows (rows++[row])).of kU.2,.inr rfl⟩
end
section
variable {P:Program} {n:Nat} {ops:Array Oper} {K:Env->World->Prop} {rest:List Oper} {e:Env} {w:World}
 {dst:Option Nat} {ty:TypeId} {pos:String} {after:Array Edge} {g:Option (Nat×Bool)} {x y:Operand}
theorem B0 {L:List Nat} {t:Nat} {v:Value} {gb:Option Nat} {rows:List (List C)} {row:List C} {news:List Value} {b c:Nat} (hT:P.underlying t=some (.slice E)) (hE:TI P E sz bytes z) (hg:gate ops e g=true) (hd:cm n dst=true) (hz:Nat.beq z.cells.size sz=true) (gj:Nat.ble bytes 1000=true) 
  (hx:ev e x=v) (hy:ev e y= .slice (some ⟨b,0,none⟩) 1 c) (hO:dD (gb.toList++L) w E sz v gb rows) (gY:row.length=sz) (hc:fQ w b 0 news) (h1:∀u∈news,u.oneCell'=true)
  (hr:cW (gb.toList++L) w news row) (hn:rows.length<100000000)
  (k:∀v' g' w',dD (gb.toList++(g'.toList++L)) w' E sz v' g' (rows++[row])->KA L E sz gb rows (rows++[row]) w w'->(g'=gb∨g'=some w.heap.size)->OW P n ops K rest (bQ e dst v') w'):
  OW P n ops K (⟨dst,.call {callee:=.builtin .append,args:=#[x,y],argTypes:=#[t,t]},ty,pos,after,g⟩::rest) e w:=by
 obtain⟨i,hi,xr,gN,MN⟩:=hE.get
 have Bw:bytes<=1000:=Nat.le_of_ble_eq_true gj
 obtain⟨v',g',w',jK,xu,hk,ky⟩:=aeM (P:=P) (ty:=ty) hT hi xr gN MN (Nat.eq_of_beq_eq_true hz) hO b c news gY hc h1 hr
  (Nat.le_trans (Nat.mul_le_mul (show rows.length+1<=100000000 by omega) (show bytes+1<=1001 by omega)) de)
 exact eX hg hd (w':=w') (by
  simp only[execOp,resolve,invoke,builtin,Sem.run_bind,Sem.run_pure,Result.andThen_ok,List.map_toArray,List.map_cons,List.map_nil,hx,hy,jK]) (k v' g' w' xu hk ky)
end
/-! ### Behind it -/
theorem MO:∀{vs:List Value} {xs:List ai},cW L w vs (il xs).flatten->vs=xs.map λx=>str x
 |[],[],_=>rfl
 |v::vs,x::xs,h=>by
  obtain⟨h1,h2⟩:=h
  cases h1
  rw[MO (xs:=xs) h2];rfl
theorem dD.se {T:TypeId} (h:dD L w T 1 v g (il xs)):cz w T v g xs:=by
 obtain⟨vs,h1,h2⟩:=h.own
 rw[qB,MO h2] at h1;exact h1
theorem S9 (L:List Nat) (w:World):∀xs:List ai,cW L w (xs.map λx=>str x) (il xs).flatten
 |[]=>trivial
 |_::xs=>⟨.val _,S9 L w xs⟩
theorem cz.Ta {T:TypeId} (h:cz w T v g xs) (L:List Nat):dD L w T 1 v g (il xs):=
 ⟨⟨_,h.aef,S9 L w xs⟩,λrow hr=>by obtain⟨x,_,rfl⟩:=List.mem_map.1 hr;rfl⟩
theorem Tb (xs:List ai) (x:ai):il xs++[[.val (str x)]]=il (xs++[x]):=by simp[il]
theorem aeO (xs:List Nat) (x:Nat):tx xs++[[.val (.int .i64 (x:Int))]]=tx (xs++[x]):=by simp[tx]
section
variable {τ:ss} {E L:List Nat} {w w':World} {b:Nat} {o:Bool} {vb vt vc vy:Value} {gb gt gc gy:Option Nat} {m:Mk}
def pH (E:List Nat) (b:Nat) (gb gt gy:Option Nat):List Nat:=E++b::(gb.toList++(gt.toList++gy.toList))
theorem xS:x∈pH E b gb gt gy↔x∈E∨x=b∨x∈gb.toList∨x∈gt.toList∨x∈gy.toList:=by simp[pH]
theorem gq.MP (h:gq τ E L w b o vb vt vc vy gb gt gc gy m):bc (pH E b gb gt gy) w vc m.code:=by
 obtain⟨a1,a2,a3,a4,a5,a6⟩:=h.apart
 rcases h.co with⟨_,h1⟩|⟨_,hn,h1⟩
 ·refine h1.rep λx hx hh=>?_
  have uJ:x∈gc.toList:=by simp[hx]
  rw[xS] at hh
  rcases hh with hh|hh|hh|hh|hh
  ·exact(a5 x uJ).1 hh
  ·exact(a5 x uJ).2.1 hh
  ·exact(a5 x uJ).2.2.1 hh
  ·exact(a5 x uJ).2.2.2 hh
  ·exact(a6 x hh).2.2.2.2 uJ
 ·exact h1.fresh λx hx=>.inl (h.mem.2 (by rw[xS] at hx;rcases hx with h|h|h|h|h<;>simp[h]))
theorem gq.Tc (h:gq τ E L w b o vb vt vc vy gb gt gc gy m):∀x,x∈pH E b gb gt gy->x∈L:=λx hx=>h.mem.2 (by rw[xS] at hx;rcases hx with h|h|h|h|h<;>simp[h])
theorem gq.aeP (h:gq τ E L w b o vb vt vc vy gb gt gc gy m) {bs:List Bk} (hy:dD (gb.toList++(g.toList++pH E b gb gt gy)) w' τ.B 3 v g (bs.map Bk.enc)) (k:aj gb.toList w w') (hg:g=gb∨∃x,g=some x∧w.heap.size<=x):
  ∃L',gq τ E L' w' b false v vt vc vy g gt none gy {m with blocks:=bs}∧Fr L w L' w':=by
 obtain⟨a1,a2,a3,a4,a5,a6⟩:=h.apart
 have ky:∀x,x∈g.toList->x∈gb.toList∨w.heap.size<=x∧x∉gt.toList∧x∉(none:Option Nat).toList∧x∉gy.toList:=λx hx=>by
  rcases hg with rfl|⟨y,rfl,hy⟩
  ·exact .inl hx
  ·have hx:x=y:=by simpa using hx
   refine .inr ⟨by omega,λhh=>?_,sm,λhh=>?_⟩<;>have:=h.IJ (x:=x) (by simp[hh])<;>omega
 obtain⟨hF,hN⟩:=h.swap k (λx hx=>⟨h.mem.2 (by simp[hx]),(a3 x hx).2,(a3 x hx).1⟩) (gb':=g) (gt':=gt) (gc':=none) (gy':=gy) ky (λx hx=>.inl hx) (λx hx=>by simp at hx) (λx hx=>.inl hx)
 have hcr:bc (E++b::(g.toList++(gt.toList++((none:Option Nat).toList++gy.toList)))) w' vc m.code:=by
  have h1:bc (pH E b gb gt gy) w' vc m.code:=bN.aD h.MP k λx hx=>xS.2 (by simp[hx])
  have h2:bc (g.toList++pH E b gb gt gy) w' vc m.code:=by
   rcases hg with rfl|⟨y,rfl,hy⟩
   ·exact h1.fresh λx hx=>.inl (by rcases mA.1 hx with h|h;exact xS.2 (by simp[h]);exact h)
   ·exact bN.aD (h.MP.fresh (L':=(some y).toList++pH E b gb gt gy) λx hx=>by
     rcases mA.1 hx with h|h
     ·simp at h;right;omega
     ·exact .inl h) k λx hx=>mR _ (xS.2 (by simp[hx]))
  exact h2.fresh λx hx=>.inl (by
   rw[xJ] at hx
   rw[mA,xS]
   rcases hx with h|h|h|h|h|h
   ·simp[h]
   ·simp[h]
   ·simp[h]
   ·simp[h]
   ·simp at h
   ·simp[h])
 refine⟨_,⟨hy.sub λx hx=>.inl ?_,h.ta.aG hF k (λx hx hy=>(a4 x hx).2.2 hy),.inr ⟨rfl,rfl,hcr⟩,h.ty.aG k λx hx hy=>(a6 x (by simp[hx])).2.2.1 hy,rfl,hN,?_⟩,hF⟩
 ·rw[xJ] at hx
  rw[mA,mA,xS]
  rcases hx with h|h|h|h|h|h
  ·simp[h]
  ·simp[h]
  ·simp[h]
  ·simp[h]
  ·simp at h
  ·simp[h]
 ·intro x hx
  rw[xJ] at hx
  have hs:=k.size
  rcases hx with hx|hx|hx|hx|hx|hx
  ·exact lL (h.cD x (h.mem.2 (by simp[hx]))) hs
  ·exact lL (h.cD x (h.mem.2 (by simp[hx]))) hs
  ·exact hy.lt x hx
  ·exact lL (h.cD x (h.mem.2 (by simp[hx]))) hs
  ·simp at hx
  ·exact lL (h.cD x (h.mem.2 (by simp[hx]))) hs
theorem gq.FC (h:gq τ E L w b o vb vt vc vy gb gt gc gy m) {ts:List Tk} (hy:dD (gt.toList++(g.toList++L)) w' τ.T 12 v g (ts.map Tk.enc)) (k:aj gt.toList w w') (hg:g=gt∨∃x,g=some x∧w.heap.size<=x):
  ∃L',gq τ E L' w' b o vb v vc vy gb g gc gy {m with bJ:=ts}∧Fr L w L' w':=by
 obtain⟨a1,a2,a3,a4,a5,a6⟩:=h.apart
 have ky:∀x,x∈g.toList->x∈gt.toList∨w.heap.size<=x∧x∉gb.toList∧x∉gc.toList∧x∉gy.toList:=λx hx=>by
  rcases hg with rfl|⟨y,rfl,hy⟩
  ·exact .inl hx
  ·have hx:x=y:=by simpa using hx
   refine .inr ⟨by omega,λhh=>?_,λhh=>?_,λhh=>?_⟩<;>have:=h.IJ (x:=x) (by simp[hh])<;>omega
 obtain⟨hF,hN⟩:=h.swap k (λx hx=>⟨h.mem.2 (by simp[hx]),(a4 x hx).2.1,(a4 x hx).1⟩) (gb':=gb) (gt':=g) (gc':=gc) (gy':=gy) (λx hx=>.inl hx) ky (λx hx=>.inl hx) (λx hx=>.inl hx)
 refine⟨_,⟨h.bl.aG hF k (λx hx hy=>(a4 x hy).2.2 hx),hy.sub λx hx=>.inl ?_,?_,h.ty.aG k λx hx hy=>(a6 x (by simp[hx])).2.2.2.1 hy,rfl,hN,?_⟩,hF⟩
 ·rw[xJ] at hx
  rw[mA,mA,h.mem]
  rcases hx with h|h|h|h|h|h<;>simp[h]
 ·rcases h.co with⟨ho,h1⟩|⟨ho,hn,h1⟩
  ·exact .inl ⟨ho,h1.aG k λx hx hy=>(a5 x (by simp[hx])).2.2.2 hy⟩
  ·exact .inr ⟨ho,hn,h1.go hF⟩
 ·intro x hx
  rw[xJ] at hx
  have hs:=k.size
  rcases hx with hx|hx|hx|hx|hx|hx
  ·exact lL (h.cD x (h.mem.2 (by simp[hx]))) hs
  ·exact lL (h.cD x (h.mem.2 (by simp[hx]))) hs
  ·exact lL (h.cD x (h.mem.2 (by simp[hx]))) hs
  ·exact hy.lt x hx
  ·exact lL (h.cD x (h.mem.2 (by simp[hx]))) hs
  ·exact lL (h.cD x (h.mem.2 (by simp[hx]))) hs
theorem gq.num (h:gq τ E L w b o vb vt vc vy gb gt gc gy m) (c:Nat) (q:Bool):gq τ E L w b o vb vt vc vy gb gt gc gy {m with count:=c,wide:=q}:=⟨h.bl,h.ta,h.co,h.ty,h.eL,h.nd,h.cD⟩
end
theorem Fr.in {G G':List Nat} (h:Fr G w G' w') (E:List Nat):Fr (E++G) w (E++G') w':=
 ⟨h.aG.mono λx hx=>mR _ hx,λx hx=>by
  rcases mA.1 hx with hx|hx
  ·exact .inl (List.mem_append_left _ hx)
  ·rcases h.mem x hx with h1|h1
   ·exact .inl (mR _ h1)
   ·exact .inr h1⟩
structure xT where
 M:TypeId
 S:TypeId
 T:TypeId
structure iz (τ:xT) (E G:List Nat) (w:World) (b:Nat) (vt vn ve:Value) (gn ge:Option Nat) (ag aK:List ai) (exprs:List au):Prop where
 ta:bc (E++G) w vt ag
 na:cz w τ.S vn gn aK
 ex:dD (E++G) w τ.T 2 ve ge (cX exprs)
 eG:G=b::(gn.toList++ge.toList)
 nd:(E++G).Nodup
 cD:∀x,x∈E++G->x<w.heap.size
section
variable {τ:xT} {E G:List Nat} {w w':World} {b:Nat} {vt vn ve:Value} {gn ge:Option Nat} {ag aK:List ai} {exprs:List au}
theorem iz.mem (h:iz τ E G w b vt vn ve gn ge ag aK exprs):x∈G↔x=b∨x∈gn.toList∨x∈ge.toList:=by rw[h.eG];simp
theorem iz.apart (h:iz τ E G w b vt vn ve gn ge ag aK exprs):E.Nodup∧b∉E∧(∀x,x∈gn.toList->x∉E∧x≠b)∧(∀x,x∈ge.toList->x∉E∧x≠b∧x∉gn.toList):=by
 have hn:=h.nd
 rw[h.eG,List.nodup_append,List.nodup_cons,List.nodup_append] at hn
 obtain⟨h1,⟨h2,h3,h4,h5⟩,h6⟩:=hn
 refine⟨h1,λhb=>h6 b hb b sm rfl,λx hx=>⟨λhe=>h6 x he x (by simp[hx]) rfl,λe=>h2 (by simp[<-e,hx])⟩,λx hx=>⟨λhe=>h6 x he x (by simp[hx]) rfl,λe=>h2 (by simp[<-e,hx]),λhy=>h5 x hy x hx rfl⟩⟩
theorem Td {A B:Option Nat} {F:List Nat} {b:Nat} (h1:F.Nodup) (h2:b∉F) (ha:∀x,x∈A.toList->x∉F∧x≠b) (hb:∀x,x∈B.toList->x∉F∧x≠b∧x∉A.toList):(F++b::(A.toList++B.toList)).Nodup:=by grind
theorem iz.Te (h:iz τ E G w b vt vn ve gn ge ag aK exprs) {ys:List ai} (hy:cz w' τ.S v g ys) (k:aj gn.toList w w') (hg:g=gn∨g=some w.heap.size):
  ∃G',iz τ E G' w' b vt v ve g ge ag ys exprs∧Fr G w G' w':=by
 obtain⟨a1,a2,a3,a4⟩:=h.apart
 have oX:∀x,x∈g.toList->x∈gn.toList∨x=w.heap.size:=λx hx=>by
  rcases hg with rfl|rfl
  ·exact .inl hx
  ·right;simpa using hx
 have dR:∀x,x∈E++G->x≠w.heap.size:=λx hx e=>by have:=h.cD x hx;omega
 have hF:Fr G w (b::(g.toList++ge.toList)) w':=⟨k.mono λx hx=>h.mem.2 (by simp[hx]),λx hx=>by
  rcases mC.1 hx with rfl|hx
  ·exact .inl (h.mem.2 (.inl rfl))
  ·rcases mA.1 hx with hx|hx
   ·rcases oX x hx with h1|h1
    ·exact .inl (h.mem.2 (by simp[h1]))
    ·right;omega
   ·exact .inl (h.mem.2 (by simp[hx]))⟩
 have hN:(E++b::(g.toList++ge.toList)).Nodup:=Td a1 a2 (λx hx=>by
  rcases oX x hx with h1|h1
  ·exact a3 x h1
  ·exact⟨λhe=>dR x (by simp[he]) h1,λe=>dR x (mR _ (h.mem.2 (.inl e))) h1⟩) (λx hx=>⟨(a4 x hx).1,(a4 x hx).2.1,λhy=>by
  rcases oX x hy with h1|h1
  ·exact(a4 x hx).2.2 h1
  ·exact dR x (mR _ (h.mem.2 (by simp[hx]))) h1⟩)
 refine⟨_,⟨h.ta.go (hF.in E),hy,h.ex.aG (hF.in E) k (λx hx hy=>(a4 x hx).2.2 hy),rfl,hN,λx hx=>?_⟩,hF⟩
 have hs:=k.size
 rcases mA.1 hx with hx|hx
 ·exact lL (h.cD x (by simp[hx])) hs
 ·rcases mC.1 hx with rfl|hx
  ·exact lL (h.cD x (mR _ (h.mem.2 (.inl rfl)))) hs
  ·rcases mA.1 hx with hx|hx
   ·exact hy.lt x hx
   ·exact lL (h.cD x (mR _ (h.mem.2 (by simp[hx])))) hs
theorem iz.aG (h:iz τ E G w b vt vn ve gn ge ag aK exprs) {H:List Nat} (k:aj H w w') (hH:∀x,x∈H->x=b):iz τ E G w' b vt vn ve gn ge ag aK exprs:=by
 obtain⟨a1,a2,a3,a4⟩:=h.apart
 have hF:Fr (E++G) w (E++G) w':=Fr.of k λx hx=>mR _ (h.mem.2 (.inl (hH x hx)))
 exact⟨h.ta.go hF,h.na.aG k (λx hx hy=>(a3 x (by simp[hx])).2 (hH x hy)),h.ex.aG hF k (λx hx hy=>(a4 x hx).2.1 (hH x hy)),h.eG,h.nd,λx hx=>lL (h.cD x hx) k.size⟩
theorem MQ {w:World} {T:TypeId} (hx:aJ w x #[] T):iE w T sz (.slice (some ⟨x,0,none⟩) 0 0) (some x) 0 []:=by grind [aJ,iE]
theorem Tf {w:World} {T:TypeId} (hx:aJ w x #[] T):cz w T (.slice (some ⟨x,0,none⟩) 0 0) (some x) []:=MQ hx
theorem MR {w:World} {T:TypeId} (hx:aJ w x #[] T):dD L w T sz (.slice (some ⟨x,0,none⟩) 0 0) (some x) []:=⟨⟨[],MQ hx,trivial⟩,sm⟩
theorem iz.opened (h:iz τ E G w b vt vn ve gn ge ag aK exprs) (k:aj [b] w w') {y:Nat} (hx:aJ w' x #[] τ.S) (hy:aJ w' y #[] τ.T) (h1:w.heap.size<=x) (h2:x<y):
  iz τ (gn.toList++(ge.toList++E)) (b::[x,y]) w' b vt (.slice (some ⟨x,0,none⟩) 0 0) (.slice (some ⟨y,0,none⟩) 0 0) (some x) (some y) ag [] []∧
   cz w' τ.S vn gn aK∧dD (E++G) w' τ.T 2 ve ge (cX exprs)∧Fr G w (b::[x,y]) w':=by
 obtain⟨a1,a2,a3,a4⟩:=h.apart
 have dR:∀z,z∈E++G->z<w.heap.size:=h.cD
 have hF:Fr (E++G) w ((gn.toList++(ge.toList++E))++(b::[x,y])) w':=⟨k.mono λz hz=>mR _ (h.mem.2 (.inl (by simpa using hz))),λz hz=>by
  simp only[mA,mC,List.not_mem_nil,or_false] at hz
  rcases hz with(hz|hz|hz)|hz|hz|hz
  ·exact .inl (mR _ (h.mem.2 (.inr (.inl hz))))
  ·exact .inl (mR _ (h.mem.2 (.inr (.inr hz))))
  ·exact .inl (List.mem_append_left _ hz)
  ·exact .inl (mR _ (h.mem.2 (.inl hz)))
  ·right;omega
  ·right;omega⟩
 have tH:Fr (E++G) w (E++G) w':=Fr.of k λz hz=>mR _ (h.mem.2 (.inl (by simpa using hz)))
 have hb:b<w.heap.size:=dR b (mR _ (h.mem.2 (.inl rfl)))
 have oX:∀z,z∈gn.toList->z<w.heap.size:=λz hz=>dR z (mR _ (h.mem.2 (.inr (.inl hz))))
 have oF:∀z,z∈ge.toList->z<w.heap.size:=λz hz=>dR z (mR _ (h.mem.2 (.inr (.inr hz))))
 have hE:∀z,z∈E->z<w.heap.size:=λz hz=>dR z (List.mem_append_left _ hz)
 refine⟨⟨h.ta.go hF,Tf hx,MR hy,rfl,?_,?_⟩,h.na.aG k (λz hz hy=>(a3 z (by simp[hz])).2 (by simpa using hy)),h.ex.aG tH k (λz hz hy=>(a4 z hz).2.1 (by simpa using hy)),⟨k.mono λz hz=>h.mem.2 (.inl (by simpa using hz)),λz hz=>?_⟩⟩
 ·rw[List.nodup_append,List.nodup_append,List.nodup_append]
  refine⟨⟨Mq gn,⟨Mq ge,a1,λp hp q hq e=>(a4 p hp).1 (e▸hq)⟩,λp hp q hq e=>?_⟩,?_,λp hp q hq e=>?_⟩
  ·subst e
   rcases mA.1 hq with hq|hq
   ·exact(a4 p hq).2.2 hp
   ·exact(a3 p hp).1 hq
  ·simp only[List.nodup_cons,mC,List.not_mem_nil,or_false,not_false_eq_true,List.nodup_nil,and_true]
   omega
  ·subst e
   simp only[mC,List.not_mem_nil,or_false] at hq
   simp only[mA] at hp
   rcases hp with hp|hp|hp
   ·rcases hq with hq|hq|hq
    ·exact(a3 p hp).2 hq
    ·have:=oX p hp;omega
    ·have:=oX p hp;omega
   ·rcases hq with hq|hq|hq
    ·exact(a4 p hp).2.1 hq
    ·have:=oF p hp;omega
    ·have:=oF p hp;omega
   ·rcases hq with hq|hq|hq
    ·subst hq;exact a2 hp
    ·have:=hE p hp;omega
    ·have:=hE p hp;omega
 ·intro z hz
  simp only[mA,mC,List.not_mem_nil,or_false] at hz
  have hs:=k.size
  rcases hz with(hz|hz|hz)|hz|hz|hz
  ·have:=oX z hz;omega
  ·have:=oF z hz;omega
  ·have:=hE z hz;omega
  ·omega
  ·rw[hz];exact hx.lt
  ·rw[hz];exact hy.lt
 ·simp only[mC,List.not_mem_nil,or_false] at hz
  rcases hz with hz|hz|hz
  ·exact .inl (h.mem.2 (.inl hz))
  ·right;omega
  ·right;omega
theorem iz.closed {G2:List Nat} {B1 vn2 ve2:Value} {gn2 ge2:Option Nat} {aeV:List ai} {aeW:List au} {w0:World} (h:iz τ E G w0 b vt vn ve gn ge ag aK exprs) 
  (h2:iz τ (gn.toList++(ge.toList++E)) G2 w b B1 vn2 ve2 gn2 ge2 ag aeV aeW) (hn:cz w τ.S vn gn aK) (he:dD (E++G) w τ.T 2 ve ge (cX exprs)) (hk:Fr G w0 G2 w) (k:aj [b] w w'):
  iz τ E G w' b B1 vn ve gn ge ag aK exprs∧Fr G w0 G w':=by
 obtain⟨a1,a2,a3,a4⟩:=h.apart
 have Gh:aj G w w':=k.mono λz hz=>h.mem.2 (.inl (by simpa using hz))
 have tH:Fr (E++G) w (E++G) w':=Fr.of Gh λz hz=>mR _ hz
 have ry:∀z,z∈E++G->z∈(gn.toList++(ge.toList++E))++G2:=λz hz=>by
  rcases mA.1 hz with hz|hz
  ·simp[hz]
  ·rcases h.mem.1 hz with hz|hz|hz
   ·exact mR _ (h2.mem.2 (.inl hz))
   ·simp[hz]
   ·simp[hz]
 have xU:bc (E++G) w B1 ag:=h2.ta.fresh λz hz=>.inl (ry z hz)
 refine⟨⟨xU.go tH,hn.aG k (λz hz hy=>(a3 z (by simp[hz])).2 (by simpa using hy)),he.aG tH k (λz hz hy=>(a4 z hz).2.1 (by simpa using hy)),h.eG,h.nd,λz hz=>?_⟩,⟨hk.aG.since Gh λz hz=>.inl hz,λz hz=>.inl hz⟩⟩
 have:=h.cD z hz
 have h3:=hk.aG.size
 have h4:=k.size
 omega
def m5V (n:Nat) (vt vn ve:Value):List Value:=[vt,.int .i64 (n:Int),vn,ve]
def M5 (τ:xT) (E G:List Nat) (w:World) (b:Nat) (ag:List ai) (n:Nat) (aK:List ai) (exprs:List au):Prop:=∃vt vn ve gn ge,aJ w b (m5V n vt vn ve).toArray τ.M∧iz τ E G w b vt vn ve gn ge ag aK exprs
theorem iz.ext (h:iz τ E G w b vt vn ve gn ge ag aK exprs) (k:aj [] w w'):iz τ E G w' b vt vn ve gn ge ag aK exprs:=h.aG k sm
theorem M5.ext (h:M5 τ E G w b ag n aK exprs) (k:aj [] w w'):M5 τ E G w' b ag n aK exprs:=by
 obtain⟨vt,vn,ve,gn,ge,h1,h2⟩:=h
 exact⟨vt,vn,ve,gn,ge,h1.aG k sm,h2.ext k⟩
end
structure dL (L:List Nat) (w:World) (b:Nat) (vs:Array Value) (T:TypeId):Prop where
 gX:aJ w b vs T
 out:b∉L
theorem dL.lt {T:TypeId} (h:dL L w b vs T):b<w.heap.size:=h.gX.lt
theorem dL.at {vs:List Value} {T:TypeId} (h:dL L w b vs.toArray T) (hv:vs[i]?=some v):w.cell? ⟨b,i,none⟩=some v:=h.gX.at hv
theorem dL.all {vs:List Value} {T:TypeId} (h:dL L w b vs.toArray T):fQ w b 0 vs:=h.gX.all
theorem dL.go {L':List Nat} {T:TypeId} (h:dL L w b vs T) (k:Fr L w L' w'):dL L' w' b vs T:=
 ⟨h.gX.aG k.aG h.out,λhx=>by
  rcases k.mem b hx with h1|h1
  ·exact h.out h1
  ·have:=h.gX.lt;omega⟩
theorem dL.ext {T:TypeId} (h:dL L w b vs T) (k:aj [] w w'):dL L w' b vs T:=⟨h.gX.ext k,h.out⟩
theorem dL.aD {G:List Nat} {T:TypeId} (h:dL L w b vs T) (k:aj G w w') (hG:∀x,x∈G->x∈L):dL L w' b vs T:=h.go (Fr.of k hG)
theorem aJ.o {T:TypeId} (h:aJ w b vs T) (hL:∀x,x∈L->x<b):dL L w b vs T:=⟨h,λhx=>by have:=hL b hx;omega⟩
theorem cz.rs {T:TypeId} (h:cz w T v g xs):bc [] w v xs:=h.rep sm
theorem jw {T:TypeId} (h:cz w T v g xs):∃a c,v= .slice a xs.length c:=iE.len h
section
variable {P:Program} {n:Nat} {ops:Array Oper} {K:Env->World->Prop} {rest:List Oper} {e:Env} {w:World} {dst:Option Nat} {ty:TypeId} {pos:String} {after:Array Edge} {g:Option (Nat×Bool)} {x y:Operand}
theorem Tg {t:Nat} {v:Value} {gb:Option Nat} {xs:List ai} {s:ai} {b U:Nat} (hT:P.underlying t=some (.slice E)) (hE:TI P E 1 bytes z) (hg:gate ops e g=true) (hd:cm n dst=true) (hz:Nat.beq z.cells.size 1=true) (gj:Nat.ble bytes 1000=true) 
  (hx:ev e x=v) (hy:ev e y= .slice (some ⟨b,0,none⟩) 1 1) (hO:cz w E v gb xs) (hb:aJ w b [str s].toArray U) (hn:xs.length<100000000)
  (k:∀v' g' w',cz w' E v' g' (xs++[s])->aj gb.toList w w'->Fr gb.toList w g'.toList w'->OW P n ops K rest (bQ e dst v') w'):
  OW P n ops K (⟨dst,.call {callee:=.builtin .append,args:=#[x,y],argTypes:=#[t,t]},ty,pos,after,g⟩::rest) e w:=by
 refine B0 (L:=[]) (row:=[.val (str s)]) hT hE hg hd hz gj hx hy (hO.Ta _) rfl hb.all (by simp[Value.oneCell']) ⟨.val _,trivial⟩ (by rw[qB];exact hn) ?_
 intro v' g' w' jO hk ky
 rw[Tb] at jO
 refine k v' g' w' jO.se hk.aG ⟨hk.aG,λq hq=>?_⟩
 rcases ky with h|h
 ·rw[h] at hq;exact .inl hq
 ·rw[h] at hq;simp at hq;right;omega
theorem kK {T:Nat} (hT:P.underlying T=some (.slice E)) (hE:TI P E 1 bytes z) (hg:gate ops e g=true) (hd:cm n dst=true) (h1:ev e q1=str a1) (h2:ev e q2=str a2) 
  (k:∀w',aj [] w w'->aJ w' w.heap.size [str a1,str a2].toArray E->w'.heap.size=w.heap.size+1->OW P n ops K rest (bQ e dst (.slice (some ⟨w.heap.size,0,none⟩) 2 2)) w'):
  OW P n ops K (⟨dst,.buildSlice T 2 #[(0,q1),(1,q2)],ty,pos,after,g⟩::rest) e w:=
 sC [q1,q2] [[str a1],[str a2]] hT hE hg hd rfl rfl rfl rfl rfl (by simp[h1,h2,Value.cells]) rfl k
theorem pI {T:Nat} (hT:P.underlying T=some (.slice E)) (hE:TI P E 1 bytes z) (hg:gate ops e g=true) (hd:cm n dst=true) (h1:ev e q1=str a1) (h2:ev e q2=str a2) (h3:ev e q3=str a3) 
  (k:∀w',aj [] w w'->aJ w' w.heap.size [str a1,str a2,str a3].toArray E->w'.heap.size=w.heap.size+1->OW P n ops K rest (bQ e dst (.slice (some ⟨w.heap.size,0,none⟩) 3 3)) w'):
  OW P n ops K (⟨dst,.buildSlice T 3 #[(0,q1),(1,q2),(2,q3)],ty,pos,after,g⟩::rest) e w:=
 sC [q1,q2,q3] [[str a1],[str a2],[str a3]] hT hE hg hd rfl rfl rfl rfl rfl (by simp[h1,h2,h3,Value.cells]) rfl k
theorem xV {T:Nat} (hT:P.underlying T=some (.slice E)) (hE:TI P E 1 bytes z) (hg:gate ops e g=true) (hd:cm n dst=true) (h1:ev e q1=str a1) (h2:ev e q2=str a2) (h3:ev e q3=str a3) (h4:ev e q4=str a4) 
  (k:∀w',aj [] w w'->aJ w' w.heap.size [str a1,str a2,str a3,str a4].toArray E->w'.heap.size=w.heap.size+1->OW P n ops K rest (bQ e dst (.slice (some ⟨w.heap.size,0,none⟩) 4 4)) w'):
  OW P n ops K (⟨dst,.buildSlice T 4 #[(0,q1),(1,q2),(2,q3),(3,q4)],ty,pos,after,g⟩::rest) e w:=
 sC [q1,q2,q3,q4] [[str a1],[str a2],[str a3],[str a4]] hT hE hg hd rfl rfl rfl rfl rfl (by simp[h1,h2,h3,h4,Value.cells]) rfl k
theorem Th {T:Nat} (hT:P.underlying T=some (.slice E)) (hE:TI P E 1 bytes z) (hg:gate ops e g=true) (hd:cm n dst=true) (h1:ev e q1=str a1) (h2:ev e q2=str a2) (h3:ev e q3=str a3) (h4:ev e q4=str a4) (h5:ev e q5=str a5) 
  (k:∀w',aj [] w w'->aJ w' w.heap.size [str a1,str a2,str a3,str a4,str a5].toArray E->w'.heap.size=w.heap.size+1->OW P n ops K rest (bQ e dst (.slice (some ⟨w.heap.size,0,none⟩) 5 5)) w'):
  OW P n ops K (⟨dst,.buildSlice T 5 #[(0,q1),(1,q2),(2,q3),(3,q4),(4,q5)],ty,pos,after,g⟩::rest) e w:=
 sC [q1,q2,q3,q4,q5] [[str a1],[str a2],[str a3],[str a4],[str a5]] hT hE hg hd rfl rfl rfl rfl rfl (by simp[h1,h2,h3,h4,h5,Value.cells]) rfl k
theorem aeY {T:Nat} (hT:P.underlying T=some (.slice E)) (hE:TI P E 1 bytes z) (hg:gate ops e g=true) (hd:cm n dst=true) (h1:ev e q1=str a1) (h2:ev e q2=str a2) (h3:ev e q3=str a3) (h4:ev e q4=str a4) (h5:ev e q5=str a5) (h6:ev e q6=str a6) 
  (k:∀w',aj [] w w'->aJ w' w.heap.size [str a1,str a2,str a3,str a4,str a5,str a6].toArray E->w'.heap.size=w.heap.size+1->OW P n ops K rest (bQ e dst (.slice (some ⟨w.heap.size,0,none⟩) 6 6)) w'):
  OW P n ops K (⟨dst,.buildSlice T 6 #[(0,q1),(1,q2),(2,q3),(3,q4),(4,q5),(5,q6)],ty,pos,after,g⟩::rest) e w:=
 sC [q1,q2,q3,q4,q5,q6] [[str a1],[str a2],[str a3],[str a4],[str a5],[str a6]] hT hE hg hd rfl rfl rfl rfl rfl (by simp[h1,h2,h3,h4,h5,h6,Value.cells]) rfl k
theorem Ti {T:Nat} {q7 q8:Operand} {a7 a8:ai} (hT:P.underlying T=some (.slice E)) (hE:TI P E 1 bytes z) (hg:gate ops e g=true) (hd:cm n dst=true) (h1:ev e q1=str a1) (h2:ev e q2=str a2) (h3:ev e q3=str a3) (h4:ev e q4=str a4) (h5:ev e q5=str a5) (h6:ev e q6=str a6) (h7:ev e q7=str a7) (h8:ev e q8=str a8) 
  (k:∀w',aj [] w w'->aJ w' w.heap.size [str a1,str a2,str a3,str a4,str a5,str a6,str a7,str a8].toArray E->w'.heap.size=w.heap.size+1->OW P n ops K rest (bQ e dst (.slice (some ⟨w.heap.size,0,none⟩) 8 8)) w'):
  OW P n ops K (⟨dst,.buildSlice T 8 #[(0,q1),(1,q2),(2,q3),(3,q4),(4,q5),(5,q6),(6,q7),(7,q8)],ty,pos,after,g⟩::rest) e w:=
 sC [q1,q2,q3,q4,q5,q6,q7,q8] [[str a1],[str a2],[str a3],[str a4],[str a5],[str a6],[str a7],[str a8]] hT hE hg hd rfl rfl rfl rfl rfl (by simp[h1,h2,h3,h4,h5,h6,h7,h8,Value.cells]) rfl k
theorem aeZ {T:Nat} {q7 q8 q9 MS:Operand} {a7 a8 a9 I4:ai} (hT:P.underlying T=some (.slice E)) (hE:TI P E 1 bytes z) (hg:gate ops e g=true) (hd:cm n dst=true) (h1:ev e q1=str a1) (h2:ev e q2=str a2) (h3:ev e q3=str a3) (h4:ev e q4=str a4) (h5:ev e q5=str a5) (h6:ev e q6=str a6) (h7:ev e q7=str a7) (h8:ev e q8=str a8) (h9:ev e q9=str a9) (fB:ev e MS=str I4) 
  (k:∀w',aj [] w w'->aJ w' w.heap.size [str a1,str a2,str a3,str a4,str a5,str a6,str a7,str a8,str a9,str I4].toArray E->w'.heap.size=w.heap.size+1->OW P n ops K rest (bQ e dst (.slice (some ⟨w.heap.size,0,none⟩) 10 10)) w'):
  OW P n ops K (⟨dst,.buildSlice T 10 #[(0,q1),(1,q2),(2,q3),(3,q4),(4,q5),(5,q6),(6,q7),(7,q8),(8,q9),(9,MS)],ty,pos,after,g⟩::rest) e w:=
 sC [q1,q2,q3,q4,q5,q6,q7,q8,q9,MS] [[str a1],[str a2],[str a3],[str a4],[str a5],[str a6],[str a7],[str a8],[str a9],[str I4]] hT hE hg hd rfl rfl rfl rfl rfl (by simp[h1,h2,h3,h4,h5,h6,h7,h8,h9,fB,Value.cells]) rfl k
end
theorem bC.eq {u:au} (h:bC L w v t) (e:t=u):bC L w v u:=e▸h
theorem eS {a:Option Addr} {c:Nat} (h:ek L w (.slice a n c) ts) (hi:i<ts.length):
  ∃b off pa pc,a=some ⟨b,off,none⟩∧fp L w b (off+i*2) [str (nth ts i).aw,.slice pa (nth ts i).ak.length pc]∧bC L w (.agg #[str (nth ts i).aw,.slice pa (nth ts i).ak.length pc]) (nth ts i):=by
 obtain⟨b,off,vs,ha,hb,hL,hl,hc,hr⟩:=yR h (K7 (fK hi))
 obtain⟨pa,pn,pc,he,hn,hp⟩:=dj (t:=nth ts i) ⟨vs,rfl,hr⟩
 have hv:vs=[str (nth ts i).aw,.slice pa pn pc]:=by
  have:=congrArg (λv=>match v with|Value.agg x=>x.toList|_=>[]) he
  simpa using this
 subst hv hn
 exact⟨b,off,pa,pc,ha,⟨hc,hb,hL⟩,lW hp⟩
theorem aJ.se {T:Nat} (xs:List ai) (h:aJ w b (xs.map λx=>str x).toArray T) (hl:xs.length<=100000:=by simp):cz w T (.slice (some ⟨b,0,none⟩) xs.length xs.length) (some b) xs:=
 ⟨by simp,.inr ⟨b,xs.length,_,rfl,rfl,h,lR _,Nat.le_trans hl de,sm,by rw[Nat.mul_one,List.take_of_length_le sm]⟩⟩
theorem aJ.dK {T:Nat} (xs:List ai) (h:aJ w b (xs.map λx=>str x).toArray T) (hL:b∉L) (hl:xs.length<=100000:=by simp):bc L w (.slice (some ⟨b,0,none⟩) xs.length xs.length) xs:=
 (h.se xs hl).rep λq hq=>by cases hq;exact hL
theorem aJ.kL {T:Nat} (h:aJ w b #[] T):cz w T (.slice (some ⟨b,0,none⟩) 0 0) (some b) []:=Tf h
theorem sE (h:n<1000):(aT n).length<=3:=by grind [aT]
theorem lD (h:ai) (ps:List ai):(dP h ps).length=h.length+2+js ps:=by grind [dP,RB,js]
theorem ae0 {m:Nat}:∀xs:List ai,(∀s,s∈xs->s.length<=m)->(xs.map List.length).sum<=xs.length*m:=by intro x;induction x<;>grind [lC,Nat.add_mul]
theorem Aq {m:Nat} (xs:List ai) (h:∀s,s∈xs->s.length<=m):js xs<=xs.length*(m+1):=by
 have:=ae0 xs h
 unfold js;rw[Nat.mul_add];omega
structure jT (s:cE):Prop where
 types:xF (ew s)
 regs:∀p,p∈s->p.2.1<1000
theorem Gi (h:jT s) (x:ai):kq s x<1000:=by
 unfold kq
 cases hf:s.reverse.find? λp=>decide (p.1=x) with
 |none=>simp
 |some p=>exact h.regs p (List.mem_reverse.1 (List.mem_of_find?_eq_some hf))
theorem I5 (h:jT s) (x:ai):(j4 s x).n<=16:=by
 unfold j4
 cases hl:look (ew s) x with
 |none=>decide
 |some T=>exact h.types x T hl
theorem pJ (h:T.n<=16):(bu T).length<=256:=by have:=BJ T;omega
theorem tI (h:T.n<=16):(dx (bu T)).length<=272:=by have:=pJ h;rw[Mp];omega
theorem jT.snoc (h:jT s) {x:ai} {r:Nat} (hr:r<1000) (hT:T.n<=16):jT (s++[(x,r,T)]):=by
 refine⟨by rw[DN];exact FP h.types hT,λp hp=>?_⟩
 rcases mA.1 hp with hp|hp
 ·exact h.regs p hp
 ·simp only[List.mem_singleton] at hp;rw[hp];exact hr
def Ar (s:ai):Prop:=∃T:Ty,T.n<=16∧s=dx (bu T)
/-! ### The type of a package's tuple -/
def lE (s:cE) (aK:List ai) (on:ai):List ai:=aK.map (λx=>bu (j4 s x))++(if on≠[] then[on] else[])
def D0:Option Ty->ai
 |some T=>dx (bu T)
 |none=>[]
def tJ (s:cE) (aK:List ai) (on:Option Ty):List au:=aK.map (λx=>qG (j4 s x))++(match on with|some T=>[zG (qG T)]|none=>[])
theorem D1 (s:cE) (aK:List ai) (on:Option Ty):lE s aK (D0 on)=(tJ s aK on).map au.text:=by
 unfold lE tJ
 rw[List.map_append,List.map_map]
 congr 1
 cases on with
 |none=>rfl
 |some T=>
  have dH:dx (bu T)≠[]:=by simp[dx]
  refine(iP (show D0 (some T)≠[] from dH)).trans ?_
  simp[D0,Sk,bu]
theorem Tj (s:cE) (aK:List ai) (on:ai):(lE s aK on).length<=aK.length+1:=by grind [lE]
theorem Tl (h:jT s) {aK:List ai} {on:ai} (kx:on.length<=272):∀t,t∈lE s aK on->t.length<=272:=by grind [lE,pJ,I5]
theorem Gj (h:jT s) {aK:List ai} {on:ai} (hn:aK.length<=40) (kx:on.length<=272):(dP [116] (lE s aK on)).length<=11200:=by
 have h1:=Aq _ (Tl h (aK:=aK) kx)
 have h2:=Tj s aK on
 have h3:(lE s aK on).length*(272+1)<=41*(272+1):=Nat.mul_le_mul om (lR _)
 rw[lD];simp only[lC,List.length_nil];omega
theorem ae1 (s:cE) (aK:List ai) (on:Option Ty):aK.length<=(tJ s aK on).length:=by simp_all[tJ]
theorem ae2 (s:cE) (aK:List ai) (on:Option Ty):∀t,t∈tJ s aK on->Good t:=λt ht=>by
 unfold tJ at ht
 rcases mA.1 ht with ht|ht
 ·obtain⟨x,_,rfl⟩:=List.mem_map.1 ht
  exact DL _
 ·cases on with
  |none=>simp at ht
  |some T=>simp only[List.mem_singleton] at ht;rw[ht];exact Sj (DL T)
theorem Tm (h:jT s) {aK:List ai} {on:Option Ty} (hn:aK.length<=40) (kx:∀T,on=some T->T.n<=16):
  bB (dP [116] (lE s aK (D0 on)))=some (vN [116] (tJ s aK on)):=by
 have hg:=Z8 (h:=[116]) de de (ae2 s aK on)
 rw[D1,<-Rp de]
 refine Lv hg ?_ ?_
 ·show au.depth.deeps (bL [116]::tJ s aK on)<=60
  refine Lp λp hp=>?_
  rcases mC.1 hp with rfl|hp
  ·have:(bL [116]).depth=0:=rfl
   omega
  ·unfold tJ at hp
   rcases mA.1 hp with hp|hp
   ·obtain⟨x,_,rfl⟩:=List.mem_map.1 hp
    have:=DM (j4 s x)
    have:=I5 h x
    omega
   ·cases on with
    |none=>simp at hp
    |some T=>
     simp only[List.mem_singleton] at hp
     have:=DM T
     have:=kx T rfl
     rw[hp,Sl];omega
 ·rw[Rp de,<-D1]
  have:=Gj h (aK:=aK) (on:=D0 on) hn (by
   cases on with
   |none=>simp[D0]
   |some T=>exact tI (kx T rfl))
  omega
/-! ### The state stays small -/
structure eV (m:Mk):Prop where
 types:∀s,s∈m.types->s.length<=100000
 code:∀s,s∈m.code->s.length<=100000
theorem eV.da (h:eV m) {k:ai} (hk:k.length<=100000):eV (m.da k):=⟨λs hs=>by
 rcases mA.1 hs with hs|hs
 ·exact h.types s hs
 ·simp only[List.mem_singleton] at hs;rw[hs];exact hk,h.code⟩
theorem eV.cC (h:eV m) {hd:ai} (hk:(dP hd ps).length<=100000):eV (m.cC hd ps):=⟨h.types,λs hs=>by
 rcases mA.1 hs with hs|hs
 ·exact h.code s hs
 ·simp only[List.mem_singleton] at hs;rw[hs];exact hk⟩
structure ae3 (m m':Mk) (dt dc:Nat):Prop where
 blocks:m'.blocks=m.blocks
 bJ:m'.bJ=m.bJ
 types:m'.types.length=m.types.length+dt
 code:m'.code.length=m.code.length+dc
theorem Tn (m:Mk) (s:cE) (ton:Nat) (aK:List ai) (on aM kind:ai) (ck:List ai):ae3 m (oN m s ton aK on aM kind ck).m 4 4:=by
 refine⟨rfl,rfl,?_,?_⟩<;>simp[oN,Mk.da,Mk.cC]
theorem To (m:Mk) (s:cE) (ton:Nat) (aK:List ai) (on aM kind:ai) (ck:List ai):(oN m s ton aK on aM kind ck).w=dP [116] (lE s aK on):=rfl
theorem Tp (hm:eV m) (hs:jT s) {ton:Nat} (ht:ton<1000) {aK:List ai} (hn:aK.length<=40) {on aM kind:ai} (kx:on.length<=272) (hl:aM.length<=10) (hk:kind.length<=272) {ck:List ai} (dH:ck.length<=2) (I6:∀x,x∈ck->x.length<=272) (eM:m.types.length+4<1000):eV (oN m s ton aK on aM kind ck).m:=by
 have hw:=Gj hs hn kx
 have dec:∀k,k<1000->(aT k).length<=3:=λk hk=>sE hk
 have aoh:=Aq ck I6
 have Tq:(dP [99] (dP [116] (lE s aK on)::ck)).length<=12000:=by
  rw[lD]
  have:js (dP [116] (lE s aK on)::ck)=1+(dP [116] (lE s aK on)).length+js ck:=by unfold js;simp;omega
  have h3:ck.length*(272+1)<=2*(272+1):=Nat.mul_le_mul dH (lR _)
  simp only[lC,List.length_nil];omega
 have regs:∀x,x∈aK.map (λx=>aT (kq s x))++(if on≠[] then[aT ton] else[])->x.length<=3:=λx hx=>by
  rcases mA.1 hx with hx|hx
  ·obtain⟨y,_,rfl⟩:=List.mem_map.1 hx
   exact dec _ (Gi hs y)
  ·split at hx
   ·simp only[List.mem_singleton] at hx;rw[hx];exact dec _ ht
   ·simp at hx
 have nG:(aK.map (λx=>aT (kq s x))++(if on≠[] then[aT ton] else[])).length<=41:=by
  rw[lA,List.length_map]
  split<;>simp<;>omega
 unfold oN
 have s2:∀a b:ai,js [a,b]=2+a.length+b.length:=λa b=>by simp[js];omega
 have s3:∀a b c:ai,js [a,b,c]=3+a.length+b.length+c.length:=λa b c=>by simp[js];omega
 have s4:∀a b c d:ai,js [a,b,c,d]=4+a.length+b.length+c.length+d.length:=λa b c d=>by simp[js];omega
 have lV:=dec m.types.length om
 have bM:=dec (m.types.length+1) om
 have bT:=dec (m.types.length+2) om
 have qj:=dec (m.types.length+3) om
 refine eV.cC (eV.da (eV.cC (eV.da (eV.cC (eV.da (eV.cC (eV.da hm ?_) ?_) ?_) ?_) ?_) ?_) ?_) ?_
 ·exact Nat.le_trans hw om
 ·have h1:=Aq _ regs
  have h2:(aK.map (λx=>aT (kq s x))++(if on≠[] then[aT ton] else[])).length*(3+1)<=41*(3+1):=Nat.mul_le_mul nG (lR _)
  rw[lD]
  have:js (aT m.types.length::(aK.map (λx=>aT (kq s x))++(if on≠[] then[aT ton] else[])))=1+(aT m.types.length).length+js (aK.map (λx=>aT (kq s x))++(if on≠[] then[aT ton] else[])):=by unfold js;simp;omega
  rw[this]
  simp only[lC,List.length_nil];omega
 ·exact Nat.le_trans Tq om
 ·rw[lD,s2];simp only[lC,List.length_nil];omega
 ·rw[lD,s2];have:=hw;unfold lE at this Tq;simp only[lC,List.length_nil];unfold lE at hw;omega
 ·rw[lD,s3];simp only[lC,List.length_nil];omega
 ·omega
 ·rw[lD,s4];have:=hw;unfold lE at this;simp only[lC,List.length_nil];omega
structure Ext (m m':Mk) (k:Nat) (new:List Tk):Prop where
 blocks:m'.blocks=m.blocks
 bJ:m'.bJ=m.bJ++new
 count:m'.count=m.count+new.length
 types:m.types.length<=m'.types.length∧m'.types.length<=m.types.length+k
 code:m'.code.length<=m.code.length+2*k
theorem Ext.refl (m:Mk):Ext m m 0 []:=⟨rfl,sm,rfl,om,om⟩
theorem Ext.trans {j:Nat} {p q:List Tk} (h:Ext m m1 j p) (h2:Ext m1 m2 k q):Ext m m2 (j+k) (p++q):=
 ⟨h2.blocks.trans h.blocks,by rw[h2.bJ,h.bJ,List.append_assoc],by rw[h2.count,h.count,lA];omega,by have:=h.types;have:=h2.types;omega,by have:=h.code;have:=h2.code;omega⟩
theorem Ext.more {m':Mk} {j:Nat} {p:List Tk} (h:Ext m m' j p) (hk:j<=k):Ext m m' k p:=⟨h.blocks,h.bJ,h.count,by have:=h.types;omega,by have:=h.code;omega⟩
theorem MT {s:ai} (h:p9 s=true):s.length<=4:=by grind [p9,numeral,Q7,dN]
theorem oo (h:e.ok):e.aw.length<=4:=by cases e<;>grind [Ex.ok,Ex.aw,MT]
theorem As (a b:ai):js [a,b]=2+a.length+b.length:=by simp[js];omega
theorem Gk {m:Mk} (hm:eV m) (hs:jT s) (ha:a.length<=4) (ht:m.types.length<1000):Ext m (bW m s a).1 1 []∧eV (bW m s a).1∧(bW m s a).2<1000:=by
 unfold bW
 split
 ·exact⟨(Ext.refl m).more om,hm,Gi hs a⟩
 ·refine⟨⟨rfl,by simp[Mk.da,Mk.cC],rfl,by simp[Mk.da,Mk.cC],by simp[Mk.da,Mk.cC]⟩,eV.cC (eV.da hm sm) ?_,ht⟩
  have:=sE ht
  rw[lD,As];simp only[lC,List.length_nil];omega
/-! ### Tasks -/
structure oq (t:Tk):Prop where
 ok:t.expr.ok
 type:∃T,bw t.expr (ew t.sc)=some T
 sc:jT t.sc
 bud:5*t.sc.length+2*t.expr.n<=240
 room:t.regs.length+t.loads+8*t.expr.n<=990
 regs:∀r,r∈t.regs->r.length<=100000
 loads:t.loads=0∨∃ts:List au,t.regs.head?=some (dP [116] (ts.map au.text))∧t.loads<=ts.length∧bB (dP [116] (ts.map au.text))=some (vN [116] ts)
 self:t.self=[]∨∃a b,t.self=[a,b]∧a.length<=272∧b.length<=11200∧t.regs.length=3∧∀r,r∈t.regs->r.length<=11200
 aU:Ar t.aU
 on:t.on<1000
 aM:t.aM.length<=4
theorem MU (s:cE) (k:Nat) (aK:List ai):ew (im s k aK [])=aK.map λx=>(x,j4 s x):=by
 unfold im ew
 rw[List.nil_append,List.map_map]
 have:∀(l:List ai) (j:Nat),(l.zipIdx j).map ((λp:ai×Nat×Ty=>(p.1,p.2.2))∘λp=>(p.1,k+p.2,j4 s p.1))=l.map λx=>(x,j4 s x):=by
  intro l
  induction l with
  |nil=>intro j;rfl
  |cons x l ih=>intro j;simp only[List.zipIdx_cons,List.map_cons,Function.comp,ih]
 exact this aK 0
theorem MV:∀{aK:List ai} {x:ai},x∈aK->look (aK.map λx=>(x,j4 s x)) x=some (j4 s x):=by
 intro aK x h
 have key:∀(l:List ai),(∃y,y∈l∧y=x)->(l.map λx=>(x,j4 s x)).find? (λp=>decide (p.1=x))=some (x,j4 s x):=by
  intro l
  induction l with
  |nil=>rintro⟨_,hy,_⟩;simp at hy
  |cons y l ih=>
   intro hh
   rw[List.map_cons,List.find?_cons]
   by_cases e:y=x
   ·rw[dT e,e]
   ·rw[dF e]
    obtain⟨z,hz,Tr⟩:=hh
    rcases mC.1 hz with hz|hz
    ·exact absurd (hz▸Tr) e
    ·exact ih ⟨z,hz,Tr⟩
 unfold look
 rw[<-List.map_reverse,key aK.reverse ⟨x,List.mem_reverse.2 h,rfl⟩];rfl
theorem Tt (h:jT s) (k:Nat) (aK:List ai) (hn:k+aK.length<1000):jT (im s k aK []):=by
 refine⟨λx T hT=>?_,λp hp=>?_⟩
 ·rw[MU] at hT
  have hx:x∈aK:=by
   unfold look at hT
   cases hf:(aK.map λx=>(x,j4 s x)).reverse.find? (λp=>decide (p.1=x)) with
   |none=>rw[hf] at hT;cases hT
   |some q=>
    have h1:=List.find?_some hf
    have h2:=List.mem_reverse.1 (List.mem_of_find?_eq_some hf)
    obtain⟨y,hy,rfl⟩:=List.mem_map.1 h2
    rw[<-of_decide_eq_true h1];exact hy
  rw[MV hx] at hT
  cases hT;exact I5 h x
 ·unfold im at hp
  rw[List.nil_append] at hp
  obtain⟨q,hq,rfl⟩:=List.mem_map.1 hp
  have:=List.snd_lt_of_mem_zipIdx hq
  show k+q.2<1000;omega
theorem xW (s:cE) (k:Nat) (aK:List ai):(im s k aK []).length=aK.length:=by simp[im]
theorem MW {x:ai} (h:(look (ew s) x).isSome=true):look (ew s) x=some (j4 s x):=by
 unfold j4
 cases hl:look (ew s) x with
 |none=>rw[hl] at h;cases h
 |some T=>rfl
theorem MX {bd:List ai} (hb:5*s.length+2*e.n<=240) (hf:∀x,Fv x e->x∉bd->(look (ew s) x).isSome=true):(cI e bd []).length<=34∧(cI e bd []).length<=s.length:=by
 have h1:=Mc e bd []
 have h2:(cI e bd []).length<=(s.map Prod.fst).length:=Me (adX e bd [] List.nodup_nil) λx hx=>by
  rcases(BI x e bd []).1 hx with h|⟨hx,hb⟩
  ·simp at h
  ·have:=hf x hx hb
   unfold look at this
   cases hq:(ew s).reverse.find? λp=>decide (p.1=x) with
   |none=>rw[hq] at this;cases this
   |some q=>
    have h3:=List.find?_some hq
    have h4:=List.mem_reverse.1 (List.mem_of_find?_eq_some hq)
    unfold ew at h4
    obtain⟨p,hp,rfl⟩:=List.mem_map.1 h4
    rw[<-of_decide_eq_true h3]
    exact List.mem_map.2 ⟨p,hp,rfl⟩
 simp only[List.length_nil,Nat.zero_add,List.length_map] at h1 h2
 omega
theorem Tu {ton:Nat} {aK:List ai} {on aM kind:ai} {ck:List ai}:Ext m (oN m s ton aK on aM kind ck).m 4 []:=by
 have h:=Tn m s ton aK on aM kind ck
 exact⟨h.blocks,by rw[h.bJ];simp,rfl,by rw[h.types];omega,by rw[h.code];omega⟩
theorem Au {m:Mk} (h:m.count<1000):m.aM.length<=4:=by grind [Mk.aM,sE]
theorem Tv {m:Mk} {f x:ai} {A B:Ty} (hs:jT s) (ba:(Ex.fn f x A B e).ok) (ht:bw (.fn f x A B e) (ew s)=some T) (hb:5*s.length+2*(Ex.fn f x A B e).n<=240) (hc:m.count<1000):oq (zM m s f x A B e)∧(cI (.fn f x A B e) [] []).length<=34∧1+A.n+B.n<=16:=by
 obtain⟨hf,hx,dH,hA,hB,he⟩:=ba
 have sF:∀y,Fv y (.fn f x A B e)->y∉([]:List ai)->(look (ew s) y).isSome=true:=λy hy _=>pC ht hy
 obtain⟨fj,iw⟩:=MX hb sF
 have xO:1+A.n+B.n<=16∧bw e (ew s++[(f,.op true A B),(x,A)])=some B:=by
  unfold bw at ht
  split at ht
  ·rename_i j9
   cases B2:bw e (ew s++[(f,.op true A B),(x,A)]) with
   |none=>rw[B2] at ht;cases ht
   |some C=>
    rw[B2,Option.bind_some] at ht
    split at ht
    ·rename_i hq;rw[ad0.1 hq];exact⟨j9,rfl⟩
    ·cases ht
  ·cases ht
 have Av:(Ty.op true A B).n<=16:=xO.1
 have we:(bu (.op true A B)).length<=256:=pJ Av
 have hn:(Ex.fn f x A B e).n=3+A.n+B.n+e.n:=rfl
 rw[hn] at hb
 have hA1:=A.pos
 have I7:=B.pos
 have I8:=Tt hs 3 (cI (.fn f x A B e) [] []) om
 have Gl:(ob m s f x A B e).w=dP [116] (lE s (cI (.fn f x A B e) [] []) []):=To ..
 have I9:(ob m s f x A B e).w.length<=11200:=by rw[Gl];exact Gj hs om sm
 have eM:bw e (ew (zK s f x A B e))=some B:=by
  rw[<-xO.2]
  unfold zK
  rw[DN]
  refine qd e _ _ λy Ja hy=>?_
  rw[oJ,zC]
  by_cases e1:x=y
  ·rw[iP e1,iP e1]
  ·rw[iN e1,iN e1]
   by_cases e2:f=y
   ·have h0:0<jR f e:=(adZ hf e).2 (e2▸hy)
    rw[iP e2,iP h0,DN,oJ,iP e2]
   ·rw[iN e2]
    have Tw:Fv y (.fn f x A B e):=⟨λe'=>e2 e'.symm,λe'=>e1 e'.symm,hy⟩
    have rF:y∈cI (.fn f x A B e) [] []:=(BI y _ [] []).2 (.inr ⟨Tw,sm⟩)
    have hl:look (ew (im s 3 (cI (.fn f x A B e) [] []) [])) y=look (ew s) y:=by
     rw[MU,MV rF,MW (pC ht Tw)]
    split
    ·rw[DN,oJ,iN e2,hl]
    ·exact hl
 have Tx:jT (zK s f x A B e):=by
  unfold zK
  split
  ·exact(I8.snoc om Av).snoc om hA
  ·exact I8.snoc om hA
 have oV:5*(zK s f x A B e).length+2*e.n<=240:=by
  unfold zK
  rw[lA]
  split
  ·rw[lA,xW];simp only[lC,List.length_nil];omega
  ·rw[xW];simp only[lC,List.length_nil];omega
 refine⟨{ok:=he,type:=⟨B,eM⟩,sc:=Tx,bud:=oV,room:=?_,regs:=?_,loads:=?_,self:=?_,aU:=⟨B,hB,rfl⟩,on:=?_,aM:=Au hc},fj,xO.1⟩
 ·show 3+(cI (.fn f x A B e) [] []).length+8*e.n<=990
  omega
 ·intro r hr
  have rj:r∈[(ob m s f x A B e).w,bu A,dx (bu B)]:=hr
  simp only[mC,List.not_mem_nil,or_false] at rj
  rcases rj with rfl|rfl|rfl
  ·omega
  ·have:=pJ hA;omega
  ·have:=tI hB;omega
 ·refine .inr ⟨tJ s (cI (.fn f x A B e) [] []) none,?_,ae1 _ _ _,?_⟩
  ·show some (ob m s f x A B e).w=_
   rw[Gl,<-D1];rfl
  ·rw[<-D1];exact Tm hs om sm
 ·show(if 0<jR f e then[bu (.op true A B),(ob m s f x A B e).w] else[])=[]∨_
  by_cases h0:0<jR f e
  ·refine .inr ⟨bu (.op true A B),(ob m s f x A B e).w,iP h0,om,I9,rfl,λr hr=>?_⟩
   have rj:r∈[(ob m s f x A B e).w,bu A,dx (bu B)]:=hr
   simp only[mC,List.not_mem_nil,or_false] at rj
   rcases rj with rfl|rfl|rfl
   ·exact I9
   ·have:=pJ hA;omega
   ·have:=tI hB;omega
  ·exact .inl (iN h0)
 ·show(2:Nat)<1000;omega
theorem ae4 {f x:ai} {A B:Ty} (hm:eV m) (hs:jT s) (ba:(Ex.fn f x A B e).ok) (ht:bw (.fn f x A B e) (ew s)=some T) (hb:5*s.length+2*(Ex.fn f x A B e).n<=240) (eM:m.types.length+4<1000) (hc:m.count<1000):
  Ext m (zN m s f x A B e).1 4 [zM m s f x A B e]∧eV (zN m s f x A B e).1∧(zN m s f x A B e).2<1000∧oq (zM m s f x A B e):=by
 obtain⟨hi,fj,Av⟩:=Tv (m:=m) hs ba ht hb hc
 obtain⟨_,_,_,hA,hB,_⟩:=ba
 have we:(bu (.op true A B)).length<=256:=pJ Av
 have hp:Ext m.k7 (ob m s f x A B e).m 4 []:=Tu
 have Gm:eV m.k7:=⟨hm.types,hm.code⟩
 have qM:eV (ob m s f x A B e).m:=Tp Gm hs om om sm (by have:=Au hc;omega) om sm (λy hy=>by
  simp only[mC,List.not_mem_nil,or_false] at hy
  rcases hy with rfl|rfl
  ·have:=pJ hA;omega
  ·exact tI hB) eM
 have h1:(ob m s f x A B e).m.bJ=m.bJ:=by rw[hp.bJ];simp[Mk.k7]
 have h2:(ob m s f x A B e).m.count=m.count+1:=by rw[hp.count];simp[Mk.k7]
 refine⟨⟨hp.blocks,?_,h2,hp.types,hp.code⟩,⟨qM.types,qM.code⟩,?_,hi⟩
 ·show(ob m s f x A B e).m.bJ++[zM m s f x A B e]=m.bJ++[zM m s f x A B e]
  rw[h1]
 ·show m.types.length+3<1000;omega
theorem ae5 {m:Mk} {ton:Nat} {aU name:ai} {kind:Ty} {rest:Ex} (hs:jT s) (kx:Ar aU) (we:kind.n<=16) (ba:rest.ok) (ht:bw rest (ew s++[(name,kind)])=some T) (hb:5*(s.length+1)+2*rest.n<=240) (hc:m.count<1000):oq (IH m s ton aU name kind rest)∧(cI rest [name] []).length<=34:=by
 obtain⟨O,hO,rfl⟩:=kx
 have sF:∀y,Fv y rest->y∉[name]->(look (ew s) y).isSome=true:=λy hy hn=>by
  have:=pC ht hy
  rw[oJ,iN (λe=>hn (by rw[e];simp))] at this;exact this
 obtain⟨fj,iw⟩:=MX om sF
 have I8:=Tt hs 2 (cI rest [name] []) om
 have Gl:(oc m s ton (dx (bu O)) name kind rest).w=dP [116] (lE s (cI rest [name] []) (dx (bu O))):=To ..
 have I9:(oc m s ton (dx (bu O)) name kind rest).w.length<=11200:=by rw[Gl];exact Gj hs om (tI hO)
 have eM:bw rest (ew (im s 2 (cI rest [name] []) []++[(name,1,kind)]))=some T:=by
  rw[<-ht,DN]
  refine qd rest _ _ λy Ja hy=>?_
  rw[oJ,oJ]
  by_cases e1:name=y
  ·rw[iP e1,iP e1]
  ·rw[iN e1,iN e1]
   have fS:y∉[name]:=λh=>e1 (by simpa using h:y=name).symm
   have rF:y∈cI rest [name] []:=(BI y _ [name] []).2 (.inr ⟨hy,fS⟩)
   rw[MU,MV rF,MW (sF y hy fS)]
 refine⟨{ok:=ba,type:=⟨T,eM⟩,sc:=I8.snoc om we,bud:=?_,room:=?_,regs:=?_,loads:=?_,self:=.inl rfl,aU:=⟨O,hO,rfl⟩,on:=?_,aM:=Au hc},fj⟩
 ·show 5*(im s 2 (cI rest [name] []) []++[(name,1,kind)]).length+2*rest.n<=240
  rw[lA,xW];simp only[lC,List.length_nil];omega
 ·show 2+((cI rest [name] []).length+1)+8*rest.n<=990
  omega
 ·intro r hr
  have rj:r∈[(oc m s ton (dx (bu O)) name kind rest).w,bu kind]:=hr
  simp only[mC,List.not_mem_nil,or_false] at rj
  rcases rj with rfl|rfl
  ·omega
  ·have:=pJ we;omega
 ·refine .inr ⟨tJ s (cI rest [name] []) (some O),?_,?_,?_⟩
  ·show some (oc m s ton (dx (bu O)) name kind rest).w=_
   rw[Gl,<-D1];rfl
  ·show(cI rest [name] []).length+1<=_
   unfold tJ;rw[lA,List.length_map];simp
  ·rw[<-D1];exact Tm hs om (λT hT=>by cases hT;exact hO)
 ·show 2+(cI rest [name] []).length<1000;omega
theorem ae6 {ton:Nat} {aU name:ai} {kind:Ty} {rest:Ex} (hm:eV m) (hs:jT s) (qN:ton<1000) (kx:Ar aU) (we:kind.n<=16) (ba:rest.ok) (ht:bw rest (ew s++[(name,kind)])=some T) (hb:5*(s.length+1)+2*rest.n<=240) (eM:m.types.length+4<1000) (hc:m.count<1000):
  Ext m (tw m s ton aU name kind rest).1 4 [IH m s ton aU name kind rest]∧eV (tw m s ton aU name kind rest).1∧(tw m s ton aU name kind rest).2.1<1000∧Ar (tw m s ton aU name kind rest).2.2∧oq (IH m s ton aU name kind rest):=by
 obtain⟨hi,fj⟩:=ae5 (m:=m) (ton:=ton) hs kx we ba ht hb hc
 obtain⟨O,hO,rfl⟩:=kx
 have hp:Ext m.k7 (oc m s ton (dx (bu O)) name kind rest).m 4 []:=Tu
 have Gm:eV m.k7:=⟨hm.types,hm.code⟩
 have qM:eV (oc m s ton (dx (bu O)) name kind rest).m:=Tp Gm hs qN om (tI hO) (by have:=Au hc;omega) (tI we) sm (λy hy=>by
  simp only[List.mem_singleton] at hy
  rw[hy];have:=pJ we;omega) eM
 have h1:(oc m s ton (dx (bu O)) name kind rest).m.bJ=m.bJ:=by rw[hp.bJ];simp[Mk.k7]
 have h2:(oc m s ton (dx (bu O)) name kind rest).m.count=m.count+1:=by rw[hp.count];simp[Mk.k7]
 refine⟨⟨hp.blocks,?_,h2,hp.types,hp.code⟩,⟨qM.types,qM.code⟩,?_,⟨kind,we,rfl⟩,hi⟩
 ·show(oc m s ton (dx (bu O)) name kind rest).m.bJ++[_]=m.bJ++[_]
  rw[h1]
 ·show m.types.length+3<1000;omega
theorem Gn (m:Mk) (k:ai):Ext m (m.da k) 1 []:=⟨rfl,by simp[Mk.da],rfl,by simp[Mk.da],by simp[Mk.da]⟩
theorem tK (m:Mk) (h:ai) (ps:List ai):Ext m (m.cC h ps) 1 []:=⟨rfl,by simp[Mk.cC],rfl,by simp[Mk.cC],by simp[Mk.cC]⟩
theorem xX (m:Mk) (k:ai):(m.da k).types.length=m.types.length+1:=by simp[Mk.da]
theorem ot (m:Mk) (h:ai) (ps:List ai):(m.cC h ps).types=m.types:=rfl
theorem nL {n:Nat} (h:n<1000):(aT n).length<=3:=sE h
theorem ou {m:Mk} (h:eV m) {hd:ai} (hh:hd.length<=5) (hp:ps.length<=4) (hs:∀p,p∈ps->p.length<=300):eV (m.cC hd ps):=h.cC (by
 have h1:=Aq (m:=300) ps hs
 have h2:ps.length*301<=4*301:=Nat.mul_le_mul hp (lR _)
 rw[lD];omega)
theorem D3 {s:ai} (h:dN s=true):s.length<=4:=by grind [dN]
def kH (ts:List Tk):Nat:=(ts.map λt=>t.expr.n+1).sum
theorem Gp (a b:List Tk):kH (a++b)=kH a+kH b:=by grind [kH]
theorem MY (t:Tk):kH [t]=t.expr.n+1:=by simp[kH]
theorem Gq:kH []=0:=rfl
theorem Tz {b:ai} (hm:eV m) (hs:jT s) (ha:a.length<=4) (hb:b.length<=4) (ht:m.types.length+1<1000):
  (Ext m (bW m s a).1 1 []∧eV (bW m s a).1∧(bW m s a).2<1000)∧Ext m (bW (bW m s a).1 s b).1 2 []∧eV (bW (bW m s a).1 s b).1∧(bW (bW m s a).1 s b).2<1000:=by
 have h1:=Gk hm hs ha om
 have h2:=Gk (m:=(bW m s a).1) (a:=b) h1.2.1 hs hb (by have:=h1.1.types;omega)
 exact⟨h1,h1.1.trans h2.1,h2.2⟩
structure TH (m m':Mk) (r:Nat) (n:Nat) (new:List Tk):Prop where
 ext:Ext m m' 4 new
 sml:eV m'
 da:r<1000
 inv:∀k,k∈new->oq k
 num:kH new+1<=n
theorem MZ (hm:eV m) (hs:jT s) (ba:e.ok) (ht:bw e (ew s)=some T) (hb:5*s.length+2*e.n<=240) (eM:m.types.length+8*e.n<=1000) (hc:m.count<1000):
  ∃new,TH m (mz m s T e).1 (mz m s T e).2 e.n new:=by
 have hT:=lx hs.types ht
 have hk:=pJ hT
 have two:∀(h a b:ai),a.length<=4->b.length<=4->h.length<=5->m.types.length+8<=1000->∀n,1<=n->
   TH m (((bW (bW m s a).1 s b).1.da (bu T)).cC h [aT (bW (bW m s a).1 s b).1.types.length,aT (bW m s a).2,aT (bW (bW m s a).1 s b).2]) (bW (bW m s a).1 s b).1.types.length n []:=by
  intro h a b ha hb hh h8 n hn
  obtain⟨⟨e1,_,r1⟩,e2,s2,r2⟩:=Tz hm hs ha hb om
  have M0:=e2.types
  refine⟨(e2.trans ((Gn _ _).trans (tK _ _ _))),ou (s2.da om) hh sm ?_,om,sm,by simp[Gq];omega⟩
  intro p hp
  simp only[mC,List.not_mem_nil,or_false] at hp
  rcases hp with rfl|rfl|rfl
  ·have:=nL (n:=(bW (bW m s a).1 s b).1.types.length) om;omega
  ·have:=nL r1;omega
  ·have:=nL r2;omega
 cases e with
 |«at» a=>
  obtain⟨h1,h2,h3⟩:=Gk hm hs (MT ba) (by simp only[Ex.n] at eM;omega)
  exact⟨[],h1.more om,h2,h3,sm,by simp[Gq,Ex.n]⟩
 |un h a=>
  simp only[Ex.n] at eM
  have xY:=a.pos
  obtain⟨h1,h2,h3⟩:=Gk hm hs (oo ba.2) om
  have M0:=h1.types
  refine⟨[],((h1.trans ((Gn _ _).trans (tK _ _ _)))).more om,ou (h2.da om) sm sm ?_,?_,sm,by simp[Gq,Ex.n]⟩
  ·intro p hp
   simp only[mC,List.not_mem_nil,or_false] at hp
   rcases hp with rfl|rfl|rfl
   ·have:=nL (n:=(bW m s a.aw).1.types.length) om;omega
   ·have:=nL h3;omega
   ·split<;>simp
  ·show(bW m s a.aw).1.types.length<1000;omega
 |bi h a b=>
  simp only[Ex.n] at eM
  have xY:=a.pos
  refine⟨[],two (qh h) a.aw b.aw (oo ba.2.1) (oo ba.2.2) ?_ om _ (Ex.pos _)⟩
  unfold qh;split
  ·simp
  ·split
   ·simp
   ·split<;>simp
 |ite a b c=>
  simp only[Ex.n] at eM
  exact⟨[],two (qh gm) a.aw b.aw (oo ba.1) (oo ba.2.1) de om _ (Ex.pos _)⟩
 |lt x a b=>
  simp only[Ex.n] at eM
  exact⟨[],two (qh fV) x a.aw (D3 ba.1) (oo ba.2.1) de om _ (Ex.pos _)⟩
 |fn f x A B e=>
  simp only[Ex.n] at eM
  obtain⟨h1,h2,h3,h4⟩:=ae4 hm hs ba ht hb om hc
  refine⟨_,h1,h2,h3,λk hk=>by simp only[List.mem_singleton] at hk;rw[hk];exact h4,?_⟩
  rw[MY];simp only[zM,Ex.n];omega
theorem TJ (hm:eV m) {s:Nat} (hs:s<1000) (ht:m.types.length+3<1000):Ext m (sr m s) 6 []∧eV (sr m s)∧(sr m s).types.length=m.types.length+3:=by
 have h0:=nL hs
 have h1:=nL (n:=m.types.length) om
 have h2:=nL (n:=m.types.length+1) om
 have h3:=nL (n:=m.types.length+2) om
 unfold sr
 have z:([]:ai).length<=100000:=by simp
 refine⟨(Gn _ _).trans ((tK _ _ _).trans ((Gn _ _).trans ((tK _ _ _).trans ((Gn _ _).trans (tK _ _ _))))),?_,by simp[Mk.da,Mk.cC]⟩
 refine ou (eV.da (ou (eV.da (ou (eV.da hm z) sm sm ?_) z) sm sm ?_) z) sm sm ?_
 all_goals
  intro p hp
  simp only[mC,List.not_mem_nil,or_false] at hp
  rcases hp with rfl|rfl|rfl<;>first|omega|simp
theorem ae7 (hm:eV m) {f on:Nat} (hf:f<1000) (hx:x<1000) (ho:on<1000) (ht:m.types.length+3<1000):Ext m (xG m f x on) 10 []∧eV (xG m f x on):=by
 obtain⟨h1,h2,h3⟩:=TJ hm hf ht
 have d1:=nL (n:=m.types.length+1) om
 have d2:=nL (n:=m.types.length+2) om
 have d3:=nL hx
 have d4:=nL ho
 unfold xG
 refine⟨h1.trans ((tK _ _ _).trans ((tK _ _ _).trans ((tK _ _ _).trans (tK _ _ _)))),?_⟩
 refine ou (ou (ou (ou h2 sm sm ?_) sm sm ?_) sm sm ?_) sm sm ?_
 all_goals
  intro p hp
  simp only[mC,List.not_mem_nil,or_false] at hp
  first
  |(rcases hp with rfl|rfl<;>first|omega|simp)
  |(rw[hp];omega)
theorem ae8 (hm:eV m) {on r:Nat} (ho:on<1000) (hr:r<1000) (ht:m.types.length+3<1000):Ext m (xH m on r) 10 []∧eV (xH m on r):=by
 obtain⟨h1,h2,h3⟩:=TJ hm ho ht
 have d1:=nL (n:=m.types.length+1) om
 have d2:=nL (n:=m.types.length+2) om
 have d3:=nL hr
 unfold xH
 refine⟨(h1.trans ((tK _ _ _).trans ((tK _ _ _).trans (tK _ _ _)))).more om,?_⟩
 refine ou (ou (ou h2 sm sm ?_) sm sm ?_) sm sm ?_
 all_goals
  intro p hp
  simp only[mC,List.not_mem_nil,or_false] at hp
  first
  |(rcases hp with rfl|rfl<;>first|omega|simp)
  |(rw[hp];omega)
structure nM (m:Mk) (s:cE) (on:Nat) (aU:ai) (e:Ex):Prop where
 sml:eV m
 sc:jT s
 ok:e.ok
 type:∃T,bw e (ew s)=some T
 bud:5*s.length+2*e.n<=240
 room:m.types.length+8*e.n<=1000
 on:on<1000
 aU:Ar aU
 cnt:m.count+e.n<=900
structure uK (m:Mk) (s:cE) (on:Nat) (aU:ai) (e:Ex) (T:Ty):Prop where
 ok:(bH e).s.ok
 type:bw (bH e).s (ew s)=some T
 small:T.n<=16
 nA:nA s (bH e).s=T
 le:(bH e).s.n<=e.n
 last:(bH e).name=[]->(bH e).s=e
 rest:(bH e).name≠[]->dN (bH e).name=true∧(bH e).rest.ok∧(∃U,bw (bH e).rest (ew s++[((bH e).name,T)])=some U)∧(bH e).s.n+(bH e).rest.n+2<=e.n
theorem nM.goal {on:Nat} {aU:ai} (h:nM m s on aU e):∃T,uK m s on aU e T:=by
 obtain⟨T,hT⟩:=h.type
 have same:bH e=⟨[],e,e⟩->∃T,uK m s on aU e T:=λhg=>by
  refine⟨T,?_,?_,lx h.sc.types hT,?_,?_,?_,?_⟩
  ·rw[hg];exact h.ok
  ·rw[hg];exact hT
  ·rw[hg];unfold nA;rw[hT];rfl
  ·rw[hg];exact lR _
  ·intro _;rw[hg]
  ·intro hn;rw[hg] at hn;exact absurd rfl hn
 have ba:=h.ok
 cases e with
 |lt x a b=>
  unfold bw at hT
  cases ha:bw a (ew s) with
  |none=>rw[ha] at hT;cases hT
  |some A=>
   rw[ha,Option.bind_some] at hT
   refine⟨A,ba.2.1,ha,lx h.sc.types ha,by show(bw a (ew s)).getD .i=A;rw[ha];rfl,by simp only[bH,Ex.n];omega,λhn=>absurd hn (uC ba.1),λ_=>⟨ba.1,ba.2.2,⟨T,hT⟩,by simp only[bH,Ex.n];omega⟩⟩
 |«at» a=>exact same rfl
 |un a b=>exact same rfl
 |bi a b c=>exact same rfl
 |ite a b c=>exact same rfl
 |fn a b c d f=>exact same rfl
def eE (m:Mk) (s:cE) (on:Nat) (aU name:ai) (kind:Ty) (rest:Ex):Mk×Nat×ai:=if name≠[] then tw m s on aU name kind rest else(m,on,aU)
structure Cut (m m':Mk) (on':Nat) (onOf':ai) (n:Nat) (new:List Tk):Prop where
 ext:Ext m m' 4 new
 sml:eV m'
 on:on'<1000
 aU:Ar onOf'
 inv:∀k,k∈new->oq k
 num:kH new<=n
theorem TK {m0:Mk} {on:Nat} {aU:ai} (h:nM m0 s on aU e) (g:uK m0 s on aU e T) (hm:eV m) (eM:m.types.length+4<1000) (hc:m.count<1000) (h3:2<=(bH e).s.n):
  ∃new,Cut m (eE m s on aU (bH e).name T (bH e).rest).1 (eE m s on aU (bH e).name T (bH e).rest).2.1 (eE m s on aU (bH e).name T (bH e).rest).2.2 (e.n-(bH e).s.n) new:=by
 by_cases hn:(bH e).name=[]
 ·unfold eE
  rw[iN (by simp[hn])]
  exact⟨[],(Ext.refl m).more om,hm,h.on,h.aU,sm,by simp[Gq]⟩
 ·unfold eE
  rw[iP hn]
  obtain⟨fS,Gs,⟨U,hU⟩,sG⟩:=g.rest hn
  have hb:=h.bud
  obtain⟨h1,h2,h3,h4,h5⟩:=ae6 (name:=(bH e).name) hm h.sc h.on h.aU g.small Gs hU om eM hc
  refine⟨_,h1,h2,h3,h4,λk hk=>by simp only[List.mem_singleton] at hk;rw[hk];exact h5,?_⟩
  rw[MY]
  show(bH e).rest.n+1<=_
  omega
structure Fin (m m':Mk) (n:Nat) (new:List Tk):Prop where
 ext:Ext m m' 20 new
 sml:eV m'
 inv:∀k,k∈new->oq k
 num:kH new+1<=n
structure On (m m':Mk) (s:cE) (on:Nat) (aU:ai) (n:Nat) (r:Ex) (new:List Tk):Prop where
 ext:Ext m m' 20 new
 inv:nM m' s on aU r
 bJ:∀k,k∈new->oq k
 num:kH new+r.n+1<=n
theorem ae9 {on:Nat} {aU:ai} (h:nM m s on aU e) (g:uK m s on aU e T) (hn:(bH e).name=[]):
  ∃new,Fin m (xH (mz m s T (bH e).s).1 on (mz m s T (bH e).s).2) e.n new:=by
 have hr:=h.room
 have hc:=h.cnt
 have hp:=(bH e).s.pos
 have hle:=g.le
 obtain⟨new,hP⟩:=MZ h.sml h.sc g.ok g.type (by have:=h.bud;omega) om om
 have ht:=hP.ext.types
 obtain⟨h1,h2⟩:=ae8 hP.sml h.on hP.da om
 exact⟨new,by have:=hP.ext.trans h1;rw[List.append_nil] at this;exact this.more om,h2,hP.inv,by have:=hP.num;omega⟩
theorem TL {on:Nat} {aU:ai} (h:nM m s on aU e) (g:uK m s on aU e T) (hn:(bH e).name≠[]):
  ∃new,On m (mz m s T (bH e).s).1 (s++[((bH e).name,(mz m s T (bH e).s).2,T)]) on aU e.n (bH e).rest new:=by
 have hr:=h.room
 have hc:=h.cnt
 have hp:=(bH e).s.pos
 have hle:=g.le
 obtain⟨fS,Gs,⟨U,hU⟩,sG⟩:=g.rest hn
 obtain⟨new,hP⟩:=MZ h.sml h.sc g.ok g.type (by have:=h.bud;omega) om om
 have ht:=hP.ext.types
 have hct:=hP.ext.count
 have Jb:=hP.num
 have hlen:new.length<=kH new:=by
  unfold kH
  clear hP hct Jb
  induction new with
  |nil=>simp
  |cons t l ih=>simp only[lC,List.map_cons,List.sum_cons];omega
 refine⟨new,hP.ext.more om,⟨hP.sml,h.sc.snoc hP.da g.small,Gs,⟨U,by rw[DN];exact hU⟩,?_,om,h.on,h.aU,om⟩,hP.inv,om⟩
 have:=h.bud
 simp only[lA,lC,List.length_nil];omega
theorem afb {on:Nat} {aU:ai} {f x:Ex} (h:nM m s on aU e) (g:uK m s on aU e T) (hs:(bH e).s= .bi j3 f x):
  ∃new,Cut (bW (bW m s f.aw).1 s x.aw).1 (eE (bW (bW m s f.aw).1 s x.aw).1 s on aU (bH e).name T (bH e).rest).1 (eE (bW (bW m s f.aw).1 s x.aw).1 s on aU (bH e).name T (bH e).rest).2.1 (eE (bW (bW m s f.aw).1 s x.aw).1 s on aU (bH e).name T (bH e).rest).2.2 (e.n-3) new∧
   Fin m (xG (eE (bW (bW m s f.aw).1 s x.aw).1 s on aU (bH e).name T (bH e).rest).1 (bW m s f.aw).2 (bW (bW m s f.aw).1 s x.aw).2 (eE (bW (bW m s f.aw).1 s x.aw).1 s on aU (bH e).name T (bH e).rest).2.1) e.n new:=by
 have ba:=g.ok
 rw[hs] at ba
 have hr:=h.room
 have hc:=h.cnt
 have hle:=g.le
 have M1:3<=(bH e).s.n:=by rw[hs];simp only[Ex.n];have:=f.pos;have:=x.pos;omega
 obtain⟨⟨e1,s1,r1⟩,e2,s2,r2⟩:=Tz h.sml h.sc (oo ba.2.1) (oo ba.2.2) om
 have t2:=e2.types
 have c2:=e2.count
 simp only[List.length_nil] at c2
 obtain⟨new,hC⟩:=TK h g s2 om om om
 have t3:=hC.ext.types
 obtain⟨h1,h2⟩:=ae7 hC.sml r1 r2 hC.on om
 refine⟨new,⟨hC.ext,hC.sml,hC.on,hC.aU,hC.inv,by have:=hC.num;omega⟩,?_,h2,hC.inv,by have:=hC.num;omega⟩
 have:=(e2.trans hC.ext).trans h1
 rw[List.append_nil,List.nil_append] at this;exact this.more om
def M3 (m:Mk) (s:cE) (on:Nat) (aU:ai) (x:Ex):Tk:=⟨m.aM,m.types,0,[],s,x,on,aU,m.types.length⟩
def Gt (m:Mk) (s:cE) (on:Nat) (aU:ai) (r:Nat) (x:Ex):Mk:={(m.k7.cC FU [aT r,m.aM]) with bJ:=m.bJ++[M3 m s on aU x]}
theorem TO {on:Nat} {aU:ai} {c x y:Ex} (h:nM m s on aU e) (g:uK m s on aU e T) (hs:(bH e).s= .ite c x y):
  ∃new xZ,Cut (bW m s c.aw).1 (eE (bW m s c.aw).1 s on aU (bH e).name T (bH e).rest).1 (eE (bW m s c.aw).1 s on aU (bH e).name T (bH e).rest).2.1 (eE (bW m s c.aw).1 s on aU (bH e).name T (bH e).rest).2.2 (e.n-(bH e).s.n) new∧
   On m (Gt (eE (bW m s c.aw).1 s on aU (bH e).name T (bH e).rest).1 s (eE (bW m s c.aw).1 s on aU (bH e).name T (bH e).rest).2.1 (eE (bW m s c.aw).1 s on aU (bH e).name T (bH e).rest).2.2 (bW m s c.aw).2 x) s
    (eE (bW m s c.aw).1 s on aU (bH e).name T (bH e).rest).2.1 (eE (bW m s c.aw).1 s on aU (bH e).name T (bH e).rest).2.2 e.n y xZ:=by
 have ba:=g.ok
 have eM:=g.type
 rw[hs] at ba eM
 have hr:=h.room
 have hc:=h.cnt
 have hle:=g.le
 have hb:=h.bud
 have hcp:=c.pos
 have M1:(bH e).s.n=1+c.n+x.n+y.n:=by rw[hs];rfl
 have hxp:=x.pos
 have hyp:=y.pos
 obtain⟨e1,s1,r1⟩:=Gk h.sml h.sc (oo ba.1) om
 have t1:=e1.types
 have c1:=e1.count
 simp only[List.length_nil] at c1
 obtain⟨new,hC⟩:=TK h g s1 om om om
 generalize eE (bW m s c.aw).1 s on aU (bH e).name T (bH e).rest=Q at hC⊢
 obtain⟨m2,x4,TP⟩:=Q
 dsimp only at hC⊢
 have t3:=hC.ext.types
 have c3:=hC.ext.count
 have Jb:=hC.num
 have hlen:new.length<=kH new:=by
  unfold kH
  clear hC c3 Jb t3
  induction new with
  |nil=>simp
  |cons t l ih=>simp only[lC,List.map_cons,List.sum_cons];omega
 have hl:=Au (m:=m2) om
 have tys:(∃X,bw x (ew s)=some X)∧∃Y,bw y (ew s)=some Y:=by
  unfold bw at eM
  cases h1:bw c (ew s) with
  |none=>rw[h1] at eM;cases eM
  |some A=>
   cases h2:bw x (ew s) with
   |none=>rw[h1,h2] at eM;cases eM
   |some B=>
    cases h3:bw y (ew s) with
    |none=>rw[h1,h2,h3] at eM;cases eM
    |some D=>exact⟨⟨B,rfl⟩,⟨D,rfl⟩⟩
 have jx:oq (M3 m2 s x4 TP x):=
  ⟨ba.2.1,tys.1,h.sc,by show 5*s.length+2*x.n<=240;omega,by show m2.types.length+0+8*x.n<=990;omega,hC.sml.types,.inl rfl,.inl rfl,hC.aU,hC.on,hl⟩
 refine⟨new,new++[M3 m2 s x4 TP x],hC,⟨?_,⟨?_,h.sc,ba.2.2,tys.2,om,?_,hC.on,hC.aU,?_⟩,?_,?_⟩⟩
 ·have he:=e1.trans hC.ext
  rw[List.nil_append] at he
  refine⟨he.blocks,?_,?_,?_,?_⟩
  ·show m2.bJ++[_]=_
   rw[he.bJ,List.append_assoc]
  ·show m2.count+1=_
   rw[he.count,lA];simp;omega
  ·have:=he.types;exact⟨this.1,by show m2.types.length<=_;omega⟩
  ·have:=he.code
   show(m2.code++[_]).length<=_
   simp only[lA,lC,List.length_nil];omega
 ·have:=ou (m:=m2.k7) (hd:=FU) (ps:=[aT (bW m s c.aw).2,m2.aM]) ⟨hC.sml.types,hC.sml.code⟩ de sm (λp hp=>by
   simp only[mC,List.not_mem_nil,or_false] at hp
   rcases hp with rfl|rfl
   ·have:=nL r1;omega
   ·omega)
  exact⟨this.types,this.code⟩
 ·show m2.types.length+_<=_;omega
 ·show m2.count+1+_<=_;omega
 ·intro k hk
  rcases mA.1 hk with hk|hk
  ·exact hC.inv k hk
  ·simp only[List.mem_singleton] at hk;rw[hk];exact jx
 ·rw[Gp,MY]
  show _+(x.n+1)+_+1<=_
  omega
def oY (m:Mk) (ts:List au):Nat->Mk
 |0=>m
 |k+1=>((oY m ts k).da (nth ts k).text).cC sq [aT (oY m ts k).types.length,[48],aT k]
def Aw (m:Mk) (aM:ai) (regs:List ai) (a b:ai):Mk:=
 let code:=dP [99] regs
 let r:=m.types.length
 (((((m.da code).cC sk [aT r,aM]).da (dP [116] [code,b])).cC ly [aT (r+1),aT r,[48]]).da a).cC sn [aT (r+2),aT (r+1),a,b]
def nN (m:Mk) (regs:List ai):Mk:={m with code:=[],types:=regs}
def Jc (m:Mk) (t:Tk):Mk:=match t.self with
 |[a,b]=>Aw m t.aM t.regs a b
 |_=>m
def mL (t:Tk):List au:=match bB (t.regs.getD 0 [105]) with
 |some x=>x.ak.drop 1
 |none=>[]
def qk (m:Mk) (t:Tk):Mk:=Jc (oY (nN m t.regs) (mL t) t.loads) t
theorem M4 {t:Tk} (h:t.regs.head?=some (dP [116] (ts.map au.text))) (hp:bB (dP [116] (ts.map au.text))=some (vN [116] ts)):mL t=ts∧bB (t.regs.getD 0 [105])=some (vN [116] ts):=by
 have e:t.regs.getD 0 [105]=dP [116] (ts.map au.text):=by
  cases hr:t.regs with
  |nil=>rw[hr] at h;cases h
  |cons a l=>rw[hr] at h;simpa using h
 unfold mL
 rw[e,hp]
 exact⟨rfl,rfl⟩
structure B3 (m m':Mk) (regs:List ai) (k:Nat):Prop where
 blocks:m'.blocks=m.blocks
 bJ:m'.bJ=m.bJ
 count:m'.count=m.count
 types:m'.types.length=regs.length+k
 code:m'.code.length<=k
 sml:eV m'
theorem M6 {regs:List ai} (h:∀r,r∈regs->r.length<=100000):B3 m (nN m regs) regs 0:=⟨rfl,rfl,rfl,rfl,by simp[nN],⟨h,by simp[nN]⟩⟩
theorem M7 {m:Mk} {regs:List ai} (h:∀r,r∈regs->r.length<=100000) (mJ:∀t,t∈ts->t.text.length<=100000):∀k,regs.length+k<1000->k<=ts.length->B3 m (oY (nN m regs) ts k) regs k
 |0,_,_=>M6 h
 |k+1,hk,hl=>by
  have ih:=M7 (m:=m) h mJ k om om
  have d1:=nL (n:=(oY (nN m regs) ts k).types.length) (by rw[ih.types];omega)
  have d2:=nL (n:=k) om
  refine⟨ih.blocks,ih.bJ,ih.count,by show(((oY (nN m regs) ts k).types++[_])).length=_;rw[lA,ih.types];rfl,?_,?_⟩
  ·show((oY (nN m regs) ts k).code++[_]).length<=_
   have:=ih.code
   rw[lA];simp;omega
  ·refine ou (ih.sml.da ?_) sm sm ?_
   ·have:=mJ (nth ts k) (by unfold nth;rw[gG,gE om];exact List.getElem_mem _)
    omega
   ·intro p hp
    simp only[mC,List.not_mem_nil,or_false] at hp
    rcases hp with rfl|rfl|rfl
    ·omega
    ·simp
    ·omega
theorem TQ {regs:List ai} (h3:regs.length=3) (h:∀r,r∈regs->r.length<=11200):(dP [99] regs).length<=33610:=by
 have h1:=Aq (m:=11200) regs h
 rw[h3] at h1
 rw[lD]
 simp only[lC,List.length_nil];omega
theorem afc (a b c d:ai):js [a,b,c,d]=4+a.length+b.length+c.length+d.length:=by simp[js];omega
theorem afd (hm:eV m) {aM:ai} (hl:aM.length<=4) {regs:List ai} (h3:regs.length=3) (h:∀r,r∈regs->r.length<=11200) {b:ai} (ha:a.length<=272) (hb:b.length<=11200) (ht:m.types.length+3<1000):eV (Aw m aM regs a b):=by grind [TQ,nL,cW.length,dP,lD,As,Aw,eV.cC,eV.da,ou,afc]
theorem afe {m':Mk} {regs:List ai} (h:B3 m m' regs k) (aM a b:ai) (hs:eV (Aw m' aM regs a b)):B3 m (Aw m' aM regs a b) regs (k+3):=
 ⟨h.blocks,h.bJ,h.count,by have:=h.types;simp[Aw,Mk.da,Mk.cC];omega,by have:=h.code;simp[Aw,Mk.da,Mk.cC];omega,hs⟩
theorem TR {s:ai} (h:s∈ps):s.length<=js ps:=by
 unfold js
 have:∀{xs:List ai},s∈xs->s.length<=(xs.map List.length).sum:=by
  intro xs
  induction xs with
  |nil=>intro h;cases h
  |cons x xs ih=>
   intro h
   rw[List.map_cons,List.sum_cons]
   rcases mC.1 h with rfl|h
   ·omega
   ·have:=ih h;omega
 have:=this h;omega
theorem M8 {m:Mk} {t:Tk} (h:oq t):B3 m (qk m t) t.regs (t.loads+(if t.self=[] then 0 else 3)):=by
 have hr:=h.room
 have hp:=t.expr.pos
 have h1:B3 m (oY (nN m t.regs) (mL t) t.loads) t.regs t.loads:=by
  rcases h.loads with h0|⟨ts,hh,hl,Gu⟩
  ·rw[h0];exact M6 h.regs
  ·obtain⟨e1,_⟩:=M4 hh Gu
   rw[e1]
   refine M7 h.regs (λx hx=>?_) _ om hl
   have h2:=h.regs _ (List.mem_of_mem_head? hh)
   rw[lD] at h2
   have:=TR (List.mem_map_of_mem (f:=au.text) hx)
   omega
 unfold qk Jc
 rcases h.self with h0|⟨a,b,hs,ha,hb,h3,hl⟩
 ·rw[h0,iP rfl];exact h1
 ·rw[hs,iN sm]
  refine afe h1 _ _ _ (afd h1.sml h.aM h3 hl ha hb ?_)
  rw[h1.types];omega
theorem TT {t:Tk} (h:oq t) (hc:m.count+t.expr.n<=900):nM (qk m t) t.sc t.on t.aU t.expr:=by
 have hb:=M8 (m:=m) h
 have hr:=h.room
 refine⟨hb.sml,h.sc,h.ok,h.type,h.bud,?_,h.on,h.aU,by rw[hb.count];exact hc⟩
 rw[hb.types]
 split<;>omega
/-! ### A block's body -/
def l3:Nat->At->Ex->Mk
 |0,a,_=>a.m
 |k+1,a,e=>match j5 a e with
  | .inl m=>m
  | .inr p=>l3 k p.1 p.2
theorem Jd (m:Mk) (s:cE) (on:Nat) (aU:ai) (g:Goal):II ⟨m,s,on,aU⟩ g=⟨(eE m s on aU g.name (nA s g.s) g.rest).1,s,(eE m s on aU g.name (nA s g.s) g.rest).2.1,(eE m s on aU g.name (nA s g.s) g.rest).2.2⟩:=by
 unfold II eE
 split<;>rfl
theorem TU {on:Nat} {aU:ai} (h:nM m s on aU e):match j5 ⟨m,s,on,aU⟩ e with
  | .inl m'=>∃new,Fin m m' e.n new
  | .inr p=>∃new,On m p.1.m p.1.s p.1.on p.1.aU e.n p.2 new:=by
 obtain⟨T,g⟩:=h.goal
 have hY:=g.nA
 have simple:j5 ⟨m,s,on,aU⟩ e=(if(bH e).name=[] then .inl (xH (mz m s (nA s (bH e).s) (bH e).s).1 on (mz m s (nA s (bH e).s) (bH e).s).2) else .inr (⟨(mz m s (nA s (bH e).s) (bH e).s).1,s++[((bH e).name,(mz m s (nA s (bH e).s) (bH e).s).2,nA s (bH e).s)],on,aU⟩,(bH e).rest))->
   match j5 ⟨m,s,on,aU⟩ e with
   | .inl m'=>∃new,Fin m m' e.n new
   | .inr p=>∃new,On m p.1.m p.1.s p.1.on p.1.aU e.n p.2 new:=λhs=>by
  rw[hs,hY]
  by_cases hn:(bH e).name=[]
  ·rw[iP hn];exact ae9 h g hn
  ·rw[iN hn];exact TL h g hn
 cases hg:(bH e).s with
 |«at» a=>exact simple (by unfold j5;simp only[hg])
 |un a b=>exact simple (by unfold j5;simp only[hg])
 |lt a b c=>exact simple (by unfold j5;simp only[hg])
 |fn a b c d f=>exact simple (by unfold j5;simp only[hg])
 |bi hd f x=>
  by_cases hc:hd=j3
  ·subst hc
   have hs:j5 ⟨m,s,on,aU⟩ e= .inl (xG (eE (bW (bW m s f.aw).1 s x.aw).1 s on aU (bH e).name T (bH e).rest).1 (bW m s f.aw).2 (bW (bW m s f.aw).1 s x.aw).2 (eE (bW (bW m s f.aw).1 s x.aw).1 s on aU (bH e).name T (bH e).rest).2.1):=by
    unfold j5
    simp only[hg,if_true,Jd]
    rw[<-hg,hY]
   rw[hs]
   obtain⟨new,_,hF⟩:=afb h g hg
   exact⟨new,hF⟩
  ·exact simple (by unfold j5;simp only[hg,iN hc])
 |ite c x y=>
  have hs:j5 ⟨m,s,on,aU⟩ e= .inr (⟨Gt (eE (bW m s c.aw).1 s on aU (bH e).name T (bH e).rest).1 s (eE (bW m s c.aw).1 s on aU (bH e).name T (bH e).rest).2.1 (eE (bW m s c.aw).1 s on aU (bH e).name T (bH e).rest).2.2 (bW m s c.aw).2 x,s,
    (eE (bW m s c.aw).1 s on aU (bH e).name T (bH e).rest).2.1,(eE (bW m s c.aw).1 s on aU (bH e).name T (bH e).rest).2.2⟩,y):=by
   unfold j5
   simp only[hg,Jd]
   rw[<-hg,hY];rfl
  rw[hs]
  obtain⟨_,new,_,hO⟩:=TO h g hg
  exact⟨new,hO⟩
structure wg (m m':Mk) (s:cE) (on:Nat) (aU:ai) (n k:Nat) (r:Ex) (new:List Tk):Prop where
 ext:Ext m m' k new
 inv:nM m' s on aU r
 bJ:∀k,k∈new->oq k
 num:kH new+r.n<=n
 steps:k+20*r.n<=20*n
theorem wg.start {on:Nat} {aU:ai} (h:nM m s on aU e):wg m m s on aU e.n 0 e []:=⟨Ext.refl m,h,sm,by simp[Gq],om⟩
theorem wg.step {s2:cE} {on x4:Nat} {aU D4:ai} {r r2:Ex} {new xZ:List Tk} (h:wg m m1 s on aU n k r new) (h2:On m1 m2 s2 x4 D4 r.n r2 xZ):wg m m2 s2 x4 D4 n (k+20) r2 (new++xZ):=
 ⟨h.ext.trans h2.ext,h2.inv,λt ht=>by rcases mA.1 ht with ht|ht;exact h.bJ t ht;exact h2.bJ t ht,by rw[Gp];have:=h.num;have:=h2.num;omega,by have:=h.steps;have:=h2.num;omega⟩
structure M9 (m m':Mk) (n:Nat) (new:List Tk):Prop where
 ext:Ext m m' (20*n) new
 sml:eV m'
 inv:∀k,k∈new->oq k
 num:kH new+1<=n
theorem wg.fin {on:Nat} {aU:ai} {r:Ex} {new xZ:List Tk} (h:wg m m1 s on aU n k r new) (h2:Fin m1 m2 r.n xZ):M9 m m2 n (new++xZ):=by
 have h3:=h.steps
 have h4:=r.pos
 refine⟨(h.ext.trans h2.ext).more om,h2.sml,λt ht=>?_,by rw[Gp];have:=h.num;have:=h2.num;omega⟩
 rcases mA.1 ht with ht|ht
 ·exact h.bJ t ht
 ·exact h2.inv t ht
theorem Je:∀(k:Nat) {m:Mk} {s:cE} {on:Nat} {aU:ai} {e:Ex},nM m s on aU e->e.n<=k->∃new,M9 m (l3 k ⟨m,s,on,aU⟩ e) e.n new
 |0,_,_,_,_,e,_,hk=>absurd hk (by have:=e.pos;omega)
 |k+1,m,s,on,aU,e,h,hk=>by
  have h1:=TU h
  unfold l3
  cases hs:j5 ⟨m,s,on,aU⟩ e with
  |inl m'=>
   rw[hs] at h1
   obtain⟨new,h1⟩:=h1
   exact⟨_,(wg.start h).fin h1⟩
  |inr p=>
   rw[hs] at h1
   obtain⟨⟨m1,s1,uL,aff⟩,e1⟩:=p
   obtain⟨new,h1⟩:=h1
   dsimp only at h1⊢
   obtain⟨xZ,h2⟩:=Je k h1.inv (by have:=h1.num;omega)
   have h3:=h1.num
   refine⟨new++xZ,(h1.ext.trans h2.ext).more om,h2.sml,λt ht=>?_,by rw[Gp];have:=h2.num;omega⟩
   rcases mA.1 ht with ht|ht
   ·exact h1.bJ t ht
   ·exact h2.inv t ht
theorem afg:∀(k:Nat) {m:Mk} {s:cE} {on:Nat} {aU:ai} {e:Ex},nM m s on aU e->e.n<=k->l3 k ⟨m,s,on,aU⟩ e=l3 e.n ⟨m,s,on,aU⟩ e:=by
 have key:∀(k j:Nat) {m:Mk} {s:cE} {on:Nat} {aU:ai} {e:Ex},nM m s on aU e->e.n<=k->e.n<=j->l3 k ⟨m,s,on,aU⟩ e=l3 j ⟨m,s,on,aU⟩ e:=by
  intro k
  induction k with
  |zero=>intro j _ _ _ _ e _ hk;have:=e.pos;omega
  |succ k ih=>
   intro j m s on aU e h hk hj
   cases j with
   |zero=>have:=e.pos;omega
   |succ j=>
    have h1:=TU h
    unfold l3
    cases hs:j5 ⟨m,s,on,aU⟩ e with
    |inl m'=>rfl
    |inr p=>
     rw[hs] at h1
     obtain⟨⟨m1,s1,uL,aff⟩,e1⟩:=p
     obtain⟨new,h1⟩:=h1
     dsimp only at h1⊢
     have h3:=h1.num
     exact ih j h1.inv om om
 exact λk m s on aU e h hk=>key k e.n h hk (lR _)
/-! ### A program -/
def B4 (m:Mk) (aM:ai) (regs:List ai):Mk:={m with blocks:=m.blocks++[⟨aM,regs,m.code⟩]}
abbrev sT:ai:=[40,116,41]
def sH (T:Ty):Mk:=
 let on:=dx (bu T)
 let code:=dP [99] [sT,bu T]
 ((((⟨[],[],0,false,[],[sT,code,dP [116] [code,sT],on]⟩:Mk).cC ly [[48]]).cC sk [[49],zJ]).cC ly [[50],[49],[48]]).cC sn [[51],[50],on,sT]
def Gv (e:Ex) (T:Ty):Tk:=⟨BK,[],0,[],[],e,3,dx (bu T),0⟩
def rG (e:Ex) (T:Ty):Mk:=l3 e.n ⟨sH T,[],3,dx (bu T)⟩ e
def B5 (e:Ex) (T:Ty):Mk:=B4 {(B4 (rG e T) BK []) with code:=[[40,104,97,108,116,32,49,41]]} zJ [sT,bu T]
def D5 (m:Mk) (t:Tk):Mk:=B4 (l3 t.expr.n ⟨qk m t,t.sc,t.on,t.aU⟩ t.expr) t.aM t.regs
def gJ (ts:List Tk) (i:Nat):Tk:=ts.getD i ⟨[],[],0,[],[],.at [],0,[],0⟩
def x5:Nat->Mk->Nat->Mk
 |0,m,_=>m
 |k+1,m,i=>if i<m.bJ.length then x5 k (D5 m (gJ m.bJ i)) (i+1) else m
def ofM (e:Ex) (T:Ty):Mk:=x5 1000 (B5 e T) 0
structure rH (m:Mk) (i:Nat):Prop where
 le:i<=m.bJ.length
 count:m.count=m.bJ.length
 num:i+kH (m.bJ.drop i)<=120
 inv:∀t,t∈m.bJ.drop i->oq t
 vK:∀b,b∈m.blocks->b.small∧b.aM.length<=10
 bnum:m.blocks.length=i+2
theorem TV (ba:e.ok) (ht:bw e []=some T) (hn:e.n<=120):nM (sH T) [] 3 (dx (bu T)) e:=by
 have hT:=lx (Γ:=[]) (λs T h=>by simp[look] at h) ht
 have h1:=pJ hT
 have h2:=tI hT
 have hc:(dP [99] [sT,bu T]).length<=300:=by rw[lD,As];simp only[lC,List.length_nil];omega
 have ho:Ar (dx (bu T)):=⟨T,hT,rfl⟩
 refine⟨?_,⟨λs T h=>by simp[ew,look] at h,sm⟩,ba,⟨T,ht⟩,by simp;omega,by simp[sH,Mk.cC];omega,om,ho,by simp[sH,Mk.cC];omega⟩
 unfold sH
 refine ou (ou (ou (ou ⟨?_,sm⟩ sm sm ?_) sm sm ?_) sm sm ?_) sm sm ?_
 ·intro s hs
  simp only[mC,List.not_mem_nil,or_false] at hs
  rcases hs with rfl|rfl|rfl|rfl
  ·simp
  ·omega
  ·rw[lD,As];simp only[lC,List.length_nil];omega
  ·omega
 all_goals
  intro p hp
  simp only[mC,List.not_mem_nil,or_false] at hp
  first
  |(rcases hp with rfl|rfl|rfl|rfl<;>first|omega|simp)
  |(rcases hp with rfl|rfl|rfl<;>first|omega|simp)
  |(rcases hp with rfl|rfl<;>first|omega|simp)
  |(rw[hp];simp)
theorem TW (ba:e.ok) (ht:bw e []=some T) (hn:e.n<=120):∃new,M9 (sH T) (rG e T) e.n new:=Je _ (TV ba ht hn) (lR _)
theorem TX (ts:List Tk):ts.length<=kH ts:=by induction ts<;>grind [kH]
theorem afh (m:Mk) (l:ai) (r:List ai):(B4 m l r).blocks=m.blocks++[⟨l,r,m.code⟩]:=rfl
theorem Na (ba:e.ok) (ht:bw e []=some T) (hn:e.n<=120):rH (B5 e T) 0:=by
 obtain⟨new,h⟩:=TW ba ht hn
 have h1:=h.ext.bJ
 have h2:=h.ext.count
 have h3:=h.num
 have h4:=h.ext.code
 have h5:=h.ext.blocks
 have hb:(B5 e T).blocks=[⟨BK,[],(rG e T).code⟩,⟨zJ,[sT,bu T],[[40,104,97,108,116,32,49,41]]⟩]:=by
  unfold B5
  rw[afh]
  show(rG e T).blocks++_++_=_
  rw[h5];rfl
 have nW:(B5 e T).bJ=new:=by
  show(rG e T).bJ=new
  rw[h1];rfl
 refine⟨Nat.zero_le _,?_,?_,?_,?_,by rw[hb];rfl⟩
 ·rw[nW]
  show(rG e T).count=_
  rw[h2];simp[sH,Mk.cC]
 ·rw[nW,List.drop_zero];omega
 ·rw[nW,List.drop_zero];exact h.inv
 ·intro b fH
  rw[hb] at fH
  have h6:(sH T).code.length=4:=rfl
  simp only[mC,List.not_mem_nil,or_false] at fH
  rcases fH with rfl|rfl
  ·exact⟨⟨by simp,sm,by show(rG e T).code.length<_;omega⟩,sm⟩
  ·exact⟨⟨by simp,sm,sm⟩,sm⟩
theorem Jf {ts:List Tk} (hi:i<ts.length):ts.drop i=gJ ts i::ts.drop (i+1):=by simp_all[gJ]
theorem rH.task (h:rH m i) (hi:i<m.bJ.length):oq (gJ m.bJ i)∧m.count+(gJ m.bJ i).expr.n<=900∧m.bJ.length<=120:=by
 have h1:=h.num
 have hl:=TX (m.bJ.drop i)
 rw[List.length_drop] at hl
 have h2:kH (m.bJ.drop i)=(gJ m.bJ i).expr.n+1+kH (m.bJ.drop (i+1)):=by rw[Jf hi];simp[kH]
 have h3:=h.count
 exact⟨h.inv _ (by rw[Jf hi];simp),om,om⟩
theorem rH.step (h:rH m i) (hi:i<m.bJ.length):rH (D5 m (gJ m.bJ i)) (i+1):=by
 obtain⟨hT,hc,_⟩:=h.task hi
 have h1:=h.num
 have h2:kH (m.bJ.drop i)=(gJ m.bJ i).expr.n+1+kH (m.bJ.drop (i+1)):=by rw[Jf hi];simp[kH]
 have hb:=M8 (m:=m) hT
 obtain⟨new,hF⟩:=Je _ (TT hT hc) (lR _)
 have e1:=hF.ext.bJ
 have e2:=hF.ext.count
 have e3:=hF.ext.code
 have e4:=hF.ext.blocks
 have e5:=hF.num
 have hbc:=hb.code
 rw[hb.bJ] at e1
 rw[hb.count] at e2
 rw[hb.blocks] at e4
 have hr:=hT.room
 have hd:(m.bJ++new).drop (i+1)=m.bJ.drop (i+1)++new:=by rw[List.drop_append_of_le_length hi]
 have ht:(D5 m (gJ m.bJ i)).bJ=m.bJ++new:=e1
 refine⟨by rw[ht,lA];omega,?_,?_,?_,?_,?_⟩
 ·rw[ht,lA,<-h.count];exact e2
 ·rw[ht,hd,Gp];omega
 ·intro t D6
  rw[ht,hd] at D6
  rcases mA.1 D6 with D6|D6
  ·exact h.inv t (by rw[Jf hi];simp[D6])
  ·exact hF.inv t D6
 ·intro b fH
  have D7:b∈m.blocks++[⟨(gJ m.bJ i).aM,(gJ m.bJ i).regs,(l3 (gJ m.bJ i).expr.n ⟨qk m (gJ m.bJ i),(gJ m.bJ i).sc,(gJ m.bJ i).on,(gJ m.bJ i).aU⟩ (gJ m.bJ i).expr).code⟩]:=by rw[<-e4];exact fH
  rcases mA.1 D7 with D7|D7
  ·exact h.vK b D7
  ·simp only[List.mem_singleton] at D7
   rw[D7]
   have hl:=hT.aM
   refine⟨⟨by show(gJ m.bJ i).aM.length<_;omega,by show(gJ m.bJ i).regs.length<_;omega,?_⟩,by show(gJ m.bJ i).aM.length<=_;omega⟩
   refine Nat.lt_of_le_of_lt e3 ?_
   have:(if(gJ m.bJ i).self=[] then 0 else 3)<=3:=by split<;>omega
   omega
 ·show((l3 _ _ _).blocks++[_]).length=_
  rw[e4,lA,h.bnum];rfl
theorem TZ (h:¬i<m.bJ.length):∀k,x5 k m i=m
 |0=>rfl
 |k+1=>by unfold x5;rw[iN h]
theorem T0 (h:i<m.bJ.length) (k:Nat):x5 (k+1) m i=x5 k (D5 m (gJ m.bJ i)) (i+1):=by
 rw[x5,iP h]
theorem rH.small (h:rH m i):ti m.blocks:=by
 have h1:=h.num
 refine⟨by rw[h.bnum];omega,λj hj=>(h.vK _ ?_).1⟩
 unfold bR
 rw[gG,gE hj];exact List.getElem_mem hj
theorem rH.labels (h:rH m i):∀b,b∈m.blocks->b.aM.length<=10:=λb hb=>(h.vK b hb).2
theorem Ax (h:ai):(gH h=true∧fW h=false∧h≠gm∧h≠fV∧h≠gF∧dS h=(1,3))∨(gH h=false∧fW h=false∧h=gm∧dS h=(1,4))∨
  (gH h=false∧fW h=false∧h=fV∧dS h=(2,4))∨(gH h=false∧fW h=false∧h=gF∧dS h=(5,6))∨(gH h=false∧fW h=true∧h≠gm∧h≠fV∧h≠gF∧dS h=(1,2))∨
  (gH h=false∧fW h=false∧h≠gm∧h≠fV∧h≠gF∧dS h=(0,0)):=by
 by_cases hb:gH h=true
 ·left
  have hk:dS h=(1,3):=by unfold dS;rw[iP hb]
  have aN:=hb
  simp only[gH,oE,dE] at aN
  rcases aN with(((e|e)|e)|e)|e<;>subst e<;>refine⟨rfl,rfl,by decide,by decide,by decide,hk⟩
 ·have gO:gH h=false:=by simpa using hb
  right
  by_cases h1:h=gm
  ·left;exact⟨gO,by rw[h1];rfl,h1,by rw[h1];rfl⟩
  ·right
   by_cases h2:h=fV
   ·left;exact⟨gO,by rw[h2];rfl,h2,by rw[h2];rfl⟩
   ·right
    by_cases h3:h=gF
    ·left;exact⟨gO,by rw[h3];rfl,h3,by rw[h3];rfl⟩
    ·right
     by_cases h4:fW h=true
     ·left;exact⟨gO,h4,h1,h2,h3,by unfold dS;rw[iN hb,iN h1,iN h2,iN h3,iP h4]⟩
     ·right;exact⟨gO,by simpa using h4,h1,h2,h3,by unfold dS;rw[iN hb,iN h1,iN h2,iN h3,iN h4]⟩
theorem Jg:dS gm=(1,4)∧dS fV=(2,4)∧dS gF=(5,6)∧fW gm=false∧fW fV=false∧fW gF=false∧gH gm=false∧gH fV=false∧gH gF=false:=by simp_all[dS,fW,gH]
def D8 (ps:List au):Bool:=(decide ((dS (nth ps 0).aw).1<=1)||dN (nth ps 1).aw)&&
 (decide ((dS (nth ps 0).aw).1≠5)||(dN (nth ps 2).aw&&decide ((nth ps 1).aw≠(nth ps 2).aw)&&jQ (nth ps 3)&&jQ (nth ps 4)))
theorem afi (ps:List au):nu ps=(decide ((dS (nth ps 0).aw).1≠0)&&decide (ps.length=(dS (nth ps 0).aw).2)&&D8 ps&&(ps.drop (dS (nth ps 0).aw).1).all dw):=by
 unfold D8
 match ps with
 |[]=>simp[nu,nth,au.aw,dS,gH,fW]
 |[h]=>rcases Ax h.aw with⟨h1,h2,h3,h4,h5,hk⟩|⟨h1,h2,h3,hk⟩|⟨h1,h2,h3,hk⟩|⟨h1,h2,h3,hk⟩|⟨h1,h2,h3,h4,h5,hk⟩|⟨h1,h2,h3,h4,h5,hk⟩<;>simp[nu,nth,hk]
 |[h,a]=>rcases Ax h.aw with⟨h1,h2,h3,h4,h5,hk⟩|⟨h1,h2,h3,hk⟩|⟨h1,h2,h3,hk⟩|⟨h1,h2,h3,hk⟩|⟨h1,h2,h3,h4,h5,hk⟩|⟨h1,h2,h3,h4,h5,hk⟩<;>simp[nu,nth,hk,h1,h2,h3,Jg]
 |[h,a,b]=>rcases Ax h.aw with⟨h1,h2,h3,h4,h5,hk⟩|⟨h1,h2,h3,hk⟩|⟨h1,h2,h3,hk⟩|⟨h1,h2,h3,hk⟩|⟨h1,h2,h3,h4,h5,hk⟩|⟨h1,h2,h3,h4,h5,hk⟩<;>simp[nu,nth,hk,h1,h2,h3,Jg]
 |[h,a,b,c]=>rcases Ax h.aw with⟨h1,h2,h3,h4,h5,hk⟩|⟨h1,h2,h3,hk⟩|⟨h1,h2,h3,hk⟩|⟨h1,h2,h3,hk⟩|⟨h1,h2,h3,h4,h5,hk⟩|⟨h1,h2,h3,h4,h5,hk⟩<;>simp[nu,nth,hk,h1,h2,h3,Jg]<;>try simp[*]
 |[h,a,b,c,d]=>rcases Ax h.aw with⟨h1,h2,h3,h4,h5,hk⟩|⟨h1,h2,h3,hk⟩|⟨h1,h2,h3,hk⟩|⟨h1,h2,h3,hk⟩|⟨h1,h2,h3,h4,h5,hk⟩|⟨h1,h2,h3,h4,h5,hk⟩<;>simp[nu,nth,hk]
 |[h,a,b,c,d,e]=>rcases Ax h.aw with⟨h1,h2,h3,h4,h5,hk⟩|⟨h1,h2,h3,hk⟩|⟨h1,h2,h3,hk⟩|⟨h1,h2,h3,hk⟩|⟨h1,h2,h3,h4,h5,hk⟩|⟨h1,h2,h3,h4,h5,hk⟩<;>simp[nu,nth,hk,h3,Jg]<;>try simp[*,Bool.and_assoc]
 |h::a::b::c::d::e::f::r=>rcases Ax h.aw with⟨h1,h2,h3,h4,h5,hk⟩|⟨h1,h2,h3,hk⟩|⟨h1,h2,h3,hk⟩|⟨h1,h2,h3,hk⟩|⟨h1,h2,h3,h4,h5,hk⟩|⟨h1,h2,h3,h4,h5,hk⟩<;>simp[nu,nth,hk]<;>omega
theorem T1 (t:au):dw t=if t.aw≠[] then p9 t.aw else nu t.ak:=by cases t with|mk a ps=>rw[dw];rfl
theorem afj (ha:t.aw=[]):dw t=(decide ((dS (nth t.ak 0).aw).1≠0)&&decide (t.ak.length=(dS (nth t.ak 0).aw).2)&&D8 t.ak&&(t.ak.drop (dS (nth t.ak 0).aw).1).all dw):=by grind [T1,afi]
theorem T2 (ps:List au):sj ps=(decide (ps.length=3)&&(decide ((nth ps 0).aw=[62])||decide ((nth ps 0).aw=[42]))&&(oI (nth ps 1)&&oI (nth ps 2))):=by
 match ps with
 |[]=>simp[sj]
 |[h]=>simp[sj]
 |[h,a]=>simp[sj]
 |[h,a,b]=>simp[sj,nth]
 |h::a::b::c::r=>simp[sj]
/-! ### Texts -/
def x6 (s:ai):Bool:=match bB s with
 |some t=>jQ t
 |none=>false
theorem afk {s:ai}:x6 s=true↔∃T:Ty,T.n<=16∧s=T.text:=by grind [x6,bB,zy,s8,vM,Ty.bB,Good.wf,Ex.wf]
theorem T3:x6 T.text=decide (T.n<=16):=by grind [afk,Ty.inj]
def B6 (s sg:ai):Option (Ty×Ty)->Prop
 |some (a,b)=>∃f,sg=jP f∧s=(Ty.op f a b).text∧(Ty.op f a b).n<=16
 |none=>∀f a b,sg=jP f->s=(Ty.op f a b).text->¬(Ty.op f a b).n<=16
def Jh (t:au):Bool:=dw t&&decide (fg t<=120)
def l4 (s:ai):Bool:=match bB s with
 |some t=>Jh t
 |none=>false
theorem afl (hw:WF t):Jh t=true↔∃e:Ex,t=e.aq∧e.ok∧e.n<=120:=by grind [Jh,adW,Ex.fg]
theorem wh {s:ai}:l4 s=true↔∃e:Ex,bB s=some e.aq∧e.ok∧e.n<=120:=by grind [l4,bB,afl,s8]
theorem T4 {ps:List au} (i:Nat):ju (ps.take i)<=ju ps:=by
 conv=>rhs;rw[<-List.take_append_drop i ps,RX]
 omega
theorem afm (t:au):ju t.ak<=t.size:=by
 cases t with
 |mk a ps=>have:=LY ps;simp only[au.size,au.ak];omega
theorem T5:∀(m:Nat) (t:au),t.size<=m->t.size<=10000000->WF t->∀(v:Value) (L:List Nat) (w:World),bC L w v t->
  bz Tryz.prog 152 [v] w λr w'=>r= .int .i64 (fg t:Int)∧aj [] w w':=by
 intro m
 induction m with
 |zero=>intro t h;have:=vL t;omega
 |succ m ih=>
  intro t hm mJ cL v L w hv
  obtain⟨a,n,c,rfl,hn,aQ⟩:=dj hv
  subst hn
  have mH:=xz t
  have hhs:=afm t
  have hK:=aj.refl [] w
  refine bX [.tmp 2] 24 Tryz.func152 rfl aa9 rfl rfl ?_
  refine zr<|eu rfl λw1 aI aW db=>?_
  have hK:=hK.ext aI
  refine W ?_
  refine zc rfl (λh1=>?_) (λh1=>?_)
  have hq:fg t=1:=by rw[LX,iP h1]
  refine W ?_
  exact⟨_,rfl,by rw[hq];rfl,hK⟩
  have hq:fg t=ju t.ak:=by rw[LX,iN h1]
  refine W ?_
  refine eH (λk:Nat=>[(1,.pointer (some ⟨w.heap.size,0,none⟩)),(3,.int .i64 ((ju (t.ak.take k):Nat):Int)),(4,.int .i64 (k:Int))]) (λk w'=>aj [] w w'∧aJ w' w.heap.size [str t.aw,.slice a t.ak.length c].toArray 74∧k<=t.ak.length) (λk=>t.ak.length-k) (0) (⟨rfl,rfl,rfl⟩) (⟨hK,aW,om⟩) λgg w2 e2 hI=>?_
  obtain⟨hK,aW,hk⟩:=hI
  refine W ?_
  refine zc rfl (λh2=>?_) (λh2=>?_)
  have fu:=fK (ps:=t.ak) (i:=gg) om
  obtain⟨b1,eR,pa,pn,pc,rfl,j9,eT,fD⟩:=ik aQ fu
  subst eT
  have BV:=cL.nth (i:=gg) om
  have nV:=kX (t:=t) (i:=gg) om
  have aS:=RY fu
  have hle:=T4 (ps:=t.ak) (gg+1)
  refine WL ?_
  refine zl iG rfl (aW.at rfl)<|zm<|zi cB aL rfl rfl om<|zL eQ aL rfl (j9.ext hK) rfl<|aA (ih (nth t.ak gg) om om BV _ L w2 ((lW fD).ext hK)) ?_
  rintro _ w3 ⟨rfl,aH⟩
  have eU:=aH.size
  refine bI aH hK aW λhK aW=>?_
  refine W ?_
  exact⟨gg+1,⟨rfl,congrArg (Value.int .i64) om,rfl⟩,⟨hK,aW,om⟩,om⟩
  have fM:gg=t.ak.length:=by omega
  subst fM
  refine W ?_
  exact⟨_,rfl,by rw[hq,List.take_length];rfl,hK⟩
theorem afn:∀(m:Nat) (t:au),t.size<=m->t.size<=10000000->WF t->∀(v:Value) (L:List Nat) (w:World),bC L w v t->
  bz Tryz.prog 221 [v] w λr w'=>r= .bool (oI t)∧aj [] w w':=by
 intro m
 induction m with
 |zero=>intro t h;have:=vL t;omega
 |succ m ih=>
  intro t hm mJ cL v L w hv
  obtain⟨a,n,c,rfl,hn,aQ⟩:=dj hv
  subst hn
  have hK:=aj.refl [] w
  have mH:=xz t
  refine bX [.tmp 2] 41 Tryz.func221 rfl abZ rfl rfl ?_
  refine zr<|eu rfl λw1 aI aW db=>bI aI hK aQ λhK aQ=>?_
  refine W ?_
  refine zc rfl (λh1=>?_) (λh1=>?_)
  have hq:oI t=decide (t.aw=[105]):=by rw[RZ,iP h1]
  refine W ?_
  exact⟨_,rfl,by rw[hq];rfl,hK⟩
  have ha:t.aw=[]:=Classical.not_not.1 h1
  have jS:=cL.pos ha
  have hq:oI t=sj t.ak:=by rw[RZ,iN (λh=>h ha)]
  obtain⟨b,off,pa,pn,pc,rfl,er,eT,fD⟩:=ik aQ (fK jS)
  refine WZ ?_
  apply oP 15 13 28 rfl oQ
  intro h2
  refine WZ ?_
  apply oB 7 20 27 rfl oQ
  intro h3
  refine WZ ?_
  exact oQ
  intro xx
  exact oQ
  intro xx
  refine aZ<|zc rfl (λh4=>?_) (λh4=>?_)
  have hz:sj t.ak=false:=by rw[T2];simp only[oE,aE,dE] at h4;rcases h4 with h|⟨h1,h2⟩;(·rw[dF om];rfl);(·rw[dF h1,dF h2];simp)
  refine W ?_
  exact⟨_,rfl,by rw[hq,hz];rfl,hK⟩
  simp only[Bool.or_eq_false_iff,Bool.and_eq_false_iff,decide_eq_false_iff_not,Classical.not_not] at h4
  obtain⟨h31,T6⟩:=h4
  have h3:t.ak.length=3:=om
  have nD:sj t.ak=(oI (nth t.ak 1)&&oI (nth t.ak 2)):=by rw[T2,dT h3];rcases T6 with h|h<;>rw[h]<;>rfl
  obtain⟨b1,eR,gd,pG,gh,e1,bF,qL,nI⟩:=ik aQ (fK (i:=1) om)
  cases e1
  subst qL
  obtain⟨b2,l5,iA,Ay,iB,e2,bU,Ji,Nb⟩:=ik aQ (fK (i:=2) om)
  cases e2
  subst Ji
  have dm:=kX (t:=t) (i:=1) om
  have dy:=kX (t:=t) (i:=2) om
  have cK:=lW nI
  have dG:=lW Nb
  refine gz<|zr<|zf jt rfl<|zl iG rfl (aW.at rfl)<|zi (i:=1) cB aL rfl rfl om<|zL eQ aL rfl bF rfl<|aA (ih (nth t.ak 1) om om (cL.nth om) _ L w1 cK) ?_
  rintro _ w2 ⟨rfl,az⟩
  have dy:=az.size
  refine gQ az hK aW bU dG λhK aW bU dG=>?_
  refine WZ ?_
  apply oA 6 34 40 (aj [] w2) rfl oQ
  intro h5
  refine zf jt rfl<|zl iG rfl (aW.at rfl)<|zi (i:=2) cB aL rfl rfl om<|zL eQ aL rfl bU rfl<|aA (ih (nth t.ak 2) om om (cL.nth om) _ L w2 dG) ?_
  rintro _ w3 ⟨rfl,aH⟩
  have eU:=aH.size
  exact oQ
  intro xx w3 aH
  have hK:=hK.ext aH
  refine W ?_
  exact⟨_,rfl,by rw[hq,nD];rfl,hK⟩
theorem Az (t:au) (mJ:t.size<=10000000) (cL:WF t) (v:Value) (L:List Nat) (w:World) (hv:bC L w v t):
  bz Tryz.prog 184 [v] w λr w'=>r= .bool (jQ t)∧aj [] w w':=by
 have dd:=hv
 obtain⟨a,n,c,rfl,hn,aQ⟩:=dj hv
 have hK:=aj.refl [] w
 refine bX [.tmp 2] 10 Tryz.func184 rfl abA rfl rfl ?_
 refine zr<|eu rfl λw1 aI aW db=>bI aI hK dd λhK dd=>?_
 refine W ?_
 refine aA (afn t.size t (lR _) mJ cL _ L w1 dd) ?_
 rintro _ w2 ⟨rfl,az⟩
 have dy:=az.size
 refine cG az hK dd aW λhK dd aW=>?_
 refine WZ ?_
 apply oA 4 5 9 (aj [] w2) rfl oQ
 intro _
 refine W ?_
 refine aA (T5 t.size t (lR _) mJ cL _ L w2 dd) ?_
 rintro _ w3 ⟨rfl,aH⟩
 have eU:=aH.size
 exact oQ
 intro xx w3 aH
 have hK:=hK.ext aH
 refine W ?_
 exact⟨_,rfl,congrArg Value.bool (show _=jQ t from by unfold jQ;congr 1;exact decide_eq_decide.2 om),hK⟩
theorem afo {s:ai} (h:DH s t):((bB s).isSome&&jQ t)=x6 s:=by
 unfold x6
 cases hp:bB s with
 |none=>rfl
 |some u=>rw[h.1 u hp];rfl
theorem Nc (s:ai) (w:World):bz Tryz.prog 227 [str s] w λr w'=>r= .bool (x6 s)∧aj [] w w':=by
 have hK:=aj.refl [] w
 refine bX [.tmp 2] 15 Tryz.func227 rfl ab5 rfl rfl ?_
 refine W ?_
 refine aA (I2 s [] w sm) ?_
 rintro v1 w1 ⟨fX,aI⟩
 have dm:=aI.size
 have hK:=hK.ext aI
 obtain⟨t,tv,rfl,ht,hp⟩:=fX
 obtain⟨pa,pn,pc,rfl,eT,aQ⟩:=dj ht
 refine W ?_
 refine dk aL rfl rfl rfl λw2 az cF dJ=>?_
 have hK:=hK.grow;have hK:=hK.ext az;have ht:=ht.grow;have ht:=ht.ext az
 refine cw aL rfl rfl rfl cF rfl λw3 aH cF gv=>?_
 have hK:=hK.aD aH sx;have ht:=ht.aD aH sx
 refine W ?_
 apply oA 3 11 14 (aj [] w3) rfl oQ
 intro h1
 obtain⟨u,hu⟩:=Option.isSome_iff_exists.1 h1
 have e:=hp.1 u hu
 subst e
 refine W ?_
 refine aA (Az t (by have:=zh hu;omega) (s8 hu) _ _ w3 ht) ?_
 rintro _ w4 ⟨rfl,aO⟩
 have fG:=aO.size
 exact oQ
 intro xx w4 aO
 have hK:=hK.ext aO
 refine W ?_
 exact⟨_,rfl,congrArg Value.bool (afo hp),hK⟩
def sI:Option (Ty×Ty)->ai
 |some p=>p.1.text
 |none=>[]
def ya:Option (Ty×Ty)->ai
 |some p=>p.2.text
 |none=>[]
def Nd (o:Option (Ty×Ty)):Value:=.tuple #[str (sI o),str (ya o),.bool o.isSome]
theorem afp {s sg:ai} (hp:DH s t) (h:(((!(bB s).isSome||!jQ t)||decide (t.aw≠[]))||decide ((nth t.ak 0).aw≠sg))=true):B6 s sg none:=by
 intro f a b e1 e2 hn
 have aQ:bB s=some (Ty.op f a b).aq:=by rw[e2];exact Ty.bB om
 have e:=hp.1 _ aQ
 subst e
 have ht:jQ (Ty.op f a b).aq=true:=(zy (s8 aQ)).2 ⟨_,rfl,hn⟩
 rw[aQ,ht] at h
 simp[Ty.aq,au.aw,au.ak,nth,bL,e1] at h
theorem afq {s sg:ai} (hp:DH s t) (h:(((!(bB s).isSome||!jQ t)||decide (t.aw≠[]))||decide ((nth t.ak 0).aw≠sg))=false):∃f A B,t=(Ty.op f A B).aq∧(Ty.op f A B).n<=16∧B6 s sg (some (A,B)):=by
 simp only[Bool.or_eq_false_iff,Bool.not_eq_false',decide_eq_false_iff_not,Classical.not_not] at h
 obtain⟨⟨⟨h1,h2⟩,h3⟩,h4⟩:=h
 obtain⟨u,hu⟩:=Option.isSome_iff_exists.1 h1
 have e:=hp.1 u hu
 subst e
 obtain⟨T,rfl,hn⟩:=(zy (s8 hu)).1 h2
 cases T with
 |i=>simp[Ty.aq,bL,au.aw] at h3
 |op f A B=>exact⟨f,A,B,rfl,hn,f,by rw[<-h4];rfl,(vM hu).2.2.1.symm,hn⟩
theorem T7 (s sg:ai) (w:World):bz Tryz.prog 229 [str s,str sg] w λr w'=>(∃o,B6 s sg o∧r=Nd o)∧aj [] w w':=by
 have hK:=aj.refl [] w
 refine bX [.tmp 4,.tmp 5,.tmp 6] 45 Tryz.func229 rfl ab6 rfl rfl ?_
 refine W ?_
 refine aA (I2 s [] w sm) ?_
 rintro v1 w1 ⟨fX,aI⟩
 have dm:=aI.size
 have hK:=hK.ext aI
 obtain⟨t,tv,rfl,ht,hp⟩:=fX
 obtain⟨pa,pn,pc,rfl,eT,aQ⟩:=dj ht
 subst eT
 refine W ?_
 refine dk aL rfl rfl rfl λw2 az cQ dJ=>?_
 have hK:=hK.grow;have hK:=hK.ext az;have ht:=ht.grow;have ht:=ht.ext az;have aQ:=aQ.grow;have aQ:=aQ.ext az
 refine cw aL rfl rfl rfl cQ rfl λw3 aH cQ gv=>?_
 have hK:=hK.aD aH sx;have ht:=ht.aD aH sx;have aQ:=aQ.aD aH sx
 refine W ?_
 apply oO 4 16 20 (aj [] w3) rfl oQ
 intro h1
 obtain⟨u,hu⟩:=Option.isSome_iff_exists.1 h1
 have e:=hp.1 u hu
 subst e
 refine W ?_
 refine aA (Az t (by have:=zh hu;omega) (s8 hu) _ _ w3 ht) ?_
 rintro _ w4 ⟨rfl,aO⟩
 have fG:=aO.size
 exact oQ
 intro xx w5 aP
 refine cG aP hK aQ cQ λhK aQ cQ=>?_
 refine WZ ?_
 apply oP 4 21 25 rfl oQ
 intro _
 refine WZ ?_
 exact oQ
 intro xx
 refine WZ ?_
 apply oP 8 26 34 rfl oQ
 intro h3
 simp only[Bool.or_eq_false_iff,Bool.not_eq_false',decide_eq_false_iff_not,Classical.not_not] at h3
 obtain⟨⟨q1,q2⟩,q3⟩:=h3
 obtain⟨u,hu⟩:=Option.isSome_iff_exists.1 q1
 have e:=hp.1 u hu
 subst e
 have jS:=(s8 hu).pos q3
 obtain⟨b0,AA,qa,qn,qc,e0,er,_,_⟩:=ik aQ (fK jS)
 subst e0
 refine WZ ?_
 exact oQ
 intro xx
 refine aZ<|zc rfl (λh4=>?_) (λh4=>?_)
 refine W ?_
 exact⟨_,rfl,⟨none,afp hp h4,rfl⟩,hK⟩
 obtain⟨f,A,B,e,hn,hT⟩:=afq hp h4
 subst e
 have R2:(Ty.op f A B).n=1+A.n+B.n:=rfl
 have hA:=Ty.size A
 have hB:=Ty.size B
 have Nf:=Ty.len A
 have Ng:=Ty.len B
 have DX:(Ty.op f A B).aq.ak.length=3:=rfl
 obtain⟨b1,eR,gd,pG,gh,e1,bF,qL,nI⟩:=ik aQ (fK (i:=1) om)
 subst e1
 subst qL
 obtain⟨b2,l5,iA,Ay,iB,e2,bU,Ji,Nb⟩:=ik aQ (fK (i:=2) om)
 cases e2
 subst Ji
 have cK:bC _ w5 _ A.aq:=lW nI
 have dG:bC _ w5 _ B.aq:=lW Nb
 refine WZ ?_
 apply dV cT 13 [35,36,37,38,39,40,41,42,43,44,4,5,6] [[],[0],[1],[2],[3],[],[5],[6],[7],[8],[4],[9],[]] (it [_,_,_,_,_,_,_,_,_,_,_,_,_]) de rfl
 intro wd aB
 refine VA ?_
 refine vk aB (λx w6 bO=>?_) ?_
 refine zi (i:=1) cB aL rfl rfl ((show 1<3 from om)) ?_
 exact pv
 refine VA ?_
 refine vk aB (λx w6 bO=>?_) ?_
 have cK:=cK.ext bO
 refine aA (tG A.aq.size A.aq (lR _) A.nZ.wf om (show A.text.length<=100000000 from om) _ _ w6 cK) ?_
 rintro _ w7 ⟨rfl,bV⟩
 have ov:=bV.size
 exact pk bV
 refine VA ?_
 refine vk aB (λx w6 bO=>?_) ?_
 refine zi (i:=2) cB aL rfl rfl ((show 2<3 from om)) ?_
 exact pv
 refine VA ?_
 refine vk aB (λx w6 bO=>?_) ?_
 have dG:=dG.ext bO
 refine aA (tG B.aq.size B.aq (lR _) B.nZ.wf om (show B.text.length<=100000000 from om) _ _ w6 dG) ?_
 rintro _ w7 ⟨rfl,bV⟩
 have ov:=bV.size
 exact pk bV
 exact VZ
 intro x pK rI
 have hK:=hK.ext rI
 change OW _ _ _ _ [] (bm (bg _ x _) (zZ 35 [_,_,_,_,_,_,_,_,_,_]++[(4,_),(5,_),(6,_)])) _
 refine W ?_
 exact⟨_,rfl,⟨some (A,B),hT,rfl⟩,hK⟩
theorem T8 (s:ai) (w:World):bz Tryz.prog 201 [str s] w λr w'=>(∃o,B6 s [62] o∧r=Nd o)∧aj [] w w':=by
 have hK:=aj.refl [] w
 refine bX [.tmp 2,.tmp 3,.tmp 4] 10 Tryz.func201 rfl abR rfl rfl ?_
 refine W ?_
 refine aA (T7 s [62] w) ?_
 rintro v1 w1 ⟨fX,aI⟩
 have dm:=aI.size
 have hK:=hK.ext aI
 obtain⟨o,ho,rfl⟩:=fX
 refine W ?_
 exact⟨_,rfl,⟨o,ho,rfl⟩,hK⟩
theorem T9 (s:ai) (w:World):bz Tryz.prog 200 [str s] w λr w'=>(∃o,B6 s [42] o∧r=Nd o)∧aj [] w w':=by
 have hK:=aj.refl [] w
 refine bX [.tmp 2,.tmp 3,.tmp 4] 10 Tryz.func200 rfl abQ rfl rfl ?_
 refine W ?_
 refine aA (T7 s [42] w) ?_
 rintro v1 w1 ⟨fX,aI⟩
 have dm:=aI.size
 have hK:=hK.ext aI
 obtain⟨o,ho,rfl⟩:=fX
 refine W ?_
 exact⟨_,rfl,⟨o,ho,rfl⟩,hK⟩
theorem Ua (hT:T.n<=16) (f:Bool) {o:Option (Ty×Ty)} (h:B6 T.text (jP f) o):o=match T with| .op g a b=>if g=f then some (a,b) else none| .i=>none:=by
 cases o with
 |some p=>
  obtain⟨g,h1,h2,h3⟩:=h
  have e:=Ty.inj h2
  subst e
  have:f=g:=by cases f<;>cases g<;>first|rfl|(simp[jP] at h1)
  subst this
  simp
 |none=>
  cases T with
  |i=>rfl
  |op g a b=>
   have dH:¬g=f:=λe=>h f a b rfl (by rw[e]) (by rw[<-e];exact hT)
   simp[dH]
theorem Ub (h:T.n<=16):x6 T.text=true:=by rw[T3];exact dT h
theorem Uc (f:Bool) (A B:Ty) (hA:A.n<=16) (hB:B.n<=16) (w:World):
  bz Tryz.prog 197 [.bool f,str A.text,str B.text] w λr w'=>r= .tuple #[str (if 1+A.n+B.n<=16 then(Ty.op f A B).text else[]),.bool (decide (1+A.n+B.n<=16))]∧aj [] w w':=by
 have hK:=aj.refl [] w
 have Nf:=Ty.len A
 have Ng:=Ty.len B
 have T6:=LW f
 have pL:(((((([40]++jP f)++[32])++A.text)++[32])++B.text)++[41])=(Ty.op f A B).text:=by rw[Ty.Iw];simp
 have hy:x6 (Ty.op f A B).text=decide (1+A.n+B.n<=16):=T3
 refine bX [.tmp 6,.tmp 7] 34 Tryz.func197 rfl abN rfl rfl ?_
 refine W ?_
 refine iD (λ_:Unit=>[(0,.bool f),(1,str A.text),(2,str B.text),(8,str (jP f))]) (λ_ w'=>w'=w) ?_ ?_
 refine zc rfl (λh1=>?_) (λh1=>?_)
 have hf:=h1
 refine W ?_
 exact⟨(),⟨rfl,rfl,rfl,by rw[hf];rfl⟩,rfl⟩
 have hf:=h1
 refine WZ ?_
 exact⟨(),⟨rfl,rfl,rfl,by rw[hf];rfl⟩,rfl⟩
 intro gu w1 e1 hI
 subst hI
 refine W ?_
 refine aA (Nc A.text w1) ?_
 rintro v2 w2 ⟨fl,az⟩
 have dy:=az.size
 have hK:=hK.ext az
 obtain rfl:=fl.trans (congrArg Value.bool (Ub hA))
 refine km rfl rfl rfl<|zm<|sd (t:=23) (b:=false) rfl<|zm<|aA (Nc B.text w2) ?_
 rintro v3 w3 ⟨jb,aH⟩
 have eU:=aH.size
 have hK:=hK.ext aH
 obtain rfl:=jb.trans (congrArg Value.bool (Ub hB))
 refine km rfl rfl rfl<|zp rfl<|zm<|sd (t:=28) (b:=false) rfl<|zm<|aA (Nc _ w3) ?_
 rintro v4 w4 ⟨jU,aO⟩
 have fG:=aO.size
 have hK:=hK.ext aO
 obtain rfl:=jU.trans (congrArg Value.bool ((congrArg x6 pL).trans hy))
 refine W ?_
 refine zc rfl (λh2=>?_) (λh2=>?_)
 have hn:¬1+A.n+B.n<=16:=by simpa using h2
 refine W ?_
 have hr:Value.tuple #[str (if 1+A.n+B.n<=16 then(Ty.op f A B).text else[]),.bool (decide (1+A.n+B.n<=16))]=Value.tuple #[str [],.bool false]:=by rw[iN hn,dF hn]
 exact⟨_,rfl,hr.symm,hK⟩
 have hn:1+A.n+B.n<=16:=by simpa using h2
 refine W ?_
 have hr:Value.tuple #[str (if 1+A.n+B.n<=16 then(Ty.op f A B).text else[]),.bool (decide (1+A.n+B.n<=16))]=Value.tuple #[str (((((([40]++jP f)++[32])++A.text)++[32])++B.text)++[41]),.bool true]:=by rw[iP hn,dT hn,pL]
 exact⟨_,rfl,hr.symm,hK⟩
theorem Ud (c:UInt8):(decide ((c.toNat:Int)<97)||decide ((122:Int)<(c.toNat:Int)))=!(decide (97<=c)&&decide (c<=122)):=by
 have h1:decide (97<=c)=decide ((97:Int)<=c.toNat):=(Fw 97 c).symm
 have h2:decide (c<=122)=decide ((c.toNat:Int)<=122):=decide_eq_decide.2 (by rw[UInt8.le_iff_toNat_le];have:(122:UInt8).toNat=122:=rfl;omega)
 rw[h1,h2,Bool.not_and,<-decide_not,<-decide_not]
 congr 1<;>exact decide_eq_decide.2 om
theorem afr {s:ai} (h1:1<=k) (hk:k<s.length) (h:gV (s.getD k 0)=false):(s.drop 1).all gV=false:=by
 rw[List.all_eq_false]
 refine⟨s.getD k 0,?_,by rw[h];simp⟩
 rw[List.mem_iff_getElem?]
 refine⟨k-1,?_⟩
 rw[List.getElem?_drop,show 1+(k-1)=k by omega]
 exact iW hk
theorem afs {s:ai} (h:∀k,1<=k->k<s.length->gV (s.getD k 0)=true):(s.drop 1).all gV=true:=by
 rw[List.all_eq_true]
 intro c hc
 obtain⟨i,hi⟩:=List.mem_iff_getElem?.1 hc
 rw[List.getElem?_drop] at hi
 have hl:=(List.getElem?_eq_some_iff.1 hi).1
 have:=h (1+i) om hl
 rw[iW hl] at hi
 cases hi
 exact this
theorem uM (s:ai) (w:World):bz Tryz.prog 182 [str s] w λv w'=>v= .bool (dN s)∧w=w':=by
 have hN:dN s=(((decide (1<=s.length)&&decide (s.length<=4))&&(decide (97<=s.getD 0 0)&&decide (s.getD 0 0<=122)))&&(s.drop 1).all gV):=rfl
 have hz:∀c:UInt8,(decide ((c.toNat:Int)<48)||decide ((57:Int)<(c.toNat:Int)))=!gV c:=by
  intro c
  cases hd:gV c with
  |true=>have:=(By c).1 hd;simp;omega
  |false=>rw[Bool.not_false,oE,dE,dE];apply Classical.byContradiction;intro hh;have:=(By c).2 om;rw[hd] at this;cases this
 refine bX [.tmp 2] 34 Tryz.func182 rfl aby rfl rfl ?_
 refine W ?_
 refine aA (Ga _ _ _ _) ?_
 rintro _ _ ⟨rfl,rfl⟩
 refine WZ ?_
 apply oP 4 8 12 rfl oQ
 intro h1
 have hl:1<=s.length∧s.length<=4:=(by simp at h1;omega)
 refine zm<|jM (i:=0) ia rfl rfl rfl rfl (iW om) ?_
 exact oQ
 intro xx
 refine WZ ?_
 apply oP 4 13 17 rfl oQ
 intro h2
 have hl:1<=s.length∧s.length<=4:=(by simp at h2;omega)
 refine zm<|jM (i:=0) ia rfl rfl rfl rfl (iW om) ?_
 exact oQ
 intro xx
 refine aZ<|zc rfl (λh3=>?_) (λh3=>?_)
 have hq:dN s=false:=(by rw[hN];rw[Bool.or_assoc,Ud] at h3;simp only[oE,Bool.not_eq_true',Bool.and_eq_false_iff,decide_eq_false_iff_not] at h3;simp only[Bool.and_eq_false_iff,decide_eq_false_iff_not];left;rcases h3 with(h|h)|h;(·left;left;omega);(·left;right;omega);(·right;exact h))
 refine W ?_
 exact⟨_,rfl,by rw[hq];rfl,rfl⟩
 have hl:(1<=s.length∧s.length<=4)∧(decide (97<=s.getD 0 0)&&decide (s.getD 0 0<=122))=true:=(by rw[Bool.or_assoc,Ud] at h3;simp only[Bool.or_eq_false_iff,Bool.not_eq_false'] at h3;refine⟨?_,h3.2⟩;have h1:=h3.1;simp at h1;omega)
 have hq:dN s=(s.drop 1).all gV:=(by rw[hN,hl.2,dT hl.1.1,dT hl.1.2];rfl)
 refine W ?_
 refine eH (λk:Nat=>[(0,str s),(3,.int .i64 (k:Int))]) (λk w'=>w'=w∧1<=k∧k<=s.length∧∀j,1<=j->j<k->gV (s.getD j 0)=true) (λk=>s.length-k) (1) (⟨rfl,rfl⟩) (⟨rfl,om,om,by intro j h1 h2;omega⟩) λgg w1 e1 hI=>?_
 obtain⟨rfl,aI,hk,cP⟩:=hI
 refine W ?_
 refine zc rfl (λh4=>?_) (λh4=>?_)
 refine W ?_
 refine jM ia rfl rfl rfl rfl (iW om)<|WZ ?_
 apply oP 5 28 33 rfl oQ
 intro h5
 refine zm<|zm<|jM ia rfl rfl rfl rfl (iW om) ?_
 exact oQ
 intro xx
 refine aZ<|zc rfl (λh6=>?_) (λh6=>?_)
 have hd:gV (s.getD gg 0)=false:=(by rw[hz] at h6;simpa using h6)
 refine W ?_
 exact⟨_,rfl,by rw[hq,afr aI om hd];rfl,rfl⟩
 have hd:gV (s.getD gg 0)=true:=(by rw[hz] at h6;simpa using h6)
 refine W ?_
 exact⟨gg+1,⟨rfl,rfl⟩,⟨rfl,om,om,by intro j h1 h2;rcases Nat.lt_or_ge j gg with h|h;exact cP j h1 h;rw[show j=gg by omega];exact hd⟩,om⟩
 refine W ?_
 exact⟨_,rfl,by rw[hq,afs (λj h1 h2=>cP j h1 om)];rfl,rfl⟩
def Nh (h:ai):Value:=.tuple #[.int .i64 ((dS h).1:Int),.int .i64 ((dS h).2:Int)]
theorem yb {a:Nat} (e:dS h=(a,b)):Nh h= .tuple #[.int .i64 (a:Int),.int .i64 (b:Int)]:=by unfold Nh;rw[e]
theorem aft (e:gH h=true):dS h=(1,3):=by unfold dS;rw[iP e]
theorem afu (e:fW h=true):dS h=(1,2):=by
 unfold fW at e
 simp only[oE,dE] at e
 rcases e with e|e<;>subst e<;>decide
theorem Jj (h:ai) (w:World):bz Tryz.prog 183 [str h] w λv w'=>v=Nh h∧w=w':=by
 refine bX [.tmp 2,.tmp 3] 20 Tryz.func183 rfl abz rfl rfl ?_
 refine W ?_
 refine iD (λ_:Unit=>[(4,str h),(5,.bool (gH h))]) (λ_ w'=>w'=w) ?_ ?_
 refine zc rfl (λh1=>?_) (λh1=>?_)
 refine WZ ?_
 exact⟨(),⟨rfl,congrArg Value.bool (show decide (h=[43])=gH h from by rw[dT h1,show gH h=true from by rw[h1];rfl])⟩,rfl⟩
 have n1:=h1
 refine W ?_
 refine zc rfl (λh2=>?_) (λh2=>?_)
 refine WZ ?_
 exact⟨(),⟨rfl,congrArg Value.bool (show decide (h=[45])=gH h from by rw[dT h2,show gH h=true from by rw[h2];rfl])⟩,rfl⟩
 have n2:=h2
 refine W ?_
 refine zc rfl (λh3=>?_) (λh3=>?_)
 refine WZ ?_
 exact⟨(),⟨rfl,congrArg Value.bool (show decide (h=[42])=gH h from by rw[dT h3,show gH h=true from by rw[h3];rfl])⟩,rfl⟩
 have n3:=h3
 refine W ?_
 refine zc rfl (λh4=>?_) (λh4=>?_)
 refine WZ ?_
 exact⟨(),⟨rfl,congrArg Value.bool (show decide (h=j3)=gH h from by rw[dT h4,show gH h=true from by rw[h4];rfl])⟩,rfl⟩
 have n4:=h4
 refine W ?_
 exact⟨(),⟨rfl,congrArg Value.bool (show decide (h=xC)=gH h from by unfold gH;rw[dF n1,dF n2,dF n3,dF n4];rfl)⟩,rfl⟩
 intro gu w1 e1 hI
 obtain rfl:=hI.symm
 refine zc rfl (λh5=>?_) (λh5=>?_)
 have hq:=h5
 refine W ?_
 exact⟨_,rfl,(yb (aft hq)).symm,rfl⟩
 have b0:=h5
 refine W ?_
 refine zc rfl (λh6=>?_) (λh6=>?_)
 have hq:=h6
 refine W ?_
 exact⟨_,rfl,(yb (by rw[hq];rfl)).symm,rfl⟩
 have m1:=h6
 refine W ?_
 refine zc rfl (λh7=>?_) (λh7=>?_)
 have hq:=h7
 refine W ?_
 exact⟨_,rfl,(yb (by rw[hq];rfl)).symm,rfl⟩
 have m2:=h7
 refine W ?_
 refine zc rfl (λh8=>?_) (λh8=>?_)
 have hq:=h8
 refine W ?_
 exact⟨_,rfl,(yb (by rw[hq];rfl)).symm,rfl⟩
 have m3:=h8
 refine W ?_
 refine iD (λ_:Unit=>[(4,str h),(17,.bool (fW h))]) (λ_ w'=>w'=w) ?_ ?_
 refine zc rfl (λh9=>?_) (λh9=>?_)
 refine WZ ?_
 exact⟨(),⟨rfl,congrArg Value.bool (show decide (h=BH)=fW h from by rw[dT h9,show fW h=true from by rw[h9];rfl])⟩,rfl⟩
 have n5:=h9
 refine W ?_
 exact⟨(),⟨rfl,congrArg Value.bool (show decide (h=qE)=fW h from by unfold fW;rw[dF n5];rfl)⟩,rfl⟩
 intro gu w2 e2 hI
 obtain rfl:=hI.symm
 refine zc rfl (λfB=>?_) (λfB=>?_)
 have hq:=fB
 refine W ?_
 exact⟨_,rfl,(yb (afu hq)).symm,rfl⟩
 have m4:=fB
 refine W ?_
 exact⟨_,rfl,(yb (by unfold dS;rw[iN (by rw[b0];simp),iN m1,iN m2,iN m3,iN (by rw[m4];simp)])).symm,rfl⟩
end Go.Proofs.YthbhobaiopccaaaGreatDoor
