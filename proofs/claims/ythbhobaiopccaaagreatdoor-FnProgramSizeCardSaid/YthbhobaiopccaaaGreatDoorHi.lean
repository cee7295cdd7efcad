/- Lemmas for the law FnProgramSize, no statement of their own: no conditions. -/
import Derived.Test.YthbhobaiopccaaaGreatDoorHh
import Derived.OpenShut
import Derived.Shelf.Bits.Mul64
import Derived.Shelf.LaysM
import Derived.Shelf.Slices.Turned
import Derived.Shelf.Small.Wraps
import Derived.Shelf.Strconv.Atoi
import Derived.Shelf.Strconv.Itoa0
import Derived.Shelf.Strconv.Itoa1
import Derived.Shelf.Strconv.Itoa2
import Derived.Shelf.Strconv.Itoa3
import Derived.Shelf.Strings.Builder1
import Derived.Shelf.Strings.Builder2
import Derived.Shelf.Strings.Builder2Cap
import Derived.Shelf.Strings.BuilderCap
import Derived.Shelf.Strings.BuilderF
import Derived.Shelf.Strings.BuilderK
import Derived.Shelf.Strings.Prefix
import Derived.Shelf.Strings.Repeat
set_option maxHeartbeats 4000000
set_option linter.unusedVariables false
set_option linter.unusedSimpArgs false
namespace Go.Proofs.YthbhobaiopccaaaGreatDoor
open Go
variable {m:Mk} {s:cD} {b i k q sz:Nat} {E G L L1:List Nat} {w w' w1:World} {T:Ty} {e f:Ex} {t:Tk} {rows:List (List C)} {bs:List Bk}
theorem Wg {on:Nat} {aV name:ai} {K:Ty} {rest:Ex} (ky:on<1000) (ht:m.types.length+4<1000):(eF m s on aV name K rest).1.types.length<=m.types.length+4∧(eF m s on aV name K rest).1.code.length<=m.code.length+4∧(eF m s on aV name K rest).2.1<1000∧(eF m s on aV name K rest).1.count<=m.count+1∧(eF m s on aV name K rest).1.bF.length<=m.bF.length+1:=by
 unfold eF
 split
 ·have h:=Tw m.k7 s on (cH rest [name] []) aV m.aM (dz (bu K)) [bu K]
  refine⟨?_,?_,?_,?_,?_⟩
  ·show(nW m s on aV name K rest).m.types.length<=_
   unfold nW;rw[h.types];exact lR _
  ·show(nW m s on aV name K rest).m.code.length<=_
   unfold nW;rw[h.code];exact lR _
  ·show m.types.length+3<1000;omega
  ·exact lR _
  ·show((nW m s on aV name K rest).m.bF++[_]).length<=_
   unfold nW;rw[h.bF,lA];exact lR _
 ·exact⟨by show m.types.length<=_;omega,by show m.code.length<=_;omega,ky,by show m.count<=_;omega,by show m.bF.length<=_;omega⟩
theorem Wh (m:Mk) (s:Nat):(sC m s).types.length=m.types.length+3∧(sC m s).code.length=m.code.length+3:=by
 unfold sC;simp[Mk.cY,Mk.cA]
structure OP (s:cD) (name:ai) (rest:Ex):Prop where
 ok:rest.ok
 n:rest.n<=1000
 fv:∀x,x∈cH rest [name] []->(look (ew s) x).isSome=true
 len:(cH rest [name] []).length<=40
theorem ajo (t:Tk) (m:Mk) (f x:Ex) (name:ai) (rest:Ex) (K:Ty) (ba:(Ex.bi j4 f x).ok) (hn:(Ex.bi j4 f x).n<=1000) (eR:bw (.bi j4 f x) (ew t.sc)=some K) (hs:jS t.sc) (nD:t.sc.length<=9000) (rh:t.on<1000) (ky:t.aV.length<=272) (OQ:name≠[]->OP t.sc name rest) (ht:m.types.length+9<1000) (hc:m.code.length<=7000) (xw:m.count<1000) (fF:m.bF.length<90000) 
  (E L:List Nat) (b bt:Nat) (v vr:Value) (w:World) (h:dG t8 E L w b true m) (hT:gI L w 166 bt t) (dX:bt∈E) (hv:bB L w v (Ex.bi j4 f x).au) (oq:bB L w vr rest.au):
  bz Tryz.prog 187 [.pointer (some ⟨b,0,none⟩),.pointer (some ⟨bt,0,none⟩),v,str name,vr] w λr w'=>∃L',dG t8 E L' w' b true (xV (eF (bT (bT m t.sc f.aw).1 t.sc x.aw).1 t.sc t.on t.aV name K rest).1 (bT m t.sc f.aw).2 (bT (bT m t.sc f.aw).1 t.sc x.aw).2 (eF (bT (bT m t.sc f.aw).1 t.sc x.aw).1 t.sc t.on t.aV name K rest).2.1)∧(∃t',gI L' w' 166 bt t'∧t'.aM=t.aM∧t'.regs=t.regs)∧Fr L w L' w':=by
 obtain⟨ar,nr,cr,rfl,p4,aP⟩:=cU hv
 subst p4
 obtain⟨a9,n9,c9,rfl,A4,_⟩:=cU oq
 subst A4
 have lq:=h.db
 have jb:=lv hs.types eR
 have av:=h
 have hR:=dS.refl E L w
 have ij:bB L w _ (Ex.bi j4 f x).au:=hv
 have mE:=oc ba.2.1
 have mm:=oc ba.2.2
 obtain⟨p,hp⟩:∃p,p=bT m t.sc f.aw:=⟨_,rfl⟩
 have yT:p.1.types.length<=m.types.length+1∧p.1.code.length<=m.code.length+1∧p.1.count=m.count∧p.1.bF=m.bF∧p.2<1000:=by rw[hp];exact HK hs om
 obtain⟨ptl,pcl,pcn,ptk,p2⟩:=yT
 rw[<-hp]
 obtain⟨q,hq⟩:∃q,q=bT p.1 t.sc x.aw:=⟨_,rfl⟩
 have HL:q.1.types.length<=p.1.types.length+1∧q.1.code.length<=p.1.code.length+1∧q.1.count=p.1.count∧q.1.bF=p.1.bF∧q.2<1000:=by rw[hq];exact HK hs om
 obtain⟨qtl,qcl,qcn,qtk,q2⟩:=HL
 rw[<-hq]
 obtain⟨C,hC⟩:∃C,C=eF q.1 t.sc t.on t.aV name K rest:=⟨_,rfl⟩
 have Dj:C.1.types.length<=q.1.types.length+4∧C.1.code.length<=q.1.code.length+4∧C.2.1<1000∧C.1.count<=q.1.count+1∧C.1.bF.length<=q.1.bF.length+1:=by rw[hC];exact Wg rh om
 obtain⟨Ctl,Ccl,C2,_,_⟩:=Dj
 rw[<-hC]
 obtain⟨rc,HM⟩:∃r,r=C.1.types.length:=⟨_,rfl⟩
 obtain⟨me,Dk⟩:∃z,z=sC C.1 p.2:=⟨_,rfl⟩
 have OR:me.types.length=C.1.types.length+3∧me.code.length=C.1.code.length+3:=by rw[Dk];exact Wh _ _
 obtain⟨met,mec⟩:=OR
 obtain⟨r,nh⟩:∃r,r=me.types.length:=⟨_,rfl⟩
 obtain⟨c,et⟩:∃c,c=me.code.length:=⟨_,rfl⟩
 have t0:me.types.length=r:=nh.symm
 have c0:me.code.length=c:=et.symm
 have ajp:xV C.1 p.2 q.2 C.2.1=(((me.cA nu [[48],aT (rc+2)]).cA nu [[49],aT q.2]).cA nu [[50],aT C.2.1]).cA Ac [aT (rc+1)]:=by rw[Dk,HM];rfl
 rw[ajp]
 have Od:(Ex.bi j4 f x).au.ak.length=3:=rfl
 obtain⟨b1,eX,gA,gm,e1,bK,_⟩:=eW aP (i:=1) om
 cases e1
 have bK:fy L w _ _ [str f.au.aw,.slice gA f.au.ak.length gm]:=bK
 rw[Ex.qX] at bK
 obtain⟨b2,lG,iA,iw,e2,bU,_⟩:=eW aP (i:=2) om
 cases e2
 have bU:fy L w _ _ [str x.au.aw,.slice iA x.au.ak.length iw]:=bU
 rw[Ex.qX] at bU
 refine bS [] 67 Tryz.func187 rfl abC rfl rfl ?_
 refine zr<|eH rfl λw1 aI cM dk=>bI aI av hR λav hR=>?_
 refine eH rfl λw2 az cW dC=>cN az av hR cM λav hR cM=>?_
 refine W ?_
 have cM:dM L w2 w.heap.size [str (Ex.bi j4 f x).au.aw,.slice (some ⟨b1,eX,none⟩) (Ex.bi j4 f x).au.ak.length cr].toArray 74:=⟨cM,λhx=>by have:=lq _ hx;omega⟩
 have cW:dM L w2 w1.heap.size [str rest.au.aw,.slice a9 rest.au.ak.length c9].toArray 74:=⟨cW,λhx=>by have:=lq _ hx;omega⟩
 refine aA (Kf t (Ex.bi j4 f x) ba hn hs.types om _ L bt w2 av.db (hR.tk hT dX) (ij.go hR.fr)) ?_
 rintro v3 w3 ⟨ko,aH⟩
 have fm:=aH.size
 refine ie aH av hR cM cW λav hR cM cW=>?_
 have eS:=ko
 rw[eR] at eS
 subst eS
 refine WI ?_
 refine zi (i:=1) cz aL rfl rfl ((show 1<3 from om))<|zL eV aL rfl ((bK.go hR.fr).cells) rfl<|aA (C1 t f.aw m om om om nD E L b bt _ _ _ w3 av (hR.tk hT dX) dX) ?_
 rintro v20 w4 ⟨pj,L1,av,bC⟩
 rw[<-hp] at pj av
 subst pj
 have hR:=hR.go bC;have cM:=cM.go bC.fr;have cW:=cW.go bC.fr
 refine WI ?_
 refine zi (i:=2) cz aL rfl rfl ((show 2<3 from om))<|zL eV aL rfl ((bU.go hR.fr).cells) rfl<|aA (C1 t x.aw p.1 om om om nD E L1 b bt _ _ _ w4 av (hR.tk hT dX) dX) ?_
 rintro v20 w5 ⟨pj,L2,av,bC⟩
 rw[<-hq] at pj av
 subst pj
 have hR:=hR.go bC;have cW:=cW.go bC.fr
 refine W ?_
 refine ix (λ_:Unit=>[(0,.pointer (some ⟨b,0,none⟩)),(1,.pointer (some ⟨bt,0,none⟩)),(11,.int .i64 (p.2:Int)),(12,.int .i64 (q.2:Int))]) (λ_ ww=>∃L3,dG t8 E L3 ww b true C.1∧gI L3 ww 166 bt {t with on:=C.2.1,aV:=C.2.2}∧Fr L w L3 ww) ?_ ?_
 refine zc rfl (λh1=>?_) (λh1=>?_)
 have eK:name≠[]:=(by simpa using h1)
 have aQ:=OQ eK
 obtain⟨g1,g2,g3,g4⟩:=aQ
 have Dl:eF q.1 t.sc t.on t.aV name K rest=tO q.1 t.sc t.on t.aV name K rest:=(by unfold eF;rw[iP eK])
 rw[Dl] at hC
 refine W ?_
 refine aA (VY t q.1 name K rest g1 g2 g3 g4 hs nD jb rh ky om om om (by rw[qtk,ptk];omega) E L2 b bt _ w5 av (hR.tk hT dX) dX (oq.go hR.fr)) ?_
 rintro v39 w6 ⟨L3,av,dY,yV,_⟩
 rw[<-hC] at av dY
 have hF:=hR.fr.go yV
 refine W ?_
 exact⟨(),⟨rfl,rfl,rfl,rfl⟩,L3,av,dY,hF⟩
 have eK:¬name≠[]:=(by simpa using h1)
 have Dl:eF q.1 t.sc t.on t.aV name K rest=(q.1,t.on,t.aV):=(by unfold eF;rw[iN eK])
 rw[Dl] at hC
 subst hC
 refine WZ ?_
 exact⟨(),⟨rfl,rfl,rfl,rfl⟩,L2,av,hR.tk hT dX,hR.fr⟩
 intro gu w6 e6 hI
 obtain⟨L3,av,dY,yV⟩:=hI
 have hR:=dS.refl E L3 w6
 refine zr<|zm<|zm<|aA (Vy C.1 p.2 om om om E L3 b w6 av) ?_
 rintro Wi w7 ⟨Eu,L0,av,bC⟩
 rw[<-Dk] at av
 rw[<-HM] at Eu
 subst Eu
 have hR:=hR.go bC
 have cR:=av.db
 refine W ?_
 refine kJ bh bf rfl rfl rfl rfl λw8 cE Df ld=>bI cE av hR λav hR=>?_
 refine aA (kG nu [[48],aT (rc+2)] (mh de sm (by intro z hz;simp at hz;rcases hz with rfl|rfl;(·decide);(·exact lP om))) me om E L0 b _ w8 av (aJ.dK [[48],aT (rc+2)] Df (λhx=>by have:=cR _ hx;omega))) ?_
 rintro jC w9 ⟨L1,av,bC⟩
 have hR:=hR.go bC
 clear Df
 have ik:∃x,x=me.cA nu [[48],aT (rc+2)]:=⟨_,rfl⟩
 obtain⟨m1,ll⟩:=ik
 rw[<-ll] at av
 have t1:m1.types.length=r+0:=(by rw[ll,oe];omega)
 have c1:m1.code.length=c+1:=(by rw[ll,ph];omega)
 have cR:=av.db
 refine W ?_
 refine aA (ir (q.2+1) q.2 om om w9) ?_
 rintro _ cu ⟨rfl,cB⟩
 have CG:=cB.size
 refine bI cB av hR λav hR=>?_
 have cR:=av.db
 refine kJ bh bf rfl rfl rfl rfl λeD dd Wj vj=>bI dd av hR λav hR=>?_
 refine aA (kG nu [[49],aT q.2] (mh de sm (by intro z hz;simp at hz;rcases hz with rfl|rfl;(·decide);(·exact lP om))) m1 om E L1 b _ eD av (aJ.dK [[49],aT q.2] Wj (λhx=>by have:=cR _ hx;omega))) ?_
 rintro jC fA ⟨L2,av,bC⟩
 have hR:=hR.go bC
 clear Wj
 have fj:∃x,x=m1.cA nu [[49],aT q.2]:=⟨_,rfl⟩
 obtain⟨m2,ln⟩:=fj
 rw[<-ln] at av
 have t2:m2.types.length=r+0:=(by rw[ln,oe];omega)
 have c2:m2.code.length=c+2:=(by rw[ln,ph];omega)
 have cR:=av.db
 have aQ:=hR.tk dY dX
 obtain⟨u1,u3,u4,u5,u6,u8,cX,gM⟩:=aQ
 have cX:aJ fA bt [str t.aM,u1,.int .i64 (t.loads:Int),u3,u4,u5,u6,str t.expr.au.aw,u8,.int .i64 (C.2.1:Int),str C.2.2,.int .i64 (t.next:Int)].toArray 166:=cX
 refine W ?_
 refine aA (ir (C.2.1+1) C.2.1 om om fA) ?_
 rintro _ jB ⟨rfl,gv⟩
 have Hp:=gv.size
 refine bI gv av hR λav hR=>?_
 have cR:=av.db
 refine kJ bh bf rfl rfl rfl rfl λiG dA Ku CY=>bI dA av hR λav hR=>?_
 refine aA (kG nu [[50],aT C.2.1] (mh de sm (by intro z hz;simp at hz;rcases hz with rfl|rfl;(·decide);(·exact lP om))) m2 om E L2 b _ iG av (aJ.dK [[50],aT C.2.1] Ku (λhx=>by have:=cR _ hx;omega))) ?_
 rintro jC pZ ⟨L3,av,bC⟩
 have hR:=hR.go bC
 clear Ku
 have yO:∃x,x=m2.cA nu [[50],aT C.2.1]:=⟨_,rfl⟩
 obtain⟨m3,lp⟩:=yO
 rw[<-lp] at av
 have t3:m3.types.length=r+0:=(by rw[lp,oe];omega)
 have c3:m3.code.length=c+3:=(by rw[lp,ph];omega)
 have cR:=av.db
 refine W ?_
 refine fc bh bf rfl rfl λlk mJ Wk GV=>bI mJ av hR λav hR=>?_
 refine aA (kG Ac [aT (rc+1)] (mh de sm (by intro z hz;simp at hz;subst hz;exact lP om)) m3 om E L3 b _ lk av (aJ.dK [aT (rc+1)] Wk (λhx=>by have:=cR _ hx;omega))) ?_
 rintro jC CZ ⟨L4,av,bC⟩
 have hR:=hR.go bC
 clear Wk
 have C8:∃x,x=m3.cA Ac [aT (rc+1)]:=⟨_,rfl⟩
 obtain⟨m4,ov⟩:=C8
 rw[<-ov] at av
 have t4:m4.types.length=r+0:=(by rw[ov,oe];omega)
 have c4:m4.code.length=c+4:=(by rw[ov,ph];omega)
 have cR:=av.db
 refine W ?_
 subst ov lp ln ll
 exact⟨_,rfl,_,av,⟨_,hR.tk dY dX,rfl,rfl⟩,yV.go hR.fr⟩
/-! ### Cells of one block that are written -/
def KW (b:Nat) (T:TypeId) (ws:List (Nat×Value)) (w w':World):Prop:=aj [b] w w'∧∀cs,aJ w b cs T->∃cs',aJ w' b cs' T∧cs'.size=cs.size∧∀j:Nat,cs'[j]?=cs[j]?∨∃v,(j,v)∈ws∧cs'[j]?=some v
theorem ajr {cs:Array Value} {vs:List Value} (h:k+vs.length<=cs.size) (j:Nat):(setAt cs k vs)[j]?=if k<=j∧j<k+vs.length then vs[j-k]? else cs[j]?:=by
 rw[<-Array.getElem?_toList,I5 _ _ _ h,List.getElem?_append,List.getElem?_append,List.getElem?_take,List.getElem?_drop,List.length_take,Array.length_toList,Nat.min_eq_left om]
 by_cases h1:j<k
 ·rw[iP h1,iP h1,iN om];simp
 ·rw[iN h1]
  by_cases h2:j<k+vs.length
  ·rw[iP om,iP ⟨by omega,h2⟩]
  ·rw[iN om,iN om]
   have:k+vs.length+(j-k-vs.length)=j:=by omega
   rw[this];simp
def rowAt (o:Nat):List Value->List (Nat×Value)
 |[]=>[]
 |v::vs=>(o,v)::rowAt (o+1) vs
theorem ajs:∀{vs:List Value} {o j:Nat} {v:Value},(j,v)∈rowAt o vs↔o<=j∧vs[j-o]?=some v:=by intro x;induction x<;>grind [rowAt]
section
variable {P:Program} {n:Nat} {ops:Array Oper} {K:Env->World->Prop} {rest:List Oper} {e:Env} {w:World}
 {dst:Option Nat} {ty:TypeId} {pos:String} {after:Array Edge} {g:Option (Nat×Bool)} {x y:Operand}
theorem ajt {T U bytes:Nat} {z v:Value} {vs:List Value} {o:Nat} {cs:Array Value} (jN:TI P T sz bytes z) (hg:gate ops e g=true) (hx:ev e x= .pointer (some ⟨b,o,none⟩)) (hy:ev e y=v) (hv:v.cells=vs.toArray) (hl:Nat.beq vs.length sz=true) (h1:vs.all Value.oneCell'=true) 
  (hb:aJ w b cs U) (ho:o+vs.length<=cs.size)
  (k:∀w',aj [b] w w'->aJ w' b (setAt cs o vs) U->KW b U (rowAt o vs) w w'->w'.heap.size=w.heap.size->OW P n ops K rest e w'):
  OW P n ops K (⟨none,.store T x y,ty,pos,after,g⟩::rest) e w:=by
 have fP:vs.length=sz:=Nat.eq_of_beq_eq_true hl
 obtain⟨w',jM,hk,gN,hz⟩:=MD (P:=P) vs 0 w b o U cs hb om (λu hu=>List.all_eq_true.1 h1 u hu)
 rw[Nat.add_zero] at gN
 refine H8 hg (w':=w') (by
  simp[execOp,Instr.storeAt,Instr.sureAddr,hx,hy,storeVar,hv,jN.rD,fP,jM]) (k w' hk gN ⟨hk,λcs2 h2=>?_⟩ hz)
 have e:cs2=cs:=by
  unfold aJ at h2 hb
  rw[h2] at hb
  injection hb with h;injection h
 subst e
 refine⟨_,gN,MC _ _ _,λj=>?_⟩
 rw[ajr ho]
 split
 ·rename_i h
  obtain⟨v,hv⟩:∃v,vs[j-o]?=some v:=⟨vs[j-o]'om,gE om⟩
  exact .inr ⟨v,ajs.2 ⟨h.1,hv⟩,hv⟩
 ·exact .inl rfl
end
section
variable {P:Program} {n:Nat} {ops:Array Oper} {K:Env->World->Prop} {rest:List Oper} {e:Env} {w:World}
 {dst:Option Nat} {ty:TypeId} {pos:String} {after:Array Edge} {g:Option (Nat×Bool)} {x y:Operand}
end
theorem Wl (xs:List ai):∀row,row∈fU xs->∀c,c∈row->∀v,c= .val v->v.oneCell'=true:=by
 intro row hr c hc v hv
 obtain⟨n,_,rfl⟩:=List.mem_map.1 hr
 simp at hc;subst hc;cases hv;rfl
theorem dS.gX (k:dS E L w L1 w1) {cs:Array Value} {T:TypeId} (h:aJ w b cs T) (hb:b∈E):aJ w1 b cs T:=let⟨_,kg,hG⟩:=k.out;h.aF kg λhx=>hG b hx hb
def qI (bt:Nat) (E:List Nat) (w w':World):Prop:=∃G,aj G w w'∧∀z,z∈G->z∈E->z=bt
theorem dS.ft (k:dS E L w L1 w1) (bt:Nat):qI bt E w w1:=let⟨G,kg,hG⟩:=k.out;⟨G,kg,λz hz sf=>absurd sf (hG z hz)⟩
theorem qI.trans {bt:Nat} {w2:World} (h:qI bt E w w1) (k:qI bt E w1 w2):qI bt E w w2:=let⟨G,kg,hG⟩:=h;let⟨G2,kg2,yy⟩:=k;⟨G++G2,(kg.mono λx hx=>List.mem_append_left _ hx).trans (kg2.mono λx hx=>mR _ hx),λz hz sf=>(mA.1 hz).elim (λh=>hG z h sf) (λh=>yy z h sf)⟩
theorem qI.sub {bt x:Nat} (h:qI bt (x::E) w w1):qI bt E w w1:=let⟨G,kg,hG⟩:=h;⟨G,kg,λz hz sf=>hG z hz (mK _ sf)⟩
theorem qI.of {bt:Nat} (k:aj G w w1) (hG:∀z,z∈G->z∈E->z=bt):qI bt E w w1:=⟨G,k,hG⟩
theorem qI.gX {bt:Nat} (k:qI bt E w w1) {cs:Array Value} {T:TypeId} (h:aJ w b cs T) (hb:b∈E) (hn:b≠bt):aJ w1 b cs T:=let⟨_,kg,hG⟩:=k;h.aF kg λhx=>hn (hG b hx hb)
theorem ajw (t:Tk) (m:Mk) (c xa y:Ex) (name:ai) (rest:Ex) (K:Ty) (ba:(Ex.ite c xa y).ok) (hn:(Ex.ite c xa y).n<=1000) (eR:bw (.ite c xa y) (ew t.sc)=some K) (hs:jS t.sc) (nD:t.sc.length<=9000) (rh:t.on<1000) (ky:t.aV.length<=272) (OQ:name≠[]->OP t.sc name rest) (ht:m.types.length+9<1000) (hc:m.code.length<=7000) (xw:m.count+1<1000) (fF:m.bF.length<90000) 
  (E L:List Nat) (b bt:Nat) (v vr:Value) (w:World) (h:dG t8 E L w b true m) (hT:gI L w 166 bt t) (dX:bt∈E) (hv:bB L w v (Ex.ite c xa y).au) (oq:bB L w vr rest.au):
  bz Tryz.prog 188 [.pointer (some ⟨b,0,none⟩),.pointer (some ⟨bt,0,none⟩),v,str name,vr] w λr w'=>∃L',bB L' w' r y.au∧dG t8 E L' w' b true (GG (eF (bT m t.sc c.aw).1 t.sc t.on t.aV name K rest).1 t.sc (eF (bT m t.sc c.aw).1 t.sc t.on t.aV name K rest).2.1 (eF (bT m t.sc c.aw).1 t.sc t.on t.aV name K rest).2.2 (bT m t.sc c.aw).2 xa)∧gI L' w' 166 bt {t with on:=(eF (bT m t.sc c.aw).1 t.sc t.on t.aV name K rest).2.1,aV:=(eF (bT m t.sc c.aw).1 t.sc t.on t.aV name K rest).2.2}∧Fr L w L' w'∧qI bt E w w':=by
 obtain⟨ar,nr,cr,rfl,p4,aP⟩:=cU hv
 subst p4
 obtain⟨a9,n9,c9,rfl,A4,_⟩:=cU oq
 subst A4
 have lq:=h.db
 have jb:=lv hs.types eR
 have av:=h
 have hR:=dS.refl E L w
 have ij:bB L w _ (Ex.ite c xa y).au:=hv
 have lW:=oc ba.1
 obtain⟨p,hp⟩:∃p,p=bT m t.sc c.aw:=⟨_,rfl⟩
 have yT:p.1.types.length<=m.types.length+1∧p.1.code.length<=m.code.length+1∧p.1.count=m.count∧p.1.bF=m.bF∧p.2<1000:=by rw[hp];exact HK hs om
 obtain⟨ptl,pcl,pcn,ptk,p2⟩:=yT
 rw[<-hp]
 obtain⟨C,hC⟩:∃C,C=eF p.1 t.sc t.on t.aV name K rest:=⟨_,rfl⟩
 have Dj:C.1.types.length<=p.1.types.length+4∧C.1.code.length<=p.1.code.length+4∧C.2.1<1000∧C.1.count<=p.1.count+1∧C.1.bF.length<=p.1.bF.length+1:=by rw[hC];exact Wg rh om
 obtain⟨Ctl,Ccl,C2,Ccn,Ctk⟩:=Dj
 rw[ptk] at Ctk
 rw[<-hC]
 have hCn:C.1.count<1000:=by omega
 have yb:=AP hCn
 obtain⟨m1,rX⟩:∃z,z=C.1.k7.cA F9 [aT p.2,C.1.aM]:=⟨_,rfl⟩
 have ajy:m1.types=C.1.types:=by rw[rX];rfl
 have ajz:m1.bF=C.1.bF:=by rw[rX];rfl
 have hif:GG C.1 t.sc C.2.1 C.2.2 p.2 xa={m1 with bF:=m1.bF++[⟨C.1.aM,m1.types,0,[],t.sc,xa,C.2.1,C.2.2,m1.types.length⟩]}:=by rw[rX];rfl
 rw[hif]
 have JM:(Ex.ite c xa y).au.ak.length=4:=rfl
 obtain⟨b1,eX,gA,gm,e1,bK,_⟩:=eW aP (i:=1) om
 cases e1
 have bK:fy L w _ _ [str c.au.aw,.slice gA c.au.ak.length gm]:=bK
 rw[Ex.qX] at bK
 obtain⟨b2,lG,iA,iw,e2,bU,dI⟩:=eW aP (i:=2) om
 cases e2
 have bU:fy L w _ _ [str xa.au.aw,.slice iA xa.au.ak.length iw]:=bU
 have dI:bB L w (.agg #[str xa.au.aw,.slice iA xa.au.ak.length iw]) xa.au:=dI
 obtain⟨b3,AW,pP,pQ,e3,dO,dY⟩:=eW aP (i:=3) om
 cases e3
 have dO:fy L w _ _ [str y.au.aw,.slice pP y.au.ak.length pQ]:=dO
 have dY:bB L w (.agg #[str y.au.aw,.slice pP y.au.ak.length pQ]) y.au:=dY
 refine kW [.cell 10 74] 81 Tryz.func188 rfl abD rfl rfl rfl ?_
 refine zr<|eH rfl λw1 aI cM dk=>bI aI av hR λav hR=>?_
 refine eH rfl λw2 az cW dC=>cN az av hR cM λav hR cM=>?_
 refine dy aL rfl rfl rfl λw3 aH qp Cg=>bI aH cM cW λcM cW=>?_
 have av:=av.sX aH sm (lR _) qp.lt
 have p3:=(dS.refl E L w2).more aH sm (lR _) (λz hz=>by have:=lq z (h.sub hz);omega)
 have HN:Fr L w (w2.heap.size::L) w3:=hR.fr.go p3.fr
 have Wm:=(hR.ext aH).ft bt
 have hT:=(hR.tk hT dX)
 have hT:=p3.tk hT dX
 have hR:=dS.refl (w2.heap.size::E) (w2.heap.size::L) w3
 have ru:bt∈w2.heap.size::E:=mK _ dX
 have E6:w2.heap.size∈w2.heap.size::E:=List.mem_cons_self ..
 have OS:=qp
 refine W ?_
 have Kw:∀z,z∈w2.heap.size::L->z=w2.heap.size∨z<w.heap.size:=(λz hz=>(mC.1 hz).imp id (lq z))
 have cM:dM (w2.heap.size::L) w3 w.heap.size [str (Ex.ite c xa y).au.aw,.slice (some ⟨b1,eX,none⟩) (Ex.ite c xa y).au.ak.length cr].toArray 74:=⟨cM,λhx=>by have:=Kw _ hx;omega⟩
 have cW:dM (w2.heap.size::L) w3 w1.heap.size [str rest.au.aw,.slice a9 rest.au.ak.length c9].toArray 74:=⟨cW,λhx=>by have:=Kw _ hx;omega⟩
 have jl:aJ w3 w2.heap.size [str [],.slice none 0 0].toArray 74:=OS
 refine aA (Kf t (Ex.ite c xa y) ba hn hs.types om _ _ bt w3 av.db (hR.tk hT ru) (ij.go (HN.go hR.fr))) ?_
 rintro v4 w4 ⟨jT,aO⟩
 have fE:=aO.size
 refine ie aO av hR cM cW λav hR cM cW=>?_
 have eS:=jT
 rw[eR] at eS
 subst eS
 refine WI ?_
 refine zi (i:=1) cz aL rfl rfl ((show 1<4 from om))<|zL eV aL rfl ((bK.go (HN.go hR.fr)).cells) rfl<|aA (C1 t c.aw m om om om nD (w2.heap.size::E) _ b bt _ _ _ w4 av (hR.tk hT ru) ru) ?_
 rintro v20 w5 ⟨pj,L1,av,bC⟩
 rw[<-hp] at pj av
 subst pj
 have hR:=hR.go bC;have cM:=cM.go bC.fr;have cW:=cW.go bC.fr
 have jl:=hR.gX jl E6
 refine W ?_
 refine ix (λ_:Unit=>[(0,.pointer (some ⟨b,0,none⟩)),(1,.pointer (some ⟨bt,0,none⟩)),(7,.pointer (some ⟨w.heap.size,0,none⟩)),(10,.pointer (some ⟨w2.heap.size,0,none⟩)),(12,.int .i64 (p.2:Int))]) (λ_ ww=>∃L3,dG t8 (w2.heap.size::E) L3 ww b true C.1∧gI L3 ww 166 bt {t with on:=C.2.1,aV:=C.2.2}∧Fr L w L3 ww∧Fr L1 w5 L3 ww∧aJ ww w2.heap.size [str [],.slice none 0 0].toArray 74∧qI bt E w ww) ?_ ?_
 refine zc rfl (λh1=>?_) (λh1=>?_)
 have eK:name≠[]:=(by simpa using h1)
 have aQ:=OQ eK
 obtain⟨g1,g2,g3,g4⟩:=aQ
 have Dl:eF p.1 t.sc t.on t.aV name K rest=tO p.1 t.sc t.on t.aV name K rest:=(by unfold eF;rw[iP eK])
 rw[Dl] at hC
 have dL:w2.heap.size≠bt:=(λe9=>by have:=lq bt (h.sub dX);omega)
 refine W ?_
 refine aA (VY t p.1 name K rest g1 g2 g3 g4 hs nD jb rh ky om om om (by rw[ptk];omega) (w2.heap.size::E) L1 b bt _ w5 av (hR.tk hT ru) ru (oq.go (HN.go hR.fr))) ?_
 rintro v39 w6 ⟨L3,av,Wn,yV,G9,aB,E7⟩
 rw[<-hC] at av Wn
 have hF:=(HN.go hR.fr).go yV
 have jl:=(hR.gX OS E6).aF aB (λhx=>dL (E7 _ hx E6))
 have hOq:=(Wm.trans (hR.ft bt).sub).trans (qI.of aB (λz hz sf=>E7 z hz (mK _ sf)))
 refine W ?_
 exact⟨(),⟨rfl,rfl,rfl,rfl,rfl⟩,L3,av,Wn,hF,yV,jl,hOq⟩
 have eK:¬name≠[]:=(by simpa using h1)
 have Dl:eF p.1 t.sc t.on t.aV name K rest=(p.1,t.on,t.aV):=(by unfold eF;rw[iN eK])
 rw[Dl] at hC
 subst hC
 refine WZ ?_
 exact⟨(),⟨rfl,rfl,rfl,rfl,rfl⟩,L1,av,hR.tk hT ru,HN.go hR.fr,Fr.refl _ _,hR.gX OS E6,Wm.trans (hR.ft bt).sub⟩
 intro gu w6 e6 hI
 obtain⟨L3,av,du,yV,hF9,jl,hOc⟩:=hI
 have hR:=dS.refl (w2.heap.size::E) L3 w6
 have Wo:=cM.go hF9
 have ajE:=jl
 refine zr<|zm<|aA (Oe C.1 om (w2.heap.size::E) L3 b true w6 av) ?_
 rintro v34 w7 ⟨⟨e34,av⟩,ajG⟩
 subst e34
 have ajH:=av.mem.1 b sm
 have uq:=av.mem.2.2.1
 have hR:=hR.aD ajG ajH uq
 refine W ?_
 refine aA (ir (p.2+1) p.2 om om w7) ?_
 rintro _ w8 ⟨rfl,cE⟩
 have AX:=cE.size
 refine bI cE av hR λav hR=>?_
 have cR:=av.db
 refine zm<|kJ bh bf rfl rfl rfl rfl λw9 aB yu df=>bI aB av hR λav hR=>?_
 refine aA (kG F9 [aT p.2,C.1.aM] (mh de sm (by intro z hz;simp at hz;rcases hz with rfl|rfl;(·exact lP om);(·omega))) C.1.k7 (show C.1.code.length<100000 from om) (w2.heap.size::E) L3 b _ w9 av (aJ.dK [aT p.2,C.1.aM] yu (λhx=>by have:=cR _ hx;omega))) ?_
 rintro v40 cu ⟨L4,av,bC⟩
 rw[<-rX] at av
 have hR:=hR.go bC
 clear yu
 have jV:=hR.tk du ru
 obtain⟨u1,u3,u4,u5,u6,u8,cX,gM⟩:=jV
 have cR:=av.db
 have uj:=hR
 have lO:=av
 refine W ?_
 refine dy mr rfl rfl rfl λeD dd fI CY=>?_
 have jY:=dd
 refine cJ mr rfl rfl gM.one fI rfl λfA di fI df=>?_
 have jY:=jY.since di (λx hx=>.inr (by simp at hx;omega))
 refine W ?_
 refine gd (o:=0) bf rfl rfl rfl fI rfl λjB gv fI df=>?_
 have jY:=jY.since gv (λx hx=>.inr (by simp at hx;omega))
 have qC:=lO.ext jY
 have hwq:=jY.size
 have aQ:=qC.open
 obtain⟨Kx,vt9,vc9,vy9,gb9,gt9,gc9,gy9,CP,A2⟩:=aQ
 have aQ:=jR A2.ty
 obtain⟨ay9,Hm,ey9⟩:=aQ
 subst ey9
 have hbz:=fI.lt
 have OT:=jB
 refine aZ<|zr<|zI jB.heap.size [] bh bf rfl rfl (lR _) sm λiG dA JL wX=>bI dA fI jY λfI jY=>?_
 have rr:=dA
 have CP:=CP.ext dA
 refine W ?_
 refine wP bh bf rfl rfl rfl rfl rfl rfl wX (((A2.ty.ext rr).rep (L:=[jB.heap.size]) (λx hx mm=>by have:=A2.ty.lt x (by simp[hx]);simp at mm;omega)).fresh (λx hx=>.inl (by simpa using hx))) (Wl _) (by rw[qb,ajy];simp;omega) λa4 fR g4 pZ ku jI=>?_
 rw[List.nil_append] at ku
 have jY:=jY.since jI (λx hx=>.inr (by simp at hx;omega))
 have fI:=fI.aF jI so
 have kO:=ku.uP
 have jG:=ku.low
 refine zf RX rfl<|gd (o:=1) mu rfl rfl rfl fI rfl λlk mJ fI df=>?_
 have jY:=jY.since mJ (λx hx=>.inr (by simp at hx;omega))
 have kO:=kO.aF mJ (λz hz dC=>by have:=jG z hz;simp at dC;omega)
 refine W ?_
 refine gd (o:=2) oJ rfl rfl rfl fI rfl λCZ yI fI df=>?_
 have jY:=jY.since yI (λx hx=>.inr (by simp at hx;omega))
 have kO:=kO.aF yI (λz hz dC=>by have:=jG z hz;simp at dC;omega)
 have wS:=fI.lt
 refine aZ<|zr<|fQ bh bf λxr C9 Dm ajJ=>cN C9 fI jY kO λfI jY kO=>?_
 refine zf IC rfl<|gd (o:=3) mu rfl rfl rfl fI rfl λDa Bc fI df=>?_
 have jY:=jY.since Bc (λx hx=>.inr (by simp at hx;omega))
 have kO:=kO.aF Bc (λz hz dC=>by have:=jG z hz;simp at dC;omega)
 have Dm:=Dm.aF Bc so
 have cM:=(Wo.go uj.fr).ext jY
 have Wp:=yV.go uj.fr
 refine WI ?_
 refine zi (i:=2) cz aL rfl rfl ((show 2<4 from om))<|zL eV aL rfl (((bU.go Wp).ext jY).cells) rfl<|zf RY rfl<|ajt (vs:=[str xa.au.aw,.slice iA xa.au.ak.length iw]) aL rfl rfl rfl rfl rfl rfl fI (Nat.le_of_ble_eq_true rfl) λvO xB fI aqc df=>?_
 have jY:=jY.since xB (λx hx=>.inr (by simp at hx;omega))
 have kO:=kO.aF xB (λz hz dC=>by have:=jG z hz;simp at dC;omega)
 have Dm:=Dm.aF xB so
 have qC:=lO.ext jY
 have aQ:=qC.open
 obtain⟨vb8,vt8,vc8,vy8,gb8,gt8,gc8,gy8,aql,hS8⟩:=aQ
 have aQ:=jR hS8.ty
 obtain⟨ay8,cy8,ey8⟩:=aQ
 subst ey8
 refine W ?_
 refine gd (o:=11) oJ rfl rfl rfl fI rfl λrp xu fI df=>?_
 have jY:=jY.since xu (λx hx=>.inr (by simp at hx;omega))
 have kO:=kO.aF xu (λz hz dC=>by have:=jG z hz;simp at dC;omega)
 have Dm:=Dm.aF xu so
 have av:=lO.sX jY sm (lR _) fI.lt
 have xC:Fr L4 cu (cu.heap.size::L4) rp:=((dS.refl [] L4 cu).more jY sm (lR _) sm).fr
 have hR:=uj.more jY sm (lR _) (λz hz=>cR z (lO.sub hz))
 have Wq:∀z,z∈cu.heap.size::L4->z<=cu.heap.size:=(λz hz=>by rcases mC.1 hz with h9|h9;(·omega);(·have:=cR z h9;omega))
 have Dn:eM (cu.heap.size::L4) rp (.slice iA xa.au.ak.length iw) xa.au.ak:=(by have df:=cU (dI.go (Wp.go xC));obtain⟨_,_,_,e9,_,yT⟩:=df;cases e9;exact yT)
 have fJ:gI (cu.heap.size::L4) rp 166 cu.heap.size (Tk.mk C.1.aM m1.types 0 [] t.sc xa C.2.1 C.2.2 m1.types.length):=⟨_,_,_,_,_,_,fI,⟨kO.rep (λz hz E8=>by have:=jG z hz;have:=Wq z E8;omega),Dm.kK.rep (λz hz E8=>by have:=Wq z E8;simp at hz;omega),gM.aK.go xC,gM.at_.go xC,gM.types.go xC,Dn⟩⟩
 have Kh:m1.bF.length<100000:=(by rw[ajz];omega)
 have aQ:=av.open
 obtain⟨vb,vt,vc,vy,gb,gt,gc,gy,xm,hS⟩:=aQ
 have aQ:=hS.apart
 obtain⟨yH,mV,vL,mf,vM,ui⟩:=aQ
 obtain⟨u1,u3,u4,u5,u6,u8,HF,sZ⟩:=fJ
 have bg:dM gt.toList rp b [vb,vt,.int .i64 ((m1).count:Int),.bool (m1).wide,vc,vy].toArray 164:=⟨xm,λhx=>(mf b hx).2.1 rfl⟩
 have fI:dM gt.toList rp cu.heap.size (pI (Tk.mk C.1.aM m1.types 0 [] t.sc xa C.2.1 C.2.2 m1.types.length) u1 u3 u4 u5 u6 u8).toArray 166:=⟨HF,λhx=>(mf cu.heap.size hx).1 sm⟩
 have pS:eO gt.toList rp:=(λx hx=>hS.cC x (hS.mem.2 (by simp[hx])))
 have Bj:∀x,x∈gt.toList->x∈(cu.heap.size::L4):=(λx hx=>hS.mem.2 (by simp[hx]))
 refine W ?_
 apply jF dj gt.toList 8 (rA 67 8) (rA 67 8) [[],[],[1],[2],[3],[],[5],[4,6]] [Ie.v _,Ie.v _,Ie.v _,Ie.v _,Ie.v _,Ie.v _,Ie.p (fun(G:List Nat) (v:Value) (ww:World)=>∃bb,v= .slice (some ⟨bb,0,none⟩) 1 1∧dM G ww bb (pI (Tk.mk C.1.aM m1.types 0 [] t.sc xa C.2.1 C.2.2 m1.types.length) u1 u3 u4 u5 u6 u8).toArray 166),Ie.e 0] [7] [fun(G:List Nat) (vs:List Value) (ww:World)=>G=gt.toList∧aj [] rp ww,fun(G:List Nat) (vs:List Value) (ww:World)=>∃g2,dH (gt.toList++(g2.toList++(cu.heap.size::L4))) ww 166 12 (vs.getD 0 undef) g2 (((m1).bF++[(Tk.mk C.1.aM m1.types 0 [] t.sc xa C.2.1 C.2.2 m1.types.length)]).map Tk.enc)∧aj gt.toList rp ww∧(g2=gt∨∃x,g2=some x∧rp.heap.size<=x)] de rfl pS (by exact⟨λG v w G' w' ⟨bb,e,h⟩ k=>⟨bb,e,h.go k⟩,trivial⟩) (by exact⟨λG vs w w' ⟨h1,h2⟩ k=>⟨h1,h2.ext k⟩,λG vs w w' ⟨g2,h1,h2,h3⟩ k=>⟨g2,h1.ext k,h2.ext k,h3⟩,trivial⟩) (⟨rfl,aj.refl _ _⟩)
 refine FA ?_
 refine vf (λx Kk G22 aS Bg Wr=>?_) ?_
 refine sH [_] [pI (Tk.mk C.1.aM m1.types 0 [] t.sc xa C.2.1 C.2.2 m1.types.length) u1 u3 u4 u5 u6 u8] zW mr rfl rfl rfl rfl rfl rfl rfl rfl rfl λVM Kl Ny V2=>?_
 exact ff Kl (⟨_,rfl,Ny.o Wr⟩)
 refine ve 0 (λx Kk G22 aS Bg Wr hJ hlen=>?_) ?_
 have aW:=jh hlen
 subst aW
 intro v6 d6
 obtain⟨bb,e6,fH⟩:=d6
 subst e6
 obtain⟨bO,bP⟩:=hJ
 subst bO
 have sL:=(hS.ta.any bP).sub (L':=gt.toList++(cu.heap.size::L4)) (λx hx=>.inl (by rcases mA.1 hx with h|h;(·exact Bj x h);(·exact h)))
 have Bm:=sZ.ext bP
 refine Co (L:=(cu.heap.size::L4)) (row:=Tk.enc (Tk.mk C.1.aM m1.types 0 [] t.sc xa C.2.1 C.2.2 m1.types.length)) zW mr rfl rfl rfl rfl rfl rfl sL rfl fH.all (λu hu=>List.all_eq_true.1 Bm.one u hu) (Bm.go ((Fr.refl _ _).to (L2:=gt.toList++(cu.heap.size::L4)) (λx hx=>.inl (by rcases mA.1 hx with h|h;(·exact Bj x h);(·exact h))))).BR (by rw[List.length_map];omega) λv9 g9 VM cZ uk eZ=>?_
 exact fe g9.toList (⟨uk.aF,λx hx=>by rcases eZ with h|h;(·rw[h] at hx;exact .inl hx);(·rw[h] at hx;simp at hx;right;omega)⟩) ((λx hx=>cZ.lt x hx)) (⟨g9,by rw[List.map_append];exact cZ,bP.any.trans uk.aF,eZ.imp id (λh=>⟨_,h,bP.size⟩)⟩)
 exact trivial
 intro x Ws G61 aS ajN aqp hJ hlen
 have aQ:=ji hlen
 obtain⟨q0,aW⟩:=aQ
 subst aW
 intro v6 d6
 have bg:=bg.go ajN
 change OW _ _ _ _ _ (bo (bj _ x _) (zZ 67 [_,_,_,_,_,_,_,_])) _
 obtain⟨g2,cZ,ej,iO⟩:=hJ
 have aQ:=hS.FW cZ ej iO
 obtain⟨L3,fB,jq⟩:=aQ
 have aQ:=cZ.len
 obtain⟨a3,c3,e3⟩:=aQ
 have e4:q0=_:=e3
 subst e4
 have bg:aJ _ b [vb,vt,.int .i64 ((m1).count:Int),.bool (m1).wide,vc,vy].toArray 164:=xm.aF ej (λhx=>(mf b hx).2.1 rfl)
 refine W ?_
 refine gd (o:=1) ID rfl rfl rfl bg rfl λsi po bg df=>?_
 have fB:=fB.aF po sm
 have av:dG t8 (cu.heap.size::w2.heap.size::E) L3 si b true {m1 with bF:=(m1).bF++[(Tk.mk C.1.aM m1.types 0 [] t.sc xa C.2.1 C.2.2 m1.types.length)]}:=⟨_,_,_,_,_,_,_,_,bg,fB⟩
 have hR:=(hR.add jq ej (λx hx vR=>(mf x hx).1 (by simp[vR]))).aD po (fB.mem.2 (.inr (.inl rfl))) (λvR=>mV (by simp[vR]))
 have vT:=av.drop
 obtain⟨L5,eL5,av⟩:=vT
 have hR:=hR.sub (L2:=L5) (λz hz=>by rw[eL5];simp[hz])
 have cM:=Wo.go hR.fr
 have Dp:=yV.go hR.fr
 have jl:=hR.gX ajE E6
 have jV:=hR.tk du ru
 refine WI ?_
 refine zi (i:=3) cz aL rfl rfl ((show 3<4 from om))<|zL eV aL rfl ((dO.go Dp).cells) rfl<|cJ (vs:=[str y.au.aw,.slice pP y.au.ak.length pQ]) aL rfl rfl rfl jl rfl λDq s0 jl df=>?_
 have av:=av.aF s0 sm
 have hOz:=(hOc.trans (hR.ft bt).sub).trans (qI.of s0 (λz hz sf=>by simp at hz;have:=lq z (h.sub sf);omega))
 have Wt:=av.sub E6
 have jV:gI L5 Dq 166 bt {t with on:=C.2.1,aV:=C.2.2}:=jV.go (Fr.of s0 (by simpa using Wt)) s0 (by simp;intro e9;have:=lq bt (h.sub dX);omega)
 have Dp:=Dp.aD s0 (by simpa using Wt)
 have vT:=av.drop
 obtain⟨L6,OU,av⟩:=vT
 have Bt:Fr L5 Dq L6 Dq:=(Fr.refl L5 Dq).to (λz hz=>.inl (by rw[OU];simp[hz]))
 have Dp:=Dp.go Bt
 refine W ?_
 exact⟨[_],ga eV aL rfl jl rfl,L6,dY.go Dp,av,jV.go Bt (aj.refl [] _) sm,Dp,hOz⟩
theorem Wu (h:e.ok):cw e.au=e.head:=by
 cases e with
 |«at» s=>unfold cw;rw[iP (.inl (show s≠[] from pD h))];rfl
 |un hd a=>rfl
 |bi hd a b=>rfl
 |ite a b c=>rfl
 |lt x a b=>rfl
 |fn f x A B b=>rfl
theorem ajQ (h:e.ok) (he:e.head=j4):∃f x,e= .bi j4 f x:=by
 cases e with
 |bi hd a b=>have he:hd=j4:=he;subst he;exact⟨a,b,rfl⟩
 |un hd a=>have he:hd=j4:=he;rw[he] at h;exact absurd h.1 de
 |«at» s=>cases he
 |ite a b c=>cases he
 |lt x a b=>cases he
 |fn f x A B b=>cases he
theorem ajR {e:Ex} (h:e.head≠fW):bD e=⟨[],e,e⟩:=by
 cases e with
 |lt x a b=>exact absurd rfl h
 |_=>rfl
theorem ajS {v1 v3 v4 v5 v6 v8:Value} {T:TypeId} (h:aJ w b (pI t v1 v3 v4 v5 v6 v8).toArray T):fS w b 7 [str t.expr.au.aw,v8]:=λj v hj=>by
 match j,hj with
 |0,hj=>simp at hj;subst hj;exact h.at rfl
 |1,hj=>simp at hj;subst hj;exact h.at rfl
theorem ajT {on:Nat} {aV:ai} {x:Ex} (g:vq m s on aV e T) (hg:(bD e).s= .bi j4 f x):
  j6 ⟨m,s,on,aV⟩ e= .inl (xV (eF (bT (bT m s f.aw).1 s x.aw).1 s on aV (bD e).name T (bD e).rest).1 (bT m s f.aw).2 (bT (bT m s f.aw).1 s x.aw).2 (eF (bT (bT m s f.aw).1 s x.aw).1 s on aV (bD e).name T (bD e).rest).2.1):=by
 have hY:=g.nv
 unfold j6
 simp only[hg,if_true,Jo]
 rw[<-hg,hY]
theorem ajU {on:Nat} {aV:ai} {c x y:Ex} (g:vq m s on aV e T) (hg:(bD e).s= .ite c x y):
  j6 ⟨m,s,on,aV⟩ e= .inr (⟨GG (eF (bT m s c.aw).1 s on aV (bD e).name T (bD e).rest).1 s (eF (bT m s c.aw).1 s on aV (bD e).name T (bD e).rest).2.1 (eF (bT m s c.aw).1 s on aV (bD e).name T (bD e).rest).2.2 (bT m s c.aw).2 x,s,
    (eF (bT m s c.aw).1 s on aV (bD e).name T (bD e).rest).2.1,(eF (bT m s c.aw).1 s on aV (bD e).name T (bD e).rest).2.2⟩,y):=by
 have hY:=g.nv
 unfold j6
 simp only[hg,Jo]
 rw[<-hg,hY];rfl
theorem Wv {on:Nat} {aV:ai} (g:vq m s on aV e T) (h1:(bD e).s.head≠j4) (h2:(bD e).s.head≠gj):
  j6 ⟨m,s,on,aV⟩ e=(if(bD e).name=[] then .inl (xW (mw m s T (bD e).s).1 on (mw m s T (bD e).s).2) else .inr (⟨(mw m s T (bD e).s).1,s++[((bD e).name,(mw m s T (bD e).s).2,T)],on,aV⟩,(bD e).rest)):=by
 have hY:=g.nv
 rw[<-hY]
 cases hg:(bD e).s with
 |«at» a=>unfold j6;simp only[hg]
 |un a b=>unfold j6;simp only[hg]
 |lt a b c=>unfold j6;simp only[hg]
 |fn a b c d f=>unfold j6;simp only[hg]
 |bi hd f x=>rw[hg] at h1;unfold j6;simp only[hg,iN (show¬hd=j4 from h1)]
 |ite a b c=>rw[hg] at h2;exact absurd rfl h2
theorem Ww {a:At} (h:j6 a e= .inl m):l4 e.n a e=m:=by
 have:=e.pos
 obtain⟨k,hk⟩:∃k,e.n=k+1:=⟨e.n-1,om⟩
 rw[hk];unfold l4;rw[h]
theorem Wx {a:At} {e2:Ex} {m2:Mk} {s2:cD} {yn:Nat} {Eo:ai} (h:j6 a e= .inr (⟨m2,s2,yn,Eo⟩,e2)) (hi:nI m2 s2 yn Eo e2) (hn:e2.n+1<=e.n):l4 e.n a e=l4 e2.n ⟨m2,s2,yn,Eo⟩ e2:=by
 have hp:=e.pos
 obtain⟨k,hk⟩:∃k,e.n=k+1:=⟨e.n-1,om⟩
 rw[hk]
 show(match j6 a e with| .inl m=>m| .inr p=>l4 k p.1 p.2)=_
 rw[h]
 exact ae9 k hi (show e2.n<=k by omega)
theorem Wy {on:Nat} {aV:ai} (h:nI m s on aV e) (g:vq m s on aV e T) (hn:(bD e).name≠[]):OP s (bD e).name (bD e).rest:=by
 obtain⟨eK,GF,⟨U,hU⟩,rN⟩:=g.rest hn
 have hb:=h.bud
 have sN:∀y,Fv y (bD e).rest->y∉[(bD e).name]->(look (ew s) y).isSome=true:=λy hy eU=>by
  have:=pG hU hy
  rw[oL,iN (λe9=>eU (by rw[e9];simp))] at this;exact this
 have hf:=MY (s:=s) (bd:=[(bD e).name]) om sN
 exact⟨GF,om,λx hx=>by
  rcases(B3 x _ [(bD e).name] []).1 hx with h9|h9
  ·simp at h9
  ·exact sN x h9.1 h9.2,om⟩
theorem ajV {s:ai} (h:AN s):s.length<=272:=by
 obtain⟨T,hT,rfl⟩:=h
 exact tU hT
theorem Wz (t:Tk) (m:Mk) (hI:nI m t.sc t.on t.aV t.expr) (hn:t.expr.n<=120) (hc:m.code.length<=1100) (fF:m.bF.length<80000) 
  (E L:List Nat) (b bt:Nat) (w:World) (h:dG t8 E L w b true m) (hT:gI L w 166 bt t) (dX:bt∈E):
  bz Tryz.prog 154 [.pointer (some ⟨b,0,none⟩),.pointer (some ⟨bt,0,none⟩)] w λr w'=>∃L',dG t8 E L' w' b true (l4 t.expr.n ⟨m,t.sc,t.on,t.aV⟩ t.expr)∧(∃t',gI L' w' 166 bt t'∧t'.aM=t.aM∧t'.regs=t.regs)∧Fr L w L' w':=by
 have lq:=h.db
 have Hj:=hT
 obtain⟨u1,u3,u4,u5,u6,u8,cX,gM⟩:=hT
 obtain⟨a8,c8,e8,_⟩:=rC gM.ak
 rw[ia] at e8
 subst e8
 have ajW:bt<w.heap.size:=lq bt (h.sub dX)
 have ajX:=kV gM.ak
 refine bS [] 89 Tryz.func154 rfl abb rfl rfl ?_
 refine WL ?_
 refine zL eV aL rfl ((ajS cX)) rfl<|dy aL rfl rfl rfl λw1 aI aG gQ=>?_
 have fT:=aI
 refine cJ aL rfl rfl rfl aG rfl λw2 az aG df=>?_
 have fT:=fT.since az (λx hx=>.inr (by simp at hx;omega))
 have av:=h.sX fT sm (lR _) aG.lt
 have p3:=(dS.refl E L w).more fT sm (lR _) (λz hz=>lq z (h.sub hz))
 have cI:=p3.tk Hj dX
 have vI:=ajX.go p3.fr
 have ru:bt∈w.heap.size::E:=mK _ dX
 have Ky:w.heap.size∈w.heap.size::E:=List.mem_cons_self ..
 have WB:w.heap.size≠bt:=om
 refine W ?_
 refine eA (λe':Ex=>[(0,.pointer (some ⟨b,0,none⟩)),(1,.pointer (some ⟨bt,0,none⟩)),(4,.pointer (some ⟨w.heap.size,0,none⟩))]) (λe' ww=>∃(aa:At) (n9:Nat) (new:List Tk) (L1:List Nat) (ae:Option Addr) (ce:Nat),wU m aa.m aa.s aa.on aa.aV t.expr.n n9 e' new∧l4 t.expr.n ⟨m,t.sc,t.on,t.aV⟩ t.expr=l4 e'.n aa e'∧dG t8 (w.heap.size::E) L1 ww b true aa.m∧gI L1 ww 166 bt {t with sc:=aa.s,on:=aa.on,aV:=aa.aV}∧Fr L w L1 ww∧aJ ww w.heap.size [str (e').au.aw,.slice ae (e').au.ak.length ce].toArray 74∧bB L1 ww (.agg #[str (e').au.aw,.slice ae (e').au.ak.length ce]) (e').au) (λe'=>e'.n) t.expr (⟨rfl,rfl,rfl⟩) (⟨⟨m,t.sc,t.on,t.aV⟩,0,[],_,_,_,wU.start hI,rfl,av,cI,p3.fr,aG,vI⟩) λgg w3 e3 hI=>?_
 obtain⟨⟨m1,s1,vu,E9⟩,n9,new,L1,ae,ce,Bu,tC,Kz,WC,OV,Dr,WD⟩:=hI
 dsimp only at Bu tC Kz WC
 have jD:=aj.refl [] w3
 have hA:=Bu.inv
 have ajY:=hA.goal
 obtain⟨T,g⟩:=ajY
 have aR:=Bu.steps
 have Jm:=Bu.num
 have aqq:=Bu.ext.code
 have ajZ:=Bu.ext.bF
 have hle:=g.le
 have aqr:=hA.bud
 have oD:=hA.room
 have zw:=hA.cnt
 have OX:=hA.on
 have WE:=ajV hA.aV
 have hep:=gg.pos
 have mZ:=(bD gg).s.pos
 have nz:=T6 new
 have aqs:m1.code.length<=6500:=om
 have aqt:m1.bF.length<85000:=(by rw[ajZ,lA];omega)
 have ur:=Kz.db
 have aqu:=g.small
 refine WL ?_
 refine zL eV aL rfl ((Dr.ext jD).all) rfl<|dy aL rfl rfl rfl λw4 aO bL kI=>?_
 have jD:=jD.ext aO
 refine cJ aL rfl rfl rfl bL rfl λw5 aN bL df=>?_
 have jD:=jD.since aN (λx hx=>.inr (by simp at hx;omega))
 refine aZ<|zr<|zL eV aL rfl ((Dr.ext jD).all) rfl<|dy aL rfl rfl rfl λw6 bN cM oX=>bI bN jD bL λjD bL=>?_
 have aqv:=bL.lt
 refine cJ aL rfl rfl rfl cM rfl λw7 bW cM df=>?_
 have jD:=jD.since bW (λx hx=>.inr (by simp at hx;omega))
 have bL:=bL.aF bW so
 have av:=Kz.ext jD
 have vI:=WD.ext jD
 have aG:=Dr.ext jD
 refine W ?_
 refine aA (I8 gg.au _ L1 w7 vI) ?_
 rintro v8 w8 ⟨Hb,cE⟩
 have AX:=cE.size
 refine la cE jD bL cM vI aG λjD bL cM vI aG=>?_
 have eS:=Hb
 rw[Wu hA.ok] at eS
 subst eS
 refine W ?_
 refine ix (λ_:Unit=>[(0,.pointer (some ⟨b,0,none⟩)),(1,.pointer (some ⟨bt,0,none⟩)),(4,.pointer (some ⟨w.heap.size,0,none⟩)),(5,str (bD gg).name),(6,.pointer (some ⟨w3.heap.size,0,none⟩)),(7,.pointer (some ⟨w5.heap.size,0,none⟩))]) (λ_ ww=>aj [w3.heap.size,w5.heap.size] w8 ww∧∃a6 c6 a7 c7,(aJ ww w3.heap.size [str ((bD gg).s).au.aw,.slice a6 ((bD gg).s).au.ak.length c6].toArray 74∧bB L1 ww (.agg #[str ((bD gg).s).au.aw,.slice a6 ((bD gg).s).au.ak.length c6]) ((bD gg).s).au)∧aJ ww w5.heap.size [str ((bD gg).rest).au.aw,.slice a7 ((bD gg).rest).au.ak.length c7].toArray 74∧bB L1 ww (.agg #[str ((bD gg).rest).au.aw,.slice a7 ((bD gg).rest).au.ak.length c7]) ((bD gg).rest).au) ?_ ?_
 refine zc rfl (λh1=>?_) (λh1=>?_)
 have dU:=JI hA.ok h1
 obtain⟨nx,ea,eb,rfl⟩:=dU
 have JM:(Ex.lt nx ea eb).au.ak.length=4:=rfl
 have bZ:=cU WD
 obtain⟨_,_,_,e9,_,aP⟩:=bZ
 cases e9
 have fx:=eW aP (i:=1) om
 obtain⟨b1,eX,gA,gm,e1,bK,_⟩:=fx
 cases e1
 have bK:fy L1 w3 _ _ [str nx,.slice gA 0 gm]:=bK
 have eU:=eW aP (i:=2) om
 obtain⟨b2,lG,iA,iw,e2,bU,dI⟩:=eU
 cases e2
 have bU:fy L1 w3 _ _ [str ea.au.aw,.slice iA ea.au.ak.length iw]:=bU
 have dI:bB L1 w3 (.agg #[str ea.au.aw,.slice iA ea.au.ak.length iw]) ea.au:=dI
 have pg:=eW aP (i:=3) om
 obtain⟨b3,AW,pP,pQ,e3,dO,dY⟩:=pg
 cases e3
 have dO:fy L1 w3 _ _ [str eb.au.aw,.slice pP eb.au.ak.length pQ]:=dO
 have dY:bB L1 w3 (.agg #[str eb.au.aw,.slice pP eb.au.ak.length pQ]) eb.au:=dY
 have kL:=aj.refl [w3.heap.size,w5.heap.size] w8
 refine WL ?_
 refine zl iC rfl ((Dr.ext jD).at rfl)<|zi (i:=1) cz aL rfl rfl ((show 1<4 from om))<|zf kY rfl<|zl gD rfl ((bK.ext jD).cells 0 _ rfl)<|zA<|aZ<|zr<|zf jv rfl<|zl iC rfl ((Dr.ext jD).at rfl)<|zi (i:=2) cz aL rfl rfl ((show 2<4 from om))<|zL eV aL rfl ((bU.ext jD).cells) rfl<|cJ (vs:=[str ea.au.aw,.slice iA ea.au.ak.length iw]) aL rfl rfl rfl bL rfl λw9 aB bL df=>?_
 have jD:=jD.since aB (λx hx=>.inr (by simp at hx;omega))
 have cM:=cM.aF aB so
 have kL:=kL.trans (aB.mono sm)
 refine WL ?_
 refine zl iC rfl ((Dr.ext jD).at rfl)<|zi (i:=3) cz aL rfl rfl ((show 3<4 from om))<|zL eV aL rfl ((dO.ext jD).cells) rfl<|cJ (vs:=[str eb.au.aw,.slice pP eb.au.ak.length pQ]) aL rfl rfl rfl cM rfl λcu cB cM df=>?_
 have jD:=jD.since cB (λx hx=>.inr (by simp at hx;omega))
 have bL:=bL.aF cB so
 have kL:=kL.trans (cB.mono sm)
 refine W ?_
 exact⟨(),⟨rfl,rfl,rfl,rfl,rfl,rfl⟩,kL,iA,iw,pP,pQ,⟨bL,dI.ext jD⟩,cM,dY.ext jD⟩
 have o3:=ajR (e:=gg) h1
 refine WZ ?_
 exact⟨(),⟨rfl,rfl,rfl,by rw[o3];rfl,rfl,rfl⟩,by rw[o3];exact⟨aj.refl _ _,ae,ce,ae,ce,⟨bL,vI⟩,cM,vI⟩⟩
 intro gu w9 e9 hI
 obtain⟨kL,a6,c6,a7,c7,⟨bL,se⟩,cM,s5⟩:=hI
 have xD:=jD.since kL (λx hx=>.inr (by simp at hx;rcases hx with rfl|rfl<;>omega))
 have av:=Kz.ext xD
 have cI:=WC.ext xD
 have aG:=Dr.ext xD
 have cM:dM L1 w9 w5.heap.size _ _:=⟨cM,λhx=>by have:=ur _ hx;omega⟩
 refine W ?_
 refine aA (I8 (bD gg).s.au _ L1 w9 se) ?_
 rintro v10 cu ⟨aj0,cB⟩
 have CG:=cB.size
 refine Cd cB av cI aG se s5 bL cM xD λav cI aG se s5 bL cM xD=>?_
 have eS:=aj0
 rw[Wu g.ok] at eS
 subst eS
 refine W ?_
 refine zc rfl (λh2=>?_) (λh2=>?_)
 have jm:=ajQ g.ok h2
 obtain⟨f,x9,jm⟩:=jm
 have fm:3<=(bD gg).s.n:=(by rw[jm];simp only[Ex.n];have:=f.pos;have:=x9.pos;omega)
 have M3:(bD gg).s.n=(Ex.bi j4 f x9).n:=congrArg Ex.n jm
 rw[jm] at bL se
 have HO:=g.ok
 have HP:=g.type
 rw[jm] at HO HP
 refine W ?_
 refine aA (ajo ({t with sc:=s1,on:=vu,aV:=E9}:Tk) m1 f x9 (bD gg).name (bD gg).rest T HO om HP hA.sc (show s1.length<=9000 from om) OX WE (λA4=>Wy hA g A4) om om om om (w.heap.size::E) L1 b bt _ _ cu av cI ru se s5) ?_
 rintro Wi eD ⟨L2,av,⟨t',dI,iy,ck⟩,ka⟩
 have vT:=av.drop
 obtain⟨L3,eL3,av⟩:=vT
 have Bt:Fr L2 eD L3 eD:=(Fr.refl L2 eD).to (λz hz=>.inl (by rw[eL3];simp[hz]))
 rw[<-Ww (ajT g jm),<-tC] at av
 refine W ?_
 exact⟨_,rfl,L3,av,⟨t',dI.go Bt (aj.refl [] _) sm,iy,ck⟩,((OV.ext xD).go ka).go Bt⟩
 have ml:(bD gg).s.head≠j4:=h2
 refine W ?_
 refine zc rfl (λh3=>?_) (λh3=>?_)
 have jm:=UJ g.ok h3
 obtain⟨c9,x9,y9,jm⟩:=jm
 have fm:4<=(bD gg).s.n:=(by rw[jm];simp only[Ex.n];have:=c9.pos;have:=x9.pos;have:=y9.pos;omega)
 have M3:(bD gg).s.n=(Ex.ite c9 x9 y9).n:=congrArg Ex.n jm
 rw[jm] at bL se
 have HO:=g.ok
 have HP:=g.type
 rw[jm] at HO HP
 have aj2:=TX hA g jm
 obtain⟨nw,nw2,_,fZ⟩:=aj2
 have aj4:=fZ.num
 refine W ?_
 refine aA (ajw ({t with sc:=s1,on:=vu,aV:=E9}:Tk) m1 c9 x9 y9 (bD gg).name (bD gg).rest T HO om HP hA.sc (show s1.length<=9000 from om) OX WE (λA4=>Wy hA g A4) om om om om (w.heap.size::E) L1 b bt _ _ cu av cI ru se s5) ?_
 rintro v51 eD ⟨L2,KB,av,dI,ka,hFt⟩
 have bZ:=cU KB
 obtain⟨ay,ny,cy,OY,Jl,_⟩:=bZ
 subst OY
 subst Jl
 have aG:=hFt.gX aG Ky WB
 have hF:=(OV.ext xD).go ka
 refine cJ (vs:=[str y9.au.aw,.slice ay y9.au.ak.length cy]) aL rfl rfl rfl aG rfl λfA di aG df=>?_
 have Ds:=av.sub Ky
 have av:=av.aF di sm
 have dI:=dI.go (Fr.of di (by simpa using Ds)) di so;have hF:=hF.aD di (by simpa using Ds);have KB:=KB.go (Fr.of di (by simpa using Ds))
 refine W ?_
 exact⟨y9,⟨rfl,rfl,rfl⟩,⟨⟨_,_,_,_⟩,_,_,L2,ay,cy,Bu.step fZ,tC.trans (Wx (ajU g jm) fZ.inv om),av,dI,hF,aG,KB⟩,om⟩
 have my:(bD gg).s.head≠gj:=h3
 have hpu:=M0 (m:=m1) hA.sml hA.sc g.ok g.type om om om
 obtain⟨nwp,rL⟩:=hpu
 have Dn:∃z,z=mw m1 s1 T (bD gg).s:=⟨_,rfl⟩
 obtain⟨P,hP⟩:=Dn
 rw[<-hP] at rL
 have aqw:=rL.ext.types
 have aqx:=rL.ext.code
 have hpr:=rL.cY
 refine W ?_
 refine aA (Kf ({t with sc:=s1,on:=vu,aV:=E9}:Tk) (bD gg).s g.ok om hA.sc.types (show s1.length+2*(bD gg).s.n<=100000 from om) _ L1 bt cu av.db cI se) ?_
 rintro v11 eD ⟨aj7,dd⟩
 have Bo:=dd.size
 refine Cd dd av cI aG se s5 bL cM xD λav cI aG se s5 bL cM xD=>?_
 have eS:=aj7
 rw[g.type] at eS
 subst eS
 refine W ?_
 refine aA (ajl ({t with sc:=s1,on:=vu,aV:=E9}:Tk) m1 (bD gg).s T g.ok g.type hA.sc (show 5*s1.length+2*(bD gg).s.n<=240 from om) OX om om om om (w.heap.size::E) L1 b bt _ eD av cI ru se) ?_
 rintro NW fA ⟨Fa,L2,av,bC⟩
 rw[<-hP] at Fa av
 subst Fa
 have dI:=bC.tk cI ru
 have cM:=cM.go bC.fr;have s5:=s5.go bC.fr
 have aG:=bC.gX aG Ky
 have hF:=(OV.ext xD).go bC.fr
 refine W ?_
 refine zc rfl (λh4=>?_) (λh4=>?_)
 have rN:(bD gg).name=[]:=h4
 have Fb:=(Wv g ml my).trans (iP rN)
 rw[<-hP] at Fb
 have OZ:∃z,z=sC P.1 vu:=⟨_,rfl⟩
 obtain⟨me,Dk⟩:=OZ
 have OR:me.types.length=P.1.types.length+3∧me.code.length=P.1.code.length+3:=(by rw[Dk];exact Wh _ _)
 obtain⟨met,mec⟩:=OR
 have Cn:∃z,z=me.types.length:=⟨_,rfl⟩
 obtain⟨r,nh⟩:=Cn
 have vU:∃z,z=me.code.length:=⟨_,rfl⟩
 obtain⟨c,et⟩:=vU
 have t0:me.types.length=r:=nh.symm
 have c0:me.code.length=c:=et.symm
 have Cn:∃z,z=P.1.types.length:=⟨_,rfl⟩
 obtain⟨rc,HM⟩:=Cn
 have I3:xW P.1 vu P.2=((me.cA nu [[48],aT (rc+2)]).cA nu [[49],aT P.2]).cA Ac [aT (rc+1)]:=(by rw[Dk,HM];rfl)
 rw[I3] at Fb
 have jV:=dI
 obtain⟨v1,v3,v4,v5,v6,v8,aqz,_⟩:=jV
 refine W ?_
 refine aA (Vy P.1 vu om om om (w.heap.size::E) L2 b fA av) ?_
 rintro Wi jB ⟨Eu,L0,av,bC⟩
 rw[<-Dk] at av
 rw[<-HM] at Eu
 subst Eu
 have hR:=bC
 have cR:=av.db
 refine W ?_
 refine kJ bh bf rfl rfl rfl rfl λiG dA WG CY=>bI dA av hR λav hR=>?_
 refine aA (kG nu [[48],aT (rc+2)] (mh de sm (by intro z hz;simp at hz;rcases hz with rfl|rfl;(·decide);(·exact lP om))) me om (w.heap.size::E) L0 b _ iG av (aJ.dK [[48],aT (rc+2)] WG (λhx=>by have:=cR _ hx;omega))) ?_
 rintro jC pZ ⟨L1,av,bC⟩
 have hR:=hR.go bC
 clear WG
 have ik:∃x,x=me.cA nu [[48],aT (rc+2)]:=⟨_,rfl⟩
 obtain⟨m1,ll⟩:=ik
 rw[<-ll] at av
 have t1:m1.types.length=r+0:=(by rw[ll,oe];omega)
 have c1:m1.code.length=c+1:=(by rw[ll,ph];omega)
 have cR:=av.db
 refine W ?_
 refine aA (ir (P.2+1) P.2 om om pZ) ?_
 rintro _ lk ⟨rfl,mJ⟩
 have U1:=mJ.size
 refine bI mJ av hR λav hR=>?_
 have cR:=av.db
 refine kJ bh bf rfl rfl rfl rfl λCZ yI WH aj8=>bI yI av hR λav hR=>?_
 refine aA (kG nu [[49],aT P.2] (mh de sm (by intro z hz;simp at hz;rcases hz with rfl|rfl;(·decide);(·exact lP om))) m1 om (w.heap.size::E) L1 b _ CZ av (aJ.dK [[49],aT P.2] WH (λhx=>by have:=cR _ hx;omega))) ?_
 rintro jC xr ⟨L2,av,bC⟩
 have hR:=hR.go bC
 clear WH
 have fj:∃x,x=m1.cA nu [[49],aT P.2]:=⟨_,rfl⟩
 obtain⟨m2,ln⟩:=fj
 rw[<-ln] at av
 have t2:m2.types.length=r+0:=(by rw[ln,oe];omega)
 have c2:m2.code.length=c+2:=(by rw[ln,ph];omega)
 have cR:=av.db
 refine W ?_
 refine fc bh bf rfl rfl λDa Bc EG ag4=>bI Bc av hR λav hR=>?_
 refine aA (kG Ac [aT (rc+1)] (mh de sm (by intro z hz;simp at hz;subst hz;exact lP om)) m2 om (w.heap.size::E) L2 b _ Da av (aJ.dK [aT (rc+1)] EG (λhx=>by have:=cR _ hx;omega))) ?_
 rintro jC vO ⟨L3,av,bC⟩
 have hR:=hR.go bC
 clear EG
 have yO:∃x,x=m2.cA Ac [aT (rc+1)]:=⟨_,rfl⟩
 obtain⟨m3,lp⟩:=yO
 rw[<-lp] at av
 have t3:m3.types.length=r+0:=(by rw[lp,oe];omega)
 have c3:m3.code.length=c+3:=(by rw[lp,ph];omega)
 have cR:=av.db
 have vT:=av.drop
 obtain⟨L7,eL7,av⟩:=vT
 have N5:=hR.tk dI ru
 have Bt:Fr L3 vO L7 vO:=(Fr.refl L3 vO).to (λz hz=>.inl (by rw[eL7];simp[hz]))
 refine W ?_
 subst lp ln ll
 rw[<-Ww Fb,<-tC] at av
 exact⟨_,rfl,L7,av,⟨_,N5.go Bt (aj.refl [] _) sm,rfl,rfl⟩,(hF.go hR.fr).go Bt⟩
 have rN:(bD gg).name≠[]:=h4
 have Fb:=(Wv g ml my).trans (iN rN)
 have D1:=TW hA g rN
 obtain⟨nw2,fZ⟩:=D1
 rw[<-hP] at Fb fZ
 have aj4:=fZ.num
 have yS:=av.sub ru
 refine W ?_
 refine aA (EW ({t with sc:=s1,on:=vu,aV:=E9}:Tk) (bD gg).name P.2 T (show s1.length<100000 from om) L2 bt fA yS av.db dI) ?_
 rintro v87 jB ⟨dI,ow⟩
 have av:=av.aF ow (by simpa using .inr dX)
 have cM:=cM.aD ow (by simpa using yS);have s5:=s5.go (Fr.of ow (by simpa using yS))
 have aG:=aG.aF ow (by simpa using WB)
 have hF:=hF.aD ow (by simpa using yS)
 have dI:gI L2 jB 166 bt ({t with sc:=s1++[((bD gg).name,P.2,T)],on:=vu,aV:=E9}:Tk):=dI
 refine W ?_
 refine cJ (vs:=[str (bD gg).rest.au.aw,.slice a7 (bD gg).rest.au.ak.length c7]) aL rfl rfl rfl aG rfl λiG dA aG df=>?_
 have Ds:=av.sub Ky
 have av:=av.aF dA sm
 have dI:=dI.go (Fr.of dA (by simpa using Ds)) dA so;have hF:=hF.aD dA (by simpa using Ds);have s5:=s5.go (Fr.of dA (by simpa using Ds))
 refine W ?_
 exact⟨(bD gg).rest,⟨rfl,rfl,rfl⟩,⟨⟨_,_,_,_⟩,_,_,L2,a7,c7,Bu.step fZ,tC.trans (Wx Fb fZ.inv om),av,dI,hF,aG,s5⟩,om⟩
theorem aka (h:od t) (hk:k<t.loads) {hd:aq} (hh:∀t',bA (t.regs.getD 0 [105])=some t'->hd=t'):k+1<hd.ak.length∧nth hd.ak (k+1)=nth (mF t) k∧WF (nth (mF t) k)∧(nth (mF t) k).size<=12001:=by
 rcases h.loads with h0|⟨ts,hr,hl,hp⟩
 ·omega
 ·obtain⟨e1,e2⟩:=M6 hr hp
  have e3:=hh _ e2
  have cm:=tG e2
  have fC:=zJ e2
  subst e3
  have hlen:(wm [116] ts).ak.length=ts.length+1:=rfl
  have h1:k+1<(wm [116] ts).ak.length:=by rw[hlen];omega
  have e4:nth (wm [116] ts).ak (k+1)=nth (mF t) k:=by rw[e1];rfl
  have h2:=cm.nth h1
  have h3:=kX h1
  rw[e4] at h2 h3
  have h4:=Lo e2
  exact⟨h1,e4,h2,om⟩
theorem akb {m:Mk} (h:od t) (hk:k<=t.loads):Cq m (o4 (nJ m t.regs) (mF t) k) t.regs k:=by
 have hr:=h.room
 rcases h.loads with h0|⟨ts,hh,hl,GH⟩
 ·rw[show k=0 by omega];exact M7 h.regs
 ·obtain⟨e1,_⟩:=M6 hh GH
  rw[e1]
  refine M8 h.regs (λx hx=>?_) _ om om
  have h2:=h.regs _ (List.mem_of_mem_head? hh)
  rw[lE] at h2
  have:=T1 (List.mem_map_of_mem (f:=aq.text) hx)
  omega
theorem akc (m:Mk) (aM:ai) (regs:List ai) (a b:ai) {CO P0:ai} {r:Nat} (hC:CO=dR [99] regs) (hP:P0=dR [116] [CO,b]) (hr:r=m.types.length):
  AR m aM regs a b=(((((m.cY CO).cA sy [aT r,aM]).cY P0).cA lx [aT (r+1),aT r,[48]]).cY a).cA sA [aT (r+2),aT (r+1),a,b]:=by
 subst hP;subst hC;subst hr;rfl
theorem akd (t:Tk) (m:Mk) (Fc:od t) (o:Bool) 
  (E L:List Nat) (b bt:Nat) (w:World) (h:dG t8 E L w b o m) (hT:gI L w 166 bt t) (dX:bt∈E):
  bz Tryz.prog 157 [.pointer (some ⟨b,0,none⟩),.pointer (some ⟨bt,0,none⟩)] w λr w'=>∃L',dG t8 E L' w' b true (qu m t)∧dS E L w L' w':=by
 have lq:=h.db
 have ajW:bt<w.heap.size:=lq bt (h.sub dX)
 have hR:=dS.refl E L w
 have oD:=Fc.room
 have av:=h
 refine bS [] 137 Tryz.func157 rfl abe rfl rfl ?_
 refine zr<|zm<|fQ bh bf λw1 aI lH Hg=>?_
 have yW:=h.open
 obtain⟨xb,xt,xc,xy,gb,gt,gc,gy,bg,hS⟩:=yW
 have yl:=hS.apart
 obtain⟨yH,mV,vL,mf,vM,ui⟩:=yl
 have bg:aJ w1 b [xb,xt,.int .i64 (m.count:Int),.bool m.wide,xc,xy].toArray 164:=bg.ext aI
 have yX:=hS.IY lH.kK aI.any (λx hx=>.inr (by cases hx;exact lR _))
 obtain⟨L1,hS,bC⟩:=yX
 have hR:=(dS.refl E L w).add bC aI sm
 refine W ?_
 refine gd (o:=4) mu rfl rfl rfl bg rfl λw2 az bg df=>?_
 have hS:=hS.aF az sm
 have Dt:=hS.mem.2 (.inr (.inl rfl))
 have hR:=hR.aD az Dt mV
 have jV:=hR.tk hT dX
 obtain⟨u1,u3,u4,u5,u6,u8,cX,gM⟩:=jV
 have bZ:=dJ gM.regs
 obtain⟨a1,n1,c1,e1,fx⟩:=bZ
 subst e1
 subst fx
 have aqA:∀x,x∈L1->x<w2.heap.size:=hS.cC
 refine aZ<|zr<|zm<|zI w2.heap.size [] bh bf rfl rfl (lR _) sm λw3 aH aj8 ake=>?_
 have rr:=aH
 have cX:=cX.ext aH
 refine W ?_
 refine wP bh bf rfl rfl rfl rfl rfl rfl ake ((bQ.fresh gM.regs (L':=[w2.heap.size]) (λx hx=>.inr (by simp at hx;omega))).ext rr |>.fresh (λx hx=>.inl (by simpa using hx))) (Wl _) (by rw[qb];simp;omega) λa4 fR g4 w4 ku aO=>?_
 rw[List.nil_append] at ku
 have O0:=rr.since aO (λx hx=>.inr (by simp at hx;omega))
 have kO:=ku.uP
 have jG:=ku.low
 have bg:=bg.ext O0
 have yX:=hS.Mu kO O0.any (λx hx=>.inr (jG x hx))
 obtain⟨L2,fB,jq⟩:=yX
 have hR:=hR.add jq O0 sm
 refine W ?_
 refine gd (o:=5) mu rfl rfl rfl bg rfl λw5 aN bg df=>?_
 have fB:=fB.aF aN sm
 have akf:=fB.mem.2 (.inr (.inl rfl))
 have hR:=hR.aD aN akf mV
 have av:dG t8 E L2 w5 b true (nJ m t.regs):=⟨_,_,_,_,_,_,_,_,bg,fB⟩
 have Di:=av.db
 refine aZ<|zr<|aA (AH [105] L2 w5 Di) ?_
 rintro v6 w6 ⟨CU,bN⟩
 have oo:=bN.size
 refine bI bN av hR λav hR=>?_
 have eS:=CU
 obtain⟨t0x,tv,O2,KC,fM⟩:=eS
 subst O2
 have bZ:=cU KC
 obtain⟨a5,n5,c5,e5,JY,_⟩:=bZ
 subst e5
 subst JY
 have lO:=av
 have uj:=hR
 have Di:=av.db
 refine W ?_
 refine dy aL rfl rfl rfl λw7 bW aG gQ=>?_
 have da:=bW
 refine cJ (vs:=[str t0x.aw,.slice a5 t0x.ak.length c5]) aL rfl rfl rfl aG rfl λw8 cE aG df=>?_
 have da:=da.since cE (λx hx=>.inr (by simp at hx;omega))
 have av:=lO.ext da
 have hR:=uj.ext da
 have KC:=KC.ext da
 have jV:=hR.tk hT dX
 obtain⟨u1,u3,u4,u5,u6,u8,cX,gM⟩:=jV
 have bZ:=dJ gM.regs
 obtain⟨a1,n1,c1,e1,fx⟩:=bZ
 subst e1
 subst fx
 have bZ:=dJ gM.self
 obtain⟨a3,n3,c3,e3,pg⟩:=bZ
 subst e3
 subst pg
 have cX:aJ w8 bt [str t.aM,.slice a1 t.regs.length c1,.int .i64 (t.loads:Int),.slice a3 t.self.length c3,u4,u5,u6,str t.expr.au.aw,u8,.int .i64 (t.on:Int),str t.aV,.int .i64 (t.next:Int)].toArray 166:=cX
 refine W ?_
 refine ix (λ_:Unit=>[(0,.pointer (some ⟨b,0,none⟩)),(1,.pointer (some ⟨bt,0,none⟩)),(4,.pointer (some ⟨w6.heap.size,0,none⟩))]) (λ_ ww=>aj [w6.heap.size] w8 ww∧∃(hd:aq) (ah:Option Addr) (ch:Nat),aJ ww w6.heap.size [str hd.aw,.slice ah hd.ak.length ch].toArray 74∧bB L2 ww (.agg #[str hd.aw,.slice ah hd.ak.length ch]) hd∧∀t',bA (t.regs.getD 0 [105])=some t'->hd=t') ?_ ?_
 refine zc rfl (λh1=>?_) (λh1=>?_)
 have nh:0<t.regs.length:=(by simp at h1;omega)
 have ey:=nN gM.regs nh
 obtain⟨b9,ux,e9,jr⟩:=ey
 cases e9
 have oC:t.regs.getD 0 [105]=bX t.regs 0:=(by unfold bX;rw[gG,gG,gE nh];rfl)
 have kL:=aj.refl [w6.heap.size] w8
 have Fe:=av.db
 refine W ?_
 refine aA (AH (bX t.regs 0) (w6.heap.size::L2) w8 (λx hx=>by rcases mC.1 hx with h9|h9;(·rw[h9];exact aG.lt);(·exact Fe x h9))) ?_
 rintro v9 w9 ⟨eS,aB⟩
 have o7:=aB.size
 refine bI aB aG kL λaG kL=>?_
 have eS:=eS
 obtain⟨t1x,tv,yt,WJ,oY⟩:=eS
 subst yt
 have bZ:=cU WJ
 obtain⟨a6,n6,c6,e6,WK,_⟩:=bZ
 subst e6
 subst WK
 refine W ?_
 refine cJ (vs:=[str t1x.aw,.slice a6 t1x.ak.length c6]) aL rfl rfl rfl aG rfl λcu cB aG df=>?_
 have kL:=kL.trans cB
 have akg:bB L2 cu _ t1x:=(WJ.go (Fr.of cB sm)).fresh (λx hx=>.inl (by simp[hx]))
 refine W ?_
 exact⟨(),⟨rfl,rfl,rfl⟩,kL,t1x,a6,c6,aG,akg,by rw[oC];exact oY⟩
 have nh:t.regs=[]:=(by simpa using h1)
 have oC:t.regs.getD 0 [105]=[105]:=(by rw[nh];rfl)
 refine WZ ?_
 exact⟨(),⟨rfl,rfl,rfl⟩,aj.refl _ _,t0x,a5,c5,aG,KC,by rw[oC];exact fM⟩
 intro gu w9 e9 hI
 obtain⟨kL,hd,ah,ch,aG,O3,je⟩:=hI
 have da:=da.since kL (λx hx=>.inr (by simp at hx;omega))
 have av:=lO.ext da
 have hR:=uj.ext da
 have aG:dM L2 w9 w6.heap.size _ _:=⟨aG,λhx=>by have:=Di _ hx;omega⟩
 refine W ?_
 refine eA (λk:Nat=>[(0,.pointer (some ⟨b,0,none⟩)),(1,.pointer (some ⟨bt,0,none⟩)),(4,.pointer (some ⟨w6.heap.size,0,none⟩)),(6,.int .i64 (k:Int))]) (λk ww=>∃L3,dG t8 E L3 ww b true (o4 (nJ m t.regs) (mF t) k)∧dS E L w L3 ww∧Fr L2 w9 L3 ww∧k<=t.loads) (λk=>t.loads-k) (0) (⟨rfl,rfl,rfl,rfl⟩) (⟨L2,av,hR,Fr.refl _ _,Nat.zero_le _⟩) λgg cu fo hI=>?_
 obtain⟨L3,av,hR,rv,hk⟩:=hI
 have aG:=aG.go rv;have O3:=O3.go rv
 have jV:=hR.tk hT dX
 obtain⟨u1,u3,u4,u5,u6,u8,cX,gM⟩:=jV
 have bZ:=dJ gM.regs
 obtain⟨a1,n1,c1,e1,fx⟩:=bZ
 subst e1
 subst fx
 have bZ:=dJ gM.self
 obtain⟨a3,n3,c3,e3,pg⟩:=bZ
 subst e3
 subst pg
 have cX:aJ cu bt [str t.aM,.slice a1 t.regs.length c1,.int .i64 (t.loads:Int),.slice a3 t.self.length c3,u4,u5,u6,str t.expr.au.aw,u8,.int .i64 (t.on:Int),str t.aV,.int .i64 (t.next:Int)].toArray 166:=cX
 have WM:=akb (m:=m) Fc hk
 have akh:=WM.types
 have aki:=WM.code
 refine W ?_
 refine zc rfl (λh2=>?_) (λh2=>?_)
 have az:gg<t.loads:=(by simp at h2;omega)
 have akj:=aka Fc az je
 obtain⟨mB,pK,Eg,WN⟩:=akj
 have bZ:=cU O3
 obtain⟨_,_,_,e9,_,aP⟩:=bZ
 cases e9
 have fx:=eW aP mB
 obtain⟨b9,ux,pa9,pc9,e9,jr,du⟩:=fx
 cases e9
 rw[pK] at jr du
 have pO:=LX _ _ (lR _) Eg
 refine W ?_
 refine aA (tT (nth (mF t) gg).size _ (lR _) Eg om om _ _ cu du) ?_
 rintro _ eD ⟨rfl,dd⟩
 have Bo:=dd.size
 refine cN dd av hR rv λav hR rv=>?_
 refine aA (r7 (nth (mF t) gg).text (o4 (nJ m t.regs) (mF t) gg) om E L3 b true eD av) ?_
 rintro Wf fA ⟨HQ,L4,av,bC⟩
 subst HQ
 have hR:=hR.go bC;have rv:=rv.go bC.fr
 refine W ?_
 refine aA (ir ((o4 (nJ m t.regs) (mF t) gg).types.length+1) (o4 (nJ m t.regs) (mF t) gg).types.length om om fA) ?_
 rintro _ jB ⟨rfl,gv⟩
 have Hp:=gv.size
 refine cN gv av hR rv λav hR rv=>?_
 have cR:=av.db
 refine zm<|aA (ir (gg+1) gg om om jB) ?_
 rintro _ iG ⟨rfl,dA⟩
 have akm:=dA.size
 refine cN dA av hR rv λav hR rv=>?_
 have cR:=av.db
 refine pM bh bf rfl rfl rfl rfl rfl λpZ jI akn JH=>cN jI av hR rv λav hR rv=>?_
 refine aA (kG sB [aT (o4 (nJ m t.regs) (mF t) gg).types.length,[48],aT gg] (mh de sm (by intro z hz;simp at hz;rcases hz with rfl|rfl|rfl;(·exact lP om);(·decide);(·exact lP om))) ((o4 (nJ m t.regs) (mF t) gg).cY (nth (mF t) gg).text) (show(o4 (nJ m t.regs) (mF t) gg).code.length<100000 from om) E L4 b _ pZ av (aJ.dK [aT (o4 (nJ m t.regs) (mF t) gg).types.length,[48],aT gg] akn (λhx=>by have:=cR _ hx;omega))) ?_
 rintro v68 lk ⟨L5,av,bC⟩
 have hR:=hR.go bC;have rv:=rv.go bC.fr
 refine W ?_
 exact⟨gg+1,⟨rfl,rfl,rfl,rfl⟩,⟨L5,av,hR,rv,om⟩,om⟩
 have AL:gg=t.loads:=om
 subst AL
 have OZ:∃z,z=o4 (nJ m t.regs) (mF t) t.loads:=⟨_,rfl⟩
 obtain⟨m0,tt⟩:=OZ
 rw[<-tt] at av akh aki
 refine W ?_
 refine zc rfl (λh3=>?_) (λh3=>?_)
 have iy:t.self.length=2:=om
 have Du:=Fc.self
 have Du:∃a b,t.self=[a,b]∧a.length<=272∧b.length<=11200∧t.regs.length=3∧∀r,r∈t.regs->r.length<=11200:=(by rcases Du with h9|h9;(·rw[h9] at iy;cases iy);(·exact h9))
 obtain⟨sa,sb,O4,aqC,aqD,h3,nZ⟩:=Du
 have vU:∃z,z=dR [99] t.regs:=⟨_,rfl⟩
 obtain⟨CO,yY⟩:=vU
 have vU:∃z,z=dR [116] [CO,sb]:=⟨_,rfl⟩
 obtain⟨P0,sd⟩:=vU
 have aqE:CO.length<=33610:=(by rw[yY];exact T0 h3 nZ)
 have aqF:P0.length<=45000:=(by rw[sd,lE,AO];simp only[lC,List.length_nil];omega)
 have vU:∃z,z=m0.types.length:=⟨_,rfl⟩
 obtain⟨r,Hv⟩:=vU
 have vU:∃z,z=m0.code.length:=⟨_,rfl⟩
 obtain⟨c,Oi⟩:=vU
 have t0:m0.types.length=r:=Hv.symm
 have c0:m0.code.length=c:=Oi.symm
 have Dv:qu m t=(((((m0.cY CO).cA sy [aT r,t.aM]).cY P0).cA lx [aT (r+1),aT r,[48]]).cY sa).cA sA [aT (r+2),aT (r+1),sa,sb]:=(by unfold qu Jn;rw[<-tt,O4];exact akc m0 t.aM t.regs sa sb yY sd Hv)
 have GA:=Fc.aM
 have wR:t.self.length=2:=iy
 have nQ:bX t.self 0=sa:=(by rw[O4];rfl)
 have cV:bX t.self 1=sb:=(by rw[O4];rfl)
 refine W ?_
 refine aA ((show bz Tryz.prog 135 [str [99],.slice a1 t.regs.length c1] _ (λr w'=>r=str CO∧aj [] _ w') from by rw[yY];exact ye [99] t.regs (by rw[<-yY];omega) _ _ _ gM.regs)) ?_
 rintro _ eD ⟨rfl,dd⟩
 have Bo:=dd.size
 refine cN dd av hR cX λav hR cX=>?_
 refine W ?_
 refine aA (r7 CO m0 om E L3 b true eD av) ?_
 rintro v10 fA ⟨fo,L1,av,bC⟩
 rw[t0] at fo
 subst fo
 have hR:=hR.go bC
 have ik:∃x,x=m0.cY CO:=⟨_,rfl⟩
 obtain⟨m1,ll⟩:=ik
 rw[<-ll] at av
 have t1:m1.types.length=r+1:=(by rw[ll,yk];omega)
 have c1:m1.code.length=c+0:=(by rw[ll,C3];omega)
 have cR:=av.db
 have jV:=hR.tk hT dX
 obtain⟨u1,u3,u4,u5,u6,u8,cX,gM⟩:=jV
 have bZ:=dJ gM.self
 obtain⟨a3,n3,c3,e3,pg⟩:=bZ
 subst e3
 subst pg
 have cX:aJ fA bt [str t.aM,u1,.int .i64 (t.loads:Int),.slice a3 t.self.length c3,u4,u5,u6,str t.expr.au.aw,u8,.int .i64 (t.on:Int),str t.aV,.int .i64 (t.next:Int)].toArray 166:=cX
 have ey:=nN gM.self (i:=0) om
 obtain⟨b9,ux,e9,jr⟩:=ey
 cases e9
 have ey:=nN gM.self (i:=1) om
 obtain⟨O5,O6,fo,xF⟩:=ey
 cases fo
 rw[nQ] at jr
 rw[cV] at xF
 refine W ?_
 apply uZ dj 8 (rA 83 8) (rA 83 8) [[],[],[1],[],[3],[4],[5],[2,6]] [It.v _,It.v _,It.v _,It.v _,It.v _,It.v _,It.v _,It.p (fun(v:Value) (ww:World)=>bc L1 ww v [aT r,t.aM])] de (by exact⟨λv w w' h k=>h.ext k,trivial⟩)
 intro wd aC
 refine VA ?_
 refine vk aC (λx jB gv=>?_) ?_
 refine aA (ir (r+1) r om om jB) ?_
 rintro _ iG ⟨rfl,dA⟩
 have akm:=dA.size
 exact pk dA
 refine VA ?_
 refine vk aC (λx jB gv=>?_) ?_
 have ako:=gv.size
 refine kJ bh bf rfl rfl rfl rfl λiG dA akp CY=>?_
 exact pf dA ((aJ.dK [aT r,t.aM] akp (λhx=>by have:=cR _ hx;omega)))
 exact trivial
 intro x A6 pY
 intro v7 d7
 refine cN pY av hR cX λav hR cX=>?_
 change OW _ _ _ _ _ (bo (bj _ x _) (zZ 83 [_,_,_,_,_,_,_,_])) _
 refine aA (kG sy [aT r,t.aM] (mh de sm (by intro z hz;simp at hz;rcases hz with rfl|rfl;(·exact lP om);(·omega))) m1 om E L1 b _ A6 av d7) ?_
 rintro jC r6 ⟨L2,av,bC⟩
 have hR:=hR.go bC
 have fj:∃x,x=m1.cA sy [aT r,t.aM]:=⟨_,rfl⟩
 obtain⟨m2,ln⟩:=fj
 rw[<-ln] at av
 have t2:m2.types.length=r+1:=(by rw[ln,oe];omega)
 have c2:m2.code.length=c+1:=(by rw[ln,ph];omega)
 have cR:=av.db
 have jV:=hR.tk hT dX
 obtain⟨u1,u3,u4,u5,u6,u8,cX,gM⟩:=jV
 have bZ:=dJ gM.self
 obtain⟨a3,n3,c3,e3,pg⟩:=bZ
 subst e3
 subst pg
 have cX:aJ r6 bt [str t.aM,u1,.int .i64 (t.loads:Int),.slice a3 t.self.length c3,u4,u5,u6,str t.expr.au.aw,u8,.int .i64 (t.on:Int),str t.aV,.int .i64 (t.next:Int)].toArray 166:=cX
 have ey:=nN gM.self (i:=0) om
 obtain⟨b9,ux,e9,jr⟩:=ey
 cases e9
 have ey:=nN gM.self (i:=1) om
 obtain⟨O5,O6,fo,xF⟩:=ey
 cases fo
 rw[nQ] at jr
 rw[cV] at xF
 refine aZ<|zr<|zm<|zm<|zm<|Fp rfl rfl rfl<|zf IC rfl<|zl tK rfl (cX.at rfl)<|zi (i:=1) bh bf rfl rfl om<|zl gD rfl (xF.cells 0 _ rfl)<|kJ bh bf rfl rfl rfl rfl ?_
 intro xA De C7 ajJ
 refine bI De av hR λav hR=>?_
 refine aA ((show bz Tryz.prog 135 [str [116],_] xA (λr w'=>r=str P0∧aj [] xA w') from by rw[sd];exact ye [116] [CO,sb] (by rw[<-sd];omega) _ L2 xA (aJ.dK [CO,sb] C7 (λhx=>by have:=cR _ hx;omega)))) ?_
 rintro _ Kt ⟨rfl,Bl⟩
 have aqG:=Bl.size
 refine cN Bl av hR C7 λav hR C7=>?_
 clear C7
 refine aA (r7 P0 m2 om E L2 b true Kt av) ?_
 rintro v10 Bq ⟨fo,L3,av,bC⟩
 rw[t2] at fo
 subst fo
 have hR:=hR.go bC
 have yO:∃x,x=m2.cY P0:=⟨_,rfl⟩
 obtain⟨m3,lp⟩:=yO
 rw[<-lp] at av
 have t3:m3.types.length=r+2:=(by rw[lp,yk];omega)
 have c3:m3.code.length=c+1:=(by rw[lp,C3];omega)
 have cR:=av.db
 refine W ?_
 refine aA (ir ((r+1)+1) (r+1) om om Bq) ?_
 rintro _ OM ⟨rfl,Br⟩
 have V9:=Br.size
 refine bI Br av hR λav hR=>?_
 have cR:=av.db
 refine zm<|aA (ir (r+1) r om om OM) ?_
 rintro _ w58 ⟨rfl,Ff⟩
 have aqI:=Ff.size
 refine bI Ff av hR λav hR=>?_
 have cR:=av.db
 refine pM bh bf rfl rfl rfl rfl rfl λw59 HR WO aqJ=>bI HR av hR λav hR=>?_
 refine aA (kG lx [aT (r+1),aT r,[48]] (mh de sm (by intro z hz;simp at hz;rcases hz with rfl|rfl|rfl;(·exact lP om);(·exact lP om);(·decide))) m3 om E L3 b _ w59 av (aJ.dK [aT (r+1),aT r,[48]] WO (λhx=>by have:=cR _ hx;omega))) ?_
 rintro jC WQ ⟨L4,av,bC⟩
 have hR:=hR.go bC
 clear WO
 have C8:∃x,x=m3.cA lx [aT (r+1),aT r,[48]]:=⟨_,rfl⟩
 obtain⟨m4,ov⟩:=C8
 rw[<-ov] at av
 have t4:m4.types.length=r+2:=(by rw[ov,oe];omega)
 have c4:m4.code.length=c+2:=(by rw[ov,ph];omega)
 have cR:=av.db
 have jV:=hR.tk hT dX
 obtain⟨u1,u3,u4,u5,u6,u8,cX,gM⟩:=jV
 have bZ:=dJ gM.self
 obtain⟨a3,n3,c3,e3,pg⟩:=bZ
 subst e3
 subst pg
 have cX:aJ WQ bt [str t.aM,u1,.int .i64 (t.loads:Int),.slice a3 t.self.length c3,u4,u5,u6,str t.expr.au.aw,u8,.int .i64 (t.on:Int),str t.aV,.int .i64 (t.next:Int)].toArray 166:=cX
 have ey:=nN gM.self (i:=0) om
 obtain⟨b9,ux,e9,jr⟩:=ey
 cases e9
 have ey:=nN gM.self (i:=1) om
 obtain⟨O5,O6,fo,xF⟩:=ey
 cases fo
 rw[nQ] at jr
 rw[cV] at xF
 refine aZ<|zr<|zm<|zm<|Fp rfl rfl rfl<|zf IC rfl<|zl tK rfl (cX.at rfl)<|zi (i:=0) bh bf rfl rfl om<|zl gD rfl (jr.cells 0 _ rfl)<|aA (r7 sa m4 om E L4 b true WQ av) ?_
 rintro v10 Ws ⟨fo,L5,av,bC⟩
 rw[t4] at fo
 subst fo
 have hR:=hR.go bC
 have Ow:∃x,x=m4.cY sa:=⟨_,rfl⟩
 obtain⟨m5,yP⟩:=Ow
 rw[<-yP] at av
 have t5:m5.types.length=r+3:=(by rw[yP,yk];omega)
 have c5:m5.code.length=c+2:=(by rw[yP,C3];omega)
 have cR:=av.db
 have jV:=hR.tk hT dX
 obtain⟨u1,u3,u4,u5,u6,u8,cX,gM⟩:=jV
 have bZ:=dJ gM.self
 obtain⟨a3,n3,c3,e3,pg⟩:=bZ
 subst e3
 subst pg
 have cX:aJ Ws bt [str t.aM,u1,.int .i64 (t.loads:Int),.slice a3 t.self.length c3,u4,u5,u6,str t.expr.au.aw,u8,.int .i64 (t.on:Int),str t.aV,.int .i64 (t.next:Int)].toArray 166:=cX
 have ey:=nN gM.self (i:=0) om
 obtain⟨b9,ux,e9,jr⟩:=ey
 cases e9
 have ey:=nN gM.self (i:=1) om
 obtain⟨O5,O6,fo,xF⟩:=ey
 cases fo
 rw[nQ] at jr
 rw[cV] at xF
 refine W ?_
 apply uZ dj 18 (rA 118 18) (rA 118 18) [[],[],[1],[],[3],[],[5],[6],[7],[8],[9],[],[11],[12],[13],[14],[15],[2,4,10,16]] [It.v _,It.v _,It.v _,It.v _,It.v _,It.v _,It.v _,It.v _,It.v _,It.v _,It.v _,It.v _,It.v _,It.v _,It.v _,It.v _,It.v _,It.p (fun(v:Value) (ww:World)=>bc L5 ww v [aT (r+2),aT (r+1),sa,sb])] de (by exact⟨λv w w' h k=>h.ext k,trivial⟩)
 intro wd aC
 refine VA ?_
 refine vk aC (λx si po=>?_) ?_
 refine aA (ir (r+2+1) (r+2) om om si) ?_
 rintro _ Dq ⟨rfl,s0⟩
 have akr:=s0.size
 exact pk s0
 refine VA ?_
 refine vk aC (λx si po=>?_) ?_
 refine aA (ir (r+1+1) (r+1) om om si) ?_
 rintro _ Dq ⟨rfl,s0⟩
 have akr:=s0.size
 exact pk s0
 refine vc (λ_ _ _=>WZ pv) ?_
 refine vk aC (λx si po=>?_) ?_
 refine WZ ?_
 exact pv
 refine vc (λ_ _ _=>WZ pv) ?_
 refine vk aC (λx si po=>?_) ?_
 have cX:=cX.ext po
 refine WZ ?_
 exact pv
 refine vk aC (λx si po=>?_) ?_
 refine zi (i:=0) bh bf rfl rfl om ?_
 exact pv
 refine vk aC (λx si po=>?_) ?_
 have jr:=jr.ext po
 refine WZ ?_
 exact pv
 refine vc (λ_ _ _=>WZ pv) ?_
 refine vk aC (λx si po=>?_) ?_
 refine WZ ?_
 exact pv
 refine vc (λ_ _ _=>WZ pv) ?_
 refine vk aC (λx si po=>?_) ?_
 have cX:=cX.ext po
 refine WZ ?_
 exact pv
 refine vk aC (λx si po=>?_) ?_
 refine zi (i:=1) bh bf rfl rfl om ?_
 exact pv
 refine vk aC (λx si po=>?_) ?_
 have xF:=xF.ext po
 refine WZ ?_
 exact pv
 refine vk aC (λx si po=>?_) ?_
 have ako:=po.size
 refine yh bh bf rfl rfl rfl rfl rfl rfl ?_
 intro Dq s0 aks aqK
 exact pf s0 ((aJ.dK [aT (r+2),aT (r+1),sa,sb] aks (λhx=>by have:=cR _ hx;omega)))
 exact trivial
 intro x akt aku
 intro jC d17
 refine bI aku av hR λav hR=>?_
 change OW _ _ _ _ _ (bo (bj _ x _) (zZ 118 [_,_,_,_,_,_,_,_,_,_,_,_,_,_,_,_,_,_])) _
 refine aA (kG sA [aT (r+2),aT (r+1),sa,sb] (mh de sm (by intro z hz;simp at hz;rcases hz with rfl|rfl|rfl|rfl;(·exact lP om);(·exact lP om);(·omega);(·omega))) m5 om E L5 b _ akt av d17) ?_
 rintro jC aqL ⟨L6,av,bC⟩
 have hR:=hR.go bC
 have Ox:∃x,x=m5.cA sA [aT (r+2),aT (r+1),sa,sb]:=⟨_,rfl⟩
 obtain⟨m6,yQ⟩:=Ox
 rw[<-yQ] at av
 have t6:m6.types.length=r+3:=(by rw[yQ,oe];omega)
 have c6:m6.code.length=c+3:=(by rw[yQ,ph];omega)
 have cR:=av.db
 refine W ?_
 subst yQ yP ov lp ln ll
 rw[<-Dv] at av
 exact⟨_,rfl,_,av,hR⟩
 have Du:=Fc.self
 have iy:t.self.length≠2:=(λh9=>h3 (by rw[h9];rfl))
 have Du:t.self=[]:=(by rcases Du with h9|⟨a,b,h9,_⟩;(·exact h9);(·rw[h9] at iy;exact absurd rfl iy))
 have Dv:qu m t=m0:=(by unfold qu Jn;rw[<-tt,Du])
 refine WZ ?_
 rw[<-Dv] at av
 exact⟨_,rfl,_,av,hR⟩
theorem akv (x0:ByteArray) (x7:ByteArray) (a8:Option Addr) (n8 c8:Nat) (x9:Int) (EY:ByteArray) (w:World):(Instr.build 166 #[(0,.string x0),(7,.agg #[.string x7,.slice a8 n8 c8]),(8,.int .i64 x9),(9,.string EY)]).run Tryz.prog w= .ok (.agg #[.string x0,.slice none 0 0,.int .i64 0,.slice none 0 0,.slice none 0 0,.slice none 0 0,.slice none 0 0,.string x7,.slice a8 n8 c8,.int .i64 x9,.string EY,.int .i64 0]) w:=by kernel_rfl
theorem dS.akw {x:Nat} (h:dS (x::E) L w L1 w1):dS E L w L1 w1:=⟨h.fr,let⟨G,k,hG⟩:=h.out;⟨G,k,λz hz sf=>hG z hz (mK _ sf)⟩⟩
def uy:Mk:=⟨[],[],0,false,[],[]⟩
theorem akx (T:Ty) {ON CO P0:ai} (hO:ON=dz (bu T)) (hC:CO=dR [99] [sT,bu T]) (hP:P0=dR [116] [CO,sT]):
  sO T=(((({uy with types:=[sT,CO,P0,ON]}).cA lx [[48]]).cA sy [[49],Ad]).cA lx [[50],[49],[48]]).cA sA [[51],[50],ON,sT]:=by
 subst hP;subst hC;subst hO;rfl
theorem aky (e:Ex) (T:Ty) (HS:T.n<=16) 
  (E L:List Nat) (b:Nat) (v:Value) (w:World) (h:dG t8 E L w b true uy) (hv:bB L w v e.au):
  bz Tryz.prog 153 [.pointer (some ⟨b,0,none⟩),v,str T.text] w λr w'=>∃v1 v3 v4 v5 v6 v8 L',r= .agg (pI (GI e T) v1 v3 v4 v5 v6 v8).toArray∧nX L' w' (GI e T) v1 v3 v4 v5 v6 v8∧dG t8 E L' w' b true (sO T)∧dS E L w L' w':=by
 obtain⟨ar,nr,cr,rfl,p4,aP⟩:=cU hv
 subst p4
 have lq:=h.db
 obtain⟨ON,KD⟩:∃z,z=dz (bu T):=⟨_,rfl⟩
 obtain⟨CO,yY⟩:∃z,z=dR [99] [sT,bu T]:=⟨_,rfl⟩
 obtain⟨P0,sd⟩:∃z,z=dR [116] [CO,sT]:=⟨_,rfl⟩
 rw[akx T KD yY sd]
 have aI:=pN HS
 have hOl:ON.length<=272:=by rw[KD];exact tU HS
 have hCl:CO.length<=300:=by rw[yY,lE,AO];simp only[lC,List.length_nil];omega
 have Kh:P0.length<=400:=by rw[sd,lE,AO];simp only[lC,List.length_nil];omega
 obtain⟨m0,tt⟩:∃z:Mk,z={uy with types:=[sT,CO,P0,ON]}:=⟨_,rfl⟩
 rw[<-tt]
 obtain⟨r,hr4⟩:∃r,r=4:=⟨_,rfl⟩
 obtain⟨c,et⟩:∃c,c=0:=⟨_,rfl⟩
 have t0:m0.types.length=r:=by rw[tt,hr4];rfl
 have c0:m0.code.length=c:=by rw[tt,et];rfl
 have av:=h
 have hR:=dS.refl E L w
 refine kW [.cell 6 166] 45 Tryz.func153 rfl aba rfl rfl rfl ?_
 refine zr<|eH rfl λw1 aI aG dk=>bI aI av hR λav hR=>?_
 refine dy mr rfl rfl rfl λw2 az WR kI=>?_
 have av:=av.sX az sm (lR _) WR.lt
 have p3:=hR.more az sm (lR _) (λz hz=>by have:=lq z (h.sub hz);omega)
 have hR:=dS.refl (w1.heap.size::E) (w1.heap.size::L) w2
 have Kw:∀z,z∈w1.heap.size::L->z=w1.heap.size∨z<w.heap.size:=(λz hz=>(mC.1 hz).imp id (lq z))
 have aG:dM (w1.heap.size::L) w2 w.heap.size [str e.au.aw,.slice ar e.au.ak.length cr].toArray 74:=⟨aG.ext az,λhx=>by have:=Kw _ hx;omega⟩
 have WT:w1.heap.size∈w1.heap.size::E:=List.mem_cons_self ..
 refine aZ<|zr<|zm<|aA (vK T om w2) ?_
 rintro _ w3 ⟨rfl,aH⟩
 have fm:=aH.size
 refine cN aH av hR aG λav hR aG=>?_
 refine aA ((show bz Tryz.prog 185 [str (bu T)] w3 (λr w'=>r=str ON∧aj [] w3 w') from by rw[KD];exact Hn (bu T) om w3)) ?_
 rintro _ w4 ⟨rfl,aO⟩
 have fE:=aO.size
 refine cN aO av hR aG λav hR aG=>?_
 refine W ?_
 refine fQ bh bf λw5 aN lH Hg=>?_
 have yW:=av.open
 obtain⟨xb,xt,xc,xy,gb,gt,gc,gy,bg,hS⟩:=yW
 have yl:=hS.apart
 obtain⟨yH,mV,vL,mf,vM,ui⟩:=yl
 have bg:aJ w5 b [xb,xt,.int .i64 (uy.count:Int),.bool uy.wide,xc,xy].toArray 164:=bg.ext aN
 have yX:=hS.IY lH.kK aN.any (λx hx=>.inr (by cases hx;exact lR _))
 obtain⟨L1,hS,bC⟩:=yX
 have hR:=hR.add bC aN sm
 have aG:=aG.go bC
 refine W ?_
 refine gd (o:=4) mu rfl rfl rfl bg rfl λw6 bN bg df=>?_
 have hS:=hS.aF bN sm
 have Dt:=hS.mem.2 (.inr (.inl rfl))
 have hR:=hR.aD bN Dt mV;have aG:=aG.aD bN (by simpa using Dt)
 have av:dG t8 (w1.heap.size::E) L1 w6 b true uy:=⟨_,_,_,_,_,_,_,_,bg,hS⟩
 refine aZ<|zr<|zm<|aA (vK T om w6) ?_
 rintro _ w7 ⟨rfl,bW⟩
 have lf:=bW.size
 refine cN bW av hR aG λav hR aG=>?_
 refine kJ bh bf rfl rfl rfl rfl λw8 cE jW ld=>cN cE av hR aG λav hR aG=>?_
 refine aA ((show bz Tryz.prog 135 [str [99],_] w8 (λr w'=>r=str CO∧aj [] w8 w') from by rw[yY];exact ye [99] [sT,bu T] (by rw[<-yY];omega) _ [] w8 (aJ.dK [sT,bu T] jW sm))) ?_
 rintro _ w9 ⟨rfl,aB⟩
 have o7:=aB.size
 refine ie aB av hR aG jW λav hR aG jW=>?_
 clear jW
 refine W ?_
 refine kJ bh bf rfl rfl rfl rfl λcu cB Bv Cg=>cN cB av hR aG λav hR aG=>?_
 refine aA ((show bz Tryz.prog 135 [str [116],_] cu (λr w'=>r=str P0∧aj [] cu w') from by rw[sd];exact ye [116] [CO,sT] (by rw[<-sd];omega) _ [] cu (aJ.dK [CO,sT] Bv sm))) ?_
 rintro _ eD ⟨rfl,dd⟩
 have Bo:=dd.size
 refine ie dd av hR aG Bv λav hR aG Bv=>?_
 clear Bv
 refine zm<|yh bh bf rfl rfl rfl rfl rfl rfl λfA di C5 ail=>?_
 have yW:=av.open
 obtain⟨xb,xt,xc,xy,gb,gt,gc,gy,bg,hS⟩:=yW
 have yl:=hS.apart
 obtain⟨yH,mV,vL,mf,vM,ui⟩:=yl
 have bg:aJ fA b [xb,xt,.int .i64 (uy.count:Int),.bool uy.wide,xc,xy].toArray 164:=bg.ext di
 have yX:=hS.Mu (aJ.uP [sT,CO,P0,ON] C5) di.any (λx hx=>.inr (by cases hx;exact lR _))
 obtain⟨L2,hS,bC⟩:=yX
 have hR:=hR.add bC di sm
 have aG:=aG.go bC
 refine W ?_
 refine gd (o:=5) mu rfl rfl rfl bg rfl λjB gv bg df=>?_
 have hS:=hS.aF gv sm
 have Dt:=hS.mem.2 (.inr (.inl rfl))
 have hR:=hR.aD gv Dt mV;have aG:=aG.aD gv (by simpa using Dt)
 have av:dG t8 (w1.heap.size::E) L2 jB b true {uy with types:=[sT,CO,P0,ON]}:=⟨_,_,_,_,_,_,_,_,bg,hS⟩
 rw[<-tt] at av
 have cR:=av.db
 refine aZ<|zr<|zm<|fc bh bf rfl rfl λiG dA Bh CY=>cN dA av hR aG λav hR aG=>?_
 refine aA (kG lx [[48]] (mh de sm (by intro z hz;simp at hz;subst hz;decide)) m0 om (w1.heap.size::E) L2 b _ iG av (aJ.dK [[48]] Bh (λhx=>by have:=cR _ hx;omega))) ?_
 rintro jC pZ ⟨L1,av,bC⟩
 have hR:=hR.go bC
 clear Bh
 have ik:∃x,x=m0.cA lx [[48]]:=⟨_,rfl⟩
 obtain⟨m1,ll⟩:=ik
 rw[<-ll] at av
 have t1:m1.types.length=r+0:=(by rw[ll,oe];omega)
 have c1:m1.code.length=c+1:=(by rw[ll,ph];omega)
 have cR:=av.db
 have aG:=aG.go bC.fr
 refine aZ<|zr<|zm<|kJ bh bf rfl rfl rfl rfl λlk mJ JD GV=>cN mJ av hR aG λav hR aG=>?_
 refine aA (kG sy [[49],Ad] (mh de sm (by intro z hz;simp at hz;rcases hz with rfl|rfl;(·decide);(·decide))) m1 om (w1.heap.size::E) L1 b _ lk av (aJ.dK [[49],Ad] JD (λhx=>by have:=cR _ hx;omega))) ?_
 rintro jC CZ ⟨L2,av,bC⟩
 have hR:=hR.go bC
 clear JD
 have fj:∃x,x=m1.cA sy [[49],Ad]:=⟨_,rfl⟩
 obtain⟨m2,ln⟩:=fj
 rw[<-ln] at av
 have t2:m2.types.length=r+0:=(by rw[ln,oe];omega)
 have c2:m2.code.length=c+2:=(by rw[ln,ph];omega)
 have cR:=av.db
 have aG:=aG.go bC.fr
 refine aZ<|zr<|zm<|pM bh bf rfl rfl rfl rfl rfl λxr C9 vN NZ=>cN C9 av hR aG λav hR aG=>?_
 refine aA (kG lx [[50],[49],[48]] (mh de sm (by intro z hz;simp at hz;rcases hz with rfl|rfl|rfl;(·decide);(·decide);(·decide))) m2 om (w1.heap.size::E) L2 b _ xr av (aJ.dK [[50],[49],[48]] vN (λhx=>by have:=cR _ hx;omega))) ?_
 rintro jC Da ⟨L3,av,bC⟩
 have hR:=hR.go bC
 clear vN
 have yO:∃x,x=m2.cA lx [[50],[49],[48]]:=⟨_,rfl⟩
 obtain⟨m3,lp⟩:=yO
 rw[<-lp] at av
 have t3:m3.types.length=r+0:=(by rw[lp,oe];omega)
 have c3:m3.code.length=c+3:=(by rw[lp,ph];omega)
 have cR:=av.db
 have aG:=aG.go bC.fr
 refine W ?_
 refine yh bh bf rfl rfl rfl rfl rfl rfl λvO xB O7 Vk=>cN xB av hR aG λav hR aG=>?_
 refine aA (kG sA [[51],[50],ON,sT] (mh de sm (by intro z hz;simp at hz;rcases hz with rfl|rfl|rfl|rfl;(·decide);(·decide);(·omega);(·decide))) m3 om (w1.heap.size::E) L3 b _ vO av (aJ.dK [[51],[50],ON,sT] O7 (λhx=>by have:=cR _ hx;omega))) ?_
 rintro jC rp ⟨L4,av,bC⟩
 have hR:=hR.go bC
 clear O7
 have C8:∃x,x=m3.cA sA [[51],[50],ON,sT]:=⟨_,rfl⟩
 obtain⟨m4,ov⟩:=C8
 rw[<-ov] at av
 have t4:m4.types.length=r+0:=(by rw[ov,oe];omega)
 have c4:m4.code.length=c+4:=(by rw[ov,ph];omega)
 have cR:=av.db
 have aG:=aG.go bC.fr
 have jl:=hR.gX WR WT
 refine W ?_
 refine js (akv _ _ _ _ _ _ _ _) rfl rfl<|cJ (vs:=[str B5,.slice none 0 0,.int .i64 0,.slice none 0 0,.slice none 0 0,.slice none 0 0,.slice none 0 0,str e.au.aw,.slice ar e.au.ak.length cr,.int .i64 3,str ON,.int .i64 0]) mr rfl rfl rfl jl rfl λKk HA jl df=>?_
 have hL6:=av.sub WT
 have av:=av.aF HA sm
 have vT:=av.drop
 obtain⟨L6,OU,av⟩:=vT
 have h6n:w1.heap.size∉E:=(λhx=>by have:=lq _ (h.sub hx);omega)
 have WU:=((p3.go hR.akw).aD HA hL6 h6n).sub (L2:=L6) (λz hz=>by rw[OU];simp[hz])
 have akC:=eM.go aP WU.fr
 refine W ?_
 subst ov lp ln ll
 exact⟨[_],ga RV mr rfl jl rfl,_,_,_,_,_,_,L6,by unfold GI;rw[<-KD];rfl,⟨.nil _ _ _,.nil _ _ _,.nil _ _ _,.nil _ _ _,.nil _ _ _,akC⟩,av,WU⟩
theorem dH.akD {T:TypeId} {n c:Nat} {g:Option Nat} {row:List C} (h:dH L w T sz (.slice (some ⟨b,0,none⟩) n c) g rows) (hi:rows[i]?=some row):∃vs,vs.length=sz∧fS w b (0+i*sz) vs∧cS L w vs row:=by
 obtain⟨xs,dv,gB⟩:=h.own
 have nZ:row.length=sz:=h.row row (List.mem_of_getElem? hi)
 have mj:i<rows.length:=(List.getElem?_eq_some_iff.1 hi).1
 rcases dv.2 with⟨h0,_⟩|⟨b',cap,cur,e,hv,hb,ml,lU,bZ,ht⟩
 ·cases h0
 ·cases hv
  have hlen:xs.length=rows.length*sz:=dv.1
  have hmul:(i+1)*sz<=rows.length*sz:=Nat.mul_le_mul_right _ om
  have uF:(i+1)*sz=i*sz+sz:=by rw[Nat.add_mul,Nat.one_mul]
  have hl:((xs.drop (i*sz)).take sz).length=sz:=by rw[List.length_take,List.length_drop];omega
  have jd:∀j v,((xs.drop (i*sz)).take sz)[j]?=some v->j<sz∧xs[i*sz+j]?=some v:=λj v hv=>by
   rw[List.getElem?_take] at hv
   split at hv
   ·rename_i hj
    rw[List.getElem?_drop] at hv
    exact⟨hj,hv⟩
   ·cases hv
  refine⟨(xs.drop (i*sz)).take sz,hl,λj v hv=>?_,cS.of (by rw[hl,nZ]) λj v c hv hc=>?_⟩
  ·obtain⟨_,hx⟩:=jd j v hv
   rw[Nat.zero_add,hb.cell]
   rw[<-ht,List.getElem?_take] at hx
   split at hx
   ·simpa using hx
   ·cases hx
  ·obtain⟨_,hx⟩:=jd j v hv
   exact gB.get hx (Fm h.row hi hc)
theorem dG.start {gb gt:Nat} (hb:aJ w b [.slice (some ⟨gb,0,none⟩) 0 0,.slice (some ⟨gt,0,none⟩) 0 0,.int .i64 0,.bool false,.slice none 0 0,.slice none 0 0].toArray 164) (h1:aJ w gb #[] 58) (h2:aJ w gt #[] 166) (h3:gb<gt) (h4:gt<b):dG t8 [] [b,gb,gt] w b true uy:=by
 refine⟨_,_,_,_,some gb,some gt,none,none,hb,⟨MR h1,MR h2,.inl ⟨rfl,⟨by simp[uy],.inl ⟨rfl,rfl,rfl⟩⟩⟩,⟨by simp[uy],.inl ⟨rfl,rfl,rfl⟩⟩,rfl,?_,λx hx=>?_⟩⟩
 ·simp;omega
 ·have:=hb.lt
  simp at hx;rcases hx with rfl|rfl|rfl<;>omega
theorem akE {ts:List Tk} (hi:i<ts.length):(ts.map Tk.enc)[i]?=some (gK ts i).enc:=by
 rw[List.getElem?_map,gE hi];simp[gK,gE hi]
theorem akF (ba:e.ok) (ht:bw e []=some T) (hn:e.n<=120):(rO e T).blocks=[]∧(rO e T).code.length<10000:=by
 obtain⟨new,h⟩:=T5 ba ht hn
 have h4:=h.ext.code
 have h6:(sO T).code.length=4:=rfl
 exact⟨h.ext.blocks,om⟩
theorem akG (h:rP m i) (hi:i<m.bF.length):(l4 (gK m.bF i).expr.n ⟨qu m (gK m.bF i),(gK m.bF i).sc,(gK m.bF i).on,(gK m.bF i).aV⟩ (gK m.bF i).expr).blocks.length<100000∧(qu m (gK m.bF i)).code.length<=1100∧(qu m (gK m.bF i)).bF.length<80000∧(gK m.bF i).expr.n<=120∧i<999∧od (gK m.bF i)∧nI (qu m (gK m.bF i)) (gK m.bF i).sc (gK m.bF i).on (gK m.bF i).aV (gK m.bF i).expr∧(gK m.bF i).regs.length<10000:=by
 obtain⟨hT,hc,hl⟩:=h.task hi
 have hb:=M9 (m:=m) hT
 have hA:=T2 hT hc
 obtain⟨new,hF⟩:=Jp _ hA (lR _)
 have e4:=hF.ext.blocks
 have h1:=hb.code
 have h2:=hT.room
 have h3:=hT.bud
 have h5:=h.bnum
 have h6:(if(gK m.bF i).self=[] then 0 else 3)<=3:=by split<;>omega
 refine⟨by rw[e4,hb.blocks];omega,om,by rw[hb.bF];omega,om,om,hT,hA,om⟩
theorem akH (e:Ex) (T:Ty) (ba:e.ok) (ht:bw e []=some T) (hn:e.n<=120) (v:Value) (w:World) (hv:bB [] w v e.au):
  bz Tryz.prog 129 [v,str T.text] w λr w'=>(∃vb g,r= .tuple #[vb,.bool (!(ofM e T).wide)]∧Gr w.heap.size [] w' 58 3 vb g ((ofM e T).blocks.map Bk.enc))∧aj [] w w':=by
 obtain⟨ar,nr,cr,rfl,p4,aP⟩:=cU hv
 subst p4
 have HS:=lv (Γ:=[]) (λs T h=>by simp[look] at h) ht
 have ij:bB [] w _ e.au:=hv
 have hK:=aj.refl [] w
 obtain⟨WV,aqN⟩:=akF ba ht hn
 refine bS [.tmp 4,.tmp 5] 67 Tryz.func129 rfl aaS rfl rfl ?_
 refine zr<|eH rfl λw1 aI aU dk=>?_
 have hK:=hK.ext aI
 refine W ?_
 refine fQ iL fV λw2 az qp dC=>bI az hK aU λhK aU=>?_
 refine fQ zW mr λw3 aH iF gJ=>cN aH hK aU qp λhK aU qp=>?_
 refine js (acY _ _ _ _ _ _ _) rfl rfl<|eH rfl λw4 aO lH gQ=>ie aO hK aU qp iF λhK aU qp iF=>?_
 refine W ?_
 refine aA (aky e T HS [] [w3.heap.size,w1.heap.size,w2.heap.size] w3.heap.size _ w4 (dG.start lH qp iF om om) ((ij.fresh (L':=[w3.heap.size,w1.heap.size,w2.heap.size]) (λx hx=>by right;simp at hx;rcases hx with rfl|rfl|rfl<;>omega)).ext hK)) ?_
 rintro jC w5 ⟨v1,v3,v4,v5,v6,v8,L1,rY,gM,av,bC⟩
 subst rY
 have hF:=bC.fr
 have xz:=hK
 have ur:=av.db
 clear qp iF lH
 refine dy mr rfl rfl rfl λw6 bN cM oX=>?_
 have da:=bN
 refine cJ mr rfl rfl gM.one cM rfl λw7 bW cM df=>?_
 have da:=da.since bW (λx hx=>.inr (by simp at hx;omega))
 have av:=av.sX da sm (lR _) cM.lt
 have xC:=((dS.refl [] L1 w5).more da sm (lR _) sm).fr
 have fJ:gI (w5.heap.size::L1) w7 166 w5.heap.size (GI e T):=⟨_,_,_,_,_,_,cM,gM.go xC⟩
 have hF:=hF.go xC
 refine aZ<|zr<|zm<|aA (Wz (GI e T) (sO T) (T4 ba ht hn) hn (show(sO T).code.length<=1100 from by show 4<=1100;omega) (show(0:Nat)<80000 from om) [w5.heap.size] (w5.heap.size::L1) w3.heap.size w5.heap.size w7 av fJ sm) ?_
 rintro Kd w8 ⟨L2,av,_,ka⟩
 have hF:=hF.go ka
 have av:dG t8 [w5.heap.size] L2 w8 w3.heap.size true (rO e T):=av
 have Di:=av.db
 refine aZ<|zr<|zm<|fQ bh bf λw9 aB vC df=>bI aB av hF λav hF=>?_
 refine aA (Of B5 [] sm (rO e T) (by rw[WV];simp) [w5.heap.size] L2 w3.heap.size _ w9 av (vC.kK.rep (λx hx mm=>by have:=Di x mm;simp at hx;omega))) ?_
 rintro Kr cu ⟨L3,av,bC⟩
 have hF:=hF.go bC.fr
 clear vC
 refine aZ<|zr<|zm<|fc bh bf rfl rfl λeD dd yJ aiv=>?_
 have yW:=av.open
 obtain⟨xb,xt,xc,xy,gb,gt,gc,gy,bg,hS⟩:=yW
 have yl:=hS.apart
 obtain⟨yH,mV,vL,mf,vM,ui⟩:=yl
 have bg:=bg.ext dd
 have yX:=hS.IY (aJ.uP [[40,104,97,108,116,32,49,41]] yJ) dd.any (λx hx=>.inr (by cases hx;exact lR _))
 obtain⟨L4,hS,bC⟩:=yX
 have hF:=hF.go bC
 refine W ?_
 refine gd (o:=4) mu rfl rfl rfl bg rfl λfA di bg df=>?_
 have hS:=hS.aF di sm
 have hF:=hF.aD di (by simpa using hS.mem.2 (.inr (.inl rfl)))
 have av:dG t8 [w5.heap.size] L4 fA w3.heap.size true {(Cr (rO e T) B5 []) with code:=[[40,104,97,108,116,32,49,41]]}:=⟨_,_,_,_,_,_,_,_,bg,hS⟩
 refine W ?_
 refine aA (vK T om fA) ?_
 rintro _ jB ⟨rfl,gv⟩
 have Hp:=gv.size
 refine bI gv av hF λav hF=>?_
 have akI:=av.db
 refine kJ bh bf rfl rfl rfl rfl λiG dA Bh CY=>bI dA av hF λav hF=>?_
 refine aA (Of Ad [sT,bu T] sm {(Cr (rO e T) B5 []) with code:=[[40,104,97,108,116,32,49,41]]} (show((rO e T).blocks++[_]).length<100000 from by rw[WV];simp) [w5.heap.size] L4 w3.heap.size _ iG av (aJ.dK [sT,bu T] Bh (λhx=>by have:=akI _ hx;omega))) ?_
 rintro v31 pZ ⟨L5,av,bC⟩
 have hF:=hF.go bC.fr
 have av:dG t8 [w5.heap.size] L5 pZ w3.heap.size false (Cs e T):=av
 clear Bh
 refine W ?_
 refine eA (λi:Nat=>[(6,.pointer (some ⟨w3.heap.size,0,none⟩)),(8,.int .i64 (i:Int))]) (λi ww=>∃m9 L9,dG t8 [w5.heap.size] L9 ww w3.heap.size false m9∧rP m9 i∧ofM e T=yo (1000-i) m9 i∧Fr [w3.heap.size,w1.heap.size,w2.heap.size] w4 L9 ww∧i<=1000) (λi=>1000-i) (0) (⟨rfl,rfl⟩) (⟨Cs e T,L5,av,Nb ba ht hn,rfl,hF,om⟩) λgg lk Bi hI=>?_
 obtain⟨m9,L9,av,WW,HI,hF,hi⟩:=hI
 have yW:=av.open
 obtain⟨xb,xt,xc,xy,gb,gt,gc,gy,bg,hS⟩:=yW
 have fF:=hS.ta.len
 obtain⟨at9,ct9,et9⟩:=fF
 subst et9
 have bg:aJ lk w3.heap.size [xb,.slice at9 (m9.bF.map Tk.enc).length ct9,.int .i64 (m9.count:Int),.bool m9.wide,xc,xy].toArray 164:=bg
 have tE:(m9.bF.map Tk.enc).length=m9.bF.length:=List.length_map ..
 refine W ?_
 refine zc rfl (λh1=>?_) (λh1=>?_)
 have lN:gg<m9.bF.length:=om
 have qt:=akG WW lN
 obtain⟨cV,dm,fm,fE,l3,WX,ES,oo⟩:=qt
 have EP:=hS.ta.form om
 obtain⟨bq,cq,eq9,eg9⟩:=EP
 cases eq9
 have Eb:=hS.ta.akD (akE lN)
 obtain⟨vs9,akM,akN,akO⟩:=Eb
 have O8:=ad5 akO
 obtain⟨y1,y3,y4,y5,y6,y8,evs,gM⟩:=O8
 subst evs
 have pO:∃z,z=gK m9.bF gg:=⟨_,rfl⟩
 obtain⟨tz,O9⟩:=pO
 rw[<-O9] at cV dm fm fE WX ES oo gM akN akM
 have lO:=av
 have HD:=hF
 have NV:=av.db
 have hw9:=aj.refl [] lk
 refine W ?_
 refine dy mr rfl rfl rfl λCZ yI cW aqR=>?_
 have da:=yI
 refine cJ mr rfl rfl gM.one cW rfl λxr C9 cW df=>?_
 have da:=da.since C9 (λx hx=>.inr (by simp at hx;omega))
 have av:=lO.sX da sm (lR _) cW.lt
 have xC:=((dS.refl [] L9 lk).more da sm (lR _) sm).fr
 have fJ:gI (lk.heap.size::L9) xr 166 lk.heap.size tz:=⟨_,_,_,_,_,_,cW,gM.go xC⟩
 have hF:=HD.go xC
 refine aZ<|zr<|zm<|aA (akd tz m9 WX false [lk.heap.size,w5.heap.size] (lk.heap.size::L9) w3.heap.size lk.heap.size xr av fJ sm) ?_
 rintro v49 Da ⟨L6,av,bC⟩
 have fJ:=bC.tk fJ sm
 have hF:=hF.go bC.fr
 refine aZ<|zr<|zm<|aA (Wz tz (qu m9 tz) ES fE dm fm [lk.heap.size,w5.heap.size] L6 w3.heap.size lk.heap.size Da av fJ sm) ?_
 rintro v51 vO ⟨L7,av,⟨t',fJ,eu,hr9⟩,ka⟩
 have hF:=hF.go ka
 have jV:=fJ
 obtain⟨u1,u3,u4,u5,u6,u8,cX,Dj⟩:=jV
 have Dw:=Dj.regs
 have bZ:=dJ Dj.regs
 obtain⟨a1,n1,c1,e1,fx⟩:=bZ
 subst e1
 have Dw:=Dj.regs
 rw[hr9] at Dw
 have cX:aJ vO lk.heap.size [str t'.aM,.slice a1 n1 c1,.int .i64 (t'.loads:Int),u3,u4,u5,u6,str t'.expr.au.aw,u8,.int .i64 (t'.on:Int),str t'.aV,.int .i64 (t'.next:Int)].toArray 166:=cX
 rw[eu] at cX
 refine W ?_
 refine aA (Of tz.aM tz.regs oo (l4 tz.expr.n ⟨qu m9 tz,tz.sc,tz.on,tz.aV⟩ tz.expr) cV [lk.heap.size,w5.heap.size] L7 w3.heap.size _ vO av Dw) ?_
 rintro v57 rp ⟨L8,av,bC⟩
 have hF:=hF.go bC.fr
 have vT:=av.drop
 obtain⟨Lx,eLx,av⟩:=vT
 have hF:=hF.go ((Fr.refl L8 rp).to (L2:=Lx) (λz hz=>.inl (by rw[eLx];simp[hz])))
 have av:dG t8 [w5.heap.size] Lx rp w3.heap.size false (Ep m9 tz):=av
 have aR:=WW.step lN
 rw[<-O9] at aR
 have WY:=T8 lN (999-gg)
 rw[<-O9,show 999-gg+1=1000-gg from by omega,show 999-gg=1000-(gg+1) from by omega] at WY
 refine W ?_
 exact⟨gg+1,⟨rfl,rfl⟩,⟨Ep m9 tz,Lx,av,aR,HI.trans WY,hF,om⟩,om⟩
 have lN:¬gg<m9.bF.length:=om
 rw[T7 lN] at HI
 have dk:=xz.size
 have dC:=hF.aF.size
 have Pa:Gr w.heap.size [] lk 58 3 xb gb (m9.blocks.map Bk.enc):=hS.bl.gr (λx hx=>hS.mem.2 (by simp at hx;simp[hx])) (λb hb=>by have h9:=hF.mem b (hS.mem.2 (by simp[hb]));rcases h9 with h9|h9;(·simp at h9;rcases h9 with rfl|rfl|rfl<;>omega);(·omega)) om
 refine WZ ?_
 apply dV dj 11 [58,59,60,61,62,63,64,65,66,4,5] [[],[0],[1],[2],[],[4],[5],[6],[7],[3],[8]] (it [_,_,_,_,_,_,_,_,_,_,_]) de rfl
 intro wd aC
 exact VZ
 intro x Bq Dh
 refine bI Dh hF Pa λhF Pa=>?_
 change OW _ _ _ _ [] (bo (bj _ x _) (zZ 58 [_,_,_,_,_,_,_,_,_]++[(4,_),(5,_)])) _
 refine W ?_
 rw[HI]
 exact⟨_,rfl,⟨xb,gb,rfl,Pa⟩,xz.since hF.aF (λx hx=>.inr (by simp at hx;rcases hx with rfl|rfl|rfl<;>omega))⟩
theorem Pb:∀(k:Nat) {m:Mk} {i:Nat},rP m i->∃j,rP (yo k m i) j
 |0,_,i,h=>⟨i,h⟩
 |k+1,m,i,h=>by
  by_cases hi:i<m.bF.length
  ·rw[T8 hi];exact Pb k (h.step hi)
  ·rw[T7 hi];exact⟨i,h⟩
theorem akQ (ba:e.ok) (ht:bw e []=some T) (hn:e.n<=120):tI (ofM e T).blocks:=by
 obtain⟨j,hj⟩:=Pb 1000 (Nb ba ht hn)
 exact hj.small
def Dx (s:ai) (f:Ex) (T:Ty):Prop:=∃e:Ex,bA s=some e.au∧e.ok∧e.n<=120∧nq e=some f∧l5 f.au.text=true∧bw e []=some T
def Fg (s:ai) (ok:Bool) (bs:List Bk):Prop:=(ok=true->∃f T,Dx s f T∧(ofM f T).wide=false∧jt (ofM f T).blocks=true∧bs=(ofM f T).blocks)∧(ok=false->bs=[]∧∀f T,Dx s f T->¬((ofM f T).wide=false∧jt (ofM f T).blocks=true))
theorem W0 (ba:f.ok) (hx:l5 f.au.text=true):bA f.au.text=some f.au∧f.n<=120:=by
 obtain⟨e2,h1,h2,h3⟩:=wV.1 hx
 have h4:=(wk h1).2.2.1
 have h5:=LF (Ex.wf h2) (Ex.wf ba) h4
 have h6:=qA h2 ba h5
 subst h6
 exact⟨h1,h3⟩
theorem akR {s:ai} (h:Dx s f T):f.ok∧bw f []=some T∧f.n<=120∧bA f.au.text=some f.au:=by
 obtain⟨e,h1,h2,h3,h4,h5,h6⟩:=h
 have h7:=Mr h2 h4
 obtain⟨h8,h9⟩:=W0 h7 h5
 exact⟨h7,Sr h2 h6 h4,h9,h8⟩
theorem KE {s:ai} {f':Ex} {T':Ty} (h:Dx s f T) (h':Dx s f' T'):f=f'∧T=T':=by
 obtain⟨e,h1,h2,h3,h4,h5,h6⟩:=h
 obtain⟨e',k1,k2,k3,k4,k5,k6⟩:=h'
 have he:=qA h2 k2 (Option.some.inj (h1.symm.trans k1))
 subst he
 rw[h4] at k4
 rw[h6] at k6
 exact⟨Option.some.inj k4,Option.some.inj k6⟩
theorem akS:Dx Kp qH .i:=⟨qH,VT,Oy,by decide,aiC,by
 rw[VS];exact wV.2 ⟨qH,VT,Oy,by decide⟩,type12⟩
theorem akT {ok:Bool} (h:Fg Kp ok bs):ok=true:=by
 cases ok with
 |true=>rfl
 |false=>exact absurd ⟨aiD,aiE⟩ ((h.2 rfl).2 _ _ akS)
theorem Fg.aM {s:ai} {ok:Bool} (h:Fg s ok bs):∀b,b∈bs->b.aM.length<=10:=by
 cases ok with
 |true=>
  obtain⟨f,T,h1,_,_,rfl⟩:=h.1 rfl
  obtain⟨h2,h3,h4,_⟩:=akR h1
  obtain⟨j,hj⟩:=Pb 1000 (Nb h2 h3 h4)
  exact hj.labels
 |false=>rw[(h.2 rfl).1];intro b hb;cases hb
theorem Fg.prog {s:ai} (h:Fg s true bs):jt bs=true:=by
 obtain⟨f,T,_,_,h3,rfl⟩:=h.1 rfl
 exact h3
theorem W1 (s:ai) (w:World):bz Tryz.prog 93 [str s] w λr w'=>(∃v ok bs,r= .tuple #[v,.bool ok]∧nR [] w' v bs∧Fg s ok bs∧(ok=true->∃g,Gr w.heap.size [] w' 58 3 v g (bs.map Bk.enc)))∧aj [] w w':=by
 have hK:=aj.refl [] w
 refine bS [.tmp 2,.tmp 3] 44 Tryz.func93 rfl acP rfl rfl ?_
 refine W ?_
 refine aA (ag8 s w) ?_
 rintro v1 w1 ⟨fY,aI⟩
 have cV:=aI.size
 have hK:=hK.ext aI
 have eS:=fY
 obtain⟨x0,W2,e0,zv,hx0⟩:=eS
 subst e0
 refine W ?_
 refine xM (t:=17) rfl (λh1=>?_) (λh1=>?_)
 replace h1:=jk h1
 have fT:W2=false:=by simpa using h1
 refine W ?_
 refine zc rfl (λh2=>?_) (λh2=>?_)
 refine zr<|fQ iL fV λw2 az rW dC=>?_
 have hK:=hK.ext az
 refine W ?_
 exact⟨_,rfl,⟨_,false,[],rfl,bQ.nil _ _ _,⟨λh=>by(cases h),λ_=>⟨rfl,λf T ⟨e,h1,h2,h3,h4,h5,h6⟩=>by rw[zv.2 ⟨e,f,h1,h2,h3,h4,h5⟩] at fT;cases fT⟩⟩,λh=>by(cases h)⟩,hK⟩
 simp at h2
 replace h1:=jk h1
 have fT:W2=true:=(by simpa using h1)
 have hex:=zv.1 fT
 obtain⟨e,f,vG,ba,hn,hf,fj⟩:=hex
 have hxe:=hx0 e f vG ba hf fT
 subst hxe
 have A8:=Mr ba hf
 have Nu:=W0 A8 fj
 obtain⟨sI,N7⟩:=Nu
 have lW:CV s (eE (bw e [])):=⟨λh=>(by rw[wV.2 ⟨e,vG,ba,hn⟩] at h;cases h),λe' h1 h2 h3=>by rw[qA h2 ba (Option.some.inj (h1.symm.trans vG))]⟩
 refine zm<|aA (ahR s w1) ?_
 rintro v2 w2 ⟨ij,az⟩
 have dm:=az.size
 have hK:=hK.ext az
 have eS:=ij
 obtain⟨b9,e9,cW⟩:=eS
 subst e9
 have cW:=cW _ lW
 refine W ?_
 refine zc rfl (λh3=>?_) (λh3=>?_)
 have eR:bw e []=none:=Vq (by have jn:b9=false:=(by simpa using h3);rw[jn] at cW;simpa using cW.symm)
 refine zr<|fQ iL fV λw3 aH rW gJ=>?_
 have hK:=hK.ext aH
 refine W ?_
 exact⟨_,rfl,⟨_,false,[],rfl,bQ.nil _ _ _,⟨λh=>by(cases h),λ_=>⟨rfl,λf' T ⟨e',h1,h2,h3,h4,h5,h6⟩=>by rw[qA h2 ba (Option.some.inj (h1.symm.trans vG)),eR] at h6;cases h6⟩⟩,λh=>by(cases h)⟩,hK⟩
 have eR:=Vr (o:=bw e []) (by have jn:b9=true:=(by simpa using h3);rw[jn] at cW;simpa using cW.symm)
 obtain⟨T,eR⟩:=eR
 rw[eR] at lW
 have lW:CV s T.text:=lW
 have N8:=Sr ba eR hf
 have kM:Dx s f T:=⟨e,vG,ba,hn,hf,fj,eR⟩
 refine gY<|zr<|zm<|aA (GM f.au.text [] w2 sm) ?_
 rintro v3 w3 ⟨ko,aH⟩
 have fm:=aH.size
 have hK:=hK.ext aH
 have eS:=ko
 obtain⟨t,tv,e9,pO,hp⟩:=eS
 subst e9
 have e2:=hp.1 _ sI
 subst e2
 have bZ:=cU pO
 obtain⟨pa,pn,pc,e9,eP,aP⟩:=bZ
 subst e9
 subst eP
 have mG:=hK.size
 refine W ?_
 refine dy aL rfl rfl rfl λw4 aO bL kI=>?_
 have hK:=hK.ext aO
 have da:=aO
 refine cJ (vs:=[str f.au.aw,.slice pa f.au.ak.length pc]) aL rfl rfl rfl bL rfl λw5 aN bL df=>?_
 have hK:=hK.since aN (λx hx=>.inr (by simp at hx;omega))
 have da:=da.since aN (λx hx=>.inr (by simp at hx;omega))
 have pO:=pO.ext da
 refine W ?_
 apply uZ dj 9 (rA 29 4++[28,33,34,8,9]) (rA 29 4++[28,33,34,8,9]) [[],[],[1],[0,2],[3],[4],[4],[5],[6]] [It.v _,It.v _,It.v _,It.p (fun(v:Value) (ww:World)=>∃vb g,v= .tuple #[vb,.bool (!(ofM f T).wide)]∧Gr w.heap.size [] ww 58 3 vb g ((ofM f T).blocks.map Bk.enc)),It.p (fun(v:Value) (ww:World)=>∃vb g,v= .tuple #[vb,.bool (!(ofM f T).wide)]∧Gr w.heap.size [] ww 58 3 vb g ((ofM f T).blocks.map Bk.enc)),It.p (fun(v:Value) (ww:World)=>∃g,Gr w.heap.size [] ww 58 3 v g ((ofM f T).blocks.map Bk.enc)),It.v _,It.p (fun(v:Value) (ww:World)=>∃g,Gr w.heap.size [] ww 58 3 v g ((ofM f T).blocks.map Bk.enc)),It.v _] de (by exact⟨λv w w' ⟨vb,g,h1,h2⟩ k=>⟨vb,g,h1,h2.ext k⟩,λv w w' ⟨vb,g,h1,h2⟩ k=>⟨vb,g,h1,h2.ext k⟩,λv w w' ⟨g,h⟩ k=>⟨g,h.ext k⟩,λv w w' ⟨g,h⟩ k=>⟨g,h.ext k⟩,trivial⟩)
 intro wd aC
 refine VA ?_
 refine vk aC (λx w6 bN=>?_) ?_
 refine aA (Vw s w6) ?_
 rintro v7 w7 ⟨yA,bW⟩
 have lf:=bW.size
 have eS:=yA
 obtain⟨x9,e9,jr⟩:=eS
 have jr:=Vv jr lW
 subst jr
 subst e9
 exact pk bW
 refine vk aC (λx w6 bN=>?_) ?_
 refine bI bN hK pO λhK pO=>?_
 have x4:=hK.size
 refine aA (akH f T A8 N8 N7 _ w6 pO) ?_
 rintro v7 w7 ⟨yA,bW⟩
 have lf:=bW.size
 have eS:=yA
 obtain⟨Kx,g9,e9,E7⟩:=eS
 have E7:=E7.down (B':=w.heap.size) om
 exact pf bW (⟨Kx,g9,e9,E7⟩)
 refine vc (λx w6 bN=>?_) ?_
 intro v3 d3
 refine WZ ?_
 exact pf (aj.refl _ _) d3
 refine vc (λx w6 bN=>?_) ?_
 intro v4 d4
 obtain⟨Kx,g9,e9,OT⟩:=d4
 subst e9
 refine WZ ?_
 exact pf (aj.refl _ _) (⟨g9,OT⟩)
 refine vc (λx w6 bN=>?_) ?_
 intro v4 d4
 obtain⟨Kx,g9,e9,OT⟩:=d4
 subst e9
 refine WZ ?_
 exact pv
 refine vc (λx w6 bN=>?_) ?_
 intro v5 d5
 refine WZ ?_
 exact pf (aj.refl _ _) d5
 exact VZ
 intro x qw rQ
 intro v3 d3
 intro v4 d4
 intro v5 d5
 intro v7 d7
 have hK:=hK.ext rQ
 change OW _ _ _ _ [] (bo (bj _ x _) (zZ 29 [_,_,_,_]++[(28,_),(33,_),(34,_),(8,_),(9,_)])) _
 obtain⟨g5,HT⟩:=d7
 refine W ?_
 refine xM (t:=37) rfl (λh4=>?_) (λh4=>?_)
 replace h4:=jk h4
 have Pc:(ofM f T).wide=true:=by simpa using h4
 refine W ?_
 refine zc rfl (λh5=>?_) (λh5=>?_)
 refine zr<|fQ iL fV λr5 p5 akW aqS=>?_
 have hK:=hK.ext p5
 refine W ?_
 exact⟨_,rfl,⟨_,false,[],rfl,bQ.nil _ _ _,⟨λh=>by(cases h),λ_=>⟨rfl,λf' T' hc hw=>by rw[(KE hc kM).1,(KE hc kM).2,Pc] at hw;cases hw.1⟩⟩,λh=>by(cases h)⟩,hK⟩
 simp at h5
 replace h4:=jk h4
 have Pc:(ofM f T).wide=false:=(by simpa using h4)
 refine zm<|aA (S5 (ofM f T).blocks (akQ A8 N8 N7) _ [] qw HT.tF) ?_
 rintro _ r5 ⟨rfl,p5⟩
 have KF:=p5.size
 refine bI p5 hK HT λhK HT=>?_
 refine W ?_
 refine zc rfl (λh6=>?_) (λh6=>?_)
 have Pd:jt (ofM f T).blocks=false:=(by simpa using h6)
 refine zr<|fQ iL fV λwZ l6 akW aqT=>?_
 have hK:=hK.ext l6
 refine W ?_
 exact⟨_,rfl,⟨_,false,[],rfl,bQ.nil _ _ _,⟨λh=>by(cases h),λ_=>⟨rfl,λf' T' hc hw=>by rw[(KE hc kM).1,(KE hc kM).2,Pd] at hw;cases hw.2⟩⟩,λh=>by(cases h)⟩,hK⟩
 have Pd:jt (ofM f T).blocks=true:=(by simpa using h6)
 refine W ?_
 exact⟨_,rfl,⟨_,true,_,rfl,HT.tF,⟨λ_=>⟨f,T,kM,Pc,Pd,rfl⟩,λh=>by(cases h)⟩,λ_=>⟨g5,HT⟩⟩,hK⟩
theorem akX {a:Nat} (ha:a<4611686018427387904) (hb:b<4611686018427387904):IntKind.i64.wrap ((a%2^IntKind.i64.bits^^^b%2^IntKind.i64.bits:Nat):Int)=((a^^^b:Nat):Int):=by
 have hx:a^^^b<2^62:=Nat.xor_lt_two_pow om om
 have h1:a%2^IntKind.i64.bits=a:=Nat.mod_eq_of_lt (show a<2^64 by omega)
 have h2:b%2^IntKind.i64.bits=b:=Nat.mod_eq_of_lt (show b<2^64 by omega)
 rw[h1,h2]
 exact wrap_i64 _ om om
section
variable {P:Program} {n:Nat} {ops:Array Oper} {K:Env->World->Prop} {rest:List Oper} {e:Env} {w:World} {dst:Option Nat} {ty T T':TypeId} {pos:String} {after:Array Edge} {g:Option (Nat×Bool)} {x y:Operand}
theorem akY {a:Nat} (hg:gate ops e g=true) (hd:bV n dst=true) (hx:ev e x= .int .i64 (a:Int)) (hy:ev e y= .int .i64 (b:Int)) (ha:a<4611686018427387904) (hb:b<4611686018427387904) 
  (c':OW P n ops K rest (bM e dst (.int .i64 ((a^^^b:Nat):Int))) w):OW P n ops K (⟨dst,.binOp .xor T x y T',ty,pos,after,g⟩::rest) e w:=
 eQ hg hd (by simp[execOp,eqGuard,hx,hy,binOp,Op.intBits,akX ha hb]) c'
end
theorem Pe {off len cap size h:Nat} (hr:bQ L w (.slice (some ⟨b,off,none⟩) len cap) (.sl size rows)) (hh:h<=len):bQ L w (.slice (some ⟨b,off,none⟩) h cap) (.sl size (rows.take h)):=by
 cases hr with
 |nil=>rw[List.take_nil,show h=0 from by omega];exact .nil _ _ _
 |sl _ _ _ _ _ _ f hl hc hb hL hs kh gB=>
  exact .sl b off h cap size (rows.take h) f (by rw[List.length_take];omega) om hb hL (λrow hr=>hs row (List.mem_of_mem_take hr)) (λk j hk hj=>kh k j om hj) (λk j row c hk hj=>gB k j row c (by
   rw[List.getElem?_take] at hk
   split at hk
   ·exact hk
   ·cases hk) hj)
section
variable {P:Program} {n:Nat} {ops:Array Oper} {K:Env->World->Prop} {rest:List Oper} {e:Env} {w:World} {dst:Option Nat} {ty T:TypeId} {pos:String} {after:Array Edge} {g:Option (Nat×Bool)} {x:Operand}
theorem W3 {L:List Nat} {E:TypeId} {bytes:Nat} {z:Value} {hi:Operand} {b off len cap h:Nat} {k:IntKind} (hT:P.underlying T=some (.slice E)) (hE:TI P E sz bytes z) (hg:gate ops e g=true) (hd:bV n dst=true) 
  (hx:ev e x= .slice (some ⟨b,off,none⟩) len cap) (BD:ev e hi= .int k (h:Int)) (hl:h<=len) {rows:List (List C)} (hr:bQ L w (.slice (some ⟨b,off,none⟩) len cap) (.sl sz rows))
  (c:OW P n ops K rest (bM e dst (.slice (some ⟨b,off,none⟩) h cap)) w):OW P n ops K (⟨dst,.slice T x none (some hi) none,ty,pos,after,g⟩::rest) e w:=by
 have zq:len<=cap:=by cases hr with|nil=>exact Nat.zero_le _|sl _ _ _ _ _ _ _ hl hc=>exact hc
 have h2:h<=cap:=Nat.le_trans hl zq
 refine eQ hg hd (v:=.slice (some ⟨b,off,none⟩) h cap) (w':=w) ?_ c
 simp[execOp,Instr.sliceAt,Instr.slice,hx,BD,run_underlying hT,Instr.sliceBounds,Instr.sliceBound,asIntOf,h2,hE.rD,qM]
end
def qJ (bs:List UInt8):List (List C):=bs.map λc=>[.val (.int .u8 (c.toNat:Int))]
theorem Fh (bs:List UInt8):(qJ bs).length=bs.length:=by simp[qJ]
theorem KG {a:Option Addr} {n c:Nat} {bs:List UInt8} (h:bQ L w (.slice a n c) (.sl 1 (qJ bs))) (hi:i<bs.length):∃b off x,a=some ⟨b,off,none⟩∧fy L w b (off+i*1) [.int .u8 ((x:UInt8).toNat:Int)]:=by
 obtain⟨b,off,vs,ha,hb,hL,hl,hc,hr⟩:=zn h (i:=i) (row:=[.val (.int .u8 ((bs[i]).toNat:Int))]) (by simp[qJ,gE hi])
 obtain⟨u,hu⟩:∃u,vs=[u]:=by
  match vs,hl with
  |[u],_=>exact⟨u,rfl⟩
 subst hu
 obtain⟨h1,_⟩:=hr
 cases h1
 exact⟨b,off,bs[i],ha,hc,hb,hL⟩
def dD (w:World) (br q:Nat):Prop:=∃a n c p bs,aJ w br [.slice a n c,.int .i64 ((p:Nat):Int)].toArray 102∧p<=q∧(∀L:List Nat,(∀x,x∈L->br<=x)->bQ L w (.slice a n c) (.sl 1 (qJ bs)))∧n<=1000000000
theorem dD.ext {br:Nat} (h:dD w br q) (k:aj [] w w'):dD w' br q:=let⟨a,n,c,p,bs,h1,h2,h3,h4⟩:=h;⟨a,n,c,p,bs,h1.ext k,h2,λL hL=>bQ.ext (h3 L hL) k,h4⟩
theorem dD.more {br q':Nat} (h:dD w br q) (hq:q<=q'):dD w br q':=let⟨a,n,c,p,bs,h1,h2,h3,h4⟩:=h;⟨a,n,c,p,bs,h1,Nat.le_trans h2 hq,h3,h4⟩
theorem dD.lt {br:Nat} (h:dD w br q):br<w.heap.size:=let⟨_,_,_,_,_,h1,_⟩:=h;h1.lt
theorem W4 {br:Nat} {v:Value} (h:∀L:List Nat,(∀x,x∈L->br<=x)->bQ L w v (.sl 1 rows)) (k:aj G w w') (hG:∀x,x∈G->br<=x):∀L:List Nat,(∀x,x∈L->br<=x)->bQ L w' v (.sl 1 rows):=λL hL=>
 (bQ.aF (h (G++L) λx hx=>(mA.1 hx).elim (hG x) (hL x)) (k.mono λx hx=>List.mem_append_left _ hx)).fresh λx hx=>.inl (mR _ hx)
theorem dD.aF {br:Nat} (h:dD w br q) (k:aj G w w') (hG:∀x,x∈G->br<x):dD w' br q:=let⟨a,n,c,p,bs,h1,h2,h3,h4⟩:=h;⟨a,n,c,p,bs,h1.aF k (λhx=>Nat.lt_irrefl _ (hG br hx)),h2,W4 h3 k (λx hx=>Nat.le_of_lt (hG x hx)),h4⟩
section
open Go Go.ChangeShapes Go.WideShapes
theorem akZ {zs:List Int} (h:∀n,n∈zs->(Lit.int .u8 n).wf=true) (hi:i<zs.length):Value.int .u8 (zs.getD i 0)= .int .u8 (((UInt8.ofNat (zs.getD i 0).toNat).toNat:Nat):Int):=by
 have:=range_u8 h i
 rw[<-gG] at this
 congr 1
 simp only[UInt8.toNat_ofNat']
 omega
section
variable {H:Type} {enc:TypeId×Value->H} {P:Program} {w:World} {held:Bool}
theorem aqU {t e:TypeId} {fuel:Nat} {cs:List Value} {x:DataW H×List MemPlace} (ht:P.underlying t=some (.slice e)) (he:P.underlying e=some (.int .u8)) (hc:P.cellsOf e=1) 
  (h:DataW.trod enc P w 0 (λ_=>true) held fuel t cs=some x):∃a len cap bs,cs=[.slice a len cap]∧bQ [] w (.slice a len cap) (.sl 1 (qJ bs)):=by
 rcases open_ints ht he hc h with⟨rfl,_⟩|⟨a,len,cap,zs,rfl,_,hl,hm,hz,_,kh,cm⟩
 ·exact⟨none,0,0,[],rfl,.nil _ _ _⟩
 ·simp only[if_true] at hz
  rcases Nat.eq_zero_or_pos len with h0|hp
  ·subst h0
   exact⟨some a,0,cap,[],rfl,.nil _ _ _⟩
  ·have h0:=kh 0 om
   rw[show a.add 0=a from by simp[Addr.add]] at h0
   obtain⟨ha,hb⟩:=aem h0
   have iq:((zs.take len).map λn=>UInt8.ofNat n.toNat).length=len:=by simp;omega
   refine⟨some a,len,cap,(zs.take len).map λn=>UInt8.ofNat n.toNat,rfl,?_⟩
   rw[ha]
   refine .sl a.block a.off len cap 1 _ (λi _=>.int .u8 (zs.getD i 0)) (by rw[Fh,iq]) hl hb sm (λrow hr=>?_) (λi j hi hj=>?_) (λi j row c gZ hc=>?_)
   ·obtain⟨_,_,rfl⟩:=List.mem_map.1 hr;rfl
   ·have h1:=kh i om
    rw[aen ha] at h1
    rw[show a.off+i*1+j=a.off+i from by omega]
    exact h1
   ·have hi:i<len:=by
     have:=(List.getElem?_eq_some_iff.1 gZ).1
     rw[Fh,iq] at this;exact this
    have hrw:row=[.val (.int .u8 (((UInt8.ofNat (zs.getD i 0).toNat).toNat:Nat):Int))]:=by
     simp only[qJ,List.map_map,List.getElem?_map,List.getElem?_take,iP hi,gE (show i<zs.length by omega),Option.map_some,Function.comp,Option.some.injEq] at gZ
     rw[<-gZ]
     simp[gG,gE (show i<zs.length by omega)]
    subst hrw
    match j,hc with
    |0,hc=>
     simp only[List.getElem?_cons_zero,Option.some.injEq] at hc
     subst hc
     rw[akZ cm om]
     exact .val _
    |j+1,hc=>simp at hc
end
end
end Go.Proofs.YthbhobaiopccaaaGreatDoor
namespace Go.Proofs
open Go.Shelf
def Tryz.ak1:Go.Shelf.Ren:=⟨fun|170=>174|n=>n,fun|70=>111|3=>3|0=>0|72=>113|37=>22|5=>5|n=>n,fun|n=>n⟩
theorem Tryz.ak2:Go.Proofs.Lays.n170 Tryz.prog Tryz.ak1:={
 mixed:=by kernel_rfl
 f170:=Tryz.func174.trans (congrArg some (by kernel_rfl))
 t0:=Tryz.underlying0
 a0:=Tryz.isAgg0
 z0:=Tryz.sizeOf0
 v0:=Tryz.zeroValue0
 t3:=Tryz.underlying3
 a3:=Tryz.isAgg3
 z3:=Tryz.sizeOf3
 v3:=Tryz.zeroValue3
 t37:=Tryz.underlying22
 a37:=Tryz.isAgg22
 z37:=Tryz.sizeOf22
 v37:=Tryz.zeroValue22
 t70:=Tryz.underlying111
 a70:=Tryz.isAgg111
 z70:=Tryz.sizeOf111
 v70:=Tryz.zeroValue111
 t72:=Tryz.underlying113
 a72:=Tryz.isAgg113
 z72:=Tryz.sizeOf113
 v72:=Tryz.zeroValue113}
def Tryz.W5:Go.Shelf.Ren:=⟨fun|169=>79|n=>n,fun|70=>111|9=>9|0=>0|72=>113|37=>22|127=>136|3=>3|5=>5|n=>n,fun|n=>n⟩
theorem Tryz.W6:Go.Proofs.Lays.n169 Tryz.prog Tryz.W5:={
 mixed:=by kernel_rfl
 f169:=Tryz.func79.trans (congrArg some (by kernel_rfl))
 t0:=Tryz.underlying0
 a0:=Tryz.isAgg0
 z0:=Tryz.sizeOf0
 v0:=Tryz.zeroValue0
 t3:=Tryz.underlying3
 a3:=Tryz.isAgg3
 z3:=Tryz.sizeOf3
 v3:=Tryz.zeroValue3
 t9:=Tryz.underlying9
 a9:=Tryz.isAgg9
 z9:=Tryz.sizeOf9
 v9:=Tryz.zeroValue9
 t37:=Tryz.underlying22
 a37:=Tryz.isAgg22
 z37:=Tryz.sizeOf22
 v37:=Tryz.zeroValue22
 t70:=Tryz.underlying111
 a70:=Tryz.isAgg111
 z70:=Tryz.sizeOf111
 v70:=Tryz.zeroValue111
 t72:=Tryz.underlying113
 a72:=Tryz.isAgg113
 z72:=Tryz.sizeOf113
 v72:=Tryz.zeroValue113
 t127:=Tryz.underlying136
 a127:=Tryz.isAgg136
 z127:=Tryz.sizeOf136
 v127:=Tryz.zeroValue136}
theorem Tryz.W7:Builder.Extra Tryz.prog Tryz.W5:={
 sizeBuilder:=by kernel_rfl
 liesBuilder:=by kernel_rfl
 t5:=Tryz.underlying5
 a5:=Tryz.isAgg5
 z5:=Tryz.sizeOf5
 v5:=Tryz.zeroValue5
 infoByte:=by kernel_rfl
 cellsByte:=by kernel_rfl
 sizeByte:=by kernel_rfl
 neB5:=by decide}
def Tryz.W8:Go.Shelf.Ren:=⟨fun|165=>173|240=>141|241=>206|276=>171|277=>230|n=>n,fun|70=>111|3=>3|0=>0|4=>4|9=>9|20=>20|72=>113|37=>22|164=>179|5=>5|n=>n,fun|n=>n⟩
theorem Tryz.ak3:Go.Proofs.Lays.n165 Tryz.prog Tryz.W8:={
 mixed:=by kernel_rfl
 f165:=Tryz.func173.trans (congrArg some (by kernel_rfl))
 f240:=Tryz.func141.trans (congrArg some (by kernel_rfl))
 f241:=Tryz.func206.trans (congrArg some (by kernel_rfl))
 f276:=Tryz.func171.trans (congrArg some (by kernel_rfl))
 f277:=Tryz.func230.trans (congrArg some (by kernel_rfl))
 t0:=Tryz.underlying0
 a0:=Tryz.isAgg0
 z0:=Tryz.sizeOf0
 v0:=Tryz.zeroValue0
 t3:=Tryz.underlying3
 a3:=Tryz.isAgg3
 z3:=Tryz.sizeOf3
 v3:=Tryz.zeroValue3
 t4:=Tryz.underlying4
 a4:=Tryz.isAgg4
 z4:=Tryz.sizeOf4
 v4:=Tryz.zeroValue4
 t9:=Tryz.underlying9
 a9:=Tryz.isAgg9
 z9:=Tryz.sizeOf9
 v9:=Tryz.zeroValue9
 t20:=Tryz.underlying20
 a20:=Tryz.isAgg20
 z20:=Tryz.sizeOf20
 v20:=Tryz.zeroValue20
 t37:=Tryz.underlying22
 a37:=Tryz.isAgg22
 z37:=Tryz.sizeOf22
 v37:=Tryz.zeroValue22
 t70:=Tryz.underlying111
 a70:=Tryz.isAgg111
 z70:=Tryz.sizeOf111
 v70:=Tryz.zeroValue111
 t72:=Tryz.underlying113
 a72:=Tryz.isAgg113
 z72:=Tryz.sizeOf113
 v72:=Tryz.zeroValue113
 t164:=Tryz.underlying179
 a164:=Tryz.isAgg179
 z164:=Tryz.sizeOf179
 v164:=Tryz.zeroValue179}
theorem Tryz.ak4:Builder.Extra Tryz.prog Tryz.W8:={
 sizeBuilder:=by kernel_rfl
 liesBuilder:=by kernel_rfl
 t5:=Tryz.underlying5
 a5:=Tryz.isAgg5
 z5:=Tryz.sizeOf5
 v5:=Tryz.zeroValue5
 infoByte:=by kernel_rfl
 cellsByte:=by kernel_rfl
 sizeByte:=by kernel_rfl
 neB5:=by decide}
open Go.RowKit in
theorem Tryz.Builder_Grow_fresh (B b n:Nat) (w:World) (hB:B<=b) (fI:w.heap[b]?=some (.cells #[.pointer none,.slice none 0 0] 113 (0,0))) (ox:B<=w.heap.size) (hn:n<=281474976710656):
  Calls Tryz.prog 173 #[.pointer (some ⟨b,0,none⟩),.int .i64 n] w λe w'=>e= .returned (.tuple #[])∧(Lib.BuilderAt 113 5 B b (.pointer (some ⟨b,0,none⟩)) [] w'∧Below B w w'):=Any.Builder_Grow_fresh Tryz.ak3 Tryz.ak4 B b n w hB fI ox hn
def Tryz.aqV:Go.Shelf.Ren:=⟨fun|210=>149|206=>140|n=>n,fun|9=>9|4=>4|3=>3|n=>n,fun|n=>n⟩
open Go.RowKit in
theorem Tryz.Builder_Len_f (B b:Nat) (bs:List Value) (w:World) (h:Lib.IsBuilderF 113 5 B b bs w):
  Calls Tryz.prog 174 #[.pointer (some ⟨b,0,none⟩)] w λe w'=>e= .returned (.int .i64 bs.length)∧w'=w:=Any.Builder_Len_f Tryz.ak2 B b bs w h
open Go.RowKit in
theorem Tryz.Builder_String_f (B b:Nat) (l:List UInt8) (w:World) (h:Lib.IsBuilderF 113 5 B b (Lib.byteCells l) w) (h0:l≠[]):
  Calls Tryz.prog 79 #[.pointer (some ⟨b,0,none⟩)] w λe w'=>e= .returned (.string ⟨l.toArray⟩)∧(Lib.IsBuilderF 113 5 B b (Lib.byteCells l) w'∧Below B w w'):=Any.Builder_String_f Tryz.W6 Tryz.W7 B b l w h h0
open Go.RowKit in
theorem Tryz.Builder_String_any_f (B b:Nat) (l:List UInt8) (w:World) (h:Lib.IsBuilderF 113 5 B b (Lib.byteCells l) w) (ox:B<=w.heap.size):
  Calls Tryz.prog 79 #[.pointer (some ⟨b,0,none⟩)] w λe w'=>e= .returned (.string ⟨l.toArray⟩)∧(Lib.IsBuilderF 113 5 B b (Lib.byteCells l) w'∧Below B w w'):=Any.Builder_String_any_f Tryz.W6 Tryz.W7 B b l w h ox
def Tryz.ak5:Go.Shelf.Ren:=⟨fun|172=>144|244=>175|245=>176|247=>207|279=>208|280=>209|281=>210|282=>211|287=>231|316=>232|171=>122|205=>233|321=>245|322=>246|243=>148|246=>178|283=>212|284=>213|285=>214|286=>215|129=>235|317=>234|318=>236|319=>237|320=>238|337=>247|338=>248|n=>n,fun|9=>9|3=>3|75=>132|76=>133|4=>4|5=>5|167=>214|37=>22|0=>0|85=>215|2=>2|168=>217|53=>211|175=>236|46=>181|210=>239|127=>136|145=>253|143=>251|21=>21|171=>220|173=>223|212=>242|51=>208|20=>20|213=>243|232=>256|233=>257|80=>69|n=>n,fun|15=>0|16=>1|17=>2|18=>4|19=>5|n=>n⟩
theorem Tryz.ak6:Go.Proofs.Lays.n172 Tryz.prog Tryz.ak5:={
 mixed:=by kernel_rfl
 f129:=Tryz.func235.trans (congrArg some (by kernel_rfl))
 f171:=Tryz.func122.trans (congrArg some (by kernel_rfl))
 f172:=Tryz.func144.trans (congrArg some (by kernel_rfl))
 f205:=Tryz.func233.trans (congrArg some (by kernel_rfl))
 f243:=Tryz.func148.trans (congrArg some (by kernel_rfl))
 f244:=Tryz.func175.trans (congrArg some (by kernel_rfl))
 f245:=Tryz.func176.trans (congrArg some (by kernel_rfl))
 f246:=Tryz.func178.trans (congrArg some (by kernel_rfl))
 f247:=Tryz.func207.trans (congrArg some (by kernel_rfl))
 f279:=Tryz.func208.trans (congrArg some (by kernel_rfl))
 f280:=Tryz.func209.trans (congrArg some (by kernel_rfl))
 f281:=Tryz.func210.trans (congrArg some (by kernel_rfl))
 f282:=Tryz.func211.trans (congrArg some (by kernel_rfl))
 f283:=Tryz.func212.trans (congrArg some (by kernel_rfl))
 f284:=Tryz.func213.trans (congrArg some (by kernel_rfl))
 f285:=Tryz.func214.trans (congrArg some (by kernel_rfl))
 f286:=Tryz.func215.trans (congrArg some (by kernel_rfl))
 f287:=Tryz.func231.trans (congrArg some (by kernel_rfl))
 f316:=Tryz.func232.trans (congrArg some (by kernel_rfl))
 f317:=Tryz.func234.trans (congrArg some (by kernel_rfl))
 f318:=Tryz.func236.trans (congrArg some (by kernel_rfl))
 f319:=Tryz.func237.trans (congrArg some (by kernel_rfl))
 f320:=Tryz.func238.trans (congrArg some (by kernel_rfl))
 f321:=Tryz.func245.trans (congrArg some (by kernel_rfl))
 f322:=Tryz.func246.trans (congrArg some (by kernel_rfl))
 f337:=Tryz.func247.trans (congrArg some (by kernel_rfl))
 f338:=Tryz.func248.trans (congrArg some (by kernel_rfl))
 t0:=Tryz.underlying0
 a0:=Tryz.isAgg0
 z0:=Tryz.sizeOf0
 v0:=Tryz.zeroValue0
 t2:=Tryz.underlying2
 a2:=Tryz.isAgg2
 z2:=Tryz.sizeOf2
 v2:=Tryz.zeroValue2
 t3:=Tryz.underlying3
 a3:=Tryz.isAgg3
 z3:=Tryz.sizeOf3
 v3:=Tryz.zeroValue3
 t4:=Tryz.underlying4
 a4:=Tryz.isAgg4
 z4:=Tryz.sizeOf4
 v4:=Tryz.zeroValue4
 t5:=Tryz.underlying5
 a5:=Tryz.isAgg5
 z5:=Tryz.sizeOf5
 v5:=Tryz.zeroValue5
 t9:=Tryz.underlying9
 a9:=Tryz.isAgg9
 z9:=Tryz.sizeOf9
 v9:=Tryz.zeroValue9
 t20:=Tryz.underlying20
 a20:=Tryz.isAgg20
 z20:=Tryz.sizeOf20
 v20:=Tryz.zeroValue20
 t21:=Tryz.underlying21
 a21:=Tryz.isAgg21
 z21:=Tryz.sizeOf21
 v21:=Tryz.zeroValue21
 t37:=Tryz.underlying22
 a37:=Tryz.isAgg22
 z37:=Tryz.sizeOf22
 v37:=Tryz.zeroValue22
 t46:=Tryz.underlying181
 a46:=Tryz.isAgg181
 z46:=Tryz.sizeOf181
 v46:=Tryz.zeroValue181
 t51:=Tryz.underlying208
 a51:=Tryz.isAgg208
 z51:=Tryz.sizeOf208
 v51:=Tryz.zeroValue208
 t53:=Tryz.underlying211
 a53:=Tryz.isAgg211
 z53:=Tryz.sizeOf211
 v53:=Tryz.zeroValue211
 t75:=Tryz.underlying132
 a75:=Tryz.isAgg132
 z75:=Tryz.sizeOf132
 v75:=Tryz.zeroValue132
 t76:=Tryz.underlying133
 a76:=Tryz.isAgg133
 z76:=Tryz.sizeOf133
 v76:=Tryz.zeroValue133
 t85:=Tryz.underlying215
 a85:=Tryz.isAgg215
 z85:=Tryz.sizeOf215
 v85:=Tryz.zeroValue215
 t127:=Tryz.underlying136
 a127:=Tryz.isAgg136
 z127:=Tryz.sizeOf136
 v127:=Tryz.zeroValue136
 t143:=Tryz.underlying251
 a143:=Tryz.isAgg251
 z143:=Tryz.sizeOf251
 v143:=Tryz.zeroValue251
 t145:=Tryz.underlying253
 a145:=Tryz.isAgg253
 z145:=Tryz.sizeOf253
 v145:=Tryz.zeroValue253
 t167:=Tryz.underlying214
 a167:=Tryz.isAgg214
 z167:=Tryz.sizeOf214
 v167:=Tryz.zeroValue214
 t168:=Tryz.underlying217
 a168:=Tryz.isAgg217
 z168:=Tryz.sizeOf217
 v168:=Tryz.zeroValue217
 t171:=Tryz.underlying220
 a171:=Tryz.isAgg220
 z171:=Tryz.sizeOf220
 v171:=Tryz.zeroValue220
 t173:=Tryz.underlying223
 a173:=Tryz.isAgg223
 z173:=Tryz.sizeOf223
 v173:=Tryz.zeroValue223
 t175:=Tryz.underlying236
 a175:=Tryz.isAgg236
 z175:=Tryz.sizeOf236
 v175:=Tryz.zeroValue236
 t210:=Tryz.underlying239
 a210:=Tryz.isAgg239
 z210:=Tryz.sizeOf239
 v210:=Tryz.zeroValue239
 t212:=Tryz.underlying242
 a212:=Tryz.isAgg242
 z212:=Tryz.sizeOf242
 v212:=Tryz.zeroValue242
 t213:=Tryz.underlying243
 a213:=Tryz.isAgg243
 z213:=Tryz.sizeOf243
 t232:=Tryz.underlying256
 a232:=Tryz.isAgg256
 z232:=Tryz.sizeOf256
 v232:=Tryz.zeroValue256
 t233:=Tryz.underlying257
 a233:=Tryz.isAgg257
 z233:=Tryz.sizeOf257
 v233:=Tryz.zeroValue257
 g15:=by kernel_rfl
 g16:=by kernel_rfl
 g17:=by kernel_rfl
 g18:=by kernel_rfl
 g19:=by kernel_rfl}
open Go.RowKit in
theorem Tryz.strconv_Atoi (s:ByteArray) (n:Int) (hl:s.size<=18) (h:Lib.atoi s.data.toList=some n) (w:World):
  Calls Tryz.prog 144 #[.string s] w λe w'=>e= .returned (.tuple #[.int .i64 n,.nilIface])∧∃t,w'=Lib.bytesWorld w 5 t:=Any.strconv_Atoi Tryz.ak6 s n hl h w
def Tryz.ak7:Go.Shelf.Ren:=⟨fun|99=>108|206=>140|n=>n,fun|9=>9|4=>4|3=>3|n=>n,fun|n=>n⟩
theorem Tryz.ak8:Go.Proofs.Lays.n99 Tryz.prog Tryz.ak7:={
 mixed:=by kernel_rfl
 f99:=Tryz.func108.trans (congrArg some (by kernel_rfl))
 f206:=Tryz.func140.trans (congrArg some (by kernel_rfl))
 t3:=Tryz.underlying3
 a3:=Tryz.isAgg3
 z3:=Tryz.sizeOf3
 v3:=Tryz.zeroValue3
 t4:=Tryz.underlying4
 a4:=Tryz.isAgg4
 z4:=Tryz.sizeOf4
 v4:=Tryz.zeroValue4
 t9:=Tryz.underlying9
 a9:=Tryz.isAgg9
 z9:=Tryz.sizeOf9
 v9:=Tryz.zeroValue9}
open Go.RowKit Go.Lib in
theorem Tryz.strings_HasPrefix (s p:ByteArray) (w:World):
  Calls Tryz.prog 108 #[.string s,.string p] w λe w'=>e= .returned (.bool (Lib.hasPrefix s.data.toList p.data.toList))∧w'=w:=Any.strings_HasPrefix Tryz.ak8 s p w
def Tryz.ak9:Go.Shelf.Ren:=⟨fun|101=>145|208=>177|206=>140|n=>n,fun|9=>9|4=>4|3=>3|n=>n,fun|n=>n⟩
theorem Tryz.ala:Go.Proofs.Lays.n101 Tryz.prog Tryz.ak9:={
 mixed:=by kernel_rfl
 f101:=Tryz.func145.trans (congrArg some (by kernel_rfl))
 f206:=Tryz.func140.trans (congrArg some (by kernel_rfl))
 f208:=Tryz.func177.trans (congrArg some (by kernel_rfl))
 t3:=Tryz.underlying3
 a3:=Tryz.isAgg3
 z3:=Tryz.sizeOf3
 v3:=Tryz.zeroValue3
 t4:=Tryz.underlying4
 a4:=Tryz.isAgg4
 z4:=Tryz.sizeOf4
 v4:=Tryz.zeroValue4
 t9:=Tryz.underlying9
 a9:=Tryz.isAgg9
 z9:=Tryz.sizeOf9
 v9:=Tryz.zeroValue9}
open Go.RowKit Go.Lib in
theorem Tryz.strings_TrimPrefix (s p:ByteArray) (w:World):
  Calls Tryz.prog 145 #[.string s,.string p] w λe w'=>e= .returned (.string ⟨(Lib.trimPrefix s.data.toList p.data.toList).toArray⟩)∧w'=w:=Any.strings_TrimPrefix Tryz.ala s p w
def Tryz.alb:Go.Shelf.Ren:=⟨fun|212=>172|263=>204|264=>205|n=>n,fun|46=>181|51=>208|146=>209|53=>211|148=>212|n=>n,fun|n=>n⟩
theorem Tryz.alc:Go.Proofs.Lays.n212 Tryz.prog Tryz.alb:={
 mixed:=by kernel_rfl
 f212:=Tryz.func172.trans (congrArg some (by kernel_rfl))
 f263:=Tryz.func204.trans (congrArg some (by kernel_rfl))
 f264:=Tryz.func205.trans (congrArg some (by kernel_rfl))
 t46:=Tryz.underlying181
 a46:=Tryz.isAgg181
 z46:=Tryz.sizeOf181
 v46:=Tryz.zeroValue181
 t51:=Tryz.underlying208
 a51:=Tryz.isAgg208
 z51:=Tryz.sizeOf208
 v51:=Tryz.zeroValue208
 t53:=Tryz.underlying211
 a53:=Tryz.isAgg211
 z53:=Tryz.sizeOf211
 v53:=Tryz.zeroValue211
 t146:=Tryz.underlying209
 a146:=Tryz.isAgg209
 z146:=Tryz.sizeOf209
 v146:=Tryz.zeroValue209
 t148:=Tryz.underlying212
 a148:=Tryz.isAgg212
 z148:=Tryz.sizeOf212
 v148:=Tryz.zeroValue212}
open Go.RowKit Go.Lib in
theorem Tryz.bits_Mul (x y:Nat) (hx:x<18446744073709551616) (hy:y<18446744073709551616) (w:World):
  Calls Tryz.prog 172 #[.int .u64 x,.int .u64 y] w λe w'=>e= .returned (.tuple #[.int .u64 ((x*y/18446744073709551616:Nat):Int),.int .u64 ((x*y%18446744073709551616:Nat):Int)])∧w'=w:=Any.bits_Mul Tryz.alc x y hx hy w
def Tryz.W9:Go.Shelf.Ren:=⟨fun|166=>111|240=>141|276=>171|n=>n,fun|70=>111|3=>3|0=>0|4=>4|9=>9|20=>20|72=>113|37=>22|164=>179|5=>5|75=>132|80=>69|n=>n,fun|n=>n⟩
theorem Tryz.Xa:Go.Proofs.Lays.n166 Tryz.prog Tryz.W9:={
 mixed:=by kernel_rfl
 f166:=Tryz.func111.trans (congrArg some (by kernel_rfl))
 f240:=Tryz.func141.trans (congrArg some (by kernel_rfl))
 f276:=Tryz.func171.trans (congrArg some (by kernel_rfl))
 t0:=Tryz.underlying0
 a0:=Tryz.isAgg0
 z0:=Tryz.sizeOf0
 v0:=Tryz.zeroValue0
 t3:=Tryz.underlying3
 a3:=Tryz.isAgg3
 z3:=Tryz.sizeOf3
 v3:=Tryz.zeroValue3
 t4:=Tryz.underlying4
 a4:=Tryz.isAgg4
 z4:=Tryz.sizeOf4
 v4:=Tryz.zeroValue4
 t9:=Tryz.underlying9
 a9:=Tryz.isAgg9
 z9:=Tryz.sizeOf9
 v9:=Tryz.zeroValue9
 t20:=Tryz.underlying20
 a20:=Tryz.isAgg20
 z20:=Tryz.sizeOf20
 v20:=Tryz.zeroValue20
 t37:=Tryz.underlying22
 a37:=Tryz.isAgg22
 z37:=Tryz.sizeOf22
 v37:=Tryz.zeroValue22
 t70:=Tryz.underlying111
 a70:=Tryz.isAgg111
 z70:=Tryz.sizeOf111
 v70:=Tryz.zeroValue111
 t72:=Tryz.underlying113
 a72:=Tryz.isAgg113
 z72:=Tryz.sizeOf113
 v72:=Tryz.zeroValue113
 t164:=Tryz.underlying179
 a164:=Tryz.isAgg179
 z164:=Tryz.sizeOf179
 v164:=Tryz.zeroValue179
 t75:=Tryz.underlying132
 a75:=Tryz.isAgg132
 z75:=Tryz.sizeOf132
 v75:=Tryz.zeroValue132}
theorem Tryz.Xb:Builder.Extra Tryz.prog Tryz.W9:={
 sizeBuilder:=by kernel_rfl
 liesBuilder:=by kernel_rfl
 t5:=Tryz.underlying5
 a5:=Tryz.isAgg5
 z5:=Tryz.sizeOf5
 v5:=Tryz.zeroValue5
 infoByte:=by kernel_rfl
 cellsByte:=by kernel_rfl
 sizeByte:=by kernel_rfl
 neB5:=by decide}
open Go.RowKit in
theorem Tryz.Builder_WriteString_f (B b:Nat) (bs:List Value) (s:ByteArray) (w:World) (h:Lib.IsBuilderF 113 5 B b bs w) (hlen:bs.length+s.size<=140737488355328) (ox:B<=w.heap.size):
  Calls Tryz.prog 111 #[.pointer (some ⟨b,0,none⟩),.string s] w λe w'=>e= .returned (.tuple #[.int .i64 s.size,.nilIface])∧(Lib.BuilderAtF 113 5 B b (.pointer (some ⟨b,0,none⟩)) (bs++Lib.strCells s) w'∧Below B w w'):=Any.Builder_WriteString_f Tryz.Xa Tryz.Xb B b bs s w h hlen ox
def Tryz.Xc:Go.Shelf.Ren:=⟨fun|167=>112|240=>141|276=>171|n=>n,fun|70=>111|3=>3|0=>0|4=>4|9=>9|20=>20|72=>113|37=>22|164=>179|5=>5|75=>132|80=>69|n=>n,fun|n=>n⟩
theorem Tryz.ald:Go.Proofs.Lays.n167 Tryz.prog Tryz.Xc:={
 mixed:=by kernel_rfl
 f167:=Tryz.func112.trans (congrArg some (by kernel_rfl))
 f240:=Tryz.func141.trans (congrArg some (by kernel_rfl))
 f276:=Tryz.func171.trans (congrArg some (by kernel_rfl))
 t0:=Tryz.underlying0
 a0:=Tryz.isAgg0
 z0:=Tryz.sizeOf0
 v0:=Tryz.zeroValue0
 t4:=Tryz.underlying4
 a4:=Tryz.isAgg4
 z4:=Tryz.sizeOf4
 v4:=Tryz.zeroValue4
 t5:=Tryz.underlying5
 a5:=Tryz.isAgg5
 z5:=Tryz.sizeOf5
 v5:=Tryz.zeroValue5
 t9:=Tryz.underlying9
 a9:=Tryz.isAgg9
 z9:=Tryz.sizeOf9
 v9:=Tryz.zeroValue9
 t20:=Tryz.underlying20
 a20:=Tryz.isAgg20
 z20:=Tryz.sizeOf20
 v20:=Tryz.zeroValue20
 t37:=Tryz.underlying22
 a37:=Tryz.isAgg22
 z37:=Tryz.sizeOf22
 v37:=Tryz.zeroValue22
 t70:=Tryz.underlying111
 a70:=Tryz.isAgg111
 z70:=Tryz.sizeOf111
 v70:=Tryz.zeroValue111
 t72:=Tryz.underlying113
 a72:=Tryz.isAgg113
 z72:=Tryz.sizeOf113
 v72:=Tryz.zeroValue113
 t75:=Tryz.underlying132
 a75:=Tryz.isAgg132
 z75:=Tryz.sizeOf132
 v75:=Tryz.zeroValue132
 t164:=Tryz.underlying179
 a164:=Tryz.isAgg179
 z164:=Tryz.sizeOf179
 v164:=Tryz.zeroValue179}
theorem Tryz.ale:Builder.Extra Tryz.prog Tryz.Xc:={
 sizeBuilder:=by kernel_rfl
 liesBuilder:=by kernel_rfl
 t5:=Tryz.underlying5
 a5:=Tryz.isAgg5
 z5:=Tryz.sizeOf5
 v5:=Tryz.zeroValue5
 infoByte:=by kernel_rfl
 cellsByte:=by kernel_rfl
 sizeByte:=by kernel_rfl
 neB5:=by decide}
open Go.RowKit in
theorem Tryz.Builder_WriteByte_k (B b:Nat) (bs:List Value) (c:Int) (w:World) (h:Lib.IsBuilderF 113 5 B b bs w) (hlen:bs.length+1<=140737488355328) (ox:B<=w.heap.size):
  Calls Tryz.prog 112 #[.pointer (some ⟨b,0,none⟩),.int .u8 c] w λe w'=>e= .returned .nilIface∧(Lib.BuilderAtF 113 5 B b (.pointer (some ⟨b,0,none⟩)) (bs++[.int .u8 c]) w'∧Below B w w'∧Lib.OthersKept 5 (some b) w w'):=Any.Builder_WriteByte_k Tryz.ald Tryz.ale B b bs c w h hlen ox
open Go.RowKit in
theorem Tryz.Builder_WriteString_k (B b:Nat) (bs:List Value) (s:ByteArray) (w:World) (h:Lib.IsBuilderF 113 5 B b bs w) (hlen:bs.length+s.size<=140737488355328) (ox:B<=w.heap.size):
  Calls Tryz.prog 111 #[.pointer (some ⟨b,0,none⟩),.string s] w λe w'=>e= .returned (.tuple #[.int .i64 s.size,.nilIface])∧(Lib.BuilderAtF 113 5 B b (.pointer (some ⟨b,0,none⟩)) (bs++Lib.strCells s) w'∧Below B w w'∧Lib.OthersKept 5 (some b) w w'):=Any.Builder_WriteString_k Tryz.Xa Tryz.Xb B b bs s w h hlen ox
end Go.Proofs
namespace Go.Proofs.YthbhobaiopccaaaGreatDoor
open Go
variable {m:Mk} {s:cD} {b i k q sz:Nat} {E G L L1:List Nat} {w w' w1:World} {T:Ty} {e f:Ex} {t:Tk} {rows:List (List C)} {bs:List Bk}
theorem alf (s p:ai) (w:World):bz Tryz.prog 108 [str s,str p] w λv w'=>v= .bool (Lib.hasPrefix s p)∧w=w':=
 ⟨qL.mk' Tryz.func108 rfl aaF,Calls.mono (Tryz.strings_HasPrefix ⟨s.toArray⟩ ⟨p.toArray⟩ w) λe w' ⟨he,hw⟩=>⟨_,he,sm,hw.symm⟩⟩
theorem alg (s p:ai) (w:World):bz Tryz.prog 145 [str s,str p] w λv w'=>v=str (Lib.trimPrefix s p)∧w=w':=
 ⟨qL.mk' Tryz.func145 rfl aa5,Calls.mono (Tryz.strings_TrimPrefix ⟨s.toArray⟩ ⟨p.toArray⟩ w) λe w' ⟨he,hw⟩=>⟨_,he,by simp[str],hw.symm⟩⟩
theorem alh (w:World) (o:Obj) (a:Addr) (n:Nat) (ha:a.block=w.heap.size):aj [] w ((w.alloc o).freeze a n):=by
 unfold World.freeze
 split
 ·exact aj.alloc [] w o
 ·refine⟨rfl,rfl,rfl,?_,λk hk _=>?_⟩
  ·show w.heap.size<=Array.size (Array.modify (w.alloc o).heap _ _)
   rw[Array.size_modify];exact(aj.alloc [] w o).size
  ·show(Array.modify (w.alloc o).heap _ _)[k]?=_
   rw[Array.getElem?_modify,iN (by rw[ha];omega)];exact(aj.alloc [] w o).block k hk sm
theorem ali (w:World) (e:TypeId) (s:ByteArray):aj [] w (Lib.bytesWorld w e s):=
 (aj.drew [] w).trans (alh _ _ _ _ rfl)
theorem alj (s:ai) {z:Int} (h:numeral s=some z) (w:World):bz Tryz.prog 144 [str s] w λv w'=>v= .tuple #[.int .i64 z,.nilIface]∧aj [] w w':=
 ⟨qL.mk' Tryz.func144 rfl aa4,Calls.mono (Tryz.strconv_Atoi ⟨s.toArray⟩ z (by have:=Ri h;simp[ByteArray.size];omega) (by simpa using Zx h) w) λe w' ⟨he,t,hw⟩=>⟨_,he,rfl,by rw[hw];exact ali _ _ _⟩⟩
theorem KH (a b c:Int) (w:World):bz Tryz.prog 57 [.int .i64 a,.int .i64 b,.int .i64 c] w λv w'=>v= .bool (decide (b<=a)&&decide (a<=c))∧w=w':=by
 refine bS [.tmp 6] 15 Tryz.func57 rfl acu rfl rfl ?_
 refine W ?_
 apply oB 4 10 14 rfl oQ
 intro _
 exact oQ
 intro xx
 refine W ?_
 exact⟨_,rfl,rfl,rfl⟩
theorem alk (c:UInt8) (w:World):bz Tryz.prog 109 [.int .u8 c.toNat] w λv w'=>v= .bool (eT c)∧w=w':=by
 refine bS [.tmp 2] 33 Tryz.func109 rfl aaG rfl rfl ?_
 refine W ?_
 apply oB 3 5 8 rfl oQ
 intro _
 exact oQ
 intro xx
 refine WZ ?_
 apply oP 7 9 16 rfl oQ
 intro _
 refine WZ ?_
 apply oB 3 12 15 rfl oQ
 intro _
 exact oQ
 intro xx
 exact oQ
 intro xx
 refine WZ ?_
 apply oP 3 17 20 rfl oQ
 intro _
 exact oQ
 intro xx
 refine WZ ?_
 apply oP 3 21 24 rfl oQ
 intro _
 exact oQ
 intro xx
 refine WZ ?_
 apply oP 3 25 28 rfl oQ
 intro _
 exact oQ
 intro xx
 refine WZ ?_
 apply oP 3 29 32 rfl oQ
 intro _
 exact oQ
 intro xx
 refine W ?_
 exact⟨_,rfl,congrArg Value.bool (Ql c),rfl⟩
theorem alm (s:ai) (hs:s.length<9223372036854775807) (w:World):bz Tryz.prog 146 [str s] w λv w'=>v= .bool (s.all gW)∧w=w':=by
 refine bS [.tmp 2] 20 Tryz.func146 rfl aa6 rfl rfl ?_
 refine W ?_
 refine eA (λk:Nat=>[(0,str s),(5,.int .i64 (s.length:Int)),(6,.int .i64 (k:Int))]) (λk w'=>w'=w∧k<=s.length∧(s.take k).all gW=true) (λk=>s.length-k) (0) (⟨rfl,rfl,rfl⟩) (⟨rfl,om,sm⟩) λgg w1 e1 hI=>?_
 obtain⟨rfl,hk,cL⟩:=hI
 refine W ?_
 refine zc rfl (λh1=>?_) (λh1=>?_)
 have dU:gg<s.length:=by omega
 refine W ?_
 refine j3 il rfl rfl rfl rfl (jf dU)<|WZ ?_
 apply oP 5 13 18 rfl oQ
 intro _
 refine zm<|zm<|j3 il rfl rfl rfl rfl (jf dU) ?_
 exact oQ
 intro xx
 refine aZ<|zc rfl (λh3=>?_) (λh3=>?_)
 have hq:s.all gW=false:=ZA dU (QQ h3)
 refine W ?_
 exact⟨_,rfl,by rw[hq];rfl,rfl⟩
 have hc:=QR h3
 refine W ?_
 exact⟨gg+1,⟨rfl,rfl,rfl⟩,⟨rfl,om,by rw[Ln dU,List.all_append,cL];simp only[List.all_cons,hc.2.2];rfl⟩,om⟩
 have hq:s.all gW=true:=by rw[List.take_of_length_le om] at cL;exact cL
 refine W ?_
 exact⟨_,rfl,by rw[hq];rfl,rfl⟩
theorem Pf (s:ai) (hs:s.length<9223372036854775807) (w:World):bz Tryz.prog 120 [str s] w λv w'=>v= .bool (numeral s).isSome∧w=w':=by
 have hl:(er s).length<=s.length:=by unfold er;split<;>simp
 refine bS [.tmp 2] 22 Tryz.func120 rfl aaO rfl rfl ?_
 refine W ?_
 refine aA (alg _ _ _) ?_
 rintro _ _ ⟨rfl,rfl⟩
 refine W ?_
 rw[Zv]
 apply oP 13 8 21 rfl oQ
 intro h1
 refine W ?_
 refine aA (KH _ _ _ _) ?_
 rintro _ _ ⟨rfl,rfl⟩
 refine WZ ?_
 apply oB 3 12 15 rfl oQ
 intro h2
 refine zm<|aA (alm _ om _) ?_
 rintro _ _ ⟨rfl,rfl⟩
 exact oQ
 intro xx
 refine WZ ?_
 apply oB 4 16 20 rfl oQ
 intro h3
 simp at h3
 refine zm<|j3 (i:=0) il rfl rfl rfl rfl (jf om) ?_
 exact oQ
 intro xx
 exact oQ
 intro xx
 refine W ?_
 exact⟨_,rfl,show Value.bool _=Value.bool _ from congrArg _ (ZB s),rfl⟩
theorem Xd (s:ai) {z:Int} (h:numeral s=some z) (w:World):bz Tryz.prog 119 [str s] w λv w'=>v= .int .i64 z∧aj [] w w':=by
 have hK:=aj.refl [] w
 refine bS [.tmp 2] 11 Tryz.func119 rfl aaN rfl rfl ?_
 refine W ?_
 refine aA (alj s h w) ?_
 rintro _ w1 ⟨rfl,aI⟩
 have cV:=aI.size
 have hK:=hK.ext aI
 refine W ?_
 exact⟨_,rfl,rfl,hK⟩
theorem aln (s:ai) (hs:s.length<9223372036854775807) (w:World):bz Tryz.prog 137 [str s] w λv w'=>v= .bool (uQ s)∧aj [] w w':=by
 have hK:=aj.refl [] w
 refine bS [.tmp 2] 10 Tryz.func137 rfl aaZ rfl rfl ?_
 refine W ?_
 refine aA (Pf s hs _) ?_
 rintro _ _ ⟨rfl,rfl⟩
 refine WZ ?_
 apply oA 4 5 9 (aj [] w) rfl oQ
 intro h1
 obtain⟨z,hz⟩:=Option.isSome_iff_exists.1 h1
 have A5:z=(numeral s).getD 0:=by rw[hz];rfl
 refine zm<|aA (Xd s hz w) ?_
 rintro _ w1 ⟨rfl,aI⟩
 have cV:=aI.size
 rw[A5]
 refine aA (KH _ _ _ _) ?_
 rintro _ _ ⟨rfl,rfl⟩
 exact oQ
 intro xx w1 aI
 have hK:=hK.ext aI
 refine W ?_
 exact⟨_,rfl,show Value.bool _=Value.bool _ from congrArg _ (Zz s),hK⟩
theorem Xe (s:ai) (hs:s.length<9223372036854775807) (w:World):bz Tryz.prog 96 [str s] w λr w'=>r= .bool (ni s)∧w=w':=by
 refine bS [.tmp 2] 35 Tryz.func96 rfl acS rfl rfl ?_
 refine W ?_
 refine eA (λk:Nat=>[(0,str s),(6,.int .i64 (s.length:Int)),(7,.int .i64 (k:Int))]) (λk w'=>w'=w∧k<=s.length∧∀j,j<k->BT s j=true) (λk=>s.length-k) (0) (⟨rfl,rfl,rfl⟩) (⟨rfl,om,by intro j hj;omega⟩) λgg w1 e1 hI=>?_
 obtain⟨rfl,hk,cL⟩:=hI
 refine W ?_
 refine zc rfl (λh1=>?_) (λh1=>?_)
 refine W ?_
 refine j3 il rfl rfl rfl rfl (jf om)<|W ?_
 apply oB 3 15 18 rfl oQ
 intro _
 exact oQ
 intro xx
 refine WZ ?_
 apply oP 11 19 30 rfl oQ
 intro _
 refine WZ ?_
 apply oB 3 22 25 rfl oQ
 intro _
 exact oQ
 intro xx
 refine WZ ?_
 apply oB 3 26 29 rfl oQ
 intro _
 exact oQ
 intro xx
 exact oQ
 intro xx
 refine kx rfl rfl rfl<|aZ<|zc rfl (λh6=>?_) (λh6=>?_)
 rw[Ir] at h6
 refine W ?_
 exact⟨_,rfl,by rw[QM om h6];rfl,rfl⟩
 rw[Ir] at h6
 refine W ?_
 exact⟨gg+1,⟨rfl,rfl,rfl⟩,⟨rfl,om,QO cL h6⟩,om⟩
 refine W ?_
 exact⟨_,rfl,by rw[QN (λj hj=>cL j om)];rfl,rfl⟩
theorem Pg (t:aq) (v:Value) (L:List Nat) (w:World) (hv:bB L w v t):bz Tryz.prog 71 [v] w λr w'=>r= .bool (decide (t.ak.length=0))∧aj [] w w':=by
 obtain⟨a,n,c,rfl,hn,aP⟩:=cU hv
 have hK:=aj.refl [] w
 refine bS [.tmp 2] 7 Tryz.func71 rfl acE rfl rfl ?_
 refine zr<|eH rfl λw1 aI aX dk=>?_
 have hK:=hK.ext aI
 refine W ?_
 exact⟨_,rfl,show Value.bool _=Value.bool _ from congrArg _ (decide_eq_decide.2 om),hK⟩
theorem Dy (t:aq) (cm:WF t) (v:Value) (L:List Nat) (w:World) (hv:bB L w v t):bz Tryz.prog 39 [v] w λr w'=>r=str (cw t)∧aj [] w w':=by
 have cO:=hv
 obtain⟨a,n,c,rfl,hn,aP⟩:=cU hv
 have hK:=aj.refl [] w
 refine bS [.tmp 2] 10 Tryz.func39 rfl acm rfl rfl ?_
 refine zr<|eH rfl λw1 aI aX dk=>cN aI hK aP cO λhK aP cO=>?_
 refine W ?_
 refine aA (Pg t _ L w1 cO) ?_
 rintro _ w2 ⟨rfl,az⟩
 have dm:=az.size
 refine cN az hK aP aX λhK aP aX=>?_
 refine aZ<|zc rfl (λh1=>?_) (λh1=>?_)
 have hh:cw t=[]:=FQ (.inr (List.length_eq_zero_iff.1 h1))
 refine W ?_
 exact⟨_,rfl,by rw[hh];rfl,hK⟩
 have j8:0<t.ak.length:=by omega
 have ha:t.aw=[]:=Classical.byContradiction (λh=>by have:=cm.leaf h;rw[this] at j8;exact absurd j8 de)
 have mz:=gh j8
 have hh:cw t=(nth t.ak 0).aw:=FP ha mz
 obtain⟨b,off,pa,pn,pc,rfl,et,eP,fM⟩:=iJ aP mz
 refine WI ?_
 refine zi (i:=0) sv fg rfl rfl (by rw[hn];exact j8)<|W ?_
 exact⟨_,rfl,by rw[hh];rfl,hK⟩
theorem alo (t:aq) (cm:WF t) (h:ai) (k:Int) (v:Value) (L:List Nat) (w:World) (hv:bB L w v t):
  bz Tryz.prog 40 [v,str h,.int .i64 k] w λr w'=>r= .bool (decide ((t.ak.length:Int)=k)&&decide (cw t=h))∧aj [] w w':=by
 have cO:=hv
 obtain⟨a,n,c,rfl,hn,aP⟩:=cU hv
 have hK:=aj.refl [] w
 subst hn
 refine bS [.tmp 6] 18 Tryz.func40 rfl acn rfl rfl ?_
 refine zr<|eH rfl λw1 aI cQ dk=>bI aI hK cO λhK cO=>?_
 refine W ?_
 apply oA 5 12 17 (aj [] w1) rfl oQ
 intro _
 refine W ?_
 refine aA (Dy t cm _ L w1 cO) ?_
 rintro _ w2 ⟨rfl,az⟩
 have dm:=az.size
 exact oQ
 intro xx w2 az
 have hK:=hK.ext az
 refine W ?_
 exact⟨_,rfl,rfl,hK⟩
theorem alp (ts:List aq) (hlen:ts.length<1000000000) (g:aq->Bool) (f:FuncId) (caps:List Value) (v:Value) (L:List Nat) (w:World) (hv:eM L w v ts) 
  (hf:∀i,i<ts.length->∀(u:Value) (w':World),aj [] w w'->bB L w' u (nth ts i)->bz Tryz.prog f (u::caps) w' λr w''=>r= .bool (g (nth ts i))∧aj [] w' w''):
  bz Tryz.prog 202 [v,.func (.func f) #[] caps.toArray] w λr w'=>r= .int .i64 (BV ts g)∧aj [] w w':=by
 obtain⟨a,c,rfl,hlc⟩:=rC hv
 have oF:(cT ts).length=ts.length:=ia ts
 have hK:=aj.refl [] w
 refine bS [.tmp 4] 19 Tryz.func202 rfl abQ rfl rfl ?_
 refine W ?_
 refine eA (λk:Nat=>[(0,.slice a (cT ts).length c),(1,.func (.func f) #[] caps.toArray),(7,.int .i64 ((cT ts).length:Int)),(8,.int .i64 (k:Int))]) (λk w'=>aj [] w w'∧k<=ts.length∧∀i,i<k->g (nth ts i)=false) (λk=>ts.length-k) (0) (⟨rfl,rfl,rfl,rfl⟩) (⟨hK,om,by intro i hi;omega⟩) λgg w1 e1 hI=>?_
 obtain⟨hK,hk,cL⟩:=hI
 have hv:=hv.ext hK
 refine W ?_
 refine zc rfl (λh1=>?_) (λh1=>?_)
 have hp:=gh (ps:=ts) (i:=gg) om
 obtain⟨b,off,pa,pn,pc,rfl,hc,eP,fM⟩:=iJ hv hp
 refine W ?_
 refine Qy rfl rfl rfl (hf gg om _ w1 hK (kV fM)) ?_
 rintro _ w2 ⟨rfl,az⟩
 have dm:=az.size
 have hK:=hK.ext az
 refine aZ<|zc rfl (λh2=>?_) (λh2=>?_)
 have hq:=ZC om cL h2
 refine W ?_
 exact⟨_,rfl,by rw[hq];rfl,hK⟩
 refine W ?_
 exact⟨gg+1,⟨rfl,rfl,rfl,rfl⟩,⟨hK,om,by intro i hi;rcases Nat.lt_or_ge i gg with h|h;exact cL i h;rw[show i=gg by omega];exact h2⟩,om⟩
 have hq:=ZD (λi hi=>cL i om)
 refine W ?_
 exact⟨_,rfl,by rw[hq];rfl,hK⟩
theorem alq (ts:List aq) (hlen:ts.length<1000000000) (g:aq->Bool) (f:FuncId) (caps:List Value) (v:Value) (L:List Nat) (w:World) (hv:eM L w v ts) 
  (hf:∀i,i<ts.length->∀(u:Value) (w':World),aj [] w w'->bB L w' u (nth ts i)->bz Tryz.prog f (u::caps) w' λr w''=>r= .bool (g (nth ts i))∧aj [] w' w''):
  bz Tryz.prog 165 [v,.func (.func f) #[] caps.toArray] w λr w'=>r= .bool (ts.any g)∧aj [] w w':=by
 have hK:=aj.refl [] w
 refine bS [.tmp 4] 9 Tryz.func165 rfl abl rfl rfl ?_
 refine W ?_
 refine aA (alp ts hlen g f caps _ L w hv hf) ?_
 rintro _ w1 ⟨rfl,aI⟩
 have cV:=aI.size
 have hK:=hK.ext aI
 refine W ?_
 exact⟨_,rfl,congrArg Value.bool (ZE ts g),hK⟩
def Xf (m:Nat):Prop:=∀(t:aq),t.size<=m->t.size<=100000->WF t->∀(hidden:Bool) (v:Value) (L:List Nat) (w:World),bB L w v t->
  bz Tryz.prog 136 [v,.bool hidden,.bool false] w λr w'=>r= .bool (fa hidden t)∧aj [] w w'
theorem alr {m:Nat} (ih:Xf m) (t:aq) (h:t.size<=m) (h2:t.size<=100000) (cm:WF t) (hidden:Bool) (b1 b2:Nat) (v:Value) (L:List Nat) (w:World) (hv:bB L w v t) 
  (aX:aJ w b1 #[.bool hidden] 4) (aU:aJ w b2 #[.bool false] 4):
  bz Tryz.prog 166 [v,.pointer (some ⟨b1,0,none⟩),.pointer (some ⟨b2,0,none⟩)] w λr w'=>r= .bool (!fa hidden t)∧aj [] w w':=by
 have cO:=hv
 obtain⟨a,n,c,rfl,hn,aP⟩:=cU hv
 have hK:=aj.refl [] w
 refine bS [.tmp 4] 10 Tryz.func166 rfl abm rfl rfl ?_
 refine zr<|eH rfl λw1 aI cQ dk=>ie aI hK cO aX aU λhK cO aX aU=>?_
 refine W ?_
 refine aA (ih t h h2 cm hidden _ L w1 cO) ?_
 rintro _ w2 ⟨rfl,az⟩
 have dm:=az.size
 have hK:=hK.ext az
 refine W ?_
 exact⟨_,rfl,rfl,hK⟩
end Go.Proofs.YthbhobaiopccaaaGreatDoor
