/- Lemmas for the law FnStart, no statement of their own: no conditions. -/
import Derived.Test.YthbhobaiopccaaaGreatDoorLh
import Derived.Lib.SliceRun
import Derived.OpenShut
import Derived.Shelf.Bits.Mul64
import Derived.Shelf.LaysM
import Derived.Shelf.Slices.Turned
import Derived.Shelf.Small.Wraps
import Derived.Shelf.Strconv.Atoi
import Derived.Shelf.Strconv.Itoa0
import Derived.Shelf.Strconv.Itoa1
import Derived.Shelf.Strconv.Itoa2
import Derived.Shelf.Strconv.Itoa3
import Derived.Shelf.Strings.Builder1
import Derived.Shelf.Strings.Builder2
import Derived.Shelf.Strings.Builder2Cap
import Derived.Shelf.Strings.BuilderCap
import Derived.Shelf.Strings.BuilderF
import Derived.Shelf.Strings.BuilderK
import Derived.Shelf.Strings.Prefix
import Derived.Shelf.Strings.Repeat
set_option maxHeartbeats 4000000
set_option linter.unusedVariables false
set_option linter.unusedSimpArgs false
namespace Go.Proofs.YthbhobaiopccaaaGreatDoor
open Go
variable {m:Mk} {s:cE} {b bytes c i k n q sz:Nat} {z:Value} {E G L L1:List Nat} {w w' w1:World} {T:Ty} {e f:Ex} {t:au} {rows:List (List C)} {bs:List Bk} {a:Option Addr}
theorem Wd {on:Nat} {aU name:ai} {K:Ty} {rest:Ex} (kx:on<1000) (ht:m.types.length+4<1000):(eE m s on aU name K rest).1.types.length<=m.types.length+4∧(eE m s on aU name K rest).1.code.length<=m.code.length+4∧(eE m s on aU name K rest).2.1<1000∧(eE m s on aU name K rest).1.count<=m.count+1∧(eE m s on aU name K rest).1.bJ.length<=m.bJ.length+1:=by
 unfold eE
 split
 ·have h:=Tn m.k7 s on (cI rest [name] []) aU m.aM (dx (bu K)) [bu K]
  refine⟨?_,?_,?_,?_,?_⟩
  ·show(oc m s on aU name K rest).m.types.length<=_
   unfold oc;rw[h.types];exact lR _
  ·show(oc m s on aU name K rest).m.code.length<=_
   unfold oc;rw[h.code];exact lR _
  ·show m.types.length+3<1000;omega
  ·exact lR _
  ·show((oc m s on aU name K rest).m.bJ++[_]).length<=_
   unfold oc;rw[h.bJ,lA];exact lR _
 ·exact⟨by show m.types.length<=_;omega,by show m.code.length<=_;omega,kx,by show m.count<=_;omega,by show m.bJ.length<=_;omega⟩
theorem We (m:Mk) (s:Nat):(sr m s).types.length=m.types.length+3∧(sr m s).code.length=m.code.length+3:=by
 unfold sr;simp[Mk.da,Mk.cC]
structure OJ (s:cE) (name:ai) (rest:Ex):Prop where
 ok:rest.ok
 n:rest.n<=1000
 fv:∀x,x∈cI rest [name] []->(look (ew s) x).isSome=true
 len:(cI rest [name] []).length<=40
theorem ajr (t:Tk) (m:Mk) (f x:Ex) (name:ai) (rest:Ex) (K:Ty) (ba:(Ex.bi j3 f x).ok) (hn:(Ex.bi j3 f x).n<=1000) (eM:bw (.bi j3 f x) (ew t.sc)=some K) (hs:jT t.sc) (oV:t.sc.length<=9000) (qN:t.on<1000) (kx:t.aU.length<=272) (OK:name≠[]->OJ t.sc name rest) (ht:m.types.length+9<1000) (hc:m.code.length<=7000) (wR:m.count<1000) (fE:m.bJ.length<90000) 
  (E L:List Nat) (b bt:Nat) (v vr:Value) (w:World) (h:dC t8 E L w b true m) (hT:gI L w 166 bt t) (dU:bt∈E) (hv:bC L w v (Ex.bi j3 f x).aq) (oy:bC L w vr rest.aq):
  bz Tryz.prog 187 [.pointer (some ⟨b,0,none⟩),.pointer (some ⟨bt,0,none⟩),v,str name,vr] w λr w'=>∃L',dC t8 E L' w' b true (xG (eE (bW (bW m t.sc f.aw).1 t.sc x.aw).1 t.sc t.on t.aU name K rest).1 (bW m t.sc f.aw).2 (bW (bW m t.sc f.aw).1 t.sc x.aw).2 (eE (bW (bW m t.sc f.aw).1 t.sc x.aw).1 t.sc t.on t.aU name K rest).2.1)∧(∃t',gI L' w' 166 bt t'∧t'.aM=t.aM∧t'.regs=t.regs)∧Fr L w L' w':=by
 obtain⟨ar,nr,cr,rfl,pW,aQ⟩:=dj hv
 subst pW
 obtain⟨a9,n9,c9,rfl,AL,_⟩:=dj oy
 subst AL
 have ln:=h.di
 have iK:=lx hs.types eM
 have av:=h
 have hR:=dQ.refl E L w
 have fl:bC L w _ (Ex.bi j3 f x).aq:=hv
 have oW:=oo ba.2.1
 have kV:=oo ba.2.2
 obtain⟨p,hp⟩:∃p,p=bW m t.sc f.aw:=⟨_,rfl⟩
 have vw:p.1.types.length<=m.types.length+1∧p.1.code.length<=m.code.length+1∧p.1.count=m.count∧p.1.bJ=m.bJ∧p.2<1000:=by rw[hp];exact HD hs om
 obtain⟨ptl,pcl,pcn,ptk,p2⟩:=vw
 rw[<-hp]
 obtain⟨q,hq⟩:∃q,q=bW p.1 t.sc x.aw:=⟨_,rfl⟩
 have HE:q.1.types.length<=p.1.types.length+1∧q.1.code.length<=p.1.code.length+1∧q.1.count=p.1.count∧q.1.bJ=p.1.bJ∧q.2<1000:=by rw[hq];exact HD hs om
 obtain⟨qtl,qcl,qcn,qtk,q2⟩:=HE
 rw[<-hq]
 obtain⟨C,hC⟩:∃C,C=eE q.1 t.sc t.on t.aU name K rest:=⟨_,rfl⟩
 have CT:C.1.types.length<=q.1.types.length+4∧C.1.code.length<=q.1.code.length+4∧C.2.1<1000∧C.1.count<=q.1.count+1∧C.1.bJ.length<=q.1.bJ.length+1:=by rw[hC];exact Wd qN om
 obtain⟨Ctl,Ccl,C2,_,_⟩:=CT
 rw[<-hC]
 obtain⟨rc,HF⟩:∃r,r=C.1.types.length:=⟨_,rfl⟩
 obtain⟨me,CU⟩:∃z,z=sr C.1 p.2:=⟨_,rfl⟩
 have OL:me.types.length=C.1.types.length+3∧me.code.length=C.1.code.length+3:=by rw[CU];exact We _ _
 obtain⟨met,mec⟩:=OL
 obtain⟨r,lV⟩:∃r,r=me.types.length:=⟨_,rfl⟩
 obtain⟨c,er⟩:∃c,c=me.code.length:=⟨_,rfl⟩
 have t0:me.types.length=r:=lV.symm
 have c0:me.code.length=c:=er.symm
 have ajs:xG C.1 p.2 q.2 C.2.1=(((me.cC nz [[48],aT (rc+2)]).cC nz [[49],aT q.2]).cC nz [[50],aT C.2.1]).cC zI [aT (rc+1)]:=by rw[CU,HF];rfl
 rw[ajs]
 have N9:(Ex.bi j3 f x).aq.ak.length=3:=rfl
 obtain⟨b1,eR,gd,gh,e1,bF,_⟩:=eS aQ (i:=1) om
 cases e1
 have bF:fp L w _ _ [str f.aq.aw,.slice gd f.aq.ak.length gh]:=bF
 rw[Ex.qH] at bF
 obtain⟨b2,l5,iA,iB,e2,bU,_⟩:=eS aQ (i:=2) om
 cases e2
 have bU:fp L w _ _ [str x.aq.aw,.slice iA x.aq.ak.length iB]:=bU
 rw[Ex.qH] at bU
 refine bX [] 67 Tryz.func187 rfl abD rfl rfl ?_
 refine zr<|eu rfl λw1 aI cQ db=>bI aI av hR λav hR=>?_
 refine eu rfl λw2 az cY dJ=>cG az av hR cQ λav hR cQ=>?_
 refine W ?_
 have cQ:dL L w2 w.heap.size [str (Ex.bi j3 f x).aq.aw,.slice (some ⟨b1,eR,none⟩) (Ex.bi j3 f x).aq.ak.length cr].toArray 74:=⟨cQ,λhx=>by have:=ln _ hx;omega⟩
 have cY:dL L w2 w1.heap.size [str rest.aq.aw,.slice a9 rest.aq.ak.length c9].toArray 74:=⟨cY,λhx=>by have:=ln _ hx;omega⟩
 refine aA (J1 t (Ex.bi j3 f x) ba hn hs.types om _ L bt w2 av.di (hR.tk hT dU) (fl.go hR.fr)) ?_
 rintro v3 w3 ⟨jb,aH⟩
 have eU:=aH.size
 refine gQ aH av hR cQ cY λav hR cQ cY=>?_
 have eN:=jb
 rw[eM] at eN
 subst eN
 refine WI ?_
 refine zi (i:=1) cB aL rfl rfl ((show 1<3 from om))<|zL eQ aL rfl ((bF.go hR.fr).cells) rfl<|aA (CB t f.aw m om om om oV E L b bt _ _ _ w3 av (hR.tk hT dU) dU) ?_
 rintro v20 w4 ⟨pd,L1,av,bD⟩
 rw[<-hp] at pd av
 subst pd
 have hR:=hR.go bD;have cQ:=cQ.go bD.fr;have cY:=cY.go bD.fr
 refine WI ?_
 refine zi (i:=2) cB aL rfl rfl ((show 2<3 from om))<|zL eQ aL rfl ((bU.go hR.fr).cells) rfl<|aA (CB t x.aw p.1 om om om oV E L1 b bt _ _ _ w4 av (hR.tk hT dU) dU) ?_
 rintro v20 w5 ⟨pd,L2,av,bD⟩
 rw[<-hq] at pd av
 subst pd
 have hR:=hR.go bD;have cY:=cY.go bD.fr
 refine W ?_
 refine iD (λ_:Unit=>[(0,.pointer (some ⟨b,0,none⟩)),(1,.pointer (some ⟨bt,0,none⟩)),(11,.int .i64 (p.2:Int)),(12,.int .i64 (q.2:Int))]) (λ_ ww=>∃L3,dC t8 E L3 ww b true C.1∧gI L3 ww 166 bt {t with on:=C.2.1,aU:=C.2.2}∧Fr L w L3 ww) ?_ ?_
 refine zc rfl (λh1=>?_) (λh1=>?_)
 have fS:name≠[]:=(by simpa using h1)
 have aX:=OK fS
 obtain⟨g1,g2,g3,g4⟩:=aX
 have CV:eE q.1 t.sc t.on t.aU name K rest=tw q.1 t.sc t.on t.aU name K rest:=(by unfold eE;rw[iP fS])
 rw[CV] at hC
 refine W ?_
 refine aA (VV t q.1 name K rest g1 g2 g3 g4 hs oV iK qN kx om om om (by rw[qtk,ptk];omega) E L2 b bt _ w5 av (hR.tk hT dU) dU (oy.go hR.fr)) ?_
 rintro v39 w6 ⟨L3,av,dW,yF,_⟩
 rw[<-hC] at av dW
 have hF:=hR.fr.go yF
 refine W ?_
 exact⟨(),⟨rfl,rfl,rfl,rfl⟩,L3,av,dW,hF⟩
 have fS:¬name≠[]:=(by simpa using h1)
 have CV:eE q.1 t.sc t.on t.aU name K rest=(q.1,t.on,t.aU):=(by unfold eE;rw[iN fS])
 rw[CV] at hC
 subst hC
 refine WZ ?_
 exact⟨(),⟨rfl,rfl,rfl,rfl⟩,L2,av,hR.tk hT dU,hR.fr⟩
 intro gu w6 e6 hI
 obtain⟨L3,av,dW,yF⟩:=hI
 have hR:=dQ.refl E L3 w6
 refine zr<|zm<|zm<|aA (Vv C.1 p.2 om om om E L3 b w6 av) ?_
 rintro Wf w7 ⟨B9,L0,av,bD⟩
 rw[<-CU] at av
 rw[<-HF] at B9
 subst B9
 have hR:=hR.go bD
 have cU:=av.di
 refine W ?_
 refine kK bh bf rfl rfl rfl rfl λw8 cA CP kG=>bI cA av hR λav hR=>?_
 refine aA (kJ nz [[48],aT (rc+2)] (mi de sm (by intro z hz;simp at hz;rcases hz with rfl|rfl;(·decide);(·exact lO om))) me om E L0 b _ w8 av (aJ.dK [[48],aT (rc+2)] CP (λhx=>by have:=cU _ hx;omega))) ?_
 rintro jA w9 ⟨L1,av,bD⟩
 have hR:=hR.go bD
 clear CP
 have ij:∃x,x=me.cC nz [[48],aT (rc+2)]:=⟨_,rfl⟩
 obtain⟨m1,lj⟩:=ij
 rw[<-lj] at av
 have t1:m1.types.length=r+0:=(by rw[lj,ot];omega)
 have c1:m1.code.length=c+1:=(by rw[lj,o9];omega)
 have cU:=av.di
 refine W ?_
 refine aA (iq (q.2+1) q.2 om om w9) ?_
 rintro _ bZ ⟨rfl,cj⟩
 have yl:=cj.size
 refine bI cj av hR λav hR=>?_
 have cU:=av.di
 refine kK bh bf rfl rfl rfl rfl λey cS Wg rC=>bI cS av hR λav hR=>?_
 refine aA (kJ nz [[49],aT q.2] (mi de sm (by intro z hz;simp at hz;rcases hz with rfl|rfl;(·decide);(·exact lO om))) m1 om E L1 b _ ey av (aJ.dK [[49],aT q.2] Wg (λhx=>by have:=cU _ hx;omega))) ?_
 rintro jA fa ⟨L2,av,bD⟩
 have hR:=hR.go bD
 clear Wg
 have fh:∃x,x=m1.cC nz [[49],aT q.2]:=⟨_,rfl⟩
 obtain⟨m2,lk⟩:=fh
 rw[<-lk] at av
 have t2:m2.types.length=r+0:=(by rw[lk,ot];omega)
 have c2:m2.code.length=c+2:=(by rw[lk,o9];omega)
 have cU:=av.di
 have aX:=hR.tk dW dU
 obtain⟨u1,u3,u4,u5,u6,u8,cZ,gM⟩:=aX
 have cZ:aJ fa bt [str t.aM,u1,.int .i64 (t.loads:Int),u3,u4,u5,u6,str t.expr.aq.aw,u8,.int .i64 (C.2.1:Int),str C.2.2,.int .i64 (t.next:Int)].toArray 166:=cZ
 refine W ?_
 refine aA (iq (C.2.1+1) C.2.1 om om fa) ?_
 rintro _ jf ⟨rfl,gw⟩
 have Hi:=gw.size
 refine bI gw av hR λav hR=>?_
 have cU:=av.di
 refine kK bh bf rfl rfl rfl rfl λix du Kj Cz=>bI du av hR λav hR=>?_
 refine aA (kJ nz [[50],aT C.2.1] (mi de sm (by intro z hz;simp at hz;rcases hz with rfl|rfl;(·decide);(·exact lO om))) m2 om E L2 b _ ix av (aJ.dK [[50],aT C.2.1] Kj (λhx=>by have:=cU _ hx;omega))) ?_
 rintro jA o7 ⟨L3,av,bD⟩
 have hR:=hR.go bD
 clear Kj
 have yy:∃x,x=m2.cC nz [[50],aT C.2.1]:=⟨_,rfl⟩
 obtain⟨m3,ll⟩:=yy
 rw[<-ll] at av
 have t3:m3.types.length=r+0:=(by rw[ll,ot];omega)
 have c3:m3.code.length=c+3:=(by rw[ll,o9];omega)
 have cU:=av.di
 refine W ?_
 refine fF bh bf rfl rfl λlh mQ Wh GK=>bI mQ av hR λav hR=>?_
 refine aA (kJ zI [aT (rc+1)] (mi de sm (by intro z hz;simp at hz;subst hz;exact lO om)) m3 om E L3 b _ lh av (aJ.dK [aT (rc+1)] Wh (λhx=>by have:=cU _ hx;omega))) ?_
 rintro jA CA ⟨L4,av,bD⟩
 have hR:=hR.go bD
 clear Wh
 have CH:∃x,x=m3.cC zI [aT (rc+1)]:=⟨_,rfl⟩
 obtain⟨m4,oD⟩:=CH
 rw[<-oD] at av
 have t4:m4.types.length=r+0:=(by rw[oD,ot];omega)
 have c4:m4.code.length=c+4:=(by rw[oD,o9];omega)
 have cU:=av.di
 refine W ?_
 subst oD ll lk lj
 exact⟨_,rfl,_,av,⟨_,hR.tk dW dU,rfl,rfl⟩,yF.go hR.fr⟩
/-! ### Cells of one block that are written -/
def KW (b:Nat) (T:TypeId) (ws:List (Nat×Value)) (w w':World):Prop:=aj [b] w w'∧∀cs,aJ w b cs T->∃cs',aJ w' b cs' T∧cs'.size=cs.size∧∀j:Nat,cs'[j]?=cs[j]?∨∃v,(j,v)∈ws∧cs'[j]?=some v
theorem aju {cs:Array Value} {vs:List Value} (h:k+vs.length<=cs.size) (j:Nat):(setAt cs k vs)[j]?=if k<=j∧j<k+vs.length then vs[j-k]? else cs[j]?:=by
 rw[<-Array.getElem?_toList,IT _ _ _ h,List.getElem?_append,List.getElem?_append,List.getElem?_take,List.getElem?_drop,List.length_take,Array.length_toList,Nat.min_eq_left om]
 by_cases h1:j<k
 ·rw[iP h1,iP h1,iN om];simp
 ·rw[iN h1]
  by_cases h2:j<k+vs.length
  ·rw[iP om,iP ⟨by omega,h2⟩]
  ·rw[iN om,iN om]
   have:k+vs.length+(j-k-vs.length)=j:=by omega
   rw[this];simp
def rowAt (o:Nat):List Value->List (Nat×Value)
 |[]=>[]
 |v::vs=>(o,v)::rowAt (o+1) vs
theorem ajv:∀{vs:List Value} {o j:Nat} {v:Value},(j,v)∈rowAt o vs↔o<=j∧vs[j-o]?=some v:=by intro x;induction x<;>grind [rowAt]
section
variable {P:Program} {n:Nat} {ops:Array Oper} {K:Env->World->Prop} {rest:List Oper} {e:Env} {w:World}
 {dst:Option Nat} {ty:TypeId} {pos:String} {after:Array Edge} {g:Option (Nat×Bool)} {x y:Operand}
theorem ajw {T U:Nat} {v:Value} {vs:List Value} {o:Nat} {cs:Array Value} (jL:TI P T sz bytes z) (hg:gate ops e g=true) (hx:ev e x= .pointer (some ⟨b,o,none⟩)) (hy:ev e y=v) (hv:v.cells=vs.toArray) (hl:Nat.beq vs.length sz=true) (h1:vs.all Value.oneCell'=true) 
  (hb:aJ w b cs U) (ho:o+vs.length<=cs.size)
  (k:∀w',aj [b] w w'->aJ w' b (setAt cs o vs) U->KW b U (rowAt o vs) w w'->w'.heap.size=w.heap.size->OW P n ops K rest e w'):
  OW P n ops K (⟨none,.store T x y,ty,pos,after,g⟩::rest) e w:=by
 have fR:vs.length=sz:=Nat.eq_of_beq_eq_true hl
 obtain⟨w',jK,hk,gO,hz⟩:=MA (P:=P) vs 0 w b o U cs hb om (λu hu=>List.all_eq_true.1 h1 u hu)
 rw[Nat.add_zero] at gO
 refine HY hg (w':=w') (by
  simp[execOp,Instr.storeAt,Instr.sureAddr,hx,hy,storeVar,hv,jL.sZ,fR,jK]) (k w' hk gO ⟨hk,λcs2 h2=>?_⟩ hz)
 have e:cs2=cs:=by
  unfold aJ at h2 hb
  rw[h2] at hb
  injection hb with h;injection h
 subst e
 refine⟨_,gO,Mz _ _ _,λj=>?_⟩
 rw[aju ho]
 split
 ·rename_i h
  obtain⟨v,hv⟩:∃v,vs[j-o]?=some v:=⟨vs[j-o]'om,gE om⟩
  exact .inr ⟨v,ajv.2 ⟨h.1,hv⟩,hv⟩
 ·exact .inl rfl
end
section
variable {P:Program} {n:Nat} {ops:Array Oper} {K:Env->World->Prop} {rest:List Oper} {e:Env} {w:World}
 {dst:Option Nat} {ty:TypeId} {pos:String} {after:Array Edge} {g:Option (Nat×Bool)} {x y:Operand}
end
theorem Wi (xs:List ai):∀row,row∈il xs->∀c,c∈row->∀v,c= .val v->v.oneCell'=true:=by
 intro row hr c hc v hv
 obtain⟨n,_,rfl⟩:=List.mem_map.1 hr
 simp at hc;subst hc;cases hv;rfl
theorem dQ.gX (k:dQ E L w L1 w1) {cs:Array Value} {T:TypeId} (h:aJ w b cs T) (hb:b∈E):aJ w1 b cs T:=let⟨_,kg,hG⟩:=k.out;h.aG kg λhx=>hG b hx hb
def qx (bt:Nat) (E:List Nat) (w w':World):Prop:=∃G,aj G w w'∧∀z,z∈G->z∈E->z=bt
theorem dQ.ft (k:dQ E L w L1 w1) (bt:Nat):qx bt E w w1:=let⟨G,kg,hG⟩:=k.out;⟨G,kg,λz hz rX=>absurd rX (hG z hz)⟩
theorem qx.trans {bt:Nat} {w2:World} (h:qx bt E w w1) (k:qx bt E w1 w2):qx bt E w w2:=let⟨G,kg,hG⟩:=h;let⟨G2,kg2,yh⟩:=k;⟨G++G2,(kg.mono λx hx=>List.mem_append_left _ hx).trans (kg2.mono λx hx=>mR _ hx),λz hz rX=>(mA.1 hz).elim (λh=>hG z h rX) (λh=>yh z h rX)⟩
theorem qx.sub {bt x:Nat} (h:qx bt (x::E) w w1):qx bt E w w1:=let⟨G,kg,hG⟩:=h;⟨G,kg,λz hz rX=>hG z hz (mK _ rX)⟩
theorem qx.of {bt:Nat} (k:aj G w w1) (hG:∀z,z∈G->z∈E->z=bt):qx bt E w w1:=⟨G,k,hG⟩
theorem qx.gX {bt:Nat} (k:qx bt E w w1) {cs:Array Value} {T:TypeId} (h:aJ w b cs T) (hb:b∈E) (hn:b≠bt):aJ w1 b cs T:=let⟨_,kg,hG⟩:=k;h.aG kg λhx=>hn (hG b hx hb)
theorem ajz (t:Tk) (m:Mk) (c xa y:Ex) (name:ai) (rest:Ex) (K:Ty) (ba:(Ex.ite c xa y).ok) (hn:(Ex.ite c xa y).n<=1000) (eM:bw (.ite c xa y) (ew t.sc)=some K) (hs:jT t.sc) (oV:t.sc.length<=9000) (qN:t.on<1000) (kx:t.aU.length<=272) (OK:name≠[]->OJ t.sc name rest) (ht:m.types.length+9<1000) (hc:m.code.length<=7000) (wR:m.count+1<1000) (fE:m.bJ.length<90000) 
  (E L:List Nat) (b bt:Nat) (v vr:Value) (w:World) (h:dC t8 E L w b true m) (hT:gI L w 166 bt t) (dU:bt∈E) (hv:bC L w v (Ex.ite c xa y).aq) (oy:bC L w vr rest.aq):
  bz Tryz.prog 188 [.pointer (some ⟨b,0,none⟩),.pointer (some ⟨bt,0,none⟩),v,str name,vr] w λr w'=>∃L',bC L' w' r y.aq∧dC t8 E L' w' b true (Gt (eE (bW m t.sc c.aw).1 t.sc t.on t.aU name K rest).1 t.sc (eE (bW m t.sc c.aw).1 t.sc t.on t.aU name K rest).2.1 (eE (bW m t.sc c.aw).1 t.sc t.on t.aU name K rest).2.2 (bW m t.sc c.aw).2 xa)∧gI L' w' 166 bt {t with on:=(eE (bW m t.sc c.aw).1 t.sc t.on t.aU name K rest).2.1,aU:=(eE (bW m t.sc c.aw).1 t.sc t.on t.aU name K rest).2.2}∧Fr L w L' w'∧qx bt E w w':=by
 obtain⟨ar,nr,cr,rfl,pW,aQ⟩:=dj hv
 subst pW
 obtain⟨a9,n9,c9,rfl,AL,_⟩:=dj oy
 subst AL
 have ln:=h.di
 have iK:=lx hs.types eM
 have av:=h
 have hR:=dQ.refl E L w
 have fl:bC L w _ (Ex.ite c xa y).aq:=hv
 have jB:=oo ba.1
 obtain⟨p,hp⟩:∃p,p=bW m t.sc c.aw:=⟨_,rfl⟩
 have vw:p.1.types.length<=m.types.length+1∧p.1.code.length<=m.code.length+1∧p.1.count=m.count∧p.1.bJ=m.bJ∧p.2<1000:=by rw[hp];exact HD hs om
 obtain⟨ptl,pcl,pcn,ptk,p2⟩:=vw
 rw[<-hp]
 obtain⟨C,hC⟩:∃C,C=eE p.1 t.sc t.on t.aU name K rest:=⟨_,rfl⟩
 have CT:C.1.types.length<=p.1.types.length+4∧C.1.code.length<=p.1.code.length+4∧C.2.1<1000∧C.1.count<=p.1.count+1∧C.1.bJ.length<=p.1.bJ.length+1:=by rw[hC];exact Wd qN om
 obtain⟨Ctl,Ccl,C2,Ccn,Ctk⟩:=CT
 rw[ptk] at Ctk
 rw[<-hC]
 have hCn:C.1.count<1000:=by omega
 have Hu:=Au hCn
 obtain⟨m1,rN⟩:∃z,z=C.1.k7.cC FU [aT p.2,C.1.aM]:=⟨_,rfl⟩
 have ajB:m1.types=C.1.types:=by rw[rN];rfl
 have ajC:m1.bJ=C.1.bJ:=by rw[rN];rfl
 have hif:Gt C.1 t.sc C.2.1 C.2.2 p.2 xa={m1 with bJ:=m1.bJ++[⟨C.1.aM,m1.types,0,[],t.sc,xa,C.2.1,C.2.2,m1.types.length⟩]}:=by rw[rN];rfl
 rw[hif]
 have Jy:(Ex.ite c xa y).aq.ak.length=4:=rfl
 obtain⟨b1,eR,gd,gh,e1,bF,_⟩:=eS aQ (i:=1) om
 cases e1
 have bF:fp L w _ _ [str c.aq.aw,.slice gd c.aq.ak.length gh]:=bF
 rw[Ex.qH] at bF
 obtain⟨b2,l5,iA,iB,e2,bU,dG⟩:=eS aQ (i:=2) om
 cases e2
 have bU:fp L w _ _ [str xa.aq.aw,.slice iA xa.aq.ak.length iB]:=bU
 have dG:bC L w (.agg #[str xa.aq.aw,.slice iA xa.aq.ak.length iB]) xa.aq:=dG
 obtain⟨b3,Cf,pM,pN,e3,dM,dW⟩:=eS aQ (i:=3) om
 cases e3
 have dM:fp L w _ _ [str y.aq.aw,.slice pM y.aq.ak.length pN]:=dM
 have dW:bC L w (.agg #[str y.aq.aw,.slice pM y.aq.ak.length pN]) y.aq:=dW
 refine jr [.cell 10 74] 81 Tryz.func188 rfl abE rfl rfl rfl ?_
 refine zr<|eu rfl λw1 aI cQ db=>bI aI av hR λav hR=>?_
 refine eu rfl λw2 az cY dJ=>cG az av hR cQ λav hR cQ=>?_
 refine dk aL rfl rfl rfl λw3 aH j7 xN=>bI aH cQ cY λcQ cY=>?_
 have av:=av.sQ aH sm (lR _) j7.lt
 have pV:=(dQ.refl E L w2).more aH sm (lR _) (λz hz=>by have:=ln z (h.sub hz);omega)
 have HG:Fr L w (w2.heap.size::L) w3:=hR.fr.go pV.fr
 have OM:=(hR.ext aH).ft bt
 have hT:=(hR.tk hT dU)
 have hT:=pV.tk hT dU
 have hR:=dQ.refl (w2.heap.size::E) (w2.heap.size::L) w3
 have qW:bt∈w2.heap.size::E:=mK _ dU
 have EK:w2.heap.size∈w2.heap.size::E:=List.mem_cons_self ..
 have OO:=j7
 refine W ?_
 have Kl:∀z,z∈w2.heap.size::L->z=w2.heap.size∨z<w.heap.size:=(λz hz=>(mC.1 hz).imp id (ln z))
 have cQ:dL (w2.heap.size::L) w3 w.heap.size [str (Ex.ite c xa y).aq.aw,.slice (some ⟨b1,eR,none⟩) (Ex.ite c xa y).aq.ak.length cr].toArray 74:=⟨cQ,λhx=>by have:=Kl _ hx;omega⟩
 have cY:dL (w2.heap.size::L) w3 w1.heap.size [str rest.aq.aw,.slice a9 rest.aq.ak.length c9].toArray 74:=⟨cY,λhx=>by have:=Kl _ hx;omega⟩
 have j9:aJ w3 w2.heap.size [str [],.slice none 0 0].toArray 74:=OO
 refine aA (J1 t (Ex.ite c xa y) ba hn hs.types om _ _ bt w3 av.di (hR.tk hT qW) (fl.go (HG.go hR.fr))) ?_
 rintro v4 w4 ⟨jU,aO⟩
 have fG:=aO.size
 refine gQ aO av hR cQ cY λav hR cQ cY=>?_
 have eN:=jU
 rw[eM] at eN
 subst eN
 refine WI ?_
 refine zi (i:=1) cB aL rfl rfl ((show 1<4 from om))<|zL eQ aL rfl ((bF.go (HG.go hR.fr)).cells) rfl<|aA (CB t c.aw m om om om oV (w2.heap.size::E) _ b bt _ _ _ w4 av (hR.tk hT qW) qW) ?_
 rintro v20 w5 ⟨pd,L1,av,bD⟩
 rw[<-hp] at pd av
 subst pd
 have hR:=hR.go bD;have cQ:=cQ.go bD.fr;have cY:=cY.go bD.fr
 have j9:=hR.gX j9 EK
 refine W ?_
 refine iD (λ_:Unit=>[(0,.pointer (some ⟨b,0,none⟩)),(1,.pointer (some ⟨bt,0,none⟩)),(7,.pointer (some ⟨w.heap.size,0,none⟩)),(10,.pointer (some ⟨w2.heap.size,0,none⟩)),(12,.int .i64 (p.2:Int))]) (λ_ ww=>∃L3,dC t8 (w2.heap.size::E) L3 ww b true C.1∧gI L3 ww 166 bt {t with on:=C.2.1,aU:=C.2.2}∧Fr L w L3 ww∧Fr L1 w5 L3 ww∧aJ ww w2.heap.size [str [],.slice none 0 0].toArray 74∧qx bt E w ww) ?_ ?_
 refine zc rfl (λh1=>?_) (λh1=>?_)
 have fS:name≠[]:=(by simpa using h1)
 have aX:=OK fS
 obtain⟨g1,g2,g3,g4⟩:=aX
 have CV:eE p.1 t.sc t.on t.aU name K rest=tw p.1 t.sc t.on t.aU name K rest:=(by unfold eE;rw[iP fS])
 rw[CV] at hC
 have dH:w2.heap.size≠bt:=(λe9=>by have:=ln bt (h.sub dU);omega)
 refine W ?_
 refine aA (VV t p.1 name K rest g1 g2 g3 g4 hs oV iK qN kx om om om (by rw[ptk];omega) (w2.heap.size::E) L1 b bt _ w5 av (hR.tk hT qW) qW (oy.go (HG.go hR.fr))) ?_
 rintro v39 w6 ⟨L3,av,Wj,yF,G9,aC,EL⟩
 rw[<-hC] at av Wj
 have hF:=(HG.go hR.fr).go yF
 have j9:=(hR.gX OO EK).aG aC (λhx=>dH (EL _ hx EK))
 have hOq:=(OM.trans (hR.ft bt).sub).trans (qx.of aC (λz hz rX=>EL z hz (mK _ rX)))
 refine W ?_
 exact⟨(),⟨rfl,rfl,rfl,rfl,rfl⟩,L3,av,Wj,hF,yF,j9,hOq⟩
 have fS:¬name≠[]:=(by simpa using h1)
 have CV:eE p.1 t.sc t.on t.aU name K rest=(p.1,t.on,t.aU):=(by unfold eE;rw[iN fS])
 rw[CV] at hC
 subst hC
 refine WZ ?_
 exact⟨(),⟨rfl,rfl,rfl,rfl,rfl⟩,L1,av,hR.tk hT qW,HG.go hR.fr,Fr.refl _ _,hR.gX OO EK,OM.trans (hR.ft bt).sub⟩
 intro gu w6 e6 hI
 obtain⟨L3,av,dv,yF,hF9,j9,hOc⟩:=hI
 have hR:=dQ.refl (w2.heap.size::E) L3 w6
 have Wk:=cQ.go hF9
 have ajH:=j9
 refine zr<|zm<|aA (Oa C.1 om (w2.heap.size::E) L3 b true w6 av) ?_
 rintro v34 w7 ⟨⟨e34,av⟩,ajJ⟩
 subst e34
 have ajK:=av.mem.1 b sm
 have kh:=av.mem.2.2.1
 have hR:=hR.aD ajJ ajK kh
 refine W ?_
 refine aA (iq (p.2+1) p.2 om om w7) ?_
 rintro _ w8 ⟨rfl,cA⟩
 have yk:=cA.size
 refine bI cA av hR λav hR=>?_
 have cU:=av.di
 refine zm<|kK bh bf rfl rfl rfl rfl λw9 aC yd df=>bI aC av hR λav hR=>?_
 refine aA (kJ FU [aT p.2,C.1.aM] (mi de sm (by intro z hz;simp at hz;rcases hz with rfl|rfl;(·exact lO om);(·omega))) C.1.k7 (show C.1.code.length<100000 from om) (w2.heap.size::E) L3 b _ w9 av (aJ.dK [aT p.2,C.1.aM] yd (λhx=>by have:=cU _ hx;omega))) ?_
 rintro v40 bZ ⟨L4,av,bD⟩
 rw[<-rN] at av
 have hR:=hR.go bD
 clear yd
 have jW:=hR.tk dv qW
 obtain⟨u1,u3,u4,u5,u6,u8,cZ,gM⟩:=jW
 have cU:=av.di
 have tV:=hR
 have lM:=av
 refine W ?_
 refine dk mx rfl rfl rfl λey cS fI Cz=>?_
 have jZ:=cS
 refine cw mx rfl rfl gM.one fI rfl λfa cV fI df=>?_
 have jZ:=jZ.since cV (λx hx=>.inr (by simp at hx;omega))
 refine W ?_
 refine fz (o:=0) bf rfl rfl rfl fI rfl λjf gw fI df=>?_
 have jZ:=jZ.since gw (λx hx=>.inr (by simp at hx;omega))
 have qp:=lM.ext jZ
 have hwq:=jZ.size
 have aX:=qp.open
 obtain⟨Km,vt9,vc9,vy9,gb9,gt9,gc9,gy9,Cr,AJ⟩:=aX
 have aX:=jw AJ.ty
 obtain⟨ay9,Hf,ey9⟩:=aX
 subst ey9
 have hbz:=fI.lt
 have OP:=jf
 refine aZ<|zr<|xw jf.heap.size [] bh bf rfl rfl (lR _) sm λix du Jx wm=>bI du fI jZ λfI jZ=>?_
 have qV:=du
 have Cr:=Cr.ext du
 refine W ?_
 refine wa bh bf rfl rfl rfl rfl rfl rfl wm (((AJ.ty.ext qV).rep (L:=[jf.heap.size]) (λx hx kV=>by have:=AJ.ty.lt x (by simp[hx]);simp at kV;omega)).fresh (λx hx=>.inl (by simpa using hx))) (Wi _) (by rw[qB,ajB];simp;omega) λa4 ir g4 o7 kv jg=>?_
 rw[List.nil_append] at kv
 have jZ:=jZ.since jg (λx hx=>.inr (by simp at hx;omega))
 have fI:=fI.aG jg so
 have kP:=kv.se
 have jH:=kv.low
 refine zf RJ rfl<|fz (o:=1) kz rfl rfl rfl fI rfl λlh mQ fI df=>?_
 have jZ:=jZ.since mQ (λx hx=>.inr (by simp at hx;omega))
 have kP:=kP.aG mQ (λz hz dJ=>by have:=jH z hz;simp at dJ;omega)
 refine W ?_
 refine fz (o:=2) p6 rfl rfl rfl fI rfl λCA yr fI df=>?_
 have jZ:=jZ.since yr (λx hx=>.inr (by simp at hx;omega))
 have kP:=kP.aG yr (λz hz dJ=>by have:=jH z hz;simp at dJ;omega)
 have wc:=fI.lt
 refine aZ<|zr<|fN bh bf λwP CI CX ajM=>cG CI fI jZ kP λfI jZ kP=>?_
 refine zf Ip rfl<|fz (o:=3) kz rfl rfl rfl fI rfl λCJ AR fI df=>?_
 have jZ:=jZ.since AR (λx hx=>.inr (by simp at hx;omega))
 have kP:=kP.aG AR (λz hz dJ=>by have:=jH z hz;simp at dJ;omega)
 have CX:=CX.aG AR so
 have cQ:=(Wk.go tV.fr).ext jZ
 have Wl:=yF.go tV.fr
 refine WI ?_
 refine zi (i:=2) cB aL rfl rfl ((show 2<4 from om))<|zL eQ aL rfl (((bU.go Wl).ext jZ).cells) rfl<|zf RK rfl<|ajw (vs:=[str xa.aq.aw,.slice iA xa.aq.ak.length iB]) aL rfl rfl rfl rfl rfl rfl fI (Nat.le_of_ble_eq_true rfl) λvq wU fI aqh df=>?_
 have jZ:=jZ.since wU (λx hx=>.inr (by simp at hx;omega))
 have kP:=kP.aG wU (λz hz dJ=>by have:=jH z hz;simp at dJ;omega)
 have CX:=CX.aG wU so
 have qp:=lM.ext jZ
 have aX:=qp.open
 obtain⟨vb8,vt8,vc8,vy8,gb8,gt8,gc8,gy8,aqq,hS8⟩:=aX
 have aX:=jw hS8.ty
 obtain⟨ay8,cy8,ey8⟩:=aX
 subst ey8
 refine W ?_
 refine fz (o:=11) p6 rfl rfl rfl fI rfl λqT wQ fI df=>?_
 have jZ:=jZ.since wQ (λx hx=>.inr (by simp at hx;omega))
 have kP:=kP.aG wQ (λz hz dJ=>by have:=jH z hz;simp at dJ;omega)
 have CX:=CX.aG wQ so
 have av:=lM.sQ jZ sm (lR _) fI.lt
 have wV:Fr L4 bZ (bZ.heap.size::L4) qT:=((dQ.refl [] L4 bZ).more jZ sm (lR _) sm).fr
 have hR:=tV.more jZ sm (lR _) (λz hz=>cU z (lM.sub hz))
 have Wm:∀z,z∈bZ.heap.size::L4->z<=bZ.heap.size:=(λz hz=>by rcases mC.1 hz with h9|h9;(·omega);(·have:=cU z h9;omega))
 have CY:ek (bZ.heap.size::L4) qT (.slice iA xa.aq.ak.length iB) xa.aq.ak:=(by have df:=dj (dG.go (Wl.go wV));obtain⟨_,_,_,e9,_,vw⟩:=df;cases e9;exact vw)
 have fJ:gI (bZ.heap.size::L4) qT 166 bZ.heap.size (Tk.mk C.1.aM m1.types 0 [] t.sc xa C.2.1 C.2.2 m1.types.length):=⟨_,_,_,_,_,_,fI,⟨kP.rep (λz hz HH=>by have:=jH z hz;have:=Wm z HH;omega),CX.kL.rep (λz hz HH=>by have:=Wm z HH;simp at hz;omega),gM.aK.go wV,gM.at_.go wV,gM.types.go wV,CY⟩⟩
 have J3:m1.bJ.length<100000:=(by rw[ajC];omega)
 have aX:=av.open
 obtain⟨vb,vt,vc,vy,gb,gt,gc,gy,wJ,hS⟩:=aX
 have aX:=hS.apart
 obtain⟨vi,lN,tT,mh,vj,tU⟩:=aX
 obtain⟨u1,u3,u4,u5,u6,u8,Hy,sS⟩:=fJ
 have bj:dL gt.toList qT b [vb,vt,.int .i64 ((m1).count:Int),.bool (m1).wide,vc,vy].toArray 164:=⟨wJ,λhx=>(mh b hx).2.1 rfl⟩
 have fI:dL gt.toList qT bZ.heap.size (pE (Tk.mk C.1.aM m1.types 0 [] t.sc xa C.2.1 C.2.2 m1.types.length) u1 u3 u4 u5 u6 u8).toArray 166:=⟨Hy,λhx=>(mh bZ.heap.size hx).1 sm⟩
 have pP:eJ gt.toList qT:=(λx hx=>hS.cD x (hS.mem.2 (by simp[hx])))
 have AX:∀x,x∈gt.toList->x∈(bZ.heap.size::L4):=(λx hx=>hS.mem.2 (by simp[hx]))
 refine W ?_
 apply jF cT gt.toList 8 (rA 67 8) (rA 67 8) [[],[],[1],[2],[3],[],[5],[4,6]] [Ie.v _,Ie.v _,Ie.v _,Ie.v _,Ie.v _,Ie.v _,Ie.p (fun(G:List Nat) (v:Value) (ww:World)=>∃bb,v= .slice (some ⟨bb,0,none⟩) 1 1∧dL G ww bb (pE (Tk.mk C.1.aM m1.types 0 [] t.sc xa C.2.1 C.2.2 m1.types.length) u1 u3 u4 u5 u6 u8).toArray 166),Ie.e 0] [7] [fun(G:List Nat) (vs:List Value) (ww:World)=>G=gt.toList∧aj [] qT ww,fun(G:List Nat) (vs:List Value) (ww:World)=>∃g2,dD (gt.toList++(g2.toList++(bZ.heap.size::L4))) ww 166 12 (vs.getD 0 undef) g2 (((m1).bJ++[(Tk.mk C.1.aM m1.types 0 [] t.sc xa C.2.1 C.2.2 m1.types.length)]).map Tk.enc)∧aj gt.toList qT ww∧(g2=gt∨∃x,g2=some x∧qT.heap.size<=x)] de rfl pP (by exact⟨λG v w G' w' ⟨bb,e,h⟩ k=>⟨bb,e,h.go k⟩,trivial⟩) (by exact⟨λG vs w w' ⟨h1,h2⟩ k=>⟨h1,h2.ext k⟩,λG vs w w' ⟨g2,h1,h2,h3⟩ k=>⟨g2,h1.ext k,h2.ext k,h3⟩,trivial⟩) (⟨rfl,aj.refl _ _⟩)
 refine FA ?_
 refine vf (λx J8 G22 aR AU Wn=>?_) ?_
 refine sC [_] [pE (Tk.mk C.1.aM m1.types 0 [] t.sc xa C.2.1 C.2.2 m1.types.length) u1 u3 u4 u5 u6 u8] zw mx rfl rfl rfl rfl rfl rfl rfl rfl rfl λVJ J9 Nx VX=>?_
 exact ff J9 (⟨_,rfl,Nx.o Wn⟩)
 refine ve 0 (λx J8 G22 aR AU Wn hJ hlen=>?_) ?_
 have aV:=jj hlen
 subst aV
 intro v6 d6
 obtain⟨bb,e6,fH⟩:=d6
 subst e6
 obtain⟨bP,bS⟩:=hJ
 subst bP
 have xU:=(hS.ta.any bS).sub (L':=gt.toList++(bZ.heap.size::L4)) (λx hx=>.inl (by rcases mA.1 hx with h|h;(·exact AX x h);(·exact h)))
 have AZ:=sS.ext bS
 refine B0 (L:=(bZ.heap.size::L4)) (row:=Tk.enc (Tk.mk C.1.aM m1.types 0 [] t.sc xa C.2.1 C.2.2 m1.types.length)) zw mx rfl rfl rfl rfl rfl rfl xU rfl fH.all (λu hu=>List.all_eq_true.1 AZ.one u hu) (AZ.go ((Fr.refl _ _).to (L2:=gt.toList++(bZ.heap.size::L4)) (λx hx=>.inl (by rcases mA.1 hx with h|h;(·exact AX x h);(·exact h))))).Bx (by rw[List.length_map];omega) λv9 g9 VJ cO tW eA=>?_
 exact fe g9.toList (⟨tW.aG,λx hx=>by rcases eA with h|h;(·rw[h] at hx;exact .inl hx);(·rw[h] at hx;simp at hx;right;omega)⟩) ((λx hx=>cO.lt x hx)) (⟨g9,by rw[List.map_append];exact cO,bS.any.trans tW.aG,eA.imp id (λh=>⟨_,h,bS.size⟩)⟩)
 exact trivial
 intro x Wo G61 aR ajQ aqu hJ hlen
 have aX:=jk hlen
 obtain⟨q0,aV⟩:=aX
 subst aV
 intro v6 d6
 have bj:=bj.go ajQ
 change OW _ _ _ _ _ (bm (bg _ x _) (zZ 67 [_,_,_,_,_,_,_,_])) _
 obtain⟨g2,cO,ej,iT⟩:=hJ
 have aX:=hS.FC cO ej iT
 obtain⟨L3,fx,jo⟩:=aX
 have aX:=cO.len
 obtain⟨a3,c3,e3⟩:=aX
 have e4:q0=_:=e3
 subst e4
 have bj:aJ _ b [vb,vt,.int .i64 ((m1).count:Int),.bool (m1).wide,vc,vy].toArray 164:=wJ.aG ej (λhx=>(mh b hx).2.1 rfl)
 refine W ?_
 refine fz (o:=1) Ir rfl rfl rfl bj rfl λrZ pe bj df=>?_
 have fx:=fx.aG pe sm
 have av:dC t8 (bZ.heap.size::w2.heap.size::E) L3 rZ b true {m1 with bJ:=(m1).bJ++[(Tk.mk C.1.aM m1.types 0 [] t.sc xa C.2.1 C.2.2 m1.types.length)]}:=⟨_,_,_,_,_,_,_,_,bj,fx⟩
 have hR:=(hR.add jo ej (λx hx vv=>(mh x hx).1 (by simp[vv]))).aD pe (fx.mem.2 (.inr (.inl rfl))) (λvv=>lN (by simp[vv]))
 have vA:=av.drop
 obtain⟨L5,eL5,av⟩:=vA
 have hR:=hR.sub (L2:=L5) (λz hz=>by rw[eL5];simp[hz])
 have cQ:=Wk.go hR.fr
 have CZ:=yF.go hR.fr
 have j9:=hR.gX ajH EK
 have jW:=hR.tk dv qW
 refine WI ?_
 refine zi (i:=3) cB aL rfl rfl ((show 3<4 from om))<|zL eQ aL rfl ((dM.go CZ).cells) rfl<|cw (vs:=[str y.aq.aw,.slice pM y.aq.ak.length pN]) aL rfl rfl rfl j9 rfl λC1 sU j9 df=>?_
 have av:=av.aG sU sm
 have hOz:=(hOc.trans (hR.ft bt).sub).trans (qx.of sU (λz hz rX=>by simp at hz;have:=ln z (h.sub rX);omega))
 have Wp:=av.sub EK
 have jW:gI L5 C1 166 bt {t with on:=C.2.1,aU:=C.2.2}:=jW.go (Fr.of sU (by simpa using Wp)) sU (by simp;intro e9;have:=ln bt (h.sub dU);omega)
 have CZ:=CZ.aD sU (by simpa using Wp)
 have vA:=av.drop
 obtain⟨L6,OQ,av⟩:=vA
 have A6:Fr L5 C1 L6 C1:=(Fr.refl L5 C1).to (λz hz=>.inl (by rw[OQ];simp[hz]))
 have CZ:=CZ.go A6
 refine W ?_
 exact⟨[_],fb eQ aL rfl j9 rfl,L6,dW.go CZ,av,jW.go A6 (aj.refl [] _) sm,CZ,hOz⟩
theorem Wq (h:e.ok):cg e.aq=e.head:=by
 cases e with
 |«at» s=>unfold cg;rw[iP (.inl (show s≠[] from pz h))];rfl
 |un hd a=>rfl
 |bi hd a b=>rfl
 |ite a b c=>rfl
 |lt x a b=>rfl
 |fn f x A B b=>rfl
theorem ajT (h:e.ok) (he:e.head=j3):∃f x,e= .bi j3 f x:=by
 cases e with
 |bi hd a b=>have he:hd=j3:=he;subst he;exact⟨a,b,rfl⟩
 |un hd a=>have he:hd=j3:=he;rw[he] at h;exact absurd h.1 de
 |«at» s=>cases he
 |ite a b c=>cases he
 |lt x a b=>cases he
 |fn f x A B b=>cases he
theorem ajU {e:Ex} (h:e.head≠fV):bH e=⟨[],e,e⟩:=by
 cases e with
 |lt x a b=>exact absurd rfl h
 |_=>rfl
theorem ajV {t:Tk} {v1 v3 v4 v5 v6 v8:Value} {T:TypeId} (h:aJ w b (pE t v1 v3 v4 v5 v6 v8).toArray T):fQ w b 7 [str t.expr.aq.aw,v8]:=λj v hj=>by
 match j,hj with
 |0,hj=>simp at hj;subst hj;exact h.at rfl
 |1,hj=>simp at hj;subst hj;exact h.at rfl
theorem ajW {on:Nat} {aU:ai} {x:Ex} (g:uK m s on aU e T) (hg:(bH e).s= .bi j3 f x):
  j5 ⟨m,s,on,aU⟩ e= .inl (xG (eE (bW (bW m s f.aw).1 s x.aw).1 s on aU (bH e).name T (bH e).rest).1 (bW m s f.aw).2 (bW (bW m s f.aw).1 s x.aw).2 (eE (bW (bW m s f.aw).1 s x.aw).1 s on aU (bH e).name T (bH e).rest).2.1):=by
 have hY:=g.nA
 unfold j5
 simp only[hg,if_true,Jd]
 rw[<-hg,hY]
theorem ajX {on:Nat} {aU:ai} {c x y:Ex} (g:uK m s on aU e T) (hg:(bH e).s= .ite c x y):
  j5 ⟨m,s,on,aU⟩ e= .inr (⟨Gt (eE (bW m s c.aw).1 s on aU (bH e).name T (bH e).rest).1 s (eE (bW m s c.aw).1 s on aU (bH e).name T (bH e).rest).2.1 (eE (bW m s c.aw).1 s on aU (bH e).name T (bH e).rest).2.2 (bW m s c.aw).2 x,s,
    (eE (bW m s c.aw).1 s on aU (bH e).name T (bH e).rest).2.1,(eE (bW m s c.aw).1 s on aU (bH e).name T (bH e).rest).2.2⟩,y):=by
 have hY:=g.nA
 unfold j5
 simp only[hg,Jd]
 rw[<-hg,hY];rfl
theorem Wr {on:Nat} {aU:ai} (g:uK m s on aU e T) (h1:(bH e).s.head≠j3) (h2:(bH e).s.head≠gm):
  j5 ⟨m,s,on,aU⟩ e=(if(bH e).name=[] then .inl (xH (mz m s T (bH e).s).1 on (mz m s T (bH e).s).2) else .inr (⟨(mz m s T (bH e).s).1,s++[((bH e).name,(mz m s T (bH e).s).2,T)],on,aU⟩,(bH e).rest)):=by
 have hY:=g.nA
 rw[<-hY]
 cases hg:(bH e).s with
 |«at» a=>unfold j5;simp only[hg]
 |un a b=>unfold j5;simp only[hg]
 |lt a b c=>unfold j5;simp only[hg]
 |fn a b c d f=>unfold j5;simp only[hg]
 |bi hd f x=>rw[hg] at h1;unfold j5;simp only[hg,iN (show¬hd=j3 from h1)]
 |ite a b c=>rw[hg] at h2;exact absurd rfl h2
theorem Ws {a:At} (h:j5 a e= .inl m):l3 e.n a e=m:=by
 have:=e.pos
 obtain⟨k,hk⟩:∃k,e.n=k+1:=⟨e.n-1,om⟩
 rw[hk];unfold l3;rw[h]
theorem Wt {a:At} {e2:Ex} {m2:Mk} {s2:cE} {x4:Nat} {D4:ai} (h:j5 a e= .inr (⟨m2,s2,x4,D4⟩,e2)) (hi:nM m2 s2 x4 D4 e2) (hn:e2.n+1<=e.n):l3 e.n a e=l3 e2.n ⟨m2,s2,x4,D4⟩ e2:=by
 have hp:=e.pos
 obtain⟨k,hk⟩:∃k,e.n=k+1:=⟨e.n-1,om⟩
 rw[hk]
 show(match j5 a e with| .inl m=>m| .inr p=>l3 k p.1 p.2)=_
 rw[h]
 exact afg k hi (show e2.n<=k by omega)
theorem Wu {on:Nat} {aU:ai} (h:nM m s on aU e) (g:uK m s on aU e T) (hn:(bH e).name≠[]):OJ s (bH e).name (bH e).rest:=by
 obtain⟨fS,Gs,⟨U,hU⟩,sG⟩:=g.rest hn
 have hb:=h.bud
 have sF:∀y,Fv y (bH e).rest->y∉[(bH e).name]->(look (ew s) y).isSome=true:=λy hy eK=>by
  have:=pC hU hy
  rw[oJ,iN (λe9=>eK (by rw[e9];simp))] at this;exact this
 have hf:=MX (s:=s) (bd:=[(bH e).name]) om sF
 exact⟨Gs,om,λx hx=>by
  rcases(BI x _ [(bH e).name] []).1 hx with h9|h9
  ·simp at h9
  ·exact sF x h9.1 h9.2,om⟩
theorem ajY {s:ai} (h:Ar s):s.length<=272:=by
 obtain⟨T,hT,rfl⟩:=h
 exact tI hT
theorem Wv (t:Tk) (m:Mk) (hI:nM m t.sc t.on t.aU t.expr) (hn:t.expr.n<=120) (hc:m.code.length<=1100) (fE:m.bJ.length<80000) 
  (E L:List Nat) (b bt:Nat) (w:World) (h:dC t8 E L w b true m) (hT:gI L w 166 bt t) (dU:bt∈E):
  bz Tryz.prog 154 [.pointer (some ⟨b,0,none⟩),.pointer (some ⟨bt,0,none⟩)] w λr w'=>∃L',dC t8 E L' w' b true (l3 t.expr.n ⟨m,t.sc,t.on,t.aU⟩ t.expr)∧(∃t',gI L' w' 166 bt t'∧t'.aM=t.aM∧t'.regs=t.regs)∧Fr L w L' w':=by
 have ln:=h.di
 have GY:=hT
 obtain⟨u1,u3,u4,u5,u6,u8,cZ,gM⟩:=hT
 obtain⟨a8,c8,e8,_⟩:=rh gM.ak
 rw[gZ] at e8
 subst e8
 have ajZ:bt<w.heap.size:=ln bt (h.sub dU)
 have aj0:=lW gM.ak
 refine bX [] 89 Tryz.func154 rfl abb rfl rfl ?_
 refine WL ?_
 refine zL eQ aL rfl ((ajV cZ)) rfl<|dk aL rfl rfl rfl λw1 aI aF gC=>?_
 have fU:=aI
 refine cw aL rfl rfl rfl aF rfl λw2 az aF df=>?_
 have fU:=fU.since az (λx hx=>.inr (by simp at hx;omega))
 have av:=h.sQ fU sm (lR _) aF.lt
 have pV:=(dQ.refl E L w).more fU sm (lR _) (λz hz=>ln z (h.sub hz))
 have cK:=pV.tk GY dU
 have uZ:=aj0.go pV.fr
 have qW:bt∈w.heap.size::E:=mK _ dU
 have Kn:w.heap.size∈w.heap.size::E:=List.mem_cons_self ..
 have Ww:w.heap.size≠bt:=om
 refine W ?_
 refine eH (λe':Ex=>[(0,.pointer (some ⟨b,0,none⟩)),(1,.pointer (some ⟨bt,0,none⟩)),(4,.pointer (some ⟨w.heap.size,0,none⟩))]) (λe' ww=>∃(aa:At) (n9:Nat) (new:List Tk) (L1:List Nat) (ae:Option Addr) (ce:Nat),wg m aa.m aa.s aa.on aa.aU t.expr.n n9 e' new∧l3 t.expr.n ⟨m,t.sc,t.on,t.aU⟩ t.expr=l3 e'.n aa e'∧dC t8 (w.heap.size::E) L1 ww b true aa.m∧gI L1 ww 166 bt {t with sc:=aa.s,on:=aa.on,aU:=aa.aU}∧Fr L w L1 ww∧aJ ww w.heap.size [str (e').aq.aw,.slice ae (e').aq.ak.length ce].toArray 74∧bC L1 ww (.agg #[str (e').aq.aw,.slice ae (e').aq.ak.length ce]) (e').aq) (λe'=>e'.n) t.expr (⟨rfl,rfl,rfl⟩) (⟨⟨m,t.sc,t.on,t.aU⟩,0,[],_,_,_,wg.start hI,rfl,av,cK,pV.fr,aF,uZ⟩) λgg w3 e3 hI=>?_
 obtain⟨⟨m1,s1,uL,EM⟩,n9,new,L1,ae,ce,A7,uo,Ko,Wx,OR,C3,Wy⟩:=hI
 dsimp only at A7 uo Ko Wx
 have jC:=aj.refl [] w3
 have hA:=A7.inv
 have aj1:=hA.goal
 obtain⟨T,g⟩:=aj1
 have aS:=A7.steps
 have Jb:=A7.num
 have aqv:=A7.ext.code
 have aj2:=A7.ext.bJ
 have hle:=g.le
 have aqw:=hA.bud
 have r8:=hA.room
 have yW:=hA.cnt
 have OS:=hA.on
 have Wz:=ajY hA.aU
 have hep:=gg.pos
 have nV:=(bH gg).s.pos
 have nB:=TX new
 have aqx:m1.code.length<=6500:=om
 have aqy:m1.bJ.length<85000:=(by rw[aj2,lA];omega)
 have tZ:=Ko.di
 have aqz:=g.small
 refine WL ?_
 refine zL eQ aL rfl ((C3.ext jC).all) rfl<|dk aL rfl rfl rfl λw4 aO bA kF=>?_
 have jC:=jC.ext aO
 refine cw aL rfl rfl rfl bA rfl λw5 aP bA df=>?_
 have jC:=jC.since aP (λx hx=>.inr (by simp at hx;omega))
 refine aZ<|zr<|zL eQ aL rfl ((C3.ext jC).all) rfl<|dk aL rfl rfl rfl λw6 bO cQ oT=>bI bO jC bA λjC bA=>?_
 have aj3:=bA.lt
 refine cw aL rfl rfl rfl cQ rfl λw7 bV cQ df=>?_
 have jC:=jC.since bV (λx hx=>.inr (by simp at hx;omega))
 have bA:=bA.aG bV so
 have av:=Ko.ext jC
 have uZ:=Wy.ext jC
 have aF:=C3.ext jC
 refine W ?_
 refine aA (IV gg.aq _ L1 w7 uZ) ?_
 rintro v8 w8 ⟨GQ,cA⟩
 have yk:=cA.size
 refine la cA jC bA cQ uZ aF λjC bA cQ uZ aF=>?_
 have eN:=GQ
 rw[Wq hA.ok] at eN
 subst eN
 refine W ?_
 refine iD (λ_:Unit=>[(0,.pointer (some ⟨b,0,none⟩)),(1,.pointer (some ⟨bt,0,none⟩)),(4,.pointer (some ⟨w.heap.size,0,none⟩)),(5,str (bH gg).name),(6,.pointer (some ⟨w3.heap.size,0,none⟩)),(7,.pointer (some ⟨w5.heap.size,0,none⟩))]) (λ_ ww=>aj [w3.heap.size,w5.heap.size] w8 ww∧∃a6 c6 a7 c7,(aJ ww w3.heap.size [str ((bH gg).s).aq.aw,.slice a6 ((bH gg).s).aq.ak.length c6].toArray 74∧bC L1 ww (.agg #[str ((bH gg).s).aq.aw,.slice a6 ((bH gg).s).aq.ak.length c6]) ((bH gg).s).aq)∧aJ ww w5.heap.size [str ((bH gg).rest).aq.aw,.slice a7 ((bH gg).rest).aq.ak.length c7].toArray 74∧bC L1 ww (.agg #[str ((bH gg).rest).aq.aw,.slice a7 ((bH gg).rest).aq.ak.length c7]) ((bH gg).rest).aq) ?_ ?_
 refine zc rfl (λh1=>?_) (λh1=>?_)
 have dR:=Ju hA.ok h1
 obtain⟨nx,ea,eb,rfl⟩:=dR
 have Jy:(Ex.lt nx ea eb).aq.ak.length=4:=rfl
 have bY:=dj Wy
 obtain⟨_,_,_,e9,_,aQ⟩:=bY
 cases e9
 have fi:=eS aQ (i:=1) om
 obtain⟨b1,eR,gd,gh,e1,bF,_⟩:=fi
 cases e1
 have bF:fp L1 w3 _ _ [str nx,.slice gd 0 gh]:=bF
 have eK:=eS aQ (i:=2) om
 obtain⟨b2,l5,iA,iB,e2,bU,dG⟩:=eK
 cases e2
 have bU:fp L1 w3 _ _ [str ea.aq.aw,.slice iA ea.aq.ak.length iB]:=bU
 have dG:bC L1 w3 (.agg #[str ea.aq.aw,.slice iA ea.aq.ak.length iB]) ea.aq:=dG
 have o8:=eS aQ (i:=3) om
 obtain⟨b3,Cf,pM,pN,e3,dM,dW⟩:=o8
 cases e3
 have dM:fp L1 w3 _ _ [str eb.aq.aw,.slice pM eb.aq.ak.length pN]:=dM
 have dW:bC L1 w3 (.agg #[str eb.aq.aw,.slice pM eb.aq.ak.length pN]) eb.aq:=dW
 have ka:=aj.refl [w3.heap.size,w5.heap.size] w8
 refine WL ?_
 refine zl iG rfl ((C3.ext jC).at rfl)<|zi (i:=1) cB aL rfl rfl ((show 1<4 from om))<|zf kY rfl<|zl fA rfl ((bF.ext jC).cells 0 _ rfl)<|zA<|aZ<|zr<|zf jt rfl<|zl iG rfl ((C3.ext jC).at rfl)<|zi (i:=2) cB aL rfl rfl ((show 2<4 from om))<|zL eQ aL rfl ((bU.ext jC).cells) rfl<|cw (vs:=[str ea.aq.aw,.slice iA ea.aq.ak.length iB]) aL rfl rfl rfl bA rfl λw9 aC bA df=>?_
 have jC:=jC.since aC (λx hx=>.inr (by simp at hx;omega))
 have cQ:=cQ.aG aC so
 have ka:=ka.trans (aC.mono sm)
 refine WL ?_
 refine zl iG rfl ((C3.ext jC).at rfl)<|zi (i:=3) cB aL rfl rfl ((show 3<4 from om))<|zL eQ aL rfl ((dM.ext jC).cells) rfl<|cw (vs:=[str eb.aq.aw,.slice pM eb.aq.ak.length pN]) aL rfl rfl rfl cQ rfl λbZ cj cQ df=>?_
 have jC:=jC.since cj (λx hx=>.inr (by simp at hx;omega))
 have bA:=bA.aG cj so
 have ka:=ka.trans (cj.mono sm)
 refine W ?_
 exact⟨(),⟨rfl,rfl,rfl,rfl,rfl,rfl⟩,ka,iA,iB,pM,pN,⟨bA,dG.ext jC⟩,cQ,dW.ext jC⟩
 have oX:=ajU (e:=gg) h1
 refine WZ ?_
 exact⟨(),⟨rfl,rfl,rfl,by rw[oX];rfl,rfl,rfl⟩,by rw[oX];exact⟨aj.refl _ _,ae,ce,ae,ce,⟨bA,uZ⟩,cQ,uZ⟩⟩
 intro gu w9 e9 hI
 obtain⟨ka,a6,c6,a7,c7,⟨bA,rW⟩,cQ,sV⟩:=hI
 have wW:=jC.since ka (λx hx=>.inr (by simp at hx;rcases hx with rfl|rfl<;>omega))
 have av:=Ko.ext wW
 have cK:=Wx.ext wW
 have aF:=C3.ext wW
 have cQ:dL L1 w9 w5.heap.size _ _:=⟨cQ,λhx=>by have:=tZ _ hx;omega⟩
 refine W ?_
 refine aA (IV (bH gg).s.aq _ L1 w9 rW) ?_
 rintro v10 bZ ⟨OT,cj⟩
 have yl:=cj.size
 refine BS cj av cK aF rW sV bA cQ wW λav cK aF rW sV bA cQ wW=>?_
 have eN:=OT
 rw[Wq g.ok] at eN
 subst eN
 refine W ?_
 refine zc rfl (λh2=>?_) (λh2=>?_)
 have jm:=ajT g.ok h2
 obtain⟨f,x9,jm⟩:=jm
 have eU:3<=(bH gg).s.n:=(by rw[jm];simp only[Ex.n];have:=f.pos;have:=x9.pos;omega)
 have M1:(bH gg).s.n=(Ex.bi j3 f x9).n:=congrArg Ex.n jm
 rw[jm] at bA rW
 have HI:=g.ok
 have HJ:=g.type
 rw[jm] at HI HJ
 refine W ?_
 refine aA (ajr ({t with sc:=s1,on:=uL,aU:=EM}:Tk) m1 f x9 (bH gg).name (bH gg).rest T HI om HJ hA.sc (show s1.length<=9000 from om) OS Wz (λAL=>Wu hA g AL) om om om om (w.heap.size::E) L1 b bt _ _ bZ av cK qW rW sV) ?_
 rintro Wf ey ⟨L2,av,⟨t',dG,iw,bT⟩,tH⟩
 have vA:=av.drop
 obtain⟨L3,eL3,av⟩:=vA
 have A6:Fr L2 ey L3 ey:=(Fr.refl L2 ey).to (λz hz=>.inl (by rw[eL3];simp[hz]))
 rw[<-Ws (ajW g jm),<-uo] at av
 refine W ?_
 exact⟨_,rfl,L3,av,⟨t',dG.go A6 (aj.refl [] _) sm,iw,bT⟩,((OR.ext wW).go tH).go A6⟩
 have mn:(bH gg).s.head≠j3:=h2
 refine W ?_
 refine zc rfl (λh3=>?_) (λh3=>?_)
 have jm:=UC g.ok h3
 obtain⟨c9,x9,y9,jm⟩:=jm
 have eU:4<=(bH gg).s.n:=(by rw[jm];simp only[Ex.n];have:=c9.pos;have:=x9.pos;have:=y9.pos;omega)
 have M1:(bH gg).s.n=(Ex.ite c9 x9 y9).n:=congrArg Ex.n jm
 rw[jm] at bA rW
 have HI:=g.ok
 have HJ:=g.type
 rw[jm] at HI HJ
 have aj5:=TO hA g jm
 obtain⟨nw,nw2,_,fY⟩:=aj5
 have aj7:=fY.num
 refine W ?_
 refine aA (ajz ({t with sc:=s1,on:=uL,aU:=EM}:Tk) m1 c9 x9 y9 (bH gg).name (bH gg).rest T HI om HJ hA.sc (show s1.length<=9000 from om) OS Wz (λAL=>Wu hA g AL) om om om om (w.heap.size::E) L1 b bt _ _ bZ av cK qW rW sV) ?_
 rintro v51 ey ⟨L2,Kp,av,dG,tH,hFt⟩
 have bY:=dj Kp
 obtain⟨ay,ny,cy,OU,Ja,_⟩:=bY
 subst OU
 subst Ja
 have aF:=hFt.gX aF Kn Ww
 have hF:=(OR.ext wW).go tH
 refine cw (vs:=[str y9.aq.aw,.slice ay y9.aq.ak.length cy]) aL rfl rfl rfl aF rfl λfa cV aF df=>?_
 have C4:=av.sub Kn
 have av:=av.aG cV sm
 have dG:=dG.go (Fr.of cV (by simpa using C4)) cV so;have hF:=hF.aD cV (by simpa using C4);have Kp:=Kp.go (Fr.of cV (by simpa using C4))
 refine W ?_
 exact⟨y9,⟨rfl,rfl,rfl⟩,⟨⟨_,_,_,_⟩,_,_,L2,ay,cy,A7.step fY,uo.trans (Wt (ajX g jm) fY.inv om),av,dG,hF,aF,Kp⟩,om⟩
 have mF:(bH gg).s.head≠gm:=h3
 have hpu:=MZ (m:=m1) hA.sml hA.sc g.ok g.type om om om
 obtain⟨nwp,rD⟩:=hpu
 have CY:∃z,z=mz m1 s1 T (bH gg).s:=⟨_,rfl⟩
 obtain⟨P,hP⟩:=CY
 rw[<-hP] at rD
 have aqA:=rD.ext.types
 have aqB:=rD.ext.code
 have hpr:=rD.da
 refine W ?_
 refine aA (J1 ({t with sc:=s1,on:=uL,aU:=EM}:Tk) (bH gg).s g.ok om hA.sc.types (show s1.length+2*(bH gg).s.n<=100000 from om) _ L1 bt bZ av.di cK rW) ?_
 rintro v11 ey ⟨aka,cS⟩
 have A2:=cS.size
 refine BS cS av cK aF rW sV bA cQ wW λav cK aF rW sV bA cQ wW=>?_
 have eN:=aka
 rw[g.type] at eN
 subst eN
 refine W ?_
 refine aA (ajo ({t with sc:=s1,on:=uL,aU:=EM}:Tk) m1 (bH gg).s T g.ok g.type hA.sc (show 5*s1.length+2*(bH gg).s.n<=240 from om) OS om om om om (w.heap.size::E) L1 b bt _ ey av cK qW rW) ?_
 rintro NV fa ⟨EN,L2,av,bD⟩
 rw[<-hP] at EN av
 subst EN
 have dG:=bD.tk cK qW
 have cQ:=cQ.go bD.fr;have sV:=sV.go bD.fr
 have aF:=bD.gX aF Kn
 have hF:=(OR.ext wW).go bD.fr
 refine W ?_
 refine zc rfl (λh4=>?_) (λh4=>?_)
 have sG:(bH gg).name=[]:=h4
 have EO:=(Wr g mn mF).trans (iP sG)
 rw[<-hP] at EO
 have OV:∃z,z=sr P.1 uL:=⟨_,rfl⟩
 obtain⟨me,CU⟩:=OV
 have OL:me.types.length=P.1.types.length+3∧me.code.length=P.1.code.length+3:=(by rw[CU];exact We _ _)
 obtain⟨met,mec⟩:=OL
 have BZ:∃z,z=me.types.length:=⟨_,rfl⟩
 obtain⟨r,lV⟩:=BZ
 have yG:∃z,z=me.code.length:=⟨_,rfl⟩
 obtain⟨c,er⟩:=yG
 have t0:me.types.length=r:=lV.symm
 have c0:me.code.length=c:=er.symm
 have BZ:∃z,z=P.1.types.length:=⟨_,rfl⟩
 obtain⟨rc,HF⟩:=BZ
 have IQ:xH P.1 uL P.2=((me.cC nz [[48],aT (rc+2)]).cC nz [[49],aT P.2]).cC zI [aT (rc+1)]:=(by rw[CU,HF];rfl)
 rw[IQ] at EO
 have jW:=dG
 obtain⟨v1,v3,v4,v5,v6,v8,aqD,_⟩:=jW
 refine W ?_
 refine aA (Vv P.1 uL om om om (w.heap.size::E) L2 b fa av) ?_
 rintro Wf jf ⟨B9,L0,av,bD⟩
 rw[<-CU] at av
 rw[<-HF] at B9
 subst B9
 have hR:=bD
 have cU:=av.di
 refine W ?_
 refine kK bh bf rfl rfl rfl rfl λix du WB Cz=>bI du av hR λav hR=>?_
 refine aA (kJ nz [[48],aT (rc+2)] (mi de sm (by intro z hz;simp at hz;rcases hz with rfl|rfl;(·decide);(·exact lO om))) me om (w.heap.size::E) L0 b _ ix av (aJ.dK [[48],aT (rc+2)] WB (λhx=>by have:=cU _ hx;omega))) ?_
 rintro jA o7 ⟨L1,av,bD⟩
 have hR:=hR.go bD
 clear WB
 have ij:∃x,x=me.cC nz [[48],aT (rc+2)]:=⟨_,rfl⟩
 obtain⟨m1,lj⟩:=ij
 rw[<-lj] at av
 have t1:m1.types.length=r+0:=(by rw[lj,ot];omega)
 have c1:m1.code.length=c+1:=(by rw[lj,o9];omega)
 have cU:=av.di
 refine W ?_
 refine aA (iq (P.2+1) P.2 om om o7) ?_
 rintro _ lh ⟨rfl,mQ⟩
 have UU:=mQ.size
 refine bI mQ av hR λav hR=>?_
 have cU:=av.di
 refine kK bh bf rfl rfl rfl rfl λCA yr WC akb=>bI yr av hR λav hR=>?_
 refine aA (kJ nz [[49],aT P.2] (mi de sm (by intro z hz;simp at hz;rcases hz with rfl|rfl;(·decide);(·exact lO om))) m1 om (w.heap.size::E) L1 b _ CA av (aJ.dK [[49],aT P.2] WC (λhx=>by have:=cU _ hx;omega))) ?_
 rintro jA wP ⟨L2,av,bD⟩
 have hR:=hR.go bD
 clear WC
 have fh:∃x,x=m1.cC nz [[49],aT P.2]:=⟨_,rfl⟩
 obtain⟨m2,lk⟩:=fh
 rw[<-lk] at av
 have t2:m2.types.length=r+0:=(by rw[lk,ot];omega)
 have c2:m2.code.length=c+2:=(by rw[lk,o9];omega)
 have cU:=av.di
 refine W ?_
 refine fF bh bf rfl rfl λCJ AR Ei aha=>bI AR av hR λav hR=>?_
 refine aA (kJ zI [aT (rc+1)] (mi de sm (by intro z hz;simp at hz;subst hz;exact lO om)) m2 om (w.heap.size::E) L2 b _ CJ av (aJ.dK [aT (rc+1)] Ei (λhx=>by have:=cU _ hx;omega))) ?_
 rintro jA vq ⟨L3,av,bD⟩
 have hR:=hR.go bD
 clear Ei
 have yy:∃x,x=m2.cC zI [aT (rc+1)]:=⟨_,rfl⟩
 obtain⟨m3,ll⟩:=yy
 rw[<-ll] at av
 have t3:m3.types.length=r+0:=(by rw[ll,ot];omega)
 have c3:m3.code.length=c+3:=(by rw[ll,o9];omega)
 have cU:=av.di
 have vA:=av.drop
 obtain⟨L7,eL7,av⟩:=vA
 have N2:=hR.tk dG qW
 have A6:Fr L3 vq L7 vq:=(Fr.refl L3 vq).to (λz hz=>.inl (by rw[eL7];simp[hz]))
 refine W ?_
 subst ll lk lj
 rw[<-Ws EO,<-uo] at av
 exact⟨_,rfl,L7,av,⟨_,N2.go A6 (aj.refl [] _) sm,rfl,rfl⟩,(hF.go hR.fr).go A6⟩
 have sG:(bH gg).name≠[]:=h4
 have EO:=(Wr g mn mF).trans (iN sG)
 have DK:=TL hA g sG
 obtain⟨nw2,fY⟩:=DK
 rw[<-hP] at EO fY
 have aj7:=fY.num
 have yD:=av.sub qW
 refine W ?_
 refine aA (EA ({t with sc:=s1,on:=uL,aU:=EM}:Tk) (bH gg).name P.2 T (show s1.length<100000 from om) L2 bt fa yD av.di dG) ?_
 rintro v87 jf ⟨dG,mj⟩
 have av:=av.aG mj (by simpa using .inr dU)
 have cQ:=cQ.aD mj (by simpa using yD);have sV:=sV.go (Fr.of mj (by simpa using yD))
 have aF:=aF.aG mj (by simpa using Ww)
 have hF:=hF.aD mj (by simpa using yD)
 have dG:gI L2 jf 166 bt ({t with sc:=s1++[((bH gg).name,P.2,T)],on:=uL,aU:=EM}:Tk):=dG
 refine W ?_
 refine cw (vs:=[str (bH gg).rest.aq.aw,.slice a7 (bH gg).rest.aq.ak.length c7]) aL rfl rfl rfl aF rfl λix du aF df=>?_
 have C4:=av.sub Kn
 have av:=av.aG du sm
 have dG:=dG.go (Fr.of du (by simpa using C4)) du so;have hF:=hF.aD du (by simpa using C4);have sV:=sV.go (Fr.of du (by simpa using C4))
 refine W ?_
 exact⟨(bH gg).rest,⟨rfl,rfl,rfl⟩,⟨⟨_,_,_,_⟩,_,_,L2,a7,c7,A7.step fY,uo.trans (Wt EO fY.inv om),av,dG,hF,aF,sV⟩,om⟩
theorem akd {t:Tk} (h:oq t) (hk:k<t.loads) {hd:au} (hh:∀t',bB (t.regs.getD 0 [105])=some t'->hd=t'):k+1<hd.ak.length∧nth hd.ak (k+1)=nth (mL t) k∧WF (nth (mL t) k)∧(nth (mL t) k).size<=12001:=by
 rcases h.loads with h0|⟨ts,hr,hl,hp⟩
 ·omega
 ·obtain⟨e1,e2⟩:=M4 hr hp
  have e3:=hh _ e2
  have cL:=s8 e2
  have gN:=zh e2
  subst e3
  have hlen:(vN [116] ts).ak.length=ts.length+1:=rfl
  have h1:k+1<(vN [116] ts).ak.length:=by rw[hlen];omega
  have e4:nth (vN [116] ts).ak (k+1)=nth (mL t) k:=by rw[e1];rfl
  have h2:=cL.nth h1
  have h3:=kX h1
  rw[e4] at h2 h3
  have h4:=Le e2
  exact⟨h1,e4,h2,om⟩
theorem ake {m:Mk} {t:Tk} (h:oq t) (hk:k<=t.loads):B3 m (oY (nN m t.regs) (mL t) k) t.regs k:=by
 have hr:=h.room
 rcases h.loads with h0|⟨ts,hh,hl,Gu⟩
 ·rw[show k=0 by omega];exact M6 h.regs
 ·obtain⟨e1,_⟩:=M4 hh Gu
  rw[e1]
  refine M7 h.regs (λx hx=>?_) _ om om
  have h2:=h.regs _ (List.mem_of_mem_head? hh)
  rw[lD] at h2
  have:=TR (List.mem_map_of_mem (f:=au.text) hx)
  omega
theorem akf (m:Mk) (aM:ai) (regs:List ai) (a b:ai) {CO P0:ai} {r:Nat} (hC:CO=dP [99] regs) (hP:P0=dP [116] [CO,b]) (hr:r=m.types.length):
  Aw m aM regs a b=(((((m.da CO).cC sk [aT r,aM]).da P0).cC ly [aT (r+1),aT r,[48]]).da a).cC sn [aT (r+2),aT (r+1),a,b]:=by
 subst hP;subst hC;subst hr;rfl
theorem akg (t:Tk) (m:Mk) (EP:oq t) (o:Bool) 
  (E L:List Nat) (b bt:Nat) (w:World) (h:dC t8 E L w b o m) (hT:gI L w 166 bt t) (dU:bt∈E):
  bz Tryz.prog 157 [.pointer (some ⟨b,0,none⟩),.pointer (some ⟨bt,0,none⟩)] w λr w'=>∃L',dC t8 E L' w' b true (qk m t)∧dQ E L w L' w':=by
 have ln:=h.di
 have ajZ:bt<w.heap.size:=ln bt (h.sub dU)
 have hR:=dQ.refl E L w
 have r8:=EP.room
 have av:=h
 refine bX [] 137 Tryz.func157 rfl abe rfl rfl ?_
 refine zr<|zm<|fN bh bf λw1 aI lF GV=>?_
 have yH:=h.open
 obtain⟨xb,xt,xc,xy,gb,gt,gc,gy,bj,hS⟩:=yH
 have xY:=hS.apart
 obtain⟨vi,lN,tT,mh,vj,tU⟩:=xY
 have bj:aJ w1 b [xb,xt,.int .i64 (m.count:Int),.bool m.wide,xc,xy].toArray 164:=bj.ext aI
 have yI:=hS.IK lF.kL aI.any (λx hx=>.inr (by cases hx;exact lR _))
 obtain⟨L1,hS,bD⟩:=yI
 have hR:=(dQ.refl E L w).add bD aI sm
 refine W ?_
 refine fz (o:=4) kz rfl rfl rfl bj rfl λw2 az bj df=>?_
 have hS:=hS.aG az sm
 have C5:=hS.mem.2 (.inr (.inl rfl))
 have hR:=hR.aD az C5 lN
 have jW:=hR.tk hT dU
 obtain⟨u1,u3,u4,u5,u6,u8,cZ,gM⟩:=jW
 have bY:=dI gM.regs
 obtain⟨a1,n1,c1,e1,fi⟩:=bY
 subst e1
 subst fi
 have aqE:∀x,x∈L1->x<w2.heap.size:=hS.cD
 refine aZ<|zr<|zm<|xw w2.heap.size [] bh bf rfl rfl (lR _) sm λw3 aH akb akh=>?_
 have qV:=aH
 have cZ:=cZ.ext aH
 refine W ?_
 refine wa bh bf rfl rfl rfl rfl rfl rfl akh ((bN.fresh gM.regs (L':=[w2.heap.size]) (λx hx=>.inr (by simp at hx;omega))).ext qV |>.fresh (λx hx=>.inl (by simpa using hx))) (Wi _) (by rw[qB];simp;omega) λa4 ir g4 w4 kv aO=>?_
 rw[List.nil_append] at kv
 have OX:=qV.since aO (λx hx=>.inr (by simp at hx;omega))
 have kP:=kv.se
 have jH:=kv.low
 have bj:=bj.ext OX
 have yI:=hS.Mr kP OX.any (λx hx=>.inr (jH x hx))
 obtain⟨L2,fx,jo⟩:=yI
 have hR:=hR.add jo OX sm
 refine W ?_
 refine fz (o:=5) kz rfl rfl rfl bj rfl λw5 aP bj df=>?_
 have fx:=fx.aG aP sm
 have aki:=fx.mem.2 (.inr (.inl rfl))
 have hR:=hR.aD aP aki lN
 have av:dC t8 E L2 w5 b true (nN m t.regs):=⟨_,_,_,_,_,_,_,_,bj,fx⟩
 have CS:=av.di
 refine aZ<|zr<|aA (Ak [105] L2 w5 CS) ?_
 rintro v6 w6 ⟨Cw,bO⟩
 have ox:=bO.size
 refine bI bO av hR λav hR=>?_
 have eN:=Cw
 obtain⟨t0x,tv,OY,Kq,fD⟩:=eN
 subst OY
 have bY:=dj Kq
 obtain⟨a5,n5,c5,e5,JK,_⟩:=bY
 subst e5
 subst JK
 have lM:=av
 have tV:=hR
 have CS:=av.di
 refine W ?_
 refine dk aL rfl rfl rfl λw7 bV aF gC=>?_
 have dh:=bV
 refine cw (vs:=[str t0x.aw,.slice a5 t0x.ak.length c5]) aL rfl rfl rfl aF rfl λw8 cA aF df=>?_
 have dh:=dh.since cA (λx hx=>.inr (by simp at hx;omega))
 have av:=lM.ext dh
 have hR:=tV.ext dh
 have Kq:=Kq.ext dh
 have jW:=hR.tk hT dU
 obtain⟨u1,u3,u4,u5,u6,u8,cZ,gM⟩:=jW
 have bY:=dI gM.regs
 obtain⟨a1,n1,c1,e1,fi⟩:=bY
 subst e1
 subst fi
 have bY:=dI gM.self
 obtain⟨a3,n3,c3,e3,o8⟩:=bY
 subst e3
 subst o8
 have cZ:aJ w8 bt [str t.aM,.slice a1 t.regs.length c1,.int .i64 (t.loads:Int),.slice a3 t.self.length c3,u4,u5,u6,str t.expr.aq.aw,u8,.int .i64 (t.on:Int),str t.aU,.int .i64 (t.next:Int)].toArray 166:=cZ
 refine W ?_
 refine iD (λ_:Unit=>[(0,.pointer (some ⟨b,0,none⟩)),(1,.pointer (some ⟨bt,0,none⟩)),(4,.pointer (some ⟨w6.heap.size,0,none⟩))]) (λ_ ww=>aj [w6.heap.size] w8 ww∧∃(hd:au) (ah:Option Addr) (ch:Nat),aJ ww w6.heap.size [str hd.aw,.slice ah hd.ak.length ch].toArray 74∧bC L2 ww (.agg #[str hd.aw,.slice ah hd.ak.length ch]) hd∧∀t',bB (t.regs.getD 0 [105])=some t'->hd=t') ?_ ?_
 refine zc rfl (λh1=>?_) (λh1=>?_)
 have lV:0<t.regs.length:=(by simp at h1;omega)
 have fu:=nS gM.regs lV
 obtain⟨b9,ub,e9,iy⟩:=fu
 cases e9
 have oF:t.regs.getD 0 [105]=cv t.regs 0:=(by unfold cv;rw[gG,gG,gE lV];rfl)
 have ka:=aj.refl [w6.heap.size] w8
 have ER:=av.di
 refine W ?_
 refine aA (Ak (cv t.regs 0) (w6.heap.size::L2) w8 (λx hx=>by rcases mC.1 hx with h9|h9;(·rw[h9];exact aF.lt);(·exact ER x h9))) ?_
 rintro v9 w9 ⟨eN,aC⟩
 have oZ:=aC.size
 refine bI aC aF ka λaF ka=>?_
 have eN:=eN
 obtain⟨t1x,tv,yc,WD,nI⟩:=eN
 subst yc
 have bY:=dj WD
 obtain⟨a6,n6,c6,e6,WE,_⟩:=bY
 subst e6
 subst WE
 refine W ?_
 refine cw (vs:=[str t1x.aw,.slice a6 t1x.ak.length c6]) aL rfl rfl rfl aF rfl λbZ cj aF df=>?_
 have ka:=ka.trans cj
 have akj:bC L2 bZ _ t1x:=(WD.go (Fr.of cj sm)).fresh (λx hx=>.inl (by simp[hx]))
 refine W ?_
 exact⟨(),⟨rfl,rfl,rfl⟩,ka,t1x,a6,c6,aF,akj,by rw[oF];exact nI⟩
 have lV:t.regs=[]:=(by simpa using h1)
 have oF:t.regs.getD 0 [105]=[105]:=(by rw[lV];rfl)
 refine WZ ?_
 exact⟨(),⟨rfl,rfl,rfl⟩,aj.refl _ _,t0x,a5,c5,aF,Kq,by rw[oF];exact fD⟩
 intro gu w9 e9 hI
 obtain⟨ka,hd,ah,ch,aF,OZ,ji⟩:=hI
 have dh:=dh.since ka (λx hx=>.inr (by simp at hx;omega))
 have av:=lM.ext dh
 have hR:=tV.ext dh
 have aF:dL L2 w9 w6.heap.size _ _:=⟨aF,λhx=>by have:=CS _ hx;omega⟩
 refine W ?_
 refine eH (λk:Nat=>[(0,.pointer (some ⟨b,0,none⟩)),(1,.pointer (some ⟨bt,0,none⟩)),(4,.pointer (some ⟨w6.heap.size,0,none⟩)),(6,.int .i64 (k:Int))]) (λk ww=>∃L3,dC t8 E L3 ww b true (oY (nN m t.regs) (mL t) k)∧dQ E L w L3 ww∧Fr L2 w9 L3 ww∧k<=t.loads) (λk=>t.loads-k) (0) (⟨rfl,rfl,rfl,rfl⟩) (⟨L2,av,hR,Fr.refl _ _,Nat.zero_le _⟩) λgg bZ fm hI=>?_
 obtain⟨L3,av,hR,qX,hk⟩:=hI
 have aF:=aF.go qX;have OZ:=OZ.go qX
 have jW:=hR.tk hT dU
 obtain⟨u1,u3,u4,u5,u6,u8,cZ,gM⟩:=jW
 have bY:=dI gM.regs
 obtain⟨a1,n1,c1,e1,fi⟩:=bY
 subst e1
 subst fi
 have bY:=dI gM.self
 obtain⟨a3,n3,c3,e3,o8⟩:=bY
 subst e3
 subst o8
 have cZ:aJ bZ bt [str t.aM,.slice a1 t.regs.length c1,.int .i64 (t.loads:Int),.slice a3 t.self.length c3,u4,u5,u6,str t.expr.aq.aw,u8,.int .i64 (t.on:Int),str t.aU,.int .i64 (t.next:Int)].toArray 166:=cZ
 have WG:=ake (m:=m) EP hk
 have akk:=WG.types
 have akl:=WG.code
 refine W ?_
 refine zc rfl (λh2=>?_) (λh2=>?_)
 have az:gg<t.loads:=(by simp at h2;omega)
 have akm:=akd EP az ji
 obtain⟨oU,rE,DX,WH⟩:=akm
 have bY:=dj OZ
 obtain⟨_,_,_,e9,_,aQ⟩:=bY
 cases e9
 have fi:=eS aQ oU
 obtain⟨b9,ub,pa9,pc9,e9,iy,dv⟩:=fi
 cases e9
 rw[rE] at iy dv
 have pL:=LU _ _ (lR _) DX
 refine W ?_
 refine aA (tG (nth (mL t) gg).size _ (lR _) DX om om _ _ bZ dv) ?_
 rintro _ ey ⟨rfl,cS⟩
 have A2:=cS.size
 refine cG cS av hR qX λav hR qX=>?_
 refine aA (rS (nth (mL t) gg).text (oY (nN m t.regs) (mL t) gg) om E L3 b true ey av) ?_
 rintro Wc fa ⟨HK,L4,av,bD⟩
 subst HK
 have hR:=hR.go bD;have qX:=qX.go bD.fr
 refine W ?_
 refine aA (iq ((oY (nN m t.regs) (mL t) gg).types.length+1) (oY (nN m t.regs) (mL t) gg).types.length om om fa) ?_
 rintro _ jf ⟨rfl,gw⟩
 have Hi:=gw.size
 refine cG gw av hR qX λav hR qX=>?_
 have cU:=av.di
 refine zm<|aA (iq (gg+1) gg om om jf) ?_
 rintro _ ix ⟨rfl,du⟩
 have WJ:=du.size
 refine cG du av hR qX λav hR qX=>?_
 have cU:=av.di
 refine pI bh bf rfl rfl rfl rfl rfl λo7 jg akp Jt=>cG jg av hR qX λav hR qX=>?_
 refine aA (kJ sq [aT (oY (nN m t.regs) (mL t) gg).types.length,[48],aT gg] (mi de sm (by intro z hz;simp at hz;rcases hz with rfl|rfl|rfl;(·exact lO om);(·decide);(·exact lO om))) ((oY (nN m t.regs) (mL t) gg).da (nth (mL t) gg).text) (show(oY (nN m t.regs) (mL t) gg).code.length<100000 from om) E L4 b _ o7 av (aJ.dK [aT (oY (nN m t.regs) (mL t) gg).types.length,[48],aT gg] akp (λhx=>by have:=cU _ hx;omega))) ?_
 rintro v68 lh ⟨L5,av,bD⟩
 have hR:=hR.go bD;have qX:=qX.go bD.fr
 refine W ?_
 exact⟨gg+1,⟨rfl,rfl,rfl,rfl⟩,⟨L5,av,hR,qX,om⟩,om⟩
 have Ap:gg=t.loads:=om
 subst Ap
 have OV:∃z,z=oY (nN m t.regs) (mL t) t.loads:=⟨_,rfl⟩
 obtain⟨m0,sY⟩:=OV
 rw[<-sY] at av akk akl
 refine W ?_
 refine zc rfl (λh3=>?_) (λh3=>?_)
 have iw:t.self.length=2:=om
 have C6:=EP.self
 have C6:∃a b,t.self=[a,b]∧a.length<=272∧b.length<=11200∧t.regs.length=3∧∀r,r∈t.regs->r.length<=11200:=(by rcases C6 with h9|h9;(·rw[h9] at iw;cases iw);(·exact h9))
 obtain⟨sa,sb,O0,aqG,aqH,h3,nG⟩:=C6
 have yG:∃z,z=dP [99] t.regs:=⟨_,rfl⟩
 obtain⟨CO,yJ⟩:=yG
 have yG:∃z,z=dP [116] [CO,sb]:=⟨_,rfl⟩
 obtain⟨P0,rV⟩:=yG
 have aqI:CO.length<=33610:=(by rw[yJ];exact TQ h3 nG)
 have aqJ:P0.length<=45000:=(by rw[rV,lD,As];simp only[lC,List.length_nil];omega)
 have yG:∃z,z=m0.types.length:=⟨_,rfl⟩
 obtain⟨r,Hn⟩:=yG
 have yG:∃z,z=m0.code.length:=⟨_,rfl⟩
 obtain⟨c,Oe⟩:=yG
 have t0:m0.types.length=r:=Hn.symm
 have c0:m0.code.length=c:=Oe.symm
 have O2:qk m t=(((((m0.da CO).cC sk [aT r,t.aM]).da P0).cC ly [aT (r+1),aT r,[48]]).da sa).cC sn [aT (r+2),aT (r+1),sa,sb]:=(by unfold qk Jc;rw[<-sY,O0];exact akf m0 t.aM t.regs sa sb yJ rV Hn)
 have Gm:=EP.aM
 have wb:t.self.length=2:=iw
 have nX:cv t.self 0=sa:=(by rw[O0];rfl)
 have dm:cv t.self 1=sb:=(by rw[O0];rfl)
 refine W ?_
 refine aA ((show bz Tryz.prog 135 [str [99],.slice a1 t.regs.length c1] _ (λr w'=>r=str CO∧aj [] _ w') from by rw[yJ];exact xR [99] t.regs (by rw[<-yJ];omega) _ _ _ gM.regs)) ?_
 rintro _ ey ⟨rfl,cS⟩
 have A2:=cS.size
 refine cG cS av hR cZ λav hR cZ=>?_
 refine W ?_
 refine aA (rS CO m0 om E L3 b true ey av) ?_
 rintro v10 fa ⟨fm,L1,av,bD⟩
 rw[t0] at fm
 subst fm
 have hR:=hR.go bD
 have ij:∃x,x=m0.da CO:=⟨_,rfl⟩
 obtain⟨m1,lj⟩:=ij
 rw[<-lj] at av
 have t1:m1.types.length=r+1:=(by rw[lj,xX];omega)
 have c1:m1.code.length=c+0:=(by rw[lj,CC];omega)
 have cU:=av.di
 have jW:=hR.tk hT dU
 obtain⟨u1,u3,u4,u5,u6,u8,cZ,gM⟩:=jW
 have bY:=dI gM.self
 obtain⟨a3,n3,c3,e3,o8⟩:=bY
 subst e3
 subst o8
 have cZ:aJ fa bt [str t.aM,u1,.int .i64 (t.loads:Int),.slice a3 t.self.length c3,u4,u5,u6,str t.expr.aq.aw,u8,.int .i64 (t.on:Int),str t.aU,.int .i64 (t.next:Int)].toArray 166:=cZ
 have fu:=nS gM.self (i:=0) om
 obtain⟨b9,ub,e9,iy⟩:=fu
 cases e9
 have fu:=nS gM.self (i:=1) om
 obtain⟨O3,O4,fm,wX⟩:=fu
 cases fm
 rw[nX] at iy
 rw[dm] at wX
 refine W ?_
 apply tC cT 8 (rA 83 8) (rA 83 8) [[],[],[1],[],[3],[4],[5],[2,6]] [It.v _,It.v _,It.v _,It.v _,It.v _,It.v _,It.v _,It.p (fun(v:Value) (ww:World)=>bc L1 ww v [aT r,t.aM])] de (by exact⟨λv w w' h k=>h.ext k,trivial⟩)
 intro wd aB
 refine VA ?_
 refine vk aB (λx jf gw=>?_) ?_
 refine aA (iq (r+1) r om om jf) ?_
 rintro _ ix ⟨rfl,du⟩
 have WJ:=du.size
 exact pk du
 refine VA ?_
 refine vk aB (λx jf gw=>?_) ?_
 have akq:=gw.size
 refine kK bh bf rfl rfl rfl rfl λix du akr Cz=>?_
 exact pf du ((aJ.dK [aT r,t.aM] akr (λhx=>by have:=cU _ hx;omega)))
 exact trivial
 intro x AM pU
 intro v7 d7
 refine cG pU av hR cZ λav hR cZ=>?_
 change OW _ _ _ _ _ (bm (bg _ x _) (zZ 83 [_,_,_,_,_,_,_,_])) _
 refine aA (kJ sk [aT r,t.aM] (mi de sm (by intro z hz;simp at hz;rcases hz with rfl|rfl;(·exact lO om);(·omega))) m1 om E L1 b _ AM av d7) ?_
 rintro jA rQ ⟨L2,av,bD⟩
 have hR:=hR.go bD
 have fh:∃x,x=m1.cC sk [aT r,t.aM]:=⟨_,rfl⟩
 obtain⟨m2,lk⟩:=fh
 rw[<-lk] at av
 have t2:m2.types.length=r+1:=(by rw[lk,ot];omega)
 have c2:m2.code.length=c+1:=(by rw[lk,o9];omega)
 have cU:=av.di
 have jW:=hR.tk hT dU
 obtain⟨u1,u3,u4,u5,u6,u8,cZ,gM⟩:=jW
 have bY:=dI gM.self
 obtain⟨a3,n3,c3,e3,o8⟩:=bY
 subst e3
 subst o8
 have cZ:aJ rQ bt [str t.aM,u1,.int .i64 (t.loads:Int),.slice a3 t.self.length c3,u4,u5,u6,str t.expr.aq.aw,u8,.int .i64 (t.on:Int),str t.aU,.int .i64 (t.next:Int)].toArray 166:=cZ
 have fu:=nS gM.self (i:=0) om
 obtain⟨b9,ub,e9,iy⟩:=fu
 cases e9
 have fu:=nS gM.self (i:=1) om
 obtain⟨O3,O4,fm,wX⟩:=fu
 cases fm
 rw[nX] at iy
 rw[dm] at wX
 refine aZ<|zr<|zm<|zm<|zm<|E6 rfl rfl rfl<|zf Ip rfl<|zl tl rfl (cZ.at rfl)<|zi (i:=1) bh bf rfl rfl om<|zl fA rfl (wX.cells 0 _ rfl)<|kK bh bf rfl rfl rfl rfl ?_
 intro wT CN CG ajM
 refine bI CN av hR λav hR=>?_
 refine aA ((show bz Tryz.prog 135 [str [116],_] wT (λr w'=>r=str P0∧aj [] wT w') from by rw[rV];exact xR [116] [CO,sb] (by rw[<-rV];omega) _ L2 wT (aJ.dK [CO,sb] CG (λhx=>by have:=cU _ hx;omega)))) ?_
 rintro _ Kh ⟨rfl,AY⟩
 have aqK:=AY.size
 refine cG AY av hR CG λav hR CG=>?_
 clear CG
 refine aA (rS P0 m2 om E L2 b true Kh av) ?_
 rintro v10 A4 ⟨fm,L3,av,bD⟩
 rw[t2] at fm
 subst fm
 have hR:=hR.go bD
 have yy:∃x,x=m2.da P0:=⟨_,rfl⟩
 obtain⟨m3,ll⟩:=yy
 rw[<-ll] at av
 have t3:m3.types.length=r+2:=(by rw[ll,xX];omega)
 have c3:m3.code.length=c+1:=(by rw[ll,CC];omega)
 have cU:=av.di
 refine W ?_
 refine aA (iq ((r+1)+1) (r+1) om om A4) ?_
 rintro _ OH ⟨rfl,A5⟩
 have V6:=A5.size
 refine bI A5 av hR λav hR=>?_
 have cU:=av.di
 refine zm<|aA (iq (r+1) r om om OH) ?_
 rintro _ w58 ⟨rfl,ES⟩
 have aqM:=ES.size
 refine bI ES av hR λav hR=>?_
 have cU:=av.di
 refine pI bh bf rfl rfl rfl rfl rfl λw59 HL WK aqN=>bI HL av hR λav hR=>?_
 refine aA (kJ ly [aT (r+1),aT r,[48]] (mi de sm (by intro z hz;simp at hz;rcases hz with rfl|rfl|rfl;(·exact lO om);(·exact lO om);(·decide))) m3 om E L3 b _ w59 av (aJ.dK [aT (r+1),aT r,[48]] WK (λhx=>by have:=cU _ hx;omega))) ?_
 rintro jA WM ⟨L4,av,bD⟩
 have hR:=hR.go bD
 clear WK
 have CH:∃x,x=m3.cC ly [aT (r+1),aT r,[48]]:=⟨_,rfl⟩
 obtain⟨m4,oD⟩:=CH
 rw[<-oD] at av
 have t4:m4.types.length=r+2:=(by rw[oD,ot];omega)
 have c4:m4.code.length=c+2:=(by rw[oD,o9];omega)
 have cU:=av.di
 have jW:=hR.tk hT dU
 obtain⟨u1,u3,u4,u5,u6,u8,cZ,gM⟩:=jW
 have bY:=dI gM.self
 obtain⟨a3,n3,c3,e3,o8⟩:=bY
 subst e3
 subst o8
 have cZ:aJ WM bt [str t.aM,u1,.int .i64 (t.loads:Int),.slice a3 t.self.length c3,u4,u5,u6,str t.expr.aq.aw,u8,.int .i64 (t.on:Int),str t.aU,.int .i64 (t.next:Int)].toArray 166:=cZ
 have fu:=nS gM.self (i:=0) om
 obtain⟨b9,ub,e9,iy⟩:=fu
 cases e9
 have fu:=nS gM.self (i:=1) om
 obtain⟨O3,O4,fm,wX⟩:=fu
 cases fm
 rw[nX] at iy
 rw[dm] at wX
 refine aZ<|zr<|zm<|zm<|E6 rfl rfl rfl<|zf Ip rfl<|zl tl rfl (cZ.at rfl)<|zi (i:=0) bh bf rfl rfl om<|zl fA rfl (iy.cells 0 _ rfl)<|aA (rS sa m4 om E L4 b true WM av) ?_
 rintro v10 Wo ⟨fm,L5,av,bD⟩
 rw[t4] at fm
 subst fm
 have hR:=hR.go bD
 have Oo:∃x,x=m4.da sa:=⟨_,rfl⟩
 obtain⟨m5,yA⟩:=Oo
 rw[<-yA] at av
 have t5:m5.types.length=r+3:=(by rw[yA,xX];omega)
 have c5:m5.code.length=c+2:=(by rw[yA,CC];omega)
 have cU:=av.di
 have jW:=hR.tk hT dU
 obtain⟨u1,u3,u4,u5,u6,u8,cZ,gM⟩:=jW
 have bY:=dI gM.self
 obtain⟨a3,n3,c3,e3,o8⟩:=bY
 subst e3
 subst o8
 have cZ:aJ Wo bt [str t.aM,u1,.int .i64 (t.loads:Int),.slice a3 t.self.length c3,u4,u5,u6,str t.expr.aq.aw,u8,.int .i64 (t.on:Int),str t.aU,.int .i64 (t.next:Int)].toArray 166:=cZ
 have fu:=nS gM.self (i:=0) om
 obtain⟨b9,ub,e9,iy⟩:=fu
 cases e9
 have fu:=nS gM.self (i:=1) om
 obtain⟨O3,O4,fm,wX⟩:=fu
 cases fm
 rw[nX] at iy
 rw[dm] at wX
 refine W ?_
 apply tC cT 18 (rA 118 18) (rA 118 18) [[],[],[1],[],[3],[],[5],[6],[7],[8],[9],[],[11],[12],[13],[14],[15],[2,4,10,16]] [It.v _,It.v _,It.v _,It.v _,It.v _,It.v _,It.v _,It.v _,It.v _,It.v _,It.v _,It.v _,It.v _,It.v _,It.v _,It.v _,It.v _,It.p (fun(v:Value) (ww:World)=>bc L5 ww v [aT (r+2),aT (r+1),sa,sb])] de (by exact⟨λv w w' h k=>h.ext k,trivial⟩)
 intro wd aB
 refine VA ?_
 refine vk aB (λx rZ pe=>?_) ?_
 refine aA (iq (r+2+1) (r+2) om om rZ) ?_
 rintro _ C1 ⟨rfl,sU⟩
 have akt:=sU.size
 exact pk sU
 refine VA ?_
 refine vk aB (λx rZ pe=>?_) ?_
 refine aA (iq (r+1+1) (r+1) om om rZ) ?_
 rintro _ C1 ⟨rfl,sU⟩
 have akt:=sU.size
 exact pk sU
 refine vc (λ_ _ _=>WZ pv) ?_
 refine vk aB (λx rZ pe=>?_) ?_
 refine WZ ?_
 exact pv
 refine vc (λ_ _ _=>WZ pv) ?_
 refine vk aB (λx rZ pe=>?_) ?_
 have cZ:=cZ.ext pe
 refine WZ ?_
 exact pv
 refine vk aB (λx rZ pe=>?_) ?_
 refine zi (i:=0) bh bf rfl rfl om ?_
 exact pv
 refine vk aB (λx rZ pe=>?_) ?_
 have iy:=iy.ext pe
 refine WZ ?_
 exact pv
 refine vc (λ_ _ _=>WZ pv) ?_
 refine vk aB (λx rZ pe=>?_) ?_
 refine WZ ?_
 exact pv
 refine vc (λ_ _ _=>WZ pv) ?_
 refine vk aB (λx rZ pe=>?_) ?_
 have cZ:=cZ.ext pe
 refine WZ ?_
 exact pv
 refine vk aB (λx rZ pe=>?_) ?_
 refine zi (i:=1) bh bf rfl rfl om ?_
 exact pv
 refine vk aB (λx rZ pe=>?_) ?_
 have wX:=wX.ext pe
 refine WZ ?_
 exact pv
 refine vk aB (λx rZ pe=>?_) ?_
 have akq:=pe.size
 refine xV bh bf rfl rfl rfl rfl rfl rfl ?_
 intro C1 sU aku aqO
 exact pf sU ((aJ.dK [aT (r+2),aT (r+1),sa,sb] aku (λhx=>by have:=cU _ hx;omega)))
 exact trivial
 intro x akv akw
 intro jA d17
 refine bI akw av hR λav hR=>?_
 change OW _ _ _ _ _ (bm (bg _ x _) (zZ 118 [_,_,_,_,_,_,_,_,_,_,_,_,_,_,_,_,_,_])) _
 refine aA (kJ sn [aT (r+2),aT (r+1),sa,sb] (mi de sm (by intro z hz;simp at hz;rcases hz with rfl|rfl|rfl|rfl;(·exact lO om);(·exact lO om);(·omega);(·omega))) m5 om E L5 b _ akv av d17) ?_
 rintro jA aqP ⟨L6,av,bD⟩
 have hR:=hR.go bD
 have Oq:∃x,x=m5.cC sn [aT (r+2),aT (r+1),sa,sb]:=⟨_,rfl⟩
 obtain⟨m6,yB⟩:=Oq
 rw[<-yB] at av
 have t6:m6.types.length=r+3:=(by rw[yB,ot];omega)
 have c6:m6.code.length=c+3:=(by rw[yB,o9];omega)
 have cU:=av.di
 refine W ?_
 subst yB yA oD ll lk lj
 rw[<-O2] at av
 exact⟨_,rfl,_,av,hR⟩
 have C6:=EP.self
 have iw:t.self.length≠2:=(λh9=>h3 (by rw[h9];rfl))
 have C6:t.self=[]:=(by rcases C6 with h9|⟨a,b,h9,_⟩;(·exact h9);(·rw[h9] at iw;exact absurd rfl iw))
 have O2:qk m t=m0:=(by unfold qk Jc;rw[<-sY,C6])
 refine WZ ?_
 rw[<-O2] at av
 exact⟨_,rfl,_,av,hR⟩
theorem akx (x0:ByteArray) (x7:ByteArray) (a8:Option Addr) (n8 c8:Nat) (x9:Int) (ED:ByteArray) (w:World):(Instr.build 166 #[(0,.string x0),(7,.agg #[.string x7,.slice a8 n8 c8]),(8,.int .i64 x9),(9,.string ED)]).run Tryz.prog w= .ok (.agg #[.string x0,.slice none 0 0,.int .i64 0,.slice none 0 0,.slice none 0 0,.slice none 0 0,.slice none 0 0,.string x7,.slice a8 n8 c8,.int .i64 x9,.string ED,.int .i64 0]) w:=by kernel_rfl
theorem dQ.aky {x:Nat} (h:dQ (x::E) L w L1 w1):dQ E L w L1 w1:=⟨h.fr,let⟨G,k,hG⟩:=h.out;⟨G,k,λz hz rX=>hG z hz (mK _ rX)⟩⟩
def ug:Mk:=⟨[],[],0,false,[],[]⟩
theorem akz (T:Ty) {ON CO P0:ai} (hO:ON=dx (bu T)) (hC:CO=dP [99] [sT,bu T]) (hP:P0=dP [116] [CO,sT]):
  sH T=(((({ug with types:=[sT,CO,P0,ON]}).cC ly [[48]]).cC sk [[49],zJ]).cC ly [[50],[49],[48]]).cC sn [[51],[50],ON,sT]:=by
 subst hP;subst hC;subst hO;rfl
theorem akA (e:Ex) (T:Ty) (HM:T.n<=16) 
  (E L:List Nat) (b:Nat) (v:Value) (w:World) (h:dC t8 E L w b true ug) (hv:bC L w v e.aq):
  bz Tryz.prog 153 [.pointer (some ⟨b,0,none⟩),v,str T.text] w λr w'=>∃v1 v3 v4 v5 v6 v8 L',r= .agg (pE (Gv e T) v1 v3 v4 v5 v6 v8).toArray∧od L' w' (Gv e T) v1 v3 v4 v5 v6 v8∧dC t8 E L' w' b true (sH T)∧dQ E L w L' w':=by
 obtain⟨ar,nr,cr,rfl,pW,aQ⟩:=dj hv
 subst pW
 have ln:=h.di
 obtain⟨ON,Kr⟩:∃z,z=dx (bu T):=⟨_,rfl⟩
 obtain⟨CO,yJ⟩:∃z,z=dP [99] [sT,bu T]:=⟨_,rfl⟩
 obtain⟨P0,rV⟩:∃z,z=dP [116] [CO,sT]:=⟨_,rfl⟩
 rw[akz T Kr yJ rV]
 have aI:=pJ HM
 have hOl:ON.length<=272:=by rw[Kr];exact tI HM
 have hCl:CO.length<=300:=by rw[yJ,lD,As];simp only[lC,List.length_nil];omega
 have J3:P0.length<=400:=by rw[rV,lD,As];simp only[lC,List.length_nil];omega
 obtain⟨m0,sY⟩:∃z:Mk,z={ug with types:=[sT,CO,P0,ON]}:=⟨_,rfl⟩
 rw[<-sY]
 obtain⟨r,hr4⟩:∃r,r=4:=⟨_,rfl⟩
 obtain⟨c,er⟩:∃c,c=0:=⟨_,rfl⟩
 have t0:m0.types.length=r:=by rw[sY,hr4];rfl
 have c0:m0.code.length=c:=by rw[sY,er];rfl
 have av:=h
 have hR:=dQ.refl E L w
 refine jr [.cell 6 166] 45 Tryz.func153 rfl aba rfl rfl rfl ?_
 refine zr<|eu rfl λw1 aI aF db=>bI aI av hR λav hR=>?_
 refine dk mx rfl rfl rfl λw2 az WN kF=>?_
 have av:=av.sQ az sm (lR _) WN.lt
 have pV:=hR.more az sm (lR _) (λz hz=>by have:=ln z (h.sub hz);omega)
 have hR:=dQ.refl (w1.heap.size::E) (w1.heap.size::L) w2
 have Kl:∀z,z∈w1.heap.size::L->z=w1.heap.size∨z<w.heap.size:=(λz hz=>(mC.1 hz).imp id (ln z))
 have aF:dL (w1.heap.size::L) w2 w.heap.size [str e.aq.aw,.slice ar e.aq.ak.length cr].toArray 74:=⟨aF.ext az,λhx=>by have:=Kl _ hx;omega⟩
 have WO:w1.heap.size∈w1.heap.size::E:=List.mem_cons_self ..
 refine aZ<|zr<|zm<|aA (vh T om w2) ?_
 rintro _ w3 ⟨rfl,aH⟩
 have eU:=aH.size
 refine cG aH av hR aF λav hR aF=>?_
 refine aA ((show bz Tryz.prog 185 [str (bu T)] w3 (λr w'=>r=str ON∧aj [] w3 w') from by rw[Kr];exact Hg (bu T) om w3)) ?_
 rintro _ w4 ⟨rfl,aO⟩
 have fG:=aO.size
 refine cG aO av hR aF λav hR aF=>?_
 refine W ?_
 refine fN bh bf λw5 aP lF GV=>?_
 have yH:=av.open
 obtain⟨xb,xt,xc,xy,gb,gt,gc,gy,bj,hS⟩:=yH
 have xY:=hS.apart
 obtain⟨vi,lN,tT,mh,vj,tU⟩:=xY
 have bj:aJ w5 b [xb,xt,.int .i64 (ug.count:Int),.bool ug.wide,xc,xy].toArray 164:=bj.ext aP
 have yI:=hS.IK lF.kL aP.any (λx hx=>.inr (by cases hx;exact lR _))
 obtain⟨L1,hS,bD⟩:=yI
 have hR:=hR.add bD aP sm
 have aF:=aF.go bD
 refine W ?_
 refine fz (o:=4) kz rfl rfl rfl bj rfl λw6 bO bj df=>?_
 have hS:=hS.aG bO sm
 have C5:=hS.mem.2 (.inr (.inl rfl))
 have hR:=hR.aD bO C5 lN;have aF:=aF.aD bO (by simpa using C5)
 have av:dC t8 (w1.heap.size::E) L1 w6 b true ug:=⟨_,_,_,_,_,_,_,_,bj,hS⟩
 refine aZ<|zr<|zm<|aA (vh T om w6) ?_
 rintro _ w7 ⟨rfl,bV⟩
 have ov:=bV.size
 refine cG bV av hR aF λav hR aF=>?_
 refine kK bh bf rfl rfl rfl rfl λw8 cA jX kG=>cG cA av hR aF λav hR aF=>?_
 refine aA ((show bz Tryz.prog 135 [str [99],_] w8 (λr w'=>r=str CO∧aj [] w8 w') from by rw[yJ];exact xR [99] [sT,bu T] (by rw[<-yJ];omega) _ [] w8 (aJ.dK [sT,bu T] jX sm))) ?_
 rintro _ w9 ⟨rfl,aC⟩
 have oZ:=aC.size
 refine gQ aC av hR aF jX λav hR aF jX=>?_
 clear jX
 refine W ?_
 refine kK bh bf rfl rfl rfl rfl λbZ cj A8 xN=>cG cj av hR aF λav hR aF=>?_
 refine aA ((show bz Tryz.prog 135 [str [116],_] bZ (λr w'=>r=str P0∧aj [] bZ w') from by rw[rV];exact xR [116] [CO,sT] (by rw[<-rV];omega) _ [] bZ (aJ.dK [CO,sT] A8 sm))) ?_
 rintro _ ey ⟨rfl,cS⟩
 have A2:=cS.size
 refine gQ cS av hR aF A8 λav hR aF A8=>?_
 clear A8
 refine zm<|xV bh bf rfl rfl rfl rfl rfl rfl λfa cV CE aio=>?_
 have yH:=av.open
 obtain⟨xb,xt,xc,xy,gb,gt,gc,gy,bj,hS⟩:=yH
 have xY:=hS.apart
 obtain⟨vi,lN,tT,mh,vj,tU⟩:=xY
 have bj:aJ fa b [xb,xt,.int .i64 (ug.count:Int),.bool ug.wide,xc,xy].toArray 164:=bj.ext cV
 have yI:=hS.Mr (aJ.se [sT,CO,P0,ON] CE) cV.any (λx hx=>.inr (by cases hx;exact lR _))
 obtain⟨L2,hS,bD⟩:=yI
 have hR:=hR.add bD cV sm
 have aF:=aF.go bD
 refine W ?_
 refine fz (o:=5) kz rfl rfl rfl bj rfl λjf gw bj df=>?_
 have hS:=hS.aG gw sm
 have C5:=hS.mem.2 (.inr (.inl rfl))
 have hR:=hR.aD gw C5 lN;have aF:=aF.aD gw (by simpa using C5)
 have av:dC t8 (w1.heap.size::E) L2 jf b true {ug with types:=[sT,CO,P0,ON]}:=⟨_,_,_,_,_,_,_,_,bj,hS⟩
 rw[<-sY] at av
 have cU:=av.di
 refine aZ<|zr<|zm<|fF bh bf rfl rfl λix du AV Cz=>cG du av hR aF λav hR aF=>?_
 refine aA (kJ ly [[48]] (mi de sm (by intro z hz;simp at hz;subst hz;decide)) m0 om (w1.heap.size::E) L2 b _ ix av (aJ.dK [[48]] AV (λhx=>by have:=cU _ hx;omega))) ?_
 rintro jA o7 ⟨L1,av,bD⟩
 have hR:=hR.go bD
 clear AV
 have ij:∃x,x=m0.cC ly [[48]]:=⟨_,rfl⟩
 obtain⟨m1,lj⟩:=ij
 rw[<-lj] at av
 have t1:m1.types.length=r+0:=(by rw[lj,ot];omega)
 have c1:m1.code.length=c+1:=(by rw[lj,o9];omega)
 have cU:=av.di
 have aF:=aF.go bD.fr
 refine aZ<|zr<|zm<|kK bh bf rfl rfl rfl rfl λlh mQ Jo GK=>cG mQ av hR aF λav hR aF=>?_
 refine aA (kJ sk [[49],zJ] (mi de sm (by intro z hz;simp at hz;rcases hz with rfl|rfl;(·decide);(·decide))) m1 om (w1.heap.size::E) L1 b _ lh av (aJ.dK [[49],zJ] Jo (λhx=>by have:=cU _ hx;omega))) ?_
 rintro jA CA ⟨L2,av,bD⟩
 have hR:=hR.go bD
 clear Jo
 have fh:∃x,x=m1.cC sk [[49],zJ]:=⟨_,rfl⟩
 obtain⟨m2,lk⟩:=fh
 rw[<-lk] at av
 have t2:m2.types.length=r+0:=(by rw[lk,ot];omega)
 have c2:m2.code.length=c+2:=(by rw[lk,o9];omega)
 have cU:=av.di
 have aF:=aF.go bD.fr
 refine aZ<|zr<|zm<|pI bh bf rfl rfl rfl rfl rfl λwP CI vm NX=>cG CI av hR aF λav hR aF=>?_
 refine aA (kJ ly [[50],[49],[48]] (mi de sm (by intro z hz;simp at hz;rcases hz with rfl|rfl|rfl;(·decide);(·decide);(·decide))) m2 om (w1.heap.size::E) L2 b _ wP av (aJ.dK [[50],[49],[48]] vm (λhx=>by have:=cU _ hx;omega))) ?_
 rintro jA CJ ⟨L3,av,bD⟩
 have hR:=hR.go bD
 clear vm
 have yy:∃x,x=m2.cC ly [[50],[49],[48]]:=⟨_,rfl⟩
 obtain⟨m3,ll⟩:=yy
 rw[<-ll] at av
 have t3:m3.types.length=r+0:=(by rw[ll,ot];omega)
 have c3:m3.code.length=c+3:=(by rw[ll,o9];omega)
 have cU:=av.di
 have aF:=aF.go bD.fr
 refine W ?_
 refine xV bh bf rfl rfl rfl rfl rfl rfl λvq wU O5 Vg=>cG wU av hR aF λav hR aF=>?_
 refine aA (kJ sn [[51],[50],ON,sT] (mi de sm (by intro z hz;simp at hz;rcases hz with rfl|rfl|rfl|rfl;(·decide);(·decide);(·omega);(·decide))) m3 om (w1.heap.size::E) L3 b _ vq av (aJ.dK [[51],[50],ON,sT] O5 (λhx=>by have:=cU _ hx;omega))) ?_
 rintro jA qT ⟨L4,av,bD⟩
 have hR:=hR.go bD
 clear O5
 have CH:∃x,x=m3.cC sn [[51],[50],ON,sT]:=⟨_,rfl⟩
 obtain⟨m4,oD⟩:=CH
 rw[<-oD] at av
 have t4:m4.types.length=r+0:=(by rw[oD,ot];omega)
 have c4:m4.code.length=c+4:=(by rw[oD,o9];omega)
 have cU:=av.di
 have aF:=aF.go bD.fr
 have j9:=hR.gX WN WO
 refine W ?_
 refine iO (akx _ _ _ _ _ _ _ _) rfl rfl<|cw (vs:=[str BK,.slice none 0 0,.int .i64 0,.slice none 0 0,.slice none 0 0,.slice none 0 0,.slice none 0 0,str e.aq.aw,.slice ar e.aq.ak.length cr,.int .i64 3,str ON,.int .i64 0]) mx rfl rfl rfl j9 rfl λJ8 Hs j9 df=>?_
 have hL6:=av.sub WO
 have av:=av.aG Hs sm
 have vA:=av.drop
 obtain⟨L6,OQ,av⟩:=vA
 have h6n:w1.heap.size∉E:=(λhx=>by have:=ln _ (h.sub hx);omega)
 have WQ:=((pV.go hR.aky).aD Hs hL6 h6n).sub (L2:=L6) (λz hz=>by rw[OQ];simp[hz])
 have akE:=ek.go aQ WQ.fr
 refine W ?_
 subst oD ll lk lj
 exact⟨[_],fb RG mx rfl j9 rfl,_,_,_,_,_,_,L6,by unfold Gv;rw[<-Kr];rfl,⟨.nil _ _ _,.nil _ _ _,.nil _ _ _,.nil _ _ _,.nil _ _ _,akE⟩,av,WQ⟩
theorem dD.akF {T:TypeId} {g:Option Nat} {row:List C} (h:dD L w T sz (.slice (some ⟨b,0,none⟩) n c) g rows) (hi:rows[i]?=some row):∃vs,vs.length=sz∧fQ w b (0+i*sz) vs∧cW L w vs row:=by
 obtain⟨xs,dA,gD⟩:=h.own
 have nG:row.length=sz:=h.row row (List.mem_of_getElem? hi)
 have mm:i<rows.length:=(List.getElem?_eq_some_iff.1 hi).1
 rcases dA.2 with⟨h0,_⟩|⟨b',cap,cur,e,hv,hb,mn,lT,bY,ht⟩
 ·cases h0
 ·cases hv
  have hlen:xs.length=rows.length*sz:=dA.1
  have hmul:(i+1)*sz<=rows.length*sz:=Nat.mul_le_mul_right _ om
  have vD:(i+1)*sz=i*sz+sz:=by rw[Nat.add_mul,Nat.one_mul]
  have hl:((xs.drop (i*sz)).take sz).length=sz:=by rw[List.length_take,List.length_drop];omega
  have jh:∀j v,((xs.drop (i*sz)).take sz)[j]?=some v->j<sz∧xs[i*sz+j]?=some v:=λj v hv=>by
   rw[List.getElem?_take] at hv
   split at hv
   ·rename_i hj
    rw[List.getElem?_drop] at hv
    exact⟨hj,hv⟩
   ·cases hv
  refine⟨(xs.drop (i*sz)).take sz,hl,λj v hv=>?_,cW.of (by rw[hl,nG]) λj v c hv hc=>?_⟩
  ·obtain⟨_,hx⟩:=jh j v hv
   rw[Nat.zero_add,hb.cell]
   rw[<-ht,List.getElem?_take] at hx
   split at hx
   ·simpa using hx
   ·cases hx
  ·obtain⟨_,hx⟩:=jh j v hv
   exact gD.get hx (E4 h.row hi hc)
theorem dC.start {gb gt:Nat} (hb:aJ w b [.slice (some ⟨gb,0,none⟩) 0 0,.slice (some ⟨gt,0,none⟩) 0 0,.int .i64 0,.bool false,.slice none 0 0,.slice none 0 0].toArray 164) (h1:aJ w gb #[] 58) (h2:aJ w gt #[] 166) (h3:gb<gt) (h4:gt<b):dC t8 [] [b,gb,gt] w b true ug:=by
 refine⟨_,_,_,_,some gb,some gt,none,none,hb,⟨MR h1,MR h2,.inl ⟨rfl,⟨by simp[ug],.inl ⟨rfl,rfl,rfl⟩⟩⟩,⟨by simp[ug],.inl ⟨rfl,rfl,rfl⟩⟩,rfl,?_,λx hx=>?_⟩⟩
 ·simp;omega
 ·have:=hb.lt
  simp at hx;rcases hx with rfl|rfl|rfl<;>omega
theorem akG {ts:List Tk} (hi:i<ts.length):(ts.map Tk.enc)[i]?=some (gJ ts i).enc:=by
 rw[List.getElem?_map,gE hi];simp[gJ,gE hi]
theorem akH (ba:e.ok) (ht:bw e []=some T) (hn:e.n<=120):(rG e T).blocks=[]∧(rG e T).code.length<10000:=by
 obtain⟨new,h⟩:=TW ba ht hn
 have h4:=h.ext.code
 have h6:(sH T).code.length=4:=rfl
 exact⟨h.ext.blocks,om⟩
theorem akI (h:rH m i) (hi:i<m.bJ.length):(l3 (gJ m.bJ i).expr.n ⟨qk m (gJ m.bJ i),(gJ m.bJ i).sc,(gJ m.bJ i).on,(gJ m.bJ i).aU⟩ (gJ m.bJ i).expr).blocks.length<100000∧(qk m (gJ m.bJ i)).code.length<=1100∧(qk m (gJ m.bJ i)).bJ.length<80000∧(gJ m.bJ i).expr.n<=120∧i<999∧oq (gJ m.bJ i)∧nM (qk m (gJ m.bJ i)) (gJ m.bJ i).sc (gJ m.bJ i).on (gJ m.bJ i).aU (gJ m.bJ i).expr∧(gJ m.bJ i).regs.length<10000:=by
 obtain⟨hT,hc,hl⟩:=h.task hi
 have hb:=M8 (m:=m) hT
 have hA:=TT hT hc
 obtain⟨new,hF⟩:=Je _ hA (lR _)
 have e4:=hF.ext.blocks
 have h1:=hb.code
 have h2:=hT.room
 have h3:=hT.bud
 have h5:=h.bnum
 have h6:(if(gJ m.bJ i).self=[] then 0 else 3)<=3:=by split<;>omega
 refine⟨by rw[e4,hb.blocks];omega,om,by rw[hb.bJ];omega,om,om,hT,hA,om⟩
theorem akJ (e:Ex) (T:Ty) (ba:e.ok) (ht:bw e []=some T) (hn:e.n<=120) (v:Value) (w:World) (hv:bC [] w v e.aq):
  bz Tryz.prog 129 [v,str T.text] w λr w'=>(∃vb g,r= .tuple #[vb,.bool (!(ofM e T).wide)]∧Gr w.heap.size [] w' 58 3 vb g ((ofM e T).blocks.map Bk.enc))∧aj [] w w':=by
 obtain⟨ar,nr,cr,rfl,pW,aQ⟩:=dj hv
 subst pW
 have HM:=lx (Γ:=[]) (λs T h=>by simp[look] at h) ht
 have fl:bC [] w _ e.aq:=hv
 have hK:=aj.refl [] w
 obtain⟨WR,aqR⟩:=akH ba ht hn
 refine bX [.tmp 4,.tmp 5] 67 Tryz.func129 rfl aaS rfl rfl ?_
 refine zr<|eu rfl λw1 aI aN db=>?_
 have hK:=hK.ext aI
 refine W ?_
 refine fN jD gB λw2 az j7 dJ=>bI az hK aN λhK aN=>?_
 refine fN zw mx λw3 aH je gv=>cG aH hK aN j7 λhK aN j7=>?_
 refine iO (ac5 _ _ _ _ _ _ _) rfl rfl<|eu rfl λw4 aO lF gC=>gQ aO hK aN j7 je λhK aN j7 je=>?_
 refine W ?_
 refine aA (akA e T HM [] [w3.heap.size,w1.heap.size,w2.heap.size] w3.heap.size _ w4 (dC.start lF j7 je om om) ((fl.fresh (L':=[w3.heap.size,w1.heap.size,w2.heap.size]) (λx hx=>by right;simp at hx;rcases hx with rfl|rfl|rfl<;>omega)).ext hK)) ?_
 rintro jA w5 ⟨v1,v3,v4,v5,v6,v8,L1,rO,gM,av,bD⟩
 subst rO
 have hF:=bD.fr
 have wS:=hK
 have tZ:=av.di
 clear j7 je lF
 refine dk mx rfl rfl rfl λw6 bO cQ oT=>?_
 have dh:=bO
 refine cw mx rfl rfl gM.one cQ rfl λw7 bV cQ df=>?_
 have dh:=dh.since bV (λx hx=>.inr (by simp at hx;omega))
 have av:=av.sQ dh sm (lR _) cQ.lt
 have wV:=((dQ.refl [] L1 w5).more dh sm (lR _) sm).fr
 have fJ:gI (w5.heap.size::L1) w7 166 w5.heap.size (Gv e T):=⟨_,_,_,_,_,_,cQ,gM.go wV⟩
 have hF:=hF.go wV
 refine aZ<|zr<|zm<|aA (Wv (Gv e T) (sH T) (TV ba ht hn) hn (show(sH T).code.length<=1100 from by show 4<=1100;omega) (show(0:Nat)<80000 from om) [w5.heap.size] (w5.heap.size::L1) w3.heap.size w5.heap.size w7 av fJ sm) ?_
 rintro JY w8 ⟨L2,av,_,tH⟩
 have hF:=hF.go tH
 have av:dC t8 [w5.heap.size] L2 w8 w3.heap.size true (rG e T):=av
 have CS:=av.di
 refine aZ<|zr<|zm<|fN bh bf λw9 aC uQ df=>bI aC av hF λav hF=>?_
 refine aA (Ob BK [] sm (rG e T) (by rw[WR];simp) [w5.heap.size] L2 w3.heap.size _ w9 av (uQ.kL.rep (λx hx kV=>by have:=CS x kV;simp at hx;omega))) ?_
 rintro Kf bZ ⟨L3,av,bD⟩
 have hF:=hF.go bD.fr
 clear uQ
 refine aZ<|zr<|zm<|fF bh bf rfl rfl λey cS yt aiy=>?_
 have yH:=av.open
 obtain⟨xb,xt,xc,xy,gb,gt,gc,gy,bj,hS⟩:=yH
 have xY:=hS.apart
 obtain⟨vi,lN,tT,mh,vj,tU⟩:=xY
 have bj:=bj.ext cS
 have yI:=hS.IK (aJ.se [[40,104,97,108,116,32,49,41]] yt) cS.any (λx hx=>.inr (by cases hx;exact lR _))
 obtain⟨L4,hS,bD⟩:=yI
 have hF:=hF.go bD
 refine W ?_
 refine fz (o:=4) kz rfl rfl rfl bj rfl λfa cV bj df=>?_
 have hS:=hS.aG cV sm
 have hF:=hF.aD cV (by simpa using hS.mem.2 (.inr (.inl rfl)))
 have av:dC t8 [w5.heap.size] L4 fa w3.heap.size true {(B4 (rG e T) BK []) with code:=[[40,104,97,108,116,32,49,41]]}:=⟨_,_,_,_,_,_,_,_,bj,hS⟩
 refine W ?_
 refine aA (vh T om fa) ?_
 rintro _ jf ⟨rfl,gw⟩
 have Hi:=gw.size
 refine bI gw av hF λav hF=>?_
 have akK:=av.di
 refine kK bh bf rfl rfl rfl rfl λix du AV Cz=>bI du av hF λav hF=>?_
 refine aA (Ob zJ [sT,bu T] sm {(B4 (rG e T) BK []) with code:=[[40,104,97,108,116,32,49,41]]} (show((rG e T).blocks++[_]).length<100000 from by rw[WR];simp) [w5.heap.size] L4 w3.heap.size _ ix av (aJ.dK [sT,bu T] AV (λhx=>by have:=akK _ hx;omega))) ?_
 rintro v31 o7 ⟨L5,av,bD⟩
 have hF:=hF.go bD.fr
 have av:dC t8 [w5.heap.size] L5 o7 w3.heap.size false (B5 e T):=av
 clear AV
 refine W ?_
 refine eH (λi:Nat=>[(6,.pointer (some ⟨w3.heap.size,0,none⟩)),(8,.int .i64 (i:Int))]) (λi ww=>∃m9 L9,dC t8 [w5.heap.size] L9 ww w3.heap.size false m9∧rH m9 i∧ofM e T=x5 (1000-i) m9 i∧Fr [w3.heap.size,w1.heap.size,w2.heap.size] w4 L9 ww∧i<=1000) (λi=>1000-i) (0) (⟨rfl,rfl⟩) (⟨B5 e T,L5,av,Na ba ht hn,rfl,hF,om⟩) λgg lh AW hI=>?_
 obtain⟨m9,L9,av,WT,HB,hF,hi⟩:=hI
 have yH:=av.open
 obtain⟨xb,xt,xc,xy,gb,gt,gc,gy,bj,hS⟩:=yH
 have fE:=hS.ta.len
 obtain⟨at9,ct9,et9⟩:=fE
 subst et9
 have bj:aJ lh w3.heap.size [xb,.slice at9 (m9.bJ.map Tk.enc).length ct9,.int .i64 (m9.count:Int),.bool m9.wide,xc,xy].toArray 164:=bj
 have vG:(m9.bJ.map Tk.enc).length=m9.bJ.length:=List.length_map ..
 refine W ?_
 refine zc rfl (λh1=>?_) (λh1=>?_)
 have lK:gg<m9.bJ.length:=om
 have qM:=akI WT lK
 obtain⟨dm,dy,eU,fG,og,WU,Es,ox⟩:=qM
 have Ep:=hS.ta.form om
 obtain⟨bq,cq,eq9,eg9⟩:=Ep
 cases eq9
 have DS:=hS.ta.akF (akG lK)
 obtain⟨vs9,akO,akP,akQ⟩:=DS
 have O6:=aee akQ
 obtain⟨y1,y3,y4,y5,y6,y8,evs,gM⟩:=O6
 subst evs
 have pL:∃z,z=gJ m9.bJ gg:=⟨_,rfl⟩
 obtain⟨tz,O7⟩:=pL
 rw[<-O7] at dm dy eU fG WU Es ox gM akP akO
 have lM:=av
 have Hw:=hF
 have NU:=av.di
 have hw9:=aj.refl [] lh
 refine W ?_
 refine dk mx rfl rfl rfl λCA yr cY aqV=>?_
 have dh:=yr
 refine cw mx rfl rfl gM.one cY rfl λwP CI cY df=>?_
 have dh:=dh.since CI (λx hx=>.inr (by simp at hx;omega))
 have av:=lM.sQ dh sm (lR _) cY.lt
 have wV:=((dQ.refl [] L9 lh).more dh sm (lR _) sm).fr
 have fJ:gI (lh.heap.size::L9) wP 166 lh.heap.size tz:=⟨_,_,_,_,_,_,cY,gM.go wV⟩
 have hF:=Hw.go wV
 refine aZ<|zr<|zm<|aA (akg tz m9 WU false [lh.heap.size,w5.heap.size] (lh.heap.size::L9) w3.heap.size lh.heap.size wP av fJ sm) ?_
 rintro v49 CJ ⟨L6,av,bD⟩
 have fJ:=bD.tk fJ sm
 have hF:=hF.go bD.fr
 refine aZ<|zr<|zm<|aA (Wv tz (qk m9 tz) Es fG dy eU [lh.heap.size,w5.heap.size] L6 w3.heap.size lh.heap.size CJ av fJ sm) ?_
 rintro v51 vq ⟨L7,av,⟨t',fJ,et,hr9⟩,tH⟩
 have hF:=hF.go tH
 have jW:=fJ
 obtain⟨u1,u3,u4,u5,u6,u8,cZ,CT⟩:=jW
 have C7:=CT.regs
 have bY:=dI CT.regs
 obtain⟨a1,n1,c1,e1,fi⟩:=bY
 subst e1
 have C7:=CT.regs
 rw[hr9] at C7
 have cZ:aJ vq lh.heap.size [str t'.aM,.slice a1 n1 c1,.int .i64 (t'.loads:Int),u3,u4,u5,u6,str t'.expr.aq.aw,u8,.int .i64 (t'.on:Int),str t'.aU,.int .i64 (t'.next:Int)].toArray 166:=cZ
 rw[et] at cZ
 refine W ?_
 refine aA (Ob tz.aM tz.regs ox (l3 tz.expr.n ⟨qk m9 tz,tz.sc,tz.on,tz.aU⟩ tz.expr) dm [lh.heap.size,w5.heap.size] L7 w3.heap.size _ vq av C7) ?_
 rintro v57 qT ⟨L8,av,bD⟩
 have hF:=hF.go bD.fr
 have vA:=av.drop
 obtain⟨Lx,eLx,av⟩:=vA
 have hF:=hF.go ((Fr.refl L8 qT).to (L2:=Lx) (λz hz=>.inl (by rw[eLx];simp[hz])))
 have av:dC t8 [w5.heap.size] Lx qT w3.heap.size false (D5 m9 tz):=av
 have aS:=WT.step lK
 rw[<-O7] at aS
 have WV:=T0 lK (999-gg)
 rw[<-O7,show 999-gg+1=1000-gg from by omega,show 999-gg=1000-(gg+1) from by omega] at WV
 refine W ?_
 exact⟨gg+1,⟨rfl,rfl⟩,⟨D5 m9 tz,Lx,av,aS,HB.trans WV,hF,om⟩,om⟩
 have lK:¬gg<m9.bJ.length:=om
 rw[TZ lK] at HB
 have db:=wS.size
 have dJ:=hF.aG.size
 have O8:Gr w.heap.size [] lh 58 3 xb gb (m9.blocks.map Bk.enc):=hS.bl.gr (λx hx=>hS.mem.2 (by simp at hx;simp[hx])) (λb hb=>by have h9:=hF.mem b (hS.mem.2 (by simp[hb]));rcases h9 with h9|h9;(·simp at h9;rcases h9 with rfl|rfl|rfl<;>omega);(·omega)) om
 refine WZ ?_
 apply dV cT 11 [58,59,60,61,62,63,64,65,66,4,5] [[],[0],[1],[2],[],[4],[5],[6],[7],[3],[8]] (it [_,_,_,_,_,_,_,_,_,_,_]) de rfl
 intro wd aB
 exact VZ
 intro x A4 CR
 refine bI CR hF O8 λhF O8=>?_
 change OW _ _ _ _ [] (bm (bg _ x _) (zZ 58 [_,_,_,_,_,_,_,_,_]++[(4,_),(5,_)])) _
 refine W ?_
 rw[HB]
 exact⟨_,rfl,⟨xb,gb,rfl,O8⟩,wS.since hF.aG (λx hx=>.inr (by simp at hx;rcases hx with rfl|rfl|rfl<;>omega))⟩
theorem O9:∀(k:Nat) {m:Mk} {i:Nat},rH m i->∃j,rH (x5 k m i) j
 |0,_,i,h=>⟨i,h⟩
 |k+1,m,i,h=>by
  by_cases hi:i<m.bJ.length
  ·rw[T0 hi];exact O9 k (h.step hi)
  ·rw[TZ hi];exact⟨i,h⟩
theorem akS (ba:e.ok) (ht:bw e []=some T) (hn:e.n<=120):ti (ofM e T).blocks:=by
 obtain⟨j,hj⟩:=O9 1000 (Na ba ht hn)
 exact hj.small
def C8 (s:ai) (f:Ex) (T:Ty):Prop:=∃e:Ex,bB s=some e.aq∧e.ok∧e.n<=120∧nv e=some f∧l4 f.aq.text=true∧bw e []=some T
def ET (s:ai) (ok:Bool) (bs:List Bk):Prop:=(ok=true->∃f T,C8 s f T∧(ofM f T).wide=false∧gk (ofM f T).blocks=true∧bs=(ofM f T).blocks)∧(ok=false->bs=[]∧∀f T,C8 s f T->¬((ofM f T).wide=false∧gk (ofM f T).blocks=true))
theorem WW (ba:f.ok) (hx:l4 f.aq.text=true):bB f.aq.text=some f.aq∧f.n<=120:=by
 obtain⟨e2,h1,h2,h3⟩:=wh.1 hx
 have h4:=(vM h1).2.2.1
 have h5:=Lu (Ex.wf h2) (Ex.wf ba) h4
 have h6:=qm h2 ba h5
 subst h6
 exact⟨h1,h3⟩
theorem akT {s:ai} (h:C8 s f T):f.ok∧bw f []=some T∧f.n<=120∧bB f.aq.text=some f.aq:=by
 obtain⟨e,h1,h2,h3,h4,h5,h6⟩:=h
 have h7:=Mo h2 h4
 obtain⟨h8,h9⟩:=WW h7 h5
 exact⟨h7,Sh h2 h6 h4,h9,h8⟩
theorem Ks {s:ai} {f':Ex} {T':Ty} (h:C8 s f T) (h':C8 s f' T'):f=f'∧T=T':=by
 obtain⟨e,h1,h2,h3,h4,h5,h6⟩:=h
 obtain⟨e',k1,k2,k3,k4,k5,k6⟩:=h'
 have he:=qm h2 k2 (Option.some.inj (h1.symm.trans k1))
 subst he
 rw[h4] at k4
 rw[h6] at k6
 exact⟨Option.some.inj k4,Option.some.inj k6⟩
theorem akU:C8 Kd qw .i:=⟨qw,VQ,Ot,by decide,aiF,by
 rw[VP];exact wh.2 ⟨qw,VQ,Ot,by decide⟩,type12⟩
theorem akV {ok:Bool} (h:ET Kd ok bs):ok=true:=by
 cases ok with
 |true=>rfl
 |false=>exact absurd ⟨aiG,aiH⟩ ((h.2 rfl).2 _ _ akU)
theorem ET.aM {s:ai} {ok:Bool} (h:ET s ok bs):∀b,b∈bs->b.aM.length<=10:=by
 cases ok with
 |true=>
  obtain⟨f,T,h1,_,_,rfl⟩:=h.1 rfl
  obtain⟨h2,h3,h4,_⟩:=akT h1
  obtain⟨j,hj⟩:=O9 1000 (Na h2 h3 h4)
  exact hj.labels
 |false=>rw[(h.2 rfl).1];intro b hb;cases hb
theorem ET.prog {s:ai} (h:ET s true bs):gk bs=true:=by
 obtain⟨f,T,_,_,h3,rfl⟩:=h.1 rfl
 exact h3
theorem WX (s:ai) (w:World):bz Tryz.prog 93 [str s] w λr w'=>(∃v ok bs,r= .tuple #[v,.bool ok]∧nj [] w' v bs∧ET s ok bs∧(ok=true->∃g,Gr w.heap.size [] w' 58 3 v g (bs.map Bk.enc)))∧aj [] w w':=by
 have hK:=aj.refl [] w
 refine bX [.tmp 2,.tmp 3] 44 Tryz.func93 rfl acW rfl rfl ?_
 refine W ?_
 refine aA (ahe s w) ?_
 rintro v1 w1 ⟨fX,aI⟩
 have dm:=aI.size
 have hK:=hK.ext aI
 have eN:=fX
 obtain⟨x0,WY,e0,yV,hx0⟩:=eN
 subst e0
 refine W ?_
 refine xl (t:=17) rfl (λh1=>?_) (λh1=>?_)
 replace h1:=jG h1
 have fU:WY=false:=by simpa using h1
 refine W ?_
 refine zc rfl (λh2=>?_) (λh2=>?_)
 refine zr<|fN jD gB λw2 az tS dJ=>?_
 have hK:=hK.ext az
 refine W ?_
 exact⟨_,rfl,⟨_,false,[],rfl,bN.nil _ _ _,⟨λh=>by(cases h),λ_=>⟨rfl,λf T ⟨e,h1,h2,h3,h4,h5,h6⟩=>by rw[yV.2 ⟨e,f,h1,h2,h3,h4,h5⟩] at fU;cases fU⟩⟩,λh=>by(cases h)⟩,hK⟩
 simp at h2
 replace h1:=jG h1
 have fU:WY=true:=(by simpa using h1)
 have hex:=yV.1 fU
 obtain⟨e,f,tR,ba,hn,hf,fh⟩:=hex
 have Pa:=hx0 e f tR ba hf fU
 subst Pa
 have AN:=Mo ba hf
 have Nt:=WW AN fh
 obtain⟨sD,N3⟩:=Nt
 have jB:Cx s (eC (bw e [])):=⟨λh=>(by rw[wh.2 ⟨e,tR,ba,hn⟩] at h;cases h),λe' h1 h2 h3=>by rw[qm h2 ba (Option.some.inj (h1.symm.trans tR))]⟩
 refine zm<|aA (ahU s w1) ?_
 rintro v2 w2 ⟨fl,az⟩
 have dy:=az.size
 have hK:=hK.ext az
 have eN:=fl
 obtain⟨b9,e9,cY⟩:=eN
 subst e9
 have cY:=cY _ jB
 refine W ?_
 refine zc rfl (λh3=>?_) (λh3=>?_)
 have eM:bw e []=none:=Vm (by have fO:b9=false:=(by simpa using h3);rw[fO] at cY;simpa using cY.symm)
 refine zr<|fN jD gB λw3 aH tS gv=>?_
 have hK:=hK.ext aH
 refine W ?_
 exact⟨_,rfl,⟨_,false,[],rfl,bN.nil _ _ _,⟨λh=>by(cases h),λ_=>⟨rfl,λf' T ⟨e',h1,h2,h3,h4,h5,h6⟩=>by rw[qm h2 ba (Option.some.inj (h1.symm.trans tR)),eM] at h6;cases h6⟩⟩,λh=>by(cases h)⟩,hK⟩
 have eM:=Vn (o:=bw e []) (by have fO:b9=true:=(by simpa using h3);rw[fO] at cY;simpa using cY.symm)
 obtain⟨T,eM⟩:=eM
 rw[eM] at jB
 have jB:Cx s T.text:=jB
 have N4:=Sh ba eM hf
 have kM:C8 s f T:=⟨e,tR,ba,hn,hf,fh,eM⟩
 refine gz<|zr<|zm<|aA (GA f.aq.text [] w2 sm) ?_
 rintro v3 w3 ⟨jb,aH⟩
 have eU:=aH.size
 have hK:=hK.ext aH
 have eN:=jb
 obtain⟨t,tv,e9,pL,hp⟩:=eN
 subst e9
 have e2:=hp.1 _ sD
 subst e2
 have bY:=dj pL
 obtain⟨pa,pn,pc,e9,eT,aQ⟩:=bY
 subst e9
 subst eT
 have mM:=hK.size
 refine W ?_
 refine dk aL rfl rfl rfl λw4 aO bA kF=>?_
 have hK:=hK.ext aO
 have dh:=aO
 refine cw (vs:=[str f.aq.aw,.slice pa f.aq.ak.length pc]) aL rfl rfl rfl bA rfl λw5 aP bA df=>?_
 have hK:=hK.since aP (λx hx=>.inr (by simp at hx;omega))
 have dh:=dh.since aP (λx hx=>.inr (by simp at hx;omega))
 have pL:=pL.ext dh
 refine W ?_
 apply tC cT 9 (rA 29 4++[28,33,34,8,9]) (rA 29 4++[28,33,34,8,9]) [[],[],[1],[0,2],[3],[4],[4],[5],[6]] [It.v _,It.v _,It.v _,It.p (fun(v:Value) (ww:World)=>∃vb g,v= .tuple #[vb,.bool (!(ofM f T).wide)]∧Gr w.heap.size [] ww 58 3 vb g ((ofM f T).blocks.map Bk.enc)),It.p (fun(v:Value) (ww:World)=>∃vb g,v= .tuple #[vb,.bool (!(ofM f T).wide)]∧Gr w.heap.size [] ww 58 3 vb g ((ofM f T).blocks.map Bk.enc)),It.p (fun(v:Value) (ww:World)=>∃g,Gr w.heap.size [] ww 58 3 v g ((ofM f T).blocks.map Bk.enc)),It.v _,It.p (fun(v:Value) (ww:World)=>∃g,Gr w.heap.size [] ww 58 3 v g ((ofM f T).blocks.map Bk.enc)),It.v _] de (by exact⟨λv w w' ⟨vb,g,h1,h2⟩ k=>⟨vb,g,h1,h2.ext k⟩,λv w w' ⟨vb,g,h1,h2⟩ k=>⟨vb,g,h1,h2.ext k⟩,λv w w' ⟨g,h⟩ k=>⟨g,h.ext k⟩,λv w w' ⟨g,h⟩ k=>⟨g,h.ext k⟩,trivial⟩)
 intro wd aB
 refine VA ?_
 refine vk aB (λx w6 bO=>?_) ?_
 refine aA (Vt s w6) ?_
 rintro v7 w7 ⟨uS,bV⟩
 have ov:=bV.size
 have eN:=uS
 obtain⟨x9,e9,iy⟩:=eN
 have iy:=Vs iy jB
 subst iy
 subst e9
 exact pk bV
 refine vk aB (λx w6 bO=>?_) ?_
 refine bI bO hK pL λhK pL=>?_
 have xL:=hK.size
 refine aA (akJ f T AN N4 N3 _ w6 pL) ?_
 rintro v7 w7 ⟨uS,bV⟩
 have ov:=bV.size
 have eN:=uS
 obtain⟨Km,g9,e9,EL⟩:=eN
 have EL:=EL.down (B':=w.heap.size) om
 exact pf bV (⟨Km,g9,e9,EL⟩)
 refine vc (λx w6 bO=>?_) ?_
 intro v3 d3
 refine WZ ?_
 exact pf (aj.refl _ _) d3
 refine vc (λx w6 bO=>?_) ?_
 intro v4 d4
 obtain⟨Km,g9,e9,OP⟩:=d4
 subst e9
 refine WZ ?_
 exact pf (aj.refl _ _) (⟨g9,OP⟩)
 refine vc (λx w6 bO=>?_) ?_
 intro v4 d4
 obtain⟨Km,g9,e9,OP⟩:=d4
 subst e9
 refine WZ ?_
 exact pv
 refine vc (λx w6 bO=>?_) ?_
 intro v5 d5
 refine WZ ?_
 exact pf (aj.refl _ _) d5
 exact VZ
 intro x pK rI
 intro v3 d3
 intro v4 d4
 intro v5 d5
 intro v7 d7
 have hK:=hK.ext rI
 change OW _ _ _ _ [] (bm (bg _ x _) (zZ 29 [_,_,_,_]++[(28,_),(33,_),(34,_),(8,_),(9,_)])) _
 obtain⟨g5,HN⟩:=d7
 refine W ?_
 refine xl (t:=37) rfl (λh4=>?_) (λh4=>?_)
 replace h4:=jG h4
 have Pb:(ofM f T).wide=true:=by simpa using h4
 refine W ?_
 refine zc rfl (λh5=>?_) (λh5=>?_)
 refine zr<|fN jD gB λqQ nT akX akY=>?_
 have hK:=hK.ext nT
 refine W ?_
 exact⟨_,rfl,⟨_,false,[],rfl,bN.nil _ _ _,⟨λh=>by(cases h),λ_=>⟨rfl,λf' T' hc hw=>by rw[(Ks hc kM).1,(Ks hc kM).2,Pb] at hw;cases hw.1⟩⟩,λh=>by(cases h)⟩,hK⟩
 simp at h5
 replace h4:=jG h4
 have Pb:(ofM f T).wide=false:=(by simpa using h4)
 refine zm<|aA (SW (ofM f T).blocks (akS AN N4 N3) _ [] pK HN.vK) ?_
 rintro _ qQ ⟨rfl,nT⟩
 have Kt:=nT.size
 refine bI nT hK HN λhK HN=>?_
 refine W ?_
 refine zc rfl (λh6=>?_) (λh6=>?_)
 have Pc:gk (ofM f T).blocks=false:=(by simpa using h6)
 refine zr<|fN jD gB λwq l7 akX aqW=>?_
 have hK:=hK.ext l7
 refine W ?_
 exact⟨_,rfl,⟨_,false,[],rfl,bN.nil _ _ _,⟨λh=>by(cases h),λ_=>⟨rfl,λf' T' hc hw=>by rw[(Ks hc kM).1,(Ks hc kM).2,Pc] at hw;cases hw.2⟩⟩,λh=>by(cases h)⟩,hK⟩
 have Pc:gk (ofM f T).blocks=true:=(by simpa using h6)
 refine W ?_
 exact⟨_,rfl,⟨_,true,_,rfl,HN.vK,⟨λ_=>⟨f,T,kM,Pb,Pc,rfl⟩,λh=>by(cases h)⟩,λ_=>⟨g5,HN⟩⟩,hK⟩
theorem akZ {a:Nat} (ha:a<4611686018427387904) (hb:b<4611686018427387904):IntKind.i64.wrap ((a%2^IntKind.i64.bits^^^b%2^IntKind.i64.bits:Nat):Int)=((a^^^b:Nat):Int):=by
 have hx:a^^^b<2^62:=Nat.xor_lt_two_pow om om
 have h1:a%2^IntKind.i64.bits=a:=Nat.mod_eq_of_lt (show a<2^64 by omega)
 have h2:b%2^IntKind.i64.bits=b:=Nat.mod_eq_of_lt (show b<2^64 by omega)
 rw[h1,h2]
 exact wrap_i64 _ om om
section
variable {P:Program} {n:Nat} {ops:Array Oper} {K:Env->World->Prop} {rest:List Oper} {e:Env} {w:World} {dst:Option Nat} {ty T T':TypeId} {pos:String} {after:Array Edge} {g:Option (Nat×Bool)} {x y:Operand}
theorem ak0 {a:Nat} (hg:gate ops e g=true) (hd:cm n dst=true) (hx:ev e x= .int .i64 (a:Int)) (hy:ev e y= .int .i64 (b:Int)) (ha:a<4611686018427387904) (hb:b<4611686018427387904) 
  (c':OW P n ops K rest (bQ e dst (.int .i64 ((a^^^b:Nat):Int))) w):OW P n ops K (⟨dst,.binOp .xor T x y T',ty,pos,after,g⟩::rest) e w:=
 eX hg hd (by simp[execOp,eqGuard,hx,hy,binOp,Op.intBits,akZ ha hb]) c'
end
theorem W0 {off len cap size h:Nat} (hr:bN L w (.slice (some ⟨b,off,none⟩) len cap) (.sl size rows)) (hh:h<=len):bN L w (.slice (some ⟨b,off,none⟩) h cap) (.sl size (rows.take h)):=by
 cases hr with
 |nil=>rw[List.take_nil,show h=0 from by omega];exact .nil _ _ _
 |sl _ _ _ _ _ _ f hl hc hb hL hs kj gD=>
  exact .sl b off h cap size (rows.take h) f (by rw[List.length_take];omega) om hb hL (λrow hr=>hs row (List.mem_of_mem_take hr)) (λk j hk hj=>kj k j om hj) (λk j row c hk hj=>gD k j row c (by
   rw[List.getElem?_take] at hk
   split at hk
   ·exact hk
   ·cases hk) hj)
section
variable {P:Program} {n:Nat} {ops:Array Oper} {K:Env->World->Prop} {rest:List Oper} {e:Env} {w:World} {dst:Option Nat} {ty T:TypeId} {pos:String} {after:Array Edge} {g:Option (Nat×Bool)} {x:Operand}
theorem W1 {L:List Nat} {E:TypeId} {hi:Operand} {b off len cap h:Nat} {k:IntKind} (hT:P.underlying T=some (.slice E)) (hE:TI P E sz bytes z) (hg:gate ops e g=true) (hd:cm n dst=true) 
  (hx:ev e x= .slice (some ⟨b,off,none⟩) len cap) (Fa:ev e hi= .int k (h:Int)) (hl:h<=len) {rows:List (List C)} (hr:bN L w (.slice (some ⟨b,off,none⟩) len cap) (.sl sz rows))
  (c:OW P n ops K rest (bQ e dst (.slice (some ⟨b,off,none⟩) h cap)) w):OW P n ops K (⟨dst,.slice T x none (some hi) none,ty,pos,after,g⟩::rest) e w:=by
 have Dp:len<=cap:=by cases hr with|nil=>exact Nat.zero_le _|sl _ _ _ _ _ _ _ hl hc=>exact hc
 have h2:h<=cap:=Nat.le_trans hl Dp
 refine eX hg hd (v:=.slice (some ⟨b,off,none⟩) h cap) (w':=w) ?_ c
 simp[execOp,Instr.sliceAt,Instr.slice,hx,Fa,run_underlying hT,Instr.sliceBounds,Instr.sliceBound,asIntOf,h2,hE.sZ,vE]
end
def qy (bs:List UInt8):List (List C):=bs.map λc=>[.val (.int .u8 (c.toNat:Int))]
theorem EU (bs:List UInt8):(qy bs).length=bs.length:=by simp[qy]
theorem Ku {bs:List UInt8} (h:bN L w (.slice a n c) (.sl 1 (qy bs))) (hi:i<bs.length):∃b off x,a=some ⟨b,off,none⟩∧fp L w b (off+i*1) [.int .u8 ((x:UInt8).toNat:Int)]:=by
 obtain⟨b,off,vs,ha,hb,hL,hl,hc,hr⟩:=yR h (i:=i) (row:=[.val (.int .u8 ((bs[i]).toNat:Int))]) (by simp[qy,gE hi])
 obtain⟨u,hu⟩:∃u,vs=[u]:=by
  match vs,hl with
  |[u],_=>exact⟨u,rfl⟩
 subst hu
 obtain⟨h1,_⟩:=hr
 cases h1
 exact⟨b,off,bs[i],ha,hc,hb,hL⟩
def dB (w:World) (br q:Nat):Prop:=∃a n c p bs,aJ w br [.slice a n c,.int .i64 ((p:Nat):Int)].toArray 102∧p<=q∧(∀L:List Nat,(∀x,x∈L->br<=x)->bN L w (.slice a n c) (.sl 1 (qy bs)))∧n<=1000000000
theorem dB.ext {br:Nat} (h:dB w br q) (k:aj [] w w'):dB w' br q:=let⟨a,n,c,p,bs,h1,h2,h3,h4⟩:=h;⟨a,n,c,p,bs,h1.ext k,h2,λL hL=>bN.ext (h3 L hL) k,h4⟩
theorem dB.more {br q':Nat} (h:dB w br q) (hq:q<=q'):dB w br q':=let⟨a,n,c,p,bs,h1,h2,h3,h4⟩:=h;⟨a,n,c,p,bs,h1,Nat.le_trans h2 hq,h3,h4⟩
theorem dB.lt {br:Nat} (h:dB w br q):br<w.heap.size:=let⟨_,_,_,_,_,h1,_⟩:=h;h1.lt
theorem W2 {br:Nat} {v:Value} (h:∀L:List Nat,(∀x,x∈L->br<=x)->bN L w v (.sl 1 rows)) (k:aj G w w') (hG:∀x,x∈G->br<=x):∀L:List Nat,(∀x,x∈L->br<=x)->bN L w' v (.sl 1 rows):=λL hL=>
 (bN.aG (h (G++L) λx hx=>(mA.1 hx).elim (hG x) (hL x)) (k.mono λx hx=>List.mem_append_left _ hx)).fresh λx hx=>.inl (mR _ hx)
theorem dB.aG {br:Nat} (h:dB w br q) (k:aj G w w') (hG:∀x,x∈G->br<x):dB w' br q:=let⟨a,n,c,p,bs,h1,h2,h3,h4⟩:=h;⟨a,n,c,p,bs,h1.aG k (λhx=>Nat.lt_irrefl _ (hG br hx)),h2,W2 h3 k (λx hx=>Nat.le_of_lt (hG x hx)),h4⟩
section
open Go Go.ChangeShapes Go.WideShapes
theorem ak1 {zs:List Int} (h:∀n,n∈zs->(Lit.int .u8 n).wf=true) (hi:i<zs.length):Value.int .u8 (zs.getD i 0)= .int .u8 (((UInt8.ofNat (zs.getD i 0).toNat).toNat:Nat):Int):=by
 have:=range_u8 h i
 rw[<-gG] at this
 congr 1
 simp only[UInt8.toNat_ofNat']
 omega
section
variable {H:Type} {enc:TypeId×Value->H} {P:Program} {w:World} {held:Bool}
theorem aqX {t e:TypeId} {fuel:Nat} {cs:List Value} {x:DataW H×List MemPlace} (ht:P.underlying t=some (.slice e)) (he:P.underlying e=some (.int .u8)) (hc:P.cellsOf e=1) 
  (h:DataW.trod enc P w 0 (λ_=>true) held fuel t cs=some x):∃a len cap bs,cs=[.slice a len cap]∧bN [] w (.slice a len cap) (.sl 1 (qy bs)):=by
 rcases open_ints ht he hc h with⟨rfl,_⟩|⟨a,len,cap,zs,rfl,_,hl,hm,hz,_,kj,cL⟩
 ·exact⟨none,0,0,[],rfl,.nil _ _ _⟩
 ·simp only[if_true] at hz
  rcases Nat.eq_zero_or_pos len with h0|hp
  ·subst h0
   exact⟨some a,0,cap,[],rfl,.nil _ _ _⟩
  ·have h0:=kj 0 om
   rw[show a.add 0=a from by simp[Addr.add]] at h0
   obtain⟨ha,hb⟩:=aev h0
   have ig:((zs.take len).map λn=>UInt8.ofNat n.toNat).length=len:=by simp;omega
   refine⟨some a,len,cap,(zs.take len).map λn=>UInt8.ofNat n.toNat,rfl,?_⟩
   rw[ha]
   refine .sl a.block a.off len cap 1 _ (λi _=>.int .u8 (zs.getD i 0)) (by rw[EU,ig]) hl hb sm (λrow hr=>?_) (λi j hi hj=>?_) (λi j row c gY hc=>?_)
   ·obtain⟨_,_,rfl⟩:=List.mem_map.1 hr;rfl
   ·have h1:=kj i om
    rw[aew ha] at h1
    rw[show a.off+i*1+j=a.off+i from by omega]
    exact h1
   ·have hi:i<len:=by
     have:=(List.getElem?_eq_some_iff.1 gY).1
     rw[EU,ig] at this;exact this
    have hrw:row=[.val (.int .u8 (((UInt8.ofNat (zs.getD i 0).toNat).toNat:Nat):Int))]:=by
     simp only[qy,List.map_map,List.getElem?_map,List.getElem?_take,iP hi,gE (show i<zs.length by omega),Option.map_some,Function.comp,Option.some.injEq] at gY
     rw[<-gY]
     simp[gG,gE (show i<zs.length by omega)]
    subst hrw
    match j,hc with
    |0,hc=>
     simp only[List.getElem?_cons_zero,Option.some.injEq] at hc
     subst hc
     rw[ak1 cL om]
     exact .val _
    |j+1,hc=>simp at hc
end
end
section
variable {P:Program} (w:World)
end
section
variable {P:Program} {n:Nat} {ops:Array Oper} {K:Env->World->Prop} {rest:List Oper} {e:Env} {w:World}
 {dst:Option Nat} {ty:TypeId} {pos:String} {after:Array Edge} {g:Option (Nat×Bool)} {x y:Operand}
theorem W3 {t E:Nat} {u:Value} {kl kc:IntKind} (N:Nat) (hT:P.underlying t=some (.slice E)) (hE:TI P E 1 bytes z) (hg:gate ops e g=true) (hd:cm n dst=true) 
  (hz:z.cells=[u].toArray) (gj:Nat.ble bytes 1000=true) (hx:ev e x= .int kl (N:Int)) (hy:ev e y= .int kc (N:Int)) (hN:N<=100000000000)
  (k:∀w',aj [] w w'->w'.heap.size=w.heap.size+1->aJ w' w.heap.size (List.replicate N u).toArray E->OW P n ops K rest (bQ e dst (.slice (some ⟨w.heap.size,0,none⟩) N N)) w'):
  OW P n ops K (⟨dst,.makeSlice t x y,ty,pos,after,g⟩::rest) e w:=by
 obtain⟨i,hi,xr,gN,yK⟩:=hE.get
 have Bw:bytes<=1000:=Nat.le_of_ble_eq_true gj
 have hb:(i.bytes:Int)*(N:Int)<=281474976710656:=by
  have:i.bytes*N<=1000*100000000000:=Nat.mul_le_mul om hN
  have h:((i.bytes*N:Nat):Int)<=281474976710656:=by omega
  rwa [Int.natCast_mul] at h
 have hr:=run_make (P:=P) w t E i z hT hi xr kl kc (N:Int) (N:Int) om (Int.le_refl _) hb om
 simp only[Int.toNat_natCast] at hr
 have vG:=SH z.cells N
 rw[hz] at vG
 have e1:(madeCells [u].toArray (N*1))=(List.replicate N u).toArray:=by
  apply Array.toList_inj.1
  have:([u].toArray).size=1:=rfl
  rw[this] at vG
  rw[vG]
  induction N with
  |zero=>rfl
  |succ N ih=>simp[List.replicate_succ]
 refine eX hg hd (w':=w.alloc (.cells (madeCells z.cells (N*1)) E)) (by rw[gN] at hr;simp[execOp,hx,hy,hr]) (k _ (aj.alloc _ _ _) sm ?_)
 rw[hz,e1]
 exact aJ.alloc _ _ _
end
section
variable {P:Program} {n:Nat} {ops:Array Oper} {K:Env->World->Prop} {rest:List Oper} {e:Env} {w:World}
 {dst:Option Nat} {ty:TypeId} {pos:String} {after:Array Edge} {g:Option (Nat×Bool)} {x y:Operand}
end

section
variable {p:List eP} {st:TS} {o:Nat} {t:au}
end
def pX:ai:=[109,97,105,110]
theorem ak3 (bs:List Bk) (l:ai):ru (bs.map gW) l=mv bs l:=by
 unfold ru mv
 rw[List.findIdx?_map]
 rfl
def Pd (ps:List eP):Prop:=0<ps.length∧(∀k,k<ps.length->ru ps (mw ps k).aM=(k:Int))∧(mw ps 0).aM=pX
theorem Pd.main {ps:List eP} (h:Pd ps):ru ps pX=0:=by rw[<-h.2.2];exact h.2.1 0 h.1
theorem Kv (hk:k<bs.length):mw (bs.map gW) k=gW (bR bs k):=by
 have:=DC (ps:=bs.map gW) (i:=k) (by rw[List.length_map];exact hk)
 rw[List.getElem?_map,py hk] at this
 exact(Option.some.inj this).symm
theorem W4:(bs.map Bk.aM).Nodup↔∀i j,i<bs.length->j<bs.length->i<j->(bR bs i).aM≠(bR bs j).aM:=by
 unfold List.Nodup
 rw[List.pairwise_iff_getElem]
 constructor
 ·intro h i j hi hj kn
  have:=h i j (by rw[List.length_map];exact hi) (by rw[List.length_map];exact hj) kn
  rw[List.getElem_map,List.getElem_map,<-FF hi,<-FF hj] at this
  exact this
 ·intro h i j hi hj kn
  rw[List.length_map] at hi hj
  rw[List.getElem_map,List.getElem_map,<-FF hi,<-FF hj]
  exact h i j hi hj kn
theorem ak4 (hn:(bs.map Bk.aM).Nodup) (hi:i<bs.length):mv bs (bR bs i).aM=(i:Int):=
 Lm hi (λj hj=>W4.1 hn j i om hi hj) rfl
theorem ak5 (h:gk bs=true):(bs.map Bk.aM).Nodup:=by
 unfold gk at h
 simp only[aE,dE] at h
 refine W4.2 λi j hi hj kn e=>?_
 have h1:=(h.1 i hi).2
 have h2:=(h.1 j hj).2
 rw[e,h2] at h1
 omega
theorem W5 (h:gk bs=true):Pd (bs.map gW):=by
 have hn:=ak5 h
 unfold gk at h
 simp only[aE,dE] at h
 refine⟨by rw[List.length_map];omega,λk hk=>?_,?_⟩
 ·rw[List.length_map] at hk
  rw[Kv hk]
  show ru (bs.map gW) (bR bs k).aM=_
  rw[ak3];exact ak4 hn hk
 ·rw[Kv om];exact h.2.1.2
section
variable {P:Program} {n:Nat} {ops:Array Oper} {K:Env->World->Prop} {rest:List Oper} {e:Env} {w:World}
 {dst:Option Nat} {ty T':TypeId} {pos:String} {after:Array Edge} {g:Option (Nat×Bool)} {x y:Operand}
theorem W6 {T E:TypeId} {m:Nat} (hT:P.underlying T=some (.slice E)) (hg:gate ops e g=true) (hd:cm n dst=true) (hx:ev e x= .slice a m c) (hy:ev e y= .slice none 0 0) 
  (k:OW P n ops K rest (bQ e dst (.bool a.isNone)) w):OW P n ops K (⟨dst,.binOp .eql T x y T',ty,pos,after,g⟩::rest) e w:=
 eX hg hd (by simp[execOp,eqGuard,hx,hy,Lib.run_eql_slice_nil w T E a m c 0 0 hT]) k
end
theorem ak6 {xs:List ai} (h:bc L w (.slice a n c) xs) (ha:a.isNone=true):xs=[]:=by
 cases xs with
 |nil=>rfl
 |cons x xs=>
  obtain⟨b,off,e,_⟩:=mu h (i:=0) rfl
  rw[e] at ha;cases ha
def z40:List ai:=List.replicate 40 []
theorem Pe (h:i<40):cv z40 i=[]:=by
 unfold cv z40
 rw[gG,List.getElem?_replicate,iP h];rfl
theorem ak7 {T:TypeId} {rb rc:Nat} {g:Option Nat} (h:cz w T (.slice (some ⟨rb,0,none⟩) 40 rc) g z40) (hi:i<40):fQ w rb (0+i*1) [str []]:=by
 obtain⟨b1,eR,e1,hc⟩:=mu h.rs (jN (xs:=z40) (i:=i) (by simpa[z40] using hi))
 cases e1
 rw[Pe hi] at hc
 exact hc
theorem ak8 (h:lY t=true) (hs:∀i,i<t.ak.length-1->(eZ (cg t) t.ak.length).getD i 0≠115):cg t=[99,111,110,115,116]∨cg t=[110,101,119]∨cg t=[108,97,98]:=by
 obtain⟨h1,h2,_⟩:=FK h
 revert h1 h2 hs
 unfold eZ
 generalize cg t=hd
 intro hs h1 h2
 by_cases e1:hd=[99,111,110,115,116]
 ·exact .inl e1
 rw[iN e1] at hs h1 h2
 split at hs
 ·next e=>rw[iP e] at h2;exact absurd rfl (hs 1 (by simp at h2;omega))
 next e2=>
 rw[iN e2] at h1 h2
 split at hs
 ·next e=>rw[iP e] at h2;exact absurd rfl (hs 1 (by simp at h2;omega))
 next e3=>
 rw[iN e3] at h1 h2
 split at hs
 ·next e=>exact .inr (.inl e)
 next e4=>
 rw[iN e4] at h1 h2
 split at hs
 ·next e=>rw[iP e] at h2;exact absurd rfl (hs 1 (by simp at h2;omega))
 next e5=>
 rw[iN e5] at h1 h2
 split at hs
 ·next e=>exact .inr (.inr e)
 next e6=>
 rw[iN e6] at h1 h2
 split at hs
 ·next e=>rw[iP e] at h2;exact absurd rfl (hs 1 (by simp at h2;omega))
 next e7=>
 rw[iN e7] at h1 h2
 split at hs
 ·next e=>rw[iP e] at h2;exact absurd rfl (hs 0 (by simp at h2;omega))
 next e8=>
 rw[iN e8] at h1 h2
 split at hs
 ·next e=>rw[iP e] at h2;exact absurd rfl (hs 0 (by simp at h2;omega))
 next e9=>rw[iN e9] at h1;exact absurd rfl h1
theorem ak9 (h:lY t=true) (hh:cg t=[99,111,110,115,116]∨cg t=[110,101,119]∨cg t=[108,97,98]):1<t.ak.length∧rk (nth t.ak 1).aw=true:=by
 obtain⟨h1,h2,h3⟩:=FK h
 have h4:0<(eZ (cg t) t.ak.length).length∧(eZ (cg t) t.ak.length).getD 0 0=100:=by
  rcases hh with e|e|e<;>rw[e]<;>simp[eZ]
 have h5:=h3 0 h4.1
 rw[h4.2] at h5
 exact⟨by omega,by simpa[ga] using h5⟩
theorem ala (h:lY t=true) (hi:i<t.ak.length-1) (hs:(eZ (cg t) t.ak.length).getD i 0=115):rk (nth t.ak (i+1)).aw=true:=by
 obtain⟨h1,h2,h3⟩:=FK h
 have h5:=h3 i om
 rw[hs] at h5
 simpa[ga] using h5
theorem W7 (h:lY t=true) (hh:cg t=[99,111,110,115,116]∨cg t=[108,97,98]):2<t.ak.length:=by
 obtain⟨h1,h2,h3⟩:=FK h
 rcases hh with e|e<;>rw[e] at h2<;>simp[eZ] at h2<;>omega
theorem alb (xs:List ai) (hx:xs.length<1000000000000) (va vb:Value) (La Lb:List Nat) (w:World) (ha:bc La w va xs) (hb:bc Lb w vb xs):bz Tryz.prog 20 [va,vb] w λr w'=>r= .bool true∧aj [] w w':=by
 obtain⟨a1,n1,c1,rfl,fi⟩:=dI ha
 obtain⟨a2,n2,c2,rfl,eK⟩:=dI hb
 subst fi eK
 have hK:=aj.refl [] w
 refine bX [.tmp 4] 26 Tryz.func20 rfl abP rfl rfl ?_
 refine W ?_
 refine zc rfl (λh1=>?_) (λh1=>?_)
 exact absurd rfl h1
 refine W ?_
 refine eH (λk:Nat=>[(0,.slice a1 xs.length c1),(1,.slice a2 xs.length c2),(5,.int .i64 (k:Int))]) (λk w'=>aj [] w w'∧k<=xs.length) (λk=>xs.length-k) (0) (⟨rfl,rfl,rfl⟩) (⟨hK,om⟩) λgg w1 e1 hI=>?_
 obtain⟨hK,hk⟩:=hI
 refine W ?_
 refine zc rfl (λh2=>?_) (λh2=>?_)
 have hg:=jN (xs:=xs) (i:=gg) om
 obtain⟨b1,eR,rfl,bF⟩:=mu ha hg
 obtain⟨b2,l5,rfl,bU⟩:=mu hb hg
 refine WZ ?_
 apply kD cT 9 (rA 17 9) (rA 17 9) [[],[],[0,1],[2],[],[],[4,5],[6],[3,7]] [It.v _,It.v _,It.v _,It.v _,It.v _,It.v _,It.v _,It.v _,It.v (.bool (decide (cv xs gg≠cv xs gg)))] de rfl
 intro wd aB
 refine VA ?_
 refine vk aB (λx w2 az=>?_) ?_
 have hK:=hK.ext az
 refine zl fA rfl (bF.ext hK 0 _ rfl) ?_
 exact pv
 refine VA ?_
 refine vk aB (λx w2 az=>?_) ?_
 have hK:=hK.ext az
 refine zl fA rfl (bU.ext hK 0 _ rfl) ?_
 exact pv
 exact VZ
 intro x nO gi
 have hK:=hK.ext gi
 change OW _ _ _ _ [] (bm (bg _ x _) (zZ 17 [_,_,_,_,_,_,_,_,_])) _
 refine aZ<|zc rfl (λh3=>?_) (λh3=>?_)
 exact absurd rfl h3
 refine W ?_
 exact⟨gg+1,⟨rfl,rfl,rfl⟩,⟨hK,om⟩,om⟩
 refine W ?_
 exact⟨_,rfl,rfl,hK⟩
end Go.Proofs.YthbhobaiopccaaaGreatDoor
namespace Go.Proofs
open Go.Shelf
def Tryz.alc:Go.Shelf.Ren:=⟨fun|170=>174|n=>n,fun|70=>111|3=>3|0=>0|72=>113|37=>22|5=>5|n=>n,fun|n=>n⟩
theorem Tryz.ald:Go.Proofs.Lays.n170 Tryz.prog Tryz.alc:={
 mixed:=by kernel_rfl
 f170:=Tryz.func174.trans (congrArg some (by kernel_rfl))
 t0:=Tryz.underlying0
 a0:=Tryz.isAgg0
 z0:=Tryz.sizeOf0
 v0:=Tryz.zeroValue0
 t3:=Tryz.underlying3
 a3:=Tryz.isAgg3
 z3:=Tryz.sizeOf3
 v3:=Tryz.zeroValue3
 t37:=Tryz.underlying22
 a37:=Tryz.isAgg22
 z37:=Tryz.sizeOf22
 v37:=Tryz.zeroValue22
 t70:=Tryz.underlying111
 a70:=Tryz.isAgg111
 z70:=Tryz.sizeOf111
 v70:=Tryz.zeroValue111
 t72:=Tryz.underlying113
 a72:=Tryz.isAgg113
 z72:=Tryz.sizeOf113
 v72:=Tryz.zeroValue113}
def Tryz.W8:Go.Shelf.Ren:=⟨fun|169=>79|n=>n,fun|70=>111|9=>9|0=>0|72=>113|37=>22|127=>136|3=>3|5=>5|n=>n,fun|n=>n⟩
theorem Tryz.ale:Go.Proofs.Lays.n169 Tryz.prog Tryz.W8:={
 mixed:=by kernel_rfl
 f169:=Tryz.func79.trans (congrArg some (by kernel_rfl))
 t0:=Tryz.underlying0
 a0:=Tryz.isAgg0
 z0:=Tryz.sizeOf0
 v0:=Tryz.zeroValue0
 t3:=Tryz.underlying3
 a3:=Tryz.isAgg3
 z3:=Tryz.sizeOf3
 v3:=Tryz.zeroValue3
 t9:=Tryz.underlying9
 a9:=Tryz.isAgg9
 z9:=Tryz.sizeOf9
 v9:=Tryz.zeroValue9
 t37:=Tryz.underlying22
 a37:=Tryz.isAgg22
 z37:=Tryz.sizeOf22
 v37:=Tryz.zeroValue22
 t70:=Tryz.underlying111
 a70:=Tryz.isAgg111
 z70:=Tryz.sizeOf111
 v70:=Tryz.zeroValue111
 t72:=Tryz.underlying113
 a72:=Tryz.isAgg113
 z72:=Tryz.sizeOf113
 v72:=Tryz.zeroValue113
 t127:=Tryz.underlying136
 a127:=Tryz.isAgg136
 z127:=Tryz.sizeOf136
 v127:=Tryz.zeroValue136}
theorem Tryz.alf:Builder.Extra Tryz.prog Tryz.W8:={
 sizeBuilder:=by kernel_rfl
 liesBuilder:=by kernel_rfl
 t5:=Tryz.underlying5
 a5:=Tryz.isAgg5
 z5:=Tryz.sizeOf5
 v5:=Tryz.zeroValue5
 infoByte:=by kernel_rfl
 cellsByte:=by kernel_rfl
 sizeByte:=by kernel_rfl
 neB5:=by decide}
def Tryz.W9:Go.Shelf.Ren:=⟨fun|165=>173|240=>141|241=>206|276=>171|277=>230|n=>n,fun|70=>111|3=>3|0=>0|4=>4|9=>9|20=>20|72=>113|37=>22|164=>179|5=>5|n=>n,fun|n=>n⟩
theorem Tryz.alg:Go.Proofs.Lays.n165 Tryz.prog Tryz.W9:={
 mixed:=by kernel_rfl
 f165:=Tryz.func173.trans (congrArg some (by kernel_rfl))
 f240:=Tryz.func141.trans (congrArg some (by kernel_rfl))
 f241:=Tryz.func206.trans (congrArg some (by kernel_rfl))
 f276:=Tryz.func171.trans (congrArg some (by kernel_rfl))
 f277:=Tryz.func230.trans (congrArg some (by kernel_rfl))
 t0:=Tryz.underlying0
 a0:=Tryz.isAgg0
 z0:=Tryz.sizeOf0
 v0:=Tryz.zeroValue0
 t3:=Tryz.underlying3
 a3:=Tryz.isAgg3
 z3:=Tryz.sizeOf3
 v3:=Tryz.zeroValue3
 t4:=Tryz.underlying4
 a4:=Tryz.isAgg4
 z4:=Tryz.sizeOf4
 v4:=Tryz.zeroValue4
 t9:=Tryz.underlying9
 a9:=Tryz.isAgg9
 z9:=Tryz.sizeOf9
 v9:=Tryz.zeroValue9
 t20:=Tryz.underlying20
 a20:=Tryz.isAgg20
 z20:=Tryz.sizeOf20
 v20:=Tryz.zeroValue20
 t37:=Tryz.underlying22
 a37:=Tryz.isAgg22
 z37:=Tryz.sizeOf22
 v37:=Tryz.zeroValue22
 t70:=Tryz.underlying111
 a70:=Tryz.isAgg111
 z70:=Tryz.sizeOf111
 v70:=Tryz.zeroValue111
 t72:=Tryz.underlying113
 a72:=Tryz.isAgg113
 z72:=Tryz.sizeOf113
 v72:=Tryz.zeroValue113
 t164:=Tryz.underlying179
 a164:=Tryz.isAgg179
 z164:=Tryz.sizeOf179
 v164:=Tryz.zeroValue179}
theorem Tryz.alh:Builder.Extra Tryz.prog Tryz.W9:={
 sizeBuilder:=by kernel_rfl
 liesBuilder:=by kernel_rfl
 t5:=Tryz.underlying5
 a5:=Tryz.isAgg5
 z5:=Tryz.sizeOf5
 v5:=Tryz.zeroValue5
 infoByte:=by kernel_rfl
 cellsByte:=by kernel_rfl
 sizeByte:=by kernel_rfl
 neB5:=by decide}
open Go.RowKit in
theorem Tryz.Builder_Grow_fresh (B b n:Nat) (w:World) (hB:B<=b) (fI:w.heap[b]?=some (.cells #[.pointer none,.slice none 0 0] 113 (0,0))) (C9:B<=w.heap.size) (hn:n<=281474976710656):
  Calls Tryz.prog 173 #[.pointer (some ⟨b,0,none⟩),.int .i64 n] w λe w'=>e= .returned (.tuple #[])∧(Lib.BuilderAt 113 5 B b (.pointer (some ⟨b,0,none⟩)) [] w'∧Below B w w'):=Any.Builder_Grow_fresh Tryz.alg Tryz.alh B b n w hB fI C9 hn
def Tryz.aqY:Go.Shelf.Ren:=⟨fun|210=>149|206=>140|n=>n,fun|9=>9|4=>4|3=>3|n=>n,fun|n=>n⟩
open Go.RowKit in
theorem Tryz.Builder_Len_f (B b:Nat) (bs:List Value) (w:World) (h:Lib.IsBuilderF 113 5 B b bs w):
  Calls Tryz.prog 174 #[.pointer (some ⟨b,0,none⟩)] w λe w'=>e= .returned (.int .i64 bs.length)∧w'=w:=Any.Builder_Len_f Tryz.ald B b bs w h
open Go.RowKit in
theorem Tryz.Builder_String_f (B b:Nat) (l:List UInt8) (w:World) (h:Lib.IsBuilderF 113 5 B b (Lib.byteCells l) w) (h0:l≠[]):
  Calls Tryz.prog 79 #[.pointer (some ⟨b,0,none⟩)] w λe w'=>e= .returned (.string ⟨l.toArray⟩)∧(Lib.IsBuilderF 113 5 B b (Lib.byteCells l) w'∧Below B w w'):=Any.Builder_String_f Tryz.ale Tryz.alf B b l w h h0
def Tryz.ali:Go.Shelf.Ren:=⟨fun|172=>144|244=>175|245=>176|247=>207|279=>208|280=>209|281=>210|282=>211|287=>231|316=>232|171=>122|205=>233|321=>245|322=>246|243=>148|246=>178|283=>212|284=>213|285=>214|286=>215|129=>235|317=>234|318=>236|319=>237|320=>238|337=>247|338=>248|n=>n,fun|9=>9|3=>3|75=>132|76=>133|4=>4|5=>5|167=>214|37=>22|0=>0|85=>215|2=>2|168=>217|53=>211|175=>236|46=>181|210=>239|127=>136|145=>253|143=>251|21=>21|171=>220|173=>223|212=>242|51=>208|20=>20|213=>243|232=>256|233=>257|80=>69|n=>n,fun|15=>0|16=>1|17=>2|18=>4|19=>5|n=>n⟩
theorem Tryz.alj:Go.Proofs.Lays.n172 Tryz.prog Tryz.ali:={
 mixed:=by kernel_rfl
 f129:=Tryz.func235.trans (congrArg some (by kernel_rfl))
 f171:=Tryz.func122.trans (congrArg some (by kernel_rfl))
 f172:=Tryz.func144.trans (congrArg some (by kernel_rfl))
 f205:=Tryz.func233.trans (congrArg some (by kernel_rfl))
 f243:=Tryz.func148.trans (congrArg some (by kernel_rfl))
 f244:=Tryz.func175.trans (congrArg some (by kernel_rfl))
 f245:=Tryz.func176.trans (congrArg some (by kernel_rfl))
 f246:=Tryz.func178.trans (congrArg some (by kernel_rfl))
 f247:=Tryz.func207.trans (congrArg some (by kernel_rfl))
 f279:=Tryz.func208.trans (congrArg some (by kernel_rfl))
 f280:=Tryz.func209.trans (congrArg some (by kernel_rfl))
 f281:=Tryz.func210.trans (congrArg some (by kernel_rfl))
 f282:=Tryz.func211.trans (congrArg some (by kernel_rfl))
 f283:=Tryz.func212.trans (congrArg some (by kernel_rfl))
 f284:=Tryz.func213.trans (congrArg some (by kernel_rfl))
 f285:=Tryz.func214.trans (congrArg some (by kernel_rfl))
 f286:=Tryz.func215.trans (congrArg some (by kernel_rfl))
 f287:=Tryz.func231.trans (congrArg some (by kernel_rfl))
 f316:=Tryz.func232.trans (congrArg some (by kernel_rfl))
 f317:=Tryz.func234.trans (congrArg some (by kernel_rfl))
 f318:=Tryz.func236.trans (congrArg some (by kernel_rfl))
 f319:=Tryz.func237.trans (congrArg some (by kernel_rfl))
 f320:=Tryz.func238.trans (congrArg some (by kernel_rfl))
 f321:=Tryz.func245.trans (congrArg some (by kernel_rfl))
 f322:=Tryz.func246.trans (congrArg some (by kernel_rfl))
 f337:=Tryz.func247.trans (congrArg some (by kernel_rfl))
 f338:=Tryz.func248.trans (congrArg some (by kernel_rfl))
 t0:=Tryz.underlying0
 a0:=Tryz.isAgg0
 z0:=Tryz.sizeOf0
 v0:=Tryz.zeroValue0
 t2:=Tryz.underlying2
 a2:=Tryz.isAgg2
 z2:=Tryz.sizeOf2
 v2:=Tryz.zeroValue2
 t3:=Tryz.underlying3
 a3:=Tryz.isAgg3
 z3:=Tryz.sizeOf3
 v3:=Tryz.zeroValue3
 t4:=Tryz.underlying4
 a4:=Tryz.isAgg4
 z4:=Tryz.sizeOf4
 v4:=Tryz.zeroValue4
 t5:=Tryz.underlying5
 a5:=Tryz.isAgg5
 z5:=Tryz.sizeOf5
 v5:=Tryz.zeroValue5
 t9:=Tryz.underlying9
 a9:=Tryz.isAgg9
 z9:=Tryz.sizeOf9
 v9:=Tryz.zeroValue9
 t20:=Tryz.underlying20
 a20:=Tryz.isAgg20
 z20:=Tryz.sizeOf20
 v20:=Tryz.zeroValue20
 t21:=Tryz.underlying21
 a21:=Tryz.isAgg21
 z21:=Tryz.sizeOf21
 v21:=Tryz.zeroValue21
 t37:=Tryz.underlying22
 a37:=Tryz.isAgg22
 z37:=Tryz.sizeOf22
 v37:=Tryz.zeroValue22
 t46:=Tryz.underlying181
 a46:=Tryz.isAgg181
 z46:=Tryz.sizeOf181
 v46:=Tryz.zeroValue181
 t51:=Tryz.underlying208
 a51:=Tryz.isAgg208
 z51:=Tryz.sizeOf208
 v51:=Tryz.zeroValue208
 t53:=Tryz.underlying211
 a53:=Tryz.isAgg211
 z53:=Tryz.sizeOf211
 v53:=Tryz.zeroValue211
 t75:=Tryz.underlying132
 a75:=Tryz.isAgg132
 z75:=Tryz.sizeOf132
 v75:=Tryz.zeroValue132
 t76:=Tryz.underlying133
 a76:=Tryz.isAgg133
 z76:=Tryz.sizeOf133
 v76:=Tryz.zeroValue133
 t85:=Tryz.underlying215
 a85:=Tryz.isAgg215
 z85:=Tryz.sizeOf215
 v85:=Tryz.zeroValue215
 t127:=Tryz.underlying136
 a127:=Tryz.isAgg136
 z127:=Tryz.sizeOf136
 v127:=Tryz.zeroValue136
 t143:=Tryz.underlying251
 a143:=Tryz.isAgg251
 z143:=Tryz.sizeOf251
 v143:=Tryz.zeroValue251
 t145:=Tryz.underlying253
 a145:=Tryz.isAgg253
 z145:=Tryz.sizeOf253
 v145:=Tryz.zeroValue253
 t167:=Tryz.underlying214
 a167:=Tryz.isAgg214
 z167:=Tryz.sizeOf214
 v167:=Tryz.zeroValue214
 t168:=Tryz.underlying217
 a168:=Tryz.isAgg217
 z168:=Tryz.sizeOf217
 v168:=Tryz.zeroValue217
 t171:=Tryz.underlying220
 a171:=Tryz.isAgg220
 z171:=Tryz.sizeOf220
 v171:=Tryz.zeroValue220
 t173:=Tryz.underlying223
 a173:=Tryz.isAgg223
 z173:=Tryz.sizeOf223
 v173:=Tryz.zeroValue223
 t175:=Tryz.underlying236
 a175:=Tryz.isAgg236
 z175:=Tryz.sizeOf236
 v175:=Tryz.zeroValue236
 t210:=Tryz.underlying239
 a210:=Tryz.isAgg239
 z210:=Tryz.sizeOf239
 v210:=Tryz.zeroValue239
 t212:=Tryz.underlying242
 a212:=Tryz.isAgg242
 z212:=Tryz.sizeOf242
 v212:=Tryz.zeroValue242
 t213:=Tryz.underlying243
 a213:=Tryz.isAgg243
 z213:=Tryz.sizeOf243
 t232:=Tryz.underlying256
 a232:=Tryz.isAgg256
 z232:=Tryz.sizeOf256
 v232:=Tryz.zeroValue256
 t233:=Tryz.underlying257
 a233:=Tryz.isAgg257
 z233:=Tryz.sizeOf257
 v233:=Tryz.zeroValue257
 g15:=by kernel_rfl
 g16:=by kernel_rfl
 g17:=by kernel_rfl
 g18:=by kernel_rfl
 g19:=by kernel_rfl}
open Go.RowKit in
theorem Tryz.strconv_Atoi (s:ByteArray) (n:Int) (hl:s.size<=18) (h:Lib.atoi s.data.toList=some n) (w:World):
  Calls Tryz.prog 144 #[.string s] w λe w'=>e= .returned (.tuple #[.int .i64 n,.nilIface])∧∃t,w'=Lib.bytesWorld w 5 t:=Any.strconv_Atoi Tryz.alj s n hl h w
def Tryz.aqZ:Go.Shelf.Ren:=⟨fun|246=>178|283=>212|284=>213|285=>214|286=>215|129=>235|317=>234|318=>236|319=>237|320=>238|337=>247|338=>248|n=>n,fun|2=>2|3=>3|9=>9|4=>4|171=>220|0=>0|53=>211|37=>22|5=>5|173=>223|212=>242|51=>208|20=>20|213=>243|46=>181|232=>256|233=>257|n=>n,fun|17=>2|18=>4|19=>5|n=>n⟩
def Tryz.aq0:Go.Shelf.Ren:=⟨fun|243=>148|246=>178|283=>212|284=>213|285=>214|286=>215|129=>235|317=>234|318=>236|319=>237|320=>238|337=>247|338=>248|n=>n,fun|3=>3|9=>9|2=>2|4=>4|171=>220|0=>0|53=>211|37=>22|5=>5|173=>223|212=>242|51=>208|20=>20|213=>243|46=>181|232=>256|233=>257|n=>n,fun|17=>2|18=>4|19=>5|n=>n⟩
def Tryz.aq1:Go.Shelf.Ren:=⟨fun|171=>122|243=>148|246=>178|283=>212|284=>213|285=>214|286=>215|129=>235|317=>234|318=>236|319=>237|320=>238|337=>247|338=>248|n=>n,fun|3=>3|9=>9|2=>2|4=>4|171=>220|0=>0|53=>211|37=>22|5=>5|173=>223|212=>242|51=>208|20=>20|213=>243|46=>181|232=>256|233=>257|n=>n,fun|17=>2|18=>4|19=>5|n=>n⟩
def Tryz.alk:Go.Shelf.Ren:=⟨fun|171=>122|243=>148|246=>178|283=>212|284=>213|285=>214|286=>215|129=>235|317=>234|318=>236|319=>237|320=>238|337=>247|338=>248|n=>n,fun|3=>3|9=>9|2=>2|4=>4|171=>220|0=>0|53=>211|37=>22|5=>5|173=>223|212=>242|51=>208|20=>20|213=>243|46=>181|232=>256|233=>257|n=>n,fun|17=>2|18=>4|19=>5|n=>n⟩
theorem Tryz.alm:Go.Proofs.Lays.n171 Tryz.prog Tryz.alk:={
 mixed:=by kernel_rfl
 f129:=Tryz.func235.trans (congrArg some (by kernel_rfl))
 f171:=Tryz.func122.trans (congrArg some (by kernel_rfl))
 f243:=Tryz.func148.trans (congrArg some (by kernel_rfl))
 f246:=Tryz.func178.trans (congrArg some (by kernel_rfl))
 f283:=Tryz.func212.trans (congrArg some (by kernel_rfl))
 f284:=Tryz.func213.trans (congrArg some (by kernel_rfl))
 f285:=Tryz.func214.trans (congrArg some (by kernel_rfl))
 f286:=Tryz.func215.trans (congrArg some (by kernel_rfl))
 f317:=Tryz.func234.trans (congrArg some (by kernel_rfl))
 f318:=Tryz.func236.trans (congrArg some (by kernel_rfl))
 f319:=Tryz.func237.trans (congrArg some (by kernel_rfl))
 f320:=Tryz.func238.trans (congrArg some (by kernel_rfl))
 f337:=Tryz.func247.trans (congrArg some (by kernel_rfl))
 f338:=Tryz.func248.trans (congrArg some (by kernel_rfl))
 t0:=Tryz.underlying0
 a0:=Tryz.isAgg0
 z0:=Tryz.sizeOf0
 v0:=Tryz.zeroValue0
 t2:=Tryz.underlying2
 a2:=Tryz.isAgg2
 z2:=Tryz.sizeOf2
 v2:=Tryz.zeroValue2
 t3:=Tryz.underlying3
 a3:=Tryz.isAgg3
 z3:=Tryz.sizeOf3
 v3:=Tryz.zeroValue3
 t4:=Tryz.underlying4
 a4:=Tryz.isAgg4
 z4:=Tryz.sizeOf4
 v4:=Tryz.zeroValue4
 t5:=Tryz.underlying5
 a5:=Tryz.isAgg5
 z5:=Tryz.sizeOf5
 v5:=Tryz.zeroValue5
 t9:=Tryz.underlying9
 a9:=Tryz.isAgg9
 z9:=Tryz.sizeOf9
 v9:=Tryz.zeroValue9
 t20:=Tryz.underlying20
 a20:=Tryz.isAgg20
 z20:=Tryz.sizeOf20
 v20:=Tryz.zeroValue20
 t37:=Tryz.underlying22
 a37:=Tryz.isAgg22
 z37:=Tryz.sizeOf22
 v37:=Tryz.zeroValue22
 t46:=Tryz.underlying181
 a46:=Tryz.isAgg181
 z46:=Tryz.sizeOf181
 v46:=Tryz.zeroValue181
 t51:=Tryz.underlying208
 a51:=Tryz.isAgg208
 z51:=Tryz.sizeOf208
 v51:=Tryz.zeroValue208
 t53:=Tryz.underlying211
 a53:=Tryz.isAgg211
 z53:=Tryz.sizeOf211
 v53:=Tryz.zeroValue211
 t171:=Tryz.underlying220
 a171:=Tryz.isAgg220
 z171:=Tryz.sizeOf220
 v171:=Tryz.zeroValue220
 t173:=Tryz.underlying223
 a173:=Tryz.isAgg223
 z173:=Tryz.sizeOf223
 v173:=Tryz.zeroValue223
 t212:=Tryz.underlying242
 a212:=Tryz.isAgg242
 z212:=Tryz.sizeOf242
 v212:=Tryz.zeroValue242
 t213:=Tryz.underlying243
 a213:=Tryz.isAgg243
 z213:=Tryz.sizeOf243
 t232:=Tryz.underlying256
 a232:=Tryz.isAgg256
 z232:=Tryz.sizeOf256
 v232:=Tryz.zeroValue256
 t233:=Tryz.underlying257
 a233:=Tryz.isAgg257
 z233:=Tryz.sizeOf257
 v233:=Tryz.zeroValue257
 g17:=by kernel_rfl
 g18:=by kernel_rfl
 g19:=by kernel_rfl}
open Go.RowKit Go.Sort Go.Lib in
theorem Tryz.strconv_Itoa_small (i:Nat) (hi:i<100) (w:World):
  Calls Tryz.prog 122 #[.int .i64 i] w λe w'=>e= .returned (.string ⟨(Lib.decDigits i).toArray⟩)∧w'=w:=Any.strconv_Itoa_small Tryz.alm i hi w
def Tryz.aln:Go.Shelf.Ren:=⟨fun|99=>108|206=>140|n=>n,fun|9=>9|4=>4|3=>3|n=>n,fun|n=>n⟩
theorem Tryz.alo:Go.Proofs.Lays.n99 Tryz.prog Tryz.aln:={
 mixed:=by kernel_rfl
 f99:=Tryz.func108.trans (congrArg some (by kernel_rfl))
 f206:=Tryz.func140.trans (congrArg some (by kernel_rfl))
 t3:=Tryz.underlying3
 a3:=Tryz.isAgg3
 z3:=Tryz.sizeOf3
 v3:=Tryz.zeroValue3
 t4:=Tryz.underlying4
 a4:=Tryz.isAgg4
 z4:=Tryz.sizeOf4
 v4:=Tryz.zeroValue4
 t9:=Tryz.underlying9
 a9:=Tryz.isAgg9
 z9:=Tryz.sizeOf9
 v9:=Tryz.zeroValue9}
open Go.RowKit Go.Lib in
theorem Tryz.strings_HasPrefix (s p:ByteArray) (w:World):
  Calls Tryz.prog 108 #[.string s,.string p] w λe w'=>e= .returned (.bool (Lib.hasPrefix s.data.toList p.data.toList))∧w'=w:=Any.strings_HasPrefix Tryz.alo s p w
def Tryz.alp:Go.Shelf.Ren:=⟨fun|101=>145|208=>177|206=>140|n=>n,fun|9=>9|4=>4|3=>3|n=>n,fun|n=>n⟩
theorem Tryz.alq:Go.Proofs.Lays.n101 Tryz.prog Tryz.alp:={
 mixed:=by kernel_rfl
 f101:=Tryz.func145.trans (congrArg some (by kernel_rfl))
 f206:=Tryz.func140.trans (congrArg some (by kernel_rfl))
 f208:=Tryz.func177.trans (congrArg some (by kernel_rfl))
 t3:=Tryz.underlying3
 a3:=Tryz.isAgg3
 z3:=Tryz.sizeOf3
 v3:=Tryz.zeroValue3
 t4:=Tryz.underlying4
 a4:=Tryz.isAgg4
 z4:=Tryz.sizeOf4
 v4:=Tryz.zeroValue4
 t9:=Tryz.underlying9
 a9:=Tryz.isAgg9
 z9:=Tryz.sizeOf9
 v9:=Tryz.zeroValue9}
open Go.RowKit Go.Lib in
theorem Tryz.strings_TrimPrefix (s p:ByteArray) (w:World):
  Calls Tryz.prog 145 #[.string s,.string p] w λe w'=>e= .returned (.string ⟨(Lib.trimPrefix s.data.toList p.data.toList).toArray⟩)∧w'=w:=Any.strings_TrimPrefix Tryz.alq s p w
def Tryz.alr:Go.Shelf.Ren:=⟨fun|212=>172|263=>204|264=>205|n=>n,fun|46=>181|51=>208|146=>209|53=>211|148=>212|n=>n,fun|n=>n⟩
theorem Tryz.als:Go.Proofs.Lays.n212 Tryz.prog Tryz.alr:={
 mixed:=by kernel_rfl
 f212:=Tryz.func172.trans (congrArg some (by kernel_rfl))
 f263:=Tryz.func204.trans (congrArg some (by kernel_rfl))
 f264:=Tryz.func205.trans (congrArg some (by kernel_rfl))
 t46:=Tryz.underlying181
 a46:=Tryz.isAgg181
 z46:=Tryz.sizeOf181
 v46:=Tryz.zeroValue181
 t51:=Tryz.underlying208
 a51:=Tryz.isAgg208
 z51:=Tryz.sizeOf208
 v51:=Tryz.zeroValue208
 t53:=Tryz.underlying211
 a53:=Tryz.isAgg211
 z53:=Tryz.sizeOf211
 v53:=Tryz.zeroValue211
 t146:=Tryz.underlying209
 a146:=Tryz.isAgg209
 z146:=Tryz.sizeOf209
 v146:=Tryz.zeroValue209
 t148:=Tryz.underlying212
 a148:=Tryz.isAgg212
 z148:=Tryz.sizeOf212
 v148:=Tryz.zeroValue212}
open Go.RowKit Go.Lib in
theorem Tryz.bits_Mul (x y:Nat) (hx:x<18446744073709551616) (hy:y<18446744073709551616) (w:World):
  Calls Tryz.prog 172 #[.int .u64 x,.int .u64 y] w λe w'=>e= .returned (.tuple #[.int .u64 ((x*y/18446744073709551616:Nat):Int),.int .u64 ((x*y%18446744073709551616:Nat):Int)])∧w'=w:=Any.bits_Mul Tryz.als x y hx hy w
def Tryz.Xa:Go.Shelf.Ren:=⟨fun|166=>111|240=>141|276=>171|n=>n,fun|70=>111|3=>3|0=>0|4=>4|9=>9|20=>20|72=>113|37=>22|164=>179|5=>5|75=>132|80=>69|n=>n,fun|n=>n⟩
theorem Tryz.alu:Go.Proofs.Lays.n166 Tryz.prog Tryz.Xa:={
 mixed:=by kernel_rfl
 f166:=Tryz.func111.trans (congrArg some (by kernel_rfl))
 f240:=Tryz.func141.trans (congrArg some (by kernel_rfl))
 f276:=Tryz.func171.trans (congrArg some (by kernel_rfl))
 t0:=Tryz.underlying0
 a0:=Tryz.isAgg0
 z0:=Tryz.sizeOf0
 v0:=Tryz.zeroValue0
 t3:=Tryz.underlying3
 a3:=Tryz.isAgg3
 z3:=Tryz.sizeOf3
 v3:=Tryz.zeroValue3
 t4:=Tryz.underlying4
 a4:=Tryz.isAgg4
 z4:=Tryz.sizeOf4
 v4:=Tryz.zeroValue4
 t9:=Tryz.underlying9
 a9:=Tryz.isAgg9
 z9:=Tryz.sizeOf9
 v9:=Tryz.zeroValue9
 t20:=Tryz.underlying20
 a20:=Tryz.isAgg20
 z20:=Tryz.sizeOf20
 v20:=Tryz.zeroValue20
 t37:=Tryz.underlying22
 a37:=Tryz.isAgg22
 z37:=Tryz.sizeOf22
 v37:=Tryz.zeroValue22
 t70:=Tryz.underlying111
 a70:=Tryz.isAgg111
 z70:=Tryz.sizeOf111
 v70:=Tryz.zeroValue111
 t72:=Tryz.underlying113
 a72:=Tryz.isAgg113
 z72:=Tryz.sizeOf113
 v72:=Tryz.zeroValue113
 t164:=Tryz.underlying179
 a164:=Tryz.isAgg179
 z164:=Tryz.sizeOf179
 v164:=Tryz.zeroValue179
 t75:=Tryz.underlying132
 a75:=Tryz.isAgg132
 z75:=Tryz.sizeOf132
 v75:=Tryz.zeroValue132}
theorem Tryz.alv:Builder.Extra Tryz.prog Tryz.Xa:={
 sizeBuilder:=by kernel_rfl
 liesBuilder:=by kernel_rfl
 t5:=Tryz.underlying5
 a5:=Tryz.isAgg5
 z5:=Tryz.sizeOf5
 v5:=Tryz.zeroValue5
 infoByte:=by kernel_rfl
 cellsByte:=by kernel_rfl
 sizeByte:=by kernel_rfl
 neB5:=by decide}
open Go.RowKit in
theorem Tryz.Builder_WriteString_f (B b:Nat) (bs:List Value) (s:ByteArray) (w:World) (h:Lib.IsBuilderF 113 5 B b bs w) (hlen:bs.length+s.size<=140737488355328) (C9:B<=w.heap.size):
  Calls Tryz.prog 111 #[.pointer (some ⟨b,0,none⟩),.string s] w λe w'=>e= .returned (.tuple #[.int .i64 s.size,.nilIface])∧(Lib.BuilderAtF 113 5 B b (.pointer (some ⟨b,0,none⟩)) (bs++Lib.strCells s) w'∧Below B w w'):=Any.Builder_WriteString_f Tryz.alu Tryz.alv B b bs s w h hlen C9
end Go.Proofs
namespace Go.Proofs.YthbhobaiopccaaaGreatDoor
open Go
variable {m:Mk} {s:cE} {b bytes c i k n q sz:Nat} {z:Value} {E G L L1:List Nat} {w w' w1:World} {T:Ty} {e f:Ex} {t:au} {rows:List (List C)} {bs:List Bk} {a:Option Addr}
end Go.Proofs.YthbhobaiopccaaaGreatDoor
