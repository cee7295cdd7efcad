/- Lemmas for the law FnReach, no statement of their own: no conditions. -/
import Derived.Test.YthbhobaiopccaaaGreatDoorKh
import Derived.OpenShut
import Derived.Shelf.Bits.Mul64
import Derived.Shelf.LaysM
import Derived.Shelf.Slices.Turned
import Derived.Shelf.Small.Wraps
import Derived.Shelf.Strconv.Atoi
import Derived.Shelf.Strconv.Itoa0
import Derived.Shelf.Strconv.Itoa1
import Derived.Shelf.Strconv.Itoa2
import Derived.Shelf.Strconv.Itoa3
import Derived.Shelf.Strings.Builder1
import Derived.Shelf.Strings.Builder2
import Derived.Shelf.Strings.Builder2Cap
import Derived.Shelf.Strings.BuilderCap
import Derived.Shelf.Strings.BuilderF
import Derived.Shelf.Strings.BuilderK
import Derived.Shelf.Strings.Prefix
import Derived.Shelf.Strings.Repeat
set_option maxHeartbeats 4000000
set_option linter.unusedVariables false
set_option linter.unusedSimpArgs false
namespace Go.Proofs.YthbhobaiopccaaaGreatDoor
open Go
variable {m:Mk} {s:cH} {b i k q sz:Nat} {E G L L1:List Nat} {w w' w1:World} {T:Ty} {e f:Ex} {t:Tk} {rows:List (List C)} {bs:List Bk}
theorem XL {on:Nat} {aW name:ai} {K:Ty} {rest:Ex} (kS:on<1000) (ht:m.types.length+4<1000):(eP m s on aW name K rest).1.types.length<=m.types.length+4∧(eP m s on aW name K rest).1.code.length<=m.code.length+4∧(eP m s on aW name K rest).2.1<1000∧(eP m s on aW name K rest).1.count<=m.count+1∧(eP m s on aW name K rest).1.bJ.length<=m.bJ.length+1:=by
 unfold eP
 split
 ·have h:=U7 m.lN s on (cM rest [name] []) aW m.aJ (dC (bz K)) [bz K]
  refine⟨?_,?_,?_,?_,?_⟩
  ·show(oI m s on aW name K rest).m.types.length<=_
   unfold oI;rw[h.types];exact lR _
  ·show(oI m s on aW name K rest).m.code.length<=_
   unfold oI;rw[h.code];exact lR _
  ·show m.types.length+3<1000;omega
  ·exact lR _
  ·show((oI m s on aW name K rest).m.bJ++[_]).length<=_
   unfold oI;rw[h.bJ,lA];exact lR _
 ·exact⟨by show m.types.length<=_;omega,by show m.code.length<=_;omega,kS,by show m.count<=_;omega,by show m.bJ.length<=_;omega⟩
theorem XM (m:Mk) (s:Nat):(tq m s).types.length=m.types.length+3∧(tq m s).code.length=m.code.length+3:=by
 unfold tq;simp[Mk.df,Mk.cE]
structure PY (s:cH) (name:ai) (rest:Ex):Prop where
 ok:rest.ok
 n:rest.n<=1000
 fv:∀x,x∈cM rest [name] []->(look (eH s) x).isSome=true
 len:(cM rest [name] []).length<=40
theorem akU (t:Tk) (m:Mk) (f x:Ex) (name:ai) (rest:Ex) (K:Ty) (bh:(Ex.bi kr f x).ok) (hn:(Ex.bi kr f x).n<=1000) (eY:bA (.bi kr f x) (eH t.sc)=some K) (hs:ka t.sc) (oh:t.sc.length<=9000) (rN:t.on<1000) (kS:t.aW.length<=272) (PZ:name≠[]->PY t.sc name rest) (ht:m.types.length+9<1000) (hc:m.code.length<=7000) (vh:m.count<1000) (fL:m.bJ.length<90000) 
  (E L:List Nat) (b bt:Nat) (v vr:Value) (w:World) (h:dK t8 E L w b true m) (hT:gX L w 166 bt t) (eh:bt∈E) (hv:bC L w v (Ex.bi kr f x).au) (oY:bC L w vr rest.au):
  bw Tryz.prog 187 [.pointer (some ⟨b,0,none⟩),.pointer (some ⟨bt,0,none⟩),v,str name,vr] w λr w'=>∃L',dK t8 E L' w' b true (yQ (eP (cm (cm m t.sc f.aw).1 t.sc x.aw).1 t.sc t.on t.aW name K rest).1 (cm m t.sc f.aw).2 (cm (cm m t.sc f.aw).1 t.sc x.aw).2 (eP (cm (cm m t.sc f.aw).1 t.sc x.aw).1 t.sc t.on t.aW name K rest).2.1)∧(∃t',gX L' w' 166 bt t'∧t'.aJ=t.aJ∧t'.regs=t.regs)∧Fr L w L' w':=by
 obtain⟨ar,nr,cr,rfl,qB,aO⟩:=cY hv
 subst qB
 obtain⟨a9,n9,c9,rfl,BV,_⟩:=cY oY
 subst BV
 have lY:=h.dj
 have jg:=l5 hs.types eY
 have av:=h
 have hR:=dX.refl E L w
 have gz:bC L w _ (Ex.bi kr f x).au:=hv
 have nq:=oR bh.2.1
 have lB:=oR bh.2.2
 obtain⟨p,hp⟩:∃p,p=cm m t.sc f.aw:=⟨_,rfl⟩
 have z8:p.1.types.length<=m.types.length+1∧p.1.code.length<=m.code.length+1∧p.1.count=m.count∧p.1.bJ=m.bJ∧p.2<1000:=by rw[hp];exact IG hs om
 obtain⟨ptl,pcl,pcn,ptk,p2⟩:=z8
 rw[<-hp]
 obtain⟨q,hq⟩:∃q,q=cm p.1 t.sc x.aw:=⟨_,rfl⟩
 have IH:q.1.types.length<=p.1.types.length+1∧q.1.code.length<=p.1.code.length+1∧q.1.count=p.1.count∧q.1.bJ=p.1.bJ∧q.2<1000:=by rw[hq];exact IG hs om
 obtain⟨qtl,qcl,qcn,qtk,q2⟩:=IH
 rw[<-hq]
 obtain⟨C,hC⟩:∃C,C=eP q.1 t.sc t.on t.aW name K rest:=⟨_,rfl⟩
 have D4:C.1.types.length<=q.1.types.length+4∧C.1.code.length<=q.1.code.length+4∧C.2.1<1000∧C.1.count<=q.1.count+1∧C.1.bJ.length<=q.1.bJ.length+1:=by rw[hC];exact XL rN om
 obtain⟨Ctl,Ccl,C2,_,_⟩:=D4
 rw[<-hC]
 obtain⟨rc,II⟩:∃r,r=C.1.types.length:=⟨_,rfl⟩
 obtain⟨me,D5⟩:∃z,z=tq C.1 p.2:=⟨_,rfl⟩
 have P1:me.types.length=C.1.types.length+3∧me.code.length=C.1.code.length+3:=by rw[D5];exact XM _ _
 obtain⟨met,mec⟩:=P1
 obtain⟨r,pg⟩:∃r,r=me.types.length:=⟨_,rfl⟩
 obtain⟨c,eD⟩:∃c,c=me.code.length:=⟨_,rfl⟩
 have t0:me.types.length=r:=pg.symm
 have c0:me.code.length=c:=eD.symm
 have akV:yQ C.1 p.2 q.2 C.2.1=(((me.cE oa [[48],aU (rc+2)]).cE oa [[49],aU q.2]).cE oa [[50],aU C.2.1]).cE A2 [aU (rc+1)]:=by rw[D5,II];rfl
 rw[akV]
 have Pq:(Ex.bi kr f x).au.ak.length=3:=rfl
 obtain⟨b1,eX,gR,gF,e1,bK,_⟩:=fg aO (i:=1) om
 cases e1
 have bK:fF L w _ _ [str f.au.aw,.slice gR f.au.ak.length gF]:=bK
 rw[Ex.rI] at bK
 obtain⟨b2,lP,iI,iy,e2,bY,_⟩:=fg aO (i:=2) om
 cases e2
 have bY:fF L w _ _ [str x.au.aw,.slice iI x.au.ak.length iy]:=bY
 rw[Ex.rI] at bY
 refine bU [] 67 Tryz.func187 rfl adg rfl rfl ?_
 refine zr<|eK rfl λw1 aI cS dh=>bI aI av hR λav hR=>?_
 refine eK rfl λw2 az cT dD=>cJ az av hR cS λav hR cS=>?_
 refine W ?_
 have cS:dP L w2 w.heap.size [str (Ex.bi kr f x).au.aw,.slice (some ⟨b1,eX,none⟩) (Ex.bi kr f x).au.ak.length cr].toArray 74:=⟨cS,λhx=>by have:=lY _ hx;omega⟩
 have cT:dP L w2 w1.heap.size [str rest.au.aw,.slice a9 rest.au.ak.length c9].toArray 74:=⟨cT,λhx=>by have:=lY _ hx;omega⟩
 refine aA (K8 t (Ex.bi kr f x) bh hn hs.types om _ L bt w2 av.dj (hR.tk hT eh) (gz.go hR.fr)) ?_
 rintro v3 w3 ⟨jo,aH⟩
 have fh:=aH.size
 refine gY aH av hR cS cT λav hR cS cT=>?_
 have eZ:=jo
 rw[eY] at eZ
 subst eZ
 refine WI ?_
 refine zi (i:=1) cD aM rfl rfl ((show 1<3 from om))<|zL fc aM rfl ((bK.go hR.fr).cells) rfl<|aA (DN t f.aw m om om om oh E L b bt _ _ _ w3 av (hR.tk hT eh) eh) ?_
 rintro v20 w4 ⟨pT,L1,av,bF⟩
 rw[<-hp] at pT av
 subst pT
 have hR:=hR.go bF;have cS:=cS.go bF.fr;have cT:=cT.go bF.fr
 refine WI ?_
 refine zi (i:=2) cD aM rfl rfl ((show 2<3 from om))<|zL fc aM rfl ((bY.go hR.fr).cells) rfl<|aA (DN t x.aw p.1 om om om oh E L1 b bt _ _ _ w4 av (hR.tk hT eh) eh) ?_
 rintro v20 w5 ⟨pT,L2,av,bF⟩
 rw[<-hq] at pT av
 subst pT
 have hR:=hR.go bF;have cT:=cT.go bF.fr
 refine W ?_
 refine iS (λ_:Unit=>[(0,.pointer (some ⟨b,0,none⟩)),(1,.pointer (some ⟨bt,0,none⟩)),(11,.int .i64 (p.2:Int)),(12,.int .i64 (q.2:Int))]) (λ_ ww=>∃L3,dK t8 E L3 ww b true C.1∧gX L3 ww 166 bt {t with on:=C.2.1,aW:=C.2.2}∧Fr L w L3 ww) ?_ ?_
 refine zc rfl (λh1=>?_) (λh1=>?_)
 have eT:name≠[]:=(by simpa using h1)
 have aQ:=PZ eT
 obtain⟨g1,g2,g3,g4⟩:=aQ
 have D6:eP q.1 t.sc t.on t.aW name K rest=uF q.1 t.sc t.on t.aW name K rest:=(by unfold eP;rw[iP eT])
 rw[D6] at hC
 refine W ?_
 refine aA (Xv t q.1 name K rest g1 g2 g3 g4 hs oh jg rN kS om om om (by rw[qtk,ptk];omega) E L2 b bt _ w5 av (hR.tk hT eh) eh (oY.go hR.fr)) ?_
 rintro v39 w6 ⟨L3,av,ei,Ab,_⟩
 rw[<-hC] at av ei
 have hF:=hR.fr.go Ab
 refine W ?_
 exact⟨(),⟨rfl,rfl,rfl,rfl⟩,L3,av,ei,hF⟩
 have eT:¬name≠[]:=(by simpa using h1)
 have D6:eP q.1 t.sc t.on t.aW name K rest=(q.1,t.on,t.aW):=(by unfold eP;rw[iN eT])
 rw[D6] at hC
 subst hC
 refine WZ ?_
 exact⟨(),⟨rfl,rfl,rfl,rfl⟩,L2,av,hR.tk hT eh,hR.fr⟩
 intro gu w6 e6 hI
 obtain⟨L3,av,ei,Ab⟩:=hI
 have hR:=dX.refl E L3 w6
 refine zr<|zm<|zm<|aA (W6 C.1 p.2 om om om E L3 b w6 av) ?_
 rintro XN w7 ⟨Fa,L0,av,bF⟩
 rw[<-D5] at av
 rw[<-II] at Fa
 subst Fa
 have hR:=hR.go bF
 have cX:=av.dj
 refine W ?_
 refine lk bg ba rfl rfl rfl rfl λw8 cg DZ kX=>bI cg av hR λav hR=>?_
 refine aA (k7 oa [[48],aU (rc+2)] (mP de sm (by intro z hz;simp at hz;rcases hz with rfl|rfl;(·decide);(·exact mu om))) me om E L0 b _ w8 av (aK.dO [[48],aU (rc+2)] DZ (λhx=>by have:=cX _ hx;omega))) ?_
 rintro jQ w9 ⟨L1,av,bF⟩
 have hR:=hR.go bF
 clear DZ
 have il:∃x,x=me.cE oa [[48],aU (rc+2)]:=⟨_,rfl⟩
 obtain⟨m1,lV⟩:=il
 rw[<-lV] at av
 have t1:m1.types.length=r+0:=(by rw[lV,oT];omega)
 have c1:m1.code.length=c+1:=(by rw[lV,pS];omega)
 have cX:=av.dj
 refine W ?_
 refine aA (iH (q.2+1) q.2 om om w9) ?_
 rintro _ cv ⟨rfl,cw⟩
 have zI:=cw.size
 refine bI cw av hR λav hR=>?_
 have cX:=av.dj
 refine lk bg ba rfl rfl rfl rfl λew cR XO vY=>bI cR av hR λav hR=>?_
 refine aA (k7 oa [[49],aU q.2] (mP de sm (by intro z hz;simp at hz;rcases hz with rfl|rfl;(·decide);(·exact mu om))) m1 om E L1 b _ ew av (aK.dO [[49],aU q.2] XO (λhx=>by have:=cX _ hx;omega))) ?_
 rintro jQ fI ⟨L2,av,bF⟩
 have hR:=hR.go bF
 clear XO
 have fC:∃x,x=m1.cE oa [[49],aU q.2]:=⟨_,rfl⟩
 obtain⟨m2,lW⟩:=fC
 rw[<-lW] at av
 have t2:m2.types.length=r+0:=(by rw[lW,oT];omega)
 have c2:m2.code.length=c+2:=(by rw[lW,pS];omega)
 have cX:=av.dj
 have aQ:=hR.tk ei eh
 obtain⟨u1,u3,u4,u5,u6,u8,dd,ie⟩:=aQ
 have dd:aK fI bt [str t.aJ,u1,.int .i64 (t.loads:Int),u3,u4,u5,u6,str t.expr.au.aw,u8,.int .i64 (C.2.1:Int),str C.2.2,.int .i64 (t.next:Int)].toArray 166:=dd
 refine W ?_
 refine aA (iH (C.2.1+1) C.2.1 om om fI) ?_
 rintro _ jO ⟨rfl,gM⟩
 have Ii:=gM.size
 refine bI gM av hR λav hR=>?_
 have cX:=av.dj
 refine lk bg ba rfl rfl rfl rfl λja dG Lq DK=>bI dG av hR λav hR=>?_
 refine aA (k7 oa [[50],aU C.2.1] (mP de sm (by intro z hz;simp at hz;rcases hz with rfl|rfl;(·decide);(·exact mu om))) m2 om E L2 b _ ja av (aK.dO [[50],aU C.2.1] Lq (λhx=>by have:=cX _ hx;omega))) ?_
 rintro jQ qA ⟨L3,av,bF⟩
 have hR:=hR.go bF
 clear Lq
 have zX:∃x,x=m2.cE oa [[50],aU C.2.1]:=⟨_,rfl⟩
 obtain⟨m3,lX⟩:=zX
 rw[<-lX] at av
 have t3:m3.types.length=r+0:=(by rw[lX,oT];omega)
 have c3:m3.code.length=c+3:=(by rw[lX,pS];omega)
 have cX:=av.dj
 refine W ?_
 refine eR bg ba rfl rfl λlU nG XP HU=>bI nG av hR λav hR=>?_
 refine aA (k7 A2 [aU (rc+1)] (mP de sm (by intro z hz;simp at hz;subst hz;exact mu om)) m3 om E L3 b _ lU av (aK.dO [aU (rc+1)] XP (λhx=>by have:=cX _ hx;omega))) ?_
 rintro jQ DL ⟨L4,av,bF⟩
 have hR:=hR.go bF
 clear XP
 have DS:∃x,x=m3.cE A2 [aU (rc+1)]:=⟨_,rfl⟩
 obtain⟨m4,o5⟩:=DS
 rw[<-o5] at av
 have t4:m4.types.length=r+0:=(by rw[o5,oT];omega)
 have c4:m4.code.length=c+4:=(by rw[o5,pS];omega)
 have cX:=av.dj
 refine W ?_
 subst o5 lX lW lV
 exact⟨_,rfl,_,av,⟨_,hR.tk ei eh,rfl,rfl⟩,Ab.go hR.fr⟩
/-! ### Cells of one block that are written -/
def KW (b:Nat) (T:TypeId) (ws:List (Nat×Value)) (w w':World):Prop:=aj [b] w w'∧∀cs,aK w b cs T->∃cs',aK w' b cs' T∧cs'.size=cs.size∧∀j:Nat,cs'[j]?=cs[j]?∨∃v,(j,v)∈ws∧cs'[j]?=some v
theorem akX {cs:Array Value} {vs:List Value} (h:k+vs.length<=cs.size) (j:Nat):(setAt cs k vs)[j]?=if k<=j∧j<k+vs.length then vs[j-k]? else cs[j]?:=by
 rw[<-Array.getElem?_toList,J3 _ _ _ h,List.getElem?_append,List.getElem?_append,List.getElem?_take,List.getElem?_drop,List.length_take,Array.length_toList,Nat.min_eq_left om]
 by_cases h1:j<k
 ·rw[iP h1,iP h1,iN om];simp
 ·rw[iN h1]
  by_cases h2:j<k+vs.length
  ·rw[iP om,iP ⟨by omega,h2⟩]
  ·rw[iN om,iN om]
   have:k+vs.length+(j-k-vs.length)=j:=by omega
   rw[this];simp
def rowAt (o:Nat):List Value->List (Nat×Value)
 |[]=>[]
 |v::vs=>(o,v)::rowAt (o+1) vs
theorem akY:∀{vs:List Value} {o j:Nat} {v:Value},(j,v)∈rowAt o vs↔o<=j∧vs[j-o]?=some v:=by intro x;induction x<;>grind [rowAt]
section
variable {P:Program} {n:Nat} {ops:Array Oper} {K:Env->World->Prop} {rest:List Oper} {e:Env} {w:World}
 {dst:Option Nat} {ty:TypeId} {pos:String} {after:Array Edge} {g:Option (Nat×Bool)} {x y:Operand}
theorem akZ {T U bytes:Nat} {z v:Value} {vs:List Value} {o:Nat} {cs:Array Value} (j6:TI P T sz bytes z) (hg:gate ops e g=true) (hx:ev e x= .pointer (some ⟨b,o,none⟩)) (hy:ev e y=v) (hv:v.cells=vs.toArray) (hl:Nat.beq vs.length sz=true) (h1:vs.all Value.oneCell'=true) 
  (hb:aK w b cs U) (ho:o+vs.length<=cs.size)
  (k:∀w',aj [b] w w'->aK w' b (setAt cs o vs) U->KW b U (rowAt o vs) w w'->w'.heap.size=w.heap.size->OW P n ops K rest e w'):
  OW P n ops K (⟨none,.store T x y,ty,pos,after,g⟩::rest) e w:=by
 have gj:vs.length=sz:=Nat.eq_of_beq_eq_true hl
 obtain⟨w',j5,hk,gB,hz⟩:=NI (P:=P) vs 0 w b o U cs hb om (λu hu=>List.all_eq_true.1 h1 u hu)
 rw[Nat.add_zero] at gB
 refine I9 hg (w':=w') (by
  simp[execOp,Instr.storeAt,Instr.sureAddr,hx,hy,storeVar,hv,j6.qG,gj,j5]) (k w' hk gB ⟨hk,λcs2 h2=>?_⟩ hz)
 have e:cs2=cs:=by
  unfold aK at h2 hb
  rw[h2] at hb
  injection hb with h;injection h
 subst e
 refine⟨_,gB,NH _ _ _,λj=>?_⟩
 rw[akX ho]
 split
 ·rename_i h
  obtain⟨v,hv⟩:∃v,vs[j-o]?=some v:=⟨vs[j-o]'om,gE om⟩
  exact .inr ⟨v,akY.2 ⟨h.1,hv⟩,hv⟩
 ·exact .inl rfl
end
section
variable {P:Program} {n:Nat} {ops:Array Oper} {K:Env->World->Prop} {rest:List Oper} {e:Env} {w:World}
 {dst:Option Nat} {ty:TypeId} {pos:String} {after:Array Edge} {g:Option (Nat×Bool)} {x y:Operand}
end
theorem XQ (xs:List ai):∀row,row∈fb xs->∀c,c∈row->∀v,c= .val v->v.oneCell'=true:=by
 intro row hr c hc v hv
 obtain⟨n,_,rfl⟩:=List.mem_map.1 hr
 simp at hc;subst hc;cases hv;rfl
theorem dX.iw (k:dX E L w L1 w1) {cs:Array Value} {T:TypeId} (h:aK w b cs T) (hb:b∈E):aK w1 b cs T:=let⟨_,kg,hG⟩:=k.out;h.aF kg λhx=>hG b hx hb
def rq (bt:Nat) (E:List Nat) (w w':World):Prop:=∃G,aj G w w'∧∀z,z∈G->z∈E->z=bt
theorem dX.ft (k:dX E L w L1 w1) (bt:Nat):rq bt E w w1:=let⟨G,kg,hG⟩:=k.out;⟨G,kg,λz hz sP=>absurd sP (hG z hz)⟩
theorem rq.trans {bt:Nat} {w2:World} (h:rq bt E w w1) (k:rq bt E w1 w2):rq bt E w w2:=let⟨G,kg,hG⟩:=h;let⟨G2,kg2,zF⟩:=k;⟨G++G2,(kg.mono λx hx=>List.mem_append_left _ hx).trans (kg2.mono λx hx=>mR _ hx),λz hz sP=>(mA.1 hz).elim (λh=>hG z h sP) (λh=>zF z h sP)⟩
theorem rq.sub {bt x:Nat} (h:rq bt (x::E) w w1):rq bt E w w1:=let⟨G,kg,hG⟩:=h;⟨G,kg,λz hz sP=>hG z hz (mK _ sP)⟩
theorem rq.of {bt:Nat} (k:aj G w w1) (hG:∀z,z∈G->z∈E->z=bt):rq bt E w w1:=⟨G,k,hG⟩
theorem rq.iw {bt:Nat} (k:rq bt E w w1) {cs:Array Value} {T:TypeId} (h:aK w b cs T) (hb:b∈E) (hn:b≠bt):aK w1 b cs T:=let⟨_,kg,hG⟩:=k;h.aF kg λhx=>hn (hG b hx hb)
theorem ak2 (t:Tk) (m:Mk) (c xa y:Ex) (name:ai) (rest:Ex) (K:Ty) (bh:(Ex.ite c xa y).ok) (hn:(Ex.ite c xa y).n<=1000) (eY:bA (.ite c xa y) (eH t.sc)=some K) (hs:ka t.sc) (oh:t.sc.length<=9000) (rN:t.on<1000) (kS:t.aW.length<=272) (PZ:name≠[]->PY t.sc name rest) (ht:m.types.length+9<1000) (hc:m.code.length<=7000) (vh:m.count+1<1000) (fL:m.bJ.length<90000) 
  (E L:List Nat) (b bt:Nat) (v vr:Value) (w:World) (h:dK t8 E L w b true m) (hT:gX L w 166 bt t) (eh:bt∈E) (hv:bC L w v (Ex.ite c xa y).au) (oY:bC L w vr rest.au):
  bw Tryz.prog 188 [.pointer (some ⟨b,0,none⟩),.pointer (some ⟨bt,0,none⟩),v,str name,vr] w λr w'=>∃L',bC L' w' r y.au∧dK t8 E L' w' b true (HF (eP (cm m t.sc c.aw).1 t.sc t.on t.aW name K rest).1 t.sc (eP (cm m t.sc c.aw).1 t.sc t.on t.aW name K rest).2.1 (eP (cm m t.sc c.aw).1 t.sc t.on t.aW name K rest).2.2 (cm m t.sc c.aw).2 xa)∧gX L' w' 166 bt {t with on:=(eP (cm m t.sc c.aw).1 t.sc t.on t.aW name K rest).2.1,aW:=(eP (cm m t.sc c.aw).1 t.sc t.on t.aW name K rest).2.2}∧Fr L w L' w'∧rq bt E w w':=by
 obtain⟨ar,nr,cr,rfl,qB,aO⟩:=cY hv
 subst qB
 obtain⟨a9,n9,c9,rfl,BV,_⟩:=cY oY
 subst BV
 have lY:=h.dj
 have jg:=l5 hs.types eY
 have av:=h
 have hR:=dX.refl E L w
 have gz:bC L w _ (Ex.ite c xa y).au:=hv
 have ld:=oR bh.1
 obtain⟨p,hp⟩:∃p,p=cm m t.sc c.aw:=⟨_,rfl⟩
 have z8:p.1.types.length<=m.types.length+1∧p.1.code.length<=m.code.length+1∧p.1.count=m.count∧p.1.bJ=m.bJ∧p.2<1000:=by rw[hp];exact IG hs om
 obtain⟨ptl,pcl,pcn,ptk,p2⟩:=z8
 rw[<-hp]
 obtain⟨C,hC⟩:∃C,C=eP p.1 t.sc t.on t.aW name K rest:=⟨_,rfl⟩
 have D4:C.1.types.length<=p.1.types.length+4∧C.1.code.length<=p.1.code.length+4∧C.2.1<1000∧C.1.count<=p.1.count+1∧C.1.bJ.length<=p.1.bJ.length+1:=by rw[hC];exact XL rN om
 obtain⟨Ctl,Ccl,C2,Ccn,Ctk⟩:=D4
 rw[ptk] at Ctk
 rw[<-hC]
 have hCn:C.1.count<1000:=by omega
 have B6:=BJ hCn
 obtain⟨m1,pP⟩:∃z,z=C.1.lN.cE GZ [aU p.2,C.1.aJ]:=⟨_,rfl⟩
 have ak4:m1.types=C.1.types:=by rw[pP];rfl
 have ak5:m1.bJ=C.1.bJ:=by rw[pP];rfl
 have hif:HF C.1 t.sc C.2.1 C.2.2 p.2 xa={m1 with bJ:=m1.bJ++[⟨C.1.aJ,m1.types,0,[],t.sc,xa,C.2.1,C.2.2,m1.types.length⟩]}:=by rw[pP];rfl
 rw[hif]
 have KF:(Ex.ite c xa y).au.ak.length=4:=rfl
 obtain⟨b1,eX,gR,gF,e1,bK,_⟩:=fg aO (i:=1) om
 cases e1
 have bK:fF L w _ _ [str c.au.aw,.slice gR c.au.ak.length gF]:=bK
 rw[Ex.rI] at bK
 obtain⟨b2,lP,iI,iy,e2,bY,dM⟩:=fg aO (i:=2) om
 cases e2
 have bY:fF L w _ _ [str xa.au.aw,.slice iI xa.au.ak.length iy]:=bY
 have dM:bC L w (.agg #[str xa.au.aw,.slice iI xa.au.ak.length iy]) xa.au:=dM
 obtain⟨b3,BP,qm,qo,e3,dS,ei⟩:=fg aO (i:=3) om
 cases e3
 have dS:fF L w _ _ [str y.au.aw,.slice qm y.au.ak.length qo]:=dS
 have ei:bC L w (.agg #[str y.au.aw,.slice qm y.au.ak.length qo]) y.au:=ei
 refine lG [.cell 10 74] 81 Tryz.func188 rfl adh rfl rfl rfl ?_
 refine zr<|eK rfl λw1 aI cS dh=>bI aI av hR λav hR=>?_
 refine eK rfl λw2 az cT dD=>cJ az av hR cS λav hR cS=>?_
 refine dz aM rfl rfl rfl λw3 aH qT Bx=>bI aH cS cT λcS cT=>?_
 have av:=av.tT aH sm (lR _) qT.lt
 have o4:=(dX.refl E L w2).more aH sm (lR _) (λz hz=>by have:=lY z (h.sub hz);omega)
 have IJ:Fr L w (w2.heap.size::L) w3:=hR.fr.go o4.fr
 have Lt:=(hR.ext aH).ft bt
 have hT:=(hR.tk hT eh)
 have hT:=o4.tk hT eh
 have hR:=dX.refl (w2.heap.size::E) (w2.heap.size::L) w3
 have rY:bt∈w2.heap.size::E:=mK _ eh
 have FT:w2.heap.size∈w2.heap.size::E:=List.mem_cons_self ..
 have P2:=qT
 refine W ?_
 have Lu:∀z,z∈w2.heap.size::L->z=w2.heap.size∨z<w.heap.size:=(λz hz=>(mC.1 hz).imp id (lY z))
 have cS:dP (w2.heap.size::L) w3 w.heap.size [str (Ex.ite c xa y).au.aw,.slice (some ⟨b1,eX,none⟩) (Ex.ite c xa y).au.ak.length cr].toArray 74:=⟨cS,λhx=>by have:=Lu _ hx;omega⟩
 have cT:dP (w2.heap.size::L) w3 w1.heap.size [str rest.au.aw,.slice a9 rest.au.ak.length c9].toArray 74:=⟨cT,λhx=>by have:=Lu _ hx;omega⟩
 have jz:aK w3 w2.heap.size [str [],.slice none 0 0].toArray 74:=P2
 refine aA (K8 t (Ex.ite c xa y) bh hn hs.types om _ _ bt w3 av.dj (hR.tk hT rY) (gz.go (IJ.go hR.fr))) ?_
 rintro v4 w4 ⟨ke,aP⟩
 have fH:=aP.size
 refine gY aP av hR cS cT λav hR cS cT=>?_
 have eZ:=ke
 rw[eY] at eZ
 subst eZ
 refine WI ?_
 refine zi (i:=1) cD aM rfl rfl ((show 1<4 from om))<|zL fc aM rfl ((bK.go (IJ.go hR.fr)).cells) rfl<|aA (DN t c.aw m om om om oh (w2.heap.size::E) _ b bt _ _ _ w4 av (hR.tk hT rY) rY) ?_
 rintro v20 w5 ⟨pT,L1,av,bF⟩
 rw[<-hp] at pT av
 subst pT
 have hR:=hR.go bF;have cS:=cS.go bF.fr;have cT:=cT.go bF.fr
 have jz:=hR.iw jz FT
 refine W ?_
 refine iS (λ_:Unit=>[(0,.pointer (some ⟨b,0,none⟩)),(1,.pointer (some ⟨bt,0,none⟩)),(7,.pointer (some ⟨w.heap.size,0,none⟩)),(10,.pointer (some ⟨w2.heap.size,0,none⟩)),(12,.int .i64 (p.2:Int))]) (λ_ ww=>∃L3,dK t8 (w2.heap.size::E) L3 ww b true C.1∧gX L3 ww 166 bt {t with on:=C.2.1,aW:=C.2.2}∧Fr L w L3 ww∧Fr L1 w5 L3 ww∧aK ww w2.heap.size [str [],.slice none 0 0].toArray 74∧rq bt E w ww) ?_ ?_
 refine zc rfl (λh1=>?_) (λh1=>?_)
 have eT:name≠[]:=(by simpa using h1)
 have aQ:=PZ eT
 obtain⟨g1,g2,g3,g4⟩:=aQ
 have D6:eP p.1 t.sc t.on t.aW name K rest=uF p.1 t.sc t.on t.aW name K rest:=(by unfold eP;rw[iP eT])
 rw[D6] at hC
 have dN:w2.heap.size≠bt:=(λe9=>by have:=lY bt (h.sub eh);omega)
 refine W ?_
 refine aA (Xv t p.1 name K rest g1 g2 g3 g4 hs oh jg rN kS om om om (by rw[ptk];omega) (w2.heap.size::E) L1 b bt _ w5 av (hR.tk hT rY) rY (oY.go (IJ.go hR.fr))) ?_
 rintro v39 w6 ⟨L3,av,XR,Ab,G9,aB,FU⟩
 rw[<-hC] at av XR
 have hF:=(IJ.go hR.fr).go Ab
 have jz:=(hR.iw P2 FT).aF aB (λhx=>dN (FU _ hx FT))
 have hOq:=(Lt.trans (hR.ft bt).sub).trans (rq.of aB (λz hz sP=>FU z hz (mK _ sP)))
 refine W ?_
 exact⟨(),⟨rfl,rfl,rfl,rfl,rfl⟩,L3,av,XR,hF,Ab,jz,hOq⟩
 have eT:¬name≠[]:=(by simpa using h1)
 have D6:eP p.1 t.sc t.on t.aW name K rest=(p.1,t.on,t.aW):=(by unfold eP;rw[iN eT])
 rw[D6] at hC
 subst hC
 refine WZ ?_
 exact⟨(),⟨rfl,rfl,rfl,rfl,rfl⟩,L1,av,hR.tk hT rY,IJ.go hR.fr,Fr.refl _ _,hR.iw P2 FT,Lt.trans (hR.ft bt).sub⟩
 intro gu w6 e6 hI
 obtain⟨L3,av,dy,Ab,hF9,jz,hOc⟩:=hI
 have hR:=dX.refl (w2.heap.size::E) L3 w6
 have XS:=cS.go hF9
 have ala:=jz
 refine zr<|zm<|aA (Pr C.1 om (w2.heap.size::E) L3 b true w6 av) ?_
 rintro v34 w7 ⟨⟨e34,av⟩,alc⟩
 subst e34
 have ald:=av.mem.1 b sm
 have vi:=av.mem.2.2.1
 have hR:=hR.aD alc ald vi
 refine W ?_
 refine aA (iH (p.2+1) p.2 om om w7) ?_
 rintro _ w8 ⟨rfl,cg⟩
 have wH:=cg.size
 refine bI cg av hR λav hR=>?_
 have cX:=av.dj
 refine zm<|lk bg ba rfl rfl rfl rfl λw9 aB zB du=>bI aB av hR λav hR=>?_
 refine aA (k7 GZ [aU p.2,C.1.aJ] (mP de sm (by intro z hz;simp at hz;rcases hz with rfl|rfl;(·exact mu om);(·omega))) C.1.lN (show C.1.code.length<100000 from om) (w2.heap.size::E) L3 b _ w9 av (aK.dO [aU p.2,C.1.aJ] zB (λhx=>by have:=cX _ hx;omega))) ?_
 rintro v40 cv ⟨L4,av,bF⟩
 rw[<-pP] at av
 have hR:=hR.go bF
 clear zB
 have kh:=hR.tk dy rY
 obtain⟨u1,u3,u4,u5,u6,u8,dd,ie⟩:=kh
 have cX:=av.dj
 have uX:=hR
 have mr:=av
 refine W ?_
 refine dz mV rfl rfl rfl λew cR fp DK=>?_
 have km:=cR
 refine cL mV rfl rfl ie.one fp rfl λfI dw fp du=>?_
 have km:=km.since dw (λx hx=>.inr (by simp at hx;omega))
 refine W ?_
 refine gD (o:=0) ba rfl rfl rfl fp rfl λjO gM fp du=>?_
 have km:=km.since gM (λx hx=>.inr (by simp at hx;omega))
 have ri:=mr.ext km
 have hwq:=km.size
 have aQ:=ri.open
 obtain⟨Lw,vt9,vc9,vy9,gb9,gt9,gc9,gy9,DD,BT⟩:=aQ
 have aQ:=jn BT.ty
 obtain⟨ay9,Ic,ey9⟩:=aQ
 subst ey9
 have hbz:=fp.lt
 have P3:=jO
 refine aV<|zr<|vJ jO.heap.size [] bg ba rfl rfl (lR _) sm λja dG KE xT=>bI dG fp km λfp km=>?_
 have rX:=dG
 have DD:=DD.ext dG
 refine W ?_
 refine xH bg ba rfl rfl rfl rfl rfl rfl xT (((BT.ty.ext rX).rep (L:=[jO.heap.size]) (λx hx lB=>by have:=BT.ty.lt x (by simp[hx]);simp at lB;omega)).fresh (λx hx=>.inl (by simpa using hx))) (XQ _) (by rw[po,ak4];simp;omega) λa4 fU g4 qA kP jZ=>?_
 rw[List.nil_append] at kP
 have km:=km.since jZ (λx hx=>.inr (by simp at hx;omega))
 have fp:=fp.aF jZ so
 have lu:=kP.sn
 have jX:=kP.low
 refine zf Tj rfl<|gD (o:=1) mW rfl rfl rfl fp rfl λlU nG fp du=>?_
 have km:=km.since nG (λx hx=>.inr (by simp at hx;omega))
 have lu:=lu.aF nG (λz hz dD=>by have:=jX z hz;simp at dD;omega)
 refine W ?_
 refine gD (o:=2) pq rfl rfl rfl fp rfl λDL zQ fp du=>?_
 have km:=km.since zQ (λx hx=>.inr (by simp at hx;omega))
 have lu:=lu.aF zQ (λz hz dD=>by have:=jX z hz;simp at dD;omega)
 have xN:=fp.lt
 refine aV<|zr<|gA bg ba λyi DT D7 alf=>cJ DT fp km lu λfp km lu=>?_
 refine zf JD rfl<|gD (o:=3) mW rfl rfl rfl fp rfl λDU B3 fp du=>?_
 have km:=km.since B3 (λx hx=>.inr (by simp at hx;omega))
 have lu:=lu.aF B3 (λz hz dD=>by have:=jX z hz;simp at dD;omega)
 have D7:=D7.aF B3 so
 have cS:=(XS.go uX.fr).ext km
 have XT:=Ab.go uX.fr
 refine WI ?_
 refine zi (i:=2) cD aM rfl rfl ((show 2<4 from om))<|zL fc aM rfl (((bY.go XT).ext km).cells) rfl<|zf Tl rfl<|akZ (vs:=[str xa.au.aw,.slice iI xa.au.ak.length iy]) aM rfl rfl rfl rfl rfl rfl fp (Nat.le_of_ble_eq_true rfl) λwS yp fp asp du=>?_
 have km:=km.since yp (λx hx=>.inr (by simp at hx;omega))
 have lu:=lu.aF yp (λz hz dD=>by have:=jX z hz;simp at dD;omega)
 have D7:=D7.aF yp so
 have ri:=mr.ext km
 have aQ:=ri.open
 obtain⟨vb8,vt8,vc8,vy8,gb8,gt8,gc8,gy8,asy,hS8⟩:=aQ
 have aQ:=jn hS8.ty
 obtain⟨ay8,cy8,ey8⟩:=aQ
 subst ey8
 refine W ?_
 refine gD (o:=11) pq rfl rfl rfl fp rfl λrV yj fp du=>?_
 have km:=km.since yj (λx hx=>.inr (by simp at hx;omega))
 have lu:=lu.aF yj (λz hz dD=>by have:=jX z hz;simp at dD;omega)
 have D7:=D7.aF yj so
 have av:=mr.tT km sm (lR _) fp.lt
 have yq:Fr L4 cv (cv.heap.size::L4) rV:=((dX.refl [] L4 cv).more km sm (lR _) sm).fr
 have hR:=uX.more km sm (lR _) (λz hz=>cX z (mr.sub hz))
 have XU:∀z,z∈cv.heap.size::L4->z<=cv.heap.size:=(λz hz=>by rcases mC.1 hz with h9|h9;(·omega);(·have:=cX z h9;omega))
 have D8:eU (cv.heap.size::L4) rV (.slice iI xa.au.ak.length iy) xa.au.ak:=(by have du:=cY (dM.go (XT.go yq));obtain⟨_,_,_,e9,_,z8⟩:=du;cases e9;exact z8)
 have fV:gX (cv.heap.size::L4) rV 166 cv.heap.size (Tk.mk C.1.aJ m1.types 0 [] t.sc xa C.2.1 C.2.2 m1.types.length):=⟨_,_,_,_,_,_,fp,⟨lu.rep (λz hz FV=>by have:=jX z hz;have:=XU z FV;omega),D7.ll.rep (λz hz FV=>by have:=XU z FV;simp at hz;omega),ie.aL.go yq,ie.at_.go yq,ie.types.go yq,D8⟩⟩
 have Lc:m1.bJ.length<100000:=(by rw[ak5];omega)
 have aQ:=av.open
 obtain⟨vb,vt,vc,vy,gb,gt,gc,gy,ye,hS⟩:=aQ
 have aQ:=hS.apart
 obtain⟨zP,nQ,wP,mO,wQ,uV⟩:=aQ
 obtain⟨u1,u3,u4,u5,u6,u8,IB,tV⟩:=fV
 have bj:dP gt.toList rV b [vb,vt,.int .i64 ((m1).count:Int),.bool (m1).wide,vc,vy].toArray 164:=⟨ye,λhx=>(mO b hx).2.1 rfl⟩
 have fp:dP gt.toList rV cv.heap.size (qf (Tk.mk C.1.aJ m1.types 0 [] t.sc xa C.2.1 C.2.2 m1.types.length) u1 u3 u4 u5 u6 u8).toArray 166:=⟨IB,λhx=>(mO cv.heap.size hx).1 sm⟩
 have qq:eW gt.toList rV:=(λx hx=>hS.cF x (hS.mem.2 (by simp[hx])))
 have B9:∀x,x∈gt.toList->x∈(cv.heap.size::L4):=(λx hx=>hS.mem.2 (by simp[hx]))
 refine W ?_
 apply jV dv gt.toList 8 (rA 67 8) (rA 67 8) [[],[],[1],[2],[3],[],[5],[4,6]] [Ie.v _,Ie.v _,Ie.v _,Ie.v _,Ie.v _,Ie.v _,Ie.p (fun(G:List Nat) (v:Value) (ww:World)=>∃bb,v= .slice (some ⟨bb,0,none⟩) 1 1∧dP G ww bb (qf (Tk.mk C.1.aJ m1.types 0 [] t.sc xa C.2.1 C.2.2 m1.types.length) u1 u3 u4 u5 u6 u8).toArray 166),Ie.e 0] [7] [fun(G:List Nat) (vs:List Value) (ww:World)=>G=gt.toList∧aj [] rV ww,fun(G:List Nat) (vs:List Value) (ww:World)=>∃g2,dL (gt.toList++(g2.toList++(cv.heap.size::L4))) ww 166 12 (vs.getD 0 undef) g2 (((m1).bJ++[(Tk.mk C.1.aJ m1.types 0 [] t.sc xa C.2.1 C.2.2 m1.types.length)]).map Tk.enc)∧aj gt.toList rV ww∧(g2=gt∨∃x,g2=some x∧rV.heap.size<=x)] de rfl qq (by exact⟨λG v w G' w' ⟨bb,e,h⟩ k=>⟨bb,e,h.go k⟩,trivial⟩) (by exact⟨λG vs w w' ⟨h1,h2⟩ k=>⟨h1,h2.ext k⟩,λG vs w w' ⟨g2,h1,h2,h3⟩ k=>⟨g2,h1.ext k,h2.ext k,h3⟩,trivial⟩) (⟨rfl,aj.refl _ _⟩)
 refine FA ?_
 refine vf (λx Lf G22 aT B7 XV=>?_) ?_
 refine tE [_] [qf (Tk.mk C.1.aJ m1.types 0 [] t.sc xa C.2.1 C.2.2 m1.types.length) u1 u3 u4 u5 u6 u8] AR mV rfl rfl rfl rfl rfl rfl rfl rfl rfl λXj Lg OH Xx=>?_
 exact ff Lg (⟨_,rfl,OH.o XV⟩)
 refine ve 0 (λx Lf G22 aT B7 XV hJ hlen=>?_) ?_
 have aX:=jw hlen
 subst aX
 intro v6 d6
 obtain⟨bb,e6,fT⟩:=d6
 subst e6
 obtain⟨bS,bT⟩:=hJ
 subst bS
 have zh:=(hS.ta.any bT).sub (L':=gt.toList++(cv.heap.size::L4)) (λx hx=>.inl (by rcases mA.1 hx with h|h;(·exact B9 x h);(·exact h)))
 have Cb:=tV.ext bT
 refine De (L:=(cv.heap.size::L4)) (row:=Tk.enc (Tk.mk C.1.aJ m1.types 0 [] t.sc xa C.2.1 C.2.2 m1.types.length)) AR mV rfl rfl rfl rfl rfl rfl zh rfl fT.all (λu hu=>List.all_eq_true.1 Cb.one u hu) (Cb.go ((Fr.refl _ _).to (L2:=gt.toList++(cv.heap.size::L4)) (λx hx=>.inl (by rcases mA.1 hx with h|h;(·exact B9 x h);(·exact h))))).CC (by rw[List.length_map];omega) λv9 g9 Xj cU uY fj=>?_
 exact fe g9.toList (⟨uY.aF,λx hx=>by rcases fj with h|h;(·rw[h] at hx;exact .inl hx);(·rw[h] at hx;simp at hx;right;omega)⟩) ((λx hx=>cU.lt x hx)) (⟨g9,by rw[List.map_append];exact cU,bT.any.trans uY.aF,fj.imp id (λh=>⟨_,h,bT.size⟩)⟩)
 exact trivial
 intro x XW G61 aT alj asC hJ hlen
 have aQ:=jx hlen
 obtain⟨q0,aX⟩:=aQ
 subst aX
 intro v6 d6
 have bj:=bj.go alj
 change OW _ _ _ _ _ (bo (bm _ x _) (zZ 67 [_,_,_,_,_,_,_,_])) _
 obtain⟨g2,cU,ey,iT⟩:=hJ
 have aQ:=hS.GJ cU ey iT
 obtain⟨L3,fJ,jD⟩:=aQ
 have aQ:=cU.len
 obtain⟨a3,c3,e3⟩:=aQ
 have e4:q0=_:=e3
 subst e4
 have bj:aK _ b [vb,vt,.int .i64 ((m1).count:Int),.bool (m1).wide,vc,vy].toArray 164:=ye.aF ey (λhx=>(mO b hx).2.1 rfl)
 refine W ?_
 refine gD (o:=1) JE rfl rfl rfl bj rfl λsR pU bj du=>?_
 have fJ:=fJ.aF pU sm
 have av:dK t8 (cv.heap.size::w2.heap.size::E) L3 sR b true {m1 with bJ:=(m1).bJ++[(Tk.mk C.1.aJ m1.types 0 [] t.sc xa C.2.1 C.2.2 m1.types.length)]}:=⟨_,_,_,_,_,_,_,_,bj,fJ⟩
 have hR:=(hR.add jD ey (λx hx wU=>(mO x hx).1 (by simp[wU]))).aD pU (fJ.mem.2 (.inr (.inl rfl))) (λwU=>nQ (by simp[wU]))
 have wW:=av.drop
 obtain⟨L5,eL5,av⟩:=wW
 have hR:=hR.sub (L2:=L5) (λz hz=>by rw[eL5];simp[hz])
 have cS:=XS.go hR.fr
 have D9:=Ab.go hR.fr
 have jz:=hR.iw ala FT
 have kh:=hR.tk dy rY
 refine WI ?_
 refine zi (i:=3) cD aM rfl rfl ((show 3<4 from om))<|zL fc aM rfl ((dS.go D9).cells) rfl<|cL (vs:=[str y.au.aw,.slice qm y.au.ak.length qo]) aM rfl rfl rfl jz rfl λEa tW jz du=>?_
 have av:=av.aF tW sm
 have hOz:=(hOc.trans (hR.ft bt).sub).trans (rq.of tW (λz hz sP=>by simp at hz;have:=lY z (h.sub sP);omega))
 have XX:=av.sub FT
 have kh:gX L5 Ea 166 bt {t with on:=C.2.1,aW:=C.2.2}:=kh.go (Fr.of tW (by simpa using XX)) tW (by simp;intro e9;have:=lY bt (h.sub eh);omega)
 have D9:=D9.aD tW (by simpa using XX)
 have wW:=av.drop
 obtain⟨L6,P4,av⟩:=wW
 have Cg:Fr L5 Ea L6 Ea:=(Fr.refl L5 Ea).to (λz hz=>.inl (by rw[P4];simp[hz]))
 have D9:=D9.go Cg
 refine W ?_
 exact⟨[_],gC fc aM rfl jz rfl,L6,ei.go D9,av,kh.go Cg (aj.refl [] _) sm,D9,hOz⟩
theorem XY (h:e.ok):bX e.au=e.head:=by
 cases e with
 |«at» s=>unfold bX;rw[iP (.inl (show s≠[] from p8 h))];rfl
 |un hd a=>rfl
 |bi hd a b=>rfl
 |ite a b c=>rfl
 |lt x a b=>rfl
 |fn f x A B b=>rfl
theorem aln (h:e.ok) (he:e.head=kr):∃f x,e= .bi kr f x:=by
 cases e with
 |bi hd a b=>have he:hd=kr:=he;subst he;exact⟨a,b,rfl⟩
 |un hd a=>have he:hd=kr:=he;rw[he] at h;exact absurd h.1 de
 |«at» s=>cases he
 |ite a b c=>cases he
 |lt x a b=>cases he
 |fn f x A B b=>cases he
theorem alo {e:Ex} (h:e.head≠gv):bH e=⟨[],e,e⟩:=by
 cases e with
 |lt x a b=>exact absurd rfl h
 |_=>rfl
theorem alp {v1 v3 v4 v5 v6 v8:Value} {T:TypeId} (h:aK w b (qf t v1 v3 v4 v5 v6 v8).toArray T):gH w b 7 [str t.expr.au.aw,v8]:=λj v hj=>by
 match j,hj with
 |0,hj=>simp at hj;subst hj;exact h.at rfl
 |1,hj=>simp at hj;subst hj;exact h.at rfl
theorem alq {on:Nat} {aW:ai} {x:Ex} (g:we m s on aW e T) (hg:(bH e).s= .bi kr f x):
  ku ⟨m,s,on,aW⟩ e= .inl (yQ (eP (cm (cm m s f.aw).1 s x.aw).1 s on aW (bH e).name T (bH e).rest).1 (cm m s f.aw).2 (cm (cm m s f.aw).1 s x.aw).2 (eP (cm (cm m s f.aw).1 s x.aw).1 s on aW (bH e).name T (bH e).rest).2.1):=by
 have hY:=g.oc
 unfold ku
 simp only[hg,if_true,Kk]
 rw[<-hg,hY]
theorem alr {on:Nat} {aW:ai} {c x y:Ex} (g:we m s on aW e T) (hg:(bH e).s= .ite c x y):
  ku ⟨m,s,on,aW⟩ e= .inr (⟨HF (eP (cm m s c.aw).1 s on aW (bH e).name T (bH e).rest).1 s (eP (cm m s c.aw).1 s on aW (bH e).name T (bH e).rest).2.1 (eP (cm m s c.aw).1 s on aW (bH e).name T (bH e).rest).2.2 (cm m s c.aw).2 x,s,
    (eP (cm m s c.aw).1 s on aW (bH e).name T (bH e).rest).2.1,(eP (cm m s c.aw).1 s on aW (bH e).name T (bH e).rest).2.2⟩,y):=by
 have hY:=g.oc
 unfold ku
 simp only[hg,Kk]
 rw[<-hg,hY];rfl
theorem XZ {on:Nat} {aW:ai} (g:we m s on aW e T) (h1:(bH e).s.head≠kr) (h2:(bH e).s.head≠gJ):
  ku ⟨m,s,on,aW⟩ e=(if(bH e).name=[] then .inl (yR (mY m s T (bH e).s).1 on (mY m s T (bH e).s).2) else .inr (⟨(mY m s T (bH e).s).1,s++[((bH e).name,(mY m s T (bH e).s).2,T)],on,aW⟩,(bH e).rest)):=by
 have hY:=g.oc
 rw[<-hY]
 cases hg:(bH e).s with
 |«at» a=>unfold ku;simp only[hg]
 |un a b=>unfold ku;simp only[hg]
 |lt a b c=>unfold ku;simp only[hg]
 |fn a b c d f=>unfold ku;simp only[hg]
 |bi hd f x=>rw[hg] at h1;unfold ku;simp only[hg,iN (show¬hd=kr from h1)]
 |ite a b c=>rw[hg] at h2;exact absurd rfl h2
theorem X0 {a:At} (h:ku a e= .inl m):mE e.n a e=m:=by
 have:=e.pos
 obtain⟨k,hk⟩:∃k,e.n=k+1:=⟨e.n-1,om⟩
 rw[hk];unfold mE;rw[h]
theorem X4 {a:At} {e2:Ex} {m2:Mk} {s2:cH} {zt:Nat} {E5:ai} (h:ku a e= .inr (⟨m2,s2,zt,E5⟩,e2)) (hi:ot m2 s2 zt E5 e2) (hn:e2.n+1<=e.n):mE e.n a e=mE e2.n ⟨m2,s2,zt,E5⟩ e2:=by
 have hp:=e.pos
 obtain⟨k,hk⟩:∃k,e.n=k+1:=⟨e.n-1,om⟩
 rw[hk]
 show(match ku a e with| .inl m=>m| .inr p=>mE k p.1 p.2)=_
 rw[h]
 exact agL k hi (show e2.n<=k by omega)
theorem X5 {on:Nat} {aW:ai} (h:ot m s on aW e) (g:we m s on aW e T) (hn:(bH e).name≠[]):PY s (bH e).name (bH e).rest:=by
 obtain⟨eT,HE,⟨U,hU⟩,qk⟩:=g.rest hn
 have hb:=h.bud
 have tJ:∀y,Fv y (bH e).rest->y∉[(bH e).name]->(look (eH s) y).isSome=true:=λy hy eS=>by
  have:=qd hU hy
  rw[pw,iN (λe9=>eS (by rw[e9];simp))] at this;exact this
 have hf:=N5 (s:=s) (bd:=[(bH e).name]) om tJ
 exact⟨HE,om,λx hx=>by
  rcases(CS x _ [(bH e).name] []).1 hx with h9|h9
  ·simp at h9
  ·exact tJ x h9.1 h9.2,om⟩
theorem als {s:ai} (h:BG s):s.length<=272:=by
 obtain⟨T,hT,rfl⟩:=h
 exact uK hT
theorem X6 (t:Tk) (m:Mk) (hI:ot m t.sc t.on t.aW t.expr) (hn:t.expr.n<=120) (hc:m.code.length<=1100) (fL:m.bJ.length<80000) 
  (E L:List Nat) (b bt:Nat) (w:World) (h:dK t8 E L w b true m) (hT:gX L w 166 bt t) (eh:bt∈E):
  bw Tryz.prog 154 [.pointer (some ⟨b,0,none⟩),.pointer (some ⟨bt,0,none⟩)] w λr w'=>∃L',dK t8 E L' w' b true (mE t.expr.n ⟨m,t.sc,t.on,t.aW⟩ t.expr)∧(∃t',gX L' w' 166 bt t'∧t'.aJ=t.aJ∧t'.regs=t.regs)∧Fr L w L' w':=by
 have lY:=h.dj
 have H9:=hT
 obtain⟨u1,u3,u4,u5,u6,u8,dd,ie⟩:=hT
 obtain⟨a8,c8,e8,_⟩:=sh ie.ak
 rw[iz] at e8
 subst e8
 have alu:bt<w.heap.size:=lY bt (h.sub eh)
 have alv:=lF ie.ak
 refine bU [] 89 Tryz.func154 rfl acM rfl rfl ?_
 refine WL ?_
 refine zL fc aM rfl ((alp dd)) rfl<|dz aM rfl rfl rfl λw1 aI aG gQ=>?_
 have fS:=aI
 refine cL aM rfl rfl rfl aG rfl λw2 az aG du=>?_
 have fS:=fS.since az (λx hx=>.inr (by simp at hx;omega))
 have av:=h.tT fS sm (lR _) aG.lt
 have o4:=(dX.refl E L w).more fS sm (lR _) (λz hz=>lY z (h.sub hz))
 have cN:=o4.tk H9 eh
 have wJ:=alv.go o4.fr
 have rY:bt∈w.heap.size::E:=mK _ eh
 have Ly:w.heap.size∈w.heap.size::E:=List.mem_cons_self ..
 have X7:w.heap.size≠bt:=om
 refine W ?_
 refine dR (λe':Ex=>[(0,.pointer (some ⟨b,0,none⟩)),(1,.pointer (some ⟨bt,0,none⟩)),(4,.pointer (some ⟨w.heap.size,0,none⟩))]) (λe' ww=>∃(aa:At) (n9:Nat) (new:List Tk) (L1:List Nat) (ae:Option Addr) (ce:Nat),xP m aa.m aa.s aa.on aa.aW t.expr.n n9 e' new∧mE t.expr.n ⟨m,t.sc,t.on,t.aW⟩ t.expr=mE e'.n aa e'∧dK t8 (w.heap.size::E) L1 ww b true aa.m∧gX L1 ww 166 bt {t with sc:=aa.s,on:=aa.on,aW:=aa.aW}∧Fr L w L1 ww∧aK ww w.heap.size [str (e').au.aw,.slice ae (e').au.ak.length ce].toArray 74∧bC L1 ww (.agg #[str (e').au.aw,.slice ae (e').au.ak.length ce]) (e').au) (λe'=>e'.n) t.expr (⟨rfl,rfl,rfl⟩) (⟨⟨m,t.sc,t.on,t.aW⟩,0,[],_,_,_,xP.start hI,rfl,av,cN,o4.fr,aG,wJ⟩) λgg w3 e3 hI=>?_
 obtain⟨⟨m1,s1,wh,FW⟩,n9,new,L1,ae,ce,Ch,uk,Lz,X8,P5,Eb,X9⟩:=hI
 dsimp only at Ch uk Lz X8
 have jR:=aj.refl [] w3
 have hA:=Ch.inv
 have alw:=hA.goal
 obtain⟨T,g⟩:=alw
 have aS:=Ch.steps
 have wg:=Ch.num
 have asD:=Ch.ext.code
 have alx:=Ch.ext.bJ
 have hle:=g.le
 have asE:=hA.bud
 have pe:=hA.room
 have Au:=hA.cnt
 have P6:=hA.on
 have Ya:=als hA.aW
 have hep:=gg.pos
 have nV:=(bH gg).s.pos
 have od:=Vv new
 have asF:m1.code.length<=6500:=om
 have asG:m1.bJ.length<85000:=(by rw[alx,lA];omega)
 have vj:=Lz.dj
 have asH:=g.small
 refine WL ?_
 refine zL fc aM rfl ((Eb.ext jR).all) rfl<|dz aM rfl rfl rfl λw4 aP bO lj=>?_
 have jR:=jR.ext aP
 refine cL aM rfl rfl rfl bO rfl λw5 aN bO du=>?_
 have jR:=jR.since aN (λx hx=>.inr (by simp at hx;omega))
 refine aV<|zr<|zL fc aM rfl ((Eb.ext jR).all) rfl<|dz aM rfl rfl rfl λw6 bN cS oe=>bI bN jR bO λjR bO=>?_
 have asI:=bO.lt
 refine cL aM rfl rfl rfl cS rfl λw7 bW cS du=>?_
 have jR:=jR.since bW (λx hx=>.inr (by simp at hx;omega))
 have bO:=bO.aF bW so
 have av:=Lz.ext jR
 have wJ:=X9.ext jR
 have aG:=Eb.ext jR
 refine W ?_
 refine aA (J7 gg.au _ L1 w7 wJ) ?_
 rintro v8 w8 ⟨Dw,cg⟩
 have wH:=cg.size
 refine kJ cg jR bO cS wJ aG λjR bO cS wJ aG=>?_
 have eZ:=Dw
 rw[XY hA.ok] at eZ
 subst eZ
 refine W ?_
 refine iS (λ_:Unit=>[(0,.pointer (some ⟨b,0,none⟩)),(1,.pointer (some ⟨bt,0,none⟩)),(4,.pointer (some ⟨w.heap.size,0,none⟩)),(5,str (bH gg).name),(6,.pointer (some ⟨w3.heap.size,0,none⟩)),(7,.pointer (some ⟨w5.heap.size,0,none⟩))]) (λ_ ww=>aj [w3.heap.size,w5.heap.size] w8 ww∧∃a6 c6 a7 c7,(aK ww w3.heap.size [str ((bH gg).s).au.aw,.slice a6 ((bH gg).s).au.ak.length c6].toArray 74∧bC L1 ww (.agg #[str ((bH gg).s).au.aw,.slice a6 ((bH gg).s).au.ak.length c6]) ((bH gg).s).au)∧aK ww w5.heap.size [str ((bH gg).rest).au.aw,.slice a7 ((bH gg).rest).au.ak.length c7].toArray 74∧bC L1 ww (.agg #[str ((bH gg).rest).au.aw,.slice a7 ((bH gg).rest).au.ak.length c7]) ((bH gg).rest).au) ?_ ?_
 refine zc rfl (λh1=>?_) (λh1=>?_)
 have dY:=KB hA.ok h1
 obtain⟨nx,ea,eb,rfl⟩:=dY
 have KF:(Ex.lt nx ea eb).au.ak.length=4:=rfl
 have bV:=cY X9
 obtain⟨_,_,_,e9,_,aO⟩:=bV
 cases e9
 have fu:=fg aO (i:=1) om
 obtain⟨b1,eX,gR,gF,e1,bK,_⟩:=fu
 cases e1
 have bK:fF L1 w3 _ _ [str nx,.slice gR 0 gF]:=bK
 have eS:=fg aO (i:=2) om
 obtain⟨b2,lP,iI,iy,e2,bY,dM⟩:=eS
 cases e2
 have bY:fF L1 w3 _ _ [str ea.au.aw,.slice iI ea.au.ak.length iy]:=bY
 have dM:bC L1 w3 (.agg #[str ea.au.aw,.slice iI ea.au.ak.length iy]) ea.au:=dM
 have pR:=fg aO (i:=3) om
 obtain⟨b3,BP,qm,qo,e3,dS,ei⟩:=pR
 cases e3
 have dS:fF L1 w3 _ _ [str eb.au.aw,.slice qm eb.au.ak.length qo]:=dS
 have ei:bC L1 w3 (.agg #[str eb.au.aw,.slice qm eb.au.ak.length qo]) eb.au:=ei
 have lq:=aj.refl [w3.heap.size,w5.heap.size] w8
 refine WL ?_
 refine zl iW rfl ((Eb.ext jR).at rfl)<|zi (i:=1) cD aM rfl rfl ((show 1<4 from om))<|zf lK rfl<|zl fo rfl ((bK.ext jR).cells 0 _ rfl)<|zA<|aV<|zr<|zf jI rfl<|zl iW rfl ((Eb.ext jR).at rfl)<|zi (i:=2) cD aM rfl rfl ((show 2<4 from om))<|zL fc aM rfl ((bY.ext jR).cells) rfl<|cL (vs:=[str ea.au.aw,.slice iI ea.au.ak.length iy]) aM rfl rfl rfl bO rfl λw9 aB bO du=>?_
 have jR:=jR.since aB (λx hx=>.inr (by simp at hx;omega))
 have cS:=cS.aF aB so
 have lq:=lq.trans (aB.mono sm)
 refine WL ?_
 refine zl iW rfl ((Eb.ext jR).at rfl)<|zi (i:=3) cD aM rfl rfl ((show 3<4 from om))<|zL fc aM rfl ((dS.ext jR).cells) rfl<|cL (vs:=[str eb.au.aw,.slice qm eb.au.ak.length qo]) aM rfl rfl rfl cS rfl λcv cw cS du=>?_
 have jR:=jR.since cw (λx hx=>.inr (by simp at hx;omega))
 have bO:=bO.aF cw so
 have lq:=lq.trans (cw.mono sm)
 refine W ?_
 exact⟨(),⟨rfl,rfl,rfl,rfl,rfl,rfl⟩,lq,iI,iy,qm,qo,⟨bO,dM.ext jR⟩,cS,ei.ext jR⟩
 have pI:=alo (e:=gg) h1
 refine WZ ?_
 exact⟨(),⟨rfl,rfl,rfl,by rw[pI];rfl,rfl,rfl⟩,by rw[pI];exact⟨aj.refl _ _,ae,ce,ae,ce,⟨bO,wJ⟩,cS,wJ⟩⟩
 intro gu w9 e9 hI
 obtain⟨lq,a6,c6,a7,c7,⟨bO,sO⟩,cS,tX⟩:=hI
 have yr:=jR.since lq (λx hx=>.inr (by simp at hx;rcases hx with rfl|rfl<;>omega))
 have av:=Lz.ext yr
 have cN:=X8.ext yr
 have aG:=Eb.ext yr
 have cS:dP L1 w9 w5.heap.size _ _:=⟨cS,λhx=>by have:=vj _ hx;omega⟩
 refine W ?_
 refine aA (J7 (bH gg).s.au _ L1 w9 sO) ?_
 rintro v10 cv ⟨P7,cw⟩
 have zI:=cw.size
 refine C5 cw av cN aG sO tX bO cS yr λav cN aG sO tX bO cS yr=>?_
 have eZ:=P7
 rw[XY g.ok] at eZ
 subst eZ
 refine W ?_
 refine zc rfl (λh2=>?_) (λh2=>?_)
 have jA:=aln g.ok h2
 obtain⟨f,x9,jA⟩:=jA
 have fh:3<=(bH gg).s.n:=(by rw[jA];simp only[Ex.n];have:=f.pos;have:=x9.pos;omega)
 have Oa:(bH gg).s.n=(Ex.bi kr f x9).n:=congrArg Ex.n jA
 rw[jA] at bO sO
 have IK:=g.ok
 have IL:=g.type
 rw[jA] at IK IL
 refine W ?_
 refine aA (akU ({t with sc:=s1,on:=wh,aW:=FW}:Tk) m1 f x9 (bH gg).name (bH gg).rest T IK om IL hA.sc (show s1.length<=9000 from om) P6 Ya (λBV=>X5 hA g BV) om om om om (w.heap.size::E) L1 b bt _ _ cv av cN rY sO tX) ?_
 rintro XN ew ⟨L2,av,⟨t',dM,iG,bZ⟩,kz⟩
 have wW:=av.drop
 obtain⟨L3,eL3,av⟩:=wW
 have Cg:Fr L2 ew L3 ew:=(Fr.refl L2 ew).to (λz hz=>.inl (by rw[eL3];simp[hz]))
 rw[<-X0 (alq g jA),<-uk] at av
 refine W ?_
 exact⟨_,rfl,L3,av,⟨t',dM.go Cg (aj.refl [] _) sm,iG,bZ⟩,((P5.ext yr).go kz).go Cg⟩
 have my:(bH gg).s.head≠kr:=h2
 refine W ?_
 refine zc rfl (λh3=>?_) (λh3=>?_)
 have jA:=Wc g.ok h3
 obtain⟨c9,x9,y9,jA⟩:=jA
 have fh:4<=(bH gg).s.n:=(by rw[jA];simp only[Ex.n];have:=c9.pos;have:=x9.pos;have:=y9.pos;omega)
 have Oa:(bH gg).s.n=(Ex.ite c9 x9 y9).n:=congrArg Ex.n jA
 rw[jA] at bO sO
 have IK:=g.ok
 have IL:=g.type
 rw[jA] at IK IL
 have alz:=Vm hA g jA
 obtain⟨nw,nw2,_,fO⟩:=alz
 have alB:=fO.num
 refine W ?_
 refine aA (ak2 ({t with sc:=s1,on:=wh,aW:=FW}:Tk) m1 c9 x9 y9 (bH gg).name (bH gg).rest T IK om IL hA.sc (show s1.length<=9000 from om) P6 Ya (λBV=>X5 hA g BV) om om om om (w.heap.size::E) L1 b bt _ _ cv av cN rY sO tX) ?_
 rintro v51 ew ⟨L2,LA,av,dM,kz,hFt⟩
 have bV:=cY LA
 obtain⟨ay,ny,cy,P8,Ki,_⟩:=bV
 subst P8
 subst Ki
 have aG:=hFt.iw aG Ly X7
 have hF:=(P5.ext yr).go kz
 refine cL (vs:=[str y9.au.aw,.slice ay y9.au.ak.length cy]) aM rfl rfl rfl aG rfl λfI dw aG du=>?_
 have Ec:=av.sub Ly
 have av:=av.aF dw sm
 have dM:=dM.go (Fr.of dw (by simpa using Ec)) dw so;have hF:=hF.aD dw (by simpa using Ec);have LA:=LA.go (Fr.of dw (by simpa using Ec))
 refine W ?_
 exact⟨y9,⟨rfl,rfl,rfl⟩,⟨⟨_,_,_,_⟩,_,_,L2,ay,cy,Ch.step fO,uk.trans (X4 (alr g jA) fO.inv om),av,dM,hF,aG,LA⟩,om⟩
 have nh:(bH gg).s.head≠gJ:=h3
 have hpu:=N7 (m:=m1) hA.sml hA.sc g.ok g.type om om om
 obtain⟨nwp,qV⟩:=hpu
 have D8:∃z,z=mY m1 s1 T (bH gg).s:=⟨_,rfl⟩
 obtain⟨P,hP⟩:=D8
 rw[<-hP] at qV
 have asJ:=qV.ext.types
 have asK:=qV.ext.code
 have hpr:=qV.df
 refine W ?_
 refine aA (K8 ({t with sc:=s1,on:=wh,aW:=FW}:Tk) (bH gg).s g.ok om hA.sc.types (show s1.length+2*(bH gg).s.n<=100000 from om) _ L1 bt cv av.dj cN sO) ?_
 rintro v11 ew ⟨alE,cR⟩
 have yo:=cR.size
 refine C5 cR av cN aG sO tX bO cS yr λav cN aG sO tX bO cS yr=>?_
 have eZ:=alE
 rw[g.type] at eZ
 subst eZ
 refine W ?_
 refine aA (akR ({t with sc:=s1,on:=wh,aW:=FW}:Tk) m1 (bH gg).s T g.ok g.type hA.sc (show 5*s1.length+2*(bH gg).s.n<=240 from om) P6 om om om om (w.heap.size::E) L1 b bt _ ew av cN rY sO) ?_
 rintro O6 fI ⟨FX,L2,av,bF⟩
 rw[<-hP] at FX av
 subst FX
 have dM:=bF.tk cN rY
 have cS:=cS.go bF.fr;have tX:=tX.go bF.fr
 have aG:=bF.iw aG Ly
 have hF:=(P5.ext yr).go bF.fr
 refine W ?_
 refine zc rfl (λh4=>?_) (λh4=>?_)
 have qk:(bH gg).name=[]:=h4
 have FY:=(XZ g my nh).trans (iP qk)
 rw[<-hP] at FY
 have P9:∃z,z=tq P.1 wh:=⟨_,rfl⟩
 obtain⟨me,D5⟩:=P9
 have P1:me.types.length=P.1.types.length+3∧me.code.length=P.1.code.length+3:=(by rw[D5];exact XM _ _)
 obtain⟨met,mec⟩:=P1
 have Dd:∃z,z=me.types.length:=⟨_,rfl⟩
 obtain⟨r,pg⟩:=Dd
 have wX:∃z,z=me.code.length:=⟨_,rfl⟩
 obtain⟨c,eD⟩:=wX
 have t0:me.types.length=r:=pg.symm
 have c0:me.code.length=c:=eD.symm
 have Dd:∃z,z=P.1.types.length:=⟨_,rfl⟩
 obtain⟨rc,II⟩:=Dd
 have J1:yR P.1 wh P.2=((me.cE oa [[48],aU (rc+2)]).cE oa [[49],aU P.2]).cE A2 [aU (rc+1)]:=(by rw[D5,II];rfl)
 rw[J1] at FY
 have kh:=dM
 obtain⟨v1,v3,v4,v5,v6,v8,asM,_⟩:=kh
 refine W ?_
 refine aA (W6 P.1 wh om om om (w.heap.size::E) L2 b fI av) ?_
 rintro XN jO ⟨Fa,L0,av,bF⟩
 rw[<-D5] at av
 rw[<-II] at Fa
 subst Fa
 have hR:=bF
 have cX:=av.dj
 refine W ?_
 refine lk bg ba rfl rfl rfl rfl λja dG Yb DK=>bI dG av hR λav hR=>?_
 refine aA (k7 oa [[48],aU (rc+2)] (mP de sm (by intro z hz;simp at hz;rcases hz with rfl|rfl;(·decide);(·exact mu om))) me om (w.heap.size::E) L0 b _ ja av (aK.dO [[48],aU (rc+2)] Yb (λhx=>by have:=cX _ hx;omega))) ?_
 rintro jQ qA ⟨L1,av,bF⟩
 have hR:=hR.go bF
 clear Yb
 have il:∃x,x=me.cE oa [[48],aU (rc+2)]:=⟨_,rfl⟩
 obtain⟨m1,lV⟩:=il
 rw[<-lV] at av
 have t1:m1.types.length=r+0:=(by rw[lV,oT];omega)
 have c1:m1.code.length=c+1:=(by rw[lV,pS];omega)
 have cX:=av.dj
 refine W ?_
 refine aA (iH (P.2+1) P.2 om om qA) ?_
 rintro _ lU ⟨rfl,nG⟩
 have Wr:=nG.size
 refine bI nG av hR λav hR=>?_
 have cX:=av.dj
 refine lk bg ba rfl rfl rfl rfl λDL zQ Yc alF=>bI zQ av hR λav hR=>?_
 refine aA (k7 oa [[49],aU P.2] (mP de sm (by intro z hz;simp at hz;rcases hz with rfl|rfl;(·decide);(·exact mu om))) m1 om (w.heap.size::E) L1 b _ DL av (aK.dO [[49],aU P.2] Yc (λhx=>by have:=cX _ hx;omega))) ?_
 rintro jQ yi ⟨L2,av,bF⟩
 have hR:=hR.go bF
 clear Yc
 have fC:∃x,x=m1.cE oa [[49],aU P.2]:=⟨_,rfl⟩
 obtain⟨m2,lW⟩:=fC
 rw[<-lW] at av
 have t2:m2.types.length=r+0:=(by rw[lW,oT];omega)
 have c2:m2.code.length=c+2:=(by rw[lW,pS];omega)
 have cX:=av.dj
 refine W ?_
 refine eR bg ba rfl rfl λDU B3 Fp aiE=>bI B3 av hR λav hR=>?_
 refine aA (k7 A2 [aU (rc+1)] (mP de sm (by intro z hz;simp at hz;subst hz;exact mu om)) m2 om (w.heap.size::E) L2 b _ DU av (aK.dO [aU (rc+1)] Fp (λhx=>by have:=cX _ hx;omega))) ?_
 rintro jQ wS ⟨L3,av,bF⟩
 have hR:=hR.go bF
 clear Fp
 have zX:∃x,x=m2.cE A2 [aU (rc+1)]:=⟨_,rfl⟩
 obtain⟨m3,lX⟩:=zX
 rw[<-lX] at av
 have t3:m3.types.length=r+0:=(by rw[lX,oT];omega)
 have c3:m3.code.length=c+3:=(by rw[lX,pS];omega)
 have cX:=av.dj
 have wW:=av.drop
 obtain⟨L7,eL7,av⟩:=wW
 have Pe:=hR.tk dM rY
 have Cg:Fr L3 wS L7 wS:=(Fr.refl L3 wS).to (λz hz=>.inl (by rw[eL7];simp[hz]))
 refine W ?_
 subst lX lW lV
 rw[<-X0 FY,<-uk] at av
 exact⟨_,rfl,L7,av,⟨_,Pe.go Cg (aj.refl [] _) sm,rfl,rfl⟩,(hF.go hR.fr).go Cg⟩
 have qk:(bH gg).name≠[]:=h4
 have FY:=(XZ g my nh).trans (iN qk)
 have EK:=Vl hA g qk
 obtain⟨nw2,fO⟩:=EK
 rw[<-hP] at FY fO
 have alB:=fO.num
 have z7:=av.sub rY
 refine W ?_
 refine aA (FG ({t with sc:=s1,on:=wh,aW:=FW}:Tk) (bH gg).name P.2 T (show s1.length<100000 from om) L2 bt fI z7 av.dj dM) ?_
 rintro v87 jO ⟨dM,o6⟩
 have av:=av.aF o6 (by simpa using .inr eh)
 have cS:=cS.aD o6 (by simpa using z7);have tX:=tX.go (Fr.of o6 (by simpa using z7))
 have aG:=aG.aF o6 (by simpa using X7)
 have hF:=hF.aD o6 (by simpa using z7)
 have dM:gX L2 jO 166 bt ({t with sc:=s1++[((bH gg).name,P.2,T)],on:=wh,aW:=FW}:Tk):=dM
 refine W ?_
 refine cL (vs:=[str (bH gg).rest.au.aw,.slice a7 (bH gg).rest.au.ak.length c7]) aM rfl rfl rfl aG rfl λja dG aG du=>?_
 have Ec:=av.sub Ly
 have av:=av.aF dG sm
 have dM:=dM.go (Fr.of dG (by simpa using Ec)) dG so;have hF:=hF.aD dG (by simpa using Ec);have tX:=tX.go (Fr.of dG (by simpa using Ec))
 refine W ?_
 exact⟨(bH gg).rest,⟨rfl,rfl,rfl⟩,⟨⟨_,_,_,_⟩,_,_,L2,a7,c7,Ch.step fO,uk.trans (X4 FY fO.inv om),av,dM,hF,aG,tX⟩,om⟩
theorem alH (h:oS t) (hk:k<t.loads) {hd:aq} (hh:∀t',bB (t.regs.getD 0 [105])=some t'->hd=t'):k+1<hd.ak.length∧nth hd.ak (k+1)=nth (nu t) k∧WF (nth (nu t) k)∧(nth (nu t) k).size<=12001:=by
 rcases h.loads with h0|⟨ts,hr,hl,hp⟩
 ·omega
 ·obtain⟨e1,e2⟩:=Oc hr hp
  have e3:=hh _ e2
  have cB:=uo e2
  have fR:=AF e2
  subst e3
  have hlen:(xp [116] ts).ak.length=ts.length+1:=rfl
  have h1:k+1<(xp [116] ts).ak.length:=by rw[hlen];omega
  have e4:nth (xp [116] ts).ak (k+1)=nth (nu t) k:=by rw[e1];rfl
  have h2:=cB.nth h1
  have h3:=lI h1
  rw[e4] at h2 h3
  have h4:=MD e2
  exact⟨h1,e4,h2,om⟩
theorem alI {m:Mk} (h:oS t) (hk:k<=t.loads):Dg m (pK (ou m t.regs) (nu t) k) t.regs k:=by
 have hr:=h.room
 rcases h.loads with h0|⟨ts,hh,hl,HG⟩
 ·rw[show k=0 by omega];exact Od h.regs
 ·obtain⟨e1,_⟩:=Oc hh HG
  rw[e1]
  refine Oe h.regs (λx hx=>?_) _ om om
  have h2:=h.regs _ (List.mem_of_mem_head? hh)
  rw[mi] at h2
  have:=Vq (List.mem_map_of_mem (f:=aq.text) hx)
  omega
theorem alJ (m:Mk) (aJ:ai) (regs:List ai) (a b:ai) {CO P0:ai} {r:Nat} (hC:CO=dW [99] regs) (hP:P0=dW [116] [CO,b]) (hr:r=m.types.length):
  BL m aJ regs a b=(((((m.df CO).cE ti [aU r,aJ]).df P0).cE l6 [aU (r+1),aU r,[48]]).df a).cE tj [aU (r+2),aU (r+1),a,b]:=by
 subst hP;subst hC;subst hr;rfl
theorem alK (t:Tk) (m:Mk) (F0:oS t) (o:Bool) 
  (E L:List Nat) (b bt:Nat) (w:World) (h:dK t8 E L w b o m) (hT:gX L w 166 bt t) (eh:bt∈E):
  bw Tryz.prog 157 [.pointer (some ⟨b,0,none⟩),.pointer (some ⟨bt,0,none⟩)] w λr w'=>∃L',dK t8 E L' w' b true (qW m t)∧dX E L w L' w':=by
 have lY:=h.dj
 have alu:bt<w.heap.size:=lY bt (h.sub eh)
 have hR:=dX.refl E L w
 have pe:=F0.room
 have av:=h
 refine bU [] 137 Tryz.func157 rfl acP rfl rfl ?_
 refine zr<|zm<|gA bg ba λw1 aI mG H4=>?_
 have Ac:=h.open
 obtain⟨xb,xt,xc,xy,gb,gt,gc,gy,bj,hS⟩:=Ac
 have zo:=hS.apart
 obtain⟨zP,nQ,wP,mO,wQ,uV⟩:=zo
 have bj:aK w1 b [xb,xt,.int .i64 (m.count:Int),.bool m.wide,xc,xy].toArray 164:=bj.ext aI
 have Ad:=hS.JW mG.ll aI.any (λx hx=>.inr (by cases hx;exact lR _))
 obtain⟨L1,hS,bF⟩:=Ad
 have hR:=(dX.refl E L w).add bF aI sm
 refine W ?_
 refine gD (o:=4) mW rfl rfl rfl bj rfl λw2 az bj du=>?_
 have hS:=hS.aF az sm
 have Ed:=hS.mem.2 (.inr (.inl rfl))
 have hR:=hR.aD az Ed nQ
 have kh:=hR.tk hT eh
 obtain⟨u1,u3,u4,u5,u6,u8,dd,ie⟩:=kh
 have bV:=dH ie.regs
 obtain⟨a1,n1,c1,e1,fu⟩:=bV
 subst e1
 subst fu
 have asN:∀x,x∈L1->x<w2.heap.size:=hS.cF
 refine aV<|zr<|zm<|vJ w2.heap.size [] bg ba rfl rfl (lR _) sm λw3 aH alF alL=>?_
 have rX:=aH
 have dd:=dd.ext aH
 refine W ?_
 refine xH bg ba rfl rfl rfl rfl rfl rfl alL ((bP.fresh ie.regs (L':=[w2.heap.size]) (λx hx=>.inr (by simp at hx;omega))).ext rX |>.fresh (λx hx=>.inl (by simpa using hx))) (XQ _) (by rw[po];simp;omega) λa4 fU g4 w4 kP aP=>?_
 rw[List.nil_append] at kP
 have Qa:=rX.since aP (λx hx=>.inr (by simp at hx;omega))
 have lu:=kP.sn
 have jX:=kP.low
 have bj:=bj.ext Qa
 have Ad:=hS.Nx lu Qa.any (λx hx=>.inr (jX x hx))
 obtain⟨L2,fJ,jD⟩:=Ad
 have hR:=hR.add jD Qa sm
 refine W ?_
 refine gD (o:=5) mW rfl rfl rfl bj rfl λw5 aN bj du=>?_
 have fJ:=fJ.aF aN sm
 have alM:=fJ.mem.2 (.inr (.inl rfl))
 have hR:=hR.aD aN alM nQ
 have av:dK t8 E L2 w5 b true (ou m t.regs):=⟨_,_,_,_,_,_,_,_,bj,fJ⟩
 have D3:=av.dj
 refine aV<|zr<|aA (yW [105] L2 w5 D3) ?_
 rintro v6 w6 ⟨wL,bN⟩
 have iJ:=bN.size
 refine bI bN av hR λav hR=>?_
 have eZ:=wL
 obtain⟨t0x,tv,Qb,LB,ga⟩:=eZ
 subst Qb
 have bV:=cY LB
 obtain⟨a5,n5,c5,e5,H6,_⟩:=bV
 subst e5
 subst H6
 have mr:=av
 have uX:=hR
 have D3:=av.dj
 refine W ?_
 refine dz aM rfl rfl rfl λw7 bW aG gQ=>?_
 have di:=bW
 refine cL (vs:=[str t0x.aw,.slice a5 t0x.ak.length c5]) aM rfl rfl rfl aG rfl λw8 cg aG du=>?_
 have di:=di.since cg (λx hx=>.inr (by simp at hx;omega))
 have av:=mr.ext di
 have hR:=uX.ext di
 have LB:=LB.ext di
 have kh:=hR.tk hT eh
 obtain⟨u1,u3,u4,u5,u6,u8,dd,ie⟩:=kh
 have bV:=dH ie.regs
 obtain⟨a1,n1,c1,e1,fu⟩:=bV
 subst e1
 subst fu
 have bV:=dH ie.self
 obtain⟨a3,n3,c3,e3,pR⟩:=bV
 subst e3
 subst pR
 have dd:aK w8 bt [str t.aJ,.slice a1 t.regs.length c1,.int .i64 (t.loads:Int),.slice a3 t.self.length c3,u4,u5,u6,str t.expr.au.aw,u8,.int .i64 (t.on:Int),str t.aW,.int .i64 (t.next:Int)].toArray 166:=dd
 refine W ?_
 refine iS (λ_:Unit=>[(0,.pointer (some ⟨b,0,none⟩)),(1,.pointer (some ⟨bt,0,none⟩)),(4,.pointer (some ⟨w6.heap.size,0,none⟩))]) (λ_ ww=>aj [w6.heap.size] w8 ww∧∃(hd:aq) (ah:Option Addr) (ch:Nat),aK ww w6.heap.size [str hd.aw,.slice ah hd.ak.length ch].toArray 74∧bC L2 ww (.agg #[str hd.aw,.slice ah hd.ak.length ch]) hd∧∀t',bB (t.regs.getD 0 [105])=some t'->hd=t') ?_ ?_
 refine zc rfl (λh1=>?_) (λh1=>?_)
 have pg:0<t.regs.length:=(by simp at h1;omega)
 have ej:=oy ie.regs pg
 obtain⟨b9,vq,e9,jE⟩:=ej
 cases e9
 have qE:t.regs.getD 0 [105]=bD t.regs 0:=(by unfold bD;rw[gG,gG,gE pg];rfl)
 have lq:=aj.refl [w6.heap.size] w8
 have F2:=av.dj
 refine W ?_
 refine aA (yW (bD t.regs 0) (w6.heap.size::L2) w8 (λx hx=>by rcases mC.1 hx with h9|h9;(·rw[h9];exact aG.lt);(·exact F2 x h9))) ?_
 rintro v9 w9 ⟨eZ,aB⟩
 have nA:=aB.size
 refine bI aB aG lq λaG lq=>?_
 have eZ:=eZ
 obtain⟨t1x,tv,zz,Yd,pF⟩:=eZ
 subst zz
 have bV:=cY Yd
 obtain⟨a6,n6,c6,e6,Qc,_⟩:=bV
 subst e6
 subst Qc
 refine W ?_
 refine cL (vs:=[str t1x.aw,.slice a6 t1x.ak.length c6]) aM rfl rfl rfl aG rfl λcv cw aG du=>?_
 have lq:=lq.trans cw
 have alN:bC L2 cv _ t1x:=(Yd.go (Fr.of cw sm)).fresh (λx hx=>.inl (by simp[hx]))
 refine W ?_
 exact⟨(),⟨rfl,rfl,rfl⟩,lq,t1x,a6,c6,aG,alN,by rw[qE];exact pF⟩
 have pg:t.regs=[]:=(by simpa using h1)
 have qE:t.regs.getD 0 [105]=[105]:=(by rw[pg];rfl)
 refine WZ ?_
 exact⟨(),⟨rfl,rfl,rfl⟩,aj.refl _ _,t0x,a5,c5,aG,LB,by rw[qE];exact ga⟩
 intro gu w9 e9 hI
 obtain⟨lq,hd,ah,ch,aG,Qd,ju⟩:=hI
 have di:=di.since lq (λx hx=>.inr (by simp at hx;omega))
 have av:=mr.ext di
 have hR:=uX.ext di
 have aG:dP L2 w9 w6.heap.size _ _:=⟨aG,λhx=>by have:=D3 _ hx;omega⟩
 refine W ?_
 refine dR (λk:Nat=>[(0,.pointer (some ⟨b,0,none⟩)),(1,.pointer (some ⟨bt,0,none⟩)),(4,.pointer (some ⟨w6.heap.size,0,none⟩)),(6,.int .i64 (k:Int))]) (λk ww=>∃L3,dK t8 E L3 ww b true (pK (ou m t.regs) (nu t) k)∧dX E L w L3 ww∧Fr L2 w9 L3 ww∧k<=t.loads) (λk=>t.loads-k) (0) (⟨rfl,rfl,rfl,rfl⟩) (⟨L2,av,hR,Fr.refl _ _,Nat.zero_le _⟩) λgg cv fQ hI=>?_
 obtain⟨L3,av,hR,rZ,hk⟩:=hI
 have aG:=aG.go rZ;have Qd:=Qd.go rZ
 have kh:=hR.tk hT eh
 obtain⟨u1,u3,u4,u5,u6,u8,dd,ie⟩:=kh
 have bV:=dH ie.regs
 obtain⟨a1,n1,c1,e1,fu⟩:=bV
 subst e1
 subst fu
 have bV:=dH ie.self
 obtain⟨a3,n3,c3,e3,pR⟩:=bV
 subst e3
 subst pR
 have dd:aK cv bt [str t.aJ,.slice a1 t.regs.length c1,.int .i64 (t.loads:Int),.slice a3 t.self.length c3,u4,u5,u6,str t.expr.au.aw,u8,.int .i64 (t.on:Int),str t.aW,.int .i64 (t.next:Int)].toArray 166:=dd
 have Ye:=alI (m:=m) F0 hk
 have alO:=Ye.types
 have alP:=Ye.code
 refine W ?_
 refine zc rfl (λh2=>?_) (λh2=>?_)
 have az:gg<t.loads:=(by simp at h2;omega)
 have alQ:=alH F0 az ju
 obtain⟨nk,qh,BA,Yf⟩:=alQ
 have bV:=cY Qd
 obtain⟨_,_,_,e9,_,aO⟩:=bV
 cases e9
 have fu:=fg aO nk
 obtain⟨b9,vq,pa9,pc9,e9,jE,dy⟩:=fu
 cases e9
 rw[qh] at jE dy
 have ql:=M9 _ _ (lR _) BA
 refine W ?_
 refine aA (uJ (nth (nu t) gg).size _ (lR _) BA om om _ _ cv dy) ?_
 rintro _ ew ⟨rfl,cR⟩
 have yo:=cR.size
 refine cJ cR av hR rZ λav hR rZ=>?_
 refine aA (sL (nth (nu t) gg).text (pK (ou m t.regs) (nu t) gg) om E L3 b true ew av) ?_
 rintro XK fI ⟨IM,L4,av,bF⟩
 subst IM
 have hR:=hR.go bF;have rZ:=rZ.go bF.fr
 refine W ?_
 refine aA (iH ((pK (ou m t.regs) (nu t) gg).types.length+1) (pK (ou m t.regs) (nu t) gg).types.length om om fI) ?_
 rintro _ jO ⟨rfl,gM⟩
 have Ii:=gM.size
 refine cJ gM av hR rZ λav hR rZ=>?_
 have cX:=av.dj
 refine zm<|aA (iH (gg+1) gg om om jO) ?_
 rintro _ ja ⟨rfl,dG⟩
 have alT:=dG.size
 refine cJ dG av hR rZ λav hR rZ=>?_
 have cX:=av.dj
 refine pJ bg ba rfl rfl rfl rfl rfl λqA jZ alU Kz=>cJ jZ av hR rZ λav hR rZ=>?_
 refine aA (k7 tl [aU (pK (ou m t.regs) (nu t) gg).types.length,[48],aU gg] (mP de sm (by intro z hz;simp at hz;rcases hz with rfl|rfl|rfl;(·exact mu om);(·decide);(·exact mu om))) ((pK (ou m t.regs) (nu t) gg).df (nth (nu t) gg).text) (show(pK (ou m t.regs) (nu t) gg).code.length<100000 from om) E L4 b _ qA av (aK.dO [aU (pK (ou m t.regs) (nu t) gg).types.length,[48],aU gg] alU (λhx=>by have:=cX _ hx;omega))) ?_
 rintro v68 lU ⟨L5,av,bF⟩
 have hR:=hR.go bF;have rZ:=rZ.go bF.fr
 refine W ?_
 exact⟨gg+1,⟨rfl,rfl,rfl,rfl⟩,⟨L5,av,hR,rZ,om⟩,om⟩
 have BE:gg=t.loads:=om
 subst BE
 have P9:∃z,z=pK (ou m t.regs) (nu t) t.loads:=⟨_,rfl⟩
 obtain⟨m0,uh⟩:=P9
 rw[<-uh] at av alO alP
 refine W ?_
 refine zc rfl (λh3=>?_) (λh3=>?_)
 have iG:t.self.length=2:=om
 have Ee:=F0.self
 have Ee:∃a b,t.self=[a,b]∧a.length<=272∧b.length<=11200∧t.regs.length=3∧∀r,r∈t.regs->r.length<=11200:=(by rcases Ee with h9|h9;(·rw[h9] at iG;cases iG);(·exact h9))
 obtain⟨sa,sb,Qe,asP,asQ,h3,oN⟩:=Ee
 have wX:∃z,z=dW [99] t.regs:=⟨_,rfl⟩
 obtain⟨CO,Ae⟩:=wX
 have wX:∃z,z=dW [116] [CO,sb]:=⟨_,rfl⟩
 obtain⟨P0,sN⟩:=wX
 have asR:CO.length<=33610:=(by rw[Ae];exact Vp h3 oN)
 have asS:P0.length<=45000:=(by rw[sN,mi,BI];simp only[lC,List.length_nil];omega)
 have wX:∃z,z=m0.types.length:=⟨_,rfl⟩
 obtain⟨r,Ip⟩:=wX
 have wX:∃z,z=m0.code.length:=⟨_,rfl⟩
 obtain⟨c,Pw⟩:=wX
 have t0:m0.types.length=r:=Ip.symm
 have c0:m0.code.length=c:=Pw.symm
 have Ef:qW m t=(((((m0.df CO).cE ti [aU r,t.aJ]).df P0).cE l6 [aU (r+1),aU r,[48]]).df sa).cE tj [aU (r+2),aU (r+1),sa,sb]:=(by unfold qW Kj;rw[<-uh,Qe];exact alJ m0 t.aJ t.regs sa sb Ae sN Ip)
 have HA:=F0.aJ
 have xL:t.self.length=2:=iG
 have oC:bD t.self 0=sa:=(by rw[Qe];rfl)
 have dk:bD t.self 1=sb:=(by rw[Qe];rfl)
 refine W ?_
 refine aA ((show bw Tryz.prog 135 [str [99],.slice a1 t.regs.length c1] _ (λr w'=>r=str CO∧aj [] _ w') from by rw[Ae];exact y0 [99] t.regs (by rw[<-Ae];omega) _ _ _ ie.regs)) ?_
 rintro _ ew ⟨rfl,cR⟩
 have yo:=cR.size
 refine cJ cR av hR dd λav hR dd=>?_
 refine W ?_
 refine aA (sL CO m0 om E L3 b true ew av) ?_
 rintro v10 fI ⟨fQ,L1,av,bF⟩
 rw[t0] at fQ
 subst fQ
 have hR:=hR.go bF
 have il:∃x,x=m0.df CO:=⟨_,rfl⟩
 obtain⟨m1,lV⟩:=il
 rw[<-lV] at av
 have t1:m1.types.length=r+1:=(by rw[lV,zn];omega)
 have c1:m1.code.length=c+0:=(by rw[lV,DO];omega)
 have cX:=av.dj
 have kh:=hR.tk hT eh
 obtain⟨u1,u3,u4,u5,u6,u8,dd,ie⟩:=kh
 have bV:=dH ie.self
 obtain⟨a3,n3,c3,e3,pR⟩:=bV
 subst e3
 subst pR
 have dd:aK fI bt [str t.aJ,u1,.int .i64 (t.loads:Int),.slice a3 t.self.length c3,u4,u5,u6,str t.expr.au.aw,u8,.int .i64 (t.on:Int),str t.aW,.int .i64 (t.next:Int)].toArray 166:=dd
 have ej:=oy ie.self (i:=0) om
 obtain⟨b9,vq,e9,jE⟩:=ej
 cases e9
 have ej:=oy ie.self (i:=1) om
 obtain⟨Qf,Qg,fQ,yt⟩:=ej
 cases fQ
 rw[oC] at jE
 rw[dk] at yt
 refine W ?_
 apply vT dv 8 (rA 83 8) (rA 83 8) [[],[],[1],[],[3],[4],[5],[2,6]] [It.v _,It.v _,It.v _,It.v _,It.v _,It.v _,It.v _,It.p (fun(v:Value) (ww:World)=>bf L1 ww v [aU r,t.aJ])] de (by exact⟨λv w w' h k=>h.ext k,trivial⟩)
 intro wd aC
 refine VA ?_
 refine vk aC (λx jO gM=>?_) ?_
 refine aA (iH (r+1) r om om jO) ?_
 rintro _ ja ⟨rfl,dG⟩
 have alT:=dG.size
 exact pk dG
 refine VA ?_
 refine vk aC (λx jO gM=>?_) ?_
 have alV:=gM.size
 refine lk bg ba rfl rfl rfl rfl λja dG alW DK=>?_
 exact pf dG ((aK.dO [aU r,t.aJ] alW (λhx=>by have:=cX _ hx;omega)))
 exact trivial
 intro x BX qz
 intro v7 d7
 refine cJ qz av hR dd λav hR dd=>?_
 change OW _ _ _ _ _ (bo (bm _ x _) (zZ 83 [_,_,_,_,_,_,_,_])) _
 refine aA (k7 ti [aU r,t.aJ] (mP de sm (by intro z hz;simp at hz;rcases hz with rfl|rfl;(·exact mu om);(·omega))) m1 om E L1 b _ BX av d7) ?_
 rintro jQ sK ⟨L2,av,bF⟩
 have hR:=hR.go bF
 have fC:∃x,x=m1.cE ti [aU r,t.aJ]:=⟨_,rfl⟩
 obtain⟨m2,lW⟩:=fC
 rw[<-lW] at av
 have t2:m2.types.length=r+1:=(by rw[lW,oT];omega)
 have c2:m2.code.length=c+1:=(by rw[lW,pS];omega)
 have cX:=av.dj
 have kh:=hR.tk hT eh
 obtain⟨u1,u3,u4,u5,u6,u8,dd,ie⟩:=kh
 have bV:=dH ie.self
 obtain⟨a3,n3,c3,e3,pR⟩:=bV
 subst e3
 subst pR
 have dd:aK sK bt [str t.aJ,u1,.int .i64 (t.loads:Int),.slice a3 t.self.length c3,u4,u5,u6,str t.expr.au.aw,u8,.int .i64 (t.on:Int),str t.aW,.int .i64 (t.next:Int)].toArray 166:=dd
 have ej:=oy ie.self (i:=0) om
 obtain⟨b9,vq,e9,jE⟩:=ej
 cases e9
 have ej:=oy ie.self (i:=1) om
 obtain⟨Qf,Qg,fQ,yt⟩:=ej
 cases fQ
 rw[oC] at jE
 rw[dk] at yt
 refine aV<|zr<|zm<|zm<|zm<|Gh rfl rfl rfl<|zf JD rfl<|zl vN rfl (dd.at rfl)<|zi (i:=1) bg ba rfl rfl om<|zl fo rfl (yt.cells 0 _ rfl)<|lk bg ba rfl rfl rfl rfl ?_
 intro ym DY DR alf
 refine bI DY av hR λav hR=>?_
 refine aA ((show bw Tryz.prog 135 [str [116],_] ym (λr w'=>r=str P0∧aj [] ym w') from by rw[sN];exact y0 [116] [CO,sb] (by rw[<-sN];omega) _ L2 ym (aK.dO [CO,sb] DR (λhx=>by have:=cX _ hx;omega)))) ?_
 rintro _ Lp ⟨rfl,Ca⟩
 have asT:=Ca.size
 refine cJ Ca av hR DR λav hR DR=>?_
 clear DR
 refine aA (sL P0 m2 om E L2 b true Lp av) ?_
 rintro v10 Ce ⟨fQ,L3,av,bF⟩
 rw[t2] at fQ
 subst fQ
 have hR:=hR.go bF
 have zX:∃x,x=m2.df P0:=⟨_,rfl⟩
 obtain⟨m3,lX⟩:=zX
 rw[<-lX] at av
 have t3:m3.types.length=r+2:=(by rw[lX,zn];omega)
 have c3:m3.code.length=c+1:=(by rw[lX,DO];omega)
 have cX:=av.dj
 refine W ?_
 refine aA (iH ((r+1)+1) (r+1) om om Ce) ?_
 rintro _ PW ⟨rfl,Cf⟩
 have XE:=Cf.size
 refine bI Cf av hR λav hR=>?_
 have cX:=av.dj
 refine zm<|aA (iH (r+1) r om om PW) ?_
 rintro _ w58 ⟨rfl,F3⟩
 have asV:=F3.size
 refine bI F3 av hR λav hR=>?_
 have cX:=av.dj
 refine pJ bg ba rfl rfl rfl rfl rfl λw59 IN Yg asW=>bI IN av hR λav hR=>?_
 refine aA (k7 l6 [aU (r+1),aU r,[48]] (mP de sm (by intro z hz;simp at hz;rcases hz with rfl|rfl|rfl;(·exact mu om);(·exact mu om);(·decide))) m3 om E L3 b _ w59 av (aK.dO [aU (r+1),aU r,[48]] Yg (λhx=>by have:=cX _ hx;omega))) ?_
 rintro jQ Yh ⟨L4,av,bF⟩
 have hR:=hR.go bF
 clear Yg
 have DS:∃x,x=m3.cE l6 [aU (r+1),aU r,[48]]:=⟨_,rfl⟩
 obtain⟨m4,o5⟩:=DS
 rw[<-o5] at av
 have t4:m4.types.length=r+2:=(by rw[o5,oT];omega)
 have c4:m4.code.length=c+2:=(by rw[o5,pS];omega)
 have cX:=av.dj
 have kh:=hR.tk hT eh
 obtain⟨u1,u3,u4,u5,u6,u8,dd,ie⟩:=kh
 have bV:=dH ie.self
 obtain⟨a3,n3,c3,e3,pR⟩:=bV
 subst e3
 subst pR
 have dd:aK Yh bt [str t.aJ,u1,.int .i64 (t.loads:Int),.slice a3 t.self.length c3,u4,u5,u6,str t.expr.au.aw,u8,.int .i64 (t.on:Int),str t.aW,.int .i64 (t.next:Int)].toArray 166:=dd
 have ej:=oy ie.self (i:=0) om
 obtain⟨b9,vq,e9,jE⟩:=ej
 cases e9
 have ej:=oy ie.self (i:=1) om
 obtain⟨Qf,Qg,fQ,yt⟩:=ej
 cases fQ
 rw[oC] at jE
 rw[dk] at yt
 refine aV<|zr<|zm<|zm<|Gh rfl rfl rfl<|zf JD rfl<|zl vN rfl (dd.at rfl)<|zi (i:=0) bg ba rfl rfl om<|zl fo rfl (jE.cells 0 _ rfl)<|aA (sL sa m4 om E L4 b true Yh av) ?_
 rintro v10 XW ⟨fQ,L5,av,bF⟩
 rw[t4] at fQ
 subst fQ
 have hR:=hR.go bF
 have PG:∃x,x=m4.df sa:=⟨_,rfl⟩
 obtain⟨m5,zY⟩:=PG
 rw[<-zY] at av
 have t5:m5.types.length=r+3:=(by rw[zY,zn];omega)
 have c5:m5.code.length=c+2:=(by rw[zY,DO];omega)
 have cX:=av.dj
 have kh:=hR.tk hT eh
 obtain⟨u1,u3,u4,u5,u6,u8,dd,ie⟩:=kh
 have bV:=dH ie.self
 obtain⟨a3,n3,c3,e3,pR⟩:=bV
 subst e3
 subst pR
 have dd:aK XW bt [str t.aJ,u1,.int .i64 (t.loads:Int),.slice a3 t.self.length c3,u4,u5,u6,str t.expr.au.aw,u8,.int .i64 (t.on:Int),str t.aW,.int .i64 (t.next:Int)].toArray 166:=dd
 have ej:=oy ie.self (i:=0) om
 obtain⟨b9,vq,e9,jE⟩:=ej
 cases e9
 have ej:=oy ie.self (i:=1) om
 obtain⟨Qf,Qg,fQ,yt⟩:=ej
 cases fQ
 rw[oC] at jE
 rw[dk] at yt
 refine W ?_
 apply vT dv 18 (rA 118 18) (rA 118 18) [[],[],[1],[],[3],[],[5],[6],[7],[8],[9],[],[11],[12],[13],[14],[15],[2,4,10,16]] [It.v _,It.v _,It.v _,It.v _,It.v _,It.v _,It.v _,It.v _,It.v _,It.v _,It.v _,It.v _,It.v _,It.v _,It.v _,It.v _,It.v _,It.p (fun(v:Value) (ww:World)=>bf L5 ww v [aU (r+2),aU (r+1),sa,sb])] de (by exact⟨λv w w' h k=>h.ext k,trivial⟩)
 intro wd aC
 refine VA ?_
 refine vk aC (λx sR pU=>?_) ?_
 refine aA (iH (r+2+1) (r+2) om om sR) ?_
 rintro _ Ea ⟨rfl,tW⟩
 have alY:=tW.size
 exact pk tW
 refine VA ?_
 refine vk aC (λx sR pU=>?_) ?_
 refine aA (iH (r+1+1) (r+1) om om sR) ?_
 rintro _ Ea ⟨rfl,tW⟩
 have alY:=tW.size
 exact pk tW
 refine vc (λ_ _ _=>WZ pv) ?_
 refine vk aC (λx sR pU=>?_) ?_
 refine WZ ?_
 exact pv
 refine vc (λ_ _ _=>WZ pv) ?_
 refine vk aC (λx sR pU=>?_) ?_
 have dd:=dd.ext pU
 refine WZ ?_
 exact pv
 refine vk aC (λx sR pU=>?_) ?_
 refine zi (i:=0) bg ba rfl rfl om ?_
 exact pv
 refine vk aC (λx sR pU=>?_) ?_
 have jE:=jE.ext pU
 refine WZ ?_
 exact pv
 refine vc (λ_ _ _=>WZ pv) ?_
 refine vk aC (λx sR pU=>?_) ?_
 refine WZ ?_
 exact pv
 refine vc (λ_ _ _=>WZ pv) ?_
 refine vk aC (λx sR pU=>?_) ?_
 have dd:=dd.ext pU
 refine WZ ?_
 exact pv
 refine vk aC (λx sR pU=>?_) ?_
 refine zi (i:=1) bg ba rfl rfl om ?_
 exact pv
 refine vk aC (λx sR pU=>?_) ?_
 have yt:=yt.ext pU
 refine WZ ?_
 exact pv
 refine vk aC (λx sR pU=>?_) ?_
 have alV:=pU.size
 refine zj bg ba rfl rfl rfl rfl rfl rfl ?_
 intro Ea tW alZ asX
 exact pf tW ((aK.dO [aU (r+2),aU (r+1),sa,sb] alZ (λhx=>by have:=cX _ hx;omega)))
 exact trivial
 intro x al0 al1
 intro jQ d17
 refine bI al1 av hR λav hR=>?_
 change OW _ _ _ _ _ (bo (bm _ x _) (zZ 118 [_,_,_,_,_,_,_,_,_,_,_,_,_,_,_,_,_,_])) _
 refine aA (k7 tj [aU (r+2),aU (r+1),sa,sb] (mP de sm (by intro z hz;simp at hz;rcases hz with rfl|rfl|rfl|rfl;(·exact mu om);(·exact mu om);(·omega);(·omega))) m5 om E L5 b _ al0 av d17) ?_
 rintro jQ asY ⟨L6,av,bF⟩
 have hR:=hR.go bF
 have PH:∃x,x=m5.cE tj [aU (r+2),aU (r+1),sa,sb]:=⟨_,rfl⟩
 obtain⟨m6,z1⟩:=PH
 rw[<-z1] at av
 have t6:m6.types.length=r+3:=(by rw[z1,oT];omega)
 have c6:m6.code.length=c+3:=(by rw[z1,pS];omega)
 have cX:=av.dj
 refine W ?_
 subst z1 zY o5 lX lW lV
 rw[<-Ef] at av
 exact⟨_,rfl,_,av,hR⟩
 have Ee:=F0.self
 have iG:t.self.length≠2:=(λh9=>h3 (by rw[h9];rfl))
 have Ee:t.self=[]:=(by rcases Ee with h9|⟨a,b,h9,_⟩;(·exact h9);(·rw[h9] at iG;exact absurd rfl iG))
 have Ef:qW m t=m0:=(by unfold qW Kj;rw[<-uh,Ee])
 refine WZ ?_
 rw[<-Ef] at av
 exact⟨_,rfl,_,av,hR⟩
theorem al2 (x0:ByteArray) (x7:ByteArray) (a8:Option Addr) (n8 c8:Nat) (x9:Int) (FI:ByteArray) (w:World):(Instr.build 166 #[(0,.string x0),(7,.agg #[.string x7,.slice a8 n8 c8]),(8,.int .i64 x9),(9,.string FI)]).run Tryz.prog w= .ok (.agg #[.string x0,.slice none 0 0,.int .i64 0,.slice none 0 0,.slice none 0 0,.slice none 0 0,.slice none 0 0,.string x7,.slice a8 n8 c8,.int .i64 x9,.string FI,.int .i64 0]) w:=by kernel_rfl
theorem dX.al3 {x:Nat} (h:dX (x::E) L w L1 w1):dX E L w L1 w1:=⟨h.fr,let⟨G,k,hG⟩:=h.out;⟨G,k,λz hz sP=>hG z hz (mK _ sP)⟩⟩
def vu:Mk:=⟨[],[],0,false,[],[]⟩
theorem al4 (T:Ty) {ON CO P0:ai} (hO:ON=dC (bz T)) (hC:CO=dW [99] [sT,bz T]) (hP:P0=dW [116] [CO,sT]):
  tK T=(((({vu with types:=[sT,CO,P0,ON]}).cE l6 [[48]]).cE ti [[49],A3]).cE l6 [[50],[49],[48]]).cE tj [[51],[50],ON,sT]:=by
 subst hP;subst hC;subst hO;rfl
theorem al5 (e:Ex) (T:Ty) (IP:T.n<=16) 
  (E L:List Nat) (b:Nat) (v:Value) (w:World) (h:dK t8 E L w b true vu) (hv:bC L w v e.au):
  bw Tryz.prog 153 [.pointer (some ⟨b,0,none⟩),v,str T.text] w λr w'=>∃v1 v3 v4 v5 v6 v8 L',r= .agg (qf (HH e T) v1 v3 v4 v5 v6 v8).toArray∧oJ L' w' (HH e T) v1 v3 v4 v5 v6 v8∧dK t8 E L' w' b true (tK T)∧dX E L w L' w':=by
 obtain⟨ar,nr,cr,rfl,qB,aO⟩:=cY hv
 subst qB
 have lY:=h.dj
 obtain⟨ON,LC⟩:∃z,z=dC (bz T):=⟨_,rfl⟩
 obtain⟨CO,Ae⟩:∃z,z=dW [99] [sT,bz T]:=⟨_,rfl⟩
 obtain⟨P0,sN⟩:∃z,z=dW [116] [CO,sT]:=⟨_,rfl⟩
 rw[al4 T LC Ae sN]
 have aI:=qj IP
 have hOl:ON.length<=272:=by rw[LC];exact uK IP
 have hCl:CO.length<=300:=by rw[Ae,mi,BI];simp only[lC,List.length_nil];omega
 have Lc:P0.length<=400:=by rw[sN,mi,BI];simp only[lC,List.length_nil];omega
 obtain⟨m0,uh⟩:∃z:Mk,z={vu with types:=[sT,CO,P0,ON]}:=⟨_,rfl⟩
 rw[<-uh]
 obtain⟨r,hr4⟩:∃r,r=4:=⟨_,rfl⟩
 obtain⟨c,eD⟩:∃c,c=0:=⟨_,rfl⟩
 have t0:m0.types.length=r:=by rw[uh,hr4];rfl
 have c0:m0.code.length=c:=by rw[uh,eD];rfl
 have av:=h
 have hR:=dX.refl E L w
 refine lG [.cell 6 166] 45 Tryz.func153 rfl acL rfl rfl rfl ?_
 refine zr<|eK rfl λw1 aI aG dh=>bI aI av hR λav hR=>?_
 refine dz mV rfl rfl rfl λw2 az Yi lj=>?_
 have av:=av.tT az sm (lR _) Yi.lt
 have o4:=hR.more az sm (lR _) (λz hz=>by have:=lY z (h.sub hz);omega)
 have hR:=dX.refl (w1.heap.size::E) (w1.heap.size::L) w2
 have Lu:∀z,z∈w1.heap.size::L->z=w1.heap.size∨z<w.heap.size:=(λz hz=>(mC.1 hz).imp id (lY z))
 have aG:dP (w1.heap.size::L) w2 w.heap.size [str e.au.aw,.slice ar e.au.ak.length cr].toArray 74:=⟨aG.ext az,λhx=>by have:=Lu _ hx;omega⟩
 have Yj:w1.heap.size∈w1.heap.size::E:=List.mem_cons_self ..
 refine aV<|zr<|zm<|aA (wO T om w2) ?_
 rintro _ w3 ⟨rfl,aH⟩
 have fh:=aH.size
 refine cJ aH av hR aG λav hR aG=>?_
 refine aA ((show bw Tryz.prog 185 [str (bz T)] w3 (λr w'=>r=str ON∧aj [] w3 w') from by rw[LC];exact Ig (bz T) om w3)) ?_
 rintro _ w4 ⟨rfl,aP⟩
 have fH:=aP.size
 refine cJ aP av hR aG λav hR aG=>?_
 refine W ?_
 refine gA bg ba λw5 aN mG H4=>?_
 have Ac:=av.open
 obtain⟨xb,xt,xc,xy,gb,gt,gc,gy,bj,hS⟩:=Ac
 have zo:=hS.apart
 obtain⟨zP,nQ,wP,mO,wQ,uV⟩:=zo
 have bj:aK w5 b [xb,xt,.int .i64 (vu.count:Int),.bool vu.wide,xc,xy].toArray 164:=bj.ext aN
 have Ad:=hS.JW mG.ll aN.any (λx hx=>.inr (by cases hx;exact lR _))
 obtain⟨L1,hS,bF⟩:=Ad
 have hR:=hR.add bF aN sm
 have aG:=aG.go bF
 refine W ?_
 refine gD (o:=4) mW rfl rfl rfl bj rfl λw6 bN bj du=>?_
 have hS:=hS.aF bN sm
 have Ed:=hS.mem.2 (.inr (.inl rfl))
 have hR:=hR.aD bN Ed nQ;have aG:=aG.aD bN (by simpa using Ed)
 have av:dK t8 (w1.heap.size::E) L1 w6 b true vu:=⟨_,_,_,_,_,_,_,_,bj,hS⟩
 refine aV<|zr<|zm<|aA (wO T om w6) ?_
 rintro _ w7 ⟨rfl,bW⟩
 have lp:=bW.size
 refine cJ bW av hR aG λav hR aG=>?_
 refine lk bg ba rfl rfl rfl rfl λw8 cg jP kX=>cJ cg av hR aG λav hR aG=>?_
 refine aA ((show bw Tryz.prog 135 [str [99],_] w8 (λr w'=>r=str CO∧aj [] w8 w') from by rw[Ae];exact y0 [99] [sT,bz T] (by rw[<-Ae];omega) _ [] w8 (aK.dO [sT,bz T] jP sm))) ?_
 rintro _ w9 ⟨rfl,aB⟩
 have nA:=aB.size
 refine gY aB av hR aG jP λav hR aG jP=>?_
 clear jP
 refine W ?_
 refine lk bg ba rfl rfl rfl rfl λcv cw Ci Bx=>cJ cw av hR aG λav hR aG=>?_
 refine aA ((show bw Tryz.prog 135 [str [116],_] cv (λr w'=>r=str P0∧aj [] cv w') from by rw[sN];exact y0 [116] [CO,sT] (by rw[<-sN];omega) _ [] cv (aK.dO [CO,sT] Ci sm))) ?_
 rintro _ ew ⟨rfl,cR⟩
 have yo:=cR.size
 refine gY cR av hR aG Ci λav hR aG Ci=>?_
 clear Ci
 refine zm<|zj bg ba rfl rfl rfl rfl rfl rfl λfI dw zT ajR=>?_
 have Ac:=av.open
 obtain⟨xb,xt,xc,xy,gb,gt,gc,gy,bj,hS⟩:=Ac
 have zo:=hS.apart
 obtain⟨zP,nQ,wP,mO,wQ,uV⟩:=zo
 have bj:aK fI b [xb,xt,.int .i64 (vu.count:Int),.bool vu.wide,xc,xy].toArray 164:=bj.ext dw
 have Ad:=hS.Nx (aK.sn [sT,CO,P0,ON] zT) dw.any (λx hx=>.inr (by cases hx;exact lR _))
 obtain⟨L2,hS,bF⟩:=Ad
 have hR:=hR.add bF dw sm
 have aG:=aG.go bF
 refine W ?_
 refine gD (o:=5) mW rfl rfl rfl bj rfl λjO gM bj du=>?_
 have hS:=hS.aF gM sm
 have Ed:=hS.mem.2 (.inr (.inl rfl))
 have hR:=hR.aD gM Ed nQ;have aG:=aG.aD gM (by simpa using Ed)
 have av:dK t8 (w1.heap.size::E) L2 jO b true {vu with types:=[sT,CO,P0,ON]}:=⟨_,_,_,_,_,_,_,_,bj,hS⟩
 rw[<-uh] at av
 have cX:=av.dj
 refine aV<|zr<|zm<|eR bg ba rfl rfl λja dG yk DK=>cJ dG av hR aG λav hR aG=>?_
 refine aA (k7 l6 [[48]] (mP de sm (by intro z hz;simp at hz;subst hz;decide)) m0 om (w1.heap.size::E) L2 b _ ja av (aK.dO [[48]] yk (λhx=>by have:=cX _ hx;omega))) ?_
 rintro jQ qA ⟨L1,av,bF⟩
 have hR:=hR.go bF
 clear yk
 have il:∃x,x=m0.cE l6 [[48]]:=⟨_,rfl⟩
 obtain⟨m1,lV⟩:=il
 rw[<-lV] at av
 have t1:m1.types.length=r+0:=(by rw[lV,oT];omega)
 have c1:m1.code.length=c+1:=(by rw[lV,pS];omega)
 have cX:=av.dj
 have aG:=aG.go bF.fr
 refine aV<|zr<|zm<|lk bg ba rfl rfl rfl rfl λlU nG Fg HU=>cJ nG av hR aG λav hR aG=>?_
 refine aA (k7 ti [[49],A3] (mP de sm (by intro z hz;simp at hz;rcases hz with rfl|rfl;(·decide);(·decide))) m1 om (w1.heap.size::E) L1 b _ lU av (aK.dO [[49],A3] Fg (λhx=>by have:=cX _ hx;omega))) ?_
 rintro jQ DL ⟨L2,av,bF⟩
 have hR:=hR.go bF
 clear Fg
 have fC:∃x,x=m1.cE ti [[49],A3]:=⟨_,rfl⟩
 obtain⟨m2,lW⟩:=fC
 rw[<-lW] at av
 have t2:m2.types.length=r+0:=(by rw[lW,oT];omega)
 have c2:m2.code.length=c+2:=(by rw[lW,pS];omega)
 have cX:=av.dj
 have aG:=aG.go bF.fr
 refine aV<|zr<|zm<|pJ bg ba rfl rfl rfl rfl rfl λyi DT wR O9=>cJ DT av hR aG λav hR aG=>?_
 refine aA (k7 l6 [[50],[49],[48]] (mP de sm (by intro z hz;simp at hz;rcases hz with rfl|rfl|rfl;(·decide);(·decide);(·decide))) m2 om (w1.heap.size::E) L2 b _ yi av (aK.dO [[50],[49],[48]] wR (λhx=>by have:=cX _ hx;omega))) ?_
 rintro jQ DU ⟨L3,av,bF⟩
 have hR:=hR.go bF
 clear wR
 have zX:∃x,x=m2.cE l6 [[50],[49],[48]]:=⟨_,rfl⟩
 obtain⟨m3,lX⟩:=zX
 rw[<-lX] at av
 have t3:m3.types.length=r+0:=(by rw[lX,oT];omega)
 have c3:m3.code.length=c+3:=(by rw[lX,pS];omega)
 have cX:=av.dj
 have aG:=aG.go bF.fr
 refine W ?_
 refine zj bg ba rfl rfl rfl rfl rfl rfl λwS yp Qh WQ=>cJ yp av hR aG λav hR aG=>?_
 refine aA (k7 tj [[51],[50],ON,sT] (mP de sm (by intro z hz;simp at hz;rcases hz with rfl|rfl|rfl|rfl;(·decide);(·decide);(·omega);(·decide))) m3 om (w1.heap.size::E) L3 b _ wS av (aK.dO [[51],[50],ON,sT] Qh (λhx=>by have:=cX _ hx;omega))) ?_
 rintro jQ rV ⟨L4,av,bF⟩
 have hR:=hR.go bF
 clear Qh
 have DS:∃x,x=m3.cE tj [[51],[50],ON,sT]:=⟨_,rfl⟩
 obtain⟨m4,o5⟩:=DS
 rw[<-o5] at av
 have t4:m4.types.length=r+0:=(by rw[o5,oT];omega)
 have c4:m4.code.length=c+4:=(by rw[o5,pS];omega)
 have cX:=av.dj
 have aG:=aG.go bF.fr
 have jz:=hR.iw Yi Yj
 refine W ?_
 refine jG (al2 _ _ _ _ _ _ _ _) rfl rfl<|cL (vs:=[str CU,.slice none 0 0,.int .i64 0,.slice none 0 0,.slice none 0 0,.slice none 0 0,.slice none 0 0,str e.au.aw,.slice ar e.au.ak.length cr,.int .i64 3,str ON,.int .i64 0]) mV rfl rfl rfl jz rfl λLf Iw jz du=>?_
 have hL6:=av.sub Yj
 have av:=av.aF Iw sm
 have wW:=av.drop
 obtain⟨L6,P4,av⟩:=wW
 have h6n:w1.heap.size∉E:=(λhx=>by have:=lY _ (h.sub hx);omega)
 have Yk:=((o4.go hR.al3).aD Iw hL6 h6n).sub (L2:=L6) (λz hz=>by rw[P4];simp[hz])
 have al9:=eU.go aO Yk.fr
 refine W ?_
 subst o5 lX lW lV
 exact⟨[_],gC Th mV rfl jz rfl,_,_,_,_,_,_,L6,by unfold HH;rw[<-LC];rfl,⟨.nil _ _ _,.nil _ _ _,.nil _ _ _,.nil _ _ _,.nil _ _ _,al9⟩,av,Yk⟩
theorem dL.ama {T:TypeId} {n c:Nat} {g:Option Nat} {row:List C} (h:dL L w T sz (.slice (some ⟨b,0,none⟩) n c) g rows) (hi:rows[i]?=some row):∃vs,vs.length=sz∧gH w b (0+i*sz) vs∧cZ L w vs row:=by
 obtain⟨xs,dm,iK⟩:=h.own
 have oN:row.length=sz:=h.row row (List.mem_of_getElem? hi)
 have fX:i<rows.length:=(List.getElem?_eq_some_iff.1 hi).1
 rcases dm.2 with⟨h0,_⟩|⟨b',cap,cur,e,hv,hb,my,l0,bV,ht⟩
 ·cases h0
 ·cases hv
  have hlen:xs.length=rows.length*sz:=dm.1
  have hmul:(i+1)*sz<=rows.length*sz:=Nat.mul_le_mul_right _ om
  have sW:(i+1)*sz=i*sz+sz:=by rw[Nat.add_mul,Nat.one_mul]
  have hl:((xs.drop (i*sz)).take sz).length=sz:=by rw[List.length_take,List.length_drop];omega
  have jt:∀j v,((xs.drop (i*sz)).take sz)[j]?=some v->j<sz∧xs[i*sz+j]?=some v:=λj v hv=>by
   rw[List.getElem?_take] at hv
   split at hv
   ·rename_i hj
    rw[List.getElem?_drop] at hv
    exact⟨hj,hv⟩
   ·cases hv
  refine⟨(xs.drop (i*sz)).take sz,hl,λj v hv=>?_,cZ.of (by rw[hl,oN]) λj v c hv hc=>?_⟩
  ·obtain⟨_,hx⟩:=jt j v hv
   rw[Nat.zero_add,hb.cell]
   rw[<-ht,List.getElem?_take] at hx
   split at hx
   ·simpa using hx
   ·cases hx
  ·obtain⟨_,hx⟩:=jt j v hv
   exact iK.get hx (Gf h.row hi hc)
theorem dK.start {gb gt:Nat} (hb:aK w b [.slice (some ⟨gb,0,none⟩) 0 0,.slice (some ⟨gt,0,none⟩) 0 0,.int .i64 0,.bool false,.slice none 0 0,.slice none 0 0].toArray 164) (h1:aK w gb #[] 58) (h2:aK w gt #[] 166) (h3:gb<gt) (h4:gt<b):dK t8 [] [b,gb,gt] w b true vu:=by
 refine⟨_,_,_,_,some gb,some gt,none,none,hb,⟨NX h1,NX h2,.inl ⟨rfl,⟨by simp[vu],.inl ⟨rfl,rfl,rfl⟩⟩⟩,⟨by simp[vu],.inl ⟨rfl,rfl,rfl⟩⟩,rfl,?_,λx hx=>?_⟩⟩
 ·simp;omega
 ·have:=hb.lt
  simp at hx;rcases hx with rfl|rfl|rfl<;>omega
theorem amb {ts:List Tk} (hi:i<ts.length):(ts.map Tk.enc)[i]?=some (ia ts i).enc:=by
 rw[List.getElem?_map,gE hi];simp[ia,gE hi]
theorem amc (bh:e.ok) (ht:bA e []=some T) (hn:e.n<=120):(sy e T).blocks=[]∧(sy e T).code.length<10000:=by
 obtain⟨new,h⟩:=Vu bh ht hn
 have h4:=h.ext.code
 have h6:(tK T).code.length=4:=rfl
 exact⟨h.ext.blocks,om⟩
theorem amd (h:sA m i) (hi:i<m.bJ.length):(mE (ia m.bJ i).expr.n ⟨qW m (ia m.bJ i),(ia m.bJ i).sc,(ia m.bJ i).on,(ia m.bJ i).aW⟩ (ia m.bJ i).expr).blocks.length<100000∧(qW m (ia m.bJ i)).code.length<=1100∧(qW m (ia m.bJ i)).bJ.length<80000∧(ia m.bJ i).expr.n<=120∧i<999∧oS (ia m.bJ i)∧ot (qW m (ia m.bJ i)) (ia m.bJ i).sc (ia m.bJ i).on (ia m.bJ i).aW (ia m.bJ i).expr∧(ia m.bJ i).regs.length<10000:=by
 obtain⟨hT,hc,hl⟩:=h.task hi
 have hb:=Of (m:=m) hT
 have hA:=Vr hT hc
 obtain⟨new,hF⟩:=Kl _ hA (lR _)
 have e4:=hF.ext.blocks
 have h1:=hb.code
 have h2:=hT.room
 have h3:=hT.bud
 have h5:=h.bnum
 have h6:(if(ia m.bJ i).self=[] then 0 else 3)<=3:=by split<;>omega
 refine⟨by rw[e4,hb.blocks];omega,om,by rw[hb.bJ];omega,om,om,hT,hA,om⟩
theorem ame (e:Ex) (T:Ty) (bh:e.ok) (ht:bA e []=some T) (hn:e.n<=120) (v:Value) (w:World) (hv:bC [] w v e.au):
  bw Tryz.prog 129 [v,str T.text] w λr w'=>(∃vb g,r= .tuple #[vb,.bool (!(ofM e T).wide)]∧Gr w.heap.size [] w' 58 3 vb g ((ofM e T).blocks.map Bk.enc))∧aj [] w w':=by
 obtain⟨ar,nr,cr,rfl,qB,aO⟩:=cY hv
 subst qB
 have IP:=l5 (Γ:=[]) (λs T h=>by simp[look] at h) ht
 have gz:bC [] w _ e.au:=hv
 have hK:=aj.refl [] w
 obtain⟨Yl,as0⟩:=amc bh ht hn
 refine bU [.tmp 4,.tmp 5] 67 Tryz.func129 rfl acs rfl rfl ?_
 refine zr<|eK rfl λw1 aI aR dh=>?_
 have hK:=hK.ext aI
 refine W ?_
 refine gA iD fm λw2 az qT dD=>bI az hK aR λhK aR=>?_
 refine gA AR mV λw3 aH iZ gL=>cJ aH hK aR qT λhK aR qT=>?_
 refine jG (aeH _ _ _ _ _ _ _) rfl rfl<|eK rfl λw4 aP mG gQ=>gY aP hK aR qT iZ λhK aR qT iZ=>?_
 refine W ?_
 refine aA (al5 e T IP [] [w3.heap.size,w1.heap.size,w2.heap.size] w3.heap.size _ w4 (dK.start mG qT iZ om om) ((gz.fresh (L':=[w3.heap.size,w1.heap.size,w2.heap.size]) (λx hx=>by right;simp at hx;rcases hx with rfl|rfl|rfl<;>omega)).ext hK)) ?_
 rintro jQ w5 ⟨v1,v3,v4,v5,v6,v8,L1,sH,ie,av,bF⟩
 subst sH
 have hF:=bF.fr
 have yl:=hK
 have vj:=av.dj
 clear qT iZ mG
 refine dz mV rfl rfl rfl λw6 bN cS oe=>?_
 have di:=bN
 refine cL mV rfl rfl ie.one cS rfl λw7 bW cS du=>?_
 have di:=di.since bW (λx hx=>.inr (by simp at hx;omega))
 have av:=av.tT di sm (lR _) cS.lt
 have yq:=((dX.refl [] L1 w5).more di sm (lR _) sm).fr
 have fV:gX (w5.heap.size::L1) w7 166 w5.heap.size (HH e T):=⟨_,_,_,_,_,_,cS,ie.go yq⟩
 have hF:=hF.go yq
 refine aV<|zr<|zm<|aA (X6 (HH e T) (tK T) (Vt bh ht hn) hn (show(tK T).code.length<=1100 from by show 4<=1100;omega) (show(0:Nat)<80000 from om) [w5.heap.size] (w5.heap.size::L1) w3.heap.size w5.heap.size w7 av fV sm) ?_
 rintro K6 w8 ⟨L2,av,_,kz⟩
 have hF:=hF.go kz
 have av:dK t8 [w5.heap.size] L2 w8 w3.heap.size true (sy e T):=av
 have D3:=av.dj
 refine aV<|zr<|zm<|gA bg ba λw9 aB wq du=>bI aB av hF λav hF=>?_
 refine aA (Pt CU [] sm (sy e T) (by rw[Yl];simp) [w5.heap.size] L2 w3.heap.size _ w9 av (wq.ll.rep (λx hx lB=>by have:=D3 x lB;simp at hx;omega))) ?_
 rintro Ln cv ⟨L3,av,bF⟩
 have hF:=hF.go bF.fr
 clear wq
 refine aV<|zr<|zm<|eR bg ba rfl rfl λew cR DM aj1=>?_
 have Ac:=av.open
 obtain⟨xb,xt,xc,xy,gb,gt,gc,gy,bj,hS⟩:=Ac
 have zo:=hS.apart
 obtain⟨zP,nQ,wP,mO,wQ,uV⟩:=zo
 have bj:=bj.ext cR
 have Ad:=hS.JW (aK.sn [[40,104,97,108,116,32,49,41]] DM) cR.any (λx hx=>.inr (by cases hx;exact lR _))
 obtain⟨L4,hS,bF⟩:=Ad
 have hF:=hF.go bF
 refine W ?_
 refine gD (o:=4) mW rfl rfl rfl bj rfl λfI dw bj du=>?_
 have hS:=hS.aF dw sm
 have hF:=hF.aD dw (by simpa using hS.mem.2 (.inr (.inl rfl)))
 have av:dK t8 [w5.heap.size] L4 fI w3.heap.size true {(Dh (sy e T) CU []) with code:=[[40,104,97,108,116,32,49,41]]}:=⟨_,_,_,_,_,_,_,_,bj,hS⟩
 refine W ?_
 refine aA (wO T om fI) ?_
 rintro _ jO ⟨rfl,gM⟩
 have Ii:=gM.size
 refine bI gM av hF λav hF=>?_
 have amf:=av.dj
 refine lk bg ba rfl rfl rfl rfl λja dG yk DK=>bI dG av hF λav hF=>?_
 refine aA (Pt A3 [sT,bz T] sm {(Dh (sy e T) CU []) with code:=[[40,104,97,108,116,32,49,41]]} (show((sy e T).blocks++[_]).length<100000 from by rw[Yl];simp) [w5.heap.size] L4 w3.heap.size _ ja av (aK.dO [sT,bz T] yk (λhx=>by have:=amf _ hx;omega))) ?_
 rintro v31 qA ⟨L5,av,bF⟩
 have hF:=hF.go bF.fr
 have av:dK t8 [w5.heap.size] L5 qA w3.heap.size false (Di e T):=av
 clear yk
 refine W ?_
 refine dR (λi:Nat=>[(6,.pointer (some ⟨w3.heap.size,0,none⟩)),(8,.int .i64 (i:Int))]) (λi ww=>∃m9 L9,dK t8 [w5.heap.size] L9 ww w3.heap.size false m9∧sA m9 i∧ofM e T=zu (1000-i) m9 i∧Fr [w3.heap.size,w1.heap.size,w2.heap.size] w4 L9 ww∧i<=1000) (λi=>1000-i) (0) (⟨rfl,rfl⟩) (⟨Di e T,L5,av,Oh bh ht hn,rfl,hF,om⟩) λgg lU B8 hI=>?_
 obtain⟨m9,L9,av,Ym,IE,hF,hi⟩:=hI
 have Ac:=av.open
 obtain⟨xb,xt,xc,xy,gb,gt,gc,gy,bj,hS⟩:=Ac
 have fL:=hS.ta.len
 obtain⟨at9,ct9,et9⟩:=fL
 subst et9
 have bj:aK lU w3.heap.size [xb,.slice at9 (m9.bJ.map Tk.enc).length ct9,.int .i64 (m9.count:Int),.bool m9.wide,xc,xy].toArray 164:=bj
 have sj:(m9.bJ.map Tk.enc).length=m9.bJ.length:=List.length_map ..
 refine W ?_
 refine zc rfl (λh1=>?_) (λh1=>?_)
 have mq:gg<m9.bJ.length:=om
 have pH:=amd Ym mq
 obtain⟨dk,dx,fh,fH,iR,Yn,FC,iJ⟩:=pH
 have Fz:=hS.ta.form om
 obtain⟨bq,cq,eq9,eg9⟩:=Fz
 cases eq9
 have EU:=hS.ta.ama (amb mq)
 obtain⟨vs9,amj,amk,aml⟩:=EU
 have Qi:=afK aml
 obtain⟨y1,y3,y4,y5,y6,y8,evs,ie⟩:=Qi
 subst evs
 have ql:∃z,z=ia m9.bJ gg:=⟨_,rfl⟩
 obtain⟨tz,Qj⟩:=ql
 rw[<-Qj] at dk dx fh fH Yn FC iJ ie amk amj
 have mr:=av
 have Iz:=hF
 have O5:=av.dj
 have hw9:=aj.refl [] lU
 refine W ?_
 refine dz mV rfl rfl rfl λDL zQ cT as4=>?_
 have di:=zQ
 refine cL mV rfl rfl ie.one cT rfl λyi DT cT du=>?_
 have di:=di.since DT (λx hx=>.inr (by simp at hx;omega))
 have av:=mr.tT di sm (lR _) cT.lt
 have yq:=((dX.refl [] L9 lU).more di sm (lR _) sm).fr
 have fV:gX (lU.heap.size::L9) yi 166 lU.heap.size tz:=⟨_,_,_,_,_,_,cT,ie.go yq⟩
 have hF:=Iz.go yq
 refine aV<|zr<|zm<|aA (alK tz m9 Yn false [lU.heap.size,w5.heap.size] (lU.heap.size::L9) w3.heap.size lU.heap.size yi av fV sm) ?_
 rintro v49 DU ⟨L6,av,bF⟩
 have fV:=bF.tk fV sm
 have hF:=hF.go bF.fr
 refine aV<|zr<|zm<|aA (X6 tz (qW m9 tz) FC fH dx fh [lU.heap.size,w5.heap.size] L6 w3.heap.size lU.heap.size DU av fV sm) ?_
 rintro v51 wS ⟨L7,av,⟨t',fV,eE,hr9⟩,kz⟩
 have hF:=hF.go kz
 have kh:=fV
 obtain⟨u1,u3,u4,u5,u6,u8,dd,D4⟩:=kh
 have Eg:=D4.regs
 have bV:=dH D4.regs
 obtain⟨a1,n1,c1,e1,fu⟩:=bV
 subst e1
 have Eg:=D4.regs
 rw[hr9] at Eg
 have dd:aK wS lU.heap.size [str t'.aJ,.slice a1 n1 c1,.int .i64 (t'.loads:Int),u3,u4,u5,u6,str t'.expr.au.aw,u8,.int .i64 (t'.on:Int),str t'.aW,.int .i64 (t'.next:Int)].toArray 166:=dd
 rw[eE] at dd
 refine W ?_
 refine aA (Pt tz.aJ tz.regs iJ (mE tz.expr.n ⟨qW m9 tz,tz.sc,tz.on,tz.aW⟩ tz.expr) dk [lU.heap.size,w5.heap.size] L7 w3.heap.size _ wS av Eg) ?_
 rintro v57 rV ⟨L8,av,bF⟩
 have hF:=hF.go bF.fr
 have wW:=av.drop
 obtain⟨Lx,eLx,av⟩:=wW
 have hF:=hF.go ((Fr.refl L8 rV).to (L2:=Lx) (λz hz=>.inl (by rw[eLx];simp[hz])))
 have av:dK t8 [w5.heap.size] Lx rV w3.heap.size false (E6 m9 tz):=av
 have aS:=Ym.step mq
 rw[<-Qj] at aS
 have Yo:=Vx mq (999-gg)
 rw[<-Qj,show 999-gg+1=1000-gg from by omega,show 999-gg=1000-(gg+1) from by omega] at Yo
 refine W ?_
 exact⟨gg+1,⟨rfl,rfl⟩,⟨E6 m9 tz,Lx,av,aS,IE.trans Yo,hF,om⟩,om⟩
 have mq:¬gg<m9.bJ.length:=om
 rw[Vw mq] at IE
 have dh:=yl.size
 have dD:=hF.aF.size
 have Qk:Gr w.heap.size [] lU 58 3 xb gb (m9.blocks.map Bk.enc):=hS.bl.gr (λx hx=>hS.mem.2 (by simp at hx;simp[hx])) (λb hb=>by have h9:=hF.mem b (hS.mem.2 (by simp[hb]));rcases h9 with h9|h9;(·simp at h9;rcases h9 with rfl|rfl|rfl<;>omega);(·omega)) om
 refine WZ ?_
 apply dV dv 11 [58,59,60,61,62,63,64,65,66,4,5] [[],[0],[1],[2],[],[4],[5],[6],[7],[3],[8]] (it [_,_,_,_,_,_,_,_,_,_,_]) de rfl
 intro wd aC
 exact VZ
 intro x Ce D1
 refine bI D1 hF Qk λhF Qk=>?_
 change OW _ _ _ _ [] (bo (bm _ x _) (zZ 58 [_,_,_,_,_,_,_,_,_]++[(4,_),(5,_)])) _
 refine W ?_
 rw[IE]
 exact⟨_,rfl,⟨xb,gb,rfl,Qk⟩,yl.since hF.aF (λx hx=>.inr (by simp at hx;rcases hx with rfl|rfl|rfl<;>omega))⟩
theorem Ql:∀(k:Nat) {m:Mk} {i:Nat},sA m i->∃j,sA (zu k m i) j
 |0,_,i,h=>⟨i,h⟩
 |k+1,m,i,h=>by
  by_cases hi:i<m.bJ.length
  ·rw[Vx hi];exact Ql k (h.step hi)
  ·rw[Vw hi];exact⟨i,h⟩
theorem amn (bh:e.ok) (ht:bA e []=some T) (hn:e.n<=120):ur (ofM e T).blocks:=by
 obtain⟨j,hj⟩:=Ql 1000 (Oh bh ht hn)
 exact hj.small
def Eh (s:ai) (f:Ex) (T:Ty):Prop:=∃e:Ex,bB s=some e.au∧e.ok∧e.n<=120∧nZ e=some f∧mF f.au.text=true∧bA e []=some T
def F4 (s:ai) (ok:Bool) (bs:List Bk):Prop:=(ok=true->∃f T,Eh s f T∧(ofM f T).wide=false∧eN (ofM f T).blocks=true∧bs=(ofM f T).blocks)∧(ok=false->bs=[]∧∀f T,Eh s f T->¬((ofM f T).wide=false∧eN (ofM f T).blocks=true))
theorem Yp (bh:f.ok) (hx:mF f.au.text=true):bB f.au.text=some f.au∧f.n<=120:=by
 obtain⟨e2,h1,h2,h3⟩:=xQ.1 hx
 have h4:=(uw h1).2.2.1
 have h5:=MR (Ex.wf h2) (Ex.wf bh) h4
 have h6:=rb h2 bh h5
 subst h6
 exact⟨h1,h3⟩
theorem amo {s:ai} (h:Eh s f T):f.ok∧bA f []=some T∧f.n<=120∧bB f.au.text=some f.au:=by
 obtain⟨e,h1,h2,h3,h4,h5,h6⟩:=h
 have h7:=Nu h2 h4
 obtain⟨h8,h9⟩:=Yp h7 h5
 exact⟨h7,T2 h2 h6 h4,h9,h8⟩
theorem LD {s:ai} {f':Ex} {T':Ty} (h:Eh s f T) (h':Eh s f' T'):f=f'∧T=T':=by
 obtain⟨e,h1,h2,h3,h4,h5,h6⟩:=h
 obtain⟨e',k1,k2,k3,k4,k5,k6⟩:=h'
 have he:=rb h2 k2 (Option.some.inj (h1.symm.trans k1))
 subst he
 rw[h4] at k4
 rw[h6] at k6
 exact⟨Option.some.inj k4,Option.some.inj k6⟩
theorem amp:Eh Ll rp .i:=⟨rp,Xq,PI,by decide,aj8,by
 rw[Xp];exact xQ.2 ⟨rp,Xq,PI,by decide⟩,type12⟩
theorem amq {ok:Bool} (h:F4 Ll ok bs):ok=true:=by
 cases ok with
 |true=>rfl
 |false=>exact absurd ⟨aj9,aka⟩ ((h.2 rfl).2 _ _ amp)
theorem F4.aJ {s:ai} {ok:Bool} (h:F4 s ok bs):∀b,b∈bs->b.aJ.length<=10:=by
 cases ok with
 |true=>
  obtain⟨f,T,h1,_,_,rfl⟩:=h.1 rfl
  obtain⟨h2,h3,h4,_⟩:=amo h1
  obtain⟨j,hj⟩:=Ql 1000 (Oh h2 h3 h4)
  exact hj.labels
 |false=>rw[(h.2 rfl).1];intro b hb;cases hb
theorem F4.prog {s:ai} (h:F4 s true bs):eN bs=true:=by
 obtain⟨f,T,_,_,h3,rfl⟩:=h.1 rfl
 exact h3
theorem Yq (s:ai) (w:World):bw Tryz.prog 93 [str s] w λr w'=>(∃v ok bs,r= .tuple #[v,.bool ok]∧lH [] w' v bs∧F4 s ok bs∧(ok=true->∃g,Gr w.heap.size [] w' 58 3 v g (bs.map Bk.enc)))∧aj [] w w':=by
 have hK:=aj.refl [] w
 refine bU [.tmp 2,.tmp 3] 44 Tryz.func93 rfl aey rfl rfl ?_
 refine W ?_
 refine aA (aiI s w) ?_
 rintro v1 w1 ⟨fN,aI⟩
 have dk:=aI.size
 have hK:=hK.ext aI
 have eZ:=fN
 obtain⟨x0,Yr,e0,As,F5⟩:=eZ
 subst e0
 refine W ?_
 refine yG (t:=17) rfl (λh1=>?_) (λh1=>?_)
 replace h1:=jW h1
 have fS:Yr=false:=by simpa using h1
 refine W ?_
 refine zc rfl (λh2=>?_) (λh2=>?_)
 refine zr<|gA iD fm λw2 az sG dD=>?_
 have hK:=hK.ext az
 refine W ?_
 exact⟨_,rfl,⟨_,false,[],rfl,bP.nil _ _ _,⟨λh=>by(cases h),λ_=>⟨rfl,λf T ⟨e,h1,h2,h3,h4,h5,h6⟩=>by rw[As.2 ⟨e,f,h1,h2,h3,h4,h5⟩] at fS;cases fS⟩⟩,λh=>by(cases h)⟩,hK⟩
 simp at h2
 replace h1:=jW h1
 have fS:Yr=true:=(by simpa using h1)
 have hex:=As.1 fS
 obtain⟨e,f,rR,bh,hn,hf,fC⟩:=hex
 have hxe:=F5 e f rR bh hf fS
 subst hxe
 have BZ:=Nu bh hf
 have OD:=Yp BZ fC
 obtain⟨tF,Pg⟩:=OD
 have ld:DI s (eI (bA e [])):=⟨λh=>(by rw[xQ.2 ⟨e,rR,bh,hn⟩] at h;cases h),λe' h1 h2 h3=>by rw[rb h2 bh (Option.some.inj (h1.symm.trans rR))]⟩
 refine zm<|aA (ajp s w1) ?_
 rintro v2 w2 ⟨gz,az⟩
 have dx:=az.size
 have hK:=hK.ext az
 have eZ:=gz
 obtain⟨b9,e9,cT⟩:=eZ
 subst e9
 have cT:=cT _ ld
 refine W ?_
 refine zc rfl (λh3=>?_) (λh3=>?_)
 have eY:bA e []=none:=WX (by have jB:b9=false:=(by simpa using h3);rw[jB] at cT;simpa using cT.symm)
 refine zr<|gA iD fm λw3 aH sG gL=>?_
 have hK:=hK.ext aH
 refine W ?_
 exact⟨_,rfl,⟨_,false,[],rfl,bP.nil _ _ _,⟨λh=>by(cases h),λ_=>⟨rfl,λf' T ⟨e',h1,h2,h3,h4,h5,h6⟩=>by rw[rb h2 bh (Option.some.inj (h1.symm.trans rR)),eY] at h6;cases h6⟩⟩,λh=>by(cases h)⟩,hK⟩
 have eY:=WY (o:=bA e []) (by have jB:b9=true:=(by simpa using h3);rw[jB] at cT;simpa using cT.symm)
 obtain⟨T,eY⟩:=eY
 rw[eY] at ld
 have ld:DI s T.text:=ld
 have Ph:=T2 bh eY hf
 have lr:Eh s f T:=⟨e,rR,bh,hn,hf,fC,eY⟩
 refine gT<|zr<|zm<|aA (HL f.au.text [] w2 sm) ?_
 rintro v3 w3 ⟨jo,aH⟩
 have fh:=aH.size
 have hK:=hK.ext aH
 have eZ:=jo
 obtain⟨t,tv,e9,ql,hp⟩:=eZ
 subst e9
 have e2:=hp.1 _ tF
 subst e2
 have bV:=cY ql
 obtain⟨pa,pn,pc,e9,eO,aO⟩:=bV
 subst e9
 subst eO
 have nB:=hK.size
 refine W ?_
 refine dz aM rfl rfl rfl λw4 aP bO lj=>?_
 have hK:=hK.ext aP
 have di:=aP
 refine cL (vs:=[str f.au.aw,.slice pa f.au.ak.length pc]) aM rfl rfl rfl bO rfl λw5 aN bO du=>?_
 have hK:=hK.since aN (λx hx=>.inr (by simp at hx;omega))
 have di:=di.since aN (λx hx=>.inr (by simp at hx;omega))
 have ql:=ql.ext di
 refine W ?_
 apply vT dv 9 (rA 29 4++[28,33,34,8,9]) (rA 29 4++[28,33,34,8,9]) [[],[],[1],[0,2],[3],[4],[4],[5],[6]] [It.v _,It.v _,It.v _,It.p (fun(v:Value) (ww:World)=>∃vb g,v= .tuple #[vb,.bool (!(ofM f T).wide)]∧Gr w.heap.size [] ww 58 3 vb g ((ofM f T).blocks.map Bk.enc)),It.p (fun(v:Value) (ww:World)=>∃vb g,v= .tuple #[vb,.bool (!(ofM f T).wide)]∧Gr w.heap.size [] ww 58 3 vb g ((ofM f T).blocks.map Bk.enc)),It.p (fun(v:Value) (ww:World)=>∃g,Gr w.heap.size [] ww 58 3 v g ((ofM f T).blocks.map Bk.enc)),It.v _,It.p (fun(v:Value) (ww:World)=>∃g,Gr w.heap.size [] ww 58 3 v g ((ofM f T).blocks.map Bk.enc)),It.v _] de (by exact⟨λv w w' ⟨vb,g,h1,h2⟩ k=>⟨vb,g,h1,h2.ext k⟩,λv w w' ⟨vb,g,h1,h2⟩ k=>⟨vb,g,h1,h2.ext k⟩,λv w w' ⟨g,h⟩ k=>⟨g,h.ext k⟩,λv w w' ⟨g,h⟩ k=>⟨g,h.ext k⟩,trivial⟩)
 intro wd aC
 refine VA ?_
 refine vk aC (λx w6 bN=>?_) ?_
 refine aA (W4 s w6) ?_
 rintro v7 w7 ⟨wy,bW⟩
 have lp:=bW.size
 have eZ:=wy
 obtain⟨x9,e9,jE⟩:=eZ
 have jE:=W3 jE ld
 subst jE
 subst e9
 exact pk bW
 refine vk aC (λx w6 bN=>?_) ?_
 refine bI bN hK ql λhK ql=>?_
 have yV:=hK.size
 refine aA (ame f T BZ Ph Pg _ w6 ql) ?_
 rintro v7 w7 ⟨wy,bW⟩
 have lp:=bW.size
 have eZ:=wy
 obtain⟨Lw,g9,e9,FU⟩:=eZ
 have FU:=FU.down (B':=w.heap.size) om
 exact pf bW (⟨Lw,g9,e9,FU⟩)
 refine vc (λx w6 bN=>?_) ?_
 intro v3 d3
 refine WZ ?_
 exact pf (aj.refl _ _) d3
 refine vc (λx w6 bN=>?_) ?_
 intro v4 d4
 obtain⟨Lw,g9,e9,P3⟩:=d4
 subst e9
 refine WZ ?_
 exact pf (aj.refl _ _) (⟨g9,P3⟩)
 refine vc (λx w6 bN=>?_) ?_
 intro v4 d4
 obtain⟨Lw,g9,e9,P3⟩:=d4
 subst e9
 refine WZ ?_
 exact pv
 refine vc (λx w6 bN=>?_) ?_
 intro v5 d5
 refine WZ ?_
 exact pf (aj.refl _ _) d5
 exact VZ
 intro x qX sB
 intro v3 d3
 intro v4 d4
 intro v5 d5
 intro v7 d7
 have hK:=hK.ext sB
 change OW _ _ _ _ [] (bo (bm _ x _) (zZ 29 [_,_,_,_]++[(28,_),(33,_),(34,_),(8,_),(9,_)])) _
 obtain⟨g5,IQ⟩:=d7
 refine W ?_
 refine yG (t:=37) rfl (λh4=>?_) (λh4=>?_)
 replace h4:=jW h4
 have Qm:(ofM f T).wide=true:=by simpa using h4
 refine W ?_
 refine zc rfl (λh5=>?_) (λh5=>?_)
 refine zr<|gA iD fm λsJ qC ams as5=>?_
 have hK:=hK.ext qC
 refine W ?_
 exact⟨_,rfl,⟨_,false,[],rfl,bP.nil _ _ _,⟨λh=>by(cases h),λ_=>⟨rfl,λf' T' hc hw=>by rw[(LD hc lr).1,(LD hc lr).2,Qm] at hw;cases hw.1⟩⟩,λh=>by(cases h)⟩,hK⟩
 simp at h5
 replace h4:=jW h4
 have Qm:(ofM f T).wide=false:=(by simpa using h4)
 refine zm<|aA (UF (ofM f T).blocks (amn BZ Ph Pg) _ [] qX IQ.um) ?_
 rintro _ sJ ⟨rfl,qC⟩
 have LF:=qC.size
 refine bI qC hK IQ λhK IQ=>?_
 refine W ?_
 refine zc rfl (λh6=>?_) (λh6=>?_)
 have Qn:eN (ofM f T).blocks=false:=(by simpa using h6)
 refine zr<|gA iD fm λxV mH ams as6=>?_
 have hK:=hK.ext mH
 refine W ?_
 exact⟨_,rfl,⟨_,false,[],rfl,bP.nil _ _ _,⟨λh=>by(cases h),λ_=>⟨rfl,λf' T' hc hw=>by rw[(LD hc lr).1,(LD hc lr).2,Qn] at hw;cases hw.2⟩⟩,λh=>by(cases h)⟩,hK⟩
 have Qn:eN (ofM f T).blocks=true:=(by simpa using h6)
 refine W ?_
 exact⟨_,rfl,⟨_,true,_,rfl,IQ.um,⟨λ_=>⟨f,T,lr,Qm,Qn,rfl⟩,λh=>by(cases h)⟩,λ_=>⟨g5,IQ⟩⟩,hK⟩
theorem amt {a:Nat} (ha:a<4611686018427387904) (hb:b<4611686018427387904):IntKind.i64.wrap ((a%2^IntKind.i64.bits^^^b%2^IntKind.i64.bits:Nat):Int)=((a^^^b:Nat):Int):=by
 have hx:a^^^b<2^62:=Nat.xor_lt_two_pow om om
 have h1:a%2^IntKind.i64.bits=a:=Nat.mod_eq_of_lt (show a<2^64 by omega)
 have h2:b%2^IntKind.i64.bits=b:=Nat.mod_eq_of_lt (show b<2^64 by omega)
 rw[h1,h2]
 exact wrap_i64 _ om om
section
variable {P:Program} {n:Nat} {ops:Array Oper} {K:Env->World->Prop} {rest:List Oper} {e:Env} {w:World} {dst:Option Nat} {ty T T':TypeId} {pos:String} {after:Array Edge} {g:Option (Nat×Bool)} {x y:Operand}
theorem amu {a:Nat} (hg:gate ops e g=true) (hd:cj n dst=true) (hx:ev e x= .int .i64 (a:Int)) (hy:ev e y= .int .i64 (b:Int)) (ha:a<4611686018427387904) (hb:b<4611686018427387904) 
  (c':OW P n ops K rest (bQ e dst (.int .i64 ((a^^^b:Nat):Int))) w):OW P n ops K (⟨dst,.binOp .xor T x y T',ty,pos,after,g⟩::rest) e w:=
 eJ hg hd (by simp[execOp,eqGuard,hx,hy,binOp,Op.intBits,amt ha hb]) c'
end
theorem Qo {off len cap size h:Nat} (hr:bP L w (.slice (some ⟨b,off,none⟩) len cap) (.sl size rows)) (hh:h<=len):bP L w (.slice (some ⟨b,off,none⟩) h cap) (.sl size (rows.take h)):=by
 cases hr with
 |nil=>rw[List.take_nil,show h=0 from by omega];exact .nil _ _ _
 |sl _ _ _ _ _ _ f hl hc hb hL hs kD iK=>
  exact .sl b off h cap size (rows.take h) f (by rw[List.length_take];omega) om hb hL (λrow hr=>hs row (List.mem_of_mem_take hr)) (λk j hk hj=>kD k j om hj) (λk j row c hk hj=>iK k j row c (by
   rw[List.getElem?_take] at hk
   split at hk
   ·exact hk
   ·cases hk) hj)
section
variable {P:Program} {n:Nat} {ops:Array Oper} {K:Env->World->Prop} {rest:List Oper} {e:Env} {w:World} {dst:Option Nat} {ty T:TypeId} {pos:String} {after:Array Edge} {g:Option (Nat×Bool)} {x:Operand}
theorem Ys {L:List Nat} {E:TypeId} {bytes:Nat} {z:Value} {hi:Operand} {b off len cap h:Nat} {k:IntKind} (hT:P.underlying T=some (.slice E)) (hE:TI P E sz bytes z) (hg:gate ops e g=true) (hd:cj n dst=true) 
  (hx:ev e x= .slice (some ⟨b,off,none⟩) len cap) (yE:ev e hi= .int k (h:Int)) (hl:h<=len) {rows:List (List C)} (hr:bP L w (.slice (some ⟨b,off,none⟩) len cap) (.sl sz rows))
  (c:OW P n ops K rest (bQ e dst (.slice (some ⟨b,off,none⟩) h cap)) w):OW P n ops K (⟨dst,.slice T x none (some hi) none,ty,pos,after,g⟩::rest) e w:=by
 have xg:len<=cap:=by cases hr with|nil=>exact Nat.zero_le _|sl _ _ _ _ _ _ _ hl hc=>exact hc
 have h2:h<=cap:=Nat.le_trans hl xg
 refine eJ hg hd (v:=.slice (some ⟨b,off,none⟩) h cap) (w':=w) ?_ c
 simp[execOp,Instr.sliceAt,Instr.slice,hx,yE,run_underlying hT,Instr.sliceBounds,Instr.sliceBound,asIntOf,h2,hE.qG,p4]
end
def r5 (bs:List UInt8):List (List C):=bs.map λc=>[.val (.int .u8 (c.toNat:Int))]
theorem F6 (bs:List UInt8):(r5 bs).length=bs.length:=by simp[r5]
theorem LG {a:Option Addr} {n c:Nat} {bs:List UInt8} (h:bP L w (.slice a n c) (.sl 1 (r5 bs))) (hi:i<bs.length):∃b off x,a=some ⟨b,off,none⟩∧fF L w b (off+i*1) [.int .u8 ((x:UInt8).toNat:Int)]:=by
 obtain⟨b,off,vs,ha,hb,hL,hl,hc,hr⟩:=An h (i:=i) (row:=[.val (.int .u8 ((bs[i]).toNat:Int))]) (by simp[r5,gE hi])
 obtain⟨u,hu⟩:∃u,vs=[u]:=by
  match vs,hl with
  |[u],_=>exact⟨u,rfl⟩
 subst hu
 obtain⟨h1,_⟩:=hr
 cases h1
 exact⟨b,off,bs[i],ha,hc,hb,hL⟩
def dB (w:World) (br q:Nat):Prop:=∃a n c p bs,aK w br [.slice a n c,.int .i64 ((p:Nat):Int)].toArray 102∧p<=q∧(∀L:List Nat,(∀x,x∈L->br<=x)->bP L w (.slice a n c) (.sl 1 (r5 bs)))∧n<=1000000000
theorem dB.ext {br:Nat} (h:dB w br q) (k:aj [] w w'):dB w' br q:=let⟨a,n,c,p,bs,h1,h2,h3,h4⟩:=h;⟨a,n,c,p,bs,h1.ext k,h2,λL hL=>bP.ext (h3 L hL) k,h4⟩
theorem dB.more {br q':Nat} (h:dB w br q) (hq:q<=q'):dB w br q':=let⟨a,n,c,p,bs,h1,h2,h3,h4⟩:=h;⟨a,n,c,p,bs,h1,Nat.le_trans h2 hq,h3,h4⟩
theorem dB.lt {br:Nat} (h:dB w br q):br<w.heap.size:=let⟨_,_,_,_,_,h1,_⟩:=h;h1.lt
theorem Yt {br:Nat} {v:Value} (h:∀L:List Nat,(∀x,x∈L->br<=x)->bP L w v (.sl 1 rows)) (k:aj G w w') (hG:∀x,x∈G->br<=x):∀L:List Nat,(∀x,x∈L->br<=x)->bP L w' v (.sl 1 rows):=λL hL=>
 (bP.aF (h (G++L) λx hx=>(mA.1 hx).elim (hG x) (hL x)) (k.mono λx hx=>List.mem_append_left _ hx)).fresh λx hx=>.inl (mR _ hx)
theorem dB.aF {br:Nat} (h:dB w br q) (k:aj G w w') (hG:∀x,x∈G->br<x):dB w' br q:=let⟨a,n,c,p,bs,h1,h2,h3,h4⟩:=h;⟨a,n,c,p,bs,h1.aF k (λhx=>Nat.lt_irrefl _ (hG br hx)),h2,Yt h3 k (λx hx=>Nat.le_of_lt (hG x hx)),h4⟩
section
open Go Go.ChangeShapes Go.WideShapes
theorem amv {zs:List Int} (h:∀n,n∈zs->(Lit.int .u8 n).wf=true) (hi:i<zs.length):Value.int .u8 (zs.getD i 0)= .int .u8 (((UInt8.ofNat (zs.getD i 0).toNat).toNat:Nat):Int):=by
 have:=range_u8 h i
 rw[<-gG] at this
 congr 1
 simp only[UInt8.toNat_ofNat']
 omega
section
variable {H:Type} {enc:TypeId×Value->H} {P:Program} {w:World} {held:Bool}
theorem as7 {t e:TypeId} {fuel:Nat} {cs:List Value} {x:DataW H×List MemPlace} (ht:P.underlying t=some (.slice e)) (he:P.underlying e=some (.int .u8)) (hc:P.cellsOf e=1) 
  (h:DataW.trod enc P w 0 (λ_=>true) held fuel t cs=some x):∃a len cap bs,cs=[.slice a len cap]∧bP [] w (.slice a len cap) (.sl 1 (r5 bs)):=by
 rcases open_ints ht he hc h with⟨rfl,_⟩|⟨a,len,cap,zs,rfl,_,hl,hm,hz,_,kD,cB⟩
 ·exact⟨none,0,0,[],rfl,.nil _ _ _⟩
 ·simp only[if_true] at hz
  rcases Nat.eq_zero_or_pos len with h0|hp
  ·subst h0
   exact⟨some a,0,cap,[],rfl,.nil _ _ _⟩
  ·have h0:=kD 0 om
   rw[show a.add 0=a from by simp[Addr.add]] at h0
   obtain⟨ha,hb⟩:=af1 h0
   have ix:((zs.take len).map λn=>UInt8.ofNat n.toNat).length=len:=by simp;omega
   refine⟨some a,len,cap,(zs.take len).map λn=>UInt8.ofNat n.toNat,rfl,?_⟩
   rw[ha]
   refine .sl a.block a.off len cap 1 _ (λi _=>.int .u8 (zs.getD i 0)) (by rw[F6,ix]) hl hb sm (λrow hr=>?_) (λi j hi hj=>?_) (λi j row c iC hc=>?_)
   ·obtain⟨_,_,rfl⟩:=List.mem_map.1 hr;rfl
   ·have h1:=kD i om
    rw[af2 ha] at h1
    rw[show a.off+i*1+j=a.off+i from by omega]
    exact h1
   ·have hi:i<len:=by
     have:=(List.getElem?_eq_some_iff.1 iC).1
     rw[F6,ix] at this;exact this
    have hrw:row=[.val (.int .u8 (((UInt8.ofNat (zs.getD i 0).toNat).toNat:Nat):Int))]:=by
     simp only[r5,List.map_map,List.getElem?_map,List.getElem?_take,iP hi,gE (show i<zs.length by omega),Option.map_some,Function.comp,Option.some.injEq] at iC
     rw[<-iC]
     simp[gG,gE (show i<zs.length by omega)]
    subst hrw
    match j,hc with
    |0,hc=>
     simp only[List.getElem?_cons_zero,Option.some.injEq] at hc
     subst hc
     rw[amv cB om]
     exact .val _
    |j+1,hc=>simp at hc
end
end
end Go.Proofs.YthbhobaiopccaaaGreatDoor
namespace Go.Proofs
open Go.Shelf
def Tryz.amx:Go.Shelf.Ren:=⟨fun|170=>174|n=>n,fun|70=>111|3=>3|0=>0|72=>113|37=>22|5=>5|n=>n,fun|n=>n⟩
theorem Tryz.amy:Go.Proofs.Lays.n170 Tryz.prog Tryz.amx:={
 mixed:=by kernel_rfl
 f170:=Tryz.func174.trans (congrArg some (by kernel_rfl))
 t0:=Tryz.underlying0
 a0:=Tryz.isAgg0
 z0:=Tryz.sizeOf0
 v0:=Tryz.zeroValue0
 t3:=Tryz.underlying3
 a3:=Tryz.isAgg3
 z3:=Tryz.sizeOf3
 v3:=Tryz.zeroValue3
 t37:=Tryz.underlying22
 a37:=Tryz.isAgg22
 z37:=Tryz.sizeOf22
 v37:=Tryz.zeroValue22
 t70:=Tryz.underlying111
 a70:=Tryz.isAgg111
 z70:=Tryz.sizeOf111
 v70:=Tryz.zeroValue111
 t72:=Tryz.underlying113
 a72:=Tryz.isAgg113
 z72:=Tryz.sizeOf113
 v72:=Tryz.zeroValue113}
def Tryz.Yu:Go.Shelf.Ren:=⟨fun|169=>79|n=>n,fun|70=>111|9=>9|0=>0|72=>113|37=>22|127=>136|3=>3|5=>5|n=>n,fun|n=>n⟩
theorem Tryz.Yv:Go.Proofs.Lays.n169 Tryz.prog Tryz.Yu:={
 mixed:=by kernel_rfl
 f169:=Tryz.func79.trans (congrArg some (by kernel_rfl))
 t0:=Tryz.underlying0
 a0:=Tryz.isAgg0
 z0:=Tryz.sizeOf0
 v0:=Tryz.zeroValue0
 t3:=Tryz.underlying3
 a3:=Tryz.isAgg3
 z3:=Tryz.sizeOf3
 v3:=Tryz.zeroValue3
 t9:=Tryz.underlying9
 a9:=Tryz.isAgg9
 z9:=Tryz.sizeOf9
 v9:=Tryz.zeroValue9
 t37:=Tryz.underlying22
 a37:=Tryz.isAgg22
 z37:=Tryz.sizeOf22
 v37:=Tryz.zeroValue22
 t70:=Tryz.underlying111
 a70:=Tryz.isAgg111
 z70:=Tryz.sizeOf111
 v70:=Tryz.zeroValue111
 t72:=Tryz.underlying113
 a72:=Tryz.isAgg113
 z72:=Tryz.sizeOf113
 v72:=Tryz.zeroValue113
 t127:=Tryz.underlying136
 a127:=Tryz.isAgg136
 z127:=Tryz.sizeOf136
 v127:=Tryz.zeroValue136}
theorem Tryz.Yw:Builder.Extra Tryz.prog Tryz.Yu:={
 sizeBuilder:=by kernel_rfl
 liesBuilder:=by kernel_rfl
 t5:=Tryz.underlying5
 a5:=Tryz.isAgg5
 z5:=Tryz.sizeOf5
 v5:=Tryz.zeroValue5
 infoByte:=by kernel_rfl
 cellsByte:=by kernel_rfl
 sizeByte:=by kernel_rfl
 neB5:=by decide}
def Tryz.Yx:Go.Shelf.Ren:=⟨fun|165=>173|240=>141|241=>206|276=>171|277=>230|n=>n,fun|70=>111|3=>3|0=>0|4=>4|9=>9|20=>20|72=>113|37=>22|164=>179|5=>5|n=>n,fun|n=>n⟩
theorem Tryz.amz:Go.Proofs.Lays.n165 Tryz.prog Tryz.Yx:={
 mixed:=by kernel_rfl
 f165:=Tryz.func173.trans (congrArg some (by kernel_rfl))
 f240:=Tryz.func141.trans (congrArg some (by kernel_rfl))
 f241:=Tryz.func206.trans (congrArg some (by kernel_rfl))
 f276:=Tryz.func171.trans (congrArg some (by kernel_rfl))
 f277:=Tryz.func230.trans (congrArg some (by kernel_rfl))
 t0:=Tryz.underlying0
 a0:=Tryz.isAgg0
 z0:=Tryz.sizeOf0
 v0:=Tryz.zeroValue0
 t3:=Tryz.underlying3
 a3:=Tryz.isAgg3
 z3:=Tryz.sizeOf3
 v3:=Tryz.zeroValue3
 t4:=Tryz.underlying4
 a4:=Tryz.isAgg4
 z4:=Tryz.sizeOf4
 v4:=Tryz.zeroValue4
 t9:=Tryz.underlying9
 a9:=Tryz.isAgg9
 z9:=Tryz.sizeOf9
 v9:=Tryz.zeroValue9
 t20:=Tryz.underlying20
 a20:=Tryz.isAgg20
 z20:=Tryz.sizeOf20
 v20:=Tryz.zeroValue20
 t37:=Tryz.underlying22
 a37:=Tryz.isAgg22
 z37:=Tryz.sizeOf22
 v37:=Tryz.zeroValue22
 t70:=Tryz.underlying111
 a70:=Tryz.isAgg111
 z70:=Tryz.sizeOf111
 v70:=Tryz.zeroValue111
 t72:=Tryz.underlying113
 a72:=Tryz.isAgg113
 z72:=Tryz.sizeOf113
 v72:=Tryz.zeroValue113
 t164:=Tryz.underlying179
 a164:=Tryz.isAgg179
 z164:=Tryz.sizeOf179
 v164:=Tryz.zeroValue179}
theorem Tryz.amA:Builder.Extra Tryz.prog Tryz.Yx:={
 sizeBuilder:=by kernel_rfl
 liesBuilder:=by kernel_rfl
 t5:=Tryz.underlying5
 a5:=Tryz.isAgg5
 z5:=Tryz.sizeOf5
 v5:=Tryz.zeroValue5
 infoByte:=by kernel_rfl
 cellsByte:=by kernel_rfl
 sizeByte:=by kernel_rfl
 neB5:=by decide}
open Go.RowKit in
theorem Tryz.Builder_Grow_fresh (B b n:Nat) (w:World) (hB:B<=b) (fp:w.heap[b]?=some (.cells #[.pointer none,.slice none 0 0] 113 (0,0))) (o7:B<=w.heap.size) (hn:n<=281474976710656):
  Calls Tryz.prog 173 #[.pointer (some ⟨b,0,none⟩),.int .i64 n] w λe w'=>e= .returned (.tuple #[])∧(Lib.BuilderAt 113 5 B b (.pointer (some ⟨b,0,none⟩)) [] w'∧Below B w w'):=Any.Builder_Grow_fresh Tryz.amz Tryz.amA B b n w hB fp o7 hn
def Tryz.as8:Go.Shelf.Ren:=⟨fun|210=>149|206=>140|n=>n,fun|9=>9|4=>4|3=>3|n=>n,fun|n=>n⟩
open Go.RowKit in
theorem Tryz.Builder_Len_f (B b:Nat) (bs:List Value) (w:World) (h:Lib.IsBuilderF 113 5 B b bs w):
  Calls Tryz.prog 174 #[.pointer (some ⟨b,0,none⟩)] w λe w'=>e= .returned (.int .i64 bs.length)∧w'=w:=Any.Builder_Len_f Tryz.amy B b bs w h
open Go.RowKit in
theorem Tryz.Builder_String_f (B b:Nat) (l:List UInt8) (w:World) (h:Lib.IsBuilderF 113 5 B b (Lib.byteCells l) w) (h0:l≠[]):
  Calls Tryz.prog 79 #[.pointer (some ⟨b,0,none⟩)] w λe w'=>e= .returned (.string ⟨l.toArray⟩)∧(Lib.IsBuilderF 113 5 B b (Lib.byteCells l) w'∧Below B w w'):=Any.Builder_String_f Tryz.Yv Tryz.Yw B b l w h h0
open Go.RowKit in
theorem Tryz.Builder_String_any_f (B b:Nat) (l:List UInt8) (w:World) (h:Lib.IsBuilderF 113 5 B b (Lib.byteCells l) w) (o7:B<=w.heap.size):
  Calls Tryz.prog 79 #[.pointer (some ⟨b,0,none⟩)] w λe w'=>e= .returned (.string ⟨l.toArray⟩)∧(Lib.IsBuilderF 113 5 B b (Lib.byteCells l) w'∧Below B w w'):=Any.Builder_String_any_f Tryz.Yv Tryz.Yw B b l w h o7
def Tryz.amB:Go.Shelf.Ren:=⟨fun|172=>144|244=>175|245=>176|247=>207|279=>208|280=>209|281=>210|282=>211|287=>231|316=>232|171=>122|205=>233|321=>245|322=>246|243=>148|246=>178|283=>212|284=>213|285=>214|286=>215|129=>235|317=>234|318=>236|319=>237|320=>238|337=>247|338=>248|n=>n,fun|9=>9|3=>3|75=>132|76=>133|4=>4|5=>5|167=>214|37=>22|0=>0|85=>215|2=>2|168=>217|53=>211|175=>236|46=>181|210=>239|127=>136|145=>253|143=>251|21=>21|171=>220|173=>223|212=>242|51=>208|20=>20|213=>243|232=>256|233=>257|80=>69|n=>n,fun|15=>0|16=>1|17=>2|18=>4|19=>5|n=>n⟩
theorem Tryz.amC:Go.Proofs.Lays.n172 Tryz.prog Tryz.amB:={
 mixed:=by kernel_rfl
 f129:=Tryz.func235.trans (congrArg some (by kernel_rfl))
 f171:=Tryz.func122.trans (congrArg some (by kernel_rfl))
 f172:=Tryz.func144.trans (congrArg some (by kernel_rfl))
 f205:=Tryz.func233.trans (congrArg some (by kernel_rfl))
 f243:=Tryz.func148.trans (congrArg some (by kernel_rfl))
 f244:=Tryz.func175.trans (congrArg some (by kernel_rfl))
 f245:=Tryz.func176.trans (congrArg some (by kernel_rfl))
 f246:=Tryz.func178.trans (congrArg some (by kernel_rfl))
 f247:=Tryz.func207.trans (congrArg some (by kernel_rfl))
 f279:=Tryz.func208.trans (congrArg some (by kernel_rfl))
 f280:=Tryz.func209.trans (congrArg some (by kernel_rfl))
 f281:=Tryz.func210.trans (congrArg some (by kernel_rfl))
 f282:=Tryz.func211.trans (congrArg some (by kernel_rfl))
 f283:=Tryz.func212.trans (congrArg some (by kernel_rfl))
 f284:=Tryz.func213.trans (congrArg some (by kernel_rfl))
 f285:=Tryz.func214.trans (congrArg some (by kernel_rfl))
 f286:=Tryz.func215.trans (congrArg some (by kernel_rfl))
 f287:=Tryz.func231.trans (congrArg some (by kernel_rfl))
 f316:=Tryz.func232.trans (congrArg some (by kernel_rfl))
 f317:=Tryz.func234.trans (congrArg some (by kernel_rfl))
 f318:=Tryz.func236.trans (congrArg some (by kernel_rfl))
 f319:=Tryz.func237.trans (congrArg some (by kernel_rfl))
 f320:=Tryz.func238.trans (congrArg some (by kernel_rfl))
 f321:=Tryz.func245.trans (congrArg some (by kernel_rfl))
 f322:=Tryz.func246.trans (congrArg some (by kernel_rfl))
 f337:=Tryz.func247.trans (congrArg some (by kernel_rfl))
 f338:=Tryz.func248.trans (congrArg some (by kernel_rfl))
 t0:=Tryz.underlying0
 a0:=Tryz.isAgg0
 z0:=Tryz.sizeOf0
 v0:=Tryz.zeroValue0
 t2:=Tryz.underlying2
 a2:=Tryz.isAgg2
 z2:=Tryz.sizeOf2
 v2:=Tryz.zeroValue2
 t3:=Tryz.underlying3
 a3:=Tryz.isAgg3
 z3:=Tryz.sizeOf3
 v3:=Tryz.zeroValue3
 t4:=Tryz.underlying4
 a4:=Tryz.isAgg4
 z4:=Tryz.sizeOf4
 v4:=Tryz.zeroValue4
 t5:=Tryz.underlying5
 a5:=Tryz.isAgg5
 z5:=Tryz.sizeOf5
 v5:=Tryz.zeroValue5
 t9:=Tryz.underlying9
 a9:=Tryz.isAgg9
 z9:=Tryz.sizeOf9
 v9:=Tryz.zeroValue9
 t20:=Tryz.underlying20
 a20:=Tryz.isAgg20
 z20:=Tryz.sizeOf20
 v20:=Tryz.zeroValue20
 t21:=Tryz.underlying21
 a21:=Tryz.isAgg21
 z21:=Tryz.sizeOf21
 v21:=Tryz.zeroValue21
 t37:=Tryz.underlying22
 a37:=Tryz.isAgg22
 z37:=Tryz.sizeOf22
 v37:=Tryz.zeroValue22
 t46:=Tryz.underlying181
 a46:=Tryz.isAgg181
 z46:=Tryz.sizeOf181
 v46:=Tryz.zeroValue181
 t51:=Tryz.underlying208
 a51:=Tryz.isAgg208
 z51:=Tryz.sizeOf208
 v51:=Tryz.zeroValue208
 t53:=Tryz.underlying211
 a53:=Tryz.isAgg211
 z53:=Tryz.sizeOf211
 v53:=Tryz.zeroValue211
 t75:=Tryz.underlying132
 a75:=Tryz.isAgg132
 z75:=Tryz.sizeOf132
 v75:=Tryz.zeroValue132
 t76:=Tryz.underlying133
 a76:=Tryz.isAgg133
 z76:=Tryz.sizeOf133
 v76:=Tryz.zeroValue133
 t85:=Tryz.underlying215
 a85:=Tryz.isAgg215
 z85:=Tryz.sizeOf215
 v85:=Tryz.zeroValue215
 t127:=Tryz.underlying136
 a127:=Tryz.isAgg136
 z127:=Tryz.sizeOf136
 v127:=Tryz.zeroValue136
 t143:=Tryz.underlying251
 a143:=Tryz.isAgg251
 z143:=Tryz.sizeOf251
 v143:=Tryz.zeroValue251
 t145:=Tryz.underlying253
 a145:=Tryz.isAgg253
 z145:=Tryz.sizeOf253
 v145:=Tryz.zeroValue253
 t167:=Tryz.underlying214
 a167:=Tryz.isAgg214
 z167:=Tryz.sizeOf214
 v167:=Tryz.zeroValue214
 t168:=Tryz.underlying217
 a168:=Tryz.isAgg217
 z168:=Tryz.sizeOf217
 v168:=Tryz.zeroValue217
 t171:=Tryz.underlying220
 a171:=Tryz.isAgg220
 z171:=Tryz.sizeOf220
 v171:=Tryz.zeroValue220
 t173:=Tryz.underlying223
 a173:=Tryz.isAgg223
 z173:=Tryz.sizeOf223
 v173:=Tryz.zeroValue223
 t175:=Tryz.underlying236
 a175:=Tryz.isAgg236
 z175:=Tryz.sizeOf236
 v175:=Tryz.zeroValue236
 t210:=Tryz.underlying239
 a210:=Tryz.isAgg239
 z210:=Tryz.sizeOf239
 v210:=Tryz.zeroValue239
 t212:=Tryz.underlying242
 a212:=Tryz.isAgg242
 z212:=Tryz.sizeOf242
 v212:=Tryz.zeroValue242
 t213:=Tryz.underlying243
 a213:=Tryz.isAgg243
 z213:=Tryz.sizeOf243
 t232:=Tryz.underlying256
 a232:=Tryz.isAgg256
 z232:=Tryz.sizeOf256
 v232:=Tryz.zeroValue256
 t233:=Tryz.underlying257
 a233:=Tryz.isAgg257
 z233:=Tryz.sizeOf257
 v233:=Tryz.zeroValue257
 g15:=by kernel_rfl
 g16:=by kernel_rfl
 g17:=by kernel_rfl
 g18:=by kernel_rfl
 g19:=by kernel_rfl}
open Go.RowKit in
theorem Tryz.strconv_Atoi (s:ByteArray) (n:Int) (hl:s.size<=18) (h:Lib.atoi s.data.toList=some n) (w:World):
  Calls Tryz.prog 144 #[.string s] w λe w'=>e= .returned (.tuple #[.int .i64 n,.nilIface])∧∃t,w'=Lib.bytesWorld w 5 t:=Any.strconv_Atoi Tryz.amC s n hl h w
def Tryz.amD:Go.Shelf.Ren:=⟨fun|99=>108|206=>140|n=>n,fun|9=>9|4=>4|3=>3|n=>n,fun|n=>n⟩
theorem Tryz.amE:Go.Proofs.Lays.n99 Tryz.prog Tryz.amD:={
 mixed:=by kernel_rfl
 f99:=Tryz.func108.trans (congrArg some (by kernel_rfl))
 f206:=Tryz.func140.trans (congrArg some (by kernel_rfl))
 t3:=Tryz.underlying3
 a3:=Tryz.isAgg3
 z3:=Tryz.sizeOf3
 v3:=Tryz.zeroValue3
 t4:=Tryz.underlying4
 a4:=Tryz.isAgg4
 z4:=Tryz.sizeOf4
 v4:=Tryz.zeroValue4
 t9:=Tryz.underlying9
 a9:=Tryz.isAgg9
 z9:=Tryz.sizeOf9
 v9:=Tryz.zeroValue9}
open Go.RowKit Go.Lib in
theorem Tryz.strings_HasPrefix (s p:ByteArray) (w:World):
  Calls Tryz.prog 108 #[.string s,.string p] w λe w'=>e= .returned (.bool (Lib.hasPrefix s.data.toList p.data.toList))∧w'=w:=Any.strings_HasPrefix Tryz.amE s p w
def Tryz.amF:Go.Shelf.Ren:=⟨fun|101=>145|208=>177|206=>140|n=>n,fun|9=>9|4=>4|3=>3|n=>n,fun|n=>n⟩
theorem Tryz.amG:Go.Proofs.Lays.n101 Tryz.prog Tryz.amF:={
 mixed:=by kernel_rfl
 f101:=Tryz.func145.trans (congrArg some (by kernel_rfl))
 f206:=Tryz.func140.trans (congrArg some (by kernel_rfl))
 f208:=Tryz.func177.trans (congrArg some (by kernel_rfl))
 t3:=Tryz.underlying3
 a3:=Tryz.isAgg3
 z3:=Tryz.sizeOf3
 v3:=Tryz.zeroValue3
 t4:=Tryz.underlying4
 a4:=Tryz.isAgg4
 z4:=Tryz.sizeOf4
 v4:=Tryz.zeroValue4
 t9:=Tryz.underlying9
 a9:=Tryz.isAgg9
 z9:=Tryz.sizeOf9
 v9:=Tryz.zeroValue9}
open Go.RowKit Go.Lib in
theorem Tryz.strings_TrimPrefix (s p:ByteArray) (w:World):
  Calls Tryz.prog 145 #[.string s,.string p] w λe w'=>e= .returned (.string ⟨(Lib.trimPrefix s.data.toList p.data.toList).toArray⟩)∧w'=w:=Any.strings_TrimPrefix Tryz.amG s p w
def Tryz.amH:Go.Shelf.Ren:=⟨fun|212=>172|263=>204|264=>205|n=>n,fun|46=>181|51=>208|146=>209|53=>211|148=>212|n=>n,fun|n=>n⟩
theorem Tryz.amI:Go.Proofs.Lays.n212 Tryz.prog Tryz.amH:={
 mixed:=by kernel_rfl
 f212:=Tryz.func172.trans (congrArg some (by kernel_rfl))
 f263:=Tryz.func204.trans (congrArg some (by kernel_rfl))
 f264:=Tryz.func205.trans (congrArg some (by kernel_rfl))
 t46:=Tryz.underlying181
 a46:=Tryz.isAgg181
 z46:=Tryz.sizeOf181
 v46:=Tryz.zeroValue181
 t51:=Tryz.underlying208
 a51:=Tryz.isAgg208
 z51:=Tryz.sizeOf208
 v51:=Tryz.zeroValue208
 t53:=Tryz.underlying211
 a53:=Tryz.isAgg211
 z53:=Tryz.sizeOf211
 v53:=Tryz.zeroValue211
 t146:=Tryz.underlying209
 a146:=Tryz.isAgg209
 z146:=Tryz.sizeOf209
 v146:=Tryz.zeroValue209
 t148:=Tryz.underlying212
 a148:=Tryz.isAgg212
 z148:=Tryz.sizeOf212
 v148:=Tryz.zeroValue212}
open Go.RowKit Go.Lib in
theorem Tryz.bits_Mul (x y:Nat) (hx:x<18446744073709551616) (hy:y<18446744073709551616) (w:World):
  Calls Tryz.prog 172 #[.int .u64 x,.int .u64 y] w λe w'=>e= .returned (.tuple #[.int .u64 ((x*y/18446744073709551616:Nat):Int),.int .u64 ((x*y%18446744073709551616:Nat):Int)])∧w'=w:=Any.bits_Mul Tryz.amI x y hx hy w
def Tryz.Yy:Go.Shelf.Ren:=⟨fun|166=>111|240=>141|276=>171|n=>n,fun|70=>111|3=>3|0=>0|4=>4|9=>9|20=>20|72=>113|37=>22|164=>179|5=>5|75=>132|80=>69|n=>n,fun|n=>n⟩
theorem Tryz.Yz:Go.Proofs.Lays.n166 Tryz.prog Tryz.Yy:={
 mixed:=by kernel_rfl
 f166:=Tryz.func111.trans (congrArg some (by kernel_rfl))
 f240:=Tryz.func141.trans (congrArg some (by kernel_rfl))
 f276:=Tryz.func171.trans (congrArg some (by kernel_rfl))
 t0:=Tryz.underlying0
 a0:=Tryz.isAgg0
 z0:=Tryz.sizeOf0
 v0:=Tryz.zeroValue0
 t3:=Tryz.underlying3
 a3:=Tryz.isAgg3
 z3:=Tryz.sizeOf3
 v3:=Tryz.zeroValue3
 t4:=Tryz.underlying4
 a4:=Tryz.isAgg4
 z4:=Tryz.sizeOf4
 v4:=Tryz.zeroValue4
 t9:=Tryz.underlying9
 a9:=Tryz.isAgg9
 z9:=Tryz.sizeOf9
 v9:=Tryz.zeroValue9
 t20:=Tryz.underlying20
 a20:=Tryz.isAgg20
 z20:=Tryz.sizeOf20
 v20:=Tryz.zeroValue20
 t37:=Tryz.underlying22
 a37:=Tryz.isAgg22
 z37:=Tryz.sizeOf22
 v37:=Tryz.zeroValue22
 t70:=Tryz.underlying111
 a70:=Tryz.isAgg111
 z70:=Tryz.sizeOf111
 v70:=Tryz.zeroValue111
 t72:=Tryz.underlying113
 a72:=Tryz.isAgg113
 z72:=Tryz.sizeOf113
 v72:=Tryz.zeroValue113
 t164:=Tryz.underlying179
 a164:=Tryz.isAgg179
 z164:=Tryz.sizeOf179
 v164:=Tryz.zeroValue179
 t75:=Tryz.underlying132
 a75:=Tryz.isAgg132
 z75:=Tryz.sizeOf132
 v75:=Tryz.zeroValue132}
theorem Tryz.YA:Builder.Extra Tryz.prog Tryz.Yy:={
 sizeBuilder:=by kernel_rfl
 liesBuilder:=by kernel_rfl
 t5:=Tryz.underlying5
 a5:=Tryz.isAgg5
 z5:=Tryz.sizeOf5
 v5:=Tryz.zeroValue5
 infoByte:=by kernel_rfl
 cellsByte:=by kernel_rfl
 sizeByte:=by kernel_rfl
 neB5:=by decide}
open Go.RowKit in
theorem Tryz.Builder_WriteString_f (B b:Nat) (bs:List Value) (s:ByteArray) (w:World) (h:Lib.IsBuilderF 113 5 B b bs w) (hlen:bs.length+s.size<=140737488355328) (o7:B<=w.heap.size):
  Calls Tryz.prog 111 #[.pointer (some ⟨b,0,none⟩),.string s] w λe w'=>e= .returned (.tuple #[.int .i64 s.size,.nilIface])∧(Lib.BuilderAtF 113 5 B b (.pointer (some ⟨b,0,none⟩)) (bs++Lib.strCells s) w'∧Below B w w'):=Any.Builder_WriteString_f Tryz.Yz Tryz.YA B b bs s w h hlen o7
def Tryz.YB:Go.Shelf.Ren:=⟨fun|167=>112|240=>141|276=>171|n=>n,fun|70=>111|3=>3|0=>0|4=>4|9=>9|20=>20|72=>113|37=>22|164=>179|5=>5|75=>132|80=>69|n=>n,fun|n=>n⟩
theorem Tryz.amJ:Go.Proofs.Lays.n167 Tryz.prog Tryz.YB:={
 mixed:=by kernel_rfl
 f167:=Tryz.func112.trans (congrArg some (by kernel_rfl))
 f240:=Tryz.func141.trans (congrArg some (by kernel_rfl))
 f276:=Tryz.func171.trans (congrArg some (by kernel_rfl))
 t0:=Tryz.underlying0
 a0:=Tryz.isAgg0
 z0:=Tryz.sizeOf0
 v0:=Tryz.zeroValue0
 t4:=Tryz.underlying4
 a4:=Tryz.isAgg4
 z4:=Tryz.sizeOf4
 v4:=Tryz.zeroValue4
 t5:=Tryz.underlying5
 a5:=Tryz.isAgg5
 z5:=Tryz.sizeOf5
 v5:=Tryz.zeroValue5
 t9:=Tryz.underlying9
 a9:=Tryz.isAgg9
 z9:=Tryz.sizeOf9
 v9:=Tryz.zeroValue9
 t20:=Tryz.underlying20
 a20:=Tryz.isAgg20
 z20:=Tryz.sizeOf20
 v20:=Tryz.zeroValue20
 t37:=Tryz.underlying22
 a37:=Tryz.isAgg22
 z37:=Tryz.sizeOf22
 v37:=Tryz.zeroValue22
 t70:=Tryz.underlying111
 a70:=Tryz.isAgg111
 z70:=Tryz.sizeOf111
 v70:=Tryz.zeroValue111
 t72:=Tryz.underlying113
 a72:=Tryz.isAgg113
 z72:=Tryz.sizeOf113
 v72:=Tryz.zeroValue113
 t75:=Tryz.underlying132
 a75:=Tryz.isAgg132
 z75:=Tryz.sizeOf132
 v75:=Tryz.zeroValue132
 t164:=Tryz.underlying179
 a164:=Tryz.isAgg179
 z164:=Tryz.sizeOf179
 v164:=Tryz.zeroValue179}
theorem Tryz.amK:Builder.Extra Tryz.prog Tryz.YB:={
 sizeBuilder:=by kernel_rfl
 liesBuilder:=by kernel_rfl
 t5:=Tryz.underlying5
 a5:=Tryz.isAgg5
 z5:=Tryz.sizeOf5
 v5:=Tryz.zeroValue5
 infoByte:=by kernel_rfl
 cellsByte:=by kernel_rfl
 sizeByte:=by kernel_rfl
 neB5:=by decide}
open Go.RowKit in
theorem Tryz.Builder_WriteByte_k (B b:Nat) (bs:List Value) (c:Int) (w:World) (h:Lib.IsBuilderF 113 5 B b bs w) (hlen:bs.length+1<=140737488355328) (o7:B<=w.heap.size):
  Calls Tryz.prog 112 #[.pointer (some ⟨b,0,none⟩),.int .u8 c] w λe w'=>e= .returned .nilIface∧(Lib.BuilderAtF 113 5 B b (.pointer (some ⟨b,0,none⟩)) (bs++[.int .u8 c]) w'∧Below B w w'∧Lib.OthersKept 5 (some b) w w'):=Any.Builder_WriteByte_k Tryz.amJ Tryz.amK B b bs c w h hlen o7
open Go.RowKit in
theorem Tryz.Builder_WriteString_k (B b:Nat) (bs:List Value) (s:ByteArray) (w:World) (h:Lib.IsBuilderF 113 5 B b bs w) (hlen:bs.length+s.size<=140737488355328) (o7:B<=w.heap.size):
  Calls Tryz.prog 111 #[.pointer (some ⟨b,0,none⟩),.string s] w λe w'=>e= .returned (.tuple #[.int .i64 s.size,.nilIface])∧(Lib.BuilderAtF 113 5 B b (.pointer (some ⟨b,0,none⟩)) (bs++Lib.strCells s) w'∧Below B w w'∧Lib.OthersKept 5 (some b) w w'):=Any.Builder_WriteString_k Tryz.Yz Tryz.YA B b bs s w h hlen o7
end Go.Proofs
namespace Go.Proofs.YthbhobaiopccaaaGreatDoor
open Go
variable {m:Mk} {s:cH} {b i k q sz:Nat} {E G L L1:List Nat} {w w' w1:World} {T:Ty} {e f:Ex} {t:Tk} {rows:List (List C)} {bs:List Bk}
theorem amL (s p:ai) (w:World):bw Tryz.prog 108 [str s,str p] w λv w'=>v= .bool (Lib.hasPrefix s p)∧w=w':=
 ⟨ru.mk' Tryz.func108 rfl acd,Calls.mono (Tryz.strings_HasPrefix ⟨s.toArray⟩ ⟨p.toArray⟩ w) λe w' ⟨he,hw⟩=>⟨_,he,sm,hw.symm⟩⟩
theorem amM (s p:ai) (w:World):bw Tryz.prog 145 [str s,str p] w λv w'=>v=str (Lib.trimPrefix s p)∧w=w':=
 ⟨ru.mk' Tryz.func145 rfl acG,Calls.mono (Tryz.strings_TrimPrefix ⟨s.toArray⟩ ⟨p.toArray⟩ w) λe w' ⟨he,hw⟩=>⟨_,he,by simp[str],hw.symm⟩⟩
theorem amN (w:World) (o:Obj) (a:Addr) (n:Nat) (ha:a.block=w.heap.size):aj [] w ((w.alloc o).freeze a n):=by
 unfold World.freeze
 split
 ·exact aj.alloc [] w o
 ·refine⟨rfl,rfl,rfl,?_,λk hk _=>?_⟩
  ·show w.heap.size<=Array.size (Array.modify (w.alloc o).heap _ _)
   rw[Array.size_modify];exact(aj.alloc [] w o).size
  ·show(Array.modify (w.alloc o).heap _ _)[k]?=_
   rw[Array.getElem?_modify,iN (by rw[ha];omega)];exact(aj.alloc [] w o).block k hk sm
theorem amO (w:World) (e:TypeId) (s:ByteArray):aj [] w (Lib.bytesWorld w e s):=
 (aj.drew [] w).trans (amN _ _ _ _ rfl)
theorem amP (s:ai) {z:Int} (h:numeral s=some z) (w:World):bw Tryz.prog 144 [str s] w λv w'=>v= .tuple #[.int .i64 z,.nilIface]∧aj [] w w':=
 ⟨ru.mk' Tryz.func144 rfl acF,Calls.mono (Tryz.strconv_Atoi ⟨s.toArray⟩ z (by have:=SG h;simp[ByteArray.size];omega) (by simpa using aa5 h) w) λe w' ⟨he,t,hw⟩=>⟨_,he,rfl,by rw[hw];exact amO _ _ _⟩⟩
theorem LH (a b c:Int) (w:World):bw Tryz.prog 57 [.int .i64 a,.int .i64 b,.int .i64 c] w λv w'=>v= .bool (decide (b<=a)&&decide (a<=c))∧w=w':=by
 refine bU [.tmp 6] 15 Tryz.func57 rfl aee rfl rfl ?_
 refine W ?_
 apply oB 4 10 14 rfl oQ
 intro _
 exact oQ
 intro xx
 refine W ?_
 exact⟨_,rfl,rfl,rfl⟩
theorem amQ (c:UInt8) (w:World):bw Tryz.prog 109 [.int .u8 c.toNat] w λv w'=>v= .bool (fa c)∧w=w':=by
 refine bU [.tmp 2] 33 Tryz.func109 rfl ace rfl rfl ?_
 refine W ?_
 apply oB 3 5 8 rfl oQ
 intro _
 exact oQ
 intro xx
 refine WZ ?_
 apply oP 7 9 16 rfl oQ
 intro _
 refine WZ ?_
 apply oB 3 12 15 rfl oQ
 intro _
 exact oQ
 intro xx
 exact oQ
 intro xx
 refine WZ ?_
 apply oP 3 17 20 rfl oQ
 intro _
 exact oQ
 intro xx
 refine WZ ?_
 apply oP 3 21 24 rfl oQ
 intro _
 exact oQ
 intro xx
 refine WZ ?_
 apply oP 3 25 28 rfl oQ
 intro _
 exact oQ
 intro xx
 refine WZ ?_
 apply oP 3 29 32 rfl oQ
 intro _
 exact oQ
 intro xx
 refine W ?_
 exact⟨_,rfl,congrArg Value.bool (RP c),rfl⟩
theorem amR (s:ai) (hs:s.length<9223372036854775807) (w:World):bw Tryz.prog 146 [str s] w λv w'=>v= .bool (s.all iv)∧w=w':=by
 refine bU [.tmp 2] 20 Tryz.func146 rfl acH rfl rfl ?_
 refine W ?_
 refine dR (λk:Nat=>[(0,str s),(5,.int .i64 (s.length:Int)),(6,.int .i64 (k:Int))]) (λk w'=>w'=w∧k<=s.length∧(s.take k).all iv=true) (λk=>s.length-k) (0) (⟨rfl,rfl,rfl⟩) (⟨rfl,om,sm⟩) λgg w1 e1 hI=>?_
 obtain⟨rfl,hk,cC⟩:=hI
 refine W ?_
 refine zc rfl (λh1=>?_) (λh1=>?_)
 have dY:gg<s.length:=by omega
 refine W ?_
 refine ko iE rfl rfl rfl rfl (jv dY)<|WZ ?_
 apply oP 5 13 18 rfl oQ
 intro _
 refine zm<|zm<|ko iE rfl rfl rfl rfl (jv dY) ?_
 exact oQ
 intro xx
 refine aV<|zc rfl (λh3=>?_) (λh3=>?_)
 have hq:s.all iv=false:=aa8 dY (Sh h3)
 refine W ?_
 exact⟨_,rfl,by rw[hq];rfl,rfl⟩
 have hc:=Si h3
 refine W ?_
 exact⟨gg+1,⟨rfl,rfl,rfl⟩,⟨rfl,om,by rw[MC dY,List.all_append,cC];simp only[List.all_cons,hc.2.2];rfl⟩,om⟩
 have hq:s.all iv=true:=by rw[List.take_of_length_le om] at cC;exact cC
 refine W ?_
 exact⟨_,rfl,by rw[hq];rfl,rfl⟩
theorem Qp (s:ai) (hs:s.length<9223372036854775807) (w:World):bw Tryz.prog 120 [str s] w λv w'=>v= .bool (numeral s).isSome∧w=w':=by
 have hl:(eC s).length<=s.length:=by unfold eC;split<;>simp
 refine bU [.tmp 2] 22 Tryz.func120 rfl aco rfl rfl ?_
 refine W ?_
 refine aA (amM _ _ _) ?_
 rintro _ _ ⟨rfl,rfl⟩
 refine W ?_
 rw[aa3]
 apply oP 13 8 21 rfl oQ
 intro h1
 refine W ?_
 refine aA (LH _ _ _ _) ?_
 rintro _ _ ⟨rfl,rfl⟩
 refine WZ ?_
 apply oB 3 12 15 rfl oQ
 intro h2
 refine zm<|aA (amR _ om _) ?_
 rintro _ _ ⟨rfl,rfl⟩
 exact oQ
 intro xx
 refine WZ ?_
 apply oB 4 16 20 rfl oQ
 intro h3
 simp at h3
 refine zm<|ko (i:=0) iE rfl rfl rfl rfl (jv om) ?_
 exact oQ
 intro xx
 exact oQ
 intro xx
 refine W ?_
 exact⟨_,rfl,show Value.bool _=Value.bool _ from congrArg _ (aa9 s),rfl⟩
theorem YC (s:ai) {z:Int} (h:numeral s=some z) (w:World):bw Tryz.prog 119 [str s] w λv w'=>v= .int .i64 z∧aj [] w w':=by
 have hK:=aj.refl [] w
 refine bU [.tmp 2] 11 Tryz.func119 rfl acn rfl rfl ?_
 refine W ?_
 refine aA (amP s h w) ?_
 rintro _ w1 ⟨rfl,aI⟩
 have dk:=aI.size
 have hK:=hK.ext aI
 refine W ?_
 exact⟨_,rfl,rfl,hK⟩
theorem amS (s:ai) (hs:s.length<9223372036854775807) (w:World):bw Tryz.prog 137 [str s] w λv w'=>v= .bool (vK s)∧aj [] w w':=by
 have hK:=aj.refl [] w
 refine bU [.tmp 2] 10 Tryz.func137 rfl acA rfl rfl ?_
 refine W ?_
 refine aA (Qp s hs _) ?_
 rintro _ _ ⟨rfl,rfl⟩
 refine WZ ?_
 apply oA 4 5 9 (aj [] w) rfl oQ
 intro h1
 obtain⟨z,hz⟩:=Option.isSome_iff_exists.1 h1
 have BW:z=(numeral s).getD 0:=by rw[hz];rfl
 refine zm<|aA (YC s hz w) ?_
 rintro _ w1 ⟨rfl,aI⟩
 have dk:=aI.size
 rw[BW]
 refine aA (LH _ _ _ _) ?_
 rintro _ _ ⟨rfl,rfl⟩
 exact oQ
 intro xx w1 aI
 have hK:=hK.ext aI
 refine W ?_
 exact⟨_,rfl,show Value.bool _=Value.bool _ from congrArg _ (aa7 s),hK⟩
theorem YD (s:ai) (hs:s.length<9223372036854775807) (w:World):bw Tryz.prog 96 [str s] w λr w'=>r= .bool (nW s)∧w=w':=by
 refine bU [.tmp 2] 35 Tryz.func96 rfl aeB rfl rfl ?_
 refine W ?_
 refine dR (λk:Nat=>[(0,str s),(6,.int .i64 (s.length:Int)),(7,.int .i64 (k:Int))]) (λk w'=>w'=w∧k<=s.length∧∀j,j<k->CE s j=true) (λk=>s.length-k) (0) (⟨rfl,rfl,rfl⟩) (⟨rfl,om,by intro j hj;omega⟩) λgg w1 e1 hI=>?_
 obtain⟨rfl,hk,cC⟩:=hI
 refine W ?_
 refine zc rfl (λh1=>?_) (λh1=>?_)
 refine W ?_
 refine ko iE rfl rfl rfl rfl (jv om)<|W ?_
 apply oB 3 15 18 rfl oQ
 intro _
 exact oQ
 intro xx
 refine WZ ?_
 apply oP 11 19 30 rfl oQ
 intro _
 refine WZ ?_
 apply oB 3 22 25 rfl oQ
 intro _
 exact oQ
 intro xx
 refine WZ ?_
 apply oB 3 26 29 rfl oQ
 intro _
 exact oQ
 intro xx
 exact oQ
 intro xx
 refine kF rfl rfl rfl<|aV<|zc rfl (λh6=>?_) (λh6=>?_)
 rw[Ju] at h6
 refine W ?_
 exact⟨_,rfl,by rw[Sd om h6];rfl,rfl⟩
 rw[Ju] at h6
 refine W ?_
 exact⟨gg+1,⟨rfl,rfl,rfl⟩,⟨rfl,om,Sf cC h6⟩,om⟩
 refine W ?_
 exact⟨_,rfl,by rw[Se (λj hj=>cC j om)];rfl,rfl⟩
theorem Qq (t:aq) (v:Value) (L:List Nat) (w:World) (hv:bC L w v t):bw Tryz.prog 71 [v] w λr w'=>r= .bool (decide (t.ak.length=0))∧aj [] w w':=by
 obtain⟨a,n,c,rfl,hn,aO⟩:=cY hv
 have hK:=aj.refl [] w
 refine bU [.tmp 2] 7 Tryz.func71 rfl aen rfl rfl ?_
 refine zr<|eK rfl λw1 aI aY dh=>?_
 have hK:=hK.ext aI
 refine W ?_
 exact⟨_,rfl,show Value.bool _=Value.bool _ from congrArg _ (decide_eq_decide.2 om),hK⟩
theorem Ei (t:aq) (cB:WF t) (v:Value) (L:List Nat) (w:World) (hv:bC L w v t):bw Tryz.prog 39 [v] w λr w'=>r=str (bX t)∧aj [] w w':=by
 have cQ:=hv
 obtain⟨a,n,c,rfl,hn,aO⟩:=cY hv
 have hK:=aj.refl [] w
 refine bU [.tmp 2] 10 Tryz.func39 rfl ad2 rfl rfl ?_
 refine zr<|eK rfl λw1 aI aY dh=>cJ aI hK aO cQ λhK aO cQ=>?_
 refine W ?_
 refine aA (Qq t _ L w1 cQ) ?_
 rintro _ w2 ⟨rfl,az⟩
 have dx:=az.size
 refine cJ az hK aO aY λhK aO aY=>?_
 refine aV<|zc rfl (λh1=>?_) (λh1=>?_)
 have hh:bX t=[]:=GD (.inr (List.length_eq_zero_iff.1 h1))
 refine W ?_
 exact⟨_,rfl,by rw[hh];rfl,hK⟩
 have kK:0<t.ak.length:=by omega
 have ha:t.aw=[]:=Classical.byContradiction (λh=>by have:=cB.leaf h;rw[this] at kK;exact absurd kK de)
 have mf:=gh kK
 have hh:bX t=(nth t.ak 0).aw:=GC ha mf
 obtain⟨b,off,pa,pn,pc,rfl,eD,eO,ga⟩:=iM aO mf
 refine WI ?_
 refine zi (i:=0) s9 fx rfl rfl (by rw[hn];exact kK)<|W ?_
 exact⟨_,rfl,by rw[hh];rfl,hK⟩
theorem amT (t:aq) (cB:WF t) (h:ai) (k:Int) (v:Value) (L:List Nat) (w:World) (hv:bC L w v t):
  bw Tryz.prog 40 [v,str h,.int .i64 k] w λr w'=>r= .bool (decide ((t.ak.length:Int)=k)&&decide (bX t=h))∧aj [] w w':=by
 have cQ:=hv
 obtain⟨a,n,c,rfl,hn,aO⟩:=cY hv
 have hK:=aj.refl [] w
 subst hn
 refine bU [.tmp 6] 18 Tryz.func40 rfl ad3 rfl rfl ?_
 refine zr<|eK rfl λw1 aI cW dh=>bI aI hK cQ λhK cQ=>?_
 refine W ?_
 apply oA 5 12 17 (aj [] w1) rfl oQ
 intro _
 refine W ?_
 refine aA (Ei t cB _ L w1 cQ) ?_
 rintro _ w2 ⟨rfl,az⟩
 have dx:=az.size
 exact oQ
 intro xx w2 az
 have hK:=hK.ext az
 refine W ?_
 exact⟨_,rfl,rfl,hK⟩
theorem amU (ts:List aq) (hlen:ts.length<1000000000) (g:aq->Bool) (f:FuncId) (caps:List Value) (v:Value) (L:List Nat) (w:World) (hv:eU L w v ts) 
  (hf:∀i,i<ts.length->∀(u:Value) (w':World),aj [] w w'->bC L w' u (nth ts i)->bw Tryz.prog f (u::caps) w' λr w''=>r= .bool (g (nth ts i))∧aj [] w' w''):
  bw Tryz.prog 202 [v,.func (.func f) #[] caps.toArray] w λr w'=>r= .int .i64 (CF ts g)∧aj [] w w':=by
 obtain⟨a,c,rfl,hlc⟩:=sh hv
 have mQ:(da ts).length=ts.length:=iz ts
 have hK:=aj.refl [] w
 refine bU [.tmp 4] 19 Tryz.func202 rfl adw rfl rfl ?_
 refine W ?_
 refine dR (λk:Nat=>[(0,.slice a (da ts).length c),(1,.func (.func f) #[] caps.toArray),(7,.int .i64 ((da ts).length:Int)),(8,.int .i64 (k:Int))]) (λk w'=>aj [] w w'∧k<=ts.length∧∀i,i<k->g (nth ts i)=false) (λk=>ts.length-k) (0) (⟨rfl,rfl,rfl,rfl⟩) (⟨hK,om,by intro i hi;omega⟩) λgg w1 e1 hI=>?_
 obtain⟨hK,hk,cC⟩:=hI
 have hv:=hv.ext hK
 refine W ?_
 refine zc rfl (λh1=>?_) (λh1=>?_)
 have hp:=gh (ps:=ts) (i:=gg) om
 obtain⟨b,off,pa,pn,pc,rfl,hc,eO,ga⟩:=iM hv hp
 refine W ?_
 refine Jp rfl rfl rfl (hf gg om _ w1 hK (lF ga)) ?_
 rintro _ w2 ⟨rfl,az⟩
 have dx:=az.size
 have hK:=hK.ext az
 refine aV<|zc rfl (λh2=>?_) (λh2=>?_)
 have hq:=aba om cC h2
 refine W ?_
 exact⟨_,rfl,by rw[hq];rfl,hK⟩
 refine W ?_
 exact⟨gg+1,⟨rfl,rfl,rfl,rfl⟩,⟨hK,om,by intro i hi;rcases Nat.lt_or_ge i gg with h|h;exact cC i h;rw[show i=gg by omega];exact h2⟩,om⟩
 have hq:=abb (λi hi=>cC i om)
 refine W ?_
 exact⟨_,rfl,by rw[hq];rfl,hK⟩
theorem amV (ts:List aq) (hlen:ts.length<1000000000) (g:aq->Bool) (f:FuncId) (caps:List Value) (v:Value) (L:List Nat) (w:World) (hv:eU L w v ts) 
  (hf:∀i,i<ts.length->∀(u:Value) (w':World),aj [] w w'->bC L w' u (nth ts i)->bw Tryz.prog f (u::caps) w' λr w''=>r= .bool (g (nth ts i))∧aj [] w' w''):
  bw Tryz.prog 165 [v,.func (.func f) #[] caps.toArray] w λr w'=>r= .bool (ts.any g)∧aj [] w w':=by
 have hK:=aj.refl [] w
 refine bU [.tmp 4] 9 Tryz.func165 rfl acW rfl rfl ?_
 refine W ?_
 refine aA (amU ts hlen g f caps _ L w hv hf) ?_
 rintro _ w1 ⟨rfl,aI⟩
 have dk:=aI.size
 have hK:=hK.ext aI
 refine W ?_
 exact⟨_,rfl,congrArg Value.bool (abc ts g),hK⟩
def YE (m:Nat):Prop:=∀(t:aq),t.size<=m->t.size<=100000->WF t->∀(hidden:Bool) (v:Value) (L:List Nat) (w:World),bC L w v t->
  bw Tryz.prog 136 [v,.bool hidden,.bool false] w λr w'=>r= .bool (fl hidden t)∧aj [] w w'
theorem amW {m:Nat} (ih:YE m) (t:aq) (h:t.size<=m) (h2:t.size<=100000) (cB:WF t) (hidden:Bool) (b1 b2:Nat) (v:Value) (L:List Nat) (w:World) (hv:bC L w v t) 
  (aY:aK w b1 #[.bool hidden] 4) (aR:aK w b2 #[.bool false] 4):
  bw Tryz.prog 166 [v,.pointer (some ⟨b1,0,none⟩),.pointer (some ⟨b2,0,none⟩)] w λr w'=>r= .bool (!fl hidden t)∧aj [] w w':=by
 have cQ:=hv
 obtain⟨a,n,c,rfl,hn,aO⟩:=cY hv
 have hK:=aj.refl [] w
 refine bU [.tmp 4] 10 Tryz.func166 rfl acX rfl rfl ?_
 refine zr<|eK rfl λw1 aI cW dh=>gY aI hK cQ aY aR λhK cQ aY aR=>?_
 refine W ?_
 refine aA (ih t h h2 cB hidden _ L w1 cQ) ?_
 rintro _ w2 ⟨rfl,az⟩
 have dx:=az.size
 have hK:=hK.ext az
 refine W ?_
 exact⟨_,rfl,rfl,hK⟩
end Go.Proofs.YthbhobaiopccaaaGreatDoor
