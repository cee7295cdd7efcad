/- Lemmas for the law FnProgramText, no statement of their own: no conditions. -/
import Derived.Test.YtcildnfcpkpomaaGreatDoorAe
set_option maxHeartbeats 4000000
set_option linter.unusedVariables false
set_option linter.unusedSimpArgs false
namespace Go.Proofs.YtcildnfcpkpomaaGreatDoor
open Go
variable {E N b bytes i k n sz:Nat} {m:Mk} {h s:ak} {e:Ex} {T:Ty} {t:aq} {ps:List aq} {u v z:Value} {G G0:List Nat} {w w':World} {g:Option Nat} {xs ys:List ak}
theorem IZ (m:Mk) (k:ak):Ext m (m.dG k) 1 []:=⟨rfl,by simp[Mk.dG],rfl,by simp[Mk.dG],by simp[Mk.dG]⟩
theorem vX (m:Mk) (h:ak) (a:List ak):Ext m (m.cU h a) 1 []:=⟨rfl,by simp[Mk.cU],rfl,by simp[Mk.cU],by simp[Mk.cU]⟩
theorem Aq (m:Mk) (k:ak):(m.dG k).types.length=m.types.length+1:=by simp[Mk.dG]
theorem pH (m:Mk) (h:ak) (a:List ak):(m.cU h a).types=m.types:=rfl
theorem o5 {n:Nat} (h:n<1000):(aS n).length<=3:=uL h
theorem pI {m:Mk} (h:fT m) {hd:ak} {ps:List ak} (e:hd.length<=5) (a:ps.length<=4) (b:∀p∈ps,p.length<=300):fT (m.cU hd ps):=h.cU (by have c:=CG (m:=300) ps b;have d:ps.length*301<=4*301:=Nat.mul_le_mul a<|lR _;rw[mS];omega)
theorem Gz (h:eJ s=true):s.length<=4:=by grind [eJ]
def lW (a:List Tk):Nat:=(a.map λt=>t.expr.n+1).sum
theorem I0 (a b:List Tk):lW (a++b)=lW a+lW b:=by grind [lW]
theorem Qc (t:Tk):lW [t]=t.expr.n+1:=by simp[lW]
theorem I1:lW []=0:=rfl
theorem W9 {s:cY} {a b:ak} (g:fT m) (e:kW s) (f:a.length<=4) (hb:b.length<=4) (i:m.types.length+1<1000):
  (Ext m (cJ m s a).1 1 []/\fT (cJ m s a).1/\(cJ m s a).2<1000)/\Ext m (cJ (cJ m s a).1 s b).1 2 []/\fT (cJ (cJ m s a).1 s b).1/\(cJ (cJ m s a).1 s b).2<1000:=by
 have c:=IW g e f om;have d:=IW (m:=(cJ m s a).1) (a:=b) c.2.1 e hb (by have:=c.1.types;omega);exact⟨c,c.1.trans d.1,d.2⟩
structure Xa (m m':Mk) (r:Nat) (n:Nat) (new:List Tk):Prop where
 ext:Ext m m' 4 new
 sml:fT m'
 dG:r<1000
 inv:∀k∈new,pG k
 num:lW new+1<=n
theorem Qd {s:cY} (r:fT m) (q:kW s) (d:e.ok) (u:bL e (fx s)=some T) (hb:5*s.length+2*e.n<=240) (g:m.types.length+8*e.n<=1000) (E:m.count<1000):
  ∃new,Xa m (oh m s T e).1 (oh m s T e).2 e.n new:=by
 have C:=mH q.types u;have hk:=rb C;have two:∀(h a b:ak),a.length<=4->b.length<=4->h.length<=5->m.types.length+8<=1000->∀n,1<=n->
   Xa m (((cJ (cJ m s a).1 s b).1.dG<|bH T).cU h [aS (cJ (cJ m s a).1 s b).1.types.length,aS (cJ m s a).2,aS (cJ (cJ m s a).1 s b).2]) (cJ (cJ m s a).1 s b).1.types.length n []:=by
  intro h a b D hb F _ n _;obtain⟨⟨_,_,H⟩,t,s2,I⟩:=W9 r q D hb om;have y:=t.types;refine⟨(t.trans ((IZ _ _).trans<|vX _ _ _)),pI (s2.dG om) F sm ?_,om,sm,by simp[I1];omega⟩;intro p o;simp only[mC,List.not_mem_nil,or_false] at o;rcases o with rfl|rfl|rfl
  .have:=o5 (n:=(cJ (cJ m s a).1 s b).1.types.length) om;omega
  .have:=o5 H;omega
  .have:=o5 I;omega
 cases e with
 |«at» a=>obtain⟨i,j,l⟩:=IW r q (P7 d) (by simp only[Ex.n] at g;omega);exact⟨[],i.more om,j,l,sm,by simp[I1,Ex.n]⟩
 |un h a=>
  simp only[Ex.n] at g;have v:=a.pos;obtain⟨i,j,l⟩:=IW r q (pF d.2) om;have y:=i.types;refine⟨[],((i.trans ((IZ _ _).trans<|vX _ _ _))).more om,pI (j.dG om) sm sm ?_,?_,sm,by simp[I1,Ex.n]⟩
  .intro p o;simp only[mC,List.not_mem_nil,or_false] at o;rcases o with rfl|rfl|rfl
   .have:=o5 (n:=(cJ m s a.au).1.types.length) om;omega
   .have:=o5 l;omega
   .split<;>simp
  .show(cJ m s a.au).1.types.length<1000;omega
 |bi h a b=>
  simp only[Ex.n] at g;have v:=a.pos;refine⟨[],two (rO h) a.au b.au (pF d.2.1) (pF d.2.2) ?_ om _<|Ex.pos _⟩;unfold rO;split
  .simp
  .split
   .simp
   .split<;>simp
 |ite a b c=>simp only[Ex.n] at g;exact⟨[],two (rO iy) a.au b.au (pF d.1) (pF d.2.1) de om _<|Ex.pos _⟩
 |lt x a b=>simp only[Ex.n] at g;exact⟨[],two (rO ig) x a.au (Gz d.1) (pF d.2.1) de om _<|Ex.pos _⟩
 |fn f x A B e=>simp only[Ex.n] at g;obtain⟨i,j,l,z⟩:=ajB r q d u hb om E;refine⟨_,i,j,l,λk hk=>by simp only[List.mem_singleton] at hk;rw[hk];exact z,?_⟩;rw[Qc];simp only[B8,Ex.n];omega
theorem Xb (b:fT m) {s:Nat} (c:s<1000) (i:m.types.length+3<1000):Ext m (uy m s) 6 []/\fT (uy m s)/\(uy m s).types.length=m.types.length+3:=by
 have d:=o5 c;have e:=o5 (n:=m.types.length) om;have f:=o5 (n:=m.types.length+1) om;have g:=o5 (n:=m.types.length+2) om;unfold uy;have z:([]:ak).length<=100000:=by simp
 refine⟨(IZ _ _).trans<|(vX _ _ _).trans ((IZ _ _).trans<|(vX _ _ _).trans ((IZ _ _).trans<|vX _ _ _)),?_,by simp[Mk.dG,Mk.cU]⟩;refine pI (fT.dG (pI (fT.dG (pI (fT.dG b z) sm sm ?_) z) sm sm ?_) z) sm sm ?_
 all_goals
  intro p a;simp only[mC,List.not_mem_nil,or_false] at a;rcases a with rfl|rfl|rfl<;>first|omega|simp
theorem ajE (e:fT m) {f x on:Nat} (d:f<1000) (j:x<1000) (g:on<1000) (i:m.types.length+3<1000):Ext m (zW m f x on) 10 []/\fT (zW m f x on):=by
 obtain⟨b,c,_⟩:=Xb e d i;have d1:=o5 (n:=m.types.length+1) om;have d2:=o5 (n:=m.types.length+2) om;have d3:=o5 j;have d4:=o5 g;unfold zW;refine⟨b.trans ((vX _ _ _).trans<|(vX _ _ _).trans ((vX _ _ _).trans<|vX _ _ _)),?_⟩;refine pI (pI (pI (pI c sm sm ?_) sm sm ?_) sm sm ?_) sm sm ?_
 all_goals
  intro p a;simp only[mC,List.not_mem_nil,or_false] at a
  first
  |(rcases a with rfl|rfl<;>first|omega|simp)
  |(rw[a];omega)
theorem ajF (d:fT m) {on r:Nat} (e:on<1000) (f:r<1000) (g:m.types.length+3<1000):Ext m (zX m on r) 10 []/\fT (zX m on r):=by
 obtain⟨b,c,_⟩:=Xb d e g;have d1:=o5 (n:=m.types.length+1) om;have d2:=o5 (n:=m.types.length+2) om;have d3:=o5 f;unfold zX;refine⟨(b.trans<|(vX _ _ _).trans ((vX _ _ _).trans<|vX _ _ _)).more om,?_⟩;refine pI (pI (pI c sm sm ?_) sm sm ?_) sm sm ?_
 all_goals
  intro p a;simp only[mC,List.not_mem_nil,or_false] at a
  first
  |(rcases a with rfl|rfl<;>first|omega|simp)
  |(rw[a];omega)
structure o6 (m:Mk) (s:cY) (on:Nat) (ba:ak) (e:Ex):Prop where
 sml:fT m
 sc:kW s
 ok:e.ok
 type:∃T,bL e (fx s)=some T
 bud:5*s.length+2*e.n<=240
 room:m.types.length+8*e.n<=1000
 on:on<1000
 ba:CH ba
 cnt:m.count+e.n<=900
structure xl (m:Mk) (s:cY) (on:Nat) (ba:ak) (e:Ex) (T:Ty):Prop where
 ok:(bS e).s.ok
 type:bL (bS e).s (fx s)=some T
 small:T.n<=16
 oW:oW s (bS e).s=T
 le:(bS e).s.n<=e.n
 last:(bS e).name=[]->(bS e).s=e
 rest:(bS e).name≠[]->eJ (bS e).name=true/\(bS e).rest.ok/\(∃U,bL (bS e).rest (fx s++[((bS e).name,T)])=some U)/\(bS e).s.n+(bS e).rest.n+2<=e.n
theorem o6.goal {s:cY} {on:Nat} {ba:ak} (h:o6 m s on ba e):∃T,xl m s on ba e T:=by
 obtain⟨T,i⟩:=h.type;have g:bS e=⟨[],e,e⟩->∃T,xl m s on ba e T:=λj=>by
  refine⟨T,?_,?_,mH h.sc.types i,?_,?_,?_,?_⟩
  .rw[j];exact h.ok
  .rw[j];exact i
  .rw[j];unfold oW;rw[i];rfl
  .rw[j];exact lR _
  .intro _;rw[j]
  .intro o;rw[j] at o;exact absurd rfl o
 have n:=h.ok;cases e with
 |lt x a b=>
  unfold bL at i;cases l:bL a (fx s) with
  |none=>rw[l] at i;cases i
  |some A=>rw[l,Option.bind_some] at i;refine⟨A,n.2.1,l,mH h.sc.types l,by show(bL a<|fx s).getD .i=A;rw[l];rfl,by simp only[bS,Ex.n];omega,λo=>absurd o<|xe n.1,λ_=>⟨n.1,n.2.2,⟨T,i⟩,by simp only[bS,Ex.n];omega⟩⟩
 |«at» a=>exact g rfl
 |un a b=>exact g rfl
 |bi a b c=>exact g rfl
 |ite a b c=>exact g rfl
 |fn a b c d f=>exact g rfl
def fD (m:Mk) (s:cY) (on:Nat) (ba name:ak) (a:Ty) (rest:Ex):Mk×Nat×ak:=if name≠[] then vQ m s on ba name a rest else(m,on,ba)
structure Cut (m m':Mk) (on':Nat) (onOf':ak) (n:Nat) (new:List Tk):Prop where
 ext:Ext m m' 4 new
 sml:fT m'
 on:on'<1000
 ba:CH onOf'
 inv:∀k∈new,pG k
 num:lW new<=n
theorem Xc {d:Mk} {s:cY} {on:Nat} {ba:ak} (h:o6 d s on ba e) (g:xl d s on ba e T) (c:fT m) (i:m.types.length+4<1000) (q:m.count<1000) (b:2<=(bS e).s.n):
  ∃new,Cut m (fD m s on ba (bS e).name T (bS e).rest).1 (fD m s on ba (bS e).name T (bS e).rest).2.1 (fD m s on ba (bS e).name T (bS e).rest).2.2 (e.n-(bS e).s.n) new:=by
 by_cases a:(bS e).name=[]
 .unfold fD;rw[iN (by simp[a])];exact⟨[],(Ext.refl m).more om,c,h.on,h.ba,sm,by simp[I1]⟩
 .unfold fD;rw[iP a];obtain⟨_,f,⟨U,p⟩,_⟩:=g.rest a;have hb:=h.bud;obtain⟨j,l,b,n,o⟩:=ajD (name:=(bS e).name) c h.sc h.on h.ba g.small f p om i q;refine⟨_,j,l,b,n,λk hk=>by simp only[List.mem_singleton] at hk;rw[hk];exact o,?_⟩;rw[Qc];show(bS e).rest.n+1<=_;omega
structure Fin (m m':Mk) (n:Nat) (new:List Tk):Prop where
 ext:Ext m m' 20 new
 sml:fT m'
 inv:∀k∈new,pG k
 num:lW new+1<=n
structure On (m m':Mk) (s:cY) (on:Nat) (ba:ak) (n:Nat) (r:Ex) (new:List Tk):Prop where
 ext:Ext m m' 20 new
 inv:o6 m' s on ba r
 bT:∀k∈new,pG k
 num:lW new+r.n+1<=n
theorem ajG {s:cY} {on:Nat} {ba:ak} (h:o6 m s on ba e) (g:xl m s on ba e T) (i:(bS e).name=[]):
  ∃new,Fin m (zX (oh m s T (bS e).s).1 on (oh m s T (bS e).s).2) e.n new:=by
 have l:=h.room;have f:=h.cnt;have j:=(bS e).s.pos;have d:=g.le;obtain⟨new,a⟩:=Qd h.sml h.sc g.ok g.type (by have:=h.bud;omega) om om;have n:=a.ext.types;obtain⟨b,c⟩:=ajF a.sml h.on a.dG om;exact⟨new,by have:=a.ext.trans b;rw[List.append_nil] at this;exact this.more om,c,a.inv,by have:=a.num;omega⟩
theorem Xd {s:cY} {on:Nat} {ba:ak} (h:o6 m s on ba e) (g:xl m s on ba e T) (n:(bS e).name≠[]):
  ∃new,On m (oh m s T (bS e).s).1 (s++[((bS e).name,(oh m s T (bS e).s).2,T)]) on ba e.n (bS e).rest new:=by
 have q:=h.room;have o:=h.cnt;have p:=(bS e).s.pos;have j:=g.le;obtain⟨_,d,⟨U,i⟩,_⟩:=g.rest n;obtain⟨new,a⟩:=Qd h.sml h.sc g.ok g.type (by have:=h.bud;omega) om om;have r:=a.ext.types;have b:=a.ext.count;have f:=a.num;have c:new.length<=lW new:=by
  unfold lW;clear a b f;induction new with
  |nil=>simp
  |cons t l _=>simp only[lC,List.map_cons,List.sum_cons];omega
 refine⟨new,a.ext.more om,⟨a.sml,h.sc.snoc a.dG g.small,d,⟨U,by rw[Gg];exact i⟩,?_,om,h.on,h.ba,om⟩,a.inv,om⟩;have:=h.bud;simp only[lA,lC,List.length_nil];omega
theorem ajI {s:cY} {on:Nat} {ba:ak} {f x:Ex} (h:o6 m s on ba e) (g:xl m s on ba e T) (d:(bS e).s= .bi lg f x):
  ∃new,Cut (cJ (cJ m s f.au).1 s x.au).1 (fD (cJ (cJ m s f.au).1 s x.au).1 s on ba (bS e).name T (bS e).rest).1 (fD (cJ (cJ m s f.au).1 s x.au).1 s on ba (bS e).name T (bS e).rest).2.1 (fD (cJ (cJ m s f.au).1 s x.au).1 s on ba (bS e).name T (bS e).rest).2.2 (e.n-3) new/\
   Fin m (zW (fD (cJ (cJ m s f.au).1 s x.au).1 s on ba (bS e).name T (bS e).rest).1 (cJ m s f.au).2 (cJ (cJ m s f.au).1 s x.au).2 (fD (cJ (cJ m s f.au).1 s x.au).1 s on ba (bS e).name T (bS e).rest).2.1) e.n new:=by
 have b:=g.ok;rw[d] at b;have r:=h.room;have q:=h.cnt;have l:=g.le;have p:3<=(bS e).s.n:=by rw[d];simp only[Ex.n];have:=f.pos;have:=x.pos;omega
 obtain⟨⟨_,s1,n⟩,c,s2,o⟩:=W9 h.sml h.sc (pF b.2.1) (pF b.2.2) om;have t2:=c.types;have c2:=c.count;simp only[List.length_nil] at c2;obtain⟨new,a⟩:=Xc h g s2 om om om;have t3:=a.ext.types;obtain⟨i,j⟩:=ajE a.sml n o a.on om;refine⟨new,⟨a.ext,a.sml,a.on,a.ba,a.inv,by have:=a.num;omega⟩,?_,j,a.inv,by have:=a.num;omega⟩;have:=(c.trans a.ext).trans i;rw[List.append_nil,List.nil_append] at this;exact this.more om
def Qf (m:Mk) (s:cY) (on:Nat) (ba:ak) (x:Ex):Tk:=⟨m.aL,m.types,0,[],s,x,on,ba,m.types.length⟩
def I3 (m:Mk) (s:cY) (on:Nat) (ba:ak) (r:Nat) (x:Ex):Mk:={(m.mn.cU Iz [aS r,m.aL]) with bT:=m.bT++[Qf m s on ba x]}
theorem Xe {s:cY} {on:Nat} {ba:ak} {c x y:Ex} (h:o6 m s on ba e) (g:xl m s on ba e T) (C:(bS e).s= .ite c x y):
  ∃new E,Cut (cJ m s c.au).1 (fD (cJ m s c.au).1 s on ba (bS e).name T (bS e).rest).1 (fD (cJ m s c.au).1 s on ba (bS e).name T (bS e).rest).2.1 (fD (cJ m s c.au).1 s on ba (bS e).name T (bS e).rest).2.2 (e.n-(bS e).s.n) new/\
   On m (I3 (fD (cJ m s c.au).1 s on ba (bS e).name T (bS e).rest).1 s (fD (cJ m s c.au).1 s on ba (bS e).name T (bS e).rest).2.1 (fD (cJ m s c.au).1 s on ba (bS e).name T (bS e).rest).2.2 (cJ m s c.au).2 x) s
    (fD (cJ m s c.au).1 s on ba (bS e).name T (bS e).rest).2.1 (fD (cJ m s c.au).1 s on ba (bS e).name T (bS e).rest).2.2 e.n y E:=by
 have j:=g.ok;have d:=g.type;rw[C] at j d;have U:=h.room;have S:=h.cnt;have L:=g.le;have hb:=h.bud;have J:=c.pos;have R:(bS e).s.n=1+c.n+x.n+y.n:=by rw[C];rfl
 have M:=x.pos;have N:=y.pos;obtain⟨n,s1,P⟩:=IW h.sml h.sc (pF j.1) om;have t1:=n.types;have c1:=n.count;simp only[List.length_nil] at c1;obtain⟨new,a⟩:=Xc h g s1 om om om;generalize fD (cJ m s c.au).1 s on ba (bS e).name T (bS e).rest=Q at a⊢;obtain⟨b,q,r⟩:=Q;dsimp only at a⊢;have t3:=a.ext.types;have H:=a.ext.count;have F:=a.num;have v:new.length<=lW new:=by
  unfold lW;clear a H F t3;induction new with
  |nil=>simp
  |cons t l _=>simp only[lC,List.map_cons,List.sum_cons];omega
 have K:=CJ (m:=b) om;have i:(∃X,bL x (fx s)=some X)/\∃Y,bL y (fx s)=some Y:=by
  unfold bL at d;cases o:bL c (fx s) with
  |none=>rw[o] at d;cases d
  |some A=>
   cases u:bL x (fx s) with
   |none=>rw[o,u] at d;cases d
   |some B=>
    cases I:bL y (fx s) with
    |none=>rw[o,u,I] at d;cases d
    |some D=>exact⟨⟨B,rfl⟩,⟨D,rfl⟩⟩
 have O:pG (Qf b s q r x):=
  ⟨j.2.1,i.1,h.sc,by show 5*s.length+2*x.n<=240;omega,by show b.types.length+0+8*x.n<=990;omega,a.sml.types,.inl rfl,.inl rfl,a.ba,a.on,K⟩
 refine⟨new,new++[Qf b s q r x],a,⟨?_,⟨?_,h.sc,j.2.2,i.2,om,?_,a.on,a.ba,?_⟩,?_,?_⟩⟩
 .have f:=n.trans a.ext;rw[List.nil_append] at f;refine⟨f.blocks,?_,?_,?_,?_⟩
  .show b.bT++[_]=_;rw[f.bT,List.append_assoc]
  .show b.count+1=_;rw[f.count,lA];simp;omega
  .have:=f.types;exact⟨this.1,by show b.types.length<=_;omega⟩
  .have:=f.code;show(b.code++[_]).length<=_;simp only[lA,lC,List.length_nil];omega
 .have:=pI (m:=b.mn) (hd:=Iz) (ps:=[aS (cJ m s c.au).2,b.aL]) ⟨a.sml.types,a.sml.code⟩ de sm (λp z=>by
   simp only[mC,List.not_mem_nil,or_false] at z;rcases z with rfl|rfl
   .have:=o5 P;omega
   .omega)
  exact⟨this.types,this.code⟩
 .show b.types.length+_<=_;omega
 .show b.count+1+_<=_;omega
 .intro k hk;rcases mA.1 hk with hk|hk
  .exact a.inv k hk
  .simp only[List.mem_singleton] at hk;rw[hk];exact O
 .rw[I0,Qc];show _+(x.n+1)+_+1<=_;omega
def ql (m:Mk) (a:List aq):Nat->Mk
 |0=>m
 |k+1=>((ql m a k).dG (nth a k).text).cU ux [aS (ql m a k).types.length,[48],aS k]
def CK (m:Mk) (aL:ak) (regs:List ak) (a b:ak):Mk:=
 let code:=dz [99] regs;let r:=m.types.length
 (((((m.dG code).cU ur [aS r,aL]).dG<|dz [116] [code,b]).cU mI [aS<|r+1,aS r,[48]]).dG a).cU uw [aS<|r+2,aS<|r+1,a,b]
def o7 (m:Mk) (regs:List ak):Mk:={m with code:=[],types:=regs}
def Ma (m:Mk) (t:Tk):Mk:=match t.self with
 |[a,b]=>CK m t.aL t.regs a b
 |_=>m
def ov (t:Tk):List aq:=match bP (t.regs.getD 0 [105]) with
 |some x=>x.ag.drop 1
 |none=>[]
def rQ (m:Mk) (t:Tk):Mk:=Ma (ql (o7 m t.regs) (ov t) t.loads) t
theorem Qg {t:Tk} {b:List aq} (h:t.regs.head?=some (dz [116] (b.map aq.text))) (d:bP (dz [116] (b.map aq.text))=some (iw [116] b)):ov t=b/\bP (t.regs.getD 0 [105])=some (iw [116] b):=by
 have e:t.regs.getD 0 [105]=dz [116] (b.map aq.text):=by
  cases c:t.regs with
  |nil=>rw[c] at h;cases h
  |cons a l=>rw[c] at h;simpa using h
 unfold ov;rw[e,d];exact⟨rfl,rfl⟩
structure Em (m m':Mk) (regs:List ak) (k:Nat):Prop where
 blocks:m'.blocks=m.blocks
 bT:m'.bT=m.bT
 count:m'.count=m.count
 types:m'.types.length=regs.length+k
 code:m'.code.length<=k
 sml:fT m'
theorem Qh {regs:List ak} (h:∀r∈regs,r.length<=100000):Em m (o7 m regs) regs 0:=⟨rfl,rfl,rfl,rfl,by simp[o7],⟨h,by simp[o7]⟩⟩
theorem Qi {m:Mk} {regs:List ak} {b:List aq} (h:∀r∈regs,r.length<=100000) (d:∀t∈b,t.text.length<=100000):∀k,regs.length+k<1000->k<=b.length->Em m (ql (o7 m regs) b k) regs k
 |0,_,_=>Qh h
 |k+1,hk,_=>by
  have a:=Qi (m:=m) h d k om om;have d1:=o5 (n:=(ql (o7 m regs) b k).types.length) (by rw[a.types];omega);have d2:=o5 (n:=k) om;refine⟨a.blocks,a.bT,a.count,by show(((ql (o7 m regs) b k).types++[_])).length=_;rw[lA,a.types];rfl,?_,?_⟩
  .show((ql (o7 m regs) b k).code++[_]).length<=_;have:=a.code;rw[lA];simp;omega
  .refine pI (a.sml.dG ?_) sm sm ?_
   .have:=d (nth b k) (by unfold nth;rw[gG,gE om];exact List.getElem_mem _);omega
   .intro p c;simp only[mC,List.not_mem_nil,or_false] at c;rcases c with rfl|rfl|rfl
    .omega
    .simp
    .omega
theorem Xg {regs:List ak} (b:regs.length=3) (h:∀r∈regs,r.length<=11200):(dz [99] regs).length<=33610:=by have a:=CG (m:=11200) regs h;rw[b] at a;rw[mS];simp only[lC,List.length_nil];omega
theorem ajJ (a b c d:ak):jv [a,b,c,d]=4+a.length+b.length+c.length+d.length:=by simp[jv];omega
theorem ajK (f:fT m) {aL:ak} (e:aL.length<=4) {regs:List ak} (c:regs.length=3) (h:∀r∈regs,r.length<=11200) {a b:ak} (d:a.length<=272) (hb:b.length<=11200) (g:m.types.length+3<1000):fT (CK m aL regs a b):=by grind [Xg,o5,dy.length,dz,mS,CI,CK,fT.cU,fT.dG,pI,ajJ]
theorem ajL {c:Mk} {regs:List ak} (h:Em m c regs k) (aL a b:ak) (d:fT (CK c aL regs a b)):Em m (CK c aL regs a b) regs (k+3):=
 ⟨h.blocks,h.bT,h.count,by have:=h.types;simp[CK,Mk.dG,Mk.cU];omega,by have:=h.code;simp[CK,Mk.dG,Mk.cU];omega,d⟩
theorem Xh {a:List ak} (h:s∈a):s.length<=jv a:=by
 unfold jv;have:∀{xs:List ak},s∈xs->s.length<=(xs.map List.length).sum:=by
  intro xs;induction xs with
  |nil=>intro h;cases h
  |cons x xs b=>
   intro h;rw[List.map_cons,List.sum_cons];rcases mC.1 h with rfl|h
   .omega
   .have:=b h;omega
 have:=this h;omega
theorem Qj {m:Mk} {t:Tk} (h:pG t):Em m (rQ m t) t.regs (t.loads+(if t.self=[] then 0 else 3)):=by
 have s:=h.room;have r:=t.expr.pos;have c:Em m (ql (o7 m t.regs) (ov t) t.loads) t.regs t.loads:=by
  rcases h.loads with d|⟨_,g,e,i⟩
  .rw[d];exact Qh h.regs
  .obtain⟨j,_⟩:=Qg g i;rw[j];refine Qi h.regs (λx q=>?_) _ om e;have l:=h.regs _<|List.mem_of_mem_head? g;rw[mS] at l;have:=Xh<|List.mem_map_of_mem (f:=aq.text) q;omega
 unfold rQ Ma;rcases h.self with d|⟨a,b,p,o,hb,n,e⟩
 .rw[d,iP rfl];exact c
 .rw[p,iN sm];refine ajL c _ _ _<|ajK c.sml h.aL n e o hb ?_;rw[c.types];omega
theorem Xi {t:Tk} (h:pG t) (a:m.count+t.expr.n<=900):o6 (rQ m t) t.sc t.on t.ba t.expr:=by have hb:=Qj (m:=m) h;have b:=h.room;refine⟨hb.sml,h.sc,h.ok,h.type,h.bud,?_,h.on,h.ba,by rw[hb.count];exact a⟩;rw[hb.types];split<;>omega
/-! ### A block's body -/
def nI:Nat->At->Ex->Mk
 |0,a,_=>a.m
 |k+1,a,e=>match lj a e with
  | .inl m=>m
  | .inr p=>nI k p.1 p.2
theorem Mb (m:Mk) (s:cY) (on:Nat) (ba:ak) (g:Goal):Ly ⟨m,s,on,ba⟩ g=⟨(fD m s on ba g.name (oW s g.s) g.rest).1,s,(fD m s on ba g.name (oW s g.s) g.rest).2.1,(fD m s on ba g.name (oW s g.s) g.rest).2.2⟩:=by unfold Ly fD;split<;>rfl
theorem Xj {s:cY} {on:Nat} {ba:ak} (h:o6 m s on ba e):match lj ⟨m,s,on,ba⟩ e with
  | .inl q=>∃new,Fin m q e.n new
  | .inr p=>∃new,On m p.1.m p.1.s p.1.on p.1.ba e.n p.2 new:=by
 obtain⟨T,g⟩:=h.goal;have o:=g.oW;have i:lj ⟨m,s,on,ba⟩ e=(if(bS e).name=[] then .inl (zX (oh m s (oW s (bS e).s) (bS e).s).1 on (oh m s (oW s (bS e).s) (bS e).s).2) else .inr (⟨(oh m s (oW s (bS e).s) (bS e).s).1,s++[((bS e).name,(oh m s (oW s (bS e).s) (bS e).s).2,oW s (bS e).s)],on,ba⟩,(bS e).rest))->
   match lj ⟨m,s,on,ba⟩ e with
   | .inl q=>∃new,Fin m q e.n new
   | .inr p=>∃new,On m p.1.m p.1.s p.1.on p.1.ba e.n p.2 new:=λl=>by
  rw[l,o];by_cases n:(bS e).name=[]
  .rw[iP n];exact ajG h g n
  .rw[iN n];exact Xd h g n
 cases j:(bS e).s with
 |«at» a=>exact i (by unfold lj;simp only[j])
 |un a b=>exact i (by unfold lj;simp only[j])
 |lt a b c=>exact i (by unfold lj;simp only[j])
 |fn a b c d f=>exact i (by unfold lj;simp only[j])
 |bi v f x=>
  by_cases r:v=lg
  .subst r;have l:lj ⟨m,s,on,ba⟩ e= .inl (zW (fD (cJ (cJ m s f.au).1 s x.au).1 s on ba (bS e).name T (bS e).rest).1 (cJ m s f.au).2 (cJ (cJ m s f.au).1 s x.au).2 (fD (cJ (cJ m s f.au).1 s x.au).1 s on ba (bS e).name T (bS e).rest).2.1):=by
    unfold lj;simp only[j,if_true,Mb];rw[<-j,o]
   rw[l];obtain⟨new,_,t⟩:=ajI h g j;exact⟨new,t⟩
  .exact i (by unfold lj;simp only[j,iN r])
 |ite c x y=>
  have l:lj ⟨m,s,on,ba⟩ e= .inr (⟨I3 (fD (cJ m s c.au).1 s on ba (bS e).name T (bS e).rest).1 s (fD (cJ m s c.au).1 s on ba (bS e).name T (bS e).rest).2.1 (fD (cJ m s c.au).1 s on ba (bS e).name T (bS e).rest).2.2 (cJ m s c.au).2 x,s,
    (fD (cJ m s c.au).1 s on ba (bS e).name T (bS e).rest).2.1,(fD (cJ m s c.au).1 s on ba (bS e).name T (bS e).rest).2.2⟩,y):=by
   unfold lj;simp only[j,Mb];rw[<-j,o];rfl
  rw[l];obtain⟨_,new,_,u⟩:=Xe h g j;exact⟨new,u⟩
structure yC (m m':Mk) (s:cY) (on:Nat) (ba:ak) (n k:Nat) (r:Ex) (new:List Tk):Prop where
 ext:Ext m m' k new
 inv:o6 m' s on ba r
 bT:∀k∈new,pG k
 num:lW new+r.n<=n
 steps:k+20*r.n<=20*n
theorem yC.start {s:cY} {on:Nat} {ba:ak} (h:o6 m s on ba e):yC m m s on ba e.n 0 e []:=⟨Ext.refl m,h,sm,by simp[I1],om⟩
theorem yC.step {f g:Mk} {s s2:cY} {on d:Nat} {ba e:ak} {r i:Ex} {new c:List Tk} (h:yC m f s on ba n k r new) (a:On f g s2 d e r.n i c):yC m g s2 d e n (k+20) i (new++c):=
 ⟨h.ext.trans a.ext,a.inv,λt b=>by rcases mA.1 b with b|b;exact h.bT t b;exact a.bT t b,by rw[I0];have:=h.num;have:=a.num;omega,by have:=h.steps;have:=a.num;omega⟩
structure Qk (m m':Mk) (n:Nat) (new:List Tk):Prop where
 ext:Ext m m' (20*n) new
 sml:fT m'
 inv:∀k∈new,pG k
 num:lW new+1<=n
theorem yC.fin {d e:Mk} {s:cY} {on:Nat} {ba:ak} {r:Ex} {new c:List Tk} (h:yC m d s on ba n k r new) (b:Fin d e r.n c):Qk m e n (new++c):=by
 have f:=h.steps;have g:=r.pos;refine⟨(h.ext.trans b.ext).more om,b.sml,λt a=>?_,by rw[I0];have:=h.num;have:=b.num;omega⟩;rcases mA.1 a with a|a
 .exact h.bT t a
 .exact b.inv t a
theorem Mc:∀(k:Nat) {m:Mk} {s:cY} {on:Nat} {ba:ak} {e:Ex},o6 m s on ba e->e.n<=k->∃new,Qk m (nI k ⟨m,s,on,ba⟩ e) e.n new
 |0,_,_,_,_,e,_,hk=>absurd hk (by have:=e.pos;omega)
 |k+1,m,s,on,ba,e,h,hk=>by
  have a:=Xj h;unfold nI;cases d:lj ⟨m,s,on,ba⟩ e with
  |inl _=>rw[d] at a;obtain⟨new,a⟩:=a;exact⟨_,(yC.start h).fin a⟩
  |inr p=>
   rw[d] at a;obtain⟨⟨_,s1,_,_⟩,_⟩:=p;obtain⟨new,a⟩:=a;dsimp only at a⊢;obtain⟨f,c⟩:=Mc k a.inv (by have:=a.num;omega);have g:=a.num;refine⟨new++f,(a.ext.trans c.ext).more om,c.sml,λt b=>?_,by rw[I0];have:=c.num;omega⟩;rcases mA.1 b with b|b
   .exact a.bT t b
   .exact c.inv t b
theorem ajN:∀(k:Nat) {m:Mk} {s:cY} {on:Nat} {ba:ak} {e:Ex},o6 m s on ba e->e.n<=k->nI k ⟨m,s,on,ba⟩ e=nI e.n ⟨m,s,on,ba⟩ e:=by
 have b:∀(k j:Nat) {m:Mk} {s:cY} {on:Nat} {ba:ak} {e:Ex},o6 m s on ba e->e.n<=k->e.n<=j->nI k ⟨m,s,on,ba⟩ e=nI j ⟨m,s,on,ba⟩ e:=by
  intro k;induction k with
  |zero=>intro j _ _ _ _ e _ hk;have:=e.pos;omega
  |succ k d=>
   intro j m s on ba e h hk _;cases j with
   |zero=>have:=e.pos;omega
   |succ j=>
    have a:=Xj h;unfold nI;cases c:lj ⟨m,s,on,ba⟩ e with
    |inl _=>rfl
    |inr p=>rw[c] at a;obtain⟨⟨_,s1,_,_⟩,_⟩:=p;obtain⟨new,a⟩:=a;dsimp only at a⊢;have f:=a.num;exact d j a.inv om om
 exact λk m s on ba e h hk=>b k e.n h hk (lR _)
/-! ### A program -/
def En (m:Mk) (aL:ak) (regs:List ak):Mk:={m with blocks:=m.blocks++[⟨aL,regs,m.code⟩]}
abbrev sT:ak:=[40,116,41]
def uN (T:Ty):Mk:=
 let on:=dR<|bH T;let code:=dz [99] [sT,bH T]
 ((((⟨[],[],0,false,[],[sT,code,dz [116] [code,sT],on]⟩:Mk).cU mI [[48]]).cU ur [[49],B6]).cU mI [[50],[49],[48]]).cU uw [[51],[50],on,sT]
def I5 (e:Ex) (T:Ty):Tk:=⟨DZ,[],0,[],[],e,3,dR<|bH T,0⟩
def tC (e:Ex) (T:Ty):Mk:=nI e.n ⟨uN T,[],3,dR<|bH T⟩ e
def Eo (e:Ex) (T:Ty):Mk:=En {(En (tC e T) DZ []) with code:=[[40,104,97,108,116,32,49,41]]} B6 [sT,bH T]
def GB (m:Mk) (t:Tk):Mk:=En (nI t.expr.n ⟨rQ m t,t.sc,t.on,t.ba⟩ t.expr) t.aL t.regs
def iS (a:List Tk) (i:Nat):Tk:=a.getD i ⟨[],[],0,[],[],.at [],0,[],0⟩
def Av:Nat->Mk->Nat->Mk
 |0,m,_=>m
 |k+1,m,i=>if i<m.bT.length then Av k (GB m<|iS m.bT i) (i+1) else m
def ofM (e:Ex) (T:Ty):Mk:=Av 1000 (Eo e T) 0
structure tE (m:Mk) (i:Nat):Prop where
 le:i<=m.bT.length
 count:m.count=m.bT.length
 num:i+lW (m.bT.drop i)<=120
 inv:∀t,t∈m.bT.drop i->pG t
 BE:∀b∈m.blocks,b.small/\b.aL.length<=10
 bnum:m.blocks.length=i+2
theorem Xk (f:e.ok) (d:bL e []=some T) (m:e.n<=120):o6 (uN T) [] 3 (dR<|bH T) e:=by
 have b:=mH (Γ:=[]) (λs T h=>by simp[look] at h) d;have i:=rb b;have j:=vV b;have l:(dz [99] [sT,bH T]).length<=300:=by rw[mS,CI];simp only[lC,List.length_nil];omega
 have g:CH (dR<|bH T):=⟨T,b,rfl⟩;refine⟨?_,⟨λs T h=>by simp[fx,look] at h,sm⟩,f,⟨T,d⟩,by simp;omega,by simp[uN,Mk.cU];omega,om,g,by simp[uN,Mk.cU];omega⟩;unfold uN;refine pI (pI (pI (pI ⟨?_,sm⟩ sm sm ?_) sm sm ?_) sm sm ?_) sm sm ?_
 .intro s c;simp only[mC,List.not_mem_nil,or_false] at c;rcases c with rfl|rfl|rfl|rfl
  .simp
  .omega
  .rw[mS,CI];simp only[lC,List.length_nil];omega
  .omega
 all_goals
  intro p a;simp only[mC,List.not_mem_nil,or_false] at a
  first
  |(rcases a with rfl|rfl|rfl|rfl<;>first|omega|simp)
  |(rcases a with rfl|rfl|rfl<;>first|omega|simp)
  |(rcases a with rfl|rfl<;>first|omega|simp)
  |(rw[a];simp)
theorem Xl (a:e.ok) (c:bL e []=some T) (b:e.n<=120):∃new,Qk (uN T) (tC e T) e.n new:=Mc _ (Xk a c b)<|lR _
theorem Xm (a:List Tk):a.length<=lW a:=by induction a<;>grind [lW]
theorem ajO (m:Mk) (l:ak) (r:List ak):(En m l r).blocks=m.blocks++[⟨l,r,m.code⟩]:=rfl
theorem Ql (d:e.ok) (l:bL e []=some T) (j:e.n<=120):tE (Eo e T) 0:=by
 obtain⟨new,h⟩:=Xl d l j;have f:=h.ext.bT;have g:=h.ext.count;have m:=h.num;have n:=h.ext.code;have i:=h.ext.blocks;have hb:(Eo e T).blocks=[⟨DZ,[],(tC e T).code⟩,⟨B6,[sT,bH T],[[40,104,97,108,116,32,49,41]]⟩]:=by unfold Eo;rw[ajO];show(tC e T).blocks++_++_=_;rw[i];rfl
 have c:(Eo e T).bT=new:=by show(tC e T).bT=new;rw[f];rfl
 refine⟨Nat.zero_le _,?_,?_,?_,?_,by rw[hb];rfl⟩
 .rw[c];show(tC e T).count=_;rw[g];simp[uN,Mk.cU]
 .rw[c,List.drop_zero];omega
 .rw[c,List.drop_zero];exact h.inv
 .intro b a;rw[hb] at a;have o:(uN T).code.length=4:=rfl;simp only[mC,List.not_mem_nil,or_false] at a;rcases a with rfl|rfl
  .exact⟨⟨by simp,sm,by show(tC e T).code.length<_;omega⟩,sm⟩
  .exact⟨⟨by simp,sm,sm⟩,sm⟩
theorem Md {a:List Tk} (b:i<a.length):a.drop i=iS a i::a.drop (i+1):=by simp_all[iS]
theorem tE.task (h:tE m i) (a:i<m.bT.length):pG (iS m.bT i)/\m.count+(iS m.bT i).expr.n<=900/\m.bT.length<=120:=by
 have c:=h.num;have b:=Xm<|m.bT.drop i;rw[List.length_drop] at b;have d:lW (m.bT.drop i)=(iS m.bT i).expr.n+1+lW (m.bT.drop<|i+1):=by rw[Md a];simp[lW]
 have e:=h.count;exact⟨h.inv _ (by rw[Md a];simp),om,om⟩
theorem tE.step (h:tE m i) (f:i<m.bT.length):tE (GB m<|iS m.bT i) (i+1):=by
 obtain⟨e,r,_⟩:=h.task f;have v:=h.num;have y:lW (m.bT.drop i)=(iS m.bT i).expr.n+1+lW (m.bT.drop<|i+1):=by rw[Md f];simp[lW]
 have hb:=Qj (m:=m) e;obtain⟨new,d⟩:=Mc _ (Xi e r)<|lR _;have l:=d.ext.bT;have n:=d.ext.count;have p:=d.ext.code;have j:=d.ext.blocks;have u:=d.num;have s:=hb.code;rw[hb.bT] at l;rw[hb.count] at n;rw[hb.blocks] at j;have A:=e.room;have o:(m.bT++new).drop (i+1)=m.bT.drop (i+1)++new:=by rw[List.drop_append_of_le_length f]
 have g:(GB m<|iS m.bT i).bT=m.bT++new:=l;refine⟨by rw[g,lA];omega,?_,?_,?_,?_,?_⟩
 .rw[g,lA,<-h.count];exact n
 .rw[g,o,I0];omega
 .intro t a;rw[g,o] at a;rcases mA.1 a with a|a
  .exact h.inv t (by rw[Md f];simp[a])
  .exact d.inv t a
 .intro b q;have c:b∈m.blocks++[⟨(iS m.bT i).aL,(iS m.bT i).regs,(nI (iS m.bT i).expr.n ⟨rQ m (iS m.bT i),(iS m.bT i).sc,(iS m.bT i).on,(iS m.bT i).ba⟩ (iS m.bT i).expr).code⟩]:=by rw[<-j];exact q
  rcases mA.1 c with c|c
  .exact h.BE b c
  .simp only[List.mem_singleton] at c;rw[c];have z:=e.aL;refine⟨⟨by show(iS m.bT i).aL.length<_;omega,by show(iS m.bT i).regs.length<_;omega,?_⟩,by show(iS m.bT i).aL.length<=_;omega⟩;refine Nat.lt_of_le_of_lt p ?_;have:(if(iS m.bT i).self=[] then 0 else 3)<=3:=by split<;>omega
   omega
 .show((nI _ _ _).blocks++[_]).length=_;rw[j,lA,h.bnum];rfl
theorem Xn (h:¬i<m.bT.length):∀k,Av k m i=m
 |0=>rfl
 |k+1=>by unfold Av;rw[iN h]
theorem Xo (h:i<m.bT.length) (k:Nat):Av (k+1) m i=Av k (GB m<|iS m.bT i) (i+1):=by rw[Av,iP h]
theorem tE.small (h:tE m i):uj m.blocks:=by have b:=h.num;refine⟨by rw[h.bnum];omega,λj a=>(h.BE _ ?_).1⟩;unfold bX;rw[gG,gE a];exact List.getElem_mem a
theorem tE.labels (h:tE m i):∀b∈m.blocks,b.aL.length<=10:=λb hb=>(h.BE b hb).2
theorem CL (h:ak):(iO h=true/\ij h=false/\h≠iy/\h≠ig/\h≠iM/\eP h=(1,3))\/(iO h=false/\ij h=false/\h=iy/\eP h=(1,4))\/
  (iO h=false/\ij h=false/\h=ig/\eP h=(2,4))\/(iO h=false/\ij h=false/\h=iM/\eP h=(5,6))\/(iO h=false/\ij h=true/\h≠iy/\h≠ig/\h≠iM/\eP h=(1,2))\/
  (iO h=false/\ij h=false/\h≠iy/\h≠ig/\h≠iM/\eP h=(0,0)):=by
 by_cases hb:iO h=true
 .left;have hk:eP h=(1,3):=by unfold eP;rw[iP hb]
  have g:=hb;simp only[iO,oE,dE] at g;rcases g with(((e|e)|e)|e)|e<;>subst e<;>refine⟨rfl,rfl,by decide,by decide,by decide,hk⟩
 .have d:iO h=false:=by simpa using hb
  right;by_cases a:h=iy
  .left;exact⟨d,by rw[a];rfl,a,by rw[a];rfl⟩
  .right;by_cases b:h=ig
   .left;exact⟨d,by rw[b];rfl,b,by rw[b];rfl⟩
   .right;by_cases c:h=iM
    .left;exact⟨d,by rw[c];rfl,c,by rw[c];rfl⟩
    .right;by_cases f:ij h=true
     .left;exact⟨d,f,a,b,c,by unfold eP;rw[iN hb,iN a,iN b,iN c,iP f]⟩
     .right;exact⟨d,by simpa using f,a,b,c,by unfold eP;rw[iN hb,iN a,iN b,iN c,iN f]⟩
theorem Mf:eP iy=(1,4)/\eP ig=(2,4)/\eP iM=(5,6)/\ij iy=false/\ij ig=false/\ij iM=false/\iO iy=false/\iO ig=false/\iO iM=false:=by simp_all[eP,ij,iO]
def GF (a:List aq):Bool:=(decide ((eP (nth a 0).au).1<=1)||eJ (nth a 1).au)&&
 (decide ((eP (nth a 0).au).1≠5)||(eJ (nth a 2).au&&decide ((nth a 1).au≠(nth a 2).au)&&kR (nth a 3)&&kR (nth a 4)))
theorem ajP (g:List aq):oT g=(decide ((eP (nth g 0).au).1≠0)&&decide (g.length=(eP (nth g 0).au).2)&&GF g&&(g.drop (eP (nth g 0).au).1).all er):=by
 unfold GF
 match g with
 |[]=>simp[oT,nth,aq.au,eP,iO,ij]
 |[h]=>rcases CL h.au with⟨h1,h2,h3,h4,h5,hk⟩|⟨h1,h2,h3,hk⟩|⟨h1,h2,h3,hk⟩|⟨h1,h2,h3,hk⟩|⟨h1,h2,h3,h4,h5,hk⟩|⟨h1,h2,h3,h4,h5,hk⟩<;>simp[oT,nth,hk]
 |[h,a]=>rcases CL h.au with⟨h1,h2,h3,h4,h5,hk⟩|⟨h1,h2,h3,hk⟩|⟨h1,h2,h3,hk⟩|⟨h1,h2,h3,hk⟩|⟨h1,h2,h3,h4,h5,hk⟩|⟨h1,h2,h3,h4,h5,hk⟩<;>simp[oT,nth,hk,h1,h2,h3,Mf]
 |[h,a,b]=>rcases CL h.au with⟨h1,h2,h3,h4,h5,hk⟩|⟨h1,h2,h3,hk⟩|⟨h1,h2,h3,hk⟩|⟨h1,h2,h3,hk⟩|⟨h1,h2,h3,h4,h5,hk⟩|⟨h1,h2,h3,h4,h5,hk⟩<;>simp[oT,nth,hk,h1,h2,h3,Mf]
 |[h,a,b,c]=>rcases CL h.au with⟨h1,h2,h3,h4,h5,hk⟩|⟨h1,h2,h3,hk⟩|⟨h1,h2,h3,hk⟩|⟨h1,h2,h3,hk⟩|⟨h1,h2,h3,h4,h5,hk⟩|⟨h1,h2,h3,h4,h5,hk⟩<;>simp[oT,nth,hk,h1,h2,h3,Mf]<;>try simp[*]
 |[h,a,b,c,d]=>rcases CL h.au with⟨h1,h2,h3,h4,h5,hk⟩|⟨h1,h2,h3,hk⟩|⟨h1,h2,h3,hk⟩|⟨h1,h2,h3,hk⟩|⟨h1,h2,h3,h4,h5,hk⟩|⟨h1,h2,h3,h4,h5,hk⟩<;>simp[oT,nth,hk]
 |[h,a,b,c,d,e]=>rcases CL h.au with⟨h1,h2,h3,h4,h5,hk⟩|⟨h1,h2,h3,hk⟩|⟨h1,h2,h3,hk⟩|⟨h1,h2,h3,hk⟩|⟨h1,h2,h3,h4,h5,hk⟩|⟨h1,h2,h3,h4,h5,hk⟩<;>simp[oT,nth,hk,h3,Mf]<;>try simp[*,Bool.and_assoc]
 |h::a::b::c::d::e::f::r=>rcases CL h.au with⟨h1,h2,h3,h4,h5,hk⟩|⟨h1,h2,h3,hk⟩|⟨h1,h2,h3,hk⟩|⟨h1,h2,h3,hk⟩|⟨h1,h2,h3,h4,h5,hk⟩|⟨h1,h2,h3,h4,h5,hk⟩<;>simp[oT,nth,hk]<;>omega
theorem Xp (t:aq):er t=if t.au≠[] then rH t.au else oT t.ag:=by cases t with|mk a ps=>rw[er];rfl
theorem ajQ (a:t.au=[]):er t=(decide ((eP (nth t.ag 0).au).1≠0)&&decide (t.ag.length=(eP (nth t.ag 0).au).2)&&GF t.ag&&(t.ag.drop (eP (nth t.ag 0).au).1).all er):=by grind [Xp,ajP]
theorem Xq (d:List aq):uq d=(decide (d.length=3)&&(decide ((nth d 0).au=[62])||decide ((nth d 0).au=[42]))&&(p7 (nth d 1)&&p7 (nth d 2))):=by
 match d with
 |[]=>simp[uq]
 |[h]=>simp[uq]
 |[h,a]=>simp[uq]
 |[h,a,b]=>simp[uq,nth]
 |h::a::b::c::r=>simp[uq]
/-! ### Texts -/
def Aw (s:ak):Bool:=match bP s with
 |some t=>kR t
 |none=>false
theorem ajR:Aw s=true↔∃T:Ty,T.n<=16/\s=T.text:=by grind [Aw,bP,BX,vI,p5,Ty.bP,Good.wf,Ex.wf]
theorem Xr:Aw T.text=decide (T.n<=16):=by grind [ajR,Ty.inj]
def Ep (s c:ak):Option (Ty×Ty)->Prop
 |some (a,b)=>∃f,c=kQ f/\s=(Ty.op f a b).text/\(Ty.op f a b).n<=16
 |none=>∀f a b,c=kQ f->s=(Ty.op f a b).text->¬(Ty.op f a b).n<=16
def Mg (t:aq):Bool:=er t&&decide (gC t<=120)
def nJ (s:ak):Bool:=match bP s with
 |some t=>Mg t
 |none=>false
theorem ajS (a:WF t):Mg t=true↔∃e:Ex,t=e.av/\e.ok/\e.n<=120:=by grind [Mg,ah7,Ex.gC]
theorem yD:nJ s=true↔∃e:Ex,bP s=some e.av/\e.ok/\e.n<=120:=by grind [nJ,bP,ajS,vI]
theorem Xs {ps:List aq} (i:Nat):ko (ps.take i)<=ko ps:=by
 conv=>rhs;rw[<-List.take_append_drop i ps,Vu]
 omega
theorem ajT (t:aq):ko t.ag<=t.size:=by
 cases t with
 |mk a ps=>have:=Pp ps;simp only[aq.size,aq.ag];omega
theorem Xt:∀(m:Nat) (t:aq),t.size<=m->t.size<=10000000->WF t->∀(v:Value) (L:List Nat) (w:World),aV L w v t->
  bD Tryz.prog 118 [v] w λr w'=>r= .int .i64 (gC t:Int)/\aj [] w w':=by
 intro m;induction m with
 |zero=>intro t h;have:=pZ t;omega
 |succ m I=>
  intro t _ _ s v L w F;obtain⟨a,n,c,rfl,E,q⟩:=cW F;subst E;have O:=lD t;have C:=ajT t;have b:=aj.refl [] w;refine cu [.tmp 2] 24 Tryz.func118 rfl aeD rfl rfl ?_;refine zr<|eK rfl λ_ p e _=>?_;have b:=b.ext p;refine W ?_;refine zc rfl (λf=>?_) λf=>?_;have g:gC t=1:=by rw[Po,iP f]
  refine W ?_;exact⟨_,rfl,by rw[g];rfl,b⟩;have g:gC t=ko t.ag:=by rw[Po,iN f]
  refine W ?_;refine eW (λk:Nat=>[(1,.pointer<|some ⟨w.heap.size,0,none⟩),(3,.int .i64 ((ko (t.ag.take k):Nat):Int)),(4,.int .i64 (k:Int))]) (λk w'=>aj [] w w'/\aK w' w.heap.size [str t.au,.slice a t.ag.length c].toArray 103/\k<=t.ag.length) (λk=>t.ag.length-k) (0) (⟨rfl,rfl,rfl⟩) (⟨b,e,om⟩) λd J _ B=>?_;obtain⟨b,e,hk⟩:=B;refine W ?_;refine zc rfl (λA=>?_) λA=>?_;have l:=ek (ps:=t.ag) (i:=d) om;obtain⟨_,_,_,_,_,rfl,H,u,y⟩:=gB q l;subst u;have o:=s.nth (i:=d) om;have N:=kP (t:=t) (i:=d) om;have K:=Vv l;have D:=Xs (ps:=t.ag)<|d+1;refine WL ?_;refine zl jC rfl (e.at rfl)<|zm<|zi cT aO rfl rfl om<|zL fN aO rfl (H.ext b) rfl<|aA (I (nth t.ag d) om om o _ L J<|(jQ y).ext b) ?_;rintro _ _ ⟨rfl,j⟩;have M:=j.size;refine bQ j b e λb e=>?_;refine W ?_;exact⟨d+1,⟨rfl,congrArg (Value.int .i64) om,rfl⟩,⟨b,e,om⟩,om⟩;have z:d=t.ag.length:=by omega
  subst z;refine W ?_;exact⟨_,rfl,by rw[g,List.take_length];rfl,b⟩
theorem ajU:∀(m:Nat) (t:aq),t.size<=m->t.size<=10000000->WF t->∀(v:Value) (L:List Nat) (w:World),aV L w v t->
  bD Tryz.prog 189 [v] w λr w'=>r= .bool (p7 t)/\aj [] w w':=by
 intro m;induction m with
 |zero=>intro t h;have:=pZ t;omega
 |succ m B=>
  intro t _ _ p v L w R;obtain⟨a,n,c,rfl,Q,e⟩:=cW R;subst Q;have d:=aj.refl [] w;have mP:=lD t;refine cu [.tmp 2] 41 Tryz.func189 rfl afK rfl rfl ?_;refine zr<|eK rfl λX I j _=>bQ I d e λd e=>?_;refine W ?_;refine zc rfl (λf=>?_) λf=>?_;have l:p7 t=decide (t.au=[105]):=by rw[Vw,iP f]
  refine W ?_;exact⟨_,rfl,by rw[l];rfl,d⟩;have A:t.au=[]:=Classical.not_not.1 f;have T:=p.pos A;have l:p7 t=uq t.ag:=by rw[Vw,iN λh=>h A]
  obtain⟨b,_,_,_,_,rfl,_,_,_⟩:=gB e<|ek T;refine WZ ?_;apply oP 15 13 28 rfl oQ;intro y;refine WZ ?_;apply oB 7 20 27 rfl oQ;intro z;refine WZ ?_;exact oQ;intro D;exact oQ;intro D;refine bf<|zc rfl (λg=>?_) λg=>?_;have S:uq t.ag=false:=by rw[Xq];simp only[oE,aE,dE] at g;rcases g with h|⟨f,y⟩;(·rw[dF om];rfl);(·rw[dF f,dF y];simp)
  refine W ?_;exact⟨_,rfl,by rw[l,S];rfl,d⟩;simp only[Bool.or_eq_false_iff,Bool.and_eq_false_iff,decide_eq_false_iff_not,Classical.not_not] at g;obtain⟨_,H⟩:=g;have z:t.ag.length=3:=om;have P:uq t.ag=(p7 (nth t.ag 1)&&p7 (nth t.ag 2)):=by rw[Xq,dT z];rcases H with h|h<;>rw[h]<;>rfl
  obtain⟨_,_,_,_,_,N,J,V,U⟩:=gB e<|ek (i:=1) om;cases N;subst V;obtain⟨_,_,_,_,_,O,q,E,F⟩:=gB e<|ek (i:=2) om;cases O;subst E;have Z:=kP (t:=t) (i:=1) om;have K:=kP (t:=t) (i:=2) om;have M:=jQ U;have s:=jQ F;refine iD<|zr<|zf kn rfl<|zl jC rfl (j.at rfl)<|zi (i:=1) cT aO rfl rfl om<|zL fN aO rfl J rfl<|aA (B (nth t.ag 1) om om (p.nth om) _ L X M) ?_;rintro _ C ⟨rfl,u⟩;have K:=u.size;refine gO u d j q s λd j q s=>?_;refine WZ ?_;apply oA 6 34 40 (aj [] C) rfl oQ;intro _;refine zf kn rfl<|zl jC rfl (j.at rfl)<|zi (i:=2) cT aO rfl rfl om<|zL fN aO rfl q rfl<|aA (B (nth t.ag 2) om om (p.nth om) _ L C s) ?_;rintro _ Y ⟨rfl,o⟩;have fl:=o.size;exact oQ;intro D Y o;have d:=d.ext o;refine W ?_;exact⟨_,rfl,by rw[l,P];rfl,d⟩
theorem CN (t:aq) (l:t.size<=10000000) (i:WF t) (v:Value) (L:List Nat) (w:World) (j:aV L w v t):
  bD Tryz.prog 154 [v] w λr w'=>r= .bool (kR t)/\aj [] w w':=by
 have d:=j;obtain⟨a,n,c,rfl,_,_⟩:=cW j;have b:=aj.refl [] w;refine cu [.tmp 2] 10 Tryz.func154 rfl afd rfl rfl ?_;refine zr<|eK rfl λp o f _=>bQ o b d λb d=>?_;refine W ?_;refine aA (ajU t.size t (lR _) l i _ L p d) ?_;rintro _ m ⟨rfl,g⟩;have s:=g.size;refine cQ g b d f λb d f=>?_;refine WZ ?_;apply oA 4 5 9 (aj [] m) rfl oQ;intro _;refine W ?_;refine aA (Xt t.size t (lR _) l i _ L m d) ?_;rintro _ q ⟨rfl,e⟩;have u:=e.size;exact oQ;intro _ q e;have b:=b.ext e;refine W ?_;exact⟨_,rfl,congrArg Value.bool (show _=kR t from by unfold kR;congr 1;exact decide_eq_decide.2 om),b⟩
theorem ajV (h:Ga s t):((bP s).isSome&&kR t)=Aw s:=by
 unfold Aw;cases a:bP s with
 |none=>rfl
 |some u=>rw[h.1 u a];rfl
theorem Qn (s:ak) (w:World):bD Tryz.prog 195 [str s] w λr w'=>r= .bool (Aw s)/\aj [] w w':=by have a:=aj.refl [] w;refine cu [.tmp 2] 15 Tryz.func195 rfl afR rfl rfl ?_;refine W ?_;refine aA (LM s [] w sm) ?_;rintro _ _ ⟨n,g⟩;have q:=g.size;have a:=a.ext g;obtain⟨t,_,rfl,b,l⟩:=n;obtain⟨_,_,_,rfl,_,_⟩:=cW b;refine W ?_;refine dj aO rfl rfl rfl λ_ i j _=>?_;have a:=a.grow;have a:=a.ext i;have b:=b.grow;have b:=b.ext i;refine cF aO rfl rfl rfl j rfl λm f j _=>?_;have a:=a.aB f sx;have b:=b.aB f sx;refine W ?_;apply oA 3 11 14 (aj [] m) rfl oQ;intro o;obtain⟨u,d⟩:=Option.isSome_iff_exists.1 o;have e:=l.1 u d;subst e;refine W ?_;refine aA (CN t (by have:=BG d;omega) (vI d) _ _ m b) ?_;rintro _ p ⟨rfl,c⟩;have v:=c.size;exact oQ;intro _ p c;have a:=a.ext c;refine W ?_;exact⟨_,rfl,congrArg Value.bool<|ajV l,a⟩
def uO:Option (Ty×Ty)->ak
 |some p=>p.1.text
 |none=>[]
def Ax:Option (Ty×Ty)->ak
 |some p=>p.2.text
 |none=>[]
def Qo (o:Option (Ty×Ty)):Value:=.tuple #[str<|uO o,str<|Ax o,.bool o.isSome]
theorem ajW {d:ak} (l:Ga s t) (h:(((!(bP s).isSome||!kR t)||decide (t.au≠[]))||decide ((nth t.ag 0).au≠d))=true):Ep s d none:=by
 intro f a b g i j;have c:bP s=some (Ty.op f a b).av:=by rw[i];exact Ty.bP om
 have e:=l.1 _ c;subst e;have m:kR (Ty.op f a b).av=true:=(BX<|vI c).2 ⟨_,rfl,j⟩;rw[c,m] at h;simp[Ty.av,aq.au,aq.ag,nth,bI,g] at h
theorem ajX {c:ak} (m:Ga s t) (h:(((!(bP s).isSome||!kR t)||decide (t.au≠[]))||decide ((nth t.ag 0).au≠c))=false):∃f A B,t=(Ty.op f A B).av/\(Ty.op f A B).n<=16/\Ep s c (some (A,B)):=by
 simp only[Bool.or_eq_false_iff,Bool.not_eq_false',decide_eq_false_iff_not,Classical.not_not] at h;obtain⟨⟨⟨d,g⟩,j⟩,l⟩:=h;obtain⟨u,a⟩:=Option.isSome_iff_exists.1 d;have e:=m.1 u a;subst e;obtain⟨T,rfl,b⟩:=(BX<|vI a).1 g;cases T with
 |i=>simp[Ty.av,bI,aq.au] at j
 |op f A B=>exact⟨f,A,B,rfl,b,f,by rw[<-l];rfl,(p5 a).2.2.1.symm,b⟩
theorem Xv (s E:ak) (w:World):bD Tryz.prog 197 [str s,str E] w λr w'=>(∃o,Ep s E o/\r=Qo o)/\aj [] w w':=by have a:=aj.refl [] w;refine cu [.tmp 4,.tmp 5,.tmp 6] 45 Tryz.func197 rfl afS rfl rfl ?_;refine W ?_;refine aA (LM s [] w sm) ?_;rintro _ _ ⟨R,C⟩;have cH:=C.size;have a:=a.ext C;obtain⟨t,_,rfl,c,n⟩:=R;obtain⟨_,_,_,rfl,Q,b⟩:=cW c;subst Q;refine W ?_;refine dj aO rfl rfl rfl λ_ q m _=>?_;have a:=a.grow;have a:=a.ext q;have c:=c.grow;have c:=c.ext q;have b:=b.grow;have b:=b.ext q;refine cF aO rfl rfl rfl m rfl λF p m _=>?_;have a:=a.aB p sx;have c:=c.aB p sx;have b:=b.aB p sx;refine W ?_;apply oO 4 16 20 (aj [] F) rfl oQ;intro S;obtain⟨u,d⟩:=Option.isSome_iff_exists.1 S;have e:=n.1 u d;subst e;refine W ?_;refine aA (CN t (by have:=BG d;omega) (vI d) _ _ F c) ?_;rintro _ _ ⟨rfl,L⟩;have fP:=L.size;exact oQ;intro I H M;refine cQ M a b m λa b m=>?_;refine WZ ?_;apply oP 4 21 25 rfl oQ;intro _;refine WZ ?_;exact oQ;intro I;refine WZ ?_;apply oP 8 26 34 rfl oQ;intro D;simp only[Bool.or_eq_false_iff,Bool.not_eq_false',decide_eq_false_iff_not,Classical.not_not] at D;obtain⟨⟨Y,_⟩,Z⟩:=D;obtain⟨u,d⟩:=Option.isSome_iff_exists.1 Y;have e:=n.1 u d;subst e;have U:=(vI d).pos Z;obtain⟨_,_,_,_,_,N,_,_,_⟩:=gB b<|ek U;subst N;refine WZ ?_;exact oQ;intro I;refine bf<|zc rfl (λz=>?_) λz=>?_;refine W ?_;exact⟨_,rfl,⟨none,ajW n z,rfl⟩,a⟩;obtain⟨f,A,B,e,_,T⟩:=ajX n z;subst e;have Vz:(Ty.op f A B).n=1+A.n+B.n:=rfl;have hA:=Ty.size A;have hB:=Ty.size B;have Qp:=Ty.len A;have Qq:=Ty.len B;have nH:(Ty.op f A B).av.ag.length=3:=rfl;obtain⟨_,_,_,_,_,O,_,tt,qh⟩:=gB b<|ek (i:=1) om;subst O;subst tt;obtain⟨_,_,_,_,_,P,_,J,K⟩:=gB b<|ek (i:=2) om;cases P;subst J;have v:aV _ H _ A.av:=jQ qh;have y:aV _ H _ B.av:=jQ K;refine WZ ?_;apply dV dh 13 [35,36,37,38,39,40,41,42,43,44,4,5,6] [[],[0],[1],[2],[3],[],[5],[6],[7],[8],[4],[9],[]] (it [_,_,_,_,_,_,_,_,_,_,_,_,_]) de rfl;intro _ aC;refine VA ?_;refine vk aC (λx l g=>?_) ?_;refine zi (i:=1) cT aO rfl rfl ((show 1<3 from om)) ?_;exact pv;refine VA ?_;refine vk aC (λx l g=>?_) ?_;have v:=v.ext g;refine aA (vU A.av.size A.av (lR _) A.fK.wf om (show A.text.length<=100000000 from om) _ _ l v) ?_;rintro _ w7 ⟨rfl,j⟩;have X:=j.size;exact pk j;refine VA ?_;refine vk aC (λx l g=>?_) ?_;refine zi (i:=2) cT aO rfl rfl ((show 2<3 from om)) ?_;exact pv;refine VA ?_;refine vk aC (λx l g=>?_) ?_;have y:=y.ext g;refine aA (vU B.av.size B.av (lR _) B.fK.wf om (show B.text.length<=100000000 from om) _ _ l y) ?_;rintro _ w7 ⟨rfl,j⟩;have X:=j.size;exact pk j;exact VZ;intro x _ V;have a:=a.ext V;change OW _ _ _ _ [] (aY (aX _ x _)<|zZ 35 [_,_,_,_,_,_,_,_,_,_]++[(4,_),(5,_),(6,_)]) _;refine W ?_;exact⟨_,rfl,⟨some (A,B),T,rfl⟩,a⟩
theorem Xw (s:ak) (w:World):bD Tryz.prog 171 [str s] w λr w'=>(∃o,Ep s [62] o/\r=Qo o)/\aj [] w w':=by have a:=aj.refl [] w;refine cu [.tmp 2,.tmp 3,.tmp 4] 10 Tryz.func171 rfl afv rfl rfl ?_;refine W ?_;refine aA (Xv s [62] w) ?_;rintro _ _ ⟨c,b⟩;have e:=b.size;have a:=a.ext b;obtain⟨o,d,rfl⟩:=c;refine W ?_;exact⟨_,rfl,⟨o,d,rfl⟩,a⟩
theorem Xx (s:ak) (w:World):bD Tryz.prog 170 [str s] w λr w'=>(∃o,Ep s [42] o/\r=Qo o)/\aj [] w w':=by have a:=aj.refl [] w;refine cu [.tmp 2,.tmp 3,.tmp 4] 10 Tryz.func170 rfl afu rfl rfl ?_;refine W ?_;refine aA (Xv s [42] w) ?_;rintro _ _ ⟨c,b⟩;have e:=b.size;have a:=a.ext b;obtain⟨o,d,rfl⟩:=c;refine W ?_;exact⟨_,rfl,⟨o,d,rfl⟩,a⟩
theorem Xy (l:T.n<=16) (f:Bool) {o:Option (Ty×Ty)} (h:Ep T.text (kQ f) o):o=match T with| .op g a b=>if g=f then some (a,b) else none| .i=>none:=by
 cases o with
 |some p=>
  obtain⟨g,d,j,_⟩:=h;have e:=Ty.inj j;subst e;have:f=g:=by cases f<;>cases g<;>first|rfl|(simp[kQ] at d)
  subst this;simp
 |none=>
  cases T with
  |i=>rfl
  |op g a b=>have c:¬g=f:=λe=>h f a b rfl (by rw[e]) (by rw[<-e];exact l);simp[c]
theorem Xz (h:T.n<=16):Aw T.text=true:=by rw[Xr];exact dT h
theorem XA (f:Bool) (A B:Ty) (p:A.n<=16) (q:B.n<=16) (w:World):
  bD Tryz.prog 167 [.bool f,str A.text,str B.text] w λr w'=>r= .tuple #[str<|if 1+A.n+B.n<=16 then(Ty.op f A B).text else[],.bool (decide<|1+A.n+B.n<=16)]/\aj [] w w':=by
 have a:=aj.refl [] w;have E:=Ty.len A;have F:=Ty.len B;have H:=Pn f;have n:(((((([40]++kQ f)++[32])++A.text)++[32])++B.text)++[41])=(Ty.op f A B).text:=by rw[Ty.Lk];simp
 have u:Aw (Ty.op f A B).text=decide (1+A.n+B.n<=16):=Xr;refine cu [.tmp 6,.tmp 7] 34 Tryz.func167 rfl afr rfl rfl ?_;refine W ?_;refine jq (λ_:Unit=>[(0,.bool f),(1,str A.text),(2,str B.text),(8,str<|kQ f)]) (λ_ w'=>w'=w) ?_ ?_;refine zc rfl (λd=>?_) λd=>?_;have g:=d;refine W ?_;exact⟨(),⟨rfl,rfl,rfl,by rw[g];rfl⟩,rfl⟩;have g:=d;refine WZ ?_;exact⟨(),⟨rfl,rfl,rfl,by rw[g];rfl⟩,rfl⟩;intro _ z _ s;subst s;refine W ?_;refine aA (Qn A.text z) ?_;rintro _ C ⟨o,m⟩;have I:=m.size;have a:=a.ext m;obtain rfl:=o.trans (congrArg Value.bool<|Xz p);refine kj rfl rfl rfl<|zm<|Bq (t:=23) (b:=false) rfl<|zm<|aA (Qn B.text C) ?_;rintro _ D ⟨v,j⟩;have K:=j.size;have a:=a.ext j;obtain rfl:=v.trans (congrArg Value.bool<|Xz q);refine kj rfl rfl rfl<|zp rfl<|zm<|Bq (t:=28) (b:=false) rfl<|zm<|aA (Qn _ D) ?_;rintro _ _ ⟨y,l⟩;have J:=l.size;have a:=a.ext l;obtain rfl:=y.trans (congrArg Value.bool<|(congrArg Aw n).trans u);refine W ?_;refine zc rfl (λe=>?_) λe=>?_;have c:¬1+A.n+B.n<=16:=by simpa using e
 refine W ?_;have i:Value.tuple #[str<|if 1+A.n+B.n<=16 then(Ty.op f A B).text else[],.bool (decide<|1+A.n+B.n<=16)]=Value.tuple #[str [],.bool false]:=by rw[iN c,dF c]
 exact⟨_,rfl,i.symm,a⟩;have c:1+A.n+B.n<=16:=by simpa using e
 refine W ?_;have i:Value.tuple #[str<|if 1+A.n+B.n<=16 then(Ty.op f A B).text else[],.bool (decide<|1+A.n+B.n<=16)]=Value.tuple #[str<|((((([40]++kQ f)++[32])++A.text)++[32])++B.text)++[41],.bool true]:=by rw[iP c,dT c,n]
 exact⟨_,rfl,i.symm,a⟩
theorem XB (c:UInt8):(decide ((c.toNat:Int)<97)||decide ((122:Int)<(c.toNat:Int)))=!(decide (97<=c)&&decide (c<=122)):=by
 have a:decide (97<=c)=decide ((97:Int)<=c.toNat):=(H9 97 c).symm;have b:decide (c<=122)=decide ((c.toNat:Int)<=122):=decide_eq_decide.2 (by rw[UInt8.le_iff_toNat_le];have:(122:UInt8).toNat=122:=rfl;omega);rw[a,b,Bool.not_and,<-decide_not,<-decide_not]
 congr 1<;>exact decide_eq_decide.2 om
theorem ajY (a:1<=k) (hk:k<s.length) (h:iJ (s.getD k 0)=false):(s.drop 1).all iJ=false:=by rw[List.all_eq_false];refine⟨s.getD k 0,?_,by rw[h];simp⟩;rw[List.mem_iff_getElem?];refine⟨k-1,?_⟩;rw[List.getElem?_drop,show 1+(k-1)=k by omega];exact jP hk
theorem ajZ (h:∀k,1<=k->k<s.length->iJ (s.getD k 0)=true):(s.drop 1).all iJ=true:=by rw[List.all_eq_true];intro c d;obtain⟨i,a⟩:=List.mem_iff_getElem?.1 d;rw[List.getElem?_drop] at a;have b:=(List.getElem?_eq_some_iff.1 a).1;have:=h (1+i) om b;rw[jP b] at a;cases a;exact this
theorem xo (s:ak) (w:World):bD Tryz.prog 152 [str s] w λv w'=>v= .bool (eJ s)/\w=w':=by
 have o:eJ s=(((decide (1<=s.length)&&decide (s.length<=4))&&(decide (97<=s.getD 0 0)&&decide (s.getD 0 0<=122)))&&(s.drop 1).all iJ):=rfl;have p:∀c:UInt8,(decide ((c.toNat:Int)<48)||decide ((57:Int)<(c.toNat:Int)))=!iJ c:=by
  intro c;cases d:iJ c with
  |true=>have:=(DJ c).1 d;simp;omega
  |false=>rw[Bool.not_false,oE,dE,dE];apply Classical.byContradiction;intro _;have:=(DJ c).2 om;rw[d] at this;cases this
 refine cu [.tmp 2] 34 Tryz.func152 rfl afb rfl rfl ?_;refine W ?_;refine aA (IK _ _ _ _) ?_;rintro _ _ ⟨rfl,rfl⟩;refine WZ ?_;apply oP 4 8 12 rfl oQ;intro a;have g:1<=s.length/\s.length<=4:=(by simp at a;omega);refine zm<|kJ (i:=0) ji rfl rfl rfl rfl (jP om) ?_;exact oQ;intro q;refine WZ ?_;apply oP 4 13 17 rfl oQ;intro l;have g:1<=s.length/\s.length<=4:=(by simp at l;omega);refine zm<|kJ (i:=0) ji rfl rfl rfl rfl (jP om) ?_;exact oQ;intro q;refine bf<|zc rfl (λb=>?_) λb=>?_;have m:eJ s=false:=(by rw[o];rw[Bool.or_assoc,XB] at b;simp only[oE,Bool.not_eq_true',Bool.and_eq_false_iff,decide_eq_false_iff_not] at b;simp only[Bool.and_eq_false_iff,decide_eq_false_iff_not];left;rcases b with(h|h)|h;(·left;left;omega);(·left;right;omega);(·right;exact h));refine W ?_;exact⟨_,rfl,by rw[m];rfl,rfl⟩;have g:(1<=s.length/\s.length<=4)/\(decide (97<=s.getD 0 0)&&decide (s.getD 0 0<=122))=true:=(by rw[Bool.or_assoc,XB] at b;simp only[Bool.or_eq_false_iff,Bool.not_eq_false'] at b;refine⟨?_,b.2⟩;have a:=b.1;simp at a;omega);have m:eJ s=(s.drop 1).all iJ:=(by rw[o,g.2,dT g.1.1,dT g.1.2];rfl);refine W ?_;refine eW (λk:Nat=>[(0,str s),(3,.int .i64 (k:Int))]) (λk w'=>w'=w/\1<=k/\k<=s.length/\∀j,1<=j->j<k->iJ (s.getD j 0)=true) (λk=>s.length-k) (1) (⟨rfl,rfl⟩) (⟨rfl,om,om,by intro j a l;omega⟩) λe _ _ u=>?_;obtain⟨rfl,r,hk,n⟩:=u;refine W ?_;refine zc rfl (λt=>?_) λt=>?_;refine W ?_;refine kJ ji rfl rfl rfl rfl (jP om)<|WZ ?_;apply oP 5 28 33 rfl oQ;intro _;refine zm<|zm<|kJ ji rfl rfl rfl rfl (jP om) ?_;exact oQ;intro q;refine bf<|zc rfl (λf=>?_) λf=>?_;have d:iJ (s.getD e 0)=false:=(by rw[p] at f;simpa using f);refine W ?_;exact⟨_,rfl,by rw[m,ajY r om d];rfl,rfl⟩;have d:iJ (s.getD e 0)=true:=(by rw[p] at f;simpa using f);refine W ?_;exact⟨e+1,⟨rfl,rfl⟩,⟨rfl,om,om,by intro j a l;rcases Nat.lt_or_ge j e with h|h;exact n j a h;rw[show j=e by omega];exact d⟩,om⟩;refine W ?_;exact⟨_,rfl,by rw[m,ajZ λj a l=>n j a om];rfl,rfl⟩
def Qr (h:ak):Value:=.tuple #[.int .i64 ((eP h).1:Int),.int .i64 ((eP h).2:Int)]
theorem Ay {a:Nat} (e:eP h=(a,b)):Qr h= .tuple #[.int .i64 (a:Int),.int .i64 (b:Int)]:=by unfold Qr;rw[e]
theorem aj0 (e:iO h=true):eP h=(1,3):=by unfold eP;rw[iP e]
theorem aj1 (e:ij h=true):eP h=(1,2):=by unfold ij at e;simp only[oE,dE] at e;rcases e with e|e<;>subst e<;>decide
theorem Mh (h:ak) (w:World):bD Tryz.prog 153 [str h] w λv w'=>v=Qr h/\w=w':=by refine cu [.tmp 2,.tmp 3] 20 Tryz.func153 rfl afc rfl rfl ?_;refine W ?_;refine jq (λ_:Unit=>[(4,str h),(5,.bool<|iO h)]) (λ_ w'=>w'=w) ?_ ?_;refine zc rfl (λb=>?_) λb=>?_;refine WZ ?_;exact⟨(),⟨rfl,congrArg Value.bool<|show decide (h=[43])=iO h from by rw[dT b,show iO h=true from by rw[b];rfl]⟩,rfl⟩;have u:=b;refine W ?_;refine zc rfl (λc=>?_) λc=>?_;refine WZ ?_;exact⟨(),⟨rfl,congrArg Value.bool<|show decide (h=[45])=iO h from by rw[dT c,show iO h=true from by rw[c];rfl]⟩,rfl⟩;have y:=c;refine W ?_;refine zc rfl (λd=>?_) λd=>?_;refine WZ ?_;exact⟨(),⟨rfl,congrArg Value.bool<|show decide (h=[42])=iO h from by rw[dT d,show iO h=true from by rw[d];rfl]⟩,rfl⟩;have z:=d;refine W ?_;refine zc rfl (λe=>?_) λe=>?_;refine WZ ?_;exact⟨(),⟨rfl,congrArg Value.bool<|show decide (h=lg)=iO h from by rw[dT e,show iO h=true from by rw[e];rfl]⟩,rfl⟩;have A:=e;refine W ?_;exact⟨(),⟨rfl,congrArg Value.bool (show decide (h=zU)=iO h from by unfold iO;rw[dF u,dF y,dF z,dF A];rfl)⟩,rfl⟩;intro p _ _ n;obtain rfl:=n.symm;refine zc rfl (λi=>?_) λi=>?_;have a:=i;refine W ?_;exact⟨_,rfl,(Ay<|aj0 a).symm,rfl⟩;have o:=i;refine W ?_;refine zc rfl (λj=>?_) λj=>?_;have a:=j;refine W ?_;exact⟨_,rfl,(Ay (by rw[a];rfl)).symm,rfl⟩;have q:=j;refine W ?_;refine zc rfl (λl=>?_) λl=>?_;have a:=l;refine W ?_;exact⟨_,rfl,(Ay (by rw[a];rfl)).symm,rfl⟩;have r:=l;refine W ?_;refine zc rfl (λm=>?_) λm=>?_;have a:=m;refine W ?_;exact⟨_,rfl,(Ay (by rw[a];rfl)).symm,rfl⟩;have s:=m;refine W ?_;refine jq (λ_:Unit=>[(4,str h),(17,.bool<|ij h)]) (λ_ w'=>w'=w) ?_ ?_;refine zc rfl (λf=>?_) λf=>?_;refine WZ ?_;exact⟨(),⟨rfl,congrArg Value.bool<|show decide (h=DW)=ij h from by rw[dT f,show ij h=true from by rw[f];rfl]⟩,rfl⟩;have B:=f;refine W ?_;exact⟨(),⟨rfl,congrArg Value.bool (show decide (h=sw)=ij h from by unfold ij;rw[dF B];rfl)⟩,rfl⟩;intro p _ _ n;obtain rfl:=n.symm;refine zc rfl (λg=>?_) λg=>?_;have a:=g;refine W ?_;exact⟨_,rfl,(Ay<|aj1 a).symm,rfl⟩;have t:=g;refine W ?_;exact⟨_,rfl,(Ay (by unfold eP;rw[iN (by rw[o];simp),iN q,iN r,iN s,iN (by rw[t];simp)])).symm,rfl⟩
theorem aj2 (h:ak):((eP h).1=0/\(eP h).2=0)\/((eP h).1=1/\(eP h).2=2)\/((eP h).1=1/\(eP h).2=3)\/((eP h).1=1/\(eP h).2=4)\/((eP h).1=2/\(eP h).2=4)\/((eP h).1=5/\(eP h).2=6):=by
 unfold eP;split
 .simp
 .split
  .simp
  .split
   .simp
   .split
    .simp
    .split<;>simp
theorem aj3 {f:aq->Bool} (h:∀j,k<=j->j<ps.length->f (nth ps j)=true):(ps.drop k).all f=true:=by rw[List.all_eq_true];intro c d;obtain⟨i,a⟩:=List.mem_iff_getElem?.1 d;rw[List.getElem?_drop] at a;have b:=(List.getElem?_eq_some_iff.1 a).1;have:=h (k+i) om b;rw[ek b] at a;cases a;exact this
theorem aj4 {j:Nat} {f:aq->Bool} (b:k<=j) (a:j<ps.length) (h:f (nth ps j)=false):(ps.drop k).all f=false:=by rw[List.all_eq_false];refine⟨nth ps j,?_,by rw[h];simp⟩;rw[List.mem_iff_getElem?];refine⟨j-k,?_⟩;rw[List.getElem?_drop,show k+(j-k)=j by omega];exact ek a
def Er (a:List aq):Bool:=eJ (nth a 2).au&&decide ((nth a 1).au≠(nth a 2).au)&&kR (nth a 3)&&kR (nth a 4)
theorem aj5 (a:List aq) (k:Nat):k≠5\/(k=5/\eJ (nth a 2).au=false)\/(k=5/\eJ (nth a 2).au=true/\(nth a 1).au=(nth a 2).au)\/(k=5/\eJ (nth a 2).au=true/\(nth a 1).au≠(nth a 2).au/\kR (nth a 3)=false)\/
  (k=5/\eJ (nth a 2).au=true/\(nth a 1).au≠(nth a 2).au/\kR (nth a 3)=true/\kR (nth a 4)=false)\/(k=5/\eJ (nth a 2).au=true/\(nth a 1).au≠(nth a 2).au/\kR (nth a 3)=true/\kR (nth a 4)=true):=by
 by_cases b:k=5
 .right;cases d:eJ (nth a 2).au
  .exact .inl ⟨b,rfl⟩
  .right;by_cases c:(nth a 1).au=(nth a 2).au
   .exact .inl ⟨b,rfl,c⟩
   .right;cases e:kR (nth a 3)
    .exact .inl ⟨b,rfl,c,rfl⟩
    .right;cases f:kR (nth a 4)
     .exact .inl ⟨b,rfl,c,rfl,rfl⟩
     .exact .inr ⟨b,rfl,c,rfl,rfl⟩
 .exact .inl b
theorem aj6:∀(m:Nat) (t:aq),t.size<=m->t.size<=10000000->WF t->∀(v:Value) (L:List Nat) (w:World),aV L w v t->
  bD Tryz.prog 117 [v] w λr w'=>r= .bool (er t)/\aj [] w w':=by
 intro m;induction m with
 |zero=>intro t h;have:=pZ t;omega
 |succ m ih=>
  intro t _ _ K v L w hv;obtain⟨a,n,c,rfl,hn,D⟩:=cW hv;subst hn;have g:=aj.refl [] w;have mP:=lD t;refine cu [.tmp 2] 105 Tryz.func117 rfl aeC rfl rfl ?_;refine zr<|eK rfl ?_;intro V aI f _;have g:=g.ext aI;have D:=D.ext aI;refine zA<|bf<|j1<|zr<|zf ml rfl<|zl gI rfl (f.at rfl)<|N4 rfl rfl rfl rfl<|bf<|zc rfl (λI=>?_) λI=>?_;have hq:er t=rH t.au:=by rw[Xp,iP I]
  refine zr<|zf ml rfl<|zl gI rfl (f.at rfl)<|aA (LJ _ _) ?_;rintro _ _ ⟨rfl,rfl⟩;refine zm<|zx (i:=0) rfl rfl<|zx (i:=1) rfl rfl<|zA<|zA<|bf<|zr<|zm<|zm ?_;apply Dx 4 18 22 [18,19,20,21,22] (λw'=>V=w') rfl;intro o;replace o:=jw o;refine zs<|zs<|zs<|zp rfl<|bf ?_;exact mg rfl rfl;intro o;replace o:=jw o;refine zf ml rfl<|zl gI rfl (f.at rfl)<|aA (xo _ _) ?_;rintro _ _ ⟨rfl,rfl⟩;refine zp rfl<|bf ?_;exact mg rfl rfl;rintro xx _ rfl;refine zA<|bf<|la ?_;exact⟨_,rfl,by rw[hq];rfl,g⟩;have ha:t.au=[]:=Classical.not_not.1 I;have kq:=K.pos ha;have hq:=ajQ ha;obtain⟨b,off,pa,pn,pc,rfl,eT,_,_⟩:=gB D<|ek kq;have l6:=aj2 (nth t.ag 0).au;refine iD<|zr<|zf kn rfl<|zl jC rfl (f.at rfl)<|zi (i:=0) cT aO rfl rfl om<|zf ml rfl<|zl gI rfl (eT 0 _ rfl)<|aA (Mh _ _) ?_;rintro _ _ ⟨rfl,rfl⟩;refine zm<|zx (i:=0) rfl rfl<|zx (i:=1) rfl rfl<|zA<|zA<|bf<|j1<|zr<|zm<|xZ rfl rfl rfl rfl rfl<|zm ?_;apply Dx 6 34 40 [34,35,36,37,38,39,40] (λw'=>V=w') rfl;intro y;replace y:=jw y;refine zs<|zs<|zs<|zs<|zs<|zp rfl<|bf ?_;exact mg rfl rfl;intro y;replace y:=jw y;refine zf kn rfl<|zl jC rfl (f.at rfl)<|Kv cT rfl rfl rfl<|zm<|HP rfl rfl rfl rfl rfl<|zp rfl<|bf ?_;exact mg rfl rfl;rintro xx _ rfl;refine bf<|zc rfl (λJ=>?_) λJ=>?_;have O:er t=false:=(by rw[hq];simp only[oE,dE] at J;rcases J with h|h;(·rw[show decide ((eP (nth t.ag 0).au).1≠0)=false from dF om];rfl);(·rw[show decide (t.ag.length=(eP (nth t.ag 0).au).2)=false from dF om];simp));refine zr<|zA<|bf<|la ?_;exact⟨_,rfl,by rw[O];rfl,g⟩;have gY:(eP (nth t.ag 0).au).1≠0/\t.ag.length=(eP (nth t.ag 0).au).2:=(by simp only[Bool.or_eq_false_iff,decide_eq_false_iff_not] at J;omega);obtain⟨gY,iq⟩:=gY;have ka:er t=(GF t.ag&&(t.ag.drop (eP (nth t.ag 0).au).1).all er):=by rw[hq,dT gY,dT iq];rfl
  refine iD<|j1<|zr<|zm<|HO rfl rfl rfl rfl rfl<|zm ?_;apply N9 8 43 51 [43,44,45,46,47,48,49,50,51] (λw'=>V=w') rfl;intro q;replace q:=jw q;have Ac:1<t.ag.length:=(by have N:=q;omega);obtain⟨b1,fg,S,U,T,Z,p,tt,qh⟩:=gB D<|ek (i:=1) Ac;cases Z;refine zf kn rfl<|zl jC rfl (f.at rfl)<|zi (i:=1) cT aO rfl rfl om<|zf ml rfl<|zl gI rfl (p 0 _ rfl)<|aA (xo _ _) ?_;rintro _ _ ⟨rfl,rfl⟩;refine kj rfl rfl rfl<|zp rfl<|bf ?_;exact mg rfl rfl;intro q;replace q:=jw q;refine zs<|zs<|zs<|zs<|zs<|zs<|zs<|zp rfl<|bf ?_;exact mg rfl rfl;rintro xx _ rfl;refine bf<|zc rfl (λE=>?_) λE=>?_;have O:er t=false:=(by simp only[aE,dE,Bool.not_eq_true'] at E;rw[ka];unfold GF;rw[show decide ((eP (nth t.ag 0).au).1<=1)=false from dF om,E.2];rfl);refine zr<|zA<|bf<|la ?_;exact⟨_,rfl,by rw[O];rfl,g⟩;have kr:(decide ((eP (nth t.ag 0).au).1<=1)||eJ (nth t.ag 1).au)=true:=(by simp only[Bool.and_eq_false_iff,decide_eq_false_iff_not,Bool.not_eq_false'] at E;rcases E with h|h;(·rw[dT om];rfl);(·rw[h];simp));have gq:er t=((decide ((eP (nth t.ag 0).au).1≠5)||Er t.ag)&&(t.ag.drop (eP (nth t.ag 0).au).1).all er):=by rw[ka];unfold GF;rw[kr];rfl
  have X:(eP (nth t.ag 0).au).1=5->t.ag.length=6:=(by intro h;omega);have z:∀i,i<t.ag.length->∃pa pn pc,fZ V b (off+i*2) [str (nth t.ag i).au,.slice pa pn pc]/\aV L V (.agg #[str (nth t.ag i).au,.slice pa pn pc]) (nth t.ag i):=(by intro i hi;obtain⟨b1,fg,S,U,T,Z,p,tt,qh⟩:=gB D<|ek hi;cases Z;exact⟨_,_,_,p,jQ qh⟩);refine iD<|j1<|j1 ?_;refine jq (λ_:Unit=>[(1,.pointer<|some ⟨w.heap.size,0,none⟩),(5,.int .i64 ((eP (nth t.ag 0).au).1:Int)),(6,.int .i64 ((eP (nth t.ag 0).au).2:Int)),(91,.bool<|decide ((eP (nth t.ag 0).au).1=5)&&!Er t.ag)]) (λ_ w'=>aj [] w w'/\aj [] V w') ?_ ?_;rcases aj5 t.ag (eP (nth t.ag 0).au).1 with C|C|C|C|C|C;apply km dh 40 (rA 52 40) (rA 52 40) [[],[0],[1],[2],[2,3],[2,4],[2,5],[2,6],[2,7],[2,8],[2,9],[10],[10,11],[10,12],[10,13],[10,14],[10],[10,16],[10,17],[10,18],[10,19],[10,15,20],[2,10,21],[2,22],[23],[23,24],[23,25],[23,26],[23,27],[23,28],[2,23,29],[2,30],[31],[31,32],[31,33],[31,34],[31,35],[31,36],[2,31,37],[2,38]] [It.v _,It.v _,It.v (.bool false),It.v _,It.v _,It.v _,It.v _,It.v _,It.v _,It.v _,It.v _,It.v _,It.v _,It.v _,It.v _,It.v _,It.v _,It.v _,It.v _,It.v _,It.v _,It.v _,It.v _,It.v _,It.v _,It.v _,It.v _,It.v _,It.v _,It.v _,It.v _,It.v _,It.v _,It.v _,It.v _,It.v _,It.v _,It.v _,It.v _,It.v _] de rfl;intro wd aC;refine Ck ?_;refine vk aC (λx e d=>?_) ?_;refine xZ rfl rfl rfl rfl rfl ?_;exact pv;refine vc (λx e d=>?_) ?_;refine zm ?_;exact pv (by exact congrArg Value.bool<|dF om);refine vc (λx e d=>?_) ?_;exact cS pv;refine vk aC (λx e d=>?_) ?_;exact cS pv;refine vk aC (λx e d=>?_) ?_;exact cS pv;refine vc (λx e d=>?_) ?_;exact cS pv;refine vk aC (λx e d=>?_) ?_;exact cS pv;refine vk aC (λx e d=>?_) ?_;exact cS pv;refine vc (λx e d=>?_) ?_;exact cS pv;refine vc (λx e d=>?_) ?_;exact cS pv;refine vc (λx e d=>?_) ?_;exact cS pv;refine vk aC (λx e d=>?_) ?_;exact cS pv;refine vk aC (λx e d=>?_) ?_;exact cS pv;refine vc (λx e d=>?_) ?_;exact cS pv;refine vk aC (λx e d=>?_) ?_;exact cS pv;refine vc (λx e d=>?_) ?_;exact cS pv;refine vk aC (λx e d=>?_) ?_;exact cS pv;refine vk aC (λx e d=>?_) ?_;exact cS pv;refine vc (λx e d=>?_) ?_;exact cS pv;refine vk aC (λx e d=>?_) ?_;exact cS pv;refine vk aC (λx e d=>?_) ?_;exact cS pv;refine vc (λx e d=>?_) ?_;exact cS pv;refine vc (λx e d=>?_) ?_;exact cS pv;refine vc (λx e d=>?_) ?_;exact cS pv;refine vk aC (λx e d=>?_) ?_;exact cS pv;refine vk aC (λx e d=>?_) ?_;exact cS pv;refine vk aC (λx e d=>?_) ?_;exact cS pv;refine vk aC (λx e d=>?_) ?_;exact cS pv;refine vc (λx e d=>?_) ?_;exact cS pv;refine vc (λx e d=>?_) ?_;exact cS pv;refine vc (λx e d=>?_) ?_;exact cS pv;refine vc (λx e d=>?_) ?_;exact cS pv;refine vk aC (λx e d=>?_) ?_;exact cS pv;refine vk aC (λx e d=>?_) ?_;exact cS pv;refine vk aC (λx e d=>?_) ?_;exact cS pv;refine vk aC (λx e d=>?_) ?_;exact cS pv;refine vc (λx e d=>?_) ?_;exact cS pv;refine vc (λx e d=>?_) ?_;exact cS pv;refine vc (λ_ _ _=>zp rfl pv) ?_;exact trivial;intro x mu s;have g:=g.ext s;change OW _ _ _ _ [] (aY (aX _ x _)<|zZ 52 [_,_,_,_,_,_,_,_,_,_,_,_,_,_,_,_,_,_,_,_,_,_,_,_,_,_,_,_,_,_,_,_,_,_,_,_,_,_,_,_]) _;refine bf ?_;exact⟨(),⟨rfl,rfl,rfl,congrArg Value.bool (show false=_ from by rw[dF C];rfl)⟩,g,s⟩;obtain⟨q,o⟩:=C;have E:=X q;obtain⟨jn,CM,jo,l,eu⟩:=z 2 om;apply km dh 40 (rA 52 40) (rA 52 40) [[],[0],[1],[2],[2,3],[2,4],[2,5],[2,6],[2,7],[2,8],[2,9],[10],[10,11],[10,12],[10,13],[10,14],[10],[10,16],[10,17],[10,18],[10,19],[10,15,20],[2,10,21],[2,22],[23],[23,24],[23,25],[23,26],[23,27],[23,28],[2,23,29],[2,30],[31],[31,32],[31,33],[31,34],[31,35],[31,36],[2,31,37],[2,38]] [It.v _,It.v _,It.v<|.bool true,It.v _,It.v _,It.v _,It.v _,It.v _,It.v _,It.v _,It.v<|.bool true,It.v _,It.v _,It.v _,It.v _,It.v _,It.v _,It.v _,It.v _,It.v _,It.v _,It.v _,It.v _,It.v<|.bool true,It.v _,It.v _,It.v _,It.v _,It.v _,It.v _,It.v _,It.v<|.bool true,It.v _,It.v _,It.v _,It.v _,It.v _,It.v _,It.v _,It.v _] de rfl;intro wd aC;refine Ck ?_;refine vk aC (λx e d=>?_) ?_;refine xZ rfl rfl rfl rfl rfl ?_;exact pv;refine vc (λx e d=>?_) ?_;refine zm ?_;exact pv (by exact congrArg Value.bool<|dT om);refine vc (λ_ _ _=>zf kn rfl pv) ?_;refine vk aC (λx e d=>?_) ?_;have f:=f.ext d;refine zl jC rfl (f.at rfl) ?_;exact pv;refine vk aC (λx e d=>?_) ?_;refine zi (i:=2) cT aO rfl rfl om ?_;exact pv;refine vc (λ_ _ _=>zf ml rfl pv) ?_;refine vk aC (λx e d=>?_) ?_;have l:=l.ext d;refine zl gI rfl (l 0 _ rfl) ?_;exact pv;refine vk aC (λx e d=>?_) ?_;refine aA (xo _ _) ?_;rintro _ _ ⟨rfl,rfl⟩;exact pv;refine vc (λ_ _ _=>kj rfl rfl rfl pv) ?_;refine vc (λx e d=>?_) ?_;refine zm ?_;exact pv (by exact congrArg Value.bool (show(!eJ (nth t.ag 2).au)=true from by rw[o];rfl));refine vc (λx e d=>?_) ?_;exact cS pv;refine vk aC (λx e d=>?_) ?_;exact cS pv;refine vk aC (λx e d=>?_) ?_;exact cS pv;refine vc (λx e d=>?_) ?_;exact cS pv;refine vk aC (λx e d=>?_) ?_;exact cS pv;refine vc (λx e d=>?_) ?_;exact cS pv;refine vk aC (λx e d=>?_) ?_;exact cS pv;refine vk aC (λx e d=>?_) ?_;exact cS pv;refine vc (λx e d=>?_) ?_;exact cS pv;refine vk aC (λx e d=>?_) ?_;exact cS pv;refine vk aC (λx e d=>?_) ?_;exact cS pv;refine vc (λ_ _ _=>zp rfl pv) ?_;refine vc (λx e d=>?_) ?_;refine zm ?_;exact pv (by exact rfl);refine vc (λx e d=>?_) ?_;exact cS pv;refine vk aC (λx e d=>?_) ?_;exact cS pv;refine vk aC (λx e d=>?_) ?_;exact cS pv;refine vk aC (λx e d=>?_) ?_;exact cS pv;refine vk aC (λx e d=>?_) ?_;exact cS pv;refine vc (λx e d=>?_) ?_;exact cS pv;refine vc (λ_ _ _=>zp rfl pv) ?_;refine vc (λx e d=>?_) ?_;refine zm ?_;exact pv (by exact rfl);refine vc (λx e d=>?_) ?_;exact cS pv;refine vk aC (λx e d=>?_) ?_;exact cS pv;refine vk aC (λx e d=>?_) ?_;exact cS pv;refine vk aC (λx e d=>?_) ?_;exact cS pv;refine vk aC (λx e d=>?_) ?_;exact cS pv;refine vc (λx e d=>?_) ?_;exact cS pv;refine vc (λ_ _ _=>zp rfl pv) ?_;refine vc (λ_ _ _=>zp rfl pv) ?_;exact trivial;intro x mu s;have g:=g.ext s;change OW _ _ _ _ [] (aY (aX _ x _)<|zZ 52 [_,_,_,_,_,_,_,_,_,_,_,_,_,_,_,_,_,_,_,_,_,_,_,_,_,_,_,_,_,_,_,_,_,_,_,_,_,_,_,_]) _;refine bf ?_;exact⟨(),⟨rfl,rfl,rfl,congrArg Value.bool (show true=_ from by unfold Er;rw[dT q,o];rfl)⟩,g,s⟩;obtain⟨q,o,F⟩:=C;have E:=X q;obtain⟨S,U,T,p,Y⟩:=z 1 om;obtain⟨jn,CM,jo,l,eu⟩:=z 2 om;apply km dh 40 (rA 52 40) (rA 52 40) [[],[0],[1],[2],[2,3],[2,4],[2,5],[2,6],[2,7],[2,8],[2,9],[10],[10,11],[10,12],[10,13],[10,14],[10],[10,16],[10,17],[10,18],[10,19],[10,15,20],[2,10,21],[2,22],[23],[23,24],[23,25],[23,26],[23,27],[23,28],[2,23,29],[2,30],[31],[31,32],[31,33],[31,34],[31,35],[31,36],[2,31,37],[2,38]] [It.v _,It.v _,It.v<|.bool true,It.v _,It.v _,It.v _,It.v _,It.v _,It.v _,It.v _,It.v<|.bool false,It.v _,It.v _,It.v _,It.v _,It.v _,It.v _,It.v _,It.v _,It.v _,It.v _,It.v _,It.v _,It.v<|.bool true,It.v _,It.v _,It.v _,It.v _,It.v _,It.v _,It.v _,It.v<|.bool true,It.v _,It.v _,It.v _,It.v _,It.v _,It.v _,It.v _,It.v _] de rfl;intro wd aC;refine Ck ?_;refine vk aC (λx e d=>?_) ?_;refine xZ rfl rfl rfl rfl rfl ?_;exact pv;refine vc (λx e d=>?_) ?_;refine zm ?_;exact pv (by exact congrArg Value.bool<|dT om);refine vc (λ_ _ _=>zf kn rfl pv) ?_;refine vk aC (λx e d=>?_) ?_;have f:=f.ext d;refine zl jC rfl (f.at rfl) ?_;exact pv;refine vk aC (λx e d=>?_) ?_;refine zi (i:=2) cT aO rfl rfl om ?_;exact pv;refine vc (λ_ _ _=>zf ml rfl pv) ?_;refine vk aC (λx e d=>?_) ?_;have l:=l.ext d;refine zl gI rfl (l 0 _ rfl) ?_;exact pv;refine vk aC (λx e d=>?_) ?_;refine aA (xo _ _) ?_;rintro _ _ ⟨rfl,rfl⟩;exact pv;refine vc (λ_ _ _=>kj rfl rfl rfl pv) ?_;refine vc (λx e d=>?_) ?_;refine zm ?_;exact pv (by exact congrArg Value.bool (show(!eJ (nth t.ag 2).au)=false from by rw[o];rfl));refine vc (λ_ _ _=>zf kn rfl pv) ?_;refine vk aC (λx e d=>?_) ?_;have f:=f.ext d;refine zl jC rfl (f.at rfl) ?_;exact pv;refine vk aC (λx e d=>?_) ?_;refine zi (i:=1) cT aO rfl rfl om ?_;exact pv;refine vc (λ_ _ _=>zf ml rfl pv) ?_;refine vk aC (λx e d=>?_) ?_;have p:=p.ext d;refine zl gI rfl (p 0 _ rfl) ?_;exact pv;refine vc (λ_ _ _=>zf kn rfl pv) ?_;refine vk aC (λx e d=>?_) ?_;have f:=f.ext d;refine zl jC rfl (f.at rfl) ?_;exact pv;refine vk aC (λx e d=>?_) ?_;refine zi (i:=2) cT aO rfl rfl om ?_;exact pv;refine vc (λ_ _ _=>zf ml rfl pv) ?_;refine vk aC (λx e d=>?_) ?_;have l:=l.ext d;refine zl gI rfl (l 0 _ rfl) ?_;exact pv;refine vk aC (λx e d=>?_) ?_;refine FK rfl rfl rfl rfl ?_;exact pv;refine vc (λ_ _ _=>zp rfl pv) ?_;refine vc (λx e d=>?_) ?_;refine zm ?_;exact pv (by exact congrArg Value.bool<|dT F);refine vc (λx e d=>?_) ?_;exact cS pv;refine vk aC (λx e d=>?_) ?_;exact cS pv;refine vk aC (λx e d=>?_) ?_;exact cS pv;refine vk aC (λx e d=>?_) ?_;exact cS pv;refine vk aC (λx e d=>?_) ?_;exact cS pv;refine vc (λx e d=>?_) ?_;exact cS pv;refine vc (λ_ _ _=>zp rfl pv) ?_;refine vc (λx e d=>?_) ?_;refine zm ?_;exact pv (by exact rfl);refine vc (λx e d=>?_) ?_;exact cS pv;refine vk aC (λx e d=>?_) ?_;exact cS pv;refine vk aC (λx e d=>?_) ?_;exact cS pv;refine vk aC (λx e d=>?_) ?_;exact cS pv;refine vk aC (λx e d=>?_) ?_;exact cS pv;refine vc (λx e d=>?_) ?_;exact cS pv;refine vc (λ_ _ _=>zp rfl pv) ?_;refine vc (λ_ _ _=>zp rfl pv) ?_;exact trivial;intro x mu s;have g:=g.ext s;change OW _ _ _ _ [] (aY (aX _ x _)<|zZ 52 [_,_,_,_,_,_,_,_,_,_,_,_,_,_,_,_,_,_,_,_,_,_,_,_,_,_,_,_,_,_,_,_,_,_,_,_,_,_,_,_]) _;refine bf ?_;exact⟨(),⟨rfl,rfl,rfl,congrArg Value.bool (show true=_ from by unfold Er;rw[dT q,o,dF λh=>h F];rfl)⟩,g,s⟩;obtain⟨q,o,F,y⟩:=C;have E:=X q;obtain⟨S,U,T,p,Y⟩:=z 1 om;obtain⟨jn,CM,jo,l,eu⟩:=z 2 om;obtain⟨pK,XC,mU,B,A⟩:=z 3 om;have M:=kP (t:=t) (i:=3) om;apply km dh 40 (rA 52 40) (rA 52 40) [[],[0],[1],[2],[2,3],[2,4],[2,5],[2,6],[2,7],[2,8],[2,9],[10],[10,11],[10,12],[10,13],[10,14],[10],[10,16],[10,17],[10,18],[10,19],[10,15,20],[2,10,21],[2,22],[23],[23,24],[23,25],[23,26],[23,27],[23,28],[2,23,29],[2,30],[31],[31,32],[31,33],[31,34],[31,35],[31,36],[2,31,37],[2,38]] [It.v _,It.v _,It.v<|.bool true,It.v _,It.v _,It.v _,It.v _,It.v _,It.v _,It.v _,It.v<|.bool false,It.v _,It.v _,It.v _,It.v _,It.v _,It.v _,It.v _,It.v _,It.v _,It.v _,It.v _,It.v _,It.v<|.bool false,It.v _,It.v _,It.v _,It.v _,It.v _,It.v _,It.v _,It.v<|.bool true,It.v _,It.v _,It.v _,It.v _,It.v _,It.v _,It.v _,It.v _] de rfl;intro wd aC;refine Ck ?_;refine vk aC (λx e d=>?_) ?_;refine xZ rfl rfl rfl rfl rfl ?_;exact pv;refine vc (λx e d=>?_) ?_;refine zm ?_;exact pv (by exact congrArg Value.bool<|dT om);refine vc (λ_ _ _=>zf kn rfl pv) ?_;refine vk aC (λx e d=>?_) ?_;have f:=f.ext d;refine zl jC rfl (f.at rfl) ?_;exact pv;refine vk aC (λx e d=>?_) ?_;refine zi (i:=2) cT aO rfl rfl om ?_;exact pv;refine vc (λ_ _ _=>zf ml rfl pv) ?_;refine vk aC (λx e d=>?_) ?_;have l:=l.ext d;refine zl gI rfl (l 0 _ rfl) ?_;exact pv;refine vk aC (λx e d=>?_) ?_;refine aA (xo _ _) ?_;rintro _ _ ⟨rfl,rfl⟩;exact pv;refine vc (λ_ _ _=>kj rfl rfl rfl pv) ?_;refine vc (λx e d=>?_) ?_;refine zm ?_;exact pv (by exact congrArg Value.bool (show(!eJ (nth t.ag 2).au)=false from by rw[o];rfl));refine vc (λ_ _ _=>zf kn rfl pv) ?_;refine vk aC (λx e d=>?_) ?_;have f:=f.ext d;refine zl jC rfl (f.at rfl) ?_;exact pv;refine vk aC (λx e d=>?_) ?_;refine zi (i:=1) cT aO rfl rfl om ?_;exact pv;refine vc (λ_ _ _=>zf ml rfl pv) ?_;refine vk aC (λx e d=>?_) ?_;have p:=p.ext d;refine zl gI rfl (p 0 _ rfl) ?_;exact pv;refine vc (λ_ _ _=>zf kn rfl pv) ?_;refine vk aC (λx e d=>?_) ?_;have f:=f.ext d;refine zl jC rfl (f.at rfl) ?_;exact pv;refine vk aC (λx e d=>?_) ?_;refine zi (i:=2) cT aO rfl rfl om ?_;exact pv;refine vc (λ_ _ _=>zf ml rfl pv) ?_;refine vk aC (λx e d=>?_) ?_;have l:=l.ext d;refine zl gI rfl (l 0 _ rfl) ?_;exact pv;refine vk aC (λx e d=>?_) ?_;refine FK rfl rfl rfl rfl ?_;exact pv;refine vc (λ_ _ _=>zp rfl pv) ?_;refine vc (λx e d=>?_) ?_;refine zm ?_;exact pv (by exact congrArg Value.bool<|dF F);refine vc (λ_ _ _=>zf kn rfl pv) ?_;refine vk aC (λx e d=>?_) ?_;have f:=f.ext d;refine zl jC rfl (f.at rfl) ?_;exact pv;refine vk aC (λx e d=>?_) ?_;refine zi (i:=3) cT aO rfl rfl om ?_;exact pv;refine vk aC (λx e d=>?_) ?_;have B:=B.ext d;refine zL fN aO rfl B rfl ?_;exact pv;refine vk aC (λx e d=>?_) ?_;have A:=A.ext d;refine aA (CN (nth t.ag 3) om (K.nth om) _ _ e A) ?_;rintro v3 w3 ⟨H,u⟩;have M:=u.size;obtain rfl:=H;exact pk u;refine vc (λ_ _ _=>kj rfl rfl rfl pv) ?_;refine vc (λ_ _ _=>zp rfl pv) ?_;refine vc (λx e d=>?_) ?_;refine zm ?_;exact pv (by exact congrArg Value.bool (show(!kR (nth t.ag 3))=true from by rw[y];rfl));refine vc (λx e d=>?_) ?_;exact cS pv;refine vk aC (λx e d=>?_) ?_;exact cS pv;refine vk aC (λx e d=>?_) ?_;exact cS pv;refine vk aC (λx e d=>?_) ?_;exact cS pv;refine vk aC (λx e d=>?_) ?_;exact cS pv;refine vc (λx e d=>?_) ?_;exact cS pv;refine vc (λ_ _ _=>zp rfl pv) ?_;refine vc (λ_ _ _=>zp rfl pv) ?_;exact trivial;intro x mu s;have g:=g.ext s;change OW _ _ _ _ [] (aY (aX _ x _)<|zZ 52 [_,_,_,_,_,_,_,_,_,_,_,_,_,_,_,_,_,_,_,_,_,_,_,_,_,_,_,_,_,_,_,_,_,_,_,_,_,_,_,_]) _;refine bf ?_;exact⟨(),⟨rfl,rfl,rfl,congrArg Value.bool (show true=_ from by unfold Er;rw[dT q,o,y,Bool.and_false];rfl)⟩,g,s⟩;obtain⟨q,o,F,y,J⟩:=C;have E:=X q;obtain⟨S,U,T,p,Y⟩:=z 1 om;obtain⟨jn,CM,jo,l,eu⟩:=z 2 om;obtain⟨pK,XC,mU,B,A⟩:=z 3 om;obtain⟨I8,pn4,I9,P,Q⟩:=z 4 om;have M:=kP (t:=t) (i:=3) om;have fP:=kP (t:=t) (i:=4) om;apply km dh 40 (rA 52 40) (rA 52 40) [[],[0],[1],[2],[2,3],[2,4],[2,5],[2,6],[2,7],[2,8],[2,9],[10],[10,11],[10,12],[10,13],[10,14],[10],[10,16],[10,17],[10,18],[10,19],[10,15,20],[2,10,21],[2,22],[23],[23,24],[23,25],[23,26],[23,27],[23,28],[2,23,29],[2,30],[31],[31,32],[31,33],[31,34],[31,35],[31,36],[2,31,37],[2,38]] [It.v _,It.v _,It.v<|.bool true,It.v _,It.v _,It.v _,It.v _,It.v _,It.v _,It.v _,It.v<|.bool false,It.v _,It.v _,It.v _,It.v _,It.v _,It.v _,It.v _,It.v _,It.v _,It.v _,It.v _,It.v _,It.v<|.bool false,It.v _,It.v _,It.v _,It.v _,It.v _,It.v _,It.v _,It.v<|.bool false,It.v _,It.v _,It.v _,It.v _,It.v _,It.v _,It.v _,It.v _] de rfl;intro wd aC;refine Ck ?_;refine vk aC (λx e d=>?_) ?_;refine xZ rfl rfl rfl rfl rfl ?_;exact pv;refine vc (λx e d=>?_) ?_;refine zm ?_;exact pv (by exact congrArg Value.bool<|dT om);refine vc (λ_ _ _=>zf kn rfl pv) ?_;refine vk aC (λx e d=>?_) ?_;have f:=f.ext d;refine zl jC rfl (f.at rfl) ?_;exact pv;refine vk aC (λx e d=>?_) ?_;refine zi (i:=2) cT aO rfl rfl om ?_;exact pv;refine vc (λ_ _ _=>zf ml rfl pv) ?_;refine vk aC (λx e d=>?_) ?_;have l:=l.ext d;refine zl gI rfl (l 0 _ rfl) ?_;exact pv;refine vk aC (λx e d=>?_) ?_;refine aA (xo _ _) ?_;rintro _ _ ⟨rfl,rfl⟩;exact pv;refine vc (λ_ _ _=>kj rfl rfl rfl pv) ?_;refine vc (λx e d=>?_) ?_;refine zm ?_;exact pv (by exact congrArg Value.bool (show(!eJ (nth t.ag 2).au)=false from by rw[o];rfl));refine vc (λ_ _ _=>zf kn rfl pv) ?_;refine vk aC (λx e d=>?_) ?_;have f:=f.ext d;refine zl jC rfl (f.at rfl) ?_;exact pv;refine vk aC (λx e d=>?_) ?_;refine zi (i:=1) cT aO rfl rfl om ?_;exact pv;refine vc (λ_ _ _=>zf ml rfl pv) ?_;refine vk aC (λx e d=>?_) ?_;have p:=p.ext d;refine zl gI rfl (p 0 _ rfl) ?_;exact pv;refine vc (λ_ _ _=>zf kn rfl pv) ?_;refine vk aC (λx e d=>?_) ?_;have f:=f.ext d;refine zl jC rfl (f.at rfl) ?_;exact pv;refine vk aC (λx e d=>?_) ?_;refine zi (i:=2) cT aO rfl rfl om ?_;exact pv;refine vc (λ_ _ _=>zf ml rfl pv) ?_;refine vk aC (λx e d=>?_) ?_;have l:=l.ext d;refine zl gI rfl (l 0 _ rfl) ?_;exact pv;refine vk aC (λx e d=>?_) ?_;refine FK rfl rfl rfl rfl ?_;exact pv;refine vc (λ_ _ _=>zp rfl pv) ?_;refine vc (λx e d=>?_) ?_;refine zm ?_;exact pv (by exact congrArg Value.bool<|dF F);refine vc (λ_ _ _=>zf kn rfl pv) ?_;refine vk aC (λx e d=>?_) ?_;have f:=f.ext d;refine zl jC rfl (f.at rfl) ?_;exact pv;refine vk aC (λx e d=>?_) ?_;refine zi (i:=3) cT aO rfl rfl om ?_;exact pv;refine vk aC (λx e d=>?_) ?_;have B:=B.ext d;refine zL fN aO rfl B rfl ?_;exact pv;refine vk aC (λx e d=>?_) ?_;have A:=A.ext d;refine aA (CN (nth t.ag 3) om (K.nth om) _ _ e A) ?_;rintro v3 w3 ⟨H,u⟩;have M:=u.size;obtain rfl:=H;exact pk u;refine vc (λ_ _ _=>kj rfl rfl rfl pv) ?_;refine vc (λ_ _ _=>zp rfl pv) ?_;refine vc (λx e d=>?_) ?_;refine zm ?_;exact pv (by exact congrArg Value.bool (show(!kR (nth t.ag 3))=false from by rw[y];rfl));refine vc (λ_ _ _=>zf kn rfl pv) ?_;refine vk aC (λx e d=>?_) ?_;have f:=f.ext d;refine zl jC rfl (f.at rfl) ?_;exact pv;refine vk aC (λx e d=>?_) ?_;refine zi (i:=4) cT aO rfl rfl om ?_;exact pv;refine vk aC (λx e d=>?_) ?_;have P:=P.ext d;refine zL fN aO rfl P rfl ?_;exact pv;refine vk aC (λx e d=>?_) ?_;have Q:=Q.ext d;refine aA (CN (nth t.ag 4) om (K.nth om) _ _ e Q) ?_;rintro v3 w3 ⟨H,u⟩;have M:=u.size;obtain rfl:=H;exact pk u;refine vc (λ_ _ _=>kj rfl rfl rfl pv) ?_;refine vc (λ_ _ _=>zp rfl pv) ?_;refine vc (λ_ _ _=>zp rfl pv) ?_;exact trivial;intro x mu s;have g:=g.ext s;change OW _ _ _ _ [] (aY (aX _ x _)<|zZ 52 [_,_,_,_,_,_,_,_,_,_,_,_,_,_,_,_,_,_,_,_,_,_,_,_,_,_,_,_,_,_,_,_,_,_,_,_,_,_,_,_]) _;refine bf ?_;exact⟨(),⟨rfl,rfl,rfl,congrArg Value.bool (show(!kR (nth t.ag 4))=_ from by unfold Er;rw[dT q,o,y,J,Bool.and_false];rfl)⟩,g,s⟩;obtain⟨q,o,F,y,J⟩:=C;have E:=X q;obtain⟨S,U,T,p,Y⟩:=z 1 om;obtain⟨jn,CM,jo,l,eu⟩:=z 2 om;obtain⟨pK,XC,mU,B,A⟩:=z 3 om;obtain⟨I8,pn4,I9,P,Q⟩:=z 4 om;have M:=kP (t:=t) (i:=3) om;have fP:=kP (t:=t) (i:=4) om;apply km dh 40 (rA 52 40) (rA 52 40) [[],[0],[1],[2],[2,3],[2,4],[2,5],[2,6],[2,7],[2,8],[2,9],[10],[10,11],[10,12],[10,13],[10,14],[10],[10,16],[10,17],[10,18],[10,19],[10,15,20],[2,10,21],[2,22],[23],[23,24],[23,25],[23,26],[23,27],[23,28],[2,23,29],[2,30],[31],[31,32],[31,33],[31,34],[31,35],[31,36],[2,31,37],[2,38]] [It.v _,It.v _,It.v<|.bool true,It.v _,It.v _,It.v _,It.v _,It.v _,It.v _,It.v _,It.v<|.bool false,It.v _,It.v _,It.v _,It.v _,It.v _,It.v _,It.v _,It.v _,It.v _,It.v _,It.v _,It.v _,It.v<|.bool false,It.v _,It.v _,It.v _,It.v _,It.v _,It.v _,It.v _,It.v<|.bool false,It.v _,It.v _,It.v _,It.v _,It.v _,It.v _,It.v _,It.v _] de rfl;intro wd aC;refine Ck ?_;refine vk aC (λx e d=>?_) ?_;refine xZ rfl rfl rfl rfl rfl ?_;exact pv;refine vc (λx e d=>?_) ?_;refine zm ?_;exact pv (by exact congrArg Value.bool<|dT om);refine vc (λ_ _ _=>zf kn rfl pv) ?_;refine vk aC (λx e d=>?_) ?_;have f:=f.ext d;refine zl jC rfl (f.at rfl) ?_;exact pv;refine vk aC (λx e d=>?_) ?_;refine zi (i:=2) cT aO rfl rfl om ?_;exact pv;refine vc (λ_ _ _=>zf ml rfl pv) ?_;refine vk aC (λx e d=>?_) ?_;have l:=l.ext d;refine zl gI rfl (l 0 _ rfl) ?_;exact pv;refine vk aC (λx e d=>?_) ?_;refine aA (xo _ _) ?_;rintro _ _ ⟨rfl,rfl⟩;exact pv;refine vc (λ_ _ _=>kj rfl rfl rfl pv) ?_;refine vc (λx e d=>?_) ?_;refine zm ?_;exact pv (by exact congrArg Value.bool (show(!eJ (nth t.ag 2).au)=false from by rw[o];rfl));refine vc (λ_ _ _=>zf kn rfl pv) ?_;refine vk aC (λx e d=>?_) ?_;have f:=f.ext d;refine zl jC rfl (f.at rfl) ?_;exact pv;refine vk aC (λx e d=>?_) ?_;refine zi (i:=1) cT aO rfl rfl om ?_;exact pv;refine vc (λ_ _ _=>zf ml rfl pv) ?_;refine vk aC (λx e d=>?_) ?_;have p:=p.ext d;refine zl gI rfl (p 0 _ rfl) ?_;exact pv;refine vc (λ_ _ _=>zf kn rfl pv) ?_;refine vk aC (λx e d=>?_) ?_;have f:=f.ext d;refine zl jC rfl (f.at rfl) ?_;exact pv;refine vk aC (λx e d=>?_) ?_;refine zi (i:=2) cT aO rfl rfl om ?_;exact pv;refine vc (λ_ _ _=>zf ml rfl pv) ?_;refine vk aC (λx e d=>?_) ?_;have l:=l.ext d;refine zl gI rfl (l 0 _ rfl) ?_;exact pv;refine vk aC (λx e d=>?_) ?_;refine FK rfl rfl rfl rfl ?_;exact pv;refine vc (λ_ _ _=>zp rfl pv) ?_;refine vc (λx e d=>?_) ?_;refine zm ?_;exact pv (by exact congrArg Value.bool<|dF F);refine vc (λ_ _ _=>zf kn rfl pv) ?_;refine vk aC (λx e d=>?_) ?_;have f:=f.ext d;refine zl jC rfl (f.at rfl) ?_;exact pv;refine vk aC (λx e d=>?_) ?_;refine zi (i:=3) cT aO rfl rfl om ?_;exact pv;refine vk aC (λx e d=>?_) ?_;have B:=B.ext d;refine zL fN aO rfl B rfl ?_;exact pv;refine vk aC (λx e d=>?_) ?_;have A:=A.ext d;refine aA (CN (nth t.ag 3) om (K.nth om) _ _ e A) ?_;rintro v3 w3 ⟨H,u⟩;have M:=u.size;obtain rfl:=H;exact pk u;refine vc (λ_ _ _=>kj rfl rfl rfl pv) ?_;refine vc (λ_ _ _=>zp rfl pv) ?_;refine vc (λx e d=>?_) ?_;refine zm ?_;exact pv (by exact congrArg Value.bool (show(!kR (nth t.ag 3))=false from by rw[y];rfl));refine vc (λ_ _ _=>zf kn rfl pv) ?_;refine vk aC (λx e d=>?_) ?_;have f:=f.ext d;refine zl jC rfl (f.at rfl) ?_;exact pv;refine vk aC (λx e d=>?_) ?_;refine zi (i:=4) cT aO rfl rfl om ?_;exact pv;refine vk aC (λx e d=>?_) ?_;have P:=P.ext d;refine zL fN aO rfl P rfl ?_;exact pv;refine vk aC (λx e d=>?_) ?_;have Q:=Q.ext d;refine aA (CN (nth t.ag 4) om (K.nth om) _ _ e Q) ?_;rintro v3 w3 ⟨H,u⟩;have M:=u.size;obtain rfl:=H;exact pk u;refine vc (λ_ _ _=>kj rfl rfl rfl pv) ?_;refine vc (λ_ _ _=>zp rfl pv) ?_;refine vc (λ_ _ _=>zp rfl pv) ?_;exact trivial;intro x mu s;have g:=g.ext s;change OW _ _ _ _ [] (aY (aX _ x _)<|zZ 52 [_,_,_,_,_,_,_,_,_,_,_,_,_,_,_,_,_,_,_,_,_,_,_,_,_,_,_,_,_,_,_,_,_,_,_,_,_,_,_,_]) _;refine bf ?_;exact⟨(),⟨rfl,rfl,rfl,congrArg Value.bool (show(!kR (nth t.ag 4))=_ from by unfold Er;rw[dT q,o,y,J,dT F];rfl)⟩,g,s⟩;intro _ ow _ hI;obtain⟨g,aD⟩:=hI;have f:=f.ext aD;have D:=D.ext aD;refine zc rfl (λN=>?_) λN=>?_;have O:er t=false:=(by simp only[aE,dE,Bool.not_eq_true'] at N;rw[gq,dF λh=>h N.1,N.2];rfl);refine zr<|zA<|bf<|la ?_;exact⟨_,rfl,by rw[O];rfl,g⟩;have Az:er t=(t.ag.drop (eP (nth t.ag 0).au).1).all er:=(by simp only[Bool.and_eq_false_iff,decide_eq_false_iff_not,Bool.not_eq_false'] at N;rw[gq];rcases N with h|h;(·rw[dT h];rfl);(·rw[h,Bool.or_true];rfl));refine iD<|j1<|zr<|zm<|zA<|bf<|vw ?_;refine eW (λk:Nat=>[(1,.pointer<|some ⟨w.heap.size,0,none⟩),(6,.int .i64 ((eP (nth t.ag 0).au).2:Int)),(7,.int .i64 (k:Int))]) (λk w'=>aj [] w w'/\aj [] ow w'/\(eP (nth t.ag 0).au).1<=k/\k<=t.ag.length/\∀j,(eP (nth t.ag 0).au).1<=j->j<k->er (nth t.ag j)=true) (λk=>t.ag.length-k) ((eP (nth t.ag 0).au).1) (⟨rfl,rfl,rfl⟩) (⟨g,aj.refl _ _,lR _,om,by intro j I o;omega⟩) ?_;intro R eU _ hI;obtain⟨g,lI,aI,hk,cZ⟩:=hI;have f:=f.ext lI;have D:=D.ext lI;refine j1<|zr<|zm<|zm<|Kw rfl rfl rfl rfl rfl<|bf<|zc rfl (λh8=>?_) λh8=>?_;have iU:R<t.ag.length:=om;obtain⟨b1,fg,S,U,T,Z,p,tt,qh⟩:=gB D<|ek iU;cases Z
  subst tt;have Y:=jQ qh;have cH:=kP iU;refine iD<|j1<|vw<|zr<|zf kn rfl<|zl jC rfl (f.at rfl)<|zm<|zi cT aO rfl rfl iU<|zL fN aO rfl p rfl<|aA (ih (nth t.ag R) om om (K.nth iU) _ _ eU Y) ?_;rintro _ _ ⟨aj9,gw⟩;have atp:=gw.size;have g:=g.ext gw;have lI:=lI.ext gw;obtain rfl:=aj9;refine kj rfl rfl rfl<|bf<|zc rfl (λh9=>?_) λh9=>?_;have O:er t=false:=(by rw[Az];exact aj4 aI iU<|by simpa using h9);refine zr<|zA<|bf<|la ?_;exact⟨_,rfl,by rw[O];rfl,g⟩;have hy:er (nth t.ag R)=true:=(by simpa using h9);refine iD<|mf<|zm<|oJ rfl rfl rfl rfl rfl (wrap_i64 _ om om)<|zA<|bf ?_;exact⟨R+1,⟨rfl,rfl,rfl⟩,⟨g,lI,om,om,by intro j I o;rcases Nat.lt_or_ge j R with h|h;exact cZ j I h;rw[show j=R by omega];exact hy⟩,om⟩;refine Bn<|Bo rfl<|zr<|zA<|bf<|la ?_;exact⟨_,rfl,by rw[Az,aj3 λj I o=>cZ j I om];rfl,g⟩
section
variable {P:Program} {w:World}
theorem aka {t ty T:TypeId} {i:TypeInfo} {D bytes:Nat} (H:P.underlying t=some (.slice T)) (F:P.info? T=some i) (M:i.zero=some z) 
  (R:i.size=D) (X:i.bytes=bytes) (zz:z.cells.size=D)
  {v:Value} {g:Option Nat} {n:Nat} {p:List Value} (B:iX w T D v g n p)
  (r d m c:Nat) (a:List Value) (s:a.length=m*D) (S:fZ w r d a) (Y:∀u∈a,u.oneCell'=true) (Z:0<m) (V:0<i.size)
  (L:n+m<=maxLen) (Q:(n+m)*bytes<=140737488355328):
  ∃N E w',(Builtin.append_ #[t,t] ty #[v,.slice (some ⟨r,d,none⟩) m c]).run P w= .ok N w'/\iX w' T D N E (n+m) (p++a)/\
   ((E=g/\aj g.toList w w'/\∀b,g=some b->∃e U,aK w b e U/\0<e.size)\/(E=some w.heap.size/\aj [] w w')):=by
 subst R;subst X;have FH:n+m<=9223372036854775807:=by simp only[maxLen] at L;omega
 have f:(p++a).length=(n+m)*i.size:=by rw[lA,B.1,s,Nat.add_mul]
 have O:∀b o j:Nat,(⟨b,o,none⟩:Addr).add j=⟨b,o+j,none⟩:=λb o j=>by unfold Addr.add;split<;>simp_all
 have K:∀j u,a[j]?=some u->w.cell? ((⟨r,d,none⟩:Addr).add j)=some u:=λj u y=>by rw[O];exact S j u y
 have l:∀(old:Nat),old<n+m->
   iX (w.drew.alloc<|.cells (p.toArray++a.toArray++Builtin.zeroCells z.cells (grownCap w (n+m) old T-(n+m))) T) T i.size
    (.slice (some ⟨w.heap.size,0,none⟩) (n+m)<|grownCap w (n+m) old T) (some w.heap.size) (n+m) (p++a)/\
   aj [] w (w.drew.alloc<|.cells (p.toArray++a.toArray++Builtin.zeroCells z.cells (grownCap w (n+m) old T-(n+m))) T):=by
  intro old _;have sY:=grownCap_ge w (n+m) old T;have I:grownCap w (n+m) old T<=maxLen:=grownCap_le_maxLen w (n+m) old T L;refine⟨⟨f,.inr ⟨w.heap.size,_,_,rfl,rfl,heap_alloc_new w.drew _,sY,I,?_,?_⟩⟩,⟨rfl,rfl,rfl,sm,λk hk _=>(aj.alloc [] w.drew _).block k hk sm⟩⟩
  .simp only[Array.size_append,List.size_toArray,size_zeroCells,zz,B.1,s,<-Nat.add_mul]
   congr 1
   omega
  .simp only[Array.toList_append,List.append_assoc];rw[<-List.append_assoc,<-f];exact List.take_left
 rcases B.2 with⟨rfl,rfl,rfl⟩|⟨b,cap,e,rfl,rfl,hb,nW,I,cL,vz⟩
 .have hx:p=[]:=List.eq_nil_of_length_eq_zero (by simpa using B.1);subst hx;have C:=run_append_nil (P:=P) w t ty T i z H F M ⟨r,d,none⟩ m c a s K Z om (by have hb:=Q;simp only[Nat.zero_add] at hb;omega);have A:=l 0 om;simp only[Nat.zero_add,List.nil_append,Array.empty_append] at A⊢;exact⟨_,_,_,C,A.1,.inr ⟨rfl,A.2⟩⟩
 .by_cases J:n+m<=cap
  .have mh:n*i.size+a.length<=e.size:=by rw[s,cL,<-Nat.add_mul];exact Nat.mul_le_mul_right _ J
   have C:=run_append_room (P:=P) w t ty T i H F b n cap e hb ⟨r,d,none⟩ m c a s K Y J mh;refine⟨_,some b,_,C,⟨f,.inr ⟨b,cap,_,rfl,rfl,setRow_heap w b e _ T _ hb,J,I,?_,?_⟩⟩,.inl ⟨rfl,⟨rfl,rfl,rfl,sm,λk _ hk=>setRow_other w b k _<|by simpa using hk⟩,λ_ im=>?_⟩⟩
   .simp only[List.size_toArray,lA,List.length_take,List.length_drop,Array.length_toList];omega
   .rw[vz,<-f];exact List.take_left
   .cases im;refine⟨e,T,hb,?_⟩;rw[cL];exact Nat.mul_pos om V
  .have q:∀j u,p[j]?=some u->w.cell? ((⟨b,0,none⟩:Addr).add j)=some u:=λj u y=>by
    rw[O,hb.cell];rw[<-vz,List.getElem?_take] at y;split at y
    .simpa using y
    .cases y
   have C:=run_append_grow (P:=P) w t ty T i z H F M ⟨b,0,none⟩ n cap p B.1 q ⟨r,d,none⟩ m c a s K om om<|growslice_fits om Q;have A:=l cap om;exact⟨_,_,_,C,A.1,.inr ⟨rfl,A.2⟩⟩
end
def rS (G:List Nat) (w:World) (T:TypeId) (g:Option Nat):Prop:=∀x∈g.toList,x∈G\/aK w x #[] T
theorem rS.ext {T:TypeId} (h:rS G w T g) (k:aj [] w w'):rS G w' T g:=λx a=>(h x a).imp id λh=>h.ext k
theorem rS.sub {T:TypeId} (h:∀x∈g.toList,x∈G):rS G w T g:=λx a=>.inl<|h x a
section
variable {P:Program} {n:Nat} {ops:Array Oper} {K:Env->World->Prop} {rest:List Oper} {e:Env} {w:World} {dst:Option Nat} {ty:TypeId} {pos:String} {after:Array Edge} {g:Option (Nat×Bool)} {x y:Operand}
theorem GH {G L:List Nat} {t:Nat} {v u:Value} {o:Option Nat} {d c:List ak} (J:P.underlying t=some (.slice E)) (hE:TI P E 1 bytes z) (N:gate ops e g=true) (M:cK n dst=true) (hz:Nat.beq z.cells.size 1=true) (gW:Nat.ble bytes 1000=true) 
  (R:ev e x=v) (S:ev e y=u) (r:cN w E v o d) (A:bo L w u c) (D:fI G w) (H:rS G w E o) (hn:d.length+c.length<100000000)
  (k:∀j f w' p,cN w' E j f (d++c)->rS p w' E f->(∀x∈f.toList,x∈o.toList\/w.heap.size<=x)->(∀x∈G,x∈p)->Fr G w p w'->fI p w'->aj o.toList w w'->OW P n ops K rest (cj e dst j) w'):
  OW P n ops K (⟨dst,.call {callee:=.builtin .append,args:=#[x,y],argTypes:=#[t,t]},ty,pos,after,g⟩::rest) e w:=by
 obtain⟨i,O,zI,I,Z⟩:=hE.get;have V:bytes<=1000:=Nat.le_of_ble_eq_true gW;obtain⟨a2,_,c2,rfl,fu⟩:=eD A;subst fu;by_cases Q:0<c.length
 .obtain⟨ab,l,_,rfl,_,_,hc,Y,_,_⟩:=Wk A (by rw[rB];exact Q);have aW:=P1 Y;subst aW;obtain⟨j,f,w',F,vG,C⟩:=aka (P:=P) (ty:=ty) J O zI I Z (Nat.eq_of_beq_eq_true hz) r ab l c.length c2 (c.map λx=>str x) sm hc (by intro u A;obtain⟨s,_,rfl⟩:=List.mem_map.1 A;rfl) Q (by rw[I];decide) (by simp only[maxLen];omega)
   (Nat.le_trans (Nat.mul_le_mul (show d.length+c.length<=100000000 by omega) V) de)
  have B:cN w' E j f (d++c):=by unfold cN;rw[lA,List.map_append];exact vG
  refine fS N M (v:=j) (w':=w') (by simp only[execOp,resolve,invoke,builtin,Sem.run_bind,Sem.run_pure,Result.andThen_ok,List.map_toArray,List.map_cons,List.map_nil,R,S,F]) ?_;rcases C with⟨rfl,hk,CP⟩|⟨rfl,hk⟩
  .have T:∀q∈f.toList,q∈G:=λq b=>by
    rcases H q b with h|h
    .exact h
    .obtain⟨_,U,hb,hs⟩:=CP q (by simpa using b);unfold aK at h hb;rw[h] at hb;cases hb;simp at hs
   exact k j f w' G B (rS.sub T) (λq b=>.inl b) (λq b=>b) (Fr.of hk T) (λq b=>lL (D q b) hk.size) hk
  .have eN:w.heap.size<w'.heap.size:=B.lt _ sm;refine k j _ w' (w.heap.size::G) B (rS.sub sm) (λq b=>.inr (by simp at b;omega)) (λq b=>mK _ b) ⟨hk.any,λq b=>?_⟩ (λq b=>?_) hk.any
   .rcases mC.1 b with h|h
    .right;omega
    .exact .inl h
   .rcases mC.1 b with h|h
    .omega
    .exact lL (D q h) hk.size
 .have lT:c=[]:=List.length_eq_zero_iff.1 om;subst lT;obtain⟨a,cap,rfl⟩:=kV r;have X:d.length<=cap:=by
   rcases r.2 with⟨h,h2,_⟩|⟨_,_,_,_,h,_,h2,_⟩
   .rw[h2];omega
   .cases h;exact h2
  have F:=Wl (P:=P) (w:=w) (t:=t) (ty:=ty) J O (a:=a) (m:=d.length) (cap:=cap) X (a2:=a2) (c2:=c2);refine fS N M (v:=.slice a d.length cap) (w':=w) (by simp only[execOp,resolve,invoke,builtin,Sem.run_bind,Sem.run_pure,Result.andThen_ok,List.map_toArray,List.map_cons,List.map_nil,R,S];have e2:([]:List ak).length=0:=rfl;rw[e2];simp only[F,Sem.run_bind,Sem.run_pure,Result.andThen_ok]) ?_;exact k _ o w G (by rw[List.append_nil];exact r) H (λq b=>.inl b) (λq b=>b) (Fr.refl _ _) D<|aj.refl _ _
theorem akc {T:Nat} (b:P.underlying T=some (.slice E)) (a:TI P E sz bytes z) (d:gate ops e g=true) (c:cK n dst=true) 
  (k:∀w',aj [] w w'->aK w' w.heap.size #[] E->w'.heap.size=w.heap.size+1->OW P n ops K rest (cj e dst<|.slice (some ⟨w.heap.size,0,none⟩) 0 0) w'):
  OW P n ops K (⟨dst,.buildSlice T 0 #[],ty,pos,after,g⟩::rest) e w:=
 fS d c (w':=w.alloc<|.cells #[] E) (by simp[execOp,TQ (P:=P) (w:=w) b a]) (k _ (aj.alloc _ _ _) (aK.alloc _ _ _) sm)
theorem ik {T:Nat} (b:P.underlying T=some (.slice E)) (a:TI P E sz bytes z) (k:∀w',aj [] w w'->aK w' w.heap.size #[] E->w'.heap.size=w.heap.size+1->OW P n ops K rest (cj e dst<|.slice (some ⟨w.heap.size,0,none⟩) 0 0) w') (d:gate ops e g=true:=by rfl) (c:cK n dst=true:=by rfl):OW P n ops K (⟨dst,.buildSlice T 0 #[],ty,pos,after,g⟩::rest) e w:=akc b a d c k
end
def LP (N:Nat) (G a:List Nat) (w:World) (T:TypeId) (v:Value) (b:List ak):Prop:=∃g,cN w T v g b/\rS G w T g/\∀x∈g.toList,x∉a/\N<=x
theorem LP.ext {T:TypeId} (h:LP N G G0 w T v xs) (k:aj [] w w'):LP N G G0 w' T v xs:=let⟨g,a,b,c⟩:=h;⟨g,a.ext k,b.ext k,c⟩
structure Out (N:Nat) (G0:List Nat) (w w':World):Prop where
 ex:∃H,aj H w w'/\∀x∈H,x∉G0/\N<=x
theorem Out.je (h:Out N G0 w w') {a:Array Value} {T:TypeId} (hb:aK w b a T) (c:b∈G0):aK w' b a T:=let⟨_,k,d⟩:=h.ex;hb.aG k λe=>(d b e).1 c
theorem Out.since {L:List Nat} {a:World} (h:Out a.heap.size G0 w w') (k:aj L a w):aj L a w':=let⟨_,d,b⟩:=h.ex;k.since d λx c=>.inr (b x c).2
section
variable {P:Program} {n:Nat} {ops:Array Oper} {K:Env->World->Prop} {rest:List Oper} {e:Env} {w:World} {dst:Option Nat} {ty:TypeId} {pos:String} {after:Array Edge} {g:Option (Nat×Bool)} {x y:Operand}
theorem Ja {N:Nat} {b:List Nat} {t f:Nat} {u:Value} {i:List ak} (A:P.underlying t=some (.slice E)) (s:TI P E 1 bytes z) (D:gate ops e g=true) (C:cK n dst=true) (M:Nat.beq z.cells.size 1=true) (r:Nat.ble bytes 1000=true) 
  (J:ev e x= .slice (some ⟨f,0,none⟩) 0 0) (L:ev e y=u) (hb:eE b w f #[] E) (j:N<=f) (I:bo b w u i) (m:fI b w) (H:i.length<100000000)
  (k:∀d w' c,(∀q∈b,q∈c)->LP N c b w' E d i->Fr b w c w'->fI c w'->Out N b w w'->OW P n ops K rest (cj e dst d) w'):
  OW P n ops K (⟨dst,.call {callee:=.builtin .append,args:=#[x,y],argTypes:=#[t,t]},ty,pos,after,g⟩::rest) e w:=by
 refine GH A s D C M r J L hb.je.l5 I m (λq a=>.inr (by simp at a;subst a;exact hb.je)) (by simpa using H) ?_;intro d p w' c v B o O bN F hk;refine k d w' c O ⟨p,v,B,λq a=>⟨λl=>?_,?_⟩⟩ bN F ⟨_,hk,λq a=>?_⟩
 .rcases o q a with h|h
  .simp at h;subst h;exact hb.out l
  .have:=m q l;omega
 .rcases o q a with h|h
  .simp at h;subst h;exact j
  .have:=hb.je.lt;omega
 .simp at a;subst a;exact⟨hb.out,j⟩
theorem Mi {N:Nat} {G a:List Nat} {t:Nat} {v u:Value} {j l:List ak} (D:P.underlying t=some (.slice E)) (C:TI P E 1 bytes z) (H:gate ops e g=true) (F:cK n dst=true) (R:Nat.beq z.cells.size 1=true) (s:Nat.ble bytes 1000=true) 
  (O:ev e x=v) (Q:ev e y=u) (f:LP N G a w E v j) (M:bo G w u l) (p:fI G w) (i:∀q∈a,q∈G) (J:j.length+l.length<100000000)
  (k:∀d w',bo a w' d (j++l)->Fr G w a w'->fI a w'->Out N a w w'->OW P n ops K rest (cj e dst d) w'):
  OW P n ops K (⟨dst,.call {callee:=.builtin .append,args:=#[x,y],argTypes:=#[t,t]},ty,pos,after,g⟩::rest) e w:=by
 obtain⟨_,A,B,o⟩:=f;refine GH D C H F R s O Q A M p B J ?_;intro d _ w' _ f _ L m bN I hk;refine k d w' (f.rep λb hb r=>?_) (bN.to λq c=>.inl (m q<|i q c)) (λq c=>I q (m q<|i q c)) ⟨_,hk,λq c=>o q c⟩;rcases L b (by simp[hb]) with h|h
 .exact(o b h).1 r
 .have:=p b<|i b r;omega
end
theorem et.out {a:List Nat} {T:TypeId} {rows:List (List C)} (h:et G w T sz v g rows) (k:Fr G w a w') (e:Out N G0 w w') (d:∀x∈g.toList,x∈G0):et a w' T sz v g rows:=
 let⟨_,i,c⟩:=e.ex;h.aG k i λx f b=>(c x b).1<|d x f
section
variable {P:Program} {n:Nat} {ops:Array Oper} {K:Env->World->Prop} {rest:List Oper} {e:Env} {w:World} {pos:String} {ty:TypeId} {after:Array Edge} {g:Option (Nat×Bool)} {x y:Operand}
theorem uP {G:List Nat} {T:Nat} {v:Value} {vs:List Value} {row:List C} {E a:Nat} {N c:Nat} {rows:List (List C)} {b o i:Nat} (S:TI P T sz bytes z) (B:gate ops e g=true) 
  (J:ev e x= .pointer (some ⟨b,o,none⟩)) (L:ev e y=v) (I:v.cells=vs.toArray) (F:o=i*sz) (A:et G w E sz (.slice (some ⟨b,0,none⟩) N c) (some a) rows) (u:fI G w) (V:a∈G) (D:i<rows.length) (t:vs.all Value.oneCell'=true)
  (U:row.length=sz) (H:dy G w vs row)
  (k:∀w',aj [a] w w'->w'.heap.size=w.heap.size->et G w' E sz (.slice (some ⟨b,0,none⟩) N c) (some a) (rows.set i row)->OW P n ops K rest e w'):
  OW P n ops K (⟨none,.store T x y,ty,pos,after,g⟩::rest) e w:=by
 obtain⟨⟨xs,r,R⟩,O⟩:=A;have p:∀q,q∈a::G.filter (λq=>decide<|q≠a)->q∈G\/w.heap.size<=q:=λq d=>by
  rcases mC.1 d with h|h
  .exact .inl<|h▸V
  .exact .inl (List.mem_filter.1 h).1
 have j:Gr 0 (G.filter λq=>decide<|q≠a) w E sz (.slice (some ⟨b,0,none⟩) N c) (some a) rows:=
  ⟨⟨xs,r,R.fresh p,O,λq d s=>by cases d;simpa using(List.mem_filter.1 s).2⟩,λ_ _=>Nat.zero_le _,λq d=>u q (List.mem_filter.1 d).1,Nat.zero_le _⟩
 refine aiB S B J L I F j D t U (H.fresh p) ?_;intro w' hk M Q;obtain⟨l,f⟩:=Q.own;refine k w' hk M ⟨⟨l,f.own,f.rep.fresh λq d=>?_⟩,f.row⟩;by_cases m:q=a
 .exact .inl<|by simp[m]
 .exact .inl<|by simp[m,d]
end
theorem ake (h:Ga s t):(((bP s).isSome&&er t)&&decide ((gC t:Int)<=120))=nJ s:=by
 unfold nJ Mg;cases a:bP s with
 |none=>rfl
 |some u=>rw[h.1 u a];exact congrArg (λb=>er u&&b)<|decide_eq_decide.2 om
theorem Jb (s:ak) (L:List Nat) (w:World) (S:∀x∈L,x<w.heap.size):
  bD Tryz.prog 90 [str s] w λv w'=>(∃t D,v= .tuple #[D,.bool (nJ s)]/\aV L w' D t/\Ga s t)/\aj [] w w':=by
 have i:=aj.refl [] w;refine kM [.cell 2 103,.tmp 3] 22 Tryz.func90 rfl agS rfl rfl rfl ?_;refine zr<|dj aO rfl rfl rfl λY P n _=>?_;have i:=i.grow;have i:=i.ext P;refine W ?_;refine aA (LM s (w.heap.size::L) Y (by intro x y;rcases mC.1 y with rfl|y;omega;have:=S x y;omega)) ?_;rintro _ _ ⟨R,F⟩;have dA:=F.size;refine bQ F i n λi n=>?_;obtain⟨t,D,rfl,g,C⟩:=R;obtain⟨l,_,m,rfl,Q,_⟩:=cW g;subst Q;have z:∀h:(bP s).isSome=true,WF t/\t.size<=12001:=λh=>DO C.1 h;refine W ?_;refine dj aO rfl rfl rfl λ_ A r _=>?_;have i:=i.grow;have i:=i.ext A;have n:=n.grow;have n:=n.ext A;have g:=g.grow;have g:=g.ext A;refine cF aO rfl rfl rfl r rfl λ_ B r _=>?_;have i:=i.aB B sx;have n:=n.aB B sx;have g:=g.aB B sx;refine W ?_;have f:=(Dy w.heap.size ([str t.au,.slice l t.ag.length m]) 103);apply oS dh f 13 (rA 11 11++[100011,3]) (rA 11 11++[100011,3]) [[],[],[1],[2],[2,3],[2,4],[5],[6],[6,7],[6,8],[6,9],[0],[10]] [.v _,.v _,.v _,.p λv _=>((bP s).isSome)=true->v=(.agg #[str t.au,.slice l t.ag.length m]),.p λv _=>((bP s).isSome)=true->v=(.bool<|er t),.v (.bool<|(bP s).isSome&&er t),.v (.bool<|(bP s).isSome&&er t),.p λv _=>((bP s).isSome&&er t)=true->v=(.agg #[str t.au,.slice l t.ag.length m]),.p λv _=>((bP s).isSome&&er t)=true->v=(.int .i64 (gC t:Int)),.p λv _=>((bP s).isSome&&er t)=true->v=(.bool (decide<|(gC t:Int)<=120)),.v (.bool<|((bP s).isSome&&er t)&&decide ((gC t:Int)<=120)),.p λ_ Z=>aK Z w.heap.size ([str t.au,.slice l t.ag.length m]).toArray 103,.v (.bool<|((bP s).isSome&&er t)&&decide ((gC t:Int)<=120))] de (by exact(bJ (bJ<|bJ (nk<|nk (bJ<|bJ (nk<|nk (nk<|bJ (Dz<|bJ trivial))))))));intro _ aC;refine ga f aC (λx o d=>?_) ?_;have r:=r.aB d.1 sx;refine WZ ?_;exact bR f;refine cI (λ_ _ _=>WZ<|bR f) ?_;refine cI (λ_ _ _=>WZ<|bR f) ?_;refine eH ?_ ?_;intro x c o e d j a;have d2:c 2=(.bool<|(bP s).isSome):=j;replace d:=f.trans aC d;have r:=r.aB d.1 sx;rcases bE ((bP s).isSome) with b|b;rw[b] at d2;replace a:e=aY (aX _ x _) [(13,c 2)]:=a;rw[d2] at a;subst a;refine W ?_;exact dn (f.refl _)<|show((bP s).isSome)=true->_=((.agg #[str t.au,.slice l t.ag.length m]):Value) from λ_=>rfl;rw[b] at d2;replace a:e=aY (aX _ x _) [(13,c 2)]:=a;rw[d2] at a;subst a;refine W ?_;exact dn (f.refl _) (show((bP s).isSome)=true->_=(_:Value) from λq=>nomatch b.symm.trans q);refine eH ?_ ?_;intro x c o e d j a;have p:(c 2=(.bool<|(bP s).isSome))/\(((bP s).isSome)=true->c 3=(.agg #[str t.au,.slice l t.ag.length m])):=j;obtain⟨d2,d3⟩:=p;replace d:=f.trans aC d;have g:=g.aB d.1 sx;rcases bE ((bP s).isSome) with b|b;rw[b] at d2;replace d3:=d3 b;replace a:e=aY (aX _ x _) [(13,c 2),(14,c 3)]:=a;rw[d2,d3] at a;subst a;refine aA (aj6 t.size t (lR _) (by have:=(z b).2;omega) (z b).1 _ _ o g) ?_;rintro _ O ⟨rfl,u⟩;have U:=u.size;refine W ?_;exact dn (f.of u)<|show((bP s).isSome)=true->_=((.bool<|er t):Value) from λ_=>rfl;rw[b] at d2;replace a:e=aY (aX _ x _) [(13,c 2),(14,c 3)]:=a;rw[d2] at a;subst a;refine W ?_;exact dn (f.refl _) (show((bP s).isSome)=true->_=(_:Value) from λq=>nomatch b.symm.trans q);refine eH ?_ ?_;intro x c o e d j a;have p:(c 2=(.bool<|(bP s).isSome))/\(((bP s).isSome)=true->c 4=(.bool<|er t)):=j;obtain⟨d2,d4⟩:=p;replace d:=f.trans aC d;rcases bE ((bP s).isSome) with b|b;rw[b] at d2;replace d4:=d4 b;replace a:e=aY (aX _ x _) [(13,c 2),(15,c 4)]:=a;rw[d2,d4] at a;subst a;refine W ?_;exact dn (f.refl _) (by first|rfl|(rw[b];rfl));rw[b] at d2;replace a:e=aY (aX _ x _) [(13,c 2),(15,c 4)]:=a;rw[d2] at a;subst a;refine W ?_;exact dn (f.refl _) (by first|rfl|(rw[b];rfl));refine cI (λ_ _ _=>WZ<|bR f) ?_;refine eH ?_ ?_;intro x c o e d j a;have d6:c 6=(.bool<|(bP s).isSome&&er t):=j;replace d:=f.trans aC d;have r:=r.aB d.1 sx;rcases bE ((bP s).isSome&&er t) with b|b;rw[b] at d6;replace a:e=aY (aX _ x _) [(17,c 6)]:=a;rw[d6] at a;subst a;refine W ?_;exact dn (f.refl _)<|show((bP s).isSome&&er t)=true->_=((.agg #[str t.au,.slice l t.ag.length m]):Value) from λ_=>rfl;rw[b] at d6;replace a:e=aY (aX _ x _) [(17,c 6)]:=a;rw[d6] at a;subst a;refine W ?_;exact dn (f.refl _) (show((bP s).isSome&&er t)=true->_=(_:Value) from λq=>nomatch b.symm.trans q);refine eH ?_ ?_;intro x c o e d j a;have p:(c 6=(.bool<|(bP s).isSome&&er t))/\(((bP s).isSome&&er t)=true->c 7=(.agg #[str t.au,.slice l t.ag.length m])):=j;obtain⟨d6,d7⟩:=p;replace d:=f.trans aC d;have g:=g.aB d.1 sx;rcases bE ((bP s).isSome&&er t) with b|b;rw[b] at d6;replace d7:=d7 b;replace a:e=aY (aX _ x _) [(17,c 6),(18,c 7)]:=a;rw[d6,d7] at a;subst a;refine aA (Xt t.size t (lR _) (by have:=(z ((aE _ _).mp b).1).2;omega) (z ((aE _ _).mp b).1).1 _ _ o g) ?_;rintro _ O ⟨rfl,u⟩;have U:=u.size;refine W ?_;exact dn (f.of u)<|show((bP s).isSome&&er t)=true->_=((.int .i64 (gC t:Int)):Value) from λ_=>rfl;rw[b] at d6;replace a:e=aY (aX _ x _) [(17,c 6),(18,c 7)]:=a;rw[d6] at a;subst a;refine W ?_;exact dn (f.refl _) (show((bP s).isSome&&er t)=true->_=(_:Value) from λq=>nomatch b.symm.trans q);refine eH ?_ ?_;intro x c o e d j a;have p:(c 6=(.bool<|(bP s).isSome&&er t))/\(((bP s).isSome&&er t)=true->c 8=(.int .i64 (gC t:Int))):=j;obtain⟨d6,d8⟩:=p;replace d:=f.trans aC d;rcases bE ((bP s).isSome&&er t) with b|b;rw[b] at d6;replace d8:=d8 b;replace a:e=aY (aX _ x _) [(17,c 6),(19,c 8)]:=a;rw[d6,d8] at a;subst a;refine W ?_;exact dn (f.refl _)<|show((bP s).isSome&&er t)=true->_=((.bool (decide<|(gC t:Int)<=120)):Value) from λ_=>rfl;rw[b] at d6;replace a:e=aY (aX _ x _) [(17,c 6),(19,c 8)]:=a;rw[d6] at a;subst a;refine W ?_;exact dn (f.refl _) (show((bP s).isSome&&er t)=true->_=(_:Value) from λq=>nomatch b.symm.trans q);refine eH ?_ ?_;intro x c o e d j a;have p:(c 6=(.bool<|(bP s).isSome&&er t))/\(((bP s).isSome&&er t)=true->c 9=(.bool (decide<|(gC t:Int)<=120))):=j;obtain⟨d6,d9⟩:=p;replace d:=f.trans aC d;rcases bE ((bP s).isSome&&er t) with b|b;rw[b] at d6;replace d9:=d9 b;replace a:e=aY (aX _ x _) [(17,c 6),(20,c 9)]:=a;rw[d6,d9] at a;subst a;refine W ?_;exact dn (f.refl _) (by first|rfl|(rw[b];rfl));rw[b] at d6;replace a:e=aY (aX _ x _) [(17,c 6),(20,c 9)]:=a;rw[d6] at a;subst a;refine W ?_;exact dn (f.refl _) (by first|rfl|(rw[b];rfl));refine eH ?_ ?_;intro x c o e d j a;have d0:c 0=(.agg #[str t.au,.slice l t.ag.length m]):=j;replace d:=f.trans aC d;obtain⟨_,V,X⟩:=d.2.2 ⟨_,(by rfl),n⟩;replace a:e=aY (aX _ x _) [(11,c 0)]:=a;rw[d0] at a;subst a;refine cF aO rfl rfl rfl X (by rw[V];rfl) λO u hb _=>W ?_;exact dn ⟨u,λ_=>hb,λ_=>⟨_,rfl,hb⟩⟩ hb;refine cI (λ_ _ _=>WZ<|bR f) ?_;exact trivial;intro x T H;intro I d3;intro J d4;intro K d7;intro M d8;intro N d9;intro E d11;replace d3:((bP s).isSome)=true->I=(.agg #[str t.au,.slice l t.ag.length m]):=d3;replace d4:((bP s).isSome)=true->J=(.bool<|er t):=d4;replace d7:((bP s).isSome&&er t)=true->K=(.agg #[str t.au,.slice l t.ag.length m]):=d7;replace d8:((bP s).isSome&&er t)=true->M=(.int .i64 (gC t:Int)):=d8;replace d9:((bP s).isSome&&er t)=true->N=(.bool (decide<|(gC t:Int)<=120)):=d9;replace d11:aK T w.heap.size ([str t.au,.slice l t.ag.length m]).toArray 103:=d11;have i:=i.aB H.1 sx;have g:=g.aB H.1 sx;have n:=d11;change OW _ _ _ _ [] (aY (aX _ x _)<|zZ 11 [_,_,_,I,J,_,_,K,M,N,_]++[(100011,E),(3,_)]) _;refine W ?_;exact⟨[_,_],⟨gh fN aO rfl n rfl,rfl⟩,⟨t,_,by rw[ake C];rfl,g.dY λx y=>by simp[y],C⟩,i⟩
theorem Qt (s:ak) (w:World):bD Tryz.prog 95 [str s] w λr w'=>r= .bool (nJ s)/\aj [] w w':=by have a:=aj.refl [] w;refine cu [.tmp 2] 11 Tryz.func95 rfl agW rfl rfl ?_;refine W ?_;refine aA (Jb s [] w sm) ?_;rintro _ _ ⟨f,b⟩;have i:=b.size;have a:=a.ext b;obtain⟨t,_,rfl,g,_⟩:=f;obtain⟨_,_,_,rfl,_,_⟩:=cW g;refine W ?_;refine dj aO rfl rfl rfl λ_ e c _=>?_;have a:=a.grow;have a:=a.ext e;refine cF aO rfl rfl rfl c rfl λ_ d c _=>?_;have a:=a.aB d sx;refine W ?_;exact⟨_,rfl,rfl,a⟩
def o8 (a b:List ak) (s d:ak):Nat->ak
 |0=>d
 |k+1=>if cO a k=s then cO b k else o8 a b s d k
theorem XI {xs' ys':List ak} {d:ak}:∀{k:Nat},(∀i,i<k->cO xs i=cO xs' i/\cO ys i=cO ys' i)->o8 xs ys s d k=o8 xs' ys' s d k
 |0,_=>rfl
 |k+1,h=>by unfold o8;rw[(h k om).1,(h k om).2,XI λi _=>h i om]
theorem XJ (h:i<xs.length):cO (xs++ys) i=cO xs i:=by simp only[cO,gG];rw[List.getElem?_append_left h]
theorem XK {x:ak} (h:i=xs.length):cO (xs++[x]) i=x:=by subst h;simp[cO]
theorem XL {xs:List ak} {x y d:ak} (h:xs.length=ys.length):o8 (xs++[x]) (ys++[y]) s d (xs++[x]).length=if x=s then y else o8 xs ys s d xs.length:=by rw[lA,List.length_singleton,o8,XK rfl,XK h,XI (xs':=xs) (ys':=ys)];intro i a;exact⟨XJ a,XJ om⟩
theorem XM {b:Type} {Q:List b->Prop} (c:Q []) (d:∀l a,Q l->Q (l++[a])) (l:List b):Q l:=by
 have:∀r:List b,Q r.reverse:=by
  intro r;induction r with
  |nil=>exact c
  |cons a r e=>rw[List.reverse_cons];exact d _ _ e
 have:=this l.reverse;rwa [List.reverse_reverse] at this
def XN:Option Ty->ak
 |some T=>T.text
 |none=>[]
theorem XO (s:ak):∀a:Sc,o8 (a.map Prod.fst) (a.map λp=>p.2.text) s [] a.length=XN (look a s):=by
 refine XM rfl λa p b=>?_
 .obtain⟨x,T⟩:=p;have:=XL (xs:=a.map Prod.fst) (ys:=a.map λp=>p.2.text) (x:=x) (y:=T.text) (s:=s) (d:=[]) sm;rw[p8,List.map_append,List.map_append,lA];simp only[List.map_cons,List.map_nil,lA,List.length_map,List.length_singleton] at this⊢;rw[this,b];split<;>rfl
theorem akf (s:ak):∀a:Rn,o8 (a.map Prod.fst) (a.map Prod.snd) s s a.length=rK a s:=by
 refine XM rfl λa p b=>?_
 .obtain⟨x,y⟩:=p;have:=XL (xs:=a.map Prod.fst) (ys:=a.map Prod.snd) (x:=x) (y:=y) (s:=s) (d:=s) sm;rw[Pw,List.map_append,List.map_append,lA];simp only[List.map_cons,List.map_nil,lA,List.length_map,List.length_singleton] at this⊢;rw[this,b]
theorem Jc (xs b:List ak) (H:xs.length=b.length) (I:xs.length<=1000000000) (s:ak) (v u:Value) (L o:List Nat) (w:World) (m:bo L w v xs) (l:bo o w u b):
  bD Tryz.prog 166 [v,u,str s] w λr w'=>r=str (o8 xs b s [] xs.length)/\aj [] w w':=by
 obtain⟨a,n,c,rfl,E⟩:=eD m;obtain⟨q,_,c2,rfl,z⟩:=eD l;subst E z;have j:=aj.refl [] w;refine cu [.tmp 6] 25 Tryz.func166 rfl afq rfl rfl ?_;refine W ?_;refine eW (λk:Nat=>[(0,.slice a xs.length c),(1,.slice q b.length c2),(2,str s),(7,.int .i64<|(k:Int)-1)]) (λk w'=>w'=w/\k<=xs.length/\o8 xs b s [] xs.length=o8 xs b s [] k) (λk=>k) xs.length (⟨rfl,rfl,rfl,rfl⟩) (⟨rfl,lR _,rfl⟩) λd _ _ C=>?_;obtain⟨e,hk,g⟩:=C;subst e;refine W ?_;refine zc rfl (λB=>?_) λB=>?_;have t:∃k,d=k+1:=⟨d-1,om⟩;obtain⟨k,rfl⟩:=t;have F:=lP (xs:=xs) (i:=k) om;have p:=lP (xs:=b) (i:=k) om;obtain⟨_,_,rfl,_⟩:=qJ m F;obtain⟨_,_,rfl,_⟩:=qJ l p;have D:((k+1:Nat):Int)-1=(k:Int):=by omega
 rw[D];refine W ?_;refine zc rfl (λf=>?_) λf=>?_;refine W ?_;exact⟨_,rfl,by rw[g,o8,iP f];rfl,j⟩;have y:=f;refine W ?_;exact⟨k,⟨rfl,rfl,rfl,rfl⟩,⟨rfl,om,by rw[g,o8,iN y]⟩,om⟩;have A:d=0:=by omega
 refine W ?_;exact⟨_,rfl,by rw[g,A];rfl,j⟩
theorem akg (xs b:List ak) (H:xs.length=b.length) (I:xs.length<=1000000000) (s:ak) (v u:Value) (L o:List Nat) (w:World) (m:bo L w v xs) (l:bo o w u b):
  bD Tryz.prog 208 [v,u,str s] w λr w'=>r=str (o8 xs b s s xs.length)/\aj [] w w':=by
 obtain⟨a,n,c,rfl,E⟩:=eD m;obtain⟨q,_,c2,rfl,z⟩:=eD l;subst E z;have j:=aj.refl [] w;refine cu [.tmp 6] 26 Tryz.func208 rfl afZ rfl rfl ?_;refine W ?_;refine eW (λk:Nat=>[(0,.slice a xs.length c),(1,.slice q b.length c2),(2,str s),(7,.int .i64<|(k:Int)-1)]) (λk w'=>w'=w/\k<=xs.length/\o8 xs b s s xs.length=o8 xs b s s k) (λk=>k) xs.length (⟨rfl,rfl,rfl,rfl⟩) (⟨rfl,lR _,rfl⟩) λd _ _ C=>?_;obtain⟨e,hk,g⟩:=C;subst e;refine W ?_;refine zc rfl (λB=>?_) λB=>?_;have t:∃k,d=k+1:=⟨d-1,om⟩;obtain⟨k,rfl⟩:=t;have F:=lP (xs:=xs) (i:=k) om;have p:=lP (xs:=b) (i:=k) om;obtain⟨_,_,rfl,_⟩:=qJ m F;obtain⟨_,_,rfl,_⟩:=qJ l p;have D:((k+1:Nat):Int)-1=(k:Int):=by omega
 rw[D];refine W ?_;refine zc rfl (λf=>?_) λf=>?_;refine W ?_;exact⟨_,rfl,by rw[g,o8,iP f];rfl,j⟩;have y:=f;refine W ?_;exact⟨k,⟨rfl,rfl,rfl,rfl⟩,⟨rfl,om,by rw[g,o8,iN y]⟩,om⟩;have A:d=0:=by omega
 refine W ?_;exact⟨_,rfl,by rw[g,A];rfl,j⟩
theorem Mj:∀row,row∈iG xs->∀c∈row,∀v,c= .val v->v.oneCell'=true:=by intro row b;simp only[iG,List.mem_map] at b;obtain⟨x,_,rfl⟩:=b;intro c a u d;simp only[mC,List.not_mem_nil,or_false] at a;subst a;cases d;rfl
theorem XP (a b:List ak):iG a++iG b=iG (a++b):=by simp[iG]
theorem vY (f g:List ak) (d:f.length+g.length<100000000) (v u:Value) (L:List Nat) (w:World) (m:bo L w v f) (l:bo L w u g) (z:∀x∈L,x<w.heap.size):
  bD Tryz.prog 86 [v,u] w λr w'=>bo L w' r (f++g)/\aj [] w w':=by
 obtain⟨a,n,c,rfl,A⟩:=eD m;obtain⟨_,_,c2,rfl,t⟩:=eD l;subst A t;have b:=aj.refl [] w;refine cu [.tmp 4] 10 Tryz.func86 rfl U0 rfl rfl ?_;refine W ?_;refine zK w.heap.size L bA bw rfl rfl (lR _) z λ_ i _ j=>?_;have b:=b.ext i;have s:=cA.ext (cA.fresh m (L':=w.heap.size::L) ua) i;refine zm<|yt bA bw rfl rfl rfl rfl rfl rfl j s Mj (by rw[rB];simp;omega) λ_ _ y _ e q=>?_;have b:=j.since b q;have o:=cA.ext (cA.fresh l (L':=y.toList++L) (λx d=>by rcases mA.1 d with d|d;(·exact .inr (e.low x (by simpa using d)));(·exact .inl d))) b;refine zm<|yt bA bw rfl rfl rfl rfl rfl rfl e o Mj (by simp only[lA,rB];simp;omega) λ_ _ _ _ B p=>?_;have b:=e.since b p;refine W ?_;exact⟨_,rfl,(by have:=B.done;rw[List.nil_append,XP] at this;exact this),b⟩
def uR (t:aq) (i:Nat):List ak:=if(nth t.ag 0).au=ig/\i=3 then[(nth t.ag 1).au] else if(nth t.ag 0).au=iM then[(nth t.ag 1).au,(nth t.ag 2).au] else[]
theorem XR (h:e.ok) (l:e.ju=false) (i:Nat):uR e.av i=e.binds i:=by
 cases e with
 |«at» s=>cases l
 |un g a=>
  have d:g≠ig/\g≠iM:=by constructor<;>intro e<;>rw[e] at h<;>exact absurd h.1 de
  simp[uR,Ex.av,aq.ag,nth,bI,aq.au,d.1,d.2,Ex.binds]
 |bi g a b=>
  have d:g≠ig/\g≠iM:=by constructor<;>intro e<;>rw[e] at h<;>exact absurd h.1 de
  simp[uR,Ex.av,aq.ag,nth,bI,aq.au,d.1,d.2,Ex.binds]
 |ite a b c=>simp[uR,Ex.av,aq.ag,nth,bI,aq.au,Ex.binds]
 |lt x a b=>
  by_cases j:i=3
  .subst j;simp[uR,Ex.av,aq.ag,nth,bI,aq.au,Ex.binds]
  .have:(Ex.lt x a b).binds i=[]:=by unfold Ex.binds;split<;>first|rfl|simp_all
   rw[this];simp[uR,Ex.av,aq.ag,nth,bI,aq.au,j]
 |fn f x A B b=>simp[uR,Ex.av,aq.ag,nth,bI,aq.au,Ex.binds]
theorem XS (t:aq) (X:0<t.ag.length) (J:(nth t.ag 0).au=ig->1<t.ag.length) (V:(nth t.ag 0).au=iM->2<t.ag.length) (i:Nat) (v:Value) (L:List Nat) (w:World) (hv:aV L w v t):
  bD Tryz.prog 207 [v,.int .i64 (i:Int)] w λr w'=>(∀p,(∀x∈p,x<w.heap.size)->bo p w' r (uR t i))/\aj [] w w':=by
 obtain⟨a,n,c,rfl,hn,E⟩:=cW hv;subst hn;have d:=aj.refl [] w;obtain⟨b,D,K,N,M,rfl,F,_,_⟩:=gB E<|ek X;have C:∀i,i<t.ag.length->∃K N M,fZ w b (D+i*2) [str (nth t.ag i).au,.slice K N M]:=by intro i hi;obtain⟨_,_,H,O,I,T,g,_,_⟩:=gB E<|ek hi;cases T;exact⟨_,_,_,g⟩
 refine cu [.tmp 4] 41 Tryz.func207 rfl afY rfl rfl ?_;refine zr<|eK rfl λ_ R s S=>bQ R d F λd F=>?_;refine W ?_;apply oB 3 12 15 rfl oQ;intro _;exact oQ;intro _;refine zA<|bf<|zc rfl (λl=>?_) λl=>?_;have o:(nth t.ag 0).au=ig/\i=3:=(by simp only[aE,dE] at l;exact⟨l.1,om⟩);obtain⟨H,O,I,g⟩:=C 1<|J o.1;have g:=g.ext d;have fO:=J o.1;have hb:uR t i=[(nth t.ag 1).au]:=iP o;refine W ?_;refine fW bA bw rfl rfl λj f xr _=>?_;have d:=d.ext f;refine W ?_;exact⟨_,rfl,λp q=>(by rw[hb];exact aK.eC [(nth t.ag 1).au] xr λB=>by have:=q _ B;omega),d⟩;have P:¬((nth t.ag 0).au=ig/\i=3):=(λZ=>by simp only[Bool.and_eq_false_iff,decide_eq_false_iff_not] at l;rcases l with h|h;(·exact h Z.1);(·exact h om));refine W ?_;refine zc rfl (λA=>?_) λA=>?_;have o:=A;have iI:=V o;obtain⟨H,O,I,g⟩:=C 1 om;obtain⟨_,_,_,u⟩:=C 2 om;have g:=g.ext d;have u:=u.ext d;have hb:uR t i=[(nth t.ag 1).au,(nth t.ag 2).au]:=by unfold uR;rw[iN P,iP o]
 refine WZ ?_;apply yg dh 11 (rA 29 11) (rA 29 11) [[],[0],[1],[2],[3],[],[5],[6],[7],[8],[4,9]] [It.v _,It.v _,It.v _,It.v _,It.v _,It.v _,It.v _,It.v _,It.v _,It.v _,It.p (fun(v:Value) (ww:World)=>∃m,v= .slice (some ⟨m,0,none⟩) 2 2/\w.heap.size<=m/\aK ww m [str (nth t.ag 1).au,str (nth t.ag 2).au].toArray 9)] de (by exact⟨λv w w' ⟨m,e,Y,l⟩ k=>⟨m,e,Y,l.ext k⟩,trivial⟩);intro _ aC;refine vc (λ_ _ _=>WZ pv) ?_;refine vk aC (λx j f=>?_) ?_;have s:=s.ext f;refine WZ ?_;exact pv;refine vk aC (λx j f=>?_) ?_;refine zi (i:=1) cT aO rfl rfl om ?_;exact pv;refine vc (λ_ _ _=>WZ pv) ?_;refine vk aC (λx j f=>?_) ?_;have g:=g.ext f;refine WZ ?_;exact pv;refine vc (λ_ _ _=>WZ pv) ?_;refine vk aC (λx j f=>?_) ?_;have s:=s.ext f;refine WZ ?_;exact pv;refine vk aC (λx j f=>?_) ?_;refine WZ ?_;exact pv;refine vc (λ_ _ _=>WZ pv) ?_;refine vk aC (λx j f=>?_) ?_;have u:=u.ext f;refine WZ ?_;exact pv;refine vk aC (λx j f=>?_) ?_;have d:=d.ext f;have mV:=d.size;refine l4 bA bw rfl rfl rfl rfl ?_;intro _ Q y _;exact pf Q (⟨_,rfl,mV,y⟩);exact trivial;intro x _ U;intro _ d10;have d:=d.ext U;change OW _ _ _ _ _ (aY (aX _ x _)<|zZ 29 [_,_,_,_,_,_,_,_,_,_,_]) _;obtain⟨m,z,_,y⟩:=d10;refine W ?_;exact⟨_,rfl,λp q=>(by rw[hb];subst z;exact aK.eC [(nth t.ag 1).au,(nth t.ag 2).au] y λB=>by have:=q _ B;omega),d⟩;have hb:uR t i=[]:=(by unfold uR;rw[iN P,iN A]);refine iD<|zr<|zK w.heap.size [] bA bw rfl rfl d.size sm λj f S _=>?_;have d:=d.ext f;refine W ?_;exact⟨_,rfl,λp q=>(by rw[hb];exact cA.nil _ _ _),d⟩
theorem Jd (h:e.ok) (g:e.ju=false):0<e.av.ag.length/\((nth e.av.ag 0).au=ig->1<e.av.ag.length)/\((nth e.av.ag 0).au=iM->2<e.av.ag.length):=by
 cases e with
 |«at» s=>cases g
 |un d a=>
  have i:d≠iM:=by intro e;rw[e] at h;exact absurd h.1 de
  exact⟨by simp[Ex.av,aq.ag],λ_=>by simp[Ex.av,aq.ag],λh=>absurd h i⟩
 |bi d a b=>exact⟨by simp[Ex.av,aq.ag],λ_=>by simp[Ex.av,aq.ag],λh=>by simp[Ex.av,aq.ag]⟩
 |ite a b c=>exact⟨by simp[Ex.av,aq.ag],λ_=>by simp[Ex.av,aq.ag],λh=>by simp[Ex.av,aq.ag]⟩
 |lt x a b=>exact⟨by simp[Ex.av,aq.ag],λ_=>by simp[Ex.av,aq.ag],λh=>by simp[Ex.av,aq.ag]⟩
 |fn f x A B b=>exact⟨by simp[Ex.av,aq.ag],λ_=>by simp[Ex.av,aq.ag],λh=>by simp[Ex.av,aq.ag]⟩
theorem XT (e:Ex) (i:Nat):(e.binds i).length<=2:=by unfold Ex.binds;split<;>simp
theorem XU (x:ak) (e:Ex) (k:Nat):BZ x e (k+1)=BZ x e k+if x∈e.binds (e.from+k) then 0 else kS x (gN e k):=rfl
theorem XV (x:ak) (e:Ex):∀{i j:Nat},i<=j->BZ x e i<=BZ x e j
 |i,0,h=>by have:i=0:=om;subst this;exact lR _
 |i,j+1,h=>by
  rcases Nat.lt_or_ge i (j+1) with a|a
  .have:=XV x e (i:=i) (j:=j) om;rw[XU];omega
  .have:i=j+1:=by omega
   subst this;exact lR _
theorem xu (h:e.ok):e.av.au≠[]↔e.ju=true:=by
 cases e with
 |«at» s=>exact⟨λ_=>rfl,λ_=>qN h⟩
 |_=>exact⟨λa=>absurd rfl a,λa=>by cases a⟩
theorem Je (e:Ex):e.from+e.kids.length<=6:=by cases e<;>simp[Ex.from,Ex.kids]
theorem aki (s:ak):∀(m:Nat) (e:Ex),e.n<=m->e.n<=1000000->e.ok->∀(v:Value) (L:List Nat) (w:World),aV L w v e.av->
  bD Tryz.prog 212 [v,str s] w λr w'=>r= .int .i64 (kS s e:Int)/\aj [] w w':=by
 intro m;induction m with
 |zero=>intro e h;have:=e.pos;omega
 |succ m ih=>
  intro e _ _ p v L w J;have t:=J;obtain⟨a,n,c,rfl,hn,o⟩:=cW J;subst hn;have d:=aj.refl [] w;have hce:=count_le s e;have Mm:=Je e;refine cu [.tmp 4] 47 Tryz.func212 rfl af3 rfl rfl ?_;refine zr<|eK rfl λw1 R l _=>cQ R d o t λd o t=>?_;refine W ?_;refine zc rfl (λz=>?_) λz=>?_;have S:∃x,e= .at x:=(by have Y:=(xu p).1 z;cases e<;>first|exact⟨_,rfl⟩|cases Y);obtain⟨x,rfl⟩:=S;refine W ?_;refine zc rfl (λA=>?_) λA=>?_;have C:kS s (.at x)=1:=iP A;refine W ?_;exact⟨_,rfl,by rw[C];rfl,d⟩;have C:kS s (.at x)=0:=iN A;refine W ?_;exact⟨_,rfl,by rw[C];rfl,d⟩;have q:e.ju=false:=(by cases hh:e.ju;rfl;exact absurd ((xu p).2 hh) z);obtain⟨_,_,j4,yF⟩:=Ex.ag q;obtain⟨M,O,P⟩:=Jd p q;have Q:=Ps p q;have mN:eP (nth e.av.ag 0).au=(e.from,e.from+e.kids.length):=by rw[j4];exact Q
  obtain⟨b,_,_,_,_,rfl,_,_,_⟩:=gB o<|ek M;refine W ?_;refine aA (Mh _ _) ?_;rintro _ _ ⟨rfl,rfl⟩;rw[Ay mN];refine W ?_;refine eW (λk:Nat=>[(1,str s),(2,.pointer<|some ⟨w.heap.size,0,none⟩),(5,.int .i64 (BZ s e k:Int)),(7,.int .i64 ((e.from+e.kids.length:Nat):Int)),(8,.int .i64 ((e.from+k:Nat):Int))]) (λk w'=>aj [] w w'/\aj [] w1 w'/\k<=e.kids.length) (λk=>e.kids.length-k) (0) (⟨rfl,rfl,rfl,rfl,rfl⟩) (⟨d,aj.refl _ _,om⟩) λf w2 _ X=>?_;obtain⟨d,g,hk⟩:=X;refine cQ g l o t λl o t=>?_;refine W ?_;refine zc rfl (λV=>?_) λV=>?_;have K:f<e.kids.length:=om;have uF:=yF f K;obtain⟨_,_,_,_,_,T,y,tt,qh⟩:=gB o<|ek (i:=e.from+f) om;cases T;subst tt;have u:=(jQ qh).eq uF;have vZ:=Iv p K;have I:=XU s e f;have hmo:=XV s e (i:=f+1) (j:=e.kids.length) om;have hto:=VB q s;refine W ?_;refine aA (XS e.av M O P (e.from+f) _ _ w2 t) ?_;rintro _ w3 ⟨lH,E⟩;have fl:=E.size;refine kT E d l g y u λd l g y u=>?_;have N:=lH [] sm;rw[XR p q] at N;have Z:=XT e<|e.from+f;refine zm<|aA (CC (e.binds<|e.from+f) om s _ [] w3 N) ?_;rintro _ w4 ⟨rfl,F⟩;have fP:=F.size;refine kT F d l g y u λd l g y u=>?_;refine kj rfl rfl rfl<|bf<|zc rfl (λB=>?_) λB=>?_;have D:¬s∈e.binds (e.from+f):=(by simpa using B);rw[iN D] at I;refine W ?_;refine aA (ih (gN e f) om om vZ.1 _ _ w4 u) ?_;rintro _ _ ⟨rfl,H⟩;have mq:=H.size;refine bQ H d g λd g=>?_;refine W ?_;exact⟨f+1,⟨rfl,rfl,congrArg (Value.int .i64) om,rfl,congrArg (Value.int .i64) om⟩,⟨d,g,om⟩,om⟩;have D:s∈e.binds (e.from+f):=(by simpa using B);rw[iP D] at I;refine W ?_;exact⟨f+1,⟨rfl,rfl,congrArg (Value.int .i64) om,rfl,congrArg (Value.int .i64) om⟩,⟨d,g,om⟩,om⟩;have U:f=e.kids.length:=by omega
  refine W ?_;exact⟨_,rfl,by rw[VB q s,U];rfl,d⟩
theorem XW (e:Ex) (a l:List ak) (k:Nat):rI e a l (k+1)=dN (gN e k) (a++e.binds (e.from+k)) (rI e a l k):=rfl
def kN (e:Ex) (k:Nat):Nat:=((e.kids.take k).map Ex.n).sum
theorem AD (h:k<e.kids.length):kN e (k+1)=kN e k+(gN e k).n:=by
 have a:e.kids[k]?=some (gN e k):=by simp[gN,gE h]
 unfold kN;rw[List.take_add_one,a,List.map_append,List.sum_append];simp
theorem Es (e:Ex) (k:Nat):kN e k<=e.n:=by
 have a:kN e k<=(e.kids.map Ex.n).sum:=by
  conv=>rhs;rw[<-List.take_append_drop k e.kids,List.map_append,List.sum_append]
  unfold kN;omega
 have b:(e.kids.map Ex.n).sum<=e.n:=by cases e<;>simp[Ex.kids,Ex.n]<;>omega
 omega
theorem XX (e:Ex) (a l:List ak):∀{k:Nat},k<=e.kids.length->(rI e a l k).length<=l.length+kN e k
 |0,_=>by simp[rI,kN]
 |k+1,hk=>by rw[XW,AD om];have b:=Pt (gN e k) (a++e.binds (e.from+k))<|rI e a l k;have c:=XX e a l (k:=k) om;omega
theorem Mn:∀(m:Nat) (e:Ex),e.n<=m->e.n<=1000->e.ok->∀(d l:List ak),d.length+2*e.n<=100000->l.length+e.n<=100000->∀(v vb A:Value) (g:Option Nat) (w:World),
  aV g.toList w v e.av->bo g.toList w vb d->cN w 9 A g l->
  bD Tryz.prog 184 [v,vb,A] w λr w'=>∃g',cN w' 9 r g' (dN e d l)/\Fr g.toList w g'.toList w':=by
 intro m;induction m with
 |zero=>intro e h;have:=e.pos;omega
 |succ m ih=>
  intro e _ _ N d l _ _ v vb A g w hv C p;obtain⟨a,n,c,rfl,hn,E⟩:=cW hv;subst hn;obtain⟨ab,_,cb,rfl,XY⟩:=eD C;subst XY;obtain⟨al,cl,rfl⟩:=kV p;have pL:=p.lt;have V:=p.rs;have s:=Fr.refl g.toList w;have Mm:=Je e;have F:=jQ E;refine cu [.tmp 6] 65 Tryz.func184 rfl afF rfl rfl ?_;refine zr<|eK rfl λw1 aI D _=>uH aI s E C p V F λs E C p V F=>?_;refine W ?_;refine zc rfl (λB=>?_) λB=>?_;have aQ:∃x,e= .at x:=(by have ha:=(xu N).1 B;cases e<;>first|exact⟨_,rfl⟩|cases ha);obtain⟨x,rfl⟩:=aQ;refine W ?_;refine aA (xo _ _) ?_;rintro _ _ ⟨rfl,rfl⟩;refine WZ ?_;apply oO 5 17 22 (aj [] w1) rfl oQ;intro Z;refine W ?_;refine aA (CC d om x _ _ w1 C) ?_;rintro _ w2 ⟨rfl,aw⟩;have dA:=aw.size;exact oQ;intro xx z aH;refine gO aH s p V D λs p V D=>?_;refine WZ ?_;apply oO 5 23 28 (aj [] z) rfl oQ;intro h3;refine W ?_;refine aA (CC l om x _ _ z V) ?_;rintro _ w4 ⟨rfl,M⟩;have fP:=M.size;exact oQ;intro xx _ aP;refine cQ aP s p D λs p D=>?_;refine bf<|zc rfl (λH=>?_) λH=>?_;have hq:dN (.at x) d l=l:=iP H;refine W ?_;exact⟨_,rfl,g,by rw[hq];exact p,s⟩;have hq:dN (.at x) d l=l++[x]:=iN λhh=>Bool.noConfusion<|hh.symm.trans H;refine W ?_;refine fW bA bw rfl rfl λ_ bM Mo _=>bQ bM s p λs p=>?_;refine WT bA bw rfl rfl rfl rfl rfl rfl p Mo om λv5 g5 _ l8 _ ri=>?_;have s:=s.go ri;refine W ?_;exact⟨_,rfl,g5,by rw[hq];exact l8,s⟩;have T:e.ju=false:=(by cases hh:e.ju;rfl;exact absurd ((xu N).2 hh) B);obtain⟨_,_,j4,yF⟩:=Ex.ag T;obtain⟨kc,AB,GI⟩:=Jd N T;have Jg:=Ps N T;have mN:eP (nth e.av.ag 0).au=(e.from,e.from+e.kids.length):=by rw[j4];exact Jg
  obtain⟨b,_,_,_,rfl,_,_⟩:=fQ E kc;have D:=D.o pL;refine W ?_;refine aA (Mh _ _) ?_;rintro _ _ ⟨rfl,rfl⟩;rw[Ay mN];refine W ?_;refine eW (λq:Nat×Value×Option Nat=>[(1,.slice ab d.length cb),(2,q.2.1),(3,.pointer<|some ⟨w.heap.size,0,none⟩),(8,.int .i64 ((e.from+e.kids.length:Nat):Int)),(9,.int .i64 ((e.from+q.1:Nat):Int))]) (λq w'=>Fr g.toList w q.2.2.toList w'/\Fr g.toList w1 q.2.2.toList w'/\cN w' 9 q.2.1 q.2.2 (rI e d l q.1)/\q.1<=e.kids.length) (λq=>e.kids.length-q.1) ((0,.slice al l.length cl,g)) (⟨rfl,rfl,rfl,rfl,rfl⟩) (⟨s,Fr.refl _ _,p,sm⟩) λgg w2 _ hI=>?_;obtain⟨k,A,o⟩:=gg;dsimp only at hI⊢;obtain⟨s,I,p,hk⟩:=hI;have D:=D.go I;have E:=E.go I;have C:=C.go I;have F:=F.go I;refine W ?_;refine zc rfl (λh5=>?_) λh5=>?_;have iU:k<e.kids.length:=om;have uF:=yF k iU;obtain⟨_,_,_,_,e1,_,R⟩:=fQ E (i:=e.from+k) om;cases e1;have R:=R.eq uF;have vZ:=Iv N iU;have aT:=XW e d l k;have hbf:=XT e<|e.from+k;have kU:=XX e d l (k:=k) om;have CQ:=AD iU;have iq:=Es e<|k+1;refine WZ ?_;apply kC dh o.toList 13 (rA 50 13) (rA 50 13) [[],[0],[],[1,2],[3],[],[],[5,6],[],[],[8,9],[7,10],[]] [Ie.v _,Ie.v _,Ie.v _,Ie.v _,Ie.v _,Ie.p (fun(G:List Nat) (v:Value) (y:World)=>∃Q,v= .slice (some ⟨Q,0,none⟩) 0 0/\eE G y Q #[] 9),Ie.v _,Ie.e 0,Ie.v _,Ie.v _,Ie.p<|fun(G:List Nat) (v:Value) (y:World)=>bo G y v (e.binds<|e.from+k),Ie.e 1,Ie.v _] [7,11] [fun(G:List Nat) (K:List Value) (y:World)=>cN y 9 A o (rI e d l k)/\(∀x∈o.toList,x∈G),fun(G:List Nat) (K:List Value) (y:World)=>(cN y 9 A o (rI e d l k)/\(∀x∈o.toList,x∈G))/\∃j,cN y 9 (K.getD 0 undef) j d/\rS G y 9 j/\(∀x∈j.toList,x∉o.toList),fun(G:List Nat) (K:List Value) (y:World)=>(cN y 9 A o (rI e d l k)/\(∀x∈o.toList,x∈G))/\∃j,cN y 9 (K.getD 1 undef) j (d++e.binds (e.from+k))/\rS G y 9 j/\(∀x∈j.toList,x∉o.toList)] de rfl p.lt (by exact⟨λG v w G' w' ⟨Q,e,h⟩ k=>⟨Q,e,h.go k⟩,λG v w G' w' h k=>bo.go h k,trivial⟩) (by exact⟨λG K w w' h k=>⟨h.1.ext k,h.2⟩,λG K w w' ⟨B,j,Z,h3,H⟩ k=>⟨⟨B.1.ext k,B.2⟩,j,Z.ext k,h3.ext k,H⟩,λG K w w' ⟨B,j,Z,h3,H⟩ k=>⟨⟨B.1.ext k,B.2⟩,j,Z.ext k,h3.ext k,H⟩,trivial⟩) (⟨p,λx f=>f⟩);refine FA ?_;refine vf (λx z L aU U J=>?_) ?_;refine ik bA bw λw4 M Et _=>?_;exact ff M<|⟨_,rfl,Et.o J⟩;refine FA ?_;refine ve 0 (λx z L aU U J u t=>?_) ?_;have P:=j6 t;subst P;have C:=C.go U;intro v5 d5;obtain⟨Q,e5,Y⟩:=d5;subst e5;have u:cN z 9 A o (rI e d l k)/\(∀x∈o.toList,x∈L):=u;refine GH bA bw rfl rfl rfl rfl rfl rfl Y.je.l5 C ‹_› (λx f=>.inr (by simp at f;subst f;exact Y.je)) so λv9 g9 w4 G9 dI GJ mV lK dw fo aD=>?_;exact fe G9 dw fo<|⟨⟨u.1.aG aD λb hb f=>Y.out (by simp at f;subst f;exact u.2 _<|by simp[hb]),λx f=>lK x<|u.2 x f⟩,g9,dI,GJ,λx f S=>(mV x f).elim (λh=>Y.out (by simp at h;subst h;exact u.2 _ S)) λh=>by have:=J x<|u.2 x S;omega⟩;refine FA ?_;refine vf (λx z L aU U J=>?_) ?_;have F:=F.go U;refine aA (XS e.av kc AB GI (e.from+k) _ _ z F) ?_;rintro _ w4 ⟨lu,M⟩;have fP:=M.size;have akl:=lu;exact ff M<|(by have h9:=akl _ J;rw[XR N T] at h9;exact h9);refine ve 1 (λx z L aU U J u t=>?_) ?_;obtain⟨q0,P⟩:=j7 t;subst P;intro v10 d10;have u:(cN z 9 A o (rI e d l k)/\(∀x∈o.toList,x∈L))/\∃j,cN z 9 q0 j d/\rS L z 9 j/\(∀x∈j.toList,x∉o.toList):=u;obtain⟨⟨Cj,O⟩,j,Jh,Eu,X⟩:=u;refine GH bA bw rfl rfl rfl rfl rfl rfl Jh d10 ‹_› Eu om λv9 g9 w4 G9 dI GJ mV lK dw fo aD=>?_;exact fe G9 dw fo<|⟨⟨Cj.aG aD λb hb f=>X b f<|by simp[hb],λx f=>lK x<|O x f⟩,g9,dI,GJ,λx f S=>(mV x f).elim (λh=>X x h S) λh=>by have:=J x<|O x S;omega⟩;exact FZ;intro x ow Ji aU GK _ u t;obtain⟨q0,q1,P⟩:=mo t;subst P;intro v5 d5;intro v10 d10;have s:=s.go GK;have I:=I.go GK;have R:=R.go GK;change OW _ _ _ _ _ (aY (aX _ x _)<|zZ 50 [_,_,_,_,_,_,_,_,_,_,_,_,_]) _;have u:(cN ow 9 A o (rI e d l k)/\(∀x∈o.toList,x∈Ji))/\∃j,cN ow 9 q1 j (d++e.binds (e.from+k))/\rS Ji ow 9 j/\(∀x∈j.toList,x∉o.toList):=u;obtain⟨⟨Cj,O⟩,j,Jh,Eu,X⟩:=u;refine aA (ih (gN e k) om om vZ.1 (d++e.binds (e.from+k)) (rI e d l k) (by rw[lA];omega) om _ _ _ o ow (R.dY λx f=>O x f) (Jh.rep λb hb=>X b<|by simp[hb]) Cj) ?_;rintro Qx _ ⟨Qy,Mq,Jj⟩;refine W ?_;exact⟨(k+1,Qx,Qy),⟨rfl,rfl,rfl,rfl,congrArg (Value.int .i64) so⟩,⟨(s.to λx f=>.inl<|O x f).go Jj,(I.to λx f=>.inl<|O x f).go Jj,Mq,by simp;omega⟩,by simp;omega⟩;have gd:k=e.kids.length:=by omega
  refine W ?_;exact⟨_,rfl,o,by rw[ah9 T,<-gd];exact p,s⟩
end Go.Proofs.YtcildnfcpkpomaaGreatDoor
