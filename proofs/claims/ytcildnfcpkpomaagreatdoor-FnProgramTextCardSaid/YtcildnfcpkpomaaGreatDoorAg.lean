/- Lemmas for the law FnProgramText, no statement of their own: no conditions. -/
import Derived.Test.YtcildnfcpkpomaaGreatDoorAf
set_option maxHeartbeats 4000000
set_option linter.unusedVariables false
set_option linter.unusedSimpArgs false
namespace Go.Proofs.YtcildnfcpkpomaaGreatDoor
open Go
variable {e:Ex} {G L:List Nat} {w w':World} {b c k n sz x:Nat} {v:Value} {g:Option Nat} {rows:List (List C)} {ts:List aq} {xs:List ak} {bs:Bs}
theorem akm (s:ak) (w:World):bD Tryz.prog 165 [str s] w λv w'=>(∃a n c,v= .tuple #[.slice a n c,.bool (nJ s)]/\(nJ s=true->∃e:Ex,bP s=some e.av/\e.ok/\e.n<=120/\bo [] w' (.slice a n c) (dN e [] [])))/\aj [] w w':=by
 have b:=aj.refl [] w;refine cu [.tmp 2,.tmp 3] 18 Tryz.func165 rfl afp rfl rfl ?_;refine W ?_;refine aA (Jb s [] w sm) ?_;rintro _ _ ⟨C,m⟩;have I:=m.size;have b:=b.ext m;obtain⟨t,_,rfl,d,D⟩:=C;obtain⟨_,_,_,rfl,_,_⟩:=cW d;refine W ?_;refine dj aO rfl rfl rfl λ_ p j _=>?_;have b:=b.grow;have b:=b.ext p;have d:=d.grow;have d:=d.ext p;refine cF aO rfl rfl rfl j rfl λ_ l j _=>?_;have b:=b.aB l sx;have d:=d.aB l sx;refine W ?_;refine zc rfl (λi=>?_) λi=>?_;have f:nJ s=false:=by simpa using i
 refine zr<|ik bA bw λF g _ _=>?_;have b:=b.ext g;refine W ?_;exact⟨_,rfl,⟨_,_,_,by rw[f];rfl,λh=>by rw[f] at h;cases h⟩,b⟩;have f:nJ s=true:=by simpa using i
 obtain⟨e,u,q,y⟩:=yD.1 f;have B:=D.1 _ u;subst B;refine W ?_;refine ik bA bw λF g _ _=>bQ g d b λd b=>?_;refine ik bA bw ?_;have z:=aV.grow<|d.dY (L':=[]) sm;intro H o E _;have d:=z.ext o;have b:=b.ext o;refine aA (Mn 120 e y om q [] [] so so _ _ _ (some _) H d (cA.nil _ _ _) E.l5) ?_;rintro _ _ ⟨_,r,A⟩;obtain⟨_,_,rfl⟩:=kV r;have b:=b.since A.aG λx f=>.inr (by simp at f;omega);refine W ?_;exact⟨_,rfl,⟨_,_,_,by rw[f];rfl,λ_=>⟨e,u,q,y,r.rs⟩⟩,b⟩
theorem GM {a b:ak} (h:bI a=bI b):a=b:=by simpa[bI] using h
theorem rV:∀{e f:Ex},e.ok->f.ok->e.av=f.av->e=f
 | .at s,.at r,_,_,h=>by rw[GM h]
 | .at s,.un ..,d,_,h=>absurd (congrArg aq.au h)<|qN d
 | .at s,.bi ..,d,_,h=>absurd (congrArg aq.au h)<|qN d
 | .at s,.ite ..,d,_,h=>absurd (congrArg aq.au h)<|qN d
 | .at s,.lt ..,d,_,h=>absurd (congrArg aq.au h)<|qN d
 | .at s,.fn ..,d,_,h=>absurd (congrArg aq.au h)<|qN d
 | .un ..,.at s,_,d,h=>absurd (congrArg aq.au h).symm<|qN d
 | .bi ..,.at s,_,d,h=>absurd (congrArg aq.au h).symm<|qN d
 | .ite ..,.at s,_,d,h=>absurd (congrArg aq.au h).symm<|qN d
 | .lt ..,.at s,_,d,h=>absurd (congrArg aq.au h).symm<|qN d
 | .fn ..,.at s,_,d,h=>absurd (congrArg aq.au h).symm<|qN d
 | .un h a,.un l i,k,g,e=>by have e:=congrArg aq.ag e;simp only[Ex.av,aq.ag,List.cons.injEq,and_true] at e;rw[GM e.1,rV k.2 g.2 e.2]
 | .bi h a b,.bi l i j,k,g,e=>by have e:=congrArg aq.ag e;simp only[Ex.av,aq.ag,List.cons.injEq,and_true] at e;rw[GM e.1,rV k.2.1 g.2.1 e.2.1,rV k.2.2 g.2.2 e.2.2]
 | .ite a b c,.ite i j _,k,g,e=>by have e:=congrArg aq.ag e;simp only[Ex.av,aq.ag,List.cons.injEq,and_true] at e;rw[rV k.1 g.1 e.2.1,rV k.2.1 g.2.1 e.2.2.1,rV k.2.2 g.2.2 e.2.2.2]
 | .lt x a b,.lt m i j,k,g,e=>by have e:=congrArg aq.ag e;simp only[Ex.av,aq.ag,List.cons.injEq,and_true] at e;rw[GM e.2.1,rV k.2.1 g.2.1 e.2.2.1,rV k.2.2 g.2.2 e.2.2.2]
 | .fn f x A B b,.fn _ m _ _ j,k,g,e=>by have e:=congrArg aq.ag e;simp only[Ex.av,aq.ag,List.cons.injEq,and_true] at e;rw[GM e.2.1,GM e.2.2.1,Is e.2.2.2.1,Is e.2.2.2.2.1,rV k.2.2.2.2.2 g.2.2.2.2.2 e.2.2.2.2.2]
 | .un ..,.bi ..,_,_,e=>by have e:=congrArg aq.ag e;simp[Ex.av,aq.ag] at e
 | .un ..,.ite ..,_,_,e=>by have e:=congrArg aq.ag e;simp[Ex.av,aq.ag] at e
 | .un ..,.lt ..,_,_,e=>by have e:=congrArg aq.ag e;simp[Ex.av,aq.ag] at e
 | .un ..,.fn ..,_,_,e=>by have e:=congrArg aq.ag e;simp[Ex.av,aq.ag] at e
 | .bi ..,.un ..,_,_,e=>by have e:=congrArg aq.ag e;simp[Ex.av,aq.ag] at e
 | .bi ..,.ite ..,_,_,e=>by have e:=congrArg aq.ag e;simp[Ex.av,aq.ag] at e
 | .bi ..,.lt ..,_,_,e=>by have e:=congrArg aq.ag e;simp[Ex.av,aq.ag] at e
 | .bi ..,.fn ..,_,_,e=>by have e:=congrArg aq.ag e;simp[Ex.av,aq.ag] at e
 | .ite ..,.un ..,_,_,e=>by have e:=congrArg aq.ag e;simp[Ex.av,aq.ag] at e
 | .ite ..,.bi ..,_,_,e=>by have e:=congrArg aq.ag e;simp[Ex.av,aq.ag] at e
 | .ite ..,.lt ..,_,_,e=>by have e:=congrArg aq.ag e;simp[Ex.av,aq.ag,bI] at e
 | .ite ..,.fn ..,_,_,e=>by have e:=congrArg aq.ag e;simp[Ex.av,aq.ag] at e
 | .lt ..,.un ..,_,_,e=>by have e:=congrArg aq.ag e;simp[Ex.av,aq.ag] at e
 | .lt ..,.bi ..,_,_,e=>by have e:=congrArg aq.ag e;simp[Ex.av,aq.ag] at e
 | .lt ..,.ite ..,_,_,e=>by have e:=congrArg aq.ag e;simp[Ex.av,aq.ag,bI] at e
 | .lt ..,.fn ..,_,_,e=>by have e:=congrArg aq.ag e;simp[Ex.av,aq.ag] at e
 | .fn ..,.un ..,_,_,e=>by have e:=congrArg aq.ag e;simp[Ex.av,aq.ag] at e
 | .fn ..,.bi ..,_,_,e=>by have e:=congrArg aq.ag e;simp[Ex.av,aq.ag] at e
 | .fn ..,.ite ..,_,_,e=>by have e:=congrArg aq.ag e;simp[Ex.av,aq.ag] at e
 | .fn ..,.lt ..,_,_,e=>by have e:=congrArg aq.ag e;simp[Ex.av,aq.ag] at e
def akn (s:ak) (e:Ex):Prop:=bP s=some e.av/\e.ok/\e.n<=120/\dN e [] []=[]
theorem ako (s:ak) (w:World):bD Tryz.prog 124 [str s] w λv w'=>(∃b,v= .bool b/\(b=true↔∃e:Ex,akn s e))/\aj [] w w':=by have l:=aj.refl [] w;refine cu [.tmp 2] 16 Tryz.func124 rfl aeJ rfl rfl ?_;refine W ?_;refine aA (akm s w) ?_;rintro _ _ ⟨u,o⟩;have A:=o.size;have l:=l.ext o;obtain⟨a,n,c,rfl,q⟩:=u;refine W ?_;apply oB 4 11 15 rfl oQ;intro _;exact oQ;intro _;refine zA<|bf<|la<|⟨_,rfl,⟨_,rfl,?_⟩,l⟩;rw[aE,dE];constructor;rintro⟨z,_⟩;obtain⟨e,f,d,m,g⟩:=q z;obtain⟨_,_,_,j,p⟩:=eD g;cases j;exact⟨e,f,d,m,List.length_eq_zero_iff.1 om⟩;rintro⟨e,f,d,m,y⟩;have r:nJ s=true:=yD.2 ⟨e,f,d,m⟩;refine⟨r,?_⟩;obtain⟨_,t,i,_,g⟩:=q r;rw[f] at t;have:=rV d i<|Option.some.inj t;subst this;rw[y] at g;obtain⟨_,_,_,j,p⟩:=eD g;cases j;simp at p;omega
def lv (a:List ak) (b:Rn) (e:Ex) (n:Nat):Nat->List Ex×Nat
 |0=>([],n)
 |k+1=>((lv a b e n k).1++[(cB a (gN e k) b (lv a b e n k).2).1],(cB a (gN e k) b (lv a b e n k).2).2)
theorem XZ (a:List ak) (b:Rn) (e:Ex) (n:Nat):∀k,(lv a b e n k).1.length=k:=by intro x;induction x<;>grind [lv]
def jW (a:List ak) (b:Rn) (n:Nat):Ex->Rn
 | .fn f x _ _ _=>b++[(f,di cx<|bF cx a n),(x,di cx (bF cx a<|bF cx a n+1))]
 |_=>b
def nF (a:List ak) (n:Nat):Ex->Nat
 | .fn _ _ _ _ _=>bF cx a (bF cx a n+1)+1
 |_=>n
def yG (a:List ak) (n:Nat):Ex->List aq
 | .fn _ _ A B _=>[bI iM,bI (di cx<|bF cx a n),bI<|di cx (bF cx a<|bF cx a n+1),A.av,B.av]
 |e=>[bI e.head]
def isLt:Ex->Bool
 | .lt _ _ _=>true
 |_=>false
theorem akq (d:List ak) (g:Rn) (n:Nat) (i:e.ju=false) (j:isLt e=false):
  (cB d e g n).1.av= .mk [] (yG d n e++(lv d (jW d g n e) e (nF d n e) e.kids.length).1.map Ex.av)/\(cB d e g n).2=(lv d (jW d g n e) e (nF d n e) e.kids.length).2:=by
 cases e with
 |«at» s=>cases i
 |lt x a b=>cases j
 |un h a=>exact⟨rfl,rfl⟩
 |bi h a b=>exact⟨rfl,rfl⟩
 |ite a b c=>exact⟨rfl,rfl⟩
 |fn f x A B b=>exact⟨rfl,rfl⟩
theorem akr (c:List ak) (n:Nat) (d:e.ju=false) (f:isLt e=false):(yG c n e).length=e.from:=by
 cases e with
 |«at» s=>cases d
 |lt x a b=>cases f
 |_=>rfl
theorem aks (a:List ak) (n:Nat) (hk:e.ok) (d:e.ju=false) (c:e.head≠iM):yG a n e=[bI e.head]/\nF a n e=n:=by
 cases e with
 |fn f x A B b=>exact absurd rfl c
 |_=>exact⟨rfl,rfl⟩
theorem X0 (b:List ak) (a:Rn) (n:Nat) (c:e.head≠iM):jW b a n e=a:=by cases e<;>grind [Ex.head,jW]
theorem Mr (h:e.ok) (d:e.head=ig):∃x a b,e= .lt x a b:=by
 cases e with
 |lt x a b=>exact⟨x,a,b,rfl⟩
 |un g a=>have d:g=ig:=d;rw[d] at h;exact absurd h.1 de
 |bi g a b=>have d:g=ig:=d;rw[d] at h;exact absurd h.1 de
 |«at» s=>cases d
 |ite a b c=>cases d
 |fn f x A B b=>cases d
theorem Ms (h:e.ok) (d:e.head=iM):∃f x A B b,e= .fn f x A B b:=by
 cases e with
 |fn f x A B b=>exact⟨f,x,A,B,b,rfl⟩
 |un g a=>have d:g=iM:=d;rw[d] at h;exact absurd h.1 de
 |bi g a b=>have d:g=iM:=d;rw[d] at h;exact absurd h.1 de
 |«at» s=>cases d
 |ite a b c=>cases d
 |lt x a b=>cases d
theorem X4 (h:e.ok) (d:e.head=iy):∃a b c,e= .ite a b c:=by
 cases e with
 |ite a b c=>exact⟨a,b,c,rfl⟩
 |un g a=>have d:g=iy:=d;rw[d] at h;exact absurd h.1 de
 |bi g a b=>have d:g=iy:=d;rw[d] at h;exact absurd h.1 de
 |«at» s=>cases d
 |lt x a b=>cases d
 |fn f x A B b=>cases d
theorem not_lt (a:e.head≠ig):isLt e=false:=by cases e<;>grind [Ex.head,isLt]
theorem X5 (c:e.ju=false) (g:isLt e=false) (d:e.head≠iM):e.av.ag=[bI e.head]++e.kids.map Ex.av:=by
 cases e with
 |«at» s=>cases c
 |lt x a b=>cases g
 |fn f x A B b=>exact absurd rfl d
 |_=>rfl
def mW (pre:List aq) (a:List Ex) (e:Ex):List aq:=pre++a.map Ex.av++(e.kids.drop a.length).map Ex.av
theorem X6 {pre:List aq} {acc:List Ex} {y:Ex} (h:acc.length<e.kids.length):(mW pre acc e).set (pre.length+acc.length) y.av=mW pre (acc++[y]) e:=by
 have a:e.kids[acc.length]?=some (gN e acc.length):=by simp[gN,gE h]
 unfold mW;rw[List.drop_eq_getElem_cons h,List.map_cons,List.set_append_right _ _ sm,lA,List.length_map,Nat.sub_self];simp
theorem X7 {pre:List aq} {a:List Ex} (h:a.length<=e.kids.length):(mW pre a e).length=pre.length+e.kids.length:=by simp[mW];omega
theorem X8 {pre:List aq} {a:List Ex} (h:a.length=e.kids.length):mW pre a e=pre++a.map Ex.av:=by grind [mW]
structure RN (L:List Nat) (w:World) (br:Nat) (ai:List ak) (n:Nat):Prop where
 mem:br∈L
 box:∃vf,aK w br [vf,.int .i64 (n:Int)].toArray 195/\bo L w vf ai
theorem RN.ext {b:Nat} {a:List ak} (h:RN L w b a n) (k:aj [] w w'):RN L w' b a n:=let⟨v,c,d⟩:=h.box;⟨h.mem,v,c.ext k,d.ext k⟩
theorem RN.lt {a:Nat} {b:List ak} (h:RN L w a b n):a<w.heap.size:=let⟨_,c,_⟩:=h.box;c.lt
theorem RN.re {a:List Nat} {b:Nat} {c:List ak} (h:RN L w b c n) (hb:b∈a) (f:∀x∈a,x∈L\/w.heap.size<=x):RN a w b c n:=let⟨v,d,e⟩:=h.box;⟨hb,v,d,e.fresh f⟩
theorem RN.aG {a:Nat} {b:List ak} (h:RN L w a b n) (k:aj G w w') (hb:a∉G) (e:∀x∈G,x∈L):RN L w' a b n:=
 let⟨v,c,d⟩:=h.box;⟨h.mem,v,c.aG k hb,d.aB k e⟩
theorem RN.out {N:Nat} {b c:List Nat} {a:Nat} {d:List ak} (h:RN G w a d n) (k:Fr G w b w') (g:Out N c w w') (hb:a∈c) (i:a∈b):RN b w' a d n:=
 let⟨v,e,f⟩:=h.box;⟨i,v,g.je e hb,f.go k⟩
theorem GN (c:UInt8) (a:List ak) (n:Nat):bF c a n<=n+a.length+1:=(pz c a n).2
theorem Qz (a:List ak) (n:Nat) (E:n<=100000) (hb:a.length<=10000) (f:Nat) (L:List Nat) (w:World) (h:RN L w f a n):
  bD Tryz.prog 209 [.pointer (some ⟨f,0,none⟩)] w λr w'=>(r=str (di cx<|bF cx a n)/\RN L w' f a (bF cx a n+1))/\aj [f] w w':=by
 have A:=GN cx a n;have j:=h.mem;refine cu [.tmp 2] 26 Tryz.func209 rfl af0 rfl rfl ?_;refine W ?_;refine eW (λk:Nat=>[(0,.pointer<|some ⟨f,0,none⟩)]) (λk w'=>aj [f] w w'/\RN L w' f a k/\n<=k/\bF cx a k=bF cx a n) (λk=>bF cx a n+1-k) n rfl (⟨aj.refl _ _,h,lR _,rfl⟩) λb v _ s=>?_;obtain⟨d,⟨_,vf,e,c⟩,hk,u⟩:=s;have t:=(pz cx a b).1;refine W ?_;refine aA (jm (b+1) b om om v) ?_;rintro _ _ ⟨rfl,q⟩;have C:=q.size;refine cQ q d e c λd e c=>?_;refine jd rfl rfl (by have:=Gv _ b<|lR _;simp;omega)<|W ?_;refine ir (o:=1) th rfl rfl rfl e rfl λy m e _=>?_;have c:=c.aB m (by simpa using j);have d:=d.trans m;refine W ?_;refine aA (CC a om (di cx b) _ _ y c) ?_;rintro _ _ ⟨rfl,p⟩;have D:=p.size;refine cQ p d e c λd e c=>?_;refine kj rfl rfl rfl<|bf<|zc rfl (λg=>?_) λg=>?_;have i:di cx b∉a:=(by simpa using g);have l:bF cx a n=b:=u.symm.trans<|VE i;refine W ?_;exact⟨_,rfl,⟨by rw[l];rfl,j,_,by rw[l];exact e,c⟩,d⟩;have i:di cx b∈a:=(by simpa using g);have z:=VD i;have B:=(pz cx a<|b+1).1;refine WZ ?_;exact⟨b+1,rfl,⟨d,⟨j,vf,e,c⟩,om,om⟩,om⟩
theorem X9 (a:List ak) (b:Rn) (e:Ex) (n:Nat):∀k,k<=e.kids.length->n<=(lv a b e n k).2/\(lv a b e n k).2<=n+kN e k*(a.length+2)
 |0,_=>by simp[lv]
 |k+1,hk=>by have c:=X9 a b e n k om;have d:=jU a (gN e k) b (lv a b e n k).2;rw[AD om,Nat.add_mul];show n<=(cB a (gN e k) b (lv a b e n k).2).2/\(cB a (gN e k) b (lv a b e n k).2).2<=_;omega
theorem uS (a:List aq) (i:Nat) (t:aq):(da a).set i t.enc=da (a.set i t):=by rw[zH,zH,List.map_set]
theorem Ya (f:List aq):∀row,row∈da f->∀c∈row,∀v,c= .val v->v.oneCell'=true:=by
 intro row d c b v e;rw[zH] at d;obtain⟨t,_,rfl⟩:=List.mem_map.1 d;cases t with
 |mk a _=>
  simp only[aq.enc,mC,List.not_mem_nil,or_false] at b;rcases b with h|h
  .subst h;cases e;rfl
  .subst h;cases e
theorem et.ext {T:TypeId} (h:et L w T sz v g rows) (k:aj [] w w'):et L w' T sz v g rows:=h.any k
theorem et.grow {T:TypeId} (h:et L w T sz v g rows):et (w.heap.size::L) w T sz v g rows:=h.sub ua
theorem et.aB {T:TypeId} (h:et (x::L) w T sz v g rows) (k:aj [x] w w') (b:x∉g.toList):et (x::L) w' T sz v g rows:=
 h.aG (Fr.of k sm) k λy c a=>b (by simp at a;subst a;exact c)
structure jJ (G:List Nat) (w0 w:World) (br:Nat) (ai:List ak) (n gb b8:Nat) (vP:Value) (ts:List aq):Prop where
 rn:RN G w br ai n
 own:et G w 103 2 vP (some gb) (da ts)
 kb:aj [br] w0 w
 bx:aK w b8 [str [],.slice none 0 0].toArray 103
 mem:gb∈G/\b8∈G
 ne:br≠gb/\b8≠gb/\br≠b8
 low:w0.heap.size<=gb/\w0.heap.size<=b8
 cP:fI G w
section
variable {G:List Nat} {w0 w w':World} {br:Nat} {ai:List ak} {n gb b8:Nat} {vP:Value} {ts:List aq}
theorem jJ.ext (h:jJ G w0 w br ai n gb b8 vP ts) (k:aj [] w w'):jJ G w0 w' br ai n gb b8 vP ts:=
 ⟨h.rn.ext k,h.own.ext k,h.kb.ext k,h.bx.ext k,h.mem,h.ne,h.low,λx a=>lL (h.cP x a) k.size⟩
theorem jJ.out {a b:List Nat} (h:jJ G w0 w br ai n gb b8 vP ts) (k:Fr G w a w') (c:Out w0.heap.size b w w') (hb:br∈b/\gb∈b/\b8∈b) (d:br∈a/\gb∈a/\b8∈a) (e:fI a w'):jJ a w0 w' br ai n gb b8 vP ts:=
 ⟨h.rn.out k c hb.1 d.1,h.own.out k c<|by simpa using hb.2.1,c.since h.kb,c.je h.bx hb.2.2,d.2,h.ne,h.low,e⟩
theorem jJ.call {c:Nat} (h:jJ G w0 w br ai n gb b8 vP ts) (d:RN G w' br ai c) (k:aj [br] w w'):jJ G w0 w' br ai c gb b8 vP ts:=
 ⟨d,h.own.aG (Fr.of k<|by simpa using h.rn.mem) k (by intro x a b;simp at a b;exact h.ne.1 (b.symm.trans a)),h.kb.trans k,h.bx.aG k (by simpa using λe=>h.ne.2.2 e.symm),h.mem,h.ne,h.low,λx a=>lL (h.cP x a) k.size⟩
theorem jJ.store {a:List aq} (h:jJ G w0 w br ai n gb b8 vP ts) (k:aj [gb] w w') (c:et G w' 103 2 vP (some gb) (da a)):jJ G w0 w' br ai n gb b8 vP a:=
 ⟨h.rn.aG k (by simpa using h.ne.1)<|by simpa using h.mem.1,c,h.kb.since k (by intro x b;simp at b;subst b;exact .inr h.low.1),h.bx.aG k (by simpa using h.ne.2.1),h.mem,h.ne,h.low,λx b=>lL (h.cP x b) k.size⟩
theorem jJ.jX (h:jJ G w0 w br ai n gb b8 vP ts):∀x∈[gb],x∈G:=by simpa using h.mem.1
theorem jJ.o9 (h:jJ G w0 w br ai n gb b8 vP ts):∀x∈[br],x∈G:=by simpa using h.rn.mem
end
theorem jJ.fin {g:World} {d:Nat} {i:List ak} {e b:Nat} {f:Value} (h:jJ (e::b::G) g w d i n e b f ts) (l:fI G g) (o:d∈G) (k:aj [b] w w'):
  aV G w' (.agg #[str [],f]) (.mk [] ts)/\RN G w' d i n/\aj [d] g w':=by
 have m:e∉b::G:=λa=>by
  rcases mC.1 a with c|c
  .exact h.ne.2.1 c.symm
  .have:=l e c;have:=h.low.1;omega
 have c:cA (b::G) w f (.sl 2<|da ts):=h.own.rep (λx a=>.inl<|by simpa using a) (by simpa using m);have j:aV (b::G) w (.agg #[str [],f]) (.mk [] ts):=jB c;refine⟨(j.aB k sm).dY λx a=>mK _ a,(h.rn.aG k (by simpa using h.ne.2.2) sm).re o λx a=>.inl<|by simp[a],h.kb.since k λx a=>?_⟩;simp at a;subst a;exact .inr h.low.2
theorem QB (s:ak):dy G w [str s,.slice none 0 0] (bI s).enc:=aV.jR<|jB ld
theorem akt (d:List ak) (g:Rn) (n:Nat) {M:Nat} (q:e.ju=false) (r:isLt e=false) (hk:k<e.kids.length) (t:g.length+2*e.n<=100000) (u:n+e.n*(d.length+2)<=100000) (z:M<=nF d n e+kN e k*(d.length+2)):
  (jW d g n e).length+2*(gN e k).n<=100000/\M+(gN e k).n*(d.length+2)<=100000:=by
 have o:=AD hk;have v:=GN cx d n;have y:=GN cx d<|bF cx d n+1;have p:(jW d g n e).length+2*(gN e k).n<=g.length+2*e.n/\nF d n e+kN e (k+1)*(d.length+2)<=n+e.n*(d.length+2):=by
  cases e with
  |«at» s=>cases q
  |lt x a b=>cases r
  |fn f x A B b=>
   have m:k=0:=by simp[Ex.kids] at hk;exact hk
   subst m;have i:(gN (.fn f x A B b) 0).n=b.n:=rfl;have j:kN (.fn f x A B b) 1=b.n:=by simp[kN,Ex.kids]
   have l:(Ex.fn f x A B b).n=3+A.n+B.n+b.n:=rfl;rw[i,j,l];simp only[jW,nF,lA,lC,List.length_nil,Nat.add_mul];constructor<;>omega
  |un h a=>have:=Es (.un h a)<|k+1;exact⟨by show g.length+_<=_;omega,Nat.add_le_add_left (Nat.mul_le_mul_right _ this) _⟩
  |bi h a b=>have:=Es (.bi h a b)<|k+1;exact⟨by show g.length+_<=_;omega,Nat.add_le_add_left (Nat.mul_le_mul_right _ this) _⟩
  |ite a b c=>have:=Es (.ite a b c)<|k+1;exact⟨by show g.length+_<=_;omega,Nat.add_le_add_left (Nat.mul_le_mul_right _ this) _⟩
 rw[o,Nat.add_mul] at p;omega
theorem aku (d:List ak) (jf:d.length<=10000):∀(m:Nat) (e:Ex),e.n<=m->e.n<=1000->e.ok->∀(g:Rn) (n:Nat),g.length+2*e.n<=100000->n+e.n*(d.length+2)<=100000->∀(v vf vt:Value) (K:Nat) (G:List Nat) (w:World),
  aV G w v e.av->bo G w vf (g.map Prod.fst)->bo G w vt (g.map Prod.snd)->RN G w K d n->fI G w->
  bD Tryz.prog 185 [v,vf,vt,.pointer (some ⟨K,0,none⟩)] w λr w'=>(aV G w' r (cB d e g n).1.av/\RN G w' K d (cB d e g n).2)/\aj [K] w w':=by
 intro m;induction m with
 |zero=>intro e h;have:=e.pos;omega
 |succ m ih=>
  intro e _ _ bm g n mO pW v vf vt K G w bW QC QD Ev hG;obtain⟨a,_,c,rfl,hn,Ew⟩:=cW bW;subst hn;obtain⟨_,nf,_,rfl,sG⟩:=eD QC;obtain⟨at_,_,_,rfl,_⟩:=eD QD;have akv:(g.map Prod.fst).length=g.length:=by simp
  have atv:(g.map Prod.snd).length=g.length:=by simp
  have atw:=Ev.lt;have I:=aj.refl [] w;have Mm:=Je e;have wa:=GN cx d n;have kf:=GN cx d<|bF cx d n+1;have hB:e.n*(d.length+2)<=100000:=by omega
  refine kM [.cell 8 103] 155 Tryz.func185 rfl afG rfl rfl rfl ?_;refine zr<|eK rfl λJ aI t du=>?_;have I:=I.ext aI;refine dj aO rfl rfl rfl λw2 aw S dS=>?_;have I:=I.grow;have I:=I.ext aw;have t:=t.grow;have t:=t.ext aw;refine W ?_;refine zc rfl (λH=>?_) λH=>?_;have aQ:∃x,e= .at x:=(by have ha:=(xu bm).1 H;cases e<;>first|exact⟨_,rfl⟩|cases ha);obtain⟨x,rfl⟩:=aQ;refine W ?_;refine aA (xo _ _) ?_;rintro _ _ ⟨rfl,rfl⟩;refine bf<|zc rfl (λL=>?_) λL=>?_;have hq:(cB d (.at x) g n).1.av=bI (rK g x):=(show bI (if eJ x=true then rK g x else x)=bI (rK g x) from congrArg bI<|iP L);refine W ?_;refine aA (akg (g.map Prod.fst) (g.map Prod.snd) om om x _ _ _ _ w2 (QC.ext I)<|QD.ext I) ?_;rintro _ w3 ⟨rfl,aH⟩;have fl:=aH.size;refine bQ aH I S λI S=>?_;refine aA (CD _ w3) ?_;rintro _ w4 ⟨rfl,aJ⟩;have fP:=aJ.size;refine bQ aJ I S λI S=>?_;refine cF aO rfl rfl rfl S rfl λw5 aP S iY=>?_;have I:=I.aB aP sx;refine W ?_;have AE:=akf x g;rw[<-akv] at AE;exact⟨[_],gh fN aO rfl S rfl,⟨by rw[hq,<-AE];exact jB ld,Ev.ext I⟩,I.any⟩;have hq:(cB d (.at x) g n).1.av=bI x:=(show bI (if eJ x=true then rK g x else x)=bI x from congrArg bI (iN λhh=>Bool.noConfusion<|hh.symm.trans L));refine W ?_;refine cF aO rfl rfl rfl S rfl λw3 aH S _=>?_;have I:=I.aB aH sx;refine W ?_;exact⟨[_],gh fN aO rfl S rfl,⟨by rw[hq];exact aV.ext bW I,Ev.ext I⟩,I.any⟩;have fG:e.ju=false:=(by cases hh:e.ju;rfl;exact absurd ((xu bm).2 hh) H);obtain⟨_,_,j4,yF⟩:=Ex.ag fG;obtain⟨kc,_,_⟩:=Jd bm fG;have Jg:=Ps bm fG;have mN:eP (nth e.av.ag 0).au=(e.from,e.from+e.kids.length):=by rw[j4];exact Jg
  obtain⟨b,_,_,_,e0,rj,_⟩:=fQ Ew kc;subst e0;have kt:=I;have Jo:=t;have akw:=S;have akx:=du;have aky:=dS;refine iD<|zr<|zK w2.heap.size (J.heap.size::G) cT aO rfl rfl (lR _) (λx O=>by rcases mC.1 O with h|h;omega;have:=hG x h;omega) λw3 aH _ yH=>?_;have kF:=aH;refine bQ aH t S λt S=>?_;refine W ?_;refine yt cT aO rfl rfl rfl rfl rfl rfl yH (cD.ext (cA.fresh Ew (L':=w2.heap.size::J.heap.size::G) (by intro x O;simp at O;rcases O with rfl|rfl|O;right;omega;right;omega;exact .inl O))<|kt.ext aH) (Ya _) (by rw[iu];simp;omega) λ_ gP _ w4 lM aJ=>?_;have kF:=yH.since kF aJ;have I:=kt.trans kF;have t:=Jo.ext kF;have S:=akw.ext kF;have fP:=kF.size;rw[show([]:List (List C)).length+(da e.av.ag).length=e.av.ag.length from by rw[iu];simp] at lM⊢;rw[List.nil_append] at lM;obtain⟨p,e4,e5⟩:=lM.form (by rw[iu];exact kc);subst e4;subst e5;have gd:p<w4.heap.size:=lM.lt p sm;have GO:w2.heap.size<=p:=lM.low p rfl;have hS:et (p::J.heap.size::G) w4 103 2 (.slice (some ⟨p,0,none⟩) e.av.ag.length gP) (some p) (da e.av.ag):=(let⟨xs,hr⟩:=lM.own;⟨⟨xs,hr.own,hr.rep⟩,hr.row⟩);refine jE (O5 _ _ _ _) rfl rfl<|dj aO rfl rfl rfl λw5 aP E iY=>?_;have I:=I.grow;have I:=I.ext aP;have t:=t.grow;have t:=t.ext aP;have S:=S.grow;have S:=S.ext aP;have hS:=hS.grow;have hS:=hS.ext aP;refine cF aO rfl rfl rfl E rfl λw6 bM E _=>?_;have I:=I.aB bM sx;have t:=t.aB bM sx;have S:=S.aB bM sx;have hS:=hS.aB bM sx;refine bf<|zr<|zf kn rfl<|zl jC rfl (t.at rfl) ?_;have mi:∀x∈p::J.heap.size::G,x∈G\/w.heap.size<=x:=(by intro x O;simp at O;rcases O with rfl|rfl|O;right;omega;right;omega;exact .inl O);have cV:=I.size;have Yb:fI (p::J.heap.size::G) w6:=(by intro x O;simp at O;rcases O with rfl|rfl|O;omega;omega;have:=hG x O;omega);have GP:Fr G w (p::J.heap.size::G) w6:=⟨I.any,mi⟩;have M:=Ew.go GP;have D:=QC.go GP;have A:=QD.go GP;have rj:=rj.go GP;have pN:RN (p::J.heap.size::G) w6 K d n:=(Ev.re (by simp[Ev.mem]) mi).ext I;have gU:∀q,w.heap.size<=q->q≠p->q≠J.heap.size->q∉p::J.heap.size::G:=(by intro q H L U O;simp at O;rcases O with h|h|h;exact L h;exact U h;have:=hG q h;omega);have t:eE (p::J.heap.size::G) w6 w.heap.size _ _:=⟨t,gU _ om om om⟩;have E:eE (p::J.heap.size::G) w6 w4.heap.size _ _:=⟨E,gU _ om om om⟩;have hS:=et.sub hS (L':=p::J.heap.size::G) λx O=>.inl<|mK _ O;have f:jJ (p::J.heap.size::G) w w6 K d n p J.heap.size _ e.av.ag:=⟨pN,hS,I.any,S,sm,om,om,Yb⟩;have aQ:∃j,j=p::J.heap.size::G:=⟨_,rfl⟩;obtain⟨j,AF⟩:=aQ;rw[<-AF] at M D A t E rj f;have s:K∈j/\p∈j/\J.heap.size∈j:=⟨f.rn.mem,f.mem⟩;refine zi (i:=0) cT aO rfl rfl kc<|zf ml rfl<|zl gI rfl (rj.cells 0 _ rfl)<|aA (Mh _ _) ?_;rintro _ _ ⟨rfl,rfl⟩;rw[Ay mN];refine WI ?_;refine zi (i:=0) cT aO rfl rfl kc<|W ?_;refine zc rfl (λU=>?_) λU=>?_;obtain⟨z,u,B,rfl⟩:=Mr bm<|j4.symm.trans U;have yI:(Ex.lt z u B).n=2+u.n+B.n:=rfl;have hmul:(Ex.lt z u B).n*(d.length+2)=2*(d.length+2)+u.n*(d.length+2)+B.n*(d.length+2):=by rw[yI,Nat.add_mul,Nat.add_mul]
  have atx:=jU d u g<|bF cx d n+1;have Mu:(Ex.lt z u B).av.ag.length=4:=rfl;refine zr<|zm<|aA (Qz d n om jf K j w6 f.rn) ?_;rintro v7 w7 ⟨AG,cC⟩;have mr:=cC.size;have M:=M.aB cC<|f.o9;have D:=D.aB cC<|f.o9;have A:=A.aB cC<|f.o9;have t:=t.aB cC<|f.o9;have E:=E.aB cC f.o9;obtain⟨rfl,pN⟩:=AG;have f:=f.call pN cC;refine W ?_;apply dV dh 5 [51,52,53,54,55] [[],[0],[],[2],[1]] (it [_,_,_,_,_]) de rfl;intro wd aC;refine VA ?_;refine vk aC (λx w8 cg=>?_) ?_;refine aA (CD _ w8) ?_;rintro _ w9 ⟨rfl,aD⟩;have mV:=aD.size;exact pk aD;refine vk aC (λx w8 cg=>?_) ?_;refine zi (i:=1) cT aO rfl rfl ((show 1<4 from om)) ?_;exact pv;exact trivial;intro x _ kG;refine uH kG M D A t E f λM D A t E f=>?_;change OW _ _ _ _ _ (aY (aX _ x _)<|zZ 51 [_,_,_,_,_]) _;refine uP (i:=1) (vs:=[str (di cx<|bF cx d n),.slice none 0 0]) (row:=(bI (di cx<|bF cx d n)).enc) aO rfl rfl rfl rfl rfl f.own f.cP f.mem.1 (by rw[iu];omega) rfl (pY _) (QB _) λej cz tF dO=>?_;rw[uS] at dO;have M:=M.aB cz f.jX;have D:=D.aB cz f.jX;have A:=A.aB cz f.jX;have t:=t.aB cz f.jX;have E:=E.aB cz f.jX;have f:=f.store cz dO;refine W ?_;obtain⟨b2,lG,jn,jo,e2,cv,eu⟩:=fQ M (i:=2) om;cases e2;have eu:aV j ej _ u.av:=eu;obtain⟨_,_,_,_,e3,ew,eV⟩:=fQ M (i:=3) om;cases e3;have eV:aV j ej _ B.av:=eV;obtain⟨b1,fg,iA,iB,e1,bO,dd⟩:=fQ M (i:=1) om;cases e1;apply kC dh j 11 (rA 56 11) (rA 56 11) [[],[0],[],[2],[3],[4],[],[],[],(rA 5 4),[1]] [Ie.v _,Ie.v _,Ie.v _,Ie.v _,Ie.v _,Ie.v _,Ie.v _,Ie.v _,Ie.v _,Ie.e 0,Ie.v _] [9] [fun(G:List Nat) (vs:List Value) (o:World)=>G=j/\jJ j w o K d (bF cx d n+1) p J.heap.size (.slice (some ⟨p,0,none⟩) (Ex.lt z u B).av.ag.length gP) (((Ex.lt z u B).av.ag.set 1<|bI (di cx<|bF cx d n))),fun(G:List Nat) (vs:List Value) (o:World)=>G=j/\jJ j w o K d ((cB d u g<|bF cx d n+1).2) p J.heap.size (.slice (some ⟨p,0,none⟩) (Ex.lt z u B).av.ag.length gP) (((Ex.lt z u B).av.ag.set 1<|bI (di cx<|bF cx d n)))/\aV j o (vs.getD 0 undef) (cB d u g<|bF cx d n+1).1.av] de rfl f.cP (by exact trivial) (by exact⟨λG vs w w' ⟨H,L⟩ k=>⟨H,L.ext k⟩,λG vs w w' ⟨H,L,U⟩ k=>⟨H,L.ext k,U.ext k⟩,trivial⟩) (⟨rfl,f⟩);refine FA ?_;refine vf (λ_ _ _ _ _ _=>zi (i:=2) cT aO rfl rfl ((show 2<4 from om)) fv) ?_;refine FA ?_;refine ve 0 (λx jY Mv aU AI _ T l=>?_) ?_;have R:=j6 l;subst R;have D:=D.go AI;have A:=A.go AI;have eu:=eu.go AI;obtain⟨Y,f⟩:=T;obtain rfl:j=Mv:=Y.symm;refine aA (ih u om om bm.2.1 g (bF cx d n+1) om om _ _ _ K j jY eu D A f.rn f.cP) ?_;rintro Ey il ⟨⟨dL,Jp⟩,aD⟩;exact fe j (Fr.of aD f.o9) ((λq hq=>lL (f.cP q hq) aD.size)) (⟨rfl,f.call Jp aD,dL⟩);refine vf (λ_ _ _ _ _ _=>zi (i:=2) cT aO rfl rfl ((show 2<4 from om)) fv) ?_;exact trivial;intro x _ G88 aU Ez _ T l;obtain⟨q0,R⟩:=j7 l;subst R;have D:=D.go Ez;have A:=A.go Ez;have t:=t.go Ez;have E:=E.go Ez;have ew:=ew.go Ez;have eV:=eV.go Ez;have bO:=bO.go Ez;change OW _ _ _ _ _ (aY (aX _ x _)<|zZ 56 [_,_,_,_,_,_,_,_,_,_,_]) _;obtain⟨Y,f,dL⟩:=T;obtain rfl:j=G88:=Y.symm;obtain⟨a7,n7,c7,e7,_,_⟩:=cW dL;have e8:q0=_:=e7;subst e8;refine uP (i:=2) (vs:=[str (cB d u g<|bF cx d n+1).1.av.au,.slice a7 n7 c7]) (row:=(cB d u g<|bF cx d n+1).1.av.enc) aO rfl rfl rfl rfl rfl f.own f.cP f.mem.1 (by rw[iu];rw[List.length_set];omega) rfl (pY _) ((show aV j _ (.agg #[_,_]) _ from dL).jR) λpO pb tF dO=>?_;rw[uS] at dO;have D:=D.aB pb f.jX;have A:=A.aB pb f.jX;have t:=t.aB pb f.jX;have E:=E.aB pb f.jX;have ew:=ew.aB pb f.jX;have eV:=eV.aB pb f.jX;have bO:=bO.aB pb f.jX;have f:=f.store pb dO;refine W ?_;have z8:=f.kb.size;apply kC dh j 25 (rA 67 25) (rA 67 25) [[],[0],[],[2],[3],[4],[],[],[6,7],[],[9],[10],[11],[12],[13],[8,14],[],[],[16,17],[],[19],[18,20],[],[5,15,21,22],[1]] [Ie.v _,Ie.v _,Ie.v _,Ie.v _,Ie.v _,Ie.v _,Ie.p (fun(G:List Nat) (v:Value) (o:World)=>∃V,v= .slice (some ⟨V,0,none⟩) 0 0/\w.heap.size<=V/\eE G o V #[] 9),Ie.v _,Ie.e 0,Ie.v _,Ie.v _,Ie.v _,Ie.v _,Ie.v _,Ie.p<|fun(G:List Nat) (v:Value) (o:World)=>bo G o v [z],Ie.e 1,Ie.p (fun(G:List Nat) (v:Value) (o:World)=>∃V,v= .slice (some ⟨V,0,none⟩) 0 0/\w.heap.size<=V/\eE G o V #[] 9),Ie.v _,Ie.e 2,Ie.v _,Ie.p<|fun(G:List Nat) (v:Value) (o:World)=>bo G o v [(di cx<|bF cx d n)],Ie.e 3,Ie.v _,Ie.e 4,Ie.v _] [8,15,18,21,23] [fun(G:List Nat) (vs:List Value) (o:World)=>G=j/\jJ j w o K d ((cB d u g<|bF cx d n+1).2) p J.heap.size (.slice (some ⟨p,0,none⟩) (Ex.lt z u B).av.ag.length gP) ((((Ex.lt z u B).av.ag.set 1<|bI (di cx<|bF cx d n)).set 2 (cB d u g<|bF cx d n+1).1.av)),fun(G:List Nat) (vs:List Value) (o:World)=>(∀q∈j,q∈G)/\jJ G w o K d ((cB d u g (bF cx d n+1)).2) p J.heap.size (.slice (some ⟨p,0,none⟩) (Ex.lt z u B).av.ag.length gP) ((((Ex.lt z u B).av.ag.set 1 (bI (di cx (bF cx d n)))).set 2 (cB d u g (bF cx d n+1)).1.av))/\LP w.heap.size G j o 9 (vs.getD 0 undef) (g.map Prod.fst),fun(G:List Nat) (vs:List Value) (o:World)=>G=j/\jJ j w o K d ((cB d u g<|bF cx d n+1).2) p J.heap.size (.slice (some ⟨p,0,none⟩) (Ex.lt z u B).av.ag.length gP) ((((Ex.lt z u B).av.ag.set 1<|bI (di cx<|bF cx d n)).set 2 (cB d u g<|bF cx d n+1).1.av))/\bo j o (vs.getD 1 undef) ((g.map Prod.fst)++[z]),fun(G:List Nat) (vs:List Value) (o:World)=>(∀q∈j,q∈G)/\jJ G w o K d ((cB d u g (bF cx d n+1)).2) p J.heap.size (.slice (some ⟨p,0,none⟩) (Ex.lt z u B).av.ag.length gP) ((((Ex.lt z u B).av.ag.set 1 (bI (di cx (bF cx d n)))).set 2 (cB d u g (bF cx d n+1)).1.av))/\bo G o (vs.getD 1 undef) ((g.map Prod.fst)++[z])/\LP w.heap.size G j o 9 (vs.getD 2 undef) (g.map Prod.snd),fun(G:List Nat) (vs:List Value) (o:World)=>G=j/\jJ j w o K d ((cB d u g<|bF cx d n+1).2) p J.heap.size (.slice (some ⟨p,0,none⟩) (Ex.lt z u B).av.ag.length gP) ((((Ex.lt z u B).av.ag.set 1<|bI (di cx<|bF cx d n)).set 2 (cB d u g<|bF cx d n+1).1.av))/\bo j o (vs.getD 1 undef) ((g.map Prod.fst)++[z])/\bo j o (vs.getD 3 undef) ((g.map Prod.snd)++[(di cx<|bF cx d n)]),fun(G:List Nat) (vs:List Value) (o:World)=>G=j/\jJ j w o K d ((cB d B (g++[(z,(di cx<|bF cx d n))]) (cB d u g<|bF cx d n+1).2).2) p J.heap.size (.slice (some ⟨p,0,none⟩) (Ex.lt z u B).av.ag.length gP) ((((Ex.lt z u B).av.ag.set 1<|bI (di cx<|bF cx d n)).set 2 (cB d u g<|bF cx d n+1).1.av))/\aV j o (vs.getD 4 undef) (cB d B (g++[(z,(di cx<|bF cx d n))]) (cB d u g<|bF cx d n+1).2).1.av] de rfl f.cP (by exact⟨λG v w G' w' ⟨V,e,h0,h⟩ k=>⟨V,e,h0,h.go k⟩,λG v w G' w' h k=>bo.go h k,λG v w G' w' ⟨V,e,h0,h⟩ k=>⟨V,e,h0,h.go k⟩,λG v w G' w' h k=>bo.go h k,trivial⟩) (by exact⟨λG vs w w' ⟨H,L⟩ k=>⟨H,L.ext k⟩,λG vs w w' ⟨H,L,U⟩ k=>⟨H,L.ext k,U.ext k⟩,λG vs w w' ⟨H,L,U⟩ k=>⟨H,L.ext k,U.ext k⟩,λG vs w w' ⟨H,L,U,h4⟩ k=>⟨H,L.ext k,U.ext k,h4.ext k⟩,λG vs w w' ⟨H,L,U,h4⟩ k=>⟨H,L.ext k,U.ext k,h4.ext k⟩,λG vs w w' ⟨H,L,U⟩ k=>⟨H,L.ext k,U.ext k⟩,trivial⟩) (⟨rfl,f⟩);refine FA ?_;refine vf (λ_ _ _ _ _ _=>zi (i:=3) cT aO rfl rfl ((show 3<4 from om)) fv) ?_;refine FA ?_;refine vf (λx lN nL aU ku ox=>?_) ?_;refine ik bA bw ?_;intro rW AJ QE Mw;exact ff AJ (⟨_,rfl,(by have H:=ku.aG.size;omega),QE.o ox⟩);refine FA ?_;refine ve 0 (λx lN nL aU ku ox T l=>?_) ?_;have R:=j6 l;subst R;have D:=D.go ku;intro v6 d6;obtain⟨V,e6,EA,gK⟩:=d6;subst e6;obtain⟨Y,f⟩:=T;obtain rfl:j=nL:=Y.symm;refine Ja (N:=w.heap.size) bA bw rfl rfl rfl rfl rfl rfl gK EA D f.cP om λv9 rW G9 Z xz F X rk=>?_;exact fe G9 F X<|⟨Z,f.out F rk ⟨s.1,s.2.1,s.2.2⟩ ⟨Z _ s.1,Z _ s.2.1,Z _ s.2.2⟩ X,xz⟩;refine FA ?_;refine vf (λ_ _ _ _ _ _=>zi (i:=1) cT aO rfl rfl ((show 1<4 from om)) fv) ?_;refine FA ?_;refine vf (λx lN nL aU ku ox=>?_) ?_;refine fW bA bw rfl rfl ?_;intro rW AJ GQ Mw;exact ff AJ (aK.eC [z] GQ λO=>by have:=ox _ O;omega);refine ve 1 (λx lN nL aU ku ox T l=>?_) ?_;obtain⟨q0,R⟩:=j7 l;subst R;intro lx d14;obtain⟨kX,f,Jq⟩:=T;refine Mi bA bw rfl rfl rfl rfl rfl rfl Jq d14 f.cP kX so λv9 rW kv F X rk=>?_;exact fe j F X<|⟨rfl,f.out F rk ⟨s.1,s.2.1,s.2.2⟩ ⟨s.1,s.2.1,s.2.2⟩ X,kv⟩;refine vf (λx lN nL aU ku ox=>?_) ?_;refine ik bA bw λrW AJ akA Mw=>?_;exact ff AJ<|⟨_,rfl,(by have H:=ku.aG.size;omega),akA.o ox⟩;refine FA ?_;refine ve 2 (λx lN nL aU ku ox T l=>?_) ?_;obtain⟨q0,q1,R⟩:=mo l;subst R;have A:=A.go ku;intro rX d16;obtain⟨V,e6,EA,gK⟩:=d16;subst e6;obtain⟨Y,f,sH⟩:=T;obtain rfl:j=nL:=Y.symm;refine Ja (N:=w.heap.size) bA bw rfl rfl rfl rfl rfl rfl gK EA A f.cP om λv9 rW G9 Z xz F X rk=>?_;exact fe G9 F X<|⟨Z,f.out F rk ⟨s.1,s.2.1,s.2.2⟩ ⟨Z _ s.1,Z _ s.2.1,Z _ s.2.2⟩ X,sH.go F,xz⟩;refine FA ?_;refine vf (λx lN nL aU ku ox=>?_) ?_;refine fW bA bw rfl rfl λrW AJ akB Mw=>?_;exact ff AJ (aK.eC [(di cx<|bF cx d n)] akB λO=>by have:=ox _ O;omega);refine ve 3 (λx lN nL aU ku ox T l=>?_) ?_;obtain⟨q0,q1,q2,R⟩:=Cc l;subst R;intro v20 d20;obtain⟨kX,f,sH,Jq⟩:=T;refine Mi bA bw rfl rfl rfl rfl rfl rfl Jq d20 f.cP kX so λv9 rW kv F X rk=>?_;exact fe j F X<|⟨rfl,f.out F rk ⟨s.1,s.2.1,s.2.2⟩ ⟨s.1,s.2.1,s.2.2⟩ X,sH.go F,kv⟩;refine FA ?_;refine ve 4 (λx lN nL aU ku ox T l=>?_) ?_;obtain⟨q0,q1,q2,q3,R⟩:=PJ l;subst R;have eV:=eV.go ku;obtain⟨Y,f,sH,akC⟩:=T;obtain rfl:j=nL:=Y.symm;refine aA (ih B om om bm.2.2 (g++[(z,(di cx<|bF cx d n))]) (cB d u g<|bF cx d n+1).2 so om _ _ _ K j lN eV (by rw[List.map_append];exact sH) (by rw[List.map_append];exact akC) f.rn f.cP) ?_;rintro Ey rW ⟨⟨dL,Jp⟩,aD⟩;exact fe j (Fr.of aD f.o9) ((λq hq=>lL (f.cP q hq) aD.size)) (⟨rfl,f.call Jp aD,dL⟩);refine vf (λ_ _ _ _ _ _=>zi (i:=3) cT aO rfl rfl ((show 3<4 from om)) fv) ?_;exact trivial;intro x _ Yd aU QF _ T l;obtain⟨q0,q1,q2,q3,q4,R⟩:=V2 l;subst R;intro v6 d6;intro lx d14;intro rX d16;intro v20 d20;have E:=E.go QF;change OW _ _ _ _ _ (aY (aX _ x _)<|zZ 67 [_,_,_,_,_,_,_,_,_,_,_,_,_,_,_,_,_,_,_,_,_,_,_,_,_]) _;obtain⟨Y,f,dL⟩:=T;obtain rfl:j=Yd:=Y.symm;obtain⟨a7,n7,c7,e7,_,_⟩:=cW dL;have e8:q4=_:=e7;subst e8;refine uP (i:=3) (vs:=[str (cB d B (g++[(z,(di cx<|bF cx d n))]) (cB d u g<|bF cx d n+1).2).1.av.au,.slice a7 n7 c7]) (row:=(cB d B (g++[(z,(di cx<|bF cx d n))]) (cB d u g<|bF cx d n+1).2).1.av.enc) aO rfl rfl rfl rfl rfl f.own f.cP f.mem.1 (by rw[iu];rw[List.length_set,List.length_set];omega) rfl (pY _) ((show aV j _ (.agg #[_,_]) _ from dL).jR) λQG EB tF dO=>?_;rw[uS] at dO;have E:=E.aB EB f.jX;have f:=f.store EB dO;refine W ?_;refine cF aO rfl rfl rfl f.bx rfl λakE QH S l3=>?_;subst AF;obtain⟨tG,tH,rY⟩:=f.fin hG Ev.mem QH;refine W ?_;exact⟨[_],gh fN aO rfl S rfl,⟨tG,tH⟩,rY⟩;have My:isLt e=false:=not_lt λhh=>U<|j4.trans hh;have Ye:=akq d g n fG My;have Yf:=akr d n fG My;have Q:=Fr.refl j w6;have z8:=f.kb.size;refine WI ?_;refine zi (i:=0) cT aO rfl rfl kc<|W ?_;refine jq (λq:Value×Value=>[(1,q.1),(2,q.2),(3,.pointer<|some ⟨K,0,none⟩),(4,.pointer<|some ⟨w.heap.size,0,none⟩),(8,.pointer<|some ⟨J.heap.size,0,none⟩),(9,.pointer<|some ⟨w4.heap.size,0,none⟩),(10,.int .i64 (e.from:Int)),(11,.int .i64 ((e.from+e.kids.length:Nat):Int))]) (λq o=>Fr j w6 j o/\jJ j w o K d (nF d n e) p J.heap.size (.slice (some ⟨p,0,none⟩) e.av.ag.length gP) (mW (yG d n e) [] e)/\bo j o q.1 ((jW d g n e).map Prod.fst)/\bo j o q.2 ((jW d g n e).map Prod.snd)) ?_ ?_;refine zc rfl (λh4=>?_) λh4=>?_;obtain⟨nf,z,tA,tB,B,rfl⟩:=Ms bm<|j4.symm.trans h4;have yI:(Ex.fn nf z tA tB B).n=3+tA.n+tB.n+B.n:=rfl;have hmul:(Ex.fn nf z tA tB B).n*(d.length+2)=3*(d.length+2)+tA.n*(d.length+2)+tB.n*(d.length+2)+B.n*(d.length+2):=by rw[yI,Nat.add_mul,Nat.add_mul,Nat.add_mul]
  have Mz:(Ex.fn nf z tA tB B).av.ag.length=6:=rfl;refine zr<|zm<|aA (Qz d n om jf K j w6 f.rn) ?_;rintro v7 w7 ⟨AG,cC⟩;have mr:=cC.size;have M:=M.aB cC<|f.o9;have D:=D.aB cC<|f.o9;have A:=A.aB cC<|f.o9;have t:=t.aB cC<|f.o9;have E:=E.aB cC<|f.o9;have Q:=Q.aB cC f.o9;obtain⟨rfl,pN⟩:=AG;have f:=f.call pN cC;refine W ?_;refine aA (Qz d (bF cx d n+1) om jf K j w7 f.rn) ?_;rintro _ w8 ⟨Jr,cg⟩;have AK:=cg.size;have M:=M.aB cg<|f.o9;have D:=D.aB cg<|f.o9;have A:=A.aB cg<|f.o9;have t:=t.aB cg<|f.o9;have E:=E.aB cg<|f.o9;have Q:=Q.aB cg f.o9;obtain⟨rfl,pN⟩:=Jr;have f:=f.call pN cg;refine W ?_;apply dV dh 5 [103,104,105,106,107] [[],[0],[],[2],[1]] (it [_,_,_,_,_]) de rfl;intro wd aC;refine VA ?_;refine vk aC (λx w9 aD=>?_) ?_;refine aA (CD _ w9) ?_;rintro _ db ⟨rfl,df⟩;have CR:=df.size;exact pk df;refine vk aC (λx w9 aD=>?_) ?_;refine zi (i:=1) cT aO rfl rfl ((show 1<6 from om)) ?_;exact pv;exact trivial;intro x ej cz;refine Gn cz M D A t E Q f λM D A t E Q f=>?_;change OW _ _ _ _ _ (aY (aX _ x _)<|zZ 103 [_,_,_,_,_]) _;refine uP (i:=1) (vs:=[str (di cx<|bF cx d n),.slice none 0 0]) (row:=(bI (di cx<|bF cx d n)).enc) aO rfl rfl rfl rfl rfl f.own f.cP f.mem.1 (by rw[iu];omega) rfl (pY _) (QB _) λjY ey tF dO=>?_;rw[uS] at dO;have M:=M.aB ey f.jX;have D:=D.aB ey f.jX;have A:=A.aB ey f.jX;have t:=t.aB ey f.jX;have E:=E.aB ey f.jX;have Q:=Q.aB ey f.jX;have f:=f.store ey dO;refine W ?_;apply dV dh 5 [108,109,110,111,112] [[],[0],[],[2],[1]] (it [_,_,_,_,_]) de rfl;intro wd aC;refine VA ?_;refine vk aC (λx il eF=>?_) ?_;refine aA (CD _ il) ?_;rintro _ _ ⟨rfl,iV⟩;have Jt:=iV.size;exact pk iV;refine vk aC (λx il eF=>?_) ?_;refine zi (i:=2) cT aO rfl rfl ((show 2<6 from om)) ?_;exact pv;exact trivial;intro x pO pb;refine uH pb M D A t Q f λM D A t Q f=>?_;change OW _ _ _ _ _ (aY (aX _ x _)<|zZ 108 [_,_,_,_,_]) _;refine uP (i:=2) (vs:=[str<|di cx (bF cx d<|bF cx d n+1),.slice none 0 0]) (row:=(bI<|di cx (bF cx d<|bF cx d n+1)).enc) aO rfl rfl rfl rfl rfl f.own f.cP f.mem.1 (by rw[iu];rw[List.length_set];omega) rfl (pY _) (QB _) λlN wb tF dO=>?_;rw[uS] at dO;have M:=M.aB wb f.jX;have D:=D.aB wb f.jX;have A:=A.aB wb f.jX;have t:=t.aB wb f.jX;have Q:=Q.aB wb f.jX;have f:=f.store wb dO;refine W ?_;have z8:=f.kb.size;obtain⟨b1,fg,iA,iB,e1,bO,dd⟩:=fQ M (i:=1) om;cases e1;obtain⟨b2,lG,jn,jo,e2,cv,eu⟩:=fQ M (i:=2) om;cases e2;apply kC dh j 15 (rA 113 15) (rA 113 15) [[],[],[0,1],[],[3],[4],[5],[6],[],[8],[9],[10],[11],[7,12],[2,13]] [Ie.p (fun(G:List Nat) (v:Value) (o:World)=>∃V,v= .slice (some ⟨V,0,none⟩) 0 0/\w.heap.size<=V/\eE G o V #[] 9),Ie.v _,Ie.e 0,Ie.v _,Ie.v _,Ie.v _,Ie.v _,Ie.v _,Ie.v _,Ie.v _,Ie.v _,Ie.v _,Ie.v _,Ie.p<|fun(G:List Nat) (v:Value) (o:World)=>bo G o v [nf,z],Ie.e 1] [2,14] [fun(G:List Nat) (vs:List Value) (o:World)=>G=j/\jJ j w o K d (bF cx d (bF cx d n+1)+1) p J.heap.size (.slice (some ⟨p,0,none⟩) (Ex.fn nf z tA tB B).av.ag.length gP) ((((Ex.fn nf z tA tB B).av.ag.set 1<|bI (di cx<|bF cx d n)).set 2 (bI<|di cx (bF cx d<|bF cx d n+1)))),fun(G:List Nat) (vs:List Value) (o:World)=>(∀q∈j,q∈G)/\jJ G w o K d (bF cx d (bF cx d n+1)+1) p J.heap.size (.slice (some ⟨p,0,none⟩) (Ex.fn nf z tA tB B).av.ag.length gP) ((((Ex.fn nf z tA tB B).av.ag.set 1 (bI (di cx (bF cx d n)))).set 2 (bI (di cx (bF cx d (bF cx d n+1))))))/\LP w.heap.size G j o 9 (vs.getD 0 undef) (g.map Prod.fst),fun(G:List Nat) (vs:List Value) (o:World)=>G=j/\jJ j w o K d (bF cx d (bF cx d n+1)+1) p J.heap.size (.slice (some ⟨p,0,none⟩) (Ex.fn nf z tA tB B).av.ag.length gP) ((((Ex.fn nf z tA tB B).av.ag.set 1<|bI (di cx<|bF cx d n)).set 2 (bI<|di cx (bF cx d<|bF cx d n+1))))/\bo j o (vs.getD 1 undef) ((g.map Prod.fst)++[nf,z])] de rfl f.cP (by exact⟨λG v w G' w' ⟨V,e,h0,h⟩ k=>⟨V,e,h0,h.go k⟩,λG v w G' w' h k=>bo.go h k,trivial⟩) (by exact⟨λG vs w w' ⟨H,L⟩ k=>⟨H,L.ext k⟩,λG vs w w' ⟨H,L,U⟩ k=>⟨H,L.ext k,U.ext k⟩,λG vs w w' ⟨H,L,U⟩ k=>⟨H,L.ext k,U.ext k⟩,trivial⟩) (⟨rfl,f⟩);refine vf (λx rW MA aU Ju Jv=>?_) ?_;refine ik bA bw λEC AL akF akG=>?_;exact ff AL<|⟨_,rfl,(by have H:=Ju.aG.size;omega),akF.o Jv⟩;refine FA ?_;refine ve 0 (λx rW MA aU Ju Jv T l=>?_) ?_;have R:=j6 l;subst R;have D:=D.go Ju;intro v0 d0;obtain⟨V,e6,EA,gK⟩:=d0;subst e6;obtain⟨Y,f⟩:=T;obtain rfl:j=MA:=Y.symm;refine Ja (N:=w.heap.size) bA bw rfl rfl rfl rfl rfl rfl gK EA D f.cP om λv9 EC G9 Z xz F X rk=>?_;exact fe G9 F X<|⟨Z,f.out F rk ⟨s.1,s.2.1,s.2.2⟩ ⟨Z _ s.1,Z _ s.2.1,Z _ s.2.2⟩ X,xz⟩;refine FA ?_;refine vf (λ_ _ _ _ _ _=>zi (i:=1) cT aO rfl rfl ((show 1<6 from om)) fv) ?_;refine FA ?_;refine vf (λ_ _ _ _ _ _=>zi (i:=2) cT aO rfl rfl ((show 2<6 from om)) fv) ?_;refine FA ?_;refine vf (λx rW MA aU Ju Jv=>?_) ?_;refine l4 bA bw rfl rfl rfl rfl ?_;intro EC AL akH akG;exact ff AL (aK.eC [nf,z] akH λO=>by have:=Jv _ O;omega);refine ve 1 (λx rW MA aU Ju Jv T l=>?_) ?_;obtain⟨q0,R⟩:=j7 l;subst R;intro qo d13;obtain⟨kX,f,Jq⟩:=T;refine Mi bA bw rfl rfl rfl rfl rfl rfl Jq d13 f.cP kX so λv9 EC kv F X rk=>?_;exact fe j F X<|⟨rfl,f.out F rk ⟨s.1,s.2.1,s.2.2⟩ ⟨s.1,s.2.1,s.2.2⟩ X,kv⟩;exact trivial;intro x QG akI aU Yg _ T l;obtain⟨q0,q1,R⟩:=mo l;subst R;intro v0 d0;intro qo d13;have A:=A.go Yg;have Q:=Q.go Yg;change OW _ _ _ _ _ (aY (aX _ x _)<|zZ 113 [_,_,_,_,_,_,_,_,_,_,_,_,_,_,_]) _;obtain⟨Y,f,sH⟩:=T;obtain rfl:j=akI:=Y.symm;refine zA<|bf<|mf<|ik bA bw λakE QH QI _=>?_;have dC:=f.cP;have z8:=f.kb.size;refine gO QH f A Q sH λf A Q sH=>?_;have wc:=QI.o dC;refine zm<|Ja (N:=w.heap.size) bA bw rfl rfl rfl rfl rfl rfl wc om A f.cP om λv9 _ G9 Z xz F X rk=>?_;have f:=f.out F rk ⟨s.1,s.2.1,s.2.2⟩ ⟨Z _ s.1,Z _ s.2.1,Z _ s.2.2⟩ X;have Q:=Q.go F;have sH:=sH.go F;refine zm<|zm<|l4 bA bw rfl rfl rfl rfl λ_ akJ akK _=>gO akJ Q sH xz f λQ sH xz f=>?_;refine Mi bA bw rfl rfl rfl rfl rfl rfl xz (aK.eC [(di cx<|bF cx d n),(di cx (bF cx d<|bF cx d n+1))] akK λO=>by have:=X _ O;omega) f.cP Z (show(g.map Prod.snd).length+2<100000000 from om) λ_ _ yJ F GR rk=>?_;have f:=f.out F rk ⟨s.1,s.2.1,s.2.2⟩ ⟨s.1,s.2.1,s.2.2⟩ GR;have Q:=Q.go F;have sH:=sH.go F;refine W ?_;exact⟨(_,_),⟨rfl,rfl,rfl,rfl,rfl,rfl,rfl,rfl⟩,⟨Q,f,by show bo j _ _ ((g++_).map Prod.fst);rw[List.map_append];exact sH,by show bo j _ _ ((g++_).map Prod.snd);rw[List.map_append];exact yJ⟩⟩;have sG:e.head≠iM:=λhh=>h4<|j4.trans hh;have uI:=aks d n bm fG sG;have sI:=X5 fG My sG;refine iD ?_;exact⟨(_,_),⟨rfl,rfl,rfl,rfl,rfl,rfl,rfl,rfl⟩,⟨Q,by rw[uI.2,uI.1,show mW [bI e.head] [] e=e.av.ag from by rw[sI];simp[mW]];exact f,by rw[X0 d g n sG];exact D,by rw[X0 d g n sG];exact A⟩⟩;intro gu w7 e7 hI;obtain⟨vf2,El⟩:=gu;dsimp only at hI⊢;obtain⟨Q,f,D,A⟩:=hI;have M:=M.go Q;have t:=t.go Q;have E:=E.go Q;refine j1<|zr<|zm<|zA<|bf<|vw ?_;refine eW (λk:Nat=>[(1,vf2),(2,El),(3,.pointer<|some ⟨K,0,none⟩),(4,.pointer<|some ⟨w.heap.size,0,none⟩),(8,.pointer<|some ⟨J.heap.size,0,none⟩),(9,.pointer<|some ⟨w4.heap.size,0,none⟩),(11,.int .i64 ((e.from+e.kids.length:Nat):Int)),(15,.int .i64 ((e.from+k:Nat):Int))]) (λk o=>Fr j w7 j o/\jJ j w o K d ((lv d (jW d g n e) e (nF d n e) k).2) p J.heap.size (.slice (some ⟨p,0,none⟩) e.av.ag.length gP) (mW (yG d n e) (lv d (jW d g n e) e (nF d n e) k).1 e)/\k<=e.kids.length) (λk=>e.kids.length-k) (0) (⟨rfl,rfl,rfl,rfl,rfl,rfl,rfl,rfl⟩) (⟨Fr.refl _ _,f,om⟩) ?_;intro P w8 e8 hI;obtain⟨qp,f,hk⟩:=hI;have M:=M.go qp;have D:=D.go qp;have A:=A.go qp;have t:=t.go qp;have E:=E.go qp;refine j1<|zr<|zm<|zm<|Kw rfl rfl rfl rfl rfl<|bf<|zc rfl (λh5=>?_) λh5=>?_;have iU:P<e.kids.length:=om;have uF:=yF P iU;obtain⟨b1,fg,iA,iB,e1,bO,dd⟩:=fQ M (i:=e.from+P) om;cases e1;have dd:=dd.eq uF;have vZ:=Iv bm iU;have iq:=XZ d (jW d g n e) e (nF d n e) P;have CQ:=X9 d (jW d g n e) e (nF d n e) P om;have DB:=AD iU;have mh:=akt d g n fG My iU mO pW CQ.2;refine iD<|j1<|vw ?_;apply kC dh j 13 (rA 141 13) (rA 141 13) [[],[0],[],[],[3],[],[4,5],[6],[],[],[],(rA 7 4),[1,2]] [Ie.v _,Ie.v _,Ie.v _,Ie.v _,Ie.v _,Ie.v _,Ie.v _,Ie.v _,Ie.v _,Ie.v _,Ie.v _,Ie.e 0,Ie.v _] [11] [fun(G:List Nat) (vs:List Value) (o:World)=>G=j/\jJ j w o K d ((lv d (jW d g n e) e (nF d n e) P).2) p J.heap.size (.slice (some ⟨p,0,none⟩) e.av.ag.length gP) (mW (yG d n e) (lv d (jW d g n e) e (nF d n e) P).1 e),fun(G:List Nat) (vs:List Value) (o:World)=>G=j/\jJ j w o K d ((lv d (jW d g n e) e (nF d n e)<|P+1).2) p J.heap.size (.slice (some ⟨p,0,none⟩) e.av.ag.length gP) (mW (yG d n e) (lv d (jW d g n e) e (nF d n e) P).1 e)/\aV j o (vs.getD 0 undef) (cB d (gN e P) (jW d g n e) (lv d (jW d g n e) e (nF d n e) P).2).1.av] de rfl f.cP (by exact trivial) (by exact⟨λG vs w w' ⟨H,L⟩ k=>⟨H,L.ext k⟩,λG vs w w' ⟨H,L,U⟩ k=>⟨H,L.ext k,U.ext k⟩,trivial⟩) (⟨rfl,f⟩);refine vf (λ_ _ _ _ _ _=>zf kn rfl fv) ?_;refine vf (λx w9 G9 aU F oy=>?_) ?_;have E:=E.go F;refine WZ ?_;exact fv;refine FA ?_;refine ve 0 (λx w9 G9 aU F oy T l=>?_) ?_;have R:=j6 l;subst R;have D:=D.go F;have A:=A.go F;have dd:=dd.go F;obtain⟨Y,f⟩:=T;obtain rfl:j=G9:=Y.symm;refine aA (ih (gN e P) om om vZ.1 (jW d g n e) (lv d (jW d g n e) e (nF d n e) P).2 mh.1 mh.2 _ _ _ K j w9 dd D A f.rn f.cP) ?_;rintro Ey db ⟨⟨dL,Jp⟩,aD⟩;exact fe j (Fr.of aD f.o9) ((λq hq=>lL (f.cP q hq) aD.size)) (⟨rfl,f.call Jp aD,dL⟩);exact FZ;intro x ej MB aU GS _ T l;obtain⟨q0,R⟩:=j7 l;subst R;have qp:=qp.go GS;change OW _ _ _ _ _ (aY (aX _ x _)<|zZ 141 [_,_,_,_,_,_,_,_,_,_,_,_,_]) _;obtain⟨Y,f,dL⟩:=T;obtain rfl:j=MB:=Y.symm;obtain⟨a7,n7,c7,e7,_,_⟩:=cW dL;have e8:q0=_:=e7;subst e8;have Bt:(mW (yG d n e) (lv d (jW d g n e) e (nF d n e) P).1 e).set (e.from+P) (cB d (gN e P) (jW d g n e) (lv d (jW d g n e) e (nF d n e) P).2).1.av=mW (yG d n e) (lv d (jW d g n e) e (nF d n e)<|P+1).1 e:=(by have:=X6 (pre:=(yG d n e)) (acc:=(lv d (jW d g n e) e (nF d n e) P).1) (e:=e) (y:=(cB d (gN e P) (jW d g n e) (lv d (jW d g n e) e (nF d n e) P).2).1) om;rw[Yf,iq] at this;exact this);refine uP (i:=e.from+P) (vs:=[str (cB d (gN e P) (jW d g n e) (lv d (jW d g n e) e (nF d n e) P).2).1.av.au,.slice a7 n7 c7]) (row:=(cB d (gN e P) (jW d g n e) (lv d (jW d g n e) e (nF d n e) P).2).1.av.enc) aO rfl rfl rfl rfl (Nat.zero_add _) f.own f.cP f.mem.1 (by rw[iu,X7 om,Yf];omega) rfl (pY _) (show aV j _ (.agg #[_,_]) _ from dL).jR λjY ey tF dO=>?_;rw[uS,Bt] at dO;have qp:=qp.aB ey f.jX;have f:=f.store ey dO;refine W ?_;exact⟨P+1,⟨rfl,rfl,rfl,rfl,rfl,rfl,rfl,congrArg (Value.int .i64) om⟩,⟨qp,f,om⟩,om⟩;have gd:P=e.kids.length:=by omega
  subst gd;have iq:=XZ d (jW d g n e) e (nF d n e) e.kids.length;refine W ?_;refine cF aO rfl rfl rfl f.bx rfl λw9 aD S l3=>?_;subst AF;obtain⟨tG,tH,rY⟩:=f.fin hG Ev.mem aD;rw[X8 iq,<-Ye.1] at tG;rw[<-Ye.2] at tH;refine W ?_;exact⟨[_],gh fN aO rfl S rfl,⟨tG,tH⟩,rY⟩
theorem akM {ps:List aq} (h:k<ps.length):ko (ps.take k)+gC (nth ps k)<=ko ps:=by have a:=Vv<|ek h;have b:=Xs (ps:=ps)<|k+1;omega
theorem akN:∀(m:Nat) (t:aq),t.size<=m->t.size<=1000000->WF t->∀(l:List ak),l.length+gC t<=100000->∀(v p:Value) (g:Option Nat) (w:World),
  aV g.toList w v t->cN w 9 p g l->
  bD Tryz.prog 150 [v,p] w λr w'=>∃D,cN w' 9 r D (mm t l)/\Fr g.toList w D.toList w':=by
 intro m;induction m with
 |zero=>intro t h;have:=pZ t;omega
 |succ m ih=>
  intro t _ _ Q l _ v p g w hv b;obtain⟨a,n,c,rfl,Z,i⟩:=cW hv;subst Z;obtain⟨P,R,rfl⟩:=kV b;have pL:=b.lt;have y:=b.rs;have d:=Fr.refl g.toList w;have mP:=lD t;refine cu [.tmp 4] 34 Tryz.func150 rfl ae9 rfl rfl ?_;refine zr<|eK rfl λH N e _=>gO N d i b y λd i b y=>?_;refine W ?_;refine zc rfl (λj=>?_) λj=>?_;have o:mm t l=if t.au∈l then l else l++[t.au]:=by rw[VK,iP j]
  refine W ?_;refine aA (CC l om t.au _ _ H y) ?_;rintro _ I ⟨rfl,C⟩;have dA:=C.size;refine cQ C d b e λd b e=>?_;refine bf<|zc rfl (λs=>?_) λs=>?_;have z:t.au∈l:=s;refine W ?_;exact⟨_,rfl,g,by rw[o,iP z];exact b,d⟩;have z:¬t.au∈l:=s;refine W ?_;refine fW bA bw rfl rfl λw3 M J _=>bQ M d b λd b=>?_;refine WT bA bw rfl rfl rfl rfl rfl rfl b J om λ_ U _ l8 _ ri=>?_;have d:=d.go ri;refine W ?_;exact⟨_,rfl,U,by rw[o,iN z];exact l8,d⟩;have o:mm t l=qd t.ag l:=(by rw[VK,iN j]);have Yh:gC t=ko t.ag:=(by rw[Po,iN j]);have e:=e.o pL;refine W ?_;refine eW (λq:Nat×Value×Option Nat=>[(1,q.2.1),(2,.pointer<|some ⟨w.heap.size,0,none⟩),(5,.int .i64 (q.1:Int))]) (λq w'=>Fr g.toList w q.2.2.toList w'/\Fr g.toList H q.2.2.toList w'/\cN w' 9 q.2.1 q.2.2 (qd (t.ag.take q.1) l)/\q.1<=t.ag.length) (λq=>t.ag.length-q.1) ((0,.slice P l.length R,g)) (⟨rfl,rfl,rfl⟩) (⟨d,Fr.refl _ _,b,sm⟩) λX I _ F=>?_;obtain⟨k,p,E⟩:=X;dsimp only at F⊢;obtain⟨d,u,b,hk⟩:=F;have e:=e.go u;have i:=i.go u;refine W ?_;refine zc rfl (λY=>?_) λY=>?_;have f:k<t.ag.length:=om;obtain⟨_,_,_,_,T,_,S⟩:=fQ i f;subst T;have cH:=kP f;have O:=aij (ek f) l;have Ec:=PB (t.ag.take k) l;have GU:=akM f;refine WI ?_;refine zi cT aO rfl rfl f<|W ?_;refine aA (ih (nth t.ag k) om om (Q.nth f) _ om _ _ E I S b) ?_;rintro K w3 ⟨L,B,A⟩;rw[<-O] at B;refine W ?_;exact⟨(k+1,K,L),⟨rfl,rfl,rfl⟩,⟨d.go A,u.go A,B,by simp;omega⟩,by simp;omega⟩;have V:k=t.ag.length:=by omega
  subst V;refine W ?_;exact⟨_,rfl,E,by rw[o,<-List.take_length (l:=t.ag)];exact b,d⟩
theorem akO (f:Ex) (K:f.n<=120) (O:f.ok) (v:Value) (L:List Nat) (w:World) (U:∀x∈L,x<w.heap.size) (S:aV L w v f.av):
  bD Tryz.prog 149 [v] w λr w'=>(∃V,r= .tuple #[V,.bool (rM f).isSome]/\aV L w' V (cB (dN f [] []) f [] 0).1.av)/\aj [] w w':=by
 have N:=S;obtain⟨a,_,c,rfl,_,_⟩:=cW S;have kU:(dN f [] []).length<=120:=by have:=Pt f [] [];simp at this;omega
 have hmu:f.n*((dN f [] []).length+2)<=120*122:=Nat.mul_le_mul K om;have d:=aj.refl [] w;refine kM [.cell 2 103,.tmp 3] 23 Tryz.func149 rfl ae7 rfl rfl rfl ?_;refine zr<|eK rfl λu aI i _=>?_;have d:=d.ext aI;refine dj aO rfl rfl rfl λ_ M g _=>?_;have d:=d.grow;have d:=d.ext M;have i:=i.grow;have i:=i.ext M;refine W ?_;refine ik bA bw λ_ Z _ nG=>cQ Z d i g λd i g=>?_;refine ik bA bw λw4 aJ cR l3=>cQ aJ d i g λd i g=>?_;have gj:=d.size;refine aA (Mn 120 f K om O [] [] so so _ _ _ (some _) w4 (aV.ext (aV.fresh N (by intro x t;simp at t;right;omega)) d) (cA.nil _ _ _) cR.l5) ?_;rintro _ H ⟨Q,o,s⟩;have mV:=s.aG.size;obtain⟨_,_,rfl⟩:=kV o;have d:=d.since s.aG λx t=>.inr (by simp at t;omega);have i:=i.aG s.aG so;have g:=g.aG s.aG so;have gd:=o.lt;have atF:=d.size;have Yi:=i.lt;have QL:=g.lt;refine jE (ag6 _ _ _ _ _) rfl rfl<|eK rfl λ_ bM j _=>gO bM d i g o λd i g o=>?_;refine W ?_;refine ik bA bw λ_ cC _ nG=>kT cC d i g o j λd i g o j=>?_;refine ik bA bw λY cg _ l3=>kT cg d i g o j λd i g o j=>?_;refine WZ ?_;have I:∀q∈Q.toList,w.heap.size<=q:=(λq l=>by rcases s.mem q l with h|h;(·simp at h;omega);(·omega));have cV:=d.size;have pJ:H.heap.size<Y.heap.size:=j.lt;have J:∀q∈Q.toList,q≠H.heap.size/\q≠u.heap.size:=(λq l=>⟨λh9=>by have:=gd q l;omega,λh9=>by rcases s.mem q l with h|h;(·simp at h;omega);(·omega)⟩);refine aA (aku (dN f [] []) om 120 f K om O [] 0 so om _ _ _ H.heap.size (H.heap.size::u.heap.size::L) Y (aV.ext (aV.fresh N (by intro q l;simp at l;rcases l with h|h|h;(·right;omega);(·right;omega);(·exact .inl h))) d) (cA.nil _ _ _) (cA.nil _ _ _) ⟨by simp,_,j,o.rep (λq l gq=>by have R:=J q (by simp[l]);rcases mC.1 gq with h|h;(·exact R.1 h);(·rcases mC.1 h with h|h;(·exact R.2 h);(·have h2:=U q h;have h3:=I q (by simp[l]);omega)))⟩ (by intro q l;simp at l;rcases l with h|h|h;(·omega);(·omega);(·have:=U q h;omega))) ?_;rintro _ _ ⟨⟨n,pN⟩,F⟩;have Yj:=F.size;obtain⟨y,z,A,rfl,_,_⟩:=cW n;obtain⟨_,_,j,_⟩:=pN;have d:=d.since F λq l=>.inr (by simp at l;omega);have i:=i.aG F so;have g:=g.aG F so;refine dj aO rfl rfl rfl λ_ C B _=>?_;have d:=d.grow;have d:=d.ext C;have g:=g.grow;have g:=g.ext C;have j:=j.grow;have j:=j.ext C;have n:=n.grow;have n:=n.ext C;refine cF aO rfl rfl rfl B rfl λ_ D B _=>?_;have d:=d.aB D sx;have g:=g.aB D sx;have j:=j.aB D sx;have n:=n.aB D sx;refine W ?_;have m:=(Dy u.heap.size ([str (cB (dN f [] []) f [] 0).1.av.au,.slice y z A]) 103);apply oS dh m 8 (rA 17 6++[100006,3]) (rA 17 6++[100006,3]) [[],[],[1],[2],[3],[4],[0],[5]] [.v _,.v _,.v _,.v _,.v _,.v _,.p λ_ ww=>aK ww u.heap.size ([str (cB (dN f [] []) f [] 0).1.av.au,.slice y z A]).toArray 103,.v (.bool (decide<|((cB (dN f [] []) f [] 0).2:Int)<=100))] de (by exact(bJ<|bJ (bJ<|bJ (bJ<|bJ (Dz<|bJ trivial)))));intro _ aC;refine ga m aC (λx P p=>?_) ?_;have B:=B.aB p.1 sx;refine WZ ?_;exact bR m;refine cI (λ_ _ _=>WZ<|bR m) ?_;refine cI (λ_ _ _=>WZ<|bR m) ?_;refine cI (λ_ _ _=>WZ<|bR m) ?_;refine ga m aC (λx P p=>?_) ?_;have j:=j.aB p.1 sx;refine WZ ?_;exact bR m;refine cI (λ_ _ _=>WZ<|bR m) ?_;refine eH ?_ ?_;intro x X P e p hd E;have d0:X 0=(.agg #[str (cB (dN f [] []) f [] 0).1.av.au,.slice y z A]):=hd;replace p:=m.trans aC p;obtain⟨_,rU,uQ⟩:=p.2.2 ⟨_,(by rfl),g⟩;replace E:e=aY (aX _ x _) [(17,X 0)]:=E;rw[d0] at E;subst E;refine cF aO rfl rfl rfl uQ (by rw[rU];rfl) λ_ gk hb _=>W ?_;exact dn ⟨gk,λ_=>hb,λ_=>⟨_,rfl,hb⟩⟩ hb;refine cI (λ_ _ _=>WZ<|bR m) ?_;exact trivial;intro x jZ T;intro v6 d6;replace d6:aK jZ u.heap.size ([str (cB (dN f [] []) f [] 0).1.av.au,.slice y z A]).toArray 103:=d6;have d:=d.aB T.1 sx;have n:=n.aB T.1 sx;have g:=d6;change OW _ _ _ _ [] (aY (aX _ x _)<|zZ 17 [_,_,_,_,_,_]++[(100006,v6),(3,_)]) _;refine W ?_;exact⟨[_,_],⟨gh fN aO rfl g rfl,rfl⟩,⟨_,congrArg (λb=>Value.tuple #[_,.bool b]) (show decide (((cB (dN f [] []) f [] 0).2:Int)<=100)=(rM f).isSome from by unfold rM;by_cases h:(cB (dN f [] []) f [] 0).2<=100;(·rw[iP h];exact dT om);(·rw[iN h];exact dF om)),n.dY λx t=>by simp[t]⟩,d⟩
def t5:Ak:=⟨169,9,103⟩
theorem akS (a:List ak) (n:Nat) (K:n<=100000) (hb:a.length<=10000) (b:Nat) (E G:List Nat) (aN:List ak) (c:List aq) (w:World) (h:M5 t5 E G w b a n aN c):
  bD Tryz.prog 226 [.pointer (some ⟨b,0,none⟩)] w λr w'=>(r=str (di cy<|bF cy a n)/\M5 t5 E G w' b a (bF cy a n+1) aN c)/\aj [b] w w':=by
 have F:=GN cy a n;obtain⟨m,l,ve,v,u,d,e⟩:=h;have d:aK w b [m,.int .i64 (n:Int),l,ve].toArray 169:=d;refine cu [.tmp 2] 26 Tryz.func226 rfl af4 rfl rfl ?_;refine W ?_;refine eW (λk:Nat=>[(0,.pointer<|some ⟨b,0,none⟩)]) (λk w'=>aj [b] w w'/\aK w' b [m,.int .i64 (k:Int),l,ve].toArray 169/\jy t5 E G w' b m l ve v u a aN c/\n<=k/\bF cy a k=bF cy a n) (λk=>bF cy a n+1-k) n rfl (⟨aj.refl _ _,d,e,lR _,rfl⟩) λf B _ y=>?_;obtain⟨g,d,e,hk,A⟩:=y;have z:=(pz cy a f).1;refine W ?_;refine aA (jm (f+1) f om om B) ?_;rintro _ _ ⟨rfl,t⟩;have I:=t.size;refine cQ t g d e λg d e=>?_;refine jd rfl rfl (by have:=Gv _ f<|lR _;simp;omega)<|W ?_;refine ir (o:=1) th rfl rfl rfl d rfl λC q d _=>?_;have e:=e.aG q sm;have g:=g.trans q;refine W ?_;refine aA (CC a om (di cy f) _ _ C e.ta) ?_;rintro _ _ ⟨rfl,s⟩;have J:=s.size;refine cQ s g d e λg d e=>?_;refine kj rfl rfl rfl<|bf<|zc rfl (λi=>?_) λi=>?_;have j:di cy f∉a:=(by simpa using i);have p:bF cy a n=f:=A.symm.trans<|VE j;refine W ?_;exact⟨_,rfl,⟨by rw[p];rfl,_,_,_,_,_,by rw[p];exact d,e⟩,g⟩;have j:di cy f∈a:=(by simpa using i);have D:=VD j;have H:=(pz cy a<|f+1).1;refine WZ ?_;exact⟨f+1,rfl,⟨g,d,e,om,om⟩,om⟩
section
variable {τ:Ak} {E G:List Nat} {w w':World} {b:Nat} {vt vn ve:Value} {gn ge:Option Nat} {ai aN:List ak} {exprs:List aq}
theorem jy.CS (h:jy τ E G w b vt vn ve gn ge ai aN exprs) {r:List aq} (c:et (ge.toList++(g.toList++(E++G))) w' τ.T 2 v g (da r)) (k:aj (b::ge.toList) w w') (A:g=ge\/∃x,g=some x/\w.heap.size<=x):
  ∃i,jy τ E i w' b vt vn v gn g ai aN r/\Fr G w i w'/\∀x∈i,x∈ge.toList++(g.toList++(E++G)):=by
 obtain⟨s,t,m,n⟩:=h.apart;have p:∀x∈g.toList,x∈ge.toList\/w.heap.size<=x:=λx a=>by
  rcases A with rfl|⟨y,rfl,c⟩
  .exact .inl a
  .right;simp at a;omega
 have f:b∈G:=h.mem.2<|.inl rfl;have o:Fr G w (b::(gn.toList++g.toList)) w':=⟨k.mono λx a=>by
  rcases mC.1 a with rfl|a
  .exact f
  .exact h.mem.2<|by simp[a],λx a=>by
  rcases mC.1 a with rfl|a
  .exact .inl f
  .rcases mA.1 a with a|a
   .exact .inl (h.mem.2<|by simp[a])
   .rcases p x a with d|d
    .exact .inl (h.mem.2<|by simp[d])
    .exact .inr d⟩
 have j:∀x∈E++G,x<w.heap.size:=h.cP;have u:(E++b::(gn.toList++g.toList)).Nodup:=WO s t m (λx a=>by
  rcases p x a with d|d
  .exact n x d
  .exact⟨λz=>by have:=j x (by simp[z]);omega,λe=>by have:=j x<|mR _ (h.mem.2<|.inl e);omega,λe=>by have:=j x<|mR _ (h.mem.2<|by simp[e]);omega⟩)
 have q:∀x∈b::(gn.toList++g.toList),x∈ge.toList++(g.toList++(E++G)):=λx a=>by
  rw[mA,mA,mA];rcases mC.1 a with rfl|a
  .exact .inr (.inr<|.inr f)
  .rcases mA.1 a with a|a
   .exact .inr (.inr<|.inr (h.mem.2<|by simp[a]))
   .simp[a]
 refine⟨_,⟨h.ta.go<|o.in E,h.na.aG k λx a c=>?_,c.sub λx a=>.inl ?_,rfl,u,λx a=>?_⟩,o,q⟩
 .rcases mC.1 c with rfl|c
  .exact(m x<|by simp[a]).2 rfl
  .exact(n x c).2.2 (by simp[a])
 .rcases mA.1 a with a|a
  .simp[a]
  .exact q x a
 .have l:=k.size;rcases mA.1 a with a|a
  .exact lL (h.cP x<|by simp[a]) l
  .rcases mC.1 a with rfl|a
   .exact lL (h.cP x<|mR _ f) l
   .rcases mA.1 a with a|a
    .exact lL (h.cP x<|mR _ (h.mem.2<|by simp[a])) l
    .exact c.lt x a
theorem jy.alloc (h:jy τ E G w b vt vn ve gn ge ai aN exprs) (k:aj [] w w') (e:w'.heap.size=w.heap.size+1):jy τ (w.heap.size::E) G w' b vt vn ve gn ge ai aN exprs:=by
 have d:∀x∈(w.heap.size::E)++G,x∈E++G\/w.heap.size<=x:=λx c=>by
  rcases mC.1 (show x∈w.heap.size::(E++G) from c) with a|a
  .right;omega
  .exact .inl a
 refine⟨(h.ta.fresh d).ext k,h.na.ext k,(h.ex.sub d).any k,h.eG,?_,λx c=>?_⟩
 .show(w.heap.size::(E++G)).Nodup;rw[List.nodup_cons];exact⟨λc=>by have:=h.cP _ c;omega,h.nd⟩
 .rcases mC.1 (show x∈w.heap.size::(E++G) from c) with a|a
  .omega
  .have:=h.cP x a;omega
theorem jy.aB (h:jy τ E G w b vt vn ve gn ge ai aN exprs) (k:aj [x] w w') (d:x∈E):jy τ E G w' b vt vn ve gn ge ai aN exprs:=by obtain⟨_,_,f,g⟩:=h.apart;have e:Fr (E++G) w (E++G) w':=Fr.of k λy a=>List.mem_append_left _ (by simp at a;subst a;exact d);exact⟨h.ta.go e,h.na.aG k λy a c=>(f y<|by simp[a]).1 (by simp at c;subst c;exact d),h.ex.aG e k λy a c=>(g y a).1 (by simp at c;subst c;exact d),h.eG,h.nd,λy a=>lL (h.cP y a) k.size⟩
theorem jy.drop (h:jy τ (x::E) G w b vt vn ve gn ge ai aN exprs):jy τ E G w b vt vn ve gn ge ai aN exprs:=
 ⟨h.ta.fresh λy a=>.inl<|mK _ a,h.na,h.ex.sub λy a=>.inl<|mK _ a,h.eG,(List.nodup_cons.1<|show(x::(E++G)).Nodup from h.nd).2,λy a=>h.cP y<|mK _ a⟩
theorem M5.open (h:M5 τ E G w b ai n aN exprs):∃vt vn ve gn ge,aK w b [vt,.int .i64 (n:Int),vn,ve].toArray τ.M/\jy τ E G w b vt vn ve gn ge ai aN exprs:=h
theorem M5.bG (h:M5 τ E G w b ai n aN exprs):b∈G/\b<w.heap.size/\fI (E++G) w:=by obtain⟨_,_,_,_,_,c,a⟩:=h;exact⟨a.mem.2<|.inl rfl,c.lt,a.cP⟩
theorem M5.nE (h:M5 τ E G w b ai n aN exprs) (d:x∈E):x∉G:=by obtain⟨_,_,_,_,_,_,a⟩:=h;have:=a.nd;rw[List.nodup_append] at this;exact λc=>this.2.2 x d x c rfl
theorem M5.alloc (h:M5 τ E G w b ai n aN exprs) (k:aj [] w w') (d:w'.heap.size=w.heap.size+1):M5 τ (w.heap.size::E) G w' b ai n aN exprs:=by obtain⟨vt,vn,ve,gn,ge,a,c⟩:=h;exact⟨vt,vn,ve,gn,ge,a.ext k,c.alloc k d⟩
theorem M5.aB (h:M5 τ E G w b ai n aN exprs) (k:aj [x] w w') (c:x∈E):M5 τ E G w' b ai n aN exprs:=by obtain⟨vt,vn,ve,gn,ge,d,a⟩:=h;exact⟨vt,vn,ve,gn,ge,d.aG k (by simp;intro e;subst e;exact a.apart.2.1 c),a.aB k c⟩
theorem M5.drop (h:M5 τ (x::E) G w b ai n aN exprs):M5 τ E G w b ai n aN exprs:=by obtain⟨vt,vn,ve,gn,ge,a,c⟩:=h;exact⟨vt,vn,ve,gn,ge,a,c.drop⟩
end
theorem et.form {T:TypeId} (h:et L w T sz v g rows) (d:0<rows.length):∃b a,v= .slice (some ⟨b,0,none⟩) rows.length a/\g=some b:=by
 obtain⟨xs,c,_⟩:=h.own;rcases c.2 with⟨_,h0,_⟩|⟨b,a,_,e,hv,_⟩
 .omega
 .exact⟨b,a,hv,e⟩
theorem et.QM {T:TypeId} {i:Nat} (h:et L w T 2 (.slice (some ⟨b,0,none⟩) n c) g (da ts)) (z:i<ts.length):
  ∃f l,fZ w b (0+i*2) [str (nth ts i).au,.slice f (nth ts i).ag.length l]/\aV L w (.agg #[str (nth ts i).au,.slice f (nth ts i).ag.length l]) (nth ts i):=by
 obtain⟨xs,r,N⟩:=h.own;rcases r.2 with⟨m,_⟩|⟨b',cap,cur,e,a,hb,nW,nV,cL,ht⟩
 .cases m
 .cases a;have K:=h.row;have A:xs.length=(da ts).length*2:=r.1;have B:∀j,j<2->∀u,xs[i*2+j]?=some u->w.cell? ⟨b,i*2+j,none⟩=some u:=λj d u o=>by
   rw[hb.cell];rw[<-ht,List.getElem?_take] at o;split at o
   .simpa using o
   .cases o
  have Q:i<(da ts).length:=by rw[iu];exact z
  obtain⟨p,m⟩:∃u,xs[i*2]?=some u:=⟨xs[i*2]'om,gE om⟩;obtain⟨q,y⟩:∃u,xs[i*2+1]?=some u:=⟨xs[i*2+1]'om,gE om⟩;have J:dy L w [p,q] (nth ts i).enc:=by
   have M:=pY<|nth ts i;refine dy.of (by rw[M];rfl) λj v c a E=>?_;have O:(da ts).flatten[i*2+j]?=some c:=Dv K (KF<|ek z) E;refine N.get ?_ O
   match j,a with
   |0,a=>simp at a;subst a;exact m
   |1,a=>simp at a;subst a;exact y
  obtain⟨f,P,l,F,H,I⟩:=cW (t:=nth ts i) ⟨[p,q],rfl,J⟩;have s:[p,q]=[str (nth ts i).au,.slice f P l]:=by have:=congrArg (λv=>match v with|Value.agg x=>x.toList|_=>[]) F;simpa using this
  subst H;simp only[List.cons.injEq,and_true] at s;obtain⟨C,D⟩:=s;subst C D;refine⟨f,l,λj v d=>?_,jQ I⟩
  match j,d with
  |0,d=>simp at d;subst d;have:=B 0 om _ m;simpa using this
  |1,d=>simp at d;subst d;have:=B 1 om _ y;simpa using this
theorem cN.QM {T:TypeId} {i:Nat} (h:cN w T (.slice (some ⟨b,0,none⟩) n c) g xs) (e:i<xs.length):fZ w b (0+i*1) [str (cO xs i)]:=by obtain⟨_,_,a,d⟩:=qJ h.rs<|lP e;cases a;exact d
theorem cN.akT {T:TypeId} (h:cN w T v g xs) (c:0<xs.length):∃b a,v= .slice (some ⟨b,0,none⟩) xs.length a/\g=some b:=by cases h.2<;>grind
def Yk:Value->Nat->Value
 | .slice (some ⟨b,o,none⟩) _ _,k=>.pointer<|some ⟨b,o+k,none⟩
 |_,_=>undef
section
variable {P:Program} {n:Nat} {ops:Array Oper} {K:Env->World->Prop} {rest:List Oper} {e:Env} {w:World} {dst:Option Nat} {ty:TypeId} {pos:String} {after:Array Edge} {g:Option (Nat×Bool)} {x y:Operand}
theorem tI {t E bytes:Nat} {z:Value} {v:Value} {d:Option Nat} {f:List ak} {s:ak} {b U:Nat} (o:P.underlying t=some (.slice E)) (l:TI P E 1 bytes z) (q:gate ops e g=true) (p:cK n dst=true) (B:Nat.beq z.cells.size 1=true) (j:Nat.ble bytes 1000=true) 
  (u:ev e x=v) (A:ev e y= .slice (some ⟨b,0,none⟩) 1 1) (m:cN w E v d f) (hb:aK w b [str s].toArray U) (r:f.length<100000000)
  (k:∀c a w',cN w' E c a (f++[s])->aj d.toList w w'->(a=d\/a=some w.heap.size)->OW P n ops K rest (cj e dst c) w'):
  OW P n ops K (⟨dst,.call {callee:=.builtin .append,args:=#[x,y],argTypes:=#[t,t]},ty,pos,after,g⟩::rest) e w:=by
 refine Ek (L:=[]) (row:=[.val (str s)]) o l q p B j u A (m.WK _) rfl hb.all (by simp[Value.oneCell']) ⟨.val _,trivial⟩ (by rw[rB];exact r) ?_;intro c a w' i hk C;rw[WM] at i;exact k c a w' i.wT hk.aG C
theorem Yl {G:List Nat} {t E bytes:Nat} {z:Value} {v:Value} {f:Option Nat} {j:List aq} {b:Nat} {U c:Nat} (C:P.underlying t=some (.slice E)) (A:TI P E 2 bytes z) (F:gate ops e g=true) (D:cK n dst=true) (M:Nat.beq z.cells.size 2=true) (u:Nat.ble bytes 1000=true) 
  (I:ev e x=v) (J:ev e y= .slice (some ⟨b,0,none⟩) 1 c) (B:et G w E 2 v f (da j)) (o:fI G w) (i:∀q∈f.toList,q∈G) (hb:aK w b [str [],.slice none 0 0].toArray U) (H:j.length<100000000)
  (k:∀l d w',et (f.toList++(d.toList++G)) w' E 2 l d (da (j++[.mk [] []]))->aj f.toList w w'->(d=f\/d=some w.heap.size)->Fr G w (f.toList++(d.toList++G)) w'->fI (f.toList++(d.toList++G)) w'->OW P n ops K rest (cj e dst l) w'):
  OW P n ops K (⟨dst,.call {callee:=.builtin .append,args:=#[x,y],argTypes:=#[t,t]},ty,pos,after,g⟩::rest) e w:=by
 refine Ek (L:=G) (row:=(aq.mk [] []).enc) C A F D M u I J (B.sub λq a=>.inl ?_) (pY _) hb.all (by simp[Value.oneCell']) (aV.jR<|jB ld) (by rw[iu];exact H) ?_
 .rcases mA.1 a with h|h
  .exact i q h
  .exact h
 .intro l d w' m hk r;have s:da j++[(aq.mk [] []).enc]=da (j++[.mk [] []]):=by rw[Oj];rfl
  rw[s] at m;have N:∀q∈d.toList,q∈f.toList\/w.heap.size<=q:=λq a=>by
   rcases r with h|h
   .rw[h] at a;exact .inl a
   .rw[h] at a;simp at a;right;omega
  refine k l d w' m hk.aG r ⟨hk.aG.mono i,λq a=>?_⟩ λq a=>?_
  .rcases mA.1 a with h|h
   .exact .inl<|i q h
   .rcases mA.1 h with h|h
    .rcases N q h with h|h
     .exact .inl<|i q h
     .exact .inr h
    .exact .inl h
  .have p:=hk.aG.size;rcases mA.1 a with h|h
   .exact lL (o q<|i q h) p
   .rcases mA.1 h with h|h
    .exact m.lt q h
    .exact lL (o q h) p
end
structure J5 (τ:Ak) (E G2:List Nat) (w0:World) (b:Nat) (vt n vn ve:Value) (ge:Option Nat) (exprs:List aq) (s:aq) (b9 ED:Bool) (G:List Nat) (v:Value) (w:World):Prop where
 box:aK w b [vt,n,vn,if ED=true then v else ve].toArray τ.M
 cP:fI G w
 aG:aj (b::ge.toList) w0 w
 ex:∃g',G=ge.toList++(g'.toList++(E++G2))/\et G w τ.T 2 v g' (da<|exprs++[if b9=true then s else .mk [] []])/\(g'=ge\/∃x,g'=some x/\w0.heap.size<=x)
section
variable {τ:Ak} {E G2:List Nat} {w0 w w':World} {b:Nat} {vt n vn ve:Value} {ge:Option Nat} {exprs:List aq} {s:aq} {b9 ED:Bool} {G:List Nat} {v:Value}
theorem J5.ext (h:J5 τ E G2 w0 b vt n vn ve ge exprs s b9 ED G v w) (k:aj [] w w'):J5 τ E G2 w0 b vt n vn ve ge exprs s b9 ED G v w':=
 ⟨h.box.ext k,λx f=>lL (h.cP x f) k.size,h.aG.ext k,let⟨a,c,d,e⟩:=h.ex;⟨a,c,d.any k,e⟩⟩
theorem J5.form (h:J5 τ E G2 w0 b vt n vn ve ge exprs s b9 ED G v w):∃a c,v= .slice (some ⟨a,0,none⟩) (exprs.length+1) c/\(a∈G)/\(a∈ge.toList\/w0.heap.size<=a)/\G=ge.toList++([a]++(E++G2))/\et G w τ.T 2 v (some a) (da<|exprs++[if b9=true then s else .mk [] []])/\(some a=ge\/∃x,some a=some x/\w0.heap.size<=x):=by
 obtain⟨_,d,e,f⟩:=h.ex;obtain⟨a,c,g,i⟩:=e.form (by rw[iu];simp);subst i;refine⟨a,c,by rw[g,iu];simp,by rw[d];simp,?_,d,e,f⟩;rcases f with h|⟨x,h,j⟩
 .left;rw[<-h];simp
 .cases h;exact .inr j
theorem J5.fill {a:Nat} (h:J5 τ E G2 w0 b vt n vn ve ge exprs s false ED G v w) (e:G=ge.toList++([a]++(E++G2))) (hb:b≠a) (d:a∈ge.toList\/w0.heap.size<=a) (f:some a=ge\/∃x,some a=some x/\w0.heap.size<=x) (k:aj [a] w w') (g:et G w' τ.T 2 v (some a) (da<|exprs++[s])):J5 τ E G2 w0 b vt n vn ve ge exprs s true ED G v w':=
 ⟨h.box.aG k<|by simpa using hb,λx c=>lL (h.cP x c) k.size,h.aG.since k (λx c=>by
  simp at c;subst c;rcases d with h|h
  .exact .inl (by simp only[mC];right;exact h)
  .exact .inr h),some a,e,by simpa using g,f⟩
theorem J5.field (h:J5 τ E G2 w0 b vt n vn ve ge exprs s b9 false G v w) (k:aj [b] w w') (hb:aK w' b [vt,n,vn,v].toArray τ.M) (i:∀a,et G w τ.T 2 v a (da (exprs++[if b9=true then s else .mk [] []]))->(a=ge\/∃x,a=some x/\w0.heap.size<=x)->b∉a.toList) (j:b∈G):J5 τ E G2 w0 b vt n vn ve ge exprs s b9 true G v w':=
 ⟨by simpa using hb,λx c=>lL (h.cP x c) k.size,h.aG.since k λx c=>by simp at c;subst c;exact .inl sm,let⟨a,g,d,e⟩:=h.ex;⟨a,g,d.aG (Fr.of k<|by simpa using j) k λx c f=>by simp at f;subst f;exact i a d e c,e⟩⟩
end
def AM (b:List ak) (e:Ex) (n:Nat) (aN:List ak) (a:List aq):Prop:=n+e.n*(2*(b.length+2))<=100000/\aN.length+4*e.n<=100000/\a.length+4*e.n<=100000/\b.length<=10000
def MF (e:List ak) (E G:List Nat) (b:Nat) (aN:List ak) (a:List aq) (w:World) (q:Bs×Ex×Nat) (r:Value) (d:World):Prop:=
 ∃c,(aV (E++c) d r q.2.1.av/\M5 t5 E c d b e q.2.2 (aN++q.1.map Prod.fst) (a++q.1.map λp=>p.2.av))/\Fr G w c d
def QN (e:Ex):Prop:=∀(c:List ak) (n:Nat) (aN:List ak) (a:List aq),AM c e n aN a->∀(E G:List Nat) (b:Nat) (v:Value) (w:World),M5 t5 E G w b c n aN a->aV (E++G) w v e.av->
 bD Tryz.prog 186 [.pointer<|some ⟨b,0,none⟩,v] w (MF c E G b aN a w<|bg c e n)
def akU (e:Ex):Prop:=∀(c:List ak) (n:Nat) (aN:List ak) (a:List aq),AM c e n aN a->∀(E G:List Nat) (b:Nat) (v:Value) (w:World),M5 t5 E G w b c n aN a->aV (E++G) w v e.av->
 bD Tryz.prog 210 [.pointer<|some ⟨b,0,none⟩,v] w (MF c E G b aN a w (dW c<|bg c e n))
theorem QO {c:List ak}:∀{e:Ex} {n:Nat} {s:ak},e.ok->(bg c e n).2.1= .at s->s≠[]
 | .at x,n,s,h,e=>by have:Ex.at x=Ex.at s:=e;cases this;exact qN h
 | .lt x a b,n,s,h,e=>QO (e:=b) h.2.2 e
 | .un ..,n,s,h,e=>by cases e
 | .bi ..,n,s,h,e=>by cases e
 | .ite ..,n,s,h,e=>by cases e
 | .fn ..,n,s,h,e=>by cases e
theorem Ym {f:Ex} (h:∀s,f= .at s->s≠[]):f.av.au≠[]↔f.ju=true:=by
 cases f with
 |«at» s=>exact⟨λ_=>rfl,λ_=>h s rfl⟩
 |_=>exact⟨λa=>absurd rfl a,λa=>by cases a⟩
theorem MG (a:List ak) (e:Ex) (n:Nat):(bg a e n).1.length+1<=2*e.n:=by
 have c:=xg a e n;have b:∀bs:Bs,3*bs.length<=qR bs:=by
  intro bs;induction bs with
  |nil=>simp[qR]
  |cons p bs _=>rw[VN];have:=p.2.pos;simp only[lC];omega
 have d:=b (bg a e n).1;have f:=(bg a e n).2.1.pos;omega
theorem Yn (bm:e.ok) (hC:QN e):akU e:=by
 intro m n aN t hB E G b v w hM hv;have bW:=hv;obtain⟨a,_,c,rfl,_,_⟩:=cW hv;obtain⟨LV,QP,QQ,MH⟩:=hB;have MI:=jj m e n;have QR:=MG m e n;have hK:=aj.refl [] w;have B:=hM;have hT:=bW;obtain⟨q,hq⟩:∃q,q=bg m e n:=⟨_,rfl⟩;rw[<-hq] at MI QR;refine kM [.cell 4 103] 39 Tryz.func210 rfl af1 rfl rfl rfl ?_;refine zr<|eK rfl λD aI bu _=>cQ aI hK B hT λhK B hT=>?_;refine dj aO rfl rfl rfl λw2 aw g dS=>?_;have hK:=hK.grow;have hK:=hK.ext aw;have B:=B.alloc aw dS;have hT:=hT.grow;have hT:=hT.ext aw;have bu:=bu.grow;have bu:=bu.ext aw;refine W ?_;refine aA (hC m n aN t ⟨LV,QP,QQ,MH⟩ (D.heap.size::E) G b _ w2 B hT) ?_;rintro v9 w3 ⟨G1,⟨r,rZ⟩,dw⟩;rw[<-hq] at r rZ;obtain⟨a9,n9,c9,e9,_,_⟩:=cW r;subst e9;have g:=g.aG dw.aG<|B.nE sm;have akV:=g.lt;have l:Fr G w G1 w3:=(Fr.of hK sm).go dw;have V:=aj.refl [] w3;have B:=rZ;have hws:=l.aG.size;refine dj aO rfl rfl rfl λ_ aJ I gS=>?_;have B:=B.alloc aJ gS;have g:=g.grow;have g:=g.ext aJ;have V:=V.grow;have V:=V.ext aJ;have r:=r.grow;have r:=r.ext aJ;refine cF aO rfl rfl rfl I rfl λw5 aP I _=>?_;have B:=B.aB aP sx;have g:=g.aB aP sx;have V:=V.aB aP sx;have r:=r.aB aP sx;refine W ?_;refine zc rfl (λh1=>?_) λh1=>?_;have fG:q.2.1.ju=true:=((Ym λs e=>QO bm (by rw[<-hq];exact e)).1 h1);have QS:dW m q=q:=iP fG;have l:=l.ext V;refine W ?_;refine cF aO rfl rfl rfl g rfl λw6 bM g dB=>?_;have B:=B.aB bM sm;have r:=r.aB bM sm;have l:Fr G w G1 w6:=⟨l.aG.since bM λx f=>.inr (by simp at f;omega),l.mem⟩;refine W ?_;exact⟨[_],gh fN aO rfl g rfl,by rw[<-hq,QS];exact⟨G1,⟨r.dY λx f=>mK _<|mK _ f,B.drop.drop⟩,l⟩⟩;have fG:¬q.2.1.ju=true:=(λhh=>h1<|(Ym λs e=>QO bm (by rw[<-hq];exact e)).2 hh);have QS:dW m q=(q.1++[(di cy<|bF cy m q.2.2,q.2.1)],.at (di cy<|bF cy m q.2.2),bF cy m q.2.2+1):=iN fG;have l:=l.ext V;have aQ:∃M,M=di cy (bF cy m q.2.2):=⟨_,rfl⟩;obtain⟨M,gU⟩:=aQ;have aQ:∃x,x=aN++q.1.map Prod.fst:=⟨_,rfl⟩;obtain⟨N,EE⟩:=aQ;have aQ:∃x,x=t++q.1.map λp=>p.2.av:=⟨_,rfl⟩;obtain⟨u,EF⟩:=aQ;rw[<-EE,<-EF] at B;have Yo:N.length=aN.length+q.1.length:=by rw[EE];simp
 have hXl:u.length=t.length+q.1.length:=by rw[EF];simp
 refine iD<|zr<|zm<|aA (akS m q.2.2 om MH b _ G1 N u w5 B) ?_;rintro _ w6 ⟨⟨GW,rZ⟩,jg⟩;rw[<-gU] at GW;subst GW;have pd:=rZ.bG;have Yp:=rZ.nE (x:=D.heap.size) sm;have r:=r.aB jg (by intro x f;simp at f;subst f;simp[pd.1]);have g:=g.aG jg (by simp;intro e;subst e;exact Yp pd.1);have MJ:=rZ.nE<|List.mem_cons_self ..;have I:=I.aG jg (by simp;intro e;exact MJ (e▸pd.1));have l:=l.aB jg (by simpa using pd.1);obtain⟨vt,_,ve,_,ge,z,H⟩:=rZ.open;refine W ?_;refine fW bA bw rfl rfl λ_ cC we _=>uH cC g r I z H l λg r I z H l=>?_;refine tI bA bw rfl rfl rfl rfl rfl rfl H.na we om λ_ _ w8 Yr cg akX=>?_;obtain⟨Z,qt,Jw⟩:=kV Yr;subst Jw;obtain⟨MK,yM,yN,uT⟩:=H.apart;obtain⟨F,fU,kf⟩:=H.WQ Yr cg akX;have z:=z.aG cg λh=>(yN b h).2 rfl;have g:=g.aG cg λh=>(yN _ h).1 sm;have I:=I.aG cg λh=>(yN _ h).1 sm;have r:aV ((w3.heap.size::D.heap.size::E)++F) w8 _ q.2.1.av:=aV.go (L:=(w3.heap.size::D.heap.size::E)++G1) r<|kf.in _;have l:=l.go kf;have yO:b∈F:=fU.mem.2<|.inl rfl;refine W ?_;refine ir (o:=2) oc rfl rfl rfl z rfl λP X z dB=>?_;have H:=fU.aG X sm;have g:=g.aG X (by simp;intro e;subst e;exact yM sm);have I:=I.aG X (by simp;intro e;exact yM (by simp[e]));have r:=r.aB X (by intro x f;simp at f;subst f;simp[yO]);have l:=l.aB X (by simpa using yO);have akY:=(List.nodup_cons.1<|show(w3.heap.size::((D.heap.size::E)++F)).Nodup from H.nd).1;have H:=H.drop;have r:aV ((D.heap.size::E)++F) P _ q.2.1.av:=r.dY λx f=>mK _ f;refine W ?_;obtain⟨R,T,e5⟩:=H.ex.len;subst e5;have I:eE ((D.heap.size::E)++F) P _ _ _:=⟨I,akY⟩;have z:aK P b [vt,(.int .i64 ((bF cy m q.2.2+1:Nat):Int)),(.slice Z (N++[M]).length qt),(.slice R (da u).length T)].toArray 169:=z;have EG:fI ((D.heap.size::E)++F) P:=H.cP;have eQ:b∈F:=yO;obtain⟨MK,yM,yN,uT⟩:=H.apart;have jf:=z.lt;apply V6 dh (((D.heap.size::E)++F)) 13 (rA 26 9++[100009,35,36,100012]) (rA 26 9++[100009,35,36,100012]) [[],[0],[1],[2],[],[3],[],[3,6],[5,7],[4,8],[0],[10],[7,11]] [Iu.v _,Iu.v _,Iu.v _,Iu.w 0<|(.slice R (da u).length T),Iu.v _,Iu.v _,Iu.p (fun(G:List Nat) (v:Value) (Q:World)=>∃Y,v= .slice (some ⟨Y,0,none⟩) 1 1/\eE G Q Y [str [],.slice none 0 0].toArray 103),Iu.e 1,Iu.d (fun(vs:List Value)=>Yk (vs.getD 1 undef)<|(da u).length*2),Iu.u,Iu.v _,Iu.v _,Iu.u] [3,7] [fun(G:List Nat) (vs:List Value) (Q:World)=>G=((D.heap.size::E)++F)/\aK Q b [vt,(.int .i64 ((bF cy m q.2.2+1:Nat):Int)),(.slice Z (N++[M]).length qt),(.slice R (da u).length T)].toArray 169/\aj [] P Q,fun(G:List Nat) (vs:List Value) (Q:World)=>G=((D.heap.size::E)++F)/\aK Q b [vt,(.int .i64 ((bF cy m q.2.2+1:Nat):Int)),(.slice Z (N++[M]).length qt),(.slice R (da u).length T)].toArray 169/\aj [] P Q,fun(G:List Nat) (vs:List Value) (Q:World)=>J5 t5 (D.heap.size::E) F P b vt (.int .i64 ((bF cy m q.2.2+1:Nat):Int)) (.slice Z (N++[M]).length qt) (.slice R (da u).length T) ge u q.2.1.av false false G (vs.getD 1 undef) Q] (fun(S:Nat->Bool) (G:List Nat) (vs:List Value) (Q:World)=>J5 t5 (D.heap.size::E) F P b vt (.int .i64 ((bF cy m q.2.2+1:Nat):Int)) (.slice Z (N++[M]).length qt) (.slice R (da u).length T) ge u q.2.1.av (S 9) (S 12) G (vs.getD 1 undef) Q) de rfl EG (by exact⟨λG v w _ w' ⟨Y,e,h⟩ k=>⟨Y,e,h.go k⟩,trivial⟩) (by exact⟨λG vs w w' ⟨h1,h2,h3⟩ k=>⟨h1,h2.ext k,h3.ext k⟩,λG vs w w' ⟨h1,h2,h3⟩ k=>⟨h1,h2.ext k,h3.ext k⟩,λG vs w w' h k=>h.ext k,trivial⟩) (by exact λS G vs w w' h k=>h.ext k) (⟨rfl,z,aj.refl _ _⟩) (by exact λ_ _ _ h _=>h);refine uf (λx J A aU K C=>?_) ?_;refine WZ ?_;exact uv;refine uf (λx J A aU K C=>?_) ?_;refine WZ ?_;exact uv;refine uf (λx J A aU K C=>?_) ?_;refine WZ ?_;exact uv;refine ue 0 (λx J A aU K C j d=>?_) ?_;have O:=j6 d;subst O;obtain⟨cm,z,cw⟩:=j;refine WZ ?_;exact uW A (Fr.refl _ _) C<|⟨cm,z,cw⟩;refine uf (λx J A aU K C=>?_) ?_;have I:=I.go K;refine WZ ?_;exact uv;refine uf (λx J A aU K C=>?_) ?_;refine WZ ?_;exact uv;refine uf (λx J A aU K C=>?_) ?_;refine fW cT aO rfl rfl λfb U akZ _=>?_;exact up U<|⟨_,rfl,akZ.o C⟩;refine ue 1 (λx J A aU K C j d=>?_) ?_;obtain⟨q0,O⟩:=j7 d;subst O;intro v6 d6;obtain⟨Y,e6,gK⟩:=d6;subst e6;obtain⟨cm,z,cw⟩:=j;subst cm;refine Yl cT aO rfl rfl rfl rfl rfl rfl (H.ext cw).ex ‹_› (λx f=>mR _ (H.mem.2<|by simp[f])) gK.je om λv9 g9 fb dI X fV dw fo=>?_;exact uE _ dw fo<|⟨z.aG X λh=>(uT b h).2.1 rfl,fo,cw.any.trans<|X.mono λx f=>mK _ f,g9,rfl,dI,fV.imp id λh=>⟨_,h,cw.size⟩⟩;refine ud (λx J A aU S K C j d=>?_) ?_;obtain⟨q0,q1,O⟩:=mo d;subst O;obtain⟨Y,cap,e1,sJ,rN,kX,hO,xq⟩:=J5.form j;have e2:q1=_:=e1;subst e2;refine zi cT aO rfl rfl (by rw[iu];omega) ?_;exact uD (aj.refl _ _) rfl;refine uu (λx J A aU S K C j EH d=>?_) ?_;obtain⟨q0,q1,O⟩:=mo d;subst O;have r:=r.go K;have j:J5 t5 (D.heap.size::E) F P b vt (.int .i64 ((bF cy m q.2.2+1:Nat):Int)) (.slice Z (N++[M]).length qt) (.slice R (da u).length T) ge u q.2.1.av (S 9) (S 12) A q1 J:=j;rw[EH] at j;obtain⟨Y,cap,e1,sJ,rN,kX,hO,xq⟩:=J5.form j;subst e1;refine uP (i:=(da u).length) (vs:=[str q.2.1.av.au,.slice a9 n9 c9]) (row:=q.2.1.av.enc) aO rfl rfl rfl rfl (Nat.zero_add _) hO ‹_› sJ (by rw[iu,iu];simp) rfl (pY _) r.jR λfb U tF dO=>?_;rw[uS,iu] at dO;exact uU A (Fr.of U<|by simpa using sJ) ((λx f=>lL (C x f)<|aj.size U)) (J5.fill j kX (by rintro rfl;rcases rN with h|h;(·exact(uT _ h).2.1 rfl);(·omega)) rN xq U (by have e3:(u++[if false=true then q.2.1.av else aq.mk [] []]).set u.length q.2.1.av=u++[q.2.1.av]:=sm;rw[e3] at dO;exact dO));refine uf (λx J A aU K C=>?_) ?_;refine WZ ?_;exact uv;refine uf (λx J A aU K C=>?_) ?_;refine WZ ?_;exact uv;refine uu (λx J A aU S K C j EH d=>?_) ?_;obtain⟨q0,q1,O⟩:=mo d;subst O;have j:J5 t5 (D.heap.size::E) F P b vt (.int .i64 ((bF cy m q.2.2+1:Nat):Int)) (.slice Z (N++[M]).length qt) (.slice R (da u).length T) ge u q.2.1.av (S 9) (S 12) A q1 J:=j;rw[EH] at j;obtain⟨Y,cap,e1,sJ,rN,Jx,hO,xq⟩:=J5.form j;subst e1;have QT:=j.box;refine ir (o:=3) F5 rfl rfl rfl QT rfl λfb U EI tF=>?_;exact uU A (Fr.of U (by rw[Jx];simp[eQ])) ((λx f=>lL (C x f)<|aj.size U)) (J5.field j U EI (λg9 _ fV f=>by rcases fV with h|⟨y,h,_⟩;(·rw[h] at f;exact(uT _ f).2.1 rfl);(·rw[h] at f;simp at f;omega)) (by rw[Jx];simp[eQ]));exact trivial;intro x jY Mv aU _ _ j d;obtain⟨q0,q1,O⟩:=mo d;subst O;intro v6 d6;intro v9;intro _;change OW _ _ _ _ [] (aY (aX _ x _) (zZ 26 [_,_,_,_,_,_,_,_,_]++[(100009,_),(35,_),(36,_),(100012,_)])) _;have j:J5 t5 (D.heap.size::E) F P b vt (.int .i64 ((bF cy m q.2.2+1:Nat):Int)) (.slice Z (N++[M]).length qt) (.slice R (da u).length T) ge u q.2.1.av true true Mv q1 jY:=j;obtain⟨g9,kX,dI,fV⟩:=j.ex;subst kX;obtain⟨G3,xA,ke,_⟩:=H.CS dI j.aG fV;have g:=g.aG j.aG (by intro f;rcases mC.1 f with h|h;(·exact yM (by simp[h]));(·exact(uT _ h).1 sm));have l:=l.go ke;have z:=j.box;have xA:=xA;refine bf<|zr<|zm<|aA (CD M jY) ?_;rintro _ _ ⟨rfl,eF⟩;have atI:=eF.size;refine gO eF g xA z l λg xA z l=>?_;refine cF aO rfl rfl rfl g rfl λjZ iV g dB=>?_;have z:=z.aG iV (by simp;intro e;exact yM (by simp[e]));have xA:=xA.aB iV sm;have l:Fr G w G3 jZ:=⟨l.aG.since iV λx f=>.inr (by simp at f;omega),l.mem⟩;refine W ?_;exact⟨[_],gh fN aO rfl g rfl,by rw[<-hq,QS];exact⟨G3,⟨(by rw[gU];exact jB ld),(by have e1:aN++(q.1++[(di cy<|bF cy m q.2.2,q.2.1)]).map Prod.fst=N++[M]:=(by rw[EE,gU];simp);have e2:t++(q.1++[(di cy<|bF cy m q.2.2,q.2.1)]).map (λp=>p.2.av)=u++[q.2.1.av]:=(by rw[EF];simp);show M5 t5 E G3 _ b m _ (aN++(q.1++[(di cy<|bF cy m q.2.2,q.2.1)]).map Prod.fst) (t++(q.1++[(di cy<|bF cy m q.2.2,q.2.1)]).map λp=>p.2.av);rw[e1,e2];exact⟨_,_,_,_,_,z,xA.drop⟩)⟩,l⟩⟩
theorem ak0 (v:Value) (a:Option Addr) (n c:Nat) (g:v= .slice a n c) (w:World):bD Tryz.prog 187 [v] w λr w'=>r= .agg #[str [],.slice a n c]/\aj [] w w':=by subst g;have b:=aj.refl [] w;refine kM [.cell 2 103] 5 Tryz.func187 rfl afI rfl rfl rfl ?_;refine zr<|dj aO rfl rfl rfl λ_ e d _=>?_;have b:=b.grow;have b:=b.ext e;refine bf<|zr<|zm<|jE (O5 _ _ _ _) rfl rfl<|cF aO rfl rfl rfl d rfl λ_ f d _=>?_;have b:=b.aB f sx;refine W ?_;exact⟨[_],gh fN aO rfl d rfl,rfl,b⟩
def ak1 (e:Ex):Prop:=∀(c:List ak) (n:Nat) (aN:List ak) (a:List aq),AM c e n [] []->∀(E G:List Nat) (b:Nat) (v:Value) (w:World),M5 t5 E G w b c n aN a->aV (E++G) w v e.av->
 bD Tryz.prog 151 [.pointer<|some ⟨b,0,none⟩,v] w λr w'=>(aV (E++G) w' r (og c e n).av/\M5 t5 E G w' b c (bg c e n).2.2 aN a)/\Fr G w G w'
theorem ak2 {bs:Bs} (h:k<bs.length):(nest (bs.drop k) e).av= .mk [] [bI ig,bI (bs.getD k ([],e)).1,(bs.getD k ([],e)).2.av,(nest (bs.drop<|k+1) e).av]:=by
 rw[List.drop_eq_getElem_cons h];have a:bs.getD k ([],e)=bs[k]:=by simp[h]
 rw[a];rfl
theorem ak3 {e:Ex} (h:k<bs.length):cO (bs.map Prod.fst) k=(bs.getD k ([],e)).1:=by simp[cO,List.getD,h]
theorem ak4 {e:Ex} (h:k<bs.length):nth (bs.map λp=>p.2.av) k=(bs.getD k ([],e)).2.av:=by simp[nth,List.getD,h]
theorem ak5 {T:TypeId} {f g l m n o p q:Value} {t1 t2 t3 t4:aq} (hb:aK w b [f,g,l,m,n,o,p,q].toArray T) (y:b∉L) (r:aV L w (.agg #[f,g]) t1) (s:aV L w (.agg #[l,m]) t2) (t:aV L w (.agg #[n,o]) t3) (u:aV L w (.agg #[p,q]) t4):
  cD L w (.slice (some ⟨b,0,none⟩) 4 4) [t1,t2,t3,t4]:=by
 have e:=hb.all;refine S9 b 0 4 2 (da [t1,t2,t3,t4]) [[f,g],[l,m],[n,o],[p,q]] rfl (lR 4) hb.lt y (Oi _) (λi z a=>?_) λi z row a d=>?_
 .intro j v c
  match i,a with
  |0,a=>simp at a;subst a;have:=e j v (by match j,c with|0,c=>simpa using c|1,c=>simpa using c);simpa using this
  |1,a=>simp at a;subst a;have:=e (2+j) v (by match j,c with|0,c=>simpa using c|1,c=>simpa using c);simpa using this
  |2,a=>simp at a;subst a;have:=e (4+j) v (by match j,c with|0,c=>simpa using c|1,c=>simpa using c);simpa using this
  |3,a=>simp at a;subst a;have:=e (6+j) v (by match j,c with|0,c=>simpa using c|1,c=>simpa using c);simpa using this
 .match i,a with
  |0,a=>simp at a;subst a;simp[da] at d;subst d;exact r.jR
  |1,a=>simp at a;subst a;simp[da] at d;subst d;exact s.jR
  |2,a=>simp at a;subst a;simp[da] at d;subst d;exact t.jR
  |3,a=>simp at a;subst a;simp[da] at d;subst d;exact u.jR
theorem ML (bm:e.ok) (hC:QN e):ak1 e:=by
 intro Q n aN I hB E G b v w hM hv;have bW:=hv;obtain⟨a,_,c,rfl,_,_⟩:=cW hv;have hB0:=hB;obtain⟨_,_,_,_⟩:=hB;have MI:=jj Q e n;have QR:=MG Q e n;have J:=aj.refl [] w;have s:=hM;have hT:=bW;obtain⟨q,S⟩:∃q,q=bg Q e n:=⟨_,rfl⟩;rw[<-S] at MI QR;refine kM [.cell 4 103] 66 Tryz.func151 rfl afa rfl rfl rfl ?_;refine zr<|eK rfl λB aI y du=>bQ aI J s λJ s=>?_;refine dj aO rfl rfl rfl λC aw g dS=>?_;have J:=J.grow;have J:=J.ext aw;have s:=s.alloc aw dS;have y:=y.grow;have y:=y.ext aw;refine W ?_;obtain⟨vt,_,ve,O,N,f,j⟩:=s.open;obtain⟨an,cn,kH⟩:=kV j.na;subst kH;obtain⟨ae,ce,D4⟩:=j.ex.len;subst D4;obtain⟨_,_,yN,uT⟩:=j.apart;have T:b∈G:=j.mem.2<|.inl rfl;have jf:=f.lt;have H:=j;have kt:=J;have QU:=aj.refl [] C;have akV:=g.lt;have Jo:=g;have EK:aV ((B.heap.size::E)++G) C _ e.av:=aV.ext (aV.fresh bW (by intro x d;rcases mC.1 (show x∈B.heap.size::(E++G) from d) with h|h;(·right;omega);(·exact .inl h))) kt;have atJ:=du;have atK:=dS;have Yt:w.heap.size≠b:=(by have:=hM.bG.2.1;omega);have Z:B.heap.size≠b:=(by have:=hM.bG.2.1;omega);have LO:=hM.bG.2.1;refine W ?_;refine ik bA bw λ_ aH K _=>gO aH f QU y g λf QU y g=>?_;refine W ?_;refine ir (o:=2) oc rfl rfl rfl f rfl λU aJ f L=>?_;have r:aj [b] C U:=(aj.any QU).trans aJ;have K:=K.aG aJ so;have g:=g.aG aJ (by simpa using Z);have y:=y.aG aJ (by simpa using Yt);refine bf<|zr<|zm<|ik cT aO λ_ aP we _=>gO aP f y g K λf y g K=>?_;refine W ?_;refine ir (o:=3) F5 rfl rfl rfl f rfl λV R f L=>?_;have r:aj [b] C V:=(r.ext aP).trans R;have K:=K.aG R so;have we:=we.aG R so;have g:=g.aG R (by simpa using Z);have y:=y.aG R (by simpa using Yt);refine W ?_;have f:aK V b [vt,.int .i64 (n:Int),.slice (some ⟨C.heap.size,0,none⟩) 0 0,.slice (some ⟨U.heap.size,0,none⟩) 0 0].toArray 169:=f;obtain⟨hSo,_,_,_⟩:=H.opened r K we (lR _) om;have s:M5 t5 (O.toList++(N.toList++(B.heap.size::E))) [b,C.heap.size,U.heap.size] V b Q n [] []:=⟨_,_,_,_,_,f,hSo⟩;have hTP:aV ((O.toList++(N.toList++(B.heap.size::E)))++[b,C.heap.size,U.heap.size]) V _ e.av:=EK.go ⟨r.mono (by intro x d;simp at d;subst d;simp[T]),by intro x d;rcases mA.1 d with h|h;(·left;rcases mA.1 h with h|h;(·exact mR _ (H.mem.2 (by simp[h])));(·rcases mA.1 h with h|h;(·exact mR _ (H.mem.2 (by simp[h])));(·exact List.mem_append_left _ h)));(·simp at h;rcases h with h|h|h;(·left;simp[h,T]);(·right;omega);(·right;omega))⟩;refine aA (hC Q n [] [] hB0 (O.toList++(N.toList++(B.heap.size::E))) [b,C.heap.size,U.heap.size] b _ V s hTP) ?_;rintro _ D ⟨Y,⟨l,s⟩,QV⟩;rw[<-S,List.nil_append,List.nil_append] at s;rw[<-S] at l;obtain⟨a9,n9,c9,e9,_,_⟩:=cW l;subst e9;have r:=r.since QV.aG (by intro x d;simp at d;rcases d with h|h|h;(·left;simp[h]);(·right;omega);(·right;omega));have g:=g.aG QV.aG so;have ak9:∀x∈Y,x=b\/C.heap.size<=x:=(by intro x d;have h1:=r.size;rcases QV.mem x d with h|h;(·simp at h;omega);(·right;omega));have hzw:=r.size;refine dj aO rfl rfl rfl λ_ cg u l3=>?_;have g:=g.grow;have g:=g.ext cg;have s:=s.alloc cg l3;have l:=l.grow;have l:=l.ext cg;have r:=r.grow;have r:=r.ext cg;refine cF aO rfl rfl rfl u rfl λw9 aD u L=>?_;have g:=g.aB aD sx;have s:=s.aB aD sx;have l:=l.aB aD sx;have r:=r.aB aD sx;refine W ?_;obtain⟨_,_,_,_,_,f,j⟩:=s.open;obtain⟨an3,_,ala⟩:=kV j.na;subst ala;obtain⟨ae3,_,alb⟩:=j.ex.len;subst alb;have pW:(q.1.map Prod.fst).length=q.1.length:=by simp
 have nj:(q.1.map λp=>p.2.av).length=q.1.length:=by simp
 have atY:(da<|q.1.map λp=>p.2.av).length=q.1.length:=by rw[iu];exact nj
 refine W ?_;have Ll:b<D.heap.size/\C.heap.size<=D.heap.size:=(by constructor<;>omega);refine eW (λk:Nat=>[(0,.pointer<|some ⟨b,0,none⟩),(4,.pointer<|some ⟨B.heap.size,0,none⟩),(5,.slice an aN.length cn),(6,.slice ae (da I).length ce),(7,.pointer<|some ⟨D.heap.size,0,none⟩),(8,.int .i64<|(k:Int)-1)]) (λk w'=>aj [D.heap.size] w9 w'/\k<=q.1.length/\∃a n c,aK w' D.heap.size [str (nest (q.1.drop k) q.2.1).av.au,.slice a n c].toArray 103/\aV (D.heap.size::((O.toList++(N.toList++(B.heap.size::E)))++Y)) w' (.agg #[str (nest (q.1.drop k) q.2.1).av.au,.slice a n c]) (nest (q.1.drop k) q.2.1).av) (λk=>k) q.1.length (⟨rfl,rfl,rfl,rfl,rfl,congrArg (λz:Nat=>Value.int .i64<|(z:Int)-1) pW⟩) (⟨aj.refl _ _,lR _,a9,n9,c9,by rw[List.drop_length];exact u,by rw[List.drop_length];exact l⟩) λgg _ _ hI=>?_;obtain⟨F,hk,a7,n7,c7,u,l⟩:=hI;have QW:b≠D.heap.size:=(by have:=Ll;omega);have f:=f.aG F (by simpa using QW);have j:=j.aB F<|List.mem_cons_self ..;have r:=r.since F λx d=>.inr (by rw[List.mem_singleton.1 d];exact Ll.2);refine W ?_;refine zc rfl (λh1=>?_) λh1=>?_;have aQ:∃k,gg=k+1:=⟨gg-1,om⟩;obtain⟨k,rfl⟩:=aQ;have hi:((k+1:Nat):Int)-1=(k:Int):=by omega
 rw[hi];obtain⟨_,_,e1,_⟩:=j.na.akT om;cases e1;obtain⟨_,_,e2,_⟩:=j.ex.form om;cases e2;have hcN:=j.na.QM (i:=k) om;obtain⟨pa,pc,_,QX⟩:=j.ex.QM (i:=k) om;refine WZ ?_;apply yg dh 19 (rA 38 19) (rA 38 19) [[],[],[1],[2],[3],[],[4,5],[6],[7],[],[9],[10],[11],[],[12,13],[14],[],[0,8,15,16],[17]] [It.v _,It.v _,It.v _,It.v _,It.v _,It.v _,It.v _,It.v _,It.v _,It.v _,It.v _,It.v _,It.v _,It.v _,It.v _,It.v _,It.v _,It.p (fun(v:Value) (ww:World)=>∃bb,v= .slice (some ⟨bb,0,none⟩) 4 4/\cD (D.heap.size::((O.toList++(N.toList++(B.heap.size::E)))++Y)) ww v [bI ig,bI<|cO (q.1.map Prod.fst) k,(nth (q.1.map λp=>p.2.av) k),(nest (q.1.drop<|k+1) q.2.1).av]),It.p (fun(v:Value) (ww:World)=>∃a n c,v= .agg #[str [],.slice a n c]/\aV (D.heap.size::((O.toList++(N.toList++(B.heap.size::E)))++Y)) ww v (.mk [] [bI ig,bI<|cO (q.1.map Prod.fst) k,(nth (q.1.map λp=>p.2.av) k),(nest (q.1.drop<|k+1) q.2.1).av]))] de (by exact⟨λv w w' ⟨bb,e,h⟩ k=>⟨bb,e,h.ext k⟩,λv w w' ⟨a,n,c,e,h⟩ k=>⟨a,n,c,e,h.ext k⟩,trivial⟩);intro _ aC;refine vk aC (λx A t=>?_) ?_;refine aA (CD _ A) ?_;rintro _ M ⟨rfl,m⟩;have EL:=m.size;exact pk m;refine vc (λ_ _ _=>WZ pv) ?_;refine vk aC (λx A t=>?_) ?_;refine WZ ?_;exact pv;refine vc (λ_ _ _=>WZ pv) ?_;refine vk aC (λx A t=>?_) ?_;have f:=f.ext t;refine WZ ?_;exact pv;refine vc (λ_ _ _=>WZ pv) ?_;refine VA ?_;refine vk aC (λx A t=>?_) ?_;refine aA (CD _ A) ?_;rintro _ M ⟨rfl,m⟩;have EL:=m.size;exact pk m;refine vc (λ_ _ _=>WZ pv) ?_;refine vk aC (λx A t=>?_) ?_;refine WZ ?_;exact pv;refine vc (λ_ _ _=>WZ pv) ?_;refine vk aC (λx A t=>?_) ?_;have f:=f.ext t;refine WZ ?_;exact pv;refine vc (λ_ _ _=>WZ pv) ?_;refine VA ?_;refine vk aC (λx A t=>?_) ?_;refine cQ t l j QX λl j QX=>?_;have dC:=j.cP;refine sD [.tmp 38,.tmp 46,.tmp 53,.tmp 54] [[str ig,.slice none 0 0],[str<|cO (q.1.map Prod.fst) k,.slice none 0 0],[str (nth (q.1.map λp=>p.2.av) k).au,.slice pa (nth (q.1.map λp=>p.2.av) k).ag.length pc],[str (nest (q.1.drop<|k+1) q.2.1).av.au,.slice a7 n7 c7]] cT aO rfl rfl rfl rfl rfl rfl rfl rfl rfl λM m Et _=>?_;exact pf m<|⟨_,rfl,ak5 Et (λd=>by have:=dC _ d;omega) (jB ld) (jB ld) (QX.ext m)<|l.ext m⟩;refine vk aC (λx A t=>?_) ?_;intro jL d17;obtain⟨bb,tJ,MN⟩:=d17;refine aA (ak0 jL _ _ _ tJ A) ?_;rintro _ M ⟨rfl,m⟩;have EL:=m.size;have MN:=cD.ext MN m;rw[tJ] at MN;exact pf m<|⟨_,_,_,rfl,jB MN⟩;exact trivial;intro x _ eF;intro jL d17;intro _ d18;refine bQ eF F u λF u=>?_;change OW _ _ _ _ _ (aY (aX _ x _)<|zZ 38 [_,_,_,_,_,_,_,_,_,_,_,_,_,_,_,_,_,_,_]) _;obtain⟨a8,n8,c8,xB,MO⟩:=d18;subst xB;have jO:=ak2 (bs:=q.1) (e:=q.2.1) (k:=k) om;rw[<-ak3 (e:=q.2.1) (show k<q.1.length by omega),<-ak4 (e:=q.2.1) (show k<q.1.length by omega)] at jO;rw[<-jO] at MO;have Yu:(nest (q.1.drop k) q.2.1).av.au=[]:=by rw[jO];rfl
 refine cF aO rfl rfl rfl u rfl λ_ iV u L=>?_;have F:=F.trans iV;have MO:=MO.aB iV sm;refine W ?_;exact⟨k,⟨rfl,rfl,rfl,rfl,rfl,rfl⟩,⟨F,om,a8,n8,c8,by rw[Yu];exact u,by rw[Yu];exact MO⟩,om⟩;have h0:gg=0:=by omega
 subst h0;have X:=j;have EI:=f;have P:=r;refine W ?_;refine ir (o:=2) oc rfl rfl rfl f rfl λA t f L=>?_;have nN:=t;have u:=u.aG t (by simpa using λe=>QW e.symm);have l:=l.aB t (by intro x d;simp at d;subst d;simp[X.mem.2 (.inl rfl)]);refine W ?_;refine ir (o:=3) F5 rfl rfl rfl f rfl λM m f L=>?_;have nN:=nN.trans m;have u:=u.aG m (by simpa using λe=>QW e.symm);have l:=l.aB m (by intro x d;simp at d;subst d;simp[X.mem.2 (.inl rfl)]);have alc:aj [b] C M:=P.trans nN;have g:=Jo.aG alc (by simpa using Z);obtain⟨j,ald⟩:=H.closed X.drop (H.na.aG P λx d hy=>(yN x<|by simp[d]).2<|by simpa using hy) (H.ex.aG (Fr.of P (by intro x d;simp at d;subst d;simp[T])) P λx d hy=>(uT x d).2.1<|by simpa using hy) ⟨P.mono (by intro x d;simp at d;subst d;exact T),λx d=>(ak9 x d).imp (λh=>by rw[h];exact T) id⟩ nN;have xC:aV ((B.heap.size::E)++G) M _ (nest (q.1.drop 0) q.2.1).av:=l.dY (λx d=>by rcases mA.1 d with h|h;(·exact mK _ (by rcases mC.1 h with h|h<;>simp[h]));(·rcases H.mem.1 h with h|h|h;(·rw[h];simp[X.mem.2 (.inl rfl)]);(·simp[h]);(·simp[h])));refine W ?_;refine cF aO rfl rfl rfl g rfl λjK gk g L=>?_;have f:=f.aG gk (by simpa using λe=>Z e.symm);have j:=(j.aB gk sm).drop;have xC:=xC.aB gk sm;have z8:=kt.size;have hFr:Fr G w G jK:=⟨((aj.any kt).trans ald.aG).since gk λx d=>.inr (by simp at d;omega),λx d=>.inl d⟩;refine W ?_;exact⟨[_],gh fN aO rfl g rfl,⟨(by have h9:=aV.dY xC (L':=E++G) λx d=>mK _ d;unfold og;rw[<-S];exact h9),by rw[<-S];exact⟨_,_,_,_,_,f,j⟩⟩,hFr⟩
def iC (a:List ak) (e:Ex) (n:Nat):Nat->Bs×List Ex×Nat
 |0=>([],[],n)
 |k+1=>((iC a e n k).1++(dW a<|bg a (gN e k) (iC a e n k).2.2).1,(iC a e n k).2.1++[(dW a<|bg a (gN e k) (iC a e n k).2.2).2.1],(dW a<|bg a (gN e k) (iC a e n k).2.2).2.2)
theorem QY (a:List ak) (e:Ex) (n:Nat):∀k,(iC a e n k).2.1.length=k
 |0=>rfl
 |k+1=>by simp[iC,QY a e n k]
theorem Yv (a:List ak) (e:Ex) (n:Nat):(dW a<|bg a e n).1.length<=2*e.n:=by
 have:=MG a e n;unfold dW;split
 .omega
 .simp;omega
theorem Yw (a:List ak) (e:Ex) (n:Nat):(dW a<|bg a e n).2.2<=n+e.n*(2*(a.length+2)):=by have b:=jj a e n;have c:=rL a<|bg a e n;omega
theorem Yx (a:List ak) (e:Ex) (n:Nat):∀k,k<=e.kids.length->(iC a e n k).1.length<=2*kN e k/\(iC a e n k).2.2<=n+kN e k*(2*(a.length+2))
 |0,_=>by simp[iC,kN]
 |k+1,hk=>by obtain⟨_,_⟩:=Yx a e n k om;have b:=Yv a (gN e k) (iC a e n k).2.2;have c:=Yw a (gN e k) (iC a e n k).2.2;rw[AD om,Nat.add_mul];simp only[iC,lA];constructor<;>omega
theorem alf (b:List ak) (e:Ex) (n:Nat) {aN:List ak} {a:List aq} (i:AM b e n aN a) (hk:k<e.kids.length):AM b (gN e k) (iC b e n k).2.2 (aN++(iC b e n k).1.map Prod.fst) (a++(iC b e n k).1.map λp=>p.2.av):=by
 obtain⟨_,_,_,c⟩:=i;obtain⟨_,_⟩:=Yx b e n k om;have d:=AD hk;have f:=Es e<|k+1;have g:=Nat.mul_le_mul_right (2*(b.length+2)) f;rw[d,Nat.add_mul] at g;refine⟨by omega,?_,?_,c⟩
 .simp only[lA,List.length_map];omega
 .simp only[lA,List.length_map];omega
theorem alg (d:List ak) (n:Nat) (l:e.ju=false) (g:e.head≠ig) (i:e.head≠iM) (j:e.head≠iy):
  (bg d e n).1=(iC d e n e.kids.length).1/\(bg d e n).2.1.av= .mk [] ([bI e.head]++(iC d e n e.kids.length).2.1.map Ex.av)/\(bg d e n).2.2=(iC d e n e.kids.length).2.2:=by
 cases e with
 |«at» s=>cases l
 |lt x a b=>exact absurd rfl g
 |fn f x A B b=>exact absurd rfl i
 |ite a b c=>exact absurd rfl j
 |un h a=>exact⟨rfl,rfl,rfl⟩
 |bi h a b=>exact⟨rfl,rfl,rfl⟩
theorem alh (c:e.ju=false) (a:e.head≠ig) (b:e.head≠iM):e.av.ag=mW [bI e.head] [] e:=by rw[X5 c (not_lt a) b];simp[mW]
theorem Yy (g:e.ju=false) (c:e.head≠ig) (d:e.head≠iM):e.from=1:=by
 cases e with
 |«at» s=>cases g
 |lt x a b=>exact absurd rfl c
 |fn f x A B b=>exact absurd rfl d
 |_=>rfl
theorem AM.sub {d:List ak} {e':Ex} {n':Nat} {aN b:List ak} {c a:List aq} (h:AM d e n aN c) (m:Nat) (g:m+e'.n<=e.n) (j:n'<=n+m*(2*(d.length+2))) (l:b.length<=aN.length+4*m) (o:a.length<=c.length+4*m):AM d e' n' b a:=by obtain⟨_,_,_,f⟩:=h;have i:=Nat.mul_le_mul_right (2*(d.length+2)) g;rw[Nat.add_mul] at i;exact⟨by omega,om,om,f⟩
end Go.Proofs.YtcildnfcpkpomaaGreatDoor
