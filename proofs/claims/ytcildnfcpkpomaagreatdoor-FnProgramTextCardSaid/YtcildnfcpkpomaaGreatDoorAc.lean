/- Lemmas for the law FnProgramText, no statement of their own: no conditions. -/
import Derived.Test.YtcildnfcpkpomaaGreatDoorAb
set_option maxHeartbeats 4000000
set_option linter.unusedVariables false
set_option linter.unusedSimpArgs false
namespace Go.Proofs.YtcildnfcpkpomaaGreatDoor
open Go
variable {p t x:aq} {b i k m m' off sz:Nat} {h s:ak} {ps ts xs:List aq} {c:UInt8} {G L L' L1:List Nat} {w w' w1 w2:World} {v v1 v3 v4 v5 v6 v8:Value} {vs:List Value} {g:Option Nat} {rows:List (List C)}
/-! ### Packages have two ag -/
inductive oe:aq->Prop
 |au (a:ak):oe (.mk a [])
 |list (ps:List aq) (h:zP ps=[101]->ps.length=2) (hp:∀p∈ps,oe p):oe (.mk [] ps)
theorem oe.part (h:oe t) (b:t.ag[i]?=some p):oe p:=by
 cases h with
 |au a=>simp[aq.ag] at b
 |list ps _ c=>exact c p<|List.mem_of_getElem? b
theorem oe.nth (h:oe t) (a:i<t.ag.length):oe (nth t.ag i):=h.part<|ek a
theorem oe.two (h:oe t) (b:bC t=[101]):t.ag.length=2:=by
 cases h with
 |au a=>rw[vH (.inr rfl)] at b;cases b
 |list ps c _=>rw[OS] at b;exact c b
theorem Vc (l:WF t):∀h,fX h t=true->oe t:=by
 induction l with
 |au a _=>intro _ _;exact .au a
 |list ps o q j=>
  intro h c;cases ps with
  |nil=>exact absurd rfl o
  |cons e rest=>
   have g:∀a,e.au=a->a≠[]->oe e:=λa n m=>by
    have:=q e sm;cases this with
    |au b _=>exact .au b
    |list _ _ _=>exact absurd n.symm m
   unfold fX at c;simp only[ne_eq,not_true,if_false] at c;by_cases f:e.au=[101]
   .rw[iP f] at c;cases rest with
    |nil=>simp[fX.oneT] at c
    |cons x r=>
     cases r with
     |nil=>
      refine .list _ (λ_=>rfl) λp d=>?_;simp only[mC,List.not_mem_nil,or_false] at d;rcases d with rfl|rfl
      .exact g _ f de
      .exact j p sm true c
     |cons y _=>simp[fX.oneT] at c
   .rw[iN f] at c;by_cases i:e.au=[116]\/e.au=[99]
    .rw[iP i,Oq,List.all_eq_true] at c;refine .list _ (λh=>absurd h f) λp d=>?_;rcases mC.1 d with rfl|d
     .rcases i with h|h
      .exact g _ h de
      .exact g _ h de
     .exact j p (by simp[d]) h<|c p d
    .rw[iN i] at c;cases c
theorem Vd (c:h≠[101]) (d:∀t∈ts,oe t):oe (iw h ts):=
 .list _ (λb=>absurd b c) λp a=>by
  rcases mC.1 a with rfl|a
  .exact .au _
  .exact d p a
theorem ahH {y:aq} (l:oe y) (d:y.au≠[101]) (h:oe t):oe (dZ y t):=by
 induction h with
 |au a=>
  unfold dZ;split
  .exact l
  .split
   .exact .au a
   .simp only[zQ];exact .list _ (by simp[zP]) sm
 |list ps i j m=>
  unfold dZ;rw[iN de];by_cases c:([]:ak)≠[]\/zP ps=[101]
  .rw[iP c];exact .list ps i j
  .rw[iN c,K0];refine .list _ (λg=>?_) λp n=>?_
   .cases ps with
    |nil=>simp[zP] at g
    |cons q _=>
     exfalso;have b:(dZ y q).au=[101]:=g;cases q with
     |mk a rs=>
      unfold dZ at b;by_cases e:a=[118]
      .rw[iP e] at b;exact d b
      .rw[iN e] at b;by_cases f:a≠[]\/zP rs=[101]
       .rw[iP f] at b;exact c<|.inr b
       .rw[iN f] at b;cases b
   .obtain⟨q,b,rfl⟩:=List.mem_map.1 n;exact m q b
/-! ### States -/
structure sv (t:aq):Prop where
 fK:Good t
 fits:oa t=true
 eok:oe t
def xd (a:TS):Prop:=∀i t,a.getD i none=some t->sv t
theorem DT:sv iT:=⟨.au _ de de,by decide,.au _⟩
theorem ahJ (a:Good t) (h:oa t=true) (c:i<t.ag.length):oa (nth t.ag i)=true:=by unfold oa at h⊢;rw[aE,dE,dE] at h⊢;obtain⟨b,_,_⟩:=a.sub<|ek c;rw[zN a.wf] at h;rw[zN b.wf];omega
theorem sv.nth (h:sv t) (a:i<t.ag.length):sv (nth t.ag i):=⟨h.fK.nth a,ahJ h.fK h.fits a,h.eok.nth a⟩
theorem ahK {a:TS} {r:Nat} {o:Option aq} (c:r<a.length):(a.set r o).getD i none=if i=r then o else a.getD i none:=by
 rw[gG,List.getElem?_set,gG];by_cases h:r=i
 .subst h;rw[iP rfl,iP c,iP rfl];rfl
 .rw[iN h,iN λb=>h b.symm]
theorem ahL {e:TS} (h:xd e) {d:Nat} (j:d<e.length) {o:Option aq} (g:∀t,o=some t->Good t/\oe t) {b:TS} (a:eS e d o=some b):xd b/\b.length=e.length:=by
 unfold eS at a;cases o with
 |none=>cases a
 |some t=>
  simp only[Option.bind_some] at a;by_cases f:oa t=true
  .rw[iP f] at a;cases a;refine⟨λi l c=>?_,sm⟩;rw[ahK j] at c;split at c
   .cases c;exact⟨(g t rfl).1,f,(g t rfl).2⟩
   .exact h i l c
  .rw[iN f] at a;cases a
theorem F9 {b:TS} (h:xd b) {a:ak} (c:eR b a=some t):sv t:=h _ t c
def BW (p:List dM):Prop:=p.length<=1000000/\∀b∈p,b.regs.length<=40/\∀t∈b.regs,sv t
theorem Pe {p:List dM} (h:BW p) {l:ak} {a:List aq} (c:bY p l=some a):a.length<=40/\∀t∈a,sv t:=by
 unfold bY at c;cases d:p.find? (λb=>decide<|b.aL=l) with
 |none=>rw[d] at c;cases c
 |some b=>rw[d] at c;cases c;exact h.2 b<|List.mem_of_find?_eq_some d
theorem Ve {b:TS} (h:xd b):∀{c xs:List aq},nv b c=some xs->xs.length=c.length/\∀t∈xs,sv t
 |[],xs,a=>by cases a;simp
 |u::c,xs,a=>by
  unfold nv at a;cases e:eR b u.au with
  |none=>rw[e] at a;cases a
  |some x=>
   rw[e] at a;simp only[Option.bind_some] at a;cases d:nv b c with
   |none=>rw[d] at a;cases a
   |some _=>
    rw[d] at a;cases a;obtain⟨g,i⟩:=Ve h d;refine⟨by simp[g],λt f=>?_⟩;rcases mC.1 f with rfl|f
    .exact F9 h e
    .exact i t f
theorem Vf {a:TS}:∀(b:List aq) (u:aq),nv a (b++[u])=(nv a b).bind λxs=>(eR a u.au).map λx=>xs++[x]
 |[],u=>by show(eR a u.au).bind (λx=>(nv a []).map λxs=>x::xs)=_;cases eR a u.au<;>rfl
 |v::b,u=>by
  show(eR a v.au).bind (λx=>(nv a<|b++[u]).map λxs=>x::xs)=((eR a v.au).bind λx=>(nv a b).map λxs=>x::xs).bind _;rw[Vf b u];cases eR a v.au with
  |none=>rfl
  |some x=>
   cases nv a b with
   |none=>rfl
   |some xs=>cases eR a u.au<;>rfl
/-! ### What an instruction has -/
def ie (b:TS) (c:ak) (a:List aq):Nat->Option (List aq)
 |0=>some []
 |k+1=>(ie b c a k).bind λxs=>if c.getD k 0=115 then(eR b (nth a<|k+1).au).map λx=>xs++[x] else some xs
theorem ahM {a:TS} {b:ak} (h:ie a b ps k=none):∀n,k<=n->ie a b ps n=none:=by
 intro n _;induction n with
 |zero=>rw[show k=0 from by omega] at h;exact h
 |succ n d=>
  rcases Nat.lt_or_ge k (n+1) with c|c
  .unfold ie;rw[d om];rfl
  .rw[show k=n+1 from by omega] at h;exact h
theorem ahN {b:TS} {a:ak} (h:ie b a ps k=some xs) (c:a.getD k 0≠115):ie b a ps (k+1)=some xs:=by unfold ie;rw[h,Option.bind_some,iN c]
theorem ahO {a:TS} {b:ak} (h:ie a b ps k=some xs) (c:b.getD k 0=115) (d:eR a (nth ps<|k+1).au=some x):ie a b ps (k+1)=some (xs++[x]):=by unfold ie;rw[h,Option.bind_some,iP c,d];rfl
theorem ahP {a:TS} {b:ak} (h:ie a b ps k=some xs) (c:b.getD k 0=115) (d:eR a (nth ps<|k+1).au=none):ie a b ps (k+1)=none:=by unfold ie;rw[h,Option.bind_some,iP c,d];rfl
theorem Pf {st:TS} (b:ps.length=m+2):∀k,k<=m->ie st ([100]++List.replicate m 115) ps (k+1)=nv st ((ps.drop 2).take k)
 |0,_=>by simp[ie,nv]
 |k+1,hk=>by
  have d:=Pf (st:=st) b k om;have c:([100]++List.replicate m 115:ak).getD (k+1) 0=115:=by rw[gG,List.getElem?_append_right sm,List.getElem?_replicate,iP so];rfl
  have a:k<(ps.drop 2).length:=by simp;omega
  have e:(ps.drop 2).take (k+1)=(ps.drop 2).take k++[nth ps (k+2)]:=by rw[List.take_succ_eq_append_getElem a,List.getElem_drop,wU (show k+2<ps.length by omega)];simp[Nat.add_comm]
  rw[e,Vf,<-d]
  conv=>lhs;unfold ie
  simp only[c,if_true]
theorem Le (h:nz t=true):eI (bC t) t.ag.length≠[]/\t.ag.length=(eI (bC t) t.ag.length).length+1/\
  ∀i,i<(eI (bC t) t.ag.length).length->iH (((eI (bC t) t.ag.length).getD i 0).toNat:Int) (nth t.ag (i+1))=true:=by
 unfold nz at h;split at h
 .cases h
 .rename_i a;exact⟨λh=>a<|.inl h,Classical.not_not.1 λh=>a<|.inr h,of_decide_eq_true h⟩
/-! ### What it gives -/
section
variable {p:List dM} {st:TS} {o:Nat} {t:aq}
theorem Vg (a:bC t=[99,111,110,115,116]):stepT p st o t=eS st (gZ (nth t.ag 1).au) (some iT):=by simp[stepT,nC,a]
theorem Vh (a:bC t=[109,111,118]) (b:eR st (nth t.ag 2).au=some x):stepT p st o t=eS st (gZ (nth t.ag 1).au) (some x):=by simp[stepT,nC,a,b]
theorem Vi {y:aq} (a:bC t=[97,100,100]\/bC t=[115,117,98]\/bC t=[109,117,108]) (b:eR st (nth t.ag 2).au=some x) (c:eR st (nth t.ag 3).au=some y):
  stepT p st o t=if wV x iT&&wV y iT then eS st (gZ (nth t.ag 1).au) (some iT) else none:=by
 rcases a with a|a|a<;>simp only[stepT,nC,a,b,c,s9]<;>cases(wV x iT&&wV y iT)<;>simp[eS]
theorem Vj (a:bC t=[110,101,119]) (b:nv st (t.ag.drop 2)=some xs):stepT p st o t=eS st (gZ (nth t.ag 1).au) (some<|iw [116] xs):=by simp[stepT,a,b]
theorem Vk (a:bC t=[110,101,119]) (b:nv st (t.ag.drop 2)=none):stepT p st o t=none:=by simp[stepT,a,b,eS]
theorem Pg (b:bC t=[103,101,116]) (d:eR st (nth t.ag 2).au=some x):
  stepT p st o t=if bC x=[116]/\wW (nth t.ag 3).au+1<x.ag.length then eS st (gZ (nth t.ag 1).au) (some<|nth x.ag (wW (nth t.ag 3).au+1).toNat) else none:=by
 have e:nC p st o t=(if bC x=[116]/\wW (nth t.ag 3).au+1<x.ag.length then some (nth x.ag (wW (nth t.ag 3).au+1).toNat) else none):=by simp[nC,b,d]
 have c:stepT p st o t=eS st (gZ (nth t.ag 1).au) (nC p st o t):=by simp[stepT,b]
 rw[c,e];by_cases a:bC x=[116]/\wW (nth t.ag 3).au+1<x.ag.length
 .rw[iP a,iP a]
 .rw[iN a,iN a];rfl
theorem Lf {l:Option (List aq)} (a:bC t=[108,97,98]) (b:bY p (nth t.ag 2).au=l):stepT p st o t=eS st (gZ (nth t.ag 1).au) (l.map<|iw [99]):=by subst b;simp[stepT,nC,a]
theorem Vl (a:bC t=[112,97,99,107]) (b:eR st (nth t.ag 2).au=some x):
  stepT p st o t=if wV x (dZ (nth t.ag 4)<|nth (nth t.ag 3).ag 1) then eS st (gZ (nth t.ag 1).au) (some<|nth t.ag 3) else none:=by
 simp only[stepT,nC,a,b,Option.bind_some];cases wV x (dZ (nth t.ag 4)<|nth (nth t.ag 3).ag 1)<;>simp[eS]
theorem Ph (b:bC t=[111,112,101,110]) (d:eR st (nth t.ag 2).au=some x):
  stepT p st o t=if bC x=[101] then eS st (gZ (nth t.ag 1).au) (some (dZ (bI (97::aS o))<|nth x.ag 1)) else none:=by
 have e:nC p st o t=(if bC x=[101] then some (dZ (bI (97::aS o))<|nth x.ag 1) else none):=by simp[nC,b,d]
 have c:stepT p st o t=eS st (gZ (nth t.ag 1).au) (nC p st o t):=by simp[stepT,b]
 rw[c,e];by_cases a:bC x=[101]
 .rw[iP a,iP a]
 .rw[iN a,iN a];rfl
theorem Vm (b:bC t=[122,101,114,111]) (c:eR st (nth t.ag 1).au=some x):
  stepT p st o t=(bY p (nth t.ag 2).au).bind λa=>if wV x iT&&meets st a then some st else none:=by
 simp[stepT,b,c,s9]
theorem Vn (a:bC t=[106,117,109,112]) (b:eR st (nth t.ag 1).au=some x):
  stepT p st o t=if bC x=[99]/\meets st (x.ag.drop 1)=true then some st else none:=by
 simp[stepT,a,b]
theorem Vo (a:bC t=[104,97,108,116]):stepT p st o t=(eR st (nth t.ag 1).au).map λ_=>st:=by simp[stepT,a]
theorem Vp (u:nz t=true) (h:ie st (eI (bC t) t.ag.length) t.ag (eI (bC t) t.ag.length).length=none):stepT p st o t=none:=by
 obtain⟨d,a,_⟩:=Le u;have f:∀{q:Nat},eR st (nth t.ag q).au=none\/∃x,eR st (nth t.ag q).au=some x:=fun{q}=>by cases eR st (nth t.ag q).au<;>simp
 unfold eI at h d a;by_cases c1:bC t=[99,111,110,115,116]
 .rw[iP c1] at h;simp[ie] at h
 rw[iN c1] at h d a;by_cases c2:bC t=[109,111,118]\/bC t=[111,112,101,110]
 .rw[iP c2] at h;have c:eR st (nth t.ag 2).au=none:=by
   rcases f (q:=2) with b|⟨x,b⟩
   .exact b
   .simp[ie,b] at h
  rcases c2 with e|e<;>simp[stepT,nC,e,c,eS]
 rw[iN c2] at h d a;by_cases g:bC t=[97,100,100]\/bC t=[115,117,98]\/bC t=[109,117,108]
 .rw[iP g] at h;have c:eR st (nth t.ag 2).au=none\/eR st (nth t.ag 3).au=none:=by
   rcases f (q:=2) with b|⟨x,b⟩
   .exact .inl b
   .rcases f (q:=3) with r|⟨y,r⟩
    .exact .inr r
    .simp[ie,b,r] at h
  rcases c with c|c<;>rcases g with e|e|e<;>simp[stepT,nC,e,c,eS,s9]
 rw[iN g] at h d a;by_cases i:bC t=[110,101,119]
 .rw[iP i] at h a;refine Vk i ?_;have v:t.ag.length=(t.ag.length-2)+2:=by simp at a;omega
  have:=Pf (st:=st) v (t.ag.length-2)<|lR _;rw[show([100]++List.replicate (t.ag.length-2) 115:ak).length=t.ag.length-2+1 from by simp[Nat.add_comm]] at h;rw[h,List.take_of_length_le sm] at this;exact this.symm
 rw[iN i] at h d a;by_cases j:bC t=[103,101,116]
 .rw[iP j] at h;have c:eR st (nth t.ag 2).au=none:=by
   rcases f (q:=2) with b|⟨x,b⟩
   .exact b
   .simp[ie,b] at h
  simp[stepT,nC,j,c,eS]
 rw[iN j] at h d a;by_cases s:bC t=[108,97,98]
 .rw[iP s] at h;simp[ie] at h
 rw[iN s] at h d a;by_cases l:bC t=[112,97,99,107]
 .rw[iP l] at h;have c:eR st (nth t.ag 2).au=none:=by
   rcases f (q:=2) with b|⟨x,b⟩
   .exact b
   .simp[ie,b] at h
  simp[stepT,nC,l,c,eS]
 rw[iN l] at h d a;by_cases m:bC t=[122,101,114,111]
 .rw[iP m] at h;have c:eR st (nth t.ag 1).au=none:=by
   rcases f (q:=1) with b|⟨x,b⟩
   .exact b
   .simp[ie,b] at h
  simp[stepT,m,c,s9]
 rw[iN m] at h d a;by_cases n:bC t=[106,117,109,112]\/bC t=[104,97,108,116]
 .rw[iP n] at h;have c:eR st (nth t.ag 1).au=none:=by
   rcases f (q:=1) with b|⟨x,b⟩
   .exact b
   .simp[ie,b] at h
  rcases n with e|e<;>simp[stepT,e,c]
 rw[iN n] at d;exact absurd rfl d
end
/-! ### Sizes of what is given -/
theorem size_pos (t:aq):1<=t.size:=by have:=pZ t;omega
theorem Pj (y:aq) (h:Good t):(dZ y t).size<=t.size*y.size:=by
 have e:=size_pos y;induction h with
 |au a f hb=>
  unfold dZ;split
  .have:=size_pos<|aq.mk a [];exact Nat.le_mul_of_pos_left _ this
  .rw[iP (.inl f)];exact Nat.le_mul_of_pos_right _ e
 |list ps d _ g=>
  unfold dZ;rw[iN de];split
  .exact Nat.le_mul_of_pos_right _ e
  .have c:∀b:List aq,(∀p∈b,(dZ y p).size<=p.size*y.size)->aq.size.sizes (zQ y b)<=aq.size.sizes b*y.size:=by
    intro b;induction b with
    |nil=>intro _;simp[zQ,aq.size.sizes]
    |cons q b i=>intro h;have j:=h q sm;have l:=i λp d=>h p (by simp[d]);simp only[zQ,aq.size.sizes,Nat.add_mul];omega
   have:=c ps g;simp only[aq.size,List.length_nil,Nat.add_mul];omega
theorem Lg (t:aq):∀m,t.size<=m->WF t->t.text.length+1<=2*t.size:=by
 intro m;induction m generalizing t with
 |zero=>intro h;have:=size_pos t;omega
 |succ m r=>
  intro _ g;cases g with
  |au a l=>rw[rC l];simp only[aq.size,aq.size.sizes];omega
  |list ps d o=>
   rw[s8];have e:(aq.mk [] ps).size=1+aq.size.sizes ps:=by simp[aq.size]
   rw[e];have c:∀b:List aq,b≠[]->(∀p∈b,p.text.length+1<=2*p.size)->(lZ b).length+1<=2*aq.size.sizes b:=by
    intro b;induction b with
    |nil=>intro h;exact absurd rfl h
    |cons q b s=>
     intro _ h;have y:=h q sm;cases b with
     |nil=>rw[rD];simp only[aq.size.sizes];omega
     |cons u _=>have j:=s sm λp d=>h p (by simp[d]);rw[rE];simp only[aq.size.sizes,lA,lC] at j⊢;omega
   have v:=c ps d (λp f=>by obtain⟨i,n,rfl⟩:=List.getElem_of_mem f;have z:=Ia (t:=.mk [] ps) (p:=ps[i]) (i:=i)<|gE n;exact r _ om<|o _ f);simp only[lC,lA,List.length_nil];omega
theorem Vq (h:WF t):t.len<=2*t.size:=by have:=Lg t _ (lR _) h;rw[zN h];omega
theorem sv.size (h:sv t):t.size<=24000:=by have:=h.fits;unfold oa at this;rw[aE,dE,dE] at this;have a:=K4 h.fK;have b:=zN h.fK.wf;omega
theorem Vr:∀ts:List aq,(∀t∈ts,t.size<=m)->aq.size.sizes ts<=ts.length*m
 |[],_=>by simp[aq.size.sizes]
 |t::ts,h=>by have b:=h t sm;have c:=Vr ts λu a=>h u (by simp[a]);simp only[aq.size.sizes,lC,Nat.add_mul];omega
theorem Vs (d:fi c=true) (h:∀t∈ts,sv t) (f:ts.length<=8000):Good (iw [c] ts)/\(iw [c] ts).size<=1000000000/\(iw [c] ts).len<=1000000000:=by
 have b:Good (iw [c] ts):=BO sm (by simp[d]) λt a=>(h t a).fK;have j:=Vr ts λt a=>(h t a).size;have g:ts.length*24000<=8000*24000:=Nat.mul_le_mul_right _ f;have e:(iw [c] ts).size=1+(2+aq.size.sizes ts):=by simp[iw,bI,aq.size,aq.size.sizes]
 have i:=Vq b.wf;refine⟨b,om,om⟩
theorem Lh:iT.size<=1000000000/\iT.len<=1000000000:=by decide
theorem ahR (n:Nat):(aS n).all fi=true:=by
 induction n using Nat.strongRecOn with
 |_ n b=>
  have a:∀k,k<10->fi (UInt8.ofNat (48+k))=true:=by decide
  unfold aS;by_cases h:n<10
  .rw[iP h,List.all_cons,a n h];rfl
  .rw[iN h,List.all_append,b (n/10) om,List.all_cons,a (n%10) om];rfl
theorem ahS (n:Nat):Good (bI (97::aS n)):=.au _ sm (by rw[List.all_cons,ahR];decide)
section
variable {p:List dM} {st:TS} {o:Nat} {t:aq}
theorem step_ok (Y:BW p) (g:xd st) (N:st.length=40) (hg:Good t) (T:nz t=true) {b:TS} (h:stepT p st o t=some b):xd b/\b.length=40:=by
 obtain⟨V,A,U⟩:=Le T;have Z:gZ (nth t.ag 1).au<st.length:=by
  rw[N];unfold gZ ub;cases numeral (nth t.ag 1).au with
  |none=>decide
  |some z=>
   by_cases P:0<=z/\z<=39
   .simp only[P,and_self,if_true];omega
   .simp only[P,if_false];decide
 have set:∀{u:Option aq},(∀y,u=some y->Good y/\oe y)->eS st (gZ (nth t.ag 1).au) u=some b->xd b/\b.length=40:=fun{u} hu hs=>by obtain⟨X,R⟩:=ahL g Z hu hs;exact⟨X,R.trans N⟩
 have c:some st=some b->xd b/\b.length=40:=λe=>by cases e;exact⟨g,N⟩
 have d:∀{q:Nat},eR st (nth t.ag q).au=none\/∃x,eR st (nth t.ag q).au=some x:=fun{q}=>by cases eR st (nth t.ag q).au<;>simp
 cases hk:ie st (eI (bC t) t.ag.length) t.ag (eI (bC t) t.ag.length).length with
 |none=>rw[Vp T hk] at h;cases h
 |some xs=>
  by_cases c1:bC t=[99,111,110,115,116]
  .rw[Vg c1] at h;exact set (λy e=>by cases e;exact⟨DT.fK,DT.eok⟩) h
  by_cases c2:bC t=[109,111,118]
  .rcases d (q:=2) with a|⟨x,a⟩
   .simp[stepT,nC,c2,a,eS] at h
   .rw[Vh c2 a] at h;exact set (λy e=>by cases e;exact⟨(F9 g a).fK,(F9 g a).eok⟩) h
  by_cases D:bC t=[97,100,100]\/bC t=[115,117,98]\/bC t=[109,117,108]
  .rcases d (q:=2) with a|⟨x,a⟩
   .rcases D with j|j|j<;>simp[stepT,nC,j,a,eS,s9] at h
   .rcases d (q:=3) with O|⟨y,O⟩
    .rcases D with j|j|j<;>simp[stepT,nC,j,a,O,eS,s9] at h
    .rw[Vi D a O] at h;split at h
     .exact set (λy e=>by cases e;exact⟨DT.fK,DT.eok⟩) h
     .cases h
  by_cases I:bC t=[110,101,119]
  .cases M:nv st (t.ag.drop 2) with
   |none=>rw[Vk I M] at h;cases h
   |some _=>rw[Vj I M] at h;have n:=(Ve g M).2;exact set (λy e=>by cases e;exact⟨BO de de λt l=>(n t l).fK,Vd de λt l=>(n t l).eok⟩) h
  by_cases r:bC t=[103,101,116]
  .rcases d (q:=2) with a|⟨x,a⟩
   .simp[stepT,nC,r,a,eS] at h
   .rw[Pg r a] at h;split at h
    .rename_i S;have P:0<=wW (nth t.ag 3).au:=by
      have s:=U 2 (by simp[eI,r]);rw[show(eI (bC t) t.ag.length).getD 2 0=109 from by simp[eI,r]] at s;have v:((numeral (nth t.ag 3).au).isSome&&decide (0<=(numeral (nth t.ag 3).au).getD 0))=true:=by rw[<-OI];exact s
      rw[aE,dE] at v;exact v.2
     have E:=F9 g a;have B:=E.nth (i:=(wW (nth t.ag 3).au+1).toNat) om;exact set (λy e=>by cases e;exact⟨B.fK,B.eok⟩) h
    .cases h
  by_cases J:bC t=[108,97,98]
  .cases f:bY p (nth t.ag 2).au with
   |none=>rw[Lf J f] at h;cases h
   |some C=>rw[Lf J f] at h;have n:=(Pe Y f).2;exact set (λy e=>by cases e;exact⟨BO de de λt l=>(n t l).fK,Vd de λt l=>(n t l).eok⟩) h
  by_cases m:bC t=[112,97,99,107]
  .rcases d (q:=2) with a|⟨x,a⟩
   .simp[stepT,nC,m,a,eS] at h
   .rw[Vl m a] at h;split at h
    .have Pl:t.ag.length=5:=by rw[A];simp[eI,m]
     have s:=U 2 (by simp[eI,m]);rw[show(eI (bC t) t.ag.length).getD 2 0=69 from by simp[eI,m]] at s;have v:((decide ((nth t.ag 3).ag.length=2)&&decide (bC (nth t.ag 3)=[101]))&&fX false (nth t.ag 3))=true:=by rw[<-OJ];exact s
     rw[aE] at v;have Q:=hg.nth (i:=3) om;exact set (λy e=>by cases e;exact⟨Q,Vc Q.wf _ v.2⟩) h
    .cases h
  by_cases K:bC t=[111,112,101,110]
  .rcases d (q:=2) with a|⟨x,a⟩
   .simp[stepT,nC,K,a,eS] at h
   .rw[Ph K a] at h;split at h
    .rename_i S;have E:=F9 g a;have R:=E.eok.two S;have B:=E.nth (i:=1) om;exact set (λy e=>by cases e;exact⟨OT (ahS o) B.fK,ahH (.au _) (by intro h;cases h) B.eok⟩) h
    .cases h
  by_cases L:bC t=[122,101,114,111]
  .rcases d (q:=1) with a|⟨x,a⟩
   .simp[stepT,L,a,s9] at h
   .rw[Vm L a] at h;cases f:bY p (nth t.ag 2).au with
    |none=>rw[f] at h;cases h
    |some C=>
     rw[f,Option.bind_some] at h;split at h
     .exact c h
     .cases h
  by_cases F:bC t=[106,117,109,112]
  .rcases d (q:=1) with a|⟨x,a⟩
   .simp[stepT,F,a] at h
   .rw[Vn F a] at h;split at h
    .exact c h
    .cases h
  have H:bC t=[104,97,108,116]:=Classical.byContradiction λf=>V (by simp[eI,c1,c2,D,I,r,J,m,K,L,F,f]);rw[Vo H] at h;rcases d (q:=1) with a|⟨x,a⟩
  .rw[a] at h;cases h
  .rw[a] at h;exact c h
end
/-! ### Blocks -/
structure DV (b:dM):Prop where
 regs:b.regs.length<=40
 rok:∀t∈b.regs,sv t
 code:b.code.length<=80
 cok:∀t∈b.code,uo t/\Good t/\nz t=true
theorem ahU (h:bP s=some t) (e:fX false t=true):sv t:=by obtain⟨a,b,c,d⟩:=p5 h;refine⟨a,?_,Vc a.wf _ e⟩;unfold oa;rw[aE,dE,dE,zN a.wf,c];exact⟨b,d⟩
theorem ahV {b:Bk} (h:kA b=true):DV (dP b):=by
 obtain⟨_,f,g⟩:=F0 h;unfold kA at h;simp only[aE,dE] at h;refine⟨by simp[dP];omega,λt e=>?_,by simp[dP];omega,λt e=>?_⟩
 .obtain⟨s,d,rfl⟩:=List.mem_map.1 e;obtain⟨u,a,c⟩:=f s d;rw[FX a];exact ahU a c
 .obtain⟨s,d,rfl⟩:=List.mem_map.1 e;obtain⟨u,a,c⟩:=g s d;rw[FX a];exact⟨K3 a,(p5 a).1,by rw[Un];exact c⟩
theorem ahW {bs:List Bk} (h:iK bs=true):BW (bs.map dP)/\∀b,b∈bs.map dP->DV b:=by
 have hb:=zO h;have c:∀b,b∈bs.map dP->DV b:=λb a=>by obtain⟨k,hk,rfl⟩:=List.mem_map.1 a;exact ahV<|hb k hk
 refine⟨⟨?_,λb a=>⟨(c b a).regs,(c b a).rok⟩⟩,c⟩;unfold iK at h;simp only[aE,dE] at h;simp;omega
theorem ahX {b:dM} (h:DV b):xd (BP b)/\(BP b).length=40:=by
 refine⟨λi t a=>?_,by simp[BP]⟩;unfold BP at a;rw[gG,List.getElem?_map] at a;by_cases c:i<40
 .rw[List.getElem?_range c] at a;simp only[Option.map_some,Option.getD_some] at a;split at a
  .rename_i hb;cases a;exact h.rok _ (List.mem_of_getElem?<|ek hb)
  .cases a
 .rw[List.getElem?_eq_none (by simpa using c)] at a;cases a
theorem ahY {p:List dM} {a:TS} {o:Nat} (h:stepT p a o t=none):(ye p a o (t::ts)).2=0:=by unfold ye;rw[h]
theorem ahZ {p:List dM} {b a:TS} {o:Nat} (h:stepT p b o t=some a):(ye p b o (t::ts)).2=(ye p a (um o t) ts).2+1:=by
 conv=>lhs;unfold ye
 rw[h]
theorem ah0 (h:i<ts.length):ts.drop i=nth ts i::ts.drop (i+1):=by rw[wU h,List.drop_eq_getElem_cons h]
theorem ah1 (h:Good t):t.text≠[]:=by grind [Ut]
structure Ga (s:ak) (t:aq):Prop where
 some:∀t',bP s=some t'->t=t'
 none:s=[]->bC t=[]
theorem Vt:bP []=none:=by decide
/-! ### Types -/
inductive Ty where
 |i
 |op (f:Bool) (a b:Ty)
def kQ (f:Bool):ak:=if f then[62] else[42]
def Ty.av:Ty->aq
 | .i=>bI [105]
 | .op f a b=>.mk [] [bI<|kQ f,a.av,b.av]
def Ty.text (t:Ty):ak:=t.av.text
def Ty.n:Ty->Nat
 | .i=>1
 | .op _ a b=>1+a.n+b.n
theorem ah2 (f:Bool):Good (bI<|kQ f):=by cases f<;>exact .au _ de de
theorem Ty.fK (t:Ty):Good t.av:=by
 induction t with
 |i=>exact .au _ de de
 |op f a b c d=>
  refine .list _ sm λp e=>?_;simp only[mC,List.not_mem_nil,or_false] at e;rcases e with rfl|rfl|rfl
  .exact ah2 f
  .exact c
  .exact d
theorem ah3 (f:Bool):(bI<|kQ f).text=kQ f:=by cases f<;>exact rC de
theorem Ty.Pm:Ty.i.text=[105]:=rC de
theorem Ty.Lk (f:Bool) (a b:Ty):(Ty.op f a b).text=40::(kQ f++32::(a.text++32::(b.text++[41]))):=by show(aq.mk [] [bI<|kQ f,a.av,b.av]).text=_;rw[s8,rE,rE,rD,ah3];simp[Ty.text]
theorem Pn (f:Bool):(kQ f).length=1:=by cases f<;>rfl
theorem Ty.pos (t:Ty):1<=t.n:=by cases t<;>simp[Ty.n];omega
theorem Ty.len (t:Ty):t.text.length+3<=4*t.n:=by induction t<;>grind [Ty.Pm,Ty.n,Ty.Lk,Pn]
theorem Ty.deep (t:Ty):t.av.depth+1<=t.n:=by
 induction t with
 |i=>simp[Ty.av,bI,aq.depth,aq.depth.deeps,Ty.n]
 |op f a b _ _=>have c:(bI<|kQ f).depth=0:=rfl;have d:=a.pos;have e:=b.pos;show aq.depth.deeps [bI<|kQ f,a.av,b.av]+1<=_;simp only[aq.depth.deeps,c,Ty.n];omega
theorem Ty.size (t:Ty):t.av.size<=5*t.n:=by
 induction t with
 |i=>simp[Ty.av,bI,aq.size,aq.size.sizes,Ty.n]
 |op f a b _ _=>
  have c:(bI<|kQ f).size=2:=by cases f<;>rfl
  show 1+0+aq.size.sizes [bI<|kQ f,a.av,b.av]<=_;simp only[aq.size.sizes,c,Ty.n];omega
theorem Ty.bP {t:Ty} (h:t.n<=60):bP t.text=some t.av:=OQ t.fK (by have:=t.deep;omega) (by have:=t.len;show t.text.length<=_;omega)
theorem Ty.ne (t:Ty):t.text≠[]:=ah1 t.fK
theorem Is:∀{t u:Ty},t.av=u.av->t=u
 | .i,.i,_=>rfl
 | .i,.op _ _ _,h=>by simp[Ty.av,bI] at h
 | .op _ _ _,.i,h=>by simp[Ty.av,bI] at h
 | .op f a b,.op g c d,h=>by simp only[Ty.av,aq.mk.injEq,true_and,List.cons.injEq,and_true] at h;obtain⟨e,i,j⟩:=h;rw[Is i,Is j];cases f<;>cases g<;>first|rfl|(simp[bI,kQ] at e)
theorem Ty.inj {t u:Ty} (h:t.text=u.text):t=u:=Is (KX t.fK u.fK h)
/-! ### Forms that are types -/
mutual
def gC:aq->Nat
 | .mk a ps=>if a≠[] then 1 else ko ps
def ko:List aq->Nat
 |[]=>0
 |t::ts=>gC t+ko ts
end
theorem Vu:∀(xs a:List aq),ko (xs++a)=ko xs+ko a:=by intro x;induction x<;>grind [ko]
theorem Po (t:aq):gC t=if t.au≠[] then 1 else ko t.ag:=by cases t with|mk a ps=>rw[gC];rfl
theorem Vv (h:ps[i]?=some p):ko (ps.take<|i+1)=ko (ps.take i)+gC p:=by rw[List.take_add_one,h,Vu];simp[ko]
mutual
theorem ah4:∀t:aq,gC t<=t.size
 | .mk a ps=>by have:=Pp ps;unfold gC;simp only[aq.size];split<;>omega
theorem Pp:∀ps:List aq,ko ps<=aq.size.sizes ps
 |[]=>by simp[ko]
 |t::ts=>by have a:=ah4 t;have b:=Pp ts;simp only[ko,aq.size.sizes];omega
end
theorem Pq {a:ak} (h:a≠[]):gC (bI a)=1:=by simp[gC,bI,h]
theorem Ty.gC (t:Ty):gC t.av=t.n:=by
 induction t with
 |i=>simp[Ty.av,Pq,Ty.n]
 |op f a b c d=>have e:Go.Proofs.YtcildnfcpkpomaaGreatDoor.gC (bI<|kQ f)=1:=Pq (by cases f<;>decide);show Go.Proofs.YtcildnfcpkpomaaGreatDoor.gC (.mk [] [bI<|kQ f,a.av,b.av])=_;simp only[Go.Proofs.YtcildnfcpkpomaaGreatDoor.gC,ko,e,c,d,Ty.n];simp;omega
mutual
def p7:aq->Bool
 | .mk a ps=>if a≠[] then decide (a=[105]) else uq ps
def uq:List aq->Bool
 |[h,x,y]=>(decide (h.au=[62])||decide (h.au=[42]))&&(p7 x&&p7 y)
 |_=>false
end
theorem Vw (t:aq):p7 t=if t.au≠[] then decide (t.au=[105]) else uq t.ag:=by cases t with|mk a ps=>rw[p7];rfl
theorem ah5 (c:WF t):p7 t=true↔∃u:Ty,t=u.av:=by
 constructor
 .intro h;have o:∀m (t:aq),t.size<=m->WF t->p7 t=true->∃u:Ty,t=u.av:=by
   intro m;induction m with
   |zero=>intro t _;have:=pZ t;omega
   |succ m q=>
    intro t z c h;cases c with
    |au a p=>simp only[p7,iP p,dE] at h;exact⟨.i,by rw[h];rfl⟩
    |list ps _ c=>
     simp only[p7] at h;rw[iN de] at h
     match ps,h with
     |[g,x,y],h=>
      simp only[uq,aE,oE,dE] at h;obtain⟨d,A,B⟩:=h;simp only[aq.size,aq.size.sizes] at z;obtain⟨u,rfl⟩:=q x om (c x sm) A;obtain⟨v,rfl⟩:=q y om (c y sm) B;have r:∀s:ak,s≠[]->g.au=s->g=bI s:=λs C e=>by
       have j:=c g sm;cases j with
       |au a p=>cases e;rfl
       |list _ _ _=>exact absurd e.symm C
      rcases d with d|d
      .exact⟨.op true u v,by rw[r _ de d];rfl⟩
      .exact⟨.op false u v,by rw[r _ de d];rfl⟩
  exact o t.size t (lR _) c h
 .rintro⟨u,rfl⟩;induction u with
  |i=>rfl
  |op f a b l n=>show p7 (.mk [] [bI<|kQ f,a.av,b.av])=true;have:=l a.fK.wf;have:=n b.fK.wf;simp only[p7,uq, *];cases f<;>simp[bI,kQ,aq.au]
def kR (t:aq):Bool:=p7 t&&decide (gC t<=16)
theorem BX (a:WF t):kR t=true↔∃u:Ty,t=u.av/\u.n<=16:=by
 unfold kR;rw[aE,dE,ah5 a];constructor
 .rintro⟨⟨u,rfl⟩,h⟩;exact⟨u,rfl,by rw[<-u.gC];exact h⟩
 .rintro⟨u,rfl,h⟩;exact⟨⟨u,rfl⟩,by rw[u.gC];exact h⟩
/-! ### Names -/
def eJ (s:ak):Bool:=decide (1<=s.length)&&decide (s.length<=4)&&(decide (97<=s.getD 0 0)&&decide (s.getD 0 0<=122))&&(s.drop 1).all iJ
def rH (s:ak):Bool:=(numeral s).isSome||eJ s
theorem xe (h:eJ s=true):s≠[]:=by grind [eJ]
/-! ### Expressions -/
inductive Ex where
 |at(s:ak)
 |un (h:ak) (a:Ex)
 |bi (h:ak) (a b:Ex)
 |ite (a b c:Ex)
 |lt (x:ak) (a b:Ex)
 |fn (f x:ak) (A B:Ty) (e:Ex)
abbrev iy:ak:=[105,102]
abbrev ig:ak:=[108,101,116]
abbrev iM:ak:=[102,117,110]
abbrev DW:ak:=[102,115,116]
abbrev sw:ak:=[115,110,100]
abbrev lg:ak:=[99,97,108,108]
abbrev zU:ak:=[112,97,105,114]
def Ex.av:Ex->aq
 | .at s=>bI s
 | .un h a=>.mk [] [bI h,a.av]
 | .bi h a b=>.mk [] [bI h,a.av,b.av]
 | .ite a b c=>.mk [] [bI iy,a.av,b.av,c.av]
 | .lt x a b=>.mk [] [bI ig,bI x,a.av,b.av]
 | .fn f x A B e=>.mk [] [bI iM,bI f,bI x,A.av,B.av,e.av]
def ij (h:ak):Bool:=decide (h=DW)||decide (h=sw)
def iO (h:ak):Bool:=decide (h=[43])||decide (h=[45])||decide (h=[42])||decide (h=lg)||decide (h=zU)
def Ex.ok:Ex->Prop
 | .at s=>rH s=true
 | .un h a=>ij h=true/\a.ok
 | .bi h a b=>iO h=true/\a.ok/\b.ok
 | .ite a b c=>a.ok/\b.ok/\c.ok
 | .lt x a b=>eJ x=true/\a.ok/\b.ok
 | .fn f x A B e=>eJ f=true/\eJ x=true/\f≠x/\A.n<=16/\B.n<=16/\e.ok
def Ex.n:Ex->Nat
 | .at _=>1
 | .un _ a=>1+a.n
 | .bi _ a b=>1+a.n+b.n
 | .ite a b c=>1+a.n+b.n+c.n
 | .lt _ a b=>2+a.n+b.n
 | .fn _ _ A B e=>3+A.n+B.n+e.n
mutual
def er:aq->Bool
 | .mk a ps=>if a≠[] then rH a else oT ps
def oT:List aq->Bool
 |[h,a]=>ij h.au&&er a
 |[h,a,b]=>iO h.au&&(er a&&er b)
 |[h,a,b,c]=>if h.au=iy then er a&&(er b&&er c) else if h.au=ig then eJ a.au&&(er b&&er c) else false
 |[h,f,x,A,B,e]=>decide (h.au=iM)&&(eJ f.au&&eJ x.au&&decide (f.au≠x.au)&&kR A&&kR B&&er e)
 |_=>false
end
theorem BY (c:WF t) (b:s≠[]) (e:t.au=s):t=bI s:=by
 cases c with
 |au a _=>cases e;rfl
 |list _ _ _=>exact absurd e.symm b
theorem Vx (k:ij h=true):h≠[]:=by rintro rfl;cases k
theorem Vy (k:iO h=true):h≠[]:=by rintro rfl;cases k
theorem qN (k:rH s=true):s≠[]:=by rintro rfl;cases k
theorem ah7 (d:WF t):er t=true↔∃e:Ex,t=e.av/\e.ok:=by
 constructor
 .intro h;have M:∀m (t:aq),t.size<=m->WF t->er t=true->∃e:Ex,t=e.av/\e.ok:=by
   intro m;induction m with
   |zero=>intro t _;have:=pZ t;omega
   |succ m j=>
    intro t D d h;cases d with
    |au a P=>simp only[er,iP P] at h;exact⟨.at a,rfl,h⟩
    |list ps _ d=>
     simp only[er] at h;rw[iN de] at h
     match ps,h with
     |[n,x],h=>simp only[oT,aE] at h;simp only[aq.size,aq.size.sizes] at D;obtain⟨u,rfl,o⟩:=j x om (d x sm) h.2;exact⟨.un n.au u,by rw[BY (d n sm) (Vx h.1) rfl];rfl,h.1,o⟩
     |[n,x,y],h=>simp only[oT,aE] at h;simp only[aq.size,aq.size.sizes] at D;obtain⟨u,rfl,o⟩:=j x om (d x sm) h.2.1;obtain⟨v,rfl,r⟩:=j y om (d y sm) h.2.2;exact⟨.bi n.au u v,by rw[BY (d n sm) (Vy h.1) rfl];rfl,h.1,o,r⟩
     |[n,x,y,z],h=>
      simp only[oT] at h;simp only[aq.size,aq.size.sizes] at D;split at h
      .rename_i p;simp only[aE] at h;obtain⟨u,rfl,o⟩:=j x om (d x sm) h.1;obtain⟨v,rfl,r⟩:=j y om (d y sm) h.2.1;obtain⟨q,rfl,K⟩:=j z om (d z sm) h.2.2;exact⟨.ite u v q,by rw[BY (d n sm) de p];rfl,o,r,K⟩
      .split at h
       .rename_i p;simp only[aE] at h;obtain⟨v,rfl,r⟩:=j y om (d y sm) h.2.1;obtain⟨q,rfl,K⟩:=j z om (d z sm) h.2.2;exact⟨.lt x.au v q,by rw[BY (d n sm) de p,BY (d x sm) (xe h.1) rfl];rfl,h.1,r,K⟩
       .cases h
     |[n,f,x,A,B,e],h=>simp only[oT,aE,dE] at h;simp only[aq.size,aq.size.sizes] at D;obtain⟨p,⟨⟨⟨⟨C,E⟩,F⟩,H⟩,I⟩,J⟩:=h;obtain⟨u,rfl,o⟩:=j e om (d e sm) J;obtain⟨Q,rfl,O⟩:=(BX<|d A sm).1 H;obtain⟨R,rfl,N⟩:=(BX<|d B sm).1 I;exact⟨.fn f.au x.au Q R u,by rw[BY (d n sm) de p,BY (d f sm) (xe C) rfl,BY (d x sm) (xe E) rfl];rfl,C,E,F,O,N,o⟩
  exact M t.size t (lR _) d h
 .rintro⟨e,rfl,i⟩;clear d;induction e with
  |«at» s=>show er (.mk s [])=true;simp only[er];rw[iP (qN i)];exact i
  |un h a g=>show er (.mk [] [bI h,a.av])=true;simp only[er];rw[iN de];simp only[oT,aE];exact⟨i.1,g i.2⟩
  |bi h a b g l=>show er (.mk [] [bI h,a.av,b.av])=true;simp only[er];rw[iN de];simp only[oT,aE];exact⟨i.1,g i.2.1,l i.2.2⟩
  |ite a b c g l L=>show er (.mk [] [bI iy,a.av,b.av,c.av])=true;simp only[er];rw[iN de];simp only[oT];rw[iP (show(bI iy).au=iy from rfl)];simp only[aE];exact⟨g i.1,l i.2.1,L i.2.2⟩
  |lt x a b g l=>show er (.mk [] [bI ig,bI x,a.av,b.av])=true;simp only[er];rw[iN de];simp only[oT];rw[iN<|show¬(bI ig).au=iy by decide,iP (show(bI ig).au=ig from rfl)];simp only[aE];exact⟨i.1,g i.2.1,l i.2.2⟩
  |fn f x A B e j=>show er (.mk [] [bI iM,bI f,bI x,A.av,B.av,e.av])=true;obtain⟨C,E,F,H,I,J⟩:=i;simp only[er];rw[iN de];simp only[oT,aE,dE];exact⟨rfl,⟨⟨⟨⟨C,E⟩,F⟩,(BX A.fK.wf).2 ⟨A,rfl,H⟩⟩,(BX B.fK.wf).2 ⟨B,rfl,I⟩⟩,j J⟩
/-! ### Parts -/
def Ex.head:Ex->ak
 | .at _=>[]
 | .un h _=>h
 | .bi h _ _=>h
 | .ite _ _ _=>iy
 | .lt _ _ _=>ig
 | .fn _ _ _ _ _=>iM
def Ex.from:Ex->Nat
 | .lt _ _ _=>2
 | .fn _ _ _ _ _=>5
 |_=>1
def Ex.kids:Ex->List Ex
 | .at _=>[]
 | .un _ a=>[a]
 | .bi _ a b=>[a,b]
 | .ite a b c=>[a,b,c]
 | .lt _ a b=>[a,b]
 | .fn _ _ _ _ e=>[e]
def Ex.binds:Ex->Nat->List ak
 | .lt x _ _,3=>[x]
 | .fn f x _ _ _,_=>[f,x]
 |_,_=>[]
def Ex.ju:Ex->Bool
 | .at _=>true
 |_=>false
def gN (e:Ex) (j:Nat):Ex:=e.kids.getD j<|.at []
theorem Ex.wf {e:Ex} (h:e.ok):Good e.av:=by
 have num:∀s:ak,rH s=true->s.all fi=true:=λs j=>by
  unfold rH at j;rw[oE] at j;have q:∀c:UInt8,iJ c=true->fi c=true:=λc m=>by unfold iJ at m;unfold fi;rw[m];simp
  rcases j with j|j
  .cases n:numeral s with
   |none=>rw[n] at j;cases j
   |some z=>
    unfold numeral at n;split at n
    .rename_i e;rw[e];decide
    .split at n
     .cases n
     .split at n
      .rename_i o;rw[List.all_eq_true] at o⊢;intro c m;unfold fj at o;split at o
       .rename_i u;cases s with
        |nil=>simp at u
        |cons d r=>
         simp only[List.getD_cons_zero,List.drop_succ_cons,List.drop_zero] at u o;rcases mC.1 m with rfl|m
         .rw[u.2];decide
         .exact q c<|o c m
       .exact q c<|o c m
      .cases n
  .cases s with
   |nil=>rfl
   |cons c r=>
    simp only[eJ,aE,dE,List.getD_cons_zero,List.drop_succ_cons,List.drop_zero] at j;obtain⟨⟨_,D,E⟩,C⟩:=j;rw[List.all_cons,aE];refine⟨?_,?_⟩
    .unfold fi;simp[D,E]
    .rw[List.all_eq_true] at C⊢;exact λd t=>q d<|C d t
 have y:∀s:ak,eJ s=true->Good (bI s):=λs j=>.au _ (xe j)<|num s (by unfold rH;rw[j];simp);induction e with
 |«at» s=>exact .au _ (qN h)<|num s h
 |un t a g=>
  refine .list _ sm λp i=>?_;simp only[mC,List.not_mem_nil,or_false] at i;rcases i with rfl|rfl
  .obtain⟨k,_⟩:=h;simp only[ij,oE,dE] at k;rcases k with k|k<;>(rw[k];exact .au _ de de)
  .exact g h.2
 |bi t a b g l=>
  refine .list _ sm λp i=>?_;simp only[mC,List.not_mem_nil,or_false] at i;rcases i with rfl|rfl|rfl
  .obtain⟨k,_⟩:=h;simp only[iO,oE,dE] at k;rcases k with(((k|k)|k)|k)|k<;>(rw[k];exact .au _ de de)
  .exact g h.2.1
  .exact l h.2.2
 |ite a b c g l v=>
  refine .list _ sm λp i=>?_;simp only[mC,List.not_mem_nil,or_false] at i;rcases i with rfl|rfl|rfl|rfl
  .exact .au _ de de
  .exact g h.1
  .exact l h.2.1
  .exact v h.2.2
 |lt x a b g l=>
  refine .list _ sm λp i=>?_;simp only[mC,List.not_mem_nil,or_false] at i;rcases i with rfl|rfl|rfl|rfl
  .exact .au _ de de
  .exact y x h.1
  .exact g h.2.1
  .exact l h.2.2
 |fn f x A B e J=>
  refine .list _ sm λp i=>?_;simp only[mC,List.not_mem_nil,or_false] at i;obtain⟨H,I,_,_,_,F⟩:=h;rcases i with rfl|rfl|rfl|rfl|rfl|rfl
  .exact .au _ de de
  .exact y f H
  .exact y x I
  .exact A.fK
  .exact B.fK
  .exact J F
theorem Ex.ag {e:Ex} (h:e.ju=false):e.av.au=[]/\e.av.ag.length=e.from+e.kids.length/\(nth e.av.ag 0).au=e.head/\∀j,j<e.kids.length->nth e.av.ag (e.from+j)=(gN e j).av:=by
 cases e with
 |«at» s=>cases h
 |un g a=>exact⟨rfl,rfl,rfl,λj d=>by
  have:j=0:=by simp[Ex.kids] at d;omega
  subst this;rfl⟩
 |bi g a b=>refine⟨rfl,rfl,rfl,λj d=>?_⟩;simp only[Ex.kids,lC,List.length_nil] at d;rcases(show j=0\/j=1 by omega) with rfl|rfl<;>rfl
 |ite a b c=>refine⟨rfl,rfl,rfl,λj d=>?_⟩;simp only[Ex.kids,lC,List.length_nil] at d;rcases(show j=0\/j=1\/j=2 by omega) with rfl|rfl|rfl<;>rfl
 |lt x a b=>refine⟨rfl,rfl,rfl,λj d=>?_⟩;simp only[Ex.kids,lC,List.length_nil] at d;rcases(show j=0\/j=1 by omega) with rfl|rfl<;>rfl
 |fn f x A B e=>exact⟨rfl,rfl,rfl,λj d=>by
  have:j=0:=by simp[Ex.kids] at d;omega
  subst this;rfl⟩
theorem Ex.pos (e:Ex):1<=e.n:=by cases e<;>simp[Ex.n]<;>omega
theorem Ex.gC {e:Ex} (h:e.ok):gC e.av=e.n:=by
 have xf:∀s:ak,s≠[]->Go.Proofs.YtcildnfcpkpomaaGreatDoor.gC (bI s)=1:=λs o=>Pq o;have j:∀ps:List aq,Go.Proofs.YtcildnfcpkpomaaGreatDoor.gC (.mk [] ps)=ko ps:=λps=>by simp[Go.Proofs.YtcildnfcpkpomaaGreatDoor.gC]
 induction e with
 |«at» s=>exact xf s<|qN h
 |un i a d=>show Go.Proofs.YtcildnfcpkpomaaGreatDoor.gC (.mk [] [bI i,a.av])=_;rw[j];simp only[ko,xf i<|Vx h.1,d h.2,Ex.n];omega
 |bi i a b d g=>show Go.Proofs.YtcildnfcpkpomaaGreatDoor.gC (.mk [] [bI i,a.av,b.av])=_;rw[j];simp only[ko,xf i<|Vy h.1,d h.2.1,g h.2.2,Ex.n];omega
 |ite a b c d g l=>show Go.Proofs.YtcildnfcpkpomaaGreatDoor.gC (.mk [] [bI iy,a.av,b.av,c.av])=_;rw[j];simp only[ko,xf iy de,d h.1,g h.2.1,l h.2.2,Ex.n];omega
 |lt x a b d g=>show Go.Proofs.YtcildnfcpkpomaaGreatDoor.gC (.mk [] [bI ig,bI x,a.av,b.av])=_;rw[j];simp only[ko,xf ig de,xf x<|xe h.1,d h.2.1,g h.2.2,Ex.n];omega
 |fn f x A B e q=>obtain⟨n,p,_,_,_,m⟩:=h;show Go.Proofs.YtcildnfcpkpomaaGreatDoor.gC (.mk [] [bI iM,bI f,bI x,A.av,B.av,e.av])=_;rw[j];simp only[ko,xf iM de,xf f<|xe n,xf x<|xe p,A.gC,B.gC,q m,Ex.n];omega
theorem Iv {e:Ex} (h:e.ok) {j:Nat} (a:j<e.kids.length):(gN e j).ok/\(gN e j).n<e.n:=by cases e<;>grind [Ex.ok,gN,Ty.n,Ex.n,Ex.kids]
def eP (h:ak):Nat×Nat:=
 if iO h then(1,3) else if h=iy then(1,4) else if h=ig then(2,4) else if h=iM then(5,6) else if ij h then(1,2) else(0,0)
theorem Ps {e:Ex} (h:e.ok) (g:e.ju=false):eP e.head=(e.from,e.from+e.kids.length):=by
 cases e with
 |«at» s=>cases g
 |un d a=>obtain⟨k,_⟩:=h;simp only[ij,oE,dE] at k;rcases k with k|k<;>(subst k;rfl)
 |bi d a b=>show eP d=_;unfold eP;rw[h.1];rfl
 |ite a b c=>rfl
 |lt x a b=>rfl
 |fn f x A B e=>rfl
/-! ### Free aN -/
def Fv (x:ak):Ex->Prop
 | .at s=>s=x/\eJ x=true
 | .un _ a=>Fv x a
 | .bi _ a b=>Fv x a\/Fv x b
 | .ite a b c=>Fv x a\/Fv x b\/Fv x c
 | .lt y a b=>Fv x a\/(x≠y/\Fv x b)
 | .fn f y _ _ e=>x≠f/\x≠y/\Fv x e
def dN:Ex->List ak->List ak->List ak
 | .at s,d,l=>if(!eJ s||decide (s∈d)||decide (s∈l))=true then l else l++[s]
 | .un _ a,d,l=>dN a d l
 | .bi _ a b,d,l=>dN b d<|dN a d l
 | .ite a b c,d,l=>dN c d (dN b d<|dN a d l)
 | .lt x a b,d,l=>dN b (d++[x])<|dN a d l
 | .fn f x _ _ e,d,l=>dN e (d++[f,x]) l
theorem DX (x:ak):∀(e:Ex) (a l:List ak),x∈dN e a l↔x∈l\/(Fv x e/\x∉a):=by intro x;induction x<;>grind [dN,Fv,eJ]
theorem ah8:∀(e:Ex) (a l:List ak),l.Nodup->(dN e a l).Nodup:=by intro x;induction x<;>grind [dN]
theorem Pt:∀(e:Ex) (a l:List ak),(dN e a l).length<=l.length+e.n:=by intro x;induction x<;>grind [dN,Ty.n,Ex.n]
def rI (e:Ex) (a l:List ak):Nat->List ak
 |0=>l
 |j+1=>dN (gN e j) (a++e.binds (e.from+j))<|rI e a l j
theorem ah9 {e:Ex} (b:e.ju=false) (a l:List ak):dN e a l=rI e a l e.kids.length:=by cases e<;>simp_all[Ex.ju,dN,rI,Ex.kids,gN,Ex.binds,Ex.from]
def kS (x:ak):Ex->Nat
 | .at s=>if s=x then 1 else 0
 | .un _ a=>kS x a
 | .bi _ a b=>kS x a+kS x b
 | .ite a b c=>kS x a+kS x b+kS x c
 | .lt y a b=>kS x a+if x=y then 0 else kS x b
 | .fn f y _ _ e=>if x=f\/x=y then 0 else kS x e
theorem aia {x:ak} (a:eJ x=true):∀e:Ex,0<kS x e↔Fv x e:=by intro x;induction x<;>grind [eJ,kS,Fv]
theorem count_le (x:ak):∀e:Ex,kS x e<=e.n:=by intro x;induction x<;>grind [kS,Ty.n,Ex.n]
def BZ (x:ak) (e:Ex):Nat->Nat
 |0=>0
 |j+1=>BZ x e j+if x∈e.binds (e.from+j) then 0 else kS x (gN e j)
theorem VB {e:Ex} (a:e.ju=false) (x:ak):kS x e=BZ x e e.kids.length:=by cases e<;>simp_all[Ex.ju,kS,BZ,Ex.kids,gN,Ex.binds,Ex.from]
/-! ### Types of expressions -/
abbrev Sc:=List<|ak×Ty
def look (a:Sc) (s:ak):Option Ty:=(a.reverse.find? λp=>decide<|p.1=s).map Prod.snd
theorem p8 (a:Sc) (x s:ak) (T:Ty):look (a++[(x,T)]) s=if x=s then some T else look a s:=by grind [look]
theorem B0 (a:Sc) (f x s:ak) (T U:Ty):look (a++[(f,T),(x,U)]) s=if x=s then some U else if f=s then some T else look a s:=by grind [look]
def lQ (a b:Ty):Bool:=decide<|a.text=b.text
theorem aib {a b:Ty}:lQ a b=true↔a=b:=by grind [lQ,Ty.inj]
def lS (h:ak):List Ty->Option Ty
 |[a]=>match a with
  | .op false c d=>if h=DW then some c else if h=sw then some d else none
  |_=>none
 |[a,b]=>
  if h=lg then match a with
   | .op true c d=>if lQ c b then some d else none
   |_=>none
  else if h=zU then(if 1+a.n+b.n<=16 then some (.op false a b) else none)
  else if lQ a .i&&lQ b .i then some .i else none
 |[a,b,c]=>if lQ a .i&&lQ b c then some b else none
 |_=>none
def bL:Ex->Sc->Option Ty
 | .at s,d=>if eJ s then look d s else some .i
 | .un h a,d=>(bL a d).bind λA=>lS h [A]
 | .bi h a b,d=>(bL a d).bind λA=>(bL b d).bind λB=>lS h [A,B]
 | .ite a b c,d=>(bL a d).bind λA=>(bL b d).bind λB=>(bL c d).bind λC=>lS iy [A,B,C]
 | .lt x a b,d=>(bL a d).bind λA=>bL b<|d++[(x,A)]
 | .fn f x A B e,d=>if 1+A.n+B.n<=16 then(bL e<|d++[(f,.op true A B),(x,A)]).bind λC=>if lQ C B then some (.op true A B) else none else none
theorem rJ:∀(e:Ex) (j g:Sc),(∀s,eJ s=true->Fv s e->look j s=look g s)->bL e j=bL e g
 | .at s,j,g,h=>by
  unfold bL;by_cases d:eJ s=true
  .rw[iP d,iP d];exact h s d ⟨rfl,d⟩
  .rw[iN d,iN d]
 | .un o a,j,g,h=>by unfold bL;rw[rJ a j g h]
 | .bi o a b,j,g,h=>by unfold bL;rw[rJ a j g λs d i=>h s d<|.inl i,rJ b j g λs d i=>h s d (.inr i)]
 | .ite a b c,j,g,h=>by unfold bL;rw[rJ a j g λs d i=>h s d<|.inl i,rJ b j g λs d i=>h s d (.inr<|.inl i),rJ c j g λs d i=>h s d (.inr<|.inr i)]
 | .lt x a b,j,g,h=>by
  unfold bL;rw[rJ a j g λs d i=>h s d (.inl i)];cases bL a g with
  |none=>rfl
  |some A=>
   refine rJ b _ _ λs d i=>?_;rw[p8,p8];by_cases e:x=s
   .rw[iP e,iP e]
   .rw[iN e,iN e];exact h s d<|.inr ⟨λm=>e m.symm,i⟩
 | .fn f x A B e,j,g,h=>by
  unfold bL;rw[rJ e _ (g++[(f,.op true A B),(x,A)]) λs d i=>?_];rw[B0,B0];by_cases l:x=s
  .rw[iP l,iP l]
  .by_cases n:f=s
   .rw[iN l,iN l,iP n,iP n]
   .rw[iN l,iN l,iN n,iN n];exact h s d ⟨λm=>n m.symm,λm=>l m.symm,i⟩
def zV (a:Sc):Prop:=∀s T,look a s=some T->T.n<=16
theorem Iw {a:Sc} (h:zV a) {x:ak} {T:Ty} (b:T.n<=16):zV (a++[(x,T)]):=by grind [zV,Ty.n,Ex.n,p8]
theorem Pu:∀{j:List Ty} {T:Ty},(∀k∈j,k.n<=16)->lS h j=some T->T.n<=16
 |[],T,_,e=>by cases e
 |[a],T,hk,e=>by
  have g:=hk a sm;cases a with
  |i=>cases e
  |op f c d=>
   cases f with
   |true=>cases e
   |false=>
    simp only[Ty.n] at g;simp only[lS] at e;split at e
    .cases e;omega
    .split at e
     .cases e;omega
     .cases e
 |[a,b],T,hk,e=>by
  have g:=hk a sm;have hb:=hk b sm;simp only[lS] at e;split at e
  .cases a with
   |i=>cases e
   |op f c d=>
    cases f with
    |false=>cases e
    |true=>
     simp only at e;split at e
     .cases e;simp only[Ty.n] at g;omega
     .cases e
  .split at e
   .split at e
    .rename_i l;cases e;simpa[Ty.n] using l
    .cases e
   .split at e
    .cases e;decide
    .cases e
 |[a,b,c],T,hk,e=>by
  simp only[lS] at e;split at e
  .cases e;exact hk b sm
  .cases e
 |_::_::_::_::_,T,_,e=>by cases e
theorem mH:∀{e:Ex} {Γ:Sc} {T:Ty},zV Γ->bL e Γ=some T->T.n<=16
 | .at s,Γ,T,d,h=>by
  unfold bL at h;split at h
  .exact d s T h
  .cases h;decide
 | .un l a,Γ,T,d,h=>by
  unfold bL at h;cases g:bL a Γ with
  |none=>rw[g] at h;cases h
  |some A=>rw[g,Option.bind_some] at h;exact Pu (λk hk=>by simp at hk;rw[hk];exact mH d g) h
 | .bi l a b,Γ,T,d,h=>by
  unfold bL at h;cases g:bL a Γ with
  |none=>rw[g] at h;cases h
  |some A=>
   cases hb:bL b Γ with
   |none=>rw[g,hb] at h;cases h
   |some B=>rw[g,hb,Option.bind_some,Option.bind_some] at h;exact Pu (λk hk=>by simp at hk;rcases hk with rfl|rfl;exact mH d g;exact mH d hb) h
 | .ite a b c,Γ,T,d,h=>by
  unfold bL at h;cases g:bL a Γ with
  |none=>rw[g] at h;cases h
  |some A=>
   cases hb:bL b Γ with
   |none=>rw[g,hb] at h;cases h
   |some B=>
    cases i:bL c Γ with
    |none=>rw[g,hb,i] at h;cases h
    |some C=>rw[g,hb,i,Option.bind_some,Option.bind_some,Option.bind_some] at h;exact Pu (λk hk=>by simp at hk;rcases hk with rfl|rfl|rfl;exact mH d g;exact mH d hb;exact mH d i) h
 | .lt x a b,Γ,T,d,h=>by
  unfold bL at h;cases g:bL a Γ with
  |none=>rw[g] at h;cases h
  |some A=>rw[g,Option.bind_some] at h;exact mH (Iw d<|mH d g) h
 | .fn f x A B e,Γ,T,d,h=>by
  unfold bL at h;split at h
  .rename_i i;cases j:bL e (Γ++[(f,.op true A B),(x,A)]) with
   |none=>rw[j] at h;cases h
   |some C=>
    rw[j,Option.bind_some] at h;split at h
    .cases h;simpa[Ty.n] using i
    .cases h
  .cases h
/-! ### rv aN -/
theorem aic (n:Nat):val (aS n)=n:=by
 induction n using Nat.strongRecOn with
 |_ n b=>
  have a:∀k,k<10->(UInt8.ofNat (48+k)).toNat=48+k:=λk hk=>by rw[UInt8.toNat_ofNat'];exact Nat.mod_eq_of_lt om
  unfold aS;by_cases h:n<10
  .rw[iP h];show 10*0+((UInt8.ofNat<|48+n).toNat-48)=n;rw[a n h];omega
  .rw[iN h,TU,b (n/10) om,a (n%10) om];omega
theorem aid {n:Nat} (h:aS n=aS m):n=m:=by grind [aic]
def di (c:UInt8) (k:Nat):ak:=c::aS k
theorem qO {j:Nat} (h:di c k=di c j):k=j:=by grind [aid,di]
theorem Pv {b:Type} [BEq b] [LawfulBEq b]:∀{l m:List b},l.Nodup->(∀x∈l,x∈m)->l.length<=m.length
 |[],m,_,_=>by simp
 |a::l,m,hn,hs=>by rw[List.nodup_cons] at hn;have c:=hs a sm;have:=Pv (l:=l) (m:=m.erase a) hn.2 λx d=>(List.mem_erase_of_ne (fun(e:x=a)=>hn.1<|e▸d)).2 (hs x<|by simp[d]);rw[List.length_erase_of_mem c] at this;have:=List.length_pos_of_mem c;simp only[lC];omega
def qP (c:UInt8) (b:List ak):Nat->Nat->Nat
 |0,n=>n
 |a+1,n=>if di c n∈b then qP c b a (n+1) else n
def bF (c:UInt8) (a:List ak) (n:Nat):Nat:=qP c a (a.length+1) n
theorem aie (c:UInt8) (b:List ak):∀a n,n<=qP c b a n/\qP c b a n<=n+a:=by intro x;induction x<;>grind [qP]
theorem VC (c:UInt8) (b:List ak):∀a n,di c (qP c b a n)∉b\/∀j,j<a->di c (n+j)∈b
 |0,n=>.inr λj e=>by omega
 |a+1,n=>by
  unfold qP;split
  .rename_i h;rcases VC c b a (n+1) with d|d
   .exact .inl d
   .refine .inr λj e=>?_;cases j with
    |zero=>exact h
    |succ j=>have:=d j om;rw[show n+(j+1)=n+1+j from by omega];exact this
  .rename_i h;exact .inl h
theorem Lm (c:UInt8) (d:List ak) (n:Nat):di c (bF c d n)∉d:=by
 rcases VC c d (d.length+1) n with h|h
 .exact h
 .exfalso;have i:((List.range<|d.length+1).map λj=>di c<|n+j).Nodup:=by
   rw[List.nodup_iff_pairwise_ne,List.pairwise_map];refine List.Pairwise.imp ?_<|List.nodup_iff_pairwise_ne.1 List.nodup_range;intro a b f e;exact f (by have:=qO e;omega)
  have:=Pv i (m:=d) (λx l=>by obtain⟨j,g,rfl⟩:=List.mem_map.1 l;exact h j<|List.mem_range.1 g);simp at this;omega
theorem pz (c:UInt8) (a:List ak) (n:Nat):n<=bF c a n/\bF c a n<=n+a.length+1:=by grind [aie,dy.length,bF]
theorem VD {a:List ak} {n:Nat} (h:di c n∈a):bF c a n=bF c a (n+1):=by
 have j:∀f g n,di c (qP c a f n)∉a->di c (qP c a g n)∉a->qP c a f n=qP c a g n:=by
  intro f;induction f with
  |zero=>
   intro g n b d;cases g with
   |zero=>rfl
   |succ g=>unfold qP at b⊢;rw[iN b]
  |succ f l=>
   intro g n b d;cases g with
   |zero=>unfold qP at d⊢;rw[iN d]
   |succ g=>
    unfold qP at b d⊢;by_cases i:di c n∈a
    .rw[iP i] at b d⊢;rw[iP i];exact l g (n+1) b d
    .rw[iN i,iN i]
 have e:bF c a n=qP c a a.length (n+1):=by
  unfold bF
  conv=>lhs;unfold qP
  rw[iP h]
 have b:=Lm c a n;rw[e] at b⊢;exact j _ _ _ b (Lm c a<|n+1)
theorem VE {a:List ak} {n:Nat} (h:di c n∉a):bF c a n=n:=by unfold bF qP;rw[iN h]
theorem B1 (e:97<=c/\c<=122) (hk:k<1000):eJ (di c k)=true:=by
 have a:∀k,(aS k).all iJ=true:=λk=>by
  induction k using Nat.strongRecOn with
  |_ k f=>
   have a:∀j,j<10->iJ (UInt8.ofNat (48+j))=true:=by decide
   unfold aS;by_cases h:k<10
   .rw[iP h,List.all_cons,a k h];rfl
   .rw[iN h,List.all_append,f (k/10) om,List.all_cons,a (k%10) om];rfl
 have b:∀k,k<10->(aS k).length=1:=λk hk=>by unfold aS;rw[iP hk];rfl
 have d:∀k,k<100->(aS k).length<=2:=λk hk=>by
  unfold aS;split
  .simp
  .have:=b (k/10) om;simp;omega
 have g:(aS k).length<=3:=by
  unfold aS;split
  .simp
  .have:=d (k/10) om;simp;omega
 unfold eJ di;simp only[lC,List.getD_cons_zero,List.drop_succ_cons,List.drop_zero,a k,Bool.and_true,aE,dE];exact⟨⟨by omega,om⟩,e⟩
/-! ### Bound aN renamed -/
abbrev Rn:=List<|ak×ak
def rK (a:Rn) (s:ak):ak:=((a.reverse.find? λp=>decide<|p.1=s).map Prod.snd).getD s
theorem Pw (a:Rn) (x y s:ak):rK (a++[(x,y)]) s=if x=s then y else rK a s:=by grind [rK]
theorem VF (a:Rn) (f x s g y:ak):rK (a++[(f,g),(x,y)]) s=if x=s then y else if f=s then g else rK a s:=by grind [rK]
abbrev cx:UInt8:=120
def cB (d:List ak):Ex->Rn->Nat->Ex×Nat
 | .at s,g,n=>(.at<|if eJ s then rK g s else s,n)
 | .un h a,g,n=>(.un h (cB d a g n).1,(cB d a g n).2)
 | .bi h a b,g,n=>(.bi h (cB d a g n).1 (cB d b g (cB d a g n).2).1,(cB d b g (cB d a g n).2).2)
 | .ite a b c,g,n=>(.ite (cB d a g n).1 (cB d b g (cB d a g n).2).1 (cB d c g (cB d b g (cB d a g n).2).2).1,(cB d c g (cB d b g (cB d a g n).2).2).2)
 | .lt x a b,g,n=>(.lt (di cx<|bF cx d n) (cB d a g<|bF cx d n+1).1 (cB d b (g++[(x,di cx<|bF cx d n)]) (cB d a g<|bF cx d n+1).2).1,
   (cB d b (g++[(x,di cx<|bF cx d n)]) (cB d a g<|bF cx d n+1).2).2)
 | .fn f x A B e,g,n=>(.fn (di cx<|bF cx d n) (di cx (bF cx d<|bF cx d n+1)) A B (cB d e (g++[(f,di cx<|bF cx d n),(x,di cx (bF cx d<|bF cx d n+1))])<|bF cx d (bF cx d n+1)+1).1,
   (cB d e (g++[(f,di cx<|bF cx d n),(x,di cx (bF cx d<|bF cx d n+1))])<|bF cx d (bF cx d n+1)+1).2)
theorem jU (d:List ak):∀(e:Ex) (g:Rn) (n:Nat),n<=(cB d e g n).2/\(cB d e g n).2+(d.length+2)<=n+(e.n)*(d.length+2)+(d.length+2)
 | .at s,g,n=>by simp only[cB,Ex.n];omega
 | .un h a,g,n=>by have:=jU d a g n;simp only[cB,Ex.n,Nat.add_mul];omega
 | .bi h a b,g,n=>by have:=jU d a g n;have:=jU d b g (cB d a g n).2;simp only[cB,Ex.n,Nat.add_mul];omega
 | .ite a b c,g,n=>by have:=jU d a g n;have:=jU d b g (cB d a g n).2;have:=jU d c g (cB d b g (cB d a g n).2).2;simp only[cB,Ex.n,Nat.add_mul];omega
 | .lt x a b,g,n=>by have i:=pz cx d n;have:=jU d a g<|bF cx d n+1;have:=jU d b (g++[(x,di cx<|bF cx d n)]) (cB d a g<|bF cx d n+1).2;simp only[cB,Ex.n,Nat.add_mul];omega
 | .fn f x A B e,g,n=>by have i:=pz cx d n;have j:=pz cx d<|bF cx d n+1;have:=jU d e (g++[(f,di cx<|bF cx d n),(x,di cx (bF cx d<|bF cx d n+1))])<|bF cx d (bF cx d n+1)+1;simp only[cB,Ex.n,Nat.add_mul];omega
theorem VG (a:List ak):∀(e:Ex) (b:Rn) (n:Nat),(cB a e b n).1.n=e.n:=by intro x;induction x<;>grind [cB,Ty.n,Ex.n]
theorem yi (d:List ak):∀(e:Ex) (g:Rn) (n:Nat),e.ok->(cB d e g n).2<=1000->(∀s,eJ s=true->Fv s e->eJ (rK g s)=true)->(cB d e g n).1.ok
 | .at s,g,n,h,_,j=>by
  show rH _=true;by_cases i:eJ s=true
  .rw[iP i];unfold rH;rw[j s i ⟨rfl,i⟩];simp
  .rw[iN i];exact h
 | .un z a,g,n,h,m,j=>⟨h.1,yi d a g n h.2 m j⟩
 | .bi z a b,g,n,h,m,j=>by have p:=jU d b g (cB d a g n).2;simp only[cB] at m;exact⟨h.1,yi d a g n h.2.1 om λs i l=>j s i<|.inl l,yi d b g _ h.2.2 m λs i l=>j s i<|.inr l⟩
 | .ite a b c,g,n,h,m,j=>by have p:=jU d b g (cB d a g n).2;have E:=jU d c g (cB d b g (cB d a g n).2).2;simp only[cB] at m;exact⟨yi d a g n h.1 om λs i l=>j s i<|.inl l,yi d b g _ h.2.1 om λs i l=>j s i (.inr<|.inl l),yi d c g _ h.2.2 m λs i l=>j s i (.inr<|.inr l)⟩
 | .lt x a b,g,n,h,m,j=>by
  have u:=jU d a g<|bF cx d n+1;have p:=jU d b (g++[(x,di cx<|bF cx d n)]) (cB d a g<|bF cx d n+1).2;simp only[cB] at m;have hk:eJ (di cx<|bF cx d n)=true:=B1 de om;refine⟨hk,yi d a g _ h.2.1 om λs i l=>j s i<|.inl l,yi d b _ _ h.2.2 m λs i l=>?_⟩;rw[Pw];split
  .exact hk
  .rename_i e;exact j s i<|.inr ⟨λo=>e o.symm,l⟩
 | .fn f x A B e,g,n,h,m,j=>by
  have D:=pz cx d n;have u:=pz cx d<|bF cx d n+1;have p:=jU d e (g++[(f,di cx<|bF cx d n),(x,di cx (bF cx d<|bF cx d n+1))])<|bF cx d (bF cx d n+1)+1;simp only[cB] at m;have hk:eJ (di cx<|bF cx d n)=true:=B1 de om;have q:eJ (di cx (bF cx d<|bF cx d n+1))=true:=B1 de om;obtain⟨_,_,_,v,y,C⟩:=h;refine⟨hk,q,λe=>by have:=qO e;omega,v,y,yi d e _ _ C m λs i l=>?_⟩;rw[VF];split
  .exact q
  .rename_i r;split
   .exact hk
   .rename_i t;exact j s i ⟨λo=>t o.symm,λo=>r o.symm,l⟩
theorem yj (d:List ak):∀(e:Ex) (g:Rn) (n:Nat) (j m:Sc),(cB d e g n).2<=1000->(∀s,eJ s=true->Fv s e->eJ (rK g s)=true/\look m (rK g s)=look j s/\∀k,n<=k->rK g s≠di cx k)->bL (cB d e g n).1 m=bL e j
 | .at s,g,n,j,m,_,h=>by
  unfold cB bL;by_cases i:eJ s=true
  .obtain⟨y,z,_⟩:=h s i ⟨rfl,i⟩;rw[iP i,iP i,iP y,z]
  .rw[iN i,iN i,iN i]
 | .un E a,g,n,j,m,p,h=>by unfold cB bL;rw[yj d a g n j m p h]
 | .bi E a b,g,n,j,m,p,h=>by have y:=jU d a g n;have z:=jU d b g (cB d a g n).2;simp only[cB] at p;unfold cB bL;rw[yj d a g n j m om λs i l=>h s i<|.inl l,yj d b g _ j m p λs i l=>?_];obtain⟨q,r,o⟩:=h s i<|.inr l;exact⟨q,r,λk hk=>o k om⟩
 | .ite a b c,g,n,j,m,p,h=>by
  have y:=jU d a g n;have z:=jU d b g (cB d a g n).2;have F:=jU d c g (cB d b g (cB d a g n).2).2;simp only[cB] at p;unfold cB bL;rw[yj d a g n j m om λs i l=>h s i<|.inl l,yj d b g _ j m om λs i l=>?_,yj d c g _ j m p λs i l=>?_]
  .obtain⟨q,r,o⟩:=h s i (.inr<|.inr l);exact⟨q,r,λk hk=>o k om⟩
  .obtain⟨q,r,o⟩:=h s i (.inr<|.inl l);exact⟨q,r,λk hk=>o k om⟩
 | .lt x a b,g,n,j,m,p,h=>by
  have C:=pz cx d n;have y:=jU d a g<|bF cx d n+1;have z:=jU d b (g++[(x,di cx<|bF cx d n)]) (cB d a g<|bF cx d n+1).2;simp only[cB] at p;have hk:eJ (di cx<|bF cx d n)=true:=B1 de om;unfold cB bL;rw[yj d a g _ j m om λs i l=>?_]
  .cases bL a j with
   |none=>rfl
   |some A=>
    refine yj d b _ _ _ _ p λs i l=>?_;rw[Pw,p8 j];by_cases e:x=s
    .rw[iP e,iP e,p8,iP rfl];exact⟨hk,rfl,λk hk e=>by have:=qO e;omega⟩
    .rw[iN e,iN e];obtain⟨q,r,o⟩:=h s i<|.inr ⟨λu=>e u.symm,l⟩;rw[p8,iN λe=>o _ C.1 e.symm];exact⟨q,r,λk hk=>o k om⟩
  .obtain⟨q,r,o⟩:=h s i<|.inl l;exact⟨q,r,λk hk=>o k om⟩
 | .fn f x A B e,g,n,j,m,p,h=>by
  have C:=pz cx d n;have y:=pz cx d<|bF cx d n+1;have z:=jU d e (g++[(f,di cx<|bF cx d n),(x,di cx (bF cx d<|bF cx d n+1))])<|bF cx d (bF cx d n+1)+1;simp only[cB] at p;have hk:eJ (di cx<|bF cx d n)=true:=B1 de om;have D:eJ (di cx (bF cx d<|bF cx d n+1))=true:=B1 de om;unfold cB bL;rw[yj d e _ _ (j++[(f,.op true A B),(x,A)]) _ p λs i l=>?_];rw[VF,B0 j];by_cases t:x=s
  .rw[iP t,iP t,B0,iP rfl];exact⟨D,rfl,λk hk e=>by have:=qO e;omega⟩
  .by_cases v:f=s
   .rw[iN t,iN t,iP v,iP v,B0,iN λe=>by have:=qO e;omega,iP rfl];exact⟨hk,rfl,λk hk e=>by have:=qO e;omega⟩
   .rw[iN t,iN t,iN v,iN v];obtain⟨q,r,o⟩:=h s i ⟨λu=>v u.symm,λu=>t u.symm,l⟩;rw[B0,iN λe=>o _ om e.symm,iN λe=>o _ C.1 e.symm];exact⟨q,r,λk hk=>o k om⟩
/-! ### The aN that are bound -/
def fH:Ex->List ak
 | .at _=>[]
 | .un _ a=>fH a
 | .bi _ a b=>fH a++fH b
 | .ite a b c=>fH a++(fH b++fH c)
 | .lt x a b=>x::(fH a++fH b)
 | .fn f x _ _ e=>f::x::fH e
theorem yk (d:List ak):∀(e:Ex) (i:Rn) (n:Nat),(fH (cB d e i n).1).Nodup/\∀y,y∈fH (cB d e i n).1->∃k,y=di cx k/\n<=k/\k<(cB d e i n).2
 | .at s,i,n=>by simp[cB,fH]
 | .un D a,i,n=>yk d a i n
 | .bi D a b,i,n=>by
  have v:=jU d a i n;have z:=jU d b i (cB d a i n).2;obtain⟨r,m⟩:=yk d a i n;obtain⟨t,o⟩:=yk d b i (cB d a i n).2;simp only[cB,fH];refine⟨List.nodup_append.2 ⟨r,t,λx l y g e=>?_⟩,λy g=>?_⟩
  .obtain⟨k,rfl,_,hk⟩:=m x l;obtain⟨j,rfl,u,_⟩:=o y g;have:=qO e;omega
  .rcases mA.1 g with g|g
   .obtain⟨k,e,p,q⟩:=m y g;exact⟨k,e,p,om⟩
   .obtain⟨k,e,p,q⟩:=o y g;exact⟨k,e,om,q⟩
 | .ite a b c,i,n=>by
  have v:=jU d a i n;have z:=jU d b i (cB d a i n).2;have E:=jU d c i (cB d b i (cB d a i n).2).2;obtain⟨r,m⟩:=yk d a i n;obtain⟨t,o⟩:=yk d b i (cB d a i n).2;obtain⟨c1,c2⟩:=yk d c i (cB d b i (cB d a i n).2).2;simp only[cB,fH];refine⟨List.nodup_append.2 ⟨r,List.nodup_append.2 ⟨t,c1,λx l y g e=>?_⟩,λx l y g e=>?_⟩,λy g=>?_⟩
  .obtain⟨k,rfl,_,hk⟩:=o x l;obtain⟨j,rfl,u,_⟩:=c2 y g;have:=qO e;omega
  .obtain⟨k,rfl,_,hk⟩:=m x l;rcases mA.1 g with g|g
   .obtain⟨j,rfl,u,_⟩:=o y g;have:=qO e;omega
   .obtain⟨j,rfl,u,_⟩:=c2 y g;have:=qO e;omega
  .rcases mA.1 g with g|g
   .obtain⟨k,e,p,q⟩:=m y g;exact⟨k,e,p,om⟩
   .rcases mA.1 g with g|g
    .obtain⟨k,e,p,q⟩:=o y g;exact⟨k,e,om,om⟩
    .obtain⟨k,e,p,q⟩:=c2 y g;exact⟨k,e,om,q⟩
 | .lt x a b,i,n=>by
  have C:=pz cx d n;have v:=jU d a i<|bF cx d n+1;have z:=jU d b (i++[(x,di cx<|bF cx d n)]) (cB d a i<|bF cx d n+1).2;obtain⟨r,m⟩:=yk d a i<|bF cx d n+1;obtain⟨t,o⟩:=yk d b (i++[(x,di cx<|bF cx d n)]) (cB d a i<|bF cx d n+1).2;simp only[cB,fH];refine⟨List.nodup_cons.2 ⟨λl=>?_,List.nodup_append.2 ⟨r,t,λx l y g e=>?_⟩⟩,λy g=>?_⟩
  .rcases mA.1 l with l|l
   .obtain⟨k,e,p,q⟩:=m _ l;have:=qO e;omega
   .obtain⟨k,e,p,q⟩:=o _ l;have:=qO e;omega
  .obtain⟨k,rfl,_,hk⟩:=m x l;obtain⟨j,rfl,u,_⟩:=o y g;have:=qO e;omega
  .rcases mC.1 g with rfl|g
   .exact⟨_,rfl,om,om⟩
   .rcases mA.1 g with g|g
    .obtain⟨k,e,p,q⟩:=m y g;exact⟨k,e,om,om⟩
    .obtain⟨k,e,p,q⟩:=o y g;exact⟨k,e,om,q⟩
 | .fn f x A B e,i,n=>by
  have C:=pz cx d n;have v:=pz cx d<|bF cx d n+1;have z:=jU d e (i++[(f,di cx<|bF cx d n),(x,di cx (bF cx d<|bF cx d n+1))])<|bF cx d (bF cx d n+1)+1;obtain⟨r,m⟩:=yk d e (i++[(f,di cx<|bF cx d n),(x,di cx (bF cx d<|bF cx d n+1))])<|bF cx d (bF cx d n+1)+1;simp only[cB,fH];refine⟨List.nodup_cons.2 ⟨λl=>?_,List.nodup_cons.2 ⟨λl=>?_,r⟩⟩,λy g=>?_⟩
  .rcases mC.1 l with l|l
   .have:=qO l;omega
   .obtain⟨k,e,p,q⟩:=m _ l;have:=qO e;omega
  .obtain⟨k,e,p,q⟩:=m _ l;have:=qO e;omega
  .rcases mC.1 g with rfl|g
   .exact⟨_,rfl,om,om⟩
   .rcases mC.1 g with rfl|g
    .exact⟨_,rfl,om,om⟩
    .obtain⟨k,e,p,q⟩:=m y g;exact⟨k,e,om,q⟩
theorem qQ:∀{e:Ex} {g:Sc} {T:Ty},bL e g=some T->Fv s e->(look g s).isSome=true
 | .at x,g,T,h,d=>by obtain⟨rfl,r⟩:=d;unfold bL at h;rw[iP r] at h;rw[h];rfl
 | .un q a,g,T,h,d=>by
  unfold bL at h;cases i:bL a g with
  |none=>rw[i] at h;cases h
  |some A=>exact qQ i d
 | .bi q a b,g,T,h,d=>by
  unfold bL at h;cases i:bL a g with
  |none=>rw[i] at h;cases h
  |some A=>
   cases hb:bL b g with
   |none=>rw[i,hb] at h;cases h
   |some B=>exact d.elim (qQ i)<|qQ hb
 | .ite a b c,g,T,h,d=>by
  unfold bL at h;cases i:bL a g with
  |none=>rw[i] at h;cases h
  |some A=>
   cases hb:bL b g with
   |none=>rw[i,hb] at h;cases h
   |some B=>
    cases j:bL c g with
    |none=>rw[i,hb,j] at h;cases h
    |some C=>exact d.elim (qQ i) λd=>d.elim (qQ hb)<|qQ j
 | .lt x a b,g,T,h,d=>by
  unfold bL at h;cases i:bL a g with
  |none=>rw[i] at h;cases h
  |some A=>
   rw[i,Option.bind_some] at h;rcases d with d|⟨m,d⟩
   .exact qQ i d
   .have:=qQ h d;rw[p8,iN λe=>m e.symm] at this;exact this
 | .fn f x A B e,g,T,h,d=>by
  unfold bL at h;split at h
  .cases l:bL e (g++[(f,.op true A B),(x,A)]) with
   |none=>rw[l] at h;cases h
   |some C=>obtain⟨n,o,p⟩:=d;have:=qQ l p;rw[B0,iN λe=>o e.symm,iN λe=>n e.symm] at this;exact this
  .cases h
abbrev Bs:=List<|ak×Ex
abbrev cy:UInt8:=121
def nest (bs:Bs) (e:Ex):Ex:=bs.foldr (λp e=>.lt p.1 p.2 e) e
def dW (ai:List ak) (r:Bs×Ex×Nat):Bs×Ex×Nat:=
 if r.2.1.ju=true then r else(r.1++[(di cy<|bF cy ai r.2.2,r.2.1)],.at (di cy<|bF cy ai r.2.2),bF cy ai r.2.2+1)
def bg (ai:List ak):Ex->Nat->Bs×Ex×Nat
 | .at s,n=>([],.at s,n)
 | .un h a,n=>((dW ai<|bg ai a n).1,.un h (dW ai<|bg ai a n).2.1,(dW ai<|bg ai a n).2.2)
 | .bi h a b,n=>((dW ai<|bg ai a n).1++(dW ai<|bg ai b (dW ai<|bg ai a n).2.2).1,.bi h (dW ai<|bg ai a n).2.1 (dW ai<|bg ai b (dW ai<|bg ai a n).2.2).2.1,(dW ai<|bg ai b (dW ai<|bg ai a n).2.2).2.2)
 | .ite a b c,n=>((dW ai<|bg ai a n).1,.ite (dW ai<|bg ai a n).2.1 (nest (bg ai b (dW ai<|bg ai a n).2.2).1 (bg ai b (dW ai<|bg ai a n).2.2).2.1)
   (nest (bg ai c (bg ai b (dW ai<|bg ai a n).2.2).2.2).1 (bg ai c (bg ai b (dW ai<|bg ai a n).2.2).2.2).2.1),(bg ai c (bg ai b (dW ai<|bg ai a n).2.2).2.2).2.2)
 | .lt x a b,n=>((bg ai a n).1++(x,(bg ai a n).2.1)::(bg ai b (bg ai a n).2.2).1,(bg ai b (bg ai a n).2.2).2.1,(bg ai b (bg ai a n).2.2).2.2)
 | .fn f x A B e,n=>([],.fn f x A B<|nest (bg ai e n).1 (bg ai e n).2.1,(bg ai e n).2.2)
def og (a:List ak) (e:Ex) (n:Nat):Ex:=nest (bg a e n).1 (bg a e n).2.1
/-! ### How many aN -/
theorem rL (a:List ak) (r:Bs×Ex×Nat):r.2.2<=(dW a r).2.2/\(dW a r).2.2<=r.2.2+a.length+2:=by grind [dW,pz]
theorem jj (d:List ak):∀(e:Ex) (n:Nat),n<=(bg d e n).2.2/\(bg d e n).2.2+2*(d.length+2)<=n+e.n*(2*(d.length+2))
 | .at s,n=>⟨lR _,by simp only[bg,Ex.n];omega⟩
 | .un h a,n=>by have:=jj d a n;have:=rL d<|bg d a n;simp only[bg,Ex.n,Nat.add_mul];omega
 | .bi h a b,n=>by have:=jj d a n;have:=rL d<|bg d a n;have:=jj d b (dW d<|bg d a n).2.2;have:=rL d<|bg d b (dW d<|bg d a n).2.2;simp only[bg,Ex.n,Nat.add_mul];omega
 | .ite a b c,n=>by have:=jj d a n;have:=rL d<|bg d a n;have:=jj d b (dW d<|bg d a n).2.2;have:=jj d c (bg d b (dW d<|bg d a n).2.2).2.2;simp only[bg,Ex.n,Nat.add_mul];omega
 | .lt x a b,n=>by have:=jj d a n;have:=jj d b (bg d a n).2.2;simp only[bg,Ex.n,Nat.add_mul];omega
 | .fn f x A B e,n=>by have:=jj d e n;simp only[bg,Ex.n,Nat.add_mul];omega
/-! ### Types -/
def sy:Bs->Sc->Option Sc
 |[],a=>some a
 |(x,s)::bs,a=>(bL s a).bind λT=>sy bs<|a++[(x,T)]
theorem Lo (bs:Bs) (e:Ex) (a:Sc):bL (nest bs e) a=(sy bs a).bind (bL e):=by induction bs generalizing a<;>grind [bL,nest,sy]
theorem Px (bs b:Bs) (a:Sc):sy (bs++b) a=(sy bs a).bind (sy b):=by
 induction bs generalizing a with
 |nil=>rfl
 |cons p bs c=>
  obtain⟨x,s⟩:=p;show(bL s a).bind (λT=>sy (bs++b)<|a++[(x,T)])=((bL s a).bind λT=>sy bs<|a++[(x,T)]).bind (sy b);cases bL s a with
  |none=>rfl
  |some T=>exact c _
def Gb (a:Sc) (s:ak):Prop:=∀p∈a,p.1≠s
theorem Ix {a b:Sc} (h:Gb b s):look (a++b) s=look a s:=by grind [Gb,look]
def rv (a:List ak) (e:Ex) (n m:Nat) (y:ak):Prop:=y∈fH e\/∃k,y=di cy k/\n<=k/\k<m/\y∉a
structure Made (ai:List ak) (e:Ex) (n:Nat) (r:Bs×Ex×Nat) (Γ:Sc) (T:Ty) (Δ:Sc):Prop where
 binds:sy r.1 Γ=some (Γ++Δ)
 type:bL r.2.1 (Γ++Δ)=some T
 aN:∀p∈Δ,rv ai e n r.2.2 p.1
def B2 (a:List ak) (e:Ex) (n:Nat) (r:Bs×Ex×Nat):Prop:=∀s,(Fv s r.2.1\/∃p∈r.1,Fv s p.2)->Fv s e\/rv a e n r.2.2 s
structure VH (ai:List ak) (e:Ex):Prop where
 nodup:(fH e).Nodup
 nofree:∀x,x∈fH e->¬Fv x e
 noted:∀x,x∈fH e\/Fv x e->x∈ai
theorem rv.more {a:List ak} {e b:Ex} {n c:Nat} {y:ak} (h:rv a e n m y) (hb:∀x,x∈fH e->x∈fH b) (f:c<=n) (d:m<=m'):rv a b c m' y:=by grind [rv,fH]
theorem B2.au {ai:List ak} {e:Ex} {n:Nat} {r:Bs×Ex×Nat} (h:B2 ai e n r) (a:n<=r.2.2):B2 ai e n (dW ai r):=by grind [B2,dW,Fv,rv,bF,pz,Lm]
theorem Py:∀(bs:Bs) (e:Ex) (s:ak),Fv s (nest bs e)->Fv s e\/∃p∈bs,Fv s p.2:=by intro x;induction x<;>grind [Fv,nest]
theorem B2.sub {a:List ak} {e e':Ex} {n n':Nat} {r:Bs×Ex×Nat} (h:B2 a e n r) (b:∀s,Fv s e->Fv s e'\/s∈fH e') (hb:∀x,x∈fH e->x∈fH e') (d:n'<=n) (c:r.2.2<=m') (f:Fv s r.2.1\/∃p∈r.1,Fv s p.2):Fv s e'\/rv a e' n' m' s:=by grind [B2,Fv,fH,rv]
theorem yl (d:List ak):∀(e:Ex) (n:Nat),B2 d e n (bg d e n)
 | .at s,n=>λs g=>g.elim .inl fun⟨p,i,_⟩=>by simp[bg] at i
 | .un m a,n=>λs g=>((yl d a n).au (jj d a n).1).sub (λs h=>.inl h) (λx h=>h) (lR _) (lR _) g
 | .bi m a b,n=>λs g=>by
  have l:=jj d a n;have o:=rL d<|bg d a n;have q:=jj d b (dW d<|bg d a n).2.2;have r:=rL d<|bg d b (dW d<|bg d a n).2.2;have j:=((yl d a n).au l.1).sub (e':=.bi m a b) (n':=n) (m':=(bg d (.bi m a b) n).2.2) (λs h=>.inl<|.inl h) (λx h=>mA.2<|.inl h) (lR _) (by simp only[bg];omega) (s:=s);have hb:=((yl d b (dW d<|bg d a n).2.2).au q.1).sub (e':=.bi m a b) (n':=n) (m':=(bg d (.bi m a b) n).2.2) (λs h=>.inl<|.inr h) (λx h=>mA.2<|.inr h) om (by simp only[bg];omega) (s:=s);rcases g with(g|g)|⟨p,i,g⟩
  .exact j<|.inl g
  .exact hb<|.inl g
  .rcases mA.1 i with i|i
   .exact j<|.inr ⟨p,i,g⟩
   .exact hb<|.inr ⟨p,i,g⟩
 | .ite a b c,n=>λs g=>by
  have l:=jj d a n;have o:=rL d<|bg d a n;have q:=jj d b (dW d<|bg d a n).2.2;have r:=jj d c (bg d b (dW d<|bg d a n).2.2).2.2;have j:=((yl d a n).au l.1).sub (e':=.ite a b c) (n':=n) (m':=(bg d (.ite a b c) n).2.2) (λs h=>.inl<|.inl h) (λx h=>mA.2<|.inl h) (lR _) (by simp only[bg];omega) (s:=s);have hb:=(yl d b (dW d<|bg d a n).2.2).sub (e':=.ite a b c) (n':=n) (m':=(bg d (.ite a b c) n).2.2) (λs h=>.inl (.inr<|.inl h)) (λx h=>mA.2<|.inr (mA.2<|.inl h)) om (by simp only[bg];omega) (s:=s);have t:=(yl d c (bg d b (dW d<|bg d a n).2.2).2.2).sub (e':=.ite a b c) (n':=n) (m':=(bg d (.ite a b c) n).2.2) (λs h=>.inl (.inr<|.inr h)) (λx h=>mA.2<|.inr (mA.2<|.inr h)) om (by simp only[bg];omega) (s:=s);rcases g with(g|g|g)|⟨p,i,g⟩
  .exact j<|.inl g
  .exact hb<|Py _ _ _ g
  .exact t<|Py _ _ _ g
  .exact j<|.inr ⟨p,i,g⟩
 | .lt x a b,n=>λs g=>by
  have l:=jj d a n;have q:=jj d b (bg d a n).2.2;have j:=(yl d a n).sub (e':=.lt x a b) (n':=n) (m':=(bg d (.lt x a b) n).2.2) (λs h=>.inl<|.inl h) (λy h=>mK _ (mA.2<|.inl h)) (lR _) (by simp only[bg];omega) (s:=s);have hb:=(yl d b (bg d a n).2.2).sub (e':=.lt x a b) (n':=n) (m':=(bg d (.lt x a b) n).2.2) (λs h=>by
   by_cases e:s=x
   .exact .inr (by rw[e];exact List.mem_cons_self ..)
   .exact .inl<|.inr ⟨e,h⟩) (λy h=>mK _ (mA.2<|.inr h)) om (by simp only[bg];omega) (s:=s)
  rcases g with g|⟨p,i,g⟩
  .exact hb<|.inl g
  .rcases mA.1 i with i|i
   .exact j<|.inr ⟨p,i,g⟩
   .rcases mC.1 i with rfl|i
    .exact j<|.inl g
    .exact hb<|.inr ⟨p,i,g⟩
 | .fn f x A B e,n=>λs g=>by
  rcases g with⟨l,o,g⟩|⟨p,i,_⟩
  .rcases yl d e n s (Py _ _ _ g) with h|h
   .exact .inl ⟨l,o,h⟩
   .exact .inr (h.more (λy u=>mK _<|mK _ u) (lR _)<|lR _)
  .simp[bg] at i
theorem Made.au {ai:List ak} {e:Ex} {n:Nat} {r:Bs×Ex×Nat} {c:Sc} {T:Ty} {b:Sc} (h:Made ai e n r c T b) (m:n<=r.2.2) (d:(dW ai r).2.2<=1000):∃f,Made ai e n (dW ai r) c T f:=by
 unfold dW at d⊢;have l:=pz cy ai r.2.2;have j:=Lm cy ai r.2.2;split
 .exact⟨b,h⟩
 .rename_i g;rw[iN g] at d;have hk:eJ (di cy<|bF cy ai r.2.2)=true:=B1 de (by dsimp only at d;omega);refine⟨b++[(di cy<|bF cy ai r.2.2,T)],⟨?_,?_,?_⟩⟩
  .rw[Px,h.binds,Option.bind_some];show(bL r.2.1<|c++b).bind _=_;rw[h.type,Option.bind_some,List.append_assoc];rfl
  .show(if eJ (di cy<|bF cy ai r.2.2)=true then look (c++(b++[(di cy<|bF cy ai r.2.2,T)])) (di cy<|bF cy ai r.2.2) else some Ty.i)=some T;rw[iP hk,<-List.append_assoc,p8,iP rfl]
  .intro p a;rcases mA.1 a with a|a
   .exact(h.aN p a).more (λx i=>i) (lR _) (by dsimp only;omega)
   .simp only[List.mem_singleton] at a;subst a;exact .inr ⟨_,rfl,om,by dsimp only;omega,j⟩
theorem Lp {b:List ak} {a:Ex} {n:Nat} {c:Sc} (h:∀p∈c,rv b a n m p.1) (d:s∉fH a) (e:s∈b):Gb c s:=by grind [rv,fH,Gb]
theorem aif {c:List ak} {a b:Ex} {n:Nat} {d:Sc} (j:Fv s a\/rv c a n m s) (h:∀p∈d,rv c b m m' p.1) (e:∀x,x∈fH b->¬Fv x a) (f:∀x,x∈fH b->x∉fH a) (g:∀x,x∈fH b->x∈c) (i:∀x,x∈fH a\/Fv x a->x∈c):Gb d s:=by grind [Fv,rv,fH,Gb,qO]
theorem made (d:List ak):∀(e:Ex) (n:Nat) (l:Sc) (T:Ty),VH d e->(bg d e n).2.2<=1000->bL e l=some T->∃Δ,Made d e n (bg d e n) l T Δ
 | .at s,n,l,T,m,E,h=>⟨[],⟨by simp[bg,sy],by simpa[bg] using h,sm⟩⟩
 | .un hd a,n,l,T,m,E,h=>by
  have P:=jj d a n;have h2:=rL d<|bg d a n;simp only[bg] at E;unfold bL at h;cases z:bL a l with
  |none=>rw[z] at h;cases h
  |some A=>rw[z,Option.bind_some] at h;obtain⟨Δ,hΔ⟩:=made d a n l A ⟨m.nodup,m.nofree,m.noted⟩ om z;obtain⟨Y,L⟩:=hΔ.au P.1 E;refine⟨Y,⟨L.binds,?_,L.aN⟩⟩;show(bL (dW d<|bg d a n).2.1<|l++Y).bind (λA=>lS hd [A])=some T;rw[L.type,Option.bind_some];exact h
 | .bi hd a b,n,l,T,m,E,h=>by
  have P:=jj d a n;have h2:=rL d<|bg d a n;have h3:=jj d b (dW d<|bg d a n).2.2;have h4:=rL d<|bg d b (dW d<|bg d a n).2.2;have p9:=(yl d a n).au P.1;simp only[bg] at E;unfold bL at h;cases z:bL a l with
  |none=>rw[z] at h;cases h
  |some A=>
   cases hb:bL b l with
   |none=>rw[z,hb] at h;cases h
   |some B=>
    rw[z,hb,Option.bind_some,Option.bind_some] at h;have K:=List.nodup_append.1 m.nodup;obtain⟨t,o⟩:=made d a n l A ⟨K.1,λx i D=>m.nofree x (mA.2<|.inl i)<|.inl D,λx i=>m.noted x<|i.imp (λh=>mA.2<|.inl h) .inl⟩ om z;obtain⟨g,j⟩:=o.au P.1 om;have U:bL b (l++g)=some B:=by rw[<-hb];refine rJ b _ _ λs Z J=>Ix (Lp j.aN (λi=>m.nofree s (mA.2<|.inl i)<|.inr J)<|m.noted s (.inr<|.inr J))
    obtain⟨M,q⟩:=made d b (dW d<|bg d a n).2.2 (l++g) B ⟨K.2.1,λx i D=>m.nofree x (mA.2<|.inr i)<|.inr D,λx i=>m.noted x<|i.imp (λh=>mA.2<|.inr h) .inr⟩ om U;obtain⟨H,v⟩:=q.au h3.1 E;refine⟨g++H,⟨?_,?_,?_⟩⟩
    .show sy (_++_) l=_;rw[Px,j.binds,Option.bind_some,v.binds,List.append_assoc]
    .show(bL (dW d<|bg d a n).2.1<|l++(g++H)).bind (λA=>(bL (dW d<|bg d b (dW d<|bg d a n).2.2).2.1<|l++(g++H)).bind λB=>lS hd [A,B])=some T;have O:bL (dW d<|bg d a n).2.1 (l++(g++H))=some A:=by
      rw[<-j.type,<-List.append_assoc];refine rJ _ _ _ λs Z J=>Ix<|aif (p9 s<|.inl J) v.aN ?_ ?_ ?_ ?_
      .exact λx i D=>m.nofree x (mA.2<|.inr i)<|.inl D
      .exact λx i eX=>K.2.2 x eX x i rfl
      .exact λx i=>m.noted x<|.inl (mA.2<|.inr i)
      .exact λx i=>m.noted x<|i.imp (λh=>mA.2<|.inl h) .inl
     rw[O,Option.bind_some,<-List.append_assoc,v.type,Option.bind_some];exact h
    .intro p F;rcases mA.1 F with F|F
     .exact(j.aN p F).more (λx i=>mA.2<|.inl i) (lR _) (by simp only[bg];omega)
     .exact(v.aN p F).more (λx i=>mA.2<|.inr i) om (by simp only[bg];omega)
 | .ite a b c,n,l,T,m,E,h=>by
  have P:=jj d a n;have h2:=rL d<|bg d a n;have h3:=jj d b (dW d<|bg d a n).2.2;have h4:=jj d c (bg d b (dW d<|bg d a n).2.2).2.2;simp only[bg] at E;unfold bL at h;cases z:bL a l with
  |none=>rw[z] at h;cases h
  |some A=>
   cases hb:bL b l with
   |none=>rw[z,hb] at h;cases h
   |some B=>
    cases S:bL c l with
    |none=>rw[z,hb,S] at h;cases h
    |some C=>
     rw[z,hb,S,Option.bind_some,Option.bind_some,Option.bind_some] at h;have K:=List.nodup_append.1 m.nodup;have VI:=List.nodup_append.1 K.2.1;have I:∀x,x∈fH b->x∈fH (.ite a b c):=λx i=>mA.2<|.inr (mA.2<|.inl i);have V:∀x,x∈fH c->x∈fH (.ite a b c):=λx i=>mA.2<|.inr (mA.2<|.inr i);have r:∀x,x∈fH a->x∈fH (.ite a b c):=λx i=>mA.2<|.inl i;obtain⟨t,o⟩:=made d a n l A ⟨K.1,λx i D=>m.nofree x (r x i)<|.inl D,λx i=>m.noted x<|i.imp (r x) .inl⟩ om z;obtain⟨g,j⟩:=o.au P.1 om;have U:bL b (l++g)=some B:=by rw[<-hb];refine rJ b _ _ λs Z J=>Ix<|Lp j.aN (λi=>m.nofree s (r s i) (.inr<|.inl J)) (m.noted s<|.inr (.inr<|.inl J))
     have qE:bL c (l++g)=some C:=by rw[<-S];refine rJ c _ _ λs Z J=>Ix<|Lp j.aN (λi=>m.nofree s (r s i) (.inr<|.inr J)) (m.noted s<|.inr (.inr<|.inr J))
     obtain⟨M,q⟩:=made d b (dW d<|bg d a n).2.2 (l++g) B ⟨VI.1,λx i D=>m.nofree x (I x i) (.inr<|.inl D),λx i=>m.noted x (i.imp (I x) λh=>.inr<|.inl h)⟩ om U;obtain⟨_,N⟩:=made d c (bg d b (dW d<|bg d a n).2.2).2.2 (l++g) C ⟨VI.2.1,λx i D=>m.nofree x (V x i) (.inr<|.inr D),λx i=>m.noted x (i.imp (V x) λh=>.inr<|.inr h)⟩ E qE;refine⟨g,⟨j.binds,?_,?_⟩⟩
     .show(bL (dW d<|bg d a n).2.1<|l++g).bind (λA=>(bL (nest _ _)<|l++g).bind λB=>(bL (nest _ _)<|l++g).bind λC=>lS iy [A,B,C])=some T;rw[j.type,Lo,Lo,q.binds,N.binds,Option.bind_some,Option.bind_some,Option.bind_some,q.type,N.type,Option.bind_some,Option.bind_some];exact h
     .exact λp F=>(j.aN p F).more r (lR _) (by simp only[bg];omega)
 | .lt x a b,n,l,T,m,E,h=>by
  have P:=jj d a n;have h3:=jj d b (bg d a n).2.2;simp only[bg] at E;unfold bL at h;cases z:bL a l with
  |none=>rw[z] at h;cases h
  |some A=>
   rw[z,Option.bind_some] at h;have Q:=List.nodup_cons.1 m.nodup;have K:=List.nodup_append.1 Q.2;have r:∀y,y∈fH a->y∈fH (.lt x a b):=λy u=>mK _ (mA.2<|.inl u);have I:∀y,y∈fH b->y∈fH (.lt x a b):=λy u=>mK _ (mA.2<|.inr u);have VJ:x∈fH (.lt x a b):=List.mem_cons_self ..;obtain⟨t,o⟩:=made d a n l A ⟨K.1,λy u D=>m.nofree y (r y u)<|.inl D,λy u=>m.noted y<|u.imp (r y) .inl⟩ om z;have U:bL b (l++(t++[(x,A)]))=some T:=by
    rw[<-h,<-List.append_assoc];refine rJ b _ _ λs Z J=>?_;rw[p8,p8];by_cases e:x=s
    .rw[iP e,iP e]
    .rw[iN e,iN e];have Gc:Fv s (.lt x a b):=.inr ⟨λe'=>e e'.symm,J⟩;exact Ix<|Lp o.aN (λi=>m.nofree s (r s i) Gc) (m.noted s<|.inr Gc)
   obtain⟨M,q⟩:=made d b (bg d a n).2.2 (l++(t++[(x,A)])) T ⟨K.2.1,λy u D=>by
    by_cases e:y=x
    .exact Q.1<|e▸mA.2 (.inr u)
    .exact m.nofree y (I y u)<|.inr ⟨e,D⟩,λy u=>by
    by_cases e:y=x
    .rw[e];exact m.noted x<|.inl VJ
    .exact m.noted y<|u.imp (I y) λh=>.inr ⟨e,h⟩⟩ E U
   refine⟨t++(x,A)::M,⟨?_,?_,?_⟩⟩
   .show sy (_++(x,_)::_) l=_;rw[Px,o.binds,Option.bind_some];show(bL (bg d a n).2.1<|l++t).bind (λT=>sy _<|(l++t)++[(x,T)])=_;rw[o.type,Option.bind_some,List.append_assoc,q.binds];simp
   .show bL (bg d b (bg d a n).2.2).2.1 _=some T;have:=q.type;rw[show l++(t++(x,A)::M)=l++(t++[(x,A)])++M from by simp];exact this
   .intro p F;rcases mA.1 F with F|F
    .exact(o.aN p F).more r (lR _) (by simp only[bg];omega)
    .rcases mC.1 F with rfl|F
     .exact .inl VJ
     .exact(q.aN p F).more I om (by simp only[bg];omega)
 | .fn f x A B e,n,l,T,m,E,h=>by
  simp only[bg] at E;unfold bL at h;split at h
  .rename_i S;cases he:bL e (l++[(f,.op true A B),(x,A)]) with
   |none=>rw[he] at h;cases h
   |some C=>
    rw[he,Option.bind_some] at h;have Q:=List.nodup_cons.1 m.nodup;have K:=List.nodup_cons.1 Q.2;have X:∀y,y∈fH e->y∈fH (.fn f x A B e):=λy u=>mK _<|mK _ u;obtain⟨t,o⟩:=made d e n (l++[(f,.op true A B),(x,A)]) C ⟨K.2,λy u D=>by
     by_cases O:y=x
     .exact K.1<|O▸u
     .by_cases R:y=f
      .exact Q.1<|R▸mK _ u
      .exact m.nofree y (X y u) ⟨R,O,D⟩,λy u=>by
     by_cases O:y=x
     .rw[O];exact m.noted x<|.inl (mK _<|List.mem_cons_self ..)
     .by_cases R:y=f
      .rw[R];exact m.noted f (.inl<|List.mem_cons_self ..)
      .exact m.noted y<|u.imp (X y) λh=>⟨R,O,h⟩⟩ E he
    refine⟨[],⟨by simp[bg,sy],?_,sm⟩⟩;show(if 1+A.n+B.n<=16 then(bL (nest (bg d e n).1 (bg d e n).2.1)<|(l++[])++[(f,.op true A B),(x,A)]).bind λC=>if lQ C B then some (.op true A B) else none else none)=some T;rw[iP S,List.append_nil,Lo,o.binds,Option.bind_some,o.type,Option.bind_some];exact h
  .cases h
theorem aih {b:List ak} {e:Ex} {n:Nat} {c:Sc} {T:Ty} (f:VH b e) (d:(bg b e n).2.2<=1000) (h:bL e c=some T):bL (og b e n) c=some T:=by obtain⟨_,a⟩:=made b e n c T f d h;unfold og;rw[Lo,a.binds,Option.bind_some,a.type]
/-! ### Atoms of a form -/
mutual
def mm:aq->List ak->List ak
 | .mk a ps,l=>if a≠[] then(if a∈l then l else l++[a]) else qd ps l
def qd:List aq->List ak->List ak
 |[],l=>l
 |t::ts,l=>qd ts<|mm t l
end
theorem VK (t:aq) (l:List ak):mm t l=if t.au≠[] then(if t.au∈l then l else l++[t.au]) else qd t.ag l:=by cases t with|mk a ps=>rw[mm];rfl
theorem aii:∀(xs a:List aq) (l:List ak),qd (xs++a) l=qd a (qd xs l):=by intro x;induction x<;>grind [qd]
theorem aij (h:ps[i]?=some p) (l:List ak):qd (ps.take<|i+1) l=mm p (qd (ps.take i) l):=by rw[List.take_add_one,h,aii];rfl
mutual
theorem aik {x:ak}:∀(t:aq) (l:List ak),x∈l->x∈mm t l
 | .mk a ps,l,h=>by
  unfold mm;split
  .split
   .exact h
   .exact mA.2<|.inl h
  .exact PA ps l h
theorem PA {x:ak}:∀(ps:List aq) (l:List ak),x∈l->x∈qd ps l
 |[],l,h=>h
 |t::ts,l,h=>by unfold qd;exact PA ts _<|aik t l h
end
mutual
theorem VL:∀(t:aq) (l:List ak),(mm t l).length<=l.length+gC t
 | .mk a ps,l=>by
  unfold mm gC;split
  .split
   .omega
   .simp
  .exact PB ps l
theorem PB:∀(ps:List aq) (l:List ak),(qd ps l).length<=l.length+ko ps
 |[],l=>by simp[qd,ko]
 |t::ts,l=>by have a:=VL t l;have b:=PB ts<|mm t l;unfold qd ko;omega
end
theorem ail {x:ak}:∀{ps:List aq} {l:List ak} {p:aq},p∈ps->(∀l,x∈mm p l)->x∈qd ps l:=by intro x;induction x<;>grind [qd,PA]
theorem Lq {x:ak} (a:x≠[]) (l:List ak):x∈mm (bI x) l:=by grind [mm,bI]
theorem vN {x:ak} {p:aq} (a:p∈ps) (h:∀l,x∈mm p l) (l:List ak):x∈mm (.mk [] ps) l:=by grind [mm,ail]
theorem ym {x:ak}:∀{e:Ex},e.ok->(x∈fH e\/Fv x e)->∀l,x∈mm e.av l
 | .at s,h,d,l=>by
  rcases d with d|⟨rfl,_⟩
  .simp[fH] at d
  .exact Lq (qN h) l
 | .un j a,h,d,l=>vN (p:=a.av) sm (ym h.2 d) l
 | .bi j a b,h,d,l=>by
  have g:(x∈fH a\/Fv x a)\/(x∈fH b\/Fv x b):=by
   rcases d with d|d
   .rcases mA.1 d with h|h
    .exact .inl<|.inl h
    .exact .inr<|.inl h
   .rcases d with h|h
    .exact .inl<|.inr h
    .exact .inr<|.inr h
  rcases g with g|hb
  .exact vN (p:=a.av) sm (ym h.2.1 g) l
  .exact vN (p:=b.av) sm (ym h.2.2 hb) l
 | .ite a b c,h,d,l=>by
  have g:(x∈fH a\/Fv x a)\/(x∈fH b\/Fv x b)\/(x∈fH c\/Fv x c):=by
   rcases d with d|d
   .rcases mA.1 d with h|h
    .exact .inl<|.inl h
    .rcases mA.1 h with h|h
     .exact .inr (.inl<|.inl h)
     .exact .inr (.inr<|.inl h)
   .rcases d with h|h|h
    .exact .inl<|.inr h
    .exact .inr (.inl<|.inr h)
    .exact .inr (.inr<|.inr h)
  rcases g with g|hb|i
  .exact vN (p:=a.av) sm (ym h.1 g) l
  .exact vN (p:=b.av) sm (ym h.2.1 hb) l
  .exact vN (p:=c.av) sm (ym h.2.2 i) l
 | .lt y a b,h,d,l=>by
  have g:x=y\/(x∈fH a\/Fv x a)\/(x∈fH b\/Fv x b):=by
   rcases d with d|d
   .rcases mC.1 d with h|h
    .exact .inl h
    .rcases mA.1 h with h|h
     .exact .inr (.inl<|.inl h)
     .exact .inr (.inr<|.inl h)
   .rcases d with h|⟨_,h⟩
    .exact .inr (.inl<|.inr h)
    .exact .inr (.inr<|.inr h)
  rcases g with rfl|g|hb
  .exact vN (p:=bI x) sm (λl=>Lq (xe h.1) l) l
  .exact vN (p:=a.av) sm (ym h.2.1 g) l
  .exact vN (p:=b.av) sm (ym h.2.2 hb) l
 | .fn f y A B e,h,d,l=>by
  obtain⟨n,o,_,_,_,m⟩:=h;have g:x=f\/x=y\/(x∈fH e\/Fv x e):=by
   rcases d with d|d
   .rcases mC.1 d with h|h
    .exact .inl h
    .rcases mC.1 h with h|h
     .exact .inr<|.inl h
     .exact .inr (.inr<|.inl h)
   .exact .inr (.inr<|.inr d.2.2)
  rcases g with rfl|rfl|g
  .exact vN (p:=bI x) sm (λl=>Lq (xe n) l) l
  .exact vN (p:=bI x) sm (λl=>Lq (xe o) l) l
  .exact vN (p:=e.av) sm (ym m g) l
/-! ### Expressions stay expressions -/
structure Ls (r:Bs×Ex×Nat):Prop where
 out:r.2.1.ok
 bs:∀p∈r.1,eJ p.1=true/\p.2.ok
theorem Ls.au {ai:List ak} {r:Bs×Ex×Nat} (h:Ls r) (b:(dW ai r).2.2<=1000):Ls (dW ai r):=by
 unfold dW at b⊢;split
 .exact h
 .rename_i c;rw[iN c] at b;have hk:eJ (di cy<|bF cy ai r.2.2)=true:=B1 de (by dsimp only at b;omega);refine⟨?_,λp a=>?_⟩
  .show rH _=true;unfold rH;rw[hk];simp
  .rcases mA.1 a with a|a
   .exact h.bs p a
   .simp only[List.mem_singleton] at a;subst a;exact⟨hk,h.out⟩
theorem Lt:∀{bs:Bs} {e:Ex},(∀p∈bs,eJ p.1=true/\p.2.ok)->e.ok->(nest bs e).ok:=by intro x;induction x<;>grind [eJ,Ex.ok,nest]
theorem yo (ai:List ak):∀(e:Ex) (n:Nat),e.ok->(bg ai e n).2.2<=1000->Ls (bg ai e n)
 | .at s,n,h,_=>⟨h,by simp[bg]⟩
 | .un v a,n,h,g=>by have j:=jj ai a n;have l:=rL ai<|bg ai a n;simp only[bg] at g;have d:=(yo ai a n h.2 om).au g;exact⟨⟨h.1,d.out⟩,d.bs⟩
 | .bi v a b,n,h,g=>by have j:=jj ai a n;have l:=rL ai<|bg ai a n;have m:=jj ai b (dW ai<|bg ai a n).2.2;have r:=rL ai<|bg ai b (dW ai<|bg ai a n).2.2;simp only[bg] at g;have d:=(yo ai a n h.2.1 om).au (ai:=ai) om;have hb:=(yo ai b (dW ai<|bg ai a n).2.2 h.2.2 om).au (ai:=ai) g;exact⟨⟨h.1,d.out,hb.out⟩,λp i=>(mA.1 i).elim (d.bs p)<|hb.bs p⟩
 | .ite a b c,n,h,g=>by have j:=jj ai a n;have l:=rL ai<|bg ai a n;have m:=jj ai b (dW ai<|bg ai a n).2.2;have r:=jj ai c (bg ai b (dW ai<|bg ai a n).2.2).2.2;simp only[bg] at g;have d:=(yo ai a n h.1 om).au (ai:=ai) om;have hb:=yo ai b (dW ai<|bg ai a n).2.2 h.2.1 om;have o:=yo ai c (bg ai b (dW ai<|bg ai a n).2.2).2.2 h.2.2 g;exact⟨⟨d.out,Lt hb.bs hb.out,Lt o.bs o.out⟩,d.bs⟩
 | .lt x a b,n,h,g=>by
  have j:=jj ai a n;have m:=jj ai b (bg ai a n).2.2;simp only[bg] at g;have d:=yo ai a n h.2.1 om;have hb:=yo ai b (bg ai a n).2.2 h.2.2 g;refine⟨hb.out,λp i=>?_⟩;rcases mA.1 i with i|i
  .exact d.bs p i
  .rcases mC.1 i with rfl|i
   .exact⟨h.1,d.out⟩
   .exact hb.bs p i
 | .fn f x A B e,n,h,g=>by obtain⟨z,C,q,t,u,y⟩:=h;simp only[bg] at g;have d:=yo ai e n y g;exact⟨⟨z,C,q,t,u,Lt d.bs d.out⟩,by simp[bg]⟩
def qR (bs:Bs):Nat:=(bs.map λp=>2+p.2.n).sum
theorem VM (a b:Bs):qR (a++b)=qR a+qR b:=by grind [qR]
theorem VN (p:ak×Ex) (b:Bs):qR (p::b)=2+p.2.n+qR b:=by simp[qR]
theorem PC (bs:Bs) (e:Ex):(nest bs e).n=qR bs+e.n:=by induction bs<;>grind [nest,Ty.n,Ex.n,qR]
theorem Lu (a:List ak) (r:Bs×Ex×Nat):qR (dW a r).1+(dW a r).2.1.n<=qR r.1+r.2.1.n+3:=by grind [qR,dW,Ty.n,Ex.n]
theorem xg (d:List ak):∀(e:Ex) (n:Nat),qR (bg d e n).1+(bg d e n).2.1.n+3<=4*e.n
 | .at s,n=>by simp[bg,qR,Ex.n]
 | .un g a,n=>by have:=xg d a n;have:=Lu d<|bg d a n;simp only[bg,Ex.n];omega
 | .bi g a b,n=>by have:=xg d a n;have:=Lu d<|bg d a n;have:=xg d b (dW d<|bg d a n).2.2;have:=Lu d<|bg d b (dW d<|bg d a n).2.2;simp only[bg,Ex.n,VM];omega
 | .ite a b c,n=>by have:=xg d a n;have:=Lu d<|bg d a n;have:=xg d b (dW d<|bg d a n).2.2;have:=xg d c (bg d b (dW d<|bg d a n).2.2).2.2;simp only[bg,Ex.n,PC];omega
 | .lt x a b,n=>by have:=xg d a n;have:=xg d b (bg d a n).2.2;simp only[bg,Ex.n,VM,VN];omega
 | .fn f x A B e,n=>by have:=xg d e n;simp only[bg,Ex.n,PC];rw[show qR ([]:Bs)=0 from rfl];omega
/-! ### The normal form -/
def rM (e:Ex):Option Ex:=if(cB (dN e [] []) e [] 0).2<=100 then some (cB (dN e [] []) e [] 0).1 else none
def oU (e:Ex):Option Ex:=(rM e).bind λp=>if(bg (mm p.av []) p 0).2.2<=100 then some (og (mm p.av []) p 0) else none
theorem PD {e p:Ex} (h:e.ok) (a:rM e=some p):p.ok:=by
 unfold rM at a;split at a
 .cases a;exact yi _ e [] 0 h om λs b _=>b
 .cases a
theorem PE {e q:Ex} (h:e.ok) (a:oU e=some q):q.ok:=by
 unfold oU at a;cases b:rM e with
 |none=>rw[b] at a;cases a
 |some p=>
  rw[b,Option.bind_some] at a;split at a
  .cases a;have:=yo (mm p.av []) p 0 (PD h b) om;exact Lt this.bs this.out
  .cases a
theorem VO {e q:Ex} {T:Ty} (h:e.ok) (i:bL e []=some T) (b:oU e=some q):bL q []=some T:=by
 unfold oU at b;cases a:rM e with
 |none=>rw[a] at b;cases b
 |some p=>
  have j:=PD h a;rw[a,Option.bind_some] at b;split at b
  .rename_i m;cases b;unfold rM at a;split at a
   .rename_i n;cases a;have f:∀s,¬Fv s e:=λs c=>by have:=qQ i c;simp[look] at this
    have g:bL (cB (dN e [] []) e [] 0).1 []=some T:=by rw[<-i];exact yj _ e [] 0 [] [] om λs _ c=>absurd c<|f s
    have d:∀s,¬Fv s (cB (dN e [] []) e [] 0).1:=λs c=>by have:=qQ g c;simp[look] at this
    refine aih ⟨(yk _ e [] 0).1,λx _=>d x,λx l=>ym j l []⟩ om g
   .cases a
  .cases b
/-! ### Target types -/
def B3 (x:aq):aq:=.mk [] [bI [101],.mk [] [bI [116],.mk [] [bI [99],bI [118],x],bI [118]]]
def sA:Ty->aq
 | .i=>bI [105]
 | .op false a b=>.mk [] [bI [116],sA a,sA b]
 | .op true a b=>.mk [] [bI [101],.mk [] [bI [116],.mk [] [bI [99],bI [118],sA a,B3 (sA b)],bI [118]]]
def bH (t:Ty):ak:=(sA t).text
def dR (s:ak):ak:=[40,101,32,40,116,32,40,99,32,118,32]++s++[41,32,118,41,41]
theorem vO (c:UInt8) (h:fi c=true):Good (bI [c]):=.au _ sm<|by simp[h]
theorem VQ (h:Good x):Good (B3 x):=by
 refine .list _ sm λp a=>?_;simp only[mC,List.not_mem_nil,or_false] at a;rcases a with rfl|rfl
 .exact vO _ de
 .refine .list _ sm λp a=>?_;simp only[mC,List.not_mem_nil,or_false] at a;rcases a with rfl|rfl|rfl
  .exact vO _ de
  .refine .list _ sm λp a=>?_;simp only[mC,List.not_mem_nil,or_false] at a;rcases a with rfl|rfl|rfl
   .exact vO _ de
   .exact vO _ de
   .exact h
  .exact vO _ de
theorem VR (x:aq):(B3 x).text=dR x.text:=by simp_all[B3,aq.text,Ty.text,dR,bI,rC,s8,rE,rD]
theorem PF (s:ak):(dR s).length=s.length+16:=by simp[dR]
theorem VS (x:aq):(B3 x).depth=max 3 (x.depth+3):=by have a:∀c:UInt8,(bI [c]).depth=0:=λc=>rfl;unfold B3;simp only[aq.depth,aq.depth.deeps,bI];omega
theorem Ge:∀t:Ty,Good (sA t)
 | .i=>vO _ de
 | .op false a b=>by
  refine .list _ sm λp c=>?_;simp only[mC,List.not_mem_nil,or_false] at c;rcases c with rfl|rfl|rfl
  .exact vO _ de
  .exact Ge a
  .exact Ge b
 | .op true a b=>by
  refine .list _ sm λp c=>?_;simp only[mC,List.not_mem_nil,or_false] at c;rcases c with rfl|rfl
  .exact vO _ de
  .refine .list _ sm λp c=>?_;simp only[mC,List.not_mem_nil,or_false] at c;rcases c with rfl|rfl|rfl
   .exact vO _ de
   .refine .list _ sm λp c=>?_;simp only[mC,List.not_mem_nil,or_false] at c;rcases c with rfl|rfl|rfl|rfl
    .exact vO _ de
    .exact vO _ de
    .exact Ge a
    .exact VQ<|Ge b
   .exact vO _ de
theorem VT:bH .i=[105]:=rC sm
theorem VU (a b:Ty):bH (.op false a b)=[40,116,32]++bH a++[32]++bH b++[41]:=by simp_all[bH,bI,aq.text,Ty.text,sA,rC,s8,rE,rD]
theorem VV (a b:Ty):bH (.op true a b)=[40,101,32,40,116,32,40,99,32,118,32]++bH a++[32]++dR (bH b)++[41,32,118,41,41]:=by simp_all[bH,dR,bI,aq.text,Ty.text,sA,B3,rC,s8,rE,rD,VR]
theorem DY:∀t:Ty,(bH t).length+16<=17*t.n
 | .i=>by rw[VT];simp[Ty.n]
 | .op false a b=>by have:=DY a;have:=DY b;rw[VU];simp only[lA,lC,List.length_nil,Ty.n];omega
 | .op true a b=>by have:=DY a;have:=DY b;rw[VV];simp only[lA,lC,List.length_nil,Ty.n,PF];omega
theorem Gf:∀t:Ty,(sA t).depth+3<=3*t.n
 | .i=>by simp[sA,bI,aq.depth,aq.depth.deeps,Ty.n]
 | .op false a b=>by have:=Gf a;have:=Gf b;have:=a.pos;have:=b.pos;simp only[sA,aq.depth,aq.depth.deeps,bI,Ty.n];omega
 | .op true a b=>by have:=Gf a;have:=Gf b;have:=a.pos;have:=b.pos;have c:=VS<|sA b;simp only[sA,aq.depth,aq.depth.deeps,bI,Ty.n,c];omega
/-! ### The maker's state -/
structure Tk where
 aL:ak
 regs:List ak
 loads:Nat
 self:List ak
 sc:List (ak×Nat×Ty)
 expr:Ex
 on:Nat
 ba:ak
 next:Nat
structure Mk where
 blocks:List Bk
 bT:List Tk
 count:Nat
 wide:Bool
 code:List ak
 types:List ak
abbrev cY:=List<|ak×Nat×Ty
def fx (s:cY):Sc:=s.map λp=>(p.1,p.2.2)
theorem Gg (s:cY) (x:ak) (r:Nat) (T:Ty):fx (s++[(x,r,T)])=fx s++[(x,T)]:=by simp[fx]
def lF (s:cY) (x:ak):Nat:=((s.reverse.find? λp=>decide<|p.1=x).map λp=>p.2.1).getD 0
def lh (s:cY) (x:ak):Ty:=(look (fx s) x).getD .i
def Mk.dG (m:Mk) (a:ak):Mk:={m with types:=m.types++[a],wide:=m.wide||decide (40<m.types.length+1)}
def Mk.cU (m:Mk) (h:ak) (a:List ak):Mk:={m with code:=m.code++[dz h a]}
def Mk.mn (m:Mk):Mk:={m with count:=m.count+1}
def Mk.aL (m:Mk):ak:=98::aS m.count
abbrev Lv:ak:=[99,111,110,115,116]
abbrev mI:ak:=[110,101,119]
abbrev ur:ak:=[108,97,98]
abbrev uw:ak:=[112,97,99,107]
abbrev B4:ak:=[111,112,101,110]
abbrev ux:ak:=[103,101,116]
abbrev oV:ak:=[109,111,118]
abbrev B5:ak:=[106,117,109,112]
abbrev Iz:ak:=[122,101,114,111]
abbrev DZ:ak:=[109,97,105,110]
abbrev B6:ak:=[101,110,100]
def Ex.au:Ex->ak
 | .at s=>s
 |_=>[]
theorem Ex.sB (e:Ex):e.av.au=e.au:=by cases e<;>rfl
def cJ (m:Mk) (s:cY) (a:ak):Mk×Nat:=if eJ a then(m,lF s a) else((m.dG [105]).cU Lv [aS m.types.length,a],m.types.length)
structure Pk where
 m:Mk
 r:Nat
 w:ak
def qe (m:Mk) (s:cY) (b:Nat) (aN:List ak) (on aL a:ak) (ck:List ak):Pk:=
 let regs:=aN.map (λx=>aS<|lF s x)++(if on≠[] then[aS b] else[]);let c:=aN.map (λx=>bH<|lh s x)++(if on≠[] then[on] else[]);let w:=dz [116] c;let r:=m.types.length;let code:=dz [99] (w::ck)
 ⟨(((((((m.dG w).cU mI (aS r::regs)).dG code).cU ur [aS<|r+1,aL]).dG<|dz [116] [code,w]).cU mI [aS<|r+2,aS<|r+1,aS r]).dG a).cU uw [aS<|r+3,aS<|r+2,a,w],r+3,w⟩
def jl (s:cY) (k:Nat) (aN:List ak) (a:cY):cY:=a++(aN.zipIdx).map λp=>(p.1,k+p.2,lh s p.1)
def pA (m:Mk) (s:cY) (f x:ak) (A B:Ty) (e:Ex):Pk:=qe m.mn s 0 (dN (.fn f x A B e) [] []) [] m.aL (bH<|.op true A B) [bH A,dR (bH B)]
def B7 (s:cY) (f x:ak) (A B:Ty) (e:Ex):cY:=
 (if 0<kS f e then jl s 3 (dN (.fn f x A B e) [] []) []++[(f,3+(dN (.fn f x A B e) [] []).length+2,.op true A B)] else jl s 3 (dN (.fn f x A B e) [] []) [])++[(x,1,A)]
def B8 (m:Mk) (s:cY) (f x:ak) (A B:Ty) (e:Ex):Tk:=
 ⟨m.aL,[(pA m s f x A B e).w,bH A,dR (bH B)],(dN (.fn f x A B e) [] []).length,if 0<kS f e then[bH<|.op true A B,(pA m s f x A B e).w] else[],B7 s f x A B e,e,2,dR<|bH B,3⟩
def B9 (m:Mk) (s:cY) (f x:ak) (A B:Ty) (e:Ex):Mk×Nat:=
 ({(pA m s f x A B e).m with bT:=(pA m s f x A B e).m.bT++[B8 m s f x A B e]},(pA m s f x A B e).r)
def rO (h:ak):ak:=if h=[43] then[97,100,100] else if h=[45] then[115,117,98] else if h=[42] then[109,117,108] else mI
def oh (m:Mk) (s:cY) (c:Ty):Ex->Mk×Nat
 | .at a=>cJ m s a
 | .fn f x A B e=>B9 m s f x A B e
 | .un h a=>
  let p:=cJ m s a.au
  ((p.1.dG<|bH c).cU ux [aS p.1.types.length,aS p.2,if h=sw then[49] else[48]],p.1.types.length)
 | .bi h a b=>
  let p:=cJ m s a.au;let q:=cJ p.1 s b.au
  ((q.1.dG<|bH c).cU (rO h) [aS q.1.types.length,aS p.2,aS q.2],q.1.types.length)
 | .ite a b _=>
  let p:=cJ m s a.au;let q:=cJ p.1 s b.au
  ((q.1.dG<|bH c).cU (rO iy) [aS q.1.types.length,aS p.2,aS q.2],q.1.types.length)
 | .lt x a _=>
  let p:=cJ m s x;let q:=cJ p.1 s a.au
  ((q.1.dG<|bH c).cU (rO ig) [aS q.1.types.length,aS p.2,aS q.2],q.1.types.length)
def pB (m:Mk) (s:cY) (b:Nat) (ba name:ak) (a:Ty) (rest:Ex):Pk:=qe m.mn s b (dN rest [name] []) ba m.aL (dR<|bH a) [bH a]
def Lw (m:Mk) (s:cY) (b:Nat) (ba name:ak) (a:Ty) (rest:Ex):Tk:=
 ⟨m.aL,[(pB m s b ba name a rest).w,bH a],(dN rest [name] []).length+1,[],jl s 2 (dN rest [name] []) []++[(name,1,a)],rest,2+(dN rest [name] []).length,ba,2⟩
def vQ (m:Mk) (s:cY) (b:Nat) (ba name:ak) (a:Ty) (rest:Ex):Mk×Nat×ak:=
 ({(pB m s b ba name a rest).m with bT:=(pB m s b ba name a rest).m.bT++[Lw m s b ba name a rest]},(pB m s b ba name a rest).r,dR<|bH a)
def uy (m:Mk) (s:Nat):Mk:=
 let r:=m.types.length
 (((((m.dG []).cU B4 [aS r,aS s]).dG []).cU ux [aS<|r+1,aS r,[48]]).dG []).cU ux [aS<|r+2,aS r,[49]]
def zW (m:Mk) (f x:Nat) (on:Nat):Mk:=
 let r:=m.types.length
 ((((uy m f).cU oV [[48],aS (r+2)]).cU oV [[49],aS x]).cU oV [[50],aS on]).cU B5 [aS (r+1)]
def zX (m:Mk) (on r:Nat):Mk:=
 let q:=m.types.length
 (((uy m on).cU oV [[48],aS (q+2)]).cU oV [[49],aS r]).cU B5 [aS (q+1)]
structure Goal where
 name:ak
 s:Ex
 rest:Ex
def bS:Ex->Goal
 | .lt x a b=>⟨x,a,b⟩
 |e=>⟨[],e,e⟩
def oW (s:cY) (e:Ex):Ty:=(bL e<|fx s).getD .i
structure At where
 m:Mk
 s:cY
 on:Nat
 ba:ak
def Ly (a:At) (g:Goal):At:=
 if g.name≠[] then let c:=vQ a.m a.s a.on a.ba g.name (oW a.s g.s) g.rest;⟨c.1,a.s,c.2.1,c.2.2⟩ else a
def lj (a:At) (e:Ex):Mk ⊕ At×Ex:=
 let g:=bS e
 match g.s with
 | .bi h f x=>
  if h=lg then
   let p:=cJ a.m a.s f.au;let q:=cJ p.1 a.s x.au;let b:=Ly {a with m:=q.1} g
   .inl (zW b.m p.2 q.2 b.on)
  else
   let p:=oh a.m a.s (oW a.s g.s) g.s
   if g.name=[] then .inl (zX p.1 a.on p.2) else .inr ({a with m:=p.1,s:=a.s++[(g.name,p.2,oW a.s g.s)]},g.rest)
 | .ite c x y=>
  let p:=cJ a.m a.s c.au;let b:=Ly {a with m:=p.1} g;let aL:=b.m.aL;let d:=b.m.mn.cU Iz [aS p.2,aL];let i:Tk:=⟨aL,d.types,0,[],a.s,x,b.on,b.ba,d.types.length⟩
  .inr ({b with m:={d with bT:=d.bT++[i]}},y)
 |s=>
  let p:=oh a.m a.s (oW a.s s) s
  if g.name=[] then .inl (zX p.1 a.on p.2) else .inr ({a with m:=p.1,s:=a.s++[(g.name,p.2,oW a.s s)]},g.rest)
structure Fr (L:List Nat) (w:World) (L':List Nat) (w':World):Prop where
 aG:aj L w w'
 mem:∀x∈L',x∈L\/w.heap.size<=x
theorem Fr.refl (L:List Nat) (w:World):Fr L w L w:=⟨aj.refl L w,λx a=>.inl a⟩
theorem Fr.go {L2:List Nat} (h:Fr L w L1 w1) (k:Fr L1 w1 L2 w2):Fr L w L2 w2:=
 ⟨h.aG.since k.aG h.mem,λx b=>by
  rcases k.mem x b with a|a
  .exact h.mem x a
  .have:=h.aG.size;right;omega⟩
theorem Fr.ext (h:Fr L w L1 w1) (k:aj [] w1 w2):Fr L w L1 w2:=⟨h.aG.trans k.any,h.mem⟩
theorem Fr.aB (h:Fr L w L1 w1) (k:aj G w1 w2) (a:∀x∈G,x∈L1):Fr L w L1 w2:=⟨h.aG.since (k.mono a) h.mem,h.mem⟩
theorem Fr.of (k:aj G w w') (a:∀x∈G,x∈L):Fr L w L w':=⟨k.mono a,λx b=>.inl b⟩
theorem Fr.to {L2:List Nat} (h:Fr L w L1 w1) (b:∀x∈L2,x∈L1\/w.heap.size<=x):Fr L w L2 w1:=⟨h.aG,λx c=>by
 rcases b x c with a|a
 .exact h.mem x a
 .exact .inr a⟩
theorem Fr.grow (h:Fr L w L1 w1):Fr L w (w1.heap.size::L1) w1:=h.to λx a=>by
 rcases mC.1 a with rfl|a
 .exact .inr h.aG.size
 .exact .inl a
theorem cA.go {c:C} (h:cA L w v c) (k:Fr L w L' w'):cA L' w' v c:=by
 have b:cA (L++L') w v c:=h.fresh λx a=>by
  rcases mA.1 a with a|a
  .exact .inl a
  .exact k.mem x a
 exact(b.aG<|k.aG.mono λx a=>List.mem_append_left _ a).weaken λx a=>mR _ a
theorem dy.go {a:List C} (h:dy L w vs a) (k:Fr L w L' w'):dy L' w' vs a:=dy.of h.length λ_ _ _ c b=>(h.get c b).go k
theorem jh.go {a:List C} (h:jh L w v a) (k:Fr L w L' w'):jh L' w' v a:=let⟨vs,e,h⟩:=h;⟨vs,e,h.go k⟩
theorem aV.go (h:aV L w v t) (k:Fr L w L' w'):aV L' w' v t:=jh.go h k
theorem cD.go {t:List aq} (h:cD L w v t) (k:Fr L w L' w'):cD L' w' v t:=cA.go h k
theorem bo.go {a:List ak} (h:bo L w v a) (k:Fr L w L' w'):bo L' w' v a:=cA.go h k
theorem bo.fresh {a:List ak} (h:bo L w v a) (b:∀x∈L',x∈L\/w.heap.size<=x):bo L' w v a:=cA.fresh h b
theorem aV.fresh (h:aV L w v t) (a:∀x∈L',x∈L\/w.heap.size<=x):aV L' w v t:=jh.fresh h a
structure gm (L:List Nat) (w:World) (b off:Nat) (vs:List Value):Prop where
 cells:fZ w b off vs
 lt:b<w.heap.size
 out:b∉L
theorem gm.go (h:gm L w b off vs) (k:Fr L w L' w'):gm L' w' b off vs:=
 ⟨λj v c=>(World.cell?_of_block<|k.aG.block b h.lt h.out).trans<|h.cells j v c,lL h.lt k.aG.size,λd=>by
  rcases k.mem b d with a|a
  .exact h.out a
  .have:=h.lt;omega⟩
theorem gm.ext (h:gm L w b off vs) (k:aj [] w w'):gm L w' b off vs:=h.go<|Fr.of k sm
theorem gm.aB (h:gm L w b off vs) (k:aj G w w') (a:∀x∈G,x∈L):gm L w' b off vs:=h.go (Fr.of k a)
/-! ### Tasks -/
def vR (a:List Nat):List (List C):=a.map λx:Nat=>[.val (.int .i64 (x:Int))]
def zY (L:List Nat) (w:World) (v:Value) (a:List Nat):Prop:=cA L w v (.sl 1<|vR a)
theorem zY.ext {a:List Nat} (h:zY L w v a) (k:aj [] w w'):zY L w' v a:=cA.ext h k
theorem zY.go {a:List Nat} (h:zY L w v a) (k:Fr L w L' w'):zY L' w' v a:=cA.go h k
theorem aim {a:Option Addr} {n c x:Nat} {e:List Nat} (h:zY L w (.slice a n c) e) (l:e[i]?=some x):
  ∃b off,a=some ⟨b,off,none⟩/\fZ w b (off+i*1) [.int .i64 (x:Int)]:=by
 obtain⟨b,off,vs,g,hb,_,_,j,d⟩:=zw h (show(vR e)[i]?=some [.val (.int .i64 (x:Int))] by simp[vR,l])
 match vs,d with
 |[v],d=>obtain⟨f,_⟩:=d;cases f;exact⟨b,off,g,j⟩
 |[],d=>exact d.elim
 |_::_::_,d=>exact d.2.elim
def kB (s:cY):List ak:=s.map λp=>p.1
def yp (s:cY):List Nat:=s.map λp=>p.2.1
def qf (s:cY):List ak:=s.map λp=>p.2.2.text
theorem ain (s:cY) (x:ak) (r:Nat) (T:Ty):kB (s++[(x,r,T)])=kB s++[x]:=by simp[kB]
theorem aio (s:cY) (x:ak) (r:Nat) (T:Ty):yp (s++[(x,r,T)])=yp s++[r]:=by simp[yp]
theorem aip (s:cY) (x:ak) (r:Nat) (T:Ty):qf (s++[(x,r,T)])=qf s++[T.text]:=by simp[qf]
def Tk.enc (t:Tk):List C:=
 [.val<|str t.aL,.sl 1<|iG t.regs,.val<|.int .i64 (t.loads:Int),.sl 1<|iG t.self,.sl 1 (iG<|kB t.sc),.sl 1 (vR<|yp t.sc),.sl 1 (iG<|qf t.sc),.val<|str t.expr.av.au,.sl 2<|da t.expr.av.ag,.val<|.int .i64 (t.on:Int),.val<|str t.ba,.val (.int .i64 (t.next:Int))]
structure pC (L:List Nat) (w:World) (t:Tk) (v1 v3 v4 v5 v6 v8:Value):Prop where
 regs:bo L w v1 t.regs
 self:bo L w v3 t.self
 aN:bo L w v4 (kB t.sc)
 at_:zY L w v5 (yp t.sc)
 types:bo L w v6 (qf t.sc)
 ag:cD L w v8 t.expr.av.ag
def qS (t:Tk) (a b c d e f:Value):List Value:=
 [str t.aL,a,.int .i64 (t.loads:Int),b,c,d,e,str t.expr.av.au,f,.int .i64 (t.on:Int),str t.ba,.int .i64 (t.next:Int)]
theorem aiq {t:Tk} (h:dy L w vs t.enc):∃v1 v3 v4 v5 v6 v8,vs=qS t v1 v3 v4 v5 v6 v8/\pC L w t v1 v3 v4 v5 v6 v8:=by
 have a:=h.length;unfold Tk.enc at h a
 match vs,a,h with
 |[_,p,_,q,r,s,u,_,v,_,_,_],_,h=>obtain⟨c,d,e,f,g,i,j,l,m,n,b,o,_⟩:=h;cases c;cases e;cases l;cases n;cases b;cases o;exact⟨p,q,r,s,u,v,rfl,d,f,g,i,j,m⟩
theorem pC.zM {t:Tk} (h:pC L w t v1 v3 v4 v5 v6 v8):dy L w (qS t v1 v3 v4 v5 v6 v8) t.enc:=
 ⟨.val _,h.regs,.val _,h.self,h.aN,h.at_,h.types,.val _,h.ag,.val _,.val _,.val _,trivial⟩
theorem pC.go {t:Tk} (h:pC L w t v1 v3 v4 v5 v6 v8) (k:Fr L w L' w'):pC L' w' t v1 v3 v4 v5 v6 v8:=
 ⟨h.regs.go k,h.self.go k,h.aN.go k,h.at_.go k,h.types.go k,h.ag.go k⟩
theorem pC.ext {t:Tk} (h:pC L w t v1 v3 v4 v5 v6 v8) (k:aj [] w w'):pC L w' t v1 v3 v4 v5 v6 v8:=h.go<|Fr.of k sm
theorem pC.aB {t:Tk} (h:pC L w t v1 v3 v4 v5 v6 v8) (k:aj G w w') (a:∀x∈G,x∈L):pC L w' t v1 v3 v4 v5 v6 v8:=h.go<|Fr.of k a
theorem pC.grow {t:Tk} (h:pC L w t v1 v3 v4 v5 v6 v8):pC (w.heap.size::L) w t v1 v3 v4 v5 v6 v8:=h.go<|(Fr.refl L w).grow
def iQ (L:List Nat) (w:World) (T:TypeId) (b:Nat) (t:Tk):Prop:=∃v1 v3 v4 v5 v6 v8,aK w b (qS t v1 v3 v4 v5 v6 v8).toArray T/\pC L w t v1 v3 v4 v5 v6 v8
theorem iQ.ext {T:TypeId} {t:Tk} (h:iQ L w T b t) (k:aj [] w w'):iQ L w' T b t:=by obtain⟨v1,v3,v4,v5,v6,v8,hb,a⟩:=h;exact⟨v1,v3,v4,v5,v6,v8,hb.aG k sm,a.ext k⟩
theorem iQ.go {T:TypeId} {t:Tk} (h:iQ L w T b t) (k:Fr L w L' w') (d:aj G w w') (hb:b∉G):iQ L' w' T b t:=by obtain⟨v1,v3,v4,v5,v6,v8,a,c⟩:=h;exact⟨v1,v3,v4,v5,v6,v8,a.aG d hb,c.go k⟩
/-! ### The maker -/
theorem cN.air {T:TypeId} {a:List ak} (h:cN w T v g a):iX w T 1 v g (iG a).length (a.map λx=>str x):=by rw[rB];exact h
structure et (L:List Nat) (w:World) (T:TypeId) (sz:Nat) (v:Value) (g:Option Nat) (rows:List (List C)):Prop where
 own:∃xs,iX w T sz v g rows.length xs/\dy L w xs rows.flatten
 row:∀row∈rows,row.length=sz
theorem et.aG {T:TypeId} (h:et L w T sz v g rows) (k:Fr L w L' w') (e:aj G w w') (d:∀x∈g.toList,x∉G):et L' w' T sz v g rows:=by obtain⟨xs,a,c⟩:=h.own;exact⟨⟨xs,a.aG e λb hb=>d b<|by simp[hb],c.go k⟩,h.row⟩
theorem et.len {T:TypeId} (h:et L w T sz v g rows):∃a b,v= .slice a rows.length b:=by obtain⟨xs,c,_⟩:=h.own;exact c.len
theorem et.lt {T:TypeId} (h:et L w T sz v g rows):∀x∈g.toList,x<w.heap.size:=by obtain⟨xs,a,_⟩:=h.own;intro x b;exact a.lt x (by simpa using b)
theorem et.rep {T:TypeId} (h:et L w T sz v g rows) (d:∀x∈g.toList++L',x∈L\/w.heap.size<=x) (e:∀x∈g.toList,x∉L'):cA L' w v (.sl sz rows):=by obtain⟨xs,a,c⟩:=h.own;exact iF.done (L:=L') ⟨a,c.fresh d,h.row,λb hb=>e b<|by simp[hb]⟩
theorem et.gr {B:Nat} {T:TypeId} (h:et L w T sz v g rows) (e:∀x∈g.toList,x∈L) (d:∀b,g=some b->B<=b) (f:B<=w.heap.size):Gr B [] w T sz v g rows:=by obtain⟨xs,a,c⟩:=h.own;exact⟨⟨xs,a,c.fresh λx i=>.inl (e x<|by simpa using i),h.row,sm⟩,d,sm,f⟩
theorem Gr.down {B B':Nat} {T:TypeId} (h:Gr B L w T sz v g rows) (a:B'<=B):Gr B' L w T sz v g rows:=
 ⟨h.own,λb hb=>Nat.le_trans a<|h.low b hb,h.cP,Nat.le_trans a h.bsz⟩
structure uz where
 M:TypeId
 B:TypeId
 T:TypeId
 S:TypeId
structure iz (τ:uz) (E L:List Nat) (w:World) (b:Nat) (o:Bool) (vb vt vc vy:Value) (gb gt gc gy:Option Nat) (m:Mk):Prop where
 bl:et L w τ.B 3 vb gb (m.blocks.map Bk.enc)
 ta:et L w τ.T 12 vt gt (m.bT.map Tk.enc)
 co:(o=true/\cN w τ.S vc gc m.code)\/(o=false/\gc=none/\bo L w vc m.code)
 ty:cN w τ.S vy gy m.types
 eL:L=E++b::(gb.toList++(gt.toList++(gc.toList++gy.toList)))
 nd:L.Nodup
 cP:∀x∈L,x<w.heap.size
section
variable {τ:uz} {E L:List Nat} {w w':World} {b:Nat} {o:Bool} {vb vt vc vy:Value} {gb gt gc gy:Option Nat} {m:Mk}
theorem z1 {A B C D E:List Nat} {b x:Nat}:x∈E++b::(A++(B++(C++D)))↔x∈E\/x=b\/x∈A\/x∈B\/x∈C\/x∈D:=by simp
theorem iz.mem (h:iz τ E L w b o vb vt vc vy gb gt gc gy m) {x:Nat}:x∈L↔x∈E\/x=b\/x∈gb.toList\/x∈gt.toList\/x∈gc.toList\/x∈gy.toList:=by rw[h.eL];exact z1
theorem iz.apart (h:iz τ E L w b o vb vt vc vy gb gt gc gy m):E.Nodup/\b∉E/\
  (∀x∈gb.toList,x∉E/\x≠b)/\(∀x∈gt.toList,x∉E/\x≠b/\x∉gb.toList)/\(∀x∈gc.toList,x∉E/\x≠b/\x∉gb.toList/\x∉gt.toList)/\
  (∀x∈gy.toList,x∉E/\x≠b/\x∉gb.toList/\x∉gt.toList/\x∉gc.toList):=by
 have j:=h.nd;rw[h.eL] at j;rw[List.nodup_append] at j;obtain⟨s,n,f⟩:=j;rw[List.nodup_cons] at n;obtain⟨g,p⟩:=n;rw[List.nodup_append] at p;obtain⟨_,q,i⟩:=p;rw[List.nodup_append] at q;obtain⟨_,l,r⟩:=q;rw[List.nodup_append] at l;obtain⟨_,_,t⟩:=l;refine⟨s,λhb=>f b hb b sm rfl,λx a=>⟨λd=>f x d x (by simp[a]) rfl,λe=>g<|by simp[<-e,a]⟩,λx a=>⟨λd=>f x d x (by simp[a]) rfl,λe=>g<|by simp[<-e,a],λc=>i x c x (by simp[a]) rfl⟩,
  λx a=>⟨λd=>f x d x (by simp[a]) rfl,λe=>g<|by simp[<-e,a],λc=>i x c x (by simp[a]) rfl,λc=>r x c x (by simp[a]) rfl⟩,
  λx a=>⟨λd=>f x d x (by simp[a]) rfl,λe=>g<|by simp[<-e,a],λc=>i x c x (by simp[a]) rfl,λc=>r x c x (by simp[a]) rfl,λc=>t x c x a rfl⟩⟩
theorem PG (g:Option Nat):g.toList.Nodup:=by cases g<;>simp
theorem ais {A B C D:Option Nat} {F:List Nat} {b:Nat} (a:F.Nodup) (c:b∉F) (d:∀x∈A.toList,x∉F/\x≠b) (hb:∀x∈B.toList,x∉F/\x≠b/\x∉A.toList) (e:∀x∈C.toList,x∉F/\x≠b/\x∉A.toList/\x∉B.toList) 
  (f:∀x∈D.toList,x∉F/\x≠b/\x∉A.toList/\x∉B.toList/\x∉C.toList):(F++b::(A.toList++(B.toList++(C.toList++D.toList)))).Nodup:=by grind [PG,List.nodup_append,List.nodup_cons]
theorem iz.swap (h:iz τ E L w b o vb vt vc vy gb gt gc gy m) (k:aj G w w') (v:∀x∈G,x∈L/\x≠b/\x∉E) {gb' gt' gc' gy':Option Nat} 
  (i:∀x∈gb'.toList,x∈gb.toList\/w.heap.size<=x/\x∉gt'.toList/\x∉gc'.toList/\x∉gy'.toList) (l:∀x∈gt'.toList,x∈gt.toList\/w.heap.size<=x/\x∉gb'.toList/\x∉gc'.toList/\x∉gy'.toList)
  (p:∀x∈gc'.toList,x∈gc.toList\/w.heap.size<=x/\x∉gb'.toList/\x∉gt'.toList/\x∉gy'.toList) (r:∀x∈gy'.toList,x∈gy.toList\/w.heap.size<=x/\x∉gb'.toList/\x∉gt'.toList/\x∉gc'.toList):
  Fr L w (E++b::(gb'.toList++(gt'.toList++(gc'.toList++gy'.toList)))) w'/\(E++b::(gb'.toList++(gt'.toList++(gc'.toList++gy'.toList)))).Nodup:=by
 obtain⟨s,t,u,n,j,g⟩:=h.apart;have q:∀x,x∈E\/x=b->x<w.heap.size:=λx c=>h.cP x<|h.mem.2 (by rcases c with c|c<;>simp[c]);have f:∀x,w.heap.size<=x->x∉E/\x≠b:=λx c=>⟨λy=>by have:=q x<|.inl y;omega,λe=>by have:=q x<|.inr e;omega⟩;refine⟨⟨k.mono λx c=>(v x c).1,λx c=>?_⟩,ais s t (λx c=>?_) (λx c=>?_) (λx c=>?_) λx c=>?_⟩
 .rw[z1] at c;rcases c with c|c|c|c|c|c
  .exact .inl (h.mem.2<|.inl c)
  .exact .inl<|h.mem.2 (.inr<|.inl c)
  .rcases i x c with a|a
   .exact .inl (h.mem.2<|by simp[a])
   .exact .inr a.1
  .rcases l x c with a|a
   .exact .inl (h.mem.2<|by simp[a])
   .exact .inr a.1
  .rcases p x c with a|a
   .exact .inl (h.mem.2<|by simp[a])
   .exact .inr a.1
  .rcases r x c with a|a
   .exact .inl (h.mem.2<|by simp[a])
   .exact .inr a.1
 .rcases i x c with a|a
  .exact u x a
  .exact f x a.1
 .rcases l x c with a|a
  .refine⟨(n x a).1,(n x a).2.1,λhb=>?_⟩;rcases i x hb with d|d
   .exact(n x a).2.2 d
   .exact d.2.1 c
  .exact⟨(f x a.1).1,(f x a.1).2,a.2.1⟩
 .rcases p x c with a|a
  .refine⟨(j x a).1,(j x a).2.1,λhb=>?_,λhb=>?_⟩
   .rcases i x hb with d|d
    .exact(j x a).2.2.1 d
    .exact d.2.2.1 c
   .rcases l x hb with d|d
    .exact(j x a).2.2.2 d
    .exact d.2.2.1 c
  .exact⟨(f x a.1).1,(f x a.1).2,a.2.1,a.2.2.1⟩
 .rcases r x c with a|a
  .refine⟨(g x a).1,(g x a).2.1,λhb=>?_,λhb=>?_,λhb=>?_⟩
   .rcases i x hb with d|d
    .exact(g x a).2.2.1 d
    .exact d.2.2.2 c
   .rcases l x hb with d|d
    .exact(g x a).2.2.2.1 d
    .exact d.2.2.2 c
   .rcases p x hb with d|d
    .exact(g x a).2.2.2.2 d
    .exact d.2.2.2 c
  .exact⟨(f x a.1).1,(f x a.1).2,a.2.1,a.2.2.1,a.2.2.2⟩
theorem iz.Lz (h:iz τ E L w b o vb vt vc vy gb gt gc gy m) {x:Nat} (a:x∈gb.toList\/x∈gt.toList\/x∈gc.toList\/x∈gy.toList):x<w.heap.size:=h.cP x (h.mem.2<|by simp only[a,or_true])
theorem cN.lt {w:World} {T:TypeId} {b:List ak} (h:cN w T v g b):∀x∈g.toList,x<w.heap.size:=λx a=>iX.lt h x<|by simpa using a
theorem iz.PH (h:iz τ E L w b o vb vt vc vy gb gt gc gy m) {l:List ak} (c:cN w' τ.S v g l) (k:aj gy.toList w w') (p:∀x,g=some x->gy=some x\/w.heap.size<=x):
  ∃L',iz τ E L' w' b o vb vt vc v gb gt gc g {m with types:=l}/\Fr L w L' w':=by
 obtain⟨_,_,_,_,_,e⟩:=h.apart;have q:∀x∈g.toList,x∈gy.toList\/w.heap.size<=x/\x∉gb.toList/\x∉gt.toList/\x∉gc.toList:=λx a=>by
  rcases p x (by simpa using a) with d|d
  .exact .inl<|by simp[d]
  .refine .inr ⟨d,λj=>?_,λj=>?_,λj=>?_⟩<;>have:=h.Lz (x:=x) (by simp[j])<;>omega
 obtain⟨i,n⟩:=h.swap k (λx a=>⟨h.mem.2<|by simp[a],(e x a).2.1,(e x a).1⟩) (gb':=gb) (gt':=gt) (gc':=gc) (gy':=g) (λx a=>.inl a) (λx a=>.inl a) (λx a=>.inl a) q;refine⟨_,⟨h.bl.aG i k λx a c=>(e x c).2.2.1 a,h.ta.aG i k λx a c=>(e x c).2.2.2.1 a,?_,c,rfl,n,?_⟩,i⟩
 .rcases h.co with⟨ho,d⟩|⟨ho,hn,d⟩
  .exact .inl ⟨ho,d.aG k λx a c=>(e x c).2.2.2.2<|by simp[a]⟩
  .exact .inr ⟨ho,hn,d.go i⟩
 .intro x a;rw[z1] at a;have f:=k.size;rcases a with a|a|a|a|a|a
  .exact lL (h.cP x (h.mem.2<|by simp[a])) f
  .exact lL (h.cP x (h.mem.2<|by simp[a])) f
  .exact lL (h.cP x (h.mem.2<|by simp[a])) f
  .exact lL (h.cP x (h.mem.2<|by simp[a])) f
  .exact lL (h.cP x (h.mem.2<|by simp[a])) f
  .exact c.lt x a
theorem iz.LA (h:iz τ E L w b o vb vt vc vy gb gt gc gy m) {l:List ak} (c:cN w' τ.S v g l) (k:aj gc.toList w w') (q:∀x,g=some x->gc=some x\/w.heap.size<=x):
  ∃L',iz τ E L' w' b true vb vt v vy gb gt g gy {m with code:=l}/\Fr L w L' w':=by
 obtain⟨_,_,_,_,e,n⟩:=h.apart;have r:∀x∈g.toList,x∈gc.toList\/w.heap.size<=x/\x∉gb.toList/\x∉gt.toList/\x∉gy.toList:=λx a=>by
  rcases q x (by simpa using a) with f|f
  .exact .inl<|by simp[f]
  .refine .inr ⟨f,λj=>?_,λj=>?_,λj=>?_⟩<;>have:=h.Lz (x:=x) (by simp[j])<;>omega
 obtain⟨i,p⟩:=h.swap k (λx a=>⟨h.mem.2<|by simp[a],(e x a).2.1,(e x a).1⟩) (gb':=gb) (gt':=gt) (gc':=g) (gy':=gy) (λx a=>.inl a) (λx a=>.inl a) r λx a=>.inl a;refine⟨_,⟨h.bl.aG i k λx a c=>(e x c).2.2.1 a,h.ta.aG i k λx a c=>(e x c).2.2.2 a,.inl ⟨rfl,c⟩,h.ty.aG k λx a c=>(n x<|by simp[a]).2.2.2.2 c,rfl,p,?_⟩,i⟩;intro x a;rw[z1] at a;have d:=k.size;rcases a with a|a|a|a|a|a
 .exact lL (h.cP x (h.mem.2<|by simp[a])) d
 .exact lL (h.cP x (h.mem.2<|by simp[a])) d
 .exact lL (h.cP x (h.mem.2<|by simp[a])) d
 .exact lL (h.cP x (h.mem.2<|by simp[a])) d
 .exact c.lt x a
 .exact lL (h.cP x (h.mem.2<|by simp[a])) d
theorem ait (t:Tk) (a:v1.oneCell'=true) (b:v3.oneCell'=true) (c:v4.oneCell'=true) (d:v5.oneCell'=true) (e:v6.oneCell'=true) (f:v8.oneCell'=true):(qS t v1 v3 v4 v5 v6 v8).all Value.oneCell'=true:=by simp only[qS,List.all_cons,a,b,c,d,e,f];rfl
theorem Gh {L:List Nat} {w:World} (h:cA L w v (.sl sz rows)):v.oneCell'=true:=by cases h<;>rfl
theorem pC.one {t:Tk} (h:pC L w t v1 v3 v4 v5 v6 v8):(qS t v1 v3 v4 v5 v6 v8).all Value.oneCell'=true:=ait t (Gh h.regs) (Gh h.self) (Gh h.aN) (Gh h.at_) (Gh h.types)<|Gh h.ag
theorem iz.aG (h:iz τ E L w b o vb vt vc vy gb gt gc gy m) (k:aj G w w') (l:∀x∈G,x∈b::E):iz τ E L w' b o vb vt vc vy gb gt gc gy m:=by
 obtain⟨_,_,f,g,i,j⟩:=h.apart;have q:∀x∈G,x∈L:=λx a=>h.mem.2 (by rcases mC.1 (l x a) with c|c<;>simp[c]);have e:Fr L w L w':=Fr.of k q;have out:∀x,x∉E->x≠b->x∉G:=λx c n p=>by
  rcases mC.1 (l x p) with d|d
  .exact n d
  .exact c d
 refine⟨h.bl.aG e k λx a=>out x (f x a).1 (f x a).2,h.ta.aG e k λx a=>out x (g x a).1 (g x a).2.1,?_,h.ty.aG k λx a=>out x (j x<|by simp[a]).1 (j x<|by simp[a]).2.1,h.eL,h.nd,λx a=>lL (h.cP x a) k.size⟩;rcases h.co with⟨ho,c⟩|⟨ho,hn,c⟩
 .exact .inl ⟨ho,c.aG k λx a=>out x (i x<|by simp[a]).1 (i x<|by simp[a]).2.1⟩
 .exact .inr ⟨ho,hn,c.go e⟩
theorem iz.ext (h:iz τ E L w b o vb vt vc vy gb gt gc gy m) (k:aj [] w w'):iz τ E L w' b o vb vt vc vy gb gt gc gy m:=h.aG k sm
theorem iz.drop {x:Nat} (h:iz τ (x::E) L w b o vb vt vc vy gb gt gc gy m):∃L',L=x::L'/\iz τ E L' w b o vb vt vc vy gb gt gc gy m:=by
 have e:∀y,y∈E++b::(gb.toList++(gt.toList++(gc.toList++gy.toList)))->y∈L:=λy a=>by rw[h.eL];simp only[List.cons_append,mC];exact .inr a
 have c:Fr L w (E++b::(gb.toList++(gt.toList++(gc.toList++gy.toList)))) w:=(Fr.refl L w).to λy a=>.inl<|e y a;have d:=h.nd;rw[h.eL,List.cons_append,List.nodup_cons] at d;refine⟨_,h.eL,⟨h.bl.aG c (aj.refl [] w) sm,h.ta.aG c (aj.refl [] w) sm,?_,h.ty,rfl,d.2,λy a=>h.cP y<|e y a⟩⟩;rcases h.co with⟨ho,h1⟩|⟨ho,hn,h1⟩
 .exact .inl ⟨ho,h1⟩
 .exact .inr ⟨ho,hn,h1.go c⟩
def mkV (m:Mk) (a b vc c:Value):List Value:=[a,b,.int .i64 (m.count:Int),.bool m.wide,vc,c]
def eh (a:uz) (E L:List Nat) (w:World) (b:Nat) (o:Bool) (m:Mk):Prop:=∃vb vt vc vy gb gt gc gy,aK w b (mkV m vb vt vc vy).toArray a.M/\iz a E L w b o vb vt vc vy gb gt gc gy m
theorem eh.ext (h:eh τ E L w b o m) (k:aj [] w w'):eh τ E L w' b o m:=by obtain⟨vb,vt,vc,vy,gb,gt,gc,gy,a,c⟩:=h;exact⟨vb,vt,vc,vy,gb,gt,gc,gy,a.aG k sm,c.ext k⟩
theorem eh.aG (h:eh τ E L w b o m) (k:aj G w w') (d:∀x∈G,x∈E):eh τ E L w' b o m:=by obtain⟨vb,vt,vc,vy,gb,gt,gc,gy,e,c⟩:=h;exact⟨vb,vt,vc,vy,gb,gt,gc,gy,e.aG k λa=>c.apart.2.1<|d b a,c.aG k λx a=>mK _<|d x a⟩
theorem eh.drop {x:Nat} (h:eh τ (x::E) L w b o m):∃L',L=x::L'/\eh τ E L' w b o m:=by obtain⟨vb,vt,vc,vy,gb,gt,gc,gy,a,c⟩:=h;obtain⟨L',e,d⟩:=c.drop;exact⟨L',e,vb,vt,vc,vy,gb,gt,gc,gy,a,d⟩
theorem eh.mem (h:eh τ E L w b o m):(∀x∈b::E,x∈L)/\E.Nodup/\b∉E/\∀x∈L,x<w.heap.size:=by obtain⟨vb,vt,vc,vy,gb,gt,gc,gy,_,a⟩:=h;obtain⟨c,d,_⟩:=a.apart;exact⟨λx e=>a.mem.2 (by rcases mC.1 e with h|h<;>simp[h]),c,d,a.cP⟩
end
end Go.Proofs.YtcildnfcpkpomaaGreatDoor
