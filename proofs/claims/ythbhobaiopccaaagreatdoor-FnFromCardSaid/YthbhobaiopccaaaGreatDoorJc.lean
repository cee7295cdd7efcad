/- Lemmas for the law FnFrom, no statement of their own: no conditions. -/
import Derived.Test.YthbhobaiopccaaaGreatDoorJb
set_option maxHeartbeats 4000000
set_option linter.unusedVariables false
set_option linter.unusedSimpArgs false
namespace Go.Proofs.YthbhobaiopccaaaGreatDoor
open Go
variable {b d k m m' n off sz t:Nat} {c:UInt8} {s x:aj} {e:Ex} {G L L' L1 W:List Nat} {w w' w0 w1 w2:World} {V v v1 v3 v4 v5 v6 v8:Value} {vs:List Value} {xs:List aj} {g:Option Nat} {rows:List (List C)} {e0:Env} {o:Oper} {l:List Oper} {r:List (List Nat)} {N R:Env->World->Prop} {X:Nat->Env->World->Prop} {J:List Nat->List Value->World->Prop}
/-! ### qx aP -/
theorem aeX (n:Nat):val (aZ n)=n:=by
 induction n using Nat.strongRecOn with
 |_ n ih=>
  have hd:∀k,k<10->(UInt8.ofNat (48+k)).toNat=48+k:=λk hk=>by
   rw[UInt8.toNat_ofNat'];exact Nat.mod_eq_of_lt om
  unfold aZ
  by_cases h:n<10
  ·rw[iP h]
   show 10*0+((UInt8.ofNat (48+n)).toNat-48)=n
   rw[hd n h];omega
  ·rw[iN h,Rx,ih (n/10) om,hd (n%10) om];omega
theorem aeY (h:aZ n=aZ m):n=m:=by grind [aeX]
def cW (c:UInt8) (k:Nat):aj:=c::aZ k
theorem pW {j:Nat} (h:cW c k=cW c j):k=j:=by grind [aeY,cW]
theorem M8 {α:Type} [BEq α] [LawfulBEq α]:∀{l m:List α},l.Nodup->(∀x,x∈l->x∈m)->l.length<=m.length
 |[],m,_,_=>by simp
 |a::l,m,hn,hs=>by
  rw[List.nodup_cons] at hn
  have ha:=hs a sm
  have:=M8 (l:=l) (m:=m.erase a) hn.2 λx hx=>(List.mem_erase_of_ne (fun(e:x=a)=>hn.1 (e▸hx))).2 (hs x (by simp[hx]))
  rw[List.length_erase_of_mem ha] at this
  have:=List.length_pos_of_mem ha
  simp only[lC];omega
def pX (c:UInt8) (ag:List aj):Nat->Nat->Nat
 |0,n=>n
 |fuel+1,n=>if cW c n∈ag then pX c ag fuel (n+1) else n
def bw (c:UInt8) (ag:List aj) (n:Nat):Nat:=pX c ag (ag.length+1) n
theorem aeZ (c:UInt8) (ag:List aj):∀fuel n,n<=pX c ag fuel n∧pX c ag fuel n<=n+fuel:=by intro x;induction x<;>grind [pX]
theorem S8 (c:UInt8) (ag:List aj):∀fuel n,cW c (pX c ag fuel n)∉ag∨∀j,j<fuel->cW c (n+j)∈ag
 |0,n=>.inr λj hj=>by omega
 |fuel+1,n=>by
  unfold pX
  split
  ·rename_i h
   rcases S8 c ag fuel (n+1) with h1|h1
   ·exact .inl h1
   ·refine .inr λj hj=>?_
    cases j with
    |zero=>exact h
    |succ j=>have:=h1 j om;rw[show n+(j+1)=n+1+j from by omega];exact this
  ·rename_i h;exact .inl h
theorem Ju (c:UInt8) (ag:List aj) (n:Nat):cW c (bw c ag n)∉ag:=by
 rcases S8 c ag (ag.length+1) n with h|h
 ·exact h
 ·exfalso
  have hn:((List.range (ag.length+1)).map λj=>cW c (n+j)).Nodup:=by
   rw[List.nodup_iff_pairwise_ne,List.pairwise_map]
   refine List.Pairwise.imp ?_ (List.nodup_iff_pairwise_ne.1 List.nodup_range)
   intro a b Jv e
   exact Jv (by have:=pW e;omega)
  have:=M8 hn (m:=ag) (λx hx=>by
   obtain⟨j,hj,rfl⟩:=List.mem_map.1 hx
   exact h j (List.mem_range.1 hj))
  simp at this;omega
theorem oC (c:UInt8) (ag:List aj) (n:Nat):n<=bw c ag n∧bw c ag n<=n+ag.length+1:=by grind [aeZ,dd.length,bw]
theorem S9 {ag:List aj} (h:cW c n∈ag):bw c ag n=bw c ag (n+1):=by
 have key:∀f g n,cW c (pX c ag f n)∉ag->cW c (pX c ag g n)∉ag->pX c ag f n=pX c ag g n:=by
  intro f
  induction f with
  |zero=>
   intro g n h1 h2
   cases g with
   |zero=>rfl
   |succ g=>unfold pX at h1⊢;rw[iN h1]
  |succ f ih=>
   intro g n h1 h2
   cases g with
   |zero=>unfold pX at h2⊢;rw[iN h2]
   |succ g=>
    unfold pX at h1 h2⊢
    by_cases hh:cW c n∈ag
    ·rw[iP hh] at h1 h2⊢;rw[iP hh];exact ih g (n+1) h1 h2
    ·rw[iN hh,iN hh]
 have e:bw c ag n=pX c ag ag.length (n+1):=by
  unfold bw
  conv=>lhs;unfold pX
  rw[iP h]
 have h1:=Ju c ag n
 rw[e] at h1⊢
 exact key _ _ _ h1 (Ju c ag (n+1))
theorem Ta {ag:List aj} (h:cW c n∉ag):bw c ag n=n:=by
 unfold bw pX;rw[iN h]
theorem AF (hc:97<=c∧c<=122) (hk:k<1000):dX (cW c k)=true:=by
 have hd:∀k,(aZ k).all gZ=true:=λk=>by
  induction k using Nat.strongRecOn with
  |_ k ih=>
   have hd:∀j,j<10->gZ (UInt8.ofNat (48+j))=true:=by decide
   unfold aZ
   by_cases h:k<10
   ·rw[iP h,List.all_cons,hd k h];rfl
   ·rw[iN h,List.all_append,ih (k/10) om,List.all_cons,hd (k%10) om];rfl
 have h1:∀k,k<10->(aZ k).length=1:=λk hk=>by unfold aZ;rw[iP hk];rfl
 have h2:∀k,k<100->(aZ k).length<=2:=λk hk=>by
  unfold aZ
  split
  ·simp
  ·have:=h1 (k/10) om
   simp;omega
 have h3:(aZ k).length<=3:=by
  unfold aZ
  split
  ·simp
  ·have:=h2 (k/10) om
   simp;omega
 unfold dX cW
 simp only[lC,List.getD_cons_zero,List.drop_succ_cons,List.drop_zero,hd k,Bool.and_true,aE,dE]
 exact⟨⟨by omega,om⟩,hc⟩
/-! ### Bound aP renamed -/
abbrev Rn:=List (aj×aj)
def qG (ρ:Rn) (s:aj):aj:=((ρ.reverse.find? λp=>decide (p.1=s)).map Prod.snd).getD s
theorem M9 (ρ:Rn) (x y s:aj):qG (ρ++[(x,y)]) s=if x=s then y else qG ρ s:=by grind [qG]
theorem Tb (ρ:Rn) (f x s g y:aj):qG (ρ++[(f,g),(x,y)]) s=if x=s then y else if f=s then g else qG ρ s:=by grind [qG]
abbrev cx:UInt8:=120
def bR (ag:List aj):Ex->Rn->Nat->Ex×Nat
 | .at s,ρ,n=>(.at (if dX s then qG ρ s else s),n)
 | .un h a,ρ,n=>(.un h (bR ag a ρ n).1,(bR ag a ρ n).2)
 | .bi h a b,ρ,n=>(.bi h (bR ag a ρ n).1 (bR ag b ρ (bR ag a ρ n).2).1,(bR ag b ρ (bR ag a ρ n).2).2)
 | .ite a b c,ρ,n=>(.ite (bR ag a ρ n).1 (bR ag b ρ (bR ag a ρ n).2).1 (bR ag c ρ (bR ag b ρ (bR ag a ρ n).2).2).1,(bR ag c ρ (bR ag b ρ (bR ag a ρ n).2).2).2)
 | .lt x a b,ρ,n=>(.lt (cW cx (bw cx ag n)) (bR ag a ρ (bw cx ag n+1)).1 (bR ag b (ρ++[(x,cW cx (bw cx ag n))]) (bR ag a ρ (bw cx ag n+1)).2).1,
   (bR ag b (ρ++[(x,cW cx (bw cx ag n))]) (bR ag a ρ (bw cx ag n+1)).2).2)
 | .fn f x A B e,ρ,n=>(.fn (cW cx (bw cx ag n)) (cW cx (bw cx ag (bw cx ag n+1))) A B (bR ag e (ρ++[(f,cW cx (bw cx ag n)),(x,cW cx (bw cx ag (bw cx ag n+1)))]) (bw cx ag (bw cx ag n+1)+1)).1,
   (bR ag e (ρ++[(f,cW cx (bw cx ag n)),(x,cW cx (bw cx ag (bw cx ag n+1)))]) (bw cx ag (bw cx ag n+1)+1)).2)
theorem jl (ag:List aj):∀(e:Ex) (ρ:Rn) (n:Nat),n<=(bR ag e ρ n).2∧(bR ag e ρ n).2+(ag.length+2)<=n+(e.n)*(ag.length+2)+(ag.length+2)
 | .at s,ρ,n=>by simp only[bR,Ex.n];omega
 | .un h a,ρ,n=>by
  have:=jl ag a ρ n
  simp only[bR,Ex.n,Nat.add_mul];omega
 | .bi h a b,ρ,n=>by
  have:=jl ag a ρ n
  have:=jl ag b ρ (bR ag a ρ n).2
  simp only[bR,Ex.n,Nat.add_mul];omega
 | .ite a b c,ρ,n=>by
  have:=jl ag a ρ n
  have:=jl ag b ρ (bR ag a ρ n).2
  have:=jl ag c ρ (bR ag b ρ (bR ag a ρ n).2).2
  simp only[bR,Ex.n,Nat.add_mul];omega
 | .lt x a b,ρ,n=>by
  have h0:=oC cx ag n
  have:=jl ag a ρ (bw cx ag n+1)
  have:=jl ag b (ρ++[(x,cW cx (bw cx ag n))]) (bR ag a ρ (bw cx ag n+1)).2
  simp only[bR,Ex.n,Nat.add_mul];omega
 | .fn f x A B e,ρ,n=>by
  have h0:=oC cx ag n
  have h1:=oC cx ag (bw cx ag n+1)
  have:=jl ag e (ρ++[(f,cW cx (bw cx ag n)),(x,cW cx (bw cx ag (bw cx ag n+1)))]) (bw cx ag (bw cx ag n+1)+1)
  simp only[bR,Ex.n,Nat.add_mul];omega
theorem Tc (ag:List aj):∀(e:Ex) (ρ:Rn) (n:Nat),(bR ag e ρ n).1.n=e.n:=by intro x;induction x<;>grind [bR,Ty.n,Ex.n]
theorem wP (ag:List aj):∀(e:Ex) (ρ:Rn) (n:Nat),e.ok->(bR ag e ρ n).2<=1000->(∀s,dX s=true->Fv s e->dX (qG ρ s)=true)->(bR ag e ρ n).1.ok
 | .at s,ρ,n,h,_,hr=>by
  show qD _=true
  by_cases hn:dX s=true
  ·rw[iP hn];unfold qD;rw[hr s hn ⟨rfl,hn⟩];simp
  ·rw[iN hn];exact h
 | .un hd a,ρ,n,h,hm,hr=>⟨h.1,wP ag a ρ n h.2 hm hr⟩
 | .bi hd a b,ρ,n,h,hm,hr=>by
  have h2:=jl ag b ρ (bR ag a ρ n).2
  simp only[bR] at hm
  exact⟨h.1,wP ag a ρ n h.2.1 om λs hn hs=>hr s hn (.inl hs),wP ag b ρ _ h.2.2 hm λs hn hs=>hr s hn (.inr hs)⟩
 | .ite a b c,ρ,n,h,hm,hr=>by
  have h2:=jl ag b ρ (bR ag a ρ n).2
  have h3:=jl ag c ρ (bR ag b ρ (bR ag a ρ n).2).2
  simp only[bR] at hm
  exact⟨wP ag a ρ n h.1 om λs hn hs=>hr s hn (.inl hs),wP ag b ρ _ h.2.1 om λs hn hs=>hr s hn (.inr (.inl hs)),wP ag c ρ _ h.2.2 hm λs hn hs=>hr s hn (.inr (.inr hs))⟩
 | .lt x a b,ρ,n,h,hm,hr=>by
  have h1:=jl ag a ρ (bw cx ag n+1)
  have h2:=jl ag b (ρ++[(x,cW cx (bw cx ag n))]) (bR ag a ρ (bw cx ag n+1)).2
  simp only[bR] at hm
  have hk:dX (cW cx (bw cx ag n))=true:=AF de om
  refine⟨hk,wP ag a ρ _ h.2.1 om λs hn hs=>hr s hn (.inl hs),wP ag b _ _ h.2.2 hm λs hn hs=>?_⟩
  rw[M9]
  split
  ·exact hk
  ·rename_i e;exact hr s hn (.inr ⟨λe'=>e e'.symm,hs⟩)
 | .fn f x A B e,ρ,n,h,hm,hr=>by
  have h0:=oC cx ag n
  have h1:=oC cx ag (bw cx ag n+1)
  have h2:=jl ag e (ρ++[(f,cW cx (bw cx ag n)),(x,cW cx (bw cx ag (bw cx ag n+1)))]) (bw cx ag (bw cx ag n+1)+1)
  simp only[bR] at hm
  have hk:dX (cW cx (bw cx ag n))=true:=AF de om
  have az:dX (cW cx (bw cx ag (bw cx ag n+1)))=true:=AF de om
  obtain⟨_,_,_,hA,hB,he⟩:=h
  refine⟨hk,az,λe=>by have:=pW e;omega,hA,hB,wP ag e _ _ he hm λs hn hs=>?_⟩
  rw[Tb]
  split
  ·exact az
  ·rename_i e1
   split
   ·exact hk
   ·rename_i e2;exact hr s hn ⟨λe'=>e2 e'.symm,λe'=>e1 e'.symm,hs⟩
theorem wQ (ag:List aj):∀(e:Ex) (ρ:Rn) (n:Nat) (Γ Δ:Sc),(bR ag e ρ n).2<=1000->(∀s,dX s=true->Fv s e->dX (qG ρ s)=true∧look Δ (qG ρ s)=look Γ s∧∀k,n<=k->qG ρ s≠cW cx k)->bD (bR ag e ρ n).1 Δ=bD e Γ
 | .at s,ρ,n,Γ,Δ,_,h=>by
  unfold bR bD
  by_cases hn:dX s=true
  ·obtain⟨h1,h2,_⟩:=h s hn ⟨rfl,hn⟩
   rw[iP hn,iP hn,iP h1,h2]
  ·rw[iN hn,iN hn,iN hn]
 | .un hd a,ρ,n,Γ,Δ,hm,h=>by
  unfold bR bD
  rw[wQ ag a ρ n Γ Δ hm h]
 | .bi hd a b,ρ,n,Γ,Δ,hm,h=>by
  have h1:=jl ag a ρ n
  have h2:=jl ag b ρ (bR ag a ρ n).2
  simp only[bR] at hm
  unfold bR bD
  rw[wQ ag a ρ n Γ Δ om λs hn hs=>h s hn (.inl hs),wQ ag b ρ _ Γ Δ hm λs hn hs=>?_]
  obtain⟨q1,q2,q3⟩:=h s hn (.inr hs)
  exact⟨q1,q2,λk hk=>q3 k om⟩
 | .ite a b c,ρ,n,Γ,Δ,hm,h=>by
  have h1:=jl ag a ρ n
  have h2:=jl ag b ρ (bR ag a ρ n).2
  have h3:=jl ag c ρ (bR ag b ρ (bR ag a ρ n).2).2
  simp only[bR] at hm
  unfold bR bD
  rw[wQ ag a ρ n Γ Δ om λs hn hs=>h s hn (.inl hs),wQ ag b ρ _ Γ Δ om λs hn hs=>?_,wQ ag c ρ _ Γ Δ hm λs hn hs=>?_]
  ·obtain⟨q1,q2,q3⟩:=h s hn (.inr (.inr hs))
   exact⟨q1,q2,λk hk=>q3 k om⟩
  ·obtain⟨q1,q2,q3⟩:=h s hn (.inr (.inl hs))
   exact⟨q1,q2,λk hk=>q3 k om⟩
 | .lt x a b,ρ,n,Γ,Δ,hm,h=>by
  have h0:=oC cx ag n
  have h1:=jl ag a ρ (bw cx ag n+1)
  have h2:=jl ag b (ρ++[(x,cW cx (bw cx ag n))]) (bR ag a ρ (bw cx ag n+1)).2
  simp only[bR] at hm
  have hk:dX (cW cx (bw cx ag n))=true:=AF de om
  unfold bR bD
  rw[wQ ag a ρ _ Γ Δ om λs hn hs=>?_]
  ·cases bD a Γ with
   |none=>rfl
   |some A=>
    refine wQ ag b _ _ _ _ hm λs hn hs=>?_
    rw[M9,pe Γ]
    by_cases e:x=s
    ·rw[iP e,iP e,pe,iP rfl]
     exact⟨hk,rfl,λk hk e=>by have:=pW e;omega⟩
    ·rw[iN e,iN e]
     obtain⟨q1,q2,q3⟩:=h s hn (.inr ⟨λe'=>e e'.symm,hs⟩)
     rw[pe,iN (λe=>q3 _ h0.1 e.symm)]
     exact⟨q1,q2,λk hk=>q3 k om⟩
  ·obtain⟨q1,q2,q3⟩:=h s hn (.inl hs)
   exact⟨q1,q2,λk hk=>q3 k om⟩
 | .fn f x A B e,ρ,n,Γ,Δ,hm,h=>by
  have h0:=oC cx ag n
  have h1:=oC cx ag (bw cx ag n+1)
  have h2:=jl ag e (ρ++[(f,cW cx (bw cx ag n)),(x,cW cx (bw cx ag (bw cx ag n+1)))]) (bw cx ag (bw cx ag n+1)+1)
  simp only[bR] at hm
  have hk:dX (cW cx (bw cx ag n))=true:=AF de om
  have az:dX (cW cx (bw cx ag (bw cx ag n+1)))=true:=AF de om
  unfold bR bD
  rw[wQ ag e _ _ (Γ++[(f,.op true A B),(x,A)]) _ hm λs hn hs=>?_]
  rw[Tb,AE Γ]
  by_cases e1:x=s
  ·rw[iP e1,iP e1,AE,iP rfl]
   exact⟨az,rfl,λk hk e=>by have:=pW e;omega⟩
  ·by_cases e2:f=s
   ·rw[iN e1,iN e1,iP e2,iP e2,AE,iN (λe=>by have:=pW e;omega),iP rfl]
    exact⟨hk,rfl,λk hk e=>by have:=pW e;omega⟩
   ·rw[iN e1,iN e1,iN e2,iN e2]
    obtain⟨q1,q2,q3⟩:=h s hn ⟨λe'=>e2 e'.symm,λe'=>e1 e'.symm,hs⟩
    rw[AE,iN (λe=>q3 _ om e.symm),iN (λe=>q3 _ h0.1 e.symm)]
    exact⟨q1,q2,λk hk=>q3 k om⟩
/-! ### The aP that are bound -/
def eY:Ex->List aj
 | .at _=>[]
 | .un _ a=>eY a
 | .bi _ a b=>eY a++eY b
 | .ite a b c=>eY a++(eY b++eY c)
 | .lt x a b=>x::(eY a++eY b)
 | .fn f x _ _ e=>f::x::eY e
theorem wR (ag:List aj):∀(e:Ex) (ρ:Rn) (n:Nat),(eY (bR ag e ρ n).1).Nodup∧∀y,y∈eY (bR ag e ρ n).1->∃k,y=cW cx k∧n<=k∧k<(bR ag e ρ n).2
 | .at s,ρ,n=>by simp[bR,eY]
 | .un hd a,ρ,n=>wR ag a ρ n
 | .bi hd a b,ρ,n=>by
  have h1:=jl ag a ρ n
  have h2:=jl ag b ρ (bR ag a ρ n).2
  obtain⟨a1,a2⟩:=wR ag a ρ n
  obtain⟨b1,b2⟩:=wR ag b ρ (bR ag a ρ n).2
  simp only[bR,eY]
  refine⟨List.nodup_append.2 ⟨a1,b1,λx hx y hy e=>?_⟩,λy hy=>?_⟩
  ·obtain⟨k,rfl,_,hk⟩:=a2 x hx
   obtain⟨j,rfl,hj,_⟩:=b2 y hy
   have:=pW e;omega
  ·rcases mA.1 hy with hy|hy
   ·obtain⟨k,e,p,q⟩:=a2 y hy;exact⟨k,e,p,om⟩
   ·obtain⟨k,e,p,q⟩:=b2 y hy;exact⟨k,e,om,q⟩
 | .ite a b c,ρ,n=>by
  have h1:=jl ag a ρ n
  have h2:=jl ag b ρ (bR ag a ρ n).2
  have h3:=jl ag c ρ (bR ag b ρ (bR ag a ρ n).2).2
  obtain⟨a1,a2⟩:=wR ag a ρ n
  obtain⟨b1,b2⟩:=wR ag b ρ (bR ag a ρ n).2
  obtain⟨c1,c2⟩:=wR ag c ρ (bR ag b ρ (bR ag a ρ n).2).2
  simp only[bR,eY]
  refine⟨List.nodup_append.2 ⟨a1,List.nodup_append.2 ⟨b1,c1,λx hx y hy e=>?_⟩,λx hx y hy e=>?_⟩,λy hy=>?_⟩
  ·obtain⟨k,rfl,_,hk⟩:=b2 x hx
   obtain⟨j,rfl,hj,_⟩:=c2 y hy
   have:=pW e;omega
  ·obtain⟨k,rfl,_,hk⟩:=a2 x hx
   rcases mA.1 hy with hy|hy
   ·obtain⟨j,rfl,hj,_⟩:=b2 y hy
    have:=pW e;omega
   ·obtain⟨j,rfl,hj,_⟩:=c2 y hy
    have:=pW e;omega
  ·rcases mA.1 hy with hy|hy
   ·obtain⟨k,e,p,q⟩:=a2 y hy;exact⟨k,e,p,om⟩
   ·rcases mA.1 hy with hy|hy
    ·obtain⟨k,e,p,q⟩:=b2 y hy;exact⟨k,e,om,om⟩
    ·obtain⟨k,e,p,q⟩:=c2 y hy;exact⟨k,e,om,q⟩
 | .lt x a b,ρ,n=>by
  have h0:=oC cx ag n
  have h1:=jl ag a ρ (bw cx ag n+1)
  have h2:=jl ag b (ρ++[(x,cW cx (bw cx ag n))]) (bR ag a ρ (bw cx ag n+1)).2
  obtain⟨a1,a2⟩:=wR ag a ρ (bw cx ag n+1)
  obtain⟨b1,b2⟩:=wR ag b (ρ++[(x,cW cx (bw cx ag n))]) (bR ag a ρ (bw cx ag n+1)).2
  simp only[bR,eY]
  refine⟨List.nodup_cons.2 ⟨λhx=>?_,List.nodup_append.2 ⟨a1,b1,λx hx y hy e=>?_⟩⟩,λy hy=>?_⟩
  ·rcases mA.1 hx with hx|hx
   ·obtain⟨k,e,p,q⟩:=a2 _ hx;have:=pW e;omega
   ·obtain⟨k,e,p,q⟩:=b2 _ hx;have:=pW e;omega
  ·obtain⟨k,rfl,_,hk⟩:=a2 x hx
   obtain⟨j,rfl,hj,_⟩:=b2 y hy
   have:=pW e;omega
  ·rcases mC.1 hy with rfl|hy
   ·exact⟨_,rfl,om,om⟩
   ·rcases mA.1 hy with hy|hy
    ·obtain⟨k,e,p,q⟩:=a2 y hy;exact⟨k,e,om,om⟩
    ·obtain⟨k,e,p,q⟩:=b2 y hy;exact⟨k,e,om,q⟩
 | .fn f x A B e,ρ,n=>by
  have h0:=oC cx ag n
  have h1:=oC cx ag (bw cx ag n+1)
  have h2:=jl ag e (ρ++[(f,cW cx (bw cx ag n)),(x,cW cx (bw cx ag (bw cx ag n+1)))]) (bw cx ag (bw cx ag n+1)+1)
  obtain⟨a1,a2⟩:=wR ag e (ρ++[(f,cW cx (bw cx ag n)),(x,cW cx (bw cx ag (bw cx ag n+1)))]) (bw cx ag (bw cx ag n+1)+1)
  simp only[bR,eY]
  refine⟨List.nodup_cons.2 ⟨λhx=>?_,List.nodup_cons.2 ⟨λhx=>?_,a1⟩⟩,λy hy=>?_⟩
  ·rcases mC.1 hx with hx|hx
   ·have:=pW hx;omega
   ·obtain⟨k,e,p,q⟩:=a2 _ hx;have:=pW e;omega
  ·obtain⟨k,e,p,q⟩:=a2 _ hx;have:=pW e;omega
  ·rcases mC.1 hy with rfl|hy
   ·exact⟨_,rfl,om,om⟩
   ·rcases mC.1 hy with rfl|hy
    ·exact⟨_,rfl,om,om⟩
    ·obtain⟨k,e,p,q⟩:=a2 y hy;exact⟨k,e,om,q⟩
theorem pY:∀{e:Ex} {Γ:Sc} {T:Ty},bD e Γ=some T->Fv s e->(look Γ s).isSome=true
 | .at x,Γ,T,h,hs=>by
  obtain⟨rfl,hn⟩:=hs
  unfold bD at h;rw[iP hn] at h;rw[h];rfl
 | .un hd a,Γ,T,h,hs=>by
  unfold bD at h
  cases ha:bD a Γ with
  |none=>rw[ha] at h;cases h
  |some A=>exact pY ha hs
 | .bi hd a b,Γ,T,h,hs=>by
  unfold bD at h
  cases ha:bD a Γ with
  |none=>rw[ha] at h;cases h
  |some A=>
   cases hb:bD b Γ with
   |none=>rw[ha,hb] at h;cases h
   |some B=>exact hs.elim (pY ha) (pY hb)
 | .ite a b c,Γ,T,h,hs=>by
  unfold bD at h
  cases ha:bD a Γ with
  |none=>rw[ha] at h;cases h
  |some A=>
   cases hb:bD b Γ with
   |none=>rw[ha,hb] at h;cases h
   |some B=>
    cases hc:bD c Γ with
    |none=>rw[ha,hb,hc] at h;cases h
    |some C=>exact hs.elim (pY ha) λhs=>hs.elim (pY hb) (pY hc)
 | .lt x a b,Γ,T,h,hs=>by
  unfold bD at h
  cases ha:bD a Γ with
  |none=>rw[ha] at h;cases h
  |some A=>
   rw[ha,Option.bind_some] at h
   rcases hs with hs|⟨dY,hs⟩
   ·exact pY ha hs
   ·have:=pY h hs
    rw[pe,iN (λe=>dY e.symm)] at this;exact this
 | .fn f x A B e,Γ,T,h,hs=>by
  unfold bD at h
  split at h
  ·cases he:bD e (Γ++[(f,.op true A B),(x,A)]) with
   |none=>rw[he] at h;cases h
   |some C=>
    obtain⟨h1,h2,h3⟩:=hs
    have:=pY he h3
    rw[AE,iN (λe=>h2 e.symm),iN (λe=>h1 e.symm)] at this;exact this
  ·cases h
abbrev Bs:=List (aj×Ex)
abbrev cy:UInt8:=121
def nest (bs:Bs) (e:Ex):Ex:=bs.foldr (λp e=>.lt p.1 p.2 e) e
def dL (ag:List aj) (r:Bs×Ex×Nat):Bs×Ex×Nat:=
 if r.2.1.iM=true then r else(r.1++[(cW cy (bw cy ag r.2.2),r.2.1)],.at (cW cy (bw cy ag r.2.2)),bw cy ag r.2.2+1)
def bf (ag:List aj):Ex->Nat->Bs×Ex×Nat
 | .at s,n=>([],.at s,n)
 | .un h a,n=>((dL ag (bf ag a n)).1,.un h (dL ag (bf ag a n)).2.1,(dL ag (bf ag a n)).2.2)
 | .bi h a b,n=>((dL ag (bf ag a n)).1++(dL ag (bf ag b (dL ag (bf ag a n)).2.2)).1,.bi h (dL ag (bf ag a n)).2.1 (dL ag (bf ag b (dL ag (bf ag a n)).2.2)).2.1,(dL ag (bf ag b (dL ag (bf ag a n)).2.2)).2.2)
 | .ite a b c,n=>((dL ag (bf ag a n)).1,.ite (dL ag (bf ag a n)).2.1 (nest (bf ag b (dL ag (bf ag a n)).2.2).1 (bf ag b (dL ag (bf ag a n)).2.2).2.1)
   (nest (bf ag c (bf ag b (dL ag (bf ag a n)).2.2).2.2).1 (bf ag c (bf ag b (dL ag (bf ag a n)).2.2).2.2).2.1),(bf ag c (bf ag b (dL ag (bf ag a n)).2.2).2.2).2.2)
 | .lt x a b,n=>((bf ag a n).1++(x,(bf ag a n).2.1)::(bf ag b (bf ag a n).2.2).1,(bf ag b (bf ag a n).2.2).2.1,(bf ag b (bf ag a n).2.2).2.2)
 | .fn f x A B e,n=>([],.fn f x A B (nest (bf ag e n).1 (bf ag e n).2.1),(bf ag e n).2.2)
def mV (ag:List aj) (e:Ex) (n:Nat):Ex:=nest (bf ag e n).1 (bf ag e n).2.1
/-! ### How many aP -/
theorem qH (ag:List aj) (r:Bs×Ex×Nat):r.2.2<=(dL ag r).2.2∧(dL ag r).2.2<=r.2.2+ag.length+2:=by grind [dL,oC]
theorem iD (ag:List aj):∀(e:Ex) (n:Nat),n<=(bf ag e n).2.2∧(bf ag e n).2.2+2*(ag.length+2)<=n+e.n*(2*(ag.length+2))
 | .at s,n=>⟨lR _,by simp only[bf,Ex.n];omega⟩
 | .un h a,n=>by
  have:=iD ag a n
  have:=qH ag (bf ag a n)
  simp only[bf,Ex.n,Nat.add_mul];omega
 | .bi h a b,n=>by
  have:=iD ag a n
  have:=qH ag (bf ag a n)
  have:=iD ag b (dL ag (bf ag a n)).2.2
  have:=qH ag (bf ag b (dL ag (bf ag a n)).2.2)
  simp only[bf,Ex.n,Nat.add_mul];omega
 | .ite a b c,n=>by
  have:=iD ag a n
  have:=qH ag (bf ag a n)
  have:=iD ag b (dL ag (bf ag a n)).2.2
  have:=iD ag c (bf ag b (dL ag (bf ag a n)).2.2).2.2
  simp only[bf,Ex.n,Nat.add_mul];omega
 | .lt x a b,n=>by
  have:=iD ag a n
  have:=iD ag b (bf ag a n).2.2
  simp only[bf,Ex.n,Nat.add_mul];omega
 | .fn f x A B e,n=>by
  have:=iD ag e n
  simp only[bf,Ex.n,Nat.add_mul];omega
/-! ### Types -/
def rp:Bs->Sc->Option Sc
 |[],Γ=>some Γ
 |(x,s)::bs,Γ=>(bD s Γ).bind λT=>rp bs (Γ++[(x,T)])
theorem Jw (bs:Bs) (e:Ex) (Γ:Sc):bD (nest bs e) Γ=(rp bs Γ).bind (bD e):=by induction bs generalizing Γ<;>grind [bD,nest,rp]
theorem Na (bs cs:Bs) (Γ:Sc):rp (bs++cs) Γ=(rp bs Γ).bind (rp cs):=by
 induction bs generalizing Γ with
 |nil=>rfl
 |cons p bs ih=>
  obtain⟨x,s⟩:=p
  show(bD s Γ).bind (λT=>rp (bs++cs) (Γ++[(x,T)]))=((bD s Γ).bind λT=>rp bs (Γ++[(x,T)])).bind (rp cs)
  cases bD s Γ with
  |none=>rfl
  |some T=>exact ih _
def Ep (Δ:Sc) (s:aj):Prop:=∀p,p∈Δ->p.1≠s
theorem GG {Γ Δ:Sc} (h:Ep Δ s):look (Γ++Δ) s=look Γ s:=by grind [Ep,look]
def qx (ag:List aj) (e:Ex) (n m:Nat) (y:aj):Prop:=y∈eY e∨∃k,y=cW cy k∧n<=k∧k<m∧y∉ag
structure Made (ag:List aj) (e:Ex) (n:Nat) (r:Bs×Ex×Nat) (Γ:Sc) (T:Ty) (Δ:Sc):Prop where
 binds:rp r.1 Γ=some (Γ++Δ)
 type:bD r.2.1 (Γ++Δ)=some T
 aP:∀p,p∈Δ->qx ag e n r.2.2 p.1
def AG (ag:List aj) (e:Ex) (n:Nat) (r:Bs×Ex×Nat):Prop:=∀s,(Fv s r.2.1∨∃p,p∈r.1∧Fv s p.2)->Fv s e∨qx ag e n r.2.2 s
structure Td (ag:List aj) (e:Ex):Prop where
 nodup:(eY e).Nodup
 nofree:∀x,x∈eY e->¬Fv x e
 noted:∀x,x∈eY e∨Fv x e->x∈ag
theorem qx.more {ag:List aj} {e':Ex} {n':Nat} {y:aj} (h:qx ag e n m y) (hb:∀x,x∈eY e->x∈eY e') (hn:n'<=n) (hm:m<=m'):qx ag e' n' m' y:=by grind [qx,eY]
theorem AG.av {ag:List aj} {r:Bs×Ex×Nat} (h:AG ag e n r) (hn:n<=r.2.2):AG ag e n (dL ag r):=by grind [AG,dL,Fv,qx,bw,oC,Ju]
theorem Nb:∀(bs:Bs) (e:Ex) (s:aj),Fv s (nest bs e)->Fv s e∨∃p,p∈bs∧Fv s p.2:=by intro x;induction x<;>grind [Fv,nest]
theorem AG.sub {ag:List aj} {e':Ex} {n':Nat} {r:Bs×Ex×Nat} (h:AG ag e n r) (hf:∀s,Fv s e->Fv s e'∨s∈eY e') (hb:∀x,x∈eY e->x∈eY e') (hn:n'<=n) (hm:r.2.2<=m') (hs:Fv s r.2.1∨∃p,p∈r.1∧Fv s p.2):Fv s e'∨qx ag e' n' m' s:=by grind [AG,Fv,eY,qx]
theorem wS (ag:List aj):∀(e:Ex) (n:Nat),AG ag e n (bf ag e n)
 | .at s,n=>λs hs=>hs.elim .inl fun⟨p,hp,_⟩=>by simp[bf] at hp
 | .un hd a,n=>λs hs=>((wS ag a n).av (iD ag a n).1).sub (λs h=>.inl h) (λx h=>h) (lR _) (lR _) hs
 | .bi hd a b,n=>λs hs=>by
  have h1:=iD ag a n
  have h2:=qH ag (bf ag a n)
  have h3:=iD ag b (dL ag (bf ag a n)).2.2
  have h4:=qH ag (bf ag b (dL ag (bf ag a n)).2.2)
  have ha:=((wS ag a n).av h1.1).sub (e':=.bi hd a b) (n':=n) (m':=(bf ag (.bi hd a b) n).2.2) (λs h=>.inl (.inl h)) (λx h=>mA.2 (.inl h)) (lR _) (by simp only[bf];omega) (s:=s)
  have hb:=((wS ag b (dL ag (bf ag a n)).2.2).av h3.1).sub (e':=.bi hd a b) (n':=n) (m':=(bf ag (.bi hd a b) n).2.2) (λs h=>.inl (.inr h)) (λx h=>mA.2 (.inr h)) om (by simp only[bf];omega) (s:=s)
  rcases hs with(hs|hs)|⟨p,hp,hs⟩
  ·exact ha (.inl hs)
  ·exact hb (.inl hs)
  ·rcases mA.1 hp with hp|hp
   ·exact ha (.inr ⟨p,hp,hs⟩)
   ·exact hb (.inr ⟨p,hp,hs⟩)
 | .ite a b c,n=>λs hs=>by
  have h1:=iD ag a n
  have h2:=qH ag (bf ag a n)
  have h3:=iD ag b (dL ag (bf ag a n)).2.2
  have h4:=iD ag c (bf ag b (dL ag (bf ag a n)).2.2).2.2
  have ha:=((wS ag a n).av h1.1).sub (e':=.ite a b c) (n':=n) (m':=(bf ag (.ite a b c) n).2.2) (λs h=>.inl (.inl h)) (λx h=>mA.2 (.inl h)) (lR _) (by simp only[bf];omega) (s:=s)
  have hb:=(wS ag b (dL ag (bf ag a n)).2.2).sub (e':=.ite a b c) (n':=n) (m':=(bf ag (.ite a b c) n).2.2) (λs h=>.inl (.inr (.inl h))) (λx h=>mA.2 (.inr (mA.2 (.inl h)))) om (by simp only[bf];omega) (s:=s)
  have hc:=(wS ag c (bf ag b (dL ag (bf ag a n)).2.2).2.2).sub (e':=.ite a b c) (n':=n) (m':=(bf ag (.ite a b c) n).2.2) (λs h=>.inl (.inr (.inr h))) (λx h=>mA.2 (.inr (mA.2 (.inr h)))) om (by simp only[bf];omega) (s:=s)
  rcases hs with(hs|hs|hs)|⟨p,hp,hs⟩
  ·exact ha (.inl hs)
  ·exact hb (Nb _ _ _ hs)
  ·exact hc (Nb _ _ _ hs)
  ·exact ha (.inr ⟨p,hp,hs⟩)
 | .lt x a b,n=>λs hs=>by
  have h1:=iD ag a n
  have h3:=iD ag b (bf ag a n).2.2
  have ha:=(wS ag a n).sub (e':=.lt x a b) (n':=n) (m':=(bf ag (.lt x a b) n).2.2) (λs h=>.inl (.inl h)) (λy h=>mK _ (mA.2 (.inl h))) (lR _) (by simp only[bf];omega) (s:=s)
  have hb:=(wS ag b (bf ag a n).2.2).sub (e':=.lt x a b) (n':=n) (m':=(bf ag (.lt x a b) n).2.2) (λs h=>by
   by_cases e:s=x
   ·exact .inr (by rw[e];exact List.mem_cons_self ..)
   ·exact .inl (.inr ⟨e,h⟩)) (λy h=>mK _ (mA.2 (.inr h))) om (by simp only[bf];omega) (s:=s)
  rcases hs with hs|⟨p,hp,hs⟩
  ·exact hb (.inl hs)
  ·rcases mA.1 hp with hp|hp
   ·exact ha (.inr ⟨p,hp,hs⟩)
   ·rcases mC.1 hp with rfl|hp
    ·exact ha (.inl hs)
    ·exact hb (.inr ⟨p,hp,hs⟩)
 | .fn f x A B e,n=>λs hs=>by
  rcases hs with⟨h1,h2,hs⟩|⟨p,hp,_⟩
  ·rcases wS ag e n s (Nb _ _ _ hs) with h|h
   ·exact .inl ⟨h1,h2,h⟩
   ·exact .inr (h.more (λy hy=>mK _ (mK _ hy)) (lR _) (lR _))
  ·simp[bf] at hp
theorem Made.av {ag:List aj} {r:Bs×Ex×Nat} {Γ:Sc} {T:Ty} {Δ:Sc} (h:Made ag e n r Γ T Δ) (hn:n<=r.2.2) (Nc:(dL ag r).2.2<=1000):∃Δ',Made ag e n (dL ag r) Γ T Δ':=by
 unfold dL at Nc⊢
 have hf:=oC cy ag r.2.2
 have wT:=Ju cy ag r.2.2
 split
 ·exact⟨Δ,h⟩
 ·rename_i eX
  rw[iN eX] at Nc
  have hk:dX (cW cy (bw cy ag r.2.2))=true:=AF de (by dsimp only at Nc;omega)
  refine⟨Δ++[(cW cy (bw cy ag r.2.2),T)],⟨?_,?_,?_⟩⟩
  ·rw[Na,h.binds,Option.bind_some]
   show(bD r.2.1 (Γ++Δ)).bind _=_
   rw[h.type,Option.bind_some,List.append_assoc];rfl
  ·show(if dX (cW cy (bw cy ag r.2.2))=true then look (Γ++(Δ++[(cW cy (bw cy ag r.2.2),T)])) (cW cy (bw cy ag r.2.2)) else some Ty.i)=some T
   rw[iP hk,<-List.append_assoc,pe,iP rfl]
  ·intro p hp
   rcases mA.1 hp with hp|hp
   ·exact(h.aP p hp).more (λx hx=>hx) (lR _) (by dsimp only;omega)
   ·simp only[List.mem_singleton] at hp
    subst hp
    exact .inr ⟨_,rfl,om,by dsimp only;omega,wT⟩
theorem Jx {ag:List aj} {a:Ex} {Δ:Sc} (h:∀p,p∈Δ->qx ag a n m p.1) (h1:s∉eY a) (h2:s∈ag):Ep Δ s:=by grind [qx,eY,Ep]
theorem ae0 {ag:List aj} {a b:Ex} {Δ:Sc} (hs:Fv s a∨qx ag a n m s) (h:∀p,p∈Δ->qx ag b m m' p.1) (h1:∀x,x∈eY b->¬Fv x a) (h2:∀x,x∈eY b->x∉eY a) (h3:∀x,x∈eY b->x∈ag) (h4:∀x,x∈eY a∨Fv x a->x∈ag):Ep Δ s:=by grind [Fv,qx,eY,Ep,pW]
theorem made (ag:List aj):∀(e:Ex) (n:Nat) (Γ:Sc) (T:Ty),Td ag e->(bf ag e n).2.2<=1000->bD e Γ=some T->∃Δ,Made ag e n (bf ag e n) Γ T Δ
 | .at s,n,Γ,T,hu,hm,h=>⟨[],⟨by simp[bf,rp],by simpa[bf] using h,sm⟩⟩
 | .un hd a,n,Γ,T,hu,hm,h=>by
  have h1:=iD ag a n
  have h2:=qH ag (bf ag a n)
  simp only[bf] at hm
  unfold bD at h
  cases ha:bD a Γ with
  |none=>rw[ha] at h;cases h
  |some A=>
   rw[ha,Option.bind_some] at h
   obtain⟨Δ,hΔ⟩:=made ag a n Γ A ⟨hu.nodup,hu.nofree,hu.noted⟩ om ha
   obtain⟨Δ',hΔ'⟩:=hΔ.av h1.1 hm
   refine⟨Δ',⟨hΔ'.binds,?_,hΔ'.aP⟩⟩
   show(bD (dL ag (bf ag a n)).2.1 (Γ++Δ')).bind (λA=>kR hd [A])=some T
   rw[hΔ'.type,Option.bind_some];exact h
 | .bi hd a b,n,Γ,T,hu,hm,h=>by
  have h1:=iD ag a n
  have h2:=qH ag (bf ag a n)
  have h3:=iD ag b (dL ag (bf ag a n)).2.2
  have h4:=qH ag (bf ag b (dL ag (bf ag a n)).2.2)
  have pg:=(wS ag a n).av h1.1
  simp only[bf] at hm
  unfold bD at h
  cases ha:bD a Γ with
  |none=>rw[ha] at h;cases h
  |some A=>
   cases hb:bD b Γ with
   |none=>rw[ha,hb] at h;cases h
   |some B=>
    rw[ha,hb,Option.bind_some,Option.bind_some] at h
    have jg:=List.nodup_append.1 hu.nodup
    obtain⟨Δ1,hΔ1⟩:=made ag a n Γ A ⟨jg.1,λx hx hf=>hu.nofree x (mA.2 (.inl hx)) (.inl hf),λx hx=>hu.noted x (hx.imp (λh=>mA.2 (.inl h)) .inl)⟩ om ha
    obtain⟨Δ1',hΔ1'⟩:=hΔ1.av h1.1 om
    have gC:bD b (Γ++Δ1')=some B:=by
     rw[<-hb]
     refine qF b _ _ λs hn hs=>GG (Jx hΔ1'.aP (λhx=>hu.nofree s (mA.2 (.inl hx)) (.inr hs)) (hu.noted s (.inr (.inr hs))))
    obtain⟨Δ2,hΔ2⟩:=made ag b (dL ag (bf ag a n)).2.2 (Γ++Δ1') B ⟨jg.2.1,λx hx hf=>hu.nofree x (mA.2 (.inr hx)) (.inr hf),λx hx=>hu.noted x (hx.imp (λh=>mA.2 (.inr h)) .inr)⟩ om gC
    obtain⟨Δ2',hΔ2'⟩:=hΔ2.av h3.1 hm
    refine⟨Δ1'++Δ2',⟨?_,?_,?_⟩⟩
    ·show rp (_++_) Γ=_
     rw[Na,hΔ1'.binds,Option.bind_some,hΔ2'.binds,List.append_assoc]
    ·show(bD (dL ag (bf ag a n)).2.1 (Γ++(Δ1'++Δ2'))).bind (λA=>(bD (dL ag (bf ag b (dL ag (bf ag a n)).2.2)).2.1 (Γ++(Δ1'++Δ2'))).bind λB=>kR hd [A,B])=some T
     have e1:bD (dL ag (bf ag a n)).2.1 (Γ++(Δ1'++Δ2'))=some A:=by
      rw[<-hΔ1'.type,<-List.append_assoc]
      refine qF _ _ _ λs hn hs=>GG (ae0 (pg s (.inl hs)) hΔ2'.aP ?_ ?_ ?_ ?_)
      ·exact λx hx hf=>hu.nofree x (mA.2 (.inr hx)) (.inl hf)
      ·exact λx hx eA=>jg.2.2 x eA x hx rfl
      ·exact λx hx=>hu.noted x (.inl (mA.2 (.inr hx)))
      ·exact λx hx=>hu.noted x (hx.imp (λh=>mA.2 (.inl h)) .inl)
     rw[e1,Option.bind_some,<-List.append_assoc,hΔ2'.type,Option.bind_some];exact h
    ·intro p hp
     rcases mA.1 hp with hp|hp
     ·exact(hΔ1'.aP p hp).more (λx hx=>mA.2 (.inl hx)) (lR _) (by simp only[bf];omega)
     ·exact(hΔ2'.aP p hp).more (λx hx=>mA.2 (.inr hx)) om (by simp only[bf];omega)
 | .ite a b c,n,Γ,T,hu,hm,h=>by
  have h1:=iD ag a n
  have h2:=qH ag (bf ag a n)
  have h3:=iD ag b (dL ag (bf ag a n)).2.2
  have h4:=iD ag c (bf ag b (dL ag (bf ag a n)).2.2).2.2
  simp only[bf] at hm
  unfold bD at h
  cases ha:bD a Γ with
  |none=>rw[ha] at h;cases h
  |some A=>
   cases hb:bD b Γ with
   |none=>rw[ha,hb] at h;cases h
   |some B=>
    cases hc:bD c Γ with
    |none=>rw[ha,hb,hc] at h;cases h
    |some C=>
     rw[ha,hb,hc,Option.bind_some,Option.bind_some,Option.bind_some] at h
     have jg:=List.nodup_append.1 hu.nodup
     have Te:=List.nodup_append.1 jg.2.1
     have inB:∀x,x∈eY b->x∈eY (.ite a b c):=λx hx=>mA.2 (.inr (mA.2 (.inl hx)))
     have inC:∀x,x∈eY c->x∈eY (.ite a b c):=λx hx=>mA.2 (.inr (mA.2 (.inr hx)))
     have inA:∀x,x∈eY a->x∈eY (.ite a b c):=λx hx=>mA.2 (.inl hx)
     obtain⟨Δ1,hΔ1⟩:=made ag a n Γ A ⟨jg.1,λx hx hf=>hu.nofree x (inA x hx) (.inl hf),λx hx=>hu.noted x (hx.imp (inA x) .inl)⟩ om ha
     obtain⟨Δ1',hΔ1'⟩:=hΔ1.av h1.1 om
     have gC:bD b (Γ++Δ1')=some B:=by
      rw[<-hb]
      refine qF b _ _ λs hn hs=>GG (Jx hΔ1'.aP (λhx=>hu.nofree s (inA s hx) (.inr (.inl hs))) (hu.noted s (.inr (.inr (.inl hs)))))
     have pM:bD c (Γ++Δ1')=some C:=by
      rw[<-hc]
      refine qF c _ _ λs hn hs=>GG (Jx hΔ1'.aP (λhx=>hu.nofree s (inA s hx) (.inr (.inr hs))) (hu.noted s (.inr (.inr (.inr hs)))))
     obtain⟨Δ2,hΔ2⟩:=made ag b (dL ag (bf ag a n)).2.2 (Γ++Δ1') B ⟨Te.1,λx hx hf=>hu.nofree x (inB x hx) (.inr (.inl hf)),λx hx=>hu.noted x (hx.imp (inB x) λh=>.inr (.inl h))⟩ om gC
     obtain⟨Δ3,hΔ3⟩:=made ag c (bf ag b (dL ag (bf ag a n)).2.2).2.2 (Γ++Δ1') C ⟨Te.2.1,λx hx hf=>hu.nofree x (inC x hx) (.inr (.inr hf)),λx hx=>hu.noted x (hx.imp (inC x) λh=>.inr (.inr h))⟩ hm pM
     refine⟨Δ1',⟨hΔ1'.binds,?_,?_⟩⟩
     ·show(bD (dL ag (bf ag a n)).2.1 (Γ++Δ1')).bind (λA=>(bD (nest _ _) (Γ++Δ1')).bind λB=>(bD (nest _ _) (Γ++Δ1')).bind λC=>kR gN [A,B,C])=some T
      rw[hΔ1'.type,Jw,Jw,hΔ2.binds,hΔ3.binds,Option.bind_some,Option.bind_some,Option.bind_some,hΔ2.type,hΔ3.type,Option.bind_some,Option.bind_some];exact h
     ·exact λp hp=>(hΔ1'.aP p hp).more inA (lR _) (by simp only[bf];omega)
 | .lt x a b,n,Γ,T,hu,hm,h=>by
  have h1:=iD ag a n
  have h3:=iD ag b (bf ag a n).2.2
  simp only[bf] at hm
  unfold bD at h
  cases ha:bD a Γ with
  |none=>rw[ha] at h;cases h
  |some A=>
   rw[ha,Option.bind_some] at h
   have GH:=List.nodup_cons.1 hu.nodup
   have jg:=List.nodup_append.1 GH.2
   have inA:∀y,y∈eY a->y∈eY (.lt x a b):=λy hy=>mK _ (mA.2 (.inl hy))
   have inB:∀y,y∈eY b->y∈eY (.lt x a b):=λy hy=>mK _ (mA.2 (.inr hy))
   have Tf:x∈eY (.lt x a b):=List.mem_cons_self ..
   obtain⟨Δ1,hΔ1⟩:=made ag a n Γ A ⟨jg.1,λy hy hf=>hu.nofree y (inA y hy) (.inl hf),λy hy=>hu.noted y (hy.imp (inA y) .inl)⟩ om ha
   have gC:bD b (Γ++(Δ1++[(x,A)]))=some T:=by
    rw[<-h,<-List.append_assoc]
    refine qF b _ _ λs hn hs=>?_
    rw[pe,pe]
    by_cases e:x=s
    ·rw[iP e,iP e]
    ·rw[iN e,iN e]
     have Er:Fv s (.lt x a b):=.inr ⟨λe'=>e e'.symm,hs⟩
     exact GG (Jx hΔ1.aP (λhx=>hu.nofree s (inA s hx) Er) (hu.noted s (.inr Er)))
   obtain⟨Δ2,hΔ2⟩:=made ag b (bf ag a n).2.2 (Γ++(Δ1++[(x,A)])) T ⟨jg.2.1,λy hy hf=>by
    by_cases e:y=x
    ·exact GH.1 (e▸mA.2 (.inr hy))
    ·exact hu.nofree y (inB y hy) (.inr ⟨e,hf⟩),λy hy=>by
    by_cases e:y=x
    ·rw[e];exact hu.noted x (.inl Tf)
    ·exact hu.noted y (hy.imp (inB y) λh=>.inr ⟨e,h⟩)⟩ hm gC
   refine⟨Δ1++(x,A)::Δ2,⟨?_,?_,?_⟩⟩
   ·show rp (_++(x,_)::_) Γ=_
    rw[Na,hΔ1.binds,Option.bind_some]
    show(bD (bf ag a n).2.1 (Γ++Δ1)).bind (λT=>rp _ ((Γ++Δ1)++[(x,T)]))=_
    rw[hΔ1.type,Option.bind_some,List.append_assoc,hΔ2.binds]
    simp
   ·show bD (bf ag b (bf ag a n).2.2).2.1 _=some T
    have:=hΔ2.type
    rw[show Γ++(Δ1++(x,A)::Δ2)=Γ++(Δ1++[(x,A)])++Δ2 from by simp];exact this
   ·intro p hp
    rcases mA.1 hp with hp|hp
    ·exact(hΔ1.aP p hp).more inA (lR _) (by simp only[bf];omega)
    ·rcases mC.1 hp with rfl|hp
     ·exact .inl Tf
     ·exact(hΔ2.aP p hp).more inB om (by simp only[bf];omega)
 | .fn f x A B e,n,Γ,T,hu,hm,h=>by
  simp only[bf] at hm
  unfold bD at h
  split at h
  ·rename_i hc
   cases he:bD e (Γ++[(f,.op true A B),(x,A)]) with
   |none=>rw[he] at h;cases h
   |some C=>
    rw[he,Option.bind_some] at h
    have GH:=List.nodup_cons.1 hu.nodup
    have jg:=List.nodup_cons.1 GH.2
    have inE:∀y,y∈eY e->y∈eY (.fn f x A B e):=λy hy=>mK _ (mK _ hy)
    obtain⟨Δ1,hΔ1⟩:=made ag e n (Γ++[(f,.op true A B),(x,A)]) C ⟨jg.2,λy hy hf=>by
     by_cases e1:y=x
     ·exact jg.1 (e1▸hy)
     ·by_cases e2:y=f
      ·exact GH.1 (e2▸mK _ hy)
      ·exact hu.nofree y (inE y hy) ⟨e2,e1,hf⟩,λy hy=>by
     by_cases e1:y=x
     ·rw[e1];exact hu.noted x (.inl (mK _ (List.mem_cons_self ..)))
     ·by_cases e2:y=f
      ·rw[e2];exact hu.noted f (.inl (List.mem_cons_self ..))
      ·exact hu.noted y (hy.imp (inE y) λh=>⟨e2,e1,h⟩)⟩ hm he
    refine⟨[],⟨by simp[bf,rp],?_,sm⟩⟩
    show(if 1+A.n+B.n<=16 then(bD (nest (bf ag e n).1 (bf ag e n).2.1) ((Γ++[])++[(f,.op true A B),(x,A)])).bind λC=>if kQ C B then some (.op true A B) else none else none)=some T
    rw[iP hc,List.append_nil,Jw,hΔ1.binds,Option.bind_some,hΔ1.type,Option.bind_some];exact h
  ·cases h
theorem ae1 {ag:List aj} {Γ:Sc} {T:Ty} (hu:Td ag e) (hm:(bf ag e n).2.2<=1000) (h:bD e Γ=some T):bD (mV ag e n) Γ=some T:=by
 obtain⟨Δ,hΔ⟩:=made ag e n Γ T hu hm h
 unfold mV
 rw[Jw,hΔ.binds,Option.bind_some,hΔ.type]
/-! ### Atoms of a form -/
mutual
def lH:aq->List aj->List aj
 | .mk a ps,l=>if a≠[] then(if a∈l then l else l++[a]) else ph ps l
def ph:List aq->List aj->List aj
 |[],l=>l
 |t::ts,l=>ph ts (lH t l)
end
theorem Tg (t:aq) (l:List aj):lH t l=if t.av≠[] then(if t.av∈l then l else l++[t.av]) else ph t.ai l:=by cases t with|mk a ps=>rw[lH];rfl
theorem ae2:∀(xs ys:List aq) (l:List aj),ph (xs++ys) l=ph ys (ph xs l):=by intro x;induction x<;>grind [ph]
theorem ae3 {ps:List aq} {i:Nat} {p:aq} (h:ps[i]?=some p) (l:List aj):ph (ps.take (i+1)) l=lH p (ph (ps.take i) l):=by
 rw[List.take_add_one,h,ae2];rfl
mutual
theorem ae4:∀(t:aq) (l:List aj),x∈l->x∈lH t l
 | .mk a ps,l,h=>by
  unfold lH
  split
  ·split
   ·exact h
   ·exact mA.2 (.inl h)
  ·exact Nd ps l h
theorem Nd:∀(ps:List aq) (l:List aj),x∈l->x∈ph ps l
 |[],l,h=>h
 |t::ts,l,h=>by unfold ph;exact Nd ts _ (ae4 t l h)
end
mutual
theorem Th:∀(t:aq) (l:List aj),(lH t l).length<=l.length+fE t
 | .mk a ps,l=>by
  unfold lH fE
  split
  ·split
   ·omega
   ·simp
  ·exact Nf ps l
theorem Nf:∀(ps:List aq) (l:List aj),(ph ps l).length<=l.length+jI ps
 |[],l=>by simp[ph,jI]
 |t::ts,l=>by
  have h1:=Th t l
  have h2:=Nf ts (lH t l)
  unfold ph jI;omega
end
theorem ae5:∀{ps:List aq} {l:List aj} {p:aq},p∈ps->(∀l,x∈lH p l)->x∈ph ps l:=by intro x;induction x<;>grind [ph,Nd]
theorem Jy (hx:x≠[]) (l:List aj):x∈lH (bH x) l:=by grind [lH,bH]
theorem tX {ps:List aq} {p:aq} (hp:p∈ps) (h:∀l,x∈lH p l) (l:List aj):x∈lH (.mk [] ps) l:=by grind [lH,ae5]
theorem wU:∀{e:Ex},e.ok->(x∈eY e∨Fv x e)->∀l,x∈lH e.au l
 | .at s,h,hx,l=>by
  rcases hx with hx|⟨rfl,_⟩
  ·simp[eY] at hx
  ·exact Jy (pV h) l
 | .un hd a,h,hx,l=>tX (p:=a.au) sm (wU h.2 hx) l
 | .bi hd a b,h,hx,l=>by
  have ha:(x∈eY a∨Fv x a)∨(x∈eY b∨Fv x b):=by
   rcases hx with hx|hx
   ·rcases mA.1 hx with h|h
    ·exact .inl (.inl h)
    ·exact .inr (.inl h)
   ·rcases hx with h|h
    ·exact .inl (.inr h)
    ·exact .inr (.inr h)
  rcases ha with ha|hb
  ·exact tX (p:=a.au) sm (wU h.2.1 ha) l
  ·exact tX (p:=b.au) sm (wU h.2.2 hb) l
 | .ite a b c,h,hx,l=>by
  have ha:(x∈eY a∨Fv x a)∨(x∈eY b∨Fv x b)∨(x∈eY c∨Fv x c):=by
   rcases hx with hx|hx
   ·rcases mA.1 hx with h|h
    ·exact .inl (.inl h)
    ·rcases mA.1 h with h|h
     ·exact .inr (.inl (.inl h))
     ·exact .inr (.inr (.inl h))
   ·rcases hx with h|h|h
    ·exact .inl (.inr h)
    ·exact .inr (.inl (.inr h))
    ·exact .inr (.inr (.inr h))
  rcases ha with ha|hb|hc
  ·exact tX (p:=a.au) sm (wU h.1 ha) l
  ·exact tX (p:=b.au) sm (wU h.2.1 hb) l
  ·exact tX (p:=c.au) sm (wU h.2.2 hc) l
 | .lt y a b,h,hx,l=>by
  have ha:x=y∨(x∈eY a∨Fv x a)∨(x∈eY b∨Fv x b):=by
   rcases hx with hx|hx
   ·rcases mC.1 hx with h|h
    ·exact .inl h
    ·rcases mA.1 h with h|h
     ·exact .inr (.inl (.inl h))
     ·exact .inr (.inr (.inl h))
   ·rcases hx with h|⟨_,h⟩
    ·exact .inr (.inl (.inr h))
    ·exact .inr (.inr (.inr h))
  rcases ha with rfl|ha|hb
  ·exact tX (p:=bH x) sm (λl=>Jy (vv h.1) l) l
  ·exact tX (p:=a.au) sm (wU h.2.1 ha) l
  ·exact tX (p:=b.au) sm (wU h.2.2 hb) l
 | .fn f y A B e,h,hx,l=>by
  obtain⟨hf,hy,_,_,_,he⟩:=h
  have ha:x=f∨x=y∨(x∈eY e∨Fv x e):=by
   rcases hx with hx|hx
   ·rcases mC.1 hx with h|h
    ·exact .inl h
    ·rcases mC.1 h with h|h
     ·exact .inr (.inl h)
     ·exact .inr (.inr (.inl h))
   ·exact .inr (.inr (.inr hx.2.2))
  rcases ha with rfl|rfl|ha
  ·exact tX (p:=bH x) sm (λl=>Jy (vv hf) l) l
  ·exact tX (p:=bH x) sm (λl=>Jy (vv hy) l) l
  ·exact tX (p:=e.au) sm (wU he ha) l
/-! ### Expressions stay expressions -/
structure Jz (r:Bs×Ex×Nat):Prop where
 out:r.2.1.ok
 bs:∀p,p∈r.1->dX p.1=true∧p.2.ok
theorem Jz.av {ag:List aj} {r:Bs×Ex×Nat} (h:Jz r) (hm:(dL ag r).2.2<=1000):Jz (dL ag r):=by
 unfold dL at hm⊢
 split
 ·exact h
 ·rename_i eX
  rw[iN eX] at hm
  have hk:dX (cW cy (bw cy ag r.2.2))=true:=AF de (by dsimp only at hm;omega)
  refine⟨?_,λp hp=>?_⟩
  ·show qD _=true
   unfold qD;rw[hk];simp
  ·rcases mA.1 hp with hp|hp
   ·exact h.bs p hp
   ·simp only[List.mem_singleton] at hp
    subst hp
    exact⟨hk,h.out⟩
theorem JA:∀{bs:Bs} {e:Ex},(∀p,p∈bs->dX p.1=true∧p.2.ok)->e.ok->(nest bs e).ok:=by intro x;induction x<;>grind [dX,Ex.ok,nest]
theorem wV (ag:List aj):∀(e:Ex) (n:Nat),e.ok->(bf ag e n).2.2<=1000->Jz (bf ag e n)
 | .at s,n,h,_=>⟨h,by simp[bf]⟩
 | .un hd a,n,h,hm=>by
  have h1:=iD ag a n
  have h2:=qH ag (bf ag a n)
  simp only[bf] at hm
  have ha:=(wV ag a n h.2 om).av hm
  exact⟨⟨h.1,ha.out⟩,ha.bs⟩
 | .bi hd a b,n,h,hm=>by
  have h1:=iD ag a n
  have h2:=qH ag (bf ag a n)
  have h3:=iD ag b (dL ag (bf ag a n)).2.2
  have h4:=qH ag (bf ag b (dL ag (bf ag a n)).2.2)
  simp only[bf] at hm
  have ha:=(wV ag a n h.2.1 om).av (ag:=ag) om
  have hb:=(wV ag b (dL ag (bf ag a n)).2.2 h.2.2 om).av (ag:=ag) hm
  exact⟨⟨h.1,ha.out,hb.out⟩,λp hp=>(mA.1 hp).elim (ha.bs p) (hb.bs p)⟩
 | .ite a b c,n,h,hm=>by
  have h1:=iD ag a n
  have h2:=qH ag (bf ag a n)
  have h3:=iD ag b (dL ag (bf ag a n)).2.2
  have h4:=iD ag c (bf ag b (dL ag (bf ag a n)).2.2).2.2
  simp only[bf] at hm
  have ha:=(wV ag a n h.1 om).av (ag:=ag) om
  have hb:=wV ag b (dL ag (bf ag a n)).2.2 h.2.1 om
  have hc:=wV ag c (bf ag b (dL ag (bf ag a n)).2.2).2.2 h.2.2 hm
  exact⟨⟨ha.out,JA hb.bs hb.out,JA hc.bs hc.out⟩,ha.bs⟩
 | .lt x a b,n,h,hm=>by
  have h1:=iD ag a n
  have h3:=iD ag b (bf ag a n).2.2
  simp only[bf] at hm
  have ha:=wV ag a n h.2.1 om
  have hb:=wV ag b (bf ag a n).2.2 h.2.2 hm
  refine⟨hb.out,λp hp=>?_⟩
  rcases mA.1 hp with hp|hp
  ·exact ha.bs p hp
  ·rcases mC.1 hp with rfl|hp
   ·exact⟨h.1,ha.out⟩
   ·exact hb.bs p hp
 | .fn f x A B e,n,h,hm=>by
  obtain⟨hf,hx,dY,hA,hB,he⟩:=h
  simp only[bf] at hm
  have ha:=wV ag e n he hm
  exact⟨⟨hf,hx,dY,hA,hB,JA ha.bs ha.out⟩,by simp[bf]⟩
def pZ (bs:Bs):Nat:=(bs.map λp=>2+p.2.n).sum
theorem Ti (a b:Bs):pZ (a++b)=pZ a+pZ b:=by grind [pZ]
theorem Tj (p:aj×Ex) (b:Bs):pZ (p::b)=2+p.2.n+pZ b:=by simp[pZ]
theorem Ng (bs:Bs) (e:Ex):(nest bs e).n=pZ bs+e.n:=by induction bs<;>grind [nest,Ty.n,Ex.n,pZ]
theorem JB (ag:List aj) (r:Bs×Ex×Nat):pZ (dL ag r).1+(dL ag r).2.1.n<=pZ r.1+r.2.1.n+3:=by grind [pZ,dL,Ty.n,Ex.n]
theorem vw (ag:List aj):∀(e:Ex) (n:Nat),pZ (bf ag e n).1+(bf ag e n).2.1.n+3<=4*e.n
 | .at s,n=>by simp[bf,pZ,Ex.n]
 | .un hd a,n=>by
  have:=vw ag a n
  have:=JB ag (bf ag a n)
  simp only[bf,Ex.n];omega
 | .bi hd a b,n=>by
  have:=vw ag a n
  have:=JB ag (bf ag a n)
  have:=vw ag b (dL ag (bf ag a n)).2.2
  have:=JB ag (bf ag b (dL ag (bf ag a n)).2.2)
  simp only[bf,Ex.n,Ti];omega
 | .ite a b c,n=>by
  have:=vw ag a n
  have:=JB ag (bf ag a n)
  have:=vw ag b (dL ag (bf ag a n)).2.2
  have:=vw ag c (bf ag b (dL ag (bf ag a n)).2.2).2.2
  simp only[bf,Ex.n,Ng];omega
 | .lt x a b,n=>by
  have:=vw ag a n
  have:=vw ag b (bf ag a n).2.2
  simp only[bf,Ex.n,Ti,Tj];omega
 | .fn f x A B e,n=>by
  have:=vw ag e n
  simp only[bf,Ex.n,Ng]
  rw[show pZ ([]:Bs)=0 from rfl];omega
/-! ### The normal form -/
def qI (e:Ex):Option Ex:=if(bR (cU e [] []) e [] 0).2<=100 then some (bR (cU e [] []) e [] 0).1 else none
def nQ (e:Ex):Option Ex:=(qI e).bind λp=>if(bf (lH p.au []) p 0).2.2<=100 then some (mV (lH p.au []) p 0) else none
theorem Nh {p:Ex} (h:e.ok) (hp:qI e=some p):p.ok:=by
 unfold qI at hp
 split at hp
 ·cases hp
  exact wP _ e [] 0 h om λs hn _=>hn
 ·cases hp
theorem Ni {q:Ex} (h:e.ok) (hq:nQ e=some q):q.ok:=by
 unfold nQ at hq
 cases hp:qI e with
 |none=>rw[hp] at hq;cases hq
 |some p=>
  rw[hp,Option.bind_some] at hq
  split at hq
  ·cases hq
   have:=wV (lH p.au []) p 0 (Nh h hp) om
   exact JA this.bs this.out
  ·cases hq
theorem Tl {q:Ex} {T:Ty} (h:e.ok) (ht:bD e []=some T) (hq:nQ e=some q):bD q []=some T:=by
 unfold nQ at hq
 cases hp:qI e with
 |none=>rw[hp] at hq;cases hq
 |some p=>
  have Es:=Nh h hp
  rw[hp,Option.bind_some] at hq
  split at hq
  ·rename_i hm
   cases hq
   unfold qI at hp
   split at hp
   ·rename_i rq
    cases hp
    have noFv:∀s,¬Fv s e:=λs hs=>by have:=pY ht hs;simp[look] at this
    have Tm:bD (bR (cU e [] []) e [] 0).1 []=some T:=by
     rw[<-ht]
     exact wQ _ e [] 0 [] [] om λs _ hs=>absurd hs (noFv s)
    have noFp:∀s,¬Fv s (bR (cU e [] []) e [] 0).1:=λs hs=>by have:=pY Tm hs;simp[look] at this
    refine ae1 ⟨(wR _ e [] 0).1,λx _=>noFp x,λx hx=>wU Es hx []⟩ om Tm
   ·cases hp
  ·cases hq
/-! ### Target types -/
def AH (x:aq):aq:=.mk [] [bH [101],.mk [] [bH [116],.mk [] [bH [99],bH [118],x],bH [118]]]
def rr:Ty->aq
 | .i=>bH [105]
 | .op false a b=>.mk [] [bH [116],rr a,rr b]
 | .op true a b=>.mk [] [bH [101],.mk [] [bH [116],.mk [] [bH [99],bH [118],rr a,AH (rr b)],bH [118]]]
def bz (t:Ty):aj:=(rr t).text
def dJ (s:aj):aj:=[40,101,32,40,116,32,40,99,32,118,32]++s++[41,32,118,41,41]
theorem tY (c:UInt8) (h:eV c=true):Good (bH [c]):=.av _ sm (by simp[h])
theorem Tn {x:aq} (h:Good x):Good (AH x):=by
 refine .list _ sm λp hp=>?_
 simp only[mC,List.not_mem_nil,or_false] at hp
 rcases hp with rfl|rfl
 ·exact tY _ de
 ·refine .list _ sm λp hp=>?_
  simp only[mC,List.not_mem_nil,or_false] at hp
  rcases hp with rfl|rfl|rfl
  ·exact tY _ de
  ·refine .list _ sm λp hp=>?_
   simp only[mC,List.not_mem_nil,or_false] at hp
   rcases hp with rfl|rfl|rfl
   ·exact tY _ de
   ·exact tY _ de
   ·exact h
  ·exact tY _ de
theorem To (x:aq):(AH x).text=dJ x.text:=by simp_all[AH,aq.text,Ty.text,dJ,bH,o7,qC,o8,pT]
theorem Nj (s:aj):(dJ s).length=s.length+16:=by simp[dJ]
theorem Tp (x:aq):(AH x).depth=max 3 (x.depth+3):=by
 have a0:∀c:UInt8,(bH [c]).depth=0:=λc=>rfl
 unfold AH
 simp only[aq.depth,aq.depth.deeps,bH];omega
theorem Et:∀t:Ty,Good (rr t)
 | .i=>tY _ de
 | .op false a b=>by
  refine .list _ sm λp hp=>?_
  simp only[mC,List.not_mem_nil,or_false] at hp
  rcases hp with rfl|rfl|rfl
  ·exact tY _ de
  ·exact Et a
  ·exact Et b
 | .op true a b=>by
  refine .list _ sm λp hp=>?_
  simp only[mC,List.not_mem_nil,or_false] at hp
  rcases hp with rfl|rfl
  ·exact tY _ de
  ·refine .list _ sm λp hp=>?_
   simp only[mC,List.not_mem_nil,or_false] at hp
   rcases hp with rfl|rfl|rfl
   ·exact tY _ de
   ·refine .list _ sm λp hp=>?_
    simp only[mC,List.not_mem_nil,or_false] at hp
    rcases hp with rfl|rfl|rfl|rfl
    ·exact tY _ de
    ·exact tY _ de
    ·exact Et a
    ·exact Tn (Et b)
   ·exact tY _ de
theorem Tq:bz .i=[105]:=o7 sm
theorem Tr (a b:Ty):bz (.op false a b)=[40,116,32]++bz a++[32]++bz b++[41]:=by simp_all[bz,bH,aq.text,Ty.text,rr,o7,qC,o8,pT]
theorem Tt (a b:Ty):bz (.op true a b)=[40,101,32,40,116,32,40,99,32,118,32]++bz a++[32]++dJ (bz b)++[41,32,118,41,41]:=by simp_all[bz,dJ,bH,aq.text,Ty.text,rr,AH,o7,qC,o8,pT,To]
theorem CB:∀t:Ty,(bz t).length+16<=17*t.n
 | .i=>by rw[Tq];simp[Ty.n]
 | .op false a b=>by
  have:=CB a;have:=CB b
  rw[Tr];simp only[lA,lC,List.length_nil,Ty.n];omega
 | .op true a b=>by
  have:=CB a;have:=CB b
  rw[Tt];simp only[lA,lC,List.length_nil,Ty.n,Nj];omega
theorem Eu:∀t:Ty,(rr t).depth+3<=3*t.n
 | .i=>by simp[rr,bH,aq.depth,aq.depth.deeps,Ty.n]
 | .op false a b=>by
  have:=Eu a;have:=Eu b
  have:=a.pos;have:=b.pos
  simp only[rr,aq.depth,aq.depth.deeps,bH,Ty.n];omega
 | .op true a b=>by
  have:=Eu a;have:=Eu b
  have:=a.pos;have:=b.pos
  have hn:=Tp (rr b)
  simp only[rr,aq.depth,aq.depth.deeps,bH,Ty.n,hn];omega
/-! ### The maker's state -/
structure Tk where
 aM:aj
 regs:List aj
 loads:Nat
 self:List aj
 sc:List (aj×Nat×Ty)
 expr:Ex
 on:Nat
 bc:aj
 next:Nat
structure Mk where
 blocks:List Bk
 bP:List Tk
 count:Nat
 wide:Bool
 code:List aj
 types:List aj
abbrev cP:=List (aj×Nat×Ty)
def eP (s:cP):Sc:=s.map λp=>(p.1,p.2.2)
theorem Ev (s:cP) (x:aj) (r:Nat) (T:Ty):eP (s++[(x,r,T)])=eP s++[(x,T)]:=by simp[eP]
def kC (s:cP) (x:aj):Nat:=((s.reverse.find? λp=>decide (p.1=x)).map λp=>p.2.1).getD 0
def ko (s:cP) (x:aj):Ty:=(look (eP s) x).getD .i
def Mk.dy (m:Mk) (kind:aj):Mk:={m with types:=m.types++[kind],wide:=m.wide||decide (40<m.types.length+1)}
def Mk.cM (m:Mk) (h:aj) (ps:List aj):Mk:={m with code:=m.code++[cY h ps]}
def Mk.lI (m:Mk):Mk:={m with count:=m.count+1}
def Mk.aM (m:Mk):aj:=98::aZ m.count
abbrev JC:aj:=[99,111,110,115,116]
abbrev lY:aj:=[110,101,119]
abbrev sL:aj:=[108,97,98]
abbrev sM:aj:=[112,97,99,107]
abbrev AI:aj:=[111,112,101,110]
abbrev sN:aj:=[103,101,116]
abbrev nR:aj:=[109,111,118]
abbrev AJ:aj:=[106,117,109,112]
abbrev GI:aj:=[122,101,114,111]
abbrev CC:aj:=[109,97,105,110]
abbrev AK:aj:=[101,110,100]
def Ex.av:Ex->aj
 | .at s=>s
 |_=>[]
theorem Ex.ru (e:Ex):e.au.av=e.av:=by cases e<;>rfl
def cv (m:Mk) (s:cP) (a:aj):Mk×Nat:=if dX a then(m,kC s a) else((m.dy [105]).cM JC [aZ m.types.length,a],m.types.length)
structure Pk where
 m:Mk
 r:Nat
 w:aj
def pj (m:Mk) (s:cP) (ton:Nat) (aP:List aj) (on aM kind:aj) (bW:List aj):Pk:=
 let regs:=aP.map (λx=>aZ (kC s x))++(if on≠[] then[aZ ton] else[])
 let tys:=aP.map (λx=>bz (ko s x))++(if on≠[] then[on] else[])
 let w:=cY [116] tys
 let r:=m.types.length
 let code:=cY [99] (w::bW)
 ⟨(((((((m.dy w).cM lY (aZ r::regs)).dy code).cM sL [aZ (r+1),aM]).dy (cY [116] [code,w])).cM lY [aZ (r+2),aZ (r+1),aZ r]).dy kind).cM sM [aZ (r+3),aZ (r+2),kind,w],r+3,w⟩
def iH (s:cP) (k:Nat) (aP:List aj) (from_:cP):cP:=from_++(aP.zipIdx).map λp=>(p.1,k+p.2,ko s p.1)
def oD (m:Mk) (s:cP) (f x:aj) (A B:Ty) (e:Ex):Pk:=pj m.lI s 0 (cU (.fn f x A B e) [] []) [] m.aM (bz (.op true A B)) [bz A,dJ (bz B)]
def AL (s:cP) (f x:aj) (A B:Ty) (e:Ex):cP:=
 (if 0<j6 f e then iH s 3 (cU (.fn f x A B e) [] []) []++[(f,3+(cU (.fn f x A B e) [] []).length+2,.op true A B)] else iH s 3 (cU (.fn f x A B e) [] []) [])++[(x,1,A)]
def AM (m:Mk) (s:cP) (f x:aj) (A B:Ty) (e:Ex):Tk:=
 ⟨m.aM,[(oD m s f x A B e).w,bz A,dJ (bz B)],(cU (.fn f x A B e) [] []).length,if 0<j6 f e then[bz (.op true A B),(oD m s f x A B e).w] else[],AL s f x A B e,e,2,dJ (bz B),3⟩
def AN (m:Mk) (s:cP) (f x:aj) (A B:Ty) (e:Ex):Mk×Nat:=
 ({(oD m s f x A B e).m with bP:=(oD m s f x A B e).m.bP++[AM m s f x A B e]},(oD m s f x A B e).r)
def qJ (h:aj):aj:=if h=[43] then[97,100,100] else if h=[45] then[115,117,98] else if h=[42] then[109,117,108] else lY
def mW (m:Mk) (s:cP) (kind:Ty):Ex->Mk×Nat
 | .at a=>cv m s a
 | .fn f x A B e=>AN m s f x A B e
 | .un h a=>
  let p:=cv m s a.av
  ((p.1.dy (bz kind)).cM sN [aZ p.1.types.length,aZ p.2,if h=rm then[49] else[48]],p.1.types.length)
 | .bi h a b=>
  let p:=cv m s a.av
  let q:=cv p.1 s b.av
  ((q.1.dy (bz kind)).cM (qJ h) [aZ q.1.types.length,aZ p.2,aZ q.2],q.1.types.length)
 | .ite a b _=>
  let p:=cv m s a.av
  let q:=cv p.1 s b.av
  ((q.1.dy (bz kind)).cM (qJ gN) [aZ q.1.types.length,aZ p.2,aZ q.2],q.1.types.length)
 | .lt x a _=>
  let p:=cv m s x
  let q:=cv p.1 s a.av
  ((q.1.dy (bz kind)).cM (qJ gw) [aZ q.1.types.length,aZ p.2,aZ q.2],q.1.types.length)
def oF (m:Mk) (s:cP) (ton:Nat) (bc name:aj) (kind:Ty) (rest:Ex):Pk:=pj m.lI s ton (cU rest [name] []) bc m.aM (dJ (bz kind)) [bz kind]
def JD (m:Mk) (s:cP) (ton:Nat) (bc name:aj) (kind:Ty) (rest:Ex):Tk:=
 ⟨m.aM,[(oF m s ton bc name kind rest).w,bz kind],(cU rest [name] []).length+1,[],iH s 2 (cU rest [name] []) []++[(name,1,kind)],rest,2+(cU rest [name] []).length,bc,2⟩
def tZ (m:Mk) (s:cP) (ton:Nat) (bc name:aj) (kind:Ty) (rest:Ex):Mk×Nat×aj:=
 ({(oF m s ton bc name kind rest).m with bP:=(oF m s ton bc name kind rest).m.bP++[JD m s ton bc name kind rest]},(oF m s ton bc name kind rest).r,dJ (bz kind))
def sO (m:Mk) (s:Nat):Mk:=
 let r:=m.types.length
 (((((m.dy []).cM AI [aZ r,aZ s]).dy []).cM sN [aZ (r+1),aZ r,[48]]).dy []).cM sN [aZ (r+2),aZ r,[49]]
def yq (m:Mk) (f x:Nat) (on:Nat):Mk:=
 let r:=m.types.length
 ((((sO m f).cM nR [[48],aZ (r+2)]).cM nR [[49],aZ x]).cM nR [[50],aZ on]).cM AJ [aZ (r+1)]
def yr (m:Mk) (on r:Nat):Mk:=
 let q:=m.types.length
 (((sO m on).cM nR [[48],aZ (q+2)]).cM nR [[49],aZ r]).cM AJ [aZ (q+1)]
structure Goal where
 name:aj
 s:Ex
 rest:Ex
def bO:Ex->Goal
 | .lt x a b=>⟨x,a,b⟩
 |e=>⟨[],e,e⟩
def nS (s:cP) (e:Ex):Ty:=(bD e (eP s)).getD .i
structure At where
 m:Mk
 s:cP
 on:Nat
 bc:aj
def JE (a:At) (g:Goal):At:=
 if g.name≠[] then let c:=tZ a.m a.s a.on a.bc g.name (nS a.s g.s) g.rest;⟨c.1,a.s,c.2.1,c.2.2⟩ else a
def kq (a:At) (e:Ex):Mk ⊕ At×Ex:=
 let g:=bO e
 match g.s with
 | .bi h f x=>
  if h=kn then
   let p:=cv a.m a.s f.av
   let q:=cv p.1 a.s x.av
   let b:=JE {a with m:=q.1} g
   .inl (yq b.m p.2 q.2 b.on)
  else
   let p:=mW a.m a.s (nS a.s g.s) g.s
   if g.name=[] then .inl (yr p.1 a.on p.2) else .inr ({a with m:=p.1,s:=a.s++[(g.name,p.2,nS a.s g.s)]},g.rest)
 | .ite c x y=>
  let p:=cv a.m a.s c.av
  let b:=JE {a with m:=p.1} g
  let aM:=b.m.aM
  let m1:=b.m.lI.cM GI [aZ p.2,aM]
  let br:Tk:=⟨aM,m1.types,0,[],a.s,x,b.on,b.bc,m1.types.length⟩
  .inr ({b with m:={m1 with bP:=m1.bP++[br]}},y)
 |s=>
  let p:=mW a.m a.s (nS a.s s) s
  if g.name=[] then .inl (yr p.1 a.on p.2) else .inr ({a with m:=p.1,s:=a.s++[(g.name,p.2,nS a.s s)]},g.rest)
structure Fr (L:List Nat) (w:World) (L':List Nat) (w':World):Prop where
 aG:ak L w w'
 mem:∀x,x∈L'->x∈L∨w.heap.size<=x
theorem Fr.refl (L:List Nat) (w:World):Fr L w L w:=⟨ak.refl L w,λx hx=>.inl hx⟩
theorem Fr.go {L2:List Nat} (h:Fr L w L1 w1) (k:Fr L1 w1 L2 w2):Fr L w L2 w2:=
 ⟨h.aG.since k.aG h.mem,λx hx=>by
  rcases k.mem x hx with h1|h1
  ·exact h.mem x h1
  ·have:=h.aG.size;right;omega⟩
theorem Fr.ext (h:Fr L w L1 w1) (k:ak [] w1 w2):Fr L w L1 w2:=⟨h.aG.trans k.any,h.mem⟩
theorem Fr.aD (h:Fr L w L1 w1) (k:ak G w1 w2) (hG:∀x,x∈G->x∈L1):Fr L w L1 w2:=⟨h.aG.since (k.mono hG) h.mem,h.mem⟩
theorem Fr.of (k:ak G w w') (hG:∀x,x∈G->x∈L):Fr L w L w':=⟨k.mono hG,λx hx=>.inl hx⟩
theorem Fr.to {L2:List Nat} (h:Fr L w L1 w1) (hL:∀x,x∈L2->x∈L1∨w.heap.size<=x):Fr L w L2 w1:=⟨h.aG,λx hx=>by
 rcases hL x hx with h1|h1
 ·exact h.mem x h1
 ·exact .inr h1⟩
theorem Fr.grow (h:Fr L w L1 w1):Fr L w (w1.heap.size::L1) w1:=h.to λx hx=>by
 rcases mC.1 hx with rfl|hx
 ·exact .inr h.aG.size
 ·exact .inl hx
theorem ck.go {c:C} (h:ck L w v c) (k:Fr L w L' w'):ck L' w' v c:=by
 have h1:ck (L++L') w v c:=h.fresh λx hx=>by
  rcases mA.1 hx with hx|hx
  ·exact .inl hx
  ·exact k.mem x hx
 exact(h1.aG (k.aG.mono λx hx=>List.mem_append_left _ hx)).weaken λx hx=>mR _ hx
theorem dd.go {cs:List C} (h:dd L w vs cs) (k:Fr L w L' w'):dd L' w' vs cs:=dd.of h.length λ_ _ _ hv hc=>(h.get hv hc).go k
theorem jW.go {cs:List C} (h:jW L w v cs) (k:Fr L w L' w'):jW L' w' v cs:=let⟨vs,e,h⟩:=h;⟨vs,e,h.go k⟩
theorem bh.go {t:aq} (h:bh L w v t) (k:Fr L w L' w'):bh L' w' v t:=jW.go h k
theorem cX.go {t:List aq} (h:cX L w v t) (k:Fr L w L' w'):cX L' w' v t:=ck.go h k
theorem bg.go (h:bg L w v xs) (k:Fr L w L' w'):bg L' w' v xs:=ck.go h k
theorem bg.fresh (h:bg L w v xs) (hL:∀x,x∈L'->x∈L∨w.heap.size<=x):bg L' w v xs:=ck.fresh h hL
theorem bh.fresh {t:aq} (h:bh L w v t) (hL:∀x,x∈L'->x∈L∨w.heap.size<=x):bh L' w v t:=jW.fresh h hL
structure fM (L:List Nat) (w:World) (b off:Nat) (vs:List Value):Prop where
 cells:gJ w b off vs
 lt:b<w.heap.size
 out:b∉L
theorem fM.go (h:fM L w b off vs) (k:Fr L w L' w'):fM L' w' b off vs:=
 ⟨λj v hj=>(World.cell?_of_block (k.aG.block b h.lt h.out)).trans (h.cells j v hj),lL h.lt k.aG.size,λhx=>by
  rcases k.mem b hx with h1|h1
  ·exact h.out h1
  ·have:=h.lt;omega⟩
theorem fM.ext (h:fM L w b off vs) (k:ak [] w w'):fM L w' b off vs:=h.go (Fr.of k sm)
theorem fM.aD (h:fM L w b off vs) (k:ak G w w') (hG:∀x,x∈G->x∈L):fM L w' b off vs:=h.go (Fr.of k hG)
/-! ### Tasks -/
def ua (xs:List Nat):List (List C):=xs.map λx:Nat=>[.val (.int .i64 (x:Int))]
def yt (L:List Nat) (w:World) (v:Value) (xs:List Nat):Prop:=ck L w v (.sl 1 (ua xs))
theorem yt.ext {xs:List Nat} (h:yt L w v xs) (k:ak [] w w'):yt L w' v xs:=ck.ext h k
theorem yt.go {xs:List Nat} (h:yt L w v xs) (k:Fr L w L' w'):yt L' w' v xs:=ck.go h k
theorem ae6 {a:Option Addr} {c i x:Nat} {xs:List Nat} (h:yt L w (.slice a n c) xs) (hi:xs[i]?=some x):
  ∃b off,a=some ⟨b,off,none⟩∧gJ w b (off+i*1) [.int .i64 (x:Int)]:=by
 obtain⟨b,off,vs,ha,hb,hL,hl,hc,hr⟩:=z8 h (show(ua xs)[i]?=some [.val (.int .i64 (x:Int))] by simp[ua,hi])
 match vs,hr with
 |[v],hr=>obtain⟨h1,_⟩:=hr;cases h1;exact⟨b,off,ha,hc⟩
 |[],hr=>exact hr.elim
 |_::_::_,hr=>exact hr.2.elim
def jP (s:cP):List aj:=s.map λp=>p.1
def wW (s:cP):List Nat:=s.map λp=>p.2.1
def po (s:cP):List aj:=s.map λp=>p.2.2.text
theorem ae7 (s:cP) (x:aj) (r:Nat) (T:Ty):jP (s++[(x,r,T)])=jP s++[x]:=by simp[jP]
theorem ae8 (s:cP) (x:aj) (r:Nat) (T:Ty):wW (s++[(x,r,T)])=wW s++[r]:=by simp[wW]
theorem ae9 (s:cP) (x:aj) (r:Nat) (T:Ty):po (s++[(x,r,T)])=po s++[T.text]:=by simp[po]
def Tk.enc (t:Tk):List C:=
 [.val (str t.aM),.sl 1 (gL t.regs),.val (.int .i64 (t.loads:Int)),.sl 1 (gL t.self),.sl 1 (gL (jP t.sc)),.sl 1 (ua (wW t.sc)),.sl 1 (gL (po t.sc)),.val (str t.expr.au.av),.sl 2 (cQ t.expr.au.ai),.val (.int .i64 (t.on:Int)),.val (str t.bc),.val (.int .i64 (t.next:Int))]
structure oG (L:List Nat) (w:World) (t:Tk) (v1 v3 v4 v5 v6 v8:Value):Prop where
 regs:bg L w v1 t.regs
 self:bg L w v3 t.self
 aP:bg L w v4 (jP t.sc)
 at_:yt L w v5 (wW t.sc)
 types:bg L w v6 (po t.sc)
 ai:cX L w v8 t.expr.au.ai
def p4 (t:Tk) (v1 v3 v4 v5 v6 v8:Value):List Value:=
 [str t.aM,v1,.int .i64 (t.loads:Int),v3,v4,v5,v6,str t.expr.au.av,v8,.int .i64 (t.on:Int),str t.bc,.int .i64 (t.next:Int)]
theorem afa {t:Tk} (h:dd L w vs t.enc):∃v1 v3 v4 v5 v6 v8,vs=p4 t v1 v3 v4 v5 v6 v8∧oG L w t v1 v3 v4 v5 v6 v8:=by
 have hl:=h.length
 unfold Tk.enc at h hl
 match vs,hl,h with
 |[u0,u1,u2,u3,u4,u5,u6,u7,u8,u9,u10,u11],_,h=>
  obtain⟨h0,h1,h2,h3,h4,h5,h6,h7,h8,h9,gh,pq,_⟩:=h
  cases h0;cases h2;cases h7;cases h9;cases gh;cases pq
  exact⟨u1,u3,u4,u5,u6,u8,rfl,h1,h3,h4,h5,h6,h8⟩
theorem oG.yh {t:Tk} (h:oG L w t v1 v3 v4 v5 v6 v8):dd L w (p4 t v1 v3 v4 v5 v6 v8) t.enc:=
 ⟨.val _,h.regs,.val _,h.self,h.aP,h.at_,h.types,.val _,h.ai,.val _,.val _,.val _,trivial⟩
theorem oG.go {t:Tk} (h:oG L w t v1 v3 v4 v5 v6 v8) (k:Fr L w L' w'):oG L' w' t v1 v3 v4 v5 v6 v8:=
 ⟨h.regs.go k,h.self.go k,h.aP.go k,h.at_.go k,h.types.go k,h.ai.go k⟩
theorem oG.ext {t:Tk} (h:oG L w t v1 v3 v4 v5 v6 v8) (k:ak [] w w'):oG L w' t v1 v3 v4 v5 v6 v8:=h.go (Fr.of k sm)
theorem oG.aD {t:Tk} (h:oG L w t v1 v3 v4 v5 v6 v8) (k:ak G w w') (hG:∀x,x∈G->x∈L):oG L w' t v1 v3 v4 v5 v6 v8:=h.go (Fr.of k hG)
theorem oG.grow {t:Tk} (h:oG L w t v1 v3 v4 v5 v6 v8):oG (w.heap.size::L) w t v1 v3 v4 v5 v6 v8:=h.go ((Fr.refl L w).grow)
def ig (L:List Nat) (w:World) (T:TypeId) (b:Nat) (t:Tk):Prop:=∃v1 v3 v4 v5 v6 v8,aL w b (p4 t v1 v3 v4 v5 v6 v8).toArray T∧oG L w t v1 v3 v4 v5 v6 v8
theorem ig.ext {T:TypeId} {t:Tk} (h:ig L w T b t) (k:ak [] w w'):ig L w' T b t:=by
 obtain⟨v1,v3,v4,v5,v6,v8,hb,hc⟩:=h
 exact⟨v1,v3,v4,v5,v6,v8,hb.aG k sm,hc.ext k⟩
theorem ig.go {T:TypeId} {t:Tk} (h:ig L w T b t) (k:Fr L w L' w') (kg:ak G w w') (hb:b∉G):ig L' w' T b t:=by
 obtain⟨v1,v3,v4,v5,v6,v8,hB,hc⟩:=h
 exact⟨v1,v3,v4,v5,v6,v8,hB.aG kg hb,hc.go k⟩
/-! ### The maker -/
theorem cE.afb {T:TypeId} (h:cE w T v g xs):im w T 1 v g (gL xs).length (xs.map λx=>str x):=by rw[qA];exact h
structure dO (L:List Nat) (w:World) (T:TypeId) (sz:Nat) (v:Value) (g:Option Nat) (rows:List (List C)):Prop where
 own:∃xs,im w T sz v g rows.length xs∧dd L w xs rows.flatten
 row:∀row,row∈rows->row.length=sz
theorem dO.aG {T:TypeId} (h:dO L w T sz v g rows) (k:Fr L w L' w') (kg:ak G w w') (hg:∀x,x∈g.toList->x∉G):dO L' w' T sz v g rows:=by
 obtain⟨xs,h1,h2⟩:=h.own
 exact⟨⟨xs,h1.aG kg (λb hb=>hg b (by simp[hb])),h2.go k⟩,h.row⟩
theorem dO.len {T:TypeId} (h:dO L w T sz v g rows):∃a cap,v= .slice a rows.length cap:=by
 obtain⟨xs,h1,_⟩:=h.own;exact h1.len
theorem dO.lt {T:TypeId} (h:dO L w T sz v g rows):∀x,x∈g.toList->x<w.heap.size:=by
 obtain⟨xs,h1,_⟩:=h.own;intro x hx;exact h1.lt x (by simpa using hx)
theorem dO.rep {T:TypeId} (h:dO L w T sz v g rows) (hL:∀x,x∈g.toList++L'->x∈L∨w.heap.size<=x) (hg:∀x,x∈g.toList->x∉L'):ck L' w v (.sl sz rows):=by
 obtain⟨xs,h1,h2⟩:=h.own
 exact gS.done (L:=L') ⟨h1,h2.fresh hL,h.row,λb hb=>hg b (by simp[hb])⟩
theorem dO.gr {B:Nat} {T:TypeId} (h:dO L w T sz v g rows) (hL:∀x,x∈g.toList->x∈L) (hB:∀b,g=some b->B<=b) (hs:B<=w.heap.size):Gr B [] w T sz v g rows:=by
 obtain⟨xs,h1,h2⟩:=h.own
 exact⟨⟨xs,h1,h2.fresh (λx hx=>.inl (hL x (by simpa using hx))),h.row,sm⟩,hB,sm,hs⟩
theorem Gr.down {B B':Nat} {T:TypeId} (h:Gr B L w T sz v g rows) (hB:B'<=B):Gr B' L w T sz v g rows:=
 ⟨h.own,λb hb=>Nat.le_trans hB (h.low b hb),h.cN,Nat.le_trans hB h.bsz⟩
structure sP where
 M:TypeId
 B:TypeId
 T:TypeId
 S:TypeId
structure gO (τ:sP) (E L:List Nat) (w:World) (b:Nat) (o:Bool) (vb vt vc vy:Value) (gb gt gc gy:Option Nat) (m:Mk):Prop where
 bl:dO L w τ.B 3 vb gb (m.blocks.map Bk.enc)
 ta:dO L w τ.T 12 vt gt (m.bP.map Tk.enc)
 co:(o=true∧cE w τ.S vc gc m.code)∨(o=false∧gc=none∧bg L w vc m.code)
 ty:cE w τ.S vy gy m.types
 eL:L=E++b::(gb.toList++(gt.toList++(gc.toList++gy.toList)))
 nd:L.Nodup
 cN:∀x,x∈L->x<w.heap.size
section
variable {τ:sP} {E L:List Nat} {w w':World} {b:Nat} {o:Bool} {vb vt vc vy:Value} {gb gt gc gy:Option Nat} {m:Mk}
theorem yu {A B C D E:List Nat} {b x:Nat}:x∈E++b::(A++(B++(C++D)))↔x∈E∨x=b∨x∈A∨x∈B∨x∈C∨x∈D:=by simp
theorem gO.mem (h:gO τ E L w b o vb vt vc vy gb gt gc gy m) {x:Nat}:x∈L↔x∈E∨x=b∨x∈gb.toList∨x∈gt.toList∨x∈gc.toList∨x∈gy.toList:=by
 rw[h.eL];exact yu
theorem gO.apart (h:gO τ E L w b o vb vt vc vy gb gt gc gy m):E.Nodup∧b∉E∧
  (∀x,x∈gb.toList->x∉E∧x≠b)∧(∀x,x∈gt.toList->x∉E∧x≠b∧x∉gb.toList)∧(∀x,x∈gc.toList->x∉E∧x≠b∧x∉gb.toList∧x∉gt.toList)∧
  (∀x,x∈gy.toList->x∉E∧x≠b∧x∉gb.toList∧x∉gt.toList∧x∉gc.toList):=by
 have hn:=h.nd
 rw[h.eL] at hn
 rw[List.nodup_append] at hn
 obtain⟨h1,h2,h3⟩:=hn
 rw[List.nodup_cons] at h2
 obtain⟨h4,h5⟩:=h2
 rw[List.nodup_append] at h5
 obtain⟨h6,h7,h8⟩:=h5
 rw[List.nodup_append] at h7
 obtain⟨h9,gh,pq⟩:=h7
 rw[List.nodup_append] at gh
 obtain⟨kS,pr,Ew⟩:=gh
 refine⟨h1,λhb=>h3 b hb b sm rfl,λx hx=>⟨λhe=>h3 x he x (by simp[hx]) rfl,λe=>h4 (by simp[<-e,hx])⟩,λx hx=>⟨λhe=>h3 x he x (by simp[hx]) rfl,λe=>h4 (by simp[<-e,hx]),λhy=>h8 x hy x (by simp[hx]) rfl⟩,
  λx hx=>⟨λhe=>h3 x he x (by simp[hx]) rfl,λe=>h4 (by simp[<-e,hx]),λhy=>h8 x hy x (by simp[hx]) rfl,λhy=>pq x hy x (by simp[hx]) rfl⟩,
  λx hx=>⟨λhe=>h3 x he x (by simp[hx]) rfl,λe=>h4 (by simp[<-e,hx]),λhy=>h8 x hy x (by simp[hx]) rfl,λhy=>pq x hy x (by simp[hx]) rfl,λhy=>Ew x hy x hx rfl⟩⟩
theorem Nk (g:Option Nat):g.toList.Nodup:=by cases g<;>simp
theorem afc {A B C D:Option Nat} {F:List Nat} {b:Nat} (h1:F.Nodup) (h2:b∉F) (ha:∀x,x∈A.toList->x∉F∧x≠b) (hb:∀x,x∈B.toList->x∉F∧x≠b∧x∉A.toList) (hc:∀x,x∈C.toList->x∉F∧x≠b∧x∉A.toList∧x∉B.toList) 
  (hd:∀x,x∈D.toList->x∉F∧x≠b∧x∉A.toList∧x∉B.toList∧x∉C.toList):(F++b::(A.toList++(B.toList++(C.toList++D.toList)))).Nodup:=by grind [Nk,List.nodup_append,List.nodup_cons]
theorem gO.swap (h:gO τ E L w b o vb vt vc vy gb gt gc gy m) (k:ak G w w') (hG:∀x,x∈G->x∈L∧x≠b∧x∉E) {gb' gt' gc' gy':Option Nat} 
  (nb:∀x,x∈gb'.toList->x∈gb.toList∨w.heap.size<=x∧x∉gt'.toList∧x∉gc'.toList∧x∉gy'.toList) (nt:∀x,x∈gt'.toList->x∈gt.toList∨w.heap.size<=x∧x∉gb'.toList∧x∉gc'.toList∧x∉gy'.toList)
  (nc:∀x,x∈gc'.toList->x∈gc.toList∨w.heap.size<=x∧x∉gb'.toList∧x∉gt'.toList∧x∉gy'.toList) (ny:∀x,x∈gy'.toList->x∈gy.toList∨w.heap.size<=x∧x∉gb'.toList∧x∉gt'.toList∧x∉gc'.toList):
  Fr L w (E++b::(gb'.toList++(gt'.toList++(gc'.toList++gy'.toList)))) w'∧(E++b::(gb'.toList++(gt'.toList++(gc'.toList++gy'.toList)))).Nodup:=by
 obtain⟨a1,a2,a3,a4,a5,a6⟩:=h.apart
 have et:∀x,x∈E∨x=b->x<w.heap.size:=λx hx=>h.cN x (h.mem.2 (by rcases hx with hx|hx<;>simp[hx]))
 have kT:∀x,w.heap.size<=x->x∉E∧x≠b:=λx hx=>⟨λhe=>by have:=et x (.inl he);omega,λe=>by have:=et x (.inr e);omega⟩
 refine⟨⟨k.mono λx hx=>(hG x hx).1,λx hx=>?_⟩,afc a1 a2 (λx hx=>?_) (λx hx=>?_) (λx hx=>?_) (λx hx=>?_)⟩
 ·rw[yu] at hx
  rcases hx with hx|hx|hx|hx|hx|hx
  ·exact .inl (h.mem.2 (.inl hx))
  ·exact .inl (h.mem.2 (.inr (.inl hx)))
  ·rcases nb x hx with h1|h1
   ·exact .inl (h.mem.2 (by simp[h1]))
   ·exact .inr h1.1
  ·rcases nt x hx with h1|h1
   ·exact .inl (h.mem.2 (by simp[h1]))
   ·exact .inr h1.1
  ·rcases nc x hx with h1|h1
   ·exact .inl (h.mem.2 (by simp[h1]))
   ·exact .inr h1.1
  ·rcases ny x hx with h1|h1
   ·exact .inl (h.mem.2 (by simp[h1]))
   ·exact .inr h1.1
 ·rcases nb x hx with h1|h1
  ·exact a3 x h1
  ·exact kT x h1.1
 ·rcases nt x hx with h1|h1
  ·refine⟨(a4 x h1).1,(a4 x h1).2.1,λhb=>?_⟩
   rcases nb x hb with h2|h2
   ·exact(a4 x h1).2.2 h2
   ·exact h2.2.1 hx
  ·exact⟨(kT x h1.1).1,(kT x h1.1).2,h1.2.1⟩
 ·rcases nc x hx with h1|h1
  ·refine⟨(a5 x h1).1,(a5 x h1).2.1,λhb=>?_,λhb=>?_⟩
   ·rcases nb x hb with h2|h2
    ·exact(a5 x h1).2.2.1 h2
    ·exact h2.2.2.1 hx
   ·rcases nt x hb with h2|h2
    ·exact(a5 x h1).2.2.2 h2
    ·exact h2.2.2.1 hx
  ·exact⟨(kT x h1.1).1,(kT x h1.1).2,h1.2.1,h1.2.2.1⟩
 ·rcases ny x hx with h1|h1
  ·refine⟨(a6 x h1).1,(a6 x h1).2.1,λhb=>?_,λhb=>?_,λhb=>?_⟩
   ·rcases nb x hb with h2|h2
    ·exact(a6 x h1).2.2.1 h2
    ·exact h2.2.2.2 hx
   ·rcases nt x hb with h2|h2
    ·exact(a6 x h1).2.2.2.1 h2
    ·exact h2.2.2.2 hx
   ·rcases nc x hb with h2|h2
    ·exact(a6 x h1).2.2.2.2 h2
    ·exact h2.2.2.2 hx
  ·exact⟨(kT x h1.1).1,(kT x h1.1).2,h1.2.1,h1.2.2.1,h1.2.2.2⟩
theorem gO.JG (h:gO τ E L w b o vb vt vc vy gb gt gc gy m) {x:Nat} (hx:x∈gb.toList∨x∈gt.toList∨x∈gc.toList∨x∈gy.toList):x<w.heap.size:=h.cN x (h.mem.2 (by simp only[hx,or_true]))
theorem cE.lt {w:World} {T:TypeId} (h:cE w T v g xs):∀x,x∈g.toList->x<w.heap.size:=λx hx=>im.lt h x (by simpa using hx)
theorem gO.Nl (h:gO τ E L w b o vb vt vc vy gb gt gc gy m) {ys:List aj} (hy:cE w' τ.S v g ys) (k:ak gy.toList w w') (hg:∀x,g=some x->gy=some x∨w.heap.size<=x):
  ∃L',gO τ E L' w' b o vb vt vc v gb gt gc g {m with types:=ys}∧Fr L w L' w':=by
 obtain⟨a1,a2,a3,a4,a5,a6⟩:=h.apart
 have jZ:∀x,x∈g.toList->x∈gy.toList∨w.heap.size<=x∧x∉gb.toList∧x∉gt.toList∧x∉gc.toList:=λx hx=>by
  rcases hg x (by simpa using hx) with h1|h1
  ·exact .inl (by simp[h1])
  ·refine .inr ⟨h1,λhh=>?_,λhh=>?_,λhh=>?_⟩<;>have:=h.JG (x:=x) (by simp[hh])<;>omega
 obtain⟨hF,hN⟩:=h.swap k (λx hx=>⟨h.mem.2 (by simp[hx]),(a6 x hx).2.1,(a6 x hx).1⟩) (gb':=gb) (gt':=gt) (gc':=gc) (gy':=g) (λx hx=>.inl hx) (λx hx=>.inl hx) (λx hx=>.inl hx) jZ
 refine⟨_,⟨h.bl.aG hF k (λx hx hy=>(a6 x hy).2.2.1 hx),h.ta.aG hF k (λx hx hy=>(a6 x hy).2.2.2.1 hx),?_,hy,rfl,hN,?_⟩,hF⟩
 ·rcases h.co with⟨ho,h1⟩|⟨ho,hn,h1⟩
  ·exact .inl ⟨ho,h1.aG k λx hx hy=>(a6 x hy).2.2.2.2 (by simp[hx])⟩
  ·exact .inr ⟨ho,hn,h1.go hF⟩
 ·intro x hx
  rw[yu] at hx
  have hs:=k.size
  rcases hx with hx|hx|hx|hx|hx|hx
  ·exact lL (h.cN x (h.mem.2 (by simp[hx]))) hs
  ·exact lL (h.cN x (h.mem.2 (by simp[hx]))) hs
  ·exact lL (h.cN x (h.mem.2 (by simp[hx]))) hs
  ·exact lL (h.cN x (h.mem.2 (by simp[hx]))) hs
  ·exact lL (h.cN x (h.mem.2 (by simp[hx]))) hs
  ·exact hy.lt x hx
theorem gO.JH (h:gO τ E L w b o vb vt vc vy gb gt gc gy m) {ys:List aj} (hy:cE w' τ.S v g ys) (k:ak gc.toList w w') (hg:∀x,g=some x->gc=some x∨w.heap.size<=x):
  ∃L',gO τ E L' w' b true vb vt v vy gb gt g gy {m with code:=ys}∧Fr L w L' w':=by
 obtain⟨a1,a2,a3,a4,a5,a6⟩:=h.apart
 have jZ:∀x,x∈g.toList->x∈gc.toList∨w.heap.size<=x∧x∉gb.toList∧x∉gt.toList∧x∉gy.toList:=λx hx=>by
  rcases hg x (by simpa using hx) with h1|h1
  ·exact .inl (by simp[h1])
  ·refine .inr ⟨h1,λhh=>?_,λhh=>?_,λhh=>?_⟩<;>have:=h.JG (x:=x) (by simp[hh])<;>omega
 obtain⟨hF,hN⟩:=h.swap k (λx hx=>⟨h.mem.2 (by simp[hx]),(a5 x hx).2.1,(a5 x hx).1⟩) (gb':=gb) (gt':=gt) (gc':=g) (gy':=gy) (λx hx=>.inl hx) (λx hx=>.inl hx) jZ (λx hx=>.inl hx)
 refine⟨_,⟨h.bl.aG hF k (λx hx hy=>(a5 x hy).2.2.1 hx),h.ta.aG hF k (λx hx hy=>(a5 x hy).2.2.2 hx),.inl ⟨rfl,hy⟩,h.ty.aG k λx hx hy=>(a6 x (by simp[hx])).2.2.2.2 hy,rfl,hN,?_⟩,hF⟩
 intro x hx
 rw[yu] at hx
 have hs:=k.size
 rcases hx with hx|hx|hx|hx|hx|hx
 ·exact lL (h.cN x (h.mem.2 (by simp[hx]))) hs
 ·exact lL (h.cN x (h.mem.2 (by simp[hx]))) hs
 ·exact lL (h.cN x (h.mem.2 (by simp[hx]))) hs
 ·exact lL (h.cN x (h.mem.2 (by simp[hx]))) hs
 ·exact hy.lt x hx
 ·exact lL (h.cN x (h.mem.2 (by simp[hx]))) hs
theorem afd (t:Tk) (h1:v1.oneCell'=true) (h3:v3.oneCell'=true) (h4:v4.oneCell'=true) (h5:v5.oneCell'=true) (h6:v6.oneCell'=true) (h8:v8.oneCell'=true):(p4 t v1 v3 v4 v5 v6 v8).all Value.oneCell'=true:=by
 simp only[p4,List.all_cons,h1,h3,h4,h5,h6,h8];rfl
theorem Ey {L:List Nat} {w:World} (h:ck L w v (.sl sz rows)):v.oneCell'=true:=by cases h<;>rfl
theorem oG.one {t:Tk} (h:oG L w t v1 v3 v4 v5 v6 v8):(p4 t v1 v3 v4 v5 v6 v8).all Value.oneCell'=true:=afd t (Ey h.regs) (Ey h.self) (Ey h.aP) (Ey h.at_) (Ey h.types) (Ey h.ai)
theorem gO.aG (h:gO τ E L w b o vb vt vc vy gb gt gc gy m) (k:ak G w w') (hG:∀x,x∈G->x∈b::E):gO τ E L w' b o vb vt vc vy gb gt gc gy m:=by
 obtain⟨a1,a2,a3,a4,a5,a6⟩:=h.apart
 have rY:∀x,x∈G->x∈L:=λx hx=>h.mem.2 (by rcases mC.1 (hG x hx) with h1|h1<;>simp[h1])
 have hF:Fr L w L w':=Fr.of k rY
 have out:∀x,x∉E->x≠b->x∉G:=λx h1 h2 h3=>by
  rcases mC.1 (hG x h3) with h4|h4
  ·exact h2 h4
  ·exact h1 h4
 refine⟨h.bl.aG hF k (λx hx=>out x (a3 x hx).1 (a3 x hx).2),h.ta.aG hF k (λx hx=>out x (a4 x hx).1 (a4 x hx).2.1),?_,h.ty.aG k (λx hx=>out x (a6 x (by simp[hx])).1 (a6 x (by simp[hx])).2.1),h.eL,h.nd,λx hx=>lL (h.cN x hx) k.size⟩
 rcases h.co with⟨ho,h1⟩|⟨ho,hn,h1⟩
 ·exact .inl ⟨ho,h1.aG k λx hx=>out x (a5 x (by simp[hx])).1 (a5 x (by simp[hx])).2.1⟩
 ·exact .inr ⟨ho,hn,h1.go hF⟩
theorem gO.ext (h:gO τ E L w b o vb vt vc vy gb gt gc gy m) (k:ak [] w w'):gO τ E L w' b o vb vt vc vy gb gt gc gy m:=h.aG k sm
theorem gO.drop {x:Nat} (h:gO τ (x::E) L w b o vb vt vc vy gb gt gc gy m):∃L',L=x::L'∧gO τ E L' w b o vb vt vc vy gb gt gc gy m:=by
 have rY:∀y,y∈E++b::(gb.toList++(gt.toList++(gc.toList++gy.toList)))->y∈L:=λy hy=>by rw[h.eL];simp only[List.cons_append,mC];exact .inr hy
 have hF:Fr L w (E++b::(gb.toList++(gt.toList++(gc.toList++gy.toList)))) w:=(Fr.refl L w).to λy hy=>.inl (rY y hy)
 have jg:=h.nd
 rw[h.eL,List.cons_append,List.nodup_cons] at jg
 refine⟨_,h.eL,⟨h.bl.aG hF (ak.refl [] w) sm,h.ta.aG hF (ak.refl [] w) sm,?_,h.ty,rfl,jg.2,λy hy=>h.cN y (rY y hy)⟩⟩
 rcases h.co with⟨ho,h1⟩|⟨ho,hn,h1⟩
 ·exact .inl ⟨ho,h1⟩
 ·exact .inr ⟨ho,hn,h1.go hF⟩
def mkV (m:Mk) (vb vt vc vy:Value):List Value:=[vb,vt,.int .i64 (m.count:Int),.bool m.wide,vc,vy]
def dN (τ:sP) (E L:List Nat) (w:World) (b:Nat) (o:Bool) (m:Mk):Prop:=∃vb vt vc vy gb gt gc gy,aL w b (mkV m vb vt vc vy).toArray τ.M∧gO τ E L w b o vb vt vc vy gb gt gc gy m
theorem dN.ext (h:dN τ E L w b o m) (k:ak [] w w'):dN τ E L w' b o m:=by
 obtain⟨vb,vt,vc,vy,gb,gt,gc,gy,h1,h2⟩:=h
 exact⟨vb,vt,vc,vy,gb,gt,gc,gy,h1.aG k sm,h2.ext k⟩
theorem dN.aG (h:dN τ E L w b o m) (k:ak G w w') (hG:∀x,x∈G->x∈E):dN τ E L w' b o m:=by
 obtain⟨vb,vt,vc,vy,gb,gt,gc,gy,h1,h2⟩:=h
 exact⟨vb,vt,vc,vy,gb,gt,gc,gy,h1.aG k (λhx=>h2.apart.2.1 (hG b hx)),h2.aG k (λx hx=>mK _ (hG x hx))⟩
theorem dN.drop {x:Nat} (h:dN τ (x::E) L w b o m):∃L',L=x::L'∧dN τ E L' w b o m:=by
 obtain⟨vb,vt,vc,vy,gb,gt,gc,gy,h1,h2⟩:=h
 obtain⟨L',e,h3⟩:=h2.drop
 exact⟨L',e,vb,vt,vc,vy,gb,gt,gc,gy,h1,h3⟩
theorem dN.mem (h:dN τ E L w b o m):(∀x,x∈b::E->x∈L)∧E.Nodup∧b∉E∧∀x,x∈L->x<w.heap.size:=by
 obtain⟨vb,vt,vc,vy,gb,gt,gc,gy,h1,h2⟩:=h
 obtain⟨a1,a2,_⟩:=h2.apart
 exact⟨λx hx=>h2.mem.2 (by rcases mC.1 hx with h|h<;>simp[h]),a1,a2,h2.cN⟩
end
inductive It where
 |v (V:Value)
 |p (f:Value->World->Prop)
def It.F:It->Value->World->Prop
 | .v V=>λv _=>v=V
 | .p f=>f
def It.GJ:It->Bool
 | .v _=>true
 | .p _=>false
def dq (its:List It) (ds:List Nat) (w:World):List Nat->(List (Nat×Value)->Prop)->Prop
 |[],k=>k []
 |j::r,k=>match its.getD j (.p λ_ _=>True) with
  | .v V=>dq its ds w r λacc=>k ((ds.getD j 0,V)::acc)
  | .p f=>∀v,f v w->dq its ds w r λacc=>k ((ds.getD j 0,v)::acc)
theorem JI {its:List It} {ds:List Nat} {vs:Nat->Value}:∀{deps:List Nat} {k:List (Nat×Value)->Prop},dq its ds w deps k->(∀j,j∈deps->pO (its.map It.F) j (vs j) w)->k (tM ds vs deps)
 |[],k,h,_=>h
 |j::r,k,h,hd=>by
  have hj:=hd j (List.mem_cons_self ..)
  unfold dq at h
  have hp:((its.getD j (.p λ_ _=>True)).F) (vs j) w:=by
   unfold pO at hj
   rw[gG] at hj⊢
   rw[List.getElem?_map] at hj
   cases e:its[j]? with
   |none=>trivial
   |some q=>rw[e] at hj;exact hj
  cases e:its.getD j (.p λ_ _=>True) with
  |v V=>
   rw[e] at h hp
   have hv:vs j=V:=hp
   subst hv
   exact JI (deps:=r) h λi hi=>hd i (mK _ hi)
  |p f=>
   rw[e] at h hp
   exact JI (deps:=r) (h _ hp) λi hi=>hd i (mK _ hi)
theorem Tu {F:List (Value->World->Prop)} {vs:Nat->Value}:∀{l:List Nat},F3 F vs w l->∀j,j∈l->pO F j (vs j) w
 |[],_,j,h=>by cases h
 |[i],h,j,hj=>by rw[List.mem_singleton] at hj;subst hj;exact h
 |i::a::l,h,j,hj=>by
  rcases mC.1 hj with e|hj
  ·subst e;exact h.1
  ·exact Tu h.2 j hj
def GK (P:Program) (n:Nat) (ops:Array Oper) (W ds:List Nat) (its:List It) (e0:Env) (w0:World) (k:Nat) (o:Oper) (deps:List Nat):Prop:=
 ∀(x:Env) (w:World),ak [] w0 w->dq its ds w deps λacc=>OW P n ops (λe' w'=>ak [] w w'∧(its.getD k (.p λ_ _=>True)).F (e' (ds.getD k 0)) w'∧eF [ds.getD k 0] (aS (aR W x e0) acc) e') [o] (aS (aR W x e0) acc) w
def rv (P:Program) (n:Nat) (ops:Array Oper) (W ds:List Nat) (its:List It) (e0:Env) (w0:World):Nat->List Oper->List (List Nat)->Prop
 |_,[],_=>True
 |_,_::_,[]=>True
 |k,o::l,d::r=>GK P n ops W ds its e0 w0 k o d∧rv P n ops W ds its e0 w0 (k+1) l r
theorem vc {P:Program} {ops:Array Oper} {ds:List Nat} {its:List It} {d:List Nat} (h:GK P n ops W ds its e0 w0 k o d) (hr:rv P n ops W ds its e0 w0 (k+1) l r):rv P n ops W ds its e0 w0 k (o::l) (d::r):=⟨h,hr⟩
theorem Tv {P:Program} {ops:Array Oper} {ds:List Nat} {its:List It}:∀(l:List Oper) (deps:List (List Nat)) (k:Nat),rv P n ops W ds its e0 w0 k l deps->Cg (ak []) P n ops W ds (its.map It.F) e0 w0 k l deps
 |[],_,_,_=>trivial
 |_::_,[],_,_=>trivial
 |o::l,d::r,k,h=>by
  refine⟨λx vs w e hk hd he=>?_,Tv l r (k+1) h.2⟩
  have:=JI (h.1 x w hk) (vs:=vs) (Tu hd)
  subst he
  have e2:pO (its.map It.F) k=(its.getD k (.p λ_ _=>True)).F:=by
   unfold pO
   rw[gG,gG,List.getElem?_map]
   cases its[k]?<;>rfl
  rw[e2]
  exact this
def GL:List It->Prop
 |[]=>True
 | .v _::r=>GL r
 | .p f::r=>(∀v w w',f v w->ak [] w w'->f v w')∧GL r
theorem Nn:∀{its:List It},GL its->tN (ak []) (its.map It.F)
 |[],_=>trivial
 | .v _::r,h=>⟨λv w w' e _=>e,Nn (its:=r) h⟩
 | .p f::r,h=>⟨h.1,Nn (its:=r) h.2⟩
theorem Tw:∀{its:List It},its.all It.GJ=true->GL its
 |[],_=>trivial
 | .v _::r,h=>Tw (its:=r) (by simpa[It.GJ] using h)
 | .p f::r,h=>by simp[It.GJ] at h
section
variable {P:Program} {n:Nat} {l:List Oper} {m:Nat} {W ds:List Nat} {deps:List (List Nat)}
theorem wX {N R:Env->World->Prop} {X:Nat->Env->World->Prop} {id:Nat} {e0:Env} {w0:World} (hm:P.follows .mixedOrders=true) (m:Nat) (W ds:List Nat) (deps:List (List Nat)) (its:List It) 
  (hB:uR l m W ds deps=true) (hS:GL its)
  (hc:∀wd,ak [] w0 wd->rv P n l.toArray W ds its e0 wd 0 (l.take m) deps)
  (ht:∀(x:Env) (w:World),ak [] w0 w->dq its ds w (List.range m) λacc=>OW P n l.toArray N (l.drop m) (aS (aR W x e0) acc) w):
  CW P n (.region id l.toArray true) N R X e0 w0:=
 sE hm bF m W ds deps (its.map It.F) hB (Nn hS) (λwd hk=>Tv _ _ _ (hc wd hk)) λx vs w hk Mb=>
  JI (ht x w hk) (vs:=vs) λj hj=>Mb j (List.mem_range.1 hj)
theorem kU {N R:Env->World->Prop} {X:Nat->Env->World->Prop} {id:Nat} {e0:Env} {w0:World} (hm:P.follows .mixedOrders=true) (m:Nat) (W ds:List Nat) (deps:List (List Nat)) (its:List It) 
  (hB:uR l m W ds deps=true) (hS:its.all It.GJ=true)
  (hc:∀wd,ak [] w0 wd->rv P n l.toArray W ds its e0 wd 0 (l.take m) deps)
  (ht:∀(x:Env) (w:World),ak [] w0 w->dq its ds w (List.range m) λacc=>OW P n l.toArray N (l.drop m) (aS (aR W x e0) acc) w):
  CW P n (.region id l.toArray true) N R X e0 w0:=wX hm m W ds deps its hB (Tw hS) hc ht
end
section
variable {P:Program} {n:Nat} {ops:Array Oper} {e:Env} {w w':World}
theorem pv (h:v=V:=by rfl):OW P n ops (λe' w'=>ak [] w w'∧(It.v V).F (e' d) w'∧eF [d] e e') [] (bY e (some d) v) w:=
 aV ⟨ak.refl _ _,by subst h;exact nL _ _ _,rh⟩
theorem pk (k:ak [] w w') (h:v=V:=by rfl):OW P n ops (λe' w'=>ak [] w w'∧(It.v V).F (e' d) w'∧eF [d] e e') [] (bY e (some d) v) w':=
 aV ⟨k,by subst h;exact nL _ _ _,rh⟩
theorem pf {f:Value->World->Prop} (k:ak [] w w') (h:f v w'):OW P n ops (λe' w'=>ak [] w w'∧(It.p f).F (e' d) w'∧eF [d] e e') [] (bY e (some d) v) w':=
 aV ⟨k,by show f (iv e d v d) w';rw[nL];exact h,rh⟩
end
section
variable {P:Program} {n:Nat} {N R:Env->World->Prop} {X:Nat->Env->World->Prop} {e0:Env} {w:World}
theorem Ez {c:Code} (ds:List Nat) (outs:List (Nat×Value)) (h:CW P n c (λe' w'=>eF ds e0 e'∧Holds outs e'∧ak [] w w') R X e0 w) 
  (k:∀x w',ak [] w w'->N (aS (aR ds x e0) outs) w'):CW P n c N R X e0 w:=
 h.mono (λe' w' ⟨ha,ho,hk⟩=>by have:=k e' w' hk;rw[x6 ha,IS ho] at this;exact this) (λ_ _ h=>h) (λ_ _ _ h=>h)
end
theorem kE {p q r:Prop} (k:r) (h:p:=by repeat(first|with_reducible exact x5|refine IY rfl ?_|refine LR rfl ?_)) (h2:q:=by repeat' (first|rfl|(rw[iX];rfl)|(rw[mX];rfl)|constructor)):p∧q∧r:=⟨h,h2,k⟩
section
variable {P:Program} {n:Nat} {l:List Oper} {m:Nat} {W ds:List Nat} {deps:List (List Nat)}
theorem Tx {N:Env->World->Prop} {Inv:(Nat->Bool)->Env->World->Prop} (hB:uR l m W ds deps=true) 
  (step:∀(S:Nat->Bool) (e:Env) (w:World) (i:Nat) (o:Oper),i<m->l[i]?=some o->S i=false->(∀j,waits o j=true->S j=true)->Inv S e w->
   OW P n l.toArray (λe' w'=>Inv (λj=>if j=i then true else S j) e' w') [o] e w)
  (tail:∀(S:Nat->Bool) (e:Env) (w:World),(∀i,i<m->S i=true)->Inv S e w->OW P n l.toArray N (l.drop m) e w) (Q:Exit->Act->World->Prop):
  ∀(fuel:Nat) (listed:Array Bool) (e:Env) (a:Act) (w:World),Fits n e a->listed.size=l.length->
   ((List.range l.length).filter λj=>!listed.getD j true).length=fuel->
   (∀j,m<=j->j<l.length->listed.getD j true=false)->Inv (λj=>listed.getD j false) e w->I0 l listed->
   wpAny P .any l.toArray (pL n N Q) fuel listed a w:=by
 obtain⟨Ec,Ed,LZ,jg,lW⟩:=Eb hB
 have Ab:∀(listed:Array Bool) (j:Nat),listed.size=l.length->j<l.length->¬listed.getD j true=false->listed.getD j false=true:=λlisted j hs hj h1=>by
  rw[Array.getD_eq_getD_getElem?] at h1⊢
  rw[Array.getElem?_eq_getElem om] at h1⊢
  simpa using h1
 have F5:∀(listed:Array Bool) (j:Nat),listed.size=l.length->j<l.length->listed.getD j false=true->listed.getD j true=true:=λlisted j hs hj h1=>by
  rw[Array.getD_eq_getD_getElem?] at h1⊢
  rw[Array.getElem?_eq_getElem om] at h1⊢
  simpa using h1
 intro fuel
 induction fuel with
 |zero=>
  intro listed e a w hf hs Ck fP hI ot
  have cZ:∀j,j<l.length->listed.getD j true=true:=λj hj=>by
   cases hg:listed.getD j true with
   |true=>rfl
   |false=>
    have:j∈(List.range l.length).filter λj=>!listed.getD j true:=by rw[List.mem_filter,List.mem_range];exact⟨hj,by rw[hg];rfl⟩
    rw[List.length_eq_zero_iff.1 Ck] at this;cases this
  have hm:m=l.length:=by
   rcases Nat.lt_or_ge m l.length with h|h
   ·have:=fP m (lR _) h;rw[cZ m h] at this;cases this
   ·omega
  have ht:=tail _ e w (λi hi=>Ab listed i hs om (by rw[cZ i om];simp)) hI
  have h2:=ht a hf Q
  exact I1 hB 0 m listed a w (lR _) om hs (λj hj=>⟨λh=>(by rw[cZ j hj] at h;cases h),λh=>om⟩) h2
 |succ fuel ih=>
  intro listed e a w hf hs Ck fP hI ot
  by_cases uT:∀j,j<m->listed.getD j true=true
  ·have ht:=tail _ e w (λi hi=>Ab listed i hs om (by rw[uT i hi];simp)) hI
   have h2:=ht a hf Q
   have Ad:∀j,j<l.length->(listed.getD j true=false↔m<=j):=λj hj=>by
    constructor
    ·intro h
     rcases Nat.lt_or_ge j m with h'|h'
     ·rw[uT j h'] at h;cases h
     ·exact h'
    ·intro h;exact fP j h hj
   have Ae:m+(fuel+1)=l.length:=by
    rw[<-Ck]
    have:∀k,k<=l.length->m<=k->((List.range k).filter λj=>!listed.getD j true).length=k-m:=by
     intro k
     induction k with
     |zero=>intro _ h;simp
     |succ k ihk=>
      intro gD Ch
      rw[List.range_succ,List.filter_append,lA]
      rcases Nat.lt_or_ge k m with h'|h'
      ·have Ra:k+1=m:=by omega
       have hz:((List.range k).filter λj=>!listed.getD j true)=[]:=by
        rw[List.filter_eq_nil_iff]
        intro j hj
        rw[List.mem_range] at hj
        rw[uT j om];simp
       have e1:(!listed.getD k true)=false:=by rw[uT k h'];rfl
       simp only[hz,List.filter_cons,e1,List.filter_nil,List.length_nil]
       simp;omega
      ·rw[ihk om h']
       have e1:(!listed.getD k true)=true:=by rw[(Ad k om).2 h'];rfl
       simp only[List.filter_cons,e1,List.filter_nil,if_true,lC,List.length_nil]
       omega
    have:=this l.length (lR _) Ec
    omega
   exact I1 hB (fuel+1) m listed a w (lR _) Ae hs Ad h2
  ·have hex:∃j,j<m∧listed.getD j true=false∧∀i,i<j->listed.getD i true=true:=by
    have:∀k,(∃j,j<k∧listed.getD j true=false∧∀i,i<j->listed.getD i true=true)∨∀j,j<k->listed.getD j true=true:=by
     intro k
     induction k with
     |zero=>right;intro j hj;omega
     |succ k ihk=>
      rcases ihk with⟨j,hj,h1,h2⟩|h
      ·exact .inl ⟨j,om,h1,h2⟩
      ·cases hg:listed.getD k true with
       |false=>exact .inl ⟨k,om,hg,h⟩
       |true=>
        right
        intro j hj
        rcases Nat.lt_or_ge j k with h'|h'
        ·exact h j h'
        ·rw[show j=k from by omega];exact hg
    rcases this m with h|h
    ·exact h
    ·exact absurd h uT
   obtain⟨j0,F6,F7,F8⟩:=hex
   obtain⟨o0,F9⟩:∃o,l[j0]?=some o:=⟨l[j0]'om,gE om⟩
   have o4:j0∈Region.ready .any l.toArray listed:=mem_ready.2 ⟨F7,o0,by simpa using F9,λed he hb=>by
    have et:=(lW j0 o0 F9).1 ed he hb
    exact Ab listed _ hs om (by rw[F8 _ et];simp)⟩
   refine⟨λhr=>(by rw[hr] at o4;cases o4),λi hi=>?_⟩
   obtain⟨hu,o,ho,cZ⟩:=mem_ready.1 hi
   have mG:i<l.length:=by simpa using(Array.getElem?_eq_some_iff.1 ho).1
   have mM:l[i]?=some o:=by simpa using ho
   have ri:i<m:=by
    rcases Nat.lt_or_ge i m with h|h
    ·exact h
    ·have:=F5 listed j0 hs om (LX ot mM cZ ((lW i o mM).2.2 h) (i-j0) j0 om om)
     rw[F7] at this;cases this
   have ub:listed.getD i false=false:=by
    cases h:listed.getD i false with
    |false=>rfl
    |true=>rw[F5 listed i hs mG h] at hu;cases hu
   have h1:=step (λj=>listed.getD j false) e w i o ri mM ub (λj hj=>by
    obtain⟨ed,he,hb,uV⟩:=LW hj
    rw[<-uV];exact cZ ed he hb) hI
   have h2:=h1 a hf Q
   have next:∀(a':Act) (w':World),pL n (λe' w'=>Inv (λj=>if j=i then true else listed.getD j false) e' w') Q .normal a' w'->
     wpAny P .any l.toArray (pL n N Q) fuel (listed.setIfInBounds i true) a' w':=λa' w' hq=>by
    obtain⟨e',Ma,hI'⟩:=hq
    refine ih _ e' a' w' Ma (by simpa using hs) ?_ ?_ ?_ ?_
    ·have Ae:∀k,k<=l.length->((List.range k).filter λj=>!(listed.setIfInBounds i true).getD j true).length+(if i<k then 1 else 0)=((List.range k).filter λj=>!listed.getD j true).length:=by
      intro k
      induction k with
      |zero=>simp
      |succ k ihk=>
       intro gD
       have uX:=ihk om
       rw[List.range_succ,List.filter_append,lA,List.filter_append,lA]
       by_cases uY:i=k
       ·subst uY
        rw[iN om] at uX
        have et:i<listed.size:=by omega
        have e1:(listed.setIfInBounds i true).getD i true=true:=by simp[Array.getD_eq_getD_getElem?,et]
        rw[iP om]
        simp only[List.filter_cons,e1,hu,List.filter_nil,Bool.not_true,Bool.not_false,if_true,Bool.false_eq_true,if_false,lC,List.length_nil]
        omega
       ·have e1:(listed.setIfInBounds i true).getD k true=listed.getD k true:=getD_set_ne true uY
        simp only[List.filter_cons,e1,List.filter_nil]
        have ZF:(i<k+1)↔(i<k):=by omega
        by_cases pM:i<k
        ·have c1:i<k+1:=by omega
         rw[iP pM] at uX;rw[iP c1];split<;>simp only[lC,List.length_nil]<;>omega
        ·have c1:¬i<k+1:=by omega
         rw[iN pM] at uX;rw[iN c1];split<;>simp only[lC,List.length_nil]<;>omega
     have:=Ae l.length (lR _)
     rw[iP mG] at this
     omega
    ·intro j Mc wo
     rw[getD_set_ne true om];exact fP j Mc wo
    ·have e1:(λj=>(listed.setIfInBounds i true).getD j false)=λj=>if j=i then true else listed.getD j false:=by
      funext j
      by_cases mi:i=j
      ·subst mi
       have:i<listed.size:=by omega
       simp[Array.getD_eq_getD_getElem?,this]
      ·rw[getD_set_ne false mi,iN (λh=>mi h.symm)]
     rw[e1];exact hI'
    ·intro j oj Cm hj e2 kL aO
     have wA:∀x,listed.getD x false=true->(listed.setIfInBounds i true).getD x false=true:=λx hx=>by
      by_cases Ga:i=x
      ·subst Ga
       have:i<listed.size:=by omega
       simp[Array.getD_eq_getD_getElem?,this]
      ·rw[getD_set_ne false Ga];exact hx
     by_cases mi:i=j
     ·subst mi
      rw[mM] at Cm;cases Cm
      exact wA _ (cZ e2 kL aO)
     ·rw[getD_set_ne false mi] at hj
      exact wA _ (ot j oj Cm hj e2 kL aO)
   unfold wpOp
   simp only[ho]
   unfold wpList at h2
   by_cases hw:Region.wanted o (yielded l.toArray a.tmps)=true
   ·rw[iP hw] at h2⊢
    rcases h2 with h2|⟨h2,h3⟩
    ·refine .inl (Oper.LS (λa' w' h'=>next a' w' h') (λ_ _ _ h=>h) (fun⟨a,w,hq⟩=>⟨a,w,hq⟩) h2)
    ·exact .inr ⟨h2,by obtain⟨a',w',hq⟩:=h3;exact⟨a',w',hq⟩⟩
   ·rw[iN hw] at h2⊢
    exact next _ _ h2
inductive Ie where
 |v (V:Value)
 |p (f:List Nat->Value->World->Prop)
 |e (t:Nat)
 |w (t:Nat) (V:Value)
 |q (t:Nat) (f:Value->Prop)
def Ie.F:Ie->List Nat->Value->World->Prop
 | .v V=>λ_ v _=>v=V
 | .p f=>f
 | .e _=>λ_ _ _=>True
 | .w _ V=>λ_ v _=>v=V
 | .q _ f=>λ_ v _=>f v
def Ie.kr:Ie->Option Nat
 | .e t=>some t
 | .w t _=>some t
 | .q t _=>some t
 |_=>none
abbrev mm:Ie:=.p λ_ _ _=>True
def wY (its:List Ie) (ds:List Nat) (G:List Nat) (aX:List Value) (w:World):List Nat->(List (Nat×Value)->Prop)->Prop
 |[],k=>k []
 |j::r,k=>match its.getD j mm with
  | .v V=>wY its ds G aX w r λacc=>k ((ds.getD j 0,V)::acc)
  | .p f=>∀v,f G v w->wY its ds G aX w r λacc=>k ((ds.getD j 0,v)::acc)
  | .e t=>wY its ds G aX w r λacc=>k ((ds.getD j 0,aX.getD t undef)::acc)
  | .w _ V=>wY its ds G aX w r λacc=>k ((ds.getD j 0,V)::acc)
  | .q t f=>∀v,aX.getD t undef=v->f v->wY its ds G aX w r λacc=>k ((ds.getD j 0,v)::acc)
theorem AO {its:List Ie} {ds:List Nat} {aX:List Value} {vs:Nat->Value}:∀{deps:List Nat} {k:List (Nat×Value)->Prop},wY its ds G aX w deps k->
  (∀j,j∈deps->(its.getD j mm).F G (vs j) w∧∀t,(its.getD j mm).kr=some t->aX.getD t undef=vs j)->k (tM ds vs deps)
 |[],k,h,_=>h
 |j::r,k,h,hd=>by
  obtain⟨hp,he⟩:=hd j (List.mem_cons_self ..)
  unfold wY at h
  have hr:∀i,i∈r->_:=λi hi=>hd i (mK _ hi)
  cases e:its.getD j mm with
  |v V=>
   rw[e] at h hp
   have hv:vs j=V:=hp
   subst hv
   exact AO (deps:=r) h hr
  |p f=>
   rw[e] at h hp
   exact AO (deps:=r) (h _ hp) hr
  |e t=>
   rw[e] at h
   have hv:=he t (by rw[e];rfl)
   simp only[hv] at h
   exact AO (deps:=r) h hr
  |w t V=>
   rw[e] at h hp
   have hv:vs j=V:=hp
   subst hv
   exact AO (deps:=r) h hr
  |q t f=>
   rw[e] at h hp
   exact AO (deps:=r) (h _ (he t (by rw[e];rfl)) hp) hr
def eZ (G:List Nat) (w:World):Prop:=∀x,x∈G->x<w.heap.size
def JJ (P:Program) (n:Nat) (ops:Array Oper) (W ds:List Nat) (its:List Ie) (e0:Env) (G0:List Nat) (w0:World) (i:Nat) (o:Oper) (deps:List Nat):Prop:=
 ∀(x:Env) (w:World) (G:List Nat) (aX:List Value),Fr G0 w0 G w->eZ G w->wY its ds G aX w deps λacc=>
  OW P n ops (λe' w'=>ak [] w w'∧(its.getD i mm).F G (e' (ds.getD i 0)) w'∧eF [ds.getD i 0] (aS (aR W x e0) acc) e') [o] (aS (aR W x e0) acc) w
def Tz (P:Program) (n:Nat) (ops:Array Oper) (W ds:List Nat) (its:List Ie) (Js:List (List Nat->List Value->World->Prop)) (e0:Env) (G0:List Nat) (w0:World) (t i:Nat) (o:Oper) (deps:List Nat):Prop:=
 ∀(x:Env) (w:World) (G:List Nat) (aX:List Value),Fr G0 w0 G w->eZ G w->Js.getD t (λ_ _ _=>True) G aX w->aX.length=t->wY its ds G aX w deps λacc=>
  OW P n ops (λe' w'=>(∃G',Fr G w G' w'∧eZ G' w'∧Js.getD (t+1) (λ_ _ _=>True) G' (aX++[e' (ds.getD i 0)]) w'∧(its.getD i mm).F G' (e' (ds.getD i 0)) w')∧eF [ds.getD i 0] (aS (aR W x e0) acc) e') [o] (aS (aR W x e0) acc) w
def EA (P:Program) (n:Nat) (ops:Array Oper) (W ds:List Nat) (its:List Ie) (Js:List (List Nat->List Value->World->Prop)) (e0:Env) (G0:List Nat) (w0:World) (i:Nat) (o:Oper) (deps:List Nat):Prop:=
 match(its.getD i mm).kr with
 |some t=>Tz P n ops W ds its Js e0 G0 w0 t i o deps
 |none=>JJ P n ops W ds its e0 G0 w0 i o deps
def vz (P:Program) (n:Nat) (ops:Array Oper) (W ds:List Nat) (its:List Ie) (Js:List (List Nat->List Value->World->Prop)) (e0:Env) (G0:List Nat) (w0:World):Nat->List Oper->List (List Nat)->Prop
 |_,[],_=>True
 |_,_::_,[]=>True
 |k,o::l,d::r=>EA P n ops W ds its Js e0 G0 w0 k o d∧vz P n ops W ds its Js e0 G0 w0 (k+1) l r
section
variable {P:Program} {n:Nat} {ops:Array Oper} {W ds:List Nat} {its:List Ie} {Js:List (List Nat->List Value->World->Prop)} {e0:Env} {G0:List Nat} {w0:World}
theorem vf {l:List Oper} {d:List Nat} (h:JJ P n ops W ds its e0 G0 w0 k o d) (hr:vz P n ops W ds its Js e0 G0 w0 (k+1) l r) (hk:(its.getD k mm).kr=none:=by rfl):vz P n ops W ds its Js e0 G0 w0 k (o::l) (d::r):=
 ⟨by unfold EA;rw[hk];exact h,hr⟩
theorem ve (t:Nat) {l:List Oper} {d:List Nat} (h:Tz P n ops W ds its Js e0 G0 w0 t k o d) (hr:vz P n ops W ds its Js e0 G0 w0 (k+1) l r) (hk:(its.getD k mm).kr=some t:=by rfl):vz P n ops W ds its Js e0 G0 w0 k (o::l) (d::r):=
 ⟨by unfold EA;rw[hk];exact h,hr⟩
theorem TH:∀(l:List Oper) (deps:List (List Nat)) (k:Nat),vz P n ops W ds its Js e0 G0 w0 k l deps->∀(i:Nat) (o:Oper) (d:List Nat),l[i]?=some o->deps[i]?=some d->EA P n ops W ds its Js e0 G0 w0 (k+i) o d
 |[],_,_,_,i,o,d,h,_=>by simp at h
 |_::_,[],_,_,i,o,d,_,h=>by simp at h
 |o::l,d::r,k,h,0,o',d',ho,hd=>by
  simp at ho hd;subst ho;subst hd;exact h.1
 |o::l,d::r,k,h,i+1,o',d',ho,hd=>by
  have:=TH l r (k+1) h.2 i o' d' (by simpa using ho) (by simpa using hd)
  rwa [show k+1+i=k+(i+1) by omega] at this
end
def No (l:List Oper) (m:Nat) (effs:List Nat) (its:List Ie):Bool:=
 (List.range effs.length).all (λt=>decide (effs.getD t 0<m)&&((its.getD (effs.getD t 0) mm).kr==some t)&&(decide (t=0)||(match l[effs.getD t 0]? with|some o=>waits o (effs.getD (t-1) 0)|none=>false)))&&
 (List.range m).all (λi=>match(its.getD i mm).kr with|some t=>decide (t<effs.length)&&decide (effs.getD t 0=i)|none=>true)
theorem afg {l:List Oper} {m:Nat} {effs:List Nat} {its:List Ie} (h:No l m effs its=true):
  (∀t,t<effs.length->effs.getD t 0<m∧(its.getD (effs.getD t 0) mm).kr=some t∧(t≠0->∃o,l[effs.getD t 0]?=some o∧waits o (effs.getD (t-1) 0)=true))∧
  ∀i t,i<m->(its.getD i mm).kr=some t->t<effs.length∧effs.getD t 0=i:=by
 unfold No at h
 rw[aE,List.all_eq_true,List.all_eq_true] at h
 obtain⟨h1,h2⟩:=h
 refine⟨λt ht=>?_,λi t hi he=>?_⟩
 ·have:=h1 t (List.mem_range.2 ht)
  simp only[aE,dE,beq_iff_eq,oE] at this
  obtain⟨⟨a,b⟩,c⟩:=this
  refine⟨a,b,λh0=>?_⟩
  rcases c with c|c
  ·exact absurd c h0
  ·cases hl:l[effs.getD t 0]? with
   |none=>rw[hl] at c;cases c
   |some o=>rw[hl] at c;exact⟨o,rfl,c⟩
 ·have:=h2 i (List.mem_range.2 hi)
  rw[he] at this
  simpa using this
def AP:List Ie->Prop
 |[]=>True
 | .p f::r=>(∀G v w G' w',f G v w->Fr G w G' w'->f G' v w')∧AP r
 | .v _::r=>AP r
 | .e _::r=>AP r
 | .w _ _::r=>AP r
 | .q _ _::r=>AP r
theorem EB:∀{its:List Ie},AP its->∀q,q∈its->∀G v w G' w',q.F G v w->Fr G w G' w'->q.F G' v w'
 | .p f::r,h,q,hq,G,v,w,G',w',hf,hk=>by
  rcases mC.1 hq with e|hq
  ·subst e;exact h.1 _ _ _ _ _ hf hk
  ·exact EB (its:=r) h.2 q hq _ _ _ _ _ hf hk
 | .v V::r,h,q,hq,G,v,w,G',w',hf,hk=>by
  rcases mC.1 hq with e|hq
  ·subst e;exact hf
  ·exact EB (its:=r) h q hq _ _ _ _ _ hf hk
 | .e V::r,h,q,hq,G,v,w,G',w',hf,hk=>by
  rcases mC.1 hq with e|hq
  ·subst e;exact hf
  ·exact EB (its:=r) h q hq _ _ _ _ _ hf hk
 | .w t V::r,h,q,hq,G,v,w,G',w',hf,hk=>by
  rcases mC.1 hq with e|hq
  ·subst e;exact hf
  ·exact EB (its:=r) h q hq _ _ _ _ _ hf hk
 | .q t f::r,h,q,hq,G,v,w,G',w',hf,hk=>by
  rcases mC.1 hq with e|hq
  ·subst e;exact hf
  ·exact EB (its:=r) h q hq _ _ _ _ _ hf hk
theorem TJ {its:List Ie} (h:AP its) (i:Nat) {G':List Nat} (hf:(its.getD i mm).F G v w) (hk:Fr G w G' w'):(its.getD i mm).F G' v w':=by
 rw[gG] at hf⊢
 cases e:its[i]? with
 |none=>trivial
 |some q=>rw[e] at hf;exact EB h q (List.mem_of_getElem? e) _ _ _ _ _ hf hk
def JK:List (List Nat->List Value->World->Prop)->Prop
 |[]=>True
 |J::r=>(∀G vs w w',J G vs w->ak [] w w'->J G vs w')∧JK r
theorem GM:∀{Js:List (List Nat->List Value->World->Prop)},JK Js->∀(k:Nat) {G:List Nat} {vs:List Value} {w w':World},Js.getD k (λ_ _ _=>True) G vs w->ak [] w w'->Js.getD k (λ_ _ _=>True) G vs w'
 |[],_,k,_,_,_,_,_,_=>by simp
 |J::r,h,0,_,_,_,_,hj,hk=>h.1 _ _ _ _ hj hk
 |J::r,h,k+1,_,_,_,_,hj,hk=>by
  have:=GM (Js:=r) h.2 k (by simpa using hj) hk
  simpa using this
theorem jv {α:Type} {l:List α} (h:l.length=0):l=[]:=by grind
theorem jw {α:Type} {l:List α} (h:l.length=1):∃a,l=[a]:=List.length_eq_one_iff.1 h
theorem lJ {α:Type} {l:List α} (h:l.length=2):∃a b,l=[a,b]:=by
 match l,h with|[a,b],_=>exact⟨a,b,rfl⟩
theorem AQ {α:Type} {l:List α} (h:l.length=3):∃a b c,l=[a,b,c]:=by
 match l,h with|[a,b,c],_=>exact⟨a,b,c,rfl⟩
theorem Np {α:Type} {l:List α} (h:l.length=4):∃a b c d,l=[a,b,c,d]:=by
 match l,h with|[a,b,c,d],_=>exact⟨a,b,c,d,rfl⟩
theorem TK {α:Type} {l:List α} (h:l.length=5):∃a b c d e,l=[a,b,c,d,e]:=by
 match l,h with|[a,b,c,d,e],_=>exact⟨a,b,c,d,e,rfl⟩
theorem afh {α:Type} {l:List α} (h:l.length=6):∃a b c d e f,l=[a,b,c,d,e,f]:=by
 match l,h with|[a,b,c,d,e,f],_=>exact⟨a,b,c,d,e,f,rfl⟩
theorem AR {W ds:List Nat} {e:Env} (ha:eF W e0 e) (r:List Nat):aS (aR W e e0) (tM ds (λi=>e (ds.getD i 0)) r)=e:=by
 rw[x6 ha,F4 (by
  intro p hp
  have:∀(r:List Nat),p∈tM ds (λi=>e (ds.getD i 0)) r->e p.1=p.2:=by
   intro r
   induction r with
   |nil=>intro h;cases h
   |cons j r ih=>
    intro h
    rcases mC.1 h with h|h
    ·subst h;rfl
    ·exact ih h
  exact this _ hp)]
theorem jQ {N R:Env->World->Prop} {X:Nat->Env->World->Prop} {id:Nat} {e0:Env} {w0:World} (hm:P.follows .mixedOrders=true) (G0:List Nat) (m:Nat) (W ds:List Nat) (deps:List (List Nat)) (its:List Ie) (effs:List Nat) (Js:List (List Nat->List Value->World->Prop)) 
  (hB:uR l m W ds deps=true) (hE:No l m effs its=true) (hL:eZ G0 w0) (hF:AP its) (hJ:JK Js) (h0:Js.getD 0 (λ_ _ _=>True) G0 [] w0)
  (hc:vz P n l.toArray W ds its Js e0 G0 w0 0 (l.take m) deps)
  (ht:∀(x:Env) (w:World) (G:List Nat) (aX:List Value),Fr G0 w0 G w->eZ G w->Js.getD effs.length (λ_ _ _=>True) G aX w->aX.length=effs.length->wY its ds G aX w (List.range m) λacc=>OW P n l.toArray N (l.drop m) (aS (aR W x e0) acc) w):
  CW P n (.region id l.toArray true) N R X e0 w0:=λa ha=>by
 refine wp_region_any hm ?_
 have gq:ak [] w0 {w0 with drawn:=w0.drawn+1}:=ak.drew _ _
 obtain⟨Ec,Ed,LZ,jg,lW⟩:=Eb hB
 obtain⟨oH,kL⟩:=afg hE
 have dY:∀i j,i<m->j<m->i≠j->ds.getD j 0≠ds.getD i 0:=λi j hi hj mi=>by
  rw[gG,gG,gE om,gE om]
  simp only[Option.getD_some]
  intro he
  exact mi ((List.getElem_inj jg).1 he.symm)
 let Inv:(Nat->Bool)->Env->World->Prop:=λS e w=>∃G k,eF W e0 e∧Fr G0 w0 G w∧eZ G w∧k<=effs.length∧(∀t,t<effs.length->(S (effs.getD t 0)=true↔t<k))∧
  Js.getD k (λ_ _ _=>True) G ((effs.take k).map λi=>e (ds.getD i 0)) w∧∀i,i<m->S i=true->(its.getD i mm).F G (e (ds.getD i 0)) w
 have GN:∀(S:Nat->Bool) (e:Env) (k:Nat),(∀t,t<effs.length->(S (effs.getD t 0)=true↔t<k))->k<=effs.length->∀j t,j<m->S j=true->(its.getD j mm).kr=some t->((effs.take k).map λi=>e (ds.getD i 0)).getD t undef=e (ds.getD j 0):=by
  intro S e k hS hk j t hj lZ he
  obtain⟨h1,h2⟩:=kL j t hj he
  have h3:t<k:=(hS t h1).1 (by rw[h2];exact lZ)
  rw[gG,List.getElem?_map,List.getElem?_take,iP h3,gE h1]
  rw[gG,gE h1] at h2
  simp only[Option.getD_some] at h2
  simp[h2]
 have step:∀(S:Nat->Bool) (e:Env) (w:World) (i:Nat) (o:Oper),i<m->l[i]?=some o->S i=false->(∀j,waits o j=true->S j=true)->Inv S e w->
   OW P n l.toArray (λe' w'=>Inv (λj=>if j=i then true else S j) e' w') [o] e w:=by
  rintro S e w i o ri ho ub AS ⟨G,k,qz,bI,p5,gD,hS,vA,pg⟩
  obtain⟨hW,Af⟩:=(lW i o ho).2.1 ri
  obtain⟨dp,Ag⟩:∃d,deps[i]?=some d:=⟨deps[i]'om,gE om⟩
  have tO:deps.getD i []=dp:=by rw[gG,Ag];rfl
  rw[tO] at Af
  have iZ:=TH (l.take m) deps 0 hc i o dp (by rw[List.getElem?_take,iP ri];exact ho) Ag
  rw[Nat.zero_add] at iZ
  have hd:∀j,j∈dp->(its.getD j mm).F G (e (ds.getD j 0)) w∧∀t,(its.getD j mm).kr=some t->((effs.take k).map λi=>e (ds.getD i 0)).getD t undef=e (ds.getD j 0):=λj hj=>by
   obtain⟨h1,h2⟩:=Af j hj
   exact⟨pg j h2 (AS j h1),λt het=>GN S e k hS gD j t h2 (AS j h1) het⟩
  have GO:∀e',eF [ds.getD i 0] e e'->eF W e0 e':=λe' h t CD=>by
   have EC:t≠ds.getD i 0:=λhe=>by rw[he,hW] at CD;cases CD
   rw[h t (by simpa using EC)];exact qz t CD
  have AT:∀e',eF [ds.getD i 0] e e'->∀j,j<m->j≠i->e' (ds.getD j 0)=e (ds.getD j 0):=λe' h j hj jb=>h _ (by simpa using dY i j ri hj (λh=>jb h.symm))
  have fF:[o]=[o]++[]:=rfl
  cases sQ:(its.getD i mm).kr with
  |none=>
   unfold EA at iZ
   rw[sQ] at iZ
   have h1:=AO (iZ e w G _ bI p5) (vs:=λj=>e (ds.getD j 0)) hd
   rw[AR qz] at h1
   rw[fF]
   refine wy h1 ?_
   rintro e' w' ⟨pP,yv,l0⟩
   refine aV ⟨G,k,GO e' l0,bI.ext pP,λx hx=>lL (p5 x hx) pP.size,gD,λt fP=>?_,?_,λj hj lZ=>?_⟩
   ·have sR:effs.getD t 0≠i:=λh=>by have:=(oH t fP).2.1;rw[h,sQ] at this;cases this
    simp only[iN sR]
    exact hS t fP
   ·have e1:((effs.take k).map λi=>e' (ds.getD i 0))=(effs.take k).map λi=>e (ds.getD i 0):=by
     apply List.map_congr_left
     intro j hj
     obtain⟨t,nT⟩:=List.mem_iff_getElem?.1 hj
     rw[List.getElem?_take] at nT
     split at nT
     ·have fP:t<effs.length:=(List.getElem?_eq_some_iff.1 nT).1
      have uV:effs.getD t 0=j:=by rw[gG,nT];rfl
      have h3:=oH t fP
      rw[uV] at h3
      exact AT e' l0 j h3.1 (λh=>by rw[h,sQ] at h3;cases h3.2.1)
     ·cases nT
    rw[e1];exact GM hJ k vA pP
   ·by_cases jb:j=i
    ·rw[jb];exact yv
    ·simp only[iN jb] at lZ
     rw[AT e' l0 j hj jb]
     exact TJ hF j (pg j hj lZ) (Fr.of pP sm)
  |some t=>
   unfold EA at iZ
   rw[sQ] at iZ
   obtain⟨fP,sR⟩:=kL i t ri sQ
   have sS:k=t:=by
    have h1:¬t<k:=λh=>by have:=(hS t fP).2 h;rw[sR,ub] at this;cases this
    rcases Nat.eq_zero_or_pos t with h0|h0
    ·omega
    ·obtain⟨o',mM,GP⟩:=(oH t fP).2.2 om
     rw[sR,ho] at mM
     cases mM
     have:=(hS (t-1) om).1 (AS _ GP)
     omega
   subst sS
   have hlen:((effs.take k).map λi=>e (ds.getD i 0)).length=k:=by simp;omega
   have h1:=AO (iZ e w G _ bI p5 vA hlen) (vs:=λj=>e (ds.getD j 0)) hd
   rw[AR qz] at h1
   rw[fF]
   refine wy h1 ?_
   rintro e' w' ⟨⟨G',wZ,CE,ED,yv⟩,l0⟩
   have GQ:∀t',t'<effs.length->effs.getD t' 0=i->t'=k:=λt' h1 h2=>by
    have:=(oH t' h1).2.1
    rw[h2,sQ] at this
    cases this;rfl
   refine aV ⟨G',k+1,GO e' l0,bI.go wZ,CE,om,λt' AU=>?_,?_,λj hj lZ=>?_⟩
   ·by_cases h2:effs.getD t' 0=i
    ·have:=GQ t' AU h2
     simp only[iP h2]
     exact⟨λ_=>om,λ_=>trivial⟩
    ·simp only[iN h2]
     rw[hS t' AU]
     have:t'≠k:=λh=>by rw[h] at h2;exact h2 sR
     omega
   ·have e1:((effs.take (k+1)).map λi=>e' (ds.getD i 0))=((effs.take k).map λi=>e (ds.getD i 0))++[e' (ds.getD i 0)]:=by
     have h2:effs[k]?=some i:=by
      rw[gG,gE fP] at sR
      rw[gE fP]
      simpa using sR
     rw[List.take_add_one,h2,List.map_append]
     congr 1
     apply List.map_congr_left
     intro j hj
     obtain⟨t',nT⟩:=List.mem_iff_getElem?.1 hj
     rw[List.getElem?_take] at nT
     split at nT
     ·rename_i et
      have AU:t'<effs.length:=(List.getElem?_eq_some_iff.1 nT).1
      have uV:effs.getD t' 0=j:=by rw[gG,nT];rfl
      exact AT e' l0 j (by have:=(oH t' AU).1;rw[uV] at this;exact this) (λh=>by have:=GQ t' AU (uV.trans h);omega)
     ·cases nT
    rw[e1];exact ED
   ·by_cases jb:j=i
    ·rw[jb];exact yv
    ·simp only[iN jb] at lZ
     rw[AT e' l0 j hj jb]
     exact TJ hF j (pg j hj lZ) wZ
 have tail:∀(S:Nat->Bool) (e:Env) (w:World),(∀i,i<m->S i=true)->Inv S e w->OW P n l.toArray N (l.drop m) e w:=by
  rintro S e w AV ⟨G,k,qz,bI,p5,gD,hS,vA,pg⟩
  have hk:k=effs.length:=by
   rcases Nat.lt_or_ge k effs.length with h|h
   ·have:=(hS k h).1 (AV _ (oH k h).1);omega
   ·omega
  subst hk
  have h1:=AO (ht e w G _ bI p5 vA sm) (vs:=λj=>e (ds.getD j 0)) (λj hj=>by
   have pQ:=List.mem_range.1 hj
   exact⟨pg j pQ (AV j pQ),λt het=>GN S e _ hS gD j t pQ (AV j pQ) het⟩)
  rw[AR qz] at h1
  exact h1
 have iJ:∀j,(Array.replicate l.length false).getD j false=false:=λj=>by
  rw[Array.getD_eq_getD_getElem?,Array.getElem?_replicate];split<;>rfl
 have Nq:Inv (λj=>(Array.replicate l.length false).getD j false) e0 {w0 with drawn:=w0.drawn+1}:=by
  refine⟨G0,0,x5,Fr.of gq sm,λx hx=>hL x hx,Nat.zero_le _,λt fP=>?_,GM hJ 0 h0 gq,λi hi ub=>?_⟩
  ·constructor
   ·intro h;exact absurd ((iJ (effs.getD t 0)).symm.trans h) sm
   ·intro h;omega
  ·exact absurd ((iJ i).symm.trans ub) sm
 have:=Tx (N:=N) (Inv:=Inv) hB step tail (lu n N R X) l.length (Array.replicate l.length false) e0 a _ ha sm
  (by
   have:((List.range l.length).filter λj=>!(Array.replicate l.length false).getD j true)=List.range l.length:=by
    rw[List.filter_eq_self]
    intro j hj
    rw[List.mem_range] at hj
    simp[Array.getD_eq_getD_getElem?,hj]
   rw[this];simp)
  (by intro j _ hj;simp[Array.getD_eq_getD_getElem?,hj])
  Nq
  (by
   intro j o ho hj
   have pQ:j<l.length:=(List.getElem?_eq_some_iff.1 ho).1
   simp[Array.getD_eq_getD_getElem?,pQ] at hj)
 have e1:pL n N (lu n N R X)=lu n N R X:=by
  funext x a w;cases x<;>rfl
 rw[e1] at this
 simpa using this
end
section
variable {P:Program} {n:Nat} {ops:Array Oper} {e:Env} {w w':World} {G:List Nat}
theorem fv (h:v=V:=by rfl):OW P n ops (λe' w'=>ak [] w w'∧(Ie.v V).F G (e' d) w'∧eF [d] e e') [] (bY e (some d) v) w:=
 aV ⟨ak.refl _ _,by subst h;exact nL _ _ _,rh⟩
theorem fk (k:ak [] w w') (h:v=V:=by rfl):OW P n ops (λe' w'=>ak [] w w'∧(Ie.v V).F G (e' d) w'∧eF [d] e e') [] (bY e (some d) v) w':=
 aV ⟨k,by subst h;exact nL _ _ _,rh⟩
theorem ff {f:List Nat->Value->World->Prop} (k:ak [] w w') (h:f G v w'):OW P n ops (λe' w'=>ak [] w w'∧(Ie.p f).F G (e' d) w'∧eF [d] e e') [] (bY e (some d) v) w':=
 aV ⟨k,by show f G (iv e d v d) w';rw[nL];exact h,rh⟩
theorem fe {aX:List Value} (G':List Nat) (k:Fr G w G' w') (hl:eZ G' w') (h:J G' (aX++[v]) w'):OW P n ops (λe' w'=>(∃G',Fr G w G' w'∧eZ G' w'∧J G' (aX++[e' d]) w'∧(Ie.e t).F G' (e' d) w')∧eF [d] e e') [] (bY e (some d) v) w':=
 aV ⟨⟨G',k,hl,by show J G' (aX++[iv e d v d]) w';rw[nL];exact h,trivial⟩,rh⟩
theorem fw {aX:List Value} (G':List Nat) (k:Fr G w G' w') (hl:eZ G' w') (h:J G' (aX++[v]) w') (hv:v=V:=by rfl):OW P n ops (λe' w'=>(∃G',Fr G w G' w'∧eZ G' w'∧J G' (aX++[e' d]) w'∧(Ie.w t V).F G' (e' d) w')∧eF [d] e e') [] (bY e (some d) v) w':=
 aV ⟨⟨G',k,hl,by show J G' (aX++[iv e d v d]) w';rw[nL];exact h,by subst hv;exact nL _ _ _⟩,rh⟩
theorem fq {f:Value->Prop} {aX:List Value} (G':List Nat) (k:Fr G w G' w') (hl:eZ G' w') (h:J G' (aX++[v]) w') (hv:f v):OW P n ops (λe' w'=>(∃G',Fr G w G' w'∧eZ G' w'∧J G' (aX++[e' d]) w'∧(Ie.q t f).F G' (e' d) w')∧eF [d] e e') [] (bY e (some d) v) w':=
 aV ⟨⟨G',k,hl,by show J G' (aX++[iv e d v d]) w';rw[nL];exact h,by show f (iv e d v d);rw[nL];exact hv⟩,rh⟩
end
inductive Iu where
 |v (V:Value)
 |p (f:List Nat->Value->World->Prop)
 |e (t:Nat)
 |w (t:Nat) (V:Value)
 |d (f:List Value->Value)
 |u
def Iu.F:Iu->List Nat->Value->World->Prop
 | .v V=>λ_ v _=>v=V
 | .p f=>f
 | .w _ V=>λ_ v _=>v=V
 |_=>λ_ _ _=>True
def Iu.kr:Iu->Option Nat
 | .e t=>some t
 | .w t _=>some t
 |_=>none
def Iu.rZ:Iu->Bool
 | .u=>true
 |_=>false
def Iu.late:Iu->Bool
 | .u=>true
 | .d _=>true
 |_=>false
abbrev fR:Iu:=.p λ_ _ _=>True
def sU (its:List Iu) (ds:List Nat) (G:List Nat) (aX:List Value) (w:World):List Nat->(List (Nat×Value)->Prop)->Prop
 |[],k=>k []
 |j::r,k=>match its.getD j fR with
  | .v V=>sU its ds G aX w r λacc=>k ((ds.getD j 0,V)::acc)
  | .p f=>∀v,f G v w->sU its ds G aX w r λacc=>k ((ds.getD j 0,v)::acc)
  | .e t=>sU its ds G aX w r λacc=>k ((ds.getD j 0,aX.getD t undef)::acc)
  | .w _ V=>sU its ds G aX w r λacc=>k ((ds.getD j 0,V)::acc)
  | .d f=>sU its ds G aX w r λacc=>k ((ds.getD j 0,f aX)::acc)
  | .u=>∀v,sU its ds G aX w r λacc=>k ((ds.getD j 0,v)::acc)
def TL (q:Iu) (G:List Nat) (aX:List Value) (v:Value) (w:World):Prop:=q.F G v w∧(∀t,q= .e t->aX.getD t undef=v)∧∀f,q= .d f->f aX=v
theorem vB {its:List Iu} {ds:List Nat} {aX:List Value} {vs:Nat->Value}:∀{deps:List Nat} {k:List (Nat×Value)->Prop},sU its ds G aX w deps k->
  (∀j,j∈deps->TL (its.getD j fR) G aX (vs j) w)->k (tM ds vs deps)
 |[],k,h,_=>h
 |j::r,k,h,hd=>by
  obtain⟨hp,he,hq⟩:=hd j (List.mem_cons_self ..)
  unfold sU at h
  have hr:∀i,i∈r->_:=λi hi=>hd i (mK _ hi)
  cases e:its.getD j fR with
  |v V=>
   rw[e] at h hp
   have hv:vs j=V:=hp
   subst hv
   exact vB (deps:=r) h hr
  |p f=>
   rw[e] at h hp
   exact vB (deps:=r) (h _ hp) hr
  |e t=>
   rw[e] at h
   have hv:=he t e
   simp only[hv] at h
   exact vB (deps:=r) h hr
  |w t V=>
   rw[e] at h hp
   have hv:vs j=V:=hp
   subst hv
   exact vB (deps:=r) h hr
  |d f=>
   rw[e] at h
   have hv:=hq f e
   simp only[hv] at h
   exact vB (deps:=r) h hr
  |u=>
   rw[e] at h
   exact vB (deps:=r) (h _) hr
section
variable (P:Program) (n:Nat) (ops:Array Oper) (W ds:List Nat) (its:List Iu) (Js:List (List Nat->List Value->World->Prop)) (JF:(Nat->Bool)->List Nat->List Value->World->Prop) (e0:Env) (G0:List Nat) (w0:World)
def JL (i:Nat) (o:Oper) (deps:List Nat):Prop:=
 ∀(x:Env) (w:World) (G:List Nat) (aX:List Value),Fr G0 w0 G w->eZ G w->sU its ds G aX w deps λacc=>
  OW P n ops (λe' w'=>ak [] w w'∧(its.getD i fR).F G (e' (ds.getD i 0)) w'∧eF [ds.getD i 0] (aS (aR W x e0) acc) e') [o] (aS (aR W x e0) acc) w
def GR (t i:Nat) (o:Oper) (deps:List Nat):Prop:=
 ∀(x:Env) (w:World) (G:List Nat) (aX:List Value),Fr G0 w0 G w->eZ G w->Js.getD t (λ_ _ _=>True) G aX w->aX.length=t->sU its ds G aX w deps λacc=>
  OW P n ops (λe' w'=>(∃G',Fr G w G' w'∧eZ G' w'∧Js.getD (t+1) (λ_ _ _=>True) G' (aX++[e' (ds.getD i 0)]) w'∧(its.getD i fR).F G' (e' (ds.getD i 0)) w')∧eF [ds.getD i 0] (aS (aR W x e0) acc) e') [o] (aS (aR W x e0) acc) w
def Nr (ne:Nat) (f:List Value->Value) (i:Nat) (o:Oper) (deps:List Nat):Prop:=
 ∀(x:Env) (w:World) (G:List Nat) (aX:List Value) (S:Nat->Bool),Fr G0 w0 G w->eZ G w->JF S G aX w->aX.length=ne->sU its ds G aX w deps λacc=>
  OW P n ops (λe' w'=>ak [] w w'∧e' (ds.getD i 0)=f aX∧eF [ds.getD i 0] (aS (aR W x e0) acc) e') [o] (aS (aR W x e0) acc) w
def Ns (ne i:Nat) (o:Oper) (deps:List Nat):Prop:=
 ∀(x:Env) (w:World) (G:List Nat) (aX:List Value) (S:Nat->Bool),Fr G0 w0 G w->eZ G w->JF S G aX w->S i=false->aX.length=ne->sU its ds G aX w deps λacc=>
  OW P n ops (λe' w'=>(∃G',Fr G w G' w'∧eZ G' w'∧JF (λj=>if j=i then true else S j) G' aX w')∧eF [ds.getD i 0] (aS (aR W x e0) acc) e') [o] (aS (aR W x e0) acc) w
def uc (ne i:Nat) (o:Oper) (deps:List Nat):Prop:=match its.getD i fR with
 | .e t=>GR P n ops W ds its Js e0 G0 w0 t i o deps
 | .w t _=>GR P n ops W ds its Js e0 G0 w0 t i o deps
 | .d f=>Nr P n ops W ds its JF e0 G0 w0 ne f i o deps
 | .u=>Ns P n ops W ds its JF e0 G0 w0 ne i o deps
 |_=>JL P n ops W ds its e0 G0 w0 i o deps
def ry (ne:Nat):Nat->List Oper->List (List Nat)->Prop
 |_,[],_=>True
 |_,_::_,[]=>True
 |k,o::l,d::r=>uc P n ops W ds its Js JF e0 G0 w0 ne k o d∧ry ne (k+1) l r
end
section
variable {P:Program} {n:Nat} {ops:Array Oper} {W ds:List Nat} {its:List Iu} {Js:List (List Nat->List Value->World->Prop)} {JF:(Nat->Bool)->List Nat->List Value->World->Prop} {e0:Env} {G0:List Nat} {w0:World} {ne:Nat}
theorem uf {d:List Nat} (h:JL P n ops W ds its e0 G0 w0 k o d) (hr:ry P n ops W ds its Js JF e0 G0 w0 ne (k+1) l r) (hk:(its.getD k fR).kr=none∧(its.getD k fR).late=false:=by exact⟨rfl,rfl⟩):ry P n ops W ds its Js JF e0 G0 w0 ne k (o::l) (d::r):=by grind [JL,ry,Ie.kr,Iu.kr,Iu.late,uc]
theorem ue (t:Nat) {d:List Nat} (h:GR P n ops W ds its Js e0 G0 w0 t k o d) (hr:ry P n ops W ds its Js JF e0 G0 w0 ne (k+1) l r) (hk:(its.getD k fR).kr=some t:=by rfl):ry P n ops W ds its Js JF e0 G0 w0 ne k (o::l) (d::r):=by grind [GR,ry,Ie.kr,Iu.kr,uc]
theorem ud {d:List Nat} {f:List Value->Value} (h:Nr P n ops W ds its JF e0 G0 w0 ne f k o d) (hr:ry P n ops W ds its Js JF e0 G0 w0 ne (k+1) l r) (hk:its.getD k fR= .d f:=by rfl):ry P n ops W ds its Js JF e0 G0 w0 ne k (o::l) (d::r):=by grind [Nr,ry,uc]
theorem uu {d:List Nat} (h:Ns P n ops W ds its JF e0 G0 w0 ne k o d) (hr:ry P n ops W ds its Js JF e0 G0 w0 ne (k+1) l r) (hk:its.getD k fR= .u:=by rfl):ry P n ops W ds its Js JF e0 G0 w0 ne k (o::l) (d::r):=by grind [Ns,ry,uc]
theorem TO:∀(l:List Oper) (deps:List (List Nat)) (k:Nat),ry P n ops W ds its Js JF e0 G0 w0 ne k l deps->∀(i:Nat) (o:Oper) (d:List Nat),l[i]?=some o->deps[i]?=some d->uc P n ops W ds its Js JF e0 G0 w0 ne (k+i) o d
 |[],_,_,_,i,o,d,h,_=>by simp at h
 |_::_,[],_,_,i,o,d,_,h=>by simp at h
 |o::l,d::r,k,h,0,o',d',ho,hd=>by
  simp at ho hd;subst ho;subst hd;exact h.1
 |o::l,d::r,k,h,i+1,o',d',ho,hd=>by
  have:=TO l r (k+1) h.2 i o' d' (by simpa using ho) (by simpa using hd)
  rwa [show k+1+i=k+(i+1) by omega] at this
end
def uB (l:List Oper) (m:Nat) (effs:List Nat) (its:List Iu):Bool:=
 (List.range effs.length).all (λt=>decide (effs.getD t 0<m)&&((its.getD (effs.getD t 0) fR).kr==some t)&&(decide (t=0)||(match l[effs.getD t 0]? with|some o=>waits o (effs.getD (t-1) 0)|none=>false)))&&
 (List.range m).all (λi=>(match(its.getD i fR).kr with|some t=>decide (t<effs.length)&&decide (effs.getD t 0=i)|none=>true)&&
  (!(its.getD i fR).late||decide (effs.length=0)||(match l[i]? with|some o=>waits o (effs.getD (effs.length-1) 0)|none=>false)))&&
 decide (its.length<=m)
theorem afi {effs:List Nat} {its:List Iu} (h:uB l m effs its=true):
  (∀t,t<effs.length->effs.getD t 0<m∧(its.getD (effs.getD t 0) fR).kr=some t∧(t≠0->∃o,l[effs.getD t 0]?=some o∧waits o (effs.getD (t-1) 0)=true))∧
  (∀i t,i<m->(its.getD i fR).kr=some t->t<effs.length∧effs.getD t 0=i)∧
  (∀i,i<m->(its.getD i fR).late=true->effs.length≠0->∃o,l[i]?=some o∧waits o (effs.getD (effs.length-1) 0)=true)∧its.length<=m:=by
 unfold uB at h
 rw[aE,aE,List.all_eq_true,List.all_eq_true,dE] at h
 obtain⟨⟨h1,h2⟩,h3⟩:=h
 refine⟨λt ht=>?_,λi t hi he=>?_,λi hi hl hn=>?_,h3⟩
 ·have:=h1 t (List.mem_range.2 ht)
  simp only[aE,dE,beq_iff_eq,oE] at this
  obtain⟨⟨a,b⟩,c⟩:=this
  refine⟨a,b,λh0=>?_⟩
  rcases c with c|c
  ·exact absurd c h0
  ·cases hl:l[effs.getD t 0]? with
   |none=>rw[hl] at c;cases c
   |some o=>rw[hl] at c;exact⟨o,rfl,c⟩
 ·have:=h2 i (List.mem_range.2 hi)
  rw[he] at this
  simp only[aE,dE] at this
  exact this.1
 ·have:=h2 i (List.mem_range.2 hi)
  rw[aE,hl] at this
  have:=this.2
  simp only[Bool.not_true,Bool.false_or,oE,dE] at this
  rcases this with c|c
  ·exact absurd c hn
  ·cases hl:l[i]? with
   |none=>rw[hl] at c;cases c
   |some o=>rw[hl] at c;exact⟨o,rfl,c⟩
def GS:List Iu->Prop
 |[]=>True
 | .p f::r=>(∀G v w G' w',f G v w->Fr G w G' w'->f G' v w')∧GS r
 |_::r=>GS r
theorem CF:∀{its:List Iu},GS its->∀q,q∈its->∀G v w G' w',q.F G v w->Fr G w G' w'->q.F G' v w'
 |s::r,h,q,hq,G,v,w,G',w',hf,hk=>by
  rcases mC.1 hq with e|gi
  ·subst e
   cases q with
   |p f=>exact h.1 _ _ _ _ _ hf hk
   |_=>exact hf
  ·cases s with
   |p f=>exact CF (its:=r) h.2 q gi _ _ _ _ _ hf hk
   |v V=>exact CF (its:=r) h q gi _ _ _ _ _ hf hk
   |e t=>exact CF (its:=r) h q gi _ _ _ _ _ hf hk
   |w t V=>exact CF (its:=r) h q gi _ _ _ _ _ hf hk
   |d f=>exact CF (its:=r) h q gi _ _ _ _ _ hf hk
   |u=>exact CF (its:=r) h q gi _ _ _ _ _ hf hk
theorem TP {its:List Iu} (h:GS its) (i:Nat) {G':List Nat} (hf:(its.getD i fR).F G v w) (hk:Fr G w G' w'):(its.getD i fR).F G' v w':=by
 rw[gG] at hf⊢
 cases e:its[i]? with
 |none=>trivial
 |some q=>rw[e] at hf;exact CF h q (List.mem_of_getElem? e) _ _ _ _ _ hf hk
section
variable {P:Program} {n:Nat} {l:List Oper} {m:Nat} {W ds:List Nat} {deps:List (List Nat)}
theorem TQ {N R:Env->World->Prop} {X:Nat->Env->World->Prop} {id:Nat} {e0:Env} {w0:World} (hm:P.follows .mixedOrders=true) (G0:List Nat) (m:Nat) (W ds:List Nat) (deps:List (List Nat)) (its:List Iu) (effs:List Nat) (Js:List (List Nat->List Value->World->Prop)) (JF:(Nat->Bool)->List Nat->List Value->World->Prop) 
  (hB:uR l m W ds deps=true) (hE:uB l m effs its=true) (hL:eZ G0 w0) (hF:GS its) (hJ:JK Js) (TR:∀S G vs w w',JF S G vs w->ak [] w w'->JF S G vs w') (h0:Js.getD 0 (λ_ _ _=>True) G0 [] w0)
  (JM:∀G vs w,Js.getD effs.length (λ_ _ _=>True) G vs w->vs.length=effs.length->JF (λ_=>false) G vs w)
  (hc:ry P n l.toArray W ds its Js JF e0 G0 w0 effs.length 0 (l.take m) deps)
  (ht:∀(x:Env) (w:World) (G:List Nat) (aX:List Value),Fr G0 w0 G w->eZ G w->JF (λi=>(its.getD i fR).rZ) G aX w->aX.length=effs.length->sU its ds G aX w (List.range m) λacc=>OW P n l.toArray N (l.drop m) (aS (aR W x e0) acc) w):
  CW P n (.region id l.toArray true) N R X e0 w0:=λa ha=>by
 refine wp_region_any hm ?_
 have gq:ak [] w0 {w0 with drawn:=w0.drawn+1}:=ak.drew _ _
 obtain⟨Ec,Ed,LZ,jg,lW⟩:=Eb hB
 obtain⟨oH,kL,EE,mG⟩:=afi hE
 have dY:∀i j,i<m->j<m->i≠j->ds.getD j 0≠ds.getD i 0:=λi j hi hj mi=>by
  rw[gG,gG,gE om,gE om]
  simp only[Option.getD_some]
  intro he
  exact mi ((List.getElem_inj jg).1 he.symm)
 let vl:Nat->Env->List Value:=λk e=>(effs.take k).map λi=>e (ds.getD i 0)
 let US:(Nat->Bool)->Nat->Bool:=λS i=>S i&&(its.getD i fR).rZ
 let Inv:(Nat->Bool)->Env->World->Prop:=λS e w=>∃G k,eF W e0 e∧Fr G0 w0 G w∧eZ G w∧k<=effs.length∧(∀t,t<effs.length->(S (effs.getD t 0)=true↔t<k))∧
  (k<effs.length->Js.getD k (λ_ _ _=>True) G (vl k e) w∧∀i,i<m->S i=true->(its.getD i fR).late=false)∧(k=effs.length->JF (US S) G (vl k e) w)∧
  ∀i,i<m->S i=true->(its.getD i fR).F G (e (ds.getD i 0)) w∧∀f,its.getD i fR= .d f->f (vl k e)=e (ds.getD i 0)
 have GN:∀(S:Nat->Bool) (e:Env) (k:Nat),(∀t,t<effs.length->(S (effs.getD t 0)=true↔t<k))->k<=effs.length->∀j t,j<m->S j=true->(its.getD j fR).kr=some t->(vl k e).getD t undef=e (ds.getD j 0):=by
  intro S e k hS hk j t hj lZ he
  obtain⟨h1,h2⟩:=kL j t hj he
  have h3:t<k:=(hS t h1).1 (by rw[h2];exact lZ)
  show((effs.take k).map λi=>e (ds.getD i 0)).getD t undef=_
  rw[gG,List.getElem?_map,List.getElem?_take,iP h3,gE h1]
  rw[gG,gE h1] at h2
  simp only[Option.getD_some] at h2
  simp[h2]
 have GU:∀k e,k<=effs.length->(vl k e).length=k:=λk e hk=>by show((effs.take k).map _).length=k;simp;omega
 have step:∀(S:Nat->Bool) (e:Env) (w:World) (i:Nat) (o:Oper),i<m->l[i]?=some o->S i=false->(∀j,waits o j=true->S j=true)->Inv S e w->
   OW P n l.toArray (λe' w'=>Inv (λj=>if j=i then true else S j) e' w') [o] e w:=by
  rintro S e w i o ri ho ub AS ⟨G,k,qz,bI,p5,gD,hS,vA,EF,pg⟩
  obtain⟨hW,Af⟩:=(lW i o ho).2.1 ri
  obtain⟨dp,Ag⟩:∃d,deps[i]?=some d:=⟨deps[i]'om,gE om⟩
  have tO:deps.getD i []=dp:=by rw[gG,Ag];rfl
  rw[tO] at Af
  have iZ:=TO (l.take m) deps 0 hc i o dp (by rw[List.getElem?_take,iP ri];exact ho) Ag
  rw[Nat.zero_add] at iZ
  have hd:∀j,j∈dp->TL (its.getD j fR) G (vl k e) (e (ds.getD j 0)) w:=λj hj=>by
   obtain⟨h1,h2⟩:=Af j hj
   have h3:=pg j h2 (AS j h1)
   exact⟨h3.1,λt het=>GN S e k hS gD j t h2 (AS j h1) (by rw[het];rfl),h3.2⟩
  have GO:∀e',eF [ds.getD i 0] e e'->eF W e0 e':=λe' h t CD=>by
   have EC:t≠ds.getD i 0:=λhe=>by rw[he,hW] at CD;cases CD
   rw[h t (by simpa using EC)];exact qz t CD
  have AT:∀e',eF [ds.getD i 0] e e'->∀j,j<m->j≠i->e' (ds.getD j 0)=e (ds.getD j 0):=λe' h j hj jb=>h _ (by simpa using dY i j ri hj (λh=>jb h.symm))
  have fF:[o]=[o]++[]:=rfl
  have TT:∀e',eF [ds.getD i 0] e e'->∀k',k'<=effs.length->(∀t,t<k'->effs.getD t 0≠i)->vl k' e'=vl k' e:=λe' l0 k' pP mY=>by
   show(effs.take k').map _=(effs.take k').map _
   apply List.map_congr_left
   intro j hj
   obtain⟨t,nT⟩:=List.mem_iff_getElem?.1 hj
   rw[List.getElem?_take] at nT
   split at nT
   ·rename_i et
    have fP:t<effs.length:=(List.getElem?_eq_some_iff.1 nT).1
    have uV:effs.getD t 0=j:=by rw[gG,nT];rfl
    exact AT e' l0 j (by have:=(oH t fP).1;rw[uV] at this;exact this) (λh=>mY t et (uV.trans h))
   ·cases nT
  -- what is late comes behind the last effect
  have TU:(its.getD i fR).late=true->k=effs.length:=λhl=>by
   rcases Nat.eq_zero_or_pos effs.length with h0|h0
   ·omega
   ·obtain⟨o',mM,GP⟩:=EE i ri hl om
    rw[ho] at mM;cases mM
    have:=(hS (effs.length-1) om).1 (AS _ GP)
    omega
  -- an operation that is no effect in the order
  have main:∀(e':Env) (w':World) (G':List Nat),(its.getD i fR).kr=none->eF [ds.getD i 0] e e'->Fr G w G' w'->eZ G' w'->
    (k<effs.length->Js.getD k (λ_ _ _=>True) G' (vl k e) w'∧(its.getD i fR).late=false)->(k=effs.length->JF (US λj=>if j=i then true else S j) G' (vl k e) w')->
    (its.getD i fR).F G' (e' (ds.getD i 0)) w'->(∀f,its.getD i fR= .d f->f (vl k e)=e' (ds.getD i 0))->Inv (λj=>if j=i then true else S j) e' w':=by
   intro e' w' G' sQ l0 wZ CE EG r5 yv hDi
   have mY:∀t,t<effs.length->effs.getD t 0≠i:=λt fP h=>by have:=(oH t fP).2.1;rw[h,sQ] at this;cases this
   have CG:=TT e' l0 k gD (λt ht=>mY t om)
   refine⟨G',k,GO e' l0,bI.go wZ,CE,gD,λt fP=>?_,λet=>⟨?_,λj hj lZ=>?_⟩,λl3=>?_,λj hj lZ=>?_⟩
   ·simp only[iN (mY t fP)];exact hS t fP
   ·rw[CG];exact(EG et).1
   ·by_cases jb:j=i
    ·rw[jb];exact(EG et).2
    ·simp only[iN jb] at lZ;exact(vA et).2 j hj lZ
   ·rw[CG];exact r5 l3
   ·rw[CG]
    by_cases jb:j=i
    ·rw[jb];exact⟨yv,hDi⟩
    ·simp only[iN jb] at lZ
     rw[AT e' l0 j hj jb]
     exact⟨TP hF j (pg j hj lZ).1 wZ,(pg j hj lZ).2⟩
  have TV:(its.getD i fR).rZ=false->US (λj=>if j=i then true else S j)=US S:=λh=>by
   funext j
   show((if j=i then true else S j)&&(its.getD j fR).rZ)=(S j&&(its.getD j fR).rZ)
   by_cases jb:j=i
   ·rw[jb,h];simp
   ·rw[iN jb]
  -- the cases
  have floatC:JL P n l.toArray W ds its e0 G0 w0 i o dp->(its.getD i fR).kr=none->(its.getD i fR).late=false->(∀f,its.getD i fR≠ .d f)->(its.getD i fR).rZ=false->OW P n l.toArray (λe' w'=>Inv (λj=>if j=i then true else S j) e' w') [o] e w:=by
   intro iZ sQ GV Nt TW
   have h1:=vB (iZ e w G _ bI p5) (vs:=λj=>e (ds.getD j 0)) hd
   rw[AR qz] at h1
   rw[fF]
   refine wy h1 ?_
   rintro e' w' ⟨pP,yv,l0⟩
   exact aV (main e' w' G sQ l0 (Fr.of pP sm) (λx hx=>lL (p5 x hx) pP.size) (λet=>⟨GM hJ k (vA et).1 pP,GV⟩) (λl3=>by rw[TV TW];exact TR _ _ _ _ _ (EF l3) pP) yv (λf hf=>absurd hf (Nt f)))
  have effC:∀t,(its.getD i fR).kr=some t->GR P n l.toArray W ds its Js e0 G0 w0 t i o dp->(its.getD i fR).late=false->(∀f,its.getD i fR≠ .d f)->(its.getD i fR).rZ=false->OW P n l.toArray (λe' w'=>Inv (λj=>if j=i then true else S j) e' w') [o] e w:=by
   intro t sQ iZ GV Nt TW
   obtain⟨fP,sR⟩:=kL i t ri sQ
   have sS:k=t:=by
    have h1:¬t<k:=λh=>by have:=(hS t fP).2 h;rw[sR,ub] at this;cases this
    rcases Nat.eq_zero_or_pos t with h0|h0
    ·omega
    ·obtain⟨o',mM,GP⟩:=(oH t fP).2.2 om
     rw[sR,ho] at mM
     cases mM
     have:=(hS (t-1) om).1 (AS _ GP)
     omega
   subst sS
   have h1:=vB (iZ e w G _ bI p5 (vA fP).1 (GU k e gD)) (vs:=λj=>e (ds.getD j 0)) hd
   rw[AR qz] at h1
   rw[fF]
   refine wy h1 ?_
   rintro e' w' ⟨⟨G',wZ,CE,ED,yv⟩,l0⟩
   have GQ:∀t',t'<effs.length->effs.getD t' 0=i->t'=k:=λt' h1 h2=>by
    have:=(oH t' h1).2.1
    rw[h2,sQ] at this
    cases this;rfl
   have CG:vl k e'=vl k e:=TT e' l0 k gD (λt' ou h=>by have:=GQ t' om h;omega)
   have fK:vl (k+1) e'=vl k e++[e' (ds.getD i 0)]:=by
    have h2:effs[k]?=some i:=by
     rw[gG,gE fP] at sR
     rw[gE fP]
     simpa using sR
    rw[<-CG]
    show(effs.take (k+1)).map _=(effs.take k).map _++_
    rw[List.take_add_one,h2,List.map_append]
    rfl
   have TX:∀j,j<m->(if j=i then true else S j)=true->(its.getD j fR).late=false:=λj hj lZ=>by
    by_cases jb:j=i
    ·rw[jb];exact GV
    ·rw[iN jb] at lZ;exact(vA fP).2 j hj lZ
   refine aV ⟨G',k+1,GO e' l0,bI.go wZ,CE,om,λt' AU=>?_,λ_=>⟨by rw[fK];exact ED,TX⟩,λl3=>?_,λj hj lZ=>?_⟩
   ·by_cases h2:effs.getD t' 0=i
    ·have:=GQ t' AU h2
     simp only[iP h2]
     exact⟨λ_=>om,λ_=>trivial⟩
    ·simp only[iN h2]
     rw[hS t' AU]
     have:t'≠k:=λh=>by rw[h] at h2;exact h2 sR
     omega
   ·have e1:US (λj=>if j=i then true else S j)=λ_=>false:=by
     funext j
     show((if j=i then true else S j)&&(its.getD j fR).rZ)=false
     by_cases Cl:j<m
     ·cases hb:(if j=i then true else S j) with
      |false=>rfl
      |true=>
       have h3:=TX j Cl hb
       cases e:its.getD j fR with
       |u=>rw[e] at h3;cases h3
       |_=>rfl
     ·rw[gG,List.getElem?_eq_none om]
      simp[Iu.rZ]
    rw[e1]
    exact JM _ _ _ (by rw[fK,<-l3];exact ED) (by rw[GU _ _ om];omega)
   ·by_cases jb:j=i
    ·rw[jb];exact⟨yv,λf hf=>absurd hf (Nt f)⟩
    ·simp only[iN jb] at lZ
     rw[AT e' l0 j hj jb]
     refine⟨TP hF j (pg j hj lZ).1 wZ,λf hf=>?_⟩
     have:=(vA fP).2 j hj lZ
     rw[hf] at this;cases this
  cases jx:its.getD i fR with
  |v V=>unfold uc at iZ;rw[jx] at iZ;exact floatC iZ (by rw[jx];rfl) (by rw[jx];rfl) (λf h=>by rw[jx] at h;cases h) (by rw[jx];rfl)
  |p f=>unfold uc at iZ;rw[jx] at iZ;exact floatC iZ (by rw[jx];rfl) (by rw[jx];rfl) (λf h=>by rw[jx] at h;cases h) (by rw[jx];rfl)
  |e t=>unfold uc at iZ;rw[jx] at iZ;exact effC t (by rw[jx];rfl) iZ (by rw[jx];rfl) (λf h=>by rw[jx] at h;cases h) (by rw[jx];rfl)
  |w t V=>unfold uc at iZ;rw[jx] at iZ;exact effC t (by rw[jx];rfl) iZ (by rw[jx];rfl) (λf h=>by rw[jx] at h;cases h) (by rw[jx];rfl)
  |d f=>
   unfold uc at iZ;rw[jx] at iZ
   have l3:=TU (by rw[jx];rfl)
   have h1:=vB (iZ e w G _ _ bI p5 (EF l3) (by rw[GU k e gD];exact l3)) (vs:=λj=>e (ds.getD j 0)) hd
   rw[AR qz] at h1
   rw[fF]
   refine wy h1 ?_
   rintro e' w' ⟨pP,GW,l0⟩
   exact aV (main e' w' G (by rw[jx];rfl) l0 (Fr.of pP sm) (λx hx=>lL (p5 x hx) pP.size) (λet=>om) (λl3=>by rw[TV (by rw[jx];rfl)];exact TR _ _ _ _ _ (EF l3) pP) (by rw[jx];trivial) (λf' hf=>by rw[jx] at hf;cases hf;exact GW.symm))
  |u=>
   unfold uc at iZ;rw[jx] at iZ
   have l3:=TU (by rw[jx];rfl)
   have h1:=vB (iZ e w G _ _ bI p5 (EF l3) (by show(S i&&_)=false;rw[ub];rfl) (by rw[GU k e gD];exact l3)) (vs:=λj=>e (ds.getD j 0)) hd
   rw[AR qz] at h1
   rw[fF]
   refine wy h1 ?_
   rintro e' w' ⟨⟨G',wZ,CE,ED⟩,l0⟩
   refine aV (main e' w' G' (by rw[jx];rfl) l0 wZ CE (λet=>om) (λl3=>?_) (by rw[jx];trivial) (λf' hf=>by rw[jx] at hf;cases hf))
   have e1:US (λj=>if j=i then true else S j)=λj=>if j=i then true else US S j:=by
    funext j
    show((if j=i then true else S j)&&(its.getD j fR).rZ)=if j=i then true else(S j&&(its.getD j fR).rZ)
    by_cases jb:j=i
    ·rw[iP jb,iP jb,jb,jx];rfl
    ·rw[iN jb,iN jb]
   rw[e1];exact ED
 have tail:∀(S:Nat->Bool) (e:Env) (w:World),(∀i,i<m->S i=true)->Inv S e w->OW P n l.toArray N (l.drop m) e w:=by
  rintro S e w AV ⟨G,k,qz,bI,p5,gD,hS,vA,EF,pg⟩
  have hk:k=effs.length:=by
   rcases Nat.lt_or_ge k effs.length with h|h
   ·have:=(hS k h).1 (AV _ (oH k h).1);omega
   ·omega
  subst hk
  have e1:US S=λi=>(its.getD i fR).rZ:=by
   funext j
   show(S j&&(its.getD j fR).rZ)=_
   by_cases Cl:j<m
   ·rw[AV j Cl];rfl
   ·rw[gG,List.getElem?_eq_none om]
    simp[Iu.rZ]
  have hj:=EF rfl
  rw[e1] at hj
  have h1:=vB (ht e w G _ bI p5 hj (GU _ e (lR _))) (vs:=λj=>e (ds.getD j 0)) (λj hj=>by
   have pQ:=List.mem_range.1 hj
   have h3:=pg j pQ (AV j pQ)
   exact⟨h3.1,λt het=>GN S e _ hS gD j t pQ (AV j pQ) (by rw[het];rfl),h3.2⟩)
  rw[AR qz] at h1
  exact h1
 have iJ:∀j,(Array.replicate l.length false).getD j false=false:=λj=>by
  rw[Array.getD_eq_getD_getElem?,Array.getElem?_replicate];split<;>rfl
 have Nq:Inv (λj=>(Array.replicate l.length false).getD j false) e0 {w0 with drawn:=w0.drawn+1}:=by
  have F6:=GM hJ 0 h0 gq
  refine⟨G0,0,x5,Fr.of gq sm,λx hx=>hL x hx,Nat.zero_le _,λt fP=>?_,λ_=>⟨F6,λi hi ub=>?_⟩,λl3=>?_,λi hi ub=>?_⟩
  ·constructor
   ·intro h;exact absurd ((iJ (effs.getD t 0)).symm.trans h) sm
   ·intro h;omega
  ·exact absurd ((iJ i).symm.trans ub) sm
  ·have e1:US (λj=>(Array.replicate l.length false).getD j false)=λ_=>false:=by
    funext j
    show((Array.replicate l.length false).getD j false&&_)=false
    rw[iJ];rfl
   rw[e1]
   exact JM _ _ _ (by rw[<-l3];exact F6) (by show((effs.take 0).map _).length=_;simpa using l3)
  ·exact absurd ((iJ i).symm.trans ub) sm
 have:=Tx (N:=N) (Inv:=Inv) hB step tail (lu n N R X) l.length (Array.replicate l.length false) e0 a _ ha sm
  (by
   have:((List.range l.length).filter λj=>!(Array.replicate l.length false).getD j true)=List.range l.length:=by
    rw[List.filter_eq_self]
    intro j hj
    rw[List.mem_range] at hj
    simp[Array.getD_eq_getD_getElem?,hj]
   rw[this];simp)
  (by intro j _ hj;simp[Array.getD_eq_getD_getElem?,hj])
  Nq
  (by
   intro j o ho hj
   have pQ:j<l.length:=(List.getElem?_eq_some_iff.1 ho).1
   simp[Array.getD_eq_getD_getElem?,pQ] at hj)
 have e1:pL n N (lu n N R X)=lu n N R X:=by
  funext x a w;cases x<;>rfl
 rw[e1] at this
 simpa using this
end
section
variable {P:Program} {n:Nat} {ops:Array Oper} {e:Env} {w w':World} {G:List Nat}
theorem uv (h:v=V:=by rfl):OW P n ops (λe' w'=>ak [] w w'∧(Iu.v V).F G (e' d) w'∧eF [d] e e') [] (bY e (some d) v) w:=
 aV ⟨ak.refl _ _,by subst h;exact nL _ _ _,rh⟩
theorem up {f:List Nat->Value->World->Prop} (k:ak [] w w') (h:f G v w'):OW P n ops (λe' w'=>ak [] w w'∧(Iu.p f).F G (e' d) w'∧eF [d] e e') [] (bY e (some d) v) w':=
 aV ⟨k,by show f G (iv e d v d) w';rw[nL];exact h,rh⟩
theorem uE {aX:List Value} (G':List Nat) (k:Fr G w G' w') (hl:eZ G' w') (h:J G' (aX++[v]) w'):OW P n ops (λe' w'=>(∃G',Fr G w G' w'∧eZ G' w'∧J G' (aX++[e' d]) w'∧(Iu.e t).F G' (e' d) w')∧eF [d] e e') [] (bY e (some d) v) w':=
 aV ⟨⟨G',k,hl,by show J G' (aX++[iv e d v d]) w';rw[nL];exact h,trivial⟩,rh⟩
theorem uW {aX:List Value} (G':List Nat) (k:Fr G w G' w') (hl:eZ G' w') (h:J G' (aX++[v]) w') (hv:v=V:=by rfl):OW P n ops (λe' w'=>(∃G',Fr G w G' w'∧eZ G' w'∧J G' (aX++[e' d]) w'∧(Iu.w t V).F G' (e' d) w')∧eF [d] e e') [] (bY e (some d) v) w':=
 aV ⟨⟨G',k,hl,by show J G' (aX++[iv e d v d]) w';rw[nL];exact h,by subst hv;exact nL _ _ _⟩,rh⟩
theorem uD (k:ak [] w w') (h:v=V:=by rfl):OW P n ops (λe' w'=>ak [] w w'∧e' d=V∧eF [d] e e') [] (bY e (some d) v) w':=by grind [aV,nL,rh]
theorem uU {Q:List Nat->World->Prop} (G':List Nat) (k:Fr G w G' w') (hl:eZ G' w') (h:Q G' w'):OW P n ops (λe' w'=>(∃G',Fr G w G' w'∧eZ G' w'∧Q G' w')∧eF [d] e e') [] e w':=
 aV ⟨⟨G',k,hl,h⟩,x5⟩
end
end Go.Proofs.YthbhobaiopccaaaGreatDoor
