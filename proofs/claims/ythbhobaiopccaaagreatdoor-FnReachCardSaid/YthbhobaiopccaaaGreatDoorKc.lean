/- Lemmas for the law FnReach, no statement of their own: no conditions. -/
import Derived.Test.YthbhobaiopccaaaGreatDoorKb
set_option maxHeartbeats 4000000
set_option linter.unusedVariables false
set_option linter.unusedSimpArgs false
namespace Go.Proofs.YthbhobaiopccaaaGreatDoor
open Go
variable {b d k m m' n off sz t:Nat} {c:UInt8} {s x:ai} {e:Ex} {G L L' L1 W:List Nat} {w w' w0 w1 w2:World} {V v v1 v3 v4 v5 v6 v8:Value} {vs:List Value} {xs:List ai} {g:Option Nat} {rows:List (List C)} {e0:Env} {o:Oper} {l:List Oper} {r:List (List Nat)} {N R:Env->World->Prop} {X:Nat->Env->World->Prop} {J:List Nat->List Value->World->Prop}
/-! ### qF aL -/
theorem afx (n:Nat):val (aU n)=n:=by
 induction n using Nat.strongRecOn with
 |_ n ih=>
  have hd:∀k,k<10->(UInt8.ofNat (48+k)).toNat=48+k:=λk hk=>by
   rw[UInt8.toNat_ofNat'];exact Nat.mod_eq_of_lt om
  unfold aU
  by_cases h:n<10
  ·rw[iP h]
   show 10*0+((UInt8.ofNat (48+n)).toNat-48)=n
   rw[hd n h];omega
  ·rw[iN h,R8,ih (n/10) om,hd (n%10) om];omega
theorem afy (h:aU n=aU m):n=m:=by grind [afx]
def cO (c:UInt8) (k:Nat):ai:=c::aU k
theorem p9 {j:Nat} (h:cO c k=cO c j):k=j:=by grind [afy,cO]
theorem Nk {α:Type} [BEq α] [LawfulBEq α]:∀{l m:List α},l.Nodup->(∀x,x∈l->x∈m)->l.length<=m.length
 |[],m,_,_=>by simp
 |a::l,m,hn,hs=>by
  rw[List.nodup_cons] at hn
  have ha:=hs a sm
  have:=Nk (l:=l) (m:=m.erase a) hn.2 λx hx=>(List.mem_erase_of_ne (fun(e:x=a)=>hn.1 (e▸hx))).2 (hs x (by simp[hx]))
  rw[List.length_erase_of_mem ha] at this
  have:=List.length_pos_of_mem ha
  simp only[lC];omega
def qb (c:UInt8) (ag:List ai):Nat->Nat->Nat
 |0,n=>n
 |fuel+1,n=>if cO c n∈ag then qb c ag fuel (n+1) else n
def bu (c:UInt8) (ag:List ai) (n:Nat):Nat:=qb c ag (ag.length+1) n
theorem afz (c:UInt8) (ag:List ai):∀fuel n,n<=qb c ag fuel n∧qb c ag fuel n<=n+fuel:=by intro x;induction x<;>grind [qb]
theorem TO (c:UInt8) (ag:List ai):∀fuel n,cO c (qb c ag fuel n)∉ag∨∀j,j<fuel->cO c (n+j)∈ag
 |0,n=>.inr λj hj=>by omega
 |fuel+1,n=>by
  unfold qb
  split
  ·rename_i h
   rcases TO c ag fuel (n+1) with h1|h1
   ·exact .inl h1
   ·refine .inr λj hj=>?_
    cases j with
    |zero=>exact h
    |succ j=>have:=h1 j om;rw[show n+(j+1)=n+1+j from by omega];exact this
  ·rename_i h;exact .inl h
theorem JK (c:UInt8) (ag:List ai) (n:Nat):cO c (bu c ag n)∉ag:=by
 rcases TO c ag (ag.length+1) n with h|h
 ·exact h
 ·exfalso
  have hn:((List.range (ag.length+1)).map λj=>cO c (n+j)).Nodup:=by
   rw[List.nodup_iff_pairwise_ne,List.pairwise_map]
   refine List.Pairwise.imp ?_ (List.nodup_iff_pairwise_ne.1 List.nodup_range)
   intro a b JL e
   exact JL (by have:=p9 e;omega)
  have:=Nk hn (m:=ag) (λx hx=>by
   obtain⟨j,hj,rfl⟩:=List.mem_map.1 hx
   exact h j (List.mem_range.1 hj))
  simp at this;omega
theorem oG (c:UInt8) (ag:List ai) (n:Nat):n<=bu c ag n∧bu c ag n<=n+ag.length+1:=by grind [afz,cZ.length,bu]
theorem TP {ag:List ai} (h:cO c n∈ag):bu c ag n=bu c ag (n+1):=by
 have key:∀f g n,cO c (qb c ag f n)∉ag->cO c (qb c ag g n)∉ag->qb c ag f n=qb c ag g n:=by
  intro f
  induction f with
  |zero=>
   intro g n h1 h2
   cases g with
   |zero=>rfl
   |succ g=>unfold qb at h1⊢;rw[iN h1]
  |succ f ih=>
   intro g n h1 h2
   cases g with
   |zero=>unfold qb at h2⊢;rw[iN h2]
   |succ g=>
    unfold qb at h1 h2⊢
    by_cases hh:cO c n∈ag
    ·rw[iP hh] at h1 h2⊢;rw[iP hh];exact ih g (n+1) h1 h2
    ·rw[iN hh,iN hh]
 have e:bu c ag n=qb c ag ag.length (n+1):=by
  unfold bu
  conv=>lhs;unfold qb
  rw[iP h]
 have h1:=JK c ag n
 rw[e] at h1⊢
 exact key _ _ _ h1 (JK c ag (n+1))
theorem TQ {ag:List ai} (h:cO c n∉ag):bu c ag n=n:=by
 unfold bu qb;rw[iN h]
theorem AX (hc:97<=c∧c<=122) (hk:k<1000):dQ (cO c k)=true:=by
 have hd:∀k,(aU k).all iv=true:=λk=>by
  induction k using Nat.strongRecOn with
  |_ k ih=>
   have hd:∀j,j<10->iv (UInt8.ofNat (48+j))=true:=by decide
   unfold aU
   by_cases h:k<10
   ·rw[iP h,List.all_cons,hd k h];rfl
   ·rw[iN h,List.all_append,ih (k/10) om,List.all_cons,hd (k%10) om];rfl
 have h1:∀k,k<10->(aU k).length=1:=λk hk=>by unfold aU;rw[iP hk];rfl
 have h2:∀k,k<100->(aU k).length<=2:=λk hk=>by
  unfold aU
  split
  ·simp
  ·have:=h1 (k/10) om
   simp;omega
 have h3:(aU k).length<=3:=by
  unfold aU
  split
  ·simp
  ·have:=h2 (k/10) om
   simp;omega
 unfold dQ cO
 simp only[lC,List.getD_cons_zero,List.drop_succ_cons,List.drop_zero,hd k,Bool.and_true,aE,dE]
 exact⟨⟨by omega,om⟩,hc⟩
/-! ### Bound aL renamed -/
abbrev Rn:=List (ai×ai)
def qO (ρ:Rn) (s:ai):ai:=((ρ.reverse.find? λp=>decide (p.1=s)).map Prod.snd).getD s
theorem Nl (ρ:Rn) (x y s:ai):qO (ρ++[(x,y)]) s=if x=s then y else qO ρ s:=by grind [qO]
theorem TR (ρ:Rn) (f x s g y:ai):qO (ρ++[(f,g),(x,y)]) s=if x=s then y else if f=s then g else qO ρ s:=by grind [qO]
abbrev cx:UInt8:=120
def bL (ag:List ai):Ex->Rn->Nat->Ex×Nat
 | .at s,ρ,n=>(.at (if dQ s then qO ρ s else s),n)
 | .un h a,ρ,n=>(.un h (bL ag a ρ n).1,(bL ag a ρ n).2)
 | .bi h a b,ρ,n=>(.bi h (bL ag a ρ n).1 (bL ag b ρ (bL ag a ρ n).2).1,(bL ag b ρ (bL ag a ρ n).2).2)
 | .ite a b c,ρ,n=>(.ite (bL ag a ρ n).1 (bL ag b ρ (bL ag a ρ n).2).1 (bL ag c ρ (bL ag b ρ (bL ag a ρ n).2).2).1,(bL ag c ρ (bL ag b ρ (bL ag a ρ n).2).2).2)
 | .lt x a b,ρ,n=>(.lt (cO cx (bu cx ag n)) (bL ag a ρ (bu cx ag n+1)).1 (bL ag b (ρ++[(x,cO cx (bu cx ag n))]) (bL ag a ρ (bu cx ag n+1)).2).1,
   (bL ag b (ρ++[(x,cO cx (bu cx ag n))]) (bL ag a ρ (bu cx ag n+1)).2).2)
 | .fn f x A B e,ρ,n=>(.fn (cO cx (bu cx ag n)) (cO cx (bu cx ag (bu cx ag n+1))) A B (bL ag e (ρ++[(f,cO cx (bu cx ag n)),(x,cO cx (bu cx ag (bu cx ag n+1)))]) (bu cx ag (bu cx ag n+1)+1)).1,
   (bL ag e (ρ++[(f,cO cx (bu cx ag n)),(x,cO cx (bu cx ag (bu cx ag n+1)))]) (bu cx ag (bu cx ag n+1)+1)).2)
theorem jm (ag:List ai):∀(e:Ex) (ρ:Rn) (n:Nat),n<=(bL ag e ρ n).2∧(bL ag e ρ n).2+(ag.length+2)<=n+(e.n)*(ag.length+2)+(ag.length+2)
 | .at s,ρ,n=>by simp only[bL,Ex.n];omega
 | .un h a,ρ,n=>by
  have:=jm ag a ρ n
  simp only[bL,Ex.n,Nat.add_mul];omega
 | .bi h a b,ρ,n=>by
  have:=jm ag a ρ n
  have:=jm ag b ρ (bL ag a ρ n).2
  simp only[bL,Ex.n,Nat.add_mul];omega
 | .ite a b c,ρ,n=>by
  have:=jm ag a ρ n
  have:=jm ag b ρ (bL ag a ρ n).2
  have:=jm ag c ρ (bL ag b ρ (bL ag a ρ n).2).2
  simp only[bL,Ex.n,Nat.add_mul];omega
 | .lt x a b,ρ,n=>by
  have h0:=oG cx ag n
  have:=jm ag a ρ (bu cx ag n+1)
  have:=jm ag b (ρ++[(x,cO cx (bu cx ag n))]) (bL ag a ρ (bu cx ag n+1)).2
  simp only[bL,Ex.n,Nat.add_mul];omega
 | .fn f x A B e,ρ,n=>by
  have h0:=oG cx ag n
  have h1:=oG cx ag (bu cx ag n+1)
  have:=jm ag e (ρ++[(f,cO cx (bu cx ag n)),(x,cO cx (bu cx ag (bu cx ag n+1)))]) (bu cx ag (bu cx ag n+1)+1)
  simp only[bL,Ex.n,Nat.add_mul];omega
theorem TT (ag:List ai):∀(e:Ex) (ρ:Rn) (n:Nat),(bL ag e ρ n).1.n=e.n:=by intro x;induction x<;>grind [bL,Ty.n,Ex.n]
theorem xr (ag:List ai):∀(e:Ex) (ρ:Rn) (n:Nat),e.ok->(bL ag e ρ n).2<=1000->(∀s,dQ s=true->Fv s e->dQ (qO ρ s)=true)->(bL ag e ρ n).1.ok
 | .at s,ρ,n,h,_,hr=>by
  show qL _=true
  by_cases hn:dQ s=true
  ·rw[iP hn];unfold qL;rw[hr s hn ⟨rfl,hn⟩];simp
  ·rw[iN hn];exact h
 | .un hd a,ρ,n,h,hm,hr=>⟨h.1,xr ag a ρ n h.2 hm hr⟩
 | .bi hd a b,ρ,n,h,hm,hr=>by
  have h2:=jm ag b ρ (bL ag a ρ n).2
  simp only[bL] at hm
  exact⟨h.1,xr ag a ρ n h.2.1 om λs hn hs=>hr s hn (.inl hs),xr ag b ρ _ h.2.2 hm λs hn hs=>hr s hn (.inr hs)⟩
 | .ite a b c,ρ,n,h,hm,hr=>by
  have h2:=jm ag b ρ (bL ag a ρ n).2
  have h3:=jm ag c ρ (bL ag b ρ (bL ag a ρ n).2).2
  simp only[bL] at hm
  exact⟨xr ag a ρ n h.1 om λs hn hs=>hr s hn (.inl hs),xr ag b ρ _ h.2.1 om λs hn hs=>hr s hn (.inr (.inl hs)),xr ag c ρ _ h.2.2 hm λs hn hs=>hr s hn (.inr (.inr hs))⟩
 | .lt x a b,ρ,n,h,hm,hr=>by
  have h1:=jm ag a ρ (bu cx ag n+1)
  have h2:=jm ag b (ρ++[(x,cO cx (bu cx ag n))]) (bL ag a ρ (bu cx ag n+1)).2
  simp only[bL] at hm
  have hk:dQ (cO cx (bu cx ag n))=true:=AX de om
  refine⟨hk,xr ag a ρ _ h.2.1 om λs hn hs=>hr s hn (.inl hs),xr ag b _ _ h.2.2 hm λs hn hs=>?_⟩
  rw[Nl]
  split
  ·exact hk
  ·rename_i e;exact hr s hn (.inr ⟨λe'=>e e'.symm,hs⟩)
 | .fn f x A B e,ρ,n,h,hm,hr=>by
  have h0:=oG cx ag n
  have h1:=oG cx ag (bu cx ag n+1)
  have h2:=jm ag e (ρ++[(f,cO cx (bu cx ag n)),(x,cO cx (bu cx ag (bu cx ag n+1)))]) (bu cx ag (bu cx ag n+1)+1)
  simp only[bL] at hm
  have hk:dQ (cO cx (bu cx ag n))=true:=AX de om
  have az:dQ (cO cx (bu cx ag (bu cx ag n+1)))=true:=AX de om
  obtain⟨_,_,_,hA,hB,he⟩:=h
  refine⟨hk,az,λe=>by have:=p9 e;omega,hA,hB,xr ag e _ _ he hm λs hn hs=>?_⟩
  rw[TR]
  split
  ·exact az
  ·rename_i e1
   split
   ·exact hk
   ·rename_i e2;exact hr s hn ⟨λe'=>e2 e'.symm,λe'=>e1 e'.symm,hs⟩
theorem xu (ag:List ai):∀(e:Ex) (ρ:Rn) (n:Nat) (Γ Δ:Sc),(bL ag e ρ n).2<=1000->(∀s,dQ s=true->Fv s e->dQ (qO ρ s)=true∧look Δ (qO ρ s)=look Γ s∧∀k,n<=k->qO ρ s≠cO cx k)->bA (bL ag e ρ n).1 Δ=bA e Γ
 | .at s,ρ,n,Γ,Δ,_,h=>by
  unfold bL bA
  by_cases hn:dQ s=true
  ·obtain⟨h1,h2,_⟩:=h s hn ⟨rfl,hn⟩
   rw[iP hn,iP hn,iP h1,h2]
  ·rw[iN hn,iN hn,iN hn]
 | .un hd a,ρ,n,Γ,Δ,hm,h=>by
  unfold bL bA
  rw[xu ag a ρ n Γ Δ hm h]
 | .bi hd a b,ρ,n,Γ,Δ,hm,h=>by
  have h1:=jm ag a ρ n
  have h2:=jm ag b ρ (bL ag a ρ n).2
  simp only[bL] at hm
  unfold bL bA
  rw[xu ag a ρ n Γ Δ om λs hn hs=>h s hn (.inl hs),xu ag b ρ _ Γ Δ hm λs hn hs=>?_]
  obtain⟨q1,q2,q3⟩:=h s hn (.inr hs)
  exact⟨q1,q2,λk hk=>q3 k om⟩
 | .ite a b c,ρ,n,Γ,Δ,hm,h=>by
  have h1:=jm ag a ρ n
  have h2:=jm ag b ρ (bL ag a ρ n).2
  have h3:=jm ag c ρ (bL ag b ρ (bL ag a ρ n).2).2
  simp only[bL] at hm
  unfold bL bA
  rw[xu ag a ρ n Γ Δ om λs hn hs=>h s hn (.inl hs),xu ag b ρ _ Γ Δ om λs hn hs=>?_,xu ag c ρ _ Γ Δ hm λs hn hs=>?_]
  ·obtain⟨q1,q2,q3⟩:=h s hn (.inr (.inr hs))
   exact⟨q1,q2,λk hk=>q3 k om⟩
  ·obtain⟨q1,q2,q3⟩:=h s hn (.inr (.inl hs))
   exact⟨q1,q2,λk hk=>q3 k om⟩
 | .lt x a b,ρ,n,Γ,Δ,hm,h=>by
  have h0:=oG cx ag n
  have h1:=jm ag a ρ (bu cx ag n+1)
  have h2:=jm ag b (ρ++[(x,cO cx (bu cx ag n))]) (bL ag a ρ (bu cx ag n+1)).2
  simp only[bL] at hm
  have hk:dQ (cO cx (bu cx ag n))=true:=AX de om
  unfold bL bA
  rw[xu ag a ρ _ Γ Δ om λs hn hs=>?_]
  ·cases bA a Γ with
   |none=>rfl
   |some A=>
    refine xu ag b _ _ _ _ hm λs hn hs=>?_
    rw[Nl,pw Γ]
    by_cases e:x=s
    ·rw[iP e,iP e,pw,iP rfl]
     exact⟨hk,rfl,λk hk e=>by have:=p9 e;omega⟩
    ·rw[iN e,iN e]
     obtain⟨q1,q2,q3⟩:=h s hn (.inr ⟨λe'=>e e'.symm,hs⟩)
     rw[pw,iN (λe=>q3 _ h0.1 e.symm)]
     exact⟨q1,q2,λk hk=>q3 k om⟩
  ·obtain⟨q1,q2,q3⟩:=h s hn (.inl hs)
   exact⟨q1,q2,λk hk=>q3 k om⟩
 | .fn f x A B e,ρ,n,Γ,Δ,hm,h=>by
  have h0:=oG cx ag n
  have h1:=oG cx ag (bu cx ag n+1)
  have h2:=jm ag e (ρ++[(f,cO cx (bu cx ag n)),(x,cO cx (bu cx ag (bu cx ag n+1)))]) (bu cx ag (bu cx ag n+1)+1)
  simp only[bL] at hm
  have hk:dQ (cO cx (bu cx ag n))=true:=AX de om
  have az:dQ (cO cx (bu cx ag (bu cx ag n+1)))=true:=AX de om
  unfold bL bA
  rw[xu ag e _ _ (Γ++[(f,.op true A B),(x,A)]) _ hm λs hn hs=>?_]
  rw[TR,AW Γ]
  by_cases e1:x=s
  ·rw[iP e1,iP e1,AW,iP rfl]
   exact⟨az,rfl,λk hk e=>by have:=p9 e;omega⟩
  ·by_cases e2:f=s
   ·rw[iN e1,iN e1,iP e2,iP e2,AW,iN (λe=>by have:=p9 e;omega),iP rfl]
    exact⟨hk,rfl,λk hk e=>by have:=p9 e;omega⟩
   ·rw[iN e1,iN e1,iN e2,iN e2]
    obtain⟨q1,q2,q3⟩:=h s hn ⟨λe'=>e2 e'.symm,λe'=>e1 e'.symm,hs⟩
    rw[AW,iN (λe=>q3 _ om e.symm),iN (λe=>q3 _ h0.1 e.symm)]
    exact⟨q1,q2,λk hk=>q3 k om⟩
/-! ### The aL that are bound -/
def eV:Ex->List ai
 | .at _=>[]
 | .un _ a=>eV a
 | .bi _ a b=>eV a++eV b
 | .ite a b c=>eV a++(eV b++eV c)
 | .lt x a b=>x::(eV a++eV b)
 | .fn f x _ _ e=>f::x::eV e
theorem xw (ag:List ai):∀(e:Ex) (ρ:Rn) (n:Nat),(eV (bL ag e ρ n).1).Nodup∧∀y,y∈eV (bL ag e ρ n).1->∃k,y=cO cx k∧n<=k∧k<(bL ag e ρ n).2
 | .at s,ρ,n=>by simp[bL,eV]
 | .un hd a,ρ,n=>xw ag a ρ n
 | .bi hd a b,ρ,n=>by
  have h1:=jm ag a ρ n
  have h2:=jm ag b ρ (bL ag a ρ n).2
  obtain⟨a1,a2⟩:=xw ag a ρ n
  obtain⟨b1,b2⟩:=xw ag b ρ (bL ag a ρ n).2
  simp only[bL,eV]
  refine⟨List.nodup_append.2 ⟨a1,b1,λx hx y hy e=>?_⟩,λy hy=>?_⟩
  ·obtain⟨k,rfl,_,hk⟩:=a2 x hx
   obtain⟨j,rfl,hj,_⟩:=b2 y hy
   have:=p9 e;omega
  ·rcases mA.1 hy with hy|hy
   ·obtain⟨k,e,p,q⟩:=a2 y hy;exact⟨k,e,p,om⟩
   ·obtain⟨k,e,p,q⟩:=b2 y hy;exact⟨k,e,om,q⟩
 | .ite a b c,ρ,n=>by
  have h1:=jm ag a ρ n
  have h2:=jm ag b ρ (bL ag a ρ n).2
  have h3:=jm ag c ρ (bL ag b ρ (bL ag a ρ n).2).2
  obtain⟨a1,a2⟩:=xw ag a ρ n
  obtain⟨b1,b2⟩:=xw ag b ρ (bL ag a ρ n).2
  obtain⟨c1,c2⟩:=xw ag c ρ (bL ag b ρ (bL ag a ρ n).2).2
  simp only[bL,eV]
  refine⟨List.nodup_append.2 ⟨a1,List.nodup_append.2 ⟨b1,c1,λx hx y hy e=>?_⟩,λx hx y hy e=>?_⟩,λy hy=>?_⟩
  ·obtain⟨k,rfl,_,hk⟩:=b2 x hx
   obtain⟨j,rfl,hj,_⟩:=c2 y hy
   have:=p9 e;omega
  ·obtain⟨k,rfl,_,hk⟩:=a2 x hx
   rcases mA.1 hy with hy|hy
   ·obtain⟨j,rfl,hj,_⟩:=b2 y hy
    have:=p9 e;omega
   ·obtain⟨j,rfl,hj,_⟩:=c2 y hy
    have:=p9 e;omega
  ·rcases mA.1 hy with hy|hy
   ·obtain⟨k,e,p,q⟩:=a2 y hy;exact⟨k,e,p,om⟩
   ·rcases mA.1 hy with hy|hy
    ·obtain⟨k,e,p,q⟩:=b2 y hy;exact⟨k,e,om,om⟩
    ·obtain⟨k,e,p,q⟩:=c2 y hy;exact⟨k,e,om,q⟩
 | .lt x a b,ρ,n=>by
  have h0:=oG cx ag n
  have h1:=jm ag a ρ (bu cx ag n+1)
  have h2:=jm ag b (ρ++[(x,cO cx (bu cx ag n))]) (bL ag a ρ (bu cx ag n+1)).2
  obtain⟨a1,a2⟩:=xw ag a ρ (bu cx ag n+1)
  obtain⟨b1,b2⟩:=xw ag b (ρ++[(x,cO cx (bu cx ag n))]) (bL ag a ρ (bu cx ag n+1)).2
  simp only[bL,eV]
  refine⟨List.nodup_cons.2 ⟨λhx=>?_,List.nodup_append.2 ⟨a1,b1,λx hx y hy e=>?_⟩⟩,λy hy=>?_⟩
  ·rcases mA.1 hx with hx|hx
   ·obtain⟨k,e,p,q⟩:=a2 _ hx;have:=p9 e;omega
   ·obtain⟨k,e,p,q⟩:=b2 _ hx;have:=p9 e;omega
  ·obtain⟨k,rfl,_,hk⟩:=a2 x hx
   obtain⟨j,rfl,hj,_⟩:=b2 y hy
   have:=p9 e;omega
  ·rcases mC.1 hy with rfl|hy
   ·exact⟨_,rfl,om,om⟩
   ·rcases mA.1 hy with hy|hy
    ·obtain⟨k,e,p,q⟩:=a2 y hy;exact⟨k,e,om,om⟩
    ·obtain⟨k,e,p,q⟩:=b2 y hy;exact⟨k,e,om,q⟩
 | .fn f x A B e,ρ,n=>by
  have h0:=oG cx ag n
  have h1:=oG cx ag (bu cx ag n+1)
  have h2:=jm ag e (ρ++[(f,cO cx (bu cx ag n)),(x,cO cx (bu cx ag (bu cx ag n+1)))]) (bu cx ag (bu cx ag n+1)+1)
  obtain⟨a1,a2⟩:=xw ag e (ρ++[(f,cO cx (bu cx ag n)),(x,cO cx (bu cx ag (bu cx ag n+1)))]) (bu cx ag (bu cx ag n+1)+1)
  simp only[bL,eV]
  refine⟨List.nodup_cons.2 ⟨λhx=>?_,List.nodup_cons.2 ⟨λhx=>?_,a1⟩⟩,λy hy=>?_⟩
  ·rcases mC.1 hx with hx|hx
   ·have:=p9 hx;omega
   ·obtain⟨k,e,p,q⟩:=a2 _ hx;have:=p9 e;omega
  ·obtain⟨k,e,p,q⟩:=a2 _ hx;have:=p9 e;omega
  ·rcases mC.1 hy with rfl|hy
   ·exact⟨_,rfl,om,om⟩
   ·rcases mC.1 hy with rfl|hy
    ·exact⟨_,rfl,om,om⟩
    ·obtain⟨k,e,p,q⟩:=a2 y hy;exact⟨k,e,om,q⟩
theorem qd:∀{e:Ex} {Γ:Sc} {T:Ty},bA e Γ=some T->Fv s e->(look Γ s).isSome=true
 | .at x,Γ,T,h,hs=>by
  obtain⟨rfl,hn⟩:=hs
  unfold bA at h;rw[iP hn] at h;rw[h];rfl
 | .un hd a,Γ,T,h,hs=>by
  unfold bA at h
  cases ha:bA a Γ with
  |none=>rw[ha] at h;cases h
  |some A=>exact qd ha hs
 | .bi hd a b,Γ,T,h,hs=>by
  unfold bA at h
  cases ha:bA a Γ with
  |none=>rw[ha] at h;cases h
  |some A=>
   cases hb:bA b Γ with
   |none=>rw[ha,hb] at h;cases h
   |some B=>exact hs.elim (qd ha) (qd hb)
 | .ite a b c,Γ,T,h,hs=>by
  unfold bA at h
  cases ha:bA a Γ with
  |none=>rw[ha] at h;cases h
  |some A=>
   cases hb:bA b Γ with
   |none=>rw[ha,hb] at h;cases h
   |some B=>
    cases hc:bA c Γ with
    |none=>rw[ha,hb,hc] at h;cases h
    |some C=>exact hs.elim (qd ha) λhs=>hs.elim (qd hb) (qd hc)
 | .lt x a b,Γ,T,h,hs=>by
  unfold bA at h
  cases ha:bA a Γ with
  |none=>rw[ha] at h;cases h
  |some A=>
   rw[ha,Option.bind_some] at h
   rcases hs with hs|⟨dN,hs⟩
   ·exact qd ha hs
   ·have:=qd h hs
    rw[pw,iN (λe=>dN e.symm)] at this;exact this
 | .fn f x A B e,Γ,T,h,hs=>by
  unfold bA at h
  split at h
  ·cases he:bA e (Γ++[(f,.op true A B),(x,A)]) with
   |none=>rw[he] at h;cases h
   |some C=>
    obtain⟨h1,h2,h3⟩:=hs
    have:=qd he h3
    rw[AW,iN (λe=>h2 e.symm),iN (λe=>h1 e.symm)] at this;exact this
  ·cases h
abbrev Bs:=List (ai×Ex)
abbrev cy:UInt8:=121
def nest (bs:Bs) (e:Ex):Ex:=bs.foldr (λp e=>.lt p.1 p.2 e) e
def dI (ag:List ai) (r:Bs×Ex×Nat):Bs×Ex×Nat:=
 if r.2.1.iQ=true then r else(r.1++[(cO cy (bu cy ag r.2.2),r.2.1)],.at (cO cy (bu cy ag r.2.2)),bu cy ag r.2.2+1)
def aZ (ag:List ai):Ex->Nat->Bs×Ex×Nat
 | .at s,n=>([],.at s,n)
 | .un h a,n=>((dI ag (aZ ag a n)).1,.un h (dI ag (aZ ag a n)).2.1,(dI ag (aZ ag a n)).2.2)
 | .bi h a b,n=>((dI ag (aZ ag a n)).1++(dI ag (aZ ag b (dI ag (aZ ag a n)).2.2)).1,.bi h (dI ag (aZ ag a n)).2.1 (dI ag (aZ ag b (dI ag (aZ ag a n)).2.2)).2.1,(dI ag (aZ ag b (dI ag (aZ ag a n)).2.2)).2.2)
 | .ite a b c,n=>((dI ag (aZ ag a n)).1,.ite (dI ag (aZ ag a n)).2.1 (nest (aZ ag b (dI ag (aZ ag a n)).2.2).1 (aZ ag b (dI ag (aZ ag a n)).2.2).2.1)
   (nest (aZ ag c (aZ ag b (dI ag (aZ ag a n)).2.2).2.2).1 (aZ ag c (aZ ag b (dI ag (aZ ag a n)).2.2).2.2).2.1),(aZ ag c (aZ ag b (dI ag (aZ ag a n)).2.2).2.2).2.2)
 | .lt x a b,n=>((aZ ag a n).1++(x,(aZ ag a n).2.1)::(aZ ag b (aZ ag a n).2.2).1,(aZ ag b (aZ ag a n).2.2).2.1,(aZ ag b (aZ ag a n).2.2).2.2)
 | .fn f x A B e,n=>([],.fn f x A B (nest (aZ ag e n).1 (aZ ag e n).2.1),(aZ ag e n).2.2)
def mX (ag:List ai) (e:Ex) (n:Nat):Ex:=nest (aZ ag e n).1 (aZ ag e n).2.1
/-! ### How many aL -/
theorem qP (ag:List ai) (r:Bs×Ex×Nat):r.2.2<=(dI ag r).2.2∧(dI ag r).2.2<=r.2.2+ag.length+2:=by grind [dI,oG]
theorem iA (ag:List ai):∀(e:Ex) (n:Nat),n<=(aZ ag e n).2.2∧(aZ ag e n).2.2+2*(ag.length+2)<=n+e.n*(2*(ag.length+2))
 | .at s,n=>⟨lR _,by simp only[aZ,Ex.n];omega⟩
 | .un h a,n=>by
  have:=iA ag a n
  have:=qP ag (aZ ag a n)
  simp only[aZ,Ex.n,Nat.add_mul];omega
 | .bi h a b,n=>by
  have:=iA ag a n
  have:=qP ag (aZ ag a n)
  have:=iA ag b (dI ag (aZ ag a n)).2.2
  have:=qP ag (aZ ag b (dI ag (aZ ag a n)).2.2)
  simp only[aZ,Ex.n,Nat.add_mul];omega
 | .ite a b c,n=>by
  have:=iA ag a n
  have:=qP ag (aZ ag a n)
  have:=iA ag b (dI ag (aZ ag a n)).2.2
  have:=iA ag c (aZ ag b (dI ag (aZ ag a n)).2.2).2.2
  simp only[aZ,Ex.n,Nat.add_mul];omega
 | .lt x a b,n=>by
  have:=iA ag a n
  have:=iA ag b (aZ ag a n).2.2
  simp only[aZ,Ex.n,Nat.add_mul];omega
 | .fn f x A B e,n=>by
  have:=iA ag e n
  simp only[aZ,Ex.n,Nat.add_mul];omega
/-! ### Types -/
def rG:Bs->Sc->Option Sc
 |[],Γ=>some Γ
 |(x,s)::bs,Γ=>(bA s Γ).bind λT=>rG bs (Γ++[(x,T)])
theorem JM (bs:Bs) (e:Ex) (Γ:Sc):bA (nest bs e) Γ=(rG bs Γ).bind (bA e):=by induction bs generalizing Γ<;>grind [bA,nest,rG]
theorem Nn (bs cs:Bs) (Γ:Sc):rG (bs++cs) Γ=(rG bs Γ).bind (rG cs):=by
 induction bs generalizing Γ with
 |nil=>rfl
 |cons p bs ih=>
  obtain⟨x,s⟩:=p
  show(bA s Γ).bind (λT=>rG (bs++cs) (Γ++[(x,T)]))=((bA s Γ).bind λT=>rG bs (Γ++[(x,T)])).bind (rG cs)
  cases bA s Γ with
  |none=>rfl
  |some T=>exact ih _
def EI (Δ:Sc) (s:ai):Prop:=∀p,p∈Δ->p.1≠s
theorem GW {Γ Δ:Sc} (h:EI Δ s):look (Γ++Δ) s=look Γ s:=by grind [EI,look]
def qF (ag:List ai) (e:Ex) (n m:Nat) (y:ai):Prop:=y∈eV e∨∃k,y=cO cy k∧n<=k∧k<m∧y∉ag
structure Made (ag:List ai) (e:Ex) (n:Nat) (r:Bs×Ex×Nat) (Γ:Sc) (T:Ty) (Δ:Sc):Prop where
 binds:rG r.1 Γ=some (Γ++Δ)
 type:bA r.2.1 (Γ++Δ)=some T
 aL:∀p,p∈Δ->qF ag e n r.2.2 p.1
def AY (ag:List ai) (e:Ex) (n:Nat) (r:Bs×Ex×Nat):Prop:=∀s,(Fv s r.2.1∨∃p,p∈r.1∧Fv s p.2)->Fv s e∨qF ag e n r.2.2 s
structure TU (ag:List ai) (e:Ex):Prop where
 nodup:(eV e).Nodup
 nofree:∀x,x∈eV e->¬Fv x e
 noted:∀x,x∈eV e∨Fv x e->x∈ag
theorem qF.more {ag:List ai} {e':Ex} {n':Nat} {y:ai} (h:qF ag e n m y) (hb:∀x,x∈eV e->x∈eV e') (hn:n'<=n) (hm:m<=m'):qF ag e' n' m' y:=by grind [qF,eV]
theorem AY.aw {ag:List ai} {r:Bs×Ex×Nat} (h:AY ag e n r) (hn:n<=r.2.2):AY ag e n (dI ag r):=by grind [AY,dI,Fv,qF,bu,oG,JK]
theorem No:∀(bs:Bs) (e:Ex) (s:ai),Fv s (nest bs e)->Fv s e∨∃p,p∈bs∧Fv s p.2:=by intro x;induction x<;>grind [Fv,nest]
theorem AY.sub {ag:List ai} {e':Ex} {n':Nat} {r:Bs×Ex×Nat} (h:AY ag e n r) (hf:∀s,Fv s e->Fv s e'∨s∈eV e') (hb:∀x,x∈eV e->x∈eV e') (hn:n'<=n) (hm:r.2.2<=m') (hs:Fv s r.2.1∨∃p,p∈r.1∧Fv s p.2):Fv s e'∨qF ag e' n' m' s:=by grind [AY,Fv,eV,qF]
theorem xz (ag:List ai):∀(e:Ex) (n:Nat),AY ag e n (aZ ag e n)
 | .at s,n=>λs hs=>hs.elim .inl fun⟨p,hp,_⟩=>by simp[aZ] at hp
 | .un hd a,n=>λs hs=>((xz ag a n).aw (iA ag a n).1).sub (λs h=>.inl h) (λx h=>h) (lR _) (lR _) hs
 | .bi hd a b,n=>λs hs=>by
  have h1:=iA ag a n
  have h2:=qP ag (aZ ag a n)
  have h3:=iA ag b (dI ag (aZ ag a n)).2.2
  have h4:=qP ag (aZ ag b (dI ag (aZ ag a n)).2.2)
  have ha:=((xz ag a n).aw h1.1).sub (e':=.bi hd a b) (n':=n) (m':=(aZ ag (.bi hd a b) n).2.2) (λs h=>.inl (.inl h)) (λx h=>mA.2 (.inl h)) (lR _) (by simp only[aZ];omega) (s:=s)
  have hb:=((xz ag b (dI ag (aZ ag a n)).2.2).aw h3.1).sub (e':=.bi hd a b) (n':=n) (m':=(aZ ag (.bi hd a b) n).2.2) (λs h=>.inl (.inr h)) (λx h=>mA.2 (.inr h)) om (by simp only[aZ];omega) (s:=s)
  rcases hs with(hs|hs)|⟨p,hp,hs⟩
  ·exact ha (.inl hs)
  ·exact hb (.inl hs)
  ·rcases mA.1 hp with hp|hp
   ·exact ha (.inr ⟨p,hp,hs⟩)
   ·exact hb (.inr ⟨p,hp,hs⟩)
 | .ite a b c,n=>λs hs=>by
  have h1:=iA ag a n
  have h2:=qP ag (aZ ag a n)
  have h3:=iA ag b (dI ag (aZ ag a n)).2.2
  have h4:=iA ag c (aZ ag b (dI ag (aZ ag a n)).2.2).2.2
  have ha:=((xz ag a n).aw h1.1).sub (e':=.ite a b c) (n':=n) (m':=(aZ ag (.ite a b c) n).2.2) (λs h=>.inl (.inl h)) (λx h=>mA.2 (.inl h)) (lR _) (by simp only[aZ];omega) (s:=s)
  have hb:=(xz ag b (dI ag (aZ ag a n)).2.2).sub (e':=.ite a b c) (n':=n) (m':=(aZ ag (.ite a b c) n).2.2) (λs h=>.inl (.inr (.inl h))) (λx h=>mA.2 (.inr (mA.2 (.inl h)))) om (by simp only[aZ];omega) (s:=s)
  have hc:=(xz ag c (aZ ag b (dI ag (aZ ag a n)).2.2).2.2).sub (e':=.ite a b c) (n':=n) (m':=(aZ ag (.ite a b c) n).2.2) (λs h=>.inl (.inr (.inr h))) (λx h=>mA.2 (.inr (mA.2 (.inr h)))) om (by simp only[aZ];omega) (s:=s)
  rcases hs with(hs|hs|hs)|⟨p,hp,hs⟩
  ·exact ha (.inl hs)
  ·exact hb (No _ _ _ hs)
  ·exact hc (No _ _ _ hs)
  ·exact ha (.inr ⟨p,hp,hs⟩)
 | .lt x a b,n=>λs hs=>by
  have h1:=iA ag a n
  have h3:=iA ag b (aZ ag a n).2.2
  have ha:=(xz ag a n).sub (e':=.lt x a b) (n':=n) (m':=(aZ ag (.lt x a b) n).2.2) (λs h=>.inl (.inl h)) (λy h=>mK _ (mA.2 (.inl h))) (lR _) (by simp only[aZ];omega) (s:=s)
  have hb:=(xz ag b (aZ ag a n).2.2).sub (e':=.lt x a b) (n':=n) (m':=(aZ ag (.lt x a b) n).2.2) (λs h=>by
   by_cases e:s=x
   ·exact .inr (by rw[e];exact List.mem_cons_self ..)
   ·exact .inl (.inr ⟨e,h⟩)) (λy h=>mK _ (mA.2 (.inr h))) om (by simp only[aZ];omega) (s:=s)
  rcases hs with hs|⟨p,hp,hs⟩
  ·exact hb (.inl hs)
  ·rcases mA.1 hp with hp|hp
   ·exact ha (.inr ⟨p,hp,hs⟩)
   ·rcases mC.1 hp with rfl|hp
    ·exact ha (.inl hs)
    ·exact hb (.inr ⟨p,hp,hs⟩)
 | .fn f x A B e,n=>λs hs=>by
  rcases hs with⟨h1,h2,hs⟩|⟨p,hp,_⟩
  ·rcases xz ag e n s (No _ _ _ hs) with h|h
   ·exact .inl ⟨h1,h2,h⟩
   ·exact .inr (h.more (λy hy=>mK _ (mK _ hy)) (lR _) (lR _))
  ·simp[aZ] at hp
theorem Made.aw {ag:List ai} {r:Bs×Ex×Nat} {Γ:Sc} {T:Ty} {Δ:Sc} (h:Made ag e n r Γ T Δ) (hn:n<=r.2.2) (Np:(dI ag r).2.2<=1000):∃Δ',Made ag e n (dI ag r) Γ T Δ':=by
 unfold dI at Np⊢
 have hf:=oG cy ag r.2.2
 have uz:=JK cy ag r.2.2
 split
 ·exact⟨Δ,h⟩
 ·rename_i eF
  rw[iN eF] at Np
  have hk:dQ (cO cy (bu cy ag r.2.2))=true:=AX de (by dsimp only at Np;omega)
  refine⟨Δ++[(cO cy (bu cy ag r.2.2),T)],⟨?_,?_,?_⟩⟩
  ·rw[Nn,h.binds,Option.bind_some]
   show(bA r.2.1 (Γ++Δ)).bind _=_
   rw[h.type,Option.bind_some,List.append_assoc];rfl
  ·show(if dQ (cO cy (bu cy ag r.2.2))=true then look (Γ++(Δ++[(cO cy (bu cy ag r.2.2),T)])) (cO cy (bu cy ag r.2.2)) else some Ty.i)=some T
   rw[iP hk,<-List.append_assoc,pw,iP rfl]
  ·intro p hp
   rcases mA.1 hp with hp|hp
   ·exact(h.aL p hp).more (λx hx=>hx) (lR _) (by dsimp only;omega)
   ·simp only[List.mem_singleton] at hp
    subst hp
    exact .inr ⟨_,rfl,om,by dsimp only;omega,uz⟩
theorem JN {ag:List ai} {a:Ex} {Δ:Sc} (h:∀p,p∈Δ->qF ag a n m p.1) (h1:s∉eV a) (h2:s∈ag):EI Δ s:=by grind [qF,eV,EI]
theorem afA {ag:List ai} {a b:Ex} {Δ:Sc} (hs:Fv s a∨qF ag a n m s) (h:∀p,p∈Δ->qF ag b m m' p.1) (h1:∀x,x∈eV b->¬Fv x a) (h2:∀x,x∈eV b->x∉eV a) (h3:∀x,x∈eV b->x∈ag) (h4:∀x,x∈eV a∨Fv x a->x∈ag):EI Δ s:=by grind [Fv,qF,eV,EI,p9]
theorem made (ag:List ai):∀(e:Ex) (n:Nat) (Γ:Sc) (T:Ty),TU ag e->(aZ ag e n).2.2<=1000->bA e Γ=some T->∃Δ,Made ag e n (aZ ag e n) Γ T Δ
 | .at s,n,Γ,T,hu,hm,h=>⟨[],⟨by simp[aZ,rG],by simpa[aZ] using h,sm⟩⟩
 | .un hd a,n,Γ,T,hu,hm,h=>by
  have h1:=iA ag a n
  have h2:=qP ag (aZ ag a n)
  simp only[aZ] at hm
  unfold bA at h
  cases ha:bA a Γ with
  |none=>rw[ha] at h;cases h
  |some A=>
   rw[ha,Option.bind_some] at h
   obtain⟨Δ,hΔ⟩:=made ag a n Γ A ⟨hu.nodup,hu.nofree,hu.noted⟩ om ha
   obtain⟨Δ',hΔ'⟩:=hΔ.aw h1.1 hm
   refine⟨Δ',⟨hΔ'.binds,?_,hΔ'.aL⟩⟩
   show(bA (dI ag (aZ ag a n)).2.1 (Γ++Δ')).bind (λA=>kV hd [A])=some T
   rw[hΔ'.type,Option.bind_some];exact h
 | .bi hd a b,n,Γ,T,hu,hm,h=>by
  have h1:=iA ag a n
  have h2:=qP ag (aZ ag a n)
  have h3:=iA ag b (dI ag (aZ ag a n)).2.2
  have h4:=qP ag (aZ ag b (dI ag (aZ ag a n)).2.2)
  have px:=(xz ag a n).aw h1.1
  simp only[aZ] at hm
  unfold bA at h
  cases ha:bA a Γ with
  |none=>rw[ha] at h;cases h
  |some A=>
   cases hb:bA b Γ with
   |none=>rw[ha,hb] at h;cases h
   |some B=>
    rw[ha,hb,Option.bind_some,Option.bind_some] at h
    have ji:=List.nodup_append.1 hu.nodup
    obtain⟨Δ1,hΔ1⟩:=made ag a n Γ A ⟨ji.1,λx hx hf=>hu.nofree x (mA.2 (.inl hx)) (.inl hf),λx hx=>hu.noted x (hx.imp (λh=>mA.2 (.inl h)) .inl)⟩ om ha
    obtain⟨Δ1',hΔ1'⟩:=hΔ1.aw h1.1 om
    have gB:bA b (Γ++Δ1')=some B:=by
     rw[<-hb]
     refine qN b _ _ λs hn hs=>GW (JN hΔ1'.aL (λhx=>hu.nofree s (mA.2 (.inl hx)) (.inr hs)) (hu.noted s (.inr (.inr hs))))
    obtain⟨Δ2,hΔ2⟩:=made ag b (dI ag (aZ ag a n)).2.2 (Γ++Δ1') B ⟨ji.2.1,λx hx hf=>hu.nofree x (mA.2 (.inr hx)) (.inr hf),λx hx=>hu.noted x (hx.imp (λh=>mA.2 (.inr h)) .inr)⟩ om gB
    obtain⟨Δ2',hΔ2'⟩:=hΔ2.aw h3.1 hm
    refine⟨Δ1'++Δ2',⟨?_,?_,?_⟩⟩
    ·show rG (_++_) Γ=_
     rw[Nn,hΔ1'.binds,Option.bind_some,hΔ2'.binds,List.append_assoc]
    ·show(bA (dI ag (aZ ag a n)).2.1 (Γ++(Δ1'++Δ2'))).bind (λA=>(bA (dI ag (aZ ag b (dI ag (aZ ag a n)).2.2)).2.1 (Γ++(Δ1'++Δ2'))).bind λB=>kV hd [A,B])=some T
     have e1:bA (dI ag (aZ ag a n)).2.1 (Γ++(Δ1'++Δ2'))=some A:=by
      rw[<-hΔ1'.type,<-List.append_assoc]
      refine qN _ _ _ λs hn hs=>GW (afA (px s (.inl hs)) hΔ2'.aL ?_ ?_ ?_ ?_)
      ·exact λx hx hf=>hu.nofree x (mA.2 (.inr hx)) (.inl hf)
      ·exact λx hx fC=>ji.2.2 x fC x hx rfl
      ·exact λx hx=>hu.noted x (.inl (mA.2 (.inr hx)))
      ·exact λx hx=>hu.noted x (hx.imp (λh=>mA.2 (.inl h)) .inl)
     rw[e1,Option.bind_some,<-List.append_assoc,hΔ2'.type,Option.bind_some];exact h
    ·intro p hp
     rcases mA.1 hp with hp|hp
     ·exact(hΔ1'.aL p hp).more (λx hx=>mA.2 (.inl hx)) (lR _) (by simp only[aZ];omega)
     ·exact(hΔ2'.aL p hp).more (λx hx=>mA.2 (.inr hx)) om (by simp only[aZ];omega)
 | .ite a b c,n,Γ,T,hu,hm,h=>by
  have h1:=iA ag a n
  have h2:=qP ag (aZ ag a n)
  have h3:=iA ag b (dI ag (aZ ag a n)).2.2
  have h4:=iA ag c (aZ ag b (dI ag (aZ ag a n)).2.2).2.2
  simp only[aZ] at hm
  unfold bA at h
  cases ha:bA a Γ with
  |none=>rw[ha] at h;cases h
  |some A=>
   cases hb:bA b Γ with
   |none=>rw[ha,hb] at h;cases h
   |some B=>
    cases hc:bA c Γ with
    |none=>rw[ha,hb,hc] at h;cases h
    |some C=>
     rw[ha,hb,hc,Option.bind_some,Option.bind_some,Option.bind_some] at h
     have ji:=List.nodup_append.1 hu.nodup
     have TV:=List.nodup_append.1 ji.2.1
     have inB:∀x,x∈eV b->x∈eV (.ite a b c):=λx hx=>mA.2 (.inr (mA.2 (.inl hx)))
     have inC:∀x,x∈eV c->x∈eV (.ite a b c):=λx hx=>mA.2 (.inr (mA.2 (.inr hx)))
     have inA:∀x,x∈eV a->x∈eV (.ite a b c):=λx hx=>mA.2 (.inl hx)
     obtain⟨Δ1,hΔ1⟩:=made ag a n Γ A ⟨ji.1,λx hx hf=>hu.nofree x (inA x hx) (.inl hf),λx hx=>hu.noted x (hx.imp (inA x) .inl)⟩ om ha
     obtain⟨Δ1',hΔ1'⟩:=hΔ1.aw h1.1 om
     have gB:bA b (Γ++Δ1')=some B:=by
      rw[<-hb]
      refine qN b _ _ λs hn hs=>GW (JN hΔ1'.aL (λhx=>hu.nofree s (inA s hx) (.inr (.inl hs))) (hu.noted s (.inr (.inr (.inl hs)))))
     have pZ:bA c (Γ++Δ1')=some C:=by
      rw[<-hc]
      refine qN c _ _ λs hn hs=>GW (JN hΔ1'.aL (λhx=>hu.nofree s (inA s hx) (.inr (.inr hs))) (hu.noted s (.inr (.inr (.inr hs)))))
     obtain⟨Δ2,hΔ2⟩:=made ag b (dI ag (aZ ag a n)).2.2 (Γ++Δ1') B ⟨TV.1,λx hx hf=>hu.nofree x (inB x hx) (.inr (.inl hf)),λx hx=>hu.noted x (hx.imp (inB x) λh=>.inr (.inl h))⟩ om gB
     obtain⟨Δ3,hΔ3⟩:=made ag c (aZ ag b (dI ag (aZ ag a n)).2.2).2.2 (Γ++Δ1') C ⟨TV.2.1,λx hx hf=>hu.nofree x (inC x hx) (.inr (.inr hf)),λx hx=>hu.noted x (hx.imp (inC x) λh=>.inr (.inr h))⟩ hm pZ
     refine⟨Δ1',⟨hΔ1'.binds,?_,?_⟩⟩
     ·show(bA (dI ag (aZ ag a n)).2.1 (Γ++Δ1')).bind (λA=>(bA (nest _ _) (Γ++Δ1')).bind λB=>(bA (nest _ _) (Γ++Δ1')).bind λC=>kV gJ [A,B,C])=some T
      rw[hΔ1'.type,JM,JM,hΔ2.binds,hΔ3.binds,Option.bind_some,Option.bind_some,Option.bind_some,hΔ2.type,hΔ3.type,Option.bind_some,Option.bind_some];exact h
     ·exact λp hp=>(hΔ1'.aL p hp).more inA (lR _) (by simp only[aZ];omega)
 | .lt x a b,n,Γ,T,hu,hm,h=>by
  have h1:=iA ag a n
  have h3:=iA ag b (aZ ag a n).2.2
  simp only[aZ] at hm
  unfold bA at h
  cases ha:bA a Γ with
  |none=>rw[ha] at h;cases h
  |some A=>
   rw[ha,Option.bind_some] at h
   have GX:=List.nodup_cons.1 hu.nodup
   have ji:=List.nodup_append.1 GX.2
   have inA:∀y,y∈eV a->y∈eV (.lt x a b):=λy hy=>mK _ (mA.2 (.inl hy))
   have inB:∀y,y∈eV b->y∈eV (.lt x a b):=λy hy=>mK _ (mA.2 (.inr hy))
   have TW:x∈eV (.lt x a b):=List.mem_cons_self ..
   obtain⟨Δ1,hΔ1⟩:=made ag a n Γ A ⟨ji.1,λy hy hf=>hu.nofree y (inA y hy) (.inl hf),λy hy=>hu.noted y (hy.imp (inA y) .inl)⟩ om ha
   have gB:bA b (Γ++(Δ1++[(x,A)]))=some T:=by
    rw[<-h,<-List.append_assoc]
    refine qN b _ _ λs hn hs=>?_
    rw[pw,pw]
    by_cases e:x=s
    ·rw[iP e,iP e]
    ·rw[iN e,iN e]
     have EJ:Fv s (.lt x a b):=.inr ⟨λe'=>e e'.symm,hs⟩
     exact GW (JN hΔ1.aL (λhx=>hu.nofree s (inA s hx) EJ) (hu.noted s (.inr EJ)))
   obtain⟨Δ2,hΔ2⟩:=made ag b (aZ ag a n).2.2 (Γ++(Δ1++[(x,A)])) T ⟨ji.2.1,λy hy hf=>by
    by_cases e:y=x
    ·exact GX.1 (e▸mA.2 (.inr hy))
    ·exact hu.nofree y (inB y hy) (.inr ⟨e,hf⟩),λy hy=>by
    by_cases e:y=x
    ·rw[e];exact hu.noted x (.inl TW)
    ·exact hu.noted y (hy.imp (inB y) λh=>.inr ⟨e,h⟩)⟩ hm gB
   refine⟨Δ1++(x,A)::Δ2,⟨?_,?_,?_⟩⟩
   ·show rG (_++(x,_)::_) Γ=_
    rw[Nn,hΔ1.binds,Option.bind_some]
    show(bA (aZ ag a n).2.1 (Γ++Δ1)).bind (λT=>rG _ ((Γ++Δ1)++[(x,T)]))=_
    rw[hΔ1.type,Option.bind_some,List.append_assoc,hΔ2.binds]
    simp
   ·show bA (aZ ag b (aZ ag a n).2.2).2.1 _=some T
    have:=hΔ2.type
    rw[show Γ++(Δ1++(x,A)::Δ2)=Γ++(Δ1++[(x,A)])++Δ2 from by simp];exact this
   ·intro p hp
    rcases mA.1 hp with hp|hp
    ·exact(hΔ1.aL p hp).more inA (lR _) (by simp only[aZ];omega)
    ·rcases mC.1 hp with rfl|hp
     ·exact .inl TW
     ·exact(hΔ2.aL p hp).more inB om (by simp only[aZ];omega)
 | .fn f x A B e,n,Γ,T,hu,hm,h=>by
  simp only[aZ] at hm
  unfold bA at h
  split at h
  ·rename_i hc
   cases he:bA e (Γ++[(f,.op true A B),(x,A)]) with
   |none=>rw[he] at h;cases h
   |some C=>
    rw[he,Option.bind_some] at h
    have GX:=List.nodup_cons.1 hu.nodup
    have ji:=List.nodup_cons.1 GX.2
    have inE:∀y,y∈eV e->y∈eV (.fn f x A B e):=λy hy=>mK _ (mK _ hy)
    obtain⟨Δ1,hΔ1⟩:=made ag e n (Γ++[(f,.op true A B),(x,A)]) C ⟨ji.2,λy hy hf=>by
     by_cases e1:y=x
     ·exact ji.1 (e1▸hy)
     ·by_cases e2:y=f
      ·exact GX.1 (e2▸mK _ hy)
      ·exact hu.nofree y (inE y hy) ⟨e2,e1,hf⟩,λy hy=>by
     by_cases e1:y=x
     ·rw[e1];exact hu.noted x (.inl (mK _ (List.mem_cons_self ..)))
     ·by_cases e2:y=f
      ·rw[e2];exact hu.noted f (.inl (List.mem_cons_self ..))
      ·exact hu.noted y (hy.imp (inE y) λh=>⟨e2,e1,h⟩)⟩ hm he
    refine⟨[],⟨by simp[aZ,rG],?_,sm⟩⟩
    show(if 1+A.n+B.n<=16 then(bA (nest (aZ ag e n).1 (aZ ag e n).2.1) ((Γ++[])++[(f,.op true A B),(x,A)])).bind λC=>if kU C B then some (.op true A B) else none else none)=some T
    rw[iP hc,List.append_nil,JM,hΔ1.binds,Option.bind_some,hΔ1.type,Option.bind_some];exact h
  ·cases h
theorem afB {ag:List ai} {Γ:Sc} {T:Ty} (hu:TU ag e) (hm:(aZ ag e n).2.2<=1000) (h:bA e Γ=some T):bA (mX ag e n) Γ=some T:=by
 obtain⟨Δ,hΔ⟩:=made ag e n Γ T hu hm h
 unfold mX
 rw[JM,hΔ.binds,Option.bind_some,hΔ.type]
/-! ### Atoms of a form -/
mutual
def lM:aq->List ai->List ai
 | .mk a ps,l=>if a≠[] then(if a∈l then l else l++[a]) else py ps l
def py:List aq->List ai->List ai
 |[],l=>l
 |t::ts,l=>py ts (lM t l)
end
theorem TX (t:aq) (l:List ai):lM t l=if t.aw≠[] then(if t.aw∈l then l else l++[t.aw]) else py t.ak l:=by cases t with|mk a ps=>rw[lM];rfl
theorem afC:∀(xs ys:List aq) (l:List ai),py (xs++ys) l=py ys (py xs l):=by intro x;induction x<;>grind [py]
theorem afD {ps:List aq} {i:Nat} {p:aq} (h:ps[i]?=some p) (l:List ai):py (ps.take (i+1)) l=lM p (py (ps.take i) l):=by
 rw[List.take_add_one,h,afC];rfl
mutual
theorem afE:∀(t:aq) (l:List ai),x∈l->x∈lM t l
 | .mk a ps,l,h=>by
  unfold lM
  split
  ·split
   ·exact h
   ·exact mA.2 (.inl h)
  ·exact Nq ps l h
theorem Nq:∀(ps:List aq) (l:List ai),x∈l->x∈py ps l
 |[],l,h=>h
 |t::ts,l,h=>by unfold py;exact Nq ts _ (afE t l h)
end
mutual
theorem TZ:∀(t:aq) (l:List ai),(lM t l).length<=l.length+fy t
 | .mk a ps,l=>by
  unfold lM fy
  split
  ·split
   ·omega
   ·simp
  ·exact Nr ps l
theorem Nr:∀(ps:List aq) (l:List ai),(py ps l).length<=l.length+jJ ps
 |[],l=>by simp[py,jJ]
 |t::ts,l=>by
  have h1:=TZ t l
  have h2:=Nr ts (lM t l)
  unfold py jJ;omega
end
theorem afF:∀{ps:List aq} {l:List ai} {p:aq},p∈ps->(∀l,x∈lM p l)->x∈py ps l:=by intro x;induction x<;>grind [py,Nq]
theorem JO (hx:x≠[]) (l:List ai):x∈lM (bM x) l:=by grind [lM,bM]
theorem uA {ps:List aq} {p:aq} (hp:p∈ps) (h:∀l,x∈lM p l) (l:List ai):x∈lM (.mk [] ps) l:=by grind [lM,afF]
theorem xA:∀{e:Ex},e.ok->(x∈eV e∨Fv x e)->∀l,x∈lM e.au l
 | .at s,h,hx,l=>by
  rcases hx with hx|⟨rfl,_⟩
  ·simp[eV] at hx
  ·exact JO (p8 h) l
 | .un hd a,h,hx,l=>uA (p:=a.au) sm (xA h.2 hx) l
 | .bi hd a b,h,hx,l=>by
  have ha:(x∈eV a∨Fv x a)∨(x∈eV b∨Fv x b):=by
   rcases hx with hx|hx
   ·rcases mA.1 hx with h|h
    ·exact .inl (.inl h)
    ·exact .inr (.inl h)
   ·rcases hx with h|h
    ·exact .inl (.inr h)
    ·exact .inr (.inr h)
  rcases ha with ha|hb
  ·exact uA (p:=a.au) sm (xA h.2.1 ha) l
  ·exact uA (p:=b.au) sm (xA h.2.2 hb) l
 | .ite a b c,h,hx,l=>by
  have ha:(x∈eV a∨Fv x a)∨(x∈eV b∨Fv x b)∨(x∈eV c∨Fv x c):=by
   rcases hx with hx|hx
   ·rcases mA.1 hx with h|h
    ·exact .inl (.inl h)
    ·rcases mA.1 h with h|h
     ·exact .inr (.inl (.inl h))
     ·exact .inr (.inr (.inl h))
   ·rcases hx with h|h|h
    ·exact .inl (.inr h)
    ·exact .inr (.inl (.inr h))
    ·exact .inr (.inr (.inr h))
  rcases ha with ha|hb|hc
  ·exact uA (p:=a.au) sm (xA h.1 ha) l
  ·exact uA (p:=b.au) sm (xA h.2.1 hb) l
  ·exact uA (p:=c.au) sm (xA h.2.2 hc) l
 | .lt y a b,h,hx,l=>by
  have ha:x=y∨(x∈eV a∨Fv x a)∨(x∈eV b∨Fv x b):=by
   rcases hx with hx|hx
   ·rcases mC.1 hx with h|h
    ·exact .inl h
    ·rcases mA.1 h with h|h
     ·exact .inr (.inl (.inl h))
     ·exact .inr (.inr (.inl h))
   ·rcases hx with h|⟨_,h⟩
    ·exact .inr (.inl (.inr h))
    ·exact .inr (.inr (.inr h))
  rcases ha with rfl|ha|hb
  ·exact uA (p:=bM x) sm (λl=>JO (vR h.1) l) l
  ·exact uA (p:=a.au) sm (xA h.2.1 ha) l
  ·exact uA (p:=b.au) sm (xA h.2.2 hb) l
 | .fn f y A B e,h,hx,l=>by
  obtain⟨hf,hy,_,_,_,he⟩:=h
  have ha:x=f∨x=y∨(x∈eV e∨Fv x e):=by
   rcases hx with hx|hx
   ·rcases mC.1 hx with h|h
    ·exact .inl h
    ·rcases mC.1 h with h|h
     ·exact .inr (.inl h)
     ·exact .inr (.inr (.inl h))
   ·exact .inr (.inr (.inr hx.2.2))
  rcases ha with rfl|rfl|ha
  ·exact uA (p:=bM x) sm (λl=>JO (vR hf) l) l
  ·exact uA (p:=bM x) sm (λl=>JO (vR hy) l) l
  ·exact uA (p:=e.au) sm (xA he ha) l
/-! ### Expressions stay expressions -/
structure JP (r:Bs×Ex×Nat):Prop where
 out:r.2.1.ok
 bs:∀p,p∈r.1->dQ p.1=true∧p.2.ok
theorem JP.aw {ag:List ai} {r:Bs×Ex×Nat} (h:JP r) (hm:(dI ag r).2.2<=1000):JP (dI ag r):=by
 unfold dI at hm⊢
 split
 ·exact h
 ·rename_i eF
  rw[iN eF] at hm
  have hk:dQ (cO cy (bu cy ag r.2.2))=true:=AX de (by dsimp only at hm;omega)
  refine⟨?_,λp hp=>?_⟩
  ·show qL _=true
   unfold qL;rw[hk];simp
  ·rcases mA.1 hp with hp|hp
   ·exact h.bs p hp
   ·simp only[List.mem_singleton] at hp
    subst hp
    exact⟨hk,h.out⟩
theorem JQ:∀{bs:Bs} {e:Ex},(∀p,p∈bs->dQ p.1=true∧p.2.ok)->e.ok->(nest bs e).ok:=by intro x;induction x<;>grind [dQ,Ex.ok,nest]
theorem xB (ag:List ai):∀(e:Ex) (n:Nat),e.ok->(aZ ag e n).2.2<=1000->JP (aZ ag e n)
 | .at s,n,h,_=>⟨h,by simp[aZ]⟩
 | .un hd a,n,h,hm=>by
  have h1:=iA ag a n
  have h2:=qP ag (aZ ag a n)
  simp only[aZ] at hm
  have ha:=(xB ag a n h.2 om).aw hm
  exact⟨⟨h.1,ha.out⟩,ha.bs⟩
 | .bi hd a b,n,h,hm=>by
  have h1:=iA ag a n
  have h2:=qP ag (aZ ag a n)
  have h3:=iA ag b (dI ag (aZ ag a n)).2.2
  have h4:=qP ag (aZ ag b (dI ag (aZ ag a n)).2.2)
  simp only[aZ] at hm
  have ha:=(xB ag a n h.2.1 om).aw (ag:=ag) om
  have hb:=(xB ag b (dI ag (aZ ag a n)).2.2 h.2.2 om).aw (ag:=ag) hm
  exact⟨⟨h.1,ha.out,hb.out⟩,λp hp=>(mA.1 hp).elim (ha.bs p) (hb.bs p)⟩
 | .ite a b c,n,h,hm=>by
  have h1:=iA ag a n
  have h2:=qP ag (aZ ag a n)
  have h3:=iA ag b (dI ag (aZ ag a n)).2.2
  have h4:=iA ag c (aZ ag b (dI ag (aZ ag a n)).2.2).2.2
  simp only[aZ] at hm
  have ha:=(xB ag a n h.1 om).aw (ag:=ag) om
  have hb:=xB ag b (dI ag (aZ ag a n)).2.2 h.2.1 om
  have hc:=xB ag c (aZ ag b (dI ag (aZ ag a n)).2.2).2.2 h.2.2 hm
  exact⟨⟨ha.out,JQ hb.bs hb.out,JQ hc.bs hc.out⟩,ha.bs⟩
 | .lt x a b,n,h,hm=>by
  have h1:=iA ag a n
  have h3:=iA ag b (aZ ag a n).2.2
  simp only[aZ] at hm
  have ha:=xB ag a n h.2.1 om
  have hb:=xB ag b (aZ ag a n).2.2 h.2.2 hm
  refine⟨hb.out,λp hp=>?_⟩
  rcases mA.1 hp with hp|hp
  ·exact ha.bs p hp
  ·rcases mC.1 hp with rfl|hp
   ·exact⟨h.1,ha.out⟩
   ·exact hb.bs p hp
 | .fn f x A B e,n,h,hm=>by
  obtain⟨hf,hx,dN,hA,hB,he⟩:=h
  simp only[aZ] at hm
  have ha:=xB ag e n he hm
  exact⟨⟨hf,hx,dN,hA,hB,JQ ha.bs ha.out⟩,by simp[aZ]⟩
def qe (bs:Bs):Nat:=(bs.map λp=>2+p.2.n).sum
theorem T0 (a b:Bs):qe (a++b)=qe a+qe b:=by grind [qe]
theorem T1 (p:ai×Ex) (b:Bs):qe (p::b)=2+p.2.n+qe b:=by simp[qe]
theorem Ns (bs:Bs) (e:Ex):(nest bs e).n=qe bs+e.n:=by induction bs<;>grind [nest,Ty.n,Ex.n,qe]
theorem JR (ag:List ai) (r:Bs×Ex×Nat):qe (dI ag r).1+(dI ag r).2.1.n<=qe r.1+r.2.1.n+3:=by grind [qe,dI,Ty.n,Ex.n]
theorem vS (ag:List ai):∀(e:Ex) (n:Nat),qe (aZ ag e n).1+(aZ ag e n).2.1.n+3<=4*e.n
 | .at s,n=>by simp[aZ,qe,Ex.n]
 | .un hd a,n=>by
  have:=vS ag a n
  have:=JR ag (aZ ag a n)
  simp only[aZ,Ex.n];omega
 | .bi hd a b,n=>by
  have:=vS ag a n
  have:=JR ag (aZ ag a n)
  have:=vS ag b (dI ag (aZ ag a n)).2.2
  have:=JR ag (aZ ag b (dI ag (aZ ag a n)).2.2)
  simp only[aZ,Ex.n,T0];omega
 | .ite a b c,n=>by
  have:=vS ag a n
  have:=JR ag (aZ ag a n)
  have:=vS ag b (dI ag (aZ ag a n)).2.2
  have:=vS ag c (aZ ag b (dI ag (aZ ag a n)).2.2).2.2
  simp only[aZ,Ex.n,Ns];omega
 | .lt x a b,n=>by
  have:=vS ag a n
  have:=vS ag b (aZ ag a n).2.2
  simp only[aZ,Ex.n,T0,T1];omega
 | .fn f x A B e,n=>by
  have:=vS ag e n
  simp only[aZ,Ex.n,Ns]
  rw[show qe ([]:Bs)=0 from rfl];omega
/-! ### The normal form -/
def qQ (e:Ex):Option Ex:=if(bL (cM e [] []) e [] 0).2<=100 then some (bL (cM e [] []) e [] 0).1 else none
def nZ (e:Ex):Option Ex:=(qQ e).bind λp=>if(aZ (lM p.au []) p 0).2.2<=100 then some (mX (lM p.au []) p 0) else none
theorem Nt {p:Ex} (h:e.ok) (hp:qQ e=some p):p.ok:=by
 unfold qQ at hp
 split at hp
 ·cases hp
  exact xr _ e [] 0 h om λs hn _=>hn
 ·cases hp
theorem Nu {q:Ex} (h:e.ok) (hq:nZ e=some q):q.ok:=by
 unfold nZ at hq
 cases hp:qQ e with
 |none=>rw[hp] at hq;cases hq
 |some p=>
  rw[hp,Option.bind_some] at hq
  split at hq
  ·cases hq
   have:=xB (lM p.au []) p 0 (Nt h hp) om
   exact JQ this.bs this.out
  ·cases hq
theorem T2 {q:Ex} {T:Ty} (h:e.ok) (ht:bA e []=some T) (hq:nZ e=some q):bA q []=some T:=by
 unfold nZ at hq
 cases hp:qQ e with
 |none=>rw[hp] at hq;cases hq
 |some p=>
  have EK:=Nt h hp
  rw[hp,Option.bind_some] at hq
  split at hq
  ·rename_i hm
   cases hq
   unfold qQ at hp
   split at hp
   ·rename_i pz
    cases hp
    have noFv:∀s,¬Fv s e:=λs hs=>by have:=qd ht hs;simp[look] at this
    have GY:bA (bL (cM e [] []) e [] 0).1 []=some T:=by
     rw[<-ht]
     exact xu _ e [] 0 [] [] om λs _ hs=>absurd hs (noFv s)
    have noFp:∀s,¬Fv s (bL (cM e [] []) e [] 0).1:=λs hs=>by have:=qd GY hs;simp[look] at this
    refine afB ⟨(xw _ e [] 0).1,λx _=>noFp x,λx hx=>xA EK hx []⟩ om GY
   ·cases hp
  ·cases hq
/-! ### Target types -/
def AZ (x:aq):aq:=.mk [] [bM [101],.mk [] [bM [116],.mk [] [bM [99],bM [118],x],bM [118]]]
def rH:Ty->aq
 | .i=>bM [105]
 | .op false a b=>.mk [] [bM [116],rH a,rH b]
 | .op true a b=>.mk [] [bM [101],.mk [] [bM [116],.mk [] [bM [99],bM [118],rH a,AZ (rH b)],bM [118]]]
def bz (t:Ty):ai:=(rH t).text
def dC (s:ai):ai:=[40,101,32,40,116,32,40,99,32,118,32]++s++[41,32,118,41,41]
theorem uC (c:UInt8) (h:fa c=true):Good (bM [c]):=.aw _ sm (by simp[h])
theorem T3 {x:aq} (h:Good x):Good (AZ x):=by
 refine .list _ sm λp hp=>?_
 simp only[mC,List.not_mem_nil,or_false] at hp
 rcases hp with rfl|rfl
 ·exact uC _ de
 ·refine .list _ sm λp hp=>?_
  simp only[mC,List.not_mem_nil,or_false] at hp
  rcases hp with rfl|rfl|rfl
  ·exact uC _ de
  ·refine .list _ sm λp hp=>?_
   simp only[mC,List.not_mem_nil,or_false] at hp
   rcases hp with rfl|rfl|rfl
   ·exact uC _ de
   ·exact uC _ de
   ·exact h
  ·exact uC _ de
theorem T4 (x:aq):(AZ x).text=dC x.text:=by simp_all[AZ,aq.text,Ty.text,dC,bM,rB,s8,rD,rC]
theorem Nv (s:ai):(dC s).length=s.length+16:=by simp[dC]
theorem T5 (x:aq):(AZ x).depth=max 3 (x.depth+3):=by
 have a0:∀c:UInt8,(bM [c]).depth=0:=λc=>rfl
 unfold AZ
 simp only[aq.depth,aq.depth.deeps,bM];omega
theorem EL:∀t:Ty,Good (rH t)
 | .i=>uC _ de
 | .op false a b=>by
  refine .list _ sm λp hp=>?_
  simp only[mC,List.not_mem_nil,or_false] at hp
  rcases hp with rfl|rfl|rfl
  ·exact uC _ de
  ·exact EL a
  ·exact EL b
 | .op true a b=>by
  refine .list _ sm λp hp=>?_
  simp only[mC,List.not_mem_nil,or_false] at hp
  rcases hp with rfl|rfl
  ·exact uC _ de
  ·refine .list _ sm λp hp=>?_
   simp only[mC,List.not_mem_nil,or_false] at hp
   rcases hp with rfl|rfl|rfl
   ·exact uC _ de
   ·refine .list _ sm λp hp=>?_
    simp only[mC,List.not_mem_nil,or_false] at hp
    rcases hp with rfl|rfl|rfl|rfl
    ·exact uC _ de
    ·exact uC _ de
    ·exact EL a
    ·exact T3 (EL b)
   ·exact uC _ de
theorem T6:bz .i=[105]:=rB sm
theorem T7 (a b:Ty):bz (.op false a b)=[40,116,32]++bz a++[32]++bz b++[41]:=by simp_all[bz,bM,aq.text,Ty.text,rH,rB,s8,rD,rC]
theorem T8 (a b:Ty):bz (.op true a b)=[40,101,32,40,116,32,40,99,32,118,32]++bz a++[32]++dC (bz b)++[41,32,118,41,41]:=by simp_all[bz,dC,bM,aq.text,Ty.text,rH,AZ,rB,s8,rD,rC,T4]
theorem CT:∀t:Ty,(bz t).length+16<=17*t.n
 | .i=>by rw[T6];simp[Ty.n]
 | .op false a b=>by
  have:=CT a;have:=CT b
  rw[T7];simp only[lA,lC,List.length_nil,Ty.n];omega
 | .op true a b=>by
  have:=CT a;have:=CT b
  rw[T8];simp only[lA,lC,List.length_nil,Ty.n,Nv];omega
theorem EM:∀t:Ty,(rH t).depth+3<=3*t.n
 | .i=>by simp[rH,bM,aq.depth,aq.depth.deeps,Ty.n]
 | .op false a b=>by
  have:=EM a;have:=EM b
  have:=a.pos;have:=b.pos
  simp only[rH,aq.depth,aq.depth.deeps,bM,Ty.n];omega
 | .op true a b=>by
  have:=EM a;have:=EM b
  have:=a.pos;have:=b.pos
  have hn:=T5 (rH b)
  simp only[rH,aq.depth,aq.depth.deeps,bM,Ty.n,hn];omega
/-! ### The maker's state -/
structure Tk where
 aJ:ai
 regs:List ai
 loads:Nat
 self:List ai
 sc:List (ai×Nat×Ty)
 expr:Ex
 on:Nat
 aW:ai
 next:Nat
structure Mk where
 blocks:List Bk
 bJ:List Tk
 count:Nat
 wide:Bool
 code:List ai
 types:List ai
abbrev cH:=List (ai×Nat×Ty)
def eH (s:cH):Sc:=s.map λp=>(p.1,p.2.2)
theorem EN (s:cH) (x:ai) (r:Nat) (T:Ty):eH (s++[(x,r,T)])=eH s++[(x,T)]:=by simp[eH]
def kI (s:cH) (x:ai):Nat:=((s.reverse.find? λp=>decide (p.1=x)).map λp=>p.2.1).getD 0
def kt (s:cH) (x:ai):Ty:=(look (eH s) x).getD .i
def Mk.df (m:Mk) (kind:ai):Mk:={m with types:=m.types++[kind],wide:=m.wide||decide (40<m.types.length+1)}
def Mk.cE (m:Mk) (h:ai) (ps:List ai):Mk:={m with code:=m.code++[dW h ps]}
def Mk.lN (m:Mk):Mk:={m with count:=m.count+1}
def Mk.aJ (m:Mk):ai:=98::aU m.count
abbrev JS:ai:=[99,111,110,115,116]
abbrev l6:ai:=[110,101,119]
abbrev ti:ai:=[108,97,98]
abbrev tj:ai:=[112,97,99,107]
abbrev A1:ai:=[111,112,101,110]
abbrev tl:ai:=[103,101,116]
abbrev oa:ai:=[109,111,118]
abbrev A2:ai:=[106,117,109,112]
abbrev GZ:ai:=[122,101,114,111]
abbrev CU:ai:=[109,97,105,110]
abbrev A3:ai:=[101,110,100]
def Ex.aw:Ex->ai
 | .at s=>s
 |_=>[]
theorem Ex.rI (e:Ex):e.au.aw=e.aw:=by cases e<;>rfl
def cm (m:Mk) (s:cH) (a:ai):Mk×Nat:=if dQ a then(m,kI s a) else((m.df [105]).cE JS [aU m.types.length,a],m.types.length)
structure Pk where
 m:Mk
 r:Nat
 w:ai
def pA (m:Mk) (s:cH) (ton:Nat) (aL:List ai) (on aJ kind:ai) (ck:List ai):Pk:=
 let regs:=aL.map (λx=>aU (kI s x))++(if on≠[] then[aU ton] else[])
 let tys:=aL.map (λx=>bz (kt s x))++(if on≠[] then[on] else[])
 let w:=dW [116] tys
 let r:=m.types.length
 let code:=dW [99] (w::ck)
 ⟨(((((((m.df w).cE l6 (aU r::regs)).df code).cE ti [aU (r+1),aJ]).df (dW [116] [code,w])).cE l6 [aU (r+2),aU (r+1),aU r]).df kind).cE tj [aU (r+3),aU (r+2),kind,w],r+3,w⟩
def iF (s:cH) (k:Nat) (aL:List ai) (from_:cH):cH:=from_++(aL.zipIdx).map λp=>(p.1,k+p.2,kt s p.1)
def oH (m:Mk) (s:cH) (f x:ai) (A B:Ty) (e:Ex):Pk:=pA m.lN s 0 (cM (.fn f x A B e) [] []) [] m.aJ (bz (.op true A B)) [bz A,dC (bz B)]
def A4 (s:cH) (f x:ai) (A B:Ty) (e:Ex):cH:=
 (if 0<j9 f e then iF s 3 (cM (.fn f x A B e) [] []) []++[(f,3+(cM (.fn f x A B e) [] []).length+2,.op true A B)] else iF s 3 (cM (.fn f x A B e) [] []) [])++[(x,1,A)]
def A5 (m:Mk) (s:cH) (f x:ai) (A B:Ty) (e:Ex):Tk:=
 ⟨m.aJ,[(oH m s f x A B e).w,bz A,dC (bz B)],(cM (.fn f x A B e) [] []).length,if 0<j9 f e then[bz (.op true A B),(oH m s f x A B e).w] else[],A4 s f x A B e,e,2,dC (bz B),3⟩
def A6 (m:Mk) (s:cH) (f x:ai) (A B:Ty) (e:Ex):Mk×Nat:=
 ({(oH m s f x A B e).m with bJ:=(oH m s f x A B e).m.bJ++[A5 m s f x A B e]},(oH m s f x A B e).r)
def qR (h:ai):ai:=if h=[43] then[97,100,100] else if h=[45] then[115,117,98] else if h=[42] then[109,117,108] else l6
def mY (m:Mk) (s:cH) (kind:Ty):Ex->Mk×Nat
 | .at a=>cm m s a
 | .fn f x A B e=>A6 m s f x A B e
 | .un h a=>
  let p:=cm m s a.aw
  ((p.1.df (bz kind)).cE tl [aU p.1.types.length,aU p.2,if h=rF then[49] else[48]],p.1.types.length)
 | .bi h a b=>
  let p:=cm m s a.aw
  let q:=cm p.1 s b.aw
  ((q.1.df (bz kind)).cE (qR h) [aU q.1.types.length,aU p.2,aU q.2],q.1.types.length)
 | .ite a b _=>
  let p:=cm m s a.aw
  let q:=cm p.1 s b.aw
  ((q.1.df (bz kind)).cE (qR gJ) [aU q.1.types.length,aU p.2,aU q.2],q.1.types.length)
 | .lt x a _=>
  let p:=cm m s x
  let q:=cm p.1 s a.aw
  ((q.1.df (bz kind)).cE (qR gv) [aU q.1.types.length,aU p.2,aU q.2],q.1.types.length)
def oI (m:Mk) (s:cH) (ton:Nat) (aW name:ai) (kind:Ty) (rest:Ex):Pk:=pA m.lN s ton (cM rest [name] []) aW m.aJ (dC (bz kind)) [bz kind]
def JT (m:Mk) (s:cH) (ton:Nat) (aW name:ai) (kind:Ty) (rest:Ex):Tk:=
 ⟨m.aJ,[(oI m s ton aW name kind rest).w,bz kind],(cM rest [name] []).length+1,[],iF s 2 (cM rest [name] []) []++[(name,1,kind)],rest,2+(cM rest [name] []).length,aW,2⟩
def uF (m:Mk) (s:cH) (ton:Nat) (aW name:ai) (kind:Ty) (rest:Ex):Mk×Nat×ai:=
 ({(oI m s ton aW name kind rest).m with bJ:=(oI m s ton aW name kind rest).m.bJ++[JT m s ton aW name kind rest]},(oI m s ton aW name kind rest).r,dC (bz kind))
def tq (m:Mk) (s:Nat):Mk:=
 let r:=m.types.length
 (((((m.df []).cE A1 [aU r,aU s]).df []).cE tl [aU (r+1),aU r,[48]]).df []).cE tl [aU (r+2),aU r,[49]]
def yQ (m:Mk) (f x:Nat) (on:Nat):Mk:=
 let r:=m.types.length
 ((((tq m f).cE oa [[48],aU (r+2)]).cE oa [[49],aU x]).cE oa [[50],aU on]).cE A2 [aU (r+1)]
def yR (m:Mk) (on r:Nat):Mk:=
 let q:=m.types.length
 (((tq m on).cE oa [[48],aU (q+2)]).cE oa [[49],aU r]).cE A2 [aU (q+1)]
structure Goal where
 name:ai
 s:Ex
 rest:Ex
def bH:Ex->Goal
 | .lt x a b=>⟨x,a,b⟩
 |e=>⟨[],e,e⟩
def oc (s:cH) (e:Ex):Ty:=(bA e (eH s)).getD .i
structure At where
 m:Mk
 s:cH
 on:Nat
 aW:ai
def JU (a:At) (g:Goal):At:=
 if g.name≠[] then let c:=uF a.m a.s a.on a.aW g.name (oc a.s g.s) g.rest;⟨c.1,a.s,c.2.1,c.2.2⟩ else a
def ku (a:At) (e:Ex):Mk ⊕ At×Ex:=
 let g:=bH e
 match g.s with
 | .bi h f x=>
  if h=kr then
   let p:=cm a.m a.s f.aw
   let q:=cm p.1 a.s x.aw
   let b:=JU {a with m:=q.1} g
   .inl (yQ b.m p.2 q.2 b.on)
  else
   let p:=mY a.m a.s (oc a.s g.s) g.s
   if g.name=[] then .inl (yR p.1 a.on p.2) else .inr ({a with m:=p.1,s:=a.s++[(g.name,p.2,oc a.s g.s)]},g.rest)
 | .ite c x y=>
  let p:=cm a.m a.s c.aw
  let b:=JU {a with m:=p.1} g
  let aJ:=b.m.aJ
  let m1:=b.m.lN.cE GZ [aU p.2,aJ]
  let br:Tk:=⟨aJ,m1.types,0,[],a.s,x,b.on,b.aW,m1.types.length⟩
  .inr ({b with m:={m1 with bJ:=m1.bJ++[br]}},y)
 |s=>
  let p:=mY a.m a.s (oc a.s s) s
  if g.name=[] then .inl (yR p.1 a.on p.2) else .inr ({a with m:=p.1,s:=a.s++[(g.name,p.2,oc a.s s)]},g.rest)
structure Fr (L:List Nat) (w:World) (L':List Nat) (w':World):Prop where
 aF:aj L w w'
 mem:∀x,x∈L'->x∈L∨w.heap.size<=x
theorem Fr.refl (L:List Nat) (w:World):Fr L w L w:=⟨aj.refl L w,λx hx=>.inl hx⟩
theorem Fr.go {L2:List Nat} (h:Fr L w L1 w1) (k:Fr L1 w1 L2 w2):Fr L w L2 w2:=
 ⟨h.aF.since k.aF h.mem,λx hx=>by
  rcases k.mem x hx with h1|h1
  ·exact h.mem x h1
  ·have:=h.aF.size;right;omega⟩
theorem Fr.ext (h:Fr L w L1 w1) (k:aj [] w1 w2):Fr L w L1 w2:=⟨h.aF.trans k.any,h.mem⟩
theorem Fr.aD (h:Fr L w L1 w1) (k:aj G w1 w2) (hG:∀x,x∈G->x∈L1):Fr L w L1 w2:=⟨h.aF.since (k.mono hG) h.mem,h.mem⟩
theorem Fr.of (k:aj G w w') (hG:∀x,x∈G->x∈L):Fr L w L w':=⟨k.mono hG,λx hx=>.inl hx⟩
theorem Fr.to {L2:List Nat} (h:Fr L w L1 w1) (hL:∀x,x∈L2->x∈L1∨w.heap.size<=x):Fr L w L2 w1:=⟨h.aF,λx hx=>by
 rcases hL x hx with h1|h1
 ·exact h.mem x h1
 ·exact .inr h1⟩
theorem Fr.grow (h:Fr L w L1 w1):Fr L w (w1.heap.size::L1) w1:=h.to λx hx=>by
 rcases mC.1 hx with rfl|hx
 ·exact .inr h.aF.size
 ·exact .inl hx
theorem bP.go {c:C} (h:bP L w v c) (k:Fr L w L' w'):bP L' w' v c:=by
 have h1:bP (L++L') w v c:=h.fresh λx hx=>by
  rcases mA.1 hx with hx|hx
  ·exact .inl hx
  ·exact k.mem x hx
 exact(h1.aF (k.aF.mono λx hx=>List.mem_append_left _ hx)).weaken λx hx=>mR _ hx
theorem cZ.go {cs:List C} (h:cZ L w vs cs) (k:Fr L w L' w'):cZ L' w' vs cs:=cZ.of h.length λ_ _ _ hv hc=>(h.get hv hc).go k
theorem kn.go {cs:List C} (h:kn L w v cs) (k:Fr L w L' w'):kn L' w' v cs:=let⟨vs,e,h⟩:=h;⟨vs,e,h.go k⟩
theorem bC.go {t:aq} (h:bC L w v t) (k:Fr L w L' w'):bC L' w' v t:=kn.go h k
theorem eU.go {t:List aq} (h:eU L w v t) (k:Fr L w L' w'):eU L' w' v t:=bP.go h k
theorem bf.go (h:bf L w v xs) (k:Fr L w L' w'):bf L' w' v xs:=bP.go h k
theorem bf.fresh (h:bf L w v xs) (hL:∀x,x∈L'->x∈L∨w.heap.size<=x):bf L' w v xs:=bP.fresh h hL
theorem bC.fresh {t:aq} (h:bC L w v t) (hL:∀x,x∈L'->x∈L∨w.heap.size<=x):bC L' w v t:=kn.fresh h hL
structure fF (L:List Nat) (w:World) (b off:Nat) (vs:List Value):Prop where
 cells:gH w b off vs
 lt:b<w.heap.size
 out:b∉L
theorem fF.go (h:fF L w b off vs) (k:Fr L w L' w'):fF L' w' b off vs:=
 ⟨λj v hj=>(World.cell?_of_block (k.aF.block b h.lt h.out)).trans (h.cells j v hj),lL h.lt k.aF.size,λhx=>by
  rcases k.mem b hx with h1|h1
  ·exact h.out h1
  ·have:=h.lt;omega⟩
theorem fF.ext (h:fF L w b off vs) (k:aj [] w w'):fF L w' b off vs:=h.go (Fr.of k sm)
theorem fF.aD (h:fF L w b off vs) (k:aj G w w') (hG:∀x,x∈G->x∈L):fF L w' b off vs:=h.go (Fr.of k hG)
/-! ### Tasks -/
def uG (xs:List Nat):List (List C):=xs.map λx:Nat=>[.val (.int .i64 (x:Int))]
def yS (L:List Nat) (w:World) (v:Value) (xs:List Nat):Prop:=bP L w v (.sl 1 (uG xs))
theorem yS.ext {xs:List Nat} (h:yS L w v xs) (k:aj [] w w'):yS L w' v xs:=bP.ext h k
theorem yS.go {xs:List Nat} (h:yS L w v xs) (k:Fr L w L' w'):yS L' w' v xs:=bP.go h k
theorem afG {a:Option Addr} {c i x:Nat} {xs:List Nat} (h:yS L w (.slice a n c) xs) (hi:xs[i]?=some x):
  ∃b off,a=some ⟨b,off,none⟩∧gH w b (off+i*1) [.int .i64 (x:Int)]:=by
 obtain⟨b,off,vs,ha,hb,hL,hl,hc,hr⟩:=An h (show(uG xs)[i]?=some [.val (.int .i64 (x:Int))] by simp[uG,hi])
 match vs,hr with
 |[v],hr=>obtain⟨h1,_⟩:=hr;cases h1;exact⟨b,off,ha,hc⟩
 |[],hr=>exact hr.elim
 |_::_::_,hr=>exact hr.2.elim
def jU (s:cH):List ai:=s.map λp=>p.1
def xC (s:cH):List Nat:=s.map λp=>p.2.1
def pB (s:cH):List ai:=s.map λp=>p.2.2.text
theorem afH (s:cH) (x:ai) (r:Nat) (T:Ty):jU (s++[(x,r,T)])=jU s++[x]:=by simp[jU]
theorem afI (s:cH) (x:ai) (r:Nat) (T:Ty):xC (s++[(x,r,T)])=xC s++[r]:=by simp[xC]
theorem afJ (s:cH) (x:ai) (r:Nat) (T:Ty):pB (s++[(x,r,T)])=pB s++[T.text]:=by simp[pB]
def Tk.enc (t:Tk):List C:=
 [.val (str t.aJ),.sl 1 (fb t.regs),.val (.int .i64 (t.loads:Int)),.sl 1 (fb t.self),.sl 1 (fb (jU t.sc)),.sl 1 (uG (xC t.sc)),.sl 1 (fb (pB t.sc)),.val (str t.expr.au.aw),.sl 2 (da t.expr.au.ak),.val (.int .i64 (t.on:Int)),.val (str t.aW),.val (.int .i64 (t.next:Int))]
structure oJ (L:List Nat) (w:World) (t:Tk) (v1 v3 v4 v5 v6 v8:Value):Prop where
 regs:bf L w v1 t.regs
 self:bf L w v3 t.self
 aL:bf L w v4 (jU t.sc)
 at_:yS L w v5 (xC t.sc)
 types:bf L w v6 (pB t.sc)
 ak:eU L w v8 t.expr.au.ak
def qf (t:Tk) (v1 v3 v4 v5 v6 v8:Value):List Value:=
 [str t.aJ,v1,.int .i64 (t.loads:Int),v3,v4,v5,v6,str t.expr.au.aw,v8,.int .i64 (t.on:Int),str t.aW,.int .i64 (t.next:Int)]
theorem afK {t:Tk} (h:cZ L w vs t.enc):∃v1 v3 v4 v5 v6 v8,vs=qf t v1 v3 v4 v5 v6 v8∧oJ L w t v1 v3 v4 v5 v6 v8:=by
 have hl:=h.length
 unfold Tk.enc at h hl
 match vs,hl,h with
 |[u0,u1,u2,u3,u4,u5,u6,u7,u8,u9,u10,u11],_,h=>
  obtain⟨h0,h1,h2,h3,h4,h5,h6,h7,h8,h9,gi,pC,_⟩:=h
  cases h0;cases h2;cases h7;cases h9;cases gi;cases pC
  exact⟨u1,u3,u4,u5,u6,u8,rfl,h1,h3,h4,h5,h6,h8⟩
theorem oJ.CC {t:Tk} (h:oJ L w t v1 v3 v4 v5 v6 v8):cZ L w (qf t v1 v3 v4 v5 v6 v8) t.enc:=
 ⟨.val _,h.regs,.val _,h.self,h.aL,h.at_,h.types,.val _,h.ak,.val _,.val _,.val _,trivial⟩
theorem oJ.go {t:Tk} (h:oJ L w t v1 v3 v4 v5 v6 v8) (k:Fr L w L' w'):oJ L' w' t v1 v3 v4 v5 v6 v8:=
 ⟨h.regs.go k,h.self.go k,h.aL.go k,h.at_.go k,h.types.go k,h.ak.go k⟩
theorem oJ.ext {t:Tk} (h:oJ L w t v1 v3 v4 v5 v6 v8) (k:aj [] w w'):oJ L w' t v1 v3 v4 v5 v6 v8:=h.go (Fr.of k sm)
theorem oJ.aD {t:Tk} (h:oJ L w t v1 v3 v4 v5 v6 v8) (k:aj G w w') (hG:∀x,x∈G->x∈L):oJ L w' t v1 v3 v4 v5 v6 v8:=h.go (Fr.of k hG)
theorem oJ.grow {t:Tk} (h:oJ L w t v1 v3 v4 v5 v6 v8):oJ (w.heap.size::L) w t v1 v3 v4 v5 v6 v8:=h.go ((Fr.refl L w).grow)
def gX (L:List Nat) (w:World) (T:TypeId) (b:Nat) (t:Tk):Prop:=∃v1 v3 v4 v5 v6 v8,aK w b (qf t v1 v3 v4 v5 v6 v8).toArray T∧oJ L w t v1 v3 v4 v5 v6 v8
theorem gX.ext {T:TypeId} {t:Tk} (h:gX L w T b t) (k:aj [] w w'):gX L w' T b t:=by
 obtain⟨v1,v3,v4,v5,v6,v8,hb,hc⟩:=h
 exact⟨v1,v3,v4,v5,v6,v8,hb.aF k sm,hc.ext k⟩
theorem gX.go {T:TypeId} {t:Tk} (h:gX L w T b t) (k:Fr L w L' w') (kg:aj G w w') (hb:b∉G):gX L' w' T b t:=by
 obtain⟨v1,v3,v4,v5,v6,v8,hB,hc⟩:=h
 exact⟨v1,v3,v4,v5,v6,v8,hB.aF kg hb,hc.go k⟩
/-! ### The maker -/
theorem cG.afL {T:TypeId} (h:cG w T v g xs):jb w T 1 v g (fb xs).length (xs.map λx=>str x):=by rw[po];exact h
structure dL (L:List Nat) (w:World) (T:TypeId) (sz:Nat) (v:Value) (g:Option Nat) (rows:List (List C)):Prop where
 own:∃xs,jb w T sz v g rows.length xs∧cZ L w xs rows.flatten
 row:∀row,row∈rows->row.length=sz
theorem dL.aF {T:TypeId} (h:dL L w T sz v g rows) (k:Fr L w L' w') (kg:aj G w w') (hg:∀x,x∈g.toList->x∉G):dL L' w' T sz v g rows:=by
 obtain⟨xs,h1,h2⟩:=h.own
 exact⟨⟨xs,h1.aF kg (λb hb=>hg b (by simp[hb])),h2.go k⟩,h.row⟩
theorem dL.len {T:TypeId} (h:dL L w T sz v g rows):∃a cap,v= .slice a rows.length cap:=by
 obtain⟨xs,h1,_⟩:=h.own;exact h1.len
theorem dL.lt {T:TypeId} (h:dL L w T sz v g rows):∀x,x∈g.toList->x<w.heap.size:=by
 obtain⟨xs,h1,_⟩:=h.own;intro x hx;exact h1.lt x (by simpa using hx)
theorem dL.rep {T:TypeId} (h:dL L w T sz v g rows) (hL:∀x,x∈g.toList++L'->x∈L∨w.heap.size<=x) (hg:∀x,x∈g.toList->x∉L'):bP L' w v (.sl sz rows):=by
 obtain⟨xs,h1,h2⟩:=h.own
 exact ig.done (L:=L') ⟨h1,h2.fresh hL,h.row,λb hb=>hg b (by simp[hb])⟩
theorem dL.gr {B:Nat} {T:TypeId} (h:dL L w T sz v g rows) (hL:∀x,x∈g.toList->x∈L) (hB:∀b,g=some b->B<=b) (hs:B<=w.heap.size):Gr B [] w T sz v g rows:=by
 obtain⟨xs,h1,h2⟩:=h.own
 exact⟨⟨xs,h1,h2.fresh (λx hx=>.inl (hL x (by simpa using hx))),h.row,sm⟩,hB,sm,hs⟩
theorem Gr.down {B B':Nat} {T:TypeId} (h:Gr B L w T sz v g rows) (hB:B'<=B):Gr B' L w T sz v g rows:=
 ⟨h.own,λb hb=>Nat.le_trans hB (h.low b hb),h.cF,Nat.le_trans hB h.bsz⟩
structure tt where
 M:TypeId
 B:TypeId
 T:TypeId
 S:TypeId
structure gK (τ:tt) (E L:List Nat) (w:World) (b:Nat) (o:Bool) (vb vt vc vy:Value) (gb gt gc gy:Option Nat) (m:Mk):Prop where
 bl:dL L w τ.B 3 vb gb (m.blocks.map Bk.enc)
 ta:dL L w τ.T 12 vt gt (m.bJ.map Tk.enc)
 co:(o=true∧cG w τ.S vc gc m.code)∨(o=false∧gc=none∧bf L w vc m.code)
 ty:cG w τ.S vy gy m.types
 eL:L=E++b::(gb.toList++(gt.toList++(gc.toList++gy.toList)))
 nd:L.Nodup
 cF:∀x,x∈L->x<w.heap.size
section
variable {τ:tt} {E L:List Nat} {w w':World} {b:Nat} {o:Bool} {vb vt vc vy:Value} {gb gt gc gy:Option Nat} {m:Mk}
theorem yT {A B C D E:List Nat} {b x:Nat}:x∈E++b::(A++(B++(C++D)))↔x∈E∨x=b∨x∈A∨x∈B∨x∈C∨x∈D:=by simp
theorem gK.mem (h:gK τ E L w b o vb vt vc vy gb gt gc gy m) {x:Nat}:x∈L↔x∈E∨x=b∨x∈gb.toList∨x∈gt.toList∨x∈gc.toList∨x∈gy.toList:=by
 rw[h.eL];exact yT
theorem gK.apart (h:gK τ E L w b o vb vt vc vy gb gt gc gy m):E.Nodup∧b∉E∧
  (∀x,x∈gb.toList->x∉E∧x≠b)∧(∀x,x∈gt.toList->x∉E∧x≠b∧x∉gb.toList)∧(∀x,x∈gc.toList->x∉E∧x≠b∧x∉gb.toList∧x∉gt.toList)∧
  (∀x,x∈gy.toList->x∉E∧x≠b∧x∉gb.toList∧x∉gt.toList∧x∉gc.toList):=by
 have hn:=h.nd
 rw[h.eL] at hn
 rw[List.nodup_append] at hn
 obtain⟨h1,h2,h3⟩:=hn
 rw[List.nodup_cons] at h2
 obtain⟨h4,h5⟩:=h2
 rw[List.nodup_append] at h5
 obtain⟨h6,h7,h8⟩:=h5
 rw[List.nodup_append] at h7
 obtain⟨h9,gi,pC⟩:=h7
 rw[List.nodup_append] at gi
 obtain⟨kW,pD,EO⟩:=gi
 refine⟨h1,λhb=>h3 b hb b sm rfl,λx hx=>⟨λhe=>h3 x he x (by simp[hx]) rfl,λe=>h4 (by simp[<-e,hx])⟩,λx hx=>⟨λhe=>h3 x he x (by simp[hx]) rfl,λe=>h4 (by simp[<-e,hx]),λhy=>h8 x hy x (by simp[hx]) rfl⟩,
  λx hx=>⟨λhe=>h3 x he x (by simp[hx]) rfl,λe=>h4 (by simp[<-e,hx]),λhy=>h8 x hy x (by simp[hx]) rfl,λhy=>pC x hy x (by simp[hx]) rfl⟩,
  λx hx=>⟨λhe=>h3 x he x (by simp[hx]) rfl,λe=>h4 (by simp[<-e,hx]),λhy=>h8 x hy x (by simp[hx]) rfl,λhy=>pC x hy x (by simp[hx]) rfl,λhy=>EO x hy x hx rfl⟩⟩
theorem Nw (g:Option Nat):g.toList.Nodup:=by cases g<;>simp
theorem afM {A B C D:Option Nat} {F:List Nat} {b:Nat} (h1:F.Nodup) (h2:b∉F) (ha:∀x,x∈A.toList->x∉F∧x≠b) (hb:∀x,x∈B.toList->x∉F∧x≠b∧x∉A.toList) (hc:∀x,x∈C.toList->x∉F∧x≠b∧x∉A.toList∧x∉B.toList) 
  (hd:∀x,x∈D.toList->x∉F∧x≠b∧x∉A.toList∧x∉B.toList∧x∉C.toList):(F++b::(A.toList++(B.toList++(C.toList++D.toList)))).Nodup:=by grind [Nw,List.nodup_append,List.nodup_cons]
theorem gK.swap (h:gK τ E L w b o vb vt vc vy gb gt gc gy m) (k:aj G w w') (hG:∀x,x∈G->x∈L∧x≠b∧x∉E) {gb' gt' gc' gy':Option Nat} 
  (nb:∀x,x∈gb'.toList->x∈gb.toList∨w.heap.size<=x∧x∉gt'.toList∧x∉gc'.toList∧x∉gy'.toList) (nt:∀x,x∈gt'.toList->x∈gt.toList∨w.heap.size<=x∧x∉gb'.toList∧x∉gc'.toList∧x∉gy'.toList)
  (nc:∀x,x∈gc'.toList->x∈gc.toList∨w.heap.size<=x∧x∉gb'.toList∧x∉gt'.toList∧x∉gy'.toList) (ny:∀x,x∈gy'.toList->x∈gy.toList∨w.heap.size<=x∧x∉gb'.toList∧x∉gt'.toList∧x∉gc'.toList):
  Fr L w (E++b::(gb'.toList++(gt'.toList++(gc'.toList++gy'.toList)))) w'∧(E++b::(gb'.toList++(gt'.toList++(gc'.toList++gy'.toList)))).Nodup:=by
 obtain⟨a1,a2,a3,a4,a5,a6⟩:=h.apart
 have dY:∀x,x∈E∨x=b->x<w.heap.size:=λx hx=>h.cF x (h.mem.2 (by rcases hx with hx|hx<;>simp[hx]))
 have od:∀x,w.heap.size<=x->x∉E∧x≠b:=λx hx=>⟨λhe=>by have:=dY x (.inl he);omega,λe=>by have:=dY x (.inr e);omega⟩
 refine⟨⟨k.mono λx hx=>(hG x hx).1,λx hx=>?_⟩,afM a1 a2 (λx hx=>?_) (λx hx=>?_) (λx hx=>?_) (λx hx=>?_)⟩
 ·rw[yT] at hx
  rcases hx with hx|hx|hx|hx|hx|hx
  ·exact .inl (h.mem.2 (.inl hx))
  ·exact .inl (h.mem.2 (.inr (.inl hx)))
  ·rcases nb x hx with h1|h1
   ·exact .inl (h.mem.2 (by simp[h1]))
   ·exact .inr h1.1
  ·rcases nt x hx with h1|h1
   ·exact .inl (h.mem.2 (by simp[h1]))
   ·exact .inr h1.1
  ·rcases nc x hx with h1|h1
   ·exact .inl (h.mem.2 (by simp[h1]))
   ·exact .inr h1.1
  ·rcases ny x hx with h1|h1
   ·exact .inl (h.mem.2 (by simp[h1]))
   ·exact .inr h1.1
 ·rcases nb x hx with h1|h1
  ·exact a3 x h1
  ·exact od x h1.1
 ·rcases nt x hx with h1|h1
  ·refine⟨(a4 x h1).1,(a4 x h1).2.1,λhb=>?_⟩
   rcases nb x hb with h2|h2
   ·exact(a4 x h1).2.2 h2
   ·exact h2.2.1 hx
  ·exact⟨(od x h1.1).1,(od x h1.1).2,h1.2.1⟩
 ·rcases nc x hx with h1|h1
  ·refine⟨(a5 x h1).1,(a5 x h1).2.1,λhb=>?_,λhb=>?_⟩
   ·rcases nb x hb with h2|h2
    ·exact(a5 x h1).2.2.1 h2
    ·exact h2.2.2.1 hx
   ·rcases nt x hb with h2|h2
    ·exact(a5 x h1).2.2.2 h2
    ·exact h2.2.2.1 hx
  ·exact⟨(od x h1.1).1,(od x h1.1).2,h1.2.1,h1.2.2.1⟩
 ·rcases ny x hx with h1|h1
  ·refine⟨(a6 x h1).1,(a6 x h1).2.1,λhb=>?_,λhb=>?_,λhb=>?_⟩
   ·rcases nb x hb with h2|h2
    ·exact(a6 x h1).2.2.1 h2
    ·exact h2.2.2.2 hx
   ·rcases nt x hb with h2|h2
    ·exact(a6 x h1).2.2.2.1 h2
    ·exact h2.2.2.2 hx
   ·rcases nc x hb with h2|h2
    ·exact(a6 x h1).2.2.2.2 h2
    ·exact h2.2.2.2 hx
  ·exact⟨(od x h1.1).1,(od x h1.1).2,h1.2.1,h1.2.2.1,h1.2.2.2⟩
theorem gK.JV (h:gK τ E L w b o vb vt vc vy gb gt gc gy m) {x:Nat} (hx:x∈gb.toList∨x∈gt.toList∨x∈gc.toList∨x∈gy.toList):x<w.heap.size:=h.cF x (h.mem.2 (by simp only[hx,or_true]))
theorem cG.lt {w:World} {T:TypeId} (h:cG w T v g xs):∀x,x∈g.toList->x<w.heap.size:=λx hx=>jb.lt h x (by simpa using hx)
theorem gK.Nx (h:gK τ E L w b o vb vt vc vy gb gt gc gy m) {ys:List ai} (hy:cG w' τ.S v g ys) (k:aj gy.toList w w') (hg:∀x,g=some x->gy=some x∨w.heap.size<=x):
  ∃L',gK τ E L' w' b o vb vt vc v gb gt gc g {m with types:=ys}∧Fr L w L' w':=by
 obtain⟨a1,a2,a3,a4,a5,a6⟩:=h.apart
 have kT:∀x,x∈g.toList->x∈gy.toList∨w.heap.size<=x∧x∉gb.toList∧x∉gt.toList∧x∉gc.toList:=λx hx=>by
  rcases hg x (by simpa using hx) with h1|h1
  ·exact .inl (by simp[h1])
  ·refine .inr ⟨h1,λhh=>?_,λhh=>?_,λhh=>?_⟩<;>have:=h.JV (x:=x) (by simp[hh])<;>omega
 obtain⟨hF,hN⟩:=h.swap k (λx hx=>⟨h.mem.2 (by simp[hx]),(a6 x hx).2.1,(a6 x hx).1⟩) (gb':=gb) (gt':=gt) (gc':=gc) (gy':=g) (λx hx=>.inl hx) (λx hx=>.inl hx) (λx hx=>.inl hx) kT
 refine⟨_,⟨h.bl.aF hF k (λx hx hy=>(a6 x hy).2.2.1 hx),h.ta.aF hF k (λx hx hy=>(a6 x hy).2.2.2.1 hx),?_,hy,rfl,hN,?_⟩,hF⟩
 ·rcases h.co with⟨ho,h1⟩|⟨ho,hn,h1⟩
  ·exact .inl ⟨ho,h1.aF k λx hx hy=>(a6 x hy).2.2.2.2 (by simp[hx])⟩
  ·exact .inr ⟨ho,hn,h1.go hF⟩
 ·intro x hx
  rw[yT] at hx
  have hs:=k.size
  rcases hx with hx|hx|hx|hx|hx|hx
  ·exact lL (h.cF x (h.mem.2 (by simp[hx]))) hs
  ·exact lL (h.cF x (h.mem.2 (by simp[hx]))) hs
  ·exact lL (h.cF x (h.mem.2 (by simp[hx]))) hs
  ·exact lL (h.cF x (h.mem.2 (by simp[hx]))) hs
  ·exact lL (h.cF x (h.mem.2 (by simp[hx]))) hs
  ·exact hy.lt x hx
theorem gK.JW (h:gK τ E L w b o vb vt vc vy gb gt gc gy m) {ys:List ai} (hy:cG w' τ.S v g ys) (k:aj gc.toList w w') (hg:∀x,g=some x->gc=some x∨w.heap.size<=x):
  ∃L',gK τ E L' w' b true vb vt v vy gb gt g gy {m with code:=ys}∧Fr L w L' w':=by
 obtain⟨a1,a2,a3,a4,a5,a6⟩:=h.apart
 have kT:∀x,x∈g.toList->x∈gc.toList∨w.heap.size<=x∧x∉gb.toList∧x∉gt.toList∧x∉gy.toList:=λx hx=>by
  rcases hg x (by simpa using hx) with h1|h1
  ·exact .inl (by simp[h1])
  ·refine .inr ⟨h1,λhh=>?_,λhh=>?_,λhh=>?_⟩<;>have:=h.JV (x:=x) (by simp[hh])<;>omega
 obtain⟨hF,hN⟩:=h.swap k (λx hx=>⟨h.mem.2 (by simp[hx]),(a5 x hx).2.1,(a5 x hx).1⟩) (gb':=gb) (gt':=gt) (gc':=g) (gy':=gy) (λx hx=>.inl hx) (λx hx=>.inl hx) kT (λx hx=>.inl hx)
 refine⟨_,⟨h.bl.aF hF k (λx hx hy=>(a5 x hy).2.2.1 hx),h.ta.aF hF k (λx hx hy=>(a5 x hy).2.2.2 hx),.inl ⟨rfl,hy⟩,h.ty.aF k λx hx hy=>(a6 x (by simp[hx])).2.2.2.2 hy,rfl,hN,?_⟩,hF⟩
 intro x hx
 rw[yT] at hx
 have hs:=k.size
 rcases hx with hx|hx|hx|hx|hx|hx
 ·exact lL (h.cF x (h.mem.2 (by simp[hx]))) hs
 ·exact lL (h.cF x (h.mem.2 (by simp[hx]))) hs
 ·exact lL (h.cF x (h.mem.2 (by simp[hx]))) hs
 ·exact lL (h.cF x (h.mem.2 (by simp[hx]))) hs
 ·exact hy.lt x hx
 ·exact lL (h.cF x (h.mem.2 (by simp[hx]))) hs
theorem afN (t:Tk) (h1:v1.oneCell'=true) (h3:v3.oneCell'=true) (h4:v4.oneCell'=true) (h5:v5.oneCell'=true) (h6:v6.oneCell'=true) (h8:v8.oneCell'=true):(qf t v1 v3 v4 v5 v6 v8).all Value.oneCell'=true:=by
 simp only[qf,List.all_cons,h1,h3,h4,h5,h6,h8];rfl
theorem EP {L:List Nat} {w:World} (h:bP L w v (.sl sz rows)):v.oneCell'=true:=by cases h<;>rfl
theorem oJ.one {t:Tk} (h:oJ L w t v1 v3 v4 v5 v6 v8):(qf t v1 v3 v4 v5 v6 v8).all Value.oneCell'=true:=afN t (EP h.regs) (EP h.self) (EP h.aL) (EP h.at_) (EP h.types) (EP h.ak)
theorem gK.aF (h:gK τ E L w b o vb vt vc vy gb gt gc gy m) (k:aj G w w') (hG:∀x,x∈G->x∈b::E):gK τ E L w' b o vb vt vc vy gb gt gc gy m:=by
 obtain⟨a1,a2,a3,a4,a5,a6⟩:=h.apart
 have oK:∀x,x∈G->x∈L:=λx hx=>h.mem.2 (by rcases mC.1 (hG x hx) with h1|h1<;>simp[h1])
 have hF:Fr L w L w':=Fr.of k oK
 have out:∀x,x∉E->x≠b->x∉G:=λx h1 h2 h3=>by
  rcases mC.1 (hG x h3) with h4|h4
  ·exact h2 h4
  ·exact h1 h4
 refine⟨h.bl.aF hF k (λx hx=>out x (a3 x hx).1 (a3 x hx).2),h.ta.aF hF k (λx hx=>out x (a4 x hx).1 (a4 x hx).2.1),?_,h.ty.aF k (λx hx=>out x (a6 x (by simp[hx])).1 (a6 x (by simp[hx])).2.1),h.eL,h.nd,λx hx=>lL (h.cF x hx) k.size⟩
 rcases h.co with⟨ho,h1⟩|⟨ho,hn,h1⟩
 ·exact .inl ⟨ho,h1.aF k λx hx=>out x (a5 x (by simp[hx])).1 (a5 x (by simp[hx])).2.1⟩
 ·exact .inr ⟨ho,hn,h1.go hF⟩
theorem gK.ext (h:gK τ E L w b o vb vt vc vy gb gt gc gy m) (k:aj [] w w'):gK τ E L w' b o vb vt vc vy gb gt gc gy m:=h.aF k sm
theorem gK.drop {x:Nat} (h:gK τ (x::E) L w b o vb vt vc vy gb gt gc gy m):∃L',L=x::L'∧gK τ E L' w b o vb vt vc vy gb gt gc gy m:=by
 have oK:∀y,y∈E++b::(gb.toList++(gt.toList++(gc.toList++gy.toList)))->y∈L:=λy hy=>by rw[h.eL];simp only[List.cons_append,mC];exact .inr hy
 have hF:Fr L w (E++b::(gb.toList++(gt.toList++(gc.toList++gy.toList)))) w:=(Fr.refl L w).to λy hy=>.inl (oK y hy)
 have ji:=h.nd
 rw[h.eL,List.cons_append,List.nodup_cons] at ji
 refine⟨_,h.eL,⟨h.bl.aF hF (aj.refl [] w) sm,h.ta.aF hF (aj.refl [] w) sm,?_,h.ty,rfl,ji.2,λy hy=>h.cF y (oK y hy)⟩⟩
 rcases h.co with⟨ho,h1⟩|⟨ho,hn,h1⟩
 ·exact .inl ⟨ho,h1⟩
 ·exact .inr ⟨ho,hn,h1.go hF⟩
def mkV (m:Mk) (vb vt vc vy:Value):List Value:=[vb,vt,.int .i64 (m.count:Int),.bool m.wide,vc,vy]
def dK (τ:tt) (E L:List Nat) (w:World) (b:Nat) (o:Bool) (m:Mk):Prop:=∃vb vt vc vy gb gt gc gy,aK w b (mkV m vb vt vc vy).toArray τ.M∧gK τ E L w b o vb vt vc vy gb gt gc gy m
theorem dK.ext (h:dK τ E L w b o m) (k:aj [] w w'):dK τ E L w' b o m:=by
 obtain⟨vb,vt,vc,vy,gb,gt,gc,gy,h1,h2⟩:=h
 exact⟨vb,vt,vc,vy,gb,gt,gc,gy,h1.aF k sm,h2.ext k⟩
theorem dK.aF (h:dK τ E L w b o m) (k:aj G w w') (hG:∀x,x∈G->x∈E):dK τ E L w' b o m:=by
 obtain⟨vb,vt,vc,vy,gb,gt,gc,gy,h1,h2⟩:=h
 exact⟨vb,vt,vc,vy,gb,gt,gc,gy,h1.aF k (λhx=>h2.apart.2.1 (hG b hx)),h2.aF k (λx hx=>mK _ (hG x hx))⟩
theorem dK.drop {x:Nat} (h:dK τ (x::E) L w b o m):∃L',L=x::L'∧dK τ E L' w b o m:=by
 obtain⟨vb,vt,vc,vy,gb,gt,gc,gy,h1,h2⟩:=h
 obtain⟨L',e,h3⟩:=h2.drop
 exact⟨L',e,vb,vt,vc,vy,gb,gt,gc,gy,h1,h3⟩
theorem dK.mem (h:dK τ E L w b o m):(∀x,x∈b::E->x∈L)∧E.Nodup∧b∉E∧∀x,x∈L->x<w.heap.size:=by
 obtain⟨vb,vt,vc,vy,gb,gt,gc,gy,h1,h2⟩:=h
 obtain⟨a1,a2,_⟩:=h2.apart
 exact⟨λx hx=>h2.mem.2 (by rcases mC.1 hx with h|h<;>simp[h]),a1,a2,h2.cF⟩
end
inductive It where
 |v (V:Value)
 |p (f:Value->World->Prop)
def It.F:It->Value->World->Prop
 | .v V=>λv _=>v=V
 | .p f=>f
def It.Ha:It->Bool
 | .v _=>true
 | .p _=>false
def dq (its:List It) (ds:List Nat) (w:World):List Nat->(List (Nat×Value)->Prop)->Prop
 |[],k=>k []
 |j::r,k=>match its.getD j (.p λ_ _=>True) with
  | .v V=>dq its ds w r λacc=>k ((ds.getD j 0,V)::acc)
  | .p f=>∀v,f v w->dq its ds w r λacc=>k ((ds.getD j 0,v)::acc)
theorem JX {its:List It} {ds:List Nat} {vs:Nat->Value}:∀{deps:List Nat} {k:List (Nat×Value)->Prop},dq its ds w deps k->(∀j,j∈deps->p5 (its.map It.F) j (vs j) w)->k (ui ds vs deps)
 |[],k,h,_=>h
 |j::r,k,h,hd=>by
  have hj:=hd j (List.mem_cons_self ..)
  unfold dq at h
  have hp:((its.getD j (.p λ_ _=>True)).F) (vs j) w:=by
   unfold p5 at hj
   rw[gG] at hj⊢
   rw[List.getElem?_map] at hj
   cases e:its[j]? with
   |none=>trivial
   |some q=>rw[e] at hj;exact hj
  cases e:its.getD j (.p λ_ _=>True) with
  |v V=>
   rw[e] at h hp
   have hv:vs j=V:=hp
   subst hv
   exact JX (deps:=r) h λi hi=>hd i (mK _ hi)
  |p f=>
   rw[e] at h hp
   exact JX (deps:=r) (h _ hp) λi hi=>hd i (mK _ hi)
theorem T9 {F:List (Value->World->Prop)} {vs:Nat->Value}:∀{l:List Nat},Gk F vs w l->∀j,j∈l->p5 F j (vs j) w
 |[],_,j,h=>by cases h
 |[i],h,j,hj=>by rw[List.mem_singleton] at hj;subst hj;exact h
 |i::a::l,h,j,hj=>by
  rcases mC.1 hj with e|hj
  ·subst e;exact h.1
  ·exact T9 h.2 j hj
def Hb (P:Program) (n:Nat) (ops:Array Oper) (W ds:List Nat) (its:List It) (e0:Env) (w0:World) (k:Nat) (o:Oper) (deps:List Nat):Prop:=
 ∀(x:Env) (w:World),aj [] w0 w->dq its ds w deps λacc=>OW P n ops (λe' w'=>aj [] w w'∧(its.getD k (.p λ_ _=>True)).F (e' (ds.getD k 0)) w'∧eA [ds.getD k 0] (bo (bm W x e0) acc) e') [o] (bo (bm W x e0) acc) w
def rJ (P:Program) (n:Nat) (ops:Array Oper) (W ds:List Nat) (its:List It) (e0:Env) (w0:World):Nat->List Oper->List (List Nat)->Prop
 |_,[],_=>True
 |_,_::_,[]=>True
 |k,o::l,d::r=>Hb P n ops W ds its e0 w0 k o d∧rJ P n ops W ds its e0 w0 (k+1) l r
theorem vc {P:Program} {ops:Array Oper} {ds:List Nat} {its:List It} {d:List Nat} (h:Hb P n ops W ds its e0 w0 k o d) (hr:rJ P n ops W ds its e0 w0 (k+1) l r):rJ P n ops W ds its e0 w0 k (o::l) (d::r):=⟨h,hr⟩
theorem Ua {P:Program} {ops:Array Oper} {ds:List Nat} {its:List It}:∀(l:List Oper) (deps:List (List Nat)) (k:Nat),rJ P n ops W ds its e0 w0 k l deps->Cu (aj []) P n ops W ds (its.map It.F) e0 w0 k l deps
 |[],_,_,_=>trivial
 |_::_,[],_,_=>trivial
 |o::l,d::r,k,h=>by
  refine⟨λx vs w e hk hd he=>?_,Ua l r (k+1) h.2⟩
  have:=JX (h.1 x w hk) (vs:=vs) (T9 hd)
  subst he
  have e2:p5 (its.map It.F) k=(its.getD k (.p λ_ _=>True)).F:=by
   unfold p5
   rw[gG,gG,List.getElem?_map]
   cases its[k]?<;>rfl
  rw[e2]
  exact this
def Hc:List It->Prop
 |[]=>True
 | .v _::r=>Hc r
 | .p f::r=>(∀v w w',f v w->aj [] w w'->f v w')∧Hc r
theorem Ny:∀{its:List It},Hc its->uj (aj []) (its.map It.F)
 |[],_=>trivial
 | .v _::r,h=>⟨λv w w' e _=>e,Ny (its:=r) h⟩
 | .p f::r,h=>⟨h.1,Ny (its:=r) h.2⟩
theorem Ub:∀{its:List It},its.all It.Ha=true->Hc its
 |[],_=>trivial
 | .v _::r,h=>Ub (its:=r) (by simpa[It.Ha] using h)
 | .p f::r,h=>by simp[It.Ha] at h
section
variable {P:Program} {n:Nat} {l:List Oper} {m:Nat} {W ds:List Nat} {deps:List (List Nat)}
theorem vT {N R:Env->World->Prop} {X:Nat->Env->World->Prop} {id:Nat} {e0:Env} {w0:World} (hm:P.follows .mixedOrders=true) (m:Nat) (W ds:List Nat) (deps:List (List Nat)) (its:List It) 
  (hB:vA l m W ds deps=true) (hS:Hc its)
  (hc:∀wd,aj [] w0 wd->rJ P n l.toArray W ds its e0 wd 0 (l.take m) deps)
  (ht:∀(x:Env) (w:World),aj [] w0 w->dq its ds w (List.range m) λacc=>OW P n l.toArray N (l.drop m) (bo (bm W x e0) acc) w):
  CW P n (.region id l.toArray true) N R X e0 w0:=
 Ax hm mz m W ds deps (its.map It.F) hB (Ny hS) (λwd hk=>Ua _ _ _ (hc wd hk)) λx vs w hk Ms=>
  JX (ht x w hk) (vs:=vs) λj hj=>Ms j (List.mem_range.1 hj)
theorem lh {N R:Env->World->Prop} {X:Nat->Env->World->Prop} {id:Nat} {e0:Env} {w0:World} (hm:P.follows .mixedOrders=true) (m:Nat) (W ds:List Nat) (deps:List (List Nat)) (its:List It) 
  (hB:vA l m W ds deps=true) (hS:its.all It.Ha=true)
  (hc:∀wd,aj [] w0 wd->rJ P n l.toArray W ds its e0 wd 0 (l.take m) deps)
  (ht:∀(x:Env) (w:World),aj [] w0 w->dq its ds w (List.range m) λacc=>OW P n l.toArray N (l.drop m) (bo (bm W x e0) acc) w):
  CW P n (.region id l.toArray true) N R X e0 w0:=vT hm m W ds deps its hB (Ub hS) hc ht
end
section
variable {P:Program} {n:Nat} {ops:Array Oper} {e:Env} {w w':World}
theorem pv (h:v=V:=by rfl):OW P n ops (λe' w'=>aj [] w w'∧(It.v V).F (e' d) w'∧eA [d] e e') [] (bQ e (some d) v) w:=
 aV ⟨aj.refl _ _,by subst h;exact nU _ _ _,rv⟩
theorem pk (k:aj [] w w') (h:v=V:=by rfl):OW P n ops (λe' w'=>aj [] w w'∧(It.v V).F (e' d) w'∧eA [d] e e') [] (bQ e (some d) v) w':=
 aV ⟨k,by subst h;exact nU _ _ _,rv⟩
theorem pf {f:Value->World->Prop} (k:aj [] w w') (h:f v w'):OW P n ops (λe' w'=>aj [] w w'∧(It.p f).F (e' d) w'∧eA [d] e e') [] (bQ e (some d) v) w':=
 aV ⟨k,by show f (ir e d v d) w';rw[nU];exact h,rv⟩
end
section
variable {P:Program} {n:Nat} {N R:Env->World->Prop} {X:Nat->Env->World->Prop} {e0:Env} {w:World}
theorem ER {c:Code} (ds:List Nat) (outs:List (Nat×Value)) (h:CW P n c (λe' w'=>eA ds e0 e'∧Holds outs e'∧aj [] w w') R X e0 w) 
  (k:∀x w',aj [] w w'->N (bo (bm ds x e0) outs) w'):CW P n c N R X e0 w:=
 h.mono (λe' w' ⟨ha,ho,hk⟩=>by have:=k e' w' hk;rw[yJ ha,I7 ho] at this;exact this) (λ_ _ h=>h) (λ_ _ _ h=>h)
end
theorem kE {p q r:Prop} (k:r) (h:p:=by repeat(first|with_reducible exact yI|refine Jh rfl ?_|refine Mh rfl ?_)) (h2:q:=by repeat' (first|rfl|(rw[iX];rfl)|(rw[mZ];rfl)|constructor)):p∧q∧r:=⟨h,h2,k⟩
section
variable {P:Program} {n:Nat} {l:List Oper} {m:Nat} {W ds:List Nat} {deps:List (List Nat)}
theorem Uc {N:Env->World->Prop} {Inv:(Nat->Bool)->Env->World->Prop} (hB:vA l m W ds deps=true) 
  (step:∀(S:Nat->Bool) (e:Env) (w:World) (i:Nat) (o:Oper),i<m->l[i]?=some o->S i=false->(∀j,waits o j=true->S j=true)->Inv S e w->
   OW P n l.toArray (λe' w'=>Inv (λj=>if j=i then true else S j) e' w') [o] e w)
  (tail:∀(S:Nat->Bool) (e:Env) (w:World),(∀i,i<m->S i=true)->Inv S e w->OW P n l.toArray N (l.drop m) e w) (Q:Exit->Act->World->Prop):
  ∀(fuel:Nat) (listed:Array Bool) (e:Env) (a:Act) (w:World),Fits n e a->listed.size=l.length->
   ((List.range l.length).filter λj=>!listed.getD j true).length=fuel->
   (∀j,m<=j->j<l.length->listed.getD j true=false)->Inv (λj=>listed.getD j false) e w->Ji l listed->
   wpAny P .any l.toArray (pY n N Q) fuel listed a w:=by
 obtain⟨sj,Gm,Mq,ji,nV⟩:=Et hB
 have Aq:∀(listed:Array Bool) (j:Nat),listed.size=l.length->j<l.length->¬listed.getD j true=false->listed.getD j false=true:=λlisted j hs hj h1=>by
  rw[Array.getD_eq_getD_getElem?] at h1⊢
  rw[Array.getElem?_eq_getElem om] at h1⊢
  simpa using h1
 have Gn:∀(listed:Array Bool) (j:Nat),listed.size=l.length->j<l.length->listed.getD j false=true->listed.getD j true=true:=λlisted j hs hj h1=>by
  rw[Array.getD_eq_getD_getElem?] at h1⊢
  rw[Array.getElem?_eq_getElem om] at h1⊢
  simpa using h1
 intro fuel
 induction fuel with
 |zero=>
  intro listed e a w hf hs Cx fL hI ld
  have cC:∀j,j<l.length->listed.getD j true=true:=λj hj=>by
   cases hg:listed.getD j true with
   |true=>rfl
   |false=>
    have:j∈(List.range l.length).filter λj=>!listed.getD j true:=by rw[List.mem_filter,List.mem_range];exact⟨hj,by rw[hg];rfl⟩
    rw[List.length_eq_zero_iff.1 Cx] at this;cases this
  have hm:m=l.length:=by
   rcases Nat.lt_or_ge m l.length with h|h
   ·have:=fL m (lR _) h;rw[cC m h] at this;cases this
   ·omega
  have ht:=tail _ e w (λi hi=>Aq listed i hs om (by rw[cC i om];simp)) hI
  have h2:=ht a hf Q
  exact Jj hB 0 m listed a w (lR _) om hs (λj hj=>⟨λh=>(by rw[cC j hj] at h;cases h),λh=>om⟩) h2
 |succ fuel ih=>
  intro listed e a w hf hs Cx fL hI ld
  by_cases vB:∀j,j<m->listed.getD j true=true
  ·have ht:=tail _ e w (λi hi=>Aq listed i hs om (by rw[vB i hi];simp)) hI
   have h2:=ht a hf Q
   have As:∀j,j<l.length->(listed.getD j true=false↔m<=j):=λj hj=>by
    constructor
    ·intro h
     rcases Nat.lt_or_ge j m with h'|h'
     ·rw[vB j h'] at h;cases h
     ·exact h'
    ·intro h;exact fL j h hj
   have Au:m+(fuel+1)=l.length:=by
    rw[<-Cx]
    have:∀k,k<=l.length->m<=k->((List.range k).filter λj=>!listed.getD j true).length=k-m:=by
     intro k
     induction k with
     |zero=>intro _ h;simp
     |succ k ihk=>
      intro eM sY
      rw[List.range_succ,List.filter_append,lA]
      rcases Nat.lt_or_ge k m with h'|h'
      ·have RO:k+1=m:=by omega
       have hz:((List.range k).filter λj=>!listed.getD j true)=[]:=by
        rw[List.filter_eq_nil_iff]
        intro j hj
        rw[List.mem_range] at hj
        rw[vB j om];simp
       have e1:(!listed.getD k true)=false:=by rw[vB k h'];rfl
       simp only[hz,List.filter_cons,e1,List.filter_nil,List.length_nil]
       simp;omega
      ·rw[ihk om h']
       have e1:(!listed.getD k true)=true:=by rw[(As k om).2 h'];rfl
       simp only[List.filter_cons,e1,List.filter_nil,if_true,lC,List.length_nil]
       omega
    have:=this l.length (lR _) sj
    omega
   exact Jj hB (fuel+1) m listed a w (lR _) Au hs As h2
  ·have hex:∃j,j<m∧listed.getD j true=false∧∀i,i<j->listed.getD i true=true:=by
    have:∀k,(∃j,j<k∧listed.getD j true=false∧∀i,i<j->listed.getD i true=true)∨∀j,j<k->listed.getD j true=true:=by
     intro k
     induction k with
     |zero=>right;intro j hj;omega
     |succ k ihk=>
      rcases ihk with⟨j,hj,h1,h2⟩|h
      ·exact .inl ⟨j,om,h1,h2⟩
      ·cases hg:listed.getD k true with
       |false=>exact .inl ⟨k,om,hg,h⟩
       |true=>
        right
        intro j hj
        rcases Nat.lt_or_ge j k with h'|h'
        ·exact h j h'
        ·rw[show j=k from by omega];exact hg
    rcases this m with h|h
    ·exact h
    ·exact absurd h vB
   obtain⟨j0,Cy,Gp,Gq⟩:=hex
   obtain⟨o0,Gs⟩:∃o,l[j0]?=some o:=⟨l[j0]'om,gE om⟩
   have pg:j0∈Region.ready .any l.toArray listed:=mem_ready.2 ⟨Gp,o0,by simpa using Gs,λed he hb=>by
    have dY:=(nV j0 o0 Gs).1 ed he hb
    exact Aq listed _ hs om (by rw[Gq _ dY];simp)⟩
   refine⟨λhr=>(by rw[hr] at pg;cases pg),λi hi=>?_⟩
   obtain⟨hu,o,ho,cC⟩:=mem_ready.1 hi
   have fX:i<l.length:=by simpa using(Array.getElem?_eq_some_iff.1 ho).1
   have mS:l[i]?=some o:=by simpa using ho
   have ry:i<m:=by
    rcases Nat.lt_or_ge i m with h|h
    ·exact h
    ·have:=Gn listed j0 hs om (Mo ld mS cC ((nV i o mS).2.2 h) (i-j0) j0 om om)
     rw[Gp] at this;cases this
   have uH:listed.getD i false=false:=by
    cases h:listed.getD i false with
    |false=>rfl
    |true=>rw[Gn listed i hs fX h] at hu;cases hu
   have h1:=step (λj=>listed.getD j false) e w i o ry mS uH (λj hj=>by
    obtain⟨ed,he,hb,vC⟩:=Mn hj
    rw[<-vC];exact cC ed he hb) hI
   have h2:=h1 a hf Q
   have next:∀(a':Act) (w':World),pY n (λe' w'=>Inv (λj=>if j=i then true else listed.getD j false) e' w') Q .normal a' w'->
     wpAny P .any l.toArray (pY n N Q) fuel (listed.setIfInBounds i true) a' w':=λa' w' hq=>by
    obtain⟨e',Mr,hI'⟩:=hq
    refine ih _ e' a' w' Mr (by simpa using hs) ?_ ?_ ?_ ?_
    ·have Au:∀k,k<=l.length->((List.range k).filter λj=>!(listed.setIfInBounds i true).getD j true).length+(if i<k then 1 else 0)=((List.range k).filter λj=>!listed.getD j true).length:=by
      intro k
      induction k with
      |zero=>simp
      |succ k ihk=>
       intro eM
       have vD:=ihk om
       rw[List.range_succ,List.filter_append,lA,List.filter_append,lA]
       by_cases vE:i=k
       ·subst vE
        rw[iN om] at vD
        have dY:i<listed.size:=by omega
        have e1:(listed.setIfInBounds i true).getD i true=true:=by simp[Array.getD_eq_getD_getElem?,dY]
        rw[iP om]
        simp only[List.filter_cons,e1,hu,List.filter_nil,Bool.not_true,Bool.not_false,if_true,Bool.false_eq_true,if_false,lC,List.length_nil]
        omega
       ·have e1:(listed.setIfInBounds i true).getD k true=listed.getD k true:=getD_set_ne true vE
        simp only[List.filter_cons,e1,List.filter_nil]
        have hii:(i<k+1)↔(i<k):=by omega
        by_cases pZ:i<k
        ·have c1:i<k+1:=by omega
         rw[iP pZ] at vD;rw[iP c1];split<;>simp only[lC,List.length_nil]<;>omega
        ·have c1:¬i<k+1:=by omega
         rw[iN pZ] at vD;rw[iN c1];split<;>simp only[lC,List.length_nil]<;>omega
     have:=Au l.length (lR _)
     rw[iP fX] at this
     omega
    ·intro j Mt lZ
     rw[getD_set_ne true om];exact fL j Mt lZ
    ·have e1:(λj=>(listed.setIfInBounds i true).getD j false)=λj=>if j=i then true else listed.getD j false:=by
      funext j
      by_cases jS:i=j
      ·subst jS
       have:i<listed.size:=by omega
       simp[Array.getD_eq_getD_getElem?,this]
      ·rw[getD_set_ne false jS,iN (λh=>jS h.symm)]
     rw[e1];exact hI'
    ·intro j oj CA hj e2 mT aR
     have xi:∀x,listed.getD x false=true->(listed.setIfInBounds i true).getD x false=true:=λx hx=>by
      by_cases Gu:i=x
      ·subst Gu
       have:i<listed.size:=by omega
       simp[Array.getD_eq_getD_getElem?,this]
      ·rw[getD_set_ne false Gu];exact hx
     by_cases jS:i=j
     ·subst jS
      rw[mS] at CA;cases CA
      exact xi _ (cC e2 mT aR)
     ·rw[getD_set_ne false jS] at hj
      exact xi _ (ld j oj CA hj e2 mT aR)
   unfold wpOp
   simp only[ho]
   unfold wpList at h2
   by_cases hw:Region.wanted o (yielded l.toArray a.tmps)=true
   ·rw[iP hw] at h2⊢
    rcases h2 with h2|⟨h2,h3⟩
    ·refine .inl (Oper.Mi (λa' w' h'=>next a' w' h') (λ_ _ _ h=>h) (fun⟨a,w,hq⟩=>⟨a,w,hq⟩) h2)
    ·exact .inr ⟨h2,by obtain⟨a',w',hq⟩:=h3;exact⟨a',w',hq⟩⟩
   ·rw[iN hw] at h2⊢
    exact next _ _ h2
inductive Ie where
 |v (V:Value)
 |p (f:List Nat->Value->World->Prop)
 |e (t:Nat)
 |w (t:Nat) (V:Value)
 |q (t:Nat) (f:Value->Prop)
def Ie.F:Ie->List Nat->Value->World->Prop
 | .v V=>λ_ v _=>v=V
 | .p f=>f
 | .e _=>λ_ _ _=>True
 | .w _ V=>λ_ v _=>v=V
 | .q _ f=>λ_ v _=>f v
def Ie.kv:Ie->Option Nat
 | .e t=>some t
 | .w t _=>some t
 | .q t _=>some t
 |_=>none
abbrev mD:Ie:=.p λ_ _ _=>True
def xD (its:List Ie) (ds:List Nat) (G:List Nat) (aT:List Value) (w:World):List Nat->(List (Nat×Value)->Prop)->Prop
 |[],k=>k []
 |j::r,k=>match its.getD j mD with
  | .v V=>xD its ds G aT w r λacc=>k ((ds.getD j 0,V)::acc)
  | .p f=>∀v,f G v w->xD its ds G aT w r λacc=>k ((ds.getD j 0,v)::acc)
  | .e t=>xD its ds G aT w r λacc=>k ((ds.getD j 0,aT.getD t undef)::acc)
  | .w _ V=>xD its ds G aT w r λacc=>k ((ds.getD j 0,V)::acc)
  | .q t f=>∀v,aT.getD t undef=v->f v->xD its ds G aT w r λacc=>k ((ds.getD j 0,v)::acc)
theorem A7 {its:List Ie} {ds:List Nat} {aT:List Value} {vs:Nat->Value}:∀{deps:List Nat} {k:List (Nat×Value)->Prop},xD its ds G aT w deps k->
  (∀j,j∈deps->(its.getD j mD).F G (vs j) w∧∀t,(its.getD j mD).kv=some t->aT.getD t undef=vs j)->k (ui ds vs deps)
 |[],k,h,_=>h
 |j::r,k,h,hd=>by
  obtain⟨hp,he⟩:=hd j (List.mem_cons_self ..)
  unfold xD at h
  have hr:∀i,i∈r->_:=λi hi=>hd i (mK _ hi)
  cases e:its.getD j mD with
  |v V=>
   rw[e] at h hp
   have hv:vs j=V:=hp
   subst hv
   exact A7 (deps:=r) h hr
  |p f=>
   rw[e] at h hp
   exact A7 (deps:=r) (h _ hp) hr
  |e t=>
   rw[e] at h
   have hv:=he t (by rw[e];rfl)
   simp only[hv] at h
   exact A7 (deps:=r) h hr
  |w t V=>
   rw[e] at h hp
   have hv:vs j=V:=hp
   subst hv
   exact A7 (deps:=r) h hr
  |q t f=>
   rw[e] at h hp
   exact A7 (deps:=r) (h _ (he t (by rw[e];rfl)) hp) hr
def eW (G:List Nat) (w:World):Prop:=∀x,x∈G->x<w.heap.size
def JY (P:Program) (n:Nat) (ops:Array Oper) (W ds:List Nat) (its:List Ie) (e0:Env) (G0:List Nat) (w0:World) (i:Nat) (o:Oper) (deps:List Nat):Prop:=
 ∀(x:Env) (w:World) (G:List Nat) (aT:List Value),Fr G0 w0 G w->eW G w->xD its ds G aT w deps λacc=>
  OW P n ops (λe' w'=>aj [] w w'∧(its.getD i mD).F G (e' (ds.getD i 0)) w'∧eA [ds.getD i 0] (bo (bm W x e0) acc) e') [o] (bo (bm W x e0) acc) w
def Ud (P:Program) (n:Nat) (ops:Array Oper) (W ds:List Nat) (its:List Ie) (Js:List (List Nat->List Value->World->Prop)) (e0:Env) (G0:List Nat) (w0:World) (t i:Nat) (o:Oper) (deps:List Nat):Prop:=
 ∀(x:Env) (w:World) (G:List Nat) (aT:List Value),Fr G0 w0 G w->eW G w->Js.getD t (λ_ _ _=>True) G aT w->aT.length=t->xD its ds G aT w deps λacc=>
  OW P n ops (λe' w'=>(∃G',Fr G w G' w'∧eW G' w'∧Js.getD (t+1) (λ_ _ _=>True) G' (aT++[e' (ds.getD i 0)]) w'∧(its.getD i mD).F G' (e' (ds.getD i 0)) w')∧eA [ds.getD i 0] (bo (bm W x e0) acc) e') [o] (bo (bm W x e0) acc) w
def ES (P:Program) (n:Nat) (ops:Array Oper) (W ds:List Nat) (its:List Ie) (Js:List (List Nat->List Value->World->Prop)) (e0:Env) (G0:List Nat) (w0:World) (i:Nat) (o:Oper) (deps:List Nat):Prop:=
 match(its.getD i mD).kv with
 |some t=>Ud P n ops W ds its Js e0 G0 w0 t i o deps
 |none=>JY P n ops W ds its e0 G0 w0 i o deps
def vU (P:Program) (n:Nat) (ops:Array Oper) (W ds:List Nat) (its:List Ie) (Js:List (List Nat->List Value->World->Prop)) (e0:Env) (G0:List Nat) (w0:World):Nat->List Oper->List (List Nat)->Prop
 |_,[],_=>True
 |_,_::_,[]=>True
 |k,o::l,d::r=>ES P n ops W ds its Js e0 G0 w0 k o d∧vU P n ops W ds its Js e0 G0 w0 (k+1) l r
section
variable {P:Program} {n:Nat} {ops:Array Oper} {W ds:List Nat} {its:List Ie} {Js:List (List Nat->List Value->World->Prop)} {e0:Env} {G0:List Nat} {w0:World}
theorem vf {l:List Oper} {d:List Nat} (h:JY P n ops W ds its e0 G0 w0 k o d) (hr:vU P n ops W ds its Js e0 G0 w0 (k+1) l r) (hk:(its.getD k mD).kv=none:=by rfl):vU P n ops W ds its Js e0 G0 w0 k (o::l) (d::r):=
 ⟨by unfold ES;rw[hk];exact h,hr⟩
theorem ve (t:Nat) {l:List Oper} {d:List Nat} (h:Ud P n ops W ds its Js e0 G0 w0 t k o d) (hr:vU P n ops W ds its Js e0 G0 w0 (k+1) l r) (hk:(its.getD k mD).kv=some t:=by rfl):vU P n ops W ds its Js e0 G0 w0 k (o::l) (d::r):=
 ⟨by unfold ES;rw[hk];exact h,hr⟩
theorem Ue:∀(l:List Oper) (deps:List (List Nat)) (k:Nat),vU P n ops W ds its Js e0 G0 w0 k l deps->∀(i:Nat) (o:Oper) (d:List Nat),l[i]?=some o->deps[i]?=some d->ES P n ops W ds its Js e0 G0 w0 (k+i) o d
 |[],_,_,_,i,o,d,h,_=>by simp at h
 |_::_,[],_,_,i,o,d,_,h=>by simp at h
 |o::l,d::r,k,h,0,o',d',ho,hd=>by
  simp at ho hd;subst ho;subst hd;exact h.1
 |o::l,d::r,k,h,i+1,o',d',ho,hd=>by
  have:=Ue l r (k+1) h.2 i o' d' (by simpa using ho) (by simpa using hd)
  rwa [show k+1+i=k+(i+1) by omega] at this
end
def Nz (l:List Oper) (m:Nat) (effs:List Nat) (its:List Ie):Bool:=
 (List.range effs.length).all (λt=>decide (effs.getD t 0<m)&&((its.getD (effs.getD t 0) mD).kv==some t)&&(decide (t=0)||(match l[effs.getD t 0]? with|some o=>waits o (effs.getD (t-1) 0)|none=>false)))&&
 (List.range m).all (λi=>match(its.getD i mD).kv with|some t=>decide (t<effs.length)&&decide (effs.getD t 0=i)|none=>true)
theorem afQ {l:List Oper} {m:Nat} {effs:List Nat} {its:List Ie} (h:Nz l m effs its=true):
  (∀t,t<effs.length->effs.getD t 0<m∧(its.getD (effs.getD t 0) mD).kv=some t∧(t≠0->∃o,l[effs.getD t 0]?=some o∧waits o (effs.getD (t-1) 0)=true))∧
  ∀i t,i<m->(its.getD i mD).kv=some t->t<effs.length∧effs.getD t 0=i:=by
 unfold Nz at h
 rw[aE,List.all_eq_true,List.all_eq_true] at h
 obtain⟨h1,h2⟩:=h
 refine⟨λt ht=>?_,λi t hi he=>?_⟩
 ·have:=h1 t (List.mem_range.2 ht)
  simp only[aE,dE,beq_iff_eq,oE] at this
  obtain⟨⟨a,b⟩,c⟩:=this
  refine⟨a,b,λh0=>?_⟩
  rcases c with c|c
  ·exact absurd c h0
  ·cases hl:l[effs.getD t 0]? with
   |none=>rw[hl] at c;cases c
   |some o=>rw[hl] at c;exact⟨o,rfl,c⟩
 ·have:=h2 i (List.mem_range.2 hi)
  rw[he] at this
  simpa using this
def A8:List Ie->Prop
 |[]=>True
 | .p f::r=>(∀G v w G' w',f G v w->Fr G w G' w'->f G' v w')∧A8 r
 | .v _::r=>A8 r
 | .e _::r=>A8 r
 | .w _ _::r=>A8 r
 | .q _ _::r=>A8 r
theorem ET:∀{its:List Ie},A8 its->∀q,q∈its->∀G v w G' w',q.F G v w->Fr G w G' w'->q.F G' v w'
 | .p f::r,h,q,hq,G,v,w,G',w',hf,hk=>by
  rcases mC.1 hq with e|hq
  ·subst e;exact h.1 _ _ _ _ _ hf hk
  ·exact ET (its:=r) h.2 q hq _ _ _ _ _ hf hk
 | .v V::r,h,q,hq,G,v,w,G',w',hf,hk=>by
  rcases mC.1 hq with e|hq
  ·subst e;exact hf
  ·exact ET (its:=r) h q hq _ _ _ _ _ hf hk
 | .e V::r,h,q,hq,G,v,w,G',w',hf,hk=>by
  rcases mC.1 hq with e|hq
  ·subst e;exact hf
  ·exact ET (its:=r) h q hq _ _ _ _ _ hf hk
 | .w t V::r,h,q,hq,G,v,w,G',w',hf,hk=>by
  rcases mC.1 hq with e|hq
  ·subst e;exact hf
  ·exact ET (its:=r) h q hq _ _ _ _ _ hf hk
 | .q t f::r,h,q,hq,G,v,w,G',w',hf,hk=>by
  rcases mC.1 hq with e|hq
  ·subst e;exact hf
  ·exact ET (its:=r) h q hq _ _ _ _ _ hf hk
theorem Uf {its:List Ie} (h:A8 its) (i:Nat) {G':List Nat} (hf:(its.getD i mD).F G v w) (hk:Fr G w G' w'):(its.getD i mD).F G' v w':=by
 rw[gG] at hf⊢
 cases e:its[i]? with
 |none=>trivial
 |some q=>rw[e] at hf;exact ET h q (List.mem_of_getElem? e) _ _ _ _ _ hf hk
def JZ:List (List Nat->List Value->World->Prop)->Prop
 |[]=>True
 |J::r=>(∀G vs w w',J G vs w->aj [] w w'->J G vs w')∧JZ r
theorem He:∀{Js:List (List Nat->List Value->World->Prop)},JZ Js->∀(k:Nat) {G:List Nat} {vs:List Value} {w w':World},Js.getD k (λ_ _ _=>True) G vs w->aj [] w w'->Js.getD k (λ_ _ _=>True) G vs w'
 |[],_,k,_,_,_,_,_,_=>by simp
 |J::r,h,0,_,_,_,_,hj,hk=>h.1 _ _ _ _ hj hk
 |J::r,h,k+1,_,_,_,_,hj,hk=>by
  have:=He (Js:=r) h.2 k (by simpa using hj) hk
  simpa using this
theorem jw {α:Type} {l:List α} (h:l.length=0):l=[]:=by grind
theorem jx {α:Type} {l:List α} (h:l.length=1):∃a,l=[a]:=List.length_eq_one_iff.1 h
theorem lO {α:Type} {l:List α} (h:l.length=2):∃a b,l=[a,b]:=by
 match l,h with|[a,b],_=>exact⟨a,b,rfl⟩
theorem A9 {α:Type} {l:List α} (h:l.length=3):∃a b c,l=[a,b,c]:=by
 match l,h with|[a,b,c],_=>exact⟨a,b,c,rfl⟩
theorem NA {α:Type} {l:List α} (h:l.length=4):∃a b c d,l=[a,b,c,d]:=by
 match l,h with|[a,b,c,d],_=>exact⟨a,b,c,d,rfl⟩
theorem Ug {α:Type} {l:List α} (h:l.length=5):∃a b c d e,l=[a,b,c,d,e]:=by
 match l,h with|[a,b,c,d,e],_=>exact⟨a,b,c,d,e,rfl⟩
theorem afR {α:Type} {l:List α} (h:l.length=6):∃a b c d e f,l=[a,b,c,d,e,f]:=by
 match l,h with|[a,b,c,d,e,f],_=>exact⟨a,b,c,d,e,f,rfl⟩
theorem Ba {W ds:List Nat} {e:Env} (ha:eA W e0 e) (r:List Nat):bo (bm W e e0) (ui ds (λi=>e (ds.getD i 0)) r)=e:=by
 rw[yJ ha,Gl (by
  intro p hp
  have:∀(r:List Nat),p∈ui ds (λi=>e (ds.getD i 0)) r->e p.1=p.2:=by
   intro r
   induction r with
   |nil=>intro h;cases h
   |cons j r ih=>
    intro h
    rcases mC.1 h with h|h
    ·subst h;rfl
    ·exact ih h
  exact this _ hp)]
theorem jV {N R:Env->World->Prop} {X:Nat->Env->World->Prop} {id:Nat} {e0:Env} {w0:World} (hm:P.follows .mixedOrders=true) (G0:List Nat) (m:Nat) (W ds:List Nat) (deps:List (List Nat)) (its:List Ie) (effs:List Nat) (Js:List (List Nat->List Value->World->Prop)) 
  (hB:vA l m W ds deps=true) (hE:Nz l m effs its=true) (hL:eW G0 w0) (hF:A8 its) (hJ:JZ Js) (h0:Js.getD 0 (λ_ _ _=>True) G0 [] w0)
  (hc:vU P n l.toArray W ds its Js e0 G0 w0 0 (l.take m) deps)
  (ht:∀(x:Env) (w:World) (G:List Nat) (aT:List Value),Fr G0 w0 G w->eW G w->Js.getD effs.length (λ_ _ _=>True) G aT w->aT.length=effs.length->xD its ds G aT w (List.range m) λacc=>OW P n l.toArray N (l.drop m) (bo (bm W x e0) acc) w):
  CW P n (.region id l.toArray true) N R X e0 w0:=λa ha=>by
 refine wp_region_any hm ?_
 have fS:aj [] w0 {w0 with drawn:=w0.drawn+1}:=aj.drew _ _
 obtain⟨sj,Gm,Mq,ji,nV⟩:=Et hB
 obtain⟨pE,mT⟩:=afQ hE
 have dN:∀i j,i<m->j<m->i≠j->ds.getD j 0≠ds.getD i 0:=λi j hi hj jS=>by
  rw[gG,gG,gE om,gE om]
  simp only[Option.getD_some]
  intro he
  exact jS ((List.getElem_inj ji).1 he.symm)
 let Inv:(Nat->Bool)->Env->World->Prop:=λS e w=>∃G k,eA W e0 e∧Fr G0 w0 G w∧eW G w∧k<=effs.length∧(∀t,t<effs.length->(S (effs.getD t 0)=true↔t<k))∧
  Js.getD k (λ_ _ _=>True) G ((effs.take k).map λi=>e (ds.getD i 0)) w∧∀i,i<m->S i=true->(its.getD i mD).F G (e (ds.getD i 0)) w
 have Hf:∀(S:Nat->Bool) (e:Env) (k:Nat),(∀t,t<effs.length->(S (effs.getD t 0)=true↔t<k))->k<=effs.length->∀j t,j<m->S j=true->(its.getD j mD).kv=some t->((effs.take k).map λi=>e (ds.getD i 0)).getD t undef=e (ds.getD j 0):=by
  intro S e k hS hk j t hj l7 he
  obtain⟨h1,h2⟩:=mT j t hj he
  have h3:t<k:=(hS t h1).1 (by rw[h2];exact l7)
  rw[gG,List.getElem?_map,List.getElem?_take,iP h3,gE h1]
  rw[gG,gE h1] at h2
  simp only[Option.getD_some] at h2
  simp[h2]
 have step:∀(S:Nat->Bool) (e:Env) (w:World) (i:Nat) (o:Oper),i<m->l[i]?=some o->S i=false->(∀j,waits o j=true->S j=true)->Inv S e w->
   OW P n l.toArray (λe' w'=>Inv (λj=>if j=i then true else S j) e' w') [o] e w:=by
  rintro S e w i o ry ho uH Bb ⟨G,k,qH,bF,qg,eM,hS,vV,px⟩
  obtain⟨hW,Av⟩:=(nV i o ho).2.1 ry
  obtain⟨dp,Aw⟩:∃d,deps[i]?=some d:=⟨deps[i]'om,gE om⟩
  have Gt:deps.getD i []=dp:=by rw[gG,Aw];rfl
  rw[Gt] at Av
  have jc:=Ue (l.take m) deps 0 hc i o dp (by rw[List.getElem?_take,iP ry];exact ho) Aw
  rw[Nat.zero_add] at jc
  have hd:∀j,j∈dp->(its.getD j mD).F G (e (ds.getD j 0)) w∧∀t,(its.getD j mD).kv=some t->((effs.take k).map λi=>e (ds.getD i 0)).getD t undef=e (ds.getD j 0):=λj hj=>by
   obtain⟨h1,h2⟩:=Av j hj
   exact⟨px j h2 (Bb j h1),λt het=>Hf S e k hS eM j t h2 (Bb j h1) het⟩
  have Hg:∀e',eA [ds.getD i 0] e e'->eA W e0 e':=λe' h t CV=>by
   have EU:t≠ds.getD i 0:=λhe=>by rw[he,hW] at CV;cases CV
   rw[h t (by simpa using EU)];exact qH t CV
  have Bc:∀e',eA [ds.getD i 0] e e'->∀j,j<m->j≠i->e' (ds.getD j 0)=e (ds.getD j 0):=λe' h j hj je=>h _ (by simpa using dN i j ry hj (λh=>je h.symm))
  have fD:[o]=[o]++[]:=rfl
  cases tu:(its.getD i mD).kv with
  |none=>
   unfold ES at jc
   rw[tu] at jc
   have h1:=A7 (jc e w G _ bF qg) (vs:=λj=>e (ds.getD j 0)) hd
   rw[Ba qH] at h1
   rw[fD]
   refine xh h1 ?_
   rintro e' w' ⟨p6,yU,l8⟩
   refine aV ⟨G,k,Hg e' l8,bF.ext p6,λx hx=>lL (qg x hx) p6.size,eM,λt fL=>?_,?_,λj hj l7=>?_⟩
   ·have tw:effs.getD t 0≠i:=λh=>by have:=(pE t fL).2.1;rw[h,tu] at this;cases this
    simp only[iN tw]
    exact hS t fL
   ·have e1:((effs.take k).map λi=>e' (ds.getD i 0))=(effs.take k).map λi=>e (ds.getD i 0):=by
     apply List.map_congr_left
     intro j hj
     obtain⟨t,l9⟩:=List.mem_iff_getElem?.1 hj
     rw[List.getElem?_take] at l9
     split at l9
     ·have fL:t<effs.length:=(List.getElem?_eq_some_iff.1 l9).1
      have vC:effs.getD t 0=j:=by rw[gG,l9];rfl
      have h3:=pE t fL
      rw[vC] at h3
      exact Bc e' l8 j h3.1 (λh=>by rw[h,tu] at h3;cases h3.2.1)
     ·cases l9
    rw[e1];exact He hJ k vV p6
   ·by_cases je:j=i
    ·rw[je];exact yU
    ·simp only[iN je] at l7
     rw[Bc e' l8 j hj je]
     exact Uf hF j (px j hj l7) (Fr.of p6 sm)
  |some t=>
   unfold ES at jc
   rw[tu] at jc
   obtain⟨fL,tw⟩:=mT i t ry tu
   have qS:k=t:=by
    have h1:¬t<k:=λh=>by have:=(hS t fL).2 h;rw[tw,uH] at this;cases this
    rcases Nat.eq_zero_or_pos t with h0|h0
    ·omega
    ·obtain⟨o',mS,Hh⟩:=(pE t fL).2.2 om
     rw[tw,ho] at mS
     cases mS
     have:=(hS (t-1) om).1 (Bb _ Hh)
     omega
   subst qS
   have hlen:((effs.take k).map λi=>e (ds.getD i 0)).length=k:=by simp;omega
   have h1:=A7 (jc e w G _ bF qg vV hlen) (vs:=λj=>e (ds.getD j 0)) hd
   rw[Ba qH] at h1
   rw[fD]
   refine xh h1 ?_
   rintro e' w' ⟨⟨G',xF,CX,EV,yU⟩,l8⟩
   have Hi:∀t',t'<effs.length->effs.getD t' 0=i->t'=k:=λt' h1 h2=>by
    have:=(pE t' h1).2.1
    rw[h2,tu] at this
    cases this;rfl
   refine aV ⟨G',k+1,Hg e' l8,bF.go xF,CX,om,λt' Be=>?_,?_,λj hj l7=>?_⟩
   ·by_cases h2:effs.getD t' 0=i
    ·have:=Hi t' Be h2
     simp only[iP h2]
     exact⟨λ_=>om,λ_=>trivial⟩
    ·simp only[iN h2]
     rw[hS t' Be]
     have:t'≠k:=λh=>by rw[h] at h2;exact h2 tw
     omega
   ·have e1:((effs.take (k+1)).map λi=>e' (ds.getD i 0))=((effs.take k).map λi=>e (ds.getD i 0))++[e' (ds.getD i 0)]:=by
     have h2:effs[k]?=some i:=by
      rw[gG,gE fL] at tw
      rw[gE fL]
      simpa using tw
     rw[List.take_add_one,h2,List.map_append]
     congr 1
     apply List.map_congr_left
     intro j hj
     obtain⟨t',l9⟩:=List.mem_iff_getElem?.1 hj
     rw[List.getElem?_take] at l9
     split at l9
     ·rename_i dY
      have Be:t'<effs.length:=(List.getElem?_eq_some_iff.1 l9).1
      have vC:effs.getD t' 0=j:=by rw[gG,l9];rfl
      exact Bc e' l8 j (by have:=(pE t' Be).1;rw[vC] at this;exact this) (λh=>by have:=Hi t' Be (vC.trans h);omega)
     ·cases l9
    rw[e1];exact EV
   ·by_cases je:j=i
    ·rw[je];exact yU
    ·simp only[iN je] at l7
     rw[Bc e' l8 j hj je]
     exact Uf hF j (px j hj l7) xF
 have tail:∀(S:Nat->Bool) (e:Env) (w:World),(∀i,i<m->S i=true)->Inv S e w->OW P n l.toArray N (l.drop m) e w:=by
  rintro S e w Bf ⟨G,k,qH,bF,qg,eM,hS,vV,px⟩
  have hk:k=effs.length:=by
   rcases Nat.lt_or_ge k effs.length with h|h
   ·have:=(hS k h).1 (Bf _ (pE k h).1);omega
   ·omega
  subst hk
  have h1:=A7 (ht e w G _ bF qg vV sm) (vs:=λj=>e (ds.getD j 0)) (λj hj=>by
   have p7:=List.mem_range.1 hj
   exact⟨px j p7 (Bf j p7),λt het=>Hf S e _ hS eM j t p7 (Bf j p7) het⟩)
  rw[Ba qH] at h1
  exact h1
 have iK:∀j,(Array.replicate l.length false).getD j false=false:=λj=>by
  rw[Array.getD_eq_getD_getElem?,Array.getElem?_replicate];split<;>rfl
 have NB:Inv (λj=>(Array.replicate l.length false).getD j false) e0 {w0 with drawn:=w0.drawn+1}:=by
  refine⟨G0,0,yI,Fr.of fS sm,λx hx=>hL x hx,Nat.zero_le _,λt fL=>?_,He hJ 0 h0 fS,λi hi uH=>?_⟩
  ·constructor
   ·intro h;exact absurd ((iK (effs.getD t 0)).symm.trans h) sm
   ·intro h;omega
  ·exact absurd ((iK i).symm.trans uH) sm
 have:=Uc (N:=N) (Inv:=Inv) hB step tail (ly n N R X) l.length (Array.replicate l.length false) e0 a _ ha sm
  (by
   have:((List.range l.length).filter λj=>!(Array.replicate l.length false).getD j true)=List.range l.length:=by
    rw[List.filter_eq_self]
    intro j hj
    rw[List.mem_range] at hj
    simp[Array.getD_eq_getD_getElem?,hj]
   rw[this];simp)
  (by intro j _ hj;simp[Array.getD_eq_getD_getElem?,hj])
  NB
  (by
   intro j o ho hj
   have p7:j<l.length:=(List.getElem?_eq_some_iff.1 ho).1
   simp[Array.getD_eq_getD_getElem?,p7] at hj)
 have e1:pY n N (ly n N R X)=ly n N R X:=by
  funext x a w;cases x<;>rfl
 rw[e1] at this
 simpa using this
end
section
variable {P:Program} {n:Nat} {ops:Array Oper} {e:Env} {w w':World} {G:List Nat}
theorem fv (h:v=V:=by rfl):OW P n ops (λe' w'=>aj [] w w'∧(Ie.v V).F G (e' d) w'∧eA [d] e e') [] (bQ e (some d) v) w:=
 aV ⟨aj.refl _ _,by subst h;exact nU _ _ _,rv⟩
theorem fk (k:aj [] w w') (h:v=V:=by rfl):OW P n ops (λe' w'=>aj [] w w'∧(Ie.v V).F G (e' d) w'∧eA [d] e e') [] (bQ e (some d) v) w':=
 aV ⟨k,by subst h;exact nU _ _ _,rv⟩
theorem ff {f:List Nat->Value->World->Prop} (k:aj [] w w') (h:f G v w'):OW P n ops (λe' w'=>aj [] w w'∧(Ie.p f).F G (e' d) w'∧eA [d] e e') [] (bQ e (some d) v) w':=
 aV ⟨k,by show f G (ir e d v d) w';rw[nU];exact h,rv⟩
theorem fe {aT:List Value} (G':List Nat) (k:Fr G w G' w') (hl:eW G' w') (h:J G' (aT++[v]) w'):OW P n ops (λe' w'=>(∃G',Fr G w G' w'∧eW G' w'∧J G' (aT++[e' d]) w'∧(Ie.e t).F G' (e' d) w')∧eA [d] e e') [] (bQ e (some d) v) w':=
 aV ⟨⟨G',k,hl,by show J G' (aT++[ir e d v d]) w';rw[nU];exact h,trivial⟩,rv⟩
theorem fw {aT:List Value} (G':List Nat) (k:Fr G w G' w') (hl:eW G' w') (h:J G' (aT++[v]) w') (hv:v=V:=by rfl):OW P n ops (λe' w'=>(∃G',Fr G w G' w'∧eW G' w'∧J G' (aT++[e' d]) w'∧(Ie.w t V).F G' (e' d) w')∧eA [d] e e') [] (bQ e (some d) v) w':=
 aV ⟨⟨G',k,hl,by show J G' (aT++[ir e d v d]) w';rw[nU];exact h,by subst hv;exact nU _ _ _⟩,rv⟩
theorem fq {f:Value->Prop} {aT:List Value} (G':List Nat) (k:Fr G w G' w') (hl:eW G' w') (h:J G' (aT++[v]) w') (hv:f v):OW P n ops (λe' w'=>(∃G',Fr G w G' w'∧eW G' w'∧J G' (aT++[e' d]) w'∧(Ie.q t f).F G' (e' d) w')∧eA [d] e e') [] (bQ e (some d) v) w':=
 aV ⟨⟨G',k,hl,by show J G' (aT++[ir e d v d]) w';rw[nU];exact h,by show f (ir e d v d);rw[nU];exact hv⟩,rv⟩
end
inductive Iu where
 |v (V:Value)
 |p (f:List Nat->Value->World->Prop)
 |e (t:Nat)
 |w (t:Nat) (V:Value)
 |d (f:List Value->Value)
 |u
def Iu.F:Iu->List Nat->Value->World->Prop
 | .v V=>λ_ v _=>v=V
 | .p f=>f
 | .w _ V=>λ_ v _=>v=V
 |_=>λ_ _ _=>True
def Iu.kv:Iu->Option Nat
 | .e t=>some t
 | .w t _=>some t
 |_=>none
def Iu.su:Iu->Bool
 | .u=>true
 |_=>false
def Iu.late:Iu->Bool
 | .u=>true
 | .d _=>true
 |_=>false
abbrev fM:Iu:=.p λ_ _ _=>True
def tx (its:List Iu) (ds:List Nat) (G:List Nat) (aT:List Value) (w:World):List Nat->(List (Nat×Value)->Prop)->Prop
 |[],k=>k []
 |j::r,k=>match its.getD j fM with
  | .v V=>tx its ds G aT w r λacc=>k ((ds.getD j 0,V)::acc)
  | .p f=>∀v,f G v w->tx its ds G aT w r λacc=>k ((ds.getD j 0,v)::acc)
  | .e t=>tx its ds G aT w r λacc=>k ((ds.getD j 0,aT.getD t undef)::acc)
  | .w _ V=>tx its ds G aT w r λacc=>k ((ds.getD j 0,V)::acc)
  | .d f=>tx its ds G aT w r λacc=>k ((ds.getD j 0,f aT)::acc)
  | .u=>∀v,tx its ds G aT w r λacc=>k ((ds.getD j 0,v)::acc)
def Uh (q:Iu) (G:List Nat) (aT:List Value) (v:Value) (w:World):Prop:=q.F G v w∧(∀t,q= .e t->aT.getD t undef=v)∧∀f,q= .d f->f aT=v
theorem vW {its:List Iu} {ds:List Nat} {aT:List Value} {vs:Nat->Value}:∀{deps:List Nat} {k:List (Nat×Value)->Prop},tx its ds G aT w deps k->
  (∀j,j∈deps->Uh (its.getD j fM) G aT (vs j) w)->k (ui ds vs deps)
 |[],k,h,_=>h
 |j::r,k,h,hd=>by
  obtain⟨hp,he,hq⟩:=hd j (List.mem_cons_self ..)
  unfold tx at h
  have hr:∀i,i∈r->_:=λi hi=>hd i (mK _ hi)
  cases e:its.getD j fM with
  |v V=>
   rw[e] at h hp
   have hv:vs j=V:=hp
   subst hv
   exact vW (deps:=r) h hr
  |p f=>
   rw[e] at h hp
   exact vW (deps:=r) (h _ hp) hr
  |e t=>
   rw[e] at h
   have hv:=he t e
   simp only[hv] at h
   exact vW (deps:=r) h hr
  |w t V=>
   rw[e] at h hp
   have hv:vs j=V:=hp
   subst hv
   exact vW (deps:=r) h hr
  |d f=>
   rw[e] at h
   have hv:=hq f e
   simp only[hv] at h
   exact vW (deps:=r) h hr
  |u=>
   rw[e] at h
   exact vW (deps:=r) (h _) hr
section
variable (P:Program) (n:Nat) (ops:Array Oper) (W ds:List Nat) (its:List Iu) (Js:List (List Nat->List Value->World->Prop)) (JF:(Nat->Bool)->List Nat->List Value->World->Prop) (e0:Env) (G0:List Nat) (w0:World)
def J0 (i:Nat) (o:Oper) (deps:List Nat):Prop:=
 ∀(x:Env) (w:World) (G:List Nat) (aT:List Value),Fr G0 w0 G w->eW G w->tx its ds G aT w deps λacc=>
  OW P n ops (λe' w'=>aj [] w w'∧(its.getD i fM).F G (e' (ds.getD i 0)) w'∧eA [ds.getD i 0] (bo (bm W x e0) acc) e') [o] (bo (bm W x e0) acc) w
def Hj (t i:Nat) (o:Oper) (deps:List Nat):Prop:=
 ∀(x:Env) (w:World) (G:List Nat) (aT:List Value),Fr G0 w0 G w->eW G w->Js.getD t (λ_ _ _=>True) G aT w->aT.length=t->tx its ds G aT w deps λacc=>
  OW P n ops (λe' w'=>(∃G',Fr G w G' w'∧eW G' w'∧Js.getD (t+1) (λ_ _ _=>True) G' (aT++[e' (ds.getD i 0)]) w'∧(its.getD i fM).F G' (e' (ds.getD i 0)) w')∧eA [ds.getD i 0] (bo (bm W x e0) acc) e') [o] (bo (bm W x e0) acc) w
def NC (ne:Nat) (f:List Value->Value) (i:Nat) (o:Oper) (deps:List Nat):Prop:=
 ∀(x:Env) (w:World) (G:List Nat) (aT:List Value) (S:Nat->Bool),Fr G0 w0 G w->eW G w->JF S G aT w->aT.length=ne->tx its ds G aT w deps λacc=>
  OW P n ops (λe' w'=>aj [] w w'∧e' (ds.getD i 0)=f aT∧eA [ds.getD i 0] (bo (bm W x e0) acc) e') [o] (bo (bm W x e0) acc) w
def ND (ne i:Nat) (o:Oper) (deps:List Nat):Prop:=
 ∀(x:Env) (w:World) (G:List Nat) (aT:List Value) (S:Nat->Bool),Fr G0 w0 G w->eW G w->JF S G aT w->S i=false->aT.length=ne->tx its ds G aT w deps λacc=>
  OW P n ops (λe' w'=>(∃G',Fr G w G' w'∧eW G' w'∧JF (λj=>if j=i then true else S j) G' aT w')∧eA [ds.getD i 0] (bo (bm W x e0) acc) e') [o] (bo (bm W x e0) acc) w
def uc (ne i:Nat) (o:Oper) (deps:List Nat):Prop:=match its.getD i fM with
 | .e t=>Hj P n ops W ds its Js e0 G0 w0 t i o deps
 | .w t _=>Hj P n ops W ds its Js e0 G0 w0 t i o deps
 | .d f=>NC P n ops W ds its JF e0 G0 w0 ne f i o deps
 | .u=>ND P n ops W ds its JF e0 G0 w0 ne i o deps
 |_=>J0 P n ops W ds its e0 G0 w0 i o deps
def rK (ne:Nat):Nat->List Oper->List (List Nat)->Prop
 |_,[],_=>True
 |_,_::_,[]=>True
 |k,o::l,d::r=>uc P n ops W ds its Js JF e0 G0 w0 ne k o d∧rK ne (k+1) l r
end
section
variable {P:Program} {n:Nat} {ops:Array Oper} {W ds:List Nat} {its:List Iu} {Js:List (List Nat->List Value->World->Prop)} {JF:(Nat->Bool)->List Nat->List Value->World->Prop} {e0:Env} {G0:List Nat} {w0:World} {ne:Nat}
theorem uf {d:List Nat} (h:J0 P n ops W ds its e0 G0 w0 k o d) (hr:rK P n ops W ds its Js JF e0 G0 w0 ne (k+1) l r) (hk:(its.getD k fM).kv=none∧(its.getD k fM).late=false:=by exact⟨rfl,rfl⟩):rK P n ops W ds its Js JF e0 G0 w0 ne k (o::l) (d::r):=by grind [J0,rK,Ie.kv,Iu.kv,Iu.late,uc]
theorem ue (t:Nat) {d:List Nat} (h:Hj P n ops W ds its Js e0 G0 w0 t k o d) (hr:rK P n ops W ds its Js JF e0 G0 w0 ne (k+1) l r) (hk:(its.getD k fM).kv=some t:=by rfl):rK P n ops W ds its Js JF e0 G0 w0 ne k (o::l) (d::r):=by grind [Hj,rK,Ie.kv,Iu.kv,uc]
theorem ud {d:List Nat} {f:List Value->Value} (h:NC P n ops W ds its JF e0 G0 w0 ne f k o d) (hr:rK P n ops W ds its Js JF e0 G0 w0 ne (k+1) l r) (hk:its.getD k fM= .d f:=by rfl):rK P n ops W ds its Js JF e0 G0 w0 ne k (o::l) (d::r):=by grind [NC,rK,uc]
theorem uu {d:List Nat} (h:ND P n ops W ds its JF e0 G0 w0 ne k o d) (hr:rK P n ops W ds its Js JF e0 G0 w0 ne (k+1) l r) (hk:its.getD k fM= .u:=by rfl):rK P n ops W ds its Js JF e0 G0 w0 ne k (o::l) (d::r):=by grind [ND,rK,uc]
theorem Ui:∀(l:List Oper) (deps:List (List Nat)) (k:Nat),rK P n ops W ds its Js JF e0 G0 w0 ne k l deps->∀(i:Nat) (o:Oper) (d:List Nat),l[i]?=some o->deps[i]?=some d->uc P n ops W ds its Js JF e0 G0 w0 ne (k+i) o d
 |[],_,_,_,i,o,d,h,_=>by simp at h
 |_::_,[],_,_,i,o,d,_,h=>by simp at h
 |o::l,d::r,k,h,0,o',d',ho,hd=>by
  simp at ho hd;subst ho;subst hd;exact h.1
 |o::l,d::r,k,h,i+1,o',d',ho,hd=>by
  have:=Ui l r (k+1) h.2 i o' d' (by simpa using ho) (by simpa using hd)
  rwa [show k+1+i=k+(i+1) by omega] at this
end
def uB (l:List Oper) (m:Nat) (effs:List Nat) (its:List Iu):Bool:=
 (List.range effs.length).all (λt=>decide (effs.getD t 0<m)&&((its.getD (effs.getD t 0) fM).kv==some t)&&(decide (t=0)||(match l[effs.getD t 0]? with|some o=>waits o (effs.getD (t-1) 0)|none=>false)))&&
 (List.range m).all (λi=>(match(its.getD i fM).kv with|some t=>decide (t<effs.length)&&decide (effs.getD t 0=i)|none=>true)&&
  (!(its.getD i fM).late||decide (effs.length=0)||(match l[i]? with|some o=>waits o (effs.getD (effs.length-1) 0)|none=>false)))&&
 decide (its.length<=m)
theorem afS {effs:List Nat} {its:List Iu} (h:uB l m effs its=true):
  (∀t,t<effs.length->effs.getD t 0<m∧(its.getD (effs.getD t 0) fM).kv=some t∧(t≠0->∃o,l[effs.getD t 0]?=some o∧waits o (effs.getD (t-1) 0)=true))∧
  (∀i t,i<m->(its.getD i fM).kv=some t->t<effs.length∧effs.getD t 0=i)∧
  (∀i,i<m->(its.getD i fM).late=true->effs.length≠0->∃o,l[i]?=some o∧waits o (effs.getD (effs.length-1) 0)=true)∧its.length<=m:=by
 unfold uB at h
 rw[aE,aE,List.all_eq_true,List.all_eq_true,dE] at h
 obtain⟨⟨h1,h2⟩,h3⟩:=h
 refine⟨λt ht=>?_,λi t hi he=>?_,λi hi hl hn=>?_,h3⟩
 ·have:=h1 t (List.mem_range.2 ht)
  simp only[aE,dE,beq_iff_eq,oE] at this
  obtain⟨⟨a,b⟩,c⟩:=this
  refine⟨a,b,λh0=>?_⟩
  rcases c with c|c
  ·exact absurd c h0
  ·cases hl:l[effs.getD t 0]? with
   |none=>rw[hl] at c;cases c
   |some o=>rw[hl] at c;exact⟨o,rfl,c⟩
 ·have:=h2 i (List.mem_range.2 hi)
  rw[he] at this
  simp only[aE,dE] at this
  exact this.1
 ·have:=h2 i (List.mem_range.2 hi)
  rw[aE,hl] at this
  have:=this.2
  simp only[Bool.not_true,Bool.false_or,oE,dE] at this
  rcases this with c|c
  ·exact absurd c hn
  ·cases hl:l[i]? with
   |none=>rw[hl] at c;cases c
   |some o=>rw[hl] at c;exact⟨o,rfl,c⟩
def Hk:List Iu->Prop
 |[]=>True
 | .p f::r=>(∀G v w G' w',f G v w->Fr G w G' w'->f G' v w')∧Hk r
 |_::r=>Hk r
theorem CY:∀{its:List Iu},Hk its->∀q,q∈its->∀G v w G' w',q.F G v w->Fr G w G' w'->q.F G' v w'
 |s::r,h,q,hq,G,v,w,G',w',hf,hk=>by
  rcases mC.1 hq with e|oL
  ·subst e
   cases q with
   |p f=>exact h.1 _ _ _ _ _ hf hk
   |_=>exact hf
  ·cases s with
   |p f=>exact CY (its:=r) h.2 q oL _ _ _ _ _ hf hk
   |v V=>exact CY (its:=r) h q oL _ _ _ _ _ hf hk
   |e t=>exact CY (its:=r) h q oL _ _ _ _ _ hf hk
   |w t V=>exact CY (its:=r) h q oL _ _ _ _ _ hf hk
   |d f=>exact CY (its:=r) h q oL _ _ _ _ _ hf hk
   |u=>exact CY (its:=r) h q oL _ _ _ _ _ hf hk
theorem Uj {its:List Iu} (h:Hk its) (i:Nat) {G':List Nat} (hf:(its.getD i fM).F G v w) (hk:Fr G w G' w'):(its.getD i fM).F G' v w':=by
 rw[gG] at hf⊢
 cases e:its[i]? with
 |none=>trivial
 |some q=>rw[e] at hf;exact CY h q (List.mem_of_getElem? e) _ _ _ _ _ hf hk
section
variable {P:Program} {n:Nat} {l:List Oper} {m:Nat} {W ds:List Nat} {deps:List (List Nat)}
theorem Uk {N R:Env->World->Prop} {X:Nat->Env->World->Prop} {id:Nat} {e0:Env} {w0:World} (hm:P.follows .mixedOrders=true) (G0:List Nat) (m:Nat) (W ds:List Nat) (deps:List (List Nat)) (its:List Iu) (effs:List Nat) (Js:List (List Nat->List Value->World->Prop)) (JF:(Nat->Bool)->List Nat->List Value->World->Prop) 
  (hB:vA l m W ds deps=true) (hE:uB l m effs its=true) (hL:eW G0 w0) (hF:Hk its) (hJ:JZ Js) (Ul:∀S G vs w w',JF S G vs w->aj [] w w'->JF S G vs w') (h0:Js.getD 0 (λ_ _ _=>True) G0 [] w0)
  (J1:∀G vs w,Js.getD effs.length (λ_ _ _=>True) G vs w->vs.length=effs.length->JF (λ_=>false) G vs w)
  (hc:rK P n l.toArray W ds its Js JF e0 G0 w0 effs.length 0 (l.take m) deps)
  (ht:∀(x:Env) (w:World) (G:List Nat) (aT:List Value),Fr G0 w0 G w->eW G w->JF (λi=>(its.getD i fM).su) G aT w->aT.length=effs.length->tx its ds G aT w (List.range m) λacc=>OW P n l.toArray N (l.drop m) (bo (bm W x e0) acc) w):
  CW P n (.region id l.toArray true) N R X e0 w0:=λa ha=>by
 refine wp_region_any hm ?_
 have fS:aj [] w0 {w0 with drawn:=w0.drawn+1}:=aj.drew _ _
 obtain⟨sj,Gm,Mq,ji,nV⟩:=Et hB
 obtain⟨pE,mT,he3,fX⟩:=afS hE
 have dN:∀i j,i<m->j<m->i≠j->ds.getD j 0≠ds.getD i 0:=λi j hi hj jS=>by
  rw[gG,gG,gE om,gE om]
  simp only[Option.getD_some]
  intro he
  exact jS ((List.getElem_inj ji).1 he.symm)
 let vl:Nat->Env->List Value:=λk e=>(effs.take k).map λi=>e (ds.getD i 0)
 let US:(Nat->Bool)->Nat->Bool:=λS i=>S i&&(its.getD i fM).su
 let Inv:(Nat->Bool)->Env->World->Prop:=λS e w=>∃G k,eA W e0 e∧Fr G0 w0 G w∧eW G w∧k<=effs.length∧(∀t,t<effs.length->(S (effs.getD t 0)=true↔t<k))∧
  (k<effs.length->Js.getD k (λ_ _ _=>True) G (vl k e) w∧∀i,i<m->S i=true->(its.getD i fM).late=false)∧(k=effs.length->JF (US S) G (vl k e) w)∧
  ∀i,i<m->S i=true->(its.getD i fM).F G (e (ds.getD i 0)) w∧∀f,its.getD i fM= .d f->f (vl k e)=e (ds.getD i 0)
 have Hf:∀(S:Nat->Bool) (e:Env) (k:Nat),(∀t,t<effs.length->(S (effs.getD t 0)=true↔t<k))->k<=effs.length->∀j t,j<m->S j=true->(its.getD j fM).kv=some t->(vl k e).getD t undef=e (ds.getD j 0):=by
  intro S e k hS hk j t hj l7 he
  obtain⟨h1,h2⟩:=mT j t hj he
  have h3:t<k:=(hS t h1).1 (by rw[h2];exact l7)
  show((effs.take k).map λi=>e (ds.getD i 0)).getD t undef=_
  rw[gG,List.getElem?_map,List.getElem?_take,iP h3,gE h1]
  rw[gG,gE h1] at h2
  simp only[Option.getD_some] at h2
  simp[h2]
 have Hl:∀k e,k<=effs.length->(vl k e).length=k:=λk e hk=>by show((effs.take k).map _).length=k;simp;omega
 have step:∀(S:Nat->Bool) (e:Env) (w:World) (i:Nat) (o:Oper),i<m->l[i]?=some o->S i=false->(∀j,waits o j=true->S j=true)->Inv S e w->
   OW P n l.toArray (λe' w'=>Inv (λj=>if j=i then true else S j) e' w') [o] e w:=by
  rintro S e w i o ry ho uH Bb ⟨G,k,qH,bF,qg,eM,hS,vV,EW,px⟩
  obtain⟨hW,Av⟩:=(nV i o ho).2.1 ry
  obtain⟨dp,Aw⟩:∃d,deps[i]?=some d:=⟨deps[i]'om,gE om⟩
  have Gt:deps.getD i []=dp:=by rw[gG,Aw];rfl
  rw[Gt] at Av
  have jc:=Ui (l.take m) deps 0 hc i o dp (by rw[List.getElem?_take,iP ry];exact ho) Aw
  rw[Nat.zero_add] at jc
  have hd:∀j,j∈dp->Uh (its.getD j fM) G (vl k e) (e (ds.getD j 0)) w:=λj hj=>by
   obtain⟨h1,h2⟩:=Av j hj
   have h3:=px j h2 (Bb j h1)
   exact⟨h3.1,λt het=>Hf S e k hS eM j t h2 (Bb j h1) (by rw[het];rfl),h3.2⟩
  have Hg:∀e',eA [ds.getD i 0] e e'->eA W e0 e':=λe' h t CV=>by
   have EU:t≠ds.getD i 0:=λhe=>by rw[he,hW] at CV;cases CV
   rw[h t (by simpa using EU)];exact qH t CV
  have Bc:∀e',eA [ds.getD i 0] e e'->∀j,j<m->j≠i->e' (ds.getD j 0)=e (ds.getD j 0):=λe' h j hj je=>h _ (by simpa using dN i j ry hj (λh=>je h.symm))
  have fD:[o]=[o]++[]:=rfl
  have Um:∀e',eA [ds.getD i 0] e e'->∀k',k'<=effs.length->(∀t,t<k'->effs.getD t 0≠i)->vl k' e'=vl k' e:=λe' l8 k' p6 nh=>by
   show(effs.take k').map _=(effs.take k').map _
   apply List.map_congr_left
   intro j hj
   obtain⟨t,l9⟩:=List.mem_iff_getElem?.1 hj
   rw[List.getElem?_take] at l9
   split at l9
   ·rename_i dY
    have fL:t<effs.length:=(List.getElem?_eq_some_iff.1 l9).1
    have vC:effs.getD t 0=j:=by rw[gG,l9];rfl
    exact Bc e' l8 j (by have:=(pE t fL).1;rw[vC] at this;exact this) (λh=>nh t dY (vC.trans h))
   ·cases l9
  -- what is late comes behind the last effect
  have Un:(its.getD i fM).late=true->k=effs.length:=λhl=>by
   rcases Nat.eq_zero_or_pos effs.length with h0|h0
   ·omega
   ·obtain⟨o',mS,Hh⟩:=he3 i ry hl om
    rw[ho] at mS;cases mS
    have:=(hS (effs.length-1) om).1 (Bb _ Hh)
    omega
  -- an operation that is no effect in the order
  have main:∀(e':Env) (w':World) (G':List Nat),(its.getD i fM).kv=none->eA [ds.getD i 0] e e'->Fr G w G' w'->eW G' w'->
    (k<effs.length->Js.getD k (λ_ _ _=>True) G' (vl k e) w'∧(its.getD i fM).late=false)->(k=effs.length->JF (US λj=>if j=i then true else S j) G' (vl k e) w')->
    (its.getD i fM).F G' (e' (ds.getD i 0)) w'->(∀f,its.getD i fM= .d f->f (vl k e)=e' (ds.getD i 0))->Inv (λj=>if j=i then true else S j) e' w':=by
   intro e' w' G' tu l8 xF CX EX sv yU hDi
   have nh:∀t,t<effs.length->effs.getD t 0≠i:=λt fL h=>by have:=(pE t fL).2.1;rw[h,tu] at this;cases this
   have CZ:=Um e' l8 k eM (λt ht=>nh t om)
   refine⟨G',k,Hg e' l8,bF.go xF,CX,eM,λt fL=>?_,λdY=>⟨?_,λj hj l7=>?_⟩,λma=>?_,λj hj l7=>?_⟩
   ·simp only[iN (nh t fL)];exact hS t fL
   ·rw[CZ];exact(EX dY).1
   ·by_cases je:j=i
    ·rw[je];exact(EX dY).2
    ·simp only[iN je] at l7;exact(vV dY).2 j hj l7
   ·rw[CZ];exact sv ma
   ·rw[CZ]
    by_cases je:j=i
    ·rw[je];exact⟨yU,hDi⟩
    ·simp only[iN je] at l7
     rw[Bc e' l8 j hj je]
     exact⟨Uj hF j (px j hj l7).1 xF,(px j hj l7).2⟩
  have Uo:(its.getD i fM).su=false->US (λj=>if j=i then true else S j)=US S:=λh=>by
   funext j
   show((if j=i then true else S j)&&(its.getD j fM).su)=(S j&&(its.getD j fM).su)
   by_cases je:j=i
   ·rw[je,h];simp
   ·rw[iN je]
  -- the cases
  have floatC:J0 P n l.toArray W ds its e0 G0 w0 i o dp->(its.getD i fM).kv=none->(its.getD i fM).late=false->(∀f,its.getD i fM≠ .d f)->(its.getD i fM).su=false->OW P n l.toArray (λe' w'=>Inv (λj=>if j=i then true else S j) e' w') [o] e w:=by
   intro jc tu Hm NF Up
   have h1:=vW (jc e w G _ bF qg) (vs:=λj=>e (ds.getD j 0)) hd
   rw[Ba qH] at h1
   rw[fD]
   refine xh h1 ?_
   rintro e' w' ⟨p6,yU,l8⟩
   exact aV (main e' w' G tu l8 (Fr.of p6 sm) (λx hx=>lL (qg x hx) p6.size) (λdY=>⟨He hJ k (vV dY).1 p6,Hm⟩) (λma=>by rw[Uo Up];exact Ul _ _ _ _ _ (EW ma) p6) yU (λf hf=>absurd hf (NF f)))
  have effC:∀t,(its.getD i fM).kv=some t->Hj P n l.toArray W ds its Js e0 G0 w0 t i o dp->(its.getD i fM).late=false->(∀f,its.getD i fM≠ .d f)->(its.getD i fM).su=false->OW P n l.toArray (λe' w'=>Inv (λj=>if j=i then true else S j) e' w') [o] e w:=by
   intro t tu jc Hm NF Up
   obtain⟨fL,tw⟩:=mT i t ry tu
   have qS:k=t:=by
    have h1:¬t<k:=λh=>by have:=(hS t fL).2 h;rw[tw,uH] at this;cases this
    rcases Nat.eq_zero_or_pos t with h0|h0
    ·omega
    ·obtain⟨o',mS,Hh⟩:=(pE t fL).2.2 om
     rw[tw,ho] at mS
     cases mS
     have:=(hS (t-1) om).1 (Bb _ Hh)
     omega
   subst qS
   have h1:=vW (jc e w G _ bF qg (vV fL).1 (Hl k e eM)) (vs:=λj=>e (ds.getD j 0)) hd
   rw[Ba qH] at h1
   rw[fD]
   refine xh h1 ?_
   rintro e' w' ⟨⟨G',xF,CX,EV,yU⟩,l8⟩
   have Hi:∀t',t'<effs.length->effs.getD t' 0=i->t'=k:=λt' h1 h2=>by
    have:=(pE t' h1).2.1
    rw[h2,tu] at this
    cases this;rfl
   have CZ:vl k e'=vl k e:=Um e' l8 k eM (λt' oz h=>by have:=Hi t' om h;omega)
   have fN:vl (k+1) e'=vl k e++[e' (ds.getD i 0)]:=by
    have h2:effs[k]?=some i:=by
     rw[gG,gE fL] at tw
     rw[gE fL]
     simpa using tw
    rw[<-CZ]
    show(effs.take (k+1)).map _=(effs.take k).map _++_
    rw[List.take_add_one,h2,List.map_append]
    rfl
   have Uq:∀j,j<m->(if j=i then true else S j)=true->(its.getD j fM).late=false:=λj hj l7=>by
    by_cases je:j=i
    ·rw[je];exact Hm
    ·rw[iN je] at l7;exact(vV fL).2 j hj l7
   refine aV ⟨G',k+1,Hg e' l8,bF.go xF,CX,om,λt' Be=>?_,λ_=>⟨by rw[fN];exact EV,Uq⟩,λma=>?_,λj hj l7=>?_⟩
   ·by_cases h2:effs.getD t' 0=i
    ·have:=Hi t' Be h2
     simp only[iP h2]
     exact⟨λ_=>om,λ_=>trivial⟩
    ·simp only[iN h2]
     rw[hS t' Be]
     have:t'≠k:=λh=>by rw[h] at h2;exact h2 tw
     omega
   ·have e1:US (λj=>if j=i then true else S j)=λ_=>false:=by
     funext j
     show((if j=i then true else S j)&&(its.getD j fM).su)=false
     by_cases Cz:j<m
     ·cases hb:(if j=i then true else S j) with
      |false=>rfl
      |true=>
       have h3:=Uq j Cz hb
       cases e:its.getD j fM with
       |u=>rw[e] at h3;cases h3
       |_=>rfl
     ·rw[gG,List.getElem?_eq_none om]
      simp[Iu.su]
    rw[e1]
    exact J1 _ _ _ (by rw[fN,<-ma];exact EV) (by rw[Hl _ _ om];omega)
   ·by_cases je:j=i
    ·rw[je];exact⟨yU,λf hf=>absurd hf (NF f)⟩
    ·simp only[iN je] at l7
     rw[Bc e' l8 j hj je]
     refine⟨Uj hF j (px j hj l7).1 xF,λf hf=>?_⟩
     have:=(vV fL).2 j hj l7
     rw[hf] at this;cases this
  cases jy:its.getD i fM with
  |v V=>unfold uc at jc;rw[jy] at jc;exact floatC jc (by rw[jy];rfl) (by rw[jy];rfl) (λf h=>by rw[jy] at h;cases h) (by rw[jy];rfl)
  |p f=>unfold uc at jc;rw[jy] at jc;exact floatC jc (by rw[jy];rfl) (by rw[jy];rfl) (λf h=>by rw[jy] at h;cases h) (by rw[jy];rfl)
  |e t=>unfold uc at jc;rw[jy] at jc;exact effC t (by rw[jy];rfl) jc (by rw[jy];rfl) (λf h=>by rw[jy] at h;cases h) (by rw[jy];rfl)
  |w t V=>unfold uc at jc;rw[jy] at jc;exact effC t (by rw[jy];rfl) jc (by rw[jy];rfl) (λf h=>by rw[jy] at h;cases h) (by rw[jy];rfl)
  |d f=>
   unfold uc at jc;rw[jy] at jc
   have ma:=Un (by rw[jy];rfl)
   have h1:=vW (jc e w G _ _ bF qg (EW ma) (by rw[Hl k e eM];exact ma)) (vs:=λj=>e (ds.getD j 0)) hd
   rw[Ba qH] at h1
   rw[fD]
   refine xh h1 ?_
   rintro e' w' ⟨p6,Hn,l8⟩
   exact aV (main e' w' G (by rw[jy];rfl) l8 (Fr.of p6 sm) (λx hx=>lL (qg x hx) p6.size) (λdY=>om) (λma=>by rw[Uo (by rw[jy];rfl)];exact Ul _ _ _ _ _ (EW ma) p6) (by rw[jy];trivial) (λf' hf=>by rw[jy] at hf;cases hf;exact Hn.symm))
  |u=>
   unfold uc at jc;rw[jy] at jc
   have ma:=Un (by rw[jy];rfl)
   have h1:=vW (jc e w G _ _ bF qg (EW ma) (by show(S i&&_)=false;rw[uH];rfl) (by rw[Hl k e eM];exact ma)) (vs:=λj=>e (ds.getD j 0)) hd
   rw[Ba qH] at h1
   rw[fD]
   refine xh h1 ?_
   rintro e' w' ⟨⟨G',xF,CX,EV⟩,l8⟩
   refine aV (main e' w' G' (by rw[jy];rfl) l8 xF CX (λdY=>om) (λma=>?_) (by rw[jy];trivial) (λf' hf=>by rw[jy] at hf;cases hf))
   have e1:US (λj=>if j=i then true else S j)=λj=>if j=i then true else US S j:=by
    funext j
    show((if j=i then true else S j)&&(its.getD j fM).su)=if j=i then true else(S j&&(its.getD j fM).su)
    by_cases je:j=i
    ·rw[iP je,iP je,je,jy];rfl
    ·rw[iN je,iN je]
   rw[e1];exact EV
 have tail:∀(S:Nat->Bool) (e:Env) (w:World),(∀i,i<m->S i=true)->Inv S e w->OW P n l.toArray N (l.drop m) e w:=by
  rintro S e w Bf ⟨G,k,qH,bF,qg,eM,hS,vV,EW,px⟩
  have hk:k=effs.length:=by
   rcases Nat.lt_or_ge k effs.length with h|h
   ·have:=(hS k h).1 (Bf _ (pE k h).1);omega
   ·omega
  subst hk
  have e1:US S=λi=>(its.getD i fM).su:=by
   funext j
   show(S j&&(its.getD j fM).su)=_
   by_cases Cz:j<m
   ·rw[Bf j Cz];rfl
   ·rw[gG,List.getElem?_eq_none om]
    simp[Iu.su]
  have hj:=EW rfl
  rw[e1] at hj
  have h1:=vW (ht e w G _ bF qg hj (Hl _ e (lR _))) (vs:=λj=>e (ds.getD j 0)) (λj hj=>by
   have p7:=List.mem_range.1 hj
   have h3:=px j p7 (Bf j p7)
   exact⟨h3.1,λt het=>Hf S e _ hS eM j t p7 (Bf j p7) (by rw[het];rfl),h3.2⟩)
  rw[Ba qH] at h1
  exact h1
 have iK:∀j,(Array.replicate l.length false).getD j false=false:=λj=>by
  rw[Array.getD_eq_getD_getElem?,Array.getElem?_replicate];split<;>rfl
 have NB:Inv (λj=>(Array.replicate l.length false).getD j false) e0 {w0 with drawn:=w0.drawn+1}:=by
  have Cy:=He hJ 0 h0 fS
  refine⟨G0,0,yI,Fr.of fS sm,λx hx=>hL x hx,Nat.zero_le _,λt fL=>?_,λ_=>⟨Cy,λi hi uH=>?_⟩,λma=>?_,λi hi uH=>?_⟩
  ·constructor
   ·intro h;exact absurd ((iK (effs.getD t 0)).symm.trans h) sm
   ·intro h;omega
  ·exact absurd ((iK i).symm.trans uH) sm
  ·have e1:US (λj=>(Array.replicate l.length false).getD j false)=λ_=>false:=by
    funext j
    show((Array.replicate l.length false).getD j false&&_)=false
    rw[iK];rfl
   rw[e1]
   exact J1 _ _ _ (by rw[<-ma];exact Cy) (by show((effs.take 0).map _).length=_;simpa using ma)
  ·exact absurd ((iK i).symm.trans uH) sm
 have:=Uc (N:=N) (Inv:=Inv) hB step tail (ly n N R X) l.length (Array.replicate l.length false) e0 a _ ha sm
  (by
   have:((List.range l.length).filter λj=>!(Array.replicate l.length false).getD j true)=List.range l.length:=by
    rw[List.filter_eq_self]
    intro j hj
    rw[List.mem_range] at hj
    simp[Array.getD_eq_getD_getElem?,hj]
   rw[this];simp)
  (by intro j _ hj;simp[Array.getD_eq_getD_getElem?,hj])
  NB
  (by
   intro j o ho hj
   have p7:j<l.length:=(List.getElem?_eq_some_iff.1 ho).1
   simp[Array.getD_eq_getD_getElem?,p7] at hj)
 have e1:pY n N (ly n N R X)=ly n N R X:=by
  funext x a w;cases x<;>rfl
 rw[e1] at this
 simpa using this
end
section
variable {P:Program} {n:Nat} {ops:Array Oper} {e:Env} {w w':World} {G:List Nat}
theorem uv (h:v=V:=by rfl):OW P n ops (λe' w'=>aj [] w w'∧(Iu.v V).F G (e' d) w'∧eA [d] e e') [] (bQ e (some d) v) w:=
 aV ⟨aj.refl _ _,by subst h;exact nU _ _ _,rv⟩
theorem up {f:List Nat->Value->World->Prop} (k:aj [] w w') (h:f G v w'):OW P n ops (λe' w'=>aj [] w w'∧(Iu.p f).F G (e' d) w'∧eA [d] e e') [] (bQ e (some d) v) w':=
 aV ⟨k,by show f G (ir e d v d) w';rw[nU];exact h,rv⟩
theorem uE {aT:List Value} (G':List Nat) (k:Fr G w G' w') (hl:eW G' w') (h:J G' (aT++[v]) w'):OW P n ops (λe' w'=>(∃G',Fr G w G' w'∧eW G' w'∧J G' (aT++[e' d]) w'∧(Iu.e t).F G' (e' d) w')∧eA [d] e e') [] (bQ e (some d) v) w':=
 aV ⟨⟨G',k,hl,by show J G' (aT++[ir e d v d]) w';rw[nU];exact h,trivial⟩,rv⟩
theorem uW {aT:List Value} (G':List Nat) (k:Fr G w G' w') (hl:eW G' w') (h:J G' (aT++[v]) w') (hv:v=V:=by rfl):OW P n ops (λe' w'=>(∃G',Fr G w G' w'∧eW G' w'∧J G' (aT++[e' d]) w'∧(Iu.w t V).F G' (e' d) w')∧eA [d] e e') [] (bQ e (some d) v) w':=
 aV ⟨⟨G',k,hl,by show J G' (aT++[ir e d v d]) w';rw[nU];exact h,by subst hv;exact nU _ _ _⟩,rv⟩
theorem uD (k:aj [] w w') (h:v=V:=by rfl):OW P n ops (λe' w'=>aj [] w w'∧e' d=V∧eA [d] e e') [] (bQ e (some d) v) w':=by grind [aV,nU,rv]
theorem uU {Q:List Nat->World->Prop} (G':List Nat) (k:Fr G w G' w') (hl:eW G' w') (h:Q G' w'):OW P n ops (λe' w'=>(∃G',Fr G w G' w'∧eW G' w'∧Q G' w')∧eA [d] e e') [] e w':=
 aV ⟨⟨G',k,hl,h⟩,yI⟩
end
end Go.Proofs.YthbhobaiopccaaaGreatDoor
