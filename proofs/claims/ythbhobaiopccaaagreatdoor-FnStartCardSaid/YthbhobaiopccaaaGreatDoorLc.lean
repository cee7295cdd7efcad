/- Lemmas for the law FnStart, no statement of their own: no conditions. -/
import Derived.Test.YthbhobaiopccaaaGreatDoorLb
set_option maxHeartbeats 4000000
set_option linter.unusedVariables false
set_option linter.unusedSimpArgs false
namespace Go.Proofs.YthbhobaiopccaaaGreatDoor
open Go
variable {b d k m m' n off sz t:Nat} {c:UInt8} {s x:ai} {e:Ex} {G L L' L1 W:List Nat} {w w' w0 w1 w2:World} {V v v1 v3 v4 v5 v6 v8:Value} {vs:List Value} {xs:List ai} {g:Option Nat} {rows:List (List C)} {e0:Env} {o:Oper} {l:List Oper} {r:List (List Nat)} {N R:Env->World->Prop} {X:Nat->Env->World->Prop} {J:List Nat->List Value->World->Prop}
/-! ### pZ aK -/
theorem ad1 (n:Nat):val (aT n)=n:=by
 induction n using Nat.strongRecOn with
 |_ n ih=>
  have hd:∀k,k<10->(UInt8.ofNat (48+k)).toNat=48+k:=λk hk=>by
   rw[UInt8.toNat_ofNat'];exact Nat.mod_eq_of_lt om
  unfold aT
  by_cases h:n<10
  ·rw[iP h]
   show 10*0+((UInt8.ofNat (48+n)).toNat-48)=n
   rw[hd n h];omega
  ·rw[iN h,QA,ih (n/10) om,hd (n%10) om];omega
theorem ad2 (h:aT n=aT m):n=m:=by grind [ad1]
def cM (c:UInt8) (k:Nat):ai:=c::aT k
theorem pA {j:Nat} (h:cM c k=cM c j):k=j:=by grind [ad2,cM]
theorem Me {α:Type} [BEq α] [LawfulBEq α]:∀{l m:List α},l.Nodup->(∀x,x∈l->x∈m)->l.length<=m.length
 |[],m,_,_=>by simp
 |a::l,m,hn,hs=>by
  rw[List.nodup_cons] at hn
  have ha:=hs a sm
  have:=Me (l:=l) (m:=m.erase a) hn.2 λx hx=>(List.mem_erase_of_ne (fun(e:x=a)=>hn.1 (e▸hx))).2 (hs x (by simp[hx]))
  rw[List.length_erase_of_mem ha] at this
  have:=List.length_pos_of_mem ha
  simp only[lC];omega
def pB (c:UInt8) (ag:List ai):Nat->Nat->Nat
 |0,n=>n
 |fuel+1,n=>if cM c n∈ag then pB c ag fuel (n+1) else n
def bo (c:UInt8) (ag:List ai) (n:Nat):Nat:=pB c ag (ag.length+1) n
theorem ad3 (c:UInt8) (ag:List ai):∀fuel n,n<=pB c ag fuel n∧pB c ag fuel n<=n+fuel:=by intro x;induction x<;>grind [pB]
theorem R4 (c:UInt8) (ag:List ai):∀fuel n,cM c (pB c ag fuel n)∉ag∨∀j,j<fuel->cM c (n+j)∈ag
 |0,n=>.inr λj hj=>by omega
 |fuel+1,n=>by
  unfold pB
  split
  ·rename_i h
   rcases R4 c ag fuel (n+1) with h1|h1
   ·exact .inl h1
   ·refine .inr λj hj=>?_
    cases j with
    |zero=>exact h
    |succ j=>have:=h1 j om;rw[show n+(j+1)=n+1+j from by omega];exact this
  ·rename_i h;exact .inl h
theorem Iy (c:UInt8) (ag:List ai) (n:Nat):cM c (bo c ag n)∉ag:=by
 rcases R4 c ag (ag.length+1) n with h|h
 ·exact h
 ·exfalso
  have hn:((List.range (ag.length+1)).map λj=>cM c (n+j)).Nodup:=by
   rw[List.nodup_iff_pairwise_ne,List.pairwise_map]
   refine List.Pairwise.imp ?_ (List.nodup_iff_pairwise_ne.1 List.nodup_range)
   intro a b Iz e
   exact Iz (by have:=pA e;omega)
  have:=Me hn (m:=ag) (λx hx=>by
   obtain⟨j,hj,rfl⟩:=List.mem_map.1 hx
   exact h j (List.mem_range.1 hj))
  simp at this;omega
theorem oa (c:UInt8) (ag:List ai) (n:Nat):n<=bo c ag n∧bo c ag n<=n+ag.length+1:=by grind [ad3,cW.length,bo]
theorem R5 {ag:List ai} (h:cM c n∈ag):bo c ag n=bo c ag (n+1):=by
 have key:∀f g n,cM c (pB c ag f n)∉ag->cM c (pB c ag g n)∉ag->pB c ag f n=pB c ag g n:=by
  intro f
  induction f with
  |zero=>
   intro g n h1 h2
   cases g with
   |zero=>rfl
   |succ g=>unfold pB at h1⊢;rw[iN h1]
  |succ f ih=>
   intro g n h1 h2
   cases g with
   |zero=>unfold pB at h2⊢;rw[iN h2]
   |succ g=>
    unfold pB at h1 h2⊢
    by_cases hh:cM c n∈ag
    ·rw[iP hh] at h1 h2⊢;rw[iP hh];exact ih g (n+1) h1 h2
    ·rw[iN hh,iN hh]
 have e:bo c ag n=pB c ag ag.length (n+1):=by
  unfold bo
  conv=>lhs;unfold pB
  rw[iP h]
 have h1:=Iy c ag n
 rw[e] at h1⊢
 exact key _ _ _ h1 (Iy c ag (n+1))
theorem R6 {ag:List ai} (h:cM c n∉ag):bo c ag n=n:=by
 unfold bo pB;rw[iN h]
theorem zD (hc:97<=c∧c<=122) (hk:k<1000):dN (cM c k)=true:=by
 have hd:∀k,(aT k).all gV=true:=λk=>by
  induction k using Nat.strongRecOn with
  |_ k ih=>
   have hd:∀j,j<10->gV (UInt8.ofNat (48+j))=true:=by decide
   unfold aT
   by_cases h:k<10
   ·rw[iP h,List.all_cons,hd k h];rfl
   ·rw[iN h,List.all_append,ih (k/10) om,List.all_cons,hd (k%10) om];rfl
 have h1:∀k,k<10->(aT k).length=1:=λk hk=>by unfold aT;rw[iP hk];rfl
 have h2:∀k,k<100->(aT k).length<=2:=λk hk=>by
  unfold aT
  split
  ·simp
  ·have:=h1 (k/10) om
   simp;omega
 have h3:(aT k).length<=3:=by
  unfold aT
  split
  ·simp
  ·have:=h2 (k/10) om
   simp;omega
 unfold dN cM
 simp only[lC,List.getD_cons_zero,List.drop_succ_cons,List.drop_zero,hd k,Bool.and_true,aE,dE]
 exact⟨⟨by omega,om⟩,hc⟩
/-! ### Bound aK renamed -/
abbrev Rn:=List (ai×ai)
def qe (ρ:Rn) (s:ai):ai:=((ρ.reverse.find? λp=>decide (p.1=s)).map Prod.snd).getD s
theorem Mf (ρ:Rn) (x y s:ai):qe (ρ++[(x,y)]) s=if x=s then y else qe ρ s:=by grind [qe]
theorem R7 (ρ:Rn) (f x s g y:ai):qe (ρ++[(f,g),(x,y)]) s=if x=s then y else if f=s then g else qe ρ s:=by grind [qe]
abbrev cx:UInt8:=120
def bK (ag:List ai):Ex->Rn->Nat->Ex×Nat
 | .at s,ρ,n=>(.at (if dN s then qe ρ s else s),n)
 | .un h a,ρ,n=>(.un h (bK ag a ρ n).1,(bK ag a ρ n).2)
 | .bi h a b,ρ,n=>(.bi h (bK ag a ρ n).1 (bK ag b ρ (bK ag a ρ n).2).1,(bK ag b ρ (bK ag a ρ n).2).2)
 | .ite a b c,ρ,n=>(.ite (bK ag a ρ n).1 (bK ag b ρ (bK ag a ρ n).2).1 (bK ag c ρ (bK ag b ρ (bK ag a ρ n).2).2).1,(bK ag c ρ (bK ag b ρ (bK ag a ρ n).2).2).2)
 | .lt x a b,ρ,n=>(.lt (cM cx (bo cx ag n)) (bK ag a ρ (bo cx ag n+1)).1 (bK ag b (ρ++[(x,cM cx (bo cx ag n))]) (bK ag a ρ (bo cx ag n+1)).2).1,
   (bK ag b (ρ++[(x,cM cx (bo cx ag n))]) (bK ag a ρ (bo cx ag n+1)).2).2)
 | .fn f x A B e,ρ,n=>(.fn (cM cx (bo cx ag n)) (cM cx (bo cx ag (bo cx ag n+1))) A B (bK ag e (ρ++[(f,cM cx (bo cx ag n)),(x,cM cx (bo cx ag (bo cx ag n+1)))]) (bo cx ag (bo cx ag n+1)+1)).1,
   (bK ag e (ρ++[(f,cM cx (bo cx ag n)),(x,cM cx (bo cx ag (bo cx ag n+1)))]) (bo cx ag (bo cx ag n+1)+1)).2)
theorem ja (ag:List ai):∀(e:Ex) (ρ:Rn) (n:Nat),n<=(bK ag e ρ n).2∧(bK ag e ρ n).2+(ag.length+2)<=n+(e.n)*(ag.length+2)+(ag.length+2)
 | .at s,ρ,n=>by simp only[bK,Ex.n];omega
 | .un h a,ρ,n=>by
  have:=ja ag a ρ n
  simp only[bK,Ex.n,Nat.add_mul];omega
 | .bi h a b,ρ,n=>by
  have:=ja ag a ρ n
  have:=ja ag b ρ (bK ag a ρ n).2
  simp only[bK,Ex.n,Nat.add_mul];omega
 | .ite a b c,ρ,n=>by
  have:=ja ag a ρ n
  have:=ja ag b ρ (bK ag a ρ n).2
  have:=ja ag c ρ (bK ag b ρ (bK ag a ρ n).2).2
  simp only[bK,Ex.n,Nat.add_mul];omega
 | .lt x a b,ρ,n=>by
  have h0:=oa cx ag n
  have:=ja ag a ρ (bo cx ag n+1)
  have:=ja ag b (ρ++[(x,cM cx (bo cx ag n))]) (bK ag a ρ (bo cx ag n+1)).2
  simp only[bK,Ex.n,Nat.add_mul];omega
 | .fn f x A B e,ρ,n=>by
  have h0:=oa cx ag n
  have h1:=oa cx ag (bo cx ag n+1)
  have:=ja ag e (ρ++[(f,cM cx (bo cx ag n)),(x,cM cx (bo cx ag (bo cx ag n+1)))]) (bo cx ag (bo cx ag n+1)+1)
  simp only[bK,Ex.n,Nat.add_mul];omega
theorem R8 (ag:List ai):∀(e:Ex) (ρ:Rn) (n:Nat),(bK ag e ρ n).1.n=e.n:=by intro x;induction x<;>grind [bK,Ty.n,Ex.n]
theorem vQ (ag:List ai):∀(e:Ex) (ρ:Rn) (n:Nat),e.ok->(bK ag e ρ n).2<=1000->(∀s,dN s=true->Fv s e->dN (qe ρ s)=true)->(bK ag e ρ n).1.ok
 | .at s,ρ,n,h,_,hr=>by
  show p9 _=true
  by_cases hn:dN s=true
  ·rw[iP hn];unfold p9;rw[hr s hn ⟨rfl,hn⟩];simp
  ·rw[iN hn];exact h
 | .un hd a,ρ,n,h,hm,hr=>⟨h.1,vQ ag a ρ n h.2 hm hr⟩
 | .bi hd a b,ρ,n,h,hm,hr=>by
  have h2:=ja ag b ρ (bK ag a ρ n).2
  simp only[bK] at hm
  exact⟨h.1,vQ ag a ρ n h.2.1 om λs hn hs=>hr s hn (.inl hs),vQ ag b ρ _ h.2.2 hm λs hn hs=>hr s hn (.inr hs)⟩
 | .ite a b c,ρ,n,h,hm,hr=>by
  have h2:=ja ag b ρ (bK ag a ρ n).2
  have h3:=ja ag c ρ (bK ag b ρ (bK ag a ρ n).2).2
  simp only[bK] at hm
  exact⟨vQ ag a ρ n h.1 om λs hn hs=>hr s hn (.inl hs),vQ ag b ρ _ h.2.1 om λs hn hs=>hr s hn (.inr (.inl hs)),vQ ag c ρ _ h.2.2 hm λs hn hs=>hr s hn (.inr (.inr hs))⟩
 | .lt x a b,ρ,n,h,hm,hr=>by
  have h1:=ja ag a ρ (bo cx ag n+1)
  have h2:=ja ag b (ρ++[(x,cM cx (bo cx ag n))]) (bK ag a ρ (bo cx ag n+1)).2
  simp only[bK] at hm
  have hk:dN (cM cx (bo cx ag n))=true:=zD de om
  refine⟨hk,vQ ag a ρ _ h.2.1 om λs hn hs=>hr s hn (.inl hs),vQ ag b _ _ h.2.2 hm λs hn hs=>?_⟩
  rw[Mf]
  split
  ·exact hk
  ·rename_i e;exact hr s hn (.inr ⟨λe'=>e e'.symm,hs⟩)
 | .fn f x A B e,ρ,n,h,hm,hr=>by
  have h0:=oa cx ag n
  have h1:=oa cx ag (bo cx ag n+1)
  have h2:=ja ag e (ρ++[(f,cM cx (bo cx ag n)),(x,cM cx (bo cx ag (bo cx ag n+1)))]) (bo cx ag (bo cx ag n+1)+1)
  simp only[bK] at hm
  have hk:dN (cM cx (bo cx ag n))=true:=zD de om
  have az:dN (cM cx (bo cx ag (bo cx ag n+1)))=true:=zD de om
  obtain⟨_,_,_,hA,hB,he⟩:=h
  refine⟨hk,az,λe=>by have:=pA e;omega,hA,hB,vQ ag e _ _ he hm λs hn hs=>?_⟩
  rw[R7]
  split
  ·exact az
  ·rename_i e1
   split
   ·exact hk
   ·rename_i e2;exact hr s hn ⟨λe'=>e2 e'.symm,λe'=>e1 e'.symm,hs⟩
theorem vR (ag:List ai):∀(e:Ex) (ρ:Rn) (n:Nat) (Γ Δ:Sc),(bK ag e ρ n).2<=1000->(∀s,dN s=true->Fv s e->dN (qe ρ s)=true∧look Δ (qe ρ s)=look Γ s∧∀k,n<=k->qe ρ s≠cM cx k)->bw (bK ag e ρ n).1 Δ=bw e Γ
 | .at s,ρ,n,Γ,Δ,_,h=>by
  unfold bK bw
  by_cases hn:dN s=true
  ·obtain⟨h1,h2,_⟩:=h s hn ⟨rfl,hn⟩
   rw[iP hn,iP hn,iP h1,h2]
  ·rw[iN hn,iN hn,iN hn]
 | .un hd a,ρ,n,Γ,Δ,hm,h=>by
  unfold bK bw
  rw[vR ag a ρ n Γ Δ hm h]
 | .bi hd a b,ρ,n,Γ,Δ,hm,h=>by
  have h1:=ja ag a ρ n
  have h2:=ja ag b ρ (bK ag a ρ n).2
  simp only[bK] at hm
  unfold bK bw
  rw[vR ag a ρ n Γ Δ om λs hn hs=>h s hn (.inl hs),vR ag b ρ _ Γ Δ hm λs hn hs=>?_]
  obtain⟨q1,q2,q3⟩:=h s hn (.inr hs)
  exact⟨q1,q2,λk hk=>q3 k om⟩
 | .ite a b c,ρ,n,Γ,Δ,hm,h=>by
  have h1:=ja ag a ρ n
  have h2:=ja ag b ρ (bK ag a ρ n).2
  have h3:=ja ag c ρ (bK ag b ρ (bK ag a ρ n).2).2
  simp only[bK] at hm
  unfold bK bw
  rw[vR ag a ρ n Γ Δ om λs hn hs=>h s hn (.inl hs),vR ag b ρ _ Γ Δ om λs hn hs=>?_,vR ag c ρ _ Γ Δ hm λs hn hs=>?_]
  ·obtain⟨q1,q2,q3⟩:=h s hn (.inr (.inr hs))
   exact⟨q1,q2,λk hk=>q3 k om⟩
  ·obtain⟨q1,q2,q3⟩:=h s hn (.inr (.inl hs))
   exact⟨q1,q2,λk hk=>q3 k om⟩
 | .lt x a b,ρ,n,Γ,Δ,hm,h=>by
  have h0:=oa cx ag n
  have h1:=ja ag a ρ (bo cx ag n+1)
  have h2:=ja ag b (ρ++[(x,cM cx (bo cx ag n))]) (bK ag a ρ (bo cx ag n+1)).2
  simp only[bK] at hm
  have hk:dN (cM cx (bo cx ag n))=true:=zD de om
  unfold bK bw
  rw[vR ag a ρ _ Γ Δ om λs hn hs=>?_]
  ·cases bw a Γ with
   |none=>rfl
   |some A=>
    refine vR ag b _ _ _ _ hm λs hn hs=>?_
    rw[Mf,oJ Γ]
    by_cases e:x=s
    ·rw[iP e,iP e,oJ,iP rfl]
     exact⟨hk,rfl,λk hk e=>by have:=pA e;omega⟩
    ·rw[iN e,iN e]
     obtain⟨q1,q2,q3⟩:=h s hn (.inr ⟨λe'=>e e'.symm,hs⟩)
     rw[oJ,iN (λe=>q3 _ h0.1 e.symm)]
     exact⟨q1,q2,λk hk=>q3 k om⟩
  ·obtain⟨q1,q2,q3⟩:=h s hn (.inl hs)
   exact⟨q1,q2,λk hk=>q3 k om⟩
 | .fn f x A B e,ρ,n,Γ,Δ,hm,h=>by
  have h0:=oa cx ag n
  have h1:=oa cx ag (bo cx ag n+1)
  have h2:=ja ag e (ρ++[(f,cM cx (bo cx ag n)),(x,cM cx (bo cx ag (bo cx ag n+1)))]) (bo cx ag (bo cx ag n+1)+1)
  simp only[bK] at hm
  have hk:dN (cM cx (bo cx ag n))=true:=zD de om
  have az:dN (cM cx (bo cx ag (bo cx ag n+1)))=true:=zD de om
  unfold bK bw
  rw[vR ag e _ _ (Γ++[(f,.op true A B),(x,A)]) _ hm λs hn hs=>?_]
  rw[R7,zC Γ]
  by_cases e1:x=s
  ·rw[iP e1,iP e1,zC,iP rfl]
   exact⟨az,rfl,λk hk e=>by have:=pA e;omega⟩
  ·by_cases e2:f=s
   ·rw[iN e1,iN e1,iP e2,iP e2,zC,iN (λe=>by have:=pA e;omega),iP rfl]
    exact⟨hk,rfl,λk hk e=>by have:=pA e;omega⟩
   ·rw[iN e1,iN e1,iN e2,iN e2]
    obtain⟨q1,q2,q3⟩:=h s hn ⟨λe'=>e2 e'.symm,λe'=>e1 e'.symm,hs⟩
    rw[zC,iN (λe=>q3 _ om e.symm),iN (λe=>q3 _ h0.1 e.symm)]
    exact⟨q1,q2,λk hk=>q3 k om⟩
/-! ### The aK that are bound -/
def eI:Ex->List ai
 | .at _=>[]
 | .un _ a=>eI a
 | .bi _ a b=>eI a++eI b
 | .ite a b c=>eI a++(eI b++eI c)
 | .lt x a b=>x::(eI a++eI b)
 | .fn f x _ _ e=>f::x::eI e
theorem vS (ag:List ai):∀(e:Ex) (ρ:Rn) (n:Nat),(eI (bK ag e ρ n).1).Nodup∧∀y,y∈eI (bK ag e ρ n).1->∃k,y=cM cx k∧n<=k∧k<(bK ag e ρ n).2
 | .at s,ρ,n=>by simp[bK,eI]
 | .un hd a,ρ,n=>vS ag a ρ n
 | .bi hd a b,ρ,n=>by
  have h1:=ja ag a ρ n
  have h2:=ja ag b ρ (bK ag a ρ n).2
  obtain⟨a1,a2⟩:=vS ag a ρ n
  obtain⟨b1,b2⟩:=vS ag b ρ (bK ag a ρ n).2
  simp only[bK,eI]
  refine⟨List.nodup_append.2 ⟨a1,b1,λx hx y hy e=>?_⟩,λy hy=>?_⟩
  ·obtain⟨k,rfl,_,hk⟩:=a2 x hx
   obtain⟨j,rfl,hj,_⟩:=b2 y hy
   have:=pA e;omega
  ·rcases mA.1 hy with hy|hy
   ·obtain⟨k,e,p,q⟩:=a2 y hy;exact⟨k,e,p,om⟩
   ·obtain⟨k,e,p,q⟩:=b2 y hy;exact⟨k,e,om,q⟩
 | .ite a b c,ρ,n=>by
  have h1:=ja ag a ρ n
  have h2:=ja ag b ρ (bK ag a ρ n).2
  have h3:=ja ag c ρ (bK ag b ρ (bK ag a ρ n).2).2
  obtain⟨a1,a2⟩:=vS ag a ρ n
  obtain⟨b1,b2⟩:=vS ag b ρ (bK ag a ρ n).2
  obtain⟨c1,c2⟩:=vS ag c ρ (bK ag b ρ (bK ag a ρ n).2).2
  simp only[bK,eI]
  refine⟨List.nodup_append.2 ⟨a1,List.nodup_append.2 ⟨b1,c1,λx hx y hy e=>?_⟩,λx hx y hy e=>?_⟩,λy hy=>?_⟩
  ·obtain⟨k,rfl,_,hk⟩:=b2 x hx
   obtain⟨j,rfl,hj,_⟩:=c2 y hy
   have:=pA e;omega
  ·obtain⟨k,rfl,_,hk⟩:=a2 x hx
   rcases mA.1 hy with hy|hy
   ·obtain⟨j,rfl,hj,_⟩:=b2 y hy
    have:=pA e;omega
   ·obtain⟨j,rfl,hj,_⟩:=c2 y hy
    have:=pA e;omega
  ·rcases mA.1 hy with hy|hy
   ·obtain⟨k,e,p,q⟩:=a2 y hy;exact⟨k,e,p,om⟩
   ·rcases mA.1 hy with hy|hy
    ·obtain⟨k,e,p,q⟩:=b2 y hy;exact⟨k,e,om,om⟩
    ·obtain⟨k,e,p,q⟩:=c2 y hy;exact⟨k,e,om,q⟩
 | .lt x a b,ρ,n=>by
  have h0:=oa cx ag n
  have h1:=ja ag a ρ (bo cx ag n+1)
  have h2:=ja ag b (ρ++[(x,cM cx (bo cx ag n))]) (bK ag a ρ (bo cx ag n+1)).2
  obtain⟨a1,a2⟩:=vS ag a ρ (bo cx ag n+1)
  obtain⟨b1,b2⟩:=vS ag b (ρ++[(x,cM cx (bo cx ag n))]) (bK ag a ρ (bo cx ag n+1)).2
  simp only[bK,eI]
  refine⟨List.nodup_cons.2 ⟨λhx=>?_,List.nodup_append.2 ⟨a1,b1,λx hx y hy e=>?_⟩⟩,λy hy=>?_⟩
  ·rcases mA.1 hx with hx|hx
   ·obtain⟨k,e,p,q⟩:=a2 _ hx;have:=pA e;omega
   ·obtain⟨k,e,p,q⟩:=b2 _ hx;have:=pA e;omega
  ·obtain⟨k,rfl,_,hk⟩:=a2 x hx
   obtain⟨j,rfl,hj,_⟩:=b2 y hy
   have:=pA e;omega
  ·rcases mC.1 hy with rfl|hy
   ·exact⟨_,rfl,om,om⟩
   ·rcases mA.1 hy with hy|hy
    ·obtain⟨k,e,p,q⟩:=a2 y hy;exact⟨k,e,om,om⟩
    ·obtain⟨k,e,p,q⟩:=b2 y hy;exact⟨k,e,om,q⟩
 | .fn f x A B e,ρ,n=>by
  have h0:=oa cx ag n
  have h1:=oa cx ag (bo cx ag n+1)
  have h2:=ja ag e (ρ++[(f,cM cx (bo cx ag n)),(x,cM cx (bo cx ag (bo cx ag n+1)))]) (bo cx ag (bo cx ag n+1)+1)
  obtain⟨a1,a2⟩:=vS ag e (ρ++[(f,cM cx (bo cx ag n)),(x,cM cx (bo cx ag (bo cx ag n+1)))]) (bo cx ag (bo cx ag n+1)+1)
  simp only[bK,eI]
  refine⟨List.nodup_cons.2 ⟨λhx=>?_,List.nodup_cons.2 ⟨λhx=>?_,a1⟩⟩,λy hy=>?_⟩
  ·rcases mC.1 hx with hx|hx
   ·have:=pA hx;omega
   ·obtain⟨k,e,p,q⟩:=a2 _ hx;have:=pA e;omega
  ·obtain⟨k,e,p,q⟩:=a2 _ hx;have:=pA e;omega
  ·rcases mC.1 hy with rfl|hy
   ·exact⟨_,rfl,om,om⟩
   ·rcases mC.1 hy with rfl|hy
    ·exact⟨_,rfl,om,om⟩
    ·obtain⟨k,e,p,q⟩:=a2 y hy;exact⟨k,e,om,q⟩
theorem pC:∀{e:Ex} {Γ:Sc} {T:Ty},bw e Γ=some T->Fv s e->(look Γ s).isSome=true
 | .at x,Γ,T,h,hs=>by
  obtain⟨rfl,hn⟩:=hs
  unfold bw at h;rw[iP hn] at h;rw[h];rfl
 | .un hd a,Γ,T,h,hs=>by
  unfold bw at h
  cases ha:bw a Γ with
  |none=>rw[ha] at h;cases h
  |some A=>exact pC ha hs
 | .bi hd a b,Γ,T,h,hs=>by
  unfold bw at h
  cases ha:bw a Γ with
  |none=>rw[ha] at h;cases h
  |some A=>
   cases hb:bw b Γ with
   |none=>rw[ha,hb] at h;cases h
   |some B=>exact hs.elim (pC ha) (pC hb)
 | .ite a b c,Γ,T,h,hs=>by
  unfold bw at h
  cases ha:bw a Γ with
  |none=>rw[ha] at h;cases h
  |some A=>
   cases hb:bw b Γ with
   |none=>rw[ha,hb] at h;cases h
   |some B=>
    cases hc:bw c Γ with
    |none=>rw[ha,hb,hc] at h;cases h
    |some C=>exact hs.elim (pC ha) λhs=>hs.elim (pC hb) (pC hc)
 | .lt x a b,Γ,T,h,hs=>by
  unfold bw at h
  cases ha:bw a Γ with
  |none=>rw[ha] at h;cases h
  |some A=>
   rw[ha,Option.bind_some] at h
   rcases hs with hs|⟨dH,hs⟩
   ·exact pC ha hs
   ·have:=pC h hs
    rw[oJ,iN (λe=>dH e.symm)] at this;exact this
 | .fn f x A B e,Γ,T,h,hs=>by
  unfold bw at h
  split at h
  ·cases he:bw e (Γ++[(f,.op true A B),(x,A)]) with
   |none=>rw[he] at h;cases h
   |some C=>
    obtain⟨h1,h2,h3⟩:=hs
    have:=pC he h3
    rw[zC,iN (λe=>h2 e.symm),iN (λe=>h1 e.symm)] at this;exact this
  ·cases h
abbrev Bs:=List (ai×Ex)
abbrev cy:UInt8:=121
def nest (bs:Bs) (e:Ex):Ex:=bs.foldr (λp e=>.lt p.1 p.2 e) e
def dz (ag:List ai) (r:Bs×Ex×Nat):Bs×Ex×Nat:=
 if r.2.1.iv=true then r else(r.1++[(cM cy (bo cy ag r.2.2),r.2.1)],.at (cM cy (bo cy ag r.2.2)),bo cy ag r.2.2+1)
def aY (ag:List ai):Ex->Nat->Bs×Ex×Nat
 | .at s,n=>([],.at s,n)
 | .un h a,n=>((dz ag (aY ag a n)).1,.un h (dz ag (aY ag a n)).2.1,(dz ag (aY ag a n)).2.2)
 | .bi h a b,n=>((dz ag (aY ag a n)).1++(dz ag (aY ag b (dz ag (aY ag a n)).2.2)).1,.bi h (dz ag (aY ag a n)).2.1 (dz ag (aY ag b (dz ag (aY ag a n)).2.2)).2.1,(dz ag (aY ag b (dz ag (aY ag a n)).2.2)).2.2)
 | .ite a b c,n=>((dz ag (aY ag a n)).1,.ite (dz ag (aY ag a n)).2.1 (nest (aY ag b (dz ag (aY ag a n)).2.2).1 (aY ag b (dz ag (aY ag a n)).2.2).2.1)
   (nest (aY ag c (aY ag b (dz ag (aY ag a n)).2.2).2.2).1 (aY ag c (aY ag b (dz ag (aY ag a n)).2.2).2.2).2.1),(aY ag c (aY ag b (dz ag (aY ag a n)).2.2).2.2).2.2)
 | .lt x a b,n=>((aY ag a n).1++(x,(aY ag a n).2.1)::(aY ag b (aY ag a n).2.2).1,(aY ag b (aY ag a n).2.2).2.1,(aY ag b (aY ag a n).2.2).2.2)
 | .fn f x A B e,n=>([],.fn f x A B (nest (aY ag e n).1 (aY ag e n).2.1),(aY ag e n).2.2)
def my (ag:List ai) (e:Ex) (n:Nat):Ex:=nest (aY ag e n).1 (aY ag e n).2.1
/-! ### How many aK -/
theorem qf (ag:List ai) (r:Bs×Ex×Nat):r.2.2<=(dz ag r).2.2∧(dz ag r).2.2<=r.2.2+ag.length+2:=by grind [dz,oa]
theorem ic (ag:List ai):∀(e:Ex) (n:Nat),n<=(aY ag e n).2.2∧(aY ag e n).2.2+2*(ag.length+2)<=n+e.n*(2*(ag.length+2))
 | .at s,n=>⟨lR _,by simp only[aY,Ex.n];omega⟩
 | .un h a,n=>by
  have:=ic ag a n
  have:=qf ag (aY ag a n)
  simp only[aY,Ex.n,Nat.add_mul];omega
 | .bi h a b,n=>by
  have:=ic ag a n
  have:=qf ag (aY ag a n)
  have:=ic ag b (dz ag (aY ag a n)).2.2
  have:=qf ag (aY ag b (dz ag (aY ag a n)).2.2)
  simp only[aY,Ex.n,Nat.add_mul];omega
 | .ite a b c,n=>by
  have:=ic ag a n
  have:=qf ag (aY ag a n)
  have:=ic ag b (dz ag (aY ag a n)).2.2
  have:=ic ag c (aY ag b (dz ag (aY ag a n)).2.2).2.2
  simp only[aY,Ex.n,Nat.add_mul];omega
 | .lt x a b,n=>by
  have:=ic ag a n
  have:=ic ag b (aY ag a n).2.2
  simp only[aY,Ex.n,Nat.add_mul];omega
 | .fn f x A B e,n=>by
  have:=ic ag e n
  simp only[aY,Ex.n,Nat.add_mul];omega
/-! ### Types -/
def qF:Bs->Sc->Option Sc
 |[],Γ=>some Γ
 |(x,s)::bs,Γ=>(bw s Γ).bind λT=>qF bs (Γ++[(x,T)])
theorem IA (bs:Bs) (e:Ex) (Γ:Sc):bw (nest bs e) Γ=(qF bs Γ).bind (bw e):=by induction bs generalizing Γ<;>grind [bw,nest,qF]
theorem Mg (bs cs:Bs) (Γ:Sc):qF (bs++cs) Γ=(qF bs Γ).bind (qF cs):=by
 induction bs generalizing Γ with
 |nil=>rfl
 |cons p bs ih=>
  obtain⟨x,s⟩:=p
  show(bw s Γ).bind (λT=>qF (bs++cs) (Γ++[(x,T)]))=((bw s Γ).bind λT=>qF bs (Γ++[(x,T)])).bind (qF cs)
  cases bw s Γ with
  |none=>rfl
  |some T=>exact ih _
def DI (Δ:Sc) (s:ai):Prop:=∀p,p∈Δ->p.1≠s
theorem FQ {Γ Δ:Sc} (h:DI Δ s):look (Γ++Δ) s=look Γ s:=by grind [DI,look]
def pZ (ag:List ai) (e:Ex) (n m:Nat) (y:ai):Prop:=y∈eI e∨∃k,y=cM cy k∧n<=k∧k<m∧y∉ag
structure Made (ag:List ai) (e:Ex) (n:Nat) (r:Bs×Ex×Nat) (Γ:Sc) (T:Ty) (Δ:Sc):Prop where
 binds:qF r.1 Γ=some (Γ++Δ)
 type:bw r.2.1 (Γ++Δ)=some T
 aK:∀p,p∈Δ->pZ ag e n r.2.2 p.1
def zE (ag:List ai) (e:Ex) (n:Nat) (r:Bs×Ex×Nat):Prop:=∀s,(Fv s r.2.1∨∃p,p∈r.1∧Fv s p.2)->Fv s e∨pZ ag e n r.2.2 s
structure R9 (ag:List ai) (e:Ex):Prop where
 nodup:(eI e).Nodup
 nofree:∀x,x∈eI e->¬Fv x e
 noted:∀x,x∈eI e∨Fv x e->x∈ag
theorem pZ.more {ag:List ai} {e':Ex} {n':Nat} {y:ai} (h:pZ ag e n m y) (hb:∀x,x∈eI e->x∈eI e') (hn:n'<=n) (hm:m<=m'):pZ ag e' n' m' y:=by grind [pZ,eI]
theorem zE.aw {ag:List ai} {r:Bs×Ex×Nat} (h:zE ag e n r) (hn:n<=r.2.2):zE ag e n (dz ag r):=by grind [zE,dz,Fv,pZ,bo,oa,Iy]
theorem Mh:∀(bs:Bs) (e:Ex) (s:ai),Fv s (nest bs e)->Fv s e∨∃p,p∈bs∧Fv s p.2:=by intro x;induction x<;>grind [Fv,nest]
theorem zE.sub {ag:List ai} {e':Ex} {n':Nat} {r:Bs×Ex×Nat} (h:zE ag e n r) (hf:∀s,Fv s e->Fv s e'∨s∈eI e') (hb:∀x,x∈eI e->x∈eI e') (hn:n'<=n) (hm:r.2.2<=m') (hs:Fv s r.2.1∨∃p,p∈r.1∧Fv s p.2):Fv s e'∨pZ ag e' n' m' s:=by grind [zE,Fv,eI,pZ]
theorem vT (ag:List ai):∀(e:Ex) (n:Nat),zE ag e n (aY ag e n)
 | .at s,n=>λs hs=>hs.elim .inl fun⟨p,hp,_⟩=>by simp[aY] at hp
 | .un hd a,n=>λs hs=>((vT ag a n).aw (ic ag a n).1).sub (λs h=>.inl h) (λx h=>h) (lR _) (lR _) hs
 | .bi hd a b,n=>λs hs=>by
  have h1:=ic ag a n
  have h2:=qf ag (aY ag a n)
  have h3:=ic ag b (dz ag (aY ag a n)).2.2
  have h4:=qf ag (aY ag b (dz ag (aY ag a n)).2.2)
  have ha:=((vT ag a n).aw h1.1).sub (e':=.bi hd a b) (n':=n) (m':=(aY ag (.bi hd a b) n).2.2) (λs h=>.inl (.inl h)) (λx h=>mA.2 (.inl h)) (lR _) (by simp only[aY];omega) (s:=s)
  have hb:=((vT ag b (dz ag (aY ag a n)).2.2).aw h3.1).sub (e':=.bi hd a b) (n':=n) (m':=(aY ag (.bi hd a b) n).2.2) (λs h=>.inl (.inr h)) (λx h=>mA.2 (.inr h)) om (by simp only[aY];omega) (s:=s)
  rcases hs with(hs|hs)|⟨p,hp,hs⟩
  ·exact ha (.inl hs)
  ·exact hb (.inl hs)
  ·rcases mA.1 hp with hp|hp
   ·exact ha (.inr ⟨p,hp,hs⟩)
   ·exact hb (.inr ⟨p,hp,hs⟩)
 | .ite a b c,n=>λs hs=>by
  have h1:=ic ag a n
  have h2:=qf ag (aY ag a n)
  have h3:=ic ag b (dz ag (aY ag a n)).2.2
  have h4:=ic ag c (aY ag b (dz ag (aY ag a n)).2.2).2.2
  have ha:=((vT ag a n).aw h1.1).sub (e':=.ite a b c) (n':=n) (m':=(aY ag (.ite a b c) n).2.2) (λs h=>.inl (.inl h)) (λx h=>mA.2 (.inl h)) (lR _) (by simp only[aY];omega) (s:=s)
  have hb:=(vT ag b (dz ag (aY ag a n)).2.2).sub (e':=.ite a b c) (n':=n) (m':=(aY ag (.ite a b c) n).2.2) (λs h=>.inl (.inr (.inl h))) (λx h=>mA.2 (.inr (mA.2 (.inl h)))) om (by simp only[aY];omega) (s:=s)
  have hc:=(vT ag c (aY ag b (dz ag (aY ag a n)).2.2).2.2).sub (e':=.ite a b c) (n':=n) (m':=(aY ag (.ite a b c) n).2.2) (λs h=>.inl (.inr (.inr h))) (λx h=>mA.2 (.inr (mA.2 (.inr h)))) om (by simp only[aY];omega) (s:=s)
  rcases hs with(hs|hs|hs)|⟨p,hp,hs⟩
  ·exact ha (.inl hs)
  ·exact hb (Mh _ _ _ hs)
  ·exact hc (Mh _ _ _ hs)
  ·exact ha (.inr ⟨p,hp,hs⟩)
 | .lt x a b,n=>λs hs=>by
  have h1:=ic ag a n
  have h3:=ic ag b (aY ag a n).2.2
  have ha:=(vT ag a n).sub (e':=.lt x a b) (n':=n) (m':=(aY ag (.lt x a b) n).2.2) (λs h=>.inl (.inl h)) (λy h=>mK _ (mA.2 (.inl h))) (lR _) (by simp only[aY];omega) (s:=s)
  have hb:=(vT ag b (aY ag a n).2.2).sub (e':=.lt x a b) (n':=n) (m':=(aY ag (.lt x a b) n).2.2) (λs h=>by
   by_cases e:s=x
   ·exact .inr (by rw[e];exact List.mem_cons_self ..)
   ·exact .inl (.inr ⟨e,h⟩)) (λy h=>mK _ (mA.2 (.inr h))) om (by simp only[aY];omega) (s:=s)
  rcases hs with hs|⟨p,hp,hs⟩
  ·exact hb (.inl hs)
  ·rcases mA.1 hp with hp|hp
   ·exact ha (.inr ⟨p,hp,hs⟩)
   ·rcases mC.1 hp with rfl|hp
    ·exact ha (.inl hs)
    ·exact hb (.inr ⟨p,hp,hs⟩)
 | .fn f x A B e,n=>λs hs=>by
  rcases hs with⟨h1,h2,hs⟩|⟨p,hp,_⟩
  ·rcases vT ag e n s (Mh _ _ _ hs) with h|h
   ·exact .inl ⟨h1,h2,h⟩
   ·exact .inr (h.more (λy hy=>mK _ (mK _ hy)) (lR _) (lR _))
  ·simp[aY] at hp
theorem Made.aw {ag:List ai} {r:Bs×Ex×Nat} {Γ:Sc} {T:Ty} {Δ:Sc} (h:Made ag e n r Γ T Δ) (hn:n<=r.2.2) (Mi:(dz ag r).2.2<=1000):∃Δ',Made ag e n (dz ag r) Γ T Δ':=by
 unfold dz at Mi⊢
 have hf:=oa cy ag r.2.2
 have zF:=Iy cy ag r.2.2
 split
 ·exact⟨Δ,h⟩
 ·rename_i eD
  rw[iN eD] at Mi
  have hk:dN (cM cy (bo cy ag r.2.2))=true:=zD de (by dsimp only at Mi;omega)
  refine⟨Δ++[(cM cy (bo cy ag r.2.2),T)],⟨?_,?_,?_⟩⟩
  ·rw[Mg,h.binds,Option.bind_some]
   show(bw r.2.1 (Γ++Δ)).bind _=_
   rw[h.type,Option.bind_some,List.append_assoc];rfl
  ·show(if dN (cM cy (bo cy ag r.2.2))=true then look (Γ++(Δ++[(cM cy (bo cy ag r.2.2),T)])) (cM cy (bo cy ag r.2.2)) else some Ty.i)=some T
   rw[iP hk,<-List.append_assoc,oJ,iP rfl]
  ·intro p hp
   rcases mA.1 hp with hp|hp
   ·exact(h.aK p hp).more (λx hx=>hx) (lR _) (by dsimp only;omega)
   ·simp only[List.mem_singleton] at hp
    subst hp
    exact .inr ⟨_,rfl,om,by dsimp only;omega,zF⟩
theorem IB {ag:List ai} {a:Ex} {Δ:Sc} (h:∀p,p∈Δ->pZ ag a n m p.1) (h1:s∉eI a) (h2:s∈ag):DI Δ s:=by grind [pZ,eI,DI]
theorem ad4 {ag:List ai} {a b:Ex} {Δ:Sc} (hs:Fv s a∨pZ ag a n m s) (h:∀p,p∈Δ->pZ ag b m m' p.1) (h1:∀x,x∈eI b->¬Fv x a) (h2:∀x,x∈eI b->x∉eI a) (h3:∀x,x∈eI b->x∈ag) (h4:∀x,x∈eI a∨Fv x a->x∈ag):DI Δ s:=by grind [Fv,pZ,eI,DI,pA]
theorem made (ag:List ai):∀(e:Ex) (n:Nat) (Γ:Sc) (T:Ty),R9 ag e->(aY ag e n).2.2<=1000->bw e Γ=some T->∃Δ,Made ag e n (aY ag e n) Γ T Δ
 | .at s,n,Γ,T,hu,hm,h=>⟨[],⟨by simp[aY,qF],by simpa[aY] using h,sm⟩⟩
 | .un hd a,n,Γ,T,hu,hm,h=>by
  have h1:=ic ag a n
  have h2:=qf ag (aY ag a n)
  simp only[aY] at hm
  unfold bw at h
  cases ha:bw a Γ with
  |none=>rw[ha] at h;cases h
  |some A=>
   rw[ha,Option.bind_some] at h
   obtain⟨Δ,hΔ⟩:=made ag a n Γ A ⟨hu.nodup,hu.nofree,hu.noted⟩ om ha
   obtain⟨Δ',hΔ'⟩:=hΔ.aw h1.1 hm
   refine⟨Δ',⟨hΔ'.binds,?_,hΔ'.aK⟩⟩
   show(bw (dz ag (aY ag a n)).2.1 (Γ++Δ')).bind (λA=>kB hd [A])=some T
   rw[hΔ'.type,Option.bind_some];exact h
 | .bi hd a b,n,Γ,T,hu,hm,h=>by
  have h1:=ic ag a n
  have h2:=qf ag (aY ag a n)
  have h3:=ic ag b (dz ag (aY ag a n)).2.2
  have h4:=qf ag (aY ag b (dz ag (aY ag a n)).2.2)
  have oK:=(vT ag a n).aw h1.1
  simp only[aY] at hm
  unfold bw at h
  cases ha:bw a Γ with
  |none=>rw[ha] at h;cases h
  |some A=>
   cases hb:bw b Γ with
   |none=>rw[ha,hb] at h;cases h
   |some B=>
    rw[ha,hb,Option.bind_some,Option.bind_some] at h
    have iV:=List.nodup_append.1 hu.nodup
    obtain⟨Δ1,hΔ1⟩:=made ag a n Γ A ⟨iV.1,λx hx hf=>hu.nofree x (mA.2 (.inl hx)) (.inl hf),λx hx=>hu.noted x (hx.imp (λh=>mA.2 (.inl h)) .inl)⟩ om ha
    obtain⟨Δ1',hΔ1'⟩:=hΔ1.aw h1.1 om
    have gO:bw b (Γ++Δ1')=some B:=by
     rw[<-hb]
     refine qd b _ _ λs hn hs=>FQ (IB hΔ1'.aK (λhx=>hu.nofree s (mA.2 (.inl hx)) (.inr hs)) (hu.noted s (.inr (.inr hs))))
    obtain⟨Δ2,hΔ2⟩:=made ag b (dz ag (aY ag a n)).2.2 (Γ++Δ1') B ⟨iV.2.1,λx hx hf=>hu.nofree x (mA.2 (.inr hx)) (.inr hf),λx hx=>hu.noted x (hx.imp (λh=>mA.2 (.inr h)) .inr)⟩ om gO
    obtain⟨Δ2',hΔ2'⟩:=hΔ2.aw h3.1 hm
    refine⟨Δ1'++Δ2',⟨?_,?_,?_⟩⟩
    ·show qF (_++_) Γ=_
     rw[Mg,hΔ1'.binds,Option.bind_some,hΔ2'.binds,List.append_assoc]
    ·show(bw (dz ag (aY ag a n)).2.1 (Γ++(Δ1'++Δ2'))).bind (λA=>(bw (dz ag (aY ag b (dz ag (aY ag a n)).2.2)).2.1 (Γ++(Δ1'++Δ2'))).bind λB=>kB hd [A,B])=some T
     have e1:bw (dz ag (aY ag a n)).2.1 (Γ++(Δ1'++Δ2'))=some A:=by
      rw[<-hΔ1'.type,<-List.append_assoc]
      refine qd _ _ _ λs hn hs=>FQ (ad4 (oK s (.inl hs)) hΔ2'.aK ?_ ?_ ?_ ?_)
      ·exact λx hx hf=>hu.nofree x (mA.2 (.inr hx)) (.inl hf)
      ·exact λx hx fh=>iV.2.2 x fh x hx rfl
      ·exact λx hx=>hu.noted x (.inl (mA.2 (.inr hx)))
      ·exact λx hx=>hu.noted x (hx.imp (λh=>mA.2 (.inl h)) .inl)
     rw[e1,Option.bind_some,<-List.append_assoc,hΔ2'.type,Option.bind_some];exact h
    ·intro p hp
     rcases mA.1 hp with hp|hp
     ·exact(hΔ1'.aK p hp).more (λx hx=>mA.2 (.inl hx)) (lR _) (by simp only[aY];omega)
     ·exact(hΔ2'.aK p hp).more (λx hx=>mA.2 (.inr hx)) om (by simp only[aY];omega)
 | .ite a b c,n,Γ,T,hu,hm,h=>by
  have h1:=ic ag a n
  have h2:=qf ag (aY ag a n)
  have h3:=ic ag b (dz ag (aY ag a n)).2.2
  have h4:=ic ag c (aY ag b (dz ag (aY ag a n)).2.2).2.2
  simp only[aY] at hm
  unfold bw at h
  cases ha:bw a Γ with
  |none=>rw[ha] at h;cases h
  |some A=>
   cases hb:bw b Γ with
   |none=>rw[ha,hb] at h;cases h
   |some B=>
    cases hc:bw c Γ with
    |none=>rw[ha,hb,hc] at h;cases h
    |some C=>
     rw[ha,hb,hc,Option.bind_some,Option.bind_some,Option.bind_some] at h
     have iV:=List.nodup_append.1 hu.nodup
     have Sa:=List.nodup_append.1 iV.2.1
     have inB:∀x,x∈eI b->x∈eI (.ite a b c):=λx hx=>mA.2 (.inr (mA.2 (.inl hx)))
     have inC:∀x,x∈eI c->x∈eI (.ite a b c):=λx hx=>mA.2 (.inr (mA.2 (.inr hx)))
     have inA:∀x,x∈eI a->x∈eI (.ite a b c):=λx hx=>mA.2 (.inl hx)
     obtain⟨Δ1,hΔ1⟩:=made ag a n Γ A ⟨iV.1,λx hx hf=>hu.nofree x (inA x hx) (.inl hf),λx hx=>hu.noted x (hx.imp (inA x) .inl)⟩ om ha
     obtain⟨Δ1',hΔ1'⟩:=hΔ1.aw h1.1 om
     have gO:bw b (Γ++Δ1')=some B:=by
      rw[<-hb]
      refine qd b _ _ λs hn hs=>FQ (IB hΔ1'.aK (λhx=>hu.nofree s (inA s hx) (.inr (.inl hs))) (hu.noted s (.inr (.inr (.inl hs)))))
     have pj:bw c (Γ++Δ1')=some C:=by
      rw[<-hc]
      refine qd c _ _ λs hn hs=>FQ (IB hΔ1'.aK (λhx=>hu.nofree s (inA s hx) (.inr (.inr hs))) (hu.noted s (.inr (.inr (.inr hs)))))
     obtain⟨Δ2,hΔ2⟩:=made ag b (dz ag (aY ag a n)).2.2 (Γ++Δ1') B ⟨Sa.1,λx hx hf=>hu.nofree x (inB x hx) (.inr (.inl hf)),λx hx=>hu.noted x (hx.imp (inB x) λh=>.inr (.inl h))⟩ om gO
     obtain⟨Δ3,hΔ3⟩:=made ag c (aY ag b (dz ag (aY ag a n)).2.2).2.2 (Γ++Δ1') C ⟨Sa.2.1,λx hx hf=>hu.nofree x (inC x hx) (.inr (.inr hf)),λx hx=>hu.noted x (hx.imp (inC x) λh=>.inr (.inr h))⟩ hm pj
     refine⟨Δ1',⟨hΔ1'.binds,?_,?_⟩⟩
     ·show(bw (dz ag (aY ag a n)).2.1 (Γ++Δ1')).bind (λA=>(bw (nest _ _) (Γ++Δ1')).bind λB=>(bw (nest _ _) (Γ++Δ1')).bind λC=>kB gm [A,B,C])=some T
      rw[hΔ1'.type,IA,IA,hΔ2.binds,hΔ3.binds,Option.bind_some,Option.bind_some,Option.bind_some,hΔ2.type,hΔ3.type,Option.bind_some,Option.bind_some];exact h
     ·exact λp hp=>(hΔ1'.aK p hp).more inA (lR _) (by simp only[aY];omega)
 | .lt x a b,n,Γ,T,hu,hm,h=>by
  have h1:=ic ag a n
  have h3:=ic ag b (aY ag a n).2.2
  simp only[aY] at hm
  unfold bw at h
  cases ha:bw a Γ with
  |none=>rw[ha] at h;cases h
  |some A=>
   rw[ha,Option.bind_some] at h
   have FT:=List.nodup_cons.1 hu.nodup
   have iV:=List.nodup_append.1 FT.2
   have inA:∀y,y∈eI a->y∈eI (.lt x a b):=λy hy=>mK _ (mA.2 (.inl hy))
   have inB:∀y,y∈eI b->y∈eI (.lt x a b):=λy hy=>mK _ (mA.2 (.inr hy))
   have Sb:x∈eI (.lt x a b):=List.mem_cons_self ..
   obtain⟨Δ1,hΔ1⟩:=made ag a n Γ A ⟨iV.1,λy hy hf=>hu.nofree y (inA y hy) (.inl hf),λy hy=>hu.noted y (hy.imp (inA y) .inl)⟩ om ha
   have gO:bw b (Γ++(Δ1++[(x,A)]))=some T:=by
    rw[<-h,<-List.append_assoc]
    refine qd b _ _ λs hn hs=>?_
    rw[oJ,oJ]
    by_cases e:x=s
    ·rw[iP e,iP e]
    ·rw[iN e,iN e]
     have DJ:Fv s (.lt x a b):=.inr ⟨λe'=>e e'.symm,hs⟩
     exact FQ (IB hΔ1.aK (λhx=>hu.nofree s (inA s hx) DJ) (hu.noted s (.inr DJ)))
   obtain⟨Δ2,hΔ2⟩:=made ag b (aY ag a n).2.2 (Γ++(Δ1++[(x,A)])) T ⟨iV.2.1,λy hy hf=>by
    by_cases e:y=x
    ·exact FT.1 (e▸mA.2 (.inr hy))
    ·exact hu.nofree y (inB y hy) (.inr ⟨e,hf⟩),λy hy=>by
    by_cases e:y=x
    ·rw[e];exact hu.noted x (.inl Sb)
    ·exact hu.noted y (hy.imp (inB y) λh=>.inr ⟨e,h⟩)⟩ hm gO
   refine⟨Δ1++(x,A)::Δ2,⟨?_,?_,?_⟩⟩
   ·show qF (_++(x,_)::_) Γ=_
    rw[Mg,hΔ1.binds,Option.bind_some]
    show(bw (aY ag a n).2.1 (Γ++Δ1)).bind (λT=>qF _ ((Γ++Δ1)++[(x,T)]))=_
    rw[hΔ1.type,Option.bind_some,List.append_assoc,hΔ2.binds]
    simp
   ·show bw (aY ag b (aY ag a n).2.2).2.1 _=some T
    have:=hΔ2.type
    rw[show Γ++(Δ1++(x,A)::Δ2)=Γ++(Δ1++[(x,A)])++Δ2 from by simp];exact this
   ·intro p hp
    rcases mA.1 hp with hp|hp
    ·exact(hΔ1.aK p hp).more inA (lR _) (by simp only[aY];omega)
    ·rcases mC.1 hp with rfl|hp
     ·exact .inl Sb
     ·exact(hΔ2.aK p hp).more inB om (by simp only[aY];omega)
 | .fn f x A B e,n,Γ,T,hu,hm,h=>by
  simp only[aY] at hm
  unfold bw at h
  split at h
  ·rename_i hc
   cases he:bw e (Γ++[(f,.op true A B),(x,A)]) with
   |none=>rw[he] at h;cases h
   |some C=>
    rw[he,Option.bind_some] at h
    have FT:=List.nodup_cons.1 hu.nodup
    have iV:=List.nodup_cons.1 FT.2
    have inE:∀y,y∈eI e->y∈eI (.fn f x A B e):=λy hy=>mK _ (mK _ hy)
    obtain⟨Δ1,hΔ1⟩:=made ag e n (Γ++[(f,.op true A B),(x,A)]) C ⟨iV.2,λy hy hf=>by
     by_cases e1:y=x
     ·exact iV.1 (e1▸hy)
     ·by_cases e2:y=f
      ·exact FT.1 (e2▸mK _ hy)
      ·exact hu.nofree y (inE y hy) ⟨e2,e1,hf⟩,λy hy=>by
     by_cases e1:y=x
     ·rw[e1];exact hu.noted x (.inl (mK _ (List.mem_cons_self ..)))
     ·by_cases e2:y=f
      ·rw[e2];exact hu.noted f (.inl (List.mem_cons_self ..))
      ·exact hu.noted y (hy.imp (inE y) λh=>⟨e2,e1,h⟩)⟩ hm he
    refine⟨[],⟨by simp[aY,qF],?_,sm⟩⟩
    show(if 1+A.n+B.n<=16 then(bw (nest (aY ag e n).1 (aY ag e n).2.1) ((Γ++[])++[(f,.op true A B),(x,A)])).bind λC=>if kA C B then some (.op true A B) else none else none)=some T
    rw[iP hc,List.append_nil,IA,hΔ1.binds,Option.bind_some,hΔ1.type,Option.bind_some];exact h
  ·cases h
theorem ad5 {ag:List ai} {Γ:Sc} {T:Ty} (hu:R9 ag e) (hm:(aY ag e n).2.2<=1000) (h:bw e Γ=some T):bw (my ag e n) Γ=some T:=by
 obtain⟨Δ,hΔ⟩:=made ag e n Γ T hu hm h
 unfold my
 rw[IA,hΔ.binds,Option.bind_some,hΔ.type]
/-! ### Atoms of a form -/
mutual
def kZ:au->List ai->List ai
 | .mk a ps,l=>if a≠[] then(if a∈l then l else l++[a]) else oL ps l
def oL:List au->List ai->List ai
 |[],l=>l
 |t::ts,l=>oL ts (kZ t l)
end
theorem Sd (t:au) (l:List ai):kZ t l=if t.aw≠[] then(if t.aw∈l then l else l++[t.aw]) else oL t.ak l:=by cases t with|mk a ps=>rw[kZ];rfl
theorem ad6:∀(xs ys:List au) (l:List ai),oL (xs++ys) l=oL ys (oL xs l):=by intro x;induction x<;>grind [oL]
theorem ad7 {ps:List au} {i:Nat} {p:au} (h:ps[i]?=some p) (l:List ai):oL (ps.take (i+1)) l=kZ p (oL (ps.take i) l):=by
 rw[List.take_add_one,h,ad6];rfl
mutual
theorem ad8:∀(t:au) (l:List ai),x∈l->x∈kZ t l
 | .mk a ps,l,h=>by
  unfold kZ
  split
  ·split
   ·exact h
   ·exact mA.2 (.inl h)
  ·exact Mj ps l h
theorem Mj:∀(ps:List au) (l:List ai),x∈l->x∈oL ps l
 |[],l,h=>h
 |t::ts,l,h=>by unfold oL;exact Mj ts _ (ad8 t l h)
end
mutual
theorem Se:∀(t:au) (l:List ai),(kZ t l).length<=l.length+fg t
 | .mk a ps,l=>by
  unfold kZ fg
  split
  ·split
   ·omega
   ·simp
  ·exact Ml ps l
theorem Ml:∀(ps:List au) (l:List ai),(oL ps l).length<=l.length+ju ps
 |[],l=>by simp[oL,ju]
 |t::ts,l=>by
  have h1:=Se t l
  have h2:=Ml ts (kZ t l)
  unfold oL ju;omega
end
theorem ad9:∀{ps:List au} {l:List ai} {p:au},p∈ps->(∀l,x∈kZ p l)->x∈oL ps l:=by intro x;induction x<;>grind [oL,Mj]
theorem IC (hx:x≠[]) (l:List ai):x∈kZ (bL x) l:=by grind [kZ,bL]
theorem tt {ps:List au} {p:au} (hp:p∈ps) (h:∀l,x∈kZ p l) (l:List ai):x∈kZ (.mk [] ps) l:=by grind [kZ,ad9]
theorem vU:∀{e:Ex},e.ok->(x∈eI e∨Fv x e)->∀l,x∈kZ e.aq l
 | .at s,h,hx,l=>by
  rcases hx with hx|⟨rfl,_⟩
  ·simp[eI] at hx
  ·exact IC (pz h) l
 | .un hd a,h,hx,l=>tt (p:=a.aq) sm (vU h.2 hx) l
 | .bi hd a b,h,hx,l=>by
  have ha:(x∈eI a∨Fv x a)∨(x∈eI b∨Fv x b):=by
   rcases hx with hx|hx
   ·rcases mA.1 hx with h|h
    ·exact .inl (.inl h)
    ·exact .inr (.inl h)
   ·rcases hx with h|h
    ·exact .inl (.inr h)
    ·exact .inr (.inr h)
  rcases ha with ha|hb
  ·exact tt (p:=a.aq) sm (vU h.2.1 ha) l
  ·exact tt (p:=b.aq) sm (vU h.2.2 hb) l
 | .ite a b c,h,hx,l=>by
  have ha:(x∈eI a∨Fv x a)∨(x∈eI b∨Fv x b)∨(x∈eI c∨Fv x c):=by
   rcases hx with hx|hx
   ·rcases mA.1 hx with h|h
    ·exact .inl (.inl h)
    ·rcases mA.1 h with h|h
     ·exact .inr (.inl (.inl h))
     ·exact .inr (.inr (.inl h))
   ·rcases hx with h|h|h
    ·exact .inl (.inr h)
    ·exact .inr (.inl (.inr h))
    ·exact .inr (.inr (.inr h))
  rcases ha with ha|hb|hc
  ·exact tt (p:=a.aq) sm (vU h.1 ha) l
  ·exact tt (p:=b.aq) sm (vU h.2.1 hb) l
  ·exact tt (p:=c.aq) sm (vU h.2.2 hc) l
 | .lt y a b,h,hx,l=>by
  have ha:x=y∨(x∈eI a∨Fv x a)∨(x∈eI b∨Fv x b):=by
   rcases hx with hx|hx
   ·rcases mC.1 hx with h|h
    ·exact .inl h
    ·rcases mA.1 h with h|h
     ·exact .inr (.inl (.inl h))
     ·exact .inr (.inr (.inl h))
   ·rcases hx with h|⟨_,h⟩
    ·exact .inr (.inl (.inr h))
    ·exact .inr (.inr (.inr h))
  rcases ha with rfl|ha|hb
  ·exact tt (p:=bL x) sm (λl=>IC (uC h.1) l) l
  ·exact tt (p:=a.aq) sm (vU h.2.1 ha) l
  ·exact tt (p:=b.aq) sm (vU h.2.2 hb) l
 | .fn f y A B e,h,hx,l=>by
  obtain⟨hf,hy,_,_,_,he⟩:=h
  have ha:x=f∨x=y∨(x∈eI e∨Fv x e):=by
   rcases hx with hx|hx
   ·rcases mC.1 hx with h|h
    ·exact .inl h
    ·rcases mC.1 h with h|h
     ·exact .inr (.inl h)
     ·exact .inr (.inr (.inl h))
   ·exact .inr (.inr (.inr hx.2.2))
  rcases ha with rfl|rfl|ha
  ·exact tt (p:=bL x) sm (λl=>IC (uC hf) l) l
  ·exact tt (p:=bL x) sm (λl=>IC (uC hy) l) l
  ·exact tt (p:=e.aq) sm (vU he ha) l
/-! ### Expressions stay expressions -/
structure ID (r:Bs×Ex×Nat):Prop where
 out:r.2.1.ok
 bs:∀p,p∈r.1->dN p.1=true∧p.2.ok
theorem ID.aw {ag:List ai} {r:Bs×Ex×Nat} (h:ID r) (hm:(dz ag r).2.2<=1000):ID (dz ag r):=by
 unfold dz at hm⊢
 split
 ·exact h
 ·rename_i eD
  rw[iN eD] at hm
  have hk:dN (cM cy (bo cy ag r.2.2))=true:=zD de (by dsimp only at hm;omega)
  refine⟨?_,λp hp=>?_⟩
  ·show p9 _=true
   unfold p9;rw[hk];simp
  ·rcases mA.1 hp with hp|hp
   ·exact h.bs p hp
   ·simp only[List.mem_singleton] at hp
    subst hp
    exact⟨hk,h.out⟩
theorem IE:∀{bs:Bs} {e:Ex},(∀p,p∈bs->dN p.1=true∧p.2.ok)->e.ok->(nest bs e).ok:=by intro x;induction x<;>grind [dN,Ex.ok,nest]
theorem vV (ag:List ai):∀(e:Ex) (n:Nat),e.ok->(aY ag e n).2.2<=1000->ID (aY ag e n)
 | .at s,n,h,_=>⟨h,by simp[aY]⟩
 | .un hd a,n,h,hm=>by
  have h1:=ic ag a n
  have h2:=qf ag (aY ag a n)
  simp only[aY] at hm
  have ha:=(vV ag a n h.2 om).aw hm
  exact⟨⟨h.1,ha.out⟩,ha.bs⟩
 | .bi hd a b,n,h,hm=>by
  have h1:=ic ag a n
  have h2:=qf ag (aY ag a n)
  have h3:=ic ag b (dz ag (aY ag a n)).2.2
  have h4:=qf ag (aY ag b (dz ag (aY ag a n)).2.2)
  simp only[aY] at hm
  have ha:=(vV ag a n h.2.1 om).aw (ag:=ag) om
  have hb:=(vV ag b (dz ag (aY ag a n)).2.2 h.2.2 om).aw (ag:=ag) hm
  exact⟨⟨h.1,ha.out,hb.out⟩,λp hp=>(mA.1 hp).elim (ha.bs p) (hb.bs p)⟩
 | .ite a b c,n,h,hm=>by
  have h1:=ic ag a n
  have h2:=qf ag (aY ag a n)
  have h3:=ic ag b (dz ag (aY ag a n)).2.2
  have h4:=ic ag c (aY ag b (dz ag (aY ag a n)).2.2).2.2
  simp only[aY] at hm
  have ha:=(vV ag a n h.1 om).aw (ag:=ag) om
  have hb:=vV ag b (dz ag (aY ag a n)).2.2 h.2.1 om
  have hc:=vV ag c (aY ag b (dz ag (aY ag a n)).2.2).2.2 h.2.2 hm
  exact⟨⟨ha.out,IE hb.bs hb.out,IE hc.bs hc.out⟩,ha.bs⟩
 | .lt x a b,n,h,hm=>by
  have h1:=ic ag a n
  have h3:=ic ag b (aY ag a n).2.2
  simp only[aY] at hm
  have ha:=vV ag a n h.2.1 om
  have hb:=vV ag b (aY ag a n).2.2 h.2.2 hm
  refine⟨hb.out,λp hp=>?_⟩
  rcases mA.1 hp with hp|hp
  ·exact ha.bs p hp
  ·rcases mC.1 hp with rfl|hp
   ·exact⟨h.1,ha.out⟩
   ·exact hb.bs p hp
 | .fn f x A B e,n,h,hm=>by
  obtain⟨hf,hx,dH,hA,hB,he⟩:=h
  simp only[aY] at hm
  have ha:=vV ag e n he hm
  exact⟨⟨hf,hx,dH,hA,hB,IE ha.bs ha.out⟩,by simp[aY]⟩
def pD (bs:Bs):Nat:=(bs.map λp=>2+p.2.n).sum
theorem Sf (a b:Bs):pD (a++b)=pD a+pD b:=by grind [pD]
theorem Sg (p:ai×Ex) (b:Bs):pD (p::b)=2+p.2.n+pD b:=by simp[pD]
theorem Mm (bs:Bs) (e:Ex):(nest bs e).n=pD bs+e.n:=by induction bs<;>grind [nest,Ty.n,Ex.n,pD]
theorem IF (ag:List ai) (r:Bs×Ex×Nat):pD (dz ag r).1+(dz ag r).2.1.n<=pD r.1+r.2.1.n+3:=by grind [pD,dz,Ty.n,Ex.n]
theorem uF (ag:List ai):∀(e:Ex) (n:Nat),pD (aY ag e n).1+(aY ag e n).2.1.n+3<=4*e.n
 | .at s,n=>by simp[aY,pD,Ex.n]
 | .un hd a,n=>by
  have:=uF ag a n
  have:=IF ag (aY ag a n)
  simp only[aY,Ex.n];omega
 | .bi hd a b,n=>by
  have:=uF ag a n
  have:=IF ag (aY ag a n)
  have:=uF ag b (dz ag (aY ag a n)).2.2
  have:=IF ag (aY ag b (dz ag (aY ag a n)).2.2)
  simp only[aY,Ex.n,Sf];omega
 | .ite a b c,n=>by
  have:=uF ag a n
  have:=IF ag (aY ag a n)
  have:=uF ag b (dz ag (aY ag a n)).2.2
  have:=uF ag c (aY ag b (dz ag (aY ag a n)).2.2).2.2
  simp only[aY,Ex.n,Mm];omega
 | .lt x a b,n=>by
  have:=uF ag a n
  have:=uF ag b (aY ag a n).2.2
  simp only[aY,Ex.n,Sf,Sg];omega
 | .fn f x A B e,n=>by
  have:=uF ag e n
  simp only[aY,Ex.n,Mm]
  rw[show pD ([]:Bs)=0 from rfl];omega
/-! ### The normal form -/
def qg (e:Ex):Option Ex:=if(bK (cI e [] []) e [] 0).2<=100 then some (bK (cI e [] []) e [] 0).1 else none
def nv (e:Ex):Option Ex:=(qg e).bind λp=>if(aY (kZ p.aq []) p 0).2.2<=100 then some (my (kZ p.aq []) p 0) else none
theorem Mn {p:Ex} (h:e.ok) (hp:qg e=some p):p.ok:=by
 unfold qg at hp
 split at hp
 ·cases hp
  exact vQ _ e [] 0 h om λs hn _=>hn
 ·cases hp
theorem Mo {q:Ex} (h:e.ok) (hq:nv e=some q):q.ok:=by
 unfold nv at hq
 cases hp:qg e with
 |none=>rw[hp] at hq;cases hq
 |some p=>
  rw[hp,Option.bind_some] at hq
  split at hq
  ·cases hq
   have:=vV (kZ p.aq []) p 0 (Mn h hp) om
   exact IE this.bs this.out
  ·cases hq
theorem Sh {q:Ex} {T:Ty} (h:e.ok) (ht:bw e []=some T) (hq:nv e=some q):bw q []=some T:=by
 unfold nv at hq
 cases hp:qg e with
 |none=>rw[hp] at hq;cases hq
 |some p=>
  have DK:=Mn h hp
  rw[hp,Option.bind_some] at hq
  split at hq
  ·rename_i hm
   cases hq
   unfold qg at hp
   split at hp
   ·rename_i rv
    cases hp
    have noFv:∀s,¬Fv s e:=λs hs=>by have:=pC ht hs;simp[look] at this
    have Si:bw (bK (cI e [] []) e [] 0).1 []=some T:=by
     rw[<-ht]
     exact vR _ e [] 0 [] [] om λs _ hs=>absurd hs (noFv s)
    have noFp:∀s,¬Fv s (bK (cI e [] []) e [] 0).1:=λs hs=>by have:=pC Si hs;simp[look] at this
    refine ad5 ⟨(vS _ e [] 0).1,λx _=>noFp x,λx hx=>vU DK hx []⟩ om Si
   ·cases hp
  ·cases hq
/-! ### Target types -/
def zG (x:au):au:=.mk [] [bL [101],.mk [] [bL [116],.mk [] [bL [99],bL [118],x],bL [118]]]
def qG:Ty->au
 | .i=>bL [105]
 | .op false a b=>.mk [] [bL [116],qG a,qG b]
 | .op true a b=>.mk [] [bL [101],.mk [] [bL [116],.mk [] [bL [99],bL [118],qG a,zG (qG b)],bL [118]]]
def bu (t:Ty):ai:=(qG t).text
def dx (s:ai):ai:=[40,101,32,40,116,32,40,99,32,118,32]++s++[41,32,118,41,41]
theorem tu (c:UInt8) (h:eO c=true):Good (bL [c]):=.aw _ sm (by simp[h])
theorem Sj {x:au} (h:Good x):Good (zG x):=by
 refine .list _ sm λp hp=>?_
 simp only[mC,List.not_mem_nil,or_false] at hp
 rcases hp with rfl|rfl
 ·exact tu _ de
 ·refine .list _ sm λp hp=>?_
  simp only[mC,List.not_mem_nil,or_false] at hp
  rcases hp with rfl|rfl|rfl
  ·exact tu _ de
  ·refine .list _ sm λp hp=>?_
   simp only[mC,List.not_mem_nil,or_false] at hp
   rcases hp with rfl|rfl|rfl
   ·exact tu _ de
   ·exact tu _ de
   ·exact h
  ·exact tu _ de
theorem Sk (x:au):(zG x).text=dx x.text:=by simp_all[zG,au.text,Ty.text,dx,bL,rm,tj,rq,rp]
theorem Mp (s:ai):(dx s).length=s.length+16:=by simp[dx]
theorem Sl (x:au):(zG x).depth=max 3 (x.depth+3):=by
 have a0:∀c:UInt8,(bL [c]).depth=0:=λc=>rfl
 unfold zG
 simp only[au.depth,au.depth.deeps,bL];omega
theorem DL:∀t:Ty,Good (qG t)
 | .i=>tu _ de
 | .op false a b=>by
  refine .list _ sm λp hp=>?_
  simp only[mC,List.not_mem_nil,or_false] at hp
  rcases hp with rfl|rfl|rfl
  ·exact tu _ de
  ·exact DL a
  ·exact DL b
 | .op true a b=>by
  refine .list _ sm λp hp=>?_
  simp only[mC,List.not_mem_nil,or_false] at hp
  rcases hp with rfl|rfl
  ·exact tu _ de
  ·refine .list _ sm λp hp=>?_
   simp only[mC,List.not_mem_nil,or_false] at hp
   rcases hp with rfl|rfl|rfl
   ·exact tu _ de
   ·refine .list _ sm λp hp=>?_
    simp only[mC,List.not_mem_nil,or_false] at hp
    rcases hp with rfl|rfl|rfl|rfl
    ·exact tu _ de
    ·exact tu _ de
    ·exact DL a
    ·exact Sj (DL b)
   ·exact tu _ de
theorem Sm:bu .i=[105]:=rm sm
theorem Sn (a b:Ty):bu (.op false a b)=[40,116,32]++bu a++[32]++bu b++[41]:=by simp_all[bu,bL,au.text,Ty.text,qG,rm,tj,rq,rp]
theorem So (a b:Ty):bu (.op true a b)=[40,101,32,40,116,32,40,99,32,118,32]++bu a++[32]++dx (bu b)++[41,32,118,41,41]:=by simp_all[bu,dx,bL,au.text,Ty.text,qG,zG,rm,tj,rq,rp,Sk]
theorem BJ:∀t:Ty,(bu t).length+16<=17*t.n
 | .i=>by rw[Sm];simp[Ty.n]
 | .op false a b=>by
  have:=BJ a;have:=BJ b
  rw[Sn];simp only[lA,lC,List.length_nil,Ty.n];omega
 | .op true a b=>by
  have:=BJ a;have:=BJ b
  rw[So];simp only[lA,lC,List.length_nil,Ty.n,Mp];omega
theorem DM:∀t:Ty,(qG t).depth+3<=3*t.n
 | .i=>by simp[qG,bL,au.depth,au.depth.deeps,Ty.n]
 | .op false a b=>by
  have:=DM a;have:=DM b
  have:=a.pos;have:=b.pos
  simp only[qG,au.depth,au.depth.deeps,bL,Ty.n];omega
 | .op true a b=>by
  have:=DM a;have:=DM b
  have:=a.pos;have:=b.pos
  have hn:=Sl (qG b)
  simp only[qG,au.depth,au.depth.deeps,bL,Ty.n,hn];omega
/-! ### The maker's state -/
structure Tk where
 aM:ai
 regs:List ai
 loads:Nat
 self:List ai
 sc:List (ai×Nat×Ty)
 expr:Ex
 on:Nat
 aU:ai
 next:Nat
structure Mk where
 blocks:List Bk
 bJ:List Tk
 count:Nat
 wide:Bool
 code:List ai
 types:List ai
abbrev cE:=List (ai×Nat×Ty)
def ew (s:cE):Sc:=s.map λp=>(p.1,p.2.2)
theorem DN (s:cE) (x:ai) (r:Nat) (T:Ty):ew (s++[(x,r,T)])=ew s++[(x,T)]:=by simp[ew]
def kq (s:cE) (x:ai):Nat:=((s.reverse.find? λp=>decide (p.1=x)).map λp=>p.2.1).getD 0
def j4 (s:cE) (x:ai):Ty:=(look (ew s) x).getD .i
def Mk.da (m:Mk) (kind:ai):Mk:={m with types:=m.types++[kind],wide:=m.wide||decide (40<m.types.length+1)}
def Mk.cC (m:Mk) (h:ai) (ps:List ai):Mk:={m with code:=m.code++[dP h ps]}
def Mk.k7 (m:Mk):Mk:={m with count:=m.count+1}
def Mk.aM (m:Mk):ai:=98::aT m.count
abbrev IG:ai:=[99,111,110,115,116]
abbrev ly:ai:=[110,101,119]
abbrev sk:ai:=[108,97,98]
abbrev sn:ai:=[112,97,99,107]
abbrev zH:ai:=[111,112,101,110]
abbrev sq:ai:=[103,101,116]
abbrev nz:ai:=[109,111,118]
abbrev zI:ai:=[106,117,109,112]
abbrev FU:ai:=[122,101,114,111]
abbrev BK:ai:=[109,97,105,110]
abbrev zJ:ai:=[101,110,100]
def Ex.aw:Ex->ai
 | .at s=>s
 |_=>[]
theorem Ex.qH (e:Ex):e.aq.aw=e.aw:=by cases e<;>rfl
def bW (m:Mk) (s:cE) (a:ai):Mk×Nat:=if dN a then(m,kq s a) else((m.da [105]).cC IG [aT m.types.length,a],m.types.length)
structure Pk where
 m:Mk
 r:Nat
 w:ai
def oN (m:Mk) (s:cE) (ton:Nat) (aK:List ai) (on aM kind:ai) (ck:List ai):Pk:=
 let regs:=aK.map (λx=>aT (kq s x))++(if on≠[] then[aT ton] else[])
 let tys:=aK.map (λx=>bu (j4 s x))++(if on≠[] then[on] else[])
 let w:=dP [116] tys
 let r:=m.types.length
 let code:=dP [99] (w::ck)
 ⟨(((((((m.da w).cC ly (aT r::regs)).da code).cC sk [aT (r+1),aM]).da (dP [116] [code,w])).cC ly [aT (r+2),aT (r+1),aT r]).da kind).cC sn [aT (r+3),aT (r+2),kind,w],r+3,w⟩
def im (s:cE) (k:Nat) (aK:List ai) (from_:cE):cE:=from_++(aK.zipIdx).map λp=>(p.1,k+p.2,j4 s p.1)
def ob (m:Mk) (s:cE) (f x:ai) (A B:Ty) (e:Ex):Pk:=oN m.k7 s 0 (cI (.fn f x A B e) [] []) [] m.aM (bu (.op true A B)) [bu A,dx (bu B)]
def zK (s:cE) (f x:ai) (A B:Ty) (e:Ex):cE:=
 (if 0<jR f e then im s 3 (cI (.fn f x A B e) [] []) []++[(f,3+(cI (.fn f x A B e) [] []).length+2,.op true A B)] else im s 3 (cI (.fn f x A B e) [] []) [])++[(x,1,A)]
def zM (m:Mk) (s:cE) (f x:ai) (A B:Ty) (e:Ex):Tk:=
 ⟨m.aM,[(ob m s f x A B e).w,bu A,dx (bu B)],(cI (.fn f x A B e) [] []).length,if 0<jR f e then[bu (.op true A B),(ob m s f x A B e).w] else[],zK s f x A B e,e,2,dx (bu B),3⟩
def zN (m:Mk) (s:cE) (f x:ai) (A B:Ty) (e:Ex):Mk×Nat:=
 ({(ob m s f x A B e).m with bJ:=(ob m s f x A B e).m.bJ++[zM m s f x A B e]},(ob m s f x A B e).r)
def qh (h:ai):ai:=if h=[43] then[97,100,100] else if h=[45] then[115,117,98] else if h=[42] then[109,117,108] else ly
def mz (m:Mk) (s:cE) (kind:Ty):Ex->Mk×Nat
 | .at a=>bW m s a
 | .fn f x A B e=>zN m s f x A B e
 | .un h a=>
  let p:=bW m s a.aw
  ((p.1.da (bu kind)).cC sq [aT p.1.types.length,aT p.2,if h=qE then[49] else[48]],p.1.types.length)
 | .bi h a b=>
  let p:=bW m s a.aw
  let q:=bW p.1 s b.aw
  ((q.1.da (bu kind)).cC (qh h) [aT q.1.types.length,aT p.2,aT q.2],q.1.types.length)
 | .ite a b _=>
  let p:=bW m s a.aw
  let q:=bW p.1 s b.aw
  ((q.1.da (bu kind)).cC (qh gm) [aT q.1.types.length,aT p.2,aT q.2],q.1.types.length)
 | .lt x a _=>
  let p:=bW m s x
  let q:=bW p.1 s a.aw
  ((q.1.da (bu kind)).cC (qh fV) [aT q.1.types.length,aT p.2,aT q.2],q.1.types.length)
def oc (m:Mk) (s:cE) (ton:Nat) (aU name:ai) (kind:Ty) (rest:Ex):Pk:=oN m.k7 s ton (cI rest [name] []) aU m.aM (dx (bu kind)) [bu kind]
def IH (m:Mk) (s:cE) (ton:Nat) (aU name:ai) (kind:Ty) (rest:Ex):Tk:=
 ⟨m.aM,[(oc m s ton aU name kind rest).w,bu kind],(cI rest [name] []).length+1,[],im s 2 (cI rest [name] []) []++[(name,1,kind)],rest,2+(cI rest [name] []).length,aU,2⟩
def tw (m:Mk) (s:cE) (ton:Nat) (aU name:ai) (kind:Ty) (rest:Ex):Mk×Nat×ai:=
 ({(oc m s ton aU name kind rest).m with bJ:=(oc m s ton aU name kind rest).m.bJ++[IH m s ton aU name kind rest]},(oc m s ton aU name kind rest).r,dx (bu kind))
def sr (m:Mk) (s:Nat):Mk:=
 let r:=m.types.length
 (((((m.da []).cC zH [aT r,aT s]).da []).cC sq [aT (r+1),aT r,[48]]).da []).cC sq [aT (r+2),aT r,[49]]
def xG (m:Mk) (f x:Nat) (on:Nat):Mk:=
 let r:=m.types.length
 ((((sr m f).cC nz [[48],aT (r+2)]).cC nz [[49],aT x]).cC nz [[50],aT on]).cC zI [aT (r+1)]
def xH (m:Mk) (on r:Nat):Mk:=
 let q:=m.types.length
 (((sr m on).cC nz [[48],aT (q+2)]).cC nz [[49],aT r]).cC zI [aT (q+1)]
structure Goal where
 name:ai
 s:Ex
 rest:Ex
def bH:Ex->Goal
 | .lt x a b=>⟨x,a,b⟩
 |e=>⟨[],e,e⟩
def nA (s:cE) (e:Ex):Ty:=(bw e (ew s)).getD .i
structure At where
 m:Mk
 s:cE
 on:Nat
 aU:ai
def II (a:At) (g:Goal):At:=
 if g.name≠[] then let c:=tw a.m a.s a.on a.aU g.name (nA a.s g.s) g.rest;⟨c.1,a.s,c.2.1,c.2.2⟩ else a
def j5 (a:At) (e:Ex):Mk ⊕ At×Ex:=
 let g:=bH e
 match g.s with
 | .bi h f x=>
  if h=j3 then
   let p:=bW a.m a.s f.aw
   let q:=bW p.1 a.s x.aw
   let b:=II {a with m:=q.1} g
   .inl (xG b.m p.2 q.2 b.on)
  else
   let p:=mz a.m a.s (nA a.s g.s) g.s
   if g.name=[] then .inl (xH p.1 a.on p.2) else .inr ({a with m:=p.1,s:=a.s++[(g.name,p.2,nA a.s g.s)]},g.rest)
 | .ite c x y=>
  let p:=bW a.m a.s c.aw
  let b:=II {a with m:=p.1} g
  let aM:=b.m.aM
  let m1:=b.m.k7.cC FU [aT p.2,aM]
  let br:Tk:=⟨aM,m1.types,0,[],a.s,x,b.on,b.aU,m1.types.length⟩
  .inr ({b with m:={m1 with bJ:=m1.bJ++[br]}},y)
 |s=>
  let p:=mz a.m a.s (nA a.s s) s
  if g.name=[] then .inl (xH p.1 a.on p.2) else .inr ({a with m:=p.1,s:=a.s++[(g.name,p.2,nA a.s s)]},g.rest)
structure Fr (L:List Nat) (w:World) (L':List Nat) (w':World):Prop where
 aG:aj L w w'
 mem:∀x,x∈L'->x∈L∨w.heap.size<=x
theorem Fr.refl (L:List Nat) (w:World):Fr L w L w:=⟨aj.refl L w,λx hx=>.inl hx⟩
theorem Fr.go {L2:List Nat} (h:Fr L w L1 w1) (k:Fr L1 w1 L2 w2):Fr L w L2 w2:=
 ⟨h.aG.since k.aG h.mem,λx hx=>by
  rcases k.mem x hx with h1|h1
  ·exact h.mem x h1
  ·have:=h.aG.size;right;omega⟩
theorem Fr.ext (h:Fr L w L1 w1) (k:aj [] w1 w2):Fr L w L1 w2:=⟨h.aG.trans k.any,h.mem⟩
theorem Fr.aD (h:Fr L w L1 w1) (k:aj G w1 w2) (hG:∀x,x∈G->x∈L1):Fr L w L1 w2:=⟨h.aG.since (k.mono hG) h.mem,h.mem⟩
theorem Fr.of (k:aj G w w') (hG:∀x,x∈G->x∈L):Fr L w L w':=⟨k.mono hG,λx hx=>.inl hx⟩
theorem Fr.to {L2:List Nat} (h:Fr L w L1 w1) (hL:∀x,x∈L2->x∈L1∨w.heap.size<=x):Fr L w L2 w1:=⟨h.aG,λx hx=>by
 rcases hL x hx with h1|h1
 ·exact h.mem x h1
 ·exact .inr h1⟩
theorem Fr.grow (h:Fr L w L1 w1):Fr L w (w1.heap.size::L1) w1:=h.to λx hx=>by
 rcases mC.1 hx with rfl|hx
 ·exact .inr h.aG.size
 ·exact .inl hx
theorem bN.go {c:C} (h:bN L w v c) (k:Fr L w L' w'):bN L' w' v c:=by
 have h1:bN (L++L') w v c:=h.fresh λx hx=>by
  rcases mA.1 hx with hx|hx
  ·exact .inl hx
  ·exact k.mem x hx
 exact(h1.aG (k.aG.mono λx hx=>List.mem_append_left _ hx)).weaken λx hx=>mR _ hx
theorem cW.go {cs:List C} (h:cW L w vs cs) (k:Fr L w L' w'):cW L' w' vs cs:=cW.of h.length λ_ _ _ hv hc=>(h.get hv hc).go k
theorem j1.go {cs:List C} (h:j1 L w v cs) (k:Fr L w L' w'):j1 L' w' v cs:=let⟨vs,e,h⟩:=h;⟨vs,e,h.go k⟩
theorem bC.go {t:au} (h:bC L w v t) (k:Fr L w L' w'):bC L' w' v t:=j1.go h k
theorem ek.go {t:List au} (h:ek L w v t) (k:Fr L w L' w'):ek L' w' v t:=bN.go h k
theorem bc.go (h:bc L w v xs) (k:Fr L w L' w'):bc L' w' v xs:=bN.go h k
theorem bc.fresh (h:bc L w v xs) (hL:∀x,x∈L'->x∈L∨w.heap.size<=x):bc L' w v xs:=bN.fresh h hL
theorem bC.fresh {t:au} (h:bC L w v t) (hL:∀x,x∈L'->x∈L∨w.heap.size<=x):bC L' w v t:=j1.fresh h hL
structure fp (L:List Nat) (w:World) (b off:Nat) (vs:List Value):Prop where
 cells:fQ w b off vs
 lt:b<w.heap.size
 out:b∉L
theorem fp.go (h:fp L w b off vs) (k:Fr L w L' w'):fp L' w' b off vs:=
 ⟨λj v hj=>(World.cell?_of_block (k.aG.block b h.lt h.out)).trans (h.cells j v hj),lL h.lt k.aG.size,λhx=>by
  rcases k.mem b hx with h1|h1
  ·exact h.out h1
  ·have:=h.lt;omega⟩
theorem fp.ext (h:fp L w b off vs) (k:aj [] w w'):fp L w' b off vs:=h.go (Fr.of k sm)
theorem fp.aD (h:fp L w b off vs) (k:aj G w w') (hG:∀x,x∈G->x∈L):fp L w' b off vs:=h.go (Fr.of k hG)
/-! ### Tasks -/
def tx (xs:List Nat):List (List C):=xs.map λx:Nat=>[.val (.int .i64 (x:Int))]
def xI (L:List Nat) (w:World) (v:Value) (xs:List Nat):Prop:=bN L w v (.sl 1 (tx xs))
theorem xI.ext {xs:List Nat} (h:xI L w v xs) (k:aj [] w w'):xI L w' v xs:=bN.ext h k
theorem xI.go {xs:List Nat} (h:xI L w v xs) (k:Fr L w L' w'):xI L' w' v xs:=bN.go h k
theorem aea {a:Option Addr} {c i x:Nat} {xs:List Nat} (h:xI L w (.slice a n c) xs) (hi:xs[i]?=some x):
  ∃b off,a=some ⟨b,off,none⟩∧fQ w b (off+i*1) [.int .i64 (x:Int)]:=by
 obtain⟨b,off,vs,ha,hb,hL,hl,hc,hr⟩:=yR h (show(tx xs)[i]?=some [.val (.int .i64 (x:Int))] by simp[tx,hi])
 match vs,hr with
 |[v],hr=>obtain⟨h1,_⟩:=hr;cases h1;exact⟨b,off,ha,hc⟩
 |[],hr=>exact hr.elim
 |_::_::_,hr=>exact hr.2.elim
def jE (s:cE):List ai:=s.map λp=>p.1
def vW (s:cE):List Nat:=s.map λp=>p.2.1
def oR (s:cE):List ai:=s.map λp=>p.2.2.text
theorem aeb (s:cE) (x:ai) (r:Nat) (T:Ty):jE (s++[(x,r,T)])=jE s++[x]:=by simp[jE]
theorem aec (s:cE) (x:ai) (r:Nat) (T:Ty):vW (s++[(x,r,T)])=vW s++[r]:=by simp[vW]
theorem aed (s:cE) (x:ai) (r:Nat) (T:Ty):oR (s++[(x,r,T)])=oR s++[T.text]:=by simp[oR]
def Tk.enc (t:Tk):List C:=
 [.val (str t.aM),.sl 1 (il t.regs),.val (.int .i64 (t.loads:Int)),.sl 1 (il t.self),.sl 1 (il (jE t.sc)),.sl 1 (tx (vW t.sc)),.sl 1 (il (oR t.sc)),.val (str t.expr.aq.aw),.sl 2 (cX t.expr.aq.ak),.val (.int .i64 (t.on:Int)),.val (str t.aU),.val (.int .i64 (t.next:Int))]
structure od (L:List Nat) (w:World) (t:Tk) (v1 v3 v4 v5 v6 v8:Value):Prop where
 regs:bc L w v1 t.regs
 self:bc L w v3 t.self
 aK:bc L w v4 (jE t.sc)
 at_:xI L w v5 (vW t.sc)
 types:bc L w v6 (oR t.sc)
 ak:ek L w v8 t.expr.aq.ak
def pE (t:Tk) (v1 v3 v4 v5 v6 v8:Value):List Value:=
 [str t.aM,v1,.int .i64 (t.loads:Int),v3,v4,v5,v6,str t.expr.aq.aw,v8,.int .i64 (t.on:Int),str t.aU,.int .i64 (t.next:Int)]
theorem aee {t:Tk} (h:cW L w vs t.enc):∃v1 v3 v4 v5 v6 v8,vs=pE t v1 v3 v4 v5 v6 v8∧od L w t v1 v3 v4 v5 v6 v8:=by
 have hl:=h.length
 unfold Tk.enc at h hl
 match vs,hl,h with
 |[u0,u1,u2,u3,u4,u5,u6,u7,u8,u9,u10,u11],_,h=>
  obtain⟨h0,h1,h2,h3,h4,h5,h6,h7,h8,h9,fB,mB,_⟩:=h
  cases h0;cases h2;cases h7;cases h9;cases fB;cases mB
  exact⟨u1,u3,u4,u5,u6,u8,rfl,h1,h3,h4,h5,h6,h8⟩
theorem od.Bx {t:Tk} (h:od L w t v1 v3 v4 v5 v6 v8):cW L w (pE t v1 v3 v4 v5 v6 v8) t.enc:=
 ⟨.val _,h.regs,.val _,h.self,h.aK,h.at_,h.types,.val _,h.ak,.val _,.val _,.val _,trivial⟩
theorem od.go {t:Tk} (h:od L w t v1 v3 v4 v5 v6 v8) (k:Fr L w L' w'):od L' w' t v1 v3 v4 v5 v6 v8:=
 ⟨h.regs.go k,h.self.go k,h.aK.go k,h.at_.go k,h.types.go k,h.ak.go k⟩
theorem od.ext {t:Tk} (h:od L w t v1 v3 v4 v5 v6 v8) (k:aj [] w w'):od L w' t v1 v3 v4 v5 v6 v8:=h.go (Fr.of k sm)
theorem od.aD {t:Tk} (h:od L w t v1 v3 v4 v5 v6 v8) (k:aj G w w') (hG:∀x,x∈G->x∈L):od L w' t v1 v3 v4 v5 v6 v8:=h.go (Fr.of k hG)
theorem od.grow {t:Tk} (h:od L w t v1 v3 v4 v5 v6 v8):od (w.heap.size::L) w t v1 v3 v4 v5 v6 v8:=h.go ((Fr.refl L w).grow)
def gI (L:List Nat) (w:World) (T:TypeId) (b:Nat) (t:Tk):Prop:=∃v1 v3 v4 v5 v6 v8,aJ w b (pE t v1 v3 v4 v5 v6 v8).toArray T∧od L w t v1 v3 v4 v5 v6 v8
theorem gI.ext {T:TypeId} {t:Tk} (h:gI L w T b t) (k:aj [] w w'):gI L w' T b t:=by
 obtain⟨v1,v3,v4,v5,v6,v8,hb,hc⟩:=h
 exact⟨v1,v3,v4,v5,v6,v8,hb.aG k sm,hc.ext k⟩
theorem gI.go {T:TypeId} {t:Tk} (h:gI L w T b t) (k:Fr L w L' w') (kg:aj G w w') (hb:b∉G):gI L' w' T b t:=by
 obtain⟨v1,v3,v4,v5,v6,v8,hB,hc⟩:=h
 exact⟨v1,v3,v4,v5,v6,v8,hB.aG kg hb,hc.go k⟩
/-! ### The maker -/
theorem cz.aef {T:TypeId} (h:cz w T v g xs):iE w T 1 v g (il xs).length (xs.map λx=>str x):=by rw[qB];exact h
structure dD (L:List Nat) (w:World) (T:TypeId) (sz:Nat) (v:Value) (g:Option Nat) (rows:List (List C)):Prop where
 own:∃xs,iE w T sz v g rows.length xs∧cW L w xs rows.flatten
 row:∀row,row∈rows->row.length=sz
theorem dD.aG {T:TypeId} (h:dD L w T sz v g rows) (k:Fr L w L' w') (kg:aj G w w') (hg:∀x,x∈g.toList->x∉G):dD L' w' T sz v g rows:=by
 obtain⟨xs,h1,h2⟩:=h.own
 exact⟨⟨xs,h1.aG kg (λb hb=>hg b (by simp[hb])),h2.go k⟩,h.row⟩
theorem dD.len {T:TypeId} (h:dD L w T sz v g rows):∃a cap,v= .slice a rows.length cap:=by
 obtain⟨xs,h1,_⟩:=h.own;exact h1.len
theorem dD.lt {T:TypeId} (h:dD L w T sz v g rows):∀x,x∈g.toList->x<w.heap.size:=by
 obtain⟨xs,h1,_⟩:=h.own;intro x hx;exact h1.lt x (by simpa using hx)
theorem dD.rep {T:TypeId} (h:dD L w T sz v g rows) (hL:∀x,x∈g.toList++L'->x∈L∨w.heap.size<=x) (hg:∀x,x∈g.toList->x∉L'):bN L' w v (.sl sz rows):=by
 obtain⟨xs,h1,h2⟩:=h.own
 exact gP.done (L:=L') ⟨h1,h2.fresh hL,h.row,λb hb=>hg b (by simp[hb])⟩
theorem dD.gr {B:Nat} {T:TypeId} (h:dD L w T sz v g rows) (hL:∀x,x∈g.toList->x∈L) (hB:∀b,g=some b->B<=b) (hs:B<=w.heap.size):Gr B [] w T sz v g rows:=by
 obtain⟨xs,h1,h2⟩:=h.own
 exact⟨⟨xs,h1,h2.fresh (λx hx=>.inl (hL x (by simpa using hx))),h.row,sm⟩,hB,sm,hs⟩
theorem Gr.down {B B':Nat} {T:TypeId} (h:Gr B L w T sz v g rows) (hB:B'<=B):Gr B' L w T sz v g rows:=
 ⟨h.own,λb hb=>Nat.le_trans hB (h.low b hb),h.cD,Nat.le_trans hB h.bsz⟩
structure ss where
 M:TypeId
 B:TypeId
 T:TypeId
 S:TypeId
structure gq (τ:ss) (E L:List Nat) (w:World) (b:Nat) (o:Bool) (vb vt vc vy:Value) (gb gt gc gy:Option Nat) (m:Mk):Prop where
 bl:dD L w τ.B 3 vb gb (m.blocks.map Bk.enc)
 ta:dD L w τ.T 12 vt gt (m.bJ.map Tk.enc)
 co:(o=true∧cz w τ.S vc gc m.code)∨(o=false∧gc=none∧bc L w vc m.code)
 ty:cz w τ.S vy gy m.types
 eL:L=E++b::(gb.toList++(gt.toList++(gc.toList++gy.toList)))
 nd:L.Nodup
 cD:∀x,x∈L->x<w.heap.size
section
variable {τ:ss} {E L:List Nat} {w w':World} {b:Nat} {o:Bool} {vb vt vc vy:Value} {gb gt gc gy:Option Nat} {m:Mk}
theorem xJ {A B C D E:List Nat} {b x:Nat}:x∈E++b::(A++(B++(C++D)))↔x∈E∨x=b∨x∈A∨x∈B∨x∈C∨x∈D:=by simp
theorem gq.mem (h:gq τ E L w b o vb vt vc vy gb gt gc gy m) {x:Nat}:x∈L↔x∈E∨x=b∨x∈gb.toList∨x∈gt.toList∨x∈gc.toList∨x∈gy.toList:=by
 rw[h.eL];exact xJ
theorem gq.apart (h:gq τ E L w b o vb vt vc vy gb gt gc gy m):E.Nodup∧b∉E∧
  (∀x,x∈gb.toList->x∉E∧x≠b)∧(∀x,x∈gt.toList->x∉E∧x≠b∧x∉gb.toList)∧(∀x,x∈gc.toList->x∉E∧x≠b∧x∉gb.toList∧x∉gt.toList)∧
  (∀x,x∈gy.toList->x∉E∧x≠b∧x∉gb.toList∧x∉gt.toList∧x∉gc.toList):=by
 have hn:=h.nd
 rw[h.eL] at hn
 rw[List.nodup_append] at hn
 obtain⟨h1,h2,h3⟩:=hn
 rw[List.nodup_cons] at h2
 obtain⟨h4,h5⟩:=h2
 rw[List.nodup_append] at h5
 obtain⟨h6,h7,h8⟩:=h5
 rw[List.nodup_append] at h7
 obtain⟨h9,fB,mB⟩:=h7
 rw[List.nodup_append] at fB
 obtain⟨kC,mD,vX⟩:=fB
 refine⟨h1,λhb=>h3 b hb b sm rfl,λx hx=>⟨λhe=>h3 x he x (by simp[hx]) rfl,λe=>h4 (by simp[<-e,hx])⟩,λx hx=>⟨λhe=>h3 x he x (by simp[hx]) rfl,λe=>h4 (by simp[<-e,hx]),λhy=>h8 x hy x (by simp[hx]) rfl⟩,
  λx hx=>⟨λhe=>h3 x he x (by simp[hx]) rfl,λe=>h4 (by simp[<-e,hx]),λhy=>h8 x hy x (by simp[hx]) rfl,λhy=>mB x hy x (by simp[hx]) rfl⟩,
  λx hx=>⟨λhe=>h3 x he x (by simp[hx]) rfl,λe=>h4 (by simp[<-e,hx]),λhy=>h8 x hy x (by simp[hx]) rfl,λhy=>mB x hy x (by simp[hx]) rfl,λhy=>vX x hy x hx rfl⟩⟩
theorem Mq (g:Option Nat):g.toList.Nodup:=by cases g<;>simp
theorem aeg {A B C D:Option Nat} {F:List Nat} {b:Nat} (h1:F.Nodup) (h2:b∉F) (ha:∀x,x∈A.toList->x∉F∧x≠b) (hb:∀x,x∈B.toList->x∉F∧x≠b∧x∉A.toList) (hc:∀x,x∈C.toList->x∉F∧x≠b∧x∉A.toList∧x∉B.toList) 
  (hd:∀x,x∈D.toList->x∉F∧x≠b∧x∉A.toList∧x∉B.toList∧x∉C.toList):(F++b::(A.toList++(B.toList++(C.toList++D.toList)))).Nodup:=by grind [Mq,List.nodup_append,List.nodup_cons]
theorem gq.swap (h:gq τ E L w b o vb vt vc vy gb gt gc gy m) (k:aj G w w') (hG:∀x,x∈G->x∈L∧x≠b∧x∉E) {gb' gt' gc' gy':Option Nat} 
  (nb:∀x,x∈gb'.toList->x∈gb.toList∨w.heap.size<=x∧x∉gt'.toList∧x∉gc'.toList∧x∉gy'.toList) (nt:∀x,x∈gt'.toList->x∈gt.toList∨w.heap.size<=x∧x∉gb'.toList∧x∉gc'.toList∧x∉gy'.toList)
  (nc:∀x,x∈gc'.toList->x∈gc.toList∨w.heap.size<=x∧x∉gb'.toList∧x∉gt'.toList∧x∉gy'.toList) (ny:∀x,x∈gy'.toList->x∈gy.toList∨w.heap.size<=x∧x∉gb'.toList∧x∉gt'.toList∧x∉gc'.toList):
  Fr L w (E++b::(gb'.toList++(gt'.toList++(gc'.toList++gy'.toList)))) w'∧(E++b::(gb'.toList++(gt'.toList++(gc'.toList++gy'.toList)))).Nodup:=by
 obtain⟨a1,a2,a3,a4,a5,a6⟩:=h.apart
 have dR:∀x,x∈E∨x=b->x<w.heap.size:=λx hx=>h.cD x (h.mem.2 (by rcases hx with hx|hx<;>simp[hx]))
 have nB:∀x,w.heap.size<=x->x∉E∧x≠b:=λx hx=>⟨λhe=>by have:=dR x (.inl he);omega,λe=>by have:=dR x (.inr e);omega⟩
 refine⟨⟨k.mono λx hx=>(hG x hx).1,λx hx=>?_⟩,aeg a1 a2 (λx hx=>?_) (λx hx=>?_) (λx hx=>?_) (λx hx=>?_)⟩
 ·rw[xJ] at hx
  rcases hx with hx|hx|hx|hx|hx|hx
  ·exact .inl (h.mem.2 (.inl hx))
  ·exact .inl (h.mem.2 (.inr (.inl hx)))
  ·rcases nb x hx with h1|h1
   ·exact .inl (h.mem.2 (by simp[h1]))
   ·exact .inr h1.1
  ·rcases nt x hx with h1|h1
   ·exact .inl (h.mem.2 (by simp[h1]))
   ·exact .inr h1.1
  ·rcases nc x hx with h1|h1
   ·exact .inl (h.mem.2 (by simp[h1]))
   ·exact .inr h1.1
  ·rcases ny x hx with h1|h1
   ·exact .inl (h.mem.2 (by simp[h1]))
   ·exact .inr h1.1
 ·rcases nb x hx with h1|h1
  ·exact a3 x h1
  ·exact nB x h1.1
 ·rcases nt x hx with h1|h1
  ·refine⟨(a4 x h1).1,(a4 x h1).2.1,λhb=>?_⟩
   rcases nb x hb with h2|h2
   ·exact(a4 x h1).2.2 h2
   ·exact h2.2.1 hx
  ·exact⟨(nB x h1.1).1,(nB x h1.1).2,h1.2.1⟩
 ·rcases nc x hx with h1|h1
  ·refine⟨(a5 x h1).1,(a5 x h1).2.1,λhb=>?_,λhb=>?_⟩
   ·rcases nb x hb with h2|h2
    ·exact(a5 x h1).2.2.1 h2
    ·exact h2.2.2.1 hx
   ·rcases nt x hb with h2|h2
    ·exact(a5 x h1).2.2.2 h2
    ·exact h2.2.2.1 hx
  ·exact⟨(nB x h1.1).1,(nB x h1.1).2,h1.2.1,h1.2.2.1⟩
 ·rcases ny x hx with h1|h1
  ·refine⟨(a6 x h1).1,(a6 x h1).2.1,λhb=>?_,λhb=>?_,λhb=>?_⟩
   ·rcases nb x hb with h2|h2
    ·exact(a6 x h1).2.2.1 h2
    ·exact h2.2.2.2 hx
   ·rcases nt x hb with h2|h2
    ·exact(a6 x h1).2.2.2.1 h2
    ·exact h2.2.2.2 hx
   ·rcases nc x hb with h2|h2
    ·exact(a6 x h1).2.2.2.2 h2
    ·exact h2.2.2.2 hx
  ·exact⟨(nB x h1.1).1,(nB x h1.1).2,h1.2.1,h1.2.2.1,h1.2.2.2⟩
theorem gq.IJ (h:gq τ E L w b o vb vt vc vy gb gt gc gy m) {x:Nat} (hx:x∈gb.toList∨x∈gt.toList∨x∈gc.toList∨x∈gy.toList):x<w.heap.size:=h.cD x (h.mem.2 (by simp only[hx,or_true]))
theorem cz.lt {w:World} {T:TypeId} (h:cz w T v g xs):∀x,x∈g.toList->x<w.heap.size:=λx hx=>iE.lt h x (by simpa using hx)
theorem gq.Mr (h:gq τ E L w b o vb vt vc vy gb gt gc gy m) {ys:List ai} (hy:cz w' τ.S v g ys) (k:aj gy.toList w w') (hg:∀x,g=some x->gy=some x∨w.heap.size<=x):
  ∃L',gq τ E L' w' b o vb vt vc v gb gt gc g {m with types:=ys}∧Fr L w L' w':=by
 obtain⟨a1,a2,a3,a4,a5,a6⟩:=h.apart
 have ky:∀x,x∈g.toList->x∈gy.toList∨w.heap.size<=x∧x∉gb.toList∧x∉gt.toList∧x∉gc.toList:=λx hx=>by
  rcases hg x (by simpa using hx) with h1|h1
  ·exact .inl (by simp[h1])
  ·refine .inr ⟨h1,λhh=>?_,λhh=>?_,λhh=>?_⟩<;>have:=h.IJ (x:=x) (by simp[hh])<;>omega
 obtain⟨hF,hN⟩:=h.swap k (λx hx=>⟨h.mem.2 (by simp[hx]),(a6 x hx).2.1,(a6 x hx).1⟩) (gb':=gb) (gt':=gt) (gc':=gc) (gy':=g) (λx hx=>.inl hx) (λx hx=>.inl hx) (λx hx=>.inl hx) ky
 refine⟨_,⟨h.bl.aG hF k (λx hx hy=>(a6 x hy).2.2.1 hx),h.ta.aG hF k (λx hx hy=>(a6 x hy).2.2.2.1 hx),?_,hy,rfl,hN,?_⟩,hF⟩
 ·rcases h.co with⟨ho,h1⟩|⟨ho,hn,h1⟩
  ·exact .inl ⟨ho,h1.aG k λx hx hy=>(a6 x hy).2.2.2.2 (by simp[hx])⟩
  ·exact .inr ⟨ho,hn,h1.go hF⟩
 ·intro x hx
  rw[xJ] at hx
  have hs:=k.size
  rcases hx with hx|hx|hx|hx|hx|hx
  ·exact lL (h.cD x (h.mem.2 (by simp[hx]))) hs
  ·exact lL (h.cD x (h.mem.2 (by simp[hx]))) hs
  ·exact lL (h.cD x (h.mem.2 (by simp[hx]))) hs
  ·exact lL (h.cD x (h.mem.2 (by simp[hx]))) hs
  ·exact lL (h.cD x (h.mem.2 (by simp[hx]))) hs
  ·exact hy.lt x hx
theorem gq.IK (h:gq τ E L w b o vb vt vc vy gb gt gc gy m) {ys:List ai} (hy:cz w' τ.S v g ys) (k:aj gc.toList w w') (hg:∀x,g=some x->gc=some x∨w.heap.size<=x):
  ∃L',gq τ E L' w' b true vb vt v vy gb gt g gy {m with code:=ys}∧Fr L w L' w':=by
 obtain⟨a1,a2,a3,a4,a5,a6⟩:=h.apart
 have ky:∀x,x∈g.toList->x∈gc.toList∨w.heap.size<=x∧x∉gb.toList∧x∉gt.toList∧x∉gy.toList:=λx hx=>by
  rcases hg x (by simpa using hx) with h1|h1
  ·exact .inl (by simp[h1])
  ·refine .inr ⟨h1,λhh=>?_,λhh=>?_,λhh=>?_⟩<;>have:=h.IJ (x:=x) (by simp[hh])<;>omega
 obtain⟨hF,hN⟩:=h.swap k (λx hx=>⟨h.mem.2 (by simp[hx]),(a5 x hx).2.1,(a5 x hx).1⟩) (gb':=gb) (gt':=gt) (gc':=g) (gy':=gy) (λx hx=>.inl hx) (λx hx=>.inl hx) ky (λx hx=>.inl hx)
 refine⟨_,⟨h.bl.aG hF k (λx hx hy=>(a5 x hy).2.2.1 hx),h.ta.aG hF k (λx hx hy=>(a5 x hy).2.2.2 hx),.inl ⟨rfl,hy⟩,h.ty.aG k λx hx hy=>(a6 x (by simp[hx])).2.2.2.2 hy,rfl,hN,?_⟩,hF⟩
 intro x hx
 rw[xJ] at hx
 have hs:=k.size
 rcases hx with hx|hx|hx|hx|hx|hx
 ·exact lL (h.cD x (h.mem.2 (by simp[hx]))) hs
 ·exact lL (h.cD x (h.mem.2 (by simp[hx]))) hs
 ·exact lL (h.cD x (h.mem.2 (by simp[hx]))) hs
 ·exact lL (h.cD x (h.mem.2 (by simp[hx]))) hs
 ·exact hy.lt x hx
 ·exact lL (h.cD x (h.mem.2 (by simp[hx]))) hs
theorem aeh (t:Tk) (h1:v1.oneCell'=true) (h3:v3.oneCell'=true) (h4:v4.oneCell'=true) (h5:v5.oneCell'=true) (h6:v6.oneCell'=true) (h8:v8.oneCell'=true):(pE t v1 v3 v4 v5 v6 v8).all Value.oneCell'=true:=by
 simp only[pE,List.all_cons,h1,h3,h4,h5,h6,h8];rfl
theorem DO {L:List Nat} {w:World} (h:bN L w v (.sl sz rows)):v.oneCell'=true:=by cases h<;>rfl
theorem od.one {t:Tk} (h:od L w t v1 v3 v4 v5 v6 v8):(pE t v1 v3 v4 v5 v6 v8).all Value.oneCell'=true:=aeh t (DO h.regs) (DO h.self) (DO h.aK) (DO h.at_) (DO h.types) (DO h.ak)
theorem gq.aG (h:gq τ E L w b o vb vt vc vy gb gt gc gy m) (k:aj G w w') (hG:∀x,x∈G->x∈b::E):gq τ E L w' b o vb vt vc vy gb gt gc gy m:=by
 obtain⟨a1,a2,a3,a4,a5,a6⟩:=h.apart
 have ry:∀x,x∈G->x∈L:=λx hx=>h.mem.2 (by rcases mC.1 (hG x hx) with h1|h1<;>simp[h1])
 have hF:Fr L w L w':=Fr.of k ry
 have out:∀x,x∉E->x≠b->x∉G:=λx h1 h2 h3=>by
  rcases mC.1 (hG x h3) with h4|h4
  ·exact h2 h4
  ·exact h1 h4
 refine⟨h.bl.aG hF k (λx hx=>out x (a3 x hx).1 (a3 x hx).2),h.ta.aG hF k (λx hx=>out x (a4 x hx).1 (a4 x hx).2.1),?_,h.ty.aG k (λx hx=>out x (a6 x (by simp[hx])).1 (a6 x (by simp[hx])).2.1),h.eL,h.nd,λx hx=>lL (h.cD x hx) k.size⟩
 rcases h.co with⟨ho,h1⟩|⟨ho,hn,h1⟩
 ·exact .inl ⟨ho,h1.aG k λx hx=>out x (a5 x (by simp[hx])).1 (a5 x (by simp[hx])).2.1⟩
 ·exact .inr ⟨ho,hn,h1.go hF⟩
theorem gq.ext (h:gq τ E L w b o vb vt vc vy gb gt gc gy m) (k:aj [] w w'):gq τ E L w' b o vb vt vc vy gb gt gc gy m:=h.aG k sm
theorem gq.drop {x:Nat} (h:gq τ (x::E) L w b o vb vt vc vy gb gt gc gy m):∃L',L=x::L'∧gq τ E L' w b o vb vt vc vy gb gt gc gy m:=by
 have ry:∀y,y∈E++b::(gb.toList++(gt.toList++(gc.toList++gy.toList)))->y∈L:=λy hy=>by rw[h.eL];simp only[List.cons_append,mC];exact .inr hy
 have hF:Fr L w (E++b::(gb.toList++(gt.toList++(gc.toList++gy.toList)))) w:=(Fr.refl L w).to λy hy=>.inl (ry y hy)
 have iV:=h.nd
 rw[h.eL,List.cons_append,List.nodup_cons] at iV
 refine⟨_,h.eL,⟨h.bl.aG hF (aj.refl [] w) sm,h.ta.aG hF (aj.refl [] w) sm,?_,h.ty,rfl,iV.2,λy hy=>h.cD y (ry y hy)⟩⟩
 rcases h.co with⟨ho,h1⟩|⟨ho,hn,h1⟩
 ·exact .inl ⟨ho,h1⟩
 ·exact .inr ⟨ho,hn,h1.go hF⟩
def mkV (m:Mk) (vb vt vc vy:Value):List Value:=[vb,vt,.int .i64 (m.count:Int),.bool m.wide,vc,vy]
def dC (τ:ss) (E L:List Nat) (w:World) (b:Nat) (o:Bool) (m:Mk):Prop:=∃vb vt vc vy gb gt gc gy,aJ w b (mkV m vb vt vc vy).toArray τ.M∧gq τ E L w b o vb vt vc vy gb gt gc gy m
theorem dC.ext (h:dC τ E L w b o m) (k:aj [] w w'):dC τ E L w' b o m:=by
 obtain⟨vb,vt,vc,vy,gb,gt,gc,gy,h1,h2⟩:=h
 exact⟨vb,vt,vc,vy,gb,gt,gc,gy,h1.aG k sm,h2.ext k⟩
theorem dC.aG (h:dC τ E L w b o m) (k:aj G w w') (hG:∀x,x∈G->x∈E):dC τ E L w' b o m:=by
 obtain⟨vb,vt,vc,vy,gb,gt,gc,gy,h1,h2⟩:=h
 exact⟨vb,vt,vc,vy,gb,gt,gc,gy,h1.aG k (λhx=>h2.apart.2.1 (hG b hx)),h2.aG k (λx hx=>mK _ (hG x hx))⟩
theorem dC.drop {x:Nat} (h:dC τ (x::E) L w b o m):∃L',L=x::L'∧dC τ E L' w b o m:=by
 obtain⟨vb,vt,vc,vy,gb,gt,gc,gy,h1,h2⟩:=h
 obtain⟨L',e,h3⟩:=h2.drop
 exact⟨L',e,vb,vt,vc,vy,gb,gt,gc,gy,h1,h3⟩
theorem dC.mem (h:dC τ E L w b o m):(∀x,x∈b::E->x∈L)∧E.Nodup∧b∉E∧∀x,x∈L->x<w.heap.size:=by
 obtain⟨vb,vt,vc,vy,gb,gt,gc,gy,h1,h2⟩:=h
 obtain⟨a1,a2,_⟩:=h2.apart
 exact⟨λx hx=>h2.mem.2 (by rcases mC.1 hx with h|h<;>simp[h]),a1,a2,h2.cD⟩
end
inductive It where
 |v (V:Value)
 |p (f:Value->World->Prop)
def It.F:It->Value->World->Prop
 | .v V=>λv _=>v=V
 | .p f=>f
def It.FV:It->Bool
 | .v _=>true
 | .p _=>false
def dq (its:List It) (ds:List Nat) (w:World):List Nat->(List (Nat×Value)->Prop)->Prop
 |[],k=>k []
 |j::r,k=>match its.getD j (.p λ_ _=>True) with
  | .v V=>dq its ds w r λacc=>k ((ds.getD j 0,V)::acc)
  | .p f=>∀v,f v w->dq its ds w r λacc=>k ((ds.getD j 0,v)::acc)
theorem IL {its:List It} {ds:List Nat} {vs:Nat->Value}:∀{deps:List Nat} {k:List (Nat×Value)->Prop},dq its ds w deps k->(∀j,j∈deps->pr (its.map It.F) j (vs j) w)->k (s0 ds vs deps)
 |[],k,h,_=>h
 |j::r,k,h,hd=>by
  have hj:=hd j (List.mem_cons_self ..)
  unfold dq at h
  have hp:((its.getD j (.p λ_ _=>True)).F) (vs j) w:=by
   unfold pr at hj
   rw[gG] at hj⊢
   rw[List.getElem?_map] at hj
   cases e:its[j]? with
   |none=>trivial
   |some q=>rw[e] at hj;exact hj
  cases e:its.getD j (.p λ_ _=>True) with
  |v V=>
   rw[e] at h hp
   have hv:vs j=V:=hp
   subst hv
   exact IL (deps:=r) h λi hi=>hd i (mK _ hi)
  |p f=>
   rw[e] at h hp
   exact IL (deps:=r) (h _ hp) λi hi=>hd i (mK _ hi)
theorem Sp {F:List (Value->World->Prop)} {vs:Nat->Value}:∀{l:List Nat},Fb F vs w l->∀j,j∈l->pr F j (vs j) w
 |[],_,j,h=>by cases h
 |[i],h,j,hj=>by rw[List.mem_singleton] at hj;subst hj;exact h
 |i::a::l,h,j,hj=>by
  rcases mC.1 hj with e|hj
  ·subst e;exact h.1
  ·exact Sp h.2 j hj
def FW (P:Program) (n:Nat) (ops:Array Oper) (W ds:List Nat) (its:List It) (e0:Env) (w0:World) (k:Nat) (o:Oper) (deps:List Nat):Prop:=
 ∀(x:Env) (w:World),aj [] w0 w->dq its ds w deps λacc=>OW P n ops (λe' w'=>aj [] w w'∧(its.getD k (.p λ_ _=>True)).F (e' (ds.getD k 0)) w'∧eh [ds.getD k 0] (bm (bg W x e0) acc) e') [o] (bm (bg W x e0) acc) w
def qI (P:Program) (n:Nat) (ops:Array Oper) (W ds:List Nat) (its:List It) (e0:Env) (w0:World):Nat->List Oper->List (List Nat)->Prop
 |_,[],_=>True
 |_,_::_,[]=>True
 |k,o::l,d::r=>FW P n ops W ds its e0 w0 k o d∧qI P n ops W ds its e0 w0 (k+1) l r
theorem vc {P:Program} {ops:Array Oper} {ds:List Nat} {its:List It} {d:List Nat} (h:FW P n ops W ds its e0 w0 k o d) (hr:qI P n ops W ds its e0 w0 (k+1) l r):qI P n ops W ds its e0 w0 k (o::l) (d::r):=⟨h,hr⟩
theorem Sq {P:Program} {ops:Array Oper} {ds:List Nat} {its:List It}:∀(l:List Oper) (deps:List (List Nat)) (k:Nat),qI P n ops W ds its e0 w0 k l deps->Bm (aj []) P n ops W ds (its.map It.F) e0 w0 k l deps
 |[],_,_,_=>trivial
 |_::_,[],_,_=>trivial
 |o::l,d::r,k,h=>by
  refine⟨λx vs w e hk hd he=>?_,Sq l r (k+1) h.2⟩
  have:=IL (h.1 x w hk) (vs:=vs) (Sp hd)
  subst he
  have e2:pr (its.map It.F) k=(its.getD k (.p λ_ _=>True)).F:=by
   unfold pr
   rw[gG,gG,List.getElem?_map]
   cases its[k]?<;>rfl
  rw[e2]
  exact this
def FX:List It->Prop
 |[]=>True
 | .v _::r=>FX r
 | .p f::r=>(∀v w w',f v w->aj [] w w'->f v w')∧FX r
theorem Ms:∀{its:List It},FX its->s5 (aj []) (its.map It.F)
 |[],_=>trivial
 | .v _::r,h=>⟨λv w w' e _=>e,Ms (its:=r) h⟩
 | .p f::r,h=>⟨h.1,Ms (its:=r) h.2⟩
theorem Sr:∀{its:List It},its.all It.FV=true->FX its
 |[],_=>trivial
 | .v _::r,h=>Sr (its:=r) (by simpa[It.FV] using h)
 | .p f::r,h=>by simp[It.FV] at h
section
variable {P:Program} {n:Nat} {l:List Oper} {m:Nat} {W ds:List Nat} {deps:List (List Nat)}
theorem tC {N R:Env->World->Prop} {X:Nat->Env->World->Prop} {id:Nat} {e0:Env} {w0:World} (hm:P.follows .mixedOrders=true) (m:Nat) (W ds:List Nat) (deps:List (List Nat)) (its:List It) 
  (hB:um l m W ds deps=true) (hS:FX its)
  (hc:∀wd,aj [] w0 wd->qI P n l.toArray W ds its e0 wd 0 (l.take m) deps)
  (ht:∀(x:Env) (w:World),aj [] w0 w->dq its ds w (List.range m) λacc=>OW P n l.toArray N (l.drop m) (bm (bg W x e0) acc) w):
  CW P n (.region id l.toArray true) N R X e0 w0:=
 yZ hm lU m W ds deps (its.map It.F) hB (Ms hS) (λwd hk=>Sq _ _ _ (hc wd hk)) λx vs w hk K3=>
  IL (ht x w hk) (vs:=vs) λj hj=>K3 j (List.mem_range.1 hj)
theorem kD {N R:Env->World->Prop} {X:Nat->Env->World->Prop} {id:Nat} {e0:Env} {w0:World} (hm:P.follows .mixedOrders=true) (m:Nat) (W ds:List Nat) (deps:List (List Nat)) (its:List It) 
  (hB:um l m W ds deps=true) (hS:its.all It.FV=true)
  (hc:∀wd,aj [] w0 wd->qI P n l.toArray W ds its e0 wd 0 (l.take m) deps)
  (ht:∀(x:Env) (w:World),aj [] w0 w->dq its ds w (List.range m) λacc=>OW P n l.toArray N (l.drop m) (bm (bg W x e0) acc) w):
  CW P n (.region id l.toArray true) N R X e0 w0:=tC hm m W ds deps its hB (Sr hS) hc ht
end
section
variable {P:Program} {n:Nat} {ops:Array Oper} {e:Env} {w w':World}
theorem pv (h:v=V:=by rfl):OW P n ops (λe' w'=>aj [] w w'∧(It.v V).F (e' d) w'∧eh [d] e e') [] (bQ e (some d) v) w:=
 aZ ⟨aj.refl _ _,by subst h;exact ni _ _ _,qz⟩
theorem pk (k:aj [] w w') (h:v=V:=by rfl):OW P n ops (λe' w'=>aj [] w w'∧(It.v V).F (e' d) w'∧eh [d] e e') [] (bQ e (some d) v) w':=
 aZ ⟨k,by subst h;exact ni _ _ _,qz⟩
theorem pf {f:Value->World->Prop} (k:aj [] w w') (h:f v w'):OW P n ops (λe' w'=>aj [] w w'∧(It.p f).F (e' d) w'∧eh [d] e e') [] (bQ e (some d) v) w':=
 aZ ⟨k,by show f (gT e d v d) w';rw[ni];exact h,qz⟩
end
section
variable {P:Program} {n:Nat} {N R:Env->World->Prop} {X:Nat->Env->World->Prop} {e0:Env} {w:World}
theorem DP {c:Code} (ds:List Nat) (outs:List (Nat×Value)) (h:CW P n c (λe' w'=>eh ds e0 e'∧Holds outs e'∧aj [] w w') R X e0 w) 
  (k:∀x w',aj [] w w'->N (bm (bg ds x e0) outs) w'):CW P n c N R X e0 w:=
 h.mono (λe' w' ⟨ha,ho,hk⟩=>by have:=k e' w' hk;rw[xo ha,HW ho] at this;exact this) (λ_ _ h=>h) (λ_ _ _ h=>h)
end
theorem kE {p q r:Prop} (k:r) (h:p:=by repeat(first|with_reducible exact xm|refine H3 rfl ?_|refine KR rfl ?_)) (h2:q:=by repeat' (first|rfl|(rw[iH];rfl)|(rw[mE];rfl)|constructor)):p∧q∧r:=⟨h,h2,k⟩
section
variable {P:Program} {n:Nat} {l:List Oper} {m:Nat} {W ds:List Nat} {deps:List (List Nat)}
theorem Ss {N:Env->World->Prop} {Inv:(Nat->Bool)->Env->World->Prop} (hB:um l m W ds deps=true) 
  (step:∀(S:Nat->Bool) (e:Env) (w:World) (i:Nat) (o:Oper),i<m->l[i]?=some o->S i=false->(∀j,waits o j=true->S j=true)->Inv S e w->
   OW P n l.toArray (λe' w'=>Inv (λj=>if j=i then true else S j) e' w') [o] e w)
  (tail:∀(S:Nat->Bool) (e:Env) (w:World),(∀i,i<m->S i=true)->Inv S e w->OW P n l.toArray N (l.drop m) e w) (Q:Exit->Act->World->Prop):
  ∀(fuel:Nat) (listed:Array Bool) (e:Env) (a:Act) (w:World),Fits n e a->listed.size=l.length->
   ((List.range l.length).filter λj=>!listed.getD j true).length=fuel->
   (∀j,m<=j->j<l.length->listed.getD j true=false)->Inv (λj=>listed.getD j false) e w->H4 l listed->
   wpAny P .any l.toArray (ph n N Q) fuel listed a w:=by
 obtain⟨vG,Ds,K1,iV,nV⟩:=Dr hB
 have yT:∀(listed:Array Bool) (j:Nat),listed.size=l.length->j<l.length->¬listed.getD j true=false->listed.getD j false=true:=λlisted j hs hj h1=>by
  rw[Array.getD_eq_getD_getElem?] at h1⊢
  rw[Array.getElem?_eq_getElem om] at h1⊢
  simpa using h1
 have Fe:∀(listed:Array Bool) (j:Nat),listed.size=l.length->j<l.length->listed.getD j false=true->listed.getD j true=true:=λlisted j hs hj h1=>by
  rw[Array.getD_eq_getD_getElem?] at h1⊢
  rw[Array.getElem?_eq_getElem om] at h1⊢
  simpa using h1
 intro fuel
 induction fuel with
 |zero=>
  intro listed e a w hf hs Bq fE hI jB
  have cP:∀j,j<l.length->listed.getD j true=true:=λj hj=>by
   cases hg:listed.getD j true with
   |true=>rfl
   |false=>
    have:j∈(List.range l.length).filter λj=>!listed.getD j true:=by rw[List.mem_filter,List.mem_range];exact⟨hj,by rw[hg];rfl⟩
    rw[List.length_eq_zero_iff.1 Bq] at this;cases this
  have hm:m=l.length:=by
   rcases Nat.lt_or_ge m l.length with h|h
   ·have:=fE m (lR _) h;rw[cP m h] at this;cases this
   ·omega
  have ht:=tail _ e w (λi hi=>yT listed i hs om (by rw[cP i om];simp)) hI
  have h2:=ht a hf Q
  exact H5 hB 0 m listed a w (lR _) om hs (λj hj=>⟨λh=>(by rw[cP j hj] at h;cases h),λh=>om⟩) h2
 |succ fuel ih=>
  intro listed e a w hf hs Bq fE hI jB
  by_cases uq:∀j,j<m->listed.getD j true=true
  ·have ht:=tail _ e w (λi hi=>yT listed i hs om (by rw[uq i hi];simp)) hI
   have h2:=ht a hf Q
   have yV:∀j,j<l.length->(listed.getD j true=false↔m<=j):=λj hj=>by
    constructor
    ·intro h
     rcases Nat.lt_or_ge j m with h'|h'
     ·rw[uq j h'] at h;cases h
     ·exact h'
    ·intro h;exact fE j h hj
   have yW:m+(fuel+1)=l.length:=by
    rw[<-Bq]
    have:∀k,k<=l.length->m<=k->((List.range k).filter λj=>!listed.getD j true).length=k-m:=by
     intro k
     induction k with
     |zero=>intro _ h;simp
     |succ k ihk=>
      intro fZ Bn
      rw[List.range_succ,List.filter_append,lA]
      rcases Nat.lt_or_ge k m with h'|h'
      ·have Qe:k+1=m:=by omega
       have hz:((List.range k).filter λj=>!listed.getD j true)=[]:=by
        rw[List.filter_eq_nil_iff]
        intro j hj
        rw[List.mem_range] at hj
        rw[uq j om];simp
       have e1:(!listed.getD k true)=false:=by rw[uq k h'];rfl
       simp only[hz,List.filter_cons,e1,List.filter_nil,List.length_nil]
       simp;omega
      ·rw[ihk om h']
       have e1:(!listed.getD k true)=true:=by rw[(yV k om).2 h'];rfl
       simp only[List.filter_cons,e1,List.filter_nil,if_true,lC,List.length_nil]
       omega
    have:=this l.length (lR _) vG
    omega
   exact H5 hB (fuel+1) m listed a w (lR _) yW hs yV h2
  ·have hex:∃j,j<m∧listed.getD j true=false∧∀i,i<j->listed.getD i true=true:=by
    have:∀k,(∃j,j<k∧listed.getD j true=false∧∀i,i<j->listed.getD i true=true)∨∀j,j<k->listed.getD j true=true:=by
     intro k
     induction k with
     |zero=>right;intro j hj;omega
     |succ k ihk=>
      rcases ihk with⟨j,hj,h1,h2⟩|h
      ·exact .inl ⟨j,om,h1,h2⟩
      ·cases hg:listed.getD k true with
       |false=>exact .inl ⟨k,om,hg,h⟩
       |true=>
        right
        intro j hj
        rcases Nat.lt_or_ge j k with h'|h'
        ·exact h j h'
        ·rw[show j=k from by omega];exact hg
    rcases this m with h|h
    ·exact h
    ·exact absurd h uq
   obtain⟨j0,Ff,Fg,Fh⟩:=hex
   obtain⟨o0,Fi⟩:∃o,l[j0]?=some o:=⟨l[j0]'om,gE om⟩
   have lV:j0∈Region.ready .any l.toArray listed:=mem_ready.2 ⟨Fg,o0,by simpa using Fi,λed he hb=>by
    have dR:=(nV j0 o0 Fi).1 ed he hb
    exact yT listed _ hs om (by rw[Fh _ dR];simp)⟩
   refine⟨λhr=>(by rw[hr] at lV;cases lV),λi hi=>?_⟩
   obtain⟨hu,o,ho,cP⟩:=mem_ready.1 hi
   have mm:i<l.length:=by simpa using(Array.getElem?_eq_some_iff.1 ho).1
   have mo:l[i]?=some o:=by simpa using ho
   have qA:i<m:=by
    rcases Nat.lt_or_ge i m with h|h
    ·exact h
    ·have:=Fe listed j0 hs om (KZ jB mo cP ((nV i o mo).2.2 h) (i-j0) j0 om om)
     rw[Fg] at this;cases this
   have tE:listed.getD i false=false:=by
    cases h:listed.getD i false with
    |false=>rfl
    |true=>rw[Fe listed i hs mm h] at hu;cases hu
   have h1:=step (λj=>listed.getD j false) e w i o qA mo tE (λj hj=>by
    obtain⟨ed,he,hb,ur⟩:=KY hj
    rw[<-ur];exact cP ed he hb) hI
   have h2:=h1 a hf Q
   have next:∀(a':Act) (w':World),ph n (λe' w'=>Inv (λj=>if j=i then true else listed.getD j false) e' w') Q .normal a' w'->
     wpAny P .any l.toArray (ph n N Q) fuel (listed.setIfInBounds i true) a' w':=λa' w' hq=>by
    obtain⟨e',K2,hI'⟩:=hq
    refine ih _ e' a' w' K2 (by simpa using hs) ?_ ?_ ?_ ?_
    ·have yW:∀k,k<=l.length->((List.range k).filter λj=>!(listed.setIfInBounds i true).getD j true).length+(if i<k then 1 else 0)=((List.range k).filter λj=>!listed.getD j true).length:=by
      intro k
      induction k with
      |zero=>simp
      |succ k ihk=>
       intro fZ
       have xp:=ihk om
       rw[List.range_succ,List.filter_append,lA,List.filter_append,lA]
       by_cases uw:i=k
       ·subst uw
        rw[iN om] at xp
        have dR:i<listed.size:=by omega
        have e1:(listed.setIfInBounds i true).getD i true=true:=by simp[Array.getD_eq_getD_getElem?,dR]
        rw[iP om]
        simp only[List.filter_cons,e1,hu,List.filter_nil,Bool.not_true,Bool.not_false,if_true,Bool.false_eq_true,if_false,lC,List.length_nil]
        omega
       ·have e1:(listed.setIfInBounds i true).getD k true=listed.getD k true:=getD_set_ne true uw
        simp only[List.filter_cons,e1,List.filter_nil]
        have YP:(i<k+1)↔(i<k):=by omega
        by_cases pj:i<k
        ·have c1:i<k+1:=by omega
         rw[iP pj] at xp;rw[iP c1];split<;>simp only[lC,List.length_nil]<;>omega
        ·have c1:¬i<k+1:=by omega
         rw[iN pj] at xp;rw[iN c1];split<;>simp only[lC,List.length_nil]<;>omega
     have:=yW l.length (lR _)
     rw[iP mm] at this
     omega
    ·intro j K4 vC
     rw[getD_set_ne true om];exact fE j K4 vC
    ·have e1:(λj=>(listed.setIfInBounds i true).getD j false)=λj=>if j=i then true else listed.getD j false:=by
      funext j
      by_cases kn:i=j
      ·subst kn
       have:i<listed.size:=by omega
       simp[Array.getD_eq_getD_getElem?,this]
      ·rw[getD_set_ne false kn,iN (λh=>kn h.symm)]
     rw[e1];exact hI'
    ·intro j oj Bt hj e2 mq aN
     have vH:∀x,listed.getD x false=true->(listed.setIfInBounds i true).getD x false=true:=λx hx=>by
      by_cases Fk:i=x
      ·subst Fk
       have:i<listed.size:=by omega
       simp[Array.getD_eq_getD_getElem?,this]
      ·rw[getD_set_ne false Fk];exact hx
     by_cases kn:i=j
     ·subst kn
      rw[mo] at Bt;cases Bt
      exact vH _ (cP e2 mq aN)
     ·rw[getD_set_ne false kn] at hj
      exact vH _ (jB j oj Bt hj e2 mq aN)
   unfold wpOp
   simp only[ho]
   unfold wpList at h2
   by_cases hw:Region.wanted o (yielded l.toArray a.tmps)=true
   ·rw[iP hw] at h2⊢
    rcases h2 with h2|⟨h2,h3⟩
    ·refine .inl (Oper.KT (λa' w' h'=>next a' w' h') (λ_ _ _ h=>h) (fun⟨a,w,hq⟩=>⟨a,w,hq⟩) h2)
    ·exact .inr ⟨h2,by obtain⟨a',w',hq⟩:=h3;exact⟨a',w',hq⟩⟩
   ·rw[iN hw] at h2⊢
    exact next _ _ h2
inductive Ie where
 |v (V:Value)
 |p (f:List Nat->Value->World->Prop)
 |e (t:Nat)
 |w (t:Nat) (V:Value)
 |q (t:Nat) (f:Value->Prop)
def Ie.F:Ie->List Nat->Value->World->Prop
 | .v V=>λ_ v _=>v=V
 | .p f=>f
 | .e _=>λ_ _ _=>True
 | .w _ V=>λ_ v _=>v=V
 | .q _ f=>λ_ v _=>f v
def Ie.j6:Ie->Option Nat
 | .e t=>some t
 | .w t _=>some t
 | .q t _=>some t
 |_=>none
abbrev lZ:Ie:=.p λ_ _ _=>True
def vY (its:List Ie) (ds:List Nat) (G:List Nat) (aR:List Value) (w:World):List Nat->(List (Nat×Value)->Prop)->Prop
 |[],k=>k []
 |j::r,k=>match its.getD j lZ with
  | .v V=>vY its ds G aR w r λacc=>k ((ds.getD j 0,V)::acc)
  | .p f=>∀v,f G v w->vY its ds G aR w r λacc=>k ((ds.getD j 0,v)::acc)
  | .e t=>vY its ds G aR w r λacc=>k ((ds.getD j 0,aR.getD t undef)::acc)
  | .w _ V=>vY its ds G aR w r λacc=>k ((ds.getD j 0,V)::acc)
  | .q t f=>∀v,aR.getD t undef=v->f v->vY its ds G aR w r λacc=>k ((ds.getD j 0,v)::acc)
theorem zO {its:List Ie} {ds:List Nat} {aR:List Value} {vs:Nat->Value}:∀{deps:List Nat} {k:List (Nat×Value)->Prop},vY its ds G aR w deps k->
  (∀j,j∈deps->(its.getD j lZ).F G (vs j) w∧∀t,(its.getD j lZ).j6=some t->aR.getD t undef=vs j)->k (s0 ds vs deps)
 |[],k,h,_=>h
 |j::r,k,h,hd=>by
  obtain⟨hp,he⟩:=hd j (List.mem_cons_self ..)
  unfold vY at h
  have hr:∀i,i∈r->_:=λi hi=>hd i (mK _ hi)
  cases e:its.getD j lZ with
  |v V=>
   rw[e] at h hp
   have hv:vs j=V:=hp
   subst hv
   exact zO (deps:=r) h hr
  |p f=>
   rw[e] at h hp
   exact zO (deps:=r) (h _ hp) hr
  |e t=>
   rw[e] at h
   have hv:=he t (by rw[e];rfl)
   simp only[hv] at h
   exact zO (deps:=r) h hr
  |w t V=>
   rw[e] at h hp
   have hv:vs j=V:=hp
   subst hv
   exact zO (deps:=r) h hr
  |q t f=>
   rw[e] at h hp
   exact zO (deps:=r) (h _ (he t (by rw[e];rfl)) hp) hr
def eJ (G:List Nat) (w:World):Prop:=∀x,x∈G->x<w.heap.size
def IM (P:Program) (n:Nat) (ops:Array Oper) (W ds:List Nat) (its:List Ie) (e0:Env) (G0:List Nat) (w0:World) (i:Nat) (o:Oper) (deps:List Nat):Prop:=
 ∀(x:Env) (w:World) (G:List Nat) (aR:List Value),Fr G0 w0 G w->eJ G w->vY its ds G aR w deps λacc=>
  OW P n ops (λe' w'=>aj [] w w'∧(its.getD i lZ).F G (e' (ds.getD i 0)) w'∧eh [ds.getD i 0] (bm (bg W x e0) acc) e') [o] (bm (bg W x e0) acc) w
def St (P:Program) (n:Nat) (ops:Array Oper) (W ds:List Nat) (its:List Ie) (Js:List (List Nat->List Value->World->Prop)) (e0:Env) (G0:List Nat) (w0:World) (t i:Nat) (o:Oper) (deps:List Nat):Prop:=
 ∀(x:Env) (w:World) (G:List Nat) (aR:List Value),Fr G0 w0 G w->eJ G w->Js.getD t (λ_ _ _=>True) G aR w->aR.length=t->vY its ds G aR w deps λacc=>
  OW P n ops (λe' w'=>(∃G',Fr G w G' w'∧eJ G' w'∧Js.getD (t+1) (λ_ _ _=>True) G' (aR++[e' (ds.getD i 0)]) w'∧(its.getD i lZ).F G' (e' (ds.getD i 0)) w')∧eh [ds.getD i 0] (bm (bg W x e0) acc) e') [o] (bm (bg W x e0) acc) w
def DQ (P:Program) (n:Nat) (ops:Array Oper) (W ds:List Nat) (its:List Ie) (Js:List (List Nat->List Value->World->Prop)) (e0:Env) (G0:List Nat) (w0:World) (i:Nat) (o:Oper) (deps:List Nat):Prop:=
 match(its.getD i lZ).j6 with
 |some t=>St P n ops W ds its Js e0 G0 w0 t i o deps
 |none=>IM P n ops W ds its e0 G0 w0 i o deps
def uG (P:Program) (n:Nat) (ops:Array Oper) (W ds:List Nat) (its:List Ie) (Js:List (List Nat->List Value->World->Prop)) (e0:Env) (G0:List Nat) (w0:World):Nat->List Oper->List (List Nat)->Prop
 |_,[],_=>True
 |_,_::_,[]=>True
 |k,o::l,d::r=>DQ P n ops W ds its Js e0 G0 w0 k o d∧uG P n ops W ds its Js e0 G0 w0 (k+1) l r
section
variable {P:Program} {n:Nat} {ops:Array Oper} {W ds:List Nat} {its:List Ie} {Js:List (List Nat->List Value->World->Prop)} {e0:Env} {G0:List Nat} {w0:World}
theorem vf {l:List Oper} {d:List Nat} (h:IM P n ops W ds its e0 G0 w0 k o d) (hr:uG P n ops W ds its Js e0 G0 w0 (k+1) l r) (hk:(its.getD k lZ).j6=none:=by rfl):uG P n ops W ds its Js e0 G0 w0 k (o::l) (d::r):=
 ⟨by unfold DQ;rw[hk];exact h,hr⟩
theorem ve (t:Nat) {l:List Oper} {d:List Nat} (h:St P n ops W ds its Js e0 G0 w0 t k o d) (hr:uG P n ops W ds its Js e0 G0 w0 (k+1) l r) (hk:(its.getD k lZ).j6=some t:=by rfl):uG P n ops W ds its Js e0 G0 w0 k (o::l) (d::r):=
 ⟨by unfold DQ;rw[hk];exact h,hr⟩
theorem Su:∀(l:List Oper) (deps:List (List Nat)) (k:Nat),uG P n ops W ds its Js e0 G0 w0 k l deps->∀(i:Nat) (o:Oper) (d:List Nat),l[i]?=some o->deps[i]?=some d->DQ P n ops W ds its Js e0 G0 w0 (k+i) o d
 |[],_,_,_,i,o,d,h,_=>by simp at h
 |_::_,[],_,_,i,o,d,_,h=>by simp at h
 |o::l,d::r,k,h,0,o',d',ho,hd=>by
  simp at ho hd;subst ho;subst hd;exact h.1
 |o::l,d::r,k,h,i+1,o',d',ho,hd=>by
  have:=Su l r (k+1) h.2 i o' d' (by simpa using ho) (by simpa using hd)
  rwa [show k+1+i=k+(i+1) by omega] at this
end
def Mt (l:List Oper) (m:Nat) (effs:List Nat) (its:List Ie):Bool:=
 (List.range effs.length).all (λt=>decide (effs.getD t 0<m)&&((its.getD (effs.getD t 0) lZ).j6==some t)&&(decide (t=0)||(match l[effs.getD t 0]? with|some o=>waits o (effs.getD (t-1) 0)|none=>false)))&&
 (List.range m).all (λi=>match(its.getD i lZ).j6 with|some t=>decide (t<effs.length)&&decide (effs.getD t 0=i)|none=>true)
theorem aek {l:List Oper} {m:Nat} {effs:List Nat} {its:List Ie} (h:Mt l m effs its=true):
  (∀t,t<effs.length->effs.getD t 0<m∧(its.getD (effs.getD t 0) lZ).j6=some t∧(t≠0->∃o,l[effs.getD t 0]?=some o∧waits o (effs.getD (t-1) 0)=true))∧
  ∀i t,i<m->(its.getD i lZ).j6=some t->t<effs.length∧effs.getD t 0=i:=by
 unfold Mt at h
 rw[aE,List.all_eq_true,List.all_eq_true] at h
 obtain⟨h1,h2⟩:=h
 refine⟨λt ht=>?_,λi t hi he=>?_⟩
 ·have:=h1 t (List.mem_range.2 ht)
  simp only[aE,dE,beq_iff_eq,oE] at this
  obtain⟨⟨a,b⟩,c⟩:=this
  refine⟨a,b,λh0=>?_⟩
  rcases c with c|c
  ·exact absurd c h0
  ·cases hl:l[effs.getD t 0]? with
   |none=>rw[hl] at c;cases c
   |some o=>rw[hl] at c;exact⟨o,rfl,c⟩
 ·have:=h2 i (List.mem_range.2 hi)
  rw[he] at this
  simpa using this
def zP:List Ie->Prop
 |[]=>True
 | .p f::r=>(∀G v w G' w',f G v w->Fr G w G' w'->f G' v w')∧zP r
 | .v _::r=>zP r
 | .e _::r=>zP r
 | .w _ _::r=>zP r
 | .q _ _::r=>zP r
theorem DR:∀{its:List Ie},zP its->∀q,q∈its->∀G v w G' w',q.F G v w->Fr G w G' w'->q.F G' v w'
 | .p f::r,h,q,hq,G,v,w,G',w',hf,hk=>by
  rcases mC.1 hq with e|hq
  ·subst e;exact h.1 _ _ _ _ _ hf hk
  ·exact DR (its:=r) h.2 q hq _ _ _ _ _ hf hk
 | .v V::r,h,q,hq,G,v,w,G',w',hf,hk=>by
  rcases mC.1 hq with e|hq
  ·subst e;exact hf
  ·exact DR (its:=r) h q hq _ _ _ _ _ hf hk
 | .e V::r,h,q,hq,G,v,w,G',w',hf,hk=>by
  rcases mC.1 hq with e|hq
  ·subst e;exact hf
  ·exact DR (its:=r) h q hq _ _ _ _ _ hf hk
 | .w t V::r,h,q,hq,G,v,w,G',w',hf,hk=>by
  rcases mC.1 hq with e|hq
  ·subst e;exact hf
  ·exact DR (its:=r) h q hq _ _ _ _ _ hf hk
 | .q t f::r,h,q,hq,G,v,w,G',w',hf,hk=>by
  rcases mC.1 hq with e|hq
  ·subst e;exact hf
  ·exact DR (its:=r) h q hq _ _ _ _ _ hf hk
theorem Sv {its:List Ie} (h:zP its) (i:Nat) {G':List Nat} (hf:(its.getD i lZ).F G v w) (hk:Fr G w G' w'):(its.getD i lZ).F G' v w':=by
 rw[gG] at hf⊢
 cases e:its[i]? with
 |none=>trivial
 |some q=>rw[e] at hf;exact DR h q (List.mem_of_getElem? e) _ _ _ _ _ hf hk
def IN:List (List Nat->List Value->World->Prop)->Prop
 |[]=>True
 |J::r=>(∀G vs w w',J G vs w->aj [] w w'->J G vs w')∧IN r
theorem FY:∀{Js:List (List Nat->List Value->World->Prop)},IN Js->∀(k:Nat) {G:List Nat} {vs:List Value} {w w':World},Js.getD k (λ_ _ _=>True) G vs w->aj [] w w'->Js.getD k (λ_ _ _=>True) G vs w'
 |[],_,k,_,_,_,_,_,_=>by simp
 |J::r,h,0,_,_,_,_,hj,hk=>h.1 _ _ _ _ hj hk
 |J::r,h,k+1,_,_,_,_,hj,hk=>by
  have:=FY (Js:=r) h.2 k (by simpa using hj) hk
  simpa using this
theorem jj {α:Type} {l:List α} (h:l.length=0):l=[]:=by grind
theorem jk {α:Type} {l:List α} (h:l.length=1):∃a,l=[a]:=List.length_eq_one_iff.1 h
theorem k8 {α:Type} {l:List α} (h:l.length=2):∃a b,l=[a,b]:=by
 match l,h with|[a,b],_=>exact⟨a,b,rfl⟩
theorem zQ {α:Type} {l:List α} (h:l.length=3):∃a b c,l=[a,b,c]:=by
 match l,h with|[a,b,c],_=>exact⟨a,b,c,rfl⟩
theorem Mu {α:Type} {l:List α} (h:l.length=4):∃a b c d,l=[a,b,c,d]:=by
 match l,h with|[a,b,c,d],_=>exact⟨a,b,c,d,rfl⟩
theorem Sw {α:Type} {l:List α} (h:l.length=5):∃a b c d e,l=[a,b,c,d,e]:=by
 match l,h with|[a,b,c,d,e],_=>exact⟨a,b,c,d,e,rfl⟩
theorem ael {α:Type} {l:List α} (h:l.length=6):∃a b c d e f,l=[a,b,c,d,e,f]:=by
 match l,h with|[a,b,c,d,e,f],_=>exact⟨a,b,c,d,e,f,rfl⟩
theorem zR {W ds:List Nat} {e:Env} (ha:eh W e0 e) (r:List Nat):bm (bg W e e0) (s0 ds (λi=>e (ds.getD i 0)) r)=e:=by
 rw[xo ha,Fc (by
  intro p hp
  have:∀(r:List Nat),p∈s0 ds (λi=>e (ds.getD i 0)) r->e p.1=p.2:=by
   intro r
   induction r with
   |nil=>intro h;cases h
   |cons j r ih=>
    intro h
    rcases mC.1 h with h|h
    ·subst h;rfl
    ·exact ih h
  exact this _ hp)]
theorem jF {N R:Env->World->Prop} {X:Nat->Env->World->Prop} {id:Nat} {e0:Env} {w0:World} (hm:P.follows .mixedOrders=true) (G0:List Nat) (m:Nat) (W ds:List Nat) (deps:List (List Nat)) (its:List Ie) (effs:List Nat) (Js:List (List Nat->List Value->World->Prop)) 
  (hB:um l m W ds deps=true) (hE:Mt l m effs its=true) (hL:eJ G0 w0) (hF:zP its) (hJ:IN Js) (h0:Js.getD 0 (λ_ _ _=>True) G0 [] w0)
  (hc:uG P n l.toArray W ds its Js e0 G0 w0 0 (l.take m) deps)
  (ht:∀(x:Env) (w:World) (G:List Nat) (aR:List Value),Fr G0 w0 G w->eJ G w->Js.getD effs.length (λ_ _ _=>True) G aR w->aR.length=effs.length->vY its ds G aR w (List.range m) λacc=>OW P n l.toArray N (l.drop m) (bm (bg W x e0) acc) w):
  CW P n (.region id l.toArray true) N R X e0 w0:=λa ha=>by
 refine wp_region_any hm ?_
 have fU:aj [] w0 {w0 with drawn:=w0.drawn+1}:=aj.drew _ _
 obtain⟨vG,Ds,K1,iV,nV⟩:=Dr hB
 obtain⟨oS,mq⟩:=aek hE
 have dH:∀i j,i<m->j<m->i≠j->ds.getD j 0≠ds.getD i 0:=λi j hi hj kn=>by
  rw[gG,gG,gE om,gE om]
  simp only[Option.getD_some]
  intro he
  exact kn ((List.getElem_inj iV).1 he.symm)
 let Inv:(Nat->Bool)->Env->World->Prop:=λS e w=>∃G k,eh W e0 e∧Fr G0 w0 G w∧eJ G w∧k<=effs.length∧(∀t,t<effs.length->(S (effs.getD t 0)=true↔t<k))∧
  Js.getD k (λ_ _ _=>True) G ((effs.take k).map λi=>e (ds.getD i 0)) w∧∀i,i<m->S i=true->(its.getD i lZ).F G (e (ds.getD i 0)) w
 have F0:∀(S:Nat->Bool) (e:Env) (k:Nat),(∀t,t<effs.length->(S (effs.getD t 0)=true↔t<k))->k<=effs.length->∀j t,j<m->S j=true->(its.getD j lZ).j6=some t->((effs.take k).map λi=>e (ds.getD i 0)).getD t undef=e (ds.getD j 0):=by
  intro S e k hS hk j t hj lz he
  obtain⟨h1,h2⟩:=mq j t hj he
  have h3:t<k:=(hS t h1).1 (by rw[h2];exact lz)
  rw[gG,List.getElem?_map,List.getElem?_take,iP h3,gE h1]
  rw[gG,gE h1] at h2
  simp only[Option.getD_some] at h2
  simp[h2]
 have step:∀(S:Nat->Bool) (e:Env) (w:World) (i:Nat) (o:Oper),i<m->l[i]?=some o->S i=false->(∀j,waits o j=true->S j=true)->Inv S e w->
   OW P n l.toArray (λe' w'=>Inv (λj=>if j=i then true else S j) e' w') [o] e w:=by
  rintro S e w i o qA ho tE zS ⟨G,k,p3,bD,pF,fZ,hS,uH,oK⟩
  obtain⟨hW,yX⟩:=(nV i o ho).2.1 qA
  obtain⟨dp,yY⟩:∃d,deps[i]?=some d:=⟨deps[i]'om,gE om⟩
  have Fj:deps.getD i []=dp:=by rw[gG,yY];rfl
  rw[Fj] at yX
  have iQ:=Su (l.take m) deps 0 hc i o dp (by rw[List.getElem?_take,iP qA];exact ho) yY
  rw[Nat.zero_add] at iQ
  have hd:∀j,j∈dp->(its.getD j lZ).F G (e (ds.getD j 0)) w∧∀t,(its.getD j lZ).j6=some t->((effs.take k).map λi=>e (ds.getD i 0)).getD t undef=e (ds.getD j 0):=λj hj=>by
   obtain⟨h1,h2⟩:=yX j hj
   exact⟨oK j h2 (zS j h1),λt het=>F0 S e k hS fZ j t h2 (zS j h1) het⟩
  have F2:∀e',eh [ds.getD i 0] e e'->eh W e0 e':=λe' h t BL=>by
   have DS:t≠ds.getD i 0:=λhe=>by rw[he,hW] at BL;cases BL
   rw[h t (by simpa using DS)];exact p3 t BL
  have zT:∀e',eh [ds.getD i 0] e e'->∀j,j<m->j≠i->e' (ds.getD j 0)=e (ds.getD j 0):=λe' h j hj iS=>h _ (by simpa using dH i j qA hj (λh=>iS h.symm))
  have fj:[o]=[o]++[]:=rfl
  cases su:(its.getD i lZ).j6 with
  |none=>
   unfold DQ at iQ
   rw[su] at iQ
   have h1:=zO (iQ e w G _ bD pF) (vs:=λj=>e (ds.getD j 0)) hd
   rw[zR p3] at h1
   rw[fj]
   refine vF h1 ?_
   rintro e' w' ⟨pw,xK,lB⟩
   refine aZ ⟨G,k,F2 e' lB,bD.ext pw,λx hx=>lL (pF x hx) pw.size,fZ,λt fE=>?_,?_,λj hj lz=>?_⟩
   ·have sw:effs.getD t 0≠i:=λh=>by have:=(oS t fE).2.1;rw[h,su] at this;cases this
    simp only[iN sw]
    exact hS t fE
   ·have e1:((effs.take k).map λi=>e' (ds.getD i 0))=(effs.take k).map λi=>e (ds.getD i 0):=by
     apply List.map_congr_left
     intro j hj
     obtain⟨t,nC⟩:=List.mem_iff_getElem?.1 hj
     rw[List.getElem?_take] at nC
     split at nC
     ·have fE:t<effs.length:=(List.getElem?_eq_some_iff.1 nC).1
      have ur:effs.getD t 0=j:=by rw[gG,nC];rfl
      have h3:=oS t fE
      rw[ur] at h3
      exact zT e' lB j h3.1 (λh=>by rw[h,su] at h3;cases h3.2.1)
     ·cases nC
    rw[e1];exact FY hJ k uH pw
   ·by_cases iS:j=i
    ·rw[iS];exact xK
    ·simp only[iN iS] at lz
     rw[zT e' lB j hj iS]
     exact Sv hF j (oK j hj lz) (Fr.of pw sm)
  |some t=>
   unfold DQ at iQ
   rw[su] at iQ
   obtain⟨fE,sw⟩:=mq i t qA su
   have sy:k=t:=by
    have h1:¬t<k:=λh=>by have:=(hS t fE).2 h;rw[sw,tE] at this;cases this
    rcases Nat.eq_zero_or_pos t with h0|h0
    ·omega
    ·obtain⟨o',mo,F3⟩:=(oS t fE).2.2 om
     rw[sw,ho] at mo
     cases mo
     have:=(hS (t-1) om).1 (zS _ F3)
     omega
   subst sy
   have hlen:((effs.take k).map λi=>e (ds.getD i 0)).length=k:=by simp;omega
   have h1:=zO (iQ e w G _ bD pF uH hlen) (vs:=λj=>e (ds.getD j 0)) hd
   rw[zR p3] at h1
   rw[fj]
   refine vF h1 ?_
   rintro e' w' ⟨⟨G',vZ,BM,DT,xK⟩,lB⟩
   have F4:∀t',t'<effs.length->effs.getD t' 0=i->t'=k:=λt' h1 h2=>by
    have:=(oS t' h1).2.1
    rw[h2,su] at this
    cases this;rfl
   refine aZ ⟨G',k+1,F2 e' lB,bD.go vZ,BM,om,λt' zU=>?_,?_,λj hj lz=>?_⟩
   ·by_cases h2:effs.getD t' 0=i
    ·have:=F4 t' zU h2
     simp only[iP h2]
     exact⟨λ_=>om,λ_=>trivial⟩
    ·simp only[iN h2]
     rw[hS t' zU]
     have:t'≠k:=λh=>by rw[h] at h2;exact h2 sw
     omega
   ·have e1:((effs.take (k+1)).map λi=>e' (ds.getD i 0))=((effs.take k).map λi=>e (ds.getD i 0))++[e' (ds.getD i 0)]:=by
     have h2:effs[k]?=some i:=by
      rw[gG,gE fE] at sw
      rw[gE fE]
      simpa using sw
     rw[List.take_add_one,h2,List.map_append]
     congr 1
     apply List.map_congr_left
     intro j hj
     obtain⟨t',nC⟩:=List.mem_iff_getElem?.1 hj
     rw[List.getElem?_take] at nC
     split at nC
     ·rename_i dR
      have zU:t'<effs.length:=(List.getElem?_eq_some_iff.1 nC).1
      have ur:effs.getD t' 0=j:=by rw[gG,nC];rfl
      exact zT e' lB j (by have:=(oS t' zU).1;rw[ur] at this;exact this) (λh=>by have:=F4 t' zU (ur.trans h);omega)
     ·cases nC
    rw[e1];exact DT
   ·by_cases iS:j=i
    ·rw[iS];exact xK
    ·simp only[iN iS] at lz
     rw[zT e' lB j hj iS]
     exact Sv hF j (oK j hj lz) vZ
 have tail:∀(S:Nat->Bool) (e:Env) (w:World),(∀i,i<m->S i=true)->Inv S e w->OW P n l.toArray N (l.drop m) e w:=by
  rintro S e w zV ⟨G,k,p3,bD,pF,fZ,hS,uH,oK⟩
  have hk:k=effs.length:=by
   rcases Nat.lt_or_ge k effs.length with h|h
   ·have:=(hS k h).1 (zV _ (oS k h).1);omega
   ·omega
  subst hk
  have h1:=zO (ht e w G _ bD pF uH sm) (vs:=λj=>e (ds.getD j 0)) (λj hj=>by
   have px:=List.mem_range.1 hj
   exact⟨oK j px (zV j px),λt het=>F0 S e _ hS fZ j t px (zV j px) het⟩)
  rw[zR p3] at h1
  exact h1
 have gD:∀j,(Array.replicate l.length false).getD j false=false:=λj=>by
  rw[Array.getD_eq_getD_getElem?,Array.getElem?_replicate];split<;>rfl
 have Mv:Inv (λj=>(Array.replicate l.length false).getD j false) e0 {w0 with drawn:=w0.drawn+1}:=by
  refine⟨G0,0,xm,Fr.of fU sm,λx hx=>hL x hx,Nat.zero_le _,λt fE=>?_,FY hJ 0 h0 fU,λi hi tE=>?_⟩
  ·constructor
   ·intro h;exact absurd ((gD (effs.getD t 0)).symm.trans h) sm
   ·intro h;omega
  ·exact absurd ((gD i).symm.trans tE) sm
 have:=Ss (N:=N) (Inv:=Inv) hB step tail (kS n N R X) l.length (Array.replicate l.length false) e0 a _ ha sm
  (by
   have:((List.range l.length).filter λj=>!(Array.replicate l.length false).getD j true)=List.range l.length:=by
    rw[List.filter_eq_self]
    intro j hj
    rw[List.mem_range] at hj
    simp[Array.getD_eq_getD_getElem?,hj]
   rw[this];simp)
  (by intro j _ hj;simp[Array.getD_eq_getD_getElem?,hj])
  Mv
  (by
   intro j o ho hj
   have px:j<l.length:=(List.getElem?_eq_some_iff.1 ho).1
   simp[Array.getD_eq_getD_getElem?,px] at hj)
 have e1:ph n N (kS n N R X)=kS n N R X:=by
  funext x a w;cases x<;>rfl
 rw[e1] at this
 simpa using this
end
section
variable {P:Program} {n:Nat} {ops:Array Oper} {e:Env} {w w':World} {G:List Nat}
theorem fv (h:v=V:=by rfl):OW P n ops (λe' w'=>aj [] w w'∧(Ie.v V).F G (e' d) w'∧eh [d] e e') [] (bQ e (some d) v) w:=
 aZ ⟨aj.refl _ _,by subst h;exact ni _ _ _,qz⟩
theorem fk (k:aj [] w w') (h:v=V:=by rfl):OW P n ops (λe' w'=>aj [] w w'∧(Ie.v V).F G (e' d) w'∧eh [d] e e') [] (bQ e (some d) v) w':=
 aZ ⟨k,by subst h;exact ni _ _ _,qz⟩
theorem ff {f:List Nat->Value->World->Prop} (k:aj [] w w') (h:f G v w'):OW P n ops (λe' w'=>aj [] w w'∧(Ie.p f).F G (e' d) w'∧eh [d] e e') [] (bQ e (some d) v) w':=
 aZ ⟨k,by show f G (gT e d v d) w';rw[ni];exact h,qz⟩
theorem fe {aR:List Value} (G':List Nat) (k:Fr G w G' w') (hl:eJ G' w') (h:J G' (aR++[v]) w'):OW P n ops (λe' w'=>(∃G',Fr G w G' w'∧eJ G' w'∧J G' (aR++[e' d]) w'∧(Ie.e t).F G' (e' d) w')∧eh [d] e e') [] (bQ e (some d) v) w':=
 aZ ⟨⟨G',k,hl,by show J G' (aR++[gT e d v d]) w';rw[ni];exact h,trivial⟩,qz⟩
theorem fw {aR:List Value} (G':List Nat) (k:Fr G w G' w') (hl:eJ G' w') (h:J G' (aR++[v]) w') (hv:v=V:=by rfl):OW P n ops (λe' w'=>(∃G',Fr G w G' w'∧eJ G' w'∧J G' (aR++[e' d]) w'∧(Ie.w t V).F G' (e' d) w')∧eh [d] e e') [] (bQ e (some d) v) w':=
 aZ ⟨⟨G',k,hl,by show J G' (aR++[gT e d v d]) w';rw[ni];exact h,by subst hv;exact ni _ _ _⟩,qz⟩
theorem fq {f:Value->Prop} {aR:List Value} (G':List Nat) (k:Fr G w G' w') (hl:eJ G' w') (h:J G' (aR++[v]) w') (hv:f v):OW P n ops (λe' w'=>(∃G',Fr G w G' w'∧eJ G' w'∧J G' (aR++[e' d]) w'∧(Ie.q t f).F G' (e' d) w')∧eh [d] e e') [] (bQ e (some d) v) w':=
 aZ ⟨⟨G',k,hl,by show J G' (aR++[gT e d v d]) w';rw[ni];exact h,by show f (gT e d v d);rw[ni];exact hv⟩,qz⟩
end
inductive Iu where
 |v (V:Value)
 |p (f:List Nat->Value->World->Prop)
 |e (t:Nat)
 |w (t:Nat) (V:Value)
 |d (f:List Value->Value)
 |u
def Iu.F:Iu->List Nat->Value->World->Prop
 | .v V=>λ_ v _=>v=V
 | .p f=>f
 | .w _ V=>λ_ v _=>v=V
 |_=>λ_ _ _=>True
def Iu.j6:Iu->Option Nat
 | .e t=>some t
 | .w t _=>some t
 |_=>none
def Iu.rz:Iu->Bool
 | .u=>true
 |_=>false
def Iu.late:Iu->Bool
 | .u=>true
 | .d _=>true
 |_=>false
abbrev fC:Iu:=.p λ_ _ _=>True
def sA (its:List Iu) (ds:List Nat) (G:List Nat) (aR:List Value) (w:World):List Nat->(List (Nat×Value)->Prop)->Prop
 |[],k=>k []
 |j::r,k=>match its.getD j fC with
  | .v V=>sA its ds G aR w r λacc=>k ((ds.getD j 0,V)::acc)
  | .p f=>∀v,f G v w->sA its ds G aR w r λacc=>k ((ds.getD j 0,v)::acc)
  | .e t=>sA its ds G aR w r λacc=>k ((ds.getD j 0,aR.getD t undef)::acc)
  | .w _ V=>sA its ds G aR w r λacc=>k ((ds.getD j 0,V)::acc)
  | .d f=>sA its ds G aR w r λacc=>k ((ds.getD j 0,f aR)::acc)
  | .u=>∀v,sA its ds G aR w r λacc=>k ((ds.getD j 0,v)::acc)
def Sx (q:Iu) (G:List Nat) (aR:List Value) (v:Value) (w:World):Prop:=q.F G v w∧(∀t,q= .e t->aR.getD t undef=v)∧∀f,q= .d f->f aR=v
theorem uI {its:List Iu} {ds:List Nat} {aR:List Value} {vs:Nat->Value}:∀{deps:List Nat} {k:List (Nat×Value)->Prop},sA its ds G aR w deps k->
  (∀j,j∈deps->Sx (its.getD j fC) G aR (vs j) w)->k (s0 ds vs deps)
 |[],k,h,_=>h
 |j::r,k,h,hd=>by
  obtain⟨hp,he,hq⟩:=hd j (List.mem_cons_self ..)
  unfold sA at h
  have hr:∀i,i∈r->_:=λi hi=>hd i (mK _ hi)
  cases e:its.getD j fC with
  |v V=>
   rw[e] at h hp
   have hv:vs j=V:=hp
   subst hv
   exact uI (deps:=r) h hr
  |p f=>
   rw[e] at h hp
   exact uI (deps:=r) (h _ hp) hr
  |e t=>
   rw[e] at h
   have hv:=he t e
   simp only[hv] at h
   exact uI (deps:=r) h hr
  |w t V=>
   rw[e] at h hp
   have hv:vs j=V:=hp
   subst hv
   exact uI (deps:=r) h hr
  |d f=>
   rw[e] at h
   have hv:=hq f e
   simp only[hv] at h
   exact uI (deps:=r) h hr
  |u=>
   rw[e] at h
   exact uI (deps:=r) (h _) hr
section
variable (P:Program) (n:Nat) (ops:Array Oper) (W ds:List Nat) (its:List Iu) (Js:List (List Nat->List Value->World->Prop)) (JF:(Nat->Bool)->List Nat->List Value->World->Prop) (e0:Env) (G0:List Nat) (w0:World)
def IP (i:Nat) (o:Oper) (deps:List Nat):Prop:=
 ∀(x:Env) (w:World) (G:List Nat) (aR:List Value),Fr G0 w0 G w->eJ G w->sA its ds G aR w deps λacc=>
  OW P n ops (λe' w'=>aj [] w w'∧(its.getD i fC).F G (e' (ds.getD i 0)) w'∧eh [ds.getD i 0] (bm (bg W x e0) acc) e') [o] (bm (bg W x e0) acc) w
def F5 (t i:Nat) (o:Oper) (deps:List Nat):Prop:=
 ∀(x:Env) (w:World) (G:List Nat) (aR:List Value),Fr G0 w0 G w->eJ G w->Js.getD t (λ_ _ _=>True) G aR w->aR.length=t->sA its ds G aR w deps λacc=>
  OW P n ops (λe' w'=>(∃G',Fr G w G' w'∧eJ G' w'∧Js.getD (t+1) (λ_ _ _=>True) G' (aR++[e' (ds.getD i 0)]) w'∧(its.getD i fC).F G' (e' (ds.getD i 0)) w')∧eh [ds.getD i 0] (bm (bg W x e0) acc) e') [o] (bm (bg W x e0) acc) w
def Mw (ne:Nat) (f:List Value->Value) (i:Nat) (o:Oper) (deps:List Nat):Prop:=
 ∀(x:Env) (w:World) (G:List Nat) (aR:List Value) (S:Nat->Bool),Fr G0 w0 G w->eJ G w->JF S G aR w->aR.length=ne->sA its ds G aR w deps λacc=>
  OW P n ops (λe' w'=>aj [] w w'∧e' (ds.getD i 0)=f aR∧eh [ds.getD i 0] (bm (bg W x e0) acc) e') [o] (bm (bg W x e0) acc) w
def Mx (ne i:Nat) (o:Oper) (deps:List Nat):Prop:=
 ∀(x:Env) (w:World) (G:List Nat) (aR:List Value) (S:Nat->Bool),Fr G0 w0 G w->eJ G w->JF S G aR w->S i=false->aR.length=ne->sA its ds G aR w deps λacc=>
  OW P n ops (λe' w'=>(∃G',Fr G w G' w'∧eJ G' w'∧JF (λj=>if j=i then true else S j) G' aR w')∧eh [ds.getD i 0] (bm (bg W x e0) acc) e') [o] (bm (bg W x e0) acc) w
def uc (ne i:Nat) (o:Oper) (deps:List Nat):Prop:=match its.getD i fC with
 | .e t=>F5 P n ops W ds its Js e0 G0 w0 t i o deps
 | .w t _=>F5 P n ops W ds its Js e0 G0 w0 t i o deps
 | .d f=>Mw P n ops W ds its JF e0 G0 w0 ne f i o deps
 | .u=>Mx P n ops W ds its JF e0 G0 w0 ne i o deps
 |_=>IP P n ops W ds its e0 G0 w0 i o deps
def qJ (ne:Nat):Nat->List Oper->List (List Nat)->Prop
 |_,[],_=>True
 |_,_::_,[]=>True
 |k,o::l,d::r=>uc P n ops W ds its Js JF e0 G0 w0 ne k o d∧qJ ne (k+1) l r
end
section
variable {P:Program} {n:Nat} {ops:Array Oper} {W ds:List Nat} {its:List Iu} {Js:List (List Nat->List Value->World->Prop)} {JF:(Nat->Bool)->List Nat->List Value->World->Prop} {e0:Env} {G0:List Nat} {w0:World} {ne:Nat}
theorem uf {d:List Nat} (h:IP P n ops W ds its e0 G0 w0 k o d) (hr:qJ P n ops W ds its Js JF e0 G0 w0 ne (k+1) l r) (hk:(its.getD k fC).j6=none∧(its.getD k fC).late=false:=by exact⟨rfl,rfl⟩):qJ P n ops W ds its Js JF e0 G0 w0 ne k (o::l) (d::r):=by grind [IP,qJ,Ie.j6,Iu.j6,Iu.late,uc]
theorem ue (t:Nat) {d:List Nat} (h:F5 P n ops W ds its Js e0 G0 w0 t k o d) (hr:qJ P n ops W ds its Js JF e0 G0 w0 ne (k+1) l r) (hk:(its.getD k fC).j6=some t:=by rfl):qJ P n ops W ds its Js JF e0 G0 w0 ne k (o::l) (d::r):=by grind [F5,qJ,Ie.j6,Iu.j6,uc]
theorem ud {d:List Nat} {f:List Value->Value} (h:Mw P n ops W ds its JF e0 G0 w0 ne f k o d) (hr:qJ P n ops W ds its Js JF e0 G0 w0 ne (k+1) l r) (hk:its.getD k fC= .d f:=by rfl):qJ P n ops W ds its Js JF e0 G0 w0 ne k (o::l) (d::r):=by grind [Mw,qJ,uc]
theorem uu {d:List Nat} (h:Mx P n ops W ds its JF e0 G0 w0 ne k o d) (hr:qJ P n ops W ds its Js JF e0 G0 w0 ne (k+1) l r) (hk:its.getD k fC= .u:=by rfl):qJ P n ops W ds its Js JF e0 G0 w0 ne k (o::l) (d::r):=by grind [Mx,qJ,uc]
theorem Sy:∀(l:List Oper) (deps:List (List Nat)) (k:Nat),qJ P n ops W ds its Js JF e0 G0 w0 ne k l deps->∀(i:Nat) (o:Oper) (d:List Nat),l[i]?=some o->deps[i]?=some d->uc P n ops W ds its Js JF e0 G0 w0 ne (k+i) o d
 |[],_,_,_,i,o,d,h,_=>by simp at h
 |_::_,[],_,_,i,o,d,_,h=>by simp at h
 |o::l,d::r,k,h,0,o',d',ho,hd=>by
  simp at ho hd;subst ho;subst hd;exact h.1
 |o::l,d::r,k,h,i+1,o',d',ho,hd=>by
  have:=Sy l r (k+1) h.2 i o' d' (by simpa using ho) (by simpa using hd)
  rwa [show k+1+i=k+(i+1) by omega] at this
end
def uB (l:List Oper) (m:Nat) (effs:List Nat) (its:List Iu):Bool:=
 (List.range effs.length).all (λt=>decide (effs.getD t 0<m)&&((its.getD (effs.getD t 0) fC).j6==some t)&&(decide (t=0)||(match l[effs.getD t 0]? with|some o=>waits o (effs.getD (t-1) 0)|none=>false)))&&
 (List.range m).all (λi=>(match(its.getD i fC).j6 with|some t=>decide (t<effs.length)&&decide (effs.getD t 0=i)|none=>true)&&
  (!(its.getD i fC).late||decide (effs.length=0)||(match l[i]? with|some o=>waits o (effs.getD (effs.length-1) 0)|none=>false)))&&
 decide (its.length<=m)
theorem aem {effs:List Nat} {its:List Iu} (h:uB l m effs its=true):
  (∀t,t<effs.length->effs.getD t 0<m∧(its.getD (effs.getD t 0) fC).j6=some t∧(t≠0->∃o,l[effs.getD t 0]?=some o∧waits o (effs.getD (t-1) 0)=true))∧
  (∀i t,i<m->(its.getD i fC).j6=some t->t<effs.length∧effs.getD t 0=i)∧
  (∀i,i<m->(its.getD i fC).late=true->effs.length≠0->∃o,l[i]?=some o∧waits o (effs.getD (effs.length-1) 0)=true)∧its.length<=m:=by
 unfold uB at h
 rw[aE,aE,List.all_eq_true,List.all_eq_true,dE] at h
 obtain⟨⟨h1,h2⟩,h3⟩:=h
 refine⟨λt ht=>?_,λi t hi he=>?_,λi hi hl hn=>?_,h3⟩
 ·have:=h1 t (List.mem_range.2 ht)
  simp only[aE,dE,beq_iff_eq,oE] at this
  obtain⟨⟨a,b⟩,c⟩:=this
  refine⟨a,b,λh0=>?_⟩
  rcases c with c|c
  ·exact absurd c h0
  ·cases hl:l[effs.getD t 0]? with
   |none=>rw[hl] at c;cases c
   |some o=>rw[hl] at c;exact⟨o,rfl,c⟩
 ·have:=h2 i (List.mem_range.2 hi)
  rw[he] at this
  simp only[aE,dE] at this
  exact this.1
 ·have:=h2 i (List.mem_range.2 hi)
  rw[aE,hl] at this
  have:=this.2
  simp only[Bool.not_true,Bool.false_or,oE,dE] at this
  rcases this with c|c
  ·exact absurd c hn
  ·cases hl:l[i]? with
   |none=>rw[hl] at c;cases c
   |some o=>rw[hl] at c;exact⟨o,rfl,c⟩
def F6:List Iu->Prop
 |[]=>True
 | .p f::r=>(∀G v w G' w',f G v w->Fr G w G' w'->f G' v w')∧F6 r
 |_::r=>F6 r
theorem BN:∀{its:List Iu},F6 its->∀q,q∈its->∀G v w G' w',q.F G v w->Fr G w G' w'->q.F G' v w'
 |s::r,h,q,hq,G,v,w,G',w',hf,hk=>by
  rcases mC.1 hq with e|nD
  ·subst e
   cases q with
   |p f=>exact h.1 _ _ _ _ _ hf hk
   |_=>exact hf
  ·cases s with
   |p f=>exact BN (its:=r) h.2 q nD _ _ _ _ _ hf hk
   |v V=>exact BN (its:=r) h q nD _ _ _ _ _ hf hk
   |e t=>exact BN (its:=r) h q nD _ _ _ _ _ hf hk
   |w t V=>exact BN (its:=r) h q nD _ _ _ _ _ hf hk
   |d f=>exact BN (its:=r) h q nD _ _ _ _ _ hf hk
   |u=>exact BN (its:=r) h q nD _ _ _ _ _ hf hk
theorem Sz {its:List Iu} (h:F6 its) (i:Nat) {G':List Nat} (hf:(its.getD i fC).F G v w) (hk:Fr G w G' w'):(its.getD i fC).F G' v w':=by
 rw[gG] at hf⊢
 cases e:its[i]? with
 |none=>trivial
 |some q=>rw[e] at hf;exact BN h q (List.mem_of_getElem? e) _ _ _ _ _ hf hk
section
variable {P:Program} {n:Nat} {l:List Oper} {m:Nat} {W ds:List Nat} {deps:List (List Nat)}
theorem SA {N R:Env->World->Prop} {X:Nat->Env->World->Prop} {id:Nat} {e0:Env} {w0:World} (hm:P.follows .mixedOrders=true) (G0:List Nat) (m:Nat) (W ds:List Nat) (deps:List (List Nat)) (its:List Iu) (effs:List Nat) (Js:List (List Nat->List Value->World->Prop)) (JF:(Nat->Bool)->List Nat->List Value->World->Prop) 
  (hB:um l m W ds deps=true) (hE:uB l m effs its=true) (hL:eJ G0 w0) (hF:F6 its) (hJ:IN Js) (SB:∀S G vs w w',JF S G vs w->aj [] w w'->JF S G vs w') (h0:Js.getD 0 (λ_ _ _=>True) G0 [] w0)
  (IQ:∀G vs w,Js.getD effs.length (λ_ _ _=>True) G vs w->vs.length=effs.length->JF (λ_=>false) G vs w)
  (hc:qJ P n l.toArray W ds its Js JF e0 G0 w0 effs.length 0 (l.take m) deps)
  (ht:∀(x:Env) (w:World) (G:List Nat) (aR:List Value),Fr G0 w0 G w->eJ G w->JF (λi=>(its.getD i fC).rz) G aR w->aR.length=effs.length->sA its ds G aR w (List.range m) λacc=>OW P n l.toArray N (l.drop m) (bm (bg W x e0) acc) w):
  CW P n (.region id l.toArray true) N R X e0 w0:=λa ha=>by
 refine wp_region_any hm ?_
 have fU:aj [] w0 {w0 with drawn:=w0.drawn+1}:=aj.drew _ _
 obtain⟨vG,Ds,K1,iV,nV⟩:=Dr hB
 obtain⟨oS,mq,he3,mm⟩:=aem hE
 have dH:∀i j,i<m->j<m->i≠j->ds.getD j 0≠ds.getD i 0:=λi j hi hj kn=>by
  rw[gG,gG,gE om,gE om]
  simp only[Option.getD_some]
  intro he
  exact kn ((List.getElem_inj iV).1 he.symm)
 let vl:Nat->Env->List Value:=λk e=>(effs.take k).map λi=>e (ds.getD i 0)
 let US:(Nat->Bool)->Nat->Bool:=λS i=>S i&&(its.getD i fC).rz
 let Inv:(Nat->Bool)->Env->World->Prop:=λS e w=>∃G k,eh W e0 e∧Fr G0 w0 G w∧eJ G w∧k<=effs.length∧(∀t,t<effs.length->(S (effs.getD t 0)=true↔t<k))∧
  (k<effs.length->Js.getD k (λ_ _ _=>True) G (vl k e) w∧∀i,i<m->S i=true->(its.getD i fC).late=false)∧(k=effs.length->JF (US S) G (vl k e) w)∧
  ∀i,i<m->S i=true->(its.getD i fC).F G (e (ds.getD i 0)) w∧∀f,its.getD i fC= .d f->f (vl k e)=e (ds.getD i 0)
 have F0:∀(S:Nat->Bool) (e:Env) (k:Nat),(∀t,t<effs.length->(S (effs.getD t 0)=true↔t<k))->k<=effs.length->∀j t,j<m->S j=true->(its.getD j fC).j6=some t->(vl k e).getD t undef=e (ds.getD j 0):=by
  intro S e k hS hk j t hj lz he
  obtain⟨h1,h2⟩:=mq j t hj he
  have h3:t<k:=(hS t h1).1 (by rw[h2];exact lz)
  show((effs.take k).map λi=>e (ds.getD i 0)).getD t undef=_
  rw[gG,List.getElem?_map,List.getElem?_take,iP h3,gE h1]
  rw[gG,gE h1] at h2
  simp only[Option.getD_some] at h2
  simp[h2]
 have F7:∀k e,k<=effs.length->(vl k e).length=k:=λk e hk=>by show((effs.take k).map _).length=k;simp;omega
 have step:∀(S:Nat->Bool) (e:Env) (w:World) (i:Nat) (o:Oper),i<m->l[i]?=some o->S i=false->(∀j,waits o j=true->S j=true)->Inv S e w->
   OW P n l.toArray (λe' w'=>Inv (λj=>if j=i then true else S j) e' w') [o] e w:=by
  rintro S e w i o qA ho tE zS ⟨G,k,p3,bD,pF,fZ,hS,uH,DU,oK⟩
  obtain⟨hW,yX⟩:=(nV i o ho).2.1 qA
  obtain⟨dp,yY⟩:∃d,deps[i]?=some d:=⟨deps[i]'om,gE om⟩
  have Fj:deps.getD i []=dp:=by rw[gG,yY];rfl
  rw[Fj] at yX
  have iQ:=Sy (l.take m) deps 0 hc i o dp (by rw[List.getElem?_take,iP qA];exact ho) yY
  rw[Nat.zero_add] at iQ
  have hd:∀j,j∈dp->Sx (its.getD j fC) G (vl k e) (e (ds.getD j 0)) w:=λj hj=>by
   obtain⟨h1,h2⟩:=yX j hj
   have h3:=oK j h2 (zS j h1)
   exact⟨h3.1,λt het=>F0 S e k hS fZ j t h2 (zS j h1) (by rw[het];rfl),h3.2⟩
  have F2:∀e',eh [ds.getD i 0] e e'->eh W e0 e':=λe' h t BL=>by
   have DS:t≠ds.getD i 0:=λhe=>by rw[he,hW] at BL;cases BL
   rw[h t (by simpa using DS)];exact p3 t BL
  have zT:∀e',eh [ds.getD i 0] e e'->∀j,j<m->j≠i->e' (ds.getD j 0)=e (ds.getD j 0):=λe' h j hj iS=>h _ (by simpa using dH i j qA hj (λh=>iS h.symm))
  have fj:[o]=[o]++[]:=rfl
  have SC:∀e',eh [ds.getD i 0] e e'->∀k',k'<=effs.length->(∀t,t<k'->effs.getD t 0≠i)->vl k' e'=vl k' e:=λe' lB k' pw mF=>by
   show(effs.take k').map _=(effs.take k').map _
   apply List.map_congr_left
   intro j hj
   obtain⟨t,nC⟩:=List.mem_iff_getElem?.1 hj
   rw[List.getElem?_take] at nC
   split at nC
   ·rename_i dR
    have fE:t<effs.length:=(List.getElem?_eq_some_iff.1 nC).1
    have ur:effs.getD t 0=j:=by rw[gG,nC];rfl
    exact zT e' lB j (by have:=(oS t fE).1;rw[ur] at this;exact this) (λh=>mF t dR (ur.trans h))
   ·cases nC
  -- what is late comes behind the last effect
  have SD:(its.getD i fC).late=true->k=effs.length:=λhl=>by
   rcases Nat.eq_zero_or_pos effs.length with h0|h0
   ·omega
   ·obtain⟨o',mo,F3⟩:=he3 i qA hl om
    rw[ho] at mo;cases mo
    have:=(hS (effs.length-1) om).1 (zS _ F3)
    omega
  -- an operation that is no effect in the order
  have main:∀(e':Env) (w':World) (G':List Nat),(its.getD i fC).j6=none->eh [ds.getD i 0] e e'->Fr G w G' w'->eJ G' w'->
    (k<effs.length->Js.getD k (λ_ _ _=>True) G' (vl k e) w'∧(its.getD i fC).late=false)->(k=effs.length->JF (US λj=>if j=i then true else S j) G' (vl k e) w')->
    (its.getD i fC).F G' (e' (ds.getD i 0)) w'->(∀f,its.getD i fC= .d f->f (vl k e)=e' (ds.getD i 0))->Inv (λj=>if j=i then true else S j) e' w':=by
   intro e' w' G' su lB vZ BM DV rB xK hDi
   have mF:∀t,t<effs.length->effs.getD t 0≠i:=λt fE h=>by have:=(oS t fE).2.1;rw[h,su] at this;cases this
   have BO:=SC e' lB k fZ (λt ht=>mF t om)
   refine⟨G',k,F2 e' lB,bD.go vZ,BM,fZ,λt fE=>?_,λdR=>⟨?_,λj hj lz=>?_⟩,λk9=>?_,λj hj lz=>?_⟩
   ·simp only[iN (mF t fE)];exact hS t fE
   ·rw[BO];exact(DV dR).1
   ·by_cases iS:j=i
    ·rw[iS];exact(DV dR).2
    ·simp only[iN iS] at lz;exact(uH dR).2 j hj lz
   ·rw[BO];exact rB k9
   ·rw[BO]
    by_cases iS:j=i
    ·rw[iS];exact⟨xK,hDi⟩
    ·simp only[iN iS] at lz
     rw[zT e' lB j hj iS]
     exact⟨Sz hF j (oK j hj lz).1 vZ,(oK j hj lz).2⟩
  have SE:(its.getD i fC).rz=false->US (λj=>if j=i then true else S j)=US S:=λh=>by
   funext j
   show((if j=i then true else S j)&&(its.getD j fC).rz)=(S j&&(its.getD j fC).rz)
   by_cases iS:j=i
   ·rw[iS,h];simp
   ·rw[iN iS]
  -- the cases
  have floatC:IP P n l.toArray W ds its e0 G0 w0 i o dp->(its.getD i fC).j6=none->(its.getD i fC).late=false->(∀f,its.getD i fC≠ .d f)->(its.getD i fC).rz=false->OW P n l.toArray (λe' w'=>Inv (λj=>if j=i then true else S j) e' w') [o] e w:=by
   intro iQ su F8 My SF
   have h1:=uI (iQ e w G _ bD pF) (vs:=λj=>e (ds.getD j 0)) hd
   rw[zR p3] at h1
   rw[fj]
   refine vF h1 ?_
   rintro e' w' ⟨pw,xK,lB⟩
   exact aZ (main e' w' G su lB (Fr.of pw sm) (λx hx=>lL (pF x hx) pw.size) (λdR=>⟨FY hJ k (uH dR).1 pw,F8⟩) (λk9=>by rw[SE SF];exact SB _ _ _ _ _ (DU k9) pw) xK (λf hf=>absurd hf (My f)))
  have effC:∀t,(its.getD i fC).j6=some t->F5 P n l.toArray W ds its Js e0 G0 w0 t i o dp->(its.getD i fC).late=false->(∀f,its.getD i fC≠ .d f)->(its.getD i fC).rz=false->OW P n l.toArray (λe' w'=>Inv (λj=>if j=i then true else S j) e' w') [o] e w:=by
   intro t su iQ F8 My SF
   obtain⟨fE,sw⟩:=mq i t qA su
   have sy:k=t:=by
    have h1:¬t<k:=λh=>by have:=(hS t fE).2 h;rw[sw,tE] at this;cases this
    rcases Nat.eq_zero_or_pos t with h0|h0
    ·omega
    ·obtain⟨o',mo,F3⟩:=(oS t fE).2.2 om
     rw[sw,ho] at mo
     cases mo
     have:=(hS (t-1) om).1 (zS _ F3)
     omega
   subst sy
   have h1:=uI (iQ e w G _ bD pF (uH fE).1 (F7 k e fZ)) (vs:=λj=>e (ds.getD j 0)) hd
   rw[zR p3] at h1
   rw[fj]
   refine vF h1 ?_
   rintro e' w' ⟨⟨G',vZ,BM,DT,xK⟩,lB⟩
   have F4:∀t',t'<effs.length->effs.getD t' 0=i->t'=k:=λt' h1 h2=>by
    have:=(oS t' h1).2.1
    rw[h2,su] at this
    cases this;rfl
   have BO:vl k e'=vl k e:=SC e' lB k fZ (λt' nW h=>by have:=F4 t' om h;omega)
   have fX:vl (k+1) e'=vl k e++[e' (ds.getD i 0)]:=by
    have h2:effs[k]?=some i:=by
     rw[gG,gE fE] at sw
     rw[gE fE]
     simpa using sw
    rw[<-BO]
    show(effs.take (k+1)).map _=(effs.take k).map _++_
    rw[List.take_add_one,h2,List.map_append]
    rfl
   have SG:∀j,j<m->(if j=i then true else S j)=true->(its.getD j fC).late=false:=λj hj lz=>by
    by_cases iS:j=i
    ·rw[iS];exact F8
    ·rw[iN iS] at lz;exact(uH fE).2 j hj lz
   refine aZ ⟨G',k+1,F2 e' lB,bD.go vZ,BM,om,λt' zU=>?_,λ_=>⟨by rw[fX];exact DT,SG⟩,λk9=>?_,λj hj lz=>?_⟩
   ·by_cases h2:effs.getD t' 0=i
    ·have:=F4 t' zU h2
     simp only[iP h2]
     exact⟨λ_=>om,λ_=>trivial⟩
    ·simp only[iN h2]
     rw[hS t' zU]
     have:t'≠k:=λh=>by rw[h] at h2;exact h2 sw
     omega
   ·have e1:US (λj=>if j=i then true else S j)=λ_=>false:=by
     funext j
     show((if j=i then true else S j)&&(its.getD j fC).rz)=false
     by_cases Br:j<m
     ·cases hb:(if j=i then true else S j) with
      |false=>rfl
      |true=>
       have h3:=SG j Br hb
       cases e:its.getD j fC with
       |u=>rw[e] at h3;cases h3
       |_=>rfl
     ·rw[gG,List.getElem?_eq_none om]
      simp[Iu.rz]
    rw[e1]
    exact IQ _ _ _ (by rw[fX,<-k9];exact DT) (by rw[F7 _ _ om];omega)
   ·by_cases iS:j=i
    ·rw[iS];exact⟨xK,λf hf=>absurd hf (My f)⟩
    ·simp only[iN iS] at lz
     rw[zT e' lB j hj iS]
     refine⟨Sz hF j (oK j hj lz).1 vZ,λf hf=>?_⟩
     have:=(uH fE).2 j hj lz
     rw[hf] at this;cases this
  cases jl:its.getD i fC with
  |v V=>unfold uc at iQ;rw[jl] at iQ;exact floatC iQ (by rw[jl];rfl) (by rw[jl];rfl) (λf h=>by rw[jl] at h;cases h) (by rw[jl];rfl)
  |p f=>unfold uc at iQ;rw[jl] at iQ;exact floatC iQ (by rw[jl];rfl) (by rw[jl];rfl) (λf h=>by rw[jl] at h;cases h) (by rw[jl];rfl)
  |e t=>unfold uc at iQ;rw[jl] at iQ;exact effC t (by rw[jl];rfl) iQ (by rw[jl];rfl) (λf h=>by rw[jl] at h;cases h) (by rw[jl];rfl)
  |w t V=>unfold uc at iQ;rw[jl] at iQ;exact effC t (by rw[jl];rfl) iQ (by rw[jl];rfl) (λf h=>by rw[jl] at h;cases h) (by rw[jl];rfl)
  |d f=>
   unfold uc at iQ;rw[jl] at iQ
   have k9:=SD (by rw[jl];rfl)
   have h1:=uI (iQ e w G _ _ bD pF (DU k9) (by rw[F7 k e fZ];exact k9)) (vs:=λj=>e (ds.getD j 0)) hd
   rw[zR p3] at h1
   rw[fj]
   refine vF h1 ?_
   rintro e' w' ⟨pw,F9,lB⟩
   exact aZ (main e' w' G (by rw[jl];rfl) lB (Fr.of pw sm) (λx hx=>lL (pF x hx) pw.size) (λdR=>om) (λk9=>by rw[SE (by rw[jl];rfl)];exact SB _ _ _ _ _ (DU k9) pw) (by rw[jl];trivial) (λf' hf=>by rw[jl] at hf;cases hf;exact F9.symm))
  |u=>
   unfold uc at iQ;rw[jl] at iQ
   have k9:=SD (by rw[jl];rfl)
   have h1:=uI (iQ e w G _ _ bD pF (DU k9) (by show(S i&&_)=false;rw[tE];rfl) (by rw[F7 k e fZ];exact k9)) (vs:=λj=>e (ds.getD j 0)) hd
   rw[zR p3] at h1
   rw[fj]
   refine vF h1 ?_
   rintro e' w' ⟨⟨G',vZ,BM,DT⟩,lB⟩
   refine aZ (main e' w' G' (by rw[jl];rfl) lB vZ BM (λdR=>om) (λk9=>?_) (by rw[jl];trivial) (λf' hf=>by rw[jl] at hf;cases hf))
   have e1:US (λj=>if j=i then true else S j)=λj=>if j=i then true else US S j:=by
    funext j
    show((if j=i then true else S j)&&(its.getD j fC).rz)=if j=i then true else(S j&&(its.getD j fC).rz)
    by_cases iS:j=i
    ·rw[iP iS,iP iS,iS,jl];rfl
    ·rw[iN iS,iN iS]
   rw[e1];exact DT
 have tail:∀(S:Nat->Bool) (e:Env) (w:World),(∀i,i<m->S i=true)->Inv S e w->OW P n l.toArray N (l.drop m) e w:=by
  rintro S e w zV ⟨G,k,p3,bD,pF,fZ,hS,uH,DU,oK⟩
  have hk:k=effs.length:=by
   rcases Nat.lt_or_ge k effs.length with h|h
   ·have:=(hS k h).1 (zV _ (oS k h).1);omega
   ·omega
  subst hk
  have e1:US S=λi=>(its.getD i fC).rz:=by
   funext j
   show(S j&&(its.getD j fC).rz)=_
   by_cases Br:j<m
   ·rw[zV j Br];rfl
   ·rw[gG,List.getElem?_eq_none om]
    simp[Iu.rz]
  have hj:=DU rfl
  rw[e1] at hj
  have h1:=uI (ht e w G _ bD pF hj (F7 _ e (lR _))) (vs:=λj=>e (ds.getD j 0)) (λj hj=>by
   have px:=List.mem_range.1 hj
   have h3:=oK j px (zV j px)
   exact⟨h3.1,λt het=>F0 S e _ hS fZ j t px (zV j px) (by rw[het];rfl),h3.2⟩)
  rw[zR p3] at h1
  exact h1
 have gD:∀j,(Array.replicate l.length false).getD j false=false:=λj=>by
  rw[Array.getD_eq_getD_getElem?,Array.getElem?_replicate];split<;>rfl
 have Mv:Inv (λj=>(Array.replicate l.length false).getD j false) e0 {w0 with drawn:=w0.drawn+1}:=by
  have Ff:=FY hJ 0 h0 fU
  refine⟨G0,0,xm,Fr.of fU sm,λx hx=>hL x hx,Nat.zero_le _,λt fE=>?_,λ_=>⟨Ff,λi hi tE=>?_⟩,λk9=>?_,λi hi tE=>?_⟩
  ·constructor
   ·intro h;exact absurd ((gD (effs.getD t 0)).symm.trans h) sm
   ·intro h;omega
  ·exact absurd ((gD i).symm.trans tE) sm
  ·have e1:US (λj=>(Array.replicate l.length false).getD j false)=λ_=>false:=by
    funext j
    show((Array.replicate l.length false).getD j false&&_)=false
    rw[gD];rfl
   rw[e1]
   exact IQ _ _ _ (by rw[<-k9];exact Ff) (by show((effs.take 0).map _).length=_;simpa using k9)
  ·exact absurd ((gD i).symm.trans tE) sm
 have:=Ss (N:=N) (Inv:=Inv) hB step tail (kS n N R X) l.length (Array.replicate l.length false) e0 a _ ha sm
  (by
   have:((List.range l.length).filter λj=>!(Array.replicate l.length false).getD j true)=List.range l.length:=by
    rw[List.filter_eq_self]
    intro j hj
    rw[List.mem_range] at hj
    simp[Array.getD_eq_getD_getElem?,hj]
   rw[this];simp)
  (by intro j _ hj;simp[Array.getD_eq_getD_getElem?,hj])
  Mv
  (by
   intro j o ho hj
   have px:j<l.length:=(List.getElem?_eq_some_iff.1 ho).1
   simp[Array.getD_eq_getD_getElem?,px] at hj)
 have e1:ph n N (kS n N R X)=kS n N R X:=by
  funext x a w;cases x<;>rfl
 rw[e1] at this
 simpa using this
end
section
variable {P:Program} {n:Nat} {ops:Array Oper} {e:Env} {w w':World} {G:List Nat}
theorem uv (h:v=V:=by rfl):OW P n ops (λe' w'=>aj [] w w'∧(Iu.v V).F G (e' d) w'∧eh [d] e e') [] (bQ e (some d) v) w:=
 aZ ⟨aj.refl _ _,by subst h;exact ni _ _ _,qz⟩
theorem up {f:List Nat->Value->World->Prop} (k:aj [] w w') (h:f G v w'):OW P n ops (λe' w'=>aj [] w w'∧(Iu.p f).F G (e' d) w'∧eh [d] e e') [] (bQ e (some d) v) w':=
 aZ ⟨k,by show f G (gT e d v d) w';rw[ni];exact h,qz⟩
theorem uE {aR:List Value} (G':List Nat) (k:Fr G w G' w') (hl:eJ G' w') (h:J G' (aR++[v]) w'):OW P n ops (λe' w'=>(∃G',Fr G w G' w'∧eJ G' w'∧J G' (aR++[e' d]) w'∧(Iu.e t).F G' (e' d) w')∧eh [d] e e') [] (bQ e (some d) v) w':=
 aZ ⟨⟨G',k,hl,by show J G' (aR++[gT e d v d]) w';rw[ni];exact h,trivial⟩,qz⟩
theorem uW {aR:List Value} (G':List Nat) (k:Fr G w G' w') (hl:eJ G' w') (h:J G' (aR++[v]) w') (hv:v=V:=by rfl):OW P n ops (λe' w'=>(∃G',Fr G w G' w'∧eJ G' w'∧J G' (aR++[e' d]) w'∧(Iu.w t V).F G' (e' d) w')∧eh [d] e e') [] (bQ e (some d) v) w':=
 aZ ⟨⟨G',k,hl,by show J G' (aR++[gT e d v d]) w';rw[ni];exact h,by subst hv;exact ni _ _ _⟩,qz⟩
theorem uD (k:aj [] w w') (h:v=V:=by rfl):OW P n ops (λe' w'=>aj [] w w'∧e' d=V∧eh [d] e e') [] (bQ e (some d) v) w':=by grind [aZ,ni,qz]
theorem uU {Q:List Nat->World->Prop} (G':List Nat) (k:Fr G w G' w') (hl:eJ G' w') (h:Q G' w'):OW P n ops (λe' w'=>(∃G',Fr G w G' w'∧eJ G' w'∧Q G' w')∧eh [d] e e') [] e w':=
 aZ ⟨⟨G',k,hl,h⟩,xm⟩
end
end Go.Proofs.YthbhobaiopccaaaGreatDoor
