/- Lemmas for the law FnProgramSize, no statement of their own: no conditions. -/
import Derived.Test.YthbhobaiopccaaaGreatDoorHb
set_option maxHeartbeats 4000000
set_option linter.unusedVariables false
set_option linter.unusedSimpArgs false
namespace Go.Proofs.YthbhobaiopccaaaGreatDoor
open Go
variable {b d k m m' n off sz t:Nat} {c:UInt8} {s x:ai} {e:Ex} {G L L' L1 W:List Nat} {w w' w0 w1 w2:World} {V v v1 v3 v4 v5 v6 v8:Value} {vs:List Value} {xs:List ai} {g:Option Nat} {rows:List (List C)} {e0:Env} {o:Oper} {l:List Oper} {r:List (List Nat)} {N R:Env->World->Prop} {X:Nat->Env->World->Prop} {J:List Nat->List Value->World->Prop}
/-! ### p7 aK -/
theorem adS (n:Nat):val (aT n)=n:=by
 induction n using Nat.strongRecOn with
 |_ n ih=>
  have hd:∀k,k<10->(UInt8.ofNat (48+k)).toNat=48+k:=λk hk=>by
   rw[UInt8.toNat_ofNat'];exact Nat.mod_eq_of_lt om
  unfold aT
  by_cases h:n<10
  ·rw[iP h]
   show 10*0+((UInt8.ofNat (48+n)).toNat-48)=n
   rw[hd n h];omega
  ·rw[iN h,QI,ih (n/10) om,hd (n%10) om];omega
theorem adT (h:aT n=aT m):n=m:=by grind [adS]
def cK (c:UInt8) (k:Nat):ai:=c::aT k
theorem pE {j:Nat} (h:cK c k=cK c j):k=j:=by grind [adT,cK]
theorem Mh {α:Type} [BEq α] [LawfulBEq α]:∀{l m:List α},l.Nodup->(∀x,x∈l->x∈m)->l.length<=m.length
 |[],m,_,_=>by simp
 |a::l,m,hn,hs=>by
  rw[List.nodup_cons] at hn
  have ha:=hs a sm
  have:=Mh (l:=l) (m:=m.erase a) hn.2 λx hx=>(List.mem_erase_of_ne (fun(e:x=a)=>hn.1 (e▸hx))).2 (hs x (by simp[hx]))
  rw[List.length_erase_of_mem ha] at this
  have:=List.length_pos_of_mem ha
  simp only[lC];omega
def pF (c:UInt8) (ag:List ai):Nat->Nat->Nat
 |0,n=>n
 |fuel+1,n=>if cK c n∈ag then pF c ag fuel (n+1) else n
def bm (c:UInt8) (ag:List ai) (n:Nat):Nat:=pF c ag (ag.length+1) n
theorem adU (c:UInt8) (ag:List ai):∀fuel n,n<=pF c ag fuel n∧pF c ag fuel n<=n+fuel:=by intro x;induction x<;>grind [pF]
theorem Sf (c:UInt8) (ag:List ai):∀fuel n,cK c (pF c ag fuel n)∉ag∨∀j,j<fuel->cK c (n+j)∈ag
 |0,n=>.inr λj hj=>by omega
 |fuel+1,n=>by
  unfold pF
  split
  ·rename_i h
   rcases Sf c ag fuel (n+1) with h1|h1
   ·exact .inl h1
   ·refine .inr λj hj=>?_
    cases j with
    |zero=>exact h
    |succ j=>have:=h1 j om;rw[show n+(j+1)=n+1+j from by omega];exact this
  ·rename_i h;exact .inl h
theorem IK (c:UInt8) (ag:List ai) (n:Nat):cK c (bm c ag n)∉ag:=by
 rcases Sf c ag (ag.length+1) n with h|h
 ·exact h
 ·exfalso
  have hn:((List.range (ag.length+1)).map λj=>cK c (n+j)).Nodup:=by
   rw[List.nodup_iff_pairwise_ne,List.pairwise_map]
   refine List.Pairwise.imp ?_ (List.nodup_iff_pairwise_ne.1 List.nodup_range)
   intro a b IL e
   exact IL (by have:=pE e;omega)
  have:=Mh hn (m:=ag) (λx hx=>by
   obtain⟨j,hj,rfl⟩:=List.mem_map.1 hx
   exact h j (List.mem_range.1 hj))
  simp at this;omega
theorem nU (c:UInt8) (ag:List ai) (n:Nat):n<=bm c ag n∧bm c ag n<=n+ag.length+1:=by grind [adU,cS.length,bm]
theorem Sg {ag:List ai} (h:cK c n∈ag):bm c ag n=bm c ag (n+1):=by
 have key:∀f g n,cK c (pF c ag f n)∉ag->cK c (pF c ag g n)∉ag->pF c ag f n=pF c ag g n:=by
  intro f
  induction f with
  |zero=>
   intro g n h1 h2
   cases g with
   |zero=>rfl
   |succ g=>unfold pF at h1⊢;rw[iN h1]
  |succ f ih=>
   intro g n h1 h2
   cases g with
   |zero=>unfold pF at h2⊢;rw[iN h2]
   |succ g=>
    unfold pF at h1 h2⊢
    by_cases hh:cK c n∈ag
    ·rw[iP hh] at h1 h2⊢;rw[iP hh];exact ih g (n+1) h1 h2
    ·rw[iN hh,iN hh]
 have e:bm c ag n=pF c ag ag.length (n+1):=by
  unfold bm
  conv=>lhs;unfold pF
  rw[iP h]
 have h1:=IK c ag n
 rw[e] at h1⊢
 exact key _ _ _ h1 (IK c ag (n+1))
theorem Sh {ag:List ai} (h:cK c n∉ag):bm c ag n=n:=by
 unfold bm pF;rw[iN h]
theorem z7 (hc:97<=c∧c<=122) (hk:k<1000):dN (cK c k)=true:=by
 have hd:∀k,(aT k).all gW=true:=λk=>by
  induction k using Nat.strongRecOn with
  |_ k ih=>
   have hd:∀j,j<10->gW (UInt8.ofNat (48+j))=true:=by decide
   unfold aT
   by_cases h:k<10
   ·rw[iP h,List.all_cons,hd k h];rfl
   ·rw[iN h,List.all_append,ih (k/10) om,List.all_cons,hd (k%10) om];rfl
 have h1:∀k,k<10->(aT k).length=1:=λk hk=>by unfold aT;rw[iP hk];rfl
 have h2:∀k,k<100->(aT k).length<=2:=λk hk=>by
  unfold aT
  split
  ·simp
  ·have:=h1 (k/10) om
   simp;omega
 have h3:(aT k).length<=3:=by
  unfold aT
  split
  ·simp
  ·have:=h2 (k/10) om
   simp;omega
 unfold dN cK
 simp only[lC,List.getD_cons_zero,List.drop_succ_cons,List.drop_zero,hd k,Bool.and_true,aE,dE]
 exact⟨⟨by omega,om⟩,hc⟩
/-! ### Bound aK renamed -/
abbrev Rn:=List (ai×ai)
def qj (ρ:Rn) (s:ai):ai:=((ρ.reverse.find? λp=>decide (p.1=s)).map Prod.snd).getD s
theorem Mi (ρ:Rn) (x y s:ai):qj (ρ++[(x,y)]) s=if x=s then y else qj ρ s:=by grind [qj]
theorem Si (ρ:Rn) (f x s g y:ai):qj (ρ++[(f,g),(x,y)]) s=if x=s then y else if f=s then g else qj ρ s:=by grind [qj]
abbrev cx:UInt8:=120
def bH (ag:List ai):Ex->Rn->Nat->Ex×Nat
 | .at s,ρ,n=>(.at (if dN s then qj ρ s else s),n)
 | .un h a,ρ,n=>(.un h (bH ag a ρ n).1,(bH ag a ρ n).2)
 | .bi h a b,ρ,n=>(.bi h (bH ag a ρ n).1 (bH ag b ρ (bH ag a ρ n).2).1,(bH ag b ρ (bH ag a ρ n).2).2)
 | .ite a b c,ρ,n=>(.ite (bH ag a ρ n).1 (bH ag b ρ (bH ag a ρ n).2).1 (bH ag c ρ (bH ag b ρ (bH ag a ρ n).2).2).1,(bH ag c ρ (bH ag b ρ (bH ag a ρ n).2).2).2)
 | .lt x a b,ρ,n=>(.lt (cK cx (bm cx ag n)) (bH ag a ρ (bm cx ag n+1)).1 (bH ag b (ρ++[(x,cK cx (bm cx ag n))]) (bH ag a ρ (bm cx ag n+1)).2).1,
   (bH ag b (ρ++[(x,cK cx (bm cx ag n))]) (bH ag a ρ (bm cx ag n+1)).2).2)
 | .fn f x A B e,ρ,n=>(.fn (cK cx (bm cx ag n)) (cK cx (bm cx ag (bm cx ag n+1))) A B (bH ag e (ρ++[(f,cK cx (bm cx ag n)),(x,cK cx (bm cx ag (bm cx ag n+1)))]) (bm cx ag (bm cx ag n+1)+1)).1,
   (bH ag e (ρ++[(f,cK cx (bm cx ag n)),(x,cK cx (bm cx ag (bm cx ag n+1)))]) (bm cx ag (bm cx ag n+1)+1)).2)
theorem iW (ag:List ai):∀(e:Ex) (ρ:Rn) (n:Nat),n<=(bH ag e ρ n).2∧(bH ag e ρ n).2+(ag.length+2)<=n+(e.n)*(ag.length+2)+(ag.length+2)
 | .at s,ρ,n=>by simp only[bH,Ex.n];omega
 | .un h a,ρ,n=>by
  have:=iW ag a ρ n
  simp only[bH,Ex.n,Nat.add_mul];omega
 | .bi h a b,ρ,n=>by
  have:=iW ag a ρ n
  have:=iW ag b ρ (bH ag a ρ n).2
  simp only[bH,Ex.n,Nat.add_mul];omega
 | .ite a b c,ρ,n=>by
  have:=iW ag a ρ n
  have:=iW ag b ρ (bH ag a ρ n).2
  have:=iW ag c ρ (bH ag b ρ (bH ag a ρ n).2).2
  simp only[bH,Ex.n,Nat.add_mul];omega
 | .lt x a b,ρ,n=>by
  have h0:=nU cx ag n
  have:=iW ag a ρ (bm cx ag n+1)
  have:=iW ag b (ρ++[(x,cK cx (bm cx ag n))]) (bH ag a ρ (bm cx ag n+1)).2
  simp only[bH,Ex.n,Nat.add_mul];omega
 | .fn f x A B e,ρ,n=>by
  have h0:=nU cx ag n
  have h1:=nU cx ag (bm cx ag n+1)
  have:=iW ag e (ρ++[(f,cK cx (bm cx ag n)),(x,cK cx (bm cx ag (bm cx ag n+1)))]) (bm cx ag (bm cx ag n+1)+1)
  simp only[bH,Ex.n,Nat.add_mul];omega
theorem Sj (ag:List ai):∀(e:Ex) (ρ:Rn) (n:Nat),(bH ag e ρ n).1.n=e.n:=by intro x;induction x<;>grind [bH,Ty.n,Ex.n]
theorem wu (ag:List ai):∀(e:Ex) (ρ:Rn) (n:Nat),e.ok->(bH ag e ρ n).2<=1000->(∀s,dN s=true->Fv s e->dN (qj ρ s)=true)->(bH ag e ρ n).1.ok
 | .at s,ρ,n,h,_,hr=>by
  show qg _=true
  by_cases hn:dN s=true
  ·rw[iP hn];unfold qg;rw[hr s hn ⟨rfl,hn⟩];simp
  ·rw[iN hn];exact h
 | .un hd a,ρ,n,h,hm,hr=>⟨h.1,wu ag a ρ n h.2 hm hr⟩
 | .bi hd a b,ρ,n,h,hm,hr=>by
  have h2:=iW ag b ρ (bH ag a ρ n).2
  simp only[bH] at hm
  exact⟨h.1,wu ag a ρ n h.2.1 om λs hn hs=>hr s hn (.inl hs),wu ag b ρ _ h.2.2 hm λs hn hs=>hr s hn (.inr hs)⟩
 | .ite a b c,ρ,n,h,hm,hr=>by
  have h2:=iW ag b ρ (bH ag a ρ n).2
  have h3:=iW ag c ρ (bH ag b ρ (bH ag a ρ n).2).2
  simp only[bH] at hm
  exact⟨wu ag a ρ n h.1 om λs hn hs=>hr s hn (.inl hs),wu ag b ρ _ h.2.1 om λs hn hs=>hr s hn (.inr (.inl hs)),wu ag c ρ _ h.2.2 hm λs hn hs=>hr s hn (.inr (.inr hs))⟩
 | .lt x a b,ρ,n,h,hm,hr=>by
  have h1:=iW ag a ρ (bm cx ag n+1)
  have h2:=iW ag b (ρ++[(x,cK cx (bm cx ag n))]) (bH ag a ρ (bm cx ag n+1)).2
  simp only[bH] at hm
  have hk:dN (cK cx (bm cx ag n))=true:=z7 de om
  refine⟨hk,wu ag a ρ _ h.2.1 om λs hn hs=>hr s hn (.inl hs),wu ag b _ _ h.2.2 hm λs hn hs=>?_⟩
  rw[Mi]
  split
  ·exact hk
  ·rename_i e;exact hr s hn (.inr ⟨λe'=>e e'.symm,hs⟩)
 | .fn f x A B e,ρ,n,h,hm,hr=>by
  have h0:=nU cx ag n
  have h1:=nU cx ag (bm cx ag n+1)
  have h2:=iW ag e (ρ++[(f,cK cx (bm cx ag n)),(x,cK cx (bm cx ag (bm cx ag n+1)))]) (bm cx ag (bm cx ag n+1)+1)
  simp only[bH] at hm
  have hk:dN (cK cx (bm cx ag n))=true:=z7 de om
  have az:dN (cK cx (bm cx ag (bm cx ag n+1)))=true:=z7 de om
  obtain⟨_,_,_,hA,hB,he⟩:=h
  refine⟨hk,az,λe=>by have:=pE e;omega,hA,hB,wu ag e _ _ he hm λs hn hs=>?_⟩
  rw[Si]
  split
  ·exact az
  ·rename_i e1
   split
   ·exact hk
   ·rename_i e2;exact hr s hn ⟨λe'=>e2 e'.symm,λe'=>e1 e'.symm,hs⟩
theorem wv (ag:List ai):∀(e:Ex) (ρ:Rn) (n:Nat) (Γ Δ:Sc),(bH ag e ρ n).2<=1000->(∀s,dN s=true->Fv s e->dN (qj ρ s)=true∧look Δ (qj ρ s)=look Γ s∧∀k,n<=k->qj ρ s≠cK cx k)->bw (bH ag e ρ n).1 Δ=bw e Γ
 | .at s,ρ,n,Γ,Δ,_,h=>by
  unfold bH bw
  by_cases hn:dN s=true
  ·obtain⟨h1,h2,_⟩:=h s hn ⟨rfl,hn⟩
   rw[iP hn,iP hn,iP h1,h2]
  ·rw[iN hn,iN hn,iN hn]
 | .un hd a,ρ,n,Γ,Δ,hm,h=>by
  unfold bH bw
  rw[wv ag a ρ n Γ Δ hm h]
 | .bi hd a b,ρ,n,Γ,Δ,hm,h=>by
  have h1:=iW ag a ρ n
  have h2:=iW ag b ρ (bH ag a ρ n).2
  simp only[bH] at hm
  unfold bH bw
  rw[wv ag a ρ n Γ Δ om λs hn hs=>h s hn (.inl hs),wv ag b ρ _ Γ Δ hm λs hn hs=>?_]
  obtain⟨q1,q2,q3⟩:=h s hn (.inr hs)
  exact⟨q1,q2,λk hk=>q3 k om⟩
 | .ite a b c,ρ,n,Γ,Δ,hm,h=>by
  have h1:=iW ag a ρ n
  have h2:=iW ag b ρ (bH ag a ρ n).2
  have h3:=iW ag c ρ (bH ag b ρ (bH ag a ρ n).2).2
  simp only[bH] at hm
  unfold bH bw
  rw[wv ag a ρ n Γ Δ om λs hn hs=>h s hn (.inl hs),wv ag b ρ _ Γ Δ om λs hn hs=>?_,wv ag c ρ _ Γ Δ hm λs hn hs=>?_]
  ·obtain⟨q1,q2,q3⟩:=h s hn (.inr (.inr hs))
   exact⟨q1,q2,λk hk=>q3 k om⟩
  ·obtain⟨q1,q2,q3⟩:=h s hn (.inr (.inl hs))
   exact⟨q1,q2,λk hk=>q3 k om⟩
 | .lt x a b,ρ,n,Γ,Δ,hm,h=>by
  have h0:=nU cx ag n
  have h1:=iW ag a ρ (bm cx ag n+1)
  have h2:=iW ag b (ρ++[(x,cK cx (bm cx ag n))]) (bH ag a ρ (bm cx ag n+1)).2
  simp only[bH] at hm
  have hk:dN (cK cx (bm cx ag n))=true:=z7 de om
  unfold bH bw
  rw[wv ag a ρ _ Γ Δ om λs hn hs=>?_]
  ·cases bw a Γ with
   |none=>rfl
   |some A=>
    refine wv ag b _ _ _ _ hm λs hn hs=>?_
    rw[Mi,oL Γ]
    by_cases e:x=s
    ·rw[iP e,iP e,oL,iP rfl]
     exact⟨hk,rfl,λk hk e=>by have:=pE e;omega⟩
    ·rw[iN e,iN e]
     obtain⟨q1,q2,q3⟩:=h s hn (.inr ⟨λe'=>e e'.symm,hs⟩)
     rw[oL,iN (λe=>q3 _ h0.1 e.symm)]
     exact⟨q1,q2,λk hk=>q3 k om⟩
  ·obtain⟨q1,q2,q3⟩:=h s hn (.inl hs)
   exact⟨q1,q2,λk hk=>q3 k om⟩
 | .fn f x A B e,ρ,n,Γ,Δ,hm,h=>by
  have h0:=nU cx ag n
  have h1:=nU cx ag (bm cx ag n+1)
  have h2:=iW ag e (ρ++[(f,cK cx (bm cx ag n)),(x,cK cx (bm cx ag (bm cx ag n+1)))]) (bm cx ag (bm cx ag n+1)+1)
  simp only[bH] at hm
  have hk:dN (cK cx (bm cx ag n))=true:=z7 de om
  have az:dN (cK cx (bm cx ag (bm cx ag n+1)))=true:=z7 de om
  unfold bH bw
  rw[wv ag e _ _ (Γ++[(f,.op true A B),(x,A)]) _ hm λs hn hs=>?_]
  rw[Si,z6 Γ]
  by_cases e1:x=s
  ·rw[iP e1,iP e1,z6,iP rfl]
   exact⟨az,rfl,λk hk e=>by have:=pE e;omega⟩
  ·by_cases e2:f=s
   ·rw[iN e1,iN e1,iP e2,iP e2,z6,iN (λe=>by have:=pE e;omega),iP rfl]
    exact⟨hk,rfl,λk hk e=>by have:=pE e;omega⟩
   ·rw[iN e1,iN e1,iN e2,iN e2]
    obtain⟨q1,q2,q3⟩:=h s hn ⟨λe'=>e2 e'.symm,λe'=>e1 e'.symm,hs⟩
    rw[z6,iN (λe=>q3 _ om e.symm),iN (λe=>q3 _ h0.1 e.symm)]
    exact⟨q1,q2,λk hk=>q3 k om⟩
/-! ### The aK that are bound -/
def eN:Ex->List ai
 | .at _=>[]
 | .un _ a=>eN a
 | .bi _ a b=>eN a++eN b
 | .ite a b c=>eN a++(eN b++eN c)
 | .lt x a b=>x::(eN a++eN b)
 | .fn f x _ _ e=>f::x::eN e
theorem wy (ag:List ai):∀(e:Ex) (ρ:Rn) (n:Nat),(eN (bH ag e ρ n).1).Nodup∧∀y,y∈eN (bH ag e ρ n).1->∃k,y=cK cx k∧n<=k∧k<(bH ag e ρ n).2
 | .at s,ρ,n=>by simp[bH,eN]
 | .un hd a,ρ,n=>wy ag a ρ n
 | .bi hd a b,ρ,n=>by
  have h1:=iW ag a ρ n
  have h2:=iW ag b ρ (bH ag a ρ n).2
  obtain⟨a1,a2⟩:=wy ag a ρ n
  obtain⟨b1,b2⟩:=wy ag b ρ (bH ag a ρ n).2
  simp only[bH,eN]
  refine⟨List.nodup_append.2 ⟨a1,b1,λx hx y hy e=>?_⟩,λy hy=>?_⟩
  ·obtain⟨k,rfl,_,hk⟩:=a2 x hx
   obtain⟨j,rfl,hj,_⟩:=b2 y hy
   have:=pE e;omega
  ·rcases mA.1 hy with hy|hy
   ·obtain⟨k,e,p,q⟩:=a2 y hy;exact⟨k,e,p,om⟩
   ·obtain⟨k,e,p,q⟩:=b2 y hy;exact⟨k,e,om,q⟩
 | .ite a b c,ρ,n=>by
  have h1:=iW ag a ρ n
  have h2:=iW ag b ρ (bH ag a ρ n).2
  have h3:=iW ag c ρ (bH ag b ρ (bH ag a ρ n).2).2
  obtain⟨a1,a2⟩:=wy ag a ρ n
  obtain⟨b1,b2⟩:=wy ag b ρ (bH ag a ρ n).2
  obtain⟨c1,c2⟩:=wy ag c ρ (bH ag b ρ (bH ag a ρ n).2).2
  simp only[bH,eN]
  refine⟨List.nodup_append.2 ⟨a1,List.nodup_append.2 ⟨b1,c1,λx hx y hy e=>?_⟩,λx hx y hy e=>?_⟩,λy hy=>?_⟩
  ·obtain⟨k,rfl,_,hk⟩:=b2 x hx
   obtain⟨j,rfl,hj,_⟩:=c2 y hy
   have:=pE e;omega
  ·obtain⟨k,rfl,_,hk⟩:=a2 x hx
   rcases mA.1 hy with hy|hy
   ·obtain⟨j,rfl,hj,_⟩:=b2 y hy
    have:=pE e;omega
   ·obtain⟨j,rfl,hj,_⟩:=c2 y hy
    have:=pE e;omega
  ·rcases mA.1 hy with hy|hy
   ·obtain⟨k,e,p,q⟩:=a2 y hy;exact⟨k,e,p,om⟩
   ·rcases mA.1 hy with hy|hy
    ·obtain⟨k,e,p,q⟩:=b2 y hy;exact⟨k,e,om,om⟩
    ·obtain⟨k,e,p,q⟩:=c2 y hy;exact⟨k,e,om,q⟩
 | .lt x a b,ρ,n=>by
  have h0:=nU cx ag n
  have h1:=iW ag a ρ (bm cx ag n+1)
  have h2:=iW ag b (ρ++[(x,cK cx (bm cx ag n))]) (bH ag a ρ (bm cx ag n+1)).2
  obtain⟨a1,a2⟩:=wy ag a ρ (bm cx ag n+1)
  obtain⟨b1,b2⟩:=wy ag b (ρ++[(x,cK cx (bm cx ag n))]) (bH ag a ρ (bm cx ag n+1)).2
  simp only[bH,eN]
  refine⟨List.nodup_cons.2 ⟨λhx=>?_,List.nodup_append.2 ⟨a1,b1,λx hx y hy e=>?_⟩⟩,λy hy=>?_⟩
  ·rcases mA.1 hx with hx|hx
   ·obtain⟨k,e,p,q⟩:=a2 _ hx;have:=pE e;omega
   ·obtain⟨k,e,p,q⟩:=b2 _ hx;have:=pE e;omega
  ·obtain⟨k,rfl,_,hk⟩:=a2 x hx
   obtain⟨j,rfl,hj,_⟩:=b2 y hy
   have:=pE e;omega
  ·rcases mC.1 hy with rfl|hy
   ·exact⟨_,rfl,om,om⟩
   ·rcases mA.1 hy with hy|hy
    ·obtain⟨k,e,p,q⟩:=a2 y hy;exact⟨k,e,om,om⟩
    ·obtain⟨k,e,p,q⟩:=b2 y hy;exact⟨k,e,om,q⟩
 | .fn f x A B e,ρ,n=>by
  have h0:=nU cx ag n
  have h1:=nU cx ag (bm cx ag n+1)
  have h2:=iW ag e (ρ++[(f,cK cx (bm cx ag n)),(x,cK cx (bm cx ag (bm cx ag n+1)))]) (bm cx ag (bm cx ag n+1)+1)
  obtain⟨a1,a2⟩:=wy ag e (ρ++[(f,cK cx (bm cx ag n)),(x,cK cx (bm cx ag (bm cx ag n+1)))]) (bm cx ag (bm cx ag n+1)+1)
  simp only[bH,eN]
  refine⟨List.nodup_cons.2 ⟨λhx=>?_,List.nodup_cons.2 ⟨λhx=>?_,a1⟩⟩,λy hy=>?_⟩
  ·rcases mC.1 hx with hx|hx
   ·have:=pE hx;omega
   ·obtain⟨k,e,p,q⟩:=a2 _ hx;have:=pE e;omega
  ·obtain⟨k,e,p,q⟩:=a2 _ hx;have:=pE e;omega
  ·rcases mC.1 hy with rfl|hy
   ·exact⟨_,rfl,om,om⟩
   ·rcases mC.1 hy with rfl|hy
    ·exact⟨_,rfl,om,om⟩
    ·obtain⟨k,e,p,q⟩:=a2 y hy;exact⟨k,e,om,q⟩
theorem pG:∀{e:Ex} {Γ:Sc} {T:Ty},bw e Γ=some T->Fv s e->(look Γ s).isSome=true
 | .at x,Γ,T,h,hs=>by
  obtain⟨rfl,hn⟩:=hs
  unfold bw at h;rw[iP hn] at h;rw[h];rfl
 | .un hd a,Γ,T,h,hs=>by
  unfold bw at h
  cases ha:bw a Γ with
  |none=>rw[ha] at h;cases h
  |some A=>exact pG ha hs
 | .bi hd a b,Γ,T,h,hs=>by
  unfold bw at h
  cases ha:bw a Γ with
  |none=>rw[ha] at h;cases h
  |some A=>
   cases hb:bw b Γ with
   |none=>rw[ha,hb] at h;cases h
   |some B=>exact hs.elim (pG ha) (pG hb)
 | .ite a b c,Γ,T,h,hs=>by
  unfold bw at h
  cases ha:bw a Γ with
  |none=>rw[ha] at h;cases h
  |some A=>
   cases hb:bw b Γ with
   |none=>rw[ha,hb] at h;cases h
   |some B=>
    cases hc:bw c Γ with
    |none=>rw[ha,hb,hc] at h;cases h
    |some C=>exact hs.elim (pG ha) λhs=>hs.elim (pG hb) (pG hc)
 | .lt x a b,Γ,T,h,hs=>by
  unfold bw at h
  cases ha:bw a Γ with
  |none=>rw[ha] at h;cases h
  |some A=>
   rw[ha,Option.bind_some] at h
   rcases hs with hs|⟨dL,hs⟩
   ·exact pG ha hs
   ·have:=pG h hs
    rw[oL,iN (λe=>dL e.symm)] at this;exact this
 | .fn f x A B e,Γ,T,h,hs=>by
  unfold bw at h
  split at h
  ·cases he:bw e (Γ++[(f,.op true A B),(x,A)]) with
   |none=>rw[he] at h;cases h
   |some C=>
    obtain⟨h1,h2,h3⟩:=hs
    have:=pG he h3
    rw[z6,iN (λe=>h2 e.symm),iN (λe=>h1 e.symm)] at this;exact this
  ·cases h
abbrev Bs:=List (ai×Ex)
abbrev cy:UInt8:=121
def nest (bs:Bs) (e:Ex):Ex:=bs.foldr (λp e=>.lt p.1 p.2 e) e
def dB (ag:List ai) (r:Bs×Ex×Nat):Bs×Ex×Nat:=
 if r.2.1.iv=true then r else(r.1++[(cK cy (bm cy ag r.2.2),r.2.1)],.at (cK cy (bm cy ag r.2.2)),bm cy ag r.2.2+1)
def aY (ag:List ai):Ex->Nat->Bs×Ex×Nat
 | .at s,n=>([],.at s,n)
 | .un h a,n=>((dB ag (aY ag a n)).1,.un h (dB ag (aY ag a n)).2.1,(dB ag (aY ag a n)).2.2)
 | .bi h a b,n=>((dB ag (aY ag a n)).1++(dB ag (aY ag b (dB ag (aY ag a n)).2.2)).1,.bi h (dB ag (aY ag a n)).2.1 (dB ag (aY ag b (dB ag (aY ag a n)).2.2)).2.1,(dB ag (aY ag b (dB ag (aY ag a n)).2.2)).2.2)
 | .ite a b c,n=>((dB ag (aY ag a n)).1,.ite (dB ag (aY ag a n)).2.1 (nest (aY ag b (dB ag (aY ag a n)).2.2).1 (aY ag b (dB ag (aY ag a n)).2.2).2.1)
   (nest (aY ag c (aY ag b (dB ag (aY ag a n)).2.2).2.2).1 (aY ag c (aY ag b (dB ag (aY ag a n)).2.2).2.2).2.1),(aY ag c (aY ag b (dB ag (aY ag a n)).2.2).2.2).2.2)
 | .lt x a b,n=>((aY ag a n).1++(x,(aY ag a n).2.1)::(aY ag b (aY ag a n).2.2).1,(aY ag b (aY ag a n).2.2).2.1,(aY ag b (aY ag a n).2.2).2.2)
 | .fn f x A B e,n=>([],.fn f x A B (nest (aY ag e n).1 (aY ag e n).2.1),(aY ag e n).2.2)
def mv (ag:List ai) (e:Ex) (n:Nat):Ex:=nest (aY ag e n).1 (aY ag e n).2.1
/-! ### How many aK -/
theorem qk (ag:List ai) (r:Bs×Ex×Nat):r.2.2<=(dB ag r).2.2∧(dB ag r).2.2<=r.2.2+ag.length+2:=by grind [dB,nU]
theorem ic (ag:List ai):∀(e:Ex) (n:Nat),n<=(aY ag e n).2.2∧(aY ag e n).2.2+2*(ag.length+2)<=n+e.n*(2*(ag.length+2))
 | .at s,n=>⟨lR _,by simp only[aY,Ex.n];omega⟩
 | .un h a,n=>by
  have:=ic ag a n
  have:=qk ag (aY ag a n)
  simp only[aY,Ex.n,Nat.add_mul];omega
 | .bi h a b,n=>by
  have:=ic ag a n
  have:=qk ag (aY ag a n)
  have:=ic ag b (dB ag (aY ag a n)).2.2
  have:=qk ag (aY ag b (dB ag (aY ag a n)).2.2)
  simp only[aY,Ex.n,Nat.add_mul];omega
 | .ite a b c,n=>by
  have:=ic ag a n
  have:=qk ag (aY ag a n)
  have:=ic ag b (dB ag (aY ag a n)).2.2
  have:=ic ag c (aY ag b (dB ag (aY ag a n)).2.2).2.2
  simp only[aY,Ex.n,Nat.add_mul];omega
 | .lt x a b,n=>by
  have:=ic ag a n
  have:=ic ag b (aY ag a n).2.2
  simp only[aY,Ex.n,Nat.add_mul];omega
 | .fn f x A B e,n=>by
  have:=ic ag e n
  simp only[aY,Ex.n,Nat.add_mul];omega
/-! ### Types -/
def qV:Bs->Sc->Option Sc
 |[],Γ=>some Γ
 |(x,s)::bs,Γ=>(bw s Γ).bind λT=>qV bs (Γ++[(x,T)])
theorem IM (bs:Bs) (e:Ex) (Γ:Sc):bw (nest bs e) Γ=(qV bs Γ).bind (bw e):=by induction bs generalizing Γ<;>grind [bw,nest,qV]
theorem Mj (bs cs:Bs) (Γ:Sc):qV (bs++cs) Γ=(qV bs Γ).bind (qV cs):=by
 induction bs generalizing Γ with
 |nil=>rfl
 |cons p bs ih=>
  obtain⟨x,s⟩:=p
  show(bw s Γ).bind (λT=>qV (bs++cs) (Γ++[(x,T)]))=((bw s Γ).bind λT=>qV bs (Γ++[(x,T)])).bind (qV cs)
  cases bw s Γ with
  |none=>rfl
  |some T=>exact ih _
def DZ (Δ:Sc) (s:ai):Prop:=∀p,p∈Δ->p.1≠s
theorem F7 {Γ Δ:Sc} (h:DZ Δ s):look (Γ++Δ) s=look Γ s:=by grind [DZ,look]
def p7 (ag:List ai) (e:Ex) (n m:Nat) (y:ai):Prop:=y∈eN e∨∃k,y=cK cy k∧n<=k∧k<m∧y∉ag
structure Made (ag:List ai) (e:Ex) (n:Nat) (r:Bs×Ex×Nat) (Γ:Sc) (T:Ty) (Δ:Sc):Prop where
 binds:qV r.1 Γ=some (Γ++Δ)
 type:bw r.2.1 (Γ++Δ)=some T
 aK:∀p,p∈Δ->p7 ag e n r.2.2 p.1
def z8 (ag:List ai) (e:Ex) (n:Nat) (r:Bs×Ex×Nat):Prop:=∀s,(Fv s r.2.1∨∃p,p∈r.1∧Fv s p.2)->Fv s e∨p7 ag e n r.2.2 s
structure Sk (ag:List ai) (e:Ex):Prop where
 nodup:(eN e).Nodup
 nofree:∀x,x∈eN e->¬Fv x e
 noted:∀x,x∈eN e∨Fv x e->x∈ag
theorem p7.more {ag:List ai} {e':Ex} {n':Nat} {y:ai} (h:p7 ag e n m y) (hb:∀x,x∈eN e->x∈eN e') (hn:n'<=n) (hm:m<=m'):p7 ag e' n' m' y:=by grind [p7,eN]
theorem z8.aw {ag:List ai} {r:Bs×Ex×Nat} (h:z8 ag e n r) (hn:n<=r.2.2):z8 ag e n (dB ag r):=by grind [z8,dB,Fv,p7,bm,nU,IK]
theorem Ml:∀(bs:Bs) (e:Ex) (s:ai),Fv s (nest bs e)->Fv s e∨∃p,p∈bs∧Fv s p.2:=by intro x;induction x<;>grind [Fv,nest]
theorem z8.sub {ag:List ai} {e':Ex} {n':Nat} {r:Bs×Ex×Nat} (h:z8 ag e n r) (hf:∀s,Fv s e->Fv s e'∨s∈eN e') (hb:∀x,x∈eN e->x∈eN e') (hn:n'<=n) (hm:r.2.2<=m') (hs:Fv s r.2.1∨∃p,p∈r.1∧Fv s p.2):Fv s e'∨p7 ag e' n' m' s:=by grind [z8,Fv,eN,p7]
theorem wA (ag:List ai):∀(e:Ex) (n:Nat),z8 ag e n (aY ag e n)
 | .at s,n=>λs hs=>hs.elim .inl fun⟨p,hp,_⟩=>by simp[aY] at hp
 | .un hd a,n=>λs hs=>((wA ag a n).aw (ic ag a n).1).sub (λs h=>.inl h) (λx h=>h) (lR _) (lR _) hs
 | .bi hd a b,n=>λs hs=>by
  have h1:=ic ag a n
  have h2:=qk ag (aY ag a n)
  have h3:=ic ag b (dB ag (aY ag a n)).2.2
  have h4:=qk ag (aY ag b (dB ag (aY ag a n)).2.2)
  have ha:=((wA ag a n).aw h1.1).sub (e':=.bi hd a b) (n':=n) (m':=(aY ag (.bi hd a b) n).2.2) (λs h=>.inl (.inl h)) (λx h=>mA.2 (.inl h)) (lR _) (by simp only[aY];omega) (s:=s)
  have hb:=((wA ag b (dB ag (aY ag a n)).2.2).aw h3.1).sub (e':=.bi hd a b) (n':=n) (m':=(aY ag (.bi hd a b) n).2.2) (λs h=>.inl (.inr h)) (λx h=>mA.2 (.inr h)) om (by simp only[aY];omega) (s:=s)
  rcases hs with(hs|hs)|⟨p,hp,hs⟩
  ·exact ha (.inl hs)
  ·exact hb (.inl hs)
  ·rcases mA.1 hp with hp|hp
   ·exact ha (.inr ⟨p,hp,hs⟩)
   ·exact hb (.inr ⟨p,hp,hs⟩)
 | .ite a b c,n=>λs hs=>by
  have h1:=ic ag a n
  have h2:=qk ag (aY ag a n)
  have h3:=ic ag b (dB ag (aY ag a n)).2.2
  have h4:=ic ag c (aY ag b (dB ag (aY ag a n)).2.2).2.2
  have ha:=((wA ag a n).aw h1.1).sub (e':=.ite a b c) (n':=n) (m':=(aY ag (.ite a b c) n).2.2) (λs h=>.inl (.inl h)) (λx h=>mA.2 (.inl h)) (lR _) (by simp only[aY];omega) (s:=s)
  have hb:=(wA ag b (dB ag (aY ag a n)).2.2).sub (e':=.ite a b c) (n':=n) (m':=(aY ag (.ite a b c) n).2.2) (λs h=>.inl (.inr (.inl h))) (λx h=>mA.2 (.inr (mA.2 (.inl h)))) om (by simp only[aY];omega) (s:=s)
  have hc:=(wA ag c (aY ag b (dB ag (aY ag a n)).2.2).2.2).sub (e':=.ite a b c) (n':=n) (m':=(aY ag (.ite a b c) n).2.2) (λs h=>.inl (.inr (.inr h))) (λx h=>mA.2 (.inr (mA.2 (.inr h)))) om (by simp only[aY];omega) (s:=s)
  rcases hs with(hs|hs|hs)|⟨p,hp,hs⟩
  ·exact ha (.inl hs)
  ·exact hb (Ml _ _ _ hs)
  ·exact hc (Ml _ _ _ hs)
  ·exact ha (.inr ⟨p,hp,hs⟩)
 | .lt x a b,n=>λs hs=>by
  have h1:=ic ag a n
  have h3:=ic ag b (aY ag a n).2.2
  have ha:=(wA ag a n).sub (e':=.lt x a b) (n':=n) (m':=(aY ag (.lt x a b) n).2.2) (λs h=>.inl (.inl h)) (λy h=>mK _ (mA.2 (.inl h))) (lR _) (by simp only[aY];omega) (s:=s)
  have hb:=(wA ag b (aY ag a n).2.2).sub (e':=.lt x a b) (n':=n) (m':=(aY ag (.lt x a b) n).2.2) (λs h=>by
   by_cases e:s=x
   ·exact .inr (by rw[e];exact List.mem_cons_self ..)
   ·exact .inl (.inr ⟨e,h⟩)) (λy h=>mK _ (mA.2 (.inr h))) om (by simp only[aY];omega) (s:=s)
  rcases hs with hs|⟨p,hp,hs⟩
  ·exact hb (.inl hs)
  ·rcases mA.1 hp with hp|hp
   ·exact ha (.inr ⟨p,hp,hs⟩)
   ·rcases mC.1 hp with rfl|hp
    ·exact ha (.inl hs)
    ·exact hb (.inr ⟨p,hp,hs⟩)
 | .fn f x A B e,n=>λs hs=>by
  rcases hs with⟨h1,h2,hs⟩|⟨p,hp,_⟩
  ·rcases wA ag e n s (Ml _ _ _ hs) with h|h
   ·exact .inl ⟨h1,h2,h⟩
   ·exact .inr (h.more (λy hy=>mK _ (mK _ hy)) (lR _) (lR _))
  ·simp[aY] at hp
theorem Made.aw {ag:List ai} {r:Bs×Ex×Nat} {Γ:Sc} {T:Ty} {Δ:Sc} (h:Made ag e n r Γ T Δ) (hn:n<=r.2.2) (Mm:(dB ag r).2.2<=1000):∃Δ',Made ag e n (dB ag r) Γ T Δ':=by
 unfold dB at Mm⊢
 have hf:=nU cy ag r.2.2
 have wG:=IK cy ag r.2.2
 split
 ·exact⟨Δ,h⟩
 ·rename_i eJ
  rw[iN eJ] at Mm
  have hk:dN (cK cy (bm cy ag r.2.2))=true:=z7 de (by dsimp only at Mm;omega)
  refine⟨Δ++[(cK cy (bm cy ag r.2.2),T)],⟨?_,?_,?_⟩⟩
  ·rw[Mj,h.binds,Option.bind_some]
   show(bw r.2.1 (Γ++Δ)).bind _=_
   rw[h.type,Option.bind_some,List.append_assoc];rfl
  ·show(if dN (cK cy (bm cy ag r.2.2))=true then look (Γ++(Δ++[(cK cy (bm cy ag r.2.2),T)])) (cK cy (bm cy ag r.2.2)) else some Ty.i)=some T
   rw[iP hk,<-List.append_assoc,oL,iP rfl]
  ·intro p hp
   rcases mA.1 hp with hp|hp
   ·exact(h.aK p hp).more (λx hx=>hx) (lR _) (by dsimp only;omega)
   ·simp only[List.mem_singleton] at hp
    subst hp
    exact .inr ⟨_,rfl,om,by dsimp only;omega,wG⟩
theorem IN {ag:List ai} {a:Ex} {Δ:Sc} (h:∀p,p∈Δ->p7 ag a n m p.1) (h1:s∉eN a) (h2:s∈ag):DZ Δ s:=by grind [p7,eN,DZ]
theorem adV {ag:List ai} {a b:Ex} {Δ:Sc} (hs:Fv s a∨p7 ag a n m s) (h:∀p,p∈Δ->p7 ag b m m' p.1) (h1:∀x,x∈eN b->¬Fv x a) (h2:∀x,x∈eN b->x∉eN a) (h3:∀x,x∈eN b->x∈ag) (h4:∀x,x∈eN a∨Fv x a->x∈ag):DZ Δ s:=by grind [Fv,p7,eN,DZ,pE]
theorem made (ag:List ai):∀(e:Ex) (n:Nat) (Γ:Sc) (T:Ty),Sk ag e->(aY ag e n).2.2<=1000->bw e Γ=some T->∃Δ,Made ag e n (aY ag e n) Γ T Δ
 | .at s,n,Γ,T,hu,hm,h=>⟨[],⟨by simp[aY,qV],by simpa[aY] using h,sm⟩⟩
 | .un hd a,n,Γ,T,hu,hm,h=>by
  have h1:=ic ag a n
  have h2:=qk ag (aY ag a n)
  simp only[aY] at hm
  unfold bw at h
  cases ha:bw a Γ with
  |none=>rw[ha] at h;cases h
  |some A=>
   rw[ha,Option.bind_some] at h
   obtain⟨Δ,hΔ⟩:=made ag a n Γ A ⟨hu.nodup,hu.nofree,hu.noted⟩ om ha
   obtain⟨Δ',hΔ'⟩:=hΔ.aw h1.1 hm
   refine⟨Δ',⟨hΔ'.binds,?_,hΔ'.aK⟩⟩
   show(bw (dB ag (aY ag a n)).2.1 (Γ++Δ')).bind (λA=>kB hd [A])=some T
   rw[hΔ'.type,Option.bind_some];exact h
 | .bi hd a b,n,Γ,T,hu,hm,h=>by
  have h1:=ic ag a n
  have h2:=qk ag (aY ag a n)
  have h3:=ic ag b (dB ag (aY ag a n)).2.2
  have h4:=qk ag (aY ag b (dB ag (aY ag a n)).2.2)
  have oN:=(wA ag a n).aw h1.1
  simp only[aY] at hm
  unfold bw at h
  cases ha:bw a Γ with
  |none=>rw[ha] at h;cases h
  |some A=>
   cases hb:bw b Γ with
   |none=>rw[ha,hb] at h;cases h
   |some B=>
    rw[ha,hb,Option.bind_some,Option.bind_some] at h
    have iS:=List.nodup_append.1 hu.nodup
    obtain⟨Δ1,hΔ1⟩:=made ag a n Γ A ⟨iS.1,λx hx hf=>hu.nofree x (mA.2 (.inl hx)) (.inl hf),λx hx=>hu.noted x (hx.imp (λh=>mA.2 (.inl h)) .inl)⟩ om ha
    obtain⟨Δ1',hΔ1'⟩:=hΔ1.aw h1.1 om
    have gN:bw b (Γ++Δ1')=some B:=by
     rw[<-hb]
     refine qi b _ _ λs hn hs=>F7 (IN hΔ1'.aK (λhx=>hu.nofree s (mA.2 (.inl hx)) (.inr hs)) (hu.noted s (.inr (.inr hs))))
    obtain⟨Δ2,hΔ2⟩:=made ag b (dB ag (aY ag a n)).2.2 (Γ++Δ1') B ⟨iS.2.1,λx hx hf=>hu.nofree x (mA.2 (.inr hx)) (.inr hf),λx hx=>hu.noted x (hx.imp (λh=>mA.2 (.inr h)) .inr)⟩ om gN
    obtain⟨Δ2',hΔ2'⟩:=hΔ2.aw h3.1 hm
    refine⟨Δ1'++Δ2',⟨?_,?_,?_⟩⟩
    ·show qV (_++_) Γ=_
     rw[Mj,hΔ1'.binds,Option.bind_some,hΔ2'.binds,List.append_assoc]
    ·show(bw (dB ag (aY ag a n)).2.1 (Γ++(Δ1'++Δ2'))).bind (λA=>(bw (dB ag (aY ag b (dB ag (aY ag a n)).2.2)).2.1 (Γ++(Δ1'++Δ2'))).bind λB=>kB hd [A,B])=some T
     have e1:bw (dB ag (aY ag a n)).2.1 (Γ++(Δ1'++Δ2'))=some A:=by
      rw[<-hΔ1'.type,<-List.append_assoc]
      refine qi _ _ _ λs hn hs=>F7 (adV (oN s (.inl hs)) hΔ2'.aK ?_ ?_ ?_ ?_)
      ·exact λx hx hf=>hu.nofree x (mA.2 (.inr hx)) (.inl hf)
      ·exact λx hx fj=>iS.2.2 x fj x hx rfl
      ·exact λx hx=>hu.noted x (.inl (mA.2 (.inr hx)))
      ·exact λx hx=>hu.noted x (hx.imp (λh=>mA.2 (.inl h)) .inl)
     rw[e1,Option.bind_some,<-List.append_assoc,hΔ2'.type,Option.bind_some];exact h
    ·intro p hp
     rcases mA.1 hp with hp|hp
     ·exact(hΔ1'.aK p hp).more (λx hx=>mA.2 (.inl hx)) (lR _) (by simp only[aY];omega)
     ·exact(hΔ2'.aK p hp).more (λx hx=>mA.2 (.inr hx)) om (by simp only[aY];omega)
 | .ite a b c,n,Γ,T,hu,hm,h=>by
  have h1:=ic ag a n
  have h2:=qk ag (aY ag a n)
  have h3:=ic ag b (dB ag (aY ag a n)).2.2
  have h4:=ic ag c (aY ag b (dB ag (aY ag a n)).2.2).2.2
  simp only[aY] at hm
  unfold bw at h
  cases ha:bw a Γ with
  |none=>rw[ha] at h;cases h
  |some A=>
   cases hb:bw b Γ with
   |none=>rw[ha,hb] at h;cases h
   |some B=>
    cases hc:bw c Γ with
    |none=>rw[ha,hb,hc] at h;cases h
    |some C=>
     rw[ha,hb,hc,Option.bind_some,Option.bind_some,Option.bind_some] at h
     have iS:=List.nodup_append.1 hu.nodup
     have Sl:=List.nodup_append.1 iS.2.1
     have inB:∀x,x∈eN b->x∈eN (.ite a b c):=λx hx=>mA.2 (.inr (mA.2 (.inl hx)))
     have inC:∀x,x∈eN c->x∈eN (.ite a b c):=λx hx=>mA.2 (.inr (mA.2 (.inr hx)))
     have inA:∀x,x∈eN a->x∈eN (.ite a b c):=λx hx=>mA.2 (.inl hx)
     obtain⟨Δ1,hΔ1⟩:=made ag a n Γ A ⟨iS.1,λx hx hf=>hu.nofree x (inA x hx) (.inl hf),λx hx=>hu.noted x (hx.imp (inA x) .inl)⟩ om ha
     obtain⟨Δ1',hΔ1'⟩:=hΔ1.aw h1.1 om
     have gN:bw b (Γ++Δ1')=some B:=by
      rw[<-hb]
      refine qi b _ _ λs hn hs=>F7 (IN hΔ1'.aK (λhx=>hu.nofree s (inA s hx) (.inr (.inl hs))) (hu.noted s (.inr (.inr (.inl hs)))))
     have px:bw c (Γ++Δ1')=some C:=by
      rw[<-hc]
      refine qi c _ _ λs hn hs=>F7 (IN hΔ1'.aK (λhx=>hu.nofree s (inA s hx) (.inr (.inr hs))) (hu.noted s (.inr (.inr (.inr hs)))))
     obtain⟨Δ2,hΔ2⟩:=made ag b (dB ag (aY ag a n)).2.2 (Γ++Δ1') B ⟨Sl.1,λx hx hf=>hu.nofree x (inB x hx) (.inr (.inl hf)),λx hx=>hu.noted x (hx.imp (inB x) λh=>.inr (.inl h))⟩ om gN
     obtain⟨Δ3,hΔ3⟩:=made ag c (aY ag b (dB ag (aY ag a n)).2.2).2.2 (Γ++Δ1') C ⟨Sl.2.1,λx hx hf=>hu.nofree x (inC x hx) (.inr (.inr hf)),λx hx=>hu.noted x (hx.imp (inC x) λh=>.inr (.inr h))⟩ hm px
     refine⟨Δ1',⟨hΔ1'.binds,?_,?_⟩⟩
     ·show(bw (dB ag (aY ag a n)).2.1 (Γ++Δ1')).bind (λA=>(bw (nest _ _) (Γ++Δ1')).bind λB=>(bw (nest _ _) (Γ++Δ1')).bind λC=>kB gj [A,B,C])=some T
      rw[hΔ1'.type,IM,IM,hΔ2.binds,hΔ3.binds,Option.bind_some,Option.bind_some,Option.bind_some,hΔ2.type,hΔ3.type,Option.bind_some,Option.bind_some];exact h
     ·exact λp hp=>(hΔ1'.aK p hp).more inA (lR _) (by simp only[aY];omega)
 | .lt x a b,n,Γ,T,hu,hm,h=>by
  have h1:=ic ag a n
  have h3:=ic ag b (aY ag a n).2.2
  simp only[aY] at hm
  unfold bw at h
  cases ha:bw a Γ with
  |none=>rw[ha] at h;cases h
  |some A=>
   rw[ha,Option.bind_some] at h
   have F8:=List.nodup_cons.1 hu.nodup
   have iS:=List.nodup_append.1 F8.2
   have inA:∀y,y∈eN a->y∈eN (.lt x a b):=λy hy=>mK _ (mA.2 (.inl hy))
   have inB:∀y,y∈eN b->y∈eN (.lt x a b):=λy hy=>mK _ (mA.2 (.inr hy))
   have Sm:x∈eN (.lt x a b):=List.mem_cons_self ..
   obtain⟨Δ1,hΔ1⟩:=made ag a n Γ A ⟨iS.1,λy hy hf=>hu.nofree y (inA y hy) (.inl hf),λy hy=>hu.noted y (hy.imp (inA y) .inl)⟩ om ha
   have gN:bw b (Γ++(Δ1++[(x,A)]))=some T:=by
    rw[<-h,<-List.append_assoc]
    refine qi b _ _ λs hn hs=>?_
    rw[oL,oL]
    by_cases e:x=s
    ·rw[iP e,iP e]
    ·rw[iN e,iN e]
     have D0:Fv s (.lt x a b):=.inr ⟨λe'=>e e'.symm,hs⟩
     exact F7 (IN hΔ1.aK (λhx=>hu.nofree s (inA s hx) D0) (hu.noted s (.inr D0)))
   obtain⟨Δ2,hΔ2⟩:=made ag b (aY ag a n).2.2 (Γ++(Δ1++[(x,A)])) T ⟨iS.2.1,λy hy hf=>by
    by_cases e:y=x
    ·exact F8.1 (e▸mA.2 (.inr hy))
    ·exact hu.nofree y (inB y hy) (.inr ⟨e,hf⟩),λy hy=>by
    by_cases e:y=x
    ·rw[e];exact hu.noted x (.inl Sm)
    ·exact hu.noted y (hy.imp (inB y) λh=>.inr ⟨e,h⟩)⟩ hm gN
   refine⟨Δ1++(x,A)::Δ2,⟨?_,?_,?_⟩⟩
   ·show qV (_++(x,_)::_) Γ=_
    rw[Mj,hΔ1.binds,Option.bind_some]
    show(bw (aY ag a n).2.1 (Γ++Δ1)).bind (λT=>qV _ ((Γ++Δ1)++[(x,T)]))=_
    rw[hΔ1.type,Option.bind_some,List.append_assoc,hΔ2.binds]
    simp
   ·show bw (aY ag b (aY ag a n).2.2).2.1 _=some T
    have:=hΔ2.type
    rw[show Γ++(Δ1++(x,A)::Δ2)=Γ++(Δ1++[(x,A)])++Δ2 from by simp];exact this
   ·intro p hp
    rcases mA.1 hp with hp|hp
    ·exact(hΔ1.aK p hp).more inA (lR _) (by simp only[aY];omega)
    ·rcases mC.1 hp with rfl|hp
     ·exact .inl Sm
     ·exact(hΔ2.aK p hp).more inB om (by simp only[aY];omega)
 | .fn f x A B e,n,Γ,T,hu,hm,h=>by
  simp only[aY] at hm
  unfold bw at h
  split at h
  ·rename_i hc
   cases he:bw e (Γ++[(f,.op true A B),(x,A)]) with
   |none=>rw[he] at h;cases h
   |some C=>
    rw[he,Option.bind_some] at h
    have F8:=List.nodup_cons.1 hu.nodup
    have iS:=List.nodup_cons.1 F8.2
    have inE:∀y,y∈eN e->y∈eN (.fn f x A B e):=λy hy=>mK _ (mK _ hy)
    obtain⟨Δ1,hΔ1⟩:=made ag e n (Γ++[(f,.op true A B),(x,A)]) C ⟨iS.2,λy hy hf=>by
     by_cases e1:y=x
     ·exact iS.1 (e1▸hy)
     ·by_cases e2:y=f
      ·exact F8.1 (e2▸mK _ hy)
      ·exact hu.nofree y (inE y hy) ⟨e2,e1,hf⟩,λy hy=>by
     by_cases e1:y=x
     ·rw[e1];exact hu.noted x (.inl (mK _ (List.mem_cons_self ..)))
     ·by_cases e2:y=f
      ·rw[e2];exact hu.noted f (.inl (List.mem_cons_self ..))
      ·exact hu.noted y (hy.imp (inE y) λh=>⟨e2,e1,h⟩)⟩ hm he
    refine⟨[],⟨by simp[aY,qV],?_,sm⟩⟩
    show(if 1+A.n+B.n<=16 then(bw (nest (aY ag e n).1 (aY ag e n).2.1) ((Γ++[])++[(f,.op true A B),(x,A)])).bind λC=>if kA C B then some (.op true A B) else none else none)=some T
    rw[iP hc,List.append_nil,IM,hΔ1.binds,Option.bind_some,hΔ1.type,Option.bind_some];exact h
  ·cases h
theorem adW {ag:List ai} {Γ:Sc} {T:Ty} (hu:Sk ag e) (hm:(aY ag e n).2.2<=1000) (h:bw e Γ=some T):bw (mv ag e n) Γ=some T:=by
 obtain⟨Δ,hΔ⟩:=made ag e n Γ T hu hm h
 unfold mv
 rw[IM,hΔ.binds,Option.bind_some,hΔ.type]
/-! ### Atoms of a form -/
mutual
def kZ:aq->List ai->List ai
 | .mk a ps,l=>if a≠[] then(if a∈l then l else l++[a]) else oR ps l
def oR:List aq->List ai->List ai
 |[],l=>l
 |t::ts,l=>oR ts (kZ t l)
end
theorem Sn (t:aq) (l:List ai):kZ t l=if t.aw≠[] then(if t.aw∈l then l else l++[t.aw]) else oR t.ak l:=by cases t with|mk a ps=>rw[kZ];rfl
theorem adX:∀(xs ys:List aq) (l:List ai),oR (xs++ys) l=oR ys (oR xs l):=by intro x;induction x<;>grind [oR]
theorem adY {ps:List aq} {i:Nat} {p:aq} (h:ps[i]?=some p) (l:List ai):oR (ps.take (i+1)) l=kZ p (oR (ps.take i) l):=by
 rw[List.take_add_one,h,adX];rfl
mutual
theorem adZ:∀(t:aq) (l:List ai),x∈l->x∈kZ t l
 | .mk a ps,l,h=>by
  unfold kZ
  split
  ·split
   ·exact h
   ·exact mA.2 (.inl h)
  ·exact Mn ps l h
theorem Mn:∀(ps:List aq) (l:List ai),x∈l->x∈oR ps l
 |[],l,h=>h
 |t::ts,l,h=>by unfold oR;exact Mn ts _ (adZ t l h)
end
mutual
theorem So:∀(t:aq) (l:List ai),(kZ t l).length<=l.length+fh t
 | .mk a ps,l=>by
  unfold kZ fh
  split
  ·split
   ·omega
   ·simp
  ·exact Mo ps l
theorem Mo:∀(ps:List aq) (l:List ai),(oR ps l).length<=l.length+jw ps
 |[],l=>by simp[oR,jw]
 |t::ts,l=>by
  have h1:=So t l
  have h2:=Mo ts (kZ t l)
  unfold oR jw;omega
end
theorem ad0:∀{ps:List aq} {l:List ai} {p:aq},p∈ps->(∀l,x∈kZ p l)->x∈oR ps l:=by intro x;induction x<;>grind [oR,Mn]
theorem IP (hx:x≠[]) (l:List ai):x∈kZ (bJ x) l:=by grind [kZ,bJ]
theorem tM {ps:List aq} {p:aq} (hp:p∈ps) (h:∀l,x∈kZ p l) (l:List ai):x∈kZ (.mk [] ps) l:=by grind [kZ,ad0]
theorem wH:∀{e:Ex},e.ok->(x∈eN e∨Fv x e)->∀l,x∈kZ e.au l
 | .at s,h,hx,l=>by
  rcases hx with hx|⟨rfl,_⟩
  ·simp[eN] at hx
  ·exact IP (pD h) l
 | .un hd a,h,hx,l=>tM (p:=a.au) sm (wH h.2 hx) l
 | .bi hd a b,h,hx,l=>by
  have ha:(x∈eN a∨Fv x a)∨(x∈eN b∨Fv x b):=by
   rcases hx with hx|hx
   ·rcases mA.1 hx with h|h
    ·exact .inl (.inl h)
    ·exact .inr (.inl h)
   ·rcases hx with h|h
    ·exact .inl (.inr h)
    ·exact .inr (.inr h)
  rcases ha with ha|hb
  ·exact tM (p:=a.au) sm (wH h.2.1 ha) l
  ·exact tM (p:=b.au) sm (wH h.2.2 hb) l
 | .ite a b c,h,hx,l=>by
  have ha:(x∈eN a∨Fv x a)∨(x∈eN b∨Fv x b)∨(x∈eN c∨Fv x c):=by
   rcases hx with hx|hx
   ·rcases mA.1 hx with h|h
    ·exact .inl (.inl h)
    ·rcases mA.1 h with h|h
     ·exact .inr (.inl (.inl h))
     ·exact .inr (.inr (.inl h))
   ·rcases hx with h|h|h
    ·exact .inl (.inr h)
    ·exact .inr (.inl (.inr h))
    ·exact .inr (.inr (.inr h))
  rcases ha with ha|hb|hc
  ·exact tM (p:=a.au) sm (wH h.1 ha) l
  ·exact tM (p:=b.au) sm (wH h.2.1 hb) l
  ·exact tM (p:=c.au) sm (wH h.2.2 hc) l
 | .lt y a b,h,hx,l=>by
  have ha:x=y∨(x∈eN a∨Fv x a)∨(x∈eN b∨Fv x b):=by
   rcases hx with hx|hx
   ·rcases mC.1 hx with h|h
    ·exact .inl h
    ·rcases mA.1 h with h|h
     ·exact .inr (.inl (.inl h))
     ·exact .inr (.inr (.inl h))
   ·rcases hx with h|⟨_,h⟩
    ·exact .inr (.inl (.inr h))
    ·exact .inr (.inr (.inr h))
  rcases ha with rfl|ha|hb
  ·exact tM (p:=bJ x) sm (λl=>IP (uX h.1) l) l
  ·exact tM (p:=a.au) sm (wH h.2.1 ha) l
  ·exact tM (p:=b.au) sm (wH h.2.2 hb) l
 | .fn f y A B e,h,hx,l=>by
  obtain⟨hf,hy,_,_,_,he⟩:=h
  have ha:x=f∨x=y∨(x∈eN e∨Fv x e):=by
   rcases hx with hx|hx
   ·rcases mC.1 hx with h|h
    ·exact .inl h
    ·rcases mC.1 h with h|h
     ·exact .inr (.inl h)
     ·exact .inr (.inr (.inl h))
   ·exact .inr (.inr (.inr hx.2.2))
  rcases ha with rfl|rfl|ha
  ·exact tM (p:=bJ x) sm (λl=>IP (uX hf) l) l
  ·exact tM (p:=bJ x) sm (λl=>IP (uX hy) l) l
  ·exact tM (p:=e.au) sm (wH he ha) l
/-! ### Expressions stay expressions -/
structure IQ (r:Bs×Ex×Nat):Prop where
 out:r.2.1.ok
 bs:∀p,p∈r.1->dN p.1=true∧p.2.ok
theorem IQ.aw {ag:List ai} {r:Bs×Ex×Nat} (h:IQ r) (hm:(dB ag r).2.2<=1000):IQ (dB ag r):=by
 unfold dB at hm⊢
 split
 ·exact h
 ·rename_i eJ
  rw[iN eJ] at hm
  have hk:dN (cK cy (bm cy ag r.2.2))=true:=z7 de (by dsimp only at hm;omega)
  refine⟨?_,λp hp=>?_⟩
  ·show qg _=true
   unfold qg;rw[hk];simp
  ·rcases mA.1 hp with hp|hp
   ·exact h.bs p hp
   ·simp only[List.mem_singleton] at hp
    subst hp
    exact⟨hk,h.out⟩
theorem IS:∀{bs:Bs} {e:Ex},(∀p,p∈bs->dN p.1=true∧p.2.ok)->e.ok->(nest bs e).ok:=by intro x;induction x<;>grind [dN,Ex.ok,nest]
theorem wI (ag:List ai):∀(e:Ex) (n:Nat),e.ok->(aY ag e n).2.2<=1000->IQ (aY ag e n)
 | .at s,n,h,_=>⟨h,by simp[aY]⟩
 | .un hd a,n,h,hm=>by
  have h1:=ic ag a n
  have h2:=qk ag (aY ag a n)
  simp only[aY] at hm
  have ha:=(wI ag a n h.2 om).aw hm
  exact⟨⟨h.1,ha.out⟩,ha.bs⟩
 | .bi hd a b,n,h,hm=>by
  have h1:=ic ag a n
  have h2:=qk ag (aY ag a n)
  have h3:=ic ag b (dB ag (aY ag a n)).2.2
  have h4:=qk ag (aY ag b (dB ag (aY ag a n)).2.2)
  simp only[aY] at hm
  have ha:=(wI ag a n h.2.1 om).aw (ag:=ag) om
  have hb:=(wI ag b (dB ag (aY ag a n)).2.2 h.2.2 om).aw (ag:=ag) hm
  exact⟨⟨h.1,ha.out,hb.out⟩,λp hp=>(mA.1 hp).elim (ha.bs p) (hb.bs p)⟩
 | .ite a b c,n,h,hm=>by
  have h1:=ic ag a n
  have h2:=qk ag (aY ag a n)
  have h3:=ic ag b (dB ag (aY ag a n)).2.2
  have h4:=ic ag c (aY ag b (dB ag (aY ag a n)).2.2).2.2
  simp only[aY] at hm
  have ha:=(wI ag a n h.1 om).aw (ag:=ag) om
  have hb:=wI ag b (dB ag (aY ag a n)).2.2 h.2.1 om
  have hc:=wI ag c (aY ag b (dB ag (aY ag a n)).2.2).2.2 h.2.2 hm
  exact⟨⟨ha.out,IS hb.bs hb.out,IS hc.bs hc.out⟩,ha.bs⟩
 | .lt x a b,n,h,hm=>by
  have h1:=ic ag a n
  have h3:=ic ag b (aY ag a n).2.2
  simp only[aY] at hm
  have ha:=wI ag a n h.2.1 om
  have hb:=wI ag b (aY ag a n).2.2 h.2.2 hm
  refine⟨hb.out,λp hp=>?_⟩
  rcases mA.1 hp with hp|hp
  ·exact ha.bs p hp
  ·rcases mC.1 hp with rfl|hp
   ·exact⟨h.1,ha.out⟩
   ·exact hb.bs p hp
 | .fn f x A B e,n,h,hm=>by
  obtain⟨hf,hx,dL,hA,hB,he⟩:=h
  simp only[aY] at hm
  have ha:=wI ag e n he hm
  exact⟨⟨hf,hx,dL,hA,hB,IS ha.bs ha.out⟩,by simp[aY]⟩
def pH (bs:Bs):Nat:=(bs.map λp=>2+p.2.n).sum
theorem Sp (a b:Bs):pH (a++b)=pH a+pH b:=by grind [pH]
theorem Sq (p:ai×Ex) (b:Bs):pH (p::b)=2+p.2.n+pH b:=by simp[pH]
theorem Mp (bs:Bs) (e:Ex):(nest bs e).n=pH bs+e.n:=by induction bs<;>grind [nest,Ty.n,Ex.n,pH]
theorem IT (ag:List ai) (r:Bs×Ex×Nat):pH (dB ag r).1+(dB ag r).2.1.n<=pH r.1+r.2.1.n+3:=by grind [pH,dB,Ty.n,Ex.n]
theorem uY (ag:List ai):∀(e:Ex) (n:Nat),pH (aY ag e n).1+(aY ag e n).2.1.n+3<=4*e.n
 | .at s,n=>by simp[aY,pH,Ex.n]
 | .un hd a,n=>by
  have:=uY ag a n
  have:=IT ag (aY ag a n)
  simp only[aY,Ex.n];omega
 | .bi hd a b,n=>by
  have:=uY ag a n
  have:=IT ag (aY ag a n)
  have:=uY ag b (dB ag (aY ag a n)).2.2
  have:=IT ag (aY ag b (dB ag (aY ag a n)).2.2)
  simp only[aY,Ex.n,Sp];omega
 | .ite a b c,n=>by
  have:=uY ag a n
  have:=IT ag (aY ag a n)
  have:=uY ag b (dB ag (aY ag a n)).2.2
  have:=uY ag c (aY ag b (dB ag (aY ag a n)).2.2).2.2
  simp only[aY,Ex.n,Mp];omega
 | .lt x a b,n=>by
  have:=uY ag a n
  have:=uY ag b (aY ag a n).2.2
  simp only[aY,Ex.n,Sp,Sq];omega
 | .fn f x A B e,n=>by
  have:=uY ag e n
  simp only[aY,Ex.n,Mp]
  rw[show pH ([]:Bs)=0 from rfl];omega
/-! ### The normal form -/
def ql (e:Ex):Option Ex:=if(bH (cH e [] []) e [] 0).2<=100 then some (bH (cH e [] []) e [] 0).1 else none
def nq (e:Ex):Option Ex:=(ql e).bind λp=>if(aY (kZ p.au []) p 0).2.2<=100 then some (mv (kZ p.au []) p 0) else none
theorem Mq {p:Ex} (h:e.ok) (hp:ql e=some p):p.ok:=by
 unfold ql at hp
 split at hp
 ·cases hp
  exact wu _ e [] 0 h om λs hn _=>hn
 ·cases hp
theorem Mr {q:Ex} (h:e.ok) (hq:nq e=some q):q.ok:=by
 unfold nq at hq
 cases hp:ql e with
 |none=>rw[hp] at hq;cases hq
 |some p=>
  rw[hp,Option.bind_some] at hq
  split at hq
  ·cases hq
   have:=wI (kZ p.au []) p 0 (Mq h hp) om
   exact IS this.bs this.out
  ·cases hq
theorem Sr {q:Ex} {T:Ty} (h:e.ok) (ht:bw e []=some T) (hq:nq e=some q):bw q []=some T:=by
 unfold nq at hq
 cases hp:ql e with
 |none=>rw[hp] at hq;cases hq
 |some p=>
  have D1:=Mq h hp
  rw[hp,Option.bind_some] at hq
  split at hq
  ·rename_i hm
   cases hq
   unfold ql at hp
   split at hp
   ·rename_i rH
    cases hp
    have noFv:∀s,¬Fv s e:=λs hs=>by have:=pG ht hs;simp[look] at this
    have Ss:bw (bH (cH e [] []) e [] 0).1 []=some T:=by
     rw[<-ht]
     exact wv _ e [] 0 [] [] om λs _ hs=>absurd hs (noFv s)
    have noFp:∀s,¬Fv s (bH (cH e [] []) e [] 0).1:=λs hs=>by have:=pG Ss hs;simp[look] at this
    refine adW ⟨(wy _ e [] 0).1,λx _=>noFp x,λx hx=>wH D1 hx []⟩ om Ss
   ·cases hp
  ·cases hq
/-! ### Target types -/
def Aa (x:aq):aq:=.mk [] [bJ [101],.mk [] [bJ [116],.mk [] [bJ [99],bJ [118],x],bJ [118]]]
def qW:Ty->aq
 | .i=>bJ [105]
 | .op false a b=>.mk [] [bJ [116],qW a,qW b]
 | .op true a b=>.mk [] [bJ [101],.mk [] [bJ [116],.mk [] [bJ [99],bJ [118],qW a,Aa (qW b)],bJ [118]]]
def bu (t:Ty):ai:=(qW t).text
def dz (s:ai):ai:=[40,101,32,40,116,32,40,99,32,118,32]++s++[41,32,118,41,41]
theorem tN (c:UInt8) (h:eT c=true):Good (bJ [c]):=.aw _ sm (by simp[h])
theorem St {x:aq} (h:Good x):Good (Aa x):=by
 refine .list _ sm λp hp=>?_
 simp only[mC,List.not_mem_nil,or_false] at hp
 rcases hp with rfl|rfl
 ·exact tN _ de
 ·refine .list _ sm λp hp=>?_
  simp only[mC,List.not_mem_nil,or_false] at hp
  rcases hp with rfl|rfl|rfl
  ·exact tN _ de
  ·refine .list _ sm λp hp=>?_
   simp only[mC,List.not_mem_nil,or_false] at hp
   rcases hp with rfl|rfl|rfl
   ·exact tN _ de
   ·exact tN _ de
   ·exact h
  ·exact tN _ de
theorem Su (x:aq):(Aa x).text=dz x.text:=by simp_all[Aa,aq.text,Ty.text,dz,bJ,qR,sr,qT,qS]
theorem Ms (s:ai):(dz s).length=s.length+16:=by simp[dz]
theorem Sv (x:aq):(Aa x).depth=max 3 (x.depth+3):=by
 have a0:∀c:UInt8,(bJ [c]).depth=0:=λc=>rfl
 unfold Aa
 simp only[aq.depth,aq.depth.deeps,bJ];omega
theorem D3:∀t:Ty,Good (qW t)
 | .i=>tN _ de
 | .op false a b=>by
  refine .list _ sm λp hp=>?_
  simp only[mC,List.not_mem_nil,or_false] at hp
  rcases hp with rfl|rfl|rfl
  ·exact tN _ de
  ·exact D3 a
  ·exact D3 b
 | .op true a b=>by
  refine .list _ sm λp hp=>?_
  simp only[mC,List.not_mem_nil,or_false] at hp
  rcases hp with rfl|rfl
  ·exact tN _ de
  ·refine .list _ sm λp hp=>?_
   simp only[mC,List.not_mem_nil,or_false] at hp
   rcases hp with rfl|rfl|rfl
   ·exact tN _ de
   ·refine .list _ sm λp hp=>?_
    simp only[mC,List.not_mem_nil,or_false] at hp
    rcases hp with rfl|rfl|rfl|rfl
    ·exact tN _ de
    ·exact tN _ de
    ·exact D3 a
    ·exact St (D3 b)
   ·exact tN _ de
theorem Sw:bu .i=[105]:=qR sm
theorem Sx (a b:Ty):bu (.op false a b)=[40,116,32]++bu a++[32]++bu b++[41]:=by simp_all[bu,bJ,aq.text,Ty.text,qW,qR,sr,qT,qS]
theorem Sy (a b:Ty):bu (.op true a b)=[40,101,32,40,116,32,40,99,32,118,32]++bu a++[32]++dz (bu b)++[41,32,118,41,41]:=by simp_all[bu,dz,bJ,aq.text,Ty.text,qW,Aa,qR,sr,qT,qS,Su]
theorem B4:∀t:Ty,(bu t).length+16<=17*t.n
 | .i=>by rw[Sw];simp[Ty.n]
 | .op false a b=>by
  have:=B4 a;have:=B4 b
  rw[Sx];simp only[lA,lC,List.length_nil,Ty.n];omega
 | .op true a b=>by
  have:=B4 a;have:=B4 b
  rw[Sy];simp only[lA,lC,List.length_nil,Ty.n,Ms];omega
theorem D4:∀t:Ty,(qW t).depth+3<=3*t.n
 | .i=>by simp[qW,bJ,aq.depth,aq.depth.deeps,Ty.n]
 | .op false a b=>by
  have:=D4 a;have:=D4 b
  have:=a.pos;have:=b.pos
  simp only[qW,aq.depth,aq.depth.deeps,bJ,Ty.n];omega
 | .op true a b=>by
  have:=D4 a;have:=D4 b
  have:=a.pos;have:=b.pos
  have hn:=Sv (qW b)
  simp only[qW,aq.depth,aq.depth.deeps,bJ,Ty.n,hn];omega
/-! ### The maker's state -/
structure Tk where
 aM:ai
 regs:List ai
 loads:Nat
 self:List ai
 sc:List (ai×Nat×Ty)
 expr:Ex
 on:Nat
 aV:ai
 next:Nat
structure Mk where
 blocks:List Bk
 bF:List Tk
 count:Nat
 wide:Bool
 code:List ai
 types:List ai
abbrev cD:=List (ai×Nat×Ty)
def ew (s:cD):Sc:=s.map λp=>(p.1,p.2.2)
theorem D5 (s:cD) (x:ai) (r:Nat) (T:Ty):ew (s++[(x,r,T)])=ew s++[(x,T)]:=by simp[ew]
def kn (s:cD) (x:ai):Nat:=((s.reverse.find? λp=>decide (p.1=x)).map λp=>p.2.1).getD 0
def j5 (s:cD) (x:ai):Ty:=(look (ew s) x).getD .i
def Mk.cY (m:Mk) (kind:ai):Mk:={m with types:=m.types++[kind],wide:=m.wide||decide (40<m.types.length+1)}
def Mk.cA (m:Mk) (h:ai) (ps:List ai):Mk:={m with code:=m.code++[dR h ps]}
def Mk.k7 (m:Mk):Mk:={m with count:=m.count+1}
def Mk.aM (m:Mk):ai:=98::aT m.count
abbrev IU:ai:=[99,111,110,115,116]
abbrev lx:ai:=[110,101,119]
abbrev sy:ai:=[108,97,98]
abbrev sA:ai:=[112,97,99,107]
abbrev Ab:ai:=[111,112,101,110]
abbrev sB:ai:=[103,101,116]
abbrev nu:ai:=[109,111,118]
abbrev Ac:ai:=[106,117,109,112]
abbrev F9:ai:=[122,101,114,111]
abbrev B5:ai:=[109,97,105,110]
abbrev Ad:ai:=[101,110,100]
def Ex.aw:Ex->ai
 | .at s=>s
 |_=>[]
theorem Ex.qX (e:Ex):e.au.aw=e.aw:=by cases e<;>rfl
def bT (m:Mk) (s:cD) (a:ai):Mk×Nat:=if dN a then(m,kn s a) else((m.cY [105]).cA IU [aT m.types.length,a],m.types.length)
structure Pk where
 m:Mk
 r:Nat
 w:ai
def oS (m:Mk) (s:cD) (ton:Nat) (aK:List ai) (on aM kind:ai) (bY:List ai):Pk:=
 let regs:=aK.map (λx=>aT (kn s x))++(if on≠[] then[aT ton] else[])
 let tys:=aK.map (λx=>bu (j5 s x))++(if on≠[] then[on] else[])
 let w:=dR [116] tys
 let r:=m.types.length
 let code:=dR [99] (w::bY)
 ⟨(((((((m.cY w).cA lx (aT r::regs)).cY code).cA sy [aT (r+1),aM]).cY (dR [116] [code,w])).cA lx [aT (r+2),aT (r+1),aT r]).cY kind).cA sA [aT (r+3),aT (r+2),kind,w],r+3,w⟩
def im (s:cD) (k:Nat) (aK:List ai) (from_:cD):cD:=from_++(aK.zipIdx).map λp=>(p.1,k+p.2,j5 s p.1)
def nV (m:Mk) (s:cD) (f x:ai) (A B:Ty) (e:Ex):Pk:=oS m.k7 s 0 (cH (.fn f x A B e) [] []) [] m.aM (bu (.op true A B)) [bu A,dz (bu B)]
def Ae (s:cD) (f x:ai) (A B:Ty) (e:Ex):cD:=
 (if 0<jQ f e then im s 3 (cH (.fn f x A B e) [] []) []++[(f,3+(cH (.fn f x A B e) [] []).length+2,.op true A B)] else im s 3 (cH (.fn f x A B e) [] []) [])++[(x,1,A)]
def Af (m:Mk) (s:cD) (f x:ai) (A B:Ty) (e:Ex):Tk:=
 ⟨m.aM,[(nV m s f x A B e).w,bu A,dz (bu B)],(cH (.fn f x A B e) [] []).length,if 0<jQ f e then[bu (.op true A B),(nV m s f x A B e).w] else[],Ae s f x A B e,e,2,dz (bu B),3⟩
def Ag (m:Mk) (s:cD) (f x:ai) (A B:Ty) (e:Ex):Mk×Nat:=
 ({(nV m s f x A B e).m with bF:=(nV m s f x A B e).m.bF++[Af m s f x A B e]},(nV m s f x A B e).r)
def qm (h:ai):ai:=if h=[43] then[97,100,100] else if h=[45] then[115,117,98] else if h=[42] then[109,117,108] else lx
def mw (m:Mk) (s:cD) (kind:Ty):Ex->Mk×Nat
 | .at a=>bT m s a
 | .fn f x A B e=>Ag m s f x A B e
 | .un h a=>
  let p:=bT m s a.aw
  ((p.1.cY (bu kind)).cA sB [aT p.1.types.length,aT p.2,if h=qU then[49] else[48]],p.1.types.length)
 | .bi h a b=>
  let p:=bT m s a.aw
  let q:=bT p.1 s b.aw
  ((q.1.cY (bu kind)).cA (qm h) [aT q.1.types.length,aT p.2,aT q.2],q.1.types.length)
 | .ite a b _=>
  let p:=bT m s a.aw
  let q:=bT p.1 s b.aw
  ((q.1.cY (bu kind)).cA (qm gj) [aT q.1.types.length,aT p.2,aT q.2],q.1.types.length)
 | .lt x a _=>
  let p:=bT m s x
  let q:=bT p.1 s a.aw
  ((q.1.cY (bu kind)).cA (qm fW) [aT q.1.types.length,aT p.2,aT q.2],q.1.types.length)
def nW (m:Mk) (s:cD) (ton:Nat) (aV name:ai) (kind:Ty) (rest:Ex):Pk:=oS m.k7 s ton (cH rest [name] []) aV m.aM (dz (bu kind)) [bu kind]
def IV (m:Mk) (s:cD) (ton:Nat) (aV name:ai) (kind:Ty) (rest:Ex):Tk:=
 ⟨m.aM,[(nW m s ton aV name kind rest).w,bu kind],(cH rest [name] []).length+1,[],im s 2 (cH rest [name] []) []++[(name,1,kind)],rest,2+(cH rest [name] []).length,aV,2⟩
def tO (m:Mk) (s:cD) (ton:Nat) (aV name:ai) (kind:Ty) (rest:Ex):Mk×Nat×ai:=
 ({(nW m s ton aV name kind rest).m with bF:=(nW m s ton aV name kind rest).m.bF++[IV m s ton aV name kind rest]},(nW m s ton aV name kind rest).r,dz (bu kind))
def sC (m:Mk) (s:Nat):Mk:=
 let r:=m.types.length
 (((((m.cY []).cA Ab [aT r,aT s]).cY []).cA sB [aT (r+1),aT r,[48]]).cY []).cA sB [aT (r+2),aT r,[49]]
def xV (m:Mk) (f x:Nat) (on:Nat):Mk:=
 let r:=m.types.length
 ((((sC m f).cA nu [[48],aT (r+2)]).cA nu [[49],aT x]).cA nu [[50],aT on]).cA Ac [aT (r+1)]
def xW (m:Mk) (on r:Nat):Mk:=
 let q:=m.types.length
 (((sC m on).cA nu [[48],aT (q+2)]).cA nu [[49],aT r]).cA Ac [aT (q+1)]
structure Goal where
 name:ai
 s:Ex
 rest:Ex
def bD:Ex->Goal
 | .lt x a b=>⟨x,a,b⟩
 |e=>⟨[],e,e⟩
def nv (s:cD) (e:Ex):Ty:=(bw e (ew s)).getD .i
structure At where
 m:Mk
 s:cD
 on:Nat
 aV:ai
def IW (a:At) (g:Goal):At:=
 if g.name≠[] then let c:=tO a.m a.s a.on a.aV g.name (nv a.s g.s) g.rest;⟨c.1,a.s,c.2.1,c.2.2⟩ else a
def j6 (a:At) (e:Ex):Mk ⊕ At×Ex:=
 let g:=bD e
 match g.s with
 | .bi h f x=>
  if h=j4 then
   let p:=bT a.m a.s f.aw
   let q:=bT p.1 a.s x.aw
   let b:=IW {a with m:=q.1} g
   .inl (xV b.m p.2 q.2 b.on)
  else
   let p:=mw a.m a.s (nv a.s g.s) g.s
   if g.name=[] then .inl (xW p.1 a.on p.2) else .inr ({a with m:=p.1,s:=a.s++[(g.name,p.2,nv a.s g.s)]},g.rest)
 | .ite c x y=>
  let p:=bT a.m a.s c.aw
  let b:=IW {a with m:=p.1} g
  let aM:=b.m.aM
  let m1:=b.m.k7.cA F9 [aT p.2,aM]
  let br:Tk:=⟨aM,m1.types,0,[],a.s,x,b.on,b.aV,m1.types.length⟩
  .inr ({b with m:={m1 with bF:=m1.bF++[br]}},y)
 |s=>
  let p:=mw a.m a.s (nv a.s s) s
  if g.name=[] then .inl (xW p.1 a.on p.2) else .inr ({a with m:=p.1,s:=a.s++[(g.name,p.2,nv a.s s)]},g.rest)
structure Fr (L:List Nat) (w:World) (L':List Nat) (w':World):Prop where
 aF:aj L w w'
 mem:∀x,x∈L'->x∈L∨w.heap.size<=x
theorem Fr.refl (L:List Nat) (w:World):Fr L w L w:=⟨aj.refl L w,λx hx=>.inl hx⟩
theorem Fr.go {L2:List Nat} (h:Fr L w L1 w1) (k:Fr L1 w1 L2 w2):Fr L w L2 w2:=
 ⟨h.aF.since k.aF h.mem,λx hx=>by
  rcases k.mem x hx with h1|h1
  ·exact h.mem x h1
  ·have:=h.aF.size;right;omega⟩
theorem Fr.ext (h:Fr L w L1 w1) (k:aj [] w1 w2):Fr L w L1 w2:=⟨h.aF.trans k.any,h.mem⟩
theorem Fr.aD (h:Fr L w L1 w1) (k:aj G w1 w2) (hG:∀x,x∈G->x∈L1):Fr L w L1 w2:=⟨h.aF.since (k.mono hG) h.mem,h.mem⟩
theorem Fr.of (k:aj G w w') (hG:∀x,x∈G->x∈L):Fr L w L w':=⟨k.mono hG,λx hx=>.inl hx⟩
theorem Fr.to {L2:List Nat} (h:Fr L w L1 w1) (hL:∀x,x∈L2->x∈L1∨w.heap.size<=x):Fr L w L2 w1:=⟨h.aF,λx hx=>by
 rcases hL x hx with h1|h1
 ·exact h.mem x h1
 ·exact .inr h1⟩
theorem Fr.grow (h:Fr L w L1 w1):Fr L w (w1.heap.size::L1) w1:=h.to λx hx=>by
 rcases mC.1 hx with rfl|hx
 ·exact .inr h.aF.size
 ·exact .inl hx
theorem bQ.go {c:C} (h:bQ L w v c) (k:Fr L w L' w'):bQ L' w' v c:=by
 have h1:bQ (L++L') w v c:=h.fresh λx hx=>by
  rcases mA.1 hx with hx|hx
  ·exact .inl hx
  ·exact k.mem x hx
 exact(h1.aF (k.aF.mono λx hx=>List.mem_append_left _ hx)).weaken λx hx=>mR _ hx
theorem cS.go {cs:List C} (h:cS L w vs cs) (k:Fr L w L' w'):cS L' w' vs cs:=cS.of h.length λ_ _ _ hv hc=>(h.get hv hc).go k
theorem j1.go {cs:List C} (h:j1 L w v cs) (k:Fr L w L' w'):j1 L' w' v cs:=let⟨vs,e,h⟩:=h;⟨vs,e,h.go k⟩
theorem bB.go {t:aq} (h:bB L w v t) (k:Fr L w L' w'):bB L' w' v t:=j1.go h k
theorem eM.go {t:List aq} (h:eM L w v t) (k:Fr L w L' w'):eM L' w' v t:=bQ.go h k
theorem bc.go (h:bc L w v xs) (k:Fr L w L' w'):bc L' w' v xs:=bQ.go h k
theorem bc.fresh (h:bc L w v xs) (hL:∀x,x∈L'->x∈L∨w.heap.size<=x):bc L' w v xs:=bQ.fresh h hL
theorem bB.fresh {t:aq} (h:bB L w v t) (hL:∀x,x∈L'->x∈L∨w.heap.size<=x):bB L' w v t:=j1.fresh h hL
structure fy (L:List Nat) (w:World) (b off:Nat) (vs:List Value):Prop where
 cells:fS w b off vs
 lt:b<w.heap.size
 out:b∉L
theorem fy.go (h:fy L w b off vs) (k:Fr L w L' w'):fy L' w' b off vs:=
 ⟨λj v hj=>(World.cell?_of_block (k.aF.block b h.lt h.out)).trans (h.cells j v hj),lL h.lt k.aF.size,λhx=>by
  rcases k.mem b hx with h1|h1
  ·exact h.out h1
  ·have:=h.lt;omega⟩
theorem fy.ext (h:fy L w b off vs) (k:aj [] w w'):fy L w' b off vs:=h.go (Fr.of k sm)
theorem fy.aD (h:fy L w b off vs) (k:aj G w w') (hG:∀x,x∈G->x∈L):fy L w' b off vs:=h.go (Fr.of k hG)
/-! ### Tasks -/
def tP (xs:List Nat):List (List C):=xs.map λx:Nat=>[.val (.int .i64 (x:Int))]
def xX (L:List Nat) (w:World) (v:Value) (xs:List Nat):Prop:=bQ L w v (.sl 1 (tP xs))
theorem xX.ext {xs:List Nat} (h:xX L w v xs) (k:aj [] w w'):xX L w' v xs:=bQ.ext h k
theorem xX.go {xs:List Nat} (h:xX L w v xs) (k:Fr L w L' w'):xX L' w' v xs:=bQ.go h k
theorem ad1 {a:Option Addr} {c i x:Nat} {xs:List Nat} (h:xX L w (.slice a n c) xs) (hi:xs[i]?=some x):
  ∃b off,a=some ⟨b,off,none⟩∧fS w b (off+i*1) [.int .i64 (x:Int)]:=by
 obtain⟨b,off,vs,ha,hb,hL,hl,hc,hr⟩:=zn h (show(tP xs)[i]?=some [.val (.int .i64 (x:Int))] by simp[tP,hi])
 match vs,hr with
 |[v],hr=>obtain⟨h1,_⟩:=hr;cases h1;exact⟨b,off,ha,hc⟩
 |[],hr=>exact hr.elim
 |_::_::_,hr=>exact hr.2.elim
def jE (s:cD):List ai:=s.map λp=>p.1
def wJ (s:cD):List Nat:=s.map λp=>p.2.1
def oT (s:cD):List ai:=s.map λp=>p.2.2.text
theorem ad2 (s:cD) (x:ai) (r:Nat) (T:Ty):jE (s++[(x,r,T)])=jE s++[x]:=by simp[jE]
theorem ad3 (s:cD) (x:ai) (r:Nat) (T:Ty):wJ (s++[(x,r,T)])=wJ s++[r]:=by simp[wJ]
theorem ad4 (s:cD) (x:ai) (r:Nat) (T:Ty):oT (s++[(x,r,T)])=oT s++[T.text]:=by simp[oT]
def Tk.enc (t:Tk):List C:=
 [.val (str t.aM),.sl 1 (fU t.regs),.val (.int .i64 (t.loads:Int)),.sl 1 (fU t.self),.sl 1 (fU (jE t.sc)),.sl 1 (tP (wJ t.sc)),.sl 1 (fU (oT t.sc)),.val (str t.expr.au.aw),.sl 2 (cT t.expr.au.ak),.val (.int .i64 (t.on:Int)),.val (str t.aV),.val (.int .i64 (t.next:Int))]
structure nX (L:List Nat) (w:World) (t:Tk) (v1 v3 v4 v5 v6 v8:Value):Prop where
 regs:bc L w v1 t.regs
 self:bc L w v3 t.self
 aK:bc L w v4 (jE t.sc)
 at_:xX L w v5 (wJ t.sc)
 types:bc L w v6 (oT t.sc)
 ak:eM L w v8 t.expr.au.ak
def pI (t:Tk) (v1 v3 v4 v5 v6 v8:Value):List Value:=
 [str t.aM,v1,.int .i64 (t.loads:Int),v3,v4,v5,v6,str t.expr.au.aw,v8,.int .i64 (t.on:Int),str t.aV,.int .i64 (t.next:Int)]
theorem ad5 {t:Tk} (h:cS L w vs t.enc):∃v1 v3 v4 v5 v6 v8,vs=pI t v1 v3 v4 v5 v6 v8∧nX L w t v1 v3 v4 v5 v6 v8:=by
 have hl:=h.length
 unfold Tk.enc at h hl
 match vs,hl,h with
 |[u0,u1,u2,u3,u4,u5,u6,u7,u8,u9,u10,u11],_,h=>
  obtain⟨h0,h1,h2,h3,h4,h5,h6,h7,h8,h9,fO,oU,_⟩:=h
  cases h0;cases h2;cases h7;cases h9;cases fO;cases oU
  exact⟨u1,u3,u4,u5,u6,u8,rfl,h1,h3,h4,h5,h6,h8⟩
theorem nX.BR {t:Tk} (h:nX L w t v1 v3 v4 v5 v6 v8):cS L w (pI t v1 v3 v4 v5 v6 v8) t.enc:=
 ⟨.val _,h.regs,.val _,h.self,h.aK,h.at_,h.types,.val _,h.ak,.val _,.val _,.val _,trivial⟩
theorem nX.go {t:Tk} (h:nX L w t v1 v3 v4 v5 v6 v8) (k:Fr L w L' w'):nX L' w' t v1 v3 v4 v5 v6 v8:=
 ⟨h.regs.go k,h.self.go k,h.aK.go k,h.at_.go k,h.types.go k,h.ak.go k⟩
theorem nX.ext {t:Tk} (h:nX L w t v1 v3 v4 v5 v6 v8) (k:aj [] w w'):nX L w' t v1 v3 v4 v5 v6 v8:=h.go (Fr.of k sm)
theorem nX.aD {t:Tk} (h:nX L w t v1 v3 v4 v5 v6 v8) (k:aj G w w') (hG:∀x,x∈G->x∈L):nX L w' t v1 v3 v4 v5 v6 v8:=h.go (Fr.of k hG)
theorem nX.grow {t:Tk} (h:nX L w t v1 v3 v4 v5 v6 v8):nX (w.heap.size::L) w t v1 v3 v4 v5 v6 v8:=h.go ((Fr.refl L w).grow)
def gI (L:List Nat) (w:World) (T:TypeId) (b:Nat) (t:Tk):Prop:=∃v1 v3 v4 v5 v6 v8,aJ w b (pI t v1 v3 v4 v5 v6 v8).toArray T∧nX L w t v1 v3 v4 v5 v6 v8
theorem gI.ext {T:TypeId} {t:Tk} (h:gI L w T b t) (k:aj [] w w'):gI L w' T b t:=by
 obtain⟨v1,v3,v4,v5,v6,v8,hb,hc⟩:=h
 exact⟨v1,v3,v4,v5,v6,v8,hb.aF k sm,hc.ext k⟩
theorem gI.go {T:TypeId} {t:Tk} (h:gI L w T b t) (k:Fr L w L' w') (kg:aj G w w') (hb:b∉G):gI L' w' T b t:=by
 obtain⟨v1,v3,v4,v5,v6,v8,hB,hc⟩:=h
 exact⟨v1,v3,v4,v5,v6,v8,hB.aF kg hb,hc.go k⟩
/-! ### The maker -/
theorem cG.ad6 {T:TypeId} (h:cG w T v g xs):iH w T 1 v g (fU xs).length (xs.map λx=>str x):=by rw[qb];exact h
structure dH (L:List Nat) (w:World) (T:TypeId) (sz:Nat) (v:Value) (g:Option Nat) (rows:List (List C)):Prop where
 own:∃xs,iH w T sz v g rows.length xs∧cS L w xs rows.flatten
 row:∀row,row∈rows->row.length=sz
theorem dH.aF {T:TypeId} (h:dH L w T sz v g rows) (k:Fr L w L' w') (kg:aj G w w') (hg:∀x,x∈g.toList->x∉G):dH L' w' T sz v g rows:=by
 obtain⟨xs,h1,h2⟩:=h.own
 exact⟨⟨xs,h1.aF kg (λb hb=>hg b (by simp[hb])),h2.go k⟩,h.row⟩
theorem dH.len {T:TypeId} (h:dH L w T sz v g rows):∃a cap,v= .slice a rows.length cap:=by
 obtain⟨xs,h1,_⟩:=h.own;exact h1.len
theorem dH.lt {T:TypeId} (h:dH L w T sz v g rows):∀x,x∈g.toList->x<w.heap.size:=by
 obtain⟨xs,h1,_⟩:=h.own;intro x hx;exact h1.lt x (by simpa using hx)
theorem dH.rep {T:TypeId} (h:dH L w T sz v g rows) (hL:∀x,x∈g.toList++L'->x∈L∨w.heap.size<=x) (hg:∀x,x∈g.toList->x∉L'):bQ L' w v (.sl sz rows):=by
 obtain⟨xs,h1,h2⟩:=h.own
 exact gO.done (L:=L') ⟨h1,h2.fresh hL,h.row,λb hb=>hg b (by simp[hb])⟩
theorem dH.gr {B:Nat} {T:TypeId} (h:dH L w T sz v g rows) (hL:∀x,x∈g.toList->x∈L) (hB:∀b,g=some b->B<=b) (hs:B<=w.heap.size):Gr B [] w T sz v g rows:=by
 obtain⟨xs,h1,h2⟩:=h.own
 exact⟨⟨xs,h1,h2.fresh (λx hx=>.inl (hL x (by simpa using hx))),h.row,sm⟩,hB,sm,hs⟩
theorem Gr.down {B B':Nat} {T:TypeId} (h:Gr B L w T sz v g rows) (hB:B'<=B):Gr B' L w T sz v g rows:=
 ⟨h.own,λb hb=>Nat.le_trans hB (h.low b hb),h.cC,Nat.le_trans hB h.bsz⟩
structure sD where
 M:TypeId
 B:TypeId
 T:TypeId
 S:TypeId
structure gk (τ:sD) (E L:List Nat) (w:World) (b:Nat) (o:Bool) (vb vt vc vy:Value) (gb gt gc gy:Option Nat) (m:Mk):Prop where
 bl:dH L w τ.B 3 vb gb (m.blocks.map Bk.enc)
 ta:dH L w τ.T 12 vt gt (m.bF.map Tk.enc)
 co:(o=true∧cG w τ.S vc gc m.code)∨(o=false∧gc=none∧bc L w vc m.code)
 ty:cG w τ.S vy gy m.types
 eL:L=E++b::(gb.toList++(gt.toList++(gc.toList++gy.toList)))
 nd:L.Nodup
 cC:∀x,x∈L->x<w.heap.size
section
variable {τ:sD} {E L:List Nat} {w w':World} {b:Nat} {o:Bool} {vb vt vc vy:Value} {gb gt gc gy:Option Nat} {m:Mk}
theorem xY {A B C D E:List Nat} {b x:Nat}:x∈E++b::(A++(B++(C++D)))↔x∈E∨x=b∨x∈A∨x∈B∨x∈C∨x∈D:=by simp
theorem gk.mem (h:gk τ E L w b o vb vt vc vy gb gt gc gy m) {x:Nat}:x∈L↔x∈E∨x=b∨x∈gb.toList∨x∈gt.toList∨x∈gc.toList∨x∈gy.toList:=by
 rw[h.eL];exact xY
theorem gk.apart (h:gk τ E L w b o vb vt vc vy gb gt gc gy m):E.Nodup∧b∉E∧
  (∀x,x∈gb.toList->x∉E∧x≠b)∧(∀x,x∈gt.toList->x∉E∧x≠b∧x∉gb.toList)∧(∀x,x∈gc.toList->x∉E∧x≠b∧x∉gb.toList∧x∉gt.toList)∧
  (∀x,x∈gy.toList->x∉E∧x≠b∧x∉gb.toList∧x∉gt.toList∧x∉gc.toList):=by
 have hn:=h.nd
 rw[h.eL] at hn
 rw[List.nodup_append] at hn
 obtain⟨h1,h2,h3⟩:=hn
 rw[List.nodup_cons] at h2
 obtain⟨h4,h5⟩:=h2
 rw[List.nodup_append] at h5
 obtain⟨h6,h7,h8⟩:=h5
 rw[List.nodup_append] at h7
 obtain⟨h9,fO,oU⟩:=h7
 rw[List.nodup_append] at fO
 obtain⟨kC,oV,D6⟩:=fO
 refine⟨h1,λhb=>h3 b hb b sm rfl,λx hx=>⟨λhe=>h3 x he x (by simp[hx]) rfl,λe=>h4 (by simp[<-e,hx])⟩,λx hx=>⟨λhe=>h3 x he x (by simp[hx]) rfl,λe=>h4 (by simp[<-e,hx]),λhy=>h8 x hy x (by simp[hx]) rfl⟩,
  λx hx=>⟨λhe=>h3 x he x (by simp[hx]) rfl,λe=>h4 (by simp[<-e,hx]),λhy=>h8 x hy x (by simp[hx]) rfl,λhy=>oU x hy x (by simp[hx]) rfl⟩,
  λx hx=>⟨λhe=>h3 x he x (by simp[hx]) rfl,λe=>h4 (by simp[<-e,hx]),λhy=>h8 x hy x (by simp[hx]) rfl,λhy=>oU x hy x (by simp[hx]) rfl,λhy=>D6 x hy x hx rfl⟩⟩
theorem Mt (g:Option Nat):g.toList.Nodup:=by cases g<;>simp
theorem ad7 {A B C D:Option Nat} {F:List Nat} {b:Nat} (h1:F.Nodup) (h2:b∉F) (ha:∀x,x∈A.toList->x∉F∧x≠b) (hb:∀x,x∈B.toList->x∉F∧x≠b∧x∉A.toList) (hc:∀x,x∈C.toList->x∉F∧x≠b∧x∉A.toList∧x∉B.toList) 
  (hd:∀x,x∈D.toList->x∉F∧x≠b∧x∉A.toList∧x∉B.toList∧x∉C.toList):(F++b::(A.toList++(B.toList++(C.toList++D.toList)))).Nodup:=by grind [Mt,List.nodup_append,List.nodup_cons]
theorem gk.swap (h:gk τ E L w b o vb vt vc vy gb gt gc gy m) (k:aj G w w') (hG:∀x,x∈G->x∈L∧x≠b∧x∉E) {gb' gt' gc' gy':Option Nat} 
  (nb:∀x,x∈gb'.toList->x∈gb.toList∨w.heap.size<=x∧x∉gt'.toList∧x∉gc'.toList∧x∉gy'.toList) (nt:∀x,x∈gt'.toList->x∈gt.toList∨w.heap.size<=x∧x∉gb'.toList∧x∉gc'.toList∧x∉gy'.toList)
  (nc:∀x,x∈gc'.toList->x∈gc.toList∨w.heap.size<=x∧x∉gb'.toList∧x∉gt'.toList∧x∉gy'.toList) (ny:∀x,x∈gy'.toList->x∈gy.toList∨w.heap.size<=x∧x∉gb'.toList∧x∉gt'.toList∧x∉gc'.toList):
  Fr L w (E++b::(gb'.toList++(gt'.toList++(gc'.toList++gy'.toList)))) w'∧(E++b::(gb'.toList++(gt'.toList++(gc'.toList++gy'.toList)))).Nodup:=by
 obtain⟨a1,a2,a3,a4,a5,a6⟩:=h.apart
 have dU:∀x,x∈E∨x=b->x<w.heap.size:=λx hx=>h.cC x (h.mem.2 (by rcases hx with hx|hx<;>simp[hx]))
 have nz:∀x,w.heap.size<=x->x∉E∧x≠b:=λx hx=>⟨λhe=>by have:=dU x (.inl he);omega,λe=>by have:=dU x (.inr e);omega⟩
 refine⟨⟨k.mono λx hx=>(hG x hx).1,λx hx=>?_⟩,ad7 a1 a2 (λx hx=>?_) (λx hx=>?_) (λx hx=>?_) (λx hx=>?_)⟩
 ·rw[xY] at hx
  rcases hx with hx|hx|hx|hx|hx|hx
  ·exact .inl (h.mem.2 (.inl hx))
  ·exact .inl (h.mem.2 (.inr (.inl hx)))
  ·rcases nb x hx with h1|h1
   ·exact .inl (h.mem.2 (by simp[h1]))
   ·exact .inr h1.1
  ·rcases nt x hx with h1|h1
   ·exact .inl (h.mem.2 (by simp[h1]))
   ·exact .inr h1.1
  ·rcases nc x hx with h1|h1
   ·exact .inl (h.mem.2 (by simp[h1]))
   ·exact .inr h1.1
  ·rcases ny x hx with h1|h1
   ·exact .inl (h.mem.2 (by simp[h1]))
   ·exact .inr h1.1
 ·rcases nb x hx with h1|h1
  ·exact a3 x h1
  ·exact nz x h1.1
 ·rcases nt x hx with h1|h1
  ·refine⟨(a4 x h1).1,(a4 x h1).2.1,λhb=>?_⟩
   rcases nb x hb with h2|h2
   ·exact(a4 x h1).2.2 h2
   ·exact h2.2.1 hx
  ·exact⟨(nz x h1.1).1,(nz x h1.1).2,h1.2.1⟩
 ·rcases nc x hx with h1|h1
  ·refine⟨(a5 x h1).1,(a5 x h1).2.1,λhb=>?_,λhb=>?_⟩
   ·rcases nb x hb with h2|h2
    ·exact(a5 x h1).2.2.1 h2
    ·exact h2.2.2.1 hx
   ·rcases nt x hb with h2|h2
    ·exact(a5 x h1).2.2.2 h2
    ·exact h2.2.2.1 hx
  ·exact⟨(nz x h1.1).1,(nz x h1.1).2,h1.2.1,h1.2.2.1⟩
 ·rcases ny x hx with h1|h1
  ·refine⟨(a6 x h1).1,(a6 x h1).2.1,λhb=>?_,λhb=>?_,λhb=>?_⟩
   ·rcases nb x hb with h2|h2
    ·exact(a6 x h1).2.2.1 h2
    ·exact h2.2.2.2 hx
   ·rcases nt x hb with h2|h2
    ·exact(a6 x h1).2.2.2.1 h2
    ·exact h2.2.2.2 hx
   ·rcases nc x hb with h2|h2
    ·exact(a6 x h1).2.2.2.2 h2
    ·exact h2.2.2.2 hx
  ·exact⟨(nz x h1.1).1,(nz x h1.1).2,h1.2.1,h1.2.2.1,h1.2.2.2⟩
theorem gk.IX (h:gk τ E L w b o vb vt vc vy gb gt gc gy m) {x:Nat} (hx:x∈gb.toList∨x∈gt.toList∨x∈gc.toList∨x∈gy.toList):x<w.heap.size:=h.cC x (h.mem.2 (by simp only[hx,or_true]))
theorem cG.lt {w:World} {T:TypeId} (h:cG w T v g xs):∀x,x∈g.toList->x<w.heap.size:=λx hx=>iH.lt h x (by simpa using hx)
theorem gk.Mu (h:gk τ E L w b o vb vt vc vy gb gt gc gy m) {ys:List ai} (hy:cG w' τ.S v g ys) (k:aj gy.toList w w') (hg:∀x,g=some x->gy=some x∨w.heap.size<=x):
  ∃L',gk τ E L' w' b o vb vt vc v gb gt gc g {m with types:=ys}∧Fr L w L' w':=by
 obtain⟨a1,a2,a3,a4,a5,a6⟩:=h.apart
 have kz:∀x,x∈g.toList->x∈gy.toList∨w.heap.size<=x∧x∉gb.toList∧x∉gt.toList∧x∉gc.toList:=λx hx=>by
  rcases hg x (by simpa using hx) with h1|h1
  ·exact .inl (by simp[h1])
  ·refine .inr ⟨h1,λhh=>?_,λhh=>?_,λhh=>?_⟩<;>have:=h.IX (x:=x) (by simp[hh])<;>omega
 obtain⟨hF,hN⟩:=h.swap k (λx hx=>⟨h.mem.2 (by simp[hx]),(a6 x hx).2.1,(a6 x hx).1⟩) (gb':=gb) (gt':=gt) (gc':=gc) (gy':=g) (λx hx=>.inl hx) (λx hx=>.inl hx) (λx hx=>.inl hx) kz
 refine⟨_,⟨h.bl.aF hF k (λx hx hy=>(a6 x hy).2.2.1 hx),h.ta.aF hF k (λx hx hy=>(a6 x hy).2.2.2.1 hx),?_,hy,rfl,hN,?_⟩,hF⟩
 ·rcases h.co with⟨ho,h1⟩|⟨ho,hn,h1⟩
  ·exact .inl ⟨ho,h1.aF k λx hx hy=>(a6 x hy).2.2.2.2 (by simp[hx])⟩
  ·exact .inr ⟨ho,hn,h1.go hF⟩
 ·intro x hx
  rw[xY] at hx
  have hs:=k.size
  rcases hx with hx|hx|hx|hx|hx|hx
  ·exact lL (h.cC x (h.mem.2 (by simp[hx]))) hs
  ·exact lL (h.cC x (h.mem.2 (by simp[hx]))) hs
  ·exact lL (h.cC x (h.mem.2 (by simp[hx]))) hs
  ·exact lL (h.cC x (h.mem.2 (by simp[hx]))) hs
  ·exact lL (h.cC x (h.mem.2 (by simp[hx]))) hs
  ·exact hy.lt x hx
theorem gk.IY (h:gk τ E L w b o vb vt vc vy gb gt gc gy m) {ys:List ai} (hy:cG w' τ.S v g ys) (k:aj gc.toList w w') (hg:∀x,g=some x->gc=some x∨w.heap.size<=x):
  ∃L',gk τ E L' w' b true vb vt v vy gb gt g gy {m with code:=ys}∧Fr L w L' w':=by
 obtain⟨a1,a2,a3,a4,a5,a6⟩:=h.apart
 have kz:∀x,x∈g.toList->x∈gc.toList∨w.heap.size<=x∧x∉gb.toList∧x∉gt.toList∧x∉gy.toList:=λx hx=>by
  rcases hg x (by simpa using hx) with h1|h1
  ·exact .inl (by simp[h1])
  ·refine .inr ⟨h1,λhh=>?_,λhh=>?_,λhh=>?_⟩<;>have:=h.IX (x:=x) (by simp[hh])<;>omega
 obtain⟨hF,hN⟩:=h.swap k (λx hx=>⟨h.mem.2 (by simp[hx]),(a5 x hx).2.1,(a5 x hx).1⟩) (gb':=gb) (gt':=gt) (gc':=g) (gy':=gy) (λx hx=>.inl hx) (λx hx=>.inl hx) kz (λx hx=>.inl hx)
 refine⟨_,⟨h.bl.aF hF k (λx hx hy=>(a5 x hy).2.2.1 hx),h.ta.aF hF k (λx hx hy=>(a5 x hy).2.2.2 hx),.inl ⟨rfl,hy⟩,h.ty.aF k λx hx hy=>(a6 x (by simp[hx])).2.2.2.2 hy,rfl,hN,?_⟩,hF⟩
 intro x hx
 rw[xY] at hx
 have hs:=k.size
 rcases hx with hx|hx|hx|hx|hx|hx
 ·exact lL (h.cC x (h.mem.2 (by simp[hx]))) hs
 ·exact lL (h.cC x (h.mem.2 (by simp[hx]))) hs
 ·exact lL (h.cC x (h.mem.2 (by simp[hx]))) hs
 ·exact lL (h.cC x (h.mem.2 (by simp[hx]))) hs
 ·exact hy.lt x hx
 ·exact lL (h.cC x (h.mem.2 (by simp[hx]))) hs
theorem ad8 (t:Tk) (h1:v1.oneCell'=true) (h3:v3.oneCell'=true) (h4:v4.oneCell'=true) (h5:v5.oneCell'=true) (h6:v6.oneCell'=true) (h8:v8.oneCell'=true):(pI t v1 v3 v4 v5 v6 v8).all Value.oneCell'=true:=by
 simp only[pI,List.all_cons,h1,h3,h4,h5,h6,h8];rfl
theorem D7 {L:List Nat} {w:World} (h:bQ L w v (.sl sz rows)):v.oneCell'=true:=by cases h<;>rfl
theorem nX.one {t:Tk} (h:nX L w t v1 v3 v4 v5 v6 v8):(pI t v1 v3 v4 v5 v6 v8).all Value.oneCell'=true:=ad8 t (D7 h.regs) (D7 h.self) (D7 h.aK) (D7 h.at_) (D7 h.types) (D7 h.ak)
theorem gk.aF (h:gk τ E L w b o vb vt vc vy gb gt gc gy m) (k:aj G w w') (hG:∀x,x∈G->x∈b::E):gk τ E L w' b o vb vt vc vy gb gt gc gy m:=by
 obtain⟨a1,a2,a3,a4,a5,a6⟩:=h.apart
 have rI:∀x,x∈G->x∈L:=λx hx=>h.mem.2 (by rcases mC.1 (hG x hx) with h1|h1<;>simp[h1])
 have hF:Fr L w L w':=Fr.of k rI
 have out:∀x,x∉E->x≠b->x∉G:=λx h1 h2 h3=>by
  rcases mC.1 (hG x h3) with h4|h4
  ·exact h2 h4
  ·exact h1 h4
 refine⟨h.bl.aF hF k (λx hx=>out x (a3 x hx).1 (a3 x hx).2),h.ta.aF hF k (λx hx=>out x (a4 x hx).1 (a4 x hx).2.1),?_,h.ty.aF k (λx hx=>out x (a6 x (by simp[hx])).1 (a6 x (by simp[hx])).2.1),h.eL,h.nd,λx hx=>lL (h.cC x hx) k.size⟩
 rcases h.co with⟨ho,h1⟩|⟨ho,hn,h1⟩
 ·exact .inl ⟨ho,h1.aF k λx hx=>out x (a5 x (by simp[hx])).1 (a5 x (by simp[hx])).2.1⟩
 ·exact .inr ⟨ho,hn,h1.go hF⟩
theorem gk.ext (h:gk τ E L w b o vb vt vc vy gb gt gc gy m) (k:aj [] w w'):gk τ E L w' b o vb vt vc vy gb gt gc gy m:=h.aF k sm
theorem gk.drop {x:Nat} (h:gk τ (x::E) L w b o vb vt vc vy gb gt gc gy m):∃L',L=x::L'∧gk τ E L' w b o vb vt vc vy gb gt gc gy m:=by
 have rI:∀y,y∈E++b::(gb.toList++(gt.toList++(gc.toList++gy.toList)))->y∈L:=λy hy=>by rw[h.eL];simp only[List.cons_append,mC];exact .inr hy
 have hF:Fr L w (E++b::(gb.toList++(gt.toList++(gc.toList++gy.toList)))) w:=(Fr.refl L w).to λy hy=>.inl (rI y hy)
 have iS:=h.nd
 rw[h.eL,List.cons_append,List.nodup_cons] at iS
 refine⟨_,h.eL,⟨h.bl.aF hF (aj.refl [] w) sm,h.ta.aF hF (aj.refl [] w) sm,?_,h.ty,rfl,iS.2,λy hy=>h.cC y (rI y hy)⟩⟩
 rcases h.co with⟨ho,h1⟩|⟨ho,hn,h1⟩
 ·exact .inl ⟨ho,h1⟩
 ·exact .inr ⟨ho,hn,h1.go hF⟩
def mkV (m:Mk) (vb vt vc vy:Value):List Value:=[vb,vt,.int .i64 (m.count:Int),.bool m.wide,vc,vy]
def dG (τ:sD) (E L:List Nat) (w:World) (b:Nat) (o:Bool) (m:Mk):Prop:=∃vb vt vc vy gb gt gc gy,aJ w b (mkV m vb vt vc vy).toArray τ.M∧gk τ E L w b o vb vt vc vy gb gt gc gy m
theorem dG.ext (h:dG τ E L w b o m) (k:aj [] w w'):dG τ E L w' b o m:=by
 obtain⟨vb,vt,vc,vy,gb,gt,gc,gy,h1,h2⟩:=h
 exact⟨vb,vt,vc,vy,gb,gt,gc,gy,h1.aF k sm,h2.ext k⟩
theorem dG.aF (h:dG τ E L w b o m) (k:aj G w w') (hG:∀x,x∈G->x∈E):dG τ E L w' b o m:=by
 obtain⟨vb,vt,vc,vy,gb,gt,gc,gy,h1,h2⟩:=h
 exact⟨vb,vt,vc,vy,gb,gt,gc,gy,h1.aF k (λhx=>h2.apart.2.1 (hG b hx)),h2.aF k (λx hx=>mK _ (hG x hx))⟩
theorem dG.drop {x:Nat} (h:dG τ (x::E) L w b o m):∃L',L=x::L'∧dG τ E L' w b o m:=by
 obtain⟨vb,vt,vc,vy,gb,gt,gc,gy,h1,h2⟩:=h
 obtain⟨L',e,h3⟩:=h2.drop
 exact⟨L',e,vb,vt,vc,vy,gb,gt,gc,gy,h1,h3⟩
theorem dG.mem (h:dG τ E L w b o m):(∀x,x∈b::E->x∈L)∧E.Nodup∧b∉E∧∀x,x∈L->x<w.heap.size:=by
 obtain⟨vb,vt,vc,vy,gb,gt,gc,gy,h1,h2⟩:=h
 obtain⟨a1,a2,_⟩:=h2.apart
 exact⟨λx hx=>h2.mem.2 (by rcases mC.1 hx with h|h<;>simp[h]),a1,a2,h2.cC⟩
end
inductive It where
 |v (V:Value)
 |p (f:Value->World->Prop)
def It.F:It->Value->World->Prop
 | .v V=>λv _=>v=V
 | .p f=>f
def It.Ga:It->Bool
 | .v _=>true
 | .p _=>false
def dq (its:List It) (ds:List Nat) (w:World):List Nat->(List (Nat×Value)->Prop)->Prop
 |[],k=>k []
 |j::r,k=>match its.getD j (.p λ_ _=>True) with
  | .v V=>dq its ds w r λacc=>k ((ds.getD j 0,V)::acc)
  | .p f=>∀v,f v w->dq its ds w r λacc=>k ((ds.getD j 0,v)::acc)
theorem IZ {its:List It} {ds:List Nat} {vs:Nat->Value}:∀{deps:List Nat} {k:List (Nat×Value)->Prop},dq its ds w deps k->(∀j,j∈deps->py (its.map It.F) j (vs j) w)->k (tw ds vs deps)
 |[],k,h,_=>h
 |j::r,k,h,hd=>by
  have hj:=hd j (List.mem_cons_self ..)
  unfold dq at h
  have hp:((its.getD j (.p λ_ _=>True)).F) (vs j) w:=by
   unfold py at hj
   rw[gG] at hj⊢
   rw[List.getElem?_map] at hj
   cases e:its[j]? with
   |none=>trivial
   |some q=>rw[e] at hj;exact hj
  cases e:its.getD j (.p λ_ _=>True) with
  |v V=>
   rw[e] at h hp
   have hv:vs j=V:=hp
   subst hv
   exact IZ (deps:=r) h λi hi=>hd i (mK _ hi)
  |p f=>
   rw[e] at h hp
   exact IZ (deps:=r) (h _ hp) λi hi=>hd i (mK _ hi)
theorem Sz {F:List (Value->World->Prop)} {vs:Nat->Value}:∀{l:List Nat},Fx F vs w l->∀j,j∈l->py F j (vs j) w
 |[],_,j,h=>by cases h
 |[i],h,j,hj=>by rw[List.mem_singleton] at hj;subst hj;exact h
 |i::a::l,h,j,hj=>by
  rcases mC.1 hj with e|hj
  ·subst e;exact h.1
  ·exact Sz h.2 j hj
def Gb (P:Program) (n:Nat) (ops:Array Oper) (W ds:List Nat) (its:List It) (e0:Env) (w0:World) (k:Nat) (o:Oper) (deps:List Nat):Prop:=
 ∀(x:Env) (w:World),aj [] w0 w->dq its ds w deps λacc=>OW P n ops (λe' w'=>aj [] w w'∧(its.getD k (.p λ_ _=>True)).F (e' (ds.getD k 0)) w'∧ek [ds.getD k 0] (bo (bj W x e0) acc) e') [o] (bo (bj W x e0) acc) w
def qY (P:Program) (n:Nat) (ops:Array Oper) (W ds:List Nat) (its:List It) (e0:Env) (w0:World):Nat->List Oper->List (List Nat)->Prop
 |_,[],_=>True
 |_,_::_,[]=>True
 |k,o::l,d::r=>Gb P n ops W ds its e0 w0 k o d∧qY P n ops W ds its e0 w0 (k+1) l r
theorem vc {P:Program} {ops:Array Oper} {ds:List Nat} {its:List It} {d:List Nat} (h:Gb P n ops W ds its e0 w0 k o d) (hr:qY P n ops W ds its e0 w0 (k+1) l r):qY P n ops W ds its e0 w0 k (o::l) (d::r):=⟨h,hr⟩
theorem SA {P:Program} {ops:Array Oper} {ds:List Nat} {its:List It}:∀(l:List Oper) (deps:List (List Nat)) (k:Nat),qY P n ops W ds its e0 w0 k l deps->BH (aj []) P n ops W ds (its.map It.F) e0 w0 k l deps
 |[],_,_,_=>trivial
 |_::_,[],_,_=>trivial
 |o::l,d::r,k,h=>by
  refine⟨λx vs w e hk hd he=>?_,SA l r (k+1) h.2⟩
  have:=IZ (h.1 x w hk) (vs:=vs) (Sz hd)
  subst he
  have e2:py (its.map It.F) k=(its.getD k (.p λ_ _=>True)).F:=by
   unfold py
   rw[gG,gG,List.getElem?_map]
   cases its[k]?<;>rfl
  rw[e2]
  exact this
def Gc:List It->Prop
 |[]=>True
 | .v _::r=>Gc r
 | .p f::r=>(∀v w w',f v w->aj [] w w'->f v w')∧Gc r
theorem Mv:∀{its:List It},Gc its->tx (aj []) (its.map It.F)
 |[],_=>trivial
 | .v _::r,h=>⟨λv w w' e _=>e,Mv (its:=r) h⟩
 | .p f::r,h=>⟨h.1,Mv (its:=r) h.2⟩
theorem SB:∀{its:List It},its.all It.Ga=true->Gc its
 |[],_=>trivial
 | .v _::r,h=>SB (its:=r) (by simpa[It.Ga] using h)
 | .p f::r,h=>by simp[It.Ga] at h
section
variable {P:Program} {n:Nat} {l:List Oper} {m:Nat} {W ds:List Nat} {deps:List (List Nat)}
theorem uZ {N R:Env->World->Prop} {X:Nat->Env->World->Prop} {id:Nat} {e0:Env} {w0:World} (hm:P.follows .mixedOrders=true) (m:Nat) (W ds:List Nat) (deps:List (List Nat)) (its:List It) 
  (hB:uI l m W ds deps=true) (hS:Gc its)
  (hc:∀wd,aj [] w0 wd->qY P n l.toArray W ds its e0 wd 0 (l.take m) deps)
  (ht:∀(x:Env) (w:World),aj [] w0 w->dq its ds w (List.range m) λacc=>OW P n l.toArray N (l.drop m) (bo (bj W x e0) acc) w):
  CW P n (.region id l.toArray true) N R X e0 w0:=
 zB hm lV m W ds deps (its.map It.F) hB (Mv hS) (λwd hk=>SA _ _ _ (hc wd hk)) λx vs w hk Ld=>
  IZ (ht x w hk) (vs:=vs) λj hj=>Ld j (List.mem_range.1 hj)
theorem k8 {N R:Env->World->Prop} {X:Nat->Env->World->Prop} {id:Nat} {e0:Env} {w0:World} (hm:P.follows .mixedOrders=true) (m:Nat) (W ds:List Nat) (deps:List (List Nat)) (its:List It) 
  (hB:uI l m W ds deps=true) (hS:its.all It.Ga=true)
  (hc:∀wd,aj [] w0 wd->qY P n l.toArray W ds its e0 wd 0 (l.take m) deps)
  (ht:∀(x:Env) (w:World),aj [] w0 w->dq its ds w (List.range m) λacc=>OW P n l.toArray N (l.drop m) (bo (bj W x e0) acc) w):
  CW P n (.region id l.toArray true) N R X e0 w0:=uZ hm m W ds deps its hB (SB hS) hc ht
end
section
variable {P:Program} {n:Nat} {ops:Array Oper} {e:Env} {w w':World}
theorem pv (h:v=V:=by rfl):OW P n ops (λe' w'=>aj [] w w'∧(It.v V).F (e' d) w'∧ek [d] e e') [] (bM e (some d) v) w:=
 aZ ⟨aj.refl _ _,by subst h;exact mX _ _ _,qN⟩
theorem pk (k:aj [] w w') (h:v=V:=by rfl):OW P n ops (λe' w'=>aj [] w w'∧(It.v V).F (e' d) w'∧ek [d] e e') [] (bM e (some d) v) w':=
 aZ ⟨k,by subst h;exact mX _ _ _,qN⟩
theorem pf {f:Value->World->Prop} (k:aj [] w w') (h:f v w'):OW P n ops (λe' w'=>aj [] w w'∧(It.p f).F (e' d) w'∧ek [d] e e') [] (bM e (some d) v) w':=
 aZ ⟨k,by show f (gU e d v d) w';rw[mX];exact h,qN⟩
end
section
variable {P:Program} {n:Nat} {N R:Env->World->Prop} {X:Nat->Env->World->Prop} {e0:Env} {w:World}
theorem D8 {c:Code} (ds:List Nat) (outs:List (Nat×Value)) (h:CW P n c (λe' w'=>ek ds e0 e'∧Holds outs e'∧aj [] w w') R X e0 w) 
  (k:∀x w',aj [] w w'->N (bo (bj ds x e0) outs) w'):CW P n c N R X e0 w:=
 h.mono (λe' w' ⟨ha,ho,hk⟩=>by have:=k e' w' hk;rw[xO ha,H6 ho] at this;exact this) (λ_ _ h=>h) (λ_ _ _ h=>h)
end
theorem kE {p q r:Prop} (k:r) (h:p:=by repeat(first|with_reducible exact xN|refine Ic rfl ?_|refine K4 rfl ?_)) (h2:q:=by repeat' (first|rfl|(rw[iD];rfl)|(rw[mx];rfl)|constructor)):p∧q∧r:=⟨h,h2,k⟩
section
variable {P:Program} {n:Nat} {l:List Oper} {m:Nat} {W ds:List Nat} {deps:List (List Nat)}
theorem SC {N:Env->World->Prop} {Inv:(Nat->Bool)->Env->World->Prop} (hB:uI l m W ds deps=true) 
  (step:∀(S:Nat->Bool) (e:Env) (w:World) (i:Nat) (o:Oper),i<m->l[i]?=some o->S i=false->(∀j,waits o j=true->S j=true)->Inv S e w->
   OW P n l.toArray (λe' w'=>Inv (λj=>if j=i then true else S j) e' w') [o] e w)
  (tail:∀(S:Nat->Bool) (e:Env) (w:World),(∀i,i<m->S i=true)->Inv S e w->OW P n l.toArray N (l.drop m) e w) (Q:Exit->Act->World->Prop):
  ∀(fuel:Nat) (listed:Array Bool) (e:Env) (a:Act) (w:World),Fits n e a->listed.size=l.length->
   ((List.range l.length).filter λj=>!listed.getD j true).length=fuel->
   (∀j,m<=j->j<l.length->listed.getD j true=false)->Inv (λj=>listed.getD j false) e w->Ih l listed->
   wpAny P .any l.toArray (pw n N Q) fuel listed a w:=by
 obtain⟨tE,Fz,Lb,iS,mZ⟩:=DI hB
 have zt:∀(listed:Array Bool) (j:Nat),listed.size=l.length->j<l.length->¬listed.getD j true=false->listed.getD j false=true:=λlisted j hs hj h1=>by
  rw[Array.getD_eq_getD_getElem?] at h1⊢
  rw[Array.getElem?_eq_getElem om] at h1⊢
  simpa using h1
 have FB:∀(listed:Array Bool) (j:Nat),listed.size=l.length->j<l.length->listed.getD j false=true->listed.getD j true=true:=λlisted j hs hj h1=>by
  rw[Array.getD_eq_getD_getElem?] at h1⊢
  rw[Array.getElem?_eq_getElem om] at h1⊢
  simpa using h1
 intro fuel
 induction fuel with
 |zero=>
  intro listed e a w hf hs BK fF hI lW
  have cL:∀j,j<l.length->listed.getD j true=true:=λj hj=>by
   cases hg:listed.getD j true with
   |true=>rfl
   |false=>
    have:j∈(List.range l.length).filter λj=>!listed.getD j true:=by rw[List.mem_filter,List.mem_range];exact⟨hj,by rw[hg];rfl⟩
    rw[List.length_eq_zero_iff.1 BK] at this;cases this
  have hm:m=l.length:=by
   rcases Nat.lt_or_ge m l.length with h|h
   ·have:=fF m (lR _) h;rw[cL m h] at this;cases this
   ·omega
  have ht:=tail _ e w (λi hi=>zt listed i hs om (by rw[cL i om];simp)) hI
  have h2:=ht a hf Q
  exact Ii hB 0 m listed a w (lR _) om hs (λj hj=>⟨λh=>(by rw[cL j hj] at h;cases h),λh=>om⟩) h2
 |succ fuel ih=>
  intro listed e a w hf hs BK fF hI lW
  by_cases uJ:∀j,j<m->listed.getD j true=true
  ·have ht:=tail _ e w (λi hi=>zt listed i hs om (by rw[uJ i hi];simp)) hI
   have h2:=ht a hf Q
   have zv:∀j,j<l.length->(listed.getD j true=false↔m<=j):=λj hj=>by
    constructor
    ·intro h
     rcases Nat.lt_or_ge j m with h'|h'
     ·rw[uJ j h'] at h;cases h
     ·exact h'
    ·intro h;exact fF j h hj
   have zw:m+(fuel+1)=l.length:=by
    rw[<-BK]
    have:∀k,k<=l.length->m<=k->((List.range k).filter λj=>!listed.getD j true).length=k-m:=by
     intro k
     induction k with
     |zero=>intro _ h;simp
     |succ k ihk=>
      intro fb wb
      rw[List.range_succ,List.filter_append,lA]
      rcases Nat.lt_or_ge k m with h'|h'
      ·have Qk:k+1=m:=by omega
       have hz:((List.range k).filter λj=>!listed.getD j true)=[]:=by
        rw[List.filter_eq_nil_iff]
        intro j hj
        rw[List.mem_range] at hj
        rw[uJ j om];simp
       have e1:(!listed.getD k true)=false:=by rw[uJ k h'];rfl
       simp only[hz,List.filter_cons,e1,List.filter_nil,List.length_nil]
       simp;omega
      ·rw[ihk om h']
       have e1:(!listed.getD k true)=true:=by rw[(zv k om).2 h'];rfl
       simp only[List.filter_cons,e1,List.filter_nil,if_true,lC,List.length_nil]
       omega
    have:=this l.length (lR _) tE
    omega
   exact Ii hB (fuel+1) m listed a w (lR _) zw hs zv h2
  ·have hex:∃j,j<m∧listed.getD j true=false∧∀i,i<j->listed.getD i true=true:=by
    have:∀k,(∃j,j<k∧listed.getD j true=false∧∀i,i<j->listed.getD i true=true)∨∀j,j<k->listed.getD j true=true:=by
     intro k
     induction k with
     |zero=>right;intro j hj;omega
     |succ k ihk=>
      rcases ihk with⟨j,hj,h1,h2⟩|h
      ·exact .inl ⟨j,om,h1,h2⟩
      ·cases hg:listed.getD k true with
       |false=>exact .inl ⟨k,om,hg,h⟩
       |true=>
        right
        intro j hj
        rcases Nat.lt_or_ge j k with h'|h'
        ·exact h j h'
        ·rw[show j=k from by omega];exact hg
    rcases this m with h|h
    ·exact h
    ·exact absurd h uJ
   obtain⟨j0,BL,FC,FD⟩:=hex
   obtain⟨o0,FE⟩:∃o,l[j0]?=some o:=⟨l[j0]'om,gE om⟩
   have nh:j0∈Region.ready .any l.toArray listed:=mem_ready.2 ⟨FC,o0,by simpa using FE,λed he hb=>by
    have dU:=(mZ j0 o0 FE).1 ed he hb
    exact zt listed _ hs om (by rw[FD _ dU];simp)⟩
   refine⟨λhr=>(by rw[hr] at nh;cases nh),λi hi=>?_⟩
   obtain⟨hu,o,ho,cL⟩:=mem_ready.1 hi
   have mj:i<l.length:=by simpa using(Array.getElem?_eq_some_iff.1 ho).1
   have mn:l[i]?=some o:=by simpa using ho
   have qO:i<m:=by
    rcases Nat.lt_or_ge i m with h|h
    ·exact h
    ·have:=FB listed j0 hs om (K9 lW mn cL ((mZ i o mn).2.2 h) (i-j0) j0 om om)
     rw[FC] at this;cases this
   have tQ:listed.getD i false=false:=by
    cases h:listed.getD i false with
    |false=>rfl
    |true=>rw[FB listed i hs mj h] at hu;cases hu
   have h1:=step (λj=>listed.getD j false) e w i o qO mn tQ (λj hj=>by
    obtain⟨ed,he,hb,uK⟩:=K8 hj
    rw[<-uK];exact cL ed he hb) hI
   have h2:=h1 a hf Q
   have next:∀(a':Act) (w':World),pw n (λe' w'=>Inv (λj=>if j=i then true else listed.getD j false) e' w') Q .normal a' w'->
     wpAny P .any l.toArray (pw n N Q) fuel (listed.setIfInBounds i true) a' w':=λa' w' hq=>by
    obtain⟨e',Lc,hI'⟩:=hq
    refine ih _ e' a' w' Lc (by simpa using hs) ?_ ?_ ?_ ?_
    ·have zw:∀k,k<=l.length->((List.range k).filter λj=>!(listed.setIfInBounds i true).getD j true).length+(if i<k then 1 else 0)=((List.range k).filter λj=>!listed.getD j true).length:=by
      intro k
      induction k with
      |zero=>simp
      |succ k ihk=>
       intro fb
       have uL:=ihk om
       rw[List.range_succ,List.filter_append,lA,List.filter_append,lA]
       by_cases uM:i=k
       ·subst uM
        rw[iN om] at uL
        have dU:i<listed.size:=by omega
        have e1:(listed.setIfInBounds i true).getD i true=true:=by simp[Array.getD_eq_getD_getElem?,dU]
        rw[iP om]
        simp only[List.filter_cons,e1,hu,List.filter_nil,Bool.not_true,Bool.not_false,if_true,Bool.false_eq_true,if_false,lC,List.length_nil]
        omega
       ·have e1:(listed.setIfInBounds i true).getD k true=listed.getD k true:=getD_set_ne true uM
        simp only[List.filter_cons,e1,List.filter_nil]
        have YP:(i<k+1)↔(i<k):=by omega
        by_cases px:i<k
        ·have c1:i<k+1:=by omega
         rw[iP px] at uL;rw[iP c1];split<;>simp only[lC,List.length_nil]<;>omega
        ·have c1:¬i<k+1:=by omega
         rw[iN px] at uL;rw[iN c1];split<;>simp only[lC,List.length_nil]<;>omega
     have:=zw l.length (lR _)
     rw[iP mj] at this
     omega
    ·intro j Le oz
     rw[getD_set_ne true om];exact fF j Le oz
    ·have e1:(λj=>(listed.setIfInBounds i true).getD j false)=λj=>if j=i then true else listed.getD j false:=by
      funext j
      by_cases lX:i=j
      ·subst lX
       have:i<listed.size:=by omega
       simp[Array.getD_eq_getD_getElem?,this]
      ·rw[getD_set_ne false lX,iN (λh=>lX h.symm)]
     rw[e1];exact hI'
    ·intro j oj BN hj e2 mo aU
     have we:∀x,listed.getD x false=true->(listed.setIfInBounds i true).getD x false=true:=λx hx=>by
      by_cases FG:i=x
      ·subst FG
       have:i<listed.size:=by omega
       simp[Array.getD_eq_getD_getElem?,this]
      ·rw[getD_set_ne false FG];exact hx
     by_cases lX:i=j
     ·subst lX
      rw[mn] at BN;cases BN
      exact we _ (cL e2 mo aU)
     ·rw[getD_set_ne false lX] at hj
      exact we _ (lW j oj BN hj e2 mo aU)
   unfold wpOp
   simp only[ho]
   unfold wpList at h2
   by_cases hw:Region.wanted o (yielded l.toArray a.tmps)=true
   ·rw[iP hw] at h2⊢
    rcases h2 with h2|⟨h2,h3⟩
    ·refine .inl (Oper.K5 (λa' w' h'=>next a' w' h') (λ_ _ _ h=>h) (fun⟨a,w,hq⟩=>⟨a,w,hq⟩) h2)
    ·exact .inr ⟨h2,by obtain⟨a',w',hq⟩:=h3;exact⟨a',w',hq⟩⟩
   ·rw[iN hw] at h2⊢
    exact next _ _ h2
inductive Ie where
 |v (V:Value)
 |p (f:List Nat->Value->World->Prop)
 |e (t:Nat)
 |w (t:Nat) (V:Value)
 |q (t:Nat) (f:Value->Prop)
def Ie.F:Ie->List Nat->Value->World->Prop
 | .v V=>λ_ v _=>v=V
 | .p f=>f
 | .e _=>λ_ _ _=>True
 | .w _ V=>λ_ v _=>v=V
 | .q _ f=>λ_ v _=>f v
def Ie.j7:Ie->Option Nat
 | .e t=>some t
 | .w t _=>some t
 | .q t _=>some t
 |_=>none
abbrev l0:Ie:=.p λ_ _ _=>True
def wK (its:List Ie) (ds:List Nat) (G:List Nat) (aS:List Value) (w:World):List Nat->(List (Nat×Value)->Prop)->Prop
 |[],k=>k []
 |j::r,k=>match its.getD j l0 with
  | .v V=>wK its ds G aS w r λacc=>k ((ds.getD j 0,V)::acc)
  | .p f=>∀v,f G v w->wK its ds G aS w r λacc=>k ((ds.getD j 0,v)::acc)
  | .e t=>wK its ds G aS w r λacc=>k ((ds.getD j 0,aS.getD t undef)::acc)
  | .w _ V=>wK its ds G aS w r λacc=>k ((ds.getD j 0,V)::acc)
  | .q t f=>∀v,aS.getD t undef=v->f v->wK its ds G aS w r λacc=>k ((ds.getD j 0,v)::acc)
theorem Ah {its:List Ie} {ds:List Nat} {aS:List Value} {vs:Nat->Value}:∀{deps:List Nat} {k:List (Nat×Value)->Prop},wK its ds G aS w deps k->
  (∀j,j∈deps->(its.getD j l0).F G (vs j) w∧∀t,(its.getD j l0).j7=some t->aS.getD t undef=vs j)->k (tw ds vs deps)
 |[],k,h,_=>h
 |j::r,k,h,hd=>by
  obtain⟨hp,he⟩:=hd j (List.mem_cons_self ..)
  unfold wK at h
  have hr:∀i,i∈r->_:=λi hi=>hd i (mK _ hi)
  cases e:its.getD j l0 with
  |v V=>
   rw[e] at h hp
   have hv:vs j=V:=hp
   subst hv
   exact Ah (deps:=r) h hr
  |p f=>
   rw[e] at h hp
   exact Ah (deps:=r) (h _ hp) hr
  |e t=>
   rw[e] at h
   have hv:=he t (by rw[e];rfl)
   simp only[hv] at h
   exact Ah (deps:=r) h hr
  |w t V=>
   rw[e] at h hp
   have hv:vs j=V:=hp
   subst hv
   exact Ah (deps:=r) h hr
  |q t f=>
   rw[e] at h hp
   exact Ah (deps:=r) (h _ (he t (by rw[e];rfl)) hp) hr
def eO (G:List Nat) (w:World):Prop:=∀x,x∈G->x<w.heap.size
def I0 (P:Program) (n:Nat) (ops:Array Oper) (W ds:List Nat) (its:List Ie) (e0:Env) (G0:List Nat) (w0:World) (i:Nat) (o:Oper) (deps:List Nat):Prop:=
 ∀(x:Env) (w:World) (G:List Nat) (aS:List Value),Fr G0 w0 G w->eO G w->wK its ds G aS w deps λacc=>
  OW P n ops (λe' w'=>aj [] w w'∧(its.getD i l0).F G (e' (ds.getD i 0)) w'∧ek [ds.getD i 0] (bo (bj W x e0) acc) e') [o] (bo (bj W x e0) acc) w
def SD (P:Program) (n:Nat) (ops:Array Oper) (W ds:List Nat) (its:List Ie) (Js:List (List Nat->List Value->World->Prop)) (e0:Env) (G0:List Nat) (w0:World) (t i:Nat) (o:Oper) (deps:List Nat):Prop:=
 ∀(x:Env) (w:World) (G:List Nat) (aS:List Value),Fr G0 w0 G w->eO G w->Js.getD t (λ_ _ _=>True) G aS w->aS.length=t->wK its ds G aS w deps λacc=>
  OW P n ops (λe' w'=>(∃G',Fr G w G' w'∧eO G' w'∧Js.getD (t+1) (λ_ _ _=>True) G' (aS++[e' (ds.getD i 0)]) w'∧(its.getD i l0).F G' (e' (ds.getD i 0)) w')∧ek [ds.getD i 0] (bo (bj W x e0) acc) e') [o] (bo (bj W x e0) acc) w
def D9 (P:Program) (n:Nat) (ops:Array Oper) (W ds:List Nat) (its:List Ie) (Js:List (List Nat->List Value->World->Prop)) (e0:Env) (G0:List Nat) (w0:World) (i:Nat) (o:Oper) (deps:List Nat):Prop:=
 match(its.getD i l0).j7 with
 |some t=>SD P n ops W ds its Js e0 G0 w0 t i o deps
 |none=>I0 P n ops W ds its e0 G0 w0 i o deps
def va (P:Program) (n:Nat) (ops:Array Oper) (W ds:List Nat) (its:List Ie) (Js:List (List Nat->List Value->World->Prop)) (e0:Env) (G0:List Nat) (w0:World):Nat->List Oper->List (List Nat)->Prop
 |_,[],_=>True
 |_,_::_,[]=>True
 |k,o::l,d::r=>D9 P n ops W ds its Js e0 G0 w0 k o d∧va P n ops W ds its Js e0 G0 w0 (k+1) l r
section
variable {P:Program} {n:Nat} {ops:Array Oper} {W ds:List Nat} {its:List Ie} {Js:List (List Nat->List Value->World->Prop)} {e0:Env} {G0:List Nat} {w0:World}
theorem vf {l:List Oper} {d:List Nat} (h:I0 P n ops W ds its e0 G0 w0 k o d) (hr:va P n ops W ds its Js e0 G0 w0 (k+1) l r) (hk:(its.getD k l0).j7=none:=by rfl):va P n ops W ds its Js e0 G0 w0 k (o::l) (d::r):=
 ⟨by unfold D9;rw[hk];exact h,hr⟩
theorem ve (t:Nat) {l:List Oper} {d:List Nat} (h:SD P n ops W ds its Js e0 G0 w0 t k o d) (hr:va P n ops W ds its Js e0 G0 w0 (k+1) l r) (hk:(its.getD k l0).j7=some t:=by rfl):va P n ops W ds its Js e0 G0 w0 k (o::l) (d::r):=
 ⟨by unfold D9;rw[hk];exact h,hr⟩
theorem SE:∀(l:List Oper) (deps:List (List Nat)) (k:Nat),va P n ops W ds its Js e0 G0 w0 k l deps->∀(i:Nat) (o:Oper) (d:List Nat),l[i]?=some o->deps[i]?=some d->D9 P n ops W ds its Js e0 G0 w0 (k+i) o d
 |[],_,_,_,i,o,d,h,_=>by simp at h
 |_::_,[],_,_,i,o,d,_,h=>by simp at h
 |o::l,d::r,k,h,0,o',d',ho,hd=>by
  simp at ho hd;subst ho;subst hd;exact h.1
 |o::l,d::r,k,h,i+1,o',d',ho,hd=>by
  have:=SE l r (k+1) h.2 i o' d' (by simpa using ho) (by simpa using hd)
  rwa [show k+1+i=k+(i+1) by omega] at this
end
def Mw (l:List Oper) (m:Nat) (effs:List Nat) (its:List Ie):Bool:=
 (List.range effs.length).all (λt=>decide (effs.getD t 0<m)&&((its.getD (effs.getD t 0) l0).j7==some t)&&(decide (t=0)||(match l[effs.getD t 0]? with|some o=>waits o (effs.getD (t-1) 0)|none=>false)))&&
 (List.range m).all (λi=>match(its.getD i l0).j7 with|some t=>decide (t<effs.length)&&decide (effs.getD t 0=i)|none=>true)
theorem aeb {l:List Oper} {m:Nat} {effs:List Nat} {its:List Ie} (h:Mw l m effs its=true):
  (∀t,t<effs.length->effs.getD t 0<m∧(its.getD (effs.getD t 0) l0).j7=some t∧(t≠0->∃o,l[effs.getD t 0]?=some o∧waits o (effs.getD (t-1) 0)=true))∧
  ∀i t,i<m->(its.getD i l0).j7=some t->t<effs.length∧effs.getD t 0=i:=by
 unfold Mw at h
 rw[aE,List.all_eq_true,List.all_eq_true] at h
 obtain⟨h1,h2⟩:=h
 refine⟨λt ht=>?_,λi t hi he=>?_⟩
 ·have:=h1 t (List.mem_range.2 ht)
  simp only[aE,dE,beq_iff_eq,oE] at this
  obtain⟨⟨a,b⟩,c⟩:=this
  refine⟨a,b,λh0=>?_⟩
  rcases c with c|c
  ·exact absurd c h0
  ·cases hl:l[effs.getD t 0]? with
   |none=>rw[hl] at c;cases c
   |some o=>rw[hl] at c;exact⟨o,rfl,c⟩
 ·have:=h2 i (List.mem_range.2 hi)
  rw[he] at this
  simpa using this
def Ai:List Ie->Prop
 |[]=>True
 | .p f::r=>(∀G v w G' w',f G v w->Fr G w G' w'->f G' v w')∧Ai r
 | .v _::r=>Ai r
 | .e _::r=>Ai r
 | .w _ _::r=>Ai r
 | .q _ _::r=>Ai r
theorem Ea:∀{its:List Ie},Ai its->∀q,q∈its->∀G v w G' w',q.F G v w->Fr G w G' w'->q.F G' v w'
 | .p f::r,h,q,hq,G,v,w,G',w',hf,hk=>by
  rcases mC.1 hq with e|hq
  ·subst e;exact h.1 _ _ _ _ _ hf hk
  ·exact Ea (its:=r) h.2 q hq _ _ _ _ _ hf hk
 | .v V::r,h,q,hq,G,v,w,G',w',hf,hk=>by
  rcases mC.1 hq with e|hq
  ·subst e;exact hf
  ·exact Ea (its:=r) h q hq _ _ _ _ _ hf hk
 | .e V::r,h,q,hq,G,v,w,G',w',hf,hk=>by
  rcases mC.1 hq with e|hq
  ·subst e;exact hf
  ·exact Ea (its:=r) h q hq _ _ _ _ _ hf hk
 | .w t V::r,h,q,hq,G,v,w,G',w',hf,hk=>by
  rcases mC.1 hq with e|hq
  ·subst e;exact hf
  ·exact Ea (its:=r) h q hq _ _ _ _ _ hf hk
 | .q t f::r,h,q,hq,G,v,w,G',w',hf,hk=>by
  rcases mC.1 hq with e|hq
  ·subst e;exact hf
  ·exact Ea (its:=r) h q hq _ _ _ _ _ hf hk
theorem SF {its:List Ie} (h:Ai its) (i:Nat) {G':List Nat} (hf:(its.getD i l0).F G v w) (hk:Fr G w G' w'):(its.getD i l0).F G' v w':=by
 rw[gG] at hf⊢
 cases e:its[i]? with
 |none=>trivial
 |some q=>rw[e] at hf;exact Ea h q (List.mem_of_getElem? e) _ _ _ _ _ hf hk
def I1:List (List Nat->List Value->World->Prop)->Prop
 |[]=>True
 |J::r=>(∀G vs w w',J G vs w->aj [] w w'->J G vs w')∧I1 r
theorem Gd:∀{Js:List (List Nat->List Value->World->Prop)},I1 Js->∀(k:Nat) {G:List Nat} {vs:List Value} {w w':World},Js.getD k (λ_ _ _=>True) G vs w->aj [] w w'->Js.getD k (λ_ _ _=>True) G vs w'
 |[],_,k,_,_,_,_,_,_=>by simp
 |J::r,h,0,_,_,_,_,hj,hk=>h.1 _ _ _ _ hj hk
 |J::r,h,k+1,_,_,_,_,hj,hk=>by
  have:=Gd (Js:=r) h.2 k (by simpa using hj) hk
  simpa using this
theorem jh {α:Type} {l:List α} (h:l.length=0):l=[]:=by grind
theorem ji {α:Type} {l:List α} (h:l.length=1):∃a,l=[a]:=List.length_eq_one_iff.1 h
theorem k9 {α:Type} {l:List α} (h:l.length=2):∃a b,l=[a,b]:=by
 match l,h with|[a,b],_=>exact⟨a,b,rfl⟩
theorem Aj {α:Type} {l:List α} (h:l.length=3):∃a b c,l=[a,b,c]:=by
 match l,h with|[a,b,c],_=>exact⟨a,b,c,rfl⟩
theorem Mx {α:Type} {l:List α} (h:l.length=4):∃a b c d,l=[a,b,c,d]:=by
 match l,h with|[a,b,c,d],_=>exact⟨a,b,c,d,rfl⟩
theorem SG {α:Type} {l:List α} (h:l.length=5):∃a b c d e,l=[a,b,c,d,e]:=by
 match l,h with|[a,b,c,d,e],_=>exact⟨a,b,c,d,e,rfl⟩
theorem aec {α:Type} {l:List α} (h:l.length=6):∃a b c d e f,l=[a,b,c,d,e,f]:=by
 match l,h with|[a,b,c,d,e,f],_=>exact⟨a,b,c,d,e,f,rfl⟩
theorem Ak {W ds:List Nat} {e:Env} (ha:ek W e0 e) (r:List Nat):bo (bj W e e0) (tw ds (λi=>e (ds.getD i 0)) r)=e:=by
 rw[xO ha,Fy (by
  intro p hp
  have:∀(r:List Nat),p∈tw ds (λi=>e (ds.getD i 0)) r->e p.1=p.2:=by
   intro r
   induction r with
   |nil=>intro h;cases h
   |cons j r ih=>
    intro h
    rcases mC.1 h with h|h
    ·subst h;rfl
    ·exact ih h
  exact this _ hp)]
theorem jF {N R:Env->World->Prop} {X:Nat->Env->World->Prop} {id:Nat} {e0:Env} {w0:World} (hm:P.follows .mixedOrders=true) (G0:List Nat) (m:Nat) (W ds:List Nat) (deps:List (List Nat)) (its:List Ie) (effs:List Nat) (Js:List (List Nat->List Value->World->Prop)) 
  (hB:uI l m W ds deps=true) (hE:Mw l m effs its=true) (hL:eO G0 w0) (hF:Ai its) (hJ:I1 Js) (h0:Js.getD 0 (λ_ _ _=>True) G0 [] w0)
  (hc:va P n l.toArray W ds its Js e0 G0 w0 0 (l.take m) deps)
  (ht:∀(x:Env) (w:World) (G:List Nat) (aS:List Value),Fr G0 w0 G w->eO G w->Js.getD effs.length (λ_ _ _=>True) G aS w->aS.length=effs.length->wK its ds G aS w (List.range m) λacc=>OW P n l.toArray N (l.drop m) (bo (bj W x e0) acc) w):
  CW P n (.region id l.toArray true) N R X e0 w0:=λa ha=>by
 refine wp_region_any hm ?_
 have fT:aj [] w0 {w0 with drawn:=w0.drawn+1}:=aj.drew _ _
 obtain⟨tE,Fz,Lb,iS,mZ⟩:=DI hB
 obtain⟨oW,mo⟩:=aeb hE
 have dL:∀i j,i<m->j<m->i≠j->ds.getD j 0≠ds.getD i 0:=λi j hi hj lX=>by
  rw[gG,gG,gE om,gE om]
  simp only[Option.getD_some]
  intro he
  exact lX ((List.getElem_inj iS).1 he.symm)
 let Inv:(Nat->Bool)->Env->World->Prop:=λS e w=>∃G k,ek W e0 e∧Fr G0 w0 G w∧eO G w∧k<=effs.length∧(∀t,t<effs.length->(S (effs.getD t 0)=true↔t<k))∧
  Js.getD k (λ_ _ _=>True) G ((effs.take k).map λi=>e (ds.getD i 0)) w∧∀i,i<m->S i=true->(its.getD i l0).F G (e (ds.getD i 0)) w
 have Ge:∀(S:Nat->Bool) (e:Env) (k:Nat),(∀t,t<effs.length->(S (effs.getD t 0)=true↔t<k))->k<=effs.length->∀j t,j<m->S j=true->(its.getD j l0).j7=some t->((effs.take k).map λi=>e (ds.getD i 0)).getD t undef=e (ds.getD j 0):=by
  intro S e k hS hk j t hj ly he
  obtain⟨h1,h2⟩:=mo j t hj he
  have h3:t<k:=(hS t h1).1 (by rw[h2];exact ly)
  rw[gG,List.getElem?_map,List.getElem?_take,iP h3,gE h1]
  rw[gG,gE h1] at h2
  simp only[Option.getD_some] at h2
  simp[h2]
 have step:∀(S:Nat->Bool) (e:Env) (w:World) (i:Nat) (o:Oper),i<m->l[i]?=some o->S i=false->(∀j,waits o j=true->S j=true)->Inv S e w->
   OW P n l.toArray (λe' w'=>Inv (λj=>if j=i then true else S j) e' w') [o] e w:=by
  rintro S e w i o qO ho tQ Al ⟨G,k,p9,bC,pJ,fb,hS,vg,oN⟩
  obtain⟨hW,zy⟩:=(mZ i o ho).2.1 qO
  obtain⟨dp,zz⟩:∃d,deps[i]?=some d:=⟨deps[i]'om,gE om⟩
  have FF:deps.getD i []=dp:=by rw[gG,zz];rfl
  rw[FF] at zy
  have iI:=SE (l.take m) deps 0 hc i o dp (by rw[List.getElem?_take,iP qO];exact ho) zz
  rw[Nat.zero_add] at iI
  have hd:∀j,j∈dp->(its.getD j l0).F G (e (ds.getD j 0)) w∧∀t,(its.getD j l0).j7=some t->((effs.take k).map λi=>e (ds.getD i 0)).getD t undef=e (ds.getD j 0):=λj hj=>by
   obtain⟨h1,h2⟩:=zy j hj
   exact⟨oN j h2 (Al j h1),λt het=>Ge S e k hS fb j t h2 (Al j h1) het⟩
  have Gf:∀e',ek [ds.getD i 0] e e'->ek W e0 e':=λe' h t B6=>by
   have Eb:t≠ds.getD i 0:=λhe=>by rw[he,hW] at B6;cases B6
   rw[h t (by simpa using Eb)];exact p9 t B6
  have Am:∀e',ek [ds.getD i 0] e e'->∀j,j<m->j≠i->e' (ds.getD j 0)=e (ds.getD j 0):=λe' h j hj iM=>h _ (by simpa using dL i j qO hj (λh=>iM h.symm))
  have fl:[o]=[o]++[]:=rfl
  cases sE:(its.getD i l0).j7 with
  |none=>
   unfold D9 at iI
   rw[sE] at iI
   have h1:=Ah (iI e w G _ bC pJ) (vs:=λj=>e (ds.getD j 0)) hd
   rw[Ak p9] at h1
   rw[fl]
   refine vZ h1 ?_
   rintro e' w' ⟨pz,xZ,lz⟩
   refine aZ ⟨G,k,Gf e' lz,bC.ext pz,λx hx=>lL (pJ x hx) pz.size,fb,λt fF=>?_,?_,λj hj ly=>?_⟩
   ·have sF:effs.getD t 0≠i:=λh=>by have:=(oW t fF).2.1;rw[h,sE] at this;cases this
    simp only[iN sF]
    exact hS t fF
   ·have e1:((effs.take k).map λi=>e' (ds.getD i 0))=(effs.take k).map λi=>e (ds.getD i 0):=by
     apply List.map_congr_left
     intro j hj
     obtain⟨t,nA⟩:=List.mem_iff_getElem?.1 hj
     rw[List.getElem?_take] at nA
     split at nA
     ·have fF:t<effs.length:=(List.getElem?_eq_some_iff.1 nA).1
      have uK:effs.getD t 0=j:=by rw[gG,nA];rfl
      have h3:=oW t fF
      rw[uK] at h3
      exact Am e' lz j h3.1 (λh=>by rw[h,sE] at h3;cases h3.2.1)
     ·cases nA
    rw[e1];exact Gd hJ k vg pz
   ·by_cases iM:j=i
    ·rw[iM];exact xZ
    ·simp only[iN iM] at ly
     rw[Am e' lz j hj iM]
     exact SF hF j (oN j hj ly) (Fr.of pz sm)
  |some t=>
   unfold D9 at iI
   rw[sE] at iI
   obtain⟨fF,sF⟩:=mo i t qO sE
   have qo:k=t:=by
    have h1:¬t<k:=λh=>by have:=(hS t fF).2 h;rw[sF,tQ] at this;cases this
    rcases Nat.eq_zero_or_pos t with h0|h0
    ·omega
    ·obtain⟨o',mn,Gg⟩:=(oW t fF).2.2 om
     rw[sF,ho] at mn
     cases mn
     have:=(hS (t-1) om).1 (Al _ Gg)
     omega
   subst qo
   have hlen:((effs.take k).map λi=>e (ds.getD i 0)).length=k:=by simp;omega
   have h1:=Ah (iI e w G _ bC pJ vg hlen) (vs:=λj=>e (ds.getD j 0)) hd
   rw[Ak p9] at h1
   rw[fl]
   refine vZ h1 ?_
   rintro e' w' ⟨⟨G',wL,B7,Ec,xZ⟩,lz⟩
   have Gh:∀t',t'<effs.length->effs.getD t' 0=i->t'=k:=λt' h1 h2=>by
    have:=(oW t' h1).2.1
    rw[h2,sE] at this
    cases this;rfl
   refine aZ ⟨G',k+1,Gf e' lz,bC.go wL,B7,om,λt' An=>?_,?_,λj hj ly=>?_⟩
   ·by_cases h2:effs.getD t' 0=i
    ·have:=Gh t' An h2
     simp only[iP h2]
     exact⟨λ_=>om,λ_=>trivial⟩
    ·simp only[iN h2]
     rw[hS t' An]
     have:t'≠k:=λh=>by rw[h] at h2;exact h2 sF
     omega
   ·have e1:((effs.take (k+1)).map λi=>e' (ds.getD i 0))=((effs.take k).map λi=>e (ds.getD i 0))++[e' (ds.getD i 0)]:=by
     have h2:effs[k]?=some i:=by
      rw[gG,gE fF] at sF
      rw[gE fF]
      simpa using sF
     rw[List.take_add_one,h2,List.map_append]
     congr 1
     apply List.map_congr_left
     intro j hj
     obtain⟨t',nA⟩:=List.mem_iff_getElem?.1 hj
     rw[List.getElem?_take] at nA
     split at nA
     ·rename_i dU
      have An:t'<effs.length:=(List.getElem?_eq_some_iff.1 nA).1
      have uK:effs.getD t' 0=j:=by rw[gG,nA];rfl
      exact Am e' lz j (by have:=(oW t' An).1;rw[uK] at this;exact this) (λh=>by have:=Gh t' An (uK.trans h);omega)
     ·cases nA
    rw[e1];exact Ec
   ·by_cases iM:j=i
    ·rw[iM];exact xZ
    ·simp only[iN iM] at ly
     rw[Am e' lz j hj iM]
     exact SF hF j (oN j hj ly) wL
 have tail:∀(S:Nat->Bool) (e:Env) (w:World),(∀i,i<m->S i=true)->Inv S e w->OW P n l.toArray N (l.drop m) e w:=by
  rintro S e w Ao ⟨G,k,p9,bC,pJ,fb,hS,vg,oN⟩
  have hk:k=effs.length:=by
   rcases Nat.lt_or_ge k effs.length with h|h
   ·have:=(hS k h).1 (Ao _ (oW k h).1);omega
   ·omega
  subst hk
  have h1:=Ah (ht e w G _ bC pJ vg sm) (vs:=λj=>e (ds.getD j 0)) (λj hj=>by
   have pA:=List.mem_range.1 hj
   exact⟨oN j pA (Ao j pA),λt het=>Ge S e _ hS fb j t pA (Ao j pA) het⟩)
  rw[Ak p9] at h1
  exact h1
 have gB:∀j,(Array.replicate l.length false).getD j false=false:=λj=>by
  rw[Array.getD_eq_getD_getElem?,Array.getElem?_replicate];split<;>rfl
 have My:Inv (λj=>(Array.replicate l.length false).getD j false) e0 {w0 with drawn:=w0.drawn+1}:=by
  refine⟨G0,0,xN,Fr.of fT sm,λx hx=>hL x hx,Nat.zero_le _,λt fF=>?_,Gd hJ 0 h0 fT,λi hi tQ=>?_⟩
  ·constructor
   ·intro h;exact absurd ((gB (effs.getD t 0)).symm.trans h) sm
   ·intro h;omega
  ·exact absurd ((gB i).symm.trans tQ) sm
 have:=SC (N:=N) (Inv:=Inv) hB step tail (kR n N R X) l.length (Array.replicate l.length false) e0 a _ ha sm
  (by
   have:((List.range l.length).filter λj=>!(Array.replicate l.length false).getD j true)=List.range l.length:=by
    rw[List.filter_eq_self]
    intro j hj
    rw[List.mem_range] at hj
    simp[Array.getD_eq_getD_getElem?,hj]
   rw[this];simp)
  (by intro j _ hj;simp[Array.getD_eq_getD_getElem?,hj])
  My
  (by
   intro j o ho hj
   have pA:j<l.length:=(List.getElem?_eq_some_iff.1 ho).1
   simp[Array.getD_eq_getD_getElem?,pA] at hj)
 have e1:pw n N (kR n N R X)=kR n N R X:=by
  funext x a w;cases x<;>rfl
 rw[e1] at this
 simpa using this
end
section
variable {P:Program} {n:Nat} {ops:Array Oper} {e:Env} {w w':World} {G:List Nat}
theorem fv (h:v=V:=by rfl):OW P n ops (λe' w'=>aj [] w w'∧(Ie.v V).F G (e' d) w'∧ek [d] e e') [] (bM e (some d) v) w:=
 aZ ⟨aj.refl _ _,by subst h;exact mX _ _ _,qN⟩
theorem fk (k:aj [] w w') (h:v=V:=by rfl):OW P n ops (λe' w'=>aj [] w w'∧(Ie.v V).F G (e' d) w'∧ek [d] e e') [] (bM e (some d) v) w':=
 aZ ⟨k,by subst h;exact mX _ _ _,qN⟩
theorem ff {f:List Nat->Value->World->Prop} (k:aj [] w w') (h:f G v w'):OW P n ops (λe' w'=>aj [] w w'∧(Ie.p f).F G (e' d) w'∧ek [d] e e') [] (bM e (some d) v) w':=
 aZ ⟨k,by show f G (gU e d v d) w';rw[mX];exact h,qN⟩
theorem fe {aS:List Value} (G':List Nat) (k:Fr G w G' w') (hl:eO G' w') (h:J G' (aS++[v]) w'):OW P n ops (λe' w'=>(∃G',Fr G w G' w'∧eO G' w'∧J G' (aS++[e' d]) w'∧(Ie.e t).F G' (e' d) w')∧ek [d] e e') [] (bM e (some d) v) w':=
 aZ ⟨⟨G',k,hl,by show J G' (aS++[gU e d v d]) w';rw[mX];exact h,trivial⟩,qN⟩
theorem fw {aS:List Value} (G':List Nat) (k:Fr G w G' w') (hl:eO G' w') (h:J G' (aS++[v]) w') (hv:v=V:=by rfl):OW P n ops (λe' w'=>(∃G',Fr G w G' w'∧eO G' w'∧J G' (aS++[e' d]) w'∧(Ie.w t V).F G' (e' d) w')∧ek [d] e e') [] (bM e (some d) v) w':=
 aZ ⟨⟨G',k,hl,by show J G' (aS++[gU e d v d]) w';rw[mX];exact h,by subst hv;exact mX _ _ _⟩,qN⟩
theorem fq {f:Value->Prop} {aS:List Value} (G':List Nat) (k:Fr G w G' w') (hl:eO G' w') (h:J G' (aS++[v]) w') (hv:f v):OW P n ops (λe' w'=>(∃G',Fr G w G' w'∧eO G' w'∧J G' (aS++[e' d]) w'∧(Ie.q t f).F G' (e' d) w')∧ek [d] e e') [] (bM e (some d) v) w':=
 aZ ⟨⟨G',k,hl,by show J G' (aS++[gU e d v d]) w';rw[mX];exact h,by show f (gU e d v d);rw[mX];exact hv⟩,qN⟩
end
inductive Iu where
 |v (V:Value)
 |p (f:List Nat->Value->World->Prop)
 |e (t:Nat)
 |w (t:Nat) (V:Value)
 |d (f:List Value->Value)
 |u
def Iu.F:Iu->List Nat->Value->World->Prop
 | .v V=>λ_ v _=>v=V
 | .p f=>f
 | .w _ V=>λ_ v _=>v=V
 |_=>λ_ _ _=>True
def Iu.j7:Iu->Option Nat
 | .e t=>some t
 | .w t _=>some t
 |_=>none
def Iu.rJ:Iu->Bool
 | .u=>true
 |_=>false
def Iu.late:Iu->Bool
 | .u=>true
 | .d _=>true
 |_=>false
abbrev fD:Iu:=.p λ_ _ _=>True
def sG (its:List Iu) (ds:List Nat) (G:List Nat) (aS:List Value) (w:World):List Nat->(List (Nat×Value)->Prop)->Prop
 |[],k=>k []
 |j::r,k=>match its.getD j fD with
  | .v V=>sG its ds G aS w r λacc=>k ((ds.getD j 0,V)::acc)
  | .p f=>∀v,f G v w->sG its ds G aS w r λacc=>k ((ds.getD j 0,v)::acc)
  | .e t=>sG its ds G aS w r λacc=>k ((ds.getD j 0,aS.getD t undef)::acc)
  | .w _ V=>sG its ds G aS w r λacc=>k ((ds.getD j 0,V)::acc)
  | .d f=>sG its ds G aS w r λacc=>k ((ds.getD j 0,f aS)::acc)
  | .u=>∀v,sG its ds G aS w r λacc=>k ((ds.getD j 0,v)::acc)
def SH (q:Iu) (G:List Nat) (aS:List Value) (v:Value) (w:World):Prop:=q.F G v w∧(∀t,q= .e t->aS.getD t undef=v)∧∀f,q= .d f->f aS=v
theorem vh {its:List Iu} {ds:List Nat} {aS:List Value} {vs:Nat->Value}:∀{deps:List Nat} {k:List (Nat×Value)->Prop},sG its ds G aS w deps k->
  (∀j,j∈deps->SH (its.getD j fD) G aS (vs j) w)->k (tw ds vs deps)
 |[],k,h,_=>h
 |j::r,k,h,hd=>by
  obtain⟨hp,he,hq⟩:=hd j (List.mem_cons_self ..)
  unfold sG at h
  have hr:∀i,i∈r->_:=λi hi=>hd i (mK _ hi)
  cases e:its.getD j fD with
  |v V=>
   rw[e] at h hp
   have hv:vs j=V:=hp
   subst hv
   exact vh (deps:=r) h hr
  |p f=>
   rw[e] at h hp
   exact vh (deps:=r) (h _ hp) hr
  |e t=>
   rw[e] at h
   have hv:=he t e
   simp only[hv] at h
   exact vh (deps:=r) h hr
  |w t V=>
   rw[e] at h hp
   have hv:vs j=V:=hp
   subst hv
   exact vh (deps:=r) h hr
  |d f=>
   rw[e] at h
   have hv:=hq f e
   simp only[hv] at h
   exact vh (deps:=r) h hr
  |u=>
   rw[e] at h
   exact vh (deps:=r) (h _) hr
section
variable (P:Program) (n:Nat) (ops:Array Oper) (W ds:List Nat) (its:List Iu) (Js:List (List Nat->List Value->World->Prop)) (JF:(Nat->Bool)->List Nat->List Value->World->Prop) (e0:Env) (G0:List Nat) (w0:World)
def I2 (i:Nat) (o:Oper) (deps:List Nat):Prop:=
 ∀(x:Env) (w:World) (G:List Nat) (aS:List Value),Fr G0 w0 G w->eO G w->sG its ds G aS w deps λacc=>
  OW P n ops (λe' w'=>aj [] w w'∧(its.getD i fD).F G (e' (ds.getD i 0)) w'∧ek [ds.getD i 0] (bo (bj W x e0) acc) e') [o] (bo (bj W x e0) acc) w
def Gi (t i:Nat) (o:Oper) (deps:List Nat):Prop:=
 ∀(x:Env) (w:World) (G:List Nat) (aS:List Value),Fr G0 w0 G w->eO G w->Js.getD t (λ_ _ _=>True) G aS w->aS.length=t->sG its ds G aS w deps λacc=>
  OW P n ops (λe' w'=>(∃G',Fr G w G' w'∧eO G' w'∧Js.getD (t+1) (λ_ _ _=>True) G' (aS++[e' (ds.getD i 0)]) w'∧(its.getD i fD).F G' (e' (ds.getD i 0)) w')∧ek [ds.getD i 0] (bo (bj W x e0) acc) e') [o] (bo (bj W x e0) acc) w
def Mz (ne:Nat) (f:List Value->Value) (i:Nat) (o:Oper) (deps:List Nat):Prop:=
 ∀(x:Env) (w:World) (G:List Nat) (aS:List Value) (S:Nat->Bool),Fr G0 w0 G w->eO G w->JF S G aS w->aS.length=ne->sG its ds G aS w deps λacc=>
  OW P n ops (λe' w'=>aj [] w w'∧e' (ds.getD i 0)=f aS∧ek [ds.getD i 0] (bo (bj W x e0) acc) e') [o] (bo (bj W x e0) acc) w
def MA (ne i:Nat) (o:Oper) (deps:List Nat):Prop:=
 ∀(x:Env) (w:World) (G:List Nat) (aS:List Value) (S:Nat->Bool),Fr G0 w0 G w->eO G w->JF S G aS w->S i=false->aS.length=ne->sG its ds G aS w deps λacc=>
  OW P n ops (λe' w'=>(∃G',Fr G w G' w'∧eO G' w'∧JF (λj=>if j=i then true else S j) G' aS w')∧ek [ds.getD i 0] (bo (bj W x e0) acc) e') [o] (bo (bj W x e0) acc) w
def uc (ne i:Nat) (o:Oper) (deps:List Nat):Prop:=match its.getD i fD with
 | .e t=>Gi P n ops W ds its Js e0 G0 w0 t i o deps
 | .w t _=>Gi P n ops W ds its Js e0 G0 w0 t i o deps
 | .d f=>Mz P n ops W ds its JF e0 G0 w0 ne f i o deps
 | .u=>MA P n ops W ds its JF e0 G0 w0 ne i o deps
 |_=>I2 P n ops W ds its e0 G0 w0 i o deps
def qZ (ne:Nat):Nat->List Oper->List (List Nat)->Prop
 |_,[],_=>True
 |_,_::_,[]=>True
 |k,o::l,d::r=>uc P n ops W ds its Js JF e0 G0 w0 ne k o d∧qZ ne (k+1) l r
end
section
variable {P:Program} {n:Nat} {ops:Array Oper} {W ds:List Nat} {its:List Iu} {Js:List (List Nat->List Value->World->Prop)} {JF:(Nat->Bool)->List Nat->List Value->World->Prop} {e0:Env} {G0:List Nat} {w0:World} {ne:Nat}
theorem uf {d:List Nat} (h:I2 P n ops W ds its e0 G0 w0 k o d) (hr:qZ P n ops W ds its Js JF e0 G0 w0 ne (k+1) l r) (hk:(its.getD k fD).j7=none∧(its.getD k fD).late=false:=by exact⟨rfl,rfl⟩):qZ P n ops W ds its Js JF e0 G0 w0 ne k (o::l) (d::r):=by grind [I2,qZ,Ie.j7,Iu.j7,Iu.late,uc]
theorem ue (t:Nat) {d:List Nat} (h:Gi P n ops W ds its Js e0 G0 w0 t k o d) (hr:qZ P n ops W ds its Js JF e0 G0 w0 ne (k+1) l r) (hk:(its.getD k fD).j7=some t:=by rfl):qZ P n ops W ds its Js JF e0 G0 w0 ne k (o::l) (d::r):=by grind [Gi,qZ,Ie.j7,Iu.j7,uc]
theorem ud {d:List Nat} {f:List Value->Value} (h:Mz P n ops W ds its JF e0 G0 w0 ne f k o d) (hr:qZ P n ops W ds its Js JF e0 G0 w0 ne (k+1) l r) (hk:its.getD k fD= .d f:=by rfl):qZ P n ops W ds its Js JF e0 G0 w0 ne k (o::l) (d::r):=by grind [Mz,qZ,uc]
theorem uu {d:List Nat} (h:MA P n ops W ds its JF e0 G0 w0 ne k o d) (hr:qZ P n ops W ds its Js JF e0 G0 w0 ne (k+1) l r) (hk:its.getD k fD= .u:=by rfl):qZ P n ops W ds its Js JF e0 G0 w0 ne k (o::l) (d::r):=by grind [MA,qZ,uc]
theorem SI:∀(l:List Oper) (deps:List (List Nat)) (k:Nat),qZ P n ops W ds its Js JF e0 G0 w0 ne k l deps->∀(i:Nat) (o:Oper) (d:List Nat),l[i]?=some o->deps[i]?=some d->uc P n ops W ds its Js JF e0 G0 w0 ne (k+i) o d
 |[],_,_,_,i,o,d,h,_=>by simp at h
 |_::_,[],_,_,i,o,d,_,h=>by simp at h
 |o::l,d::r,k,h,0,o',d',ho,hd=>by
  simp at ho hd;subst ho;subst hd;exact h.1
 |o::l,d::r,k,h,i+1,o',d',ho,hd=>by
  have:=SI l r (k+1) h.2 i o' d' (by simpa using ho) (by simpa using hd)
  rwa [show k+1+i=k+(i+1) by omega] at this
end
def uB (l:List Oper) (m:Nat) (effs:List Nat) (its:List Iu):Bool:=
 (List.range effs.length).all (λt=>decide (effs.getD t 0<m)&&((its.getD (effs.getD t 0) fD).j7==some t)&&(decide (t=0)||(match l[effs.getD t 0]? with|some o=>waits o (effs.getD (t-1) 0)|none=>false)))&&
 (List.range m).all (λi=>(match(its.getD i fD).j7 with|some t=>decide (t<effs.length)&&decide (effs.getD t 0=i)|none=>true)&&
  (!(its.getD i fD).late||decide (effs.length=0)||(match l[i]? with|some o=>waits o (effs.getD (effs.length-1) 0)|none=>false)))&&
 decide (its.length<=m)
theorem aed {effs:List Nat} {its:List Iu} (h:uB l m effs its=true):
  (∀t,t<effs.length->effs.getD t 0<m∧(its.getD (effs.getD t 0) fD).j7=some t∧(t≠0->∃o,l[effs.getD t 0]?=some o∧waits o (effs.getD (t-1) 0)=true))∧
  (∀i t,i<m->(its.getD i fD).j7=some t->t<effs.length∧effs.getD t 0=i)∧
  (∀i,i<m->(its.getD i fD).late=true->effs.length≠0->∃o,l[i]?=some o∧waits o (effs.getD (effs.length-1) 0)=true)∧its.length<=m:=by
 unfold uB at h
 rw[aE,aE,List.all_eq_true,List.all_eq_true,dE] at h
 obtain⟨⟨h1,h2⟩,h3⟩:=h
 refine⟨λt ht=>?_,λi t hi he=>?_,λi hi hl hn=>?_,h3⟩
 ·have:=h1 t (List.mem_range.2 ht)
  simp only[aE,dE,beq_iff_eq,oE] at this
  obtain⟨⟨a,b⟩,c⟩:=this
  refine⟨a,b,λh0=>?_⟩
  rcases c with c|c
  ·exact absurd c h0
  ·cases hl:l[effs.getD t 0]? with
   |none=>rw[hl] at c;cases c
   |some o=>rw[hl] at c;exact⟨o,rfl,c⟩
 ·have:=h2 i (List.mem_range.2 hi)
  rw[he] at this
  simp only[aE,dE] at this
  exact this.1
 ·have:=h2 i (List.mem_range.2 hi)
  rw[aE,hl] at this
  have:=this.2
  simp only[Bool.not_true,Bool.false_or,oE,dE] at this
  rcases this with c|c
  ·exact absurd c hn
  ·cases hl:l[i]? with
   |none=>rw[hl] at c;cases c
   |some o=>rw[hl] at c;exact⟨o,rfl,c⟩
def Gj:List Iu->Prop
 |[]=>True
 | .p f::r=>(∀G v w G' w',f G v w->Fr G w G' w'->f G' v w')∧Gj r
 |_::r=>Gj r
theorem B8:∀{its:List Iu},Gj its->∀q,q∈its->∀G v w G' w',q.F G v w->Fr G w G' w'->q.F G' v w'
 |s::r,h,q,hq,G,v,w,G',w',hf,hk=>by
  rcases mC.1 hq with e|nY
  ·subst e
   cases q with
   |p f=>exact h.1 _ _ _ _ _ hf hk
   |_=>exact hf
  ·cases s with
   |p f=>exact B8 (its:=r) h.2 q nY _ _ _ _ _ hf hk
   |v V=>exact B8 (its:=r) h q nY _ _ _ _ _ hf hk
   |e t=>exact B8 (its:=r) h q nY _ _ _ _ _ hf hk
   |w t V=>exact B8 (its:=r) h q nY _ _ _ _ _ hf hk
   |d f=>exact B8 (its:=r) h q nY _ _ _ _ _ hf hk
   |u=>exact B8 (its:=r) h q nY _ _ _ _ _ hf hk
theorem SJ {its:List Iu} (h:Gj its) (i:Nat) {G':List Nat} (hf:(its.getD i fD).F G v w) (hk:Fr G w G' w'):(its.getD i fD).F G' v w':=by
 rw[gG] at hf⊢
 cases e:its[i]? with
 |none=>trivial
 |some q=>rw[e] at hf;exact B8 h q (List.mem_of_getElem? e) _ _ _ _ _ hf hk
section
variable {P:Program} {n:Nat} {l:List Oper} {m:Nat} {W ds:List Nat} {deps:List (List Nat)}
theorem SK {N R:Env->World->Prop} {X:Nat->Env->World->Prop} {id:Nat} {e0:Env} {w0:World} (hm:P.follows .mixedOrders=true) (G0:List Nat) (m:Nat) (W ds:List Nat) (deps:List (List Nat)) (its:List Iu) (effs:List Nat) (Js:List (List Nat->List Value->World->Prop)) (JF:(Nat->Bool)->List Nat->List Value->World->Prop) 
  (hB:uI l m W ds deps=true) (hE:uB l m effs its=true) (hL:eO G0 w0) (hF:Gj its) (hJ:I1 Js) (SL:∀S G vs w w',JF S G vs w->aj [] w w'->JF S G vs w') (h0:Js.getD 0 (λ_ _ _=>True) G0 [] w0)
  (I3:∀G vs w,Js.getD effs.length (λ_ _ _=>True) G vs w->vs.length=effs.length->JF (λ_=>false) G vs w)
  (hc:qZ P n l.toArray W ds its Js JF e0 G0 w0 effs.length 0 (l.take m) deps)
  (ht:∀(x:Env) (w:World) (G:List Nat) (aS:List Value),Fr G0 w0 G w->eO G w->JF (λi=>(its.getD i fD).rJ) G aS w->aS.length=effs.length->sG its ds G aS w (List.range m) λacc=>OW P n l.toArray N (l.drop m) (bo (bj W x e0) acc) w):
  CW P n (.region id l.toArray true) N R X e0 w0:=λa ha=>by
 refine wp_region_any hm ?_
 have fT:aj [] w0 {w0 with drawn:=w0.drawn+1}:=aj.drew _ _
 obtain⟨tE,Fz,Lb,iS,mZ⟩:=DI hB
 obtain⟨oW,mo,he3,mj⟩:=aed hE
 have dL:∀i j,i<m->j<m->i≠j->ds.getD j 0≠ds.getD i 0:=λi j hi hj lX=>by
  rw[gG,gG,gE om,gE om]
  simp only[Option.getD_some]
  intro he
  exact lX ((List.getElem_inj iS).1 he.symm)
 let vl:Nat->Env->List Value:=λk e=>(effs.take k).map λi=>e (ds.getD i 0)
 let US:(Nat->Bool)->Nat->Bool:=λS i=>S i&&(its.getD i fD).rJ
 let Inv:(Nat->Bool)->Env->World->Prop:=λS e w=>∃G k,ek W e0 e∧Fr G0 w0 G w∧eO G w∧k<=effs.length∧(∀t,t<effs.length->(S (effs.getD t 0)=true↔t<k))∧
  (k<effs.length->Js.getD k (λ_ _ _=>True) G (vl k e) w∧∀i,i<m->S i=true->(its.getD i fD).late=false)∧(k=effs.length->JF (US S) G (vl k e) w)∧
  ∀i,i<m->S i=true->(its.getD i fD).F G (e (ds.getD i 0)) w∧∀f,its.getD i fD= .d f->f (vl k e)=e (ds.getD i 0)
 have Ge:∀(S:Nat->Bool) (e:Env) (k:Nat),(∀t,t<effs.length->(S (effs.getD t 0)=true↔t<k))->k<=effs.length->∀j t,j<m->S j=true->(its.getD j fD).j7=some t->(vl k e).getD t undef=e (ds.getD j 0):=by
  intro S e k hS hk j t hj ly he
  obtain⟨h1,h2⟩:=mo j t hj he
  have h3:t<k:=(hS t h1).1 (by rw[h2];exact ly)
  show((effs.take k).map λi=>e (ds.getD i 0)).getD t undef=_
  rw[gG,List.getElem?_map,List.getElem?_take,iP h3,gE h1]
  rw[gG,gE h1] at h2
  simp only[Option.getD_some] at h2
  simp[h2]
 have Gk:∀k e,k<=effs.length->(vl k e).length=k:=λk e hk=>by show((effs.take k).map _).length=k;simp;omega
 have step:∀(S:Nat->Bool) (e:Env) (w:World) (i:Nat) (o:Oper),i<m->l[i]?=some o->S i=false->(∀j,waits o j=true->S j=true)->Inv S e w->
   OW P n l.toArray (λe' w'=>Inv (λj=>if j=i then true else S j) e' w') [o] e w:=by
  rintro S e w i o qO ho tQ Al ⟨G,k,p9,bC,pJ,fb,hS,vg,Ed,oN⟩
  obtain⟨hW,zy⟩:=(mZ i o ho).2.1 qO
  obtain⟨dp,zz⟩:∃d,deps[i]?=some d:=⟨deps[i]'om,gE om⟩
  have FF:deps.getD i []=dp:=by rw[gG,zz];rfl
  rw[FF] at zy
  have iI:=SI (l.take m) deps 0 hc i o dp (by rw[List.getElem?_take,iP qO];exact ho) zz
  rw[Nat.zero_add] at iI
  have hd:∀j,j∈dp->SH (its.getD j fD) G (vl k e) (e (ds.getD j 0)) w:=λj hj=>by
   obtain⟨h1,h2⟩:=zy j hj
   have h3:=oN j h2 (Al j h1)
   exact⟨h3.1,λt het=>Ge S e k hS fb j t h2 (Al j h1) (by rw[het];rfl),h3.2⟩
  have Gf:∀e',ek [ds.getD i 0] e e'->ek W e0 e':=λe' h t B6=>by
   have Eb:t≠ds.getD i 0:=λhe=>by rw[he,hW] at B6;cases B6
   rw[h t (by simpa using Eb)];exact p9 t B6
  have Am:∀e',ek [ds.getD i 0] e e'->∀j,j<m->j≠i->e' (ds.getD j 0)=e (ds.getD j 0):=λe' h j hj iM=>h _ (by simpa using dL i j qO hj (λh=>iM h.symm))
  have fl:[o]=[o]++[]:=rfl
  have SM:∀e',ek [ds.getD i 0] e e'->∀k',k'<=effs.length->(∀t,t<k'->effs.getD t 0≠i)->vl k' e'=vl k' e:=λe' lz k' pz my=>by
   show(effs.take k').map _=(effs.take k').map _
   apply List.map_congr_left
   intro j hj
   obtain⟨t,nA⟩:=List.mem_iff_getElem?.1 hj
   rw[List.getElem?_take] at nA
   split at nA
   ·rename_i dU
    have fF:t<effs.length:=(List.getElem?_eq_some_iff.1 nA).1
    have uK:effs.getD t 0=j:=by rw[gG,nA];rfl
    exact Am e' lz j (by have:=(oW t fF).1;rw[uK] at this;exact this) (λh=>my t dU (uK.trans h))
   ·cases nA
  -- what is late comes behind the last effect
  have SN:(its.getD i fD).late=true->k=effs.length:=λhl=>by
   rcases Nat.eq_zero_or_pos effs.length with h0|h0
   ·omega
   ·obtain⟨o',mn,Gg⟩:=he3 i qO hl om
    rw[ho] at mn;cases mn
    have:=(hS (effs.length-1) om).1 (Al _ Gg)
    omega
  -- an operation that is no effect in the order
  have main:∀(e':Env) (w':World) (G':List Nat),(its.getD i fD).j7=none->ek [ds.getD i 0] e e'->Fr G w G' w'->eO G' w'->
    (k<effs.length->Js.getD k (λ_ _ _=>True) G' (vl k e) w'∧(its.getD i fD).late=false)->(k=effs.length->JF (US λj=>if j=i then true else S j) G' (vl k e) w')->
    (its.getD i fD).F G' (e' (ds.getD i 0)) w'->(∀f,its.getD i fD= .d f->f (vl k e)=e' (ds.getD i 0))->Inv (λj=>if j=i then true else S j) e' w':=by
   intro e' w' G' sE lz wL B7 Ee rK xZ hDi
   have my:∀t,t<effs.length->effs.getD t 0≠i:=λt fF h=>by have:=(oW t fF).2.1;rw[h,sE] at this;cases this
   have B9:=SM e' lz k fb (λt ht=>my t om)
   refine⟨G',k,Gf e' lz,bC.go wL,B7,fb,λt fF=>?_,λdU=>⟨?_,λj hj ly=>?_⟩,λlB=>?_,λj hj ly=>?_⟩
   ·simp only[iN (my t fF)];exact hS t fF
   ·rw[B9];exact(Ee dU).1
   ·by_cases iM:j=i
    ·rw[iM];exact(Ee dU).2
    ·simp only[iN iM] at ly;exact(vg dU).2 j hj ly
   ·rw[B9];exact rK lB
   ·rw[B9]
    by_cases iM:j=i
    ·rw[iM];exact⟨xZ,hDi⟩
    ·simp only[iN iM] at ly
     rw[Am e' lz j hj iM]
     exact⟨SJ hF j (oN j hj ly).1 wL,(oN j hj ly).2⟩
  have SO:(its.getD i fD).rJ=false->US (λj=>if j=i then true else S j)=US S:=λh=>by
   funext j
   show((if j=i then true else S j)&&(its.getD j fD).rJ)=(S j&&(its.getD j fD).rJ)
   by_cases iM:j=i
   ·rw[iM,h];simp
   ·rw[iN iM]
  -- the cases
  have floatC:I2 P n l.toArray W ds its e0 G0 w0 i o dp->(its.getD i fD).j7=none->(its.getD i fD).late=false->(∀f,its.getD i fD≠ .d f)->(its.getD i fD).rJ=false->OW P n l.toArray (λe' w'=>Inv (λj=>if j=i then true else S j) e' w') [o] e w:=by
   intro iI sE Gl MB SP
   have h1:=vh (iI e w G _ bC pJ) (vs:=λj=>e (ds.getD j 0)) hd
   rw[Ak p9] at h1
   rw[fl]
   refine vZ h1 ?_
   rintro e' w' ⟨pz,xZ,lz⟩
   exact aZ (main e' w' G sE lz (Fr.of pz sm) (λx hx=>lL (pJ x hx) pz.size) (λdU=>⟨Gd hJ k (vg dU).1 pz,Gl⟩) (λlB=>by rw[SO SP];exact SL _ _ _ _ _ (Ed lB) pz) xZ (λf hf=>absurd hf (MB f)))
  have effC:∀t,(its.getD i fD).j7=some t->Gi P n l.toArray W ds its Js e0 G0 w0 t i o dp->(its.getD i fD).late=false->(∀f,its.getD i fD≠ .d f)->(its.getD i fD).rJ=false->OW P n l.toArray (λe' w'=>Inv (λj=>if j=i then true else S j) e' w') [o] e w:=by
   intro t sE iI Gl MB SP
   obtain⟨fF,sF⟩:=mo i t qO sE
   have qo:k=t:=by
    have h1:¬t<k:=λh=>by have:=(hS t fF).2 h;rw[sF,tQ] at this;cases this
    rcases Nat.eq_zero_or_pos t with h0|h0
    ·omega
    ·obtain⟨o',mn,Gg⟩:=(oW t fF).2.2 om
     rw[sF,ho] at mn
     cases mn
     have:=(hS (t-1) om).1 (Al _ Gg)
     omega
   subst qo
   have h1:=vh (iI e w G _ bC pJ (vg fF).1 (Gk k e fb)) (vs:=λj=>e (ds.getD j 0)) hd
   rw[Ak p9] at h1
   rw[fl]
   refine vZ h1 ?_
   rintro e' w' ⟨⟨G',wL,B7,Ec,xZ⟩,lz⟩
   have Gh:∀t',t'<effs.length->effs.getD t' 0=i->t'=k:=λt' h1 h2=>by
    have:=(oW t' h1).2.1
    rw[h2,sE] at this
    cases this;rfl
   have B9:vl k e'=vl k e:=SM e' lz k fb (λt' nP h=>by have:=Gh t' om h;omega)
   have fY:vl (k+1) e'=vl k e++[e' (ds.getD i 0)]:=by
    have h2:effs[k]?=some i:=by
     rw[gG,gE fF] at sF
     rw[gE fF]
     simpa using sF
    rw[<-B9]
    show(effs.take (k+1)).map _=(effs.take k).map _++_
    rw[List.take_add_one,h2,List.map_append]
    rfl
   have SQ:∀j,j<m->(if j=i then true else S j)=true->(its.getD j fD).late=false:=λj hj ly=>by
    by_cases iM:j=i
    ·rw[iM];exact Gl
    ·rw[iN iM] at ly;exact(vg fF).2 j hj ly
   refine aZ ⟨G',k+1,Gf e' lz,bC.go wL,B7,om,λt' An=>?_,λ_=>⟨by rw[fY];exact Ec,SQ⟩,λlB=>?_,λj hj ly=>?_⟩
   ·by_cases h2:effs.getD t' 0=i
    ·have:=Gh t' An h2
     simp only[iP h2]
     exact⟨λ_=>om,λ_=>trivial⟩
    ·simp only[iN h2]
     rw[hS t' An]
     have:t'≠k:=λh=>by rw[h] at h2;exact h2 sF
     omega
   ·have e1:US (λj=>if j=i then true else S j)=λ_=>false:=by
     funext j
     show((if j=i then true else S j)&&(its.getD j fD).rJ)=false
     by_cases BM:j<m
     ·cases hb:(if j=i then true else S j) with
      |false=>rfl
      |true=>
       have h3:=SQ j BM hb
       cases e:its.getD j fD with
       |u=>rw[e] at h3;cases h3
       |_=>rfl
     ·rw[gG,List.getElem?_eq_none om]
      simp[Iu.rJ]
    rw[e1]
    exact I3 _ _ _ (by rw[fY,<-lB];exact Ec) (by rw[Gk _ _ om];omega)
   ·by_cases iM:j=i
    ·rw[iM];exact⟨xZ,λf hf=>absurd hf (MB f)⟩
    ·simp only[iN iM] at ly
     rw[Am e' lz j hj iM]
     refine⟨SJ hF j (oN j hj ly).1 wL,λf hf=>?_⟩
     have:=(vg fF).2 j hj ly
     rw[hf] at this;cases this
  cases jj:its.getD i fD with
  |v V=>unfold uc at iI;rw[jj] at iI;exact floatC iI (by rw[jj];rfl) (by rw[jj];rfl) (λf h=>by rw[jj] at h;cases h) (by rw[jj];rfl)
  |p f=>unfold uc at iI;rw[jj] at iI;exact floatC iI (by rw[jj];rfl) (by rw[jj];rfl) (λf h=>by rw[jj] at h;cases h) (by rw[jj];rfl)
  |e t=>unfold uc at iI;rw[jj] at iI;exact effC t (by rw[jj];rfl) iI (by rw[jj];rfl) (λf h=>by rw[jj] at h;cases h) (by rw[jj];rfl)
  |w t V=>unfold uc at iI;rw[jj] at iI;exact effC t (by rw[jj];rfl) iI (by rw[jj];rfl) (λf h=>by rw[jj] at h;cases h) (by rw[jj];rfl)
  |d f=>
   unfold uc at iI;rw[jj] at iI
   have lB:=SN (by rw[jj];rfl)
   have h1:=vh (iI e w G _ _ bC pJ (Ed lB) (by rw[Gk k e fb];exact lB)) (vs:=λj=>e (ds.getD j 0)) hd
   rw[Ak p9] at h1
   rw[fl]
   refine vZ h1 ?_
   rintro e' w' ⟨pz,Gm,lz⟩
   exact aZ (main e' w' G (by rw[jj];rfl) lz (Fr.of pz sm) (λx hx=>lL (pJ x hx) pz.size) (λdU=>om) (λlB=>by rw[SO (by rw[jj];rfl)];exact SL _ _ _ _ _ (Ed lB) pz) (by rw[jj];trivial) (λf' hf=>by rw[jj] at hf;cases hf;exact Gm.symm))
  |u=>
   unfold uc at iI;rw[jj] at iI
   have lB:=SN (by rw[jj];rfl)
   have h1:=vh (iI e w G _ _ bC pJ (Ed lB) (by show(S i&&_)=false;rw[tQ];rfl) (by rw[Gk k e fb];exact lB)) (vs:=λj=>e (ds.getD j 0)) hd
   rw[Ak p9] at h1
   rw[fl]
   refine vZ h1 ?_
   rintro e' w' ⟨⟨G',wL,B7,Ec⟩,lz⟩
   refine aZ (main e' w' G' (by rw[jj];rfl) lz wL B7 (λdU=>om) (λlB=>?_) (by rw[jj];trivial) (λf' hf=>by rw[jj] at hf;cases hf))
   have e1:US (λj=>if j=i then true else S j)=λj=>if j=i then true else US S j:=by
    funext j
    show((if j=i then true else S j)&&(its.getD j fD).rJ)=if j=i then true else(S j&&(its.getD j fD).rJ)
    by_cases iM:j=i
    ·rw[iP iM,iP iM,iM,jj];rfl
    ·rw[iN iM,iN iM]
   rw[e1];exact Ec
 have tail:∀(S:Nat->Bool) (e:Env) (w:World),(∀i,i<m->S i=true)->Inv S e w->OW P n l.toArray N (l.drop m) e w:=by
  rintro S e w Ao ⟨G,k,p9,bC,pJ,fb,hS,vg,Ed,oN⟩
  have hk:k=effs.length:=by
   rcases Nat.lt_or_ge k effs.length with h|h
   ·have:=(hS k h).1 (Ao _ (oW k h).1);omega
   ·omega
  subst hk
  have e1:US S=λi=>(its.getD i fD).rJ:=by
   funext j
   show(S j&&(its.getD j fD).rJ)=_
   by_cases BM:j<m
   ·rw[Ao j BM];rfl
   ·rw[gG,List.getElem?_eq_none om]
    simp[Iu.rJ]
  have hj:=Ed rfl
  rw[e1] at hj
  have h1:=vh (ht e w G _ bC pJ hj (Gk _ e (lR _))) (vs:=λj=>e (ds.getD j 0)) (λj hj=>by
   have pA:=List.mem_range.1 hj
   have h3:=oN j pA (Ao j pA)
   exact⟨h3.1,λt het=>Ge S e _ hS fb j t pA (Ao j pA) (by rw[het];rfl),h3.2⟩)
  rw[Ak p9] at h1
  exact h1
 have gB:∀j,(Array.replicate l.length false).getD j false=false:=λj=>by
  rw[Array.getD_eq_getD_getElem?,Array.getElem?_replicate];split<;>rfl
 have My:Inv (λj=>(Array.replicate l.length false).getD j false) e0 {w0 with drawn:=w0.drawn+1}:=by
  have BL:=Gd hJ 0 h0 fT
  refine⟨G0,0,xN,Fr.of fT sm,λx hx=>hL x hx,Nat.zero_le _,λt fF=>?_,λ_=>⟨BL,λi hi tQ=>?_⟩,λlB=>?_,λi hi tQ=>?_⟩
  ·constructor
   ·intro h;exact absurd ((gB (effs.getD t 0)).symm.trans h) sm
   ·intro h;omega
  ·exact absurd ((gB i).symm.trans tQ) sm
  ·have e1:US (λj=>(Array.replicate l.length false).getD j false)=λ_=>false:=by
    funext j
    show((Array.replicate l.length false).getD j false&&_)=false
    rw[gB];rfl
   rw[e1]
   exact I3 _ _ _ (by rw[<-lB];exact BL) (by show((effs.take 0).map _).length=_;simpa using lB)
  ·exact absurd ((gB i).symm.trans tQ) sm
 have:=SC (N:=N) (Inv:=Inv) hB step tail (kR n N R X) l.length (Array.replicate l.length false) e0 a _ ha sm
  (by
   have:((List.range l.length).filter λj=>!(Array.replicate l.length false).getD j true)=List.range l.length:=by
    rw[List.filter_eq_self]
    intro j hj
    rw[List.mem_range] at hj
    simp[Array.getD_eq_getD_getElem?,hj]
   rw[this];simp)
  (by intro j _ hj;simp[Array.getD_eq_getD_getElem?,hj])
  My
  (by
   intro j o ho hj
   have pA:j<l.length:=(List.getElem?_eq_some_iff.1 ho).1
   simp[Array.getD_eq_getD_getElem?,pA] at hj)
 have e1:pw n N (kR n N R X)=kR n N R X:=by
  funext x a w;cases x<;>rfl
 rw[e1] at this
 simpa using this
end
section
variable {P:Program} {n:Nat} {ops:Array Oper} {e:Env} {w w':World} {G:List Nat}
theorem uv (h:v=V:=by rfl):OW P n ops (λe' w'=>aj [] w w'∧(Iu.v V).F G (e' d) w'∧ek [d] e e') [] (bM e (some d) v) w:=
 aZ ⟨aj.refl _ _,by subst h;exact mX _ _ _,qN⟩
theorem up {f:List Nat->Value->World->Prop} (k:aj [] w w') (h:f G v w'):OW P n ops (λe' w'=>aj [] w w'∧(Iu.p f).F G (e' d) w'∧ek [d] e e') [] (bM e (some d) v) w':=
 aZ ⟨k,by show f G (gU e d v d) w';rw[mX];exact h,qN⟩
theorem uE {aS:List Value} (G':List Nat) (k:Fr G w G' w') (hl:eO G' w') (h:J G' (aS++[v]) w'):OW P n ops (λe' w'=>(∃G',Fr G w G' w'∧eO G' w'∧J G' (aS++[e' d]) w'∧(Iu.e t).F G' (e' d) w')∧ek [d] e e') [] (bM e (some d) v) w':=
 aZ ⟨⟨G',k,hl,by show J G' (aS++[gU e d v d]) w';rw[mX];exact h,trivial⟩,qN⟩
theorem uW {aS:List Value} (G':List Nat) (k:Fr G w G' w') (hl:eO G' w') (h:J G' (aS++[v]) w') (hv:v=V:=by rfl):OW P n ops (λe' w'=>(∃G',Fr G w G' w'∧eO G' w'∧J G' (aS++[e' d]) w'∧(Iu.w t V).F G' (e' d) w')∧ek [d] e e') [] (bM e (some d) v) w':=
 aZ ⟨⟨G',k,hl,by show J G' (aS++[gU e d v d]) w';rw[mX];exact h,by subst hv;exact mX _ _ _⟩,qN⟩
theorem uD (k:aj [] w w') (h:v=V:=by rfl):OW P n ops (λe' w'=>aj [] w w'∧e' d=V∧ek [d] e e') [] (bM e (some d) v) w':=by grind [aZ,mX,qN]
theorem uU {Q:List Nat->World->Prop} (G':List Nat) (k:Fr G w G' w') (hl:eO G' w') (h:Q G' w'):OW P n ops (λe' w'=>(∃G',Fr G w G' w'∧eO G' w'∧Q G' w')∧ek [d] e e') [] e w':=
 aZ ⟨⟨G',k,hl,h⟩,xN⟩
end
end Go.Proofs.YthbhobaiopccaaaGreatDoor
