/- Lemmas for the law FnProgramSize, no statement of their own: no conditions. -/
import Derived.Test.YtkcegcjelmmilaaGreatDoorHa
import Derived.Shelf.Bits.Mul64
import Derived.Shelf.LaysM
import Derived.Shelf.Slices.Turned
import Derived.Shelf.Small.Wraps
import Derived.Shelf.Strconv.Atoi
import Derived.Shelf.Strconv.Itoa0
import Derived.Shelf.Strconv.Itoa1
import Derived.Shelf.Strconv.Itoa2
import Derived.Shelf.Strconv.Itoa3
import Derived.Shelf.Strings.Builder1
import Derived.Shelf.Strings.Builder2
import Derived.Shelf.Strings.Builder2Cap
import Derived.Shelf.Strings.BuilderCap
import Derived.Shelf.Strings.BuilderF
import Derived.Shelf.Strings.BuilderK
import Derived.Shelf.Strings.Prefix
import Derived.Shelf.Strings.Repeat
namespace Go.Proofs.YtkcegcjelmmilaaGreatDoor
open Go
set_option maxHeartbeats 4000000
variable {b bytes d i k m m' n off sz t:Nat} {c:UInt8} {s x:ai} {e:Ex} {G L L' L1:List Nat} {w w' w0 w1 w2:World} {V v v1 v3 v4 v5 v6 v8 z:Value} {vs:List Value} {xs:List ai} {g:Option Nat} {rows:List (List C)} {P:Program} {ops:Array Oper} {e0:Env} {o:Oper} {l:List Oper} {r:List (List Nat)} {N R:Env->World->Prop} {X:Nat->Env->World->Prop} {p q:Prop} {J:List Nat->List Value->World->Prop} {k':IntKind} {a:Int}
/-! ### p7 aK -/
theorem adS (n:Nat):val (aT n)=n:=by
 induction n using Nat.strongRecOn with
 |_ n ih=>
  have hd:∀k,k<10->(UInt8.ofNat (48+k)).toNat=48+k:=λk hk=>by
   rw[UInt8.toNat_ofNat'];exact Nat.mod_eq_of_lt om
  unfold aT
  by_cases h:n<10
  ·rw[iP h]
   show 10*0+((UInt8.ofNat (48+n)).toNat-48)=n
   rw[hd n h];omega
  ·rw[iN h,QP,ih (n/10) om,hd (n%10) om];omega
theorem adT (h:aT n=aT m):n=m:=by grind [adS]
def cK (c:UInt8) (k:Nat):ai:=c::aT k
theorem pE {j:Nat} (h:cK c k=cK c j):k=j:=by grind [adT,cK]
theorem Mg {α:Type} [BEq α] [LawfulBEq α]:∀{l m:List α},l.Nodup->(∀x,x∈l->x∈m)->l.length<=m.length
 |[],m,_,_=>by simp
 |a::l,m,hn,hs=>by
  rw[List.nodup_cons] at hn
  have ha:=hs a sm
  have:=Mg (l:=l) (m:=m.erase a) hn.2 λx hx=>(List.mem_erase_of_ne (fun(e:x=a)=>hn.1 (e▸hx))).2 (hs x (by simp[hx]))
  rw[List.length_erase_of_mem ha] at this
  have:=List.length_pos_of_mem ha
  simp only[lC];omega
def pF (c:UInt8) (ag:List ai):Nat->Nat->Nat
 |0,n=>n
 |fuel+1,n=>if cK c n∈ag then pF c ag fuel (n+1) else n
def bm (c:UInt8) (ag:List ai) (n:Nat):Nat:=pF c ag (ag.length+1) n
theorem adU (c:UInt8) (ag:List ai):∀fuel n,n<=pF c ag fuel n∧pF c ag fuel n<=n+fuel:=by intro x;induction x<;>grind [pF]
theorem Sf (c:UInt8) (ag:List ai):∀fuel n,cK c (pF c ag fuel n)∉ag∨∀j,j<fuel->cK c (n+j)∈ag
 |0,n=>.inr λj hj=>by omega
 |fuel+1,n=>by
  unfold pF
  split
  ·rename_i h
   rcases Sf c ag fuel (n+1) with h1|h1
   ·exact .inl h1
   ·refine .inr λj hj=>?_
    cases j with
    |zero=>exact h
    |succ j=>have:=h1 j om;rw[show n+(j+1)=n+1+j from by omega];exact this
  ·rename_i h;exact .inl h
theorem IJ (c:UInt8) (ag:List ai) (n:Nat):cK c (bm c ag n)∉ag:=by
 rcases Sf c ag (ag.length+1) n with h|h
 ·exact h
 ·exfalso
  have hn:((List.range (ag.length+1)).map λj=>cK c (n+j)).Nodup:=by
   rw[List.nodup_iff_pairwise_ne,List.pairwise_map]
   refine List.Pairwise.imp ?_ (List.nodup_iff_pairwise_ne.1 List.nodup_range)
   intro a b IK e
   exact IK (by have:=pE e;omega)
  have:=Mg hn (m:=ag) (λx hx=>by
   obtain⟨j,hj,rfl⟩:=List.mem_map.1 hx
   exact h j (List.mem_range.1 hj))
  simp at this;omega
theorem nU (c:UInt8) (ag:List ai) (n:Nat):n<=bm c ag n∧bm c ag n<=n+ag.length+1:=by grind [adU,cS.length,bm]
theorem Sg {ag:List ai} (h:cK c n∈ag):bm c ag n=bm c ag (n+1):=by
 have key:∀f g n,cK c (pF c ag f n)∉ag->cK c (pF c ag g n)∉ag->pF c ag f n=pF c ag g n:=by
  intro f
  induction f with
  |zero=>
   intro g n h1 h2
   cases g with
   |zero=>rfl
   |succ g=>unfold pF at h1⊢;rw[iN h1]
  |succ f ih=>
   intro g n h1 h2
   cases g with
   |zero=>unfold pF at h2⊢;rw[iN h2]
   |succ g=>
    unfold pF at h1 h2⊢
    by_cases hh:cK c n∈ag
    ·rw[iP hh] at h1 h2⊢;rw[iP hh];exact ih g (n+1) h1 h2
    ·rw[iN hh,iN hh]
 have e:bm c ag n=pF c ag ag.length (n+1):=by
  unfold bm
  conv=>lhs;unfold pF
  rw[iP h]
 have h1:=IJ c ag n
 rw[e] at h1⊢
 exact key _ _ _ h1 (IJ c ag (n+1))
theorem Sh {ag:List ai} (h:cK c n∉ag):bm c ag n=n:=by
 unfold bm pF;rw[iN h]
theorem z7 (hc:97<=c∧c<=122) (hk:k<1000):dN (cK c k)=true:=by
 have hd:∀k,(aT k).all gW=true:=λk=>by
  induction k using Nat.strongRecOn with
  |_ k ih=>
   have hd:∀j,j<10->gW (UInt8.ofNat (48+j))=true:=by decide
   unfold aT
   by_cases h:k<10
   ·rw[iP h,List.all_cons,hd k h];rfl
   ·rw[iN h,List.all_append,ih (k/10) om,List.all_cons,hd (k%10) om];rfl
 have h1:∀k,k<10->(aT k).length=1:=λk hk=>by unfold aT;rw[iP hk];rfl
 have h2:∀k,k<100->(aT k).length<=2:=λk hk=>by
  unfold aT
  split
  ·simp
  ·have:=h1 (k/10) om
   simp;omega
 have h3:(aT k).length<=3:=by
  unfold aT
  split
  ·simp
  ·have:=h2 (k/10) om
   simp;omega
 unfold dN cK
 simp only[lC,List.getD_cons_zero,List.drop_succ_cons,List.drop_zero,hd k,Bool.and_true,aE,dE]
 exact⟨⟨by omega,om⟩,hc⟩
/-! ### Bound aK renamed -/
abbrev Rn:=List (ai×ai)
def qj (ρ:Rn) (s:ai):ai:=((ρ.reverse.find? λp=>decide (p.1=s)).map Prod.snd).getD s
theorem Mh (ρ:Rn) (x y s:ai):qj (ρ++[(x,y)]) s=if x=s then y else qj ρ s:=by grind [qj]
theorem Si (ρ:Rn) (f x s g y:ai):qj (ρ++[(f,g),(x,y)]) s=if x=s then y else if f=s then g else qj ρ s:=by grind [qj]
abbrev cx:UInt8:=120
def bH (ag:List ai):Ex->Rn->Nat->Ex×Nat
 | .at s,ρ,n=>(.at (if dN s then qj ρ s else s),n)
 | .un h a,ρ,n=>(.un h (bH ag a ρ n).1,(bH ag a ρ n).2)
 | .bi h a b,ρ,n=>(.bi h (bH ag a ρ n).1 (bH ag b ρ (bH ag a ρ n).2).1,(bH ag b ρ (bH ag a ρ n).2).2)
 | .ite a b c,ρ,n=>(.ite (bH ag a ρ n).1 (bH ag b ρ (bH ag a ρ n).2).1 (bH ag c ρ (bH ag b ρ (bH ag a ρ n).2).2).1,(bH ag c ρ (bH ag b ρ (bH ag a ρ n).2).2).2)
 | .lt x a b,ρ,n=>(.lt (cK cx (bm cx ag n)) (bH ag a ρ (bm cx ag n+1)).1 (bH ag b (ρ++[(x,cK cx (bm cx ag n))]) (bH ag a ρ (bm cx ag n+1)).2).1,
   (bH ag b (ρ++[(x,cK cx (bm cx ag n))]) (bH ag a ρ (bm cx ag n+1)).2).2)
 | .fn f x A B e,ρ,n=>(.fn (cK cx (bm cx ag n)) (cK cx (bm cx ag (bm cx ag n+1))) A B (bH ag e (ρ++[(f,cK cx (bm cx ag n)),(x,cK cx (bm cx ag (bm cx ag n+1)))]) (bm cx ag (bm cx ag n+1)+1)).1,
   (bH ag e (ρ++[(f,cK cx (bm cx ag n)),(x,cK cx (bm cx ag (bm cx ag n+1)))]) (bm cx ag (bm cx ag n+1)+1)).2)
theorem iW (ag:List ai):∀(e:Ex) (ρ:Rn) (n:Nat),n<=(bH ag e ρ n).2∧(bH ag e ρ n).2+(ag.length+2)<=n+(e.n)*(ag.length+2)+(ag.length+2)
 | .at s,ρ,n=>by simp only[bH,Ex.n];omega
 | .un h a,ρ,n=>by
  have:=iW ag a ρ n
  simp only[bH,Ex.n,Nat.add_mul];omega
 | .bi h a b,ρ,n=>by
  have:=iW ag a ρ n
  have:=iW ag b ρ (bH ag a ρ n).2
  simp only[bH,Ex.n,Nat.add_mul];omega
 | .ite a b c,ρ,n=>by
  have:=iW ag a ρ n
  have:=iW ag b ρ (bH ag a ρ n).2
  have:=iW ag c ρ (bH ag b ρ (bH ag a ρ n).2).2
  simp only[bH,Ex.n,Nat.add_mul];omega
 | .lt x a b,ρ,n=>by
  have h0:=nU cx ag n
  have:=iW ag a ρ (bm cx ag n+1)
  have:=iW ag b (ρ++[(x,cK cx (bm cx ag n))]) (bH ag a ρ (bm cx ag n+1)).2
  simp only[bH,Ex.n,Nat.add_mul];omega
 | .fn f x A B e,ρ,n=>by
  have h0:=nU cx ag n
  have h1:=nU cx ag (bm cx ag n+1)
  have:=iW ag e (ρ++[(f,cK cx (bm cx ag n)),(x,cK cx (bm cx ag (bm cx ag n+1)))]) (bm cx ag (bm cx ag n+1)+1)
  simp only[bH,Ex.n,Nat.add_mul];omega
theorem Sj (ag:List ai):∀(e:Ex) (ρ:Rn) (n:Nat),(bH ag e ρ n).1.n=e.n:=by intro x;induction x<;>grind [bH,Ty.n,Ex.n]
theorem wu (ag:List ai):∀(e:Ex) (ρ:Rn) (n:Nat),e.ok->(bH ag e ρ n).2<=1000->(∀s,dN s=true->Fv s e->dN (qj ρ s)=true)->(bH ag e ρ n).1.ok
 | .at s,ρ,n,h,_,hr=>by
  show qg _=true
  by_cases hn:dN s=true
  ·rw[iP hn];unfold qg;rw[hr s hn ⟨rfl,hn⟩];simp
  ·rw[iN hn];exact h
 | .un hd a,ρ,n,h,hm,hr=>⟨h.1,wu ag a ρ n h.2 hm hr⟩
 | .bi hd a b,ρ,n,h,hm,hr=>by
  have h2:=iW ag b ρ (bH ag a ρ n).2
  simp only[bH] at hm
  exact⟨h.1,wu ag a ρ n h.2.1 om λs hn hs=>hr s hn (.inl hs),wu ag b ρ _ h.2.2 hm λs hn hs=>hr s hn (.inr hs)⟩
 | .ite a b c,ρ,n,h,hm,hr=>by
  have h2:=iW ag b ρ (bH ag a ρ n).2
  have h3:=iW ag c ρ (bH ag b ρ (bH ag a ρ n).2).2
  simp only[bH] at hm
  exact⟨wu ag a ρ n h.1 om λs hn hs=>hr s hn (.inl hs),wu ag b ρ _ h.2.1 om λs hn hs=>hr s hn (.inr (.inl hs)),wu ag c ρ _ h.2.2 hm λs hn hs=>hr s hn (.inr (.inr hs))⟩
 | .lt x a b,ρ,n,h,hm,hr=>by
  have h1:=iW ag a ρ (bm cx ag n+1)
  have h2:=iW ag b (ρ++[(x,cK cx (bm cx ag n))]) (bH ag a ρ (bm cx ag n+1)).2
  simp only[bH] at hm
  have hk:dN (cK cx (bm cx ag n))=true:=z7 de om
  refine⟨hk,wu ag a ρ _ h.2.1 om λs hn hs=>hr s hn (.inl hs),wu ag b _ _ h.2.2 hm λs hn hs=>?_⟩
  rw[Mh]
  split
  ·exact hk
  ·rename_i e;exact hr s hn (.inr ⟨λe'=>e e'.symm,hs⟩)
 | .fn f x A B e,ρ,n,h,hm,hr=>by
  have h0:=nU cx ag n
  have h1:=nU cx ag (bm cx ag n+1)
  have h2:=iW ag e (ρ++[(f,cK cx (bm cx ag n)),(x,cK cx (bm cx ag (bm cx ag n+1)))]) (bm cx ag (bm cx ag n+1)+1)
  simp only[bH] at hm
  have hk:dN (cK cx (bm cx ag n))=true:=z7 de om
  have az:dN (cK cx (bm cx ag (bm cx ag n+1)))=true:=z7 de om
  obtain⟨_,_,_,hA,hB,he⟩:=h
  refine⟨hk,az,λe=>by have:=pE e;omega,hA,hB,wu ag e _ _ he hm λs hn hs=>?_⟩
  rw[Si]
  split
  ·exact az
  ·rename_i e1
   split
   ·exact hk
   ·rename_i e2;exact hr s hn ⟨λe'=>e2 e'.symm,λe'=>e1 e'.symm,hs⟩
theorem wv (ag:List ai):∀(e:Ex) (ρ:Rn) (n:Nat) (Γ Δ:Sc),(bH ag e ρ n).2<=1000->(∀s,dN s=true->Fv s e->dN (qj ρ s)=true∧look Δ (qj ρ s)=look Γ s∧∀k,n<=k->qj ρ s≠cK cx k)->bw (bH ag e ρ n).1 Δ=bw e Γ
 | .at s,ρ,n,Γ,Δ,_,h=>by
  unfold bH bw
  by_cases hn:dN s=true
  ·obtain⟨h1,h2,_⟩:=h s hn ⟨rfl,hn⟩
   rw[iP hn,iP hn,iP h1,h2]
  ·rw[iN hn,iN hn,iN hn]
 | .un hd a,ρ,n,Γ,Δ,hm,h=>by
  unfold bH bw
  rw[wv ag a ρ n Γ Δ hm h]
 | .bi hd a b,ρ,n,Γ,Δ,hm,h=>by
  have h1:=iW ag a ρ n
  have h2:=iW ag b ρ (bH ag a ρ n).2
  simp only[bH] at hm
  unfold bH bw
  rw[wv ag a ρ n Γ Δ om λs hn hs=>h s hn (.inl hs),wv ag b ρ _ Γ Δ hm λs hn hs=>?_]
  obtain⟨q1,q2,q3⟩:=h s hn (.inr hs)
  exact⟨q1,q2,λk hk=>q3 k om⟩
 | .ite a b c,ρ,n,Γ,Δ,hm,h=>by
  have h1:=iW ag a ρ n
  have h2:=iW ag b ρ (bH ag a ρ n).2
  have h3:=iW ag c ρ (bH ag b ρ (bH ag a ρ n).2).2
  simp only[bH] at hm
  unfold bH bw
  rw[wv ag a ρ n Γ Δ om λs hn hs=>h s hn (.inl hs),wv ag b ρ _ Γ Δ om λs hn hs=>?_,wv ag c ρ _ Γ Δ hm λs hn hs=>?_]
  ·obtain⟨q1,q2,q3⟩:=h s hn (.inr (.inr hs))
   exact⟨q1,q2,λk hk=>q3 k om⟩
  ·obtain⟨q1,q2,q3⟩:=h s hn (.inr (.inl hs))
   exact⟨q1,q2,λk hk=>q3 k om⟩
 | .lt x a b,ρ,n,Γ,Δ,hm,h=>by
  have h0:=nU cx ag n
  have h1:=iW ag a ρ (bm cx ag n+1)
  have h2:=iW ag b (ρ++[(x,cK cx (bm cx ag n))]) (bH ag a ρ (bm cx ag n+1)).2
  simp only[bH] at hm
  have hk:dN (cK cx (bm cx ag n))=true:=z7 de om
  unfold bH bw
  rw[wv ag a ρ _ Γ Δ om λs hn hs=>?_]
  ·cases bw a Γ with
   |none=>rfl
   |some A=>
    refine wv ag b _ _ _ _ hm λs hn hs=>?_
    rw[Mh,oL Γ]
    by_cases e:x=s
    ·rw[iP e,iP e,oL,iP rfl]
     exact⟨hk,rfl,λk hk e=>by have:=pE e;omega⟩
    ·rw[iN e,iN e]
     obtain⟨q1,q2,q3⟩:=h s hn (.inr ⟨λe'=>e e'.symm,hs⟩)
     rw[oL,iN (λe=>q3 _ h0.1 e.symm)]
     exact⟨q1,q2,λk hk=>q3 k om⟩
  ·obtain⟨q1,q2,q3⟩:=h s hn (.inl hs)
   exact⟨q1,q2,λk hk=>q3 k om⟩
 | .fn f x A B e,ρ,n,Γ,Δ,hm,h=>by
  have h0:=nU cx ag n
  have h1:=nU cx ag (bm cx ag n+1)
  have h2:=iW ag e (ρ++[(f,cK cx (bm cx ag n)),(x,cK cx (bm cx ag (bm cx ag n+1)))]) (bm cx ag (bm cx ag n+1)+1)
  simp only[bH] at hm
  have hk:dN (cK cx (bm cx ag n))=true:=z7 de om
  have az:dN (cK cx (bm cx ag (bm cx ag n+1)))=true:=z7 de om
  unfold bH bw
  rw[wv ag e _ _ (Γ++[(f,.op true A B),(x,A)]) _ hm λs hn hs=>?_]
  rw[Si,z6 Γ]
  by_cases e1:x=s
  ·rw[iP e1,iP e1,z6,iP rfl]
   exact⟨az,rfl,λk hk e=>by have:=pE e;omega⟩
  ·by_cases e2:f=s
   ·rw[iN e1,iN e1,iP e2,iP e2,z6,iN (λe=>by have:=pE e;omega),iP rfl]
    exact⟨hk,rfl,λk hk e=>by have:=pE e;omega⟩
   ·rw[iN e1,iN e1,iN e2,iN e2]
    obtain⟨q1,q2,q3⟩:=h s hn ⟨λe'=>e2 e'.symm,λe'=>e1 e'.symm,hs⟩
    rw[z6,iN (λe=>q3 _ om e.symm),iN (λe=>q3 _ h0.1 e.symm)]
    exact⟨q1,q2,λk hk=>q3 k om⟩
/-! ### The aK that are bound -/
def eN:Ex->List ai
 | .at _=>[]
 | .un _ a=>eN a
 | .bi _ a b=>eN a++eN b
 | .ite a b c=>eN a++(eN b++eN c)
 | .lt x a b=>x::(eN a++eN b)
 | .fn f x _ _ e=>f::x::eN e
theorem wy (ag:List ai):∀(e:Ex) (ρ:Rn) (n:Nat),(eN (bH ag e ρ n).1).Nodup∧∀y,y∈eN (bH ag e ρ n).1->∃k,y=cK cx k∧n<=k∧k<(bH ag e ρ n).2
 | .at s,ρ,n=>by simp[bH,eN]
 | .un hd a,ρ,n=>wy ag a ρ n
 | .bi hd a b,ρ,n=>by
  have h1:=iW ag a ρ n
  have h2:=iW ag b ρ (bH ag a ρ n).2
  obtain⟨a1,a2⟩:=wy ag a ρ n
  obtain⟨b1,b2⟩:=wy ag b ρ (bH ag a ρ n).2
  simp only[bH,eN]
  refine⟨List.nodup_append.2 ⟨a1,b1,λx hx y hy e=>?_⟩,λy hy=>?_⟩
  ·obtain⟨k,rfl,_,hk⟩:=a2 x hx
   obtain⟨j,rfl,hj,_⟩:=b2 y hy
   have:=pE e;omega
  ·rcases mA.1 hy with hy|hy
   ·obtain⟨k,e,p,q⟩:=a2 y hy;exact⟨k,e,p,om⟩
   ·obtain⟨k,e,p,q⟩:=b2 y hy;exact⟨k,e,om,q⟩
 | .ite a b c,ρ,n=>by
  have h1:=iW ag a ρ n
  have h2:=iW ag b ρ (bH ag a ρ n).2
  have h3:=iW ag c ρ (bH ag b ρ (bH ag a ρ n).2).2
  obtain⟨a1,a2⟩:=wy ag a ρ n
  obtain⟨b1,b2⟩:=wy ag b ρ (bH ag a ρ n).2
  obtain⟨c1,c2⟩:=wy ag c ρ (bH ag b ρ (bH ag a ρ n).2).2
  simp only[bH,eN]
  refine⟨List.nodup_append.2 ⟨a1,List.nodup_append.2 ⟨b1,c1,λx hx y hy e=>?_⟩,λx hx y hy e=>?_⟩,λy hy=>?_⟩
  ·obtain⟨k,rfl,_,hk⟩:=b2 x hx
   obtain⟨j,rfl,hj,_⟩:=c2 y hy
   have:=pE e;omega
  ·obtain⟨k,rfl,_,hk⟩:=a2 x hx
   rcases mA.1 hy with hy|hy
   ·obtain⟨j,rfl,hj,_⟩:=b2 y hy
    have:=pE e;omega
   ·obtain⟨j,rfl,hj,_⟩:=c2 y hy
    have:=pE e;omega
  ·rcases mA.1 hy with hy|hy
   ·obtain⟨k,e,p,q⟩:=a2 y hy;exact⟨k,e,p,om⟩
   ·rcases mA.1 hy with hy|hy
    ·obtain⟨k,e,p,q⟩:=b2 y hy;exact⟨k,e,om,om⟩
    ·obtain⟨k,e,p,q⟩:=c2 y hy;exact⟨k,e,om,q⟩
 | .lt x a b,ρ,n=>by
  have h0:=nU cx ag n
  have h1:=iW ag a ρ (bm cx ag n+1)
  have h2:=iW ag b (ρ++[(x,cK cx (bm cx ag n))]) (bH ag a ρ (bm cx ag n+1)).2
  obtain⟨a1,a2⟩:=wy ag a ρ (bm cx ag n+1)
  obtain⟨b1,b2⟩:=wy ag b (ρ++[(x,cK cx (bm cx ag n))]) (bH ag a ρ (bm cx ag n+1)).2
  simp only[bH,eN]
  refine⟨List.nodup_cons.2 ⟨λhx=>?_,List.nodup_append.2 ⟨a1,b1,λx hx y hy e=>?_⟩⟩,λy hy=>?_⟩
  ·rcases mA.1 hx with hx|hx
   ·obtain⟨k,e,p,q⟩:=a2 _ hx;have:=pE e;omega
   ·obtain⟨k,e,p,q⟩:=b2 _ hx;have:=pE e;omega
  ·obtain⟨k,rfl,_,hk⟩:=a2 x hx
   obtain⟨j,rfl,hj,_⟩:=b2 y hy
   have:=pE e;omega
  ·rcases mC.1 hy with rfl|hy
   ·exact⟨_,rfl,om,om⟩
   ·rcases mA.1 hy with hy|hy
    ·obtain⟨k,e,p,q⟩:=a2 y hy;exact⟨k,e,om,om⟩
    ·obtain⟨k,e,p,q⟩:=b2 y hy;exact⟨k,e,om,q⟩
 | .fn f x A B e,ρ,n=>by
  have h0:=nU cx ag n
  have h1:=nU cx ag (bm cx ag n+1)
  have h2:=iW ag e (ρ++[(f,cK cx (bm cx ag n)),(x,cK cx (bm cx ag (bm cx ag n+1)))]) (bm cx ag (bm cx ag n+1)+1)
  obtain⟨a1,a2⟩:=wy ag e (ρ++[(f,cK cx (bm cx ag n)),(x,cK cx (bm cx ag (bm cx ag n+1)))]) (bm cx ag (bm cx ag n+1)+1)
  simp only[bH,eN]
  refine⟨List.nodup_cons.2 ⟨λhx=>?_,List.nodup_cons.2 ⟨λhx=>?_,a1⟩⟩,λy hy=>?_⟩
  ·rcases mC.1 hx with hx|hx
   ·have:=pE hx;omega
   ·obtain⟨k,e,p,q⟩:=a2 _ hx;have:=pE e;omega
  ·obtain⟨k,e,p,q⟩:=a2 _ hx;have:=pE e;omega
  ·rcases mC.1 hy with rfl|hy
   ·exact⟨_,rfl,om,om⟩
   ·rcases mC.1 hy with rfl|hy
    ·exact⟨_,rfl,om,om⟩
    ·obtain⟨k,e,p,q⟩:=a2 y hy;exact⟨k,e,om,q⟩
theorem pG:∀{e:Ex} {Γ:Sc} {T:Ty},bw e Γ=some T->Fv s e->(look Γ s).isSome=true
 | .at x,Γ,T,h,hs=>by
  obtain⟨rfl,hn⟩:=hs
  unfold bw at h;rw[iP hn] at h;rw[h];rfl
 | .un hd a,Γ,T,h,hs=>by
  unfold bw at h
  cases ha:bw a Γ with
  |none=>rw[ha] at h;cases h
  |some A=>exact pG ha hs
 | .bi hd a b,Γ,T,h,hs=>by
  unfold bw at h
  cases ha:bw a Γ with
  |none=>rw[ha] at h;cases h
  |some A=>
   cases hb:bw b Γ with
   |none=>rw[ha,hb] at h;cases h
   |some B=>exact hs.elim (pG ha) (pG hb)
 | .ite a b c,Γ,T,h,hs=>by
  unfold bw at h
  cases ha:bw a Γ with
  |none=>rw[ha] at h;cases h
  |some A=>
   cases hb:bw b Γ with
   |none=>rw[ha,hb] at h;cases h
   |some B=>
    cases hc:bw c Γ with
    |none=>rw[ha,hb,hc] at h;cases h
    |some C=>exact hs.elim (pG ha) λhs=>hs.elim (pG hb) (pG hc)
 | .lt x a b,Γ,T,h,hs=>by
  unfold bw at h
  cases ha:bw a Γ with
  |none=>rw[ha] at h;cases h
  |some A=>
   rw[ha,Option.bind_some] at h
   rcases hs with hs|⟨dL,hs⟩
   ·exact pG ha hs
   ·have:=pG h hs
    rw[oL,iN (λe=>dL e.symm)] at this;exact this
 | .fn f x A B e,Γ,T,h,hs=>by
  unfold bw at h
  split at h
  ·cases he:bw e (Γ++[(f,.op true A B),(x,A)]) with
   |none=>rw[he] at h;cases h
   |some C=>
    obtain⟨h1,h2,h3⟩:=hs
    have:=pG he h3
    rw[z6,iN (λe=>h2 e.symm),iN (λe=>h1 e.symm)] at this;exact this
  ·cases h
abbrev Bs:=List (ai×Ex)
abbrev cy:UInt8:=121
def nest (bs:Bs) (e:Ex):Ex:=bs.foldr (λp e=>.lt p.1 p.2 e) e
def dB (ag:List ai) (r:Bs×Ex×Nat):Bs×Ex×Nat:=
 if r.2.1.iv=true then r else(r.1++[(cK cy (bm cy ag r.2.2),r.2.1)],.at (cK cy (bm cy ag r.2.2)),bm cy ag r.2.2+1)
def aY (ag:List ai):Ex->Nat->Bs×Ex×Nat
 | .at s,n=>([],.at s,n)
 | .un h a,n=>((dB ag (aY ag a n)).1,.un h (dB ag (aY ag a n)).2.1,(dB ag (aY ag a n)).2.2)
 | .bi h a b,n=>((dB ag (aY ag a n)).1++(dB ag (aY ag b (dB ag (aY ag a n)).2.2)).1,.bi h (dB ag (aY ag a n)).2.1 (dB ag (aY ag b (dB ag (aY ag a n)).2.2)).2.1,(dB ag (aY ag b (dB ag (aY ag a n)).2.2)).2.2)
 | .ite a b c,n=>((dB ag (aY ag a n)).1,.ite (dB ag (aY ag a n)).2.1 (nest (aY ag b (dB ag (aY ag a n)).2.2).1 (aY ag b (dB ag (aY ag a n)).2.2).2.1)
   (nest (aY ag c (aY ag b (dB ag (aY ag a n)).2.2).2.2).1 (aY ag c (aY ag b (dB ag (aY ag a n)).2.2).2.2).2.1),(aY ag c (aY ag b (dB ag (aY ag a n)).2.2).2.2).2.2)
 | .lt x a b,n=>((aY ag a n).1++(x,(aY ag a n).2.1)::(aY ag b (aY ag a n).2.2).1,(aY ag b (aY ag a n).2.2).2.1,(aY ag b (aY ag a n).2.2).2.2)
 | .fn f x A B e,n=>([],.fn f x A B (nest (aY ag e n).1 (aY ag e n).2.1),(aY ag e n).2.2)
def mv (ag:List ai) (e:Ex) (n:Nat):Ex:=nest (aY ag e n).1 (aY ag e n).2.1
/-! ### How many aK -/
theorem qk (ag:List ai) (r:Bs×Ex×Nat):r.2.2<=(dB ag r).2.2∧(dB ag r).2.2<=r.2.2+ag.length+2:=by grind [dB,nU]
theorem ic (ag:List ai):∀(e:Ex) (n:Nat),n<=(aY ag e n).2.2∧(aY ag e n).2.2+2*(ag.length+2)<=n+e.n*(2*(ag.length+2))
 | .at s,n=>⟨lR _,by simp only[aY,Ex.n];omega⟩
 | .un h a,n=>by
  have:=ic ag a n
  have:=qk ag (aY ag a n)
  simp only[aY,Ex.n,Nat.add_mul];omega
 | .bi h a b,n=>by
  have:=ic ag a n
  have:=qk ag (aY ag a n)
  have:=ic ag b (dB ag (aY ag a n)).2.2
  have:=qk ag (aY ag b (dB ag (aY ag a n)).2.2)
  simp only[aY,Ex.n,Nat.add_mul];omega
 | .ite a b c,n=>by
  have:=ic ag a n
  have:=qk ag (aY ag a n)
  have:=ic ag b (dB ag (aY ag a n)).2.2
  have:=ic ag c (aY ag b (dB ag (aY ag a n)).2.2).2.2
  simp only[aY,Ex.n,Nat.add_mul];omega
 | .lt x a b,n=>by
  have:=ic ag a n
  have:=ic ag b (aY ag a n).2.2
  simp only[aY,Ex.n,Nat.add_mul];omega
 | .fn f x A B e,n=>by
  have:=ic ag e n
  simp only[aY,Ex.n,Nat.add_mul];omega
/-! ### Types -/
def qU:Bs->Sc->Option Sc
 |[],Γ=>some Γ
 |(x,s)::bs,Γ=>(bw s Γ).bind λT=>qU bs (Γ++[(x,T)])
theorem IL (bs:Bs) (e:Ex) (Γ:Sc):bw (nest bs e) Γ=(qU bs Γ).bind (bw e):=by induction bs generalizing Γ<;>grind [bw,nest,qU]
theorem Mi (bs cs:Bs) (Γ:Sc):qU (bs++cs) Γ=(qU bs Γ).bind (qU cs):=by
 induction bs generalizing Γ with
 |nil=>rfl
 |cons p bs ih=>
  obtain⟨x,s⟩:=p
  show(bw s Γ).bind (λT=>qU (bs++cs) (Γ++[(x,T)]))=((bw s Γ).bind λT=>qU bs (Γ++[(x,T)])).bind (qU cs)
  cases bw s Γ with
  |none=>rfl
  |some T=>exact ih _
def DZ (Δ:Sc) (s:ai):Prop:=∀p,p∈Δ->p.1≠s
theorem F6 {Γ Δ:Sc} (h:DZ Δ s):look (Γ++Δ) s=look Γ s:=by grind [DZ,look]
def p7 (ag:List ai) (e:Ex) (n m:Nat) (y:ai):Prop:=y∈eN e∨∃k,y=cK cy k∧n<=k∧k<m∧y∉ag
structure Made (ag:List ai) (e:Ex) (n:Nat) (r:Bs×Ex×Nat) (Γ:Sc) (T:Ty) (Δ:Sc):Prop where
 binds:qU r.1 Γ=some (Γ++Δ)
 type:bw r.2.1 (Γ++Δ)=some T
 aK:∀p,p∈Δ->p7 ag e n r.2.2 p.1
def z8 (ag:List ai) (e:Ex) (n:Nat) (r:Bs×Ex×Nat):Prop:=∀s,(Fv s r.2.1∨∃p,p∈r.1∧Fv s p.2)->Fv s e∨p7 ag e n r.2.2 s
structure Sk (ag:List ai) (e:Ex):Prop where
 nodup:(eN e).Nodup
 nofree:∀x,x∈eN e->¬Fv x e
 noted:∀x,x∈eN e∨Fv x e->x∈ag
theorem p7.more {ag:List ai} {e':Ex} {n':Nat} {y:ai} (h:p7 ag e n m y) (hb:∀x,x∈eN e->x∈eN e') (hn:n'<=n) (hm:m<=m'):p7 ag e' n' m' y:=by grind [p7,eN]
theorem z8.aw {ag:List ai} {r:Bs×Ex×Nat} (h:z8 ag e n r) (hn:n<=r.2.2):z8 ag e n (dB ag r):=by grind [z8,dB,Fv,p7,bm,nU,IJ]
theorem Mj:∀(bs:Bs) (e:Ex) (s:ai),Fv s (nest bs e)->Fv s e∨∃p,p∈bs∧Fv s p.2:=by intro x;induction x<;>grind [Fv,nest]
theorem z8.sub {ag:List ai} {e':Ex} {n':Nat} {r:Bs×Ex×Nat} (h:z8 ag e n r) (hf:∀s,Fv s e->Fv s e'∨s∈eN e') (hb:∀x,x∈eN e->x∈eN e') (hn:n'<=n) (hm:r.2.2<=m') (hs:Fv s r.2.1∨∃p,p∈r.1∧Fv s p.2):Fv s e'∨p7 ag e' n' m' s:=by grind [z8,Fv,eN,p7]
theorem wA (ag:List ai):∀(e:Ex) (n:Nat),z8 ag e n (aY ag e n)
 | .at s,n=>λs hs=>hs.elim .inl fun⟨p,hp,_⟩=>by simp[aY] at hp
 | .un hd a,n=>λs hs=>((wA ag a n).aw (ic ag a n).1).sub (λs h=>.inl h) (λx h=>h) (lR _) (lR _) hs
 | .bi hd a b,n=>λs hs=>by
  have h1:=ic ag a n
  have h2:=qk ag (aY ag a n)
  have h3:=ic ag b (dB ag (aY ag a n)).2.2
  have h4:=qk ag (aY ag b (dB ag (aY ag a n)).2.2)
  have ha:=((wA ag a n).aw h1.1).sub (e':=.bi hd a b) (n':=n) (m':=(aY ag (.bi hd a b) n).2.2) (λs h=>.inl (.inl h)) (λx h=>mA.2 (.inl h)) (lR _) (by simp only[aY];omega) (s:=s)
  have hb:=((wA ag b (dB ag (aY ag a n)).2.2).aw h3.1).sub (e':=.bi hd a b) (n':=n) (m':=(aY ag (.bi hd a b) n).2.2) (λs h=>.inl (.inr h)) (λx h=>mA.2 (.inr h)) om (by simp only[aY];omega) (s:=s)
  rcases hs with(hs|hs)|⟨p,hp,hs⟩
  ·exact ha (.inl hs)
  ·exact hb (.inl hs)
  ·rcases mA.1 hp with hp|hp
   ·exact ha (.inr ⟨p,hp,hs⟩)
   ·exact hb (.inr ⟨p,hp,hs⟩)
 | .ite a b c,n=>λs hs=>by
  have h1:=ic ag a n
  have h2:=qk ag (aY ag a n)
  have h3:=ic ag b (dB ag (aY ag a n)).2.2
  have h4:=ic ag c (aY ag b (dB ag (aY ag a n)).2.2).2.2
  have ha:=((wA ag a n).aw h1.1).sub (e':=.ite a b c) (n':=n) (m':=(aY ag (.ite a b c) n).2.2) (λs h=>.inl (.inl h)) (λx h=>mA.2 (.inl h)) (lR _) (by simp only[aY];omega) (s:=s)
  have hb:=(wA ag b (dB ag (aY ag a n)).2.2).sub (e':=.ite a b c) (n':=n) (m':=(aY ag (.ite a b c) n).2.2) (λs h=>.inl (.inr (.inl h))) (λx h=>mA.2 (.inr (mA.2 (.inl h)))) om (by simp only[aY];omega) (s:=s)
  have hc:=(wA ag c (aY ag b (dB ag (aY ag a n)).2.2).2.2).sub (e':=.ite a b c) (n':=n) (m':=(aY ag (.ite a b c) n).2.2) (λs h=>.inl (.inr (.inr h))) (λx h=>mA.2 (.inr (mA.2 (.inr h)))) om (by simp only[aY];omega) (s:=s)
  rcases hs with(hs|hs|hs)|⟨p,hp,hs⟩
  ·exact ha (.inl hs)
  ·exact hb (Mj _ _ _ hs)
  ·exact hc (Mj _ _ _ hs)
  ·exact ha (.inr ⟨p,hp,hs⟩)
 | .lt x a b,n=>λs hs=>by
  have h1:=ic ag a n
  have h3:=ic ag b (aY ag a n).2.2
  have ha:=(wA ag a n).sub (e':=.lt x a b) (n':=n) (m':=(aY ag (.lt x a b) n).2.2) (λs h=>.inl (.inl h)) (λy h=>mK _ (mA.2 (.inl h))) (lR _) (by simp only[aY];omega) (s:=s)
  have hb:=(wA ag b (aY ag a n).2.2).sub (e':=.lt x a b) (n':=n) (m':=(aY ag (.lt x a b) n).2.2) (λs h=>by
   by_cases e:s=x
   ·exact .inr (by rw[e];exact List.mem_cons_self ..)
   ·exact .inl (.inr ⟨e,h⟩)) (λy h=>mK _ (mA.2 (.inr h))) om (by simp only[aY];omega) (s:=s)
  rcases hs with hs|⟨p,hp,hs⟩
  ·exact hb (.inl hs)
  ·rcases mA.1 hp with hp|hp
   ·exact ha (.inr ⟨p,hp,hs⟩)
   ·rcases mC.1 hp with rfl|hp
    ·exact ha (.inl hs)
    ·exact hb (.inr ⟨p,hp,hs⟩)
 | .fn f x A B e,n=>λs hs=>by
  rcases hs with⟨h1,h2,hs⟩|⟨p,hp,_⟩
  ·rcases wA ag e n s (Mj _ _ _ hs) with h|h
   ·exact .inl ⟨h1,h2,h⟩
   ·exact .inr (h.more (λy hy=>mK _ (mK _ hy)) (lR _) (lR _))
  ·simp[aY] at hp
theorem Made.aw {ag:List ai} {r:Bs×Ex×Nat} {Γ:Sc} {T:Ty} {Δ:Sc} (h:Made ag e n r Γ T Δ) (hn:n<=r.2.2) (Ml:(dB ag r).2.2<=1000):∃Δ',Made ag e n (dB ag r) Γ T Δ':=by
 unfold dB at Ml⊢
 have hf:=nU cy ag r.2.2
 have wG:=IJ cy ag r.2.2
 split
 ·exact⟨Δ,h⟩
 ·rename_i eJ
  rw[iN eJ] at Ml
  have hk:dN (cK cy (bm cy ag r.2.2))=true:=z7 de (by dsimp only at Ml;omega)
  refine⟨Δ++[(cK cy (bm cy ag r.2.2),T)],⟨?_,?_,?_⟩⟩
  ·rw[Mi,h.binds,Option.bind_some]
   show(bw r.2.1 (Γ++Δ)).bind _=_
   rw[h.type,Option.bind_some,List.append_assoc];rfl
  ·show(if dN (cK cy (bm cy ag r.2.2))=true then look (Γ++(Δ++[(cK cy (bm cy ag r.2.2),T)])) (cK cy (bm cy ag r.2.2)) else some Ty.i)=some T
   rw[iP hk,<-List.append_assoc,oL,iP rfl]
  ·intro p hp
   rcases mA.1 hp with hp|hp
   ·exact(h.aK p hp).more (λx hx=>hx) (lR _) (by dsimp only;omega)
   ·simp only[List.mem_singleton] at hp
    subst hp
    exact .inr ⟨_,rfl,om,by dsimp only;omega,wG⟩
theorem IM {ag:List ai} {a:Ex} {Δ:Sc} (h:∀p,p∈Δ->p7 ag a n m p.1) (h1:s∉eN a) (h2:s∈ag):DZ Δ s:=by grind [p7,eN,DZ]
theorem adV {ag:List ai} {a b:Ex} {Δ:Sc} (hs:Fv s a∨p7 ag a n m s) (h:∀p,p∈Δ->p7 ag b m m' p.1) (h1:∀x,x∈eN b->¬Fv x a) (h2:∀x,x∈eN b->x∉eN a) (h3:∀x,x∈eN b->x∈ag) (h4:∀x,x∈eN a∨Fv x a->x∈ag):DZ Δ s:=by grind [Fv,p7,eN,DZ,pE]
theorem made (ag:List ai):∀(e:Ex) (n:Nat) (Γ:Sc) (T:Ty),Sk ag e->(aY ag e n).2.2<=1000->bw e Γ=some T->∃Δ,Made ag e n (aY ag e n) Γ T Δ
 | .at s,n,Γ,T,hu,hm,h=>⟨[],⟨by simp[aY,qU],by simpa[aY] using h,sm⟩⟩
 | .un hd a,n,Γ,T,hu,hm,h=>by
  have h1:=ic ag a n
  have h2:=qk ag (aY ag a n)
  simp only[aY] at hm
  unfold bw at h
  cases ha:bw a Γ with
  |none=>rw[ha] at h;cases h
  |some A=>
   rw[ha,Option.bind_some] at h
   obtain⟨Δ,hΔ⟩:=made ag a n Γ A ⟨hu.nodup,hu.nofree,hu.noted⟩ om ha
   obtain⟨Δ',hΔ'⟩:=hΔ.aw h1.1 hm
   refine⟨Δ',⟨hΔ'.binds,?_,hΔ'.aK⟩⟩
   show(bw (dB ag (aY ag a n)).2.1 (Γ++Δ')).bind (λA=>kB hd [A])=some T
   rw[hΔ'.type,Option.bind_some];exact h
 | .bi hd a b,n,Γ,T,hu,hm,h=>by
  have h1:=ic ag a n
  have h2:=qk ag (aY ag a n)
  have h3:=ic ag b (dB ag (aY ag a n)).2.2
  have h4:=qk ag (aY ag b (dB ag (aY ag a n)).2.2)
  have oN:=(wA ag a n).aw h1.1
  simp only[aY] at hm
  unfold bw at h
  cases ha:bw a Γ with
  |none=>rw[ha] at h;cases h
  |some A=>
   cases hb:bw b Γ with
   |none=>rw[ha,hb] at h;cases h
   |some B=>
    rw[ha,hb,Option.bind_some,Option.bind_some] at h
    have iS:=List.nodup_append.1 hu.nodup
    obtain⟨Δ1,hΔ1⟩:=made ag a n Γ A ⟨iS.1,λx hx hf=>hu.nofree x (mA.2 (.inl hx)) (.inl hf),λx hx=>hu.noted x (hx.imp (λh=>mA.2 (.inl h)) .inl)⟩ om ha
    obtain⟨Δ1',hΔ1'⟩:=hΔ1.aw h1.1 om
    have gN:bw b (Γ++Δ1')=some B:=by
     rw[<-hb]
     refine qi b _ _ λs hn hs=>F6 (IM hΔ1'.aK (λhx=>hu.nofree s (mA.2 (.inl hx)) (.inr hs)) (hu.noted s (.inr (.inr hs))))
    obtain⟨Δ2,hΔ2⟩:=made ag b (dB ag (aY ag a n)).2.2 (Γ++Δ1') B ⟨iS.2.1,λx hx hf=>hu.nofree x (mA.2 (.inr hx)) (.inr hf),λx hx=>hu.noted x (hx.imp (λh=>mA.2 (.inr h)) .inr)⟩ om gN
    obtain⟨Δ2',hΔ2'⟩:=hΔ2.aw h3.1 hm
    refine⟨Δ1'++Δ2',⟨?_,?_,?_⟩⟩
    ·show qU (_++_) Γ=_
     rw[Mi,hΔ1'.binds,Option.bind_some,hΔ2'.binds,List.append_assoc]
    ·show(bw (dB ag (aY ag a n)).2.1 (Γ++(Δ1'++Δ2'))).bind (λA=>(bw (dB ag (aY ag b (dB ag (aY ag a n)).2.2)).2.1 (Γ++(Δ1'++Δ2'))).bind λB=>kB hd [A,B])=some T
     have e1:bw (dB ag (aY ag a n)).2.1 (Γ++(Δ1'++Δ2'))=some A:=by
      rw[<-hΔ1'.type,<-List.append_assoc]
      refine qi _ _ _ λs hn hs=>F6 (adV (oN s (.inl hs)) hΔ2'.aK ?_ ?_ ?_ ?_)
      ·exact λx hx hf=>hu.nofree x (mA.2 (.inr hx)) (.inl hf)
      ·exact λx hx fj=>iS.2.2 x fj x hx rfl
      ·exact λx hx=>hu.noted x (.inl (mA.2 (.inr hx)))
      ·exact λx hx=>hu.noted x (hx.imp (λh=>mA.2 (.inl h)) .inl)
     rw[e1,Option.bind_some,<-List.append_assoc,hΔ2'.type,Option.bind_some];exact h
    ·intro p hp
     rcases mA.1 hp with hp|hp
     ·exact(hΔ1'.aK p hp).more (λx hx=>mA.2 (.inl hx)) (lR _) (by simp only[aY];omega)
     ·exact(hΔ2'.aK p hp).more (λx hx=>mA.2 (.inr hx)) om (by simp only[aY];omega)
 | .ite a b c,n,Γ,T,hu,hm,h=>by
  have h1:=ic ag a n
  have h2:=qk ag (aY ag a n)
  have h3:=ic ag b (dB ag (aY ag a n)).2.2
  have h4:=ic ag c (aY ag b (dB ag (aY ag a n)).2.2).2.2
  simp only[aY] at hm
  unfold bw at h
  cases ha:bw a Γ with
  |none=>rw[ha] at h;cases h
  |some A=>
   cases hb:bw b Γ with
   |none=>rw[ha,hb] at h;cases h
   |some B=>
    cases hc:bw c Γ with
    |none=>rw[ha,hb,hc] at h;cases h
    |some C=>
     rw[ha,hb,hc,Option.bind_some,Option.bind_some,Option.bind_some] at h
     have iS:=List.nodup_append.1 hu.nodup
     have Sl:=List.nodup_append.1 iS.2.1
     have inB:∀x,x∈eN b->x∈eN (.ite a b c):=λx hx=>mA.2 (.inr (mA.2 (.inl hx)))
     have inC:∀x,x∈eN c->x∈eN (.ite a b c):=λx hx=>mA.2 (.inr (mA.2 (.inr hx)))
     have inA:∀x,x∈eN a->x∈eN (.ite a b c):=λx hx=>mA.2 (.inl hx)
     obtain⟨Δ1,hΔ1⟩:=made ag a n Γ A ⟨iS.1,λx hx hf=>hu.nofree x (inA x hx) (.inl hf),λx hx=>hu.noted x (hx.imp (inA x) .inl)⟩ om ha
     obtain⟨Δ1',hΔ1'⟩:=hΔ1.aw h1.1 om
     have gN:bw b (Γ++Δ1')=some B:=by
      rw[<-hb]
      refine qi b _ _ λs hn hs=>F6 (IM hΔ1'.aK (λhx=>hu.nofree s (inA s hx) (.inr (.inl hs))) (hu.noted s (.inr (.inr (.inl hs)))))
     have px:bw c (Γ++Δ1')=some C:=by
      rw[<-hc]
      refine qi c _ _ λs hn hs=>F6 (IM hΔ1'.aK (λhx=>hu.nofree s (inA s hx) (.inr (.inr hs))) (hu.noted s (.inr (.inr (.inr hs)))))
     obtain⟨Δ2,hΔ2⟩:=made ag b (dB ag (aY ag a n)).2.2 (Γ++Δ1') B ⟨Sl.1,λx hx hf=>hu.nofree x (inB x hx) (.inr (.inl hf)),λx hx=>hu.noted x (hx.imp (inB x) λh=>.inr (.inl h))⟩ om gN
     obtain⟨Δ3,hΔ3⟩:=made ag c (aY ag b (dB ag (aY ag a n)).2.2).2.2 (Γ++Δ1') C ⟨Sl.2.1,λx hx hf=>hu.nofree x (inC x hx) (.inr (.inr hf)),λx hx=>hu.noted x (hx.imp (inC x) λh=>.inr (.inr h))⟩ hm px
     refine⟨Δ1',⟨hΔ1'.binds,?_,?_⟩⟩
     ·show(bw (dB ag (aY ag a n)).2.1 (Γ++Δ1')).bind (λA=>(bw (nest _ _) (Γ++Δ1')).bind λB=>(bw (nest _ _) (Γ++Δ1')).bind λC=>kB gj [A,B,C])=some T
      rw[hΔ1'.type,IL,IL,hΔ2.binds,hΔ3.binds,Option.bind_some,Option.bind_some,Option.bind_some,hΔ2.type,hΔ3.type,Option.bind_some,Option.bind_some];exact h
     ·exact λp hp=>(hΔ1'.aK p hp).more inA (lR _) (by simp only[aY];omega)
 | .lt x a b,n,Γ,T,hu,hm,h=>by
  have h1:=ic ag a n
  have h3:=ic ag b (aY ag a n).2.2
  simp only[aY] at hm
  unfold bw at h
  cases ha:bw a Γ with
  |none=>rw[ha] at h;cases h
  |some A=>
   rw[ha,Option.bind_some] at h
   have F7:=List.nodup_cons.1 hu.nodup
   have iS:=List.nodup_append.1 F7.2
   have inA:∀y,y∈eN a->y∈eN (.lt x a b):=λy hy=>mK _ (mA.2 (.inl hy))
   have inB:∀y,y∈eN b->y∈eN (.lt x a b):=λy hy=>mK _ (mA.2 (.inr hy))
   have Sm:x∈eN (.lt x a b):=List.mem_cons_self ..
   obtain⟨Δ1,hΔ1⟩:=made ag a n Γ A ⟨iS.1,λy hy hf=>hu.nofree y (inA y hy) (.inl hf),λy hy=>hu.noted y (hy.imp (inA y) .inl)⟩ om ha
   have gN:bw b (Γ++(Δ1++[(x,A)]))=some T:=by
    rw[<-h,<-List.append_assoc]
    refine qi b _ _ λs hn hs=>?_
    rw[oL,oL]
    by_cases e:x=s
    ·rw[iP e,iP e]
    ·rw[iN e,iN e]
     have D0:Fv s (.lt x a b):=.inr ⟨λe'=>e e'.symm,hs⟩
     exact F6 (IM hΔ1.aK (λhx=>hu.nofree s (inA s hx) D0) (hu.noted s (.inr D0)))
   obtain⟨Δ2,hΔ2⟩:=made ag b (aY ag a n).2.2 (Γ++(Δ1++[(x,A)])) T ⟨iS.2.1,λy hy hf=>by
    by_cases e:y=x
    ·exact F7.1 (e▸mA.2 (.inr hy))
    ·exact hu.nofree y (inB y hy) (.inr ⟨e,hf⟩),λy hy=>by
    by_cases e:y=x
    ·rw[e];exact hu.noted x (.inl Sm)
    ·exact hu.noted y (hy.imp (inB y) λh=>.inr ⟨e,h⟩)⟩ hm gN
   refine⟨Δ1++(x,A)::Δ2,⟨?_,?_,?_⟩⟩
   ·show qU (_++(x,_)::_) Γ=_
    rw[Mi,hΔ1.binds,Option.bind_some]
    show(bw (aY ag a n).2.1 (Γ++Δ1)).bind (λT=>qU _ ((Γ++Δ1)++[(x,T)]))=_
    rw[hΔ1.type,Option.bind_some,List.append_assoc,hΔ2.binds]
    simp
   ·show bw (aY ag b (aY ag a n).2.2).2.1 _=some T
    have:=hΔ2.type
    rw[show Γ++(Δ1++(x,A)::Δ2)=Γ++(Δ1++[(x,A)])++Δ2 from by simp];exact this
   ·intro p hp
    rcases mA.1 hp with hp|hp
    ·exact(hΔ1.aK p hp).more inA (lR _) (by simp only[aY];omega)
    ·rcases mC.1 hp with rfl|hp
     ·exact .inl Sm
     ·exact(hΔ2.aK p hp).more inB om (by simp only[aY];omega)
 | .fn f x A B e,n,Γ,T,hu,hm,h=>by
  simp only[aY] at hm
  unfold bw at h
  split at h
  ·rename_i hc
   cases he:bw e (Γ++[(f,.op true A B),(x,A)]) with
   |none=>rw[he] at h;cases h
   |some C=>
    rw[he,Option.bind_some] at h
    have F7:=List.nodup_cons.1 hu.nodup
    have iS:=List.nodup_cons.1 F7.2
    have inE:∀y,y∈eN e->y∈eN (.fn f x A B e):=λy hy=>mK _ (mK _ hy)
    obtain⟨Δ1,hΔ1⟩:=made ag e n (Γ++[(f,.op true A B),(x,A)]) C ⟨iS.2,λy hy hf=>by
     by_cases e1:y=x
     ·exact iS.1 (e1▸hy)
     ·by_cases e2:y=f
      ·exact F7.1 (e2▸mK _ hy)
      ·exact hu.nofree y (inE y hy) ⟨e2,e1,hf⟩,λy hy=>by
     by_cases e1:y=x
     ·rw[e1];exact hu.noted x (.inl (mK _ (List.mem_cons_self ..)))
     ·by_cases e2:y=f
      ·rw[e2];exact hu.noted f (.inl (List.mem_cons_self ..))
      ·exact hu.noted y (hy.imp (inE y) λh=>⟨e2,e1,h⟩)⟩ hm he
    refine⟨[],⟨by simp[aY,qU],?_,sm⟩⟩
    show(if 1+A.n+B.n<=16 then(bw (nest (aY ag e n).1 (aY ag e n).2.1) ((Γ++[])++[(f,.op true A B),(x,A)])).bind λC=>if kA C B then some (.op true A B) else none else none)=some T
    rw[iP hc,List.append_nil,IL,hΔ1.binds,Option.bind_some,hΔ1.type,Option.bind_some];exact h
  ·cases h
theorem adW {ag:List ai} {Γ:Sc} {T:Ty} (hu:Sk ag e) (hm:(aY ag e n).2.2<=1000) (h:bw e Γ=some T):bw (mv ag e n) Γ=some T:=by
 obtain⟨Δ,hΔ⟩:=made ag e n Γ T hu hm h
 unfold mv
 rw[IL,hΔ.binds,Option.bind_some,hΔ.type]
/-! ### Atoms of a form -/
mutual
def kZ:aq->List ai->List ai
 | .mk a ps,l=>if a≠[] then(if a∈l then l else l++[a]) else oR ps l
def oR:List aq->List ai->List ai
 |[],l=>l
 |t::ts,l=>oR ts (kZ t l)
end
theorem Sn (t:aq) (l:List ai):kZ t l=if t.aw≠[] then(if t.aw∈l then l else l++[t.aw]) else oR t.ak l:=by cases t with|mk a ps=>rw[kZ];rfl
theorem adX:∀(xs ys:List aq) (l:List ai),oR (xs++ys) l=oR ys (oR xs l):=by intro x;induction x<;>grind [oR]
theorem adY {ps:List aq} {p:aq} (h:ps[i]?=some p) (l:List ai):oR (ps.take (i+1)) l=kZ p (oR (ps.take i) l):=by
 rw[List.take_add_one,h,adX];rfl
mutual
theorem adZ:∀(t:aq) (l:List ai),x∈l->x∈kZ t l
 | .mk a ps,l,h=>by
  unfold kZ
  split
  ·split
   ·exact h
   ·exact mA.2 (.inl h)
  ·exact Mm ps l h
theorem Mm:∀(ps:List aq) (l:List ai),x∈l->x∈oR ps l
 |[],l,h=>h
 |t::ts,l,h=>by unfold oR;exact Mm ts _ (adZ t l h)
end
mutual
theorem So:∀(t:aq) (l:List ai),(kZ t l).length<=l.length+fh t
 | .mk a ps,l=>by
  unfold kZ fh
  split
  ·split
   ·omega
   ·simp
  ·exact Mn ps l
theorem Mn:∀(ps:List aq) (l:List ai),(oR ps l).length<=l.length+jw ps
 |[],l=>by simp[oR,jw]
 |t::ts,l=>by
  have h1:=So t l
  have h2:=Mn ts (kZ t l)
  unfold oR jw;omega
end
theorem ad0:∀{ps:List aq} {l:List ai} {p:aq},p∈ps->(∀l,x∈kZ p l)->x∈oR ps l:=by intro x;induction x<;>grind [oR,Mm]
theorem IN (hx:x≠[]) (l:List ai):x∈kZ (bJ x) l:=by grind [kZ,bJ]
theorem tM {ps:List aq} {p:aq} (hp:p∈ps) (h:∀l,x∈kZ p l) (l:List ai):x∈kZ (.mk [] ps) l:=by grind [kZ,ad0]
theorem wH:∀{e:Ex},e.ok->(x∈eN e∨Fv x e)->∀l,x∈kZ e.au l
 | .at s,h,hx,l=>by
  rcases hx with hx|⟨rfl,_⟩
  ·simp[eN] at hx
  ·exact IN (pD h) l
 | .un hd a,h,hx,l=>tM (p:=a.au) sm (wH h.2 hx) l
 | .bi hd a b,h,hx,l=>by
  have ha:(x∈eN a∨Fv x a)∨(x∈eN b∨Fv x b):=by
   rcases hx with hx|hx
   ·rcases mA.1 hx with h|h
    ·exact .inl (.inl h)
    ·exact .inr (.inl h)
   ·rcases hx with h|h
    ·exact .inl (.inr h)
    ·exact .inr (.inr h)
  rcases ha with ha|hb
  ·exact tM (p:=a.au) sm (wH h.2.1 ha) l
  ·exact tM (p:=b.au) sm (wH h.2.2 hb) l
 | .ite a b c,h,hx,l=>by
  have ha:(x∈eN a∨Fv x a)∨(x∈eN b∨Fv x b)∨(x∈eN c∨Fv x c):=by
   rcases hx with hx|hx
   ·rcases mA.1 hx with h|h
    ·exact .inl (.inl h)
    ·rcases mA.1 h with h|h
     ·exact .inr (.inl (.inl h))
     ·exact .inr (.inr (.inl h))
   ·rcases hx with h|h|h
    ·exact .inl (.inr h)
    ·exact .inr (.inl (.inr h))
    ·exact .inr (.inr (.inr h))
  rcases ha with ha|hb|hc
  ·exact tM (p:=a.au) sm (wH h.1 ha) l
  ·exact tM (p:=b.au) sm (wH h.2.1 hb) l
  ·exact tM (p:=c.au) sm (wH h.2.2 hc) l
 | .lt y a b,h,hx,l=>by
  have ha:x=y∨(x∈eN a∨Fv x a)∨(x∈eN b∨Fv x b):=by
   rcases hx with hx|hx
   ·rcases mC.1 hx with h|h
    ·exact .inl h
    ·rcases mA.1 h with h|h
     ·exact .inr (.inl (.inl h))
     ·exact .inr (.inr (.inl h))
   ·rcases hx with h|⟨_,h⟩
    ·exact .inr (.inl (.inr h))
    ·exact .inr (.inr (.inr h))
  rcases ha with rfl|ha|hb
  ·exact tM (p:=bJ x) sm (λl=>IN (uX h.1) l) l
  ·exact tM (p:=a.au) sm (wH h.2.1 ha) l
  ·exact tM (p:=b.au) sm (wH h.2.2 hb) l
 | .fn f y A B e,h,hx,l=>by
  obtain⟨hf,hy,_,_,_,he⟩:=h
  have ha:x=f∨x=y∨(x∈eN e∨Fv x e):=by
   rcases hx with hx|hx
   ·rcases mC.1 hx with h|h
    ·exact .inl h
    ·rcases mC.1 h with h|h
     ·exact .inr (.inl h)
     ·exact .inr (.inr (.inl h))
   ·exact .inr (.inr (.inr hx.2.2))
  rcases ha with rfl|rfl|ha
  ·exact tM (p:=bJ x) sm (λl=>IN (uX hf) l) l
  ·exact tM (p:=bJ x) sm (λl=>IN (uX hy) l) l
  ·exact tM (p:=e.au) sm (wH he ha) l
/-! ### Expressions stay expressions -/
structure IP (r:Bs×Ex×Nat):Prop where
 out:r.2.1.ok
 bs:∀p,p∈r.1->dN p.1=true∧p.2.ok
theorem IP.aw {ag:List ai} {r:Bs×Ex×Nat} (h:IP r) (hm:(dB ag r).2.2<=1000):IP (dB ag r):=by
 unfold dB at hm⊢
 split
 ·exact h
 ·rename_i eJ
  rw[iN eJ] at hm
  have hk:dN (cK cy (bm cy ag r.2.2))=true:=z7 de (by dsimp only at hm;omega)
  refine⟨?_,λp hp=>?_⟩
  ·show qg _=true
   unfold qg;rw[hk];simp
  ·rcases mA.1 hp with hp|hp
   ·exact h.bs p hp
   ·simp only[List.mem_singleton] at hp
    subst hp
    exact⟨hk,h.out⟩
theorem IQ:∀{bs:Bs} {e:Ex},(∀p,p∈bs->dN p.1=true∧p.2.ok)->e.ok->(nest bs e).ok:=by intro x;induction x<;>grind [dN,Ex.ok,nest]
theorem wI (ag:List ai):∀(e:Ex) (n:Nat),e.ok->(aY ag e n).2.2<=1000->IP (aY ag e n)
 | .at s,n,h,_=>⟨h,by simp[aY]⟩
 | .un hd a,n,h,hm=>by
  have h1:=ic ag a n
  have h2:=qk ag (aY ag a n)
  simp only[aY] at hm
  have ha:=(wI ag a n h.2 om).aw hm
  exact⟨⟨h.1,ha.out⟩,ha.bs⟩
 | .bi hd a b,n,h,hm=>by
  have h1:=ic ag a n
  have h2:=qk ag (aY ag a n)
  have h3:=ic ag b (dB ag (aY ag a n)).2.2
  have h4:=qk ag (aY ag b (dB ag (aY ag a n)).2.2)
  simp only[aY] at hm
  have ha:=(wI ag a n h.2.1 om).aw (ag:=ag) om
  have hb:=(wI ag b (dB ag (aY ag a n)).2.2 h.2.2 om).aw (ag:=ag) hm
  exact⟨⟨h.1,ha.out,hb.out⟩,λp hp=>(mA.1 hp).elim (ha.bs p) (hb.bs p)⟩
 | .ite a b c,n,h,hm=>by
  have h1:=ic ag a n
  have h2:=qk ag (aY ag a n)
  have h3:=ic ag b (dB ag (aY ag a n)).2.2
  have h4:=ic ag c (aY ag b (dB ag (aY ag a n)).2.2).2.2
  simp only[aY] at hm
  have ha:=(wI ag a n h.1 om).aw (ag:=ag) om
  have hb:=wI ag b (dB ag (aY ag a n)).2.2 h.2.1 om
  have hc:=wI ag c (aY ag b (dB ag (aY ag a n)).2.2).2.2 h.2.2 hm
  exact⟨⟨ha.out,IQ hb.bs hb.out,IQ hc.bs hc.out⟩,ha.bs⟩
 | .lt x a b,n,h,hm=>by
  have h1:=ic ag a n
  have h3:=ic ag b (aY ag a n).2.2
  simp only[aY] at hm
  have ha:=wI ag a n h.2.1 om
  have hb:=wI ag b (aY ag a n).2.2 h.2.2 hm
  refine⟨hb.out,λp hp=>?_⟩
  rcases mA.1 hp with hp|hp
  ·exact ha.bs p hp
  ·rcases mC.1 hp with rfl|hp
   ·exact⟨h.1,ha.out⟩
   ·exact hb.bs p hp
 | .fn f x A B e,n,h,hm=>by
  obtain⟨hf,hx,dL,hA,hB,he⟩:=h
  simp only[aY] at hm
  have ha:=wI ag e n he hm
  exact⟨⟨hf,hx,dL,hA,hB,IQ ha.bs ha.out⟩,by simp[aY]⟩
def pH (bs:Bs):Nat:=(bs.map λp=>2+p.2.n).sum
theorem Sp (a b:Bs):pH (a++b)=pH a+pH b:=by grind [pH]
theorem Sq (p:ai×Ex) (b:Bs):pH (p::b)=2+p.2.n+pH b:=by simp[pH]
theorem Mo (bs:Bs) (e:Ex):(nest bs e).n=pH bs+e.n:=by induction bs<;>grind [nest,Ty.n,Ex.n,pH]
theorem IS (ag:List ai) (r:Bs×Ex×Nat):pH (dB ag r).1+(dB ag r).2.1.n<=pH r.1+r.2.1.n+3:=by grind [pH,dB,Ty.n,Ex.n]
theorem uY (ag:List ai):∀(e:Ex) (n:Nat),pH (aY ag e n).1+(aY ag e n).2.1.n+3<=4*e.n
 | .at s,n=>by simp[aY,pH,Ex.n]
 | .un hd a,n=>by
  have:=uY ag a n
  have:=IS ag (aY ag a n)
  simp only[aY,Ex.n];omega
 | .bi hd a b,n=>by
  have:=uY ag a n
  have:=IS ag (aY ag a n)
  have:=uY ag b (dB ag (aY ag a n)).2.2
  have:=IS ag (aY ag b (dB ag (aY ag a n)).2.2)
  simp only[aY,Ex.n,Sp];omega
 | .ite a b c,n=>by
  have:=uY ag a n
  have:=IS ag (aY ag a n)
  have:=uY ag b (dB ag (aY ag a n)).2.2
  have:=uY ag c (aY ag b (dB ag (aY ag a n)).2.2).2.2
  simp only[aY,Ex.n,Mo];omega
 | .lt x a b,n=>by
  have:=uY ag a n
  have:=uY ag b (aY ag a n).2.2
  simp only[aY,Ex.n,Sp,Sq];omega
 | .fn f x A B e,n=>by
  have:=uY ag e n
  simp only[aY,Ex.n,Mo]
  rw[show pH ([]:Bs)=0 from rfl];omega
/-! ### The normal form -/
def ql (e:Ex):Option Ex:=if(bH (cH e [] []) e [] 0).2<=100 then some (bH (cH e [] []) e [] 0).1 else none
def nk (e:Ex):Option Ex:=(ql e).bind λp=>if(aY (kZ p.au []) p 0).2.2<=100 then some (mv (kZ p.au []) p 0) else none
theorem Mp {p:Ex} (h:e.ok) (hp:ql e=some p):p.ok:=by
 unfold ql at hp
 split at hp
 ·cases hp
  exact wu _ e [] 0 h om λs hn _=>hn
 ·cases hp
theorem Mq {q:Ex} (h:e.ok) (hq:nk e=some q):q.ok:=by
 unfold nk at hq
 cases hp:ql e with
 |none=>rw[hp] at hq;cases hq
 |some p=>
  rw[hp,Option.bind_some] at hq
  split at hq
  ·cases hq
   have:=wI (kZ p.au []) p 0 (Mp h hp) om
   exact IQ this.bs this.out
  ·cases hq
theorem Sr {q:Ex} {T:Ty} (h:e.ok) (ht:bw e []=some T) (hq:nk e=some q):bw q []=some T:=by
 unfold nk at hq
 cases hp:ql e with
 |none=>rw[hp] at hq;cases hq
 |some p=>
  have D1:=Mp h hp
  rw[hp,Option.bind_some] at hq
  split at hq
  ·rename_i hm
   cases hq
   unfold ql at hp
   split at hp
   ·rename_i rH
    cases hp
    have noFv:∀s,¬Fv s e:=λs hs=>by have:=pG ht hs;simp[look] at this
    have Ss:bw (bH (cH e [] []) e [] 0).1 []=some T:=by
     rw[<-ht]
     exact wv _ e [] 0 [] [] om λs _ hs=>absurd hs (noFv s)
    have noFp:∀s,¬Fv s (bH (cH e [] []) e [] 0).1:=λs hs=>by have:=pG Ss hs;simp[look] at this
    refine adW ⟨(wy _ e [] 0).1,λx _=>noFp x,λx hx=>wH D1 hx []⟩ om Ss
   ·cases hp
  ·cases hq
/-! ### Target types -/
def Aa (x:aq):aq:=.mk [] [bJ [101],.mk [] [bJ [116],.mk [] [bJ [99],bJ [118],x],bJ [118]]]
def qV:Ty->aq
 | .i=>bJ [105]
 | .op false a b=>.mk [] [bJ [116],qV a,qV b]
 | .op true a b=>.mk [] [bJ [101],.mk [] [bJ [116],.mk [] [bJ [99],bJ [118],qV a,Aa (qV b)],bJ [118]]]
def bu (t:Ty):ai:=(qV t).text
def dz (s:ai):ai:=[40,101,32,40,116,32,40,99,32,118,32]++s++[41,32,118,41,41]
theorem tN (c:UInt8) (h:eT c=true):Good (bJ [c]):=.aw _ sm (by simp[h])
theorem St {x:aq} (h:Good x):Good (Aa x):=by
 refine .list _ sm λp hp=>?_
 simp only[mC,List.not_mem_nil,or_false] at hp
 rcases hp with rfl|rfl
 ·exact tN _ de
 ·refine .list _ sm λp hp=>?_
  simp only[mC,List.not_mem_nil,or_false] at hp
  rcases hp with rfl|rfl|rfl
  ·exact tN _ de
  ·refine .list _ sm λp hp=>?_
   simp only[mC,List.not_mem_nil,or_false] at hp
   rcases hp with rfl|rfl|rfl
   ·exact tN _ de
   ·exact tN _ de
   ·exact h
  ·exact tN _ de
theorem Su (x:aq):(Aa x).text=dz x.text:=by simp_all[Aa,aq.text,Ty.text,dz,bJ,qQ,su,qS,qR]
theorem Mr (s:ai):(dz s).length=s.length+16:=by simp[dz]
theorem Sv (x:aq):(Aa x).depth=max 3 (x.depth+3):=by
 have a0:∀c:UInt8,(bJ [c]).depth=0:=λc=>rfl
 unfold Aa
 simp only[aq.depth,aq.depth.deeps,bJ];omega
theorem D3:∀t:Ty,Good (qV t)
 | .i=>tN _ de
 | .op false a b=>by
  refine .list _ sm λp hp=>?_
  simp only[mC,List.not_mem_nil,or_false] at hp
  rcases hp with rfl|rfl|rfl
  ·exact tN _ de
  ·exact D3 a
  ·exact D3 b
 | .op true a b=>by
  refine .list _ sm λp hp=>?_
  simp only[mC,List.not_mem_nil,or_false] at hp
  rcases hp with rfl|rfl
  ·exact tN _ de
  ·refine .list _ sm λp hp=>?_
   simp only[mC,List.not_mem_nil,or_false] at hp
   rcases hp with rfl|rfl|rfl
   ·exact tN _ de
   ·refine .list _ sm λp hp=>?_
    simp only[mC,List.not_mem_nil,or_false] at hp
    rcases hp with rfl|rfl|rfl|rfl
    ·exact tN _ de
    ·exact tN _ de
    ·exact D3 a
    ·exact St (D3 b)
   ·exact tN _ de
theorem Sw:bu .i=[105]:=qQ sm
theorem Sx (a b:Ty):bu (.op false a b)=[40,116,32]++bu a++[32]++bu b++[41]:=by simp_all[bu,bJ,aq.text,Ty.text,qV,qQ,su,qS,qR]
theorem Sy (a b:Ty):bu (.op true a b)=[40,101,32,40,116,32,40,99,32,118,32]++bu a++[32]++dz (bu b)++[41,32,118,41,41]:=by simp_all[bu,dz,bJ,aq.text,Ty.text,qV,Aa,qQ,su,qS,qR,Su]
theorem B4:∀t:Ty,(bu t).length+16<=17*t.n
 | .i=>by rw[Sw];simp[Ty.n]
 | .op false a b=>by
  have:=B4 a;have:=B4 b
  rw[Sx];simp only[lA,lC,List.length_nil,Ty.n];omega
 | .op true a b=>by
  have:=B4 a;have:=B4 b
  rw[Sy];simp only[lA,lC,List.length_nil,Ty.n,Mr];omega
theorem D4:∀t:Ty,(qV t).depth+3<=3*t.n
 | .i=>by simp[qV,bJ,aq.depth,aq.depth.deeps,Ty.n]
 | .op false a b=>by
  have:=D4 a;have:=D4 b
  have:=a.pos;have:=b.pos
  simp only[qV,aq.depth,aq.depth.deeps,bJ,Ty.n];omega
 | .op true a b=>by
  have:=D4 a;have:=D4 b
  have:=a.pos;have:=b.pos
  have hn:=Sv (qV b)
  simp only[qV,aq.depth,aq.depth.deeps,bJ,Ty.n,hn];omega
/-! ### The maker's state -/
structure Tk where
 aM:ai
 regs:List ai
 loads:Nat
 self:List ai
 sc:List (ai×Nat×Ty)
 expr:Ex
 on:Nat
 aV:ai
 next:Nat
structure Mk where
 blocks:List Bk
 bF:List Tk
 count:Nat
 wide:Bool
 code:List ai
 types:List ai
abbrev cD:=List (ai×Nat×Ty)
def ew (s:cD):Sc:=s.map λp=>(p.1,p.2.2)
theorem D5 (s:cD) (x:ai) (r:Nat) (T:Ty):ew (s++[(x,r,T)])=ew s++[(x,T)]:=by simp[ew]
def kn (s:cD) (x:ai):Nat:=((s.reverse.find? λp=>decide (p.1=x)).map λp=>p.2.1).getD 0
def j5 (s:cD) (x:ai):Ty:=(look (ew s) x).getD .i
def Mk.cY (m:Mk) (kind:ai):Mk:={m with types:=m.types++[kind],wide:=m.wide||decide (40<m.types.length+1)}
def Mk.cA (m:Mk) (h:ai) (ps:List ai):Mk:={m with code:=m.code++[dR h ps]}
def Mk.k7 (m:Mk):Mk:={m with count:=m.count+1}
def Mk.aM (m:Mk):ai:=98::aT m.count
abbrev IT:ai:=[99,111,110,115,116]
abbrev lx:ai:=[110,101,119]
abbrev sy:ai:=[108,97,98]
abbrev sA:ai:=[112,97,99,107]
abbrev Ab:ai:=[111,112,101,110]
abbrev sB:ai:=[103,101,116]
abbrev nq:ai:=[109,111,118]
abbrev Ac:ai:=[106,117,109,112]
abbrev F8:ai:=[122,101,114,111]
abbrev B5:ai:=[109,97,105,110]
abbrev Ad:ai:=[101,110,100]
def Ex.aw:Ex->ai
 | .at s=>s
 |_=>[]
theorem Ex.qW (e:Ex):e.au.aw=e.aw:=by cases e<;>rfl
def bT (m:Mk) (s:cD) (a:ai):Mk×Nat:=if dN a then(m,kn s a) else((m.cY [105]).cA IT [aT m.types.length,a],m.types.length)
structure Pk where
 m:Mk
 r:Nat
 w:ai
def oS (m:Mk) (s:cD) (ton:Nat) (aK:List ai) (on aM kind:ai) (bY:List ai):Pk:=
 let regs:=aK.map (λx=>aT (kn s x))++(if on≠[] then[aT ton] else[])
 let tys:=aK.map (λx=>bu (j5 s x))++(if on≠[] then[on] else[])
 let w:=dR [116] tys
 let r:=m.types.length
 let code:=dR [99] (w::bY)
 ⟨(((((((m.cY w).cA lx (aT r::regs)).cY code).cA sy [aT (r+1),aM]).cY (dR [116] [code,w])).cA lx [aT (r+2),aT (r+1),aT r]).cY kind).cA sA [aT (r+3),aT (r+2),kind,w],r+3,w⟩
def im (s:cD) (k:Nat) (aK:List ai) (from_:cD):cD:=from_++(aK.zipIdx).map λp=>(p.1,k+p.2,j5 s p.1)
def nV (m:Mk) (s:cD) (f x:ai) (A B:Ty) (e:Ex):Pk:=oS m.k7 s 0 (cH (.fn f x A B e) [] []) [] m.aM (bu (.op true A B)) [bu A,dz (bu B)]
def Ae (s:cD) (f x:ai) (A B:Ty) (e:Ex):cD:=
 (if 0<jQ f e then im s 3 (cH (.fn f x A B e) [] []) []++[(f,3+(cH (.fn f x A B e) [] []).length+2,.op true A B)] else im s 3 (cH (.fn f x A B e) [] []) [])++[(x,1,A)]
def Af (m:Mk) (s:cD) (f x:ai) (A B:Ty) (e:Ex):Tk:=
 ⟨m.aM,[(nV m s f x A B e).w,bu A,dz (bu B)],(cH (.fn f x A B e) [] []).length,if 0<jQ f e then[bu (.op true A B),(nV m s f x A B e).w] else[],Ae s f x A B e,e,2,dz (bu B),3⟩
def Ag (m:Mk) (s:cD) (f x:ai) (A B:Ty) (e:Ex):Mk×Nat:=
 ({(nV m s f x A B e).m with bF:=(nV m s f x A B e).m.bF++[Af m s f x A B e]},(nV m s f x A B e).r)
def qm (h:ai):ai:=if h=[43] then[97,100,100] else if h=[45] then[115,117,98] else if h=[42] then[109,117,108] else lx
def mw (m:Mk) (s:cD) (kind:Ty):Ex->Mk×Nat
 | .at a=>bT m s a
 | .fn f x A B e=>Ag m s f x A B e
 | .un h a=>
  let p:=bT m s a.aw
  ((p.1.cY (bu kind)).cA sB [aT p.1.types.length,aT p.2,if h=qT then[49] else[48]],p.1.types.length)
 | .bi h a b=>
  let p:=bT m s a.aw
  let q:=bT p.1 s b.aw
  ((q.1.cY (bu kind)).cA (qm h) [aT q.1.types.length,aT p.2,aT q.2],q.1.types.length)
 | .ite a b _=>
  let p:=bT m s a.aw
  let q:=bT p.1 s b.aw
  ((q.1.cY (bu kind)).cA (qm gj) [aT q.1.types.length,aT p.2,aT q.2],q.1.types.length)
 | .lt x a _=>
  let p:=bT m s x
  let q:=bT p.1 s a.aw
  ((q.1.cY (bu kind)).cA (qm fV) [aT q.1.types.length,aT p.2,aT q.2],q.1.types.length)
def nW (m:Mk) (s:cD) (ton:Nat) (aV name:ai) (kind:Ty) (rest:Ex):Pk:=oS m.k7 s ton (cH rest [name] []) aV m.aM (dz (bu kind)) [bu kind]
def IU (m:Mk) (s:cD) (ton:Nat) (aV name:ai) (kind:Ty) (rest:Ex):Tk:=
 ⟨m.aM,[(nW m s ton aV name kind rest).w,bu kind],(cH rest [name] []).length+1,[],im s 2 (cH rest [name] []) []++[(name,1,kind)],rest,2+(cH rest [name] []).length,aV,2⟩
def tO (m:Mk) (s:cD) (ton:Nat) (aV name:ai) (kind:Ty) (rest:Ex):Mk×Nat×ai:=
 ({(nW m s ton aV name kind rest).m with bF:=(nW m s ton aV name kind rest).m.bF++[IU m s ton aV name kind rest]},(nW m s ton aV name kind rest).r,dz (bu kind))
def sC (m:Mk) (s:Nat):Mk:=
 let r:=m.types.length
 (((((m.cY []).cA Ab [aT r,aT s]).cY []).cA sB [aT (r+1),aT r,[48]]).cY []).cA sB [aT (r+2),aT r,[49]]
def xV (m:Mk) (f x:Nat) (on:Nat):Mk:=
 let r:=m.types.length
 ((((sC m f).cA nq [[48],aT (r+2)]).cA nq [[49],aT x]).cA nq [[50],aT on]).cA Ac [aT (r+1)]
def xW (m:Mk) (on r:Nat):Mk:=
 let q:=m.types.length
 (((sC m on).cA nq [[48],aT (q+2)]).cA nq [[49],aT r]).cA Ac [aT (q+1)]
structure Goal where
 name:ai
 s:Ex
 rest:Ex
def bD:Ex->Goal
 | .lt x a b=>⟨x,a,b⟩
 |e=>⟨[],e,e⟩
def nu (s:cD) (e:Ex):Ty:=(bw e (ew s)).getD .i
structure At where
 m:Mk
 s:cD
 on:Nat
 aV:ai
def IV (a:At) (g:Goal):At:=
 if g.name≠[] then let c:=tO a.m a.s a.on a.aV g.name (nu a.s g.s) g.rest;⟨c.1,a.s,c.2.1,c.2.2⟩ else a
def j6 (a:At) (e:Ex):Mk ⊕ At×Ex:=
 let g:=bD e
 match g.s with
 | .bi h f x=>
  if h=j4 then
   let p:=bT a.m a.s f.aw
   let q:=bT p.1 a.s x.aw
   let b:=IV {a with m:=q.1} g
   .inl (xV b.m p.2 q.2 b.on)
  else
   let p:=mw a.m a.s (nu a.s g.s) g.s
   if g.name=[] then .inl (xW p.1 a.on p.2) else .inr ({a with m:=p.1,s:=a.s++[(g.name,p.2,nu a.s g.s)]},g.rest)
 | .ite c x y=>
  let p:=bT a.m a.s c.aw
  let b:=IV {a with m:=p.1} g
  let aM:=b.m.aM
  let m1:=b.m.k7.cA F8 [aT p.2,aM]
  let br:Tk:=⟨aM,m1.types,0,[],a.s,x,b.on,b.aV,m1.types.length⟩
  .inr ({b with m:={m1 with bF:=m1.bF++[br]}},y)
 |s=>
  let p:=mw a.m a.s (nu a.s s) s
  if g.name=[] then .inl (xW p.1 a.on p.2) else .inr ({a with m:=p.1,s:=a.s++[(g.name,p.2,nu a.s s)]},g.rest)
structure Fr (L:List Nat) (w:World) (L':List Nat) (w':World):Prop where
 aF:aj L w w'
 mem:∀x,x∈L'->x∈L∨w.heap.size<=x
theorem Fr.refl (L:List Nat) (w:World):Fr L w L w:=⟨aj.refl L w,λx hx=>.inl hx⟩
theorem Fr.go {L2:List Nat} (h:Fr L w L1 w1) (k:Fr L1 w1 L2 w2):Fr L w L2 w2:=
 ⟨h.aF.since k.aF h.mem,λx hx=>by
  rcases k.mem x hx with h1|h1
  ·exact h.mem x h1
  ·have:=h.aF.size;right;omega⟩
theorem Fr.ext (h:Fr L w L1 w1) (k:aj [] w1 w2):Fr L w L1 w2:=⟨h.aF.trans k.any,h.mem⟩
theorem Fr.aD (h:Fr L w L1 w1) (k:aj G w1 w2) (hG:∀x,x∈G->x∈L1):Fr L w L1 w2:=⟨h.aF.since (k.mono hG) h.mem,h.mem⟩
theorem Fr.of (k:aj G w w') (hG:∀x,x∈G->x∈L):Fr L w L w':=⟨k.mono hG,λx hx=>.inl hx⟩
theorem Fr.to {L2:List Nat} (h:Fr L w L1 w1) (hL:∀x,x∈L2->x∈L1∨w.heap.size<=x):Fr L w L2 w1:=⟨h.aF,λx hx=>by
 rcases hL x hx with h1|h1
 ·exact h.mem x h1
 ·exact .inr h1⟩
theorem Fr.grow (h:Fr L w L1 w1):Fr L w (w1.heap.size::L1) w1:=h.to λx hx=>by
 rcases mC.1 hx with rfl|hx
 ·exact .inr h.aF.size
 ·exact .inl hx
theorem bQ.go {c:C} (h:bQ L w v c) (k:Fr L w L' w'):bQ L' w' v c:=by
 have h1:bQ (L++L') w v c:=h.fresh λx hx=>by
  rcases mA.1 hx with hx|hx
  ·exact .inl hx
  ·exact k.mem x hx
 exact(h1.aF (k.aF.mono λx hx=>List.mem_append_left _ hx)).weaken λx hx=>mR _ hx
theorem cS.go {cs:List C} (h:cS L w vs cs) (k:Fr L w L' w'):cS L' w' vs cs:=cS.of h.length λ_ _ _ hv hc=>(h.get hv hc).go k
theorem j1.go {cs:List C} (h:j1 L w v cs) (k:Fr L w L' w'):j1 L' w' v cs:=let⟨vs,e,h⟩:=h;⟨vs,e,h.go k⟩
theorem bB.go {t:aq} (h:bB L w v t) (k:Fr L w L' w'):bB L' w' v t:=j1.go h k
theorem eM.go {t:List aq} (h:eM L w v t) (k:Fr L w L' w'):eM L' w' v t:=bQ.go h k
theorem bc.go (h:bc L w v xs) (k:Fr L w L' w'):bc L' w' v xs:=bQ.go h k
theorem bc.fresh (h:bc L w v xs) (hL:∀x,x∈L'->x∈L∨w.heap.size<=x):bc L' w v xs:=bQ.fresh h hL
theorem bB.fresh {t:aq} (h:bB L w v t) (hL:∀x,x∈L'->x∈L∨w.heap.size<=x):bB L' w v t:=j1.fresh h hL
structure fy (L:List Nat) (w:World) (b off:Nat) (vs:List Value):Prop where
 cells:fS w b off vs
 lt:b<w.heap.size
 out:b∉L
theorem fy.go (h:fy L w b off vs) (k:Fr L w L' w'):fy L' w' b off vs:=
 ⟨λj v hj=>(World.cell?_of_block (k.aF.block b h.lt h.out)).trans (h.cells j v hj),lL h.lt k.aF.size,λhx=>by
  rcases k.mem b hx with h1|h1
  ·exact h.out h1
  ·have:=h.lt;omega⟩
theorem fy.ext (h:fy L w b off vs) (k:aj [] w w'):fy L w' b off vs:=h.go (Fr.of k sm)
theorem fy.aD (h:fy L w b off vs) (k:aj G w w') (hG:∀x,x∈G->x∈L):fy L w' b off vs:=h.go (Fr.of k hG)
/-! ### Tasks -/
def tP (xs:List Nat):List (List C):=xs.map λx:Nat=>[.val (.int .i64 (x:Int))]
def xX (L:List Nat) (w:World) (v:Value) (xs:List Nat):Prop:=bQ L w v (.sl 1 (tP xs))
theorem xX.ext {xs:List Nat} (h:xX L w v xs) (k:aj [] w w'):xX L w' v xs:=bQ.ext h k
theorem xX.go {xs:List Nat} (h:xX L w v xs) (k:Fr L w L' w'):xX L' w' v xs:=bQ.go h k
theorem ad1 {a:Option Addr} {c x:Nat} {xs:List Nat} (h:xX L w (.slice a n c) xs) (hi:xs[i]?=some x):
  ∃b off,a=some ⟨b,off,none⟩∧fS w b (off+i*1) [.int .i64 (x:Int)]:=by
 obtain⟨b,off,vs,ha,hb,hL,hl,hc,hr⟩:=zn h (show(tP xs)[i]?=some [.val (.int .i64 (x:Int))] by simp[tP,hi])
 match vs,hr with
 |[v],hr=>obtain⟨h1,_⟩:=hr;cases h1;exact⟨b,off,ha,hc⟩
 |[],hr=>exact hr.elim
 |_::_::_,hr=>exact hr.2.elim
def jE (s:cD):List ai:=s.map λp=>p.1
def wJ (s:cD):List Nat:=s.map λp=>p.2.1
def oT (s:cD):List ai:=s.map λp=>p.2.2.text
theorem ad2 (s:cD) (x:ai) (r:Nat) (T:Ty):jE (s++[(x,r,T)])=jE s++[x]:=by simp[jE]
theorem ad3 (s:cD) (x:ai) (r:Nat) (T:Ty):wJ (s++[(x,r,T)])=wJ s++[r]:=by simp[wJ]
theorem ad4 (s:cD) (x:ai) (r:Nat) (T:Ty):oT (s++[(x,r,T)])=oT s++[T.text]:=by simp[oT]
def Tk.enc (t:Tk):List C:=
 [.val (str t.aM),.sl 1 (ga t.regs),.val (.int .i64 (t.loads:Int)),.sl 1 (ga t.self),.sl 1 (ga (jE t.sc)),.sl 1 (tP (wJ t.sc)),.sl 1 (ga (oT t.sc)),.val (str t.expr.au.aw),.sl 2 (cT t.expr.au.ak),.val (.int .i64 (t.on:Int)),.val (str t.aV),.val (.int .i64 (t.next:Int))]
structure nX (L:List Nat) (w:World) (t:Tk) (v1 v3 v4 v5 v6 v8:Value):Prop where
 regs:bc L w v1 t.regs
 self:bc L w v3 t.self
 aK:bc L w v4 (jE t.sc)
 at_:xX L w v5 (wJ t.sc)
 types:bc L w v6 (oT t.sc)
 ak:eM L w v8 t.expr.au.ak
def pI (t:Tk) (v1 v3 v4 v5 v6 v8:Value):List Value:=
 [str t.aM,v1,.int .i64 (t.loads:Int),v3,v4,v5,v6,str t.expr.au.aw,v8,.int .i64 (t.on:Int),str t.aV,.int .i64 (t.next:Int)]
theorem ad5 {t:Tk} (h:cS L w vs t.enc):∃v1 v3 v4 v5 v6 v8,vs=pI t v1 v3 v4 v5 v6 v8∧nX L w t v1 v3 v4 v5 v6 v8:=by
 have hl:=h.length
 unfold Tk.enc at h hl
 match vs,hl,h with
 |[u0,u1,u2,u3,u4,u5,u6,u7,u8,u9,u10,u11],_,h=>
  obtain⟨h0,h1,h2,h3,h4,h5,h6,h7,h8,h9,fO,oU,_⟩:=h
  cases h0;cases h2;cases h7;cases h9;cases fO;cases oU
  exact⟨u1,u3,u4,u5,u6,u8,rfl,h1,h3,h4,h5,h6,h8⟩
theorem nX.BX {t:Tk} (h:nX L w t v1 v3 v4 v5 v6 v8):cS L w (pI t v1 v3 v4 v5 v6 v8) t.enc:=
 ⟨.val _,h.regs,.val _,h.self,h.aK,h.at_,h.types,.val _,h.ak,.val _,.val _,.val _,trivial⟩
theorem nX.go {t:Tk} (h:nX L w t v1 v3 v4 v5 v6 v8) (k:Fr L w L' w'):nX L' w' t v1 v3 v4 v5 v6 v8:=
 ⟨h.regs.go k,h.self.go k,h.aK.go k,h.at_.go k,h.types.go k,h.ak.go k⟩
theorem nX.ext {t:Tk} (h:nX L w t v1 v3 v4 v5 v6 v8) (k:aj [] w w'):nX L w' t v1 v3 v4 v5 v6 v8:=h.go (Fr.of k sm)
theorem nX.aD {t:Tk} (h:nX L w t v1 v3 v4 v5 v6 v8) (k:aj G w w') (hG:∀x,x∈G->x∈L):nX L w' t v1 v3 v4 v5 v6 v8:=h.go (Fr.of k hG)
theorem nX.grow {t:Tk} (h:nX L w t v1 v3 v4 v5 v6 v8):nX (w.heap.size::L) w t v1 v3 v4 v5 v6 v8:=h.go ((Fr.refl L w).grow)
def gI (L:List Nat) (w:World) (T:TypeId) (b:Nat) (t:Tk):Prop:=∃v1 v3 v4 v5 v6 v8,aJ w b (pI t v1 v3 v4 v5 v6 v8).toArray T∧nX L w t v1 v3 v4 v5 v6 v8
theorem gI.ext {T:TypeId} {t:Tk} (h:gI L w T b t) (k:aj [] w w'):gI L w' T b t:=by
 obtain⟨v1,v3,v4,v5,v6,v8,hb,hc⟩:=h
 exact⟨v1,v3,v4,v5,v6,v8,hb.aF k sm,hc.ext k⟩
theorem gI.go {T:TypeId} {t:Tk} (h:gI L w T b t) (k:Fr L w L' w') (kg:aj G w w') (hb:b∉G):gI L' w' T b t:=by
 obtain⟨v1,v3,v4,v5,v6,v8,hB,hc⟩:=h
 exact⟨v1,v3,v4,v5,v6,v8,hB.aF kg hb,hc.go k⟩
/-! ### The maker -/
theorem cG.ad6 {T:TypeId} (h:cG w T v g xs):iH w T 1 v g (ga xs).length (xs.map λx=>str x):=by rw[qb];exact h
structure dH (L:List Nat) (w:World) (T:TypeId) (sz:Nat) (v:Value) (g:Option Nat) (rows:List (List C)):Prop where
 own:∃xs,iH w T sz v g rows.length xs∧cS L w xs rows.flatten
 row:∀row,row∈rows->row.length=sz
theorem dH.aF {T:TypeId} (h:dH L w T sz v g rows) (k:Fr L w L' w') (kg:aj G w w') (hg:∀x,x∈g.toList->x∉G):dH L' w' T sz v g rows:=by
 obtain⟨xs,h1,h2⟩:=h.own
 exact⟨⟨xs,h1.aF kg (λb hb=>hg b (by simp[hb])),h2.go k⟩,h.row⟩
theorem dH.len {T:TypeId} (h:dH L w T sz v g rows):∃a cap,v= .slice a rows.length cap:=by
 obtain⟨xs,h1,_⟩:=h.own;exact h1.len
theorem dH.lt {T:TypeId} (h:dH L w T sz v g rows):∀x,x∈g.toList->x<w.heap.size:=by
 obtain⟨xs,h1,_⟩:=h.own;intro x hx;exact h1.lt x (by simpa using hx)
theorem dH.rep {T:TypeId} (h:dH L w T sz v g rows) (hL:∀x,x∈g.toList++L'->x∈L∨w.heap.size<=x) (hg:∀x,x∈g.toList->x∉L'):bQ L' w v (.sl sz rows):=by
 obtain⟨xs,h1,h2⟩:=h.own
 exact gO.done (L:=L') ⟨h1,h2.fresh hL,h.row,λb hb=>hg b (by simp[hb])⟩
theorem dH.gr {B:Nat} {T:TypeId} (h:dH L w T sz v g rows) (hL:∀x,x∈g.toList->x∈L) (hB:∀b,g=some b->B<=b) (hs:B<=w.heap.size):Gr B [] w T sz v g rows:=by
 obtain⟨xs,h1,h2⟩:=h.own
 exact⟨⟨xs,h1,h2.fresh (λx hx=>.inl (hL x (by simpa using hx))),h.row,sm⟩,hB,sm,hs⟩
theorem Gr.down {B B':Nat} {T:TypeId} (h:Gr B L w T sz v g rows) (hB:B'<=B):Gr B' L w T sz v g rows:=
 ⟨h.own,λb hb=>Nat.le_trans hB (h.low b hb),h.cC,Nat.le_trans hB h.bsz⟩
structure sD where
 M:TypeId
 B:TypeId
 T:TypeId
 S:TypeId
structure gk (τ:sD) (E L:List Nat) (w:World) (b:Nat) (o:Bool) (vb vt vc vy:Value) (gb gt gc gy:Option Nat) (m:Mk):Prop where
 bl:dH L w τ.B 3 vb gb (m.blocks.map Bk.enc)
 ta:dH L w τ.T 12 vt gt (m.bF.map Tk.enc)
 co:(o=true∧cG w τ.S vc gc m.code)∨(o=false∧gc=none∧bc L w vc m.code)
 ty:cG w τ.S vy gy m.types
 eL:L=E++b::(gb.toList++(gt.toList++(gc.toList++gy.toList)))
 nd:L.Nodup
 cC:∀x,x∈L->x<w.heap.size
section
variable {τ:sD} {E L:List Nat} {w w':World} {b:Nat} {o:Bool} {vb vt vc vy:Value} {gb gt gc gy:Option Nat} {m:Mk}
theorem xY {A B C D E:List Nat} {b x:Nat}:x∈E++b::(A++(B++(C++D)))↔x∈E∨x=b∨x∈A∨x∈B∨x∈C∨x∈D:=by simp
theorem gk.mem (h:gk τ E L w b o vb vt vc vy gb gt gc gy m) {x:Nat}:x∈L↔x∈E∨x=b∨x∈gb.toList∨x∈gt.toList∨x∈gc.toList∨x∈gy.toList:=by
 rw[h.eL];exact xY
theorem gk.apart (h:gk τ E L w b o vb vt vc vy gb gt gc gy m):E.Nodup∧b∉E∧
  (∀x,x∈gb.toList->x∉E∧x≠b)∧(∀x,x∈gt.toList->x∉E∧x≠b∧x∉gb.toList)∧(∀x,x∈gc.toList->x∉E∧x≠b∧x∉gb.toList∧x∉gt.toList)∧
  (∀x,x∈gy.toList->x∉E∧x≠b∧x∉gb.toList∧x∉gt.toList∧x∉gc.toList):=by
 have hn:=h.nd
 rw[h.eL] at hn
 rw[List.nodup_append] at hn
 obtain⟨h1,h2,h3⟩:=hn
 rw[List.nodup_cons] at h2
 obtain⟨h4,h5⟩:=h2
 rw[List.nodup_append] at h5
 obtain⟨h6,h7,h8⟩:=h5
 rw[List.nodup_append] at h7
 obtain⟨h9,fO,oU⟩:=h7
 rw[List.nodup_append] at fO
 obtain⟨kC,oV,D6⟩:=fO
 refine⟨h1,λhb=>h3 b hb b sm rfl,λx hx=>⟨λhe=>h3 x he x (by simp[hx]) rfl,λe=>h4 (by simp[<-e,hx])⟩,λx hx=>⟨λhe=>h3 x he x (by simp[hx]) rfl,λe=>h4 (by simp[<-e,hx]),λhy=>h8 x hy x (by simp[hx]) rfl⟩,
  λx hx=>⟨λhe=>h3 x he x (by simp[hx]) rfl,λe=>h4 (by simp[<-e,hx]),λhy=>h8 x hy x (by simp[hx]) rfl,λhy=>oU x hy x (by simp[hx]) rfl⟩,
  λx hx=>⟨λhe=>h3 x he x (by simp[hx]) rfl,λe=>h4 (by simp[<-e,hx]),λhy=>h8 x hy x (by simp[hx]) rfl,λhy=>oU x hy x (by simp[hx]) rfl,λhy=>D6 x hy x hx rfl⟩⟩
theorem Ms (g:Option Nat):g.toList.Nodup:=by cases g<;>simp
theorem ad7 {A B C D:Option Nat} {F:List Nat} {b:Nat} (h1:F.Nodup) (h2:b∉F) (ha:∀x,x∈A.toList->x∉F∧x≠b) (hb:∀x,x∈B.toList->x∉F∧x≠b∧x∉A.toList) (hc:∀x,x∈C.toList->x∉F∧x≠b∧x∉A.toList∧x∉B.toList) 
  (hd:∀x,x∈D.toList->x∉F∧x≠b∧x∉A.toList∧x∉B.toList∧x∉C.toList):(F++b::(A.toList++(B.toList++(C.toList++D.toList)))).Nodup:=by grind [Ms,List.nodup_append,List.nodup_cons]
theorem gk.swap (h:gk τ E L w b o vb vt vc vy gb gt gc gy m) (k:aj G w w') (hG:∀x,x∈G->x∈L∧x≠b∧x∉E) {gb' gt' gc' gy':Option Nat} 
  (nb:∀x,x∈gb'.toList->x∈gb.toList∨w.heap.size<=x∧x∉gt'.toList∧x∉gc'.toList∧x∉gy'.toList) (nt:∀x,x∈gt'.toList->x∈gt.toList∨w.heap.size<=x∧x∉gb'.toList∧x∉gc'.toList∧x∉gy'.toList)
  (nc:∀x,x∈gc'.toList->x∈gc.toList∨w.heap.size<=x∧x∉gb'.toList∧x∉gt'.toList∧x∉gy'.toList) (ny:∀x,x∈gy'.toList->x∈gy.toList∨w.heap.size<=x∧x∉gb'.toList∧x∉gt'.toList∧x∉gc'.toList):
  Fr L w (E++b::(gb'.toList++(gt'.toList++(gc'.toList++gy'.toList)))) w'∧(E++b::(gb'.toList++(gt'.toList++(gc'.toList++gy'.toList)))).Nodup:=by
 obtain⟨a1,a2,a3,a4,a5,a6⟩:=h.apart
 have dU:∀x,x∈E∨x=b->x<w.heap.size:=λx hx=>h.cC x (h.mem.2 (by rcases hx with hx|hx<;>simp[hx]))
 have nv:∀x,w.heap.size<=x->x∉E∧x≠b:=λx hx=>⟨λhe=>by have:=dU x (.inl he);omega,λe=>by have:=dU x (.inr e);omega⟩
 refine⟨⟨k.mono λx hx=>(hG x hx).1,λx hx=>?_⟩,ad7 a1 a2 (λx hx=>?_) (λx hx=>?_) (λx hx=>?_) (λx hx=>?_)⟩
 ·rw[xY] at hx
  rcases hx with hx|hx|hx|hx|hx|hx
  ·exact .inl (h.mem.2 (.inl hx))
  ·exact .inl (h.mem.2 (.inr (.inl hx)))
  ·rcases nb x hx with h1|h1
   ·exact .inl (h.mem.2 (by simp[h1]))
   ·exact .inr h1.1
  ·rcases nt x hx with h1|h1
   ·exact .inl (h.mem.2 (by simp[h1]))
   ·exact .inr h1.1
  ·rcases nc x hx with h1|h1
   ·exact .inl (h.mem.2 (by simp[h1]))
   ·exact .inr h1.1
  ·rcases ny x hx with h1|h1
   ·exact .inl (h.mem.2 (by simp[h1]))
   ·exact .inr h1.1
 ·rcases nb x hx with h1|h1
  ·exact a3 x h1
  ·exact nv x h1.1
 ·rcases nt x hx with h1|h1
  ·refine⟨(a4 x h1).1,(a4 x h1).2.1,λhb=>?_⟩
   rcases nb x hb with h2|h2
   ·exact(a4 x h1).2.2 h2
   ·exact h2.2.1 hx
  ·exact⟨(nv x h1.1).1,(nv x h1.1).2,h1.2.1⟩
 ·rcases nc x hx with h1|h1
  ·refine⟨(a5 x h1).1,(a5 x h1).2.1,λhb=>?_,λhb=>?_⟩
   ·rcases nb x hb with h2|h2
    ·exact(a5 x h1).2.2.1 h2
    ·exact h2.2.2.1 hx
   ·rcases nt x hb with h2|h2
    ·exact(a5 x h1).2.2.2 h2
    ·exact h2.2.2.1 hx
  ·exact⟨(nv x h1.1).1,(nv x h1.1).2,h1.2.1,h1.2.2.1⟩
 ·rcases ny x hx with h1|h1
  ·refine⟨(a6 x h1).1,(a6 x h1).2.1,λhb=>?_,λhb=>?_,λhb=>?_⟩
   ·rcases nb x hb with h2|h2
    ·exact(a6 x h1).2.2.1 h2
    ·exact h2.2.2.2 hx
   ·rcases nt x hb with h2|h2
    ·exact(a6 x h1).2.2.2.1 h2
    ·exact h2.2.2.2 hx
   ·rcases nc x hb with h2|h2
    ·exact(a6 x h1).2.2.2.2 h2
    ·exact h2.2.2.2 hx
  ·exact⟨(nv x h1.1).1,(nv x h1.1).2,h1.2.1,h1.2.2.1,h1.2.2.2⟩
theorem gk.IW (h:gk τ E L w b o vb vt vc vy gb gt gc gy m) {x:Nat} (hx:x∈gb.toList∨x∈gt.toList∨x∈gc.toList∨x∈gy.toList):x<w.heap.size:=h.cC x (h.mem.2 (by simp only[hx,or_true]))
theorem cG.lt {w:World} {T:TypeId} (h:cG w T v g xs):∀x,x∈g.toList->x<w.heap.size:=λx hx=>iH.lt h x (by simpa using hx)
theorem gk.Mt (h:gk τ E L w b o vb vt vc vy gb gt gc gy m) {ys:List ai} (hy:cG w' τ.S v g ys) (k:aj gy.toList w w') (hg:∀x,g=some x->gy=some x∨w.heap.size<=x):
  ∃L',gk τ E L' w' b o vb vt vc v gb gt gc g {m with types:=ys}∧Fr L w L' w':=by
 obtain⟨a1,a2,a3,a4,a5,a6⟩:=h.apart
 have kz:∀x,x∈g.toList->x∈gy.toList∨w.heap.size<=x∧x∉gb.toList∧x∉gt.toList∧x∉gc.toList:=λx hx=>by
  rcases hg x (by simpa using hx) with h1|h1
  ·exact .inl (by simp[h1])
  ·refine .inr ⟨h1,λhh=>?_,λhh=>?_,λhh=>?_⟩<;>have:=h.IW (x:=x) (by simp[hh])<;>omega
 obtain⟨hF,hN⟩:=h.swap k (λx hx=>⟨h.mem.2 (by simp[hx]),(a6 x hx).2.1,(a6 x hx).1⟩) (gb':=gb) (gt':=gt) (gc':=gc) (gy':=g) (λx hx=>.inl hx) (λx hx=>.inl hx) (λx hx=>.inl hx) kz
 refine⟨_,⟨h.bl.aF hF k (λx hx hy=>(a6 x hy).2.2.1 hx),h.ta.aF hF k (λx hx hy=>(a6 x hy).2.2.2.1 hx),?_,hy,rfl,hN,?_⟩,hF⟩
 ·rcases h.co with⟨ho,h1⟩|⟨ho,hn,h1⟩
  ·exact .inl ⟨ho,h1.aF k λx hx hy=>(a6 x hy).2.2.2.2 (by simp[hx])⟩
  ·exact .inr ⟨ho,hn,h1.go hF⟩
 ·intro x hx
  rw[xY] at hx
  have hs:=k.size
  rcases hx with hx|hx|hx|hx|hx|hx
  ·exact lL (h.cC x (h.mem.2 (by simp[hx]))) hs
  ·exact lL (h.cC x (h.mem.2 (by simp[hx]))) hs
  ·exact lL (h.cC x (h.mem.2 (by simp[hx]))) hs
  ·exact lL (h.cC x (h.mem.2 (by simp[hx]))) hs
  ·exact lL (h.cC x (h.mem.2 (by simp[hx]))) hs
  ·exact hy.lt x hx
theorem gk.IX (h:gk τ E L w b o vb vt vc vy gb gt gc gy m) {ys:List ai} (hy:cG w' τ.S v g ys) (k:aj gc.toList w w') (hg:∀x,g=some x->gc=some x∨w.heap.size<=x):
  ∃L',gk τ E L' w' b true vb vt v vy gb gt g gy {m with code:=ys}∧Fr L w L' w':=by
 obtain⟨a1,a2,a3,a4,a5,a6⟩:=h.apart
 have kz:∀x,x∈g.toList->x∈gc.toList∨w.heap.size<=x∧x∉gb.toList∧x∉gt.toList∧x∉gy.toList:=λx hx=>by
  rcases hg x (by simpa using hx) with h1|h1
  ·exact .inl (by simp[h1])
  ·refine .inr ⟨h1,λhh=>?_,λhh=>?_,λhh=>?_⟩<;>have:=h.IW (x:=x) (by simp[hh])<;>omega
 obtain⟨hF,hN⟩:=h.swap k (λx hx=>⟨h.mem.2 (by simp[hx]),(a5 x hx).2.1,(a5 x hx).1⟩) (gb':=gb) (gt':=gt) (gc':=g) (gy':=gy) (λx hx=>.inl hx) (λx hx=>.inl hx) kz (λx hx=>.inl hx)
 refine⟨_,⟨h.bl.aF hF k (λx hx hy=>(a5 x hy).2.2.1 hx),h.ta.aF hF k (λx hx hy=>(a5 x hy).2.2.2 hx),.inl ⟨rfl,hy⟩,h.ty.aF k λx hx hy=>(a6 x (by simp[hx])).2.2.2.2 hy,rfl,hN,?_⟩,hF⟩
 intro x hx
 rw[xY] at hx
 have hs:=k.size
 rcases hx with hx|hx|hx|hx|hx|hx
 ·exact lL (h.cC x (h.mem.2 (by simp[hx]))) hs
 ·exact lL (h.cC x (h.mem.2 (by simp[hx]))) hs
 ·exact lL (h.cC x (h.mem.2 (by simp[hx]))) hs
 ·exact lL (h.cC x (h.mem.2 (by simp[hx]))) hs
 ·exact hy.lt x hx
 ·exact lL (h.cC x (h.mem.2 (by simp[hx]))) hs
theorem ad8 (t:Tk) (h1:v1.oneCell'=true) (h3:v3.oneCell'=true) (h4:v4.oneCell'=true) (h5:v5.oneCell'=true) (h6:v6.oneCell'=true) (h8:v8.oneCell'=true):(pI t v1 v3 v4 v5 v6 v8).all Value.oneCell'=true:=by
 simp only[pI,List.all_cons,h1,h3,h4,h5,h6,h8];rfl
theorem D7 {L:List Nat} {w:World} (h:bQ L w v (.sl sz rows)):v.oneCell'=true:=by cases h<;>rfl
theorem nX.one {t:Tk} (h:nX L w t v1 v3 v4 v5 v6 v8):(pI t v1 v3 v4 v5 v6 v8).all Value.oneCell'=true:=ad8 t (D7 h.regs) (D7 h.self) (D7 h.aK) (D7 h.at_) (D7 h.types) (D7 h.ak)
theorem gk.aF (h:gk τ E L w b o vb vt vc vy gb gt gc gy m) (k:aj G w w') (hG:∀x,x∈G->x∈b::E):gk τ E L w' b o vb vt vc vy gb gt gc gy m:=by
 obtain⟨a1,a2,a3,a4,a5,a6⟩:=h.apart
 have rI:∀x,x∈G->x∈L:=λx hx=>h.mem.2 (by rcases mC.1 (hG x hx) with h1|h1<;>simp[h1])
 have hF:Fr L w L w':=Fr.of k rI
 have out:∀x,x∉E->x≠b->x∉G:=λx h1 h2 h3=>by
  rcases mC.1 (hG x h3) with h4|h4
  ·exact h2 h4
  ·exact h1 h4
 refine⟨h.bl.aF hF k (λx hx=>out x (a3 x hx).1 (a3 x hx).2),h.ta.aF hF k (λx hx=>out x (a4 x hx).1 (a4 x hx).2.1),?_,h.ty.aF k (λx hx=>out x (a6 x (by simp[hx])).1 (a6 x (by simp[hx])).2.1),h.eL,h.nd,λx hx=>lL (h.cC x hx) k.size⟩
 rcases h.co with⟨ho,h1⟩|⟨ho,hn,h1⟩
 ·exact .inl ⟨ho,h1.aF k λx hx=>out x (a5 x (by simp[hx])).1 (a5 x (by simp[hx])).2.1⟩
 ·exact .inr ⟨ho,hn,h1.go hF⟩
theorem gk.ext (h:gk τ E L w b o vb vt vc vy gb gt gc gy m) (k:aj [] w w'):gk τ E L w' b o vb vt vc vy gb gt gc gy m:=h.aF k sm
theorem gk.drop {x:Nat} (h:gk τ (x::E) L w b o vb vt vc vy gb gt gc gy m):∃L',L=x::L'∧gk τ E L' w b o vb vt vc vy gb gt gc gy m:=by
 have rI:∀y,y∈E++b::(gb.toList++(gt.toList++(gc.toList++gy.toList)))->y∈L:=λy hy=>by rw[h.eL];simp only[List.cons_append,mC];exact .inr hy
 have hF:Fr L w (E++b::(gb.toList++(gt.toList++(gc.toList++gy.toList)))) w:=(Fr.refl L w).to λy hy=>.inl (rI y hy)
 have iS:=h.nd
 rw[h.eL,List.cons_append,List.nodup_cons] at iS
 refine⟨_,h.eL,⟨h.bl.aF hF (aj.refl [] w) sm,h.ta.aF hF (aj.refl [] w) sm,?_,h.ty,rfl,iS.2,λy hy=>h.cC y (rI y hy)⟩⟩
 rcases h.co with⟨ho,h1⟩|⟨ho,hn,h1⟩
 ·exact .inl ⟨ho,h1⟩
 ·exact .inr ⟨ho,hn,h1.go hF⟩
def mkV (m:Mk) (vb vt vc vy:Value):List Value:=[vb,vt,.int .i64 (m.count:Int),.bool m.wide,vc,vy]
def dG (τ:sD) (E L:List Nat) (w:World) (b:Nat) (o:Bool) (m:Mk):Prop:=∃vb vt vc vy gb gt gc gy,aJ w b (mkV m vb vt vc vy).toArray τ.M∧gk τ E L w b o vb vt vc vy gb gt gc gy m
theorem dG.ext (h:dG τ E L w b o m) (k:aj [] w w'):dG τ E L w' b o m:=by
 obtain⟨vb,vt,vc,vy,gb,gt,gc,gy,h1,h2⟩:=h
 exact⟨vb,vt,vc,vy,gb,gt,gc,gy,h1.aF k sm,h2.ext k⟩
theorem dG.aF (h:dG τ E L w b o m) (k:aj G w w') (hG:∀x,x∈G->x∈E):dG τ E L w' b o m:=by
 obtain⟨vb,vt,vc,vy,gb,gt,gc,gy,h1,h2⟩:=h
 exact⟨vb,vt,vc,vy,gb,gt,gc,gy,h1.aF k (λhx=>h2.apart.2.1 (hG b hx)),h2.aF k (λx hx=>mK _ (hG x hx))⟩
theorem dG.drop {x:Nat} (h:dG τ (x::E) L w b o m):∃L',L=x::L'∧dG τ E L' w b o m:=by
 obtain⟨vb,vt,vc,vy,gb,gt,gc,gy,h1,h2⟩:=h
 obtain⟨L',e,h3⟩:=h2.drop
 exact⟨L',e,vb,vt,vc,vy,gb,gt,gc,gy,h1,h3⟩
theorem dG.mem (h:dG τ E L w b o m):(∀x,x∈b::E->x∈L)∧E.Nodup∧b∉E∧∀x,x∈L->x<w.heap.size:=by
 obtain⟨vb,vt,vc,vy,gb,gt,gc,gy,h1,h2⟩:=h
 obtain⟨a1,a2,_⟩:=h2.apart
 exact⟨λx hx=>h2.mem.2 (by rcases mC.1 hx with h|h<;>simp[h]),a1,a2,h2.cC⟩
end
inductive It where
 |v (V:Value)
 |p (f:Value->World->Prop)
def It.F:It->Value->World->Prop
 | .v V=>λv _=>v=V
 | .p f=>f
def It.F9:It->Bool
 | .v _=>true
 | .p _=>false
def dq (its:List It) (ds:List Nat) (w:World):List Nat->(List (Nat×Value)->Prop)->Prop
 |[],k=>k []
 |j::r,k=>match its.getD j (.p λ_ _=>True) with
  | .v V=>dq its ds w r λacc=>k ((ds.getD j 0,V)::acc)
  | .p f=>∀v,f v w->dq its ds w r λacc=>k ((ds.getD j 0,v)::acc)
theorem IY {its:List It} {ds:List Nat} {vs:Nat->Value}:∀{deps:List Nat} {k:List (Nat×Value)->Prop},dq its ds w deps k->(∀j,j∈deps->py (its.map It.F) j (vs j) w)->k (tw ds vs deps)
 |[],k,h,_=>h
 |j::r,k,h,hd=>by
  have hj:=hd j (List.mem_cons_self ..)
  unfold dq at h
  have hp:((its.getD j (.p λ_ _=>True)).F) (vs j) w:=by
   unfold py at hj
   rw[gG] at hj⊢
   rw[List.getElem?_map] at hj
   cases e:its[j]? with
   |none=>trivial
   |some q=>rw[e] at hj;exact hj
  cases e:its.getD j (.p λ_ _=>True) with
  |v V=>
   rw[e] at h hp
   have hv:vs j=V:=hp
   subst hv
   exact IY (deps:=r) h λi hi=>hd i (mK _ hi)
  |p f=>
   rw[e] at h hp
   exact IY (deps:=r) (h _ hp) λi hi=>hd i (mK _ hi)
theorem Sz {F:List (Value->World->Prop)} {vs:Nat->Value}:∀{l:List Nat},Fw F vs w l->∀j,j∈l->py F j (vs j) w
 |[],_,j,h=>by cases h
 |[i],h,j,hj=>by rw[List.mem_singleton] at hj;subst hj;exact h
 |i::a::l,h,j,hj=>by
  rcases mC.1 hj with e|hj
  ·subst e;exact h.1
  ·exact Sz h.2 j hj
def Ga (P:Program) (n:Nat) (ops:Array Oper) (W ds:List Nat) (its:List It) (e0:Env) (w0:World) (k:Nat) (o:Oper) (deps:List Nat):Prop:=
 ∀(x:Env) (w:World),aj [] w0 w->dq its ds w deps λacc=>OW P n ops (λe' w'=>aj [] w w'∧(its.getD k (.p λ_ _=>True)).F (e' (ds.getD k 0)) w'∧ek [ds.getD k 0] (bo (bj W x e0) acc) e') [o] (bo (bj W x e0) acc) w
def qX (P:Program) (n:Nat) (ops:Array Oper) (W ds:List Nat) (its:List It) (e0:Env) (w0:World):Nat->List Oper->List (List Nat)->Prop
 |_,[],_=>True
 |_,_::_,[]=>True
 |k,o::l,d::r=>Ga P n ops W ds its e0 w0 k o d∧qX P n ops W ds its e0 w0 (k+1) l r
theorem vc {W ds:List Nat} {its:List It} {d:List Nat} (h:Ga P n ops W ds its e0 w0 k o d) (hr:qX P n ops W ds its e0 w0 (k+1) l r):qX P n ops W ds its e0 w0 k (o::l) (d::r):=⟨h,hr⟩
theorem SA {W ds:List Nat} {its:List It}:∀(l:List Oper) (deps:List (List Nat)) (k:Nat),qX P n ops W ds its e0 w0 k l deps->BH (aj []) P n ops W ds (its.map It.F) e0 w0 k l deps
 |[],_,_,_=>trivial
 |_::_,[],_,_=>trivial
 |o::l,d::r,k,h=>by
  refine⟨λx vs w e hk hd he=>?_,SA l r (k+1) h.2⟩
  have:=IY (h.1 x w hk) (vs:=vs) (Sz hd)
  subst he
  have e2:py (its.map It.F) k=(its.getD k (.p λ_ _=>True)).F:=by
   unfold py
   rw[gG,gG,List.getElem?_map]
   cases its[k]?<;>rfl
  rw[e2]
  exact this
def Gb:List It->Prop
 |[]=>True
 | .v _::r=>Gb r
 | .p f::r=>(∀v w w',f v w->aj [] w w'->f v w')∧Gb r
theorem Mu:∀{its:List It},Gb its->tx (aj []) (its.map It.F)
 |[],_=>trivial
 | .v _::r,h=>⟨λv w w' e _=>e,Mu (its:=r) h⟩
 | .p f::r,h=>⟨h.1,Mu (its:=r) h.2⟩
theorem SB:∀{its:List It},its.all It.F9=true->Gb its
 |[],_=>trivial
 | .v _::r,h=>SB (its:=r) (by simpa[It.F9] using h)
 | .p f::r,h=>by simp[It.F9] at h
section
variable {P:Program} {n:Nat} {l:List Oper} {m:Nat} {W ds:List Nat} {deps:List (List Nat)}
theorem uZ {N R:Env->World->Prop} {X:Nat->Env->World->Prop} {id:Nat} {e0:Env} {w0:World} (hm:P.follows .mixedOrders=true) (m:Nat) (W ds:List Nat) (deps:List (List Nat)) (its:List It) 
  (hB:uI l m W ds deps=true) (hS:Gb its)
  (hc:∀wd,aj [] w0 wd->qX P n l.toArray W ds its e0 wd 0 (l.take m) deps)
  (ht:∀(x:Env) (w:World),aj [] w0 w->dq its ds w (List.range m) λacc=>OW P n l.toArray N (l.drop m) (bo (bj W x e0) acc) w):
  CW P n (.region id l.toArray true) N R X e0 w0:=
 zB hm lV m W ds deps (its.map It.F) hB (Mu hS) (λwd hk=>SA _ _ _ (hc wd hk)) λx vs w hk Lc=>
  IY (ht x w hk) (vs:=vs) λj hj=>Lc j (List.mem_range.1 hj)
theorem k8 {N R:Env->World->Prop} {X:Nat->Env->World->Prop} {id:Nat} {e0:Env} {w0:World} (hm:P.follows .mixedOrders=true) (m:Nat) (W ds:List Nat) (deps:List (List Nat)) (its:List It) 
  (hB:uI l m W ds deps=true) (hS:its.all It.F9=true)
  (hc:∀wd,aj [] w0 wd->qX P n l.toArray W ds its e0 wd 0 (l.take m) deps)
  (ht:∀(x:Env) (w:World),aj [] w0 w->dq its ds w (List.range m) λacc=>OW P n l.toArray N (l.drop m) (bo (bj W x e0) acc) w):
  CW P n (.region id l.toArray true) N R X e0 w0:=uZ hm m W ds deps its hB (SB hS) hc ht
end
section
variable {P:Program} {n:Nat} {ops:Array Oper} {e:Env} {w w':World}
theorem pv (h:v=V:=by rfl):OW P n ops (λe' w'=>aj [] w w'∧(It.v V).F (e' d) w'∧ek [d] e e') [] (bM e (some d) v) w:=
 aZ ⟨aj.refl _ _,by subst h;exact mW _ _ _,qM⟩
theorem pk (k:aj [] w w') (h:v=V:=by rfl):OW P n ops (λe' w'=>aj [] w w'∧(It.v V).F (e' d) w'∧ek [d] e e') [] (bM e (some d) v) w':=
 aZ ⟨k,by subst h;exact mW _ _ _,qM⟩
theorem pf {f:Value->World->Prop} (k:aj [] w w') (h:f v w'):OW P n ops (λe' w'=>aj [] w w'∧(It.p f).F (e' d) w'∧ek [d] e e') [] (bM e (some d) v) w':=
 aZ ⟨k,by show f (gU e d v d) w';rw[mW];exact h,qM⟩
end
section
variable {P:Program} {n:Nat} {N R:Env->World->Prop} {X:Nat->Env->World->Prop} {e0:Env} {w:World}
theorem D8 {c:Code} (ds:List Nat) (outs:List (Nat×Value)) (h:CW P n c (λe' w'=>ek ds e0 e'∧Holds outs e'∧aj [] w w') R X e0 w) 
  (k:∀x w',aj [] w w'->N (bo (bj ds x e0) outs) w'):CW P n c N R X e0 w:=
 h.mono (λe' w' ⟨ha,ho,hk⟩=>by have:=k e' w' hk;rw[xO ha,H5 ho] at this;exact this) (λ_ _ h=>h) (λ_ _ _ h=>h)
end
theorem kE {r:Prop} (k:r) (h:p:=by repeat(first|with_reducible exact xN|refine Ib rfl ?_|refine K3 rfl ?_)) (h2:q:=by repeat' (first|rfl|(rw[iD];rfl)|(rw[mx];rfl)|constructor)):p∧q∧r:=⟨h,h2,k⟩
section
variable {P:Program} {n:Nat} {l:List Oper} {m:Nat} {W ds:List Nat} {deps:List (List Nat)}
theorem SC {N:Env->World->Prop} {Inv:(Nat->Bool)->Env->World->Prop} (hB:uI l m W ds deps=true) 
  (step:∀(S:Nat->Bool) (e:Env) (w:World) (i:Nat) (o:Oper),i<m->l[i]?=some o->S i=false->(∀j,waits o j=true->S j=true)->Inv S e w->
   OW P n l.toArray (λe' w'=>Inv (λj=>if j=i then true else S j) e' w') [o] e w)
  (tail:∀(S:Nat->Bool) (e:Env) (w:World),(∀i,i<m->S i=true)->Inv S e w->OW P n l.toArray N (l.drop m) e w) (Q:Exit->Act->World->Prop):
  ∀(fuel:Nat) (listed:Array Bool) (e:Env) (a:Act) (w:World),Fits n e a->listed.size=l.length->
   ((List.range l.length).filter λj=>!listed.getD j true).length=fuel->
   (∀j,m<=j->j<l.length->listed.getD j true=false)->Inv (λj=>listed.getD j false) e w->Ig l listed->
   wpAny P .any l.toArray (pw n N Q) fuel listed a w:=by
 obtain⟨tE,Fy,La,iS,mY⟩:=DI hB
 have zt:∀(listed:Array Bool) (j:Nat),listed.size=l.length->j<l.length->¬listed.getD j true=false->listed.getD j false=true:=λlisted j hs hj h1=>by
  rw[Array.getD_eq_getD_getElem?] at h1⊢
  rw[Array.getElem?_eq_getElem om] at h1⊢
  simpa using h1
 have Fz:∀(listed:Array Bool) (j:Nat),listed.size=l.length->j<l.length->listed.getD j false=true->listed.getD j true=true:=λlisted j hs hj h1=>by
  rw[Array.getD_eq_getD_getElem?] at h1⊢
  rw[Array.getElem?_eq_getElem om] at h1⊢
  simpa using h1
 intro fuel
 induction fuel with
 |zero=>
  intro listed e a w hf hs BK fF hI lW
  have cL:∀j,j<l.length->listed.getD j true=true:=λj hj=>by
   cases hg:listed.getD j true with
   |true=>rfl
   |false=>
    have:j∈(List.range l.length).filter λj=>!listed.getD j true:=by rw[List.mem_filter,List.mem_range];exact⟨hj,by rw[hg];rfl⟩
    rw[List.length_eq_zero_iff.1 BK] at this;cases this
  have hm:m=l.length:=by
   rcases Nat.lt_or_ge m l.length with h|h
   ·have:=fF m (lR _) h;rw[cL m h] at this;cases this
   ·omega
  have ht:=tail _ e w (λi hi=>zt listed i hs om (by rw[cL i om];simp)) hI
  have h2:=ht a hf Q
  exact Ih hB 0 m listed a w (lR _) om hs (λj hj=>⟨λh=>(by rw[cL j hj] at h;cases h),λh=>om⟩) h2
 |succ fuel ih=>
  intro listed e a w hf hs BK fF hI lW
  by_cases uJ:∀j,j<m->listed.getD j true=true
  ·have ht:=tail _ e w (λi hi=>zt listed i hs om (by rw[uJ i hi];simp)) hI
   have h2:=ht a hf Q
   have zv:∀j,j<l.length->(listed.getD j true=false↔m<=j):=λj hj=>by
    constructor
    ·intro h
     rcases Nat.lt_or_ge j m with h'|h'
     ·rw[uJ j h'] at h;cases h
     ·exact h'
    ·intro h;exact fF j h hj
   have zw:m+(fuel+1)=l.length:=by
    rw[<-BK]
    have:∀k,k<=l.length->m<=k->((List.range k).filter λj=>!listed.getD j true).length=k-m:=by
     intro k
     induction k with
     |zero=>intro _ h;simp
     |succ k ihk=>
      intro fb wb
      rw[List.range_succ,List.filter_append,lA]
      rcases Nat.lt_or_ge k m with h'|h'
      ·have Qk:k+1=m:=by omega
       have hz:((List.range k).filter λj=>!listed.getD j true)=[]:=by
        rw[List.filter_eq_nil_iff]
        intro j hj
        rw[List.mem_range] at hj
        rw[uJ j om];simp
       have e1:(!listed.getD k true)=false:=by rw[uJ k h'];rfl
       simp only[hz,List.filter_cons,e1,List.filter_nil,List.length_nil]
       simp;omega
      ·rw[ihk om h']
       have e1:(!listed.getD k true)=true:=by rw[(zv k om).2 h'];rfl
       simp only[List.filter_cons,e1,List.filter_nil,if_true,lC,List.length_nil]
       omega
    have:=this l.length (lR _) tE
    omega
   exact Ih hB (fuel+1) m listed a w (lR _) zw hs zv h2
  ·have hex:∃j,j<m∧listed.getD j true=false∧∀i,i<j->listed.getD i true=true:=by
    have:∀k,(∃j,j<k∧listed.getD j true=false∧∀i,i<j->listed.getD i true=true)∨∀j,j<k->listed.getD j true=true:=by
     intro k
     induction k with
     |zero=>right;intro j hj;omega
     |succ k ihk=>
      rcases ihk with⟨j,hj,h1,h2⟩|h
      ·exact .inl ⟨j,om,h1,h2⟩
      ·cases hg:listed.getD k true with
       |false=>exact .inl ⟨k,om,hg,h⟩
       |true=>
        right
        intro j hj
        rcases Nat.lt_or_ge j k with h'|h'
        ·exact h j h'
        ·rw[show j=k from by omega];exact hg
    rcases this m with h|h
    ·exact h
    ·exact absurd h uJ
   obtain⟨j0,BL,FB,FC⟩:=hex
   obtain⟨o0,FD⟩:∃o,l[j0]?=some o:=⟨l[j0]'om,gE om⟩
   have mZ:j0∈Region.ready .any l.toArray listed:=mem_ready.2 ⟨FB,o0,by simpa using FD,λed he hb=>by
    have dU:=(mY j0 o0 FD).1 ed he hb
    exact zt listed _ hs om (by rw[FC _ dU];simp)⟩
   refine⟨λhr=>(by rw[hr] at mZ;cases mZ),λi hi=>?_⟩
   obtain⟨hu,o,ho,cL⟩:=mem_ready.1 hi
   have mj:i<l.length:=by simpa using(Array.getElem?_eq_some_iff.1 ho).1
   have mn:l[i]?=some o:=by simpa using ho
   have qN:i<m:=by
    rcases Nat.lt_or_ge i m with h|h
    ·exact h
    ·have:=Fz listed j0 hs om (K8 lW mn cL ((mY i o mn).2.2 h) (i-j0) j0 om om)
     rw[FB] at this;cases this
   have tQ:listed.getD i false=false:=by
    cases h:listed.getD i false with
    |false=>rfl
    |true=>rw[Fz listed i hs mj h] at hu;cases hu
   have h1:=step (λj=>listed.getD j false) e w i o qN mn tQ (λj hj=>by
    obtain⟨ed,he,hb,uK⟩:=K7 hj
    rw[<-uK];exact cL ed he hb) hI
   have h2:=h1 a hf Q
   have next:∀(a':Act) (w':World),pw n (λe' w'=>Inv (λj=>if j=i then true else listed.getD j false) e' w') Q .normal a' w'->
     wpAny P .any l.toArray (pw n N Q) fuel (listed.setIfInBounds i true) a' w':=λa' w' hq=>by
    obtain⟨e',Lb,hI'⟩:=hq
    refine ih _ e' a' w' Lb (by simpa using hs) ?_ ?_ ?_ ?_
    ·have zw:∀k,k<=l.length->((List.range k).filter λj=>!(listed.setIfInBounds i true).getD j true).length+(if i<k then 1 else 0)=((List.range k).filter λj=>!listed.getD j true).length:=by
      intro k
      induction k with
      |zero=>simp
      |succ k ihk=>
       intro fb
       have uL:=ihk om
       rw[List.range_succ,List.filter_append,lA,List.filter_append,lA]
       by_cases uM:i=k
       ·subst uM
        rw[iN om] at uL
        have dU:i<listed.size:=by omega
        have e1:(listed.setIfInBounds i true).getD i true=true:=by simp[Array.getD_eq_getD_getElem?,dU]
        rw[iP om]
        simp only[List.filter_cons,e1,hu,List.filter_nil,Bool.not_true,Bool.not_false,if_true,Bool.false_eq_true,if_false,lC,List.length_nil]
        omega
       ·have e1:(listed.setIfInBounds i true).getD k true=listed.getD k true:=getD_set_ne true uM
        simp only[List.filter_cons,e1,List.filter_nil]
        have YP:(i<k+1)↔(i<k):=by omega
        by_cases px:i<k
        ·have c1:i<k+1:=by omega
         rw[iP px] at uL;rw[iP c1];split<;>simp only[lC,List.length_nil]<;>omega
        ·have c1:¬i<k+1:=by omega
         rw[iN px] at uL;rw[iN c1];split<;>simp only[lC,List.length_nil]<;>omega
     have:=zw l.length (lR _)
     rw[iP mj] at this
     omega
    ·intro j Ld oz
     rw[getD_set_ne true om];exact fF j Ld oz
    ·have e1:(λj=>(listed.setIfInBounds i true).getD j false)=λj=>if j=i then true else listed.getD j false:=by
      funext j
      by_cases lX:i=j
      ·subst lX
       have:i<listed.size:=by omega
       simp[Array.getD_eq_getD_getElem?,this]
      ·rw[getD_set_ne false lX,iN (λh=>lX h.symm)]
     rw[e1];exact hI'
    ·intro j oj BN hj e2 mo aU
     have we:∀x,listed.getD x false=true->(listed.setIfInBounds i true).getD x false=true:=λx hx=>by
      by_cases FF:i=x
      ·subst FF
       have:i<listed.size:=by omega
       simp[Array.getD_eq_getD_getElem?,this]
      ·rw[getD_set_ne false FF];exact hx
     by_cases lX:i=j
     ·subst lX
      rw[mn] at BN;cases BN
      exact we _ (cL e2 mo aU)
     ·rw[getD_set_ne false lX] at hj
      exact we _ (lW j oj BN hj e2 mo aU)
   unfold wpOp
   simp only[ho]
   unfold wpList at h2
   by_cases hw:Region.wanted o (yielded l.toArray a.tmps)=true
   ·rw[iP hw] at h2⊢
    rcases h2 with h2|⟨h2,h3⟩
    ·refine .inl (Oper.K4 (λa' w' h'=>next a' w' h') (λ_ _ _ h=>h) (fun⟨a,w,hq⟩=>⟨a,w,hq⟩) h2)
    ·exact .inr ⟨h2,by obtain⟨a',w',hq⟩:=h3;exact⟨a',w',hq⟩⟩
   ·rw[iN hw] at h2⊢
    exact next _ _ h2
inductive Ie where
 |v (V:Value)
 |p (f:List Nat->Value->World->Prop)
 |e (t:Nat)
 |w (t:Nat) (V:Value)
 |q (t:Nat) (f:Value->Prop)
def Ie.F:Ie->List Nat->Value->World->Prop
 | .v V=>λ_ v _=>v=V
 | .p f=>f
 | .e _=>λ_ _ _=>True
 | .w _ V=>λ_ v _=>v=V
 | .q _ f=>λ_ v _=>f v
def Ie.j7:Ie->Option Nat
 | .e t=>some t
 | .w t _=>some t
 | .q t _=>some t
 |_=>none
abbrev l0:Ie:=.p λ_ _ _=>True
def wK (its:List Ie) (ds:List Nat) (G:List Nat) (aS:List Value) (w:World):List Nat->(List (Nat×Value)->Prop)->Prop
 |[],k=>k []
 |j::r,k=>match its.getD j l0 with
  | .v V=>wK its ds G aS w r λacc=>k ((ds.getD j 0,V)::acc)
  | .p f=>∀v,f G v w->wK its ds G aS w r λacc=>k ((ds.getD j 0,v)::acc)
  | .e t=>wK its ds G aS w r λacc=>k ((ds.getD j 0,aS.getD t undef)::acc)
  | .w _ V=>wK its ds G aS w r λacc=>k ((ds.getD j 0,V)::acc)
  | .q t f=>∀v,aS.getD t undef=v->f v->wK its ds G aS w r λacc=>k ((ds.getD j 0,v)::acc)
theorem Ah {its:List Ie} {ds:List Nat} {aS:List Value} {vs:Nat->Value}:∀{deps:List Nat} {k:List (Nat×Value)->Prop},wK its ds G aS w deps k->
  (∀j,j∈deps->(its.getD j l0).F G (vs j) w∧∀t,(its.getD j l0).j7=some t->aS.getD t undef=vs j)->k (tw ds vs deps)
 |[],k,h,_=>h
 |j::r,k,h,hd=>by
  obtain⟨hp,he⟩:=hd j (List.mem_cons_self ..)
  unfold wK at h
  have hr:∀i,i∈r->_:=λi hi=>hd i (mK _ hi)
  cases e:its.getD j l0 with
  |v V=>
   rw[e] at h hp
   have hv:vs j=V:=hp
   subst hv
   exact Ah (deps:=r) h hr
  |p f=>
   rw[e] at h hp
   exact Ah (deps:=r) (h _ hp) hr
  |e t=>
   rw[e] at h
   have hv:=he t (by rw[e];rfl)
   simp only[hv] at h
   exact Ah (deps:=r) h hr
  |w t V=>
   rw[e] at h hp
   have hv:vs j=V:=hp
   subst hv
   exact Ah (deps:=r) h hr
  |q t f=>
   rw[e] at h hp
   exact Ah (deps:=r) (h _ (he t (by rw[e];rfl)) hp) hr
def eO (G:List Nat) (w:World):Prop:=∀x,x∈G->x<w.heap.size
def IZ (P:Program) (n:Nat) (ops:Array Oper) (W ds:List Nat) (its:List Ie) (e0:Env) (G0:List Nat) (w0:World) (i:Nat) (o:Oper) (deps:List Nat):Prop:=
 ∀(x:Env) (w:World) (G:List Nat) (aS:List Value),Fr G0 w0 G w->eO G w->wK its ds G aS w deps λacc=>
  OW P n ops (λe' w'=>aj [] w w'∧(its.getD i l0).F G (e' (ds.getD i 0)) w'∧ek [ds.getD i 0] (bo (bj W x e0) acc) e') [o] (bo (bj W x e0) acc) w
def SD (P:Program) (n:Nat) (ops:Array Oper) (W ds:List Nat) (its:List Ie) (Js:List (List Nat->List Value->World->Prop)) (e0:Env) (G0:List Nat) (w0:World) (t i:Nat) (o:Oper) (deps:List Nat):Prop:=
 ∀(x:Env) (w:World) (G:List Nat) (aS:List Value),Fr G0 w0 G w->eO G w->Js.getD t (λ_ _ _=>True) G aS w->aS.length=t->wK its ds G aS w deps λacc=>
  OW P n ops (λe' w'=>(∃G',Fr G w G' w'∧eO G' w'∧Js.getD (t+1) (λ_ _ _=>True) G' (aS++[e' (ds.getD i 0)]) w'∧(its.getD i l0).F G' (e' (ds.getD i 0)) w')∧ek [ds.getD i 0] (bo (bj W x e0) acc) e') [o] (bo (bj W x e0) acc) w
def D9 (P:Program) (n:Nat) (ops:Array Oper) (W ds:List Nat) (its:List Ie) (Js:List (List Nat->List Value->World->Prop)) (e0:Env) (G0:List Nat) (w0:World) (i:Nat) (o:Oper) (deps:List Nat):Prop:=
 match(its.getD i l0).j7 with
 |some t=>SD P n ops W ds its Js e0 G0 w0 t i o deps
 |none=>IZ P n ops W ds its e0 G0 w0 i o deps
def va (P:Program) (n:Nat) (ops:Array Oper) (W ds:List Nat) (its:List Ie) (Js:List (List Nat->List Value->World->Prop)) (e0:Env) (G0:List Nat) (w0:World):Nat->List Oper->List (List Nat)->Prop
 |_,[],_=>True
 |_,_::_,[]=>True
 |k,o::l,d::r=>D9 P n ops W ds its Js e0 G0 w0 k o d∧va P n ops W ds its Js e0 G0 w0 (k+1) l r
section
variable {P:Program} {n:Nat} {ops:Array Oper} {W ds:List Nat} {its:List Ie} {Js:List (List Nat->List Value->World->Prop)} {e0:Env} {G0:List Nat} {w0:World}
theorem vf {l:List Oper} {d:List Nat} (h:IZ P n ops W ds its e0 G0 w0 k o d) (hr:va P n ops W ds its Js e0 G0 w0 (k+1) l r) (hk:(its.getD k l0).j7=none:=by rfl):va P n ops W ds its Js e0 G0 w0 k (o::l) (d::r):=
 ⟨by unfold D9;rw[hk];exact h,hr⟩
theorem ve (t:Nat) {l:List Oper} {d:List Nat} (h:SD P n ops W ds its Js e0 G0 w0 t k o d) (hr:va P n ops W ds its Js e0 G0 w0 (k+1) l r) (hk:(its.getD k l0).j7=some t:=by rfl):va P n ops W ds its Js e0 G0 w0 k (o::l) (d::r):=
 ⟨by unfold D9;rw[hk];exact h,hr⟩
theorem SE:∀(l:List Oper) (deps:List (List Nat)) (k:Nat),va P n ops W ds its Js e0 G0 w0 k l deps->∀(i:Nat) (o:Oper) (d:List Nat),l[i]?=some o->deps[i]?=some d->D9 P n ops W ds its Js e0 G0 w0 (k+i) o d
 |[],_,_,_,i,o,d,h,_=>by simp at h
 |_::_,[],_,_,i,o,d,_,h=>by simp at h
 |o::l,d::r,k,h,0,o',d',ho,hd=>by
  simp at ho hd;subst ho;subst hd;exact h.1
 |o::l,d::r,k,h,i+1,o',d',ho,hd=>by
  have:=SE l r (k+1) h.2 i o' d' (by simpa using ho) (by simpa using hd)
  rwa [show k+1+i=k+(i+1) by omega] at this
end
def Mv (l:List Oper) (m:Nat) (effs:List Nat) (its:List Ie):Bool:=
 (List.range effs.length).all (λt=>decide (effs.getD t 0<m)&&((its.getD (effs.getD t 0) l0).j7==some t)&&(decide (t=0)||(match l[effs.getD t 0]? with|some o=>waits o (effs.getD (t-1) 0)|none=>false)))&&
 (List.range m).all (λi=>match(its.getD i l0).j7 with|some t=>decide (t<effs.length)&&decide (effs.getD t 0=i)|none=>true)
theorem aeb {l:List Oper} {m:Nat} {effs:List Nat} {its:List Ie} (h:Mv l m effs its=true):
  (∀t,t<effs.length->effs.getD t 0<m∧(its.getD (effs.getD t 0) l0).j7=some t∧(t≠0->∃o,l[effs.getD t 0]?=some o∧waits o (effs.getD (t-1) 0)=true))∧
  ∀i t,i<m->(its.getD i l0).j7=some t->t<effs.length∧effs.getD t 0=i:=by
 unfold Mv at h
 rw[aE,List.all_eq_true,List.all_eq_true] at h
 obtain⟨h1,h2⟩:=h
 refine⟨λt ht=>?_,λi t hi he=>?_⟩
 ·have:=h1 t (List.mem_range.2 ht)
  simp only[aE,dE,beq_iff_eq,oE] at this
  obtain⟨⟨a,b⟩,c⟩:=this
  refine⟨a,b,λh0=>?_⟩
  rcases c with c|c
  ·exact absurd c h0
  ·cases hl:l[effs.getD t 0]? with
   |none=>rw[hl] at c;cases c
   |some o=>rw[hl] at c;exact⟨o,rfl,c⟩
 ·have:=h2 i (List.mem_range.2 hi)
  rw[he] at this
  simpa using this
def Ai:List Ie->Prop
 |[]=>True
 | .p f::r=>(∀G v w G' w',f G v w->Fr G w G' w'->f G' v w')∧Ai r
 | .v _::r=>Ai r
 | .e _::r=>Ai r
 | .w _ _::r=>Ai r
 | .q _ _::r=>Ai r
theorem Ea:∀{its:List Ie},Ai its->∀q,q∈its->∀G v w G' w',q.F G v w->Fr G w G' w'->q.F G' v w'
 | .p f::r,h,q,hq,G,v,w,G',w',hf,hk=>by
  rcases mC.1 hq with e|hq
  ·subst e;exact h.1 _ _ _ _ _ hf hk
  ·exact Ea (its:=r) h.2 q hq _ _ _ _ _ hf hk
 | .v V::r,h,q,hq,G,v,w,G',w',hf,hk=>by
  rcases mC.1 hq with e|hq
  ·subst e;exact hf
  ·exact Ea (its:=r) h q hq _ _ _ _ _ hf hk
 | .e V::r,h,q,hq,G,v,w,G',w',hf,hk=>by
  rcases mC.1 hq with e|hq
  ·subst e;exact hf
  ·exact Ea (its:=r) h q hq _ _ _ _ _ hf hk
 | .w t V::r,h,q,hq,G,v,w,G',w',hf,hk=>by
  rcases mC.1 hq with e|hq
  ·subst e;exact hf
  ·exact Ea (its:=r) h q hq _ _ _ _ _ hf hk
 | .q t f::r,h,q,hq,G,v,w,G',w',hf,hk=>by
  rcases mC.1 hq with e|hq
  ·subst e;exact hf
  ·exact Ea (its:=r) h q hq _ _ _ _ _ hf hk
theorem SF {its:List Ie} (h:Ai its) (i:Nat) {G':List Nat} (hf:(its.getD i l0).F G v w) (hk:Fr G w G' w'):(its.getD i l0).F G' v w':=by
 rw[gG] at hf⊢
 cases e:its[i]? with
 |none=>trivial
 |some q=>rw[e] at hf;exact Ea h q (List.mem_of_getElem? e) _ _ _ _ _ hf hk
def I0:List (List Nat->List Value->World->Prop)->Prop
 |[]=>True
 |J::r=>(∀G vs w w',J G vs w->aj [] w w'->J G vs w')∧I0 r
theorem Gc:∀{Js:List (List Nat->List Value->World->Prop)},I0 Js->∀(k:Nat) {G:List Nat} {vs:List Value} {w w':World},Js.getD k (λ_ _ _=>True) G vs w->aj [] w w'->Js.getD k (λ_ _ _=>True) G vs w'
 |[],_,k,_,_,_,_,_,_=>by simp
 |J::r,h,0,_,_,_,_,hj,hk=>h.1 _ _ _ _ hj hk
 |J::r,h,k+1,_,_,_,_,hj,hk=>by
  have:=Gc (Js:=r) h.2 k (by simpa using hj) hk
  simpa using this
theorem jg {α:Type} {l:List α} (h:l.length=0):l=[]:=by grind
theorem jh {α:Type} {l:List α} (h:l.length=1):∃a,l=[a]:=List.length_eq_one_iff.1 h
theorem k9 {α:Type} {l:List α} (h:l.length=2):∃a b,l=[a,b]:=by
 match l,h with|[a,b],_=>exact⟨a,b,rfl⟩
theorem Aj {α:Type} {l:List α} (h:l.length=3):∃a b c,l=[a,b,c]:=by
 match l,h with|[a,b,c],_=>exact⟨a,b,c,rfl⟩
theorem Mw {α:Type} {l:List α} (h:l.length=4):∃a b c d,l=[a,b,c,d]:=by
 match l,h with|[a,b,c,d],_=>exact⟨a,b,c,d,rfl⟩
theorem SG {α:Type} {l:List α} (h:l.length=5):∃a b c d e,l=[a,b,c,d,e]:=by
 match l,h with|[a,b,c,d,e],_=>exact⟨a,b,c,d,e,rfl⟩
theorem aec {α:Type} {l:List α} (h:l.length=6):∃a b c d e f,l=[a,b,c,d,e,f]:=by
 match l,h with|[a,b,c,d,e,f],_=>exact⟨a,b,c,d,e,f,rfl⟩
theorem Ak {W ds:List Nat} {e:Env} (ha:ek W e0 e) (r:List Nat):bo (bj W e e0) (tw ds (λi=>e (ds.getD i 0)) r)=e:=by
 rw[xO ha,Fx (by
  intro p hp
  have:∀(r:List Nat),p∈tw ds (λi=>e (ds.getD i 0)) r->e p.1=p.2:=by
   intro r
   induction r with
   |nil=>intro h;cases h
   |cons j r ih=>
    intro h
    rcases mC.1 h with h|h
    ·subst h;rfl
    ·exact ih h
  exact this _ hp)]
theorem jF {N R:Env->World->Prop} {X:Nat->Env->World->Prop} {id:Nat} {e0:Env} {w0:World} (hm:P.follows .mixedOrders=true) (G0:List Nat) (m:Nat) (W ds:List Nat) (deps:List (List Nat)) (its:List Ie) (effs:List Nat) (Js:List (List Nat->List Value->World->Prop)) 
  (hB:uI l m W ds deps=true) (hE:Mv l m effs its=true) (hL:eO G0 w0) (hF:Ai its) (hJ:I0 Js) (h0:Js.getD 0 (λ_ _ _=>True) G0 [] w0)
  (hc:va P n l.toArray W ds its Js e0 G0 w0 0 (l.take m) deps)
  (ht:∀(x:Env) (w:World) (G:List Nat) (aS:List Value),Fr G0 w0 G w->eO G w->Js.getD effs.length (λ_ _ _=>True) G aS w->aS.length=effs.length->wK its ds G aS w (List.range m) λacc=>OW P n l.toArray N (l.drop m) (bo (bj W x e0) acc) w):
  CW P n (.region id l.toArray true) N R X e0 w0:=λa ha=>by
 refine wp_region_any hm ?_
 have fT:aj [] w0 {w0 with drawn:=w0.drawn+1}:=aj.drew _ _
 obtain⟨tE,Fy,La,iS,mY⟩:=DI hB
 obtain⟨oW,mo⟩:=aeb hE
 have dL:∀i j,i<m->j<m->i≠j->ds.getD j 0≠ds.getD i 0:=λi j hi hj lX=>by
  rw[gG,gG,gE om,gE om]
  simp only[Option.getD_some]
  intro he
  exact lX ((List.getElem_inj iS).1 he.symm)
 let Inv:(Nat->Bool)->Env->World->Prop:=λS e w=>∃G k,ek W e0 e∧Fr G0 w0 G w∧eO G w∧k<=effs.length∧(∀t,t<effs.length->(S (effs.getD t 0)=true↔t<k))∧
  Js.getD k (λ_ _ _=>True) G ((effs.take k).map λi=>e (ds.getD i 0)) w∧∀i,i<m->S i=true->(its.getD i l0).F G (e (ds.getD i 0)) w
 have Gd:∀(S:Nat->Bool) (e:Env) (k:Nat),(∀t,t<effs.length->(S (effs.getD t 0)=true↔t<k))->k<=effs.length->∀j t,j<m->S j=true->(its.getD j l0).j7=some t->((effs.take k).map λi=>e (ds.getD i 0)).getD t undef=e (ds.getD j 0):=by
  intro S e k hS hk j t hj ly he
  obtain⟨h1,h2⟩:=mo j t hj he
  have h3:t<k:=(hS t h1).1 (by rw[h2];exact ly)
  rw[gG,List.getElem?_map,List.getElem?_take,iP h3,gE h1]
  rw[gG,gE h1] at h2
  simp only[Option.getD_some] at h2
  simp[h2]
 have step:∀(S:Nat->Bool) (e:Env) (w:World) (i:Nat) (o:Oper),i<m->l[i]?=some o->S i=false->(∀j,waits o j=true->S j=true)->Inv S e w->
   OW P n l.toArray (λe' w'=>Inv (λj=>if j=i then true else S j) e' w') [o] e w:=by
  rintro S e w i o qN ho tQ Al ⟨G,k,p9,bC,pJ,fb,hS,vg,oN⟩
  obtain⟨hW,zy⟩:=(mY i o ho).2.1 qN
  obtain⟨dp,zz⟩:∃d,deps[i]?=some d:=⟨deps[i]'om,gE om⟩
  have FE:deps.getD i []=dp:=by rw[gG,zz];rfl
  rw[FE] at zy
  have iI:=SE (l.take m) deps 0 hc i o dp (by rw[List.getElem?_take,iP qN];exact ho) zz
  rw[Nat.zero_add] at iI
  have hd:∀j,j∈dp->(its.getD j l0).F G (e (ds.getD j 0)) w∧∀t,(its.getD j l0).j7=some t->((effs.take k).map λi=>e (ds.getD i 0)).getD t undef=e (ds.getD j 0):=λj hj=>by
   obtain⟨h1,h2⟩:=zy j hj
   exact⟨oN j h2 (Al j h1),λt het=>Gd S e k hS fb j t h2 (Al j h1) het⟩
  have Ge:∀e',ek [ds.getD i 0] e e'->ek W e0 e':=λe' h t B6=>by
   have Eb:t≠ds.getD i 0:=λhe=>by rw[he,hW] at B6;cases B6
   rw[h t (by simpa using Eb)];exact p9 t B6
  have Am:∀e',ek [ds.getD i 0] e e'->∀j,j<m->j≠i->e' (ds.getD j 0)=e (ds.getD j 0):=λe' h j hj iM=>h _ (by simpa using dL i j qN hj (λh=>iM h.symm))
  have fl:[o]=[o]++[]:=rfl
  cases sE:(its.getD i l0).j7 with
  |none=>
   unfold D9 at iI
   rw[sE] at iI
   have h1:=Ah (iI e w G _ bC pJ) (vs:=λj=>e (ds.getD j 0)) hd
   rw[Ak p9] at h1
   rw[fl]
   refine vZ h1 ?_
   rintro e' w' ⟨pz,xZ,lz⟩
   refine aZ ⟨G,k,Ge e' lz,bC.ext pz,λx hx=>lL (pJ x hx) pz.size,fb,λt fF=>?_,?_,λj hj ly=>?_⟩
   ·have sF:effs.getD t 0≠i:=λh=>by have:=(oW t fF).2.1;rw[h,sE] at this;cases this
    simp only[iN sF]
    exact hS t fF
   ·have e1:((effs.take k).map λi=>e' (ds.getD i 0))=(effs.take k).map λi=>e (ds.getD i 0):=by
     apply List.map_congr_left
     intro j hj
     obtain⟨t,nz⟩:=List.mem_iff_getElem?.1 hj
     rw[List.getElem?_take] at nz
     split at nz
     ·have fF:t<effs.length:=(List.getElem?_eq_some_iff.1 nz).1
      have uK:effs.getD t 0=j:=by rw[gG,nz];rfl
      have h3:=oW t fF
      rw[uK] at h3
      exact Am e' lz j h3.1 (λh=>by rw[h,sE] at h3;cases h3.2.1)
     ·cases nz
    rw[e1];exact Gc hJ k vg pz
   ·by_cases iM:j=i
    ·rw[iM];exact xZ
    ·simp only[iN iM] at ly
     rw[Am e' lz j hj iM]
     exact SF hF j (oN j hj ly) (Fr.of pz sm)
  |some t=>
   unfold D9 at iI
   rw[sE] at iI
   obtain⟨fF,sF⟩:=mo i t qN sE
   have qo:k=t:=by
    have h1:¬t<k:=λh=>by have:=(hS t fF).2 h;rw[sF,tQ] at this;cases this
    rcases Nat.eq_zero_or_pos t with h0|h0
    ·omega
    ·obtain⟨o',mn,Gf⟩:=(oW t fF).2.2 om
     rw[sF,ho] at mn
     cases mn
     have:=(hS (t-1) om).1 (Al _ Gf)
     omega
   subst qo
   have hlen:((effs.take k).map λi=>e (ds.getD i 0)).length=k:=by simp;omega
   have h1:=Ah (iI e w G _ bC pJ vg hlen) (vs:=λj=>e (ds.getD j 0)) hd
   rw[Ak p9] at h1
   rw[fl]
   refine vZ h1 ?_
   rintro e' w' ⟨⟨G',wL,B7,Ec,xZ⟩,lz⟩
   have Gg:∀t',t'<effs.length->effs.getD t' 0=i->t'=k:=λt' h1 h2=>by
    have:=(oW t' h1).2.1
    rw[h2,sE] at this
    cases this;rfl
   refine aZ ⟨G',k+1,Ge e' lz,bC.go wL,B7,om,λt' An=>?_,?_,λj hj ly=>?_⟩
   ·by_cases h2:effs.getD t' 0=i
    ·have:=Gg t' An h2
     simp only[iP h2]
     exact⟨λ_=>om,λ_=>trivial⟩
    ·simp only[iN h2]
     rw[hS t' An]
     have:t'≠k:=λh=>by rw[h] at h2;exact h2 sF
     omega
   ·have e1:((effs.take (k+1)).map λi=>e' (ds.getD i 0))=((effs.take k).map λi=>e (ds.getD i 0))++[e' (ds.getD i 0)]:=by
     have h2:effs[k]?=some i:=by
      rw[gG,gE fF] at sF
      rw[gE fF]
      simpa using sF
     rw[List.take_add_one,h2,List.map_append]
     congr 1
     apply List.map_congr_left
     intro j hj
     obtain⟨t',nz⟩:=List.mem_iff_getElem?.1 hj
     rw[List.getElem?_take] at nz
     split at nz
     ·rename_i dU
      have An:t'<effs.length:=(List.getElem?_eq_some_iff.1 nz).1
      have uK:effs.getD t' 0=j:=by rw[gG,nz];rfl
      exact Am e' lz j (by have:=(oW t' An).1;rw[uK] at this;exact this) (λh=>by have:=Gg t' An (uK.trans h);omega)
     ·cases nz
    rw[e1];exact Ec
   ·by_cases iM:j=i
    ·rw[iM];exact xZ
    ·simp only[iN iM] at ly
     rw[Am e' lz j hj iM]
     exact SF hF j (oN j hj ly) wL
 have tail:∀(S:Nat->Bool) (e:Env) (w:World),(∀i,i<m->S i=true)->Inv S e w->OW P n l.toArray N (l.drop m) e w:=by
  rintro S e w Ao ⟨G,k,p9,bC,pJ,fb,hS,vg,oN⟩
  have hk:k=effs.length:=by
   rcases Nat.lt_or_ge k effs.length with h|h
   ·have:=(hS k h).1 (Ao _ (oW k h).1);omega
   ·omega
  subst hk
  have h1:=Ah (ht e w G _ bC pJ vg sm) (vs:=λj=>e (ds.getD j 0)) (λj hj=>by
   have pA:=List.mem_range.1 hj
   exact⟨oN j pA (Ao j pA),λt het=>Gd S e _ hS fb j t pA (Ao j pA) het⟩)
  rw[Ak p9] at h1
  exact h1
 have gB:∀j,(Array.replicate l.length false).getD j false=false:=λj=>by
  rw[Array.getD_eq_getD_getElem?,Array.getElem?_replicate];split<;>rfl
 have Mx:Inv (λj=>(Array.replicate l.length false).getD j false) e0 {w0 with drawn:=w0.drawn+1}:=by
  refine⟨G0,0,xN,Fr.of fT sm,λx hx=>hL x hx,Nat.zero_le _,λt fF=>?_,Gc hJ 0 h0 fT,λi hi tQ=>?_⟩
  ·constructor
   ·intro h;exact absurd ((gB (effs.getD t 0)).symm.trans h) sm
   ·intro h;omega
  ·exact absurd ((gB i).symm.trans tQ) sm
 have:=SC (N:=N) (Inv:=Inv) hB step tail (kR n N R X) l.length (Array.replicate l.length false) e0 a _ ha sm
  (by
   have:((List.range l.length).filter λj=>!(Array.replicate l.length false).getD j true)=List.range l.length:=by
    rw[List.filter_eq_self]
    intro j hj
    rw[List.mem_range] at hj
    simp[Array.getD_eq_getD_getElem?,hj]
   rw[this];simp)
  (by intro j _ hj;simp[Array.getD_eq_getD_getElem?,hj])
  Mx
  (by
   intro j o ho hj
   have pA:j<l.length:=(List.getElem?_eq_some_iff.1 ho).1
   simp[Array.getD_eq_getD_getElem?,pA] at hj)
 have e1:pw n N (kR n N R X)=kR n N R X:=by
  funext x a w;cases x<;>rfl
 rw[e1] at this
 simpa using this
end
section
variable {P:Program} {n:Nat} {ops:Array Oper} {e:Env} {w w':World} {G:List Nat}
theorem fv (h:v=V:=by rfl):OW P n ops (λe' w'=>aj [] w w'∧(Ie.v V).F G (e' d) w'∧ek [d] e e') [] (bM e (some d) v) w:=
 aZ ⟨aj.refl _ _,by subst h;exact mW _ _ _,qM⟩
theorem fk (k:aj [] w w') (h:v=V:=by rfl):OW P n ops (λe' w'=>aj [] w w'∧(Ie.v V).F G (e' d) w'∧ek [d] e e') [] (bM e (some d) v) w':=
 aZ ⟨k,by subst h;exact mW _ _ _,qM⟩
theorem ff {f:List Nat->Value->World->Prop} (k:aj [] w w') (h:f G v w'):OW P n ops (λe' w'=>aj [] w w'∧(Ie.p f).F G (e' d) w'∧ek [d] e e') [] (bM e (some d) v) w':=
 aZ ⟨k,by show f G (gU e d v d) w';rw[mW];exact h,qM⟩
theorem fe {aS:List Value} (G':List Nat) (k:Fr G w G' w') (hl:eO G' w') (h:J G' (aS++[v]) w'):OW P n ops (λe' w'=>(∃G',Fr G w G' w'∧eO G' w'∧J G' (aS++[e' d]) w'∧(Ie.e t).F G' (e' d) w')∧ek [d] e e') [] (bM e (some d) v) w':=
 aZ ⟨⟨G',k,hl,by show J G' (aS++[gU e d v d]) w';rw[mW];exact h,trivial⟩,qM⟩
theorem fw {aS:List Value} (G':List Nat) (k:Fr G w G' w') (hl:eO G' w') (h:J G' (aS++[v]) w') (hv:v=V:=by rfl):OW P n ops (λe' w'=>(∃G',Fr G w G' w'∧eO G' w'∧J G' (aS++[e' d]) w'∧(Ie.w t V).F G' (e' d) w')∧ek [d] e e') [] (bM e (some d) v) w':=
 aZ ⟨⟨G',k,hl,by show J G' (aS++[gU e d v d]) w';rw[mW];exact h,by subst hv;exact mW _ _ _⟩,qM⟩
theorem fq {f:Value->Prop} {aS:List Value} (G':List Nat) (k:Fr G w G' w') (hl:eO G' w') (h:J G' (aS++[v]) w') (hv:f v):OW P n ops (λe' w'=>(∃G',Fr G w G' w'∧eO G' w'∧J G' (aS++[e' d]) w'∧(Ie.q t f).F G' (e' d) w')∧ek [d] e e') [] (bM e (some d) v) w':=
 aZ ⟨⟨G',k,hl,by show J G' (aS++[gU e d v d]) w';rw[mW];exact h,by show f (gU e d v d);rw[mW];exact hv⟩,qM⟩
end
inductive Iu where
 |v (V:Value)
 |p (f:List Nat->Value->World->Prop)
 |e (t:Nat)
 |w (t:Nat) (V:Value)
 |d (f:List Value->Value)
 |u
def Iu.F:Iu->List Nat->Value->World->Prop
 | .v V=>λ_ v _=>v=V
 | .p f=>f
 | .w _ V=>λ_ v _=>v=V
 |_=>λ_ _ _=>True
def Iu.j7:Iu->Option Nat
 | .e t=>some t
 | .w t _=>some t
 |_=>none
def Iu.rJ:Iu->Bool
 | .u=>true
 |_=>false
def Iu.late:Iu->Bool
 | .u=>true
 | .d _=>true
 |_=>false
abbrev fD:Iu:=.p λ_ _ _=>True
def sG (its:List Iu) (ds:List Nat) (G:List Nat) (aS:List Value) (w:World):List Nat->(List (Nat×Value)->Prop)->Prop
 |[],k=>k []
 |j::r,k=>match its.getD j fD with
  | .v V=>sG its ds G aS w r λacc=>k ((ds.getD j 0,V)::acc)
  | .p f=>∀v,f G v w->sG its ds G aS w r λacc=>k ((ds.getD j 0,v)::acc)
  | .e t=>sG its ds G aS w r λacc=>k ((ds.getD j 0,aS.getD t undef)::acc)
  | .w _ V=>sG its ds G aS w r λacc=>k ((ds.getD j 0,V)::acc)
  | .d f=>sG its ds G aS w r λacc=>k ((ds.getD j 0,f aS)::acc)
  | .u=>∀v,sG its ds G aS w r λacc=>k ((ds.getD j 0,v)::acc)
def SH (q:Iu) (G:List Nat) (aS:List Value) (v:Value) (w:World):Prop:=q.F G v w∧(∀t,q= .e t->aS.getD t undef=v)∧∀f,q= .d f->f aS=v
theorem vh {its:List Iu} {ds:List Nat} {aS:List Value} {vs:Nat->Value}:∀{deps:List Nat} {k:List (Nat×Value)->Prop},sG its ds G aS w deps k->
  (∀j,j∈deps->SH (its.getD j fD) G aS (vs j) w)->k (tw ds vs deps)
 |[],k,h,_=>h
 |j::r,k,h,hd=>by
  obtain⟨hp,he,hq⟩:=hd j (List.mem_cons_self ..)
  unfold sG at h
  have hr:∀i,i∈r->_:=λi hi=>hd i (mK _ hi)
  cases e:its.getD j fD with
  |v V=>
   rw[e] at h hp
   have hv:vs j=V:=hp
   subst hv
   exact vh (deps:=r) h hr
  |p f=>
   rw[e] at h hp
   exact vh (deps:=r) (h _ hp) hr
  |e t=>
   rw[e] at h
   have hv:=he t e
   simp only[hv] at h
   exact vh (deps:=r) h hr
  |w t V=>
   rw[e] at h hp
   have hv:vs j=V:=hp
   subst hv
   exact vh (deps:=r) h hr
  |d f=>
   rw[e] at h
   have hv:=hq f e
   simp only[hv] at h
   exact vh (deps:=r) h hr
  |u=>
   rw[e] at h
   exact vh (deps:=r) (h _) hr
section
variable (P:Program) (n:Nat) (ops:Array Oper) (W ds:List Nat) (its:List Iu) (Js:List (List Nat->List Value->World->Prop)) (JF:(Nat->Bool)->List Nat->List Value->World->Prop) (e0:Env) (G0:List Nat) (w0:World)
def I1 (i:Nat) (o:Oper) (deps:List Nat):Prop:=
 ∀(x:Env) (w:World) (G:List Nat) (aS:List Value),Fr G0 w0 G w->eO G w->sG its ds G aS w deps λacc=>
  OW P n ops (λe' w'=>aj [] w w'∧(its.getD i fD).F G (e' (ds.getD i 0)) w'∧ek [ds.getD i 0] (bo (bj W x e0) acc) e') [o] (bo (bj W x e0) acc) w
def Gh (t i:Nat) (o:Oper) (deps:List Nat):Prop:=
 ∀(x:Env) (w:World) (G:List Nat) (aS:List Value),Fr G0 w0 G w->eO G w->Js.getD t (λ_ _ _=>True) G aS w->aS.length=t->sG its ds G aS w deps λacc=>
  OW P n ops (λe' w'=>(∃G',Fr G w G' w'∧eO G' w'∧Js.getD (t+1) (λ_ _ _=>True) G' (aS++[e' (ds.getD i 0)]) w'∧(its.getD i fD).F G' (e' (ds.getD i 0)) w')∧ek [ds.getD i 0] (bo (bj W x e0) acc) e') [o] (bo (bj W x e0) acc) w
def My (ne:Nat) (f:List Value->Value) (i:Nat) (o:Oper) (deps:List Nat):Prop:=
 ∀(x:Env) (w:World) (G:List Nat) (aS:List Value) (S:Nat->Bool),Fr G0 w0 G w->eO G w->JF S G aS w->aS.length=ne->sG its ds G aS w deps λacc=>
  OW P n ops (λe' w'=>aj [] w w'∧e' (ds.getD i 0)=f aS∧ek [ds.getD i 0] (bo (bj W x e0) acc) e') [o] (bo (bj W x e0) acc) w
def Mz (ne i:Nat) (o:Oper) (deps:List Nat):Prop:=
 ∀(x:Env) (w:World) (G:List Nat) (aS:List Value) (S:Nat->Bool),Fr G0 w0 G w->eO G w->JF S G aS w->S i=false->aS.length=ne->sG its ds G aS w deps λacc=>
  OW P n ops (λe' w'=>(∃G',Fr G w G' w'∧eO G' w'∧JF (λj=>if j=i then true else S j) G' aS w')∧ek [ds.getD i 0] (bo (bj W x e0) acc) e') [o] (bo (bj W x e0) acc) w
def uc (ne i:Nat) (o:Oper) (deps:List Nat):Prop:=match its.getD i fD with
 | .e t=>Gh P n ops W ds its Js e0 G0 w0 t i o deps
 | .w t _=>Gh P n ops W ds its Js e0 G0 w0 t i o deps
 | .d f=>My P n ops W ds its JF e0 G0 w0 ne f i o deps
 | .u=>Mz P n ops W ds its JF e0 G0 w0 ne i o deps
 |_=>I1 P n ops W ds its e0 G0 w0 i o deps
def qY (ne:Nat):Nat->List Oper->List (List Nat)->Prop
 |_,[],_=>True
 |_,_::_,[]=>True
 |k,o::l,d::r=>uc P n ops W ds its Js JF e0 G0 w0 ne k o d∧qY ne (k+1) l r
end
section
variable {P:Program} {n:Nat} {ops:Array Oper} {W ds:List Nat} {its:List Iu} {Js:List (List Nat->List Value->World->Prop)} {JF:(Nat->Bool)->List Nat->List Value->World->Prop} {e0:Env} {G0:List Nat} {w0:World} {ne:Nat}
theorem uf {d:List Nat} (h:I1 P n ops W ds its e0 G0 w0 k o d) (hr:qY P n ops W ds its Js JF e0 G0 w0 ne (k+1) l r) (hk:(its.getD k fD).j7=none∧(its.getD k fD).late=false:=by exact⟨rfl,rfl⟩):qY P n ops W ds its Js JF e0 G0 w0 ne k (o::l) (d::r):=by grind [I1,qY,Ie.j7,Iu.j7,Iu.late,uc]
theorem ue (t:Nat) {d:List Nat} (h:Gh P n ops W ds its Js e0 G0 w0 t k o d) (hr:qY P n ops W ds its Js JF e0 G0 w0 ne (k+1) l r) (hk:(its.getD k fD).j7=some t:=by rfl):qY P n ops W ds its Js JF e0 G0 w0 ne k (o::l) (d::r):=by grind [Gh,qY,Ie.j7,Iu.j7,uc]
theorem ud {d:List Nat} {f:List Value->Value} (h:My P n ops W ds its JF e0 G0 w0 ne f k o d) (hr:qY P n ops W ds its Js JF e0 G0 w0 ne (k+1) l r) (hk:its.getD k fD= .d f:=by rfl):qY P n ops W ds its Js JF e0 G0 w0 ne k (o::l) (d::r):=by grind [My,qY,uc]
theorem uu {d:List Nat} (h:Mz P n ops W ds its JF e0 G0 w0 ne k o d) (hr:qY P n ops W ds its Js JF e0 G0 w0 ne (k+1) l r) (hk:its.getD k fD= .u:=by rfl):qY P n ops W ds its Js JF e0 G0 w0 ne k (o::l) (d::r):=by grind [Mz,qY,uc]
theorem SI:∀(l:List Oper) (deps:List (List Nat)) (k:Nat),qY P n ops W ds its Js JF e0 G0 w0 ne k l deps->∀(i:Nat) (o:Oper) (d:List Nat),l[i]?=some o->deps[i]?=some d->uc P n ops W ds its Js JF e0 G0 w0 ne (k+i) o d
 |[],_,_,_,i,o,d,h,_=>by simp at h
 |_::_,[],_,_,i,o,d,_,h=>by simp at h
 |o::l,d::r,k,h,0,o',d',ho,hd=>by
  simp at ho hd;subst ho;subst hd;exact h.1
 |o::l,d::r,k,h,i+1,o',d',ho,hd=>by
  have:=SI l r (k+1) h.2 i o' d' (by simpa using ho) (by simpa using hd)
  rwa [show k+1+i=k+(i+1) by omega] at this
end
def uB (l:List Oper) (m:Nat) (effs:List Nat) (its:List Iu):Bool:=
 (List.range effs.length).all (λt=>decide (effs.getD t 0<m)&&((its.getD (effs.getD t 0) fD).j7==some t)&&(decide (t=0)||(match l[effs.getD t 0]? with|some o=>waits o (effs.getD (t-1) 0)|none=>false)))&&
 (List.range m).all (λi=>(match(its.getD i fD).j7 with|some t=>decide (t<effs.length)&&decide (effs.getD t 0=i)|none=>true)&&
  (!(its.getD i fD).late||decide (effs.length=0)||(match l[i]? with|some o=>waits o (effs.getD (effs.length-1) 0)|none=>false)))&&
 decide (its.length<=m)
theorem aed {effs:List Nat} {its:List Iu} (h:uB l m effs its=true):
  (∀t,t<effs.length->effs.getD t 0<m∧(its.getD (effs.getD t 0) fD).j7=some t∧(t≠0->∃o,l[effs.getD t 0]?=some o∧waits o (effs.getD (t-1) 0)=true))∧
  (∀i t,i<m->(its.getD i fD).j7=some t->t<effs.length∧effs.getD t 0=i)∧
  (∀i,i<m->(its.getD i fD).late=true->effs.length≠0->∃o,l[i]?=some o∧waits o (effs.getD (effs.length-1) 0)=true)∧its.length<=m:=by
 unfold uB at h
 rw[aE,aE,List.all_eq_true,List.all_eq_true,dE] at h
 obtain⟨⟨h1,h2⟩,h3⟩:=h
 refine⟨λt ht=>?_,λi t hi he=>?_,λi hi hl hn=>?_,h3⟩
 ·have:=h1 t (List.mem_range.2 ht)
  simp only[aE,dE,beq_iff_eq,oE] at this
  obtain⟨⟨a,b⟩,c⟩:=this
  refine⟨a,b,λh0=>?_⟩
  rcases c with c|c
  ·exact absurd c h0
  ·cases hl:l[effs.getD t 0]? with
   |none=>rw[hl] at c;cases c
   |some o=>rw[hl] at c;exact⟨o,rfl,c⟩
 ·have:=h2 i (List.mem_range.2 hi)
  rw[he] at this
  simp only[aE,dE] at this
  exact this.1
 ·have:=h2 i (List.mem_range.2 hi)
  rw[aE,hl] at this
  have:=this.2
  simp only[Bool.not_true,Bool.false_or,oE,dE] at this
  rcases this with c|c
  ·exact absurd c hn
  ·cases hl:l[i]? with
   |none=>rw[hl] at c;cases c
   |some o=>rw[hl] at c;exact⟨o,rfl,c⟩
def Gi:List Iu->Prop
 |[]=>True
 | .p f::r=>(∀G v w G' w',f G v w->Fr G w G' w'->f G' v w')∧Gi r
 |_::r=>Gi r
theorem B8:∀{its:List Iu},Gi its->∀q,q∈its->∀G v w G' w',q.F G v w->Fr G w G' w'->q.F G' v w'
 |s::r,h,q,hq,G,v,w,G',w',hf,hk=>by
  rcases mC.1 hq with e|nY
  ·subst e
   cases q with
   |p f=>exact h.1 _ _ _ _ _ hf hk
   |_=>exact hf
  ·cases s with
   |p f=>exact B8 (its:=r) h.2 q nY _ _ _ _ _ hf hk
   |v V=>exact B8 (its:=r) h q nY _ _ _ _ _ hf hk
   |e t=>exact B8 (its:=r) h q nY _ _ _ _ _ hf hk
   |w t V=>exact B8 (its:=r) h q nY _ _ _ _ _ hf hk
   |d f=>exact B8 (its:=r) h q nY _ _ _ _ _ hf hk
   |u=>exact B8 (its:=r) h q nY _ _ _ _ _ hf hk
theorem SJ {its:List Iu} (h:Gi its) (i:Nat) {G':List Nat} (hf:(its.getD i fD).F G v w) (hk:Fr G w G' w'):(its.getD i fD).F G' v w':=by
 rw[gG] at hf⊢
 cases e:its[i]? with
 |none=>trivial
 |some q=>rw[e] at hf;exact B8 h q (List.mem_of_getElem? e) _ _ _ _ _ hf hk
section
variable {P:Program} {n:Nat} {l:List Oper} {m:Nat} {W ds:List Nat} {deps:List (List Nat)}
theorem SK {N R:Env->World->Prop} {X:Nat->Env->World->Prop} {id:Nat} {e0:Env} {w0:World} (hm:P.follows .mixedOrders=true) (G0:List Nat) (m:Nat) (W ds:List Nat) (deps:List (List Nat)) (its:List Iu) (effs:List Nat) (Js:List (List Nat->List Value->World->Prop)) (JF:(Nat->Bool)->List Nat->List Value->World->Prop) 
  (hB:uI l m W ds deps=true) (hE:uB l m effs its=true) (hL:eO G0 w0) (hF:Gi its) (hJ:I0 Js) (SL:∀S G vs w w',JF S G vs w->aj [] w w'->JF S G vs w') (h0:Js.getD 0 (λ_ _ _=>True) G0 [] w0)
  (I2:∀G vs w,Js.getD effs.length (λ_ _ _=>True) G vs w->vs.length=effs.length->JF (λ_=>false) G vs w)
  (hc:qY P n l.toArray W ds its Js JF e0 G0 w0 effs.length 0 (l.take m) deps)
  (ht:∀(x:Env) (w:World) (G:List Nat) (aS:List Value),Fr G0 w0 G w->eO G w->JF (λi=>(its.getD i fD).rJ) G aS w->aS.length=effs.length->sG its ds G aS w (List.range m) λacc=>OW P n l.toArray N (l.drop m) (bo (bj W x e0) acc) w):
  CW P n (.region id l.toArray true) N R X e0 w0:=λa ha=>by
 refine wp_region_any hm ?_
 have fT:aj [] w0 {w0 with drawn:=w0.drawn+1}:=aj.drew _ _
 obtain⟨tE,Fy,La,iS,mY⟩:=DI hB
 obtain⟨oW,mo,he3,mj⟩:=aed hE
 have dL:∀i j,i<m->j<m->i≠j->ds.getD j 0≠ds.getD i 0:=λi j hi hj lX=>by
  rw[gG,gG,gE om,gE om]
  simp only[Option.getD_some]
  intro he
  exact lX ((List.getElem_inj iS).1 he.symm)
 let vl:Nat->Env->List Value:=λk e=>(effs.take k).map λi=>e (ds.getD i 0)
 let US:(Nat->Bool)->Nat->Bool:=λS i=>S i&&(its.getD i fD).rJ
 let Inv:(Nat->Bool)->Env->World->Prop:=λS e w=>∃G k,ek W e0 e∧Fr G0 w0 G w∧eO G w∧k<=effs.length∧(∀t,t<effs.length->(S (effs.getD t 0)=true↔t<k))∧
  (k<effs.length->Js.getD k (λ_ _ _=>True) G (vl k e) w∧∀i,i<m->S i=true->(its.getD i fD).late=false)∧(k=effs.length->JF (US S) G (vl k e) w)∧
  ∀i,i<m->S i=true->(its.getD i fD).F G (e (ds.getD i 0)) w∧∀f,its.getD i fD= .d f->f (vl k e)=e (ds.getD i 0)
 have Gd:∀(S:Nat->Bool) (e:Env) (k:Nat),(∀t,t<effs.length->(S (effs.getD t 0)=true↔t<k))->k<=effs.length->∀j t,j<m->S j=true->(its.getD j fD).j7=some t->(vl k e).getD t undef=e (ds.getD j 0):=by
  intro S e k hS hk j t hj ly he
  obtain⟨h1,h2⟩:=mo j t hj he
  have h3:t<k:=(hS t h1).1 (by rw[h2];exact ly)
  show((effs.take k).map λi=>e (ds.getD i 0)).getD t undef=_
  rw[gG,List.getElem?_map,List.getElem?_take,iP h3,gE h1]
  rw[gG,gE h1] at h2
  simp only[Option.getD_some] at h2
  simp[h2]
 have Gj:∀k e,k<=effs.length->(vl k e).length=k:=λk e hk=>by show((effs.take k).map _).length=k;simp;omega
 have step:∀(S:Nat->Bool) (e:Env) (w:World) (i:Nat) (o:Oper),i<m->l[i]?=some o->S i=false->(∀j,waits o j=true->S j=true)->Inv S e w->
   OW P n l.toArray (λe' w'=>Inv (λj=>if j=i then true else S j) e' w') [o] e w:=by
  rintro S e w i o qN ho tQ Al ⟨G,k,p9,bC,pJ,fb,hS,vg,Ed,oN⟩
  obtain⟨hW,zy⟩:=(mY i o ho).2.1 qN
  obtain⟨dp,zz⟩:∃d,deps[i]?=some d:=⟨deps[i]'om,gE om⟩
  have FE:deps.getD i []=dp:=by rw[gG,zz];rfl
  rw[FE] at zy
  have iI:=SI (l.take m) deps 0 hc i o dp (by rw[List.getElem?_take,iP qN];exact ho) zz
  rw[Nat.zero_add] at iI
  have hd:∀j,j∈dp->SH (its.getD j fD) G (vl k e) (e (ds.getD j 0)) w:=λj hj=>by
   obtain⟨h1,h2⟩:=zy j hj
   have h3:=oN j h2 (Al j h1)
   exact⟨h3.1,λt het=>Gd S e k hS fb j t h2 (Al j h1) (by rw[het];rfl),h3.2⟩
  have Ge:∀e',ek [ds.getD i 0] e e'->ek W e0 e':=λe' h t B6=>by
   have Eb:t≠ds.getD i 0:=λhe=>by rw[he,hW] at B6;cases B6
   rw[h t (by simpa using Eb)];exact p9 t B6
  have Am:∀e',ek [ds.getD i 0] e e'->∀j,j<m->j≠i->e' (ds.getD j 0)=e (ds.getD j 0):=λe' h j hj iM=>h _ (by simpa using dL i j qN hj (λh=>iM h.symm))
  have fl:[o]=[o]++[]:=rfl
  have SM:∀e',ek [ds.getD i 0] e e'->∀k',k'<=effs.length->(∀t,t<k'->effs.getD t 0≠i)->vl k' e'=vl k' e:=λe' lz k' pz my=>by
   show(effs.take k').map _=(effs.take k').map _
   apply List.map_congr_left
   intro j hj
   obtain⟨t,nz⟩:=List.mem_iff_getElem?.1 hj
   rw[List.getElem?_take] at nz
   split at nz
   ·rename_i dU
    have fF:t<effs.length:=(List.getElem?_eq_some_iff.1 nz).1
    have uK:effs.getD t 0=j:=by rw[gG,nz];rfl
    exact Am e' lz j (by have:=(oW t fF).1;rw[uK] at this;exact this) (λh=>my t dU (uK.trans h))
   ·cases nz
  -- what is late comes behind the last effect
  have SN:(its.getD i fD).late=true->k=effs.length:=λhl=>by
   rcases Nat.eq_zero_or_pos effs.length with h0|h0
   ·omega
   ·obtain⟨o',mn,Gf⟩:=he3 i qN hl om
    rw[ho] at mn;cases mn
    have:=(hS (effs.length-1) om).1 (Al _ Gf)
    omega
  -- an operation that is no effect in the order
  have main:∀(e':Env) (w':World) (G':List Nat),(its.getD i fD).j7=none->ek [ds.getD i 0] e e'->Fr G w G' w'->eO G' w'->
    (k<effs.length->Js.getD k (λ_ _ _=>True) G' (vl k e) w'∧(its.getD i fD).late=false)->(k=effs.length->JF (US λj=>if j=i then true else S j) G' (vl k e) w')->
    (its.getD i fD).F G' (e' (ds.getD i 0)) w'->(∀f,its.getD i fD= .d f->f (vl k e)=e' (ds.getD i 0))->Inv (λj=>if j=i then true else S j) e' w':=by
   intro e' w' G' sE lz wL B7 Ee rK xZ hDi
   have my:∀t,t<effs.length->effs.getD t 0≠i:=λt fF h=>by have:=(oW t fF).2.1;rw[h,sE] at this;cases this
   have B9:=SM e' lz k fb (λt ht=>my t om)
   refine⟨G',k,Ge e' lz,bC.go wL,B7,fb,λt fF=>?_,λdU=>⟨?_,λj hj ly=>?_⟩,λlB=>?_,λj hj ly=>?_⟩
   ·simp only[iN (my t fF)];exact hS t fF
   ·rw[B9];exact(Ee dU).1
   ·by_cases iM:j=i
    ·rw[iM];exact(Ee dU).2
    ·simp only[iN iM] at ly;exact(vg dU).2 j hj ly
   ·rw[B9];exact rK lB
   ·rw[B9]
    by_cases iM:j=i
    ·rw[iM];exact⟨xZ,hDi⟩
    ·simp only[iN iM] at ly
     rw[Am e' lz j hj iM]
     exact⟨SJ hF j (oN j hj ly).1 wL,(oN j hj ly).2⟩
  have SO:(its.getD i fD).rJ=false->US (λj=>if j=i then true else S j)=US S:=λh=>by
   funext j
   show((if j=i then true else S j)&&(its.getD j fD).rJ)=(S j&&(its.getD j fD).rJ)
   by_cases iM:j=i
   ·rw[iM,h];simp
   ·rw[iN iM]
  -- the cases
  have floatC:I1 P n l.toArray W ds its e0 G0 w0 i o dp->(its.getD i fD).j7=none->(its.getD i fD).late=false->(∀f,its.getD i fD≠ .d f)->(its.getD i fD).rJ=false->OW P n l.toArray (λe' w'=>Inv (λj=>if j=i then true else S j) e' w') [o] e w:=by
   intro iI sE Gk MA SP
   have h1:=vh (iI e w G _ bC pJ) (vs:=λj=>e (ds.getD j 0)) hd
   rw[Ak p9] at h1
   rw[fl]
   refine vZ h1 ?_
   rintro e' w' ⟨pz,xZ,lz⟩
   exact aZ (main e' w' G sE lz (Fr.of pz sm) (λx hx=>lL (pJ x hx) pz.size) (λdU=>⟨Gc hJ k (vg dU).1 pz,Gk⟩) (λlB=>by rw[SO SP];exact SL _ _ _ _ _ (Ed lB) pz) xZ (λf hf=>absurd hf (MA f)))
  have effC:∀t,(its.getD i fD).j7=some t->Gh P n l.toArray W ds its Js e0 G0 w0 t i o dp->(its.getD i fD).late=false->(∀f,its.getD i fD≠ .d f)->(its.getD i fD).rJ=false->OW P n l.toArray (λe' w'=>Inv (λj=>if j=i then true else S j) e' w') [o] e w:=by
   intro t sE iI Gk MA SP
   obtain⟨fF,sF⟩:=mo i t qN sE
   have qo:k=t:=by
    have h1:¬t<k:=λh=>by have:=(hS t fF).2 h;rw[sF,tQ] at this;cases this
    rcases Nat.eq_zero_or_pos t with h0|h0
    ·omega
    ·obtain⟨o',mn,Gf⟩:=(oW t fF).2.2 om
     rw[sF,ho] at mn
     cases mn
     have:=(hS (t-1) om).1 (Al _ Gf)
     omega
   subst qo
   have h1:=vh (iI e w G _ bC pJ (vg fF).1 (Gj k e fb)) (vs:=λj=>e (ds.getD j 0)) hd
   rw[Ak p9] at h1
   rw[fl]
   refine vZ h1 ?_
   rintro e' w' ⟨⟨G',wL,B7,Ec,xZ⟩,lz⟩
   have Gg:∀t',t'<effs.length->effs.getD t' 0=i->t'=k:=λt' h1 h2=>by
    have:=(oW t' h1).2.1
    rw[h2,sE] at this
    cases this;rfl
   have B9:vl k e'=vl k e:=SM e' lz k fb (λt' nP h=>by have:=Gg t' om h;omega)
   have fX:vl (k+1) e'=vl k e++[e' (ds.getD i 0)]:=by
    have h2:effs[k]?=some i:=by
     rw[gG,gE fF] at sF
     rw[gE fF]
     simpa using sF
    rw[<-B9]
    show(effs.take (k+1)).map _=(effs.take k).map _++_
    rw[List.take_add_one,h2,List.map_append]
    rfl
   have SQ:∀j,j<m->(if j=i then true else S j)=true->(its.getD j fD).late=false:=λj hj ly=>by
    by_cases iM:j=i
    ·rw[iM];exact Gk
    ·rw[iN iM] at ly;exact(vg fF).2 j hj ly
   refine aZ ⟨G',k+1,Ge e' lz,bC.go wL,B7,om,λt' An=>?_,λ_=>⟨by rw[fX];exact Ec,SQ⟩,λlB=>?_,λj hj ly=>?_⟩
   ·by_cases h2:effs.getD t' 0=i
    ·have:=Gg t' An h2
     simp only[iP h2]
     exact⟨λ_=>om,λ_=>trivial⟩
    ·simp only[iN h2]
     rw[hS t' An]
     have:t'≠k:=λh=>by rw[h] at h2;exact h2 sF
     omega
   ·have e1:US (λj=>if j=i then true else S j)=λ_=>false:=by
     funext j
     show((if j=i then true else S j)&&(its.getD j fD).rJ)=false
     by_cases BM:j<m
     ·cases hb:(if j=i then true else S j) with
      |false=>rfl
      |true=>
       have h3:=SQ j BM hb
       cases e:its.getD j fD with
       |u=>rw[e] at h3;cases h3
       |_=>rfl
     ·rw[gG,List.getElem?_eq_none om]
      simp[Iu.rJ]
    rw[e1]
    exact I2 _ _ _ (by rw[fX,<-lB];exact Ec) (by rw[Gj _ _ om];omega)
   ·by_cases iM:j=i
    ·rw[iM];exact⟨xZ,λf hf=>absurd hf (MA f)⟩
    ·simp only[iN iM] at ly
     rw[Am e' lz j hj iM]
     refine⟨SJ hF j (oN j hj ly).1 wL,λf hf=>?_⟩
     have:=(vg fF).2 j hj ly
     rw[hf] at this;cases this
  cases ji:its.getD i fD with
  |v V=>unfold uc at iI;rw[ji] at iI;exact floatC iI (by rw[ji];rfl) (by rw[ji];rfl) (λf h=>by rw[ji] at h;cases h) (by rw[ji];rfl)
  |p f=>unfold uc at iI;rw[ji] at iI;exact floatC iI (by rw[ji];rfl) (by rw[ji];rfl) (λf h=>by rw[ji] at h;cases h) (by rw[ji];rfl)
  |e t=>unfold uc at iI;rw[ji] at iI;exact effC t (by rw[ji];rfl) iI (by rw[ji];rfl) (λf h=>by rw[ji] at h;cases h) (by rw[ji];rfl)
  |w t V=>unfold uc at iI;rw[ji] at iI;exact effC t (by rw[ji];rfl) iI (by rw[ji];rfl) (λf h=>by rw[ji] at h;cases h) (by rw[ji];rfl)
  |d f=>
   unfold uc at iI;rw[ji] at iI
   have lB:=SN (by rw[ji];rfl)
   have h1:=vh (iI e w G _ _ bC pJ (Ed lB) (by rw[Gj k e fb];exact lB)) (vs:=λj=>e (ds.getD j 0)) hd
   rw[Ak p9] at h1
   rw[fl]
   refine vZ h1 ?_
   rintro e' w' ⟨pz,Gl,lz⟩
   exact aZ (main e' w' G (by rw[ji];rfl) lz (Fr.of pz sm) (λx hx=>lL (pJ x hx) pz.size) (λdU=>om) (λlB=>by rw[SO (by rw[ji];rfl)];exact SL _ _ _ _ _ (Ed lB) pz) (by rw[ji];trivial) (λf' hf=>by rw[ji] at hf;cases hf;exact Gl.symm))
  |u=>
   unfold uc at iI;rw[ji] at iI
   have lB:=SN (by rw[ji];rfl)
   have h1:=vh (iI e w G _ _ bC pJ (Ed lB) (by show(S i&&_)=false;rw[tQ];rfl) (by rw[Gj k e fb];exact lB)) (vs:=λj=>e (ds.getD j 0)) hd
   rw[Ak p9] at h1
   rw[fl]
   refine vZ h1 ?_
   rintro e' w' ⟨⟨G',wL,B7,Ec⟩,lz⟩
   refine aZ (main e' w' G' (by rw[ji];rfl) lz wL B7 (λdU=>om) (λlB=>?_) (by rw[ji];trivial) (λf' hf=>by rw[ji] at hf;cases hf))
   have e1:US (λj=>if j=i then true else S j)=λj=>if j=i then true else US S j:=by
    funext j
    show((if j=i then true else S j)&&(its.getD j fD).rJ)=if j=i then true else(S j&&(its.getD j fD).rJ)
    by_cases iM:j=i
    ·rw[iP iM,iP iM,iM,ji];rfl
    ·rw[iN iM,iN iM]
   rw[e1];exact Ec
 have tail:∀(S:Nat->Bool) (e:Env) (w:World),(∀i,i<m->S i=true)->Inv S e w->OW P n l.toArray N (l.drop m) e w:=by
  rintro S e w Ao ⟨G,k,p9,bC,pJ,fb,hS,vg,Ed,oN⟩
  have hk:k=effs.length:=by
   rcases Nat.lt_or_ge k effs.length with h|h
   ·have:=(hS k h).1 (Ao _ (oW k h).1);omega
   ·omega
  subst hk
  have e1:US S=λi=>(its.getD i fD).rJ:=by
   funext j
   show(S j&&(its.getD j fD).rJ)=_
   by_cases BM:j<m
   ·rw[Ao j BM];rfl
   ·rw[gG,List.getElem?_eq_none om]
    simp[Iu.rJ]
  have hj:=Ed rfl
  rw[e1] at hj
  have h1:=vh (ht e w G _ bC pJ hj (Gj _ e (lR _))) (vs:=λj=>e (ds.getD j 0)) (λj hj=>by
   have pA:=List.mem_range.1 hj
   have h3:=oN j pA (Ao j pA)
   exact⟨h3.1,λt het=>Gd S e _ hS fb j t pA (Ao j pA) (by rw[het];rfl),h3.2⟩)
  rw[Ak p9] at h1
  exact h1
 have gB:∀j,(Array.replicate l.length false).getD j false=false:=λj=>by
  rw[Array.getD_eq_getD_getElem?,Array.getElem?_replicate];split<;>rfl
 have Mx:Inv (λj=>(Array.replicate l.length false).getD j false) e0 {w0 with drawn:=w0.drawn+1}:=by
  have BL:=Gc hJ 0 h0 fT
  refine⟨G0,0,xN,Fr.of fT sm,λx hx=>hL x hx,Nat.zero_le _,λt fF=>?_,λ_=>⟨BL,λi hi tQ=>?_⟩,λlB=>?_,λi hi tQ=>?_⟩
  ·constructor
   ·intro h;exact absurd ((gB (effs.getD t 0)).symm.trans h) sm
   ·intro h;omega
  ·exact absurd ((gB i).symm.trans tQ) sm
  ·have e1:US (λj=>(Array.replicate l.length false).getD j false)=λ_=>false:=by
    funext j
    show((Array.replicate l.length false).getD j false&&_)=false
    rw[gB];rfl
   rw[e1]
   exact I2 _ _ _ (by rw[<-lB];exact BL) (by show((effs.take 0).map _).length=_;simpa using lB)
  ·exact absurd ((gB i).symm.trans tQ) sm
 have:=SC (N:=N) (Inv:=Inv) hB step tail (kR n N R X) l.length (Array.replicate l.length false) e0 a _ ha sm
  (by
   have:((List.range l.length).filter λj=>!(Array.replicate l.length false).getD j true)=List.range l.length:=by
    rw[List.filter_eq_self]
    intro j hj
    rw[List.mem_range] at hj
    simp[Array.getD_eq_getD_getElem?,hj]
   rw[this];simp)
  (by intro j _ hj;simp[Array.getD_eq_getD_getElem?,hj])
  Mx
  (by
   intro j o ho hj
   have pA:j<l.length:=(List.getElem?_eq_some_iff.1 ho).1
   simp[Array.getD_eq_getD_getElem?,pA] at hj)
 have e1:pw n N (kR n N R X)=kR n N R X:=by
  funext x a w;cases x<;>rfl
 rw[e1] at this
 simpa using this
end
section
variable {P:Program} {n:Nat} {ops:Array Oper} {e:Env} {w w':World} {G:List Nat}
theorem uv (h:v=V:=by rfl):OW P n ops (λe' w'=>aj [] w w'∧(Iu.v V).F G (e' d) w'∧ek [d] e e') [] (bM e (some d) v) w:=
 aZ ⟨aj.refl _ _,by subst h;exact mW _ _ _,qM⟩
theorem up {f:List Nat->Value->World->Prop} (k:aj [] w w') (h:f G v w'):OW P n ops (λe' w'=>aj [] w w'∧(Iu.p f).F G (e' d) w'∧ek [d] e e') [] (bM e (some d) v) w':=
 aZ ⟨k,by show f G (gU e d v d) w';rw[mW];exact h,qM⟩
theorem uE {aS:List Value} (G':List Nat) (k:Fr G w G' w') (hl:eO G' w') (h:J G' (aS++[v]) w'):OW P n ops (λe' w'=>(∃G',Fr G w G' w'∧eO G' w'∧J G' (aS++[e' d]) w'∧(Iu.e t).F G' (e' d) w')∧ek [d] e e') [] (bM e (some d) v) w':=
 aZ ⟨⟨G',k,hl,by show J G' (aS++[gU e d v d]) w';rw[mW];exact h,trivial⟩,qM⟩
theorem uW {aS:List Value} (G':List Nat) (k:Fr G w G' w') (hl:eO G' w') (h:J G' (aS++[v]) w') (hv:v=V:=by rfl):OW P n ops (λe' w'=>(∃G',Fr G w G' w'∧eO G' w'∧J G' (aS++[e' d]) w'∧(Iu.w t V).F G' (e' d) w')∧ek [d] e e') [] (bM e (some d) v) w':=
 aZ ⟨⟨G',k,hl,by show J G' (aS++[gU e d v d]) w';rw[mW];exact h,by subst hv;exact mW _ _ _⟩,qM⟩
theorem uD (k:aj [] w w') (h:v=V:=by rfl):OW P n ops (λe' w'=>aj [] w w'∧e' d=V∧ek [d] e e') [] (bM e (some d) v) w':=by grind [aZ,mW,qM]
theorem uU {Q:List Nat->World->Prop} (G':List Nat) (k:Fr G w G' w') (hl:eO G' w') (h:Q G' w'):OW P n ops (λe' w'=>(∃G',Fr G w G' w'∧eO G' w'∧Q G' w')∧ek [d] e e') [] e w':=
 aZ ⟨⟨G',k,hl,h⟩,xN⟩
end
class tR (p:Prop) (q:outParam Prop):Prop where
 imp:p->q
instance (priority:=low) {p:Prop}:tR p p:=⟨id⟩
instance {p:Prop} {i:Decidable p}:tR (@decide p i=true) p:=⟨of_decide_eq_true⟩
instance {p:Prop} {i:Decidable p}:tR (@decide p i=false) (¬p):=⟨of_decide_eq_false⟩
instance {b:Bool}:tR ((!b)=true) (b=false):=⟨λh=>by simpa using h⟩
instance {b:Bool}:tR ((!b)=false) (b=true):=⟨λh=>by simpa using h⟩
theorem jj [t:tR p q] (h:p):q:=t.imp h
section
variable {P:Program} {n:Nat} {N R:Env->World->Prop} {X:Nat->Env->World->Prop} {e:Env} {w:World}
theorem zc {c:Operand} {x y:Code} {t:Bool} (hc:ev e c= .bool t) [hp:tR (t=true) p] [hq:tR (t=false) q] (hx:p->CW P n x N R X e w) (hy:q->CW P n y N R X e w):CW P n (.cond c x y) N R X e w:=
 P2 hc (λh=>hx (hp.imp h)) (λh=>hy (hq.imp h))
theorem zr {id:Nat} {y:Code} (h:OW P n l.toArray (λe w=>CW P n y N R X e w) l e w):CW P n ((Code.region id l.toArray false).seq y) N R X e w:=jL (kH h)
end
section
variable {P:Program} {n:Nat} {ops:Array Oper} {K:Env->World->Prop} {rest:List Oper} {e:Env} {w:World}
 {dst:Option Nat} {ty:TypeId} {pos:String} {after:Array Edge} {g:Option (Nat×Bool)} {x y:Operand} {T T':TypeId}
theorem zm (k:OW P n ops K rest (bM e dst (ev e x)) w) (hg:gate ops e g=true:=by rfl) (hd:bV n dst=true:=by rfl):OW P n ops K (⟨dst,.move x,ty,pos,after,g⟩::rest) e w:=Ys hg hd k
theorem zA (k:OW P n ops K rest (bM e dst (ev e x)) w) (hg:gate ops e g=true:=by rfl) (hd:bV n dst=true:=by rfl):OW P n ops K (⟨dst,.assign x,ty,pos,after,g⟩::rest) e w:=Yt hg hd k
theorem zs {op:Op} (k:OW P n ops K rest (bM e dst undef) w) (hg:gate ops e g=false:=by rfl) (hd:bV n dst=true:=by rfl):OW P n ops K (⟨dst,op,ty,pos,after,g⟩::rest) e w:=KX hg hd k
theorem zp {c:Operand} {t:Bool} (hc:ev e c= .bool t) (k:OW P n ops K rest (bM e dst (bif t then ev e x else ev e y)) w) (hg:gate ops e g=true:=by rfl) (hd:bV n dst=true:=by rfl):OW P n ops K (⟨dst,.pick c x y,ty,pos,after,g⟩::rest) e w:=P9 hg hd hc k
theorem zf {S:Nat} {o:Nat} (hS:gC P S i=some off) (hx:ev e x= .pointer (some ⟨b,o,none⟩)) (k:OW P n ops K rest (bM e dst (.pointer (some ⟨b,o+off,none⟩))) w) (hg:gate ops e g=true:=by rfl) (hd:bV n dst=true:=by rfl):
  OW P n ops K (⟨dst,.fieldAddr S x i,ty,pos,after,g⟩::rest) e w:=Qd hS hg hd hx k
theorem zl {a:Addr} (hT:p8 P T=true) (hx:ev e x= .pointer (some a)) (hc:w.cell? a=some v) (k:OW P n ops K rest (bM e dst v) w) (hg:gate ops e g=true:=by rfl) (hd:bV n dst=true:=by rfl):
  OW P n ops K (⟨dst,.load T x,ty,pos,after,g⟩::rest) e w:=Yw hT hg hd hx hc k
theorem zL {o:Nat} (hT:sj P T=true) (jN:TI P T sz bytes z) (hx:ev e x= .pointer (some ⟨b,o,none⟩)) (hc:fS w b o vs) (hl:vs.length=sz) (k:OW P n ops K rest (bM e dst (.agg vs.toArray)) w) (hg:gate ops e g=true:=by rfl) (hd:bV n dst=true:=by rfl):
  OW P n ops K (⟨dst,.load T x,ty,pos,after,g⟩::rest) e w:=Yx hT jN hg hd hx hc hl k
theorem zi {T E:TypeId} {o len cap i:Nat} {ki:IntKind} (hT:P.underlying T=some (.slice E)) (hE:TI P E sz bytes z) (hx:ev e x= .slice (some ⟨b,o,none⟩) len cap) (hy:ev e y= .int ki (i:Int)) (hi:i<len) 
  (k:OW P n ops K rest (bM e dst (.pointer (some ⟨b,o+i*sz,none⟩))) w) (hg:gate ops e g=true:=by rfl) (hd:bV n dst=true:=by rfl):OW P n ops K (⟨dst,.indexAddr T x y,ty,pos,after,g⟩::rest) e w:=Qe hT hE hg hd hx hy hi k
theorem zx {i:Nat} (hx:ev e x= .tuple vs.toArray) (hi:vs[i]?=some v) (k:OW P n ops K rest (bM e dst v) w) (hg:gate ops e g=true:=by rfl) (hd:bV n dst=true:=by rfl):
  OW P n ops K (⟨dst,.extract x i,ty,pos,after,g⟩::rest) e w:=Qf hg hd hx hi k
end
theorem vfm {W ds:List Nat} {its:List Ie} {Js:List (List Nat->List Value->World->Prop)} {G0:List Nat} {d:List Nat} (hr:va P n ops W ds its Js e0 G0 w0 (k+1) l r) (h:IZ P n ops W ds its e0 G0 w0 k o d:=by exact λ_ _ _ _ _ _=>zm fv) (hk:(its.getD k l0).j7=none:=by rfl):va P n ops W ds its Js e0 G0 w0 k (o::l) (d::r):=vf h hr hk
theorem vk {W ds:List Nat} {its:List It} {wz:World} {d:List Nat} (aC:aj [] wz w0) (h:∀(x:Env) (w:World),aj [] wz w->dq its ds w d λacc=>OW P n ops (λe' w'=>aj [] w w'∧(its.getD k (.p λ_ _=>True)).F (e' (ds.getD k 0)) w'∧ek [ds.getD k 0] (bo (bj W x e0) acc) e') [o] (bo (bj W x e0) acc) w) (hr:qX P n ops W ds its e0 w0 (k+1) l r):qX P n ops W ds its e0 w0 k (o::l) (d::r):=vc (λx w hk=>h x w (aj.trans aC hk)) hr
theorem Ap {W ds:List Nat} {its:List It} {d:List Nat} (hr:qX P n ops W ds its e0 w0 (k+1) l r) (h:Ga P n ops W ds its e0 w0 k o d:=by exact λ_ _ _=>zm pv):qX P n ops W ds its e0 w0 k (o::l) (d::r):=⟨h,hr⟩
theorem vcs {W ds:List Nat} {its:List It} {d:List Nat} (hr:qX P n ops W ds its e0 w0 (k+1) l r) (h:Ga P n ops W ds its e0 w0 k o d:=by exact λ_ _ _=>KX rfl rfl pv):qX P n ops W ds its e0 w0 k (o::l) (d::r):=⟨h,hr⟩
class FO (P:Program) (S i:Nat) (off:outParam Nat):Prop where h:gC P S i=some off
class O1 (P:Program) (T:Nat):Prop where h:p8 P T=true
class OA (P:Program) (T:Nat):Prop where h:sj P T=true
class nA (P:Program) (T:Nat) (sz bytes:outParam Nat) (z:outParam Value):Prop where h:TI P T sz bytes z
class UL (P:Program) (T:Nat) (d:outParam TypeDesc):Prop where h:P.underlying T=some d
instance:OA Tryz.prog 112:=⟨QF⟩
instance:OA Tryz.prog 35:=⟨zG⟩
instance:OA Tryz.prog 39:=⟨DK⟩
instance:OA Tryz.prog 65:=⟨tF⟩
instance:OA Tryz.prog 78:=⟨eU⟩
instance:OA Tryz.prog 86:=⟨abq⟩
instance:UL Tryz.prog 4 .bool:=⟨abz⟩
instance:FO Tryz.prog 110 0 0:=⟨abA⟩
instance:FO Tryz.prog 110 1 1:=⟨abB⟩
instance:FO Tryz.prog 110 2 2:=⟨abC⟩
instance:FO Tryz.prog 110 3 3:=⟨abD⟩
instance:FO Tryz.prog 110 4 4:=⟨abE⟩
instance:FO Tryz.prog 110 5 5:=⟨abF⟩
instance:FO Tryz.prog 112 0 0:=⟨abG⟩
instance:FO Tryz.prog 112 1 1:=⟨QG⟩
instance:FO Tryz.prog 112 10 11:=⟨abH⟩
instance:FO Tryz.prog 112 2 2:=⟨abI⟩
instance:FO Tryz.prog 112 3 3:=⟨Iq⟩
instance:FO Tryz.prog 112 4 4:=⟨abJ⟩
instance:FO Tryz.prog 112 5 5:=⟨abK⟩
instance:FO Tryz.prog 112 6 6:=⟨abL⟩
instance:FO Tryz.prog 112 7 7:=⟨QH⟩
instance:FO Tryz.prog 112 8 9:=⟨QI⟩
instance:FO Tryz.prog 112 9 10:=⟨abM⟩
instance:FO Tryz.prog 140 0 0:=⟨abN⟩
instance:FO Tryz.prog 140 1 1:=⟨abO⟩
instance:FO Tryz.prog 140 2 2:=⟨abP⟩
instance:FO Tryz.prog 140 3 3:=⟨abQ⟩
instance:FO Tryz.prog 168 0 0:=⟨abR⟩
instance:FO Tryz.prog 168 1 1:=⟨abS⟩
instance:FO Tryz.prog 35 0 0:=⟨abT⟩
instance:FO Tryz.prog 35 1 1:=⟨QJ⟩
instance:FO Tryz.prog 35 2 2:=⟨QK⟩
instance:FO Tryz.prog 39 0 0:=⟨Lo⟩
instance:FO Tryz.prog 39 1 1:=⟨Lp⟩
instance:FO Tryz.prog 39 2 2:=⟨zH⟩
instance:FO Tryz.prog 57 0 0:=⟨abU⟩
instance:FO Tryz.prog 57 1 1:=⟨QL⟩
instance:FO Tryz.prog 65 0 0:=⟨abV⟩
instance:FO Tryz.prog 65 1 1:=⟨QM⟩
instance:FO Tryz.prog 78 0 0:=⟨kX⟩
instance:FO Tryz.prog 78 1 1:=⟨jt⟩
instance:FO Tryz.prog 86 0 0:=⟨abW⟩
instance:FO Tryz.prog 86 1 1:=⟨abX⟩
instance:nA Tryz.prog 101 2 32 (.agg #[.pointer none,.slice none 0 0]):=⟨Lq⟩
instance:nA Tryz.prog 108 1 24 (.slice none 0 0):=⟨Ir⟩
instance:nA Tryz.prog 112 12 216 (.agg #[.string ⟨#[]⟩,.slice none 0 0,.int .i64 0,.slice none 0 0,.slice none 0 0,.slice none 0 0,.slice none 0 0,.string ⟨#[]⟩,.slice none 0 0,.int .i64 0,.string ⟨#[]⟩,.int .i64 0]):=⟨mr⟩
instance:nA Tryz.prog 23 1 24 (.slice none 0 0):=⟨QN⟩
instance:nA Tryz.prog 3 1 8 (.int .i64 0):=⟨oI⟩
instance:nA Tryz.prog 33 1 24 (.slice none 0 0):=⟨Is⟩
instance:nA Tryz.prog 35 3 64 (.agg #[.string ⟨#[]⟩,.slice none 0 0,.slice none 0 0]):=⟨jf⟩
instance:nA Tryz.prog 37 1 24 (.slice none 0 0):=⟨mu⟩
instance:nA Tryz.prog 39 3 64 (.agg #[.string ⟨#[]⟩,.slice none 0 0,.slice none 0 0]):=⟨fU⟩
instance:nA Tryz.prog 4 1 1 (.bool false):=⟨DL⟩
instance:nA Tryz.prog 5 1 1 (.int .u8 0):=⟨FN⟩
instance:nA Tryz.prog 53 1 24 (.slice none 0 0):=⟨QO⟩
instance:nA Tryz.prog 65 2 40 (.agg #[.string ⟨#[]⟩,.slice none 0 0]):=⟨fg⟩
instance:nA Tryz.prog 76 1 24 (.slice none 0 0):=⟨DM⟩
instance:nA Tryz.prog 78 2 40 (.agg #[.string ⟨#[]⟩,.slice none 0 0]):=⟨aL⟩
instance:nA Tryz.prog 86 2 48 (.agg #[.slice none 0 0,.slice none 0 0]):=⟨BP⟩
instance:nA Tryz.prog 9 1 16 (.string ⟨#[]⟩):=⟨bf⟩
instance:UL Tryz.prog 159 (.int .u64):=⟨Iv⟩
instance:UL Tryz.prog 3 (.int .i64):=⟨wj⟩
instance:UL Tryz.prog 5 (.int .u8):=⟨xQ⟩
instance:O1 Tryz.prog 108:=⟨abY⟩
instance:O1 Tryz.prog 22:=⟨abZ⟩
instance:O1 Tryz.prog 23:=⟨ab0⟩
instance:O1 Tryz.prog 3:=⟨Ls⟩
instance:O1 Tryz.prog 33:=⟨ab1⟩
instance:O1 Tryz.prog 37:=⟨tG⟩
instance:O1 Tryz.prog 4:=⟨Iw⟩
instance:O1 Tryz.prog 5:=⟨ab2⟩
instance:O1 Tryz.prog 53:=⟨ab3⟩
instance:O1 Tryz.prog 76:=⟨iC⟩
instance:O1 Tryz.prog 9:=⟨gD⟩
instance:UL Tryz.prog 108 (.slice 112):=⟨zI⟩
instance:UL Tryz.prog 22 (.slice 5):=⟨BQ⟩
instance:UL Tryz.prog 23 (.slice 39):=⟨iK⟩
instance:UL Tryz.prog 30 (.slice 35):=⟨wk⟩
instance:UL Tryz.prog 33 (.slice 65):=⟨sk⟩
instance:UL Tryz.prog 37 (.slice 9):=⟨bh⟩
instance:UL Tryz.prog 40 (.slice 4):=⟨Ix⟩
instance:UL Tryz.prog 53 (.slice 3):=⟨uP⟩
instance:UL Tryz.prog 76 (.slice 78):=⟨cz⟩
instance:UL Tryz.prog 9 .string:=⟨il⟩
section
variable {P:Program} {n:Nat} {ops:Array Oper} {K:Env->World->Prop} {rest:List Oper} {e:Env} {w:World}
 {dst:Option Nat} {ty:TypeId} {pos:String} {after:Array Edge} {g:Option (Nat×Bool)} {x y:Operand} {T T' E:TypeId}
theorem wN {a:Addr} (k:OW P n ops K rest (bM e dst (.pointer (some a))) w) (hx:ev e x= .pointer (some a):=by rfl) (hg:gate ops e g=true:=by rfl) (hd:bV n dst=true:=by rfl):OW P n ops K (⟨dst,.nilCheck x,ty,pos,after,g⟩::rest) e w:=Fo hg hd hx k
theorem wF {S:Nat} {o:Nat} [hS:FO P S i off] (k:OW P n ops K rest (bM e dst (.pointer (some ⟨b,o+off,none⟩))) w) (hx:ev e x= .pointer (some ⟨b,o,none⟩):=by rfl) (hg:gate ops e g=true:=by rfl) (hd:bV n dst=true:=by rfl):
  OW P n ops K (⟨dst,.fieldAddr S x i,ty,pos,after,g⟩::rest) e w:=Qd hS.h hg hd hx k
theorem wB {o:Nat} {U:Nat} [hT:O1 P T] (k:OW P n ops K rest (bM e dst v) w) (hx:ev e x= .pointer (some ⟨b,o,none⟩):=by rfl) (hb:aJ w b vs.toArray U:=by first|with_reducible assumption|exact dM.gX (by with_reducible assumption)|assumption) (hc:vs[o]?=some v:=by rfl) (hg:gate ops e g=true:=by rfl) (hd:bV n dst=true:=by rfl):
  OW P n ops K (⟨dst,.load T x,ty,pos,after,g⟩::rest) e w:=zl hT.h hx (hb.at hc) k hg hd
theorem wM {U:Nat} [hT:OA P T] [jN:nA P T sz bytes z] (k:OW P n ops K rest (bM e dst (.agg vs.toArray)) w) (hx:ev e x= .pointer (some ⟨b,0,none⟩):=by rfl) (hb:aJ w b vs.toArray U:=by first|with_reducible assumption|exact dM.gX (by with_reducible assumption)|assumption) (hl:vs.length=sz:=by rfl) (hg:gate ops e g=true:=by rfl) (hd:bV n dst=true:=by rfl):
  OW P n ops K (⟨dst,.load T x,ty,pos,after,g⟩::rest) e w:=zL hT.h jN.h hx hb.all hl k hg hd
theorem wC {o:Nat} [hT:O1 P T] (k:OW P n ops K rest (bM e dst v) w) (hx:ev e x= .pointer (some ⟨b,o,none⟩):=by rfl) (hb:fS w b o vs:=by first|with_reducible assumption|exact fy.cells (by with_reducible assumption)|assumption) (hc:vs[0]?=some v:=by rfl) (hg:gate ops e g=true:=by rfl) (hd:bV n dst=true:=by rfl):
  OW P n ops K (⟨dst,.load T x,ty,pos,after,g⟩::rest) e w:=zl hT.h hx (hb 0 _ hc) k hg hd
theorem wD {o:Nat} [hT:O1 P T] (k:OW P n ops K rest (bM e dst v) w) (hx:ev e x= .pointer (some ⟨b,o+1,none⟩):=by rfl) (hb:fS w b o vs:=by first|with_reducible assumption|exact fy.cells (by with_reducible assumption)|assumption) (hc:vs[1]?=some v:=by rfl) (hg:gate ops e g=true:=by rfl) (hd:bV n dst=true:=by rfl):
  OW P n ops K (⟨dst,.load T x,ty,pos,after,g⟩::rest) e w:=zl hT.h hx (hb 1 _ hc) k hg hd
theorem wE {o:Nat} [hT:OA P T] [jN:nA P T sz bytes z] (k:OW P n ops K rest (bM e dst (.agg vs.toArray)) w) (hx:ev e x= .pointer (some ⟨b,o,none⟩):=by rfl) (hb:fS w b o vs:=by first|with_reducible assumption|exact fy.cells (by with_reducible assumption)|assumption) (hl:vs.length=sz:=by rfl) (hg:gate ops e g=true:=by rfl) (hd:bV n dst=true:=by rfl):
  OW P n ops K (⟨dst,.load T x,ty,pos,after,g⟩::rest) e w:=zL hT.h jN.h hx hb hl k hg hd
theorem wi {o len cap:Nat} {ki:IntKind} [hT:UL P T (.slice E)] [hE:nA P E sz bytes z] (k:OW P n ops K rest (bM e dst (.pointer (some ⟨b,o+i*sz,none⟩))) w) (hx:ev e x= .slice (some ⟨b,o,none⟩) len cap:=by rfl) (hy:ev e y= .int ki (i:Int):=by rfl) (hi:i<len:=by omega) 
  (hg:gate ops e g=true:=by rfl) (hd:bV n dst=true:=by rfl):OW P n ops K (⟨dst,.indexAddr T x y,ty,pos,after,g⟩::rest) e w:=Qe hT.h hE.h hg hd hx hy hi k
theorem wp {c:Operand} {t:Bool} (k:OW P n ops K rest (bM e dst (bif t then ev e x else ev e y)) w) (hc:ev e c= .bool t:=by rfl) (hg:gate ops e g=true:=by rfl) (hd:bV n dst=true:=by rfl):OW P n ops K (⟨dst,.pick c x y,ty,pos,after,g⟩::rest) e w:=P9 hg hd hc k
theorem wx (k:OW P n ops K rest (bM e dst v) w) (hx:ev e x= .tuple vs.toArray:=by rfl) (hi:vs[i]?=some v:=by rfl) (hg:gate ops e g=true:=by rfl) (hd:bV n dst=true:=by rfl):
  OW P n ops K (⟨dst,.extract x i,ty,pos,after,g⟩::rest) e w:=Qf hg hd hx hi k
theorem Aq {k:IntKind} {b:Int} (c:OW P n ops K rest (bM e dst (.bool (decide (a=b)))) w) (hx:ev e x= .int k a:=by rfl) (hy:ev e y= .int k' b:=by rfl) (hk:k=k':=by rfl) (hg:gate ops e g=true:=by rfl) (hd:bV n dst=true:=by rfl):OW P n ops K (⟨dst,.binOp .eql T x y T',ty,pos,after,g⟩::rest) e w:=vY (hg:=hg) (hd:=hd) (hx:=hx) (hy:=hy) (hk:=hk) (c:=c)
theorem Ar {k:IntKind} {b:Int} (c:OW P n ops K rest (bM e dst (.bool (decide (a≠b)))) w) (hx:ev e x= .int k a:=by rfl) (hy:ev e y= .int k' b:=by rfl) (hk:k=k':=by rfl) (hg:gate ops e g=true:=by rfl) (hd:bV n dst=true:=by rfl):OW P n ops K (⟨dst,.binOp .neq T x y T',ty,pos,after,g⟩::rest) e w:=H9 (hg:=hg) (hd:=hd) (hx:=hx) (hy:=hy) (hk:=hk) (c:=c)
theorem As {k:IntKind} {b:Int} (c:OW P n ops K rest (bM e dst (.bool (decide (a<b)))) w) (hx:ev e x= .int k a:=by rfl) (hy:ev e y= .int k' b:=by rfl) (hk:k=k':=by rfl) (hg:gate ops e g=true:=by rfl) (hd:bV n dst=true:=by rfl):OW P n ops K (⟨dst,.binOp .lss T x y T',ty,pos,after,g⟩::rest) e w:=H8 (hg:=hg) (hd:=hd) (hx:=hx) (hy:=hy) (hk:=hk) (c:=c)
theorem Au {k:IntKind} {b:Int} (c:OW P n ops K rest (bM e dst (.bool (decide (a<=b)))) w) (hx:ev e x= .int k a:=by rfl) (hy:ev e y= .int k' b:=by rfl) (hk:k=k':=by rfl) (hg:gate ops e g=true:=by rfl) (hd:bV n dst=true:=by rfl):OW P n ops K (⟨dst,.binOp .leq T x y T',ty,pos,after,g⟩::rest) e w:=YC (hg:=hg) (hd:=hd) (hx:=hx) (hy:=hy) (hk:=hk) (c:=c)
theorem Av {k:IntKind} {b:Int} (c:OW P n ops K rest (bM e dst (.bool (decide (b<a)))) w) (hx:ev e x= .int k a:=by rfl) (hy:ev e y= .int k' b:=by rfl) (hk:k=k':=by rfl) (hg:gate ops e g=true:=by rfl) (hd:bV n dst=true:=by rfl):OW P n ops K (⟨dst,.binOp .gtr T x y T',ty,pos,after,g⟩::rest) e w:=Fq (hg:=hg) (hd:=hd) (hx:=hx) (hy:=hy) (hk:=hk) (c:=c)
theorem Aw {k:IntKind} {b:Int} (c:OW P n ops K rest (bM e dst (.bool (decide (b<=a)))) w) (hx:ev e x= .int k a:=by rfl) (hy:ev e y= .int k' b:=by rfl) (hk:k=k':=by rfl) (hg:gate ops e g=true:=by rfl) (hd:bV n dst=true:=by rfl):OW P n ops K (⟨dst,.binOp .geq T x y T',ty,pos,after,g⟩::rest) e w:=Qg (hg:=hg) (hd:=hd) (hx:=hx) (hy:=hy) (hk:=hk) (c:=c)
theorem Ax {a b:List UInt8} (c:OW P n ops K rest (bM e dst (.bool (decide (a=b)))) w) (hx:ev e x=str a:=by rfl) (hy:ev e y=str b:=by rfl) (hg:gate ops e g=true:=by rfl) (hd:bV n dst=true:=by rfl):OW P n ops K (⟨dst,.binOp .eql T x y T',ty,pos,after,g⟩::rest) e w:=DG (hg:=hg) (hd:=hd) (hx:=hx) (hy:=hy) (c:=c)
theorem Ay {a b:List UInt8} (c:OW P n ops K rest (bM e dst (.bool (decide (a≠b)))) w) (hx:ev e x=str a:=by rfl) (hy:ev e y=str b:=by rfl) (hg:gate ops e g=true:=by rfl) (hd:bV n dst=true:=by rfl):OW P n ops K (⟨dst,.binOp .neq T x y T',ty,pos,after,g⟩::rest) e w:=K1 (hg:=hg) (hd:=hd) (hx:=hx) (hy:=hy) (c:=c)
theorem Az {b:Bool} (c:OW P n ops K rest (bM e dst (.bool (!b))) w) (hx:ev e x= .bool b:=by rfl) (hg:gate ops e g=true:=by rfl) (hd:bV n dst=true:=by rfl):OW P n ops K (⟨dst,.unOp .not T x,ty,pos,after,g⟩::rest) e w:=kx (hg:=hg) (hd:=hd) (hx:=hx) (c:=c)
theorem AA {a b:Bool} [hT:UL P T .bool] (c:OW P n ops K rest (bM e dst (.bool (a==b))) w) (hx:ev e x= .bool a:=by rfl) (hy:ev e y= .bool b:=by rfl) (hg:gate ops e g=true:=by rfl) (hd:bV n dst=true:=by rfl):OW P n ops K (⟨dst,.binOp .eql T x y T',ty,pos,after,g⟩::rest) e w:=YD (hT:=hT.h) (hg:=hg) (hd:=hd) (hx:=hx) (hy:=hy) (c:=c)
theorem AB {a b:Bool} [hT:UL P T .bool] (c:OW P n ops K rest (bM e dst (.bool (!(a==b)))) w) (hx:ev e x= .bool a:=by rfl) (hy:ev e y= .bool b:=by rfl) (hg:gate ops e g=true:=by rfl) (hd:bV n dst=true:=by rfl):OW P n ops K (⟨dst,.binOp .neq T x y T',ty,pos,after,g⟩::rest) e w:=YE (hT:=hT.h) (hg:=hg) (hd:=hd) (hx:=hx) (hy:=hy) (c:=c)
theorem AD {T E:TypeId} {x:Operand} {a:Option Addr} {cap:Nat} [hT:UL P T (.slice E)] (k:OW P n ops K rest (bM e dst (.int .i64 m)) w) (hx:ev e x= .slice a m cap:=by rfl) (hg:gate ops e g=true:=by rfl) (hd:bV n dst=true:=by rfl):OW P n ops K (⟨dst,.call {callee:=.builtin .len,args:=#[x],argTypes:=#[T]},ty,pos,after,g⟩::rest) e w:=Fp (hT:=hT.h) (hg:=hg) (hd:=hd) (hx:=hx) (k:=k)
theorem AE {a:List UInt8} [hT:UL P T .string] (k:OW P n ops K rest (bM e dst (.int .i64 (a.length:Nat))) w) (hx:ev e x=str a:=by rfl) (hg:gate ops e g=true:=by rfl) (hd:bV n dst=true:=by rfl):OW P n ops K (⟨dst,.call {callee:=.builtin .len,args:=#[x],argTypes:=#[T]},ty,pos,after,g⟩::rest) e w:=YH (hT:=hT.h) (hg:=hg) (hd:=hd) (hx:=hx) (k:=k)
theorem AF {k:IntKind} {b c:Int} (c':OW P n ops K rest (bM e dst (.int k c)) w) (hx:ev e x= .int k a:=by rfl) (hy:ev e y= .int k' b:=by rfl) (hk:k=k':=by rfl) (hc:k.wrap (a+b)=c:=by exact wrap_i64 _ om om) (hg:gate ops e g=true:=by rfl) (hd:bV n dst=true:=by rfl):OW P n ops K (⟨dst,.binOp .add T x y T',ty,pos,after,g⟩::rest) e w:=mX (hg:=hg) (hd:=hd) (hx:=hx) (hy:=hy) (hk:=hk) (hc:=hc) (c':=c')
theorem Ca {k:IntKind} {b c:Int} (c':OW P n ops K rest (bM e dst (.int k c)) w) (hx:ev e x= .int k a:=by rfl) (hy:ev e y= .int k' b:=by rfl) (hk:k=k':=by rfl) (hc:k.wrap (a-b)=c:=by exact wrap_i64 _ om om) (hg:gate ops e g=true:=by rfl) (hd:bV n dst=true:=by rfl):OW P n ops K (⟨dst,.binOp .sub T x y T',ty,pos,after,g⟩::rest) e w:=xK (hg:=hg) (hd:=hd) (hx:=hx) (hy:=hy) (hk:=hk) (hc:=hc) (c':=c')
theorem Cb {k:IntKind} {b c:Int} (c':OW P n ops K rest (bM e dst (.int k c)) w) (hx:ev e x= .int k a:=by rfl) (hy:ev e y= .int k' b:=by rfl) (hk:k=k':=by rfl) (hc:k.wrap (a*b)=c:=by exact wrap_i64 _ om om) (hg:gate ops e g=true:=by rfl) (hd:bV n dst=true:=by rfl):OW P n ops K (⟨dst,.binOp .mul T x y T',ty,pos,after,g⟩::rest) e w:=Ia (hg:=hg) (hd:=hd) (hx:=hx) (hy:=hy) (hk:=hk) (hc:=hc) (c':=c')
theorem Cc {a b:List UInt8} (c:OW P n ops K rest (bM e dst (str (a++b))) w) (hx:ev e x=str a:=by rfl) (hy:ev e y=str b:=by rfl) (hs:a.length+b.length<=9223372036854775807:=by(simp;omega)) (hg:gate ops e g=true:=by rfl) (hd:bV n dst=true:=by rfl):OW P n ops K (⟨dst,.binOp .add T x y T',ty,pos,after,g⟩::rest) e w:=gV (hg:=hg) (hd:=hd) (hx:=hx) (hy:=hy) (hs:=hs) (c:=c)
end
theorem bI {TA TB TA' TB':Prop} (k:aj [] w w') (ta:TA) (tb:TB) (y:TA'->TB'->p) (xta:aj [] w w'->TA->TA':=by intro k h;exact h.ext k) (xtb:aj [] w w'->TB->TB':=by intro k h;exact h.ext k):p:=y (xta k ta) (xtb k tb)
theorem cN {TA TB TC TA' TB' TC':Prop} (k:aj [] w w') (ta:TA) (tb:TB) (tc:TC) (y:TA'->TB'->TC'->p) (xta:aj [] w w'->TA->TA':=by intro k h;exact h.ext k) (xtb:aj [] w w'->TB->TB':=by intro k h;exact h.ext k) (xtc:aj [] w w'->TC->TC':=by intro k h;exact h.ext k):p:=y (xta k ta) (xtb k tb) (xtc k tc)
theorem ie {TA TB TC TD TA' TB' TC' TD':Prop} (k:aj [] w w') (ta:TA) (tb:TB) (tc:TC) (td:TD) (y:TA'->TB'->TC'->TD'->p) (xta:aj [] w w'->TA->TA':=by intro k h;exact h.ext k) (xtb:aj [] w w'->TB->TB':=by intro k h;exact h.ext k) (xtc:aj [] w w'->TC->TC':=by intro k h;exact h.ext k) (xtd:aj [] w w'->TD->TD':=by intro k h;exact h.ext k):p:=y (xta k ta) (xtb k tb) (xtc k tc) (xtd k td)
theorem la {TA TB TC TD TE TA' TB' TC' TD' TE':Prop} (k:aj [] w w') (ta:TA) (tb:TB) (tc:TC) (td:TD) (te:TE) (y:TA'->TB'->TC'->TD'->TE'->p) (xta:aj [] w w'->TA->TA':=by intro k h;exact h.ext k) (xtb:aj [] w w'->TB->TB':=by intro k h;exact h.ext k) (xtc:aj [] w w'->TC->TC':=by intro k h;exact h.ext k) (xtd:aj [] w w'->TD->TD':=by intro k h;exact h.ext k) (xte:aj [] w w'->TE->TE':=by intro k h;exact h.ext k):p:=y (xta k ta) (xtb k tb) (xtc k tc) (xtd k td) (xte k te)
theorem tS {TA TB TC TD TE TF TA' TB' TC' TD' TE' TF':Prop} (k:aj [] w w') (ta:TA) (tb:TB) (tc:TC) (td:TD) (te:TE) (tf:TF) (y:TA'->TB'->TC'->TD'->TE'->TF'->p) (xta:aj [] w w'->TA->TA':=by intro k h;exact h.ext k) (xtb:aj [] w w'->TB->TB':=by intro k h;exact h.ext k) (xtc:aj [] w w'->TC->TC':=by intro k h;exact h.ext k) (xtd:aj [] w w'->TD->TD':=by intro k h;exact h.ext k) (xte:aj [] w w'->TE->TE':=by intro k h;exact h.ext k) (xtf:aj [] w w'->TF->TF':=by intro k h;exact h.ext k):p:=y (xta k ta) (xtb k tb) (xtc k tc) (xtd k td) (xte k te) (xtf k tf)
theorem I3 {TA TB TC TD TE TF TG TA' TB' TC' TD' TE' TF' TG':Prop} (k:aj [] w w') (ta:TA) (tb:TB) (tc:TC) (td:TD) (te:TE) (tf:TF) (tg:TG) (y:TA'->TB'->TC'->TD'->TE'->TF'->TG'->p) (xta:aj [] w w'->TA->TA':=by intro k h;exact h.ext k) (xtb:aj [] w w'->TB->TB':=by intro k h;exact h.ext k) (xtc:aj [] w w'->TC->TC':=by intro k h;exact h.ext k) (xtd:aj [] w w'->TD->TD':=by intro k h;exact h.ext k) (xte:aj [] w w'->TE->TE':=by intro k h;exact h.ext k) (xtf:aj [] w w'->TF->TF':=by intro k h;exact h.ext k) (xtg:aj [] w w'->TG->TG':=by intro k h;exact h.ext k):p:=y (xta k ta) (xtb k tb) (xtc k tc) (xtd k td) (xte k te) (xtf k tf) (xtg k tg)
theorem Cd {TA TB TC TD TE TF TG TM TA' TB' TC' TD' TE' TF' TG' TM':Prop} (k:aj [] w w') (ta:TA) (tb:TB) (tc:TC) (td:TD) (te:TE) (tf:TF) (tg:TG) (tm:TM) (y:TA'->TB'->TC'->TD'->TE'->TF'->TG'->TM'->p) (xta:aj [] w w'->TA->TA':=by intro k h;exact h.ext k) (xtb:aj [] w w'->TB->TB':=by intro k h;exact h.ext k) (xtc:aj [] w w'->TC->TC':=by intro k h;exact h.ext k) (xtd:aj [] w w'->TD->TD':=by intro k h;exact h.ext k) (xte:aj [] w w'->TE->TE':=by intro k h;exact h.ext k) (xtf:aj [] w w'->TF->TF':=by intro k h;exact h.ext k) (xtg:aj [] w w'->TG->TG':=by intro k h;exact h.ext k) (xtm:aj [] w w'->TM->TM':=by intro k h;exact h.ext k):p:=y (xta k ta) (xtb k tb) (xtc k tc) (xtd k td) (xte k te) (xtf k tf) (xtg k tg) (xtm k tm)
theorem aeg {TA TB TC TD TE TF TG TM TN TA' TB' TC' TD' TE' TF' TG' TM' TN':Prop} (k:aj [] w w') (ta:TA) (tb:TB) (tc:TC) (td:TD) (te:TE) (tf:TF) (tg:TG) (tm:TM) (tn:TN) (y:TA'->TB'->TC'->TD'->TE'->TF'->TG'->TM'->TN'->p) (xta:aj [] w w'->TA->TA':=by intro k h;exact h.ext k) (xtb:aj [] w w'->TB->TB':=by intro k h;exact h.ext k) (xtc:aj [] w w'->TC->TC':=by intro k h;exact h.ext k) (xtd:aj [] w w'->TD->TD':=by intro k h;exact h.ext k) (xte:aj [] w w'->TE->TE':=by intro k h;exact h.ext k) (xtf:aj [] w w'->TF->TF':=by intro k h;exact h.ext k) (xtg:aj [] w w'->TG->TG':=by intro k h;exact h.ext k) (xtm:aj [] w w'->TM->TM':=by intro k h;exact h.ext k) (xtn:aj [] w w'->TN->TN':=by intro k h;exact h.ext k):p:=y (xta k ta) (xtb k tb) (xtc k tc) (xtd k td) (xte k te) (xtf k tf) (xtg k tg) (xtm k tm) (xtn k tn)
structure Hd (q:Prop):Prop where out:q
theorem W (k:q) (h:Hd q->p:=by intro k;(repeat(first|refine zm ?_|refine zA ?_|refine zr ?_|refine aZ ?_|refine zs ?_|refine wF ?_|refine wB ?_|refine wC ?_|refine wD ?_|refine wM ?_|refine wE ?_|refine wN ?_|refine wp ?_|refine wx ?_|refine jL ?_|refine gY ?_|refine kH ?_|refine tj ?_|refine Aq ?_|refine Ar ?_|refine As ?_|refine Au ?_|refine Av ?_|refine Aw ?_|refine Ax ?_|refine Ay ?_|refine Az ?_|refine AD ?_|refine AE ?_|refine AA ?_|refine AB ?_|refine wi ?_|refine AF ?_|refine Ca ?_|refine Cb ?_|refine Cc ?_|refine jZ ?_|refine zj ?_|refine zk rfl ?_|refine DE rfl ?_));exact k.out):p:=h ⟨k⟩
theorem WL (k:q) (h:Hd q->p:=by intro k;(repeat(first|refine zm ?_|refine zA ?_|refine zr ?_|refine aZ ?_|refine zs ?_|refine wF ?_|refine wN ?_|refine wp ?_|refine wx ?_|refine jL ?_|refine gY ?_|refine kH ?_|refine tj ?_|refine Aq ?_|refine Ar ?_|refine As ?_|refine Au ?_|refine Av ?_|refine Aw ?_|refine Ax ?_|refine Ay ?_|refine Az ?_|refine AD ?_|refine AE ?_|refine AA ?_|refine AB ?_|refine wi ?_|refine AF ?_|refine Ca ?_|refine Cb ?_|refine Cc ?_|refine jZ ?_|refine zj ?_|refine zk rfl ?_|refine DE rfl ?_));exact k.out):p:=h ⟨k⟩
theorem WI (k:q) (h:Hd q->p:=by intro k;(repeat(first|refine zm ?_|refine zA ?_|refine zr ?_|refine aZ ?_|refine zs ?_|refine wF ?_|refine wB ?_|refine wC ?_|refine wD ?_|refine wM ?_|refine wE ?_|refine wN ?_|refine wp ?_|refine wx ?_|refine jL ?_|refine gY ?_|refine kH ?_|refine tj ?_|refine Aq ?_|refine Ar ?_|refine As ?_|refine Au ?_|refine Av ?_|refine Aw ?_|refine Ax ?_|refine Ay ?_|refine Az ?_|refine AD ?_|refine AE ?_|refine AA ?_|refine AB ?_|refine AF ?_|refine Ca ?_|refine Cb ?_|refine Cc ?_|refine jZ ?_|refine zj ?_|refine zk rfl ?_|refine DE rfl ?_));exact k.out):p:=h ⟨k⟩
theorem WA (k:q) (h:Hd q->p:=by intro k;(repeat(first|refine zm ?_|refine zA ?_|refine zr ?_|refine aZ ?_|refine zs ?_|refine wF ?_|refine wB ?_|refine wC ?_|refine wD ?_|refine wM ?_|refine wE ?_|refine wN ?_|refine wp ?_|refine wx ?_|refine jL ?_|refine gY ?_|refine kH ?_|refine tj ?_|refine Aq ?_|refine Ar ?_|refine As ?_|refine Au ?_|refine Av ?_|refine Aw ?_|refine Ax ?_|refine Ay ?_|refine Az ?_|refine AD ?_|refine AE ?_|refine AA ?_|refine AB ?_|refine wi ?_|refine Cc ?_|refine jZ ?_|refine zj ?_|refine zk rfl ?_|refine DE rfl ?_));exact k.out):p:=h ⟨k⟩
theorem WS (k:q) (h:Hd q->p:=by intro k;(repeat(first|refine zm ?_|refine zA ?_|refine zr ?_|refine aZ ?_|refine zs ?_|refine wF ?_|refine wB ?_|refine wC ?_|refine wD ?_|refine wM ?_|refine wE ?_|refine wN ?_|refine wp ?_|refine wx ?_|refine jL ?_|refine gY ?_|refine kH ?_|refine tj ?_|refine Aq ?_|refine Ar ?_|refine As ?_|refine Au ?_|refine Av ?_|refine Aw ?_|refine Ax ?_|refine Ay ?_|refine Az ?_|refine AD ?_|refine AE ?_|refine AA ?_|refine AB ?_|refine wi ?_|refine AF ?_|refine Ca ?_|refine Cb ?_|refine jZ ?_|refine zj ?_|refine zk rfl ?_|refine DE rfl ?_));exact k.out):p:=h ⟨k⟩
theorem WZ (k:q) (h:Hd q->p:=by intro k;(repeat(first|refine zm ?_|refine zA ?_|refine zr ?_|refine zs ?_|refine wF ?_|refine wB ?_|refine wC ?_|refine wD ?_|refine wM ?_|refine wE ?_|refine wN ?_|refine wp ?_|refine wx ?_|refine jL ?_|refine gY ?_|refine kH ?_|refine tj ?_|refine Aq ?_|refine Ar ?_|refine As ?_|refine Au ?_|refine Av ?_|refine Aw ?_|refine Ax ?_|refine Ay ?_|refine Az ?_|refine AD ?_|refine AE ?_|refine AA ?_|refine AB ?_|refine wi ?_|refine AF ?_|refine Ca ?_|refine Cb ?_|refine Cc ?_|refine jZ ?_|refine zj ?_|refine zk rfl ?_|refine DE rfl ?_));exact k.out):p:=h ⟨k⟩
theorem oM {D:List Nat} {e e':Env} (h2:p) (h3:q) (h:ek D e e':=by repeat(first|with_reducible exact xN|refine Ib rfl ?_|refine K3 rfl ?_)):ek D e e'∧p∧q:=⟨h,h2,h3⟩
theorem oQ (h:p:=by refine W ?_;exact oM rfl (by first|rfl|exact aj.refl _ _|assumption)):p:=h
section
variable {P:Program} {n:Nat} {ops:Array Oper} {K:Env->World->Prop} {e:Env} {w:World} {l:List Oper} (m tc tp:Nat) (J:World->Prop) {c r:Bool} {p:Prop}
theorem oO (ht:e tc= .bool c) (h1:OW P n ops (λe' w'=>ek (List.range' tc (tp+1-tc)) e e'∧e' tp= .bool true∧J w') (l.take m) (gU e tc (.bool true)) w) [t:tR (c=false) p] 
  (h0:p->OW P n ops (λe' w'=>ek (List.range' tc (tp+1-tc)) e e'∧e' tp= .bool r∧J w') (l.take m) (gU e tc (.bool false)) w)
  (k:∀x w',J w'->OW P n ops K (l.drop m) (gU (bj (List.range' tc (tp+1-tc)) x e) tp (.bool (c||r))) w'):OW P n ops K l e w:=
 BF m tc tp _ J ht (λ_=>h1) (λh=>h0 (t.imp h)) k
theorem oA (ht:e tc= .bool c) (h0:OW P n ops (λe' w'=>ek (List.range' tc (tp+1-tc)) e e'∧e' tp= .bool false∧J w') (l.take m) (gU e tc (.bool false)) w) [t:tR (c=true) p] 
  (h1:p->OW P n ops (λe' w'=>ek (List.range' tc (tp+1-tc)) e e'∧e' tp= .bool r∧J w') (l.take m) (gU e tc (.bool true)) w)
  (k:∀x w',J w'->OW P n ops K (l.drop m) (gU (bj (List.range' tc (tp+1-tc)) x e) tp (.bool (c&&r))) w'):OW P n ops K l e w:=
 Ic m tc tp _ J ht (λh=>h1 (t.imp h)) (λ_=>h0) k
theorem oP (ht:e tc= .bool c) (h1:OW P n ops (λe' w'=>ek (List.range' tc (tp+1-tc)) e e'∧e' tp= .bool true∧w=w') (l.take m) (gU e tc (.bool true)) w) [t:tR (c=false) p] 
  (h0:p->OW P n ops (λe' w'=>ek (List.range' tc (tp+1-tc)) e e'∧e' tp= .bool r∧w=w') (l.take m) (gU e tc (.bool false)) w)
  (k:∀x,OW P n ops K (l.drop m) (gU (bj (List.range' tc (tp+1-tc)) x e) tp (.bool (c||r))) w):OW P n ops K l e w:=
 BF m tc tp _ (w=·) ht (λ_=>h1) (λh=>h0 (t.imp h)) λx _ hw=>hw▸k x
theorem oB (ht:e tc= .bool c) (h0:OW P n ops (λe' w'=>ek (List.range' tc (tp+1-tc)) e e'∧e' tp= .bool false∧w=w') (l.take m) (gU e tc (.bool false)) w) [t:tR (c=true) p] 
  (h1:p->OW P n ops (λe' w'=>ek (List.range' tc (tp+1-tc)) e e'∧e' tp= .bool r∧w=w') (l.take m) (gU e tc (.bool true)) w)
  (k:∀x,OW P n ops K (l.drop m) (gU (bj (List.range' tc (tp+1-tc)) x e) tp (.bool (c&&r))) w):OW P n ops K l e w:=
 Ic m tc tp _ (w=·) ht (λh=>h1 (t.imp h)) (λ_=>h0) λx _ hw=>hw▸k x
end
abbrev it (l:List Value):List It:=l.map It.v
theorem dV {n:Nat} {l:List Oper} {N R:Env->World->Prop} {X:Nat->Env->World->Prop} {id:Nat} {e0:Env} {w0:World} (hm:P.follows .mixedOrders=true) (m:Nat) (ds:List Nat) (deps:List (List Nat)) (its:List It) 
  (hB:uI l m ds ds deps=true) (hS:its.all It.F9=true)
  (hc:∀wd,aj [] w0 wd->qX P n l.toArray ds ds its e0 wd 0 (l.take m) deps)
  (ht:∀(x:Env) (w:World),aj [] w0 w->dq its ds w (List.range m) λacc=>OW P n l.toArray N (l.drop m) (bo (bj ds x e0) acc) w):
  CW P n (.region id l.toArray true) N R X e0 w0:=k8 hm m ds ds deps its hB hS hc ht
section
variable {P:Program} {n:Nat} {ops:Array Oper} {W ds:List Nat} {e0:Env} {wz w0:World} {k:Nat} {o:Oper} {l:List Oper} {d:List Nat} {r:List (List Nat)}
theorem V1 {its:List It} (aC:aj [] wz w0) (hr:qX P n ops W ds its e0 w0 (k+1) l r) (h:Ga P n ops W ds its e0 w0 k o d:=by intro x w hk;first|exact zm pv|exact zA pv|exact zs pv|exact wF pv|exact wB pv (hb:=aJ.ext (by first|with_reducible assumption|assumption) (aj.trans aC hk))|exact wB pv (hb:=dM.gX (dM.ext (by first|with_reducible assumption|assumption) (aj.trans aC hk)))|exact wM pv (hb:=aJ.ext (by first|with_reducible assumption|assumption) (aj.trans aC hk))|exact wM pv (hb:=dM.gX (dM.ext (by first|with_reducible assumption|assumption) (aj.trans aC hk)))|exact wC pv (hb:=fS.ext (by first|with_reducible assumption|assumption) (aj.trans aC hk))|exact wC pv (hb:=fy.cells (fy.ext (by first|with_reducible assumption|assumption) (aj.trans aC hk)))|exact wD pv (hb:=fS.ext (by first|with_reducible assumption|assumption) (aj.trans aC hk))|exact wD pv (hb:=fy.cells (fy.ext (by first|with_reducible assumption|assumption) (aj.trans aC hk)))|exact wE pv (hb:=fS.ext (by first|with_reducible assumption|assumption) (aj.trans aC hk))|exact wE pv (hb:=fy.cells (fy.ext (by first|with_reducible assumption|assumption) (aj.trans aC hk)))|exact wN pv|(refine wp ?_;exact pv)|exact wx pv|exact Aq pv|exact Ar pv|exact As pv|exact Au pv|exact Av pv|exact Aw pv|exact Ax pv|exact Ay pv|exact Az pv|exact AD pv|exact AE pv|exact AA pv|exact AB pv|exact wi pv|exact AF pv|exact Ca pv|exact Cb pv|exact Cc pv):qX P n ops W ds its e0 w0 k (o::l) (d::r):=⟨h,hr⟩
theorem F1 {its:List Ie} {Js:List (List Nat->List Value->World->Prop)} {G0:List Nat} (hr:va P n ops W ds its Js e0 G0 w0 (k+1) l r) (h:IZ P n ops W ds its e0 G0 w0 k o d:=by intro x w G aS bC pJ;first|exact zm fv|exact zA fv|exact zs fv|exact wF fv|exact wB fv (hb:=dM.gX (dM.go (by first|with_reducible assumption|assumption) bC))|exact wM fv (hb:=dM.gX (dM.go (by first|with_reducible assumption|assumption) bC))|exact wC fv (hb:=fy.cells (fy.go (by first|with_reducible assumption|assumption) bC))|exact wD fv (hb:=fy.cells (fy.go (by first|with_reducible assumption|assumption) bC))|exact wE fv (hb:=fy.cells (fy.go (by first|with_reducible assumption|assumption) bC))|exact wN fv|(refine wp ?_;exact fv)|exact wx fv|exact Aq fv|exact Ar fv|exact As fv|exact Au fv|exact Av fv|exact Aw fv|exact Ax fv|exact Ay fv|exact Az fv|exact AD fv|exact AE fv|exact AA fv|exact AB fv|exact wi fv|exact AF fv|exact Ca fv|exact Cb fv|exact Cc fv) (hk:(its.getD k l0).j7=none:=by rfl):va P n ops W ds its Js e0 G0 w0 k (o::l) (d::r):=vf h hr hk
end
theorem VA (k:q) (h:Hd q->p:=by intro k;(repeat(refine V1 aC ?_));exact k.out):p:=h ⟨k⟩
theorem VZ (h:p:=by(repeat(refine V1 aC ?_));exact trivial):p:=h
theorem FZ (h:p:=by(repeat(refine F1 ?_));exact trivial):p:=h
theorem FA (k:q) (h:Hd q->p:=by intro k;(repeat(refine F1 ?_));exact k.out):p:=h ⟨k⟩
theorem Gm (a b c:Int) (w:World):bz Tryz.prog 21 [.int .i64 a,.int .i64 b,.int .i64 c] w λv w'=>v= .bool (decide (b<=a)&&decide (a<=c))∧w=w':=by
 refine bS [.tmp 6] 15 Tryz.func21 rfl Z9 rfl rfl ?_
 refine W ?_
 apply oB 4 10 14 rfl oQ
 intro _
 exact oQ
 intro xx
 refine W ?_
 exact⟨_,rfl,rfl,rfl⟩
theorem aeh (c:UInt8) (w:World):bz Tryz.prog 137 [.int .u8 c.toNat] w λv w'=>v= .bool (eT c)∧w=w':=by
 refine bS [.tmp 2] 33 Tryz.func137 rfl ZF rfl rfl ?_
 refine W ?_
 apply oB 3 5 8 rfl oQ
 intro _
 exact oQ
 intro xx
 refine WZ ?_
 apply oP 7 9 16 rfl oQ
 intro _
 refine WZ ?_
 apply oB 3 12 15 rfl oQ
 intro _
 exact oQ
 intro xx
 exact oQ
 intro xx
 refine WZ ?_
 apply oP 3 17 20 rfl oQ
 intro _
 exact oQ
 intro xx
 refine WZ ?_
 apply oP 3 21 24 rfl oQ
 intro _
 exact oQ
 intro xx
 refine WZ ?_
 apply oP 3 25 28 rfl oQ
 intro _
 exact oQ
 intro xx
 refine WZ ?_
 apply oP 3 29 32 rfl oQ
 intro _
 exact oQ
 intro xx
 refine W ?_
 exact⟨_,rfl,congrArg Value.bool (Ql c),rfl⟩
def aei (L:List Nat) (s:ai) (d i:Nat) (v:Value) (w:World):Prop:=
 ∃t tv en,v= .tuple #[tv,.int .i64 en]∧bB L w tv t∧BO s.length (rT d (s.drop i)) t en
theorem aej (s:ai) (hs:s.length<=12000):∀(d i:Nat) (L:List Nat) (w:World),d<=61->i<=s.length->(∀x,x∈L->x<w.heap.size)->
  bz Tryz.prog 97 [str s,.int .i64 (i:Int),.int .i64 ((61:Int)-(d:Int))] w λv w'=>aei L s d i v w'∧aj [] w w':=by
 intro d
 induction d with
 |zero=>
  intro i L w hd hi hL
  have hK:=aj.refl [] w
  refine kW [.cell 6 78,.tmp 7] 87 Tryz.func97 rfl Io rfl rfl rfl ?_
  refine zr<|dx aL rfl rfl rfl λw1 aI bL dk=>?_
  have hK:=hK.grow;have hK:=hK.ext aI
  refine zA<|aZ<|zr<|js (FM _) rfl rfl<|dx aL rfl rfl rfl λw2 az dh dC=>?_
  have hK:=hK.grow;have hK:=hK.ext az;have bL:=bL.grow;have bL:=bL.ext az
  refine cJ aL rfl rfl rfl dh rfl λw3 aH dh gJ=>?_
  have hK:=hK.aD aH sx;have bL:=bL.aD aH sx
  refine aZ<|jL<|zr<|zm<|Fq rfl rfl rfl rfl rfl<|zm ?_
  apply BF 5 15 20 [15,16,17,18,19,20] (λw'=>w3=w') rfl
  intro h1
  replace h1:=jj h1
  refine W ?_
  exact mg rfl rfl
  intro h1
  replace h1:=jj h1
  refine W ?_
  exact mg rfl rfl
  rintro xx _ rfl
  refine aZ<|zc rfl (λh2=>?_) (λh2=>?_)
  refine W ?_
  refine cJ aL rfl rfl rfl bL rfl λw4 aO bL gQ=>?_
  have hK:=hK.aD aO sx
  refine W ?_
  exact⟨[_,_],⟨fZ eU aL rfl bL rfl,rfl⟩,⟨.mk [] [],_,_,rfl,kU oH,rfl⟩,hK⟩
  exfalso
  simp at h2
 |succ d ih=>
  intro i L w hd hi hL
  have hK:=aj.refl [] w
  by_cases mj:i<s.length
  ·have Ce:=drop_cons (je mj)
   have SR:=FH eT (s.drop i)
   rw[List.length_drop] at SR
   refine kW [.cell 6 78,.tmp 7] 87 Tryz.func97 rfl Io rfl rfl rfl<|zr<|dx aL rfl rfl rfl λw1 aI bL dk=>?_
   have hK:=hK.grow;have hK:=hK.ext aI
   refine zA<|aZ<|zr<|js (FM _) rfl rfl<|dx aL rfl rfl rfl λw2 az dh dC=>?_
   have hK:=hK.grow;have hK:=hK.ext az;have bL:=bL.grow;have bL:=bL.ext az
   refine cJ aL rfl rfl rfl dh rfl λw3 aH dh gJ=>?_
   have hK:=hK.aD aH sx;have bL:=bL.aD aH sx
   refine W ?_
   apply oP 5 15 20 rfl oQ
   intro _
   exact oQ
   intro xx
   refine aZ<|zc rfl (λh2=>?_) (λh2=>?_)
   exfalso
   simp at h2
   omega
   refine W ?_
   refine j3 il rfl rfl rfl rfl (je mj)<|H9 rfl rfl rfl rfl rfl<|aZ<|zc rfl (λh3=>?_) (λh3=>?_)
   have dL:s.getD i 0≠40:=λh=>h3 (by rw[h];rfl)
   refine W ?_
   refine eA (λk:Nat=>[(0,str s),(1,.int .i64 (k:Int)),(6,.pointer (some ⟨w.heap.size,0,none⟩)),(8,.pointer (some ⟨w1.heap.size,0,none⟩)),(9,.int .i64 (i:Int))]) (λk w'=>w'=w3∧i<=k∧k-i<=((s.drop i).takeWhile eT).length) (λk=>s.length-k) i (⟨rfl,rfl,rfl,rfl,rfl⟩) (⟨rfl,lR _,om⟩) λgg w4 e4 hI=>?_
   obtain⟨rfl,uM,Ef⟩:=hI
   have Gn:=YU s uM Ef
   refine WZ ?_
   apply oB 5 31 36 rfl oQ
   intro h4
   refine zm<|zm<|j3 il rfl rfl rfl rfl (je om)<|aA (aeh _ _) ?_
   rintro _ _ ⟨rfl,rfl⟩
   exact oQ
   intro xx
   refine aZ<|zc rfl (λh5=>?_) (λh5=>?_)
   have dU:=Gn.2 (by simpa using h5)
   refine W ?_
   exact⟨gg+1,⟨rfl,rfl,rfl,rfl,rfl⟩,⟨rfl,om,om⟩,om⟩
   have Gp:gg-i=((s.drop i).takeWhile eT).length:=Nat.le_antisymm Ef (Nat.le_of_not_lt (λhh=>by have hx:=Gn.1 hh;rw[hx.2,Bool.and_true,decide_eq_false_iff_not] at h5;omega))
   refine W ?_
   refine BE il rfl rfl rfl (.inr ⟨_,rfl⟩) (.inr ⟨_,rfl⟩) om om<|zf kX rfl<|gd bf rfl rfl rfl dh rfl λw5 aN dh ig=>?_
   have hK:=hK.aD aN sx;have bL:=bL.aD aN sx
   refine W ?_
   refine zc rfl (λh6=>?_) (λh6=>?_)
   have hR:rT (d+1) (s.drop i)=none:=by rw[Gp,Ik] at h6;show ei d _=none;rw[Ce,FJ _ _ _ dL,<-Ce,iP h6]
   refine W ?_
   refine cJ aL rfl rfl rfl bL rfl λw6 bN bL kI=>?_
   have hK:=hK.aD bN sx
   refine W ?_
   exact⟨[_,_],⟨fZ eU aL rfl bL rfl,rfl⟩,⟨.mk _ [],_,_,rfl,kU oH,by rw[hR];rfl⟩,hK⟩
   have hR:rT (d+1) (s.drop i)=some (.mk ((s.drop i).takeWhile eT) [],(s.drop i).dropWhile eT):=by rw[Gp,Ik] at h6;show ei d _=_;rw[Ce,FJ _ _ _ dL,<-Ce,iN h6]
   refine W ?_
   refine cJ aL rfl rfl rfl bL rfl λw6 bN bL kI=>?_
   have hK:=hK.aD bN sx
   refine zA<|aZ<|jZ<|⟨[_,_],⟨fZ eU aL rfl bL rfl,rfl⟩,⟨.mk _ [],_,_,rfl,kU oH,?_⟩,hK⟩
   rw[hR]
   refine⟨by rw[Gp,Ik],?_⟩
   rw[FG,List.length_drop,List.length_drop]
   show(gg:Int)=_
   omega
   have MB:s.getD i 0=40:=UInt8.toNat_inj.1 (by have Cf:(40:UInt8).toNat=40:=rfl;rw[Cf];omega)
   refine WZ ?_
   refine eA (λq:List aq×Nat×Option Addr×Nat×Option Nat×List Value=>[(0,str s),(1,.int .i64 (q.2.1:Int)),(2,.int .i64 ((61:Int)-((d+1:Nat):Int))),(6,.pointer (some ⟨w.heap.size,0,none⟩)),(8,.pointer (some ⟨w1.heap.size,0,none⟩))]) (λq w'=>aj [] w w'∧aJ w' w.heap.size [str [],.slice none 0 0].toArray 78∧aJ w' w1.heap.size [str [],.slice q.2.2.1 q.1.length q.2.2.2.1].toArray 78∧gO (w.heap.size::w1.heap.size::L) w' 78 2 (.slice q.2.2.1 q.1.length q.2.2.2.1) q.2.2.2.2.1 (cT q.1) q.2.2.2.2.2∧(∀b,q.2.2.2.2.1=some b->w.heap.size<=b)∧q.2.1<s.length∧i<=q.2.1∧q.1.length<=q.2.1∧w1.heap.size<w'.heap.size∧mq d (s.drop (i+1))=(mq d (s.drop (q.2.1+1))).map (λp=>(q.1++p.1,p.2))) (λq=>s.length-q.2.1) (([],i,none,0,none,[])) (⟨rfl,rfl,rfl,rfl,rfl⟩) (⟨hK,bL,dh,gO.nil _ _ _ _,sm,mj,lR _,sm,om,sm⟩) λgg w4 e4 hI=>?_
   obtain⟨acc,k,a,cc,g,xs⟩:=gg
   dsimp only at hI⊢
   obtain⟨hK,bL,dh,hO,hg,hk,uM,hak,x4,sH⟩:=hI
   have hLx:∀x,x∈g.toList++(w.heap.size::w1.heap.size::L)->x<w4.heap.size:=by intro x hx;simp at hx;rcases hx with hx|rfl|rfl|hx;exact hO.own.lt x hx;omega;omega;have h1:=hL x hx;have h2:=hK.size;omega
   refine WA ?_
   refine AF ?_
   refine zm<|mX rfl rfl rfl rfl rfl (show IntKind.i64.wrap ((61:Int)-((d+1:Nat):Int)+1)=(61:Int)-(d:Int) by rw[wrap_i64 _ om om];omega)<|aA (ih (k+1) (g.toList++(w.heap.size::w1.heap.size::L)) w4 om om hLx) ?_
   rintro v5 w5 ⟨sI,aN⟩
   have l3:=aN.size
   refine ie aN hK bL dh hO λhK bL dh hO=>?_
   obtain⟨t,tv,en,rfl,ht,hm⟩:=sI
   obtain⟨pa,pn,pc,rfl,eP,aP⟩:=cU ht
   subst eP
   refine W ?_
   refine dx aL rfl rfl rfl λw6 bN qp kI=>?_
   have hK:=hK.grow;have hK:=hK.ext bN;have bL:=bL.grow;have bL:=bL.ext bN;have dh:=dh.grow;have dh:=dh.ext bN;have hO:=hO.alloc bN kI;have ht:=ht.grow;have ht:=ht.ext bN
   refine cJ aL rfl rfl rfl qp rfl λw7 bW qp oX=>?_
   have hK:=hK.aD bW sx;have bL:=bL.aD bW sx;have dh:=dh.aD bW sx;have hO:=hO.aD bW sx;have ht:=ht.aD bW sx
   refine W ?_
   apply oP 5 61 66 rfl oQ
   intro _
   exact oQ
   intro xx
   refine aZ<|zc rfl (λh8=>?_) (λh8=>?_)
   have hR:rT (d+1) (s.drop i)=none:=by show ei d _=none;rw[Ce,MB,DJ,sH,YV hm (by simpa using h8) om];rfl
   refine W ?_
   refine cJ aL rfl rfl rfl bL rfl λw8 cE bL ld=>?_
   have hK:=hK.aD cE sx;have hO:=hO.aD cE sx
   refine W ?_
   exact⟨[_,_],⟨fZ eU aL rfl bL rfl,rfl⟩,⟨.mk [] acc,_,_,rfl,kU (hO.done.weaken (λx hx=>by simp[hx])),by rw[hR];rfl⟩,hK⟩
   simp at h8
   obtain⟨m,rfl,Qk,MC,fM⟩:=YW hm h8.1 om
   refine W ?_
   refine fc cz aL rfl rfl λw8 cE ael ld=>la cE hK bL dh hO ht λhK bL dh hO ht=>?_
   refine Qv cz aL rfl rfl rfl rfl rfl hO (oG t) ael.all (by simp[Value.oneCell']) (ht.kj.fresh (λx hx=>.inl (Qr x hx))) ?_ ?_ ?_
   intro x hx;simp at hx;rcases hx with rfl|rfl|rfl|hx;(·omega);(·omega);(·omega);(·have h1:=hL x hx;have h2:=hK.size;omega)
   rw[ia];omega
   intro a2 nB g2 w9 fY aB iO
   have e1:(cT acc).length+1=(acc++[t]).length:=by simp[ia]
   have e2:cT acc++[t.enc]=cT (acc++[t]):=by simp[Lg,cT]
   rw[e1] at fY⊢
   rw[e2] at fY
   have cV:=aB.size
   have I4:∀b,g2=some b->w.heap.size<=b:=by intro b hb;rcases iO with h|h;(·rw[h] at hb;exact hg b hb);(·rw[h] at hb;cases hb;omega)
   have hK:=hK.aD aB (λx hx=>.inr (hg x (by simpa using hx)));have bL:=bL.aD aB (hO.sep sm);have dh:=dh.aD aB (hO.sep sm)
   refine zf jt rfl<|gd DM rfl rfl rfl dh rfl λcu cB dh Cg=>?_
   have hK:=hK.aD cB sx;have bL:=bL.aD cB sx;have fY:=fY.aD cB sx
   refine W ?_
   refine j3 il rfl rfl rfl rfl (je MC)<|vY rfl rfl rfl rfl rfl<|aZ<|zc rfl (λh9=>?_) (λh9=>?_)
   have AG:s.getD m 0=41:=UInt8.toNat_inj.1 (by have Cf:(41:UInt8).toNat=41:=rfl;rw[Cf];omega)
   have hR:rT (d+1) (s.drop i)=some (.mk [] (acc++[t]),s.drop (m+1)):=by show ei d _=_;rw[Ce,MB,DJ,sH,fM,iP AG];rfl
   refine W ?_
   refine cJ aL rfl rfl rfl bL rfl λeD dd bL vi=>?_
   have hK:=hK.aD dd sx;have fY:=fY.aD dd sx
   refine W ?_
   exact⟨[_,_],⟨fZ eU aL rfl bL rfl,rfl⟩,⟨.mk [] (acc++[t]),_,_,rfl,kU (fY.done.weaken (λx hx=>by simp[hx])),by rw[hR];exact⟨rfl,by rw[List.length_drop];omega⟩⟩,hK⟩
   have AG:s.getD m 0≠41:=λh=>h9 (by rw[h];rfl)
   refine W ?_
   refine j3 il rfl rfl rfl rfl (je MC)<|H9 rfl rfl rfl rfl rfl<|aZ<|zc rfl (λfO=>?_) (λfO=>?_)
   have MD:s.getD m 0≠32:=λh=>fO (by rw[h];rfl)
   have hR:rT (d+1) (s.drop i)=none:=by show ei d _=_;rw[Ce,MB,DJ,sH,fM,iN AG,iN MD];rfl
   refine W ?_
   refine cJ aL rfl rfl rfl bL rfl λeD dd bL vi=>?_
   have hK:=hK.aD dd sx;have fY:=fY.aD dd sx
   refine W ?_
   exact⟨[_,_],⟨fZ eU aL rfl bL rfl,rfl⟩,⟨.mk [] (acc++[t]),_,_,rfl,kU (fY.done.weaken (λx hx=>by simp[hx])),by rw[hR];rfl⟩,hK⟩
   have MD:s.getD m 0=32:=UInt8.toNat_inj.1 (by have Cf:(32:UInt8).toNat=32:=rfl;rw[Cf];omega)
   refine WZ ?_
   exact⟨(acc++[t],m,a2,nB,g2,_),⟨rfl,rfl,rfl,rfl,rfl⟩,⟨hK,bL,dh,fY.more (by intro x hx;exact .inl (by simp at hx⊢;rcases hx with hx|hx|hx<;>simp[hx])),I4,MC,by dsimp only;omega,by simp;omega,om,by rw[sH,fM,iN AG,iP MD,map_append]⟩,by dsimp only;omega⟩
  refine kW [.cell 6 78,.tmp 7] 87 Tryz.func97 rfl Io rfl rfl rfl<|zr<|dx aL rfl rfl rfl λw1 aI bL dk=>?_
  have hK:=hK.grow;have hK:=hK.ext aI
  refine zA<|aZ<|zr<|js (FM _) rfl rfl<|dx aL rfl rfl rfl λw2 az dh dC=>?_
  have hK:=hK.grow;have hK:=hK.ext az;have bL:=bL.grow;have bL:=bL.ext az
  refine cJ aL rfl rfl rfl dh rfl λw3 aH dh gJ=>?_
  have hK:=hK.aD aH sx;have bL:=bL.aD aH sx
  refine W ?_
  apply oP 5 15 20 rfl oQ
  intro _
  exact oQ
  intro xx
  refine aZ<|zc rfl (λh2=>?_) (λh2=>?_)
  have hR:rT (d+1) (s.drop i)=none:=by rw[List.drop_of_length_le om];exact Qo d
  refine W ?_
  refine cJ aL rfl rfl rfl bL rfl λw4 aO bL gQ=>?_
  have hK:=hK.aD aO sx
  refine W ?_
  exact⟨[_,_],⟨fZ eU aL rfl bL rfl,rfl⟩,⟨.mk [] [],_,_,rfl,kU oH,by rw[hR];rfl⟩,hK⟩
  exfalso
  simp at h2
  omega
theorem AH (s:ai) (L:List Nat) (w:World) (hL:∀x,x∈L->x<w.heap.size):
  bz Tryz.prog 64 [str s] w λv w'=>(∃t tv,v= .tuple #[tv,.bool (bA s).isSome]∧bB L w' tv t∧∀t',bA s=some t'->t=t')∧aj [] w w':=by
 have hK:=aj.refl [] w
 refine kW [.cell 2 78,.tmp 3] 20 Tryz.func64 rfl QC rfl rfl rfl ?_
 refine zr<|dx aL rfl rfl rfl λw1 aI aU dk=>?_
 have hK:=hK.grow;have hK:=hK.ext aI
 refine W ?_
 refine zc rfl (λh1=>?_) (λh1=>?_)
 have hp:bA s=none:=by unfold bA;rw[iP om]
 refine zr<|js (FM _) rfl rfl<|cJ aL rfl rfl rfl aU rfl λw2 az aU dC=>?_
 have hK:=hK.aD az sx
 refine W ?_
 exact⟨[_,_],⟨fZ eU aL rfl aU rfl,rfl⟩,⟨.mk [] [],_,by rw[hp];rfl,kU oH,λt' h=>by rw[hp] at h;cases h⟩,hK⟩
 refine gY<|zr<|zm<|aA (aej s om 61 0 (w.heap.size::L) w1 om om (by intro x hx;rcases mC.1 hx with rfl|hx;(·omega);(·have:=hL x hx;omega))) ?_
 rintro v2 w2 ⟨ij,az⟩
 have dm:=az.size
 refine bI az hK aU λhK aU=>?_
 obtain⟨t,tv,en,rfl,ht,hm⟩:=ij
 obtain⟨pa,pn,pc,rfl,eP,aP⟩:=cU ht
 refine W ?_
 refine dx aL rfl rfl rfl λw3 aH aG gJ=>?_
 have hK:=hK.grow;have hK:=hK.ext aH;have aU:=aU.grow;have aU:=aU.ext aH;have ht:=ht.grow;have ht:=ht.ext aH
 refine cJ aL rfl rfl rfl aG rfl λw4 aO aG gQ=>?_
 have hK:=hK.aD aO sx;have aU:=aU.aD aO sx;have ht:=ht.aD aO sx
 refine W ?_
 refine cJ aL rfl rfl rfl aU rfl λw5 aN aU ig=>?_
 have hK:=hK.aD aN sx;have ht:=ht.aD aN sx
 refine W ?_
 have D1:=YX om hm
 exact⟨[_,_],⟨fZ eU aL rfl aU rfl,rfl⟩,⟨t,_,by rw[<-D1.1];rfl,j1.fresh ht (λx hx=>.inl (by simp[hx])),D1.2⟩,hK⟩
theorem I5 (t:aq) (v:Value) (L:List Nat) (w:World) (hv:bB L w v t):bz Tryz.prog 100 [v] w λr w'=>r=str (cw t)∧aj [] w w':=by
 obtain⟨a,n,c,rfl,hn,aP⟩:=cU hv
 have hK:=aj.refl [] w
 refine bS [.tmp 2] 17 Tryz.func100 rfl Y8 rfl rfl ?_
 refine zr<|eH rfl λw1 aI aX dk=>bI aI hK aP λhK aP=>?_
 refine W ?_
 apply oP 5 6 11 rfl oQ
 intro _
 refine WZ ?_
 exact oQ
 intro xx
 refine aZ<|zc rfl (λh2=>?_) (λh2=>?_)
 have hh:cw t=[]:=FT (by simp at h2;rcases h2 with h|h;(·exact .inl h);(·right;subst hn;simpa using h))
 refine W ?_
 exact⟨_,rfl,by rw[hh];rfl,hK⟩
 simp at h2
 have h0:=h2.2
 have aQ:∃p0,t.ak[0]?=some p0:=⟨t.ak[0]'om,gE om⟩
 obtain⟨p0,mz⟩:=aQ
 obtain⟨b,off,pa,pn,pc,rfl,et,eP,fM⟩:=iJ aP mz
 have hh:cw t=p0.aw:=FQ h2.1 mz
 refine WI ?_
 refine zi (i:=0) cz aL rfl rfl (by rw[hn];exact(List.getElem?_eq_some_iff.1 mz).1) ?_
 refine W ?_
 exact⟨_,rfl,by rw[hh];rfl,hK⟩
theorem SS (s:ai) (hs:s.length<9223372036854775807) (w:World):bz Tryz.prog 36 [str s] w λr w'=>r= .bool (nh s)∧w=w':=by
 refine bS [.tmp 2] 39 Tryz.func36 rfl aap rfl rfl ?_
 refine W ?_
 refine eA (λk:Nat=>[(0,str s),(3,.int .i64 (k:Int))]) (λk w'=>w'=w∧k<=s.length∧∀j,j<k->BS s j=true) (λk=>s.length-k) (0) (⟨rfl,rfl⟩) (⟨rfl,om,by intro j hj;omega⟩) λgg w1 e1 hI=>?_
 obtain⟨rfl,hk,cL⟩:=hI
 refine W ?_
 refine zc rfl (λh1=>?_) (λh1=>?_)
 refine W ?_
 refine j3 il rfl rfl rfl rfl (je om)<|WZ ?_
 apply oB 5 14 19 rfl oQ
 intro h2
 refine zm<|zm<|j3 il rfl rfl rfl rfl (je om) ?_
 exact oQ
 intro xx
 refine WZ ?_
 apply oP 15 20 35 rfl oQ
 intro h3
 refine WZ ?_
 apply oB 5 23 28 rfl oQ
 intro h4
 refine zm<|zm<|j3 il rfl rfl rfl rfl (je om) ?_
 exact oQ
 intro xx
 refine WZ ?_
 apply oB 5 29 34 rfl oQ
 intro h5
 refine zm<|zm<|j3 il rfl rfl rfl rfl (je om) ?_
 exact oQ
 intro xx
 exact oQ
 intro xx
 refine kx rfl rfl rfl<|aZ<|zc rfl (λh6=>?_) (λh6=>?_)
 rw[Iy] at h6
 refine W ?_
 exact⟨_,rfl,by rw[QT om h6];rfl,rfl⟩
 rw[Iy] at h6
 refine W ?_
 exact⟨gg+1,⟨rfl,rfl⟩,⟨rfl,om,QV cL h6⟩,om⟩
 refine W ?_
 exact⟨_,rfl,by rw[QU (λj hj=>cL j om)];rfl,rfl⟩
def Gq (s:ai):Value:=.tuple #[.int .i64 ((numeral s).getD 0),.bool (numeral s).isSome]
theorem I6 (s:ai) (w:World):bz Tryz.prog 102 [str s] w λv w'=>v=Gq s∧w=w':=by
 refine bS [.tmp 2,.tmp 3] 57 Tryz.func102 rfl Za rfl rfl ?_
 refine W ?_
 apply oB 4 12 16 rfl oQ
 intro h1
 refine zm<|j3 (i:=0) il rfl rfl rfl rfl (je om) ?_
 exact oQ
 intro xx
 refine W ?_
 refine ix (λ_:Unit=>[(0,str s),(4,.int .i64 (qO s)),(5,str (er s))]) (λ_ w'=>w'=w) ?_ ?_
 refine zc rfl (λh2=>?_) (λh2=>?_)
 have hm:0<s.length∧s.getD 0 0=45:=by have Gs:=QS 45 (s.getD 0 0);simp only[show((45:UInt8).toNat:Int)=45 from rfl] at Gs;rw[Gs] at h2;simpa using h2
 refine W ?_
 refine BE (l:=1) il rfl rfl rfl (.inr ⟨_,rfl⟩) (.inl ⟨rfl,rfl⟩) om om<|zA<|aZ ?_
 exact⟨(),⟨rfl,by rw[qO,iP hm];rfl,by have h1:er s=(s.drop 1).take (s.length-1):=by{rw[er,iP hm,List.take_of_length_le sm]};rw[h1];exact rfl⟩,rfl⟩
 have hm:¬(0<s.length∧s.getD 0 0=45):=by have Gs:=QS 45 (s.getD 0 0);simp only[show((45:UInt8).toNat:Int)=45 from rfl] at Gs;rw[Gs] at h2;simpa using h2
 refine WZ ?_
 exact⟨(),⟨rfl,by rw[qO,iN hm];rfl,by rw[er,iN hm];exact rfl⟩,rfl⟩
 intro gu w1 e1 hI
 obtain rfl:=hI
 refine W ?_
 refine zc rfl (λh3=>?_) (λh3=>?_)
 have hn:numeral s=some 0:=by unfold numeral;rw[iP h3]
 refine W ?_
 exact⟨_,rfl,by unfold Gq;rw[hn];rfl,rfl⟩
 have nQ:=h3
 refine W ?_
 refine aA (Gm _ _ _ _) ?_
 rintro _ _ ⟨rfl,rfl⟩
 refine WZ ?_
 apply oP 4 25 29 rfl oQ
 intro h4
 simp at h4
 refine zm<|j3 (i:=0) il rfl rfl rfl rfl (je om) ?_
 exact oQ
 intro xx
 refine aZ<|zc rfl (λh5=>?_) (λh5=>?_)
 have hn:numeral s=none:=ab4 nQ (ab8 h5)
 refine W ?_
 exact⟨_,rfl,by unfold Gq;rw[hn];rfl,rfl⟩
 have hd:=ab9 h5
 refine W ?_
 refine eA (λk:Nat=>[(4,.int .i64 (qO s)),(5,str (er s)),(6,.int .i64 (val ((er s).take k):Nat)),(7,.int .i64 (k:Int))]) (λk w'=>w'=w1∧k<=(er s).length∧((er s).take k).all gW=true) (λk=>(er s).length-k) (0) (⟨rfl,rfl,rfl,rfl⟩) (⟨rfl,om,sm⟩) λgg w2 e2 hI=>?_
 obtain⟨rfl,hk,cL⟩:=hI
 refine W ?_
 refine zc rfl (λh6=>?_) (λh6=>?_)
 have dU:gg<(er s).length:=by omega
 have hv:=QQ _ cL
 have ij:val ((er s).take gg)<100:=lL hv (Nat.le_trans (Nat.pow_le_pow_right om (show((er s).take gg).length<=2 by simp;omega)) de)
 clear hv
 refine W ?_
 refine j3 il rfl rfl rfl rfl (je dU)<|WZ ?_
 apply oP 5 40 45 rfl oQ
 intro _
 refine zm<|zm<|j3 il rfl rfl rfl rfl (je dU) ?_
 exact oQ
 intro xx
 refine aZ<|zc rfl (λh8=>?_) (λh8=>?_)
 have hn:numeral s=none:=ab5 nQ dU (QX h8)
 refine W ?_
 exact⟨_,rfl,by unfold Gq;rw[hn];rfl,rfl⟩
 have hc:=QY h8
 have bK:=hc.1
 have bU:=hc.2.1
 refine W ?_
 refine j3 il rfl rfl rfl rfl (je dU)<|xK rfl rfl rfl rfl rfl (wrap_u8 _ om om)<|xL xQ wj rfl rfl rfl (wrap_i64 _ om om)<|W ?_
 exact⟨gg+1,⟨rfl,rfl,by rw[Lt dU,QP];show Value.int _ _=Value.int _ _;congr 1;omega,rfl⟩,⟨rfl,om,by rw[Lt dU,List.all_append,cL];simp only[List.all_cons,hc.2.2];rfl⟩,om⟩
 have fG:(er s).take gg=er s:=List.take_of_length_le om
 rw[fG] at cL
 have hv:=QQ _ cL
 have ij:val (er s)<1000:=lL hv (Nat.le_trans (Nat.pow_le_pow_right om hd.2.1) de)
 clear hv
 rw[fG]
 have cV:=ab7 s
 have hmul: -1000<qO s*(val (er s):Int)∧qO s*(val (er s):Int)<1000:=by rcases cV with h|h<;>rw[h]<;>omega
 refine W ?_
 exact⟨_,rfl,by unfold Gq;rw[ab6 nQ hd cL];rfl,rfl⟩
theorem aem (t:aq) (v:Value) (L:List Nat) (w:World) (hv:bB L w v t):bz Tryz.prog 138 [v] w λr w'=>r= .int .i64 (zK t.aw)∧aj [] w w':=by
 obtain⟨a,n,c,rfl,hn,aP⟩:=cU hv
 have hK:=aj.refl [] w
 refine bS [.tmp 2] 19 Tryz.func138 rfl ZG rfl rfl ?_
 refine zr<|eH rfl λw1 aI aX dk=>?_
 have hK:=hK.ext aI
 refine W ?_
 refine aA (I6 _ _) ?_
 rintro _ _ ⟨rfl,rfl⟩
 refine W ?_
 apply oP 4 13 17 rfl oQ
 intro _
 refine zm<|aA (Gm _ _ _ _) ?_
 rintro _ _ ⟨rfl,rfl⟩
 exact oQ
 intro xx
 refine aZ<|zc rfl (λh2=>?_) (λh2=>?_)
 have hr:zK t.aw= -1:=by unfold zK;cases hn:numeral t.aw with|none=>rfl|some k=>rw[hn] at h2;simp at h2;exact iN om
 refine W ?_
 exact⟨_,rfl,by rw[hr];rfl,hK⟩
 have hr:zK t.aw=(numeral t.aw).getD 0:=by unfold zK;cases hn:numeral t.aw with|none=>rw[hn] at h2;simp at h2|some k=>rw[hn] at h2;simp at h2;exact iP om
 refine W ?_
 exact⟨_,rfl,by rw[hr];rfl,hK⟩
theorem ME:∀(m:Nat) (t:aq),t.size<=m->t.size<=100000->WF t->∀(hidden:Bool) (v:Value) (L:List Nat) (w:World),bB L w v t->
  bz Tryz.prog 65 [v,.bool hidden,.bool false] w λr w'=>r= .bool (fa hidden t)∧aj [] w w':=by
 intro m
 induction m with
 |zero=>intro t h;cases t;simp[aq.size] at h
 |succ m ih=>
  intro t hm rH cm hidden v L w hv
  obtain⟨a,n,c,rfl,hn,aP⟩:=cU hv
  have hK:=aj.refl [] w
  have nZ:=wm t
  refine bS [.tmp 6] 72 Tryz.func65 rfl aaT rfl rfl ?_
  refine zr<|eH rfl λw1 aI cQ dk=>bI aI hK aP λhK aP=>?_
  refine W ?_
  refine zc rfl (λh1=>?_) (λh1=>?_)
  refine WZ ?_
  apply oP 7 15 22 rfl oQ
  intro _
  refine WZ ?_
  apply oB 4 17 21 rfl oQ
  intro _
  refine WZ ?_
  exact oQ
  intro xx
  exact oQ
  intro xx
  refine WZ ?_
  apply oP 7 23 30 rfl oQ
  intro _
  refine zm<|zm<|Fu (t:=25) (b:=false) rfl ?_
  exact oQ
  intro xx
  refine W ?_
  exact⟨_,rfl,show Value.bool _=Value.bool _ from congrArg _ (by rw[Q2 h1,Bool.or_false]),hK⟩
  have ha:t.aw=[]:=Classical.not_not.1 h1
  have j8:=cm.pos ha
  have mz:=gh j8
  obtain⟨b,off,pa,pn,pc,rfl,et,eP,fM⟩:=iJ aP mz
  refine WI ?_
  refine zi (i:=0) cz aL rfl rfl (by rw[hn];exact j8)<|W ?_
  refine zc rfl (λh5=>?_) (λh5=>?_)
  refine WZ ?_
  apply oA 7 42 49 (aj [] w1) rfl oQ
  intro h6
  have hlen:t.ak.length=2:=by omega
  have mB:=gh (ps:=t.ak) (i:=1) om
  obtain⟨b1,eX,gA,qZ,gm,aX,bK,sJ,oY⟩:=iJ aP mB
  cases aX
  refine zf jt rfl<|zl iC rfl (cQ.at rfl)<|zi (i:=1) cz aL rfl rfl om<|zL eU aL rfl bK rfl<|zm<|aA (ih (nth t.ak 1) (by have:=kY (t:=t) (i:=1) om;omega) (by have:=kY (t:=t) (i:=1) om;omega) (cm.nth om) true _ L w1 (kV oY)) ?_
  rintro _ w2 ⟨rfl,az⟩
  have dm:=az.size
  exact oQ
  intro xx w2 az
  have hK:=hK.ext az
  refine zA<|aZ<|jZ<|⟨_,rfl,show Value.bool _=Value.bool _ from congrArg _ ?_,hK⟩
  rw[Ly ha j8 h5]
  congr 1
  exact decide_eq_decide.2 om
  have dL:=h5
  refine WZ ?_
  apply oB 3 52 55 rfl oQ
  intro _
  exact oQ
  intro xx
  refine aZ<|zc rfl (λh8=>?_) (λh8=>?_)
  have hb:=Q3 ha j8 dL (ach h8)
  refine W ?_
  exact⟨_,rfl,by rw[hb];rfl,hK⟩
  have tL:(nth t.ak 0).aw=[116]∨(nth t.ak 0).aw=[99]:=acg h8
  refine W ?_
  refine eA (λk:Nat=>[(3,.pointer (some ⟨w.heap.size,0,none⟩)),(1,.bool hidden),(2,.bool false),(8,.int .i64 (k:Int))]) (λk w'=>aj [] w w'∧aj [] w1 w'∧1<=k∧k<=t.ak.length∧(t.ak.drop 1).all (fa hidden)=(t.ak.drop k).all (fa hidden)) (λk=>t.ak.length-k) (1) (⟨rfl,rfl,rfl,rfl⟩) (⟨hK,aj.refl [] _,om,om,rfl⟩) λgg w2 e2 hI=>?_
  obtain⟨hK,aI,hk,fb,cL⟩:=hI
  refine bI aI aP cQ λaP cQ=>?_
  refine W ?_
  refine zc rfl (λh9=>?_) (λh9=>?_)
  have hp:=gh (ps:=t.ak) (i:=gg) om
  obtain⟨b1,eX,gA,qZ,gm,aX,bK,sJ,oY⟩:=iJ aP hp
  cases aX
  refine W ?_
  refine aA (ih (nth t.ak gg) (by have:=kY (t:=t) (i:=gg) om;omega) (by have:=kY (t:=t) (i:=gg) om;omega) (cm.nth om) hidden _ L w2 (kV oY)) ?_
  rintro _ w3 ⟨rfl,aH⟩
  have fm:=aH.size
  refine bI aH hK aI λhK aI=>?_
  refine kx rfl rfl rfl<|aZ<|zc rfl (λfO=>?_) (λfO=>?_)
  have hb:fa hidden t=false:=by rw[Lz ha j8 tL,cL,Q4 om,fO];rfl
  refine W ?_
  exact⟨_,rfl,by rw[hb];rfl,hK⟩
  refine W ?_
  exact⟨gg+1,⟨rfl,rfl,rfl,rfl⟩,⟨hK,aI,om,om,by rw[cL,Q4 om,fO];rfl⟩,om⟩
  have hb:fa hidden t=true:=by rw[Lz ha j8 tL,cL,List.drop_of_length_le om];rfl
  refine W ?_
  exact⟨_,rfl,by rw[hb];rfl,hK⟩

theorem aen (t:aq) (hs:t.size<=100000) (cm:WF t) (z:Int) (v:Value) (L:List Nat) (w:World) (hv:bB L w v t):
  bz Tryz.prog 101 [v,.int .u8 z] w λr w'=>r= .bool (iT z t)∧aj [] w w':=by
 have cO:=hv
 obtain⟨a,n,c,rfl,hn,aP⟩:=cU hv
 have hK:=aj.refl [] w
 have Ch:=xR t
 refine bS [.tmp 4] 39 Tryz.func101 rfl Y9 rfl rfl ?_
 refine zr<|eH rfl λw1 aI aU dk=>bI aI hK cO λhK cO=>?_
 refine W ?_
 refine ix (λ_:Unit=>[(2,.pointer (some ⟨w.heap.size,0,none⟩)),(7,.int .u8 z),(8,.bool (decide (z=114)||decide (z=42)))]) (λ_ w'=>w'=w1) ?_ ?_
 refine zc rfl (λh1=>?_) (λh1=>?_)
 refine WZ ?_
 exact⟨(),⟨rfl,rfl,congrArg Value.bool (zM h1)⟩,rfl⟩
 refine W ?_
 exact⟨(),⟨rfl,rfl,congrArg Value.bool (zN h1)⟩,rfl⟩
 intro gu w2 e2 hI
 obtain rfl:=hI
 refine zc rfl (λh2=>?_) (λh2=>?_)
 have hc:=zO h2
 refine W ?_
 refine aA (aem t _ L w2 cO) ?_
 rintro _ w3 ⟨rfl,aH⟩
 have fm:=aH.size
 have hK:=hK.ext aH
 refine W ?_
 exact⟨_,rfl,show Value.bool _=Value.bool _ from congrArg _ (by rw[iT,iP hc];rfl),hK⟩
 have hc:=zP h2
 refine W ?_
 refine zc rfl (λh3=>?_) (λh3=>?_)
 have bK:=h3
 refine W ?_
 refine aA (I6 _ _) ?_
 rintro _ _ ⟨rfl,rfl⟩
 refine W ?_
 exact⟨_,rfl,show Value.bool _=Value.bool _ from congrArg _ (by rw[iT,iN hc,iP bK]),hK⟩
 have bK:=h3
 refine W ?_
 refine zc rfl (λh4=>?_) (λh4=>?_)
 have bU:=h4
 refine W ?_
 refine aA (SS _ om _) ?_
 rintro _ _ ⟨rfl,rfl⟩
 refine W ?_
 exact⟨_,rfl,show Value.bool _=Value.bool _ from congrArg _ (by rw[iT,iN hc,iN bK,iP bU]),hK⟩
 have bU:=h4
 refine W ?_
 refine zc rfl (λh5=>?_) (λh5=>?_)
 have dO:=h5
 refine W ?_
 refine aA (I5 t _ L w2 cO) ?_
 rintro _ w3 ⟨rfl,aH⟩
 have fm:=aH.size
 refine cN aH hK cO aU λhK cO aU=>?_
 refine WZ ?_
 apply oA 3 33 36 (aj [] w3) rfl oQ
 intro _
 refine W ?_
 refine aA (ME t.size t (lR _) hs cm false _ L w3 cO) ?_
 rintro _ w4 ⟨rfl,aO⟩
 have fE:=aO.size
 exact oQ
 intro xx w4 aO
 have hK:=hK.ext aO
 refine W ?_
 exact⟨_,rfl,show Value.bool _=Value.bool _ from congrArg _ (by rw[iT,iN hc,iN bK,iN bU,iP dO]),hK⟩
 have dO:=h5
 refine W ?_
 refine aA (ME t.size t (lR _) hs cm false _ L w2 cO) ?_
 rintro _ w3 ⟨rfl,aH⟩
 have fm:=aH.size
 have hK:=hK.ext aH
 refine W ?_
 exact⟨_,rfl,show Value.bool _=Value.bool _ from congrArg _ (by rw[iT,iN hc,iN bK,iN bU,iN dO]),hK⟩
theorem aeo (h:ai) (w:World):bz Tryz.prog 99 [str h] w λr w'=>r=str (shapeOf h)∧w=w':=by
 refine bS [.tmp 2] 25 Tryz.func99 rfl abp rfl rfl ?_
 refine W ?_
 refine zc rfl (λh1=>?_) (λh1=>?_)
 have hc:=h1
 refine W ?_
 exact⟨_,rfl,show str _=str _ from congrArg _ (by rw[shapeOf,iP hc]),rfl⟩
 have hc:=h1
 refine W ?_
 refine ix (λ_:Unit=>[(3,str h),(6,.bool (decide (h=[109,111,118])||decide (h=[111,112,101,110])))]) (λ_ w'=>w'=w) ?_ ?_
 refine zc rfl (λh2=>?_) (λh2=>?_)
 refine WZ ?_
 exact⟨(),⟨rfl,congrArg Value.bool (zM h2)⟩,rfl⟩
 refine W ?_
 exact⟨(),⟨rfl,congrArg Value.bool (zN h2)⟩,rfl⟩
 intro gu w1 e1 hI
 obtain rfl:=hI
 refine zc rfl (λh3=>?_) (λh3=>?_)
 have bK:=zO h3
 refine W ?_
 exact⟨_,rfl,show str _=str _ from congrArg _ (by rw[shapeOf,iN hc,iP bK]),rfl⟩
 have bK:=zP h3
 refine W ?_
 refine ix (λ_:Unit=>[(3,str h),(9,.bool (decide (h=[97,100,100])||decide (h=[115,117,98])||decide (h=[109,117,108])))]) (λ_ w'=>w'=w1) ?_ ?_
 refine zc rfl (λh4=>?_) (λh4=>?_)
 refine WZ ?_
 exact⟨(),⟨rfl,congrArg Value.bool (Q7 h4)⟩,rfl⟩
 have fx:=h4
 refine W ?_
 refine zc rfl (λh5=>?_) (λh5=>?_)
 refine WZ ?_
 exact⟨(),⟨rfl,congrArg Value.bool (Q8 fx h5)⟩,rfl⟩
 refine W ?_
 exact⟨(),⟨rfl,congrArg Value.bool (Q9 fx h5)⟩,rfl⟩
 intro gu w2 e2 hI
 obtain rfl:=hI
 refine zc rfl (λh6=>?_) (λh6=>?_)
 have bU:=Ra h6
 refine W ?_
 exact⟨_,rfl,show str _=str _ from congrArg _ (by rw[shapeOf,iN hc,iN bK,iP bU]),rfl⟩
 have bU:=Rb h6
 refine W ?_
 refine zc rfl (λh7=>?_) (λh7=>?_)
 have dO:=h7
 refine W ?_
 exact⟨_,rfl,show str _=str _ from congrArg _ (by rw[shapeOf,iN hc,iN bK,iN bU,iP dO]),rfl⟩
 have dO:=h7
 refine W ?_
 refine zc rfl (λh8=>?_) (λh8=>?_)
 have jx:=h8
 refine W ?_
 exact⟨_,rfl,show str _=str _ from congrArg _ (by rw[shapeOf,iN hc,iN bK,iN bU,iN dO,iP jx]),rfl⟩
 have jx:=h8
 refine W ?_
 refine ix (λ_:Unit=>[(3,str h),(17,.bool (decide (h=[108,97,98])||decide (h=[122,101,114,111])))]) (λ_ w'=>w'=w2) ?_ ?_
 refine zc rfl (λh9=>?_) (λh9=>?_)
 refine WZ ?_
 exact⟨(),⟨rfl,congrArg Value.bool (zM h9)⟩,rfl⟩
 refine W ?_
 exact⟨(),⟨rfl,congrArg Value.bool (zN h9)⟩,rfl⟩
 intro gu w3 e3 hI
 obtain rfl:=hI
 refine zc rfl (λfO=>?_) (λfO=>?_)
 have j9:=zO fO
 refine W ?_
 exact⟨_,rfl,show str _=str _ from congrArg _ (by rw[shapeOf,iN hc,iN bK,iN bU,iN dO,iN jx,iP j9]),rfl⟩
 have j9:=zP fO
 refine W ?_
 refine zc rfl (λoU=>?_) (λoU=>?_)
 have qq:=oU
 refine W ?_
 exact⟨_,rfl,show str _=str _ from congrArg _ (by rw[shapeOf,iN hc,iN bK,iN bU,iN dO,iN jx,iN j9,iP qq]),rfl⟩
 have qq:=oU
 refine W ?_
 refine ix (λ_:Unit=>[(3,str h),(22,.bool (decide (h=[106,117,109,112])||decide (h=[104,97,108,116])))]) (λ_ w'=>w'=w3) ?_ ?_
 refine zc rfl (λkC=>?_) (λkC=>?_)
 refine WZ ?_
 exact⟨(),⟨rfl,congrArg Value.bool (zM kC)⟩,rfl⟩
 refine W ?_
 exact⟨(),⟨rfl,congrArg Value.bool (zN kC)⟩,rfl⟩
 intro gu w4 e4 hI
 obtain rfl:=hI
 refine zc rfl (λoV=>?_) (λoV=>?_)
 have AI:=zO oV
 refine W ?_
 exact⟨_,rfl,show str _=str _ from congrArg _ (by rw[shapeOf,iN hc,iN bK,iN bU,iN dO,iN jx,iN j9,iN qq,iP AI]),rfl⟩
 have AI:=zP oV
 refine W ?_
 exact⟨_,rfl,show str _=str _ from congrArg _ (by rw[shapeOf,iN hc,iN bK,iN bU,iN dO,iN jx,iN j9,iN qq,iN AI]),rfl⟩
theorem SU (t:aq) (hs:t.size<=100000) (cm:WF t) (v:Value) (L:List Nat) (w:World) (hv:bB L w v t):
  bz Tryz.prog 66 [v] w λr w'=>r= .bool (lr t)∧aj [] w w':=by
 have cO:=hv
 obtain⟨a,n,c,rfl,hn,aP⟩:=cU hv
 have hK:=aj.refl [] w
 have Ch:=wm t
 have nC:=acm (cw t)
 refine bS [.tmp 2] 67 Tryz.func66 rfl aaU rfl rfl ?_
 refine zr<|eH rfl λw1 aI aX dk=>cN aI hK aP cO λhK aP cO=>?_
 refine W ?_
 refine aA (I5 t _ L w1 cO) ?_
 rintro _ w2 ⟨rfl,az⟩
 have dm:=az.size
 refine cN az hK aP aX λhK aP aX=>?_
 refine aA (aeo _ _) ?_
 rintro _ _ ⟨rfl,rfl⟩
 refine W ?_
 refine zc rfl (λh1=>?_) (λh1=>?_)
 refine W ?_
 exact⟨_,rfl,by rw[Rd h1];rfl,hK⟩
 have dL:=h1
 refine WZ ?_
 apply oB 8 14 22 rfl oQ
 intro h2
 refine WZ ?_
 exact oQ
 intro xx
 refine WZ ?_
 apply oP 5 23 28 rfl oQ
 intro _
 refine WZ ?_
 exact oQ
 intro xx
 refine aZ<|zc rfl (λh4=>?_) (λh4=>?_)
 have hb:=(Rc hn).symm.trans h4
 refine W ?_
 exact⟨_,rfl,by rw[LC hb];rfl,hK⟩
 have hb:=(Rc hn).symm.trans h4
 have h2:=ack hb
 have qf:=LB dL
 refine W ?_
 refine eA (λk:Nat=>[(1,.pointer (some ⟨w.heap.size,0,none⟩)),(3,str (shapeOf (cw t))),(4,.int .i64 (k:Int))]) (λk w'=>aj [] w w'∧aj [] w2 w'∧1<=k∧k<=t.ak.length∧∀i,i<k->1<=i->tI t i=true) (λk=>t.ak.length-k) (1) (⟨rfl,rfl,rfl⟩) (⟨hK,aj.refl [] _,om,om,by intro i hi h1;omega⟩) λgg w3 e3 hI=>?_
 obtain⟨hK,aI,hk,fb,cL⟩:=hI
 refine bI aI aP aX λaP aX=>?_
 refine W ?_
 refine zc rfl (λh5=>?_) (λh5=>?_)
 have hp:=gh (ps:=t.ak) (i:=gg) om
 obtain⟨b,off,pa,pn,pc,rfl,hc,eP,fM⟩:=iJ aP hp
 have mY:=List.length_pos_iff.2 dL
 refine WZ ?_
 apply k8 dj 14 (rA 36 14) (rA 36 14) [[],[0],[],[1,2],[3],[],[],[],[7],[6,8],[9],[5,10],[4,11],[12]] [It.v _,It.v _,It.v _,It.v _,It.v _,It.v _,It.v _,It.v _,It.v _,It.v _,It.v _,It.v _,It.v _,It.v (.bool (!tI t gg))] de rfl
 intro wd aC
 refine VA ?_
 refine vk aC (λx w4 aO=>?_) ?_
 refine Y4 rfl rfl rfl rfl (show(if((shapeOf (cw t)).length:Int)<(gg:Int) then((shapeOf (cw t)).length:Int) else(gg:Int))=((min gg (shapeOf (cw t)).length:Nat):Int) from by split<;>omega) ?_
 exact pv
 refine vk aC (λx w4 aO=>?_) ?_
 refine xK rfl rfl rfl rfl rfl (show IntKind.i64.wrap (((min gg (shapeOf (cw t)).length:Nat):Int)-1)=((min gg (shapeOf (cw t)).length-1:Nat):Int) from by rw[wrap_i64 _ om om];omega) ?_
 exact pv
 refine vk aC (λx w4 aO=>?_) ?_
 refine j3 il rfl rfl rfl rfl (je om) ?_
 exact pv
 refine vk aC (λx w4 aO=>?_) ?_
 have fM:=fM.ext aO
 refine aA (aen (nth t.ak gg) (by have:=kY (t:=t) (i:=gg) om;omega) (cm.nth om) _ _ L w4 (kV fM)) ?_
 rintro _ w5 ⟨rfl,aN⟩
 have l3:=aN.size
 exact pk aN
 exact VZ
 intro x oZ jy
 refine bI jy hK aI λhK aI=>?_
 change OW _ _ _ _ [] (bo (bj _ x _) (zZ 36 [_,_,_,_,_,_,_,_,_,_,_,_,_,_])) _
 refine aZ<|zc rfl (λh6=>?_) (λh6=>?_)
 have hq:tI t gg=false:=by simpa using h6
 refine W ?_
 exact⟨_,rfl,by rw[acn om hk hq];rfl,hK⟩
 have hq:tI t gg=true:=by simpa using h6
 refine W ?_
 exact⟨gg+1,⟨rfl,rfl,rfl⟩,⟨hK,aI,om,om,by intro i hi h1;rcases Nat.lt_or_ge i gg with h|h;exact cL i h h1;rw[show i=gg by omega];exact hq⟩,om⟩
 have aU:=aco dL hb (λi hi=>cL i om)
 have mz:=gh qf.2.1
 obtain⟨b,off,pa,pn,pc,rfl,et,eP,fM⟩:=iJ aP mz
 refine WI ?_
 refine zi (i:=0) cz aL rfl rfl (by rw[hn];exact qf.2.1)<|W ?_
 refine zc rfl (λh7=>?_) (λh7=>?_)
 have hg:cw t=[103,101,116]:=qf.2.2.trans h7
 have Ci:=acj hb hg
 have Eg:=gh (ps:=t.ak) (i:=3) om
 obtain⟨b1,eX,gA,qZ,gm,fH,bK,sJ,oY⟩:=iJ aP Eg
 cases fH
 refine zr<|zf jt rfl<|zl iC rfl (aX.at rfl)<|zi (i:=3) cz aL rfl rfl om<|zf kX rfl<|zl gD rfl (bK 0 _ rfl)<|aA (I6 _ _) ?_
 rintro _ _ ⟨rfl,rfl⟩
 refine W ?_
 exact⟨_,rfl,show Value.bool _=Value.bool _ from congrArg _ (by rw[aU,show decide (cw t≠[103,101,116])=false from dF (λh=>h hg),Bool.false_or]),hK⟩
 have hg:cw t≠[103,101,116]:=λh=>h7 (qf.2.2.symm.trans h)
 refine W ?_
 exact⟨_,rfl,by rw[aU,dT hg];rfl,hK⟩
theorem aep (s:ai) (w:World):bz Tryz.prog 37 [str s] w λr w'=>r= .bool (sq s)∧aj [] w w':=by
 have hK:=aj.refl [] w
 refine bS [.tmp 2] 15 Tryz.func37 rfl aaq rfl rfl ?_
 refine W ?_
 refine aA (AH s [] w sm) ?_
 rintro v1 w1 ⟨fX,aI⟩
 have cV:=aI.size
 have hK:=hK.ext aI
 obtain⟨t,tv,rfl,ht,rL⟩:=fX
 obtain⟨pa,pn,pc,rfl,eP,aP⟩:=cU ht
 refine W ?_
 refine dx aL rfl rfl rfl λw2 az cQ dC=>?_
 have hK:=hK.grow;have hK:=hK.ext az;have ht:=ht.grow;have ht:=ht.ext az
 refine cJ aL rfl rfl rfl cQ rfl λw3 aH cQ gJ=>?_
 have hK:=hK.aD aH sx;have ht:=ht.aD aH sx
 refine W ?_
 apply oA 3 11 14 (aj [] w3) rfl oQ
 intro h1
 obtain⟨t',nP⟩:=Option.isSome_iff_exists.1 h1
 have x5:=rL t' nP
 have cm:=tH nP
 have fC:=zJ nP
 rw[<-x5] at cm fC
 refine W ?_
 refine aA (ME t.size t (lR _) om cm false _ _ w3 ht) ?_
 rintro _ w4 ⟨rfl,aO⟩
 have fE:=aO.size
 exact oQ
 intro xx w4 aO
 have hK:=hK.ext aO
 refine W ?_
 exact⟨_,rfl,show Value.bool _=Value.bool _ from congrArg _ (Iz rL),hK⟩
theorem Gt (s:ai) (w:World):bz Tryz.prog 38 [str s] w λr w'=>r= .bool (sr s)∧aj [] w w':=by
 have hK:=aj.refl [] w
 refine bS [.tmp 2] 15 Tryz.func38 rfl aar rfl rfl ?_
 refine W ?_
 refine aA (AH s [] w sm) ?_
 rintro v1 w1 ⟨fX,aI⟩
 have cV:=aI.size
 have hK:=hK.ext aI
 obtain⟨t,tv,rfl,ht,rL⟩:=fX
 obtain⟨pa,pn,pc,rfl,eP,aP⟩:=cU ht
 refine W ?_
 refine dx aL rfl rfl rfl λw2 az cQ dC=>?_
 have hK:=hK.grow;have hK:=hK.ext az;have ht:=ht.grow;have ht:=ht.ext az
 refine cJ aL rfl rfl rfl cQ rfl λw3 aH cQ gJ=>?_
 have hK:=hK.aD aH sx;have ht:=ht.aD aH sx
 refine W ?_
 apply oA 3 11 14 (aj [] w3) rfl oQ
 intro h1
 obtain⟨t',nP⟩:=Option.isSome_iff_exists.1 h1
 have x5:=rL t' nP
 have cm:=tH nP
 have fC:=zJ nP
 rw[<-x5] at cm fC
 refine W ?_
 refine aA (SU t om cm _ _ w3 ht) ?_
 rintro _ w4 ⟨rfl,aO⟩
 have fE:=aO.size
 exact oQ
 intro xx w4 aO
 have hK:=hK.ext aO
 refine W ?_
 exact⟨_,rfl,show Value.bool _=Value.bool _ from congrArg _ (Iz rL),hK⟩
theorem I7 (s:ai) (w:World):bz Tryz.prog 39 [str s] w λr w'=>r= .bool (DO s)∧aj [] w w':=by
 have hK:=aj.refl [] w
 refine bS [.tmp 2] 31 Tryz.func39 rfl aas rfl rfl ?_
 refine W ?_
 refine aA (AH s [] w sm) ?_
 rintro v1 w1 ⟨fX,aI⟩
 have cV:=aI.size
 have hK:=hK.ext aI
 obtain⟨t,tv,rfl,ht,rL⟩:=fX
 obtain⟨pa,pn,pc,rfl,eP,aP⟩:=cU ht
 refine W ?_
 refine dx aL rfl rfl rfl λw2 az cQ dC=>?_
 have hK:=hK.grow;have hK:=hK.ext az;have ht:=ht.grow;have ht:=ht.ext az;have aP:=aP.grow;have aP:=aP.ext az
 refine cJ aL rfl rfl rfl cQ rfl λw3 aH cQ gJ=>?_
 have hK:=hK.aD aH sx;have ht:=ht.aD aH sx;have aP:=aP.aD aH sx
 refine W ?_
 apply oA 3 11 14 (aj [] w3) rfl oQ
 intro h1
 obtain⟨t',nP⟩:=Option.isSome_iff_exists.1 h1
 have x5:=rL t' nP
 have cm:=tH nP
 have fC:=zJ nP
 rw[<-x5] at cm fC
 refine W ?_
 refine aA (SU t om cm _ _ w3 ht) ?_
 rintro _ w4 ⟨rfl,aO⟩
 have fE:=aO.size
 exact oQ
 intro xx w4 aO
 refine cN aO hK aP cQ λhK aP cQ=>?_
 refine WZ ?_
 apply oB 15 15 30 rfl oQ
 intro h2
 simp only[aE] at h2
 have hq:=acp h2.2
 have mz:=gh hq
 obtain⟨b,off,x6,pn0,ya,rfl,et,an8,fM⟩:=iJ aP mz
 refine WI ?_
 refine zi (i:=0) cz aL rfl rfl (by rw[eP];exact hq)<|WZ ?_
 apply oP 7 22 29 rfl oQ
 intro _
 refine WI ?_
 refine zi (i:=0) cz aL rfl rfl (by rw[eP];exact hq)<|WZ ?_
 exact oQ
 intro xx
 exact oQ
 intro xx
 refine W ?_
 exact⟨_,rfl,show Value.bool _=Value.bool _ from congrArg _ (by rw[Bool.and_assoc];exact Iz (f:=IA) rL),hK⟩
theorem aeq (bs:List Bk) (hb:bs.length<9223372036854775807) (l:ai) (v:Value) (L:List Nat) (w:World) (hv:nR L w v bs):
  bz Tryz.prog 20 [v,str l] w λr w'=>r= .int .i64 (oJ bs l)∧w=w':=by
 obtain⟨a,n,c,rfl,hn⟩:=zQ hv
 refine bS [.tmp 4] 20 Tryz.func20 rfl Z8 rfl rfl ?_
 refine W ?_
 refine eA (λk:Nat=>[(0,.slice a n c),(1,str l),(5,.int .i64 (k:Int))]) (λk w'=>w'=w∧k<=bs.length∧∀i,i<k->(bR bs i).aM≠l) (λk=>bs.length-k) (0) (⟨rfl,rfl,rfl⟩) (⟨rfl,om,by intro i hi;omega⟩) λgg w1 e1 hI=>?_
 obtain⟨rfl,hk,cL⟩:=hI
 refine W ?_
 refine zc rfl (λh1=>?_) (λh1=>?_)
 have hg:=pC (bs:=bs) (i:=gg) om
 obtain⟨b,off,a1,n1,c1,a2,n2,c2,rfl,hc,fx,eV,cV,dm⟩:=BU hv hg
 refine W ?_
 refine zc rfl (λh2=>?_) (λh2=>?_)
 have hf:=Rh om cL h2
 refine W ?_
 exact⟨_,rfl,by rw[hf];rfl,rfl⟩
 refine W ?_
 exact⟨gg+1,⟨rfl,rfl,rfl⟩,⟨rfl,om,by intro i hi;rcases Nat.lt_or_ge i gg with h|h;exact cL i h;rw[show i=gg by omega];exact h2⟩,om⟩
 have hf:=acr (λi hi=>cL i om)
 refine W ?_
 exact⟨_,rfl,by rw[hf];rfl,rfl⟩
theorem aer (k:Bk) (hl:k.aM.length<1000000000) (fx:k.bY.length<1000000000) (eV:k.code.length<1000000000) (v:Value) (L:List Nat) (w:World) (hv:qP L w v k):
  bz Tryz.prog 19 [v] w λr w'=>r= .bool (lY k)∧aj [] w w':=by
 obtain⟨a1,n1,c1,a2,n2,c2,rfl,oW,mo,cV,dm⟩:=DP hv
 have hK:=aj.refl [] w
 refine bS [.tmp 2] 65 Tryz.func19 rfl Z7 rfl rfl ?_
 refine zr<|eH rfl λw1 aI aX dk=>cN aI hK cV dm λhK cV dm=>?_
 refine W ?_
 refine aA (SS _ om _) ?_
 rintro _ _ ⟨rfl,rfl⟩
 refine WZ ?_
 apply oP 5 9 14 rfl oQ
 intro _
 refine WZ ?_
 exact oQ
 intro xx
 refine WZ ?_
 apply oP 6 15 21 rfl oQ
 intro _
 refine W ?_
 refine aA (Gm _ _ _ _) ?_
 rintro _ _ ⟨rfl,rfl⟩
 exact oQ
 intro xx
 refine aZ<|zc rfl (λh3=>?_) (λh3=>?_)
 rw[ID oW mo] at h3
 have hb:=Ri (b:=k) (Q6 h3)
 refine W ?_
 exact⟨_,rfl,by rw[hb];rfl,hK⟩
 rw[ID oW mo] at h3
 have hb:(nh k.aM&&decide (k.bY.length<=40)&&(decide (1<=k.code.length)&&decide (k.code.length<=80)))=true:=Q5 h3
 refine W ?_
 refine eA (λi:Nat=>[(1,.pointer (some ⟨w.heap.size,0,none⟩)),(3,.int .i64 (i:Int))]) (λi w'=>aj [] w w'∧aj [] w1 w'∧i<=k.bY.length∧∀j,j<i->sq (bX k.bY j)=true) (λi=>k.bY.length-i) (0) (⟨rfl,rfl⟩) (⟨hK,aj.refl [] _,om,by intro i hi;omega⟩) λgg w2 e2 hI=>?_
 obtain⟨hK,aI,hk,cL⟩:=hI
 refine cN aI cV dm aX λcV dm aX=>?_
 refine W ?_
 refine zc rfl (λh4=>?_) (λh4=>?_)
 have hg:=km (xs:=k.bY) (i:=gg) om
 obtain⟨b,off,rfl,hc⟩:=pB cV hg
 refine W ?_
 refine aA (aep _ w2) ?_
 rintro _ w3 ⟨rfl,aH⟩
 have fm:=aH.size
 refine bI aH hK aI λhK aI=>?_
 refine kx rfl rfl rfl<|aZ<|zc rfl (λh5=>?_) (λh5=>?_)
 have hq:=Rj (b:=k) (i:=gg) om (by simpa using h5)
 refine W ?_
 exact⟨_,rfl,by rw[hq];rfl,hK⟩
 refine W ?_
 exact⟨gg+1,⟨rfl,rfl⟩,⟨hK,aI,om,by intro i hi;rcases Nat.lt_or_ge i gg with h|h;exact cL i h;rw[show i=gg by omega];simpa using h5⟩,om⟩
 have MF:∀i,i<k.bY.length->sq (bX k.bY i)=true:=λi hi=>cL i om
 clear cL aI hk
 refine W ?_
 refine eA (λi:Nat=>[(1,.pointer (some ⟨w.heap.size,0,none⟩)),(4,.int .i64 (i:Int))]) (λi w'=>aj [] w w'∧aj [] w2 w'∧i<=k.code.length∧∀j,j<i->rF k.code j=true) (λi=>k.code.length-i) (0) (⟨rfl,rfl⟩) (⟨hK,aj.refl [] _,om,by intro i hi;omega⟩) λgg w3 e3 hI=>?_
 obtain⟨hK,aI,hk,cL⟩:=hI
 refine bI aI dm aX λdm aX=>?_
 refine W ?_
 refine zc rfl (λh6=>?_) (λh6=>?_)
 have hg:=km (xs:=k.code) (i:=gg) om
 obtain⟨b,off,rfl,hc⟩:=pB dm hg
 refine W ?_
 refine D8 [43,44,45,46,47,48,49,50,51,52,53,54,55,56,57,58,59,60,61,62,63,64] [(64,.bool (!sr (bX k.code gg)||(DO (bX k.code gg) !=decide ((gg:Int)=(n2:Int)-1))))] ?_ ?_
 rcases bE (!sr (bX k.code gg)) with iD|iD
 apply k8 dj 22 (rA 43 22) (rA 43 22) [[],[0],[],[1,2],[3],[4],[5],[6],[7],[7,8],[7],[7,9,10],[7,11],[7,12],[7],[7],[7,15],[7,16],[7,17],[7,14,18],[7,13,19],[7,20]] [It.v _,It.v _,It.v _,It.v _,It.v _,It.v _,It.v _,It.v (.bool true),It.v _,It.v _,It.v _,It.v _,It.v _,It.v _,It.v _,It.v _,It.v _,It.v _,It.v _,It.v _,It.v _,It.v _] de rfl
 intro wd aC
 refine VA ?_
 refine vk aC (λx w4 aO=>?_) ?_
 refine aA (Gt _ w4) ?_
 rintro _ w5 ⟨rfl,aN⟩
 have l3:=aN.size
 exact pk aN
 refine VA ?_
 refine vc (λx w4 aO=>?_) ?_
 refine WZ ?_
 exact pv (by exact congrArg Value.bool iD)
 exact VZ
 intro x oZ jy
 change OW _ _ _ _ [] (bo (bj _ x _) (zZ 43 [_,_,_,_,_,_,_,_,_,_,_,_,_,_,_,_,_,_,_,_,_,_])) _
 refine W ?_
 exact kE jy
 apply k8 dj 22 (rA 43 22) (rA 43 22) [[],[0],[],[1,2],[3],[4],[5],[6],[7],[7,8],[7],[7,9,10],[7,11],[7,12],[7],[7],[7,15],[7,16],[7,17],[7,14,18],[7,13,19],[7,20]] [It.v _,It.v _,It.v _,It.v _,It.v _,It.v _,It.v _,It.v (.bool false),It.v _,It.v _,It.v _,It.v _,It.v _,It.v _,It.v _,It.v _,It.v _,It.v _,It.v _,It.v _,It.v _,It.v _] de rfl
 intro wd aC
 refine VA ?_
 refine vk aC (λx w4 aO=>?_) ?_
 refine aA (Gt _ w4) ?_
 rintro _ w5 ⟨rfl,aN⟩
 have l3:=aN.size
 exact pk aN
 refine VA ?_
 refine vc (λx w4 aO=>?_) ?_
 refine WZ ?_
 exact pv (by exact congrArg Value.bool iD)
 refine VA ?_
 refine vk aC (λx w4 aO=>?_) ?_
 refine aA (I7 _ w4) ?_
 rintro _ w5 ⟨rfl,aN⟩
 have l3:=aN.size
 exact pk aN
 exact VZ
 intro x oZ jy
 change OW _ _ _ _ [] (bo (bj _ x _) (zZ 43 [_,_,_,_,_,_,_,_,_,_,_,_,_,_,_,_,_,_,_,_,_,_])) _
 refine W ?_
 exact kE jy
 intro x oZ jy
 refine bI jy hK aI λhK aI=>?_
 refine zc rfl (λh7=>?_) (λh7=>?_)
 rw[LD mo om] at h7
 have hq:=Rk (b:=k) (i:=gg) om (by simpa using h7)
 refine W ?_
 exact⟨_,rfl,by rw[hq];rfl,hK⟩
 rw[LD mo om] at h7
 refine W ?_
 exact⟨gg+1,⟨rfl,rfl⟩,⟨hK,aI,om,by intro i hi;rcases Nat.lt_or_ge i gg with h|h;exact cL i h;rw[show i=gg by omega];simpa using h7⟩,om⟩
 have hq:=Rl hb MF (λi hi=>cL i om)
 refine W ?_
 exact⟨_,rfl,by rw[hq];rfl,hK⟩
theorem SV (bs:List Bk) (hb:tJ bs) (v:Value) (L:List Nat) (w:World) (hv:nR L w v bs):
  bz Tryz.prog 10 [v] w λr w'=>r= .bool (ju bs)∧aj [] w w':=by
 obtain⟨a,n,c,rfl,hn⟩:=zQ hv
 have hK:=aj.refl [] w
 have iq:=hb.1
 refine bS [.tmp 2] 45 Tryz.func10 rfl Y7 rfl rfl ?_
 refine W ?_
 refine eA (λi:Nat=>[(0,.slice a n c),(3,.int .i64 (i:Int))]) (λi w'=>aj [] w w'∧i<=bs.length∧∀j,j<i->lY (bR bs j)=true∧oJ bs (bR bs j).aM=(j:Int)) (λi=>bs.length-i) (0) (⟨rfl,rfl⟩) (⟨hK,om,by intro i hi;omega⟩) λgg w1 e1 hI=>?_
 obtain⟨hK,hk,cL⟩:=hI
 have hv:=hv.ext hK
 refine W ?_
 refine zc rfl (λh1=>?_) (λh1=>?_)
 have hg:=pC (bs:=bs) (i:=gg) om
 obtain⟨b,off,a1,n1,c1,a2,n2,c2,rfl,hc,fx,eV,cV,dm⟩:=BU hv hg
 have qt:=hb.2 gg om
 refine W ?_
 refine aA (aer (bR bs gg) qt.1 qt.2.1 qt.2.2 _ _ w1 (BT cV dm)) ?_
 rintro _ w2 ⟨rfl,az⟩
 have dm:=az.size
 refine cN az hK hv hc λhK hv hc=>?_
 refine WZ ?_
 apply oP 10 16 26 rfl oQ
 intro h2
 refine zm<|zm<|zm<|zi iK fU rfl rfl om<|zf Lo rfl<|zl gD rfl (hc 0 _ rfl)<|aA (aeq bs om _ _ _ _ hv) ?_
 rintro _ _ ⟨rfl,rfl⟩
 exact oQ
 intro xx
 refine aZ<|zc rfl (λh3=>?_) (λh3=>?_)
 have hq:=Rm (bs:=bs) (i:=gg) om (λhh=>by rw[hh.1,hh.2] at h3;simp at h3)
 refine W ?_
 exact⟨_,rfl,by rw[hq];rfl,hK⟩
 simp only[Bool.or_eq_false_iff,Bool.not_eq_false',decide_eq_false_iff_not,ne_eq,Classical.not_not] at h3
 refine W ?_
 exact⟨gg+1,⟨rfl,rfl⟩,⟨hK,om,by intro i hi;rcases Nat.lt_or_ge i gg with h|h;exact cL i h;rw[show i=gg by omega];exact h3⟩,om⟩
 have hq:=Ro (λi hi=>cL i om)
 clear cL
 refine W ?_
 refine aA (Gm _ _ _ _) ?_
 rintro _ _ ⟨rfl,rfl⟩
 refine WZ ?_
 apply oB 6 30 36 rfl oQ
 intro h4
 simp at h4
 have h0:=pC (bs:=bs) (i:=0) om
 obtain⟨b,off,a1,n1,c1,a2,n2,c2,rfl,hc,fx,eV,cV,dm⟩:=BU hv h0
 refine zm<|zi (i:=0) iK fU rfl rfl om<|zf Lo rfl<|zl gD rfl (hc 0 _ rfl) ?_
 exact oQ
 intro xx
 refine WZ ?_
 apply oB 7 37 44 rfl oQ
 intro h5
 simp at h5
 have h0:=pC (bs:=bs) (i:=0) om
 obtain⟨b,off,a1,n1,c1,a2,n2,c2,rfl,hc,fx,eV,cV,dm⟩:=BU hv h0
 subst fx
 refine zm<|zi (i:=0) iK fU rfl rfl om<|zf Lp rfl<|zl tG rfl (hc 1 _ rfl) ?_
 exact oQ
 intro xx
 refine W ?_
 exact⟨_,rfl,show Value.bool _=Value.bool _ from congrArg _ (by rw[hq];exact acs hn (λ_=>rfl)),hK⟩
theorem aes (bs:List Bk) (hb:tJ bs) (v:Value) (L:List Nat) (w:World) (hv:nR L w v bs):
  bz Tryz.prog 6 [v] w λr w'=>r= .int .i64 (BV bs)∧aj [] w w':=by
 obtain⟨a,n,c,rfl,hn⟩:=zQ hv
 have hK:=aj.refl [] w
 have iq:=hb.1
 refine bS [.tmp 2] 23 Tryz.func6 rfl nm6 rfl rfl ?_
 refine W ?_
 refine aA (SV bs hb _ _ w hv) ?_
 rintro _ w1 ⟨rfl,aI⟩
 have cV:=aI.size
 refine bI aI hK hv λhK hv=>?_
 refine kx rfl rfl rfl<|aZ<|zc rfl (λh1=>?_) (λh1=>?_)
 have hq:=h1
 refine W ?_
 exact⟨_,rfl,by rw[BV,hq];rfl,hK⟩
 have hq:=h1
 refine W ?_
 refine eA (λi:Nat=>[(0,.slice a n c),(3,.int .i64 (lines (bs.take i):Nat)),(4,.int .i64 (i:Int))]) (λi w'=>w'=w1∧i<=bs.length) (λi=>bs.length-i) (0) (⟨rfl,rfl,rfl⟩) (⟨rfl,om⟩) λgg w2 e2 hI=>?_
 obtain⟨rfl,hk⟩:=hI
 refine W ?_
 refine zc rfl (λh2=>?_) (λh2=>?_)
 have hg:=pC (bs:=bs) (i:=gg) om
 obtain⟨b,off,a1,n1,c1,a2,n2,c2,rfl,hc,fx,eV,cV,dm⟩:=BU hv hg
 have qt:=(hb.2 gg om).2.2
 have yb:=Rq hb gg om
 have I8:=Rp (bs:=bs) (k:=gg) om
 refine WL ?_
 refine zl tG rfl (hc 2 _ rfl)<|W ?_
 exact⟨gg+1,⟨rfl,by show Value.int _ _=Value.int _ _;congr 1;omega,rfl⟩,⟨rfl,om⟩,om⟩
 have he:bs.take gg=bs:=List.take_of_length_le om
 refine W ?_
 exact⟨_,rfl,by rw[BV,iP hq,he];rfl,hK⟩
end Go.Proofs.YtkcegcjelmmilaaGreatDoor
namespace Go.Proofs
open Go.Shelf
def Tryz.aet:Go.Shelf.Ren:=⟨fun|170=>133|n=>n,fun|70=>99|3=>3|0=>0|72=>101|37=>22|5=>5|n=>n,fun|n=>n⟩
theorem Tryz.aeu:Go.Proofs.Lays.n170 Tryz.prog Tryz.aet:={
 mixed:=by kernel_rfl
 f170:=Tryz.func133.trans (congrArg some (by kernel_rfl))
 t0:=Tryz.underlying0
 a0:=Tryz.isAgg0
 z0:=Tryz.sizeOf0
 v0:=Tryz.zeroValue0
 t3:=Tryz.underlying3
 a3:=Tryz.isAgg3
 z3:=Tryz.sizeOf3
 v3:=Tryz.zeroValue3
 t37:=Tryz.underlying22
 a37:=Tryz.isAgg22
 z37:=Tryz.sizeOf22
 v37:=Tryz.zeroValue22
 t70:=Tryz.underlying99
 a70:=Tryz.isAgg99
 z70:=Tryz.sizeOf99
 v70:=Tryz.zeroValue99
 t72:=Tryz.underlying101
 a72:=Tryz.isAgg101
 z72:=Tryz.sizeOf101
 v72:=Tryz.zeroValue101}
def Tryz.SW:Go.Shelf.Ren:=⟨fun|169=>69|n=>n,fun|70=>99|9=>9|0=>0|72=>101|37=>22|127=>136|3=>3|5=>5|n=>n,fun|n=>n⟩
theorem Tryz.SX:Go.Proofs.Lays.n169 Tryz.prog Tryz.SW:={
 mixed:=by kernel_rfl
 f169:=Tryz.func69.trans (congrArg some (by kernel_rfl))
 t0:=Tryz.underlying0
 a0:=Tryz.isAgg0
 z0:=Tryz.sizeOf0
 v0:=Tryz.zeroValue0
 t3:=Tryz.underlying3
 a3:=Tryz.isAgg3
 z3:=Tryz.sizeOf3
 v3:=Tryz.zeroValue3
 t9:=Tryz.underlying9
 a9:=Tryz.isAgg9
 z9:=Tryz.sizeOf9
 v9:=Tryz.zeroValue9
 t37:=Tryz.underlying22
 a37:=Tryz.isAgg22
 z37:=Tryz.sizeOf22
 v37:=Tryz.zeroValue22
 t70:=Tryz.underlying99
 a70:=Tryz.isAgg99
 z70:=Tryz.sizeOf99
 v70:=Tryz.zeroValue99
 t72:=Tryz.underlying101
 a72:=Tryz.isAgg101
 z72:=Tryz.sizeOf101
 v72:=Tryz.zeroValue101
 t127:=Tryz.underlying136
 a127:=Tryz.isAgg136
 z127:=Tryz.sizeOf136
 v127:=Tryz.zeroValue136}
theorem Tryz.SY:Builder.Extra Tryz.prog Tryz.SW:={
 sizeBuilder:=by kernel_rfl
 liesBuilder:=by kernel_rfl
 t5:=Tryz.underlying5
 a5:=Tryz.isAgg5
 z5:=Tryz.sizeOf5
 v5:=Tryz.zeroValue5
 infoByte:=by kernel_rfl
 cellsByte:=by kernel_rfl
 sizeByte:=by kernel_rfl
 neB5:=by decide}
def Tryz.SZ:Go.Shelf.Ren:=⟨fun|165=>132|240=>139|241=>158|276=>164|277=>171|n=>n,fun|70=>99|3=>3|0=>0|4=>4|9=>9|20=>20|72=>101|37=>22|164=>187|5=>5|n=>n,fun|n=>n⟩
theorem Tryz.aev:Go.Proofs.Lays.n165 Tryz.prog Tryz.SZ:={
 mixed:=by kernel_rfl
 f165:=Tryz.func132.trans (congrArg some (by kernel_rfl))
 f240:=Tryz.func139.trans (congrArg some (by kernel_rfl))
 f241:=Tryz.func158.trans (congrArg some (by kernel_rfl))
 f276:=Tryz.func164.trans (congrArg some (by kernel_rfl))
 f277:=Tryz.func171.trans (congrArg some (by kernel_rfl))
 t0:=Tryz.underlying0
 a0:=Tryz.isAgg0
 z0:=Tryz.sizeOf0
 v0:=Tryz.zeroValue0
 t3:=Tryz.underlying3
 a3:=Tryz.isAgg3
 z3:=Tryz.sizeOf3
 v3:=Tryz.zeroValue3
 t4:=Tryz.underlying4
 a4:=Tryz.isAgg4
 z4:=Tryz.sizeOf4
 v4:=Tryz.zeroValue4
 t9:=Tryz.underlying9
 a9:=Tryz.isAgg9
 z9:=Tryz.sizeOf9
 v9:=Tryz.zeroValue9
 t20:=Tryz.underlying20
 a20:=Tryz.isAgg20
 z20:=Tryz.sizeOf20
 v20:=Tryz.zeroValue20
 t37:=Tryz.underlying22
 a37:=Tryz.isAgg22
 z37:=Tryz.sizeOf22
 v37:=Tryz.zeroValue22
 t70:=Tryz.underlying99
 a70:=Tryz.isAgg99
 z70:=Tryz.sizeOf99
 v70:=Tryz.zeroValue99
 t72:=Tryz.underlying101
 a72:=Tryz.isAgg101
 z72:=Tryz.sizeOf101
 v72:=Tryz.zeroValue101
 t164:=Tryz.underlying187
 a164:=Tryz.isAgg187
 z164:=Tryz.sizeOf187
 v164:=Tryz.zeroValue187}
theorem Tryz.aew:Builder.Extra Tryz.prog Tryz.SZ:={
 sizeBuilder:=by kernel_rfl
 liesBuilder:=by kernel_rfl
 t5:=Tryz.underlying5
 a5:=Tryz.isAgg5
 z5:=Tryz.sizeOf5
 v5:=Tryz.zeroValue5
 infoByte:=by kernel_rfl
 cellsByte:=by kernel_rfl
 sizeByte:=by kernel_rfl
 neB5:=by decide}
open Go.RowKit in
theorem Tryz.Builder_Grow_fresh (B b n:Nat) (w:World) (hB:B<=b) (fI:w.heap[b]?=some (.cells #[.pointer none,.slice none 0 0] 101 (0,0))) (oa:B<=w.heap.size) (hn:n<=281474976710656):
  Calls Tryz.prog 132 #[.pointer (some ⟨b,0,none⟩),.int .i64 n] w λe w'=>e= .returned (.tuple #[])∧(Lib.BuilderAt 101 5 B b (.pointer (some ⟨b,0,none⟩)) [] w'∧Below B w w'):=Any.Builder_Grow_fresh Tryz.aev Tryz.aew B b n w hB fI oa hn
def Tryz.an9:Go.Shelf.Ren:=⟨fun|210=>155|206=>130|n=>n,fun|9=>9|4=>4|3=>3|n=>n,fun|n=>n⟩
open Go.RowKit in
theorem Tryz.Builder_Len_f (B b:Nat) (bs:List Value) (w:World) (h:Lib.IsBuilderF 101 5 B b bs w):
  Calls Tryz.prog 133 #[.pointer (some ⟨b,0,none⟩)] w λe w'=>e= .returned (.int .i64 bs.length)∧w'=w:=Any.Builder_Len_f Tryz.aeu B b bs w h
open Go.RowKit in
theorem Tryz.Builder_String_f (B b:Nat) (l:List UInt8) (w:World) (h:Lib.IsBuilderF 101 5 B b (Lib.byteCells l) w) (h0:l≠[]):
  Calls Tryz.prog 69 #[.pointer (some ⟨b,0,none⟩)] w λe w'=>e= .returned (.string ⟨l.toArray⟩)∧(Lib.IsBuilderF 101 5 B b (Lib.byteCells l) w'∧Below B w w'):=Any.Builder_String_f Tryz.SX Tryz.SY B b l w h h0
open Go.RowKit in
theorem Tryz.Builder_String_any_f (B b:Nat) (l:List UInt8) (w:World) (h:Lib.IsBuilderF 101 5 B b (Lib.byteCells l) w) (oa:B<=w.heap.size):
  Calls Tryz.prog 69 #[.pointer (some ⟨b,0,none⟩)] w λe w'=>e= .returned (.string ⟨l.toArray⟩)∧(Lib.IsBuilderF 101 5 B b (Lib.byteCells l) w'∧Below B w w'):=Any.Builder_String_any_f Tryz.SX Tryz.SY B b l w h oa
def Tryz.aex:Go.Shelf.Ren:=⟨fun|172=>96|244=>135|245=>136|247=>159|279=>160|280=>161|281=>162|282=>163|287=>172|316=>173|171=>175|205=>174|321=>177|322=>178|243=>179|246=>180|283=>181|284=>182|285=>183|286=>184|129=>186|317=>185|318=>187|319=>188|320=>189|337=>190|338=>191|n=>n,fun|9=>9|3=>3|75=>127|76=>128|4=>4|5=>5|167=>181|37=>22|0=>0|85=>182|2=>2|168=>184|53=>178|175=>195|46=>159|210=>198|127=>136|145=>204|143=>202|21=>21|171=>206|173=>209|212=>212|51=>175|20=>20|213=>213|232=>217|233=>218|80=>74|n=>n,fun|15=>0|16=>1|17=>3|18=>4|19=>5|n=>n⟩
theorem Tryz.aey:Go.Proofs.Lays.n172 Tryz.prog Tryz.aex:={
 mixed:=by kernel_rfl
 f129:=Tryz.func186.trans (congrArg some (by kernel_rfl))
 f171:=Tryz.func175.trans (congrArg some (by kernel_rfl))
 f172:=Tryz.func96.trans (congrArg some (by kernel_rfl))
 f205:=Tryz.func174.trans (congrArg some (by kernel_rfl))
 f243:=Tryz.func179.trans (congrArg some (by kernel_rfl))
 f244:=Tryz.func135.trans (congrArg some (by kernel_rfl))
 f245:=Tryz.func136.trans (congrArg some (by kernel_rfl))
 f246:=Tryz.func180.trans (congrArg some (by kernel_rfl))
 f247:=Tryz.func159.trans (congrArg some (by kernel_rfl))
 f279:=Tryz.func160.trans (congrArg some (by kernel_rfl))
 f280:=Tryz.func161.trans (congrArg some (by kernel_rfl))
 f281:=Tryz.func162.trans (congrArg some (by kernel_rfl))
 f282:=Tryz.func163.trans (congrArg some (by kernel_rfl))
 f283:=Tryz.func181.trans (congrArg some (by kernel_rfl))
 f284:=Tryz.func182.trans (congrArg some (by kernel_rfl))
 f285:=Tryz.func183.trans (congrArg some (by kernel_rfl))
 f286:=Tryz.func184.trans (congrArg some (by kernel_rfl))
 f287:=Tryz.func172.trans (congrArg some (by kernel_rfl))
 f316:=Tryz.func173.trans (congrArg some (by kernel_rfl))
 f317:=Tryz.func185.trans (congrArg some (by kernel_rfl))
 f318:=Tryz.func187.trans (congrArg some (by kernel_rfl))
 f319:=Tryz.func188.trans (congrArg some (by kernel_rfl))
 f320:=Tryz.func189.trans (congrArg some (by kernel_rfl))
 f321:=Tryz.func177.trans (congrArg some (by kernel_rfl))
 f322:=Tryz.func178.trans (congrArg some (by kernel_rfl))
 f337:=Tryz.func190.trans (congrArg some (by kernel_rfl))
 f338:=Tryz.func191.trans (congrArg some (by kernel_rfl))
 t0:=Tryz.underlying0
 a0:=Tryz.isAgg0
 z0:=Tryz.sizeOf0
 v0:=Tryz.zeroValue0
 t2:=Tryz.underlying2
 a2:=Tryz.isAgg2
 z2:=Tryz.sizeOf2
 v2:=Tryz.zeroValue2
 t3:=Tryz.underlying3
 a3:=Tryz.isAgg3
 z3:=Tryz.sizeOf3
 v3:=Tryz.zeroValue3
 t4:=Tryz.underlying4
 a4:=Tryz.isAgg4
 z4:=Tryz.sizeOf4
 v4:=Tryz.zeroValue4
 t5:=Tryz.underlying5
 a5:=Tryz.isAgg5
 z5:=Tryz.sizeOf5
 v5:=Tryz.zeroValue5
 t9:=Tryz.underlying9
 a9:=Tryz.isAgg9
 z9:=Tryz.sizeOf9
 v9:=Tryz.zeroValue9
 t20:=Tryz.underlying20
 a20:=Tryz.isAgg20
 z20:=Tryz.sizeOf20
 v20:=Tryz.zeroValue20
 t21:=Tryz.underlying21
 a21:=Tryz.isAgg21
 z21:=Tryz.sizeOf21
 v21:=Tryz.zeroValue21
 t37:=Tryz.underlying22
 a37:=Tryz.isAgg22
 z37:=Tryz.sizeOf22
 v37:=Tryz.zeroValue22
 t46:=Tryz.underlying159
 a46:=Tryz.isAgg159
 z46:=Tryz.sizeOf159
 v46:=Tryz.zeroValue159
 t51:=Tryz.underlying175
 a51:=Tryz.isAgg175
 z51:=Tryz.sizeOf175
 v51:=Tryz.zeroValue175
 t53:=Tryz.underlying178
 a53:=Tryz.isAgg178
 z53:=Tryz.sizeOf178
 v53:=Tryz.zeroValue178
 t75:=Tryz.underlying127
 a75:=Tryz.isAgg127
 z75:=Tryz.sizeOf127
 v75:=Tryz.zeroValue127
 t76:=Tryz.underlying128
 a76:=Tryz.isAgg128
 z76:=Tryz.sizeOf128
 v76:=Tryz.zeroValue128
 t85:=Tryz.underlying182
 a85:=Tryz.isAgg182
 z85:=Tryz.sizeOf182
 v85:=Tryz.zeroValue182
 t127:=Tryz.underlying136
 a127:=Tryz.isAgg136
 z127:=Tryz.sizeOf136
 v127:=Tryz.zeroValue136
 t143:=Tryz.underlying202
 a143:=Tryz.isAgg202
 z143:=Tryz.sizeOf202
 v143:=Tryz.zeroValue202
 t145:=Tryz.underlying204
 a145:=Tryz.isAgg204
 z145:=Tryz.sizeOf204
 v145:=Tryz.zeroValue204
 t167:=Tryz.underlying181
 a167:=Tryz.isAgg181
 z167:=Tryz.sizeOf181
 v167:=Tryz.zeroValue181
 t168:=Tryz.underlying184
 a168:=Tryz.isAgg184
 z168:=Tryz.sizeOf184
 v168:=Tryz.zeroValue184
 t171:=Tryz.underlying206
 a171:=Tryz.isAgg206
 z171:=Tryz.sizeOf206
 v171:=Tryz.zeroValue206
 t173:=Tryz.underlying209
 a173:=Tryz.isAgg209
 z173:=Tryz.sizeOf209
 v173:=Tryz.zeroValue209
 t175:=Tryz.underlying195
 a175:=Tryz.isAgg195
 z175:=Tryz.sizeOf195
 v175:=Tryz.zeroValue195
 t210:=Tryz.underlying198
 a210:=Tryz.isAgg198
 z210:=Tryz.sizeOf198
 v210:=Tryz.zeroValue198
 t212:=Tryz.underlying212
 a212:=Tryz.isAgg212
 z212:=Tryz.sizeOf212
 v212:=Tryz.zeroValue212
 t213:=Tryz.underlying213
 a213:=Tryz.isAgg213
 z213:=Tryz.sizeOf213
 t232:=Tryz.underlying217
 a232:=Tryz.isAgg217
 z232:=Tryz.sizeOf217
 v232:=Tryz.zeroValue217
 t233:=Tryz.underlying218
 a233:=Tryz.isAgg218
 z233:=Tryz.sizeOf218
 v233:=Tryz.zeroValue218
 g15:=by kernel_rfl
 g16:=by kernel_rfl
 g17:=by kernel_rfl
 g18:=by kernel_rfl
 g19:=by kernel_rfl}
open Go.RowKit in
theorem Tryz.strconv_Atoi (s:ByteArray) (n:Int) (hl:s.size<=18) (h:Lib.atoi s.data.toList=some n) (w:World):
  Calls Tryz.prog 96 #[.string s] w λe w'=>e= .returned (.tuple #[.int .i64 n,.nilIface])∧∃t,w'=Lib.bytesWorld w 5 t:=Any.strconv_Atoi Tryz.aey s n hl h w
def Tryz.aez:Go.Shelf.Ren:=⟨fun|99=>91|206=>130|n=>n,fun|9=>9|4=>4|3=>3|n=>n,fun|n=>n⟩
theorem Tryz.aeA:Go.Proofs.Lays.n99 Tryz.prog Tryz.aez:={
 mixed:=by kernel_rfl
 f99:=Tryz.func91.trans (congrArg some (by kernel_rfl))
 f206:=Tryz.func130.trans (congrArg some (by kernel_rfl))
 t3:=Tryz.underlying3
 a3:=Tryz.isAgg3
 z3:=Tryz.sizeOf3
 v3:=Tryz.zeroValue3
 t4:=Tryz.underlying4
 a4:=Tryz.isAgg4
 z4:=Tryz.sizeOf4
 v4:=Tryz.zeroValue4
 t9:=Tryz.underlying9
 a9:=Tryz.isAgg9
 z9:=Tryz.sizeOf9
 v9:=Tryz.zeroValue9}
open Go.RowKit Go.Lib in
theorem Tryz.strings_HasPrefix (s p:ByteArray) (w:World):
  Calls Tryz.prog 91 #[.string s,.string p] w λe w'=>e= .returned (.bool (Lib.hasPrefix s.data.toList p.data.toList))∧w'=w:=Any.strings_HasPrefix Tryz.aeA s p w
def Tryz.aeB:Go.Shelf.Ren:=⟨fun|101=>94|208=>134|206=>130|n=>n,fun|9=>9|4=>4|3=>3|n=>n,fun|n=>n⟩
theorem Tryz.aeC:Go.Proofs.Lays.n101 Tryz.prog Tryz.aeB:={
 mixed:=by kernel_rfl
 f101:=Tryz.func94.trans (congrArg some (by kernel_rfl))
 f206:=Tryz.func130.trans (congrArg some (by kernel_rfl))
 f208:=Tryz.func134.trans (congrArg some (by kernel_rfl))
 t3:=Tryz.underlying3
 a3:=Tryz.isAgg3
 z3:=Tryz.sizeOf3
 v3:=Tryz.zeroValue3
 t4:=Tryz.underlying4
 a4:=Tryz.isAgg4
 z4:=Tryz.sizeOf4
 v4:=Tryz.zeroValue4
 t9:=Tryz.underlying9
 a9:=Tryz.isAgg9
 z9:=Tryz.sizeOf9
 v9:=Tryz.zeroValue9}
open Go.RowKit Go.Lib in
theorem Tryz.strings_TrimPrefix (s p:ByteArray) (w:World):
  Calls Tryz.prog 94 #[.string s,.string p] w λe w'=>e= .returned (.string ⟨(Lib.trimPrefix s.data.toList p.data.toList).toArray⟩)∧w'=w:=Any.strings_TrimPrefix Tryz.aeC s p w
def Tryz.aeD:Go.Shelf.Ren:=⟨fun|212=>131|263=>156|264=>157|n=>n,fun|46=>159|51=>175|146=>176|53=>178|148=>179|n=>n,fun|n=>n⟩
theorem Tryz.aeE:Go.Proofs.Lays.n212 Tryz.prog Tryz.aeD:={
 mixed:=by kernel_rfl
 f212:=Tryz.func131.trans (congrArg some (by kernel_rfl))
 f263:=Tryz.func156.trans (congrArg some (by kernel_rfl))
 f264:=Tryz.func157.trans (congrArg some (by kernel_rfl))
 t46:=Tryz.underlying159
 a46:=Tryz.isAgg159
 z46:=Tryz.sizeOf159
 v46:=Tryz.zeroValue159
 t51:=Tryz.underlying175
 a51:=Tryz.isAgg175
 z51:=Tryz.sizeOf175
 v51:=Tryz.zeroValue175
 t53:=Tryz.underlying178
 a53:=Tryz.isAgg178
 z53:=Tryz.sizeOf178
 v53:=Tryz.zeroValue178
 t146:=Tryz.underlying176
 a146:=Tryz.isAgg176
 z146:=Tryz.sizeOf176
 v146:=Tryz.zeroValue176
 t148:=Tryz.underlying179
 a148:=Tryz.isAgg179
 z148:=Tryz.sizeOf179
 v148:=Tryz.zeroValue179}
open Go.RowKit Go.Lib in
theorem Tryz.bits_Mul (x y:Nat) (hx:x<18446744073709551616) (hy:y<18446744073709551616) (w:World):
  Calls Tryz.prog 131 #[.int .u64 x,.int .u64 y] w λe w'=>e= .returned (.tuple #[.int .u64 ((x*y/18446744073709551616:Nat):Int),.int .u64 ((x*y%18446744073709551616:Nat):Int)])∧w'=w:=Any.bits_Mul Tryz.aeE x y hx hy w
def Tryz.S0:Go.Shelf.Ren:=⟨fun|166=>103|240=>139|276=>164|n=>n,fun|70=>99|3=>3|0=>0|4=>4|9=>9|20=>20|72=>101|37=>22|164=>187|5=>5|75=>127|80=>74|n=>n,fun|n=>n⟩
theorem Tryz.S1:Go.Proofs.Lays.n166 Tryz.prog Tryz.S0:={
 mixed:=by kernel_rfl
 f166:=Tryz.func103.trans (congrArg some (by kernel_rfl))
 f240:=Tryz.func139.trans (congrArg some (by kernel_rfl))
 f276:=Tryz.func164.trans (congrArg some (by kernel_rfl))
 t0:=Tryz.underlying0
 a0:=Tryz.isAgg0
 z0:=Tryz.sizeOf0
 v0:=Tryz.zeroValue0
 t3:=Tryz.underlying3
 a3:=Tryz.isAgg3
 z3:=Tryz.sizeOf3
 v3:=Tryz.zeroValue3
 t4:=Tryz.underlying4
 a4:=Tryz.isAgg4
 z4:=Tryz.sizeOf4
 v4:=Tryz.zeroValue4
 t9:=Tryz.underlying9
 a9:=Tryz.isAgg9
 z9:=Tryz.sizeOf9
 v9:=Tryz.zeroValue9
 t20:=Tryz.underlying20
 a20:=Tryz.isAgg20
 z20:=Tryz.sizeOf20
 v20:=Tryz.zeroValue20
 t37:=Tryz.underlying22
 a37:=Tryz.isAgg22
 z37:=Tryz.sizeOf22
 v37:=Tryz.zeroValue22
 t70:=Tryz.underlying99
 a70:=Tryz.isAgg99
 z70:=Tryz.sizeOf99
 v70:=Tryz.zeroValue99
 t72:=Tryz.underlying101
 a72:=Tryz.isAgg101
 z72:=Tryz.sizeOf101
 v72:=Tryz.zeroValue101
 t164:=Tryz.underlying187
 a164:=Tryz.isAgg187
 z164:=Tryz.sizeOf187
 v164:=Tryz.zeroValue187
 t75:=Tryz.underlying127
 a75:=Tryz.isAgg127
 z75:=Tryz.sizeOf127
 v75:=Tryz.zeroValue127}
theorem Tryz.S2:Builder.Extra Tryz.prog Tryz.S0:={
 sizeBuilder:=by kernel_rfl
 liesBuilder:=by kernel_rfl
 t5:=Tryz.underlying5
 a5:=Tryz.isAgg5
 z5:=Tryz.sizeOf5
 v5:=Tryz.zeroValue5
 infoByte:=by kernel_rfl
 cellsByte:=by kernel_rfl
 sizeByte:=by kernel_rfl
 neB5:=by decide}
open Go.RowKit in
theorem Tryz.Builder_WriteString_f (B b:Nat) (bs:List Value) (s:ByteArray) (w:World) (h:Lib.IsBuilderF 101 5 B b bs w) (hlen:bs.length+s.size<=140737488355328) (oa:B<=w.heap.size):
  Calls Tryz.prog 103 #[.pointer (some ⟨b,0,none⟩),.string s] w λe w'=>e= .returned (.tuple #[.int .i64 s.size,.nilIface])∧(Lib.BuilderAtF 101 5 B b (.pointer (some ⟨b,0,none⟩)) (bs++Lib.strCells s) w'∧Below B w w'):=Any.Builder_WriteString_f Tryz.S1 Tryz.S2 B b bs s w h hlen oa
def Tryz.S3:Go.Shelf.Ren:=⟨fun|167=>104|240=>139|276=>164|n=>n,fun|70=>99|3=>3|0=>0|4=>4|9=>9|20=>20|72=>101|37=>22|164=>187|5=>5|75=>127|80=>74|n=>n,fun|n=>n⟩
theorem Tryz.aeF:Go.Proofs.Lays.n167 Tryz.prog Tryz.S3:={
 mixed:=by kernel_rfl
 f167:=Tryz.func104.trans (congrArg some (by kernel_rfl))
 f240:=Tryz.func139.trans (congrArg some (by kernel_rfl))
 f276:=Tryz.func164.trans (congrArg some (by kernel_rfl))
 t0:=Tryz.underlying0
 a0:=Tryz.isAgg0
 z0:=Tryz.sizeOf0
 v0:=Tryz.zeroValue0
 t4:=Tryz.underlying4
 a4:=Tryz.isAgg4
 z4:=Tryz.sizeOf4
 v4:=Tryz.zeroValue4
 t5:=Tryz.underlying5
 a5:=Tryz.isAgg5
 z5:=Tryz.sizeOf5
 v5:=Tryz.zeroValue5
 t9:=Tryz.underlying9
 a9:=Tryz.isAgg9
 z9:=Tryz.sizeOf9
 v9:=Tryz.zeroValue9
 t20:=Tryz.underlying20
 a20:=Tryz.isAgg20
 z20:=Tryz.sizeOf20
 v20:=Tryz.zeroValue20
 t37:=Tryz.underlying22
 a37:=Tryz.isAgg22
 z37:=Tryz.sizeOf22
 v37:=Tryz.zeroValue22
 t70:=Tryz.underlying99
 a70:=Tryz.isAgg99
 z70:=Tryz.sizeOf99
 v70:=Tryz.zeroValue99
 t72:=Tryz.underlying101
 a72:=Tryz.isAgg101
 z72:=Tryz.sizeOf101
 v72:=Tryz.zeroValue101
 t75:=Tryz.underlying127
 a75:=Tryz.isAgg127
 z75:=Tryz.sizeOf127
 v75:=Tryz.zeroValue127
 t164:=Tryz.underlying187
 a164:=Tryz.isAgg187
 z164:=Tryz.sizeOf187
 v164:=Tryz.zeroValue187}
theorem Tryz.aeG:Builder.Extra Tryz.prog Tryz.S3:={
 sizeBuilder:=by kernel_rfl
 liesBuilder:=by kernel_rfl
 t5:=Tryz.underlying5
 a5:=Tryz.isAgg5
 z5:=Tryz.sizeOf5
 v5:=Tryz.zeroValue5
 infoByte:=by kernel_rfl
 cellsByte:=by kernel_rfl
 sizeByte:=by kernel_rfl
 neB5:=by decide}
open Go.RowKit in
theorem Tryz.Builder_WriteByte_k (B b:Nat) (bs:List Value) (c:Int) (w:World) (h:Lib.IsBuilderF 101 5 B b bs w) (hlen:bs.length+1<=140737488355328) (oa:B<=w.heap.size):
  Calls Tryz.prog 104 #[.pointer (some ⟨b,0,none⟩),.int .u8 c] w λe w'=>e= .returned .nilIface∧(Lib.BuilderAtF 101 5 B b (.pointer (some ⟨b,0,none⟩)) (bs++[.int .u8 c]) w'∧Below B w w'∧Lib.OthersKept 5 (some b) w w'):=Any.Builder_WriteByte_k Tryz.aeF Tryz.aeG B b bs c w h hlen oa
open Go.RowKit in
theorem Tryz.Builder_WriteString_k (B b:Nat) (bs:List Value) (s:ByteArray) (w:World) (h:Lib.IsBuilderF 101 5 B b bs w) (hlen:bs.length+s.size<=140737488355328) (oa:B<=w.heap.size):
  Calls Tryz.prog 103 #[.pointer (some ⟨b,0,none⟩),.string s] w λe w'=>e= .returned (.tuple #[.int .i64 s.size,.nilIface])∧(Lib.BuilderAtF 101 5 B b (.pointer (some ⟨b,0,none⟩)) (bs++Lib.strCells s) w'∧Below B w w'∧Lib.OthersKept 5 (some b) w w'):=Any.Builder_WriteString_k Tryz.S1 Tryz.S2 B b bs s w h hlen oa
end Go.Proofs
namespace Go.Proofs.YtkcegcjelmmilaaGreatDoor
open Go
variable {b bytes d i k m m' n off sz t:Nat} {c:UInt8} {s x:ai} {e:Ex} {G L L' L1:List Nat} {w w' w0 w1 w2:World} {V v v1 v3 v4 v5 v6 v8 z:Value} {vs:List Value} {xs:List ai} {g:Option Nat} {rows:List (List C)} {P:Program} {ops:Array Oper} {e0:Env} {o:Oper} {l:List Oper} {r:List (List Nat)} {N R:Env->World->Prop} {X:Nat->Env->World->Prop} {p q:Prop} {J:List Nat->List Value->World->Prop} {k':IntKind} {a:Int}
theorem aeH (s p:ai) (w:World):bz Tryz.prog 91 [str s,str p] w λv w'=>v= .bool (Lib.hasPrefix s p)∧w=w':=
 ⟨qK.mk' Tryz.func91 rfl abj,Calls.mono (Tryz.strings_HasPrefix ⟨s.toArray⟩ ⟨p.toArray⟩ w) λe w' ⟨he,hw⟩=>⟨_,he,sm,hw.symm⟩⟩
theorem aeI (s p:ai) (w:World):bz Tryz.prog 94 [str s,str p] w λv w'=>v=str (Lib.trimPrefix s p)∧w=w':=
 ⟨qK.mk' Tryz.func94 rfl abm,Calls.mono (Tryz.strings_TrimPrefix ⟨s.toArray⟩ ⟨p.toArray⟩ w) λe w' ⟨he,hw⟩=>⟨_,he,by simp[str],hw.symm⟩⟩
theorem aeJ (w:World) (o:Obj) (a:Addr) (n:Nat) (ha:a.block=w.heap.size):aj [] w ((w.alloc o).freeze a n):=by
 unfold World.freeze
 split
 ·exact aj.alloc [] w o
 ·refine⟨rfl,rfl,rfl,?_,λk hk _=>?_⟩
  ·show w.heap.size<=Array.size (Array.modify (w.alloc o).heap _ _)
   rw[Array.size_modify];exact(aj.alloc [] w o).size
  ·show(Array.modify (w.alloc o).heap _ _)[k]?=_
   rw[Array.getElem?_modify,iN (by rw[ha];omega)];exact(aj.alloc [] w o).block k hk sm
theorem aeK (w:World) (e:TypeId) (s:ByteArray):aj [] w (Lib.bytesWorld w e s):=
 (aj.drew [] w).trans (aeJ _ _ _ _ rfl)
theorem aeL (s:ai) {z:Int} (h:numeral s=some z) (w:World):bz Tryz.prog 96 [str s] w λv w'=>v= .tuple #[.int .i64 z,.nilIface]∧aj [] w w':=
 ⟨qK.mk' Tryz.func96 rfl abo,Calls.mono (Tryz.strconv_Atoi ⟨s.toArray⟩ z (by have:=Rt h;simp[ByteArray.size];omega) (by simpa using acw h) w) λe w' ⟨he,t,hw⟩=>⟨_,he,rfl,by rw[hw];exact aeK _ _ _⟩⟩
theorem I9 (a b c:Int) (w:World):bz Tryz.prog 16 [.int .i64 a,.int .i64 b,.int .i64 c] w λv w'=>v= .bool (decide (b<=a)&&decide (a<=c))∧w=w':=by
 refine bS [.tmp 6] 15 Tryz.func16 rfl ZX rfl rfl ?_
 refine W ?_
 apply oB 4 10 14 rfl oQ
 intro _
 exact oQ
 intro xx
 refine W ?_
 exact⟨_,rfl,rfl,rfl⟩
theorem aeM (c:UInt8) (w:World):bz Tryz.prog 92 [.int .u8 c.toNat] w λv w'=>v= .bool (eT c)∧w=w':=by
 refine bS [.tmp 2] 33 Tryz.func92 rfl abk rfl rfl ?_
 refine W ?_
 apply oB 3 5 8 rfl oQ
 intro _
 exact oQ
 intro xx
 refine WZ ?_
 apply oP 7 9 16 rfl oQ
 intro _
 refine WZ ?_
 apply oB 3 12 15 rfl oQ
 intro _
 exact oQ
 intro xx
 exact oQ
 intro xx
 refine WZ ?_
 apply oP 3 17 20 rfl oQ
 intro _
 exact oQ
 intro xx
 refine WZ ?_
 apply oP 3 21 24 rfl oQ
 intro _
 exact oQ
 intro xx
 refine WZ ?_
 apply oP 3 25 28 rfl oQ
 intro _
 exact oQ
 intro xx
 refine WZ ?_
 apply oP 3 29 32 rfl oQ
 intro _
 exact oQ
 intro xx
 refine W ?_
 exact⟨_,rfl,congrArg Value.bool (Ql c),rfl⟩
theorem aeN (s:ai) (hs:s.length<9223372036854775807) (w:World):bz Tryz.prog 95 [str s] w λv w'=>v= .bool (s.all gW)∧w=w':=by
 refine bS [.tmp 2] 20 Tryz.func95 rfl abn rfl rfl ?_
 refine W ?_
 refine eA (λk:Nat=>[(0,str s),(5,.int .i64 (s.length:Int)),(6,.int .i64 (k:Int))]) (λk w'=>w'=w∧k<=s.length∧(s.take k).all gW=true) (λk=>s.length-k) (0) (⟨rfl,rfl,rfl⟩) (⟨rfl,om,sm⟩) λgg w1 e1 hI=>?_
 obtain⟨rfl,hk,cL⟩:=hI
 refine W ?_
 refine zc rfl (λh1=>?_) (λh1=>?_)
 have dU:gg<s.length:=by omega
 refine W ?_
 refine j3 il rfl rfl rfl rfl (je dU)<|WZ ?_
 apply oP 5 13 18 rfl oQ
 intro _
 refine zm<|zm<|j3 il rfl rfl rfl rfl (je dU) ?_
 exact oQ
 intro xx
 refine aZ<|zc rfl (λh3=>?_) (λh3=>?_)
 have hq:s.all gW=false:=acz dU (QX h3)
 refine W ?_
 exact⟨_,rfl,by rw[hq];rfl,rfl⟩
 have hc:=QY h3
 refine W ?_
 exact⟨gg+1,⟨rfl,rfl,rfl⟩,⟨rfl,om,by rw[Lt dU,List.all_append,cL];simp only[List.all_cons,hc.2.2];rfl⟩,om⟩
 have hq:s.all gW=true:=by rw[List.take_of_length_le om] at cL;exact cL
 refine W ?_
 exact⟨_,rfl,by rw[hq];rfl,rfl⟩
theorem MG (s:ai) (hs:s.length<9223372036854775807) (w:World):bz Tryz.prog 61 [str s] w λv w'=>v= .bool (numeral s).isSome∧w=w':=by
 have hl:(er s).length<=s.length:=by unfold er;split<;>simp
 refine bS [.tmp 2] 22 Tryz.func61 rfl aaQ rfl rfl ?_
 refine W ?_
 refine aA (aeI _ _ _) ?_
 rintro _ _ ⟨rfl,rfl⟩
 refine W ?_
 rw[acu]
 apply oP 13 8 21 rfl oQ
 intro h1
 refine W ?_
 refine aA (I9 _ _ _ _) ?_
 rintro _ _ ⟨rfl,rfl⟩
 refine WZ ?_
 apply oB 3 12 15 rfl oQ
 intro h2
 refine zm<|aA (aeN _ om _) ?_
 rintro _ _ ⟨rfl,rfl⟩
 exact oQ
 intro xx
 refine WZ ?_
 apply oB 4 16 20 rfl oQ
 intro h3
 simp at h3
 refine zm<|j3 (i:=0) il rfl rfl rfl rfl (je om) ?_
 exact oQ
 intro xx
 exact oQ
 intro xx
 refine W ?_
 exact⟨_,rfl,show Value.bool _=Value.bool _ from congrArg _ (acA s),rfl⟩
theorem S4 (s:ai) {z:Int} (h:numeral s=some z) (w:World):bz Tryz.prog 62 [str s] w λv w'=>v= .int .i64 z∧aj [] w w':=by
 have hK:=aj.refl [] w
 refine bS [.tmp 2] 11 Tryz.func62 rfl aaR rfl rfl ?_
 refine W ?_
 refine aA (aeL s h w) ?_
 rintro _ w1 ⟨rfl,aI⟩
 have cV:=aI.size
 have hK:=hK.ext aI
 refine W ?_
 exact⟨_,rfl,rfl,hK⟩
theorem aeO (s:ai) (hs:s.length<9223372036854775807) (w:World):bz Tryz.prog 60 [str s] w λv w'=>v= .bool (uQ s)∧aj [] w w':=by
 have hK:=aj.refl [] w
 refine bS [.tmp 2] 10 Tryz.func60 rfl aaP rfl rfl ?_
 refine W ?_
 refine aA (MG s hs _) ?_
 rintro _ _ ⟨rfl,rfl⟩
 refine WZ ?_
 apply oA 4 5 9 (aj [] w) rfl oQ
 intro h1
 obtain⟨z,hz⟩:=Option.isSome_iff_exists.1 h1
 have AJ:z=(numeral s).getD 0:=by rw[hz];rfl
 refine zm<|aA (S4 s hz w) ?_
 rintro _ w1 ⟨rfl,aI⟩
 have cV:=aI.size
 rw[AJ]
 refine aA (I9 _ _ _ _) ?_
 rintro _ _ ⟨rfl,rfl⟩
 exact oQ
 intro xx w1 aI
 have hK:=hK.ext aI
 refine W ?_
 exact⟨_,rfl,show Value.bool _=Value.bool _ from congrArg _ (acy s),hK⟩
theorem S5 (s:ai) (hs:s.length<9223372036854775807) (w:World):bz Tryz.prog 29 [str s] w λr w'=>r= .bool (nh s)∧w=w':=by
 refine bS [.tmp 2] 35 Tryz.func29 rfl aah rfl rfl ?_
 refine W ?_
 refine eA (λk:Nat=>[(0,str s),(6,.int .i64 (s.length:Int)),(7,.int .i64 (k:Int))]) (λk w'=>w'=w∧k<=s.length∧∀j,j<k->BS s j=true) (λk=>s.length-k) (0) (⟨rfl,rfl,rfl⟩) (⟨rfl,om,by intro j hj;omega⟩) λgg w1 e1 hI=>?_
 obtain⟨rfl,hk,cL⟩:=hI
 refine W ?_
 refine zc rfl (λh1=>?_) (λh1=>?_)
 refine W ?_
 refine j3 il rfl rfl rfl rfl (je om)<|W ?_
 apply oB 3 15 18 rfl oQ
 intro _
 exact oQ
 intro xx
 refine WZ ?_
 apply oP 11 19 30 rfl oQ
 intro _
 refine WZ ?_
 apply oB 3 22 25 rfl oQ
 intro _
 exact oQ
 intro xx
 refine WZ ?_
 apply oB 3 26 29 rfl oQ
 intro _
 exact oQ
 intro xx
 exact oQ
 intro xx
 refine kx rfl rfl rfl<|aZ<|zc rfl (λh6=>?_) (λh6=>?_)
 rw[Iy] at h6
 refine W ?_
 exact⟨_,rfl,by rw[QT om h6];rfl,rfl⟩
 rw[Iy] at h6
 refine W ?_
 exact⟨gg+1,⟨rfl,rfl,rfl⟩,⟨rfl,om,QV cL h6⟩,om⟩
 refine W ?_
 exact⟨_,rfl,by rw[QU (λj hj=>cL j om)];rfl,rfl⟩
theorem MH (t:aq) (v:Value) (L:List Nat) (w:World) (hv:bB L w v t):bz Tryz.prog 87 [v] w λr w'=>r= .bool (decide (t.ak.length=0))∧aj [] w w':=by
 obtain⟨a,n,c,rfl,hn,aP⟩:=cU hv
 have hK:=aj.refl [] w
 refine bS [.tmp 2] 7 Tryz.func87 rfl abf rfl rfl ?_
 refine zr<|eH rfl λw1 aI aX dk=>?_
 have hK:=hK.ext aI
 refine W ?_
 exact⟨_,rfl,show Value.bool _=Value.bool _ from congrArg _ (decide_eq_decide.2 om),hK⟩
theorem Cj (t:aq) (cm:WF t) (v:Value) (L:List Nat) (w:World) (hv:bB L w v t):bz Tryz.prog 59 [v] w λr w'=>r=str (cw t)∧aj [] w w':=by
 have cO:=hv
 obtain⟨a,n,c,rfl,hn,aP⟩:=cU hv
 have hK:=aj.refl [] w
 refine bS [.tmp 2] 10 Tryz.func59 rfl aaN rfl rfl ?_
 refine zr<|eH rfl λw1 aI aX dk=>cN aI hK aP cO λhK aP cO=>?_
 refine W ?_
 refine aA (MH t _ L w1 cO) ?_
 rintro _ w2 ⟨rfl,az⟩
 have dm:=az.size
 refine cN az hK aP aX λhK aP aX=>?_
 refine aZ<|zc rfl (λh1=>?_) (λh1=>?_)
 have hh:cw t=[]:=FT (.inr (List.length_eq_zero_iff.1 h1))
 refine W ?_
 exact⟨_,rfl,by rw[hh];rfl,hK⟩
 have j8:0<t.ak.length:=by omega
 have ha:t.aw=[]:=Classical.byContradiction (λh=>by have:=cm.leaf h;rw[this] at j8;exact absurd j8 de)
 have mz:=gh j8
 have hh:cw t=(nth t.ak 0).aw:=FQ ha mz
 obtain⟨b,off,pa,pn,pc,rfl,et,eP,fM⟩:=iJ aP mz
 refine WI ?_
 refine zi (i:=0) sk fg rfl rfl (by rw[hn];exact j8)<|W ?_
 exact⟨_,rfl,by rw[hh];rfl,hK⟩
theorem aeP (t:aq) (cm:WF t) (h:ai) (k:Int) (v:Value) (L:List Nat) (w:World) (hv:bB L w v t):
  bz Tryz.prog 63 [v,str h,.int .i64 k] w λr w'=>r= .bool (decide ((t.ak.length:Int)=k)&&decide (cw t=h))∧aj [] w w':=by
 have cO:=hv
 obtain⟨a,n,c,rfl,hn,aP⟩:=cU hv
 have hK:=aj.refl [] w
 subst hn
 refine bS [.tmp 6] 18 Tryz.func63 rfl aaS rfl rfl ?_
 refine zr<|eH rfl λw1 aI cQ dk=>bI aI hK cO λhK cO=>?_
 refine W ?_
 apply oA 5 12 17 (aj [] w1) rfl oQ
 intro _
 refine W ?_
 refine aA (Cj t cm _ L w1 cO) ?_
 rintro _ w2 ⟨rfl,az⟩
 have dm:=az.size
 exact oQ
 intro xx w2 az
 have hK:=hK.ext az
 refine W ?_
 exact⟨_,rfl,rfl,hK⟩
theorem aeQ (ts:List aq) (hlen:ts.length<1000000000) (g:aq->Bool) (f:FuncId) (caps:List Value) (v:Value) (L:List Nat) (w:World) (hv:eM L w v ts) 
  (hf:∀i,i<ts.length->∀(u:Value) (w':World),aj [] w w'->bB L w' u (nth ts i)->bz Tryz.prog f (u::caps) w' λr w''=>r= .bool (g (nth ts i))∧aj [] w' w''):
  bz Tryz.prog 129 [v,.func (.func f) #[] caps.toArray] w λr w'=>r= .int .i64 (BW ts g)∧aj [] w w':=by
 obtain⟨a,c,rfl,hlc⟩:=rC hv
 have oF:(cT ts).length=ts.length:=ia ts
 have hK:=aj.refl [] w
 refine bS [.tmp 4] 19 Tryz.func129 rfl ZA rfl rfl ?_
 refine W ?_
 refine eA (λk:Nat=>[(0,.slice a (cT ts).length c),(1,.func (.func f) #[] caps.toArray),(7,.int .i64 ((cT ts).length:Int)),(8,.int .i64 (k:Int))]) (λk w'=>aj [] w w'∧k<=ts.length∧∀i,i<k->g (nth ts i)=false) (λk=>ts.length-k) (0) (⟨rfl,rfl,rfl,rfl⟩) (⟨hK,om,by intro i hi;omega⟩) λgg w1 e1 hI=>?_
 obtain⟨hK,hk,cL⟩:=hI
 have hv:=hv.ext hK
 refine W ?_
 refine zc rfl (λh1=>?_) (λh1=>?_)
 have hp:=gh (ps:=ts) (i:=gg) om
 obtain⟨b,off,pa,pn,pc,rfl,hc,eP,fM⟩:=iJ hv hp
 refine W ?_
 refine Qy rfl rfl rfl (hf gg om _ w1 hK (kV fM)) ?_
 rintro _ w2 ⟨rfl,az⟩
 have dm:=az.size
 have hK:=hK.ext az
 refine aZ<|zc rfl (λh2=>?_) (λh2=>?_)
 have hq:=acB om cL h2
 refine W ?_
 exact⟨_,rfl,by rw[hq];rfl,hK⟩
 refine W ?_
 exact⟨gg+1,⟨rfl,rfl,rfl,rfl⟩,⟨hK,om,by intro i hi;rcases Nat.lt_or_ge i gg with h|h;exact cL i h;rw[show i=gg by omega];exact h2⟩,om⟩
 have hq:=acC (λi hi=>cL i om)
 refine W ?_
 exact⟨_,rfl,by rw[hq];rfl,hK⟩
theorem aeR (ts:List aq) (hlen:ts.length<1000000000) (g:aq->Bool) (f:FuncId) (caps:List Value) (v:Value) (L:List Nat) (w:World) (hv:eM L w v ts) 
  (hf:∀i,i<ts.length->∀(u:Value) (w':World),aj [] w w'->bB L w' u (nth ts i)->bz Tryz.prog f (u::caps) w' λr w''=>r= .bool (g (nth ts i))∧aj [] w' w''):
  bz Tryz.prog 89 [v,.func (.func f) #[] caps.toArray] w λr w'=>r= .bool (ts.any g)∧aj [] w w':=by
 have hK:=aj.refl [] w
 refine bS [.tmp 4] 9 Tryz.func89 rfl abg rfl rfl ?_
 refine W ?_
 refine aA (aeQ ts hlen g f caps _ L w hv hf) ?_
 rintro _ w1 ⟨rfl,aI⟩
 have cV:=aI.size
 have hK:=hK.ext aI
 refine W ?_
 exact⟨_,rfl,congrArg Value.bool (acD ts g),hK⟩
def S6 (m:Nat):Prop:=∀(t:aq),t.size<=m->t.size<=100000->WF t->∀(hidden:Bool) (v:Value) (L:List Nat) (w:World),bB L w v t->
  bz Tryz.prog 56 [v,.bool hidden,.bool false] w λr w'=>r= .bool (fa hidden t)∧aj [] w w'
theorem aeS (ih:S6 m) (t:aq) (h:t.size<=m) (h2:t.size<=100000) (cm:WF t) (hidden:Bool) (b1 b2:Nat) (v:Value) (L:List Nat) (w:World) (hv:bB L w v t) 
  (aX:aJ w b1 #[.bool hidden] 4) (aU:aJ w b2 #[.bool false] 4):
  bz Tryz.prog 90 [v,.pointer (some ⟨b1,0,none⟩),.pointer (some ⟨b2,0,none⟩)] w λr w'=>r= .bool (!fa hidden t)∧aj [] w w':=by
 have cO:=hv
 obtain⟨a,n,c,rfl,hn,aP⟩:=cU hv
 have hK:=aj.refl [] w
 refine bS [.tmp 4] 10 Tryz.func90 rfl abi rfl rfl ?_
 refine zr<|eH rfl λw1 aI cQ dk=>ie aI hK cO aX aU λhK cO aX aU=>?_
 refine W ?_
 refine aA (ih t h h2 cm hidden _ L w1 cO) ?_
 rintro _ w2 ⟨rfl,az⟩
 have dm:=az.size
 have hK:=hK.ext az
 refine W ?_
 exact⟨_,rfl,rfl,hK⟩
theorem aeT {c:Nat} {ts:List aq} (h:eM L w (.slice (some ⟨b,off,none⟩) n c) ts) (k:Nat) (p:Prop) (hp:p->k<ts.length):
  ∃qa qn qc,IB p w b (off+k*2) [str (nth ts k).aw,.slice qa qn qc]∧IC p L w (.slice qa qn qc) (nth ts k).ak:=by
 by_cases h2:p
 ·obtain⟨b',off',qa,qn,qc,fH,hq,hqn,hqp⟩:=iJ h (gh (hp h2))
  cases fH
  exact⟨qa,qn,qc,λ_=>hq,λ_=>hqp⟩
 ·exact⟨none,0,0,λhh=>absurd hh h2,λhh=>absurd hh h2⟩
theorem S7 (ts:List aq) (k i:Nat):nth (ts.drop k) i=nth ts (i+k):=by
 simp[nth,List.getD,List.getElem?_drop,Nat.add_comm]
theorem aeV (ts:List aq) (f:aq->Bool):(!ts.any λu=>!f u)=ts.all f:=by
 induction ts with
 |nil=>rfl
 |cons t r ih=>simp only[List.any_cons,List.all_cons,Bool.not_or,Bool.not_not,ih]
theorem MI:∀m,S6 m:=by
 intro m
 induction m with
 |zero=>intro t h;have:=wm t;omega
 |succ m ih=>
  intro t hm rH cm hidden v L w hv
  have cO:=hv
  obtain⟨a,n,c,rfl,hn,aP⟩:=cU hv
  have hK:=aj.refl [] w
  have nZ:=wm t
  refine bS [.tmp 6] 53 Tryz.func56 rfl aaK rfl rfl ?_
  refine zr<|eH rfl λw1 aI cQ dk=>cN aI hK aP cO λhK aP cO=>?_
  refine K2 rfl rfl rfl λw2 az aG dC=>ie az hK aP cO cQ λhK aP cO cQ=>?_
  refine K2 rfl rfl rfl λw3 aH cg gJ=>la aH hK aP cO cQ aG λhK aP cO cQ aG=>?_
  refine W ?_
  refine aA (MH t _ L w3 cO) ?_
  rintro _ w4 ⟨rfl,aO⟩
  have fE:=aO.size
  refine tS aO hK aP cO cQ aG cg λhK aP cO cQ aG cg=>?_
  refine aZ<|zc rfl (λh1=>?_) (λh1=>?_)
  have ha:t.aw≠[]:=λh=>by have:=cm.pos h;omega
  refine WZ ?_
  apply oP 7 12 19 rfl oQ
  intro _
  refine WZ ?_
  apply oB 4 14 18 rfl oQ
  intro _
  refine WZ ?_
  exact oQ
  intro xx
  exact oQ
  intro xx
  refine WZ ?_
  apply oP 7 20 27 rfl oQ
  intro _
  refine zl Iw rfl (cg.at rfl)<|zm<|Fu (t:=22) (b:=false) rfl ?_
  exact oQ
  intro xx
  refine W ?_
  exact⟨_,rfl,show Value.bool _=Value.bool _ from congrArg _ (by rw[Q2 ha,Bool.or_false]),hK⟩
  have j8:0<t.ak.length:=by omega
  have ha:t.aw=[]:=Classical.byContradiction (λh=>by have:=cm.leaf h;rw[this] at j8;exact absurd j8 de)
  have mz:=gh j8
  have hh:cw t=(nth t.ak 0).aw:=FQ ha mz
  refine W ?_
  refine aA (Cj t cm _ L w4 cO) ?_
  rintro _ w5 ⟨rfl,aN⟩
  have l3:=aN.size
  refine la aN hK aP cQ aG cg λhK aP cQ aG cg=>?_
  obtain⟨b,off,pa,pn,pc,rfl,et,eP,fM⟩:=iJ aP mz
  refine W ?_
  refine zc rfl (λh5=>?_) (λh5=>?_)
  have he:(nth t.ak 0).aw=[101]:=hh.symm.trans h5
  have cg:aJ w5 w2.heap.size #[.bool false] 4:=cg
  obtain⟨qa,qn,qc,jk,MJ⟩:=aeT aP 1 ((n:Int)=2) (λh=>om)
  refine jL<|D8 [32,33,34,35,36,37,38,39,40,41,42,43,6] [(6,.bool (decide ((n:Int)=2)&&fa true (nth t.ak 1)))] ?_ ?_
  rcases bE (decide ((n:Int)=2)) with iD|iD
  apply k8 dj 13 (rA 32 12++[6]) (rA 32 12++[6]) [[],[0],[1],[2],[3],[4],[4,5],[4,6],[4,7],[4],[4,8,9],[4,10],[11]] [It.v _,It.v _,It.v _,It.v _,It.v (.bool true),It.v _,It.v _,It.v _,It.v _,It.v _,It.v _,It.v _,It.v _] de rfl
  intro wd aC
  refine VA ?_
  refine vc (λx w6 bN=>?_) ?_
  refine WZ ?_
  exact pv (by exact congrArg Value.bool iD)
  refine VA ?_
  refine vk aC (λx w6 bN=>?_) ?_
  have hg:=iD
  refine zi (i:=1) sk fg rfl rfl (by have:=of_decide_eq_true hg;omega) ?_
  exact pv
  refine vk aC (λx w6 bN=>?_) ?_
  have jk:=jk.ext bN
  have hg:=iD
  refine zL tF fg rfl (jk (of_decide_eq_true hg)) rfl ?_
  exact pv
  refine VA ?_
  refine vk aC (λx w6 bN=>?_) ?_
  have MJ:=MJ.ext bN
  have hg:=iD
  refine aA (ih (nth t.ak 1) (by have:=of_decide_eq_true hg;have:=kY (t:=t) (i:=1) om;omega) (by have:=of_decide_eq_true hg;have:=kY (t:=t) (i:=1) om;omega) (cm.nth (by have:=of_decide_eq_true hg;omega)) true _ L w6 (kV (MJ (of_decide_eq_true hg)))) ?_
  rintro _ w7 ⟨rfl,bW⟩
  have lf:=bW.size
  exact pk bW
  exact VZ
  intro x qu rM
  change OW _ _ _ _ [] (bo (bj _ x _) (zZ 32 [_,_,_,_,_,_,_,_,_,_,_,_]++[(6,_)])) _
  refine W ?_
  exact kE rM
  apply k8 dj 13 (rA 32 12++[6]) (rA 32 12++[6]) [[],[0],[1],[2],[3],[4],[4,5],[4,6],[4,7],[4],[4,8,9],[4,10],[11]] [It.v _,It.v _,It.v _,It.v _,It.v (.bool false),It.v _,It.v _,It.v _,It.v _,It.v _,It.v _,It.v _,It.v _] de rfl
  intro wd aC
  refine VA ?_
  refine vc (λx w6 bN=>?_) ?_
  refine WZ ?_
  exact pv (by exact congrArg Value.bool iD)
  exact VZ
  intro x qu rM
  change OW _ _ _ _ [] (bo (bj _ x _) (zZ 32 [_,_,_,_,_,_,_,_,_,_,_,_]++[(6,_)])) _
  refine W ?_
  exact kE rM
  intro x qu rM
  have hK:=hK.ext rM
  refine jZ<|⟨_,rfl,show Value.bool _=Value.bool _ from congrArg _ ?_,hK⟩
  rw[Ly ha j8 he]
  congr 1
  exact decide_eq_decide.2 om
  have dL:(nth t.ak 0).aw≠[101]:=λh=>h5 (hh.trans h)
  refine W ?_
  refine ix (λ_:Unit=>[(3,.pointer (some ⟨w.heap.size,0,none⟩)),(4,.pointer (some ⟨w1.heap.size,0,none⟩)),(5,.pointer (some ⟨w2.heap.size,0,none⟩)),(44,.bool (decide (cw t=[116])||decide (cw t=[99])))]) (λ_ w'=>w'=w5) ?_ ?_
  refine zc rfl (λh6=>?_) (λh6=>?_)
  refine WZ ?_
  exact⟨(),⟨rfl,rfl,rfl,congrArg Value.bool (zM h6)⟩,rfl⟩
  refine W ?_
  exact⟨(),⟨rfl,rfl,rfl,congrArg Value.bool (zN h6)⟩,rfl⟩
  intro gu w6 e6 hI
  obtain rfl:=hI
  refine zc rfl (λh7=>?_) (λh7=>?_)
  have tL:=zO h7
  rw[hh] at tL
  refine W ?_
  refine Ft (l:=1) sk fg rfl rfl rfl rfl om aP λAK aW=>?_
  have aW:eM L w6 AK (t.ak.drop 1):=by rw[eM,Qq];exact aW
  refine Qx (vs:=[.pointer (some ⟨w1.heap.size,0,none⟩),.pointer (some ⟨w2.heap.size,0,none⟩)]) rfl rfl rfl<|aA (aeR (t.ak.drop 1) (by rw[List.length_drop];omega) (λu=>!fa hidden u) 90 [.pointer (some ⟨w1.heap.size,0,none⟩),.pointer (some ⟨w2.heap.size,0,none⟩)] _ L w6 aW (λi hi u w' k hu=>by rw[List.length_drop] at hi;rw[S7] at hu⊢;exact aeS ih (nth t.ak (i+1)) (by have:=kY (t:=t) (i:=i+1) om;omega) (by have:=kY (t:=t) (i:=i+1) om;omega) (cm.nth om) hidden _ _ _ L _ hu (aG.ext k) (cg.ext k))) ?_
  rintro _ w7 ⟨rfl,bW⟩
  have lf:=bW.size
  have hK:=hK.ext bW
  refine W ?_
  exact⟨_,rfl,show Value.bool _=Value.bool _ from congrArg _ (by rw[Lz ha j8 tL,aeV]),hK⟩
  have tL:=zP h7
  rw[hh] at tL
  refine W ?_
  exact⟨_,rfl,by rw[Q3 ha j8 dL tL];rfl,hK⟩
theorem Ck {a b:World} (h:aj [] w a) (k:RowKit.Below w.heap.size a b):aj [] w b:=
 ⟨k.os.trans h.os,k.tape.trans h.tape,k.output.trans h.output,Nat.le_trans h.size k.size,λi hi hl=>(k.block i hi).trans (h.block i hi hl)⟩
theorem aeW (x y:Nat) (h:x*y<18446744073709551616) (hx:x<18446744073709551616) (hy:y<18446744073709551616) (w:World):
  bz Tryz.prog 131 [.int .u64 x,.int .u64 y] w λv w'=>v= .tuple #[.int .u64 0,.int .u64 ((x*y:Nat):Int)]∧w=w':=
 ⟨qK.mk' Tryz.func131 rfl ZC,Calls.mono (Tryz.bits_Mul x y hx hy w) λ_ _ ⟨he,hw⟩=>⟨_,he,by rw[Nat.div_eq_of_lt h,Nat.mod_eq_of_lt h];rfl,hw.symm⟩⟩
theorem aeX (B b n:Nat) (w:World) (hB:B<=b) (fI:aJ w b #[.pointer none,.slice none 0 0] 101) (oa:B<=w.heap.size) (hn:n<=281474976710656):
  bz Tryz.prog 132 [.pointer (some ⟨b,0,none⟩),.int .i64 n] w λv w'=>v= .tuple #[]∧Lib.IsBuilderF 101 5 B b (Lib.byteCells []) w'∧RowKit.Below B w w':=
 ⟨qK.mk' Tryz.func132 rfl ZD,Calls.mono (Tryz.Builder_Grow_fresh B b n w hB fI oa hn) λ_ _ ⟨he,hb,hk⟩=>⟨_,he,rfl,.inr (Lib.BuilderAtF.of hb),hk⟩⟩
theorem S8 (B b:Nat) (l s:ai) (w:World) (h:Lib.IsBuilderF 101 5 B b (Lib.byteCells l) w) (hlen:l.length+s.length<=140737488355328) (oa:B<=w.heap.size):
  bz Tryz.prog 103 [.pointer (some ⟨b,0,none⟩),str s] w λv w'=>(∃u,v=u)∧Lib.IsBuilderF 101 5 B b (Lib.byteCells (l++s)) w'∧RowKit.Below B w w':=
 ⟨qK.mk' Tryz.func103 rfl Qz,Calls.mono (Tryz.Builder_WriteString_f B b _ ⟨s.toArray⟩ w h (by rw[Lib.byteCells_length];simpa[ByteArray.size] using hlen) oa) λ_ _ ⟨he,hb,hk⟩=>⟨_,he,⟨_,rfl⟩,.inr (by have e1:Lib.byteCells (l++s)=Lib.byteCells l++Lib.strCells ⟨s.toArray⟩:=by{simp[Lib.byteCells,Lib.strCells]};rw[e1];exact hb),hk⟩⟩
theorem MK (B b:Nat) (l:ai) (w:World) (h:Lib.IsBuilderF 101 5 B b (Lib.byteCells l) w):
  bz Tryz.prog 133 [.pointer (some ⟨b,0,none⟩)] w λv w'=>v= .int .i64 (l.length:Int)∧w=w':=
 ⟨qK.mk' Tryz.func133 rfl ZE,Calls.mono (Tryz.Builder_Len_f B b _ w h) λ_ _ ⟨he,hw⟩=>⟨_,he,by rw[Lib.byteCells_length],hw.symm⟩⟩
theorem S9 (B b:Nat) (l:ai) (h0:l≠[]) (w:World) (h:Lib.IsBuilderF 101 5 B b (Lib.byteCells l) w):
  bz Tryz.prog 69 [.pointer (some ⟨b,0,none⟩)] w λv w'=>v=str l∧Lib.IsBuilderF 101 5 B b (Lib.byteCells l) w'∧RowKit.Below B w w':=
 ⟨qK.mk' Tryz.func69 rfl QD,Calls.mono (Tryz.Builder_String_f B b l w h h0) λ_ _ ⟨he,hb,hk⟩=>⟨_,he,rfl,hb,hk⟩⟩
theorem aeY (c:Nat) (hc:c<=8192) (w:World):bz Tryz.prog 93 [str [115],.int .i64 (c:Int)] w λv w'=>v=str (List.replicate c 115)∧aj [] w w':=by
 have hK:=aj.refl [] w
 refine bS [.tmp 4] 125 Tryz.func93 rfl abl rfl rfl ?_
 refine W ?_
 refine zc rfl (λh1=>?_) (λh1=>?_)
 have et:c=0:=by omega
 refine W ?_
 exact⟨_,rfl,by rw[et];rfl,hK⟩
 refine W ?_
 refine zc rfl (λh2=>?_) (λh2=>?_)
 have bK:c=1:=by omega
 refine W ?_
 exact⟨_,rfl,by rw[bK];rfl,hK⟩
 refine W ?_
 refine zc rfl (λh3=>?_) (λh3=>?_)
 exfalso
 omega
 refine W ?_
 refine xL wj Iv rfl rfl rfl (show IntKind.u64.wrap (([115]:ai).length:Int)=((1:Nat):Int) from by decide)<|zm<|xL wj Iv rfl rfl rfl (show IntKind.u64.wrap (c:Int)=((c:Nat):Int) from by rw[wrap_u64 _ om om])<|aA (aeW 1 c om om om _) ?_
 rintro _ _ ⟨rfl,rfl⟩
 refine zm<|zx (i:=0) rfl rfl<|zx (i:=1) rfl rfl<|zA<|zA<|aZ<|jL<|zr<|zm<|Fq rfl rfl rfl rfl rfl<|zm ?_
 apply BF 3 31 34 [31,32,33,34] (λw'=>w=w') rfl
 intro h4
 replace h4:=jj h4
 refine W ?_
 exact mg rfl rfl
 intro h4
 replace h4:=jj h4
 refine W ?_
 exact mg rfl rfl
 rintro xx _ rfl
 refine aZ<|zc rfl (λh5=>?_) (λh5=>?_)
 exfalso
 simp at h5
 omega
 refine gY<|zr<|zm<|xL Iv wj rfl rfl rfl (show IntKind.i64.wrap ((1*c:Nat):Int)=(c:Int) from by rw[wrap_i64 _ om om];omega)<|W ?_
 refine zc rfl (λh6=>?_) (λh6=>?_)
 exact absurd h6 de
 refine W ?_
 refine j3 (i:=0) il rfl rfl rfl rfl (je de)<|W ?_
 refine zc rfl (λh7=>?_) (λh7=>?_)
 exact absurd h7 de
 refine W ?_
 refine zc rfl (λh8=>?_) (λh8=>?_)
 exact absurd h8 de
 refine W ?_
 refine zc rfl (λh9=>?_) (λh9=>?_)
 exact absurd h9 de
 refine W ?_
 refine zc rfl (λfO=>?_) (λfO=>?_)
 exact absurd fO de
 refine W ?_
 refine zc rfl (λoU=>?_) (λoU=>?_)
 exact absurd oU de
 refine W ?_
 refine zc rfl (λkC=>?_) (λkC=>?_)
 exfalso
 omega
 refine gY<|zr<|dx Lq rfl rfl rfl λw1 aI cW dk=>?_
 have hK:=hK.ext aI
 refine aZ<|zr<|zm<|aA (aeX w.heap.size w.heap.size c w1 (lR _) cW om om) ?_
 rintro _ w2 ⟨rfl,hB,rb⟩
 have hK:=Ck hK rb
 refine aZ<|zr<|zm<|aA (S8 w.heap.size w.heap.size [] [115] w2 hB sm (by have:=hK.size;omega)) ?_
 rintro _ w3 ⟨_,hB,rb⟩
 have hK:=Ck hK rb
 refine W ?_
 refine eA (λk:Nat=>[(0,str [115]),(7,.int .i64 (c:Int)),(8,.int .i64 (c:Int)),(9,.pointer (some ⟨w.heap.size,0,none⟩))]) (λk w'=>aj [] w w'∧Lib.IsBuilderF 101 5 w.heap.size w.heap.size (Lib.byteCells (List.replicate k 115)) w'∧1<=k∧k<=c) (λk=>c-k) (1) (⟨rfl,rfl,rfl,rfl⟩) (⟨hK,hB,om,om⟩) λgg w4 e4 hI=>?_
 obtain⟨hK,hB,hk,kJ⟩:=hI
 have fC:=hK.size
 refine jL<|zr<|aA (MK _ _ _ _ hB) ?_
 rintro _ _ ⟨rfl,rfl⟩
 rw[List.length_replicate]
 refine W ?_
 refine zc rfl (λoV=>?_) (λoV=>?_)
 have dU:gg<c:=by omega
 refine W ?_
 refine aA (MK _ _ _ _ hB) ?_
 rintro _ _ ⟨rfl,rfl⟩
 rw[List.length_replicate]
 refine W ?_
 refine aA (MK _ _ _ _ hB) ?_
 rintro _ _ ⟨rfl,rfl⟩
 rw[List.length_replicate]
 refine zm<|Y5 rfl rfl rfl rfl rfl (show(if(c:Int)<(if(gg:Int)<(c:Int)-gg then(gg:Int) else(c:Int)-gg) then(c:Int) else(if(gg:Int)<(c:Int)-gg then(gg:Int) else(c:Int)-gg))=((min gg (c-gg):Nat):Int) from by repeat' split<;>omega)<|zA<|aZ<|kH<|aA (S9 _ _ _ (by intro h;have:=congrArg List.length h;simp at this;omega) w4 hB) ?_
 rintro _ w5 ⟨rfl,hB,rb⟩
 have hK:=Ck hK rb
 refine zm<|BE il rfl rfl rfl (.inl ⟨rfl,rfl⟩) (.inr ⟨_,rfl⟩) om (by rw[List.length_replicate];omega)<|aA (S8 w.heap.size w.heap.size _ _ w5 hB so (by have:=hK.size;omega)) ?_
 rintro _ w6 ⟨_,hB,rb⟩
 have hK:=Ck hK rb
 refine W ?_
 exact⟨gg+min gg (c-gg),⟨rfl,rfl,rfl,rfl⟩,⟨hK,by have e1:List.replicate gg 115++((List.replicate gg (115:UInt8)).drop 0).take (min gg (c-gg)-0)=List.replicate (gg+min gg (c-gg)) 115:=by{rw[List.drop_zero,Nat.sub_zero,List.take_replicate,List.replicate_append_replicate];congr 1;omega};rw[<-e1];exact hB,om,om⟩,om⟩
 have he:gg=c:=by omega
 refine W ?_
 refine aA (S9 _ _ _ (by intro h;have:=congrArg List.length h;simp at this;omega) w4 hB) ?_
 rintro _ w5 ⟨rfl,hB,rb⟩
 have hK:=Ck hK rb
 refine W ?_
 exact⟨_,rfl,by rw[<-he];rfl,hK⟩
end Go.Proofs.YtkcegcjelmmilaaGreatDoor
