/- Lemmas for the law FnReach, no statement of their own: no conditions. -/
import Derived.Test.YthbhobaiopccaaaGreatDoorKk
import Derived.JoinedOf
import Derived.Lib.SliceRun
import Derived.SevenTiedAt
import Derived.Test.YthbhobaiopccaaaGreatDoorRows
set_option maxHeartbeats 4000000
set_option linter.unusedVariables false
set_option linter.unusedSimpArgs false
namespace Go.Proofs.YthbhobaiopccaaaGreatDoor
open Go
variable {ps:List cI} {s:ai} {E T b bytes c i j k m n:Nat} {q:List Int} {xs:List ai} {bs:List Bk} {z:Value} {p:ai->Bool} {w w':World}
def ua:ai:=[109,97,105,110]
theorem Ra (bs:List Bk) (l:ai):iO (bs.map cP) l=lJ bs l:=by
 unfold iO lJ
 rw[List.findIdx?_map]
 rfl
inductive rr (ps:List cI):Nat->Prop
 |main:rr ps 0
 |step {k j:Nat} {s:ai}:rr ps k->s∈iB [dJ ps k]->iO ps s=(j:Int)->rr ps j
theorem Rb (h:iO ps s=(j:Int)):j<ps.length:=by
 rcases YR ps s with h1|h1<;>omega
theorem rr.lt (h0:0<ps.length) (h:rr ps k):k<ps.length:=by
 cases h with
 |main=>exact h0
 |step _ _ e=>exact Rb e
theorem Zv (h:iO ps s=(j:Int)):(dJ ps j).aJ=s:=by
 unfold iO at h
 cases hf:ps.findIdx? (λb=>decide (b.aJ=s)) with
 |none=>rw[hf] at h;exact absurd h (by show¬(-1:Int)=_;omega)
 |some i=>
  rw[hf] at h
  have jS:i=j:=by have h:(i:Int)=j:=h;omega
  subst jS
  obtain⟨hj,hd,_⟩:=List.findIdx?_eq_some_iff_getElem.1 hf
  simpa[List.getD,gE hj] using hd
structure Eo (ps:List cI) (ms:List Bool) (q:List Int) (kk n:Nat):Prop where
 snd:∀k,ms.getD k false=true->rr ps k
 sndq:∀k:Nat,(k:Int)∈q->rr ps k
 main:ms.getD 0 false=true∨((0:Nat):Int)∈q
 cl:∀k,ms.getD k false=true->∀i s,(iB [dJ ps k])[i]?=some s->(k=kk->i<n)->∀j:Nat,iO ps s=(j:Int)->ms.getD j false=true∨(j:Int)∈q
structure sU (ps:List cI) (ms:List Bool) (q:List Int):Prop where
 snd:∀k,ms.getD k false=true->rr ps k
 sndq:∀k:Nat,(k:Int)∈q->rr ps k
 main:ms.getD 0 false=true∨((0:Nat):Int)∈q
 cl:∀k,ms.getD k false=true->∀s,s∈iB [dJ ps k]->∀j:Nat,iO ps s=(j:Int)->ms.getD j false=true∨(j:Int)∈q
theorem Zw (n k:Nat):(List.replicate n false).getD k false=false:=by
 rw[gG,List.getElem?_replicate];split<;>rfl
theorem sU.init (ps:List cI) (n:Nat):sU ps (List.replicate n false) [0]:=
 ⟨λk h=>absurd h (by rw[Zw];decide),λk h=>by
  have:(k:Int)=0:=by simpa using h
  have:k=0:=by omega
  subst this;exact .main,.inr sm,λk h=>absurd h (by rw[Zw];decide)⟩
theorem sU.skip {ms:List Bool} {z:Int} (h:sU ps ms (z::q)) (hz:∀k:Nat,z=(k:Int)->ms.getD k false=true):sU ps ms q:=
 ⟨h.snd,λk hk=>h.sndq k (mK _ hk),by
  rcases h.main with h1|h1
  ·exact .inl h1
  ·rcases mC.1 h1 with h1|h1
   ·exact .inl (hz 0 h1.symm)
   ·exact .inr h1,λk hk s hs j hj=>by
  rcases h.cl k hk s hs j hj with h1|h1
  ·exact .inl h1
  ·rcases mC.1 h1 with h1|h1
   ·exact .inl (hz j h1.symm)
   ·exact .inr h1⟩
theorem I3 {ms:List Bool} {kk:Nat} (hk:kk<ms.length) (k:Nat):(ms.set kk true).getD k false=if k=kk then true else ms.getD k false:=by
 rw[gG,List.getElem?_set]
 by_cases h:k=kk
 ·subst h;rw[iP rfl,iP hk,iP rfl];rfl
 ·rw[iN (λe=>h e.symm),iN h,gG]
theorem sU.mark {ms:List Bool} {kk:Nat} (h:sU ps ms ((kk:Int)::q)) (hk:kk<ms.length) (hm:ms.getD kk false=false):Eo ps (ms.set kk true) q kk 0:=
 ⟨λk h1=>by
  rw[I3 hk] at h1
  split at h1
  ·next e=>rw[e];exact h.sndq kk (List.mem_cons_self ..)
  ·exact h.snd k h1,λk h1=>h.sndq k (mK _ h1),by
  rw[I3 hk]
  split
  ·exact .inl rfl
  ·next ne=>
   rcases h.main with h1|h1
   ·exact .inl h1
   ·rcases mC.1 h1 with h1|h1
    ·exact absurd (show 0=kk by omega) ne
    ·exact .inr h1,λk h1 i s hs hi j hj=>by
  by_cases e:k=kk
  ·exact absurd (hi e) (Nat.not_lt_zero _)
  ·rw[I3 hk,iN e] at h1
   rw[I3 hk]
   split
   ·exact .inl rfl
   ·next ne=>
    rcases h.cl k h1 s (List.mem_of_getElem? hs) j hj with h2|h2
    ·exact .inl h2
    ·rcases mC.1 h2 with h2|h2
     ·exact absurd (show j=kk by omega) ne
     ·exact .inr h2⟩
theorem Eo.push {ms:List Bool} {kk:Nat} (h:Eo ps ms q kk n) (hm:ms.getD kk false=true) (hn:n<(iB [dJ ps kk]).length):Eo ps ms (q++[iO ps (bD (iB [dJ ps kk]) n)]) kk (n+1):=
 ⟨h.snd,λk hk=>by
  rcases mA.1 hk with hk|hk
  ·exact h.sndq k hk
  ·exact .step (h.snd kk hm) (List.mem_of_getElem? (ik hn)) (List.mem_singleton.1 hk).symm,
  by rcases h.main with h1|h1;(·exact .inl h1);(·exact .inr (List.mem_append_left _ h1)),λk hk i s hs hi j hj=>by
  by_cases e:k=kk∧i=n
  ·obtain⟨rfl,rfl⟩:=e
   rw[ik hn] at hs
   cases hs
   exact .inr (mR _ (by rw[hj];simp))
  ·rcases h.cl k hk i s hs (λe1=>by have:=hi e1;have:i≠n:=λe2=>e ⟨e1,e2⟩;omega) j hj with h1|h1
   ·exact .inl h1
   ·exact .inr (List.mem_append_left _ h1)⟩
theorem Eo.done {ms:List Bool} {kk:Nat} (h:Eo ps ms q kk n) (hn:(iB [dJ ps kk]).length<=n):sU ps ms q:=
 ⟨h.snd,h.sndq,h.main,λk hk s hs j hj=>by
  obtain⟨i,hi,e⟩:=List.getElem_of_mem hs
  exact h.cl k hk i s (by rw[gE hi,e]) (λe1=>by subst e1;omega) j hj⟩
theorem sU.fin {ms:List Bool} (h:sU ps ms []) (k:Nat):ms.getD k false=true↔rr ps k:=
 ⟨h.snd k,λhr=>by
  induction hr with
  |main=>rcases h.main with h1|h1;(·exact h1);(·cases h1)
  |step _ hs hj ih=>rcases h.cl _ ih _ hs _ hj with h1|h1;(·exact h1);(·cases h1)⟩
theorem ao1 (out:List ai) (t:aq) (s:ai):s∈addN out t↔s∈out∨nR t=some s:=by
 unfold addN
 cases h:nR t with
 |none=>simp
 |some r=>
  dsimp only
  split
  ·next hr=>exact⟨.inl,λh9=>h9.elim id λe=>by cases e;exact hr⟩
  ·rw[mA,List.mem_singleton]
   exact⟨λh9=>h9.imp_right λe=>by rw[e],λh9=>h9.imp_right λe=>by cases e;rfl⟩
theorem ao2 {out:List ai} (h:out.Nodup) (t:aq):(addN out t).Nodup:=by
 unfold addN
 cases nR t with
 |none=>exact h
 |some r=>
  dsimp only
  split
  ·exact h
  ·next hr=>exact List.nodup_append.2 ⟨h,sm,λa ha b hb e=>hr (by rw[<-List.mem_singleton.1 hb,<-e];exact ha)⟩
theorem Rc (s:ai):∀(ts:List aq) (out:List ai),s∈ts.foldl addN out↔s∈out∨∃t,t∈ts∧nR t=some s
 |[],out=>by simp
 |t::ts,out=>by
  rw[List.foldl_cons,Rc s ts,ao1]
  constructor
  ·rintro((h|h)|⟨u,h1,h2⟩)
   ·exact .inl h
   ·exact .inr ⟨t,List.mem_cons_self ..,h⟩
   ·exact .inr ⟨u,mK _ h1,h2⟩
  ·rintro(h|⟨u,h1,h2⟩)
   ·exact .inl (.inl h)
   ·rcases mC.1 h1 with rfl|h1
    ·exact .inl (.inr h2)
    ·exact .inr ⟨u,h1,h2⟩
theorem Zx:∀(ts:List aq) {out:List ai},out.Nodup->(ts.foldl addN out).Nodup
 |[],_,h=>h
 |t::ts,_,h=>Zx ts (ao2 h t)
theorem Rd:∀(ts:List aq) (out:List ai),∃r,ts.foldl addN out=out++r
 |[],out=>⟨[],sm⟩
 |t::ts,out=>by
  obtain⟨r1,h1⟩:∃r,addN out t=out++r:=by
   unfold addN
   cases nR t with
   |none=>exact⟨[],sm⟩
   |some s=>
    dsimp only
    split
    ·exact⟨[],sm⟩
    ·exact⟨[s],rfl⟩
  obtain⟨r2,h2⟩:=Rd ts (addN out t)
  exact⟨r1++r2,by rw[List.foldl_cons,h2,h1,List.append_assoc]⟩
theorem I4 (s:ai) (ps:List cI):s∈iB ps↔∃b,b∈ps∧∃t,t∈b.code∧nR t=some s:=by
 have key:∀(ps:List cI) (out:List ai),s∈ps.foldl r6 out↔s∈out∨∃b,b∈ps∧∃t,t∈b.code∧nR t=some s:=by
  intro ps
  induction ps with
  |nil=>intro out;simp
  |cons b ps ih=>
   intro out
   rw[List.foldl_cons,ih,r6,Rc]
   constructor
   ·rintro((h|h)|⟨c,h1,h2⟩)
    ·exact .inl h
    ·exact .inr ⟨b,List.mem_cons_self ..,h⟩
    ·exact .inr ⟨c,mK _ h1,h2⟩
   ·rintro(h|⟨c,h1,h2⟩)
    ·exact .inl (.inl h)
    ·rcases mC.1 h1 with rfl|h1
     ·exact .inl (.inr h2)
     ·exact .inr ⟨c,h1,h2⟩
 unfold iB
 rw[key];simp
theorem Re (s:ai) (out:List ai) (b:cI):s∈r6 out b↔s∈out∨s∈iB [b]:=by
 rw[I4,r6,Rc];simp
theorem Zy (hk:k<ps.length) (h:s∈iB [dJ ps k]):s∈iB ps:=by
 obtain⟨b,hb,h⟩:=(I4 s _).1 h
 rw[List.mem_singleton.1 hb] at h
 exact(I4 s _).2 ⟨_,List.mem_of_getElem? (rE hk),h⟩
theorem Zz {α:Type} [DecidableEq α]:∀{xs ys:List α},xs.Nodup->(∀x,x∈xs->x∈ys)->xs.length<=ys.length
 |[],ys,_,_=>Nat.zero_le _
 |x::xs,ys,hn,h=>by
  have hx:=h x (List.mem_cons_self ..)
  have h1:=Zz (xs:=xs) (ys:=ys.erase x) (List.nodup_cons.1 hn).2 λy hy=>(List.mem_erase_of_ne (λe=>(List.nodup_cons.1 hn).1 (by rw[<-e];exact hy))).2 (h y (mK _ hy))
  rw[List.length_erase_of_mem hx] at h1
  have:=List.length_pos_of_mem hx
  rw[lC];omega
structure pX (ps:List cI) (xs:List ai) (i:Nat):Prop where
 nodup:xs.Nodup
 snd:∀s,s∈xs->s=ua∨∃k,rr ps k∧s∈iB [dJ ps k]
 main:ua∈xs
 cl:∀j s,j<i->xs[j]?=some s->∀k:Nat,iO ps s=(k:Int)->∀r,r∈iB [dJ ps k]->r∈xs
theorem pX.init (ps:List cI):pX ps [ua] 0:=
 ⟨by simp,λs h=>.inl (List.mem_singleton.1 h),sm,λj s h=>absurd h (Nat.not_lt_zero _)⟩
theorem pX.skip (h:pX ps xs i) (hf:∀k:Nat,iO ps (bD xs i)≠(k:Int)):pX ps xs (i+1):=
 ⟨h.nodup,h.snd,h.main,λj s hj hs k hk r hr=>by
  rcases Nat.lt_or_ge j i with h1|h1
  ·exact h.cl j s h1 hs k hk r hr
  ·have:j=i:=by omega
   subst this
   have:bD xs j=s:=by simp[bD,hs]
   exact absurd (this▸hk) (hf k)⟩
theorem pX.ZA (h:pX ps xs i) (h0:iO ps ua=0) (hs:s∈xs) (hk:iO ps s=(k:Int)):rr ps k:=by
 rcases h.snd s hs with e|⟨j,hj,hn⟩
 ·subst e
  have:k=0:=by omega
  subst this;exact .main
 ·exact .step hj hn hk
theorem pX.add (h:pX ps xs i) (h0:iO ps ua=0) (hi:i<xs.length) (hk:iO ps (bD xs i)=(k:Int)):pX ps (r6 xs (dJ ps k)) (i+1):=by
 have hr:=h.ZA h0 (List.mem_of_getElem? (ik hi)) hk
 obtain⟨ys,I1⟩:=Rd (dJ ps k).code xs
 refine⟨Zx _ h.nodup,λs hs=>?_,(Re ..).2 (.inl h.main),λj s hj hs k2 az r bZ=>?_⟩
 ·rcases(Re ..).1 hs with h1|h1
  ·exact h.snd s h1
  ·exact .inr ⟨k,hr,h1⟩
 ·have hs:xs[j]?=some s:=by
   rw[show r6 xs (dJ ps k)=xs++ys from I1,List.getElem?_append_left om] at hs
   exact hs
  rw[Re]
  rcases Nat.lt_or_ge j i with h1|h1
  ·exact .inl (h.cl j s h1 hs k2 az r bZ)
  ·have:j=i:=by omega
   subst this
   have e:bD xs j=s:=by simp[bD,hs]
   rw[e,az] at hk
   have:k2=k:=by omega
   subst this
   exact .inr bZ
theorem pX.len (h:pX ps xs i) (h0:0<ps.length):xs.length<=kC ps+1:=by
 have h1:=Zz (ys:=ua::iB ps) h.nodup λs hs=>by
  rcases h.snd s hs with e|⟨k,hk,hn⟩
  ·rw[e];exact List.mem_cons_self ..
  ·exact mK _ (Zy (hk.lt h0) hn)
 have h2:=F7 ps
 rw[lC] at h1
 omega
def Ma (ps:List cI):Prop:=0<ps.length∧(∀k,k<ps.length->iO ps (dJ ps k).aJ=(k:Int))∧(dJ ps 0).aJ=ua
theorem Ma.main (h:Ma ps):iO ps ua=0:=by rw[<-h.2.2];exact h.2.1 0 h.1
theorem pX.fin (h:pX ps xs xs.length) (ho:Ma ps) (hk:k<ps.length):(dJ ps k).aJ∈xs↔rr ps k:=by
 refine⟨λhm=>h.ZA ho.main hm (ho.2.1 k hk),λhr=>?_⟩
 induction hr with
 |main=>rw[ho.2.2];exact h.main
 |@step k j s hr hs hj ih=>
  obtain⟨i,hi,e⟩:=List.getElem_of_mem (ih (hr.lt ho.1))
  have:=h.cl i _ hi (by rw[gE hi,e]) k (ho.2.1 k (hr.lt ho.1)) s hs
  rw[Zv hj];exact this
def fW (ms:List Bool) (bs:List Bk):Nat->List Bk
 |0=>[]
 |k+1=>fW ms bs k++if ms.getD k false=true then[bR bs k] else[]
def RM (bs:List Bk) (ms:List Bool):Prop:=∀k,ms.getD k false=true↔rr (bs.map cP) k
theorem RM.zero {ms:List Bool} (h:RM bs ms):ms.getD 0 false=true:=(h 0).2 .main
theorem Rf {ms ns:List Bool} (h:RM bs ms) (h':RM bs ns):∀k,fW ms bs k=fW ns bs k
 |0=>rfl
 |k+1=>by
  rw[fW,fW,Rf h h' k]
  by_cases hk:ms.getD k false=true
  ·rw[iP hk,iP ((h' k).2 ((h k).1 hk))]
  ·rw[iN hk,iN λhh=>hk ((h k).2 ((h' k).1 hh))]
theorem Mb {ms:List Bool}:∀{k:Nat} {b:Bk},b∈fW ms bs k↔∃i,i<k∧ms.getD i false=true∧b=bR bs i
 |0,b=>by simp[fW]
 |k+1,b=>by
  rw[fW,mA,Mb]
  constructor
  ·rintro(⟨i,h1,h2,h3⟩|h)
   ·exact⟨i,om,h2,h3⟩
   ·split at h
    ·next hm=>exact⟨k,om,hm,List.mem_singleton.1 h⟩
    ·cases h
  ·rintro⟨i,h1,h2,h3⟩
   by_cases e:i=k
   ·subst e;exact .inr (by rw[iP h2];exact List.mem_singleton.2 h3)
   ·exact .inl ⟨i,om,h2,h3⟩
theorem ZB (ms:List Bool) (bs:List Bk):∀k,k<=bs.length->(fW ms bs k).Sublist (bs.take k)
 |0,_=>by simp[fW]
 |k+1,h=>by
  rw[fW,List.take_add_one,kq om]
  refine List.Sublist.append (ZB ms bs k om) ?_
  split
  ·exact List.Sublist.refl _
  ·exact List.nil_sublist _
theorem Rg {ms:List Bool} (bs:List Bk) (h:ms.getD 0 false=true):∀k,∃r,fW ms bs (k+1)=bR bs 0::r
 |0=>⟨[],by rw[fW,fW,iP h];rfl⟩
 |k+1=>by
  obtain⟨r,e⟩:=Rg bs h k
  exact⟨r++_,by rw[fW,e];rfl⟩
theorem ao3 {b:Bk} (h:kH b=true):(b.code.map tr).map aq.text=b.code:=by
 have hp:=(GI h).2.2
 rw[List.map_map]
 conv=>rhs;rw[<-List.map_id b.code]
 refine List.map_congr_left λs hs=>?_
 obtain⟨t,ht,_⟩:=hp s hs
 show(tr s).text=s
 rw[GH ht,(uw ht).2.2.1]
theorem ao4 {b:Bk} (h:kH b=true):o8 (cP b)=b:=by
 have h1:=ao0 h
 have h2:=ao3 h
 unfold o8 cP
 dsimp only
 rw[h1,h2]
theorem Cm (hk:k<bs.length):dJ (bs.map cP) k=cP (bR bs k):=by
 have:=rE (ps:=bs.map cP) (i:=k) (by rw[List.length_map];exact hk)
 rw[List.getElem?_map,kq hk] at this
 exact(Option.some.inj this).symm
theorem Rh (h:eN bs=true) (ms:List Bool):∀k,k<=bs.length->nS ms (bs.map cP) k=fW ms bs k
 |0,_=>rfl
 |k+1,hk=>by
  rw[nS,fW,Rh h ms k om]
  rw[Cm om,ao4 (AN h _ (List.mem_of_getElem? (kq om)))]
theorem ZC:(bs.map Bk.aJ).Nodup↔∀i j,i<bs.length->j<bs.length->i<j->(bR bs i).aJ≠(bR bs j).aJ:=by
 unfold List.Nodup
 rw[List.pairwise_iff_getElem]
 constructor
 ·intro h i j hi hj jS
  have:=h i j (by rw[List.length_map];exact hi) (by rw[List.length_map];exact hj) jS
  rw[List.getElem_map,List.getElem_map,<-GM hi,<-GM hj] at this
  exact this
 ·intro h i j hi hj jS
  rw[List.length_map] at hi hj
  rw[List.getElem_map,List.getElem_map,<-GM hi,<-GM hj]
  exact h i j hi hj jS
theorem ZD (hn:(bs.map Bk.aJ).Nodup) (hi:i<bs.length):lJ bs (bR bs i).aJ=(i:Int):=
 MK hi (λj hj=>ZC.1 hn j i om hi hj) rfl
theorem ZE (h:eN bs=true):(bs.map Bk.aJ).Nodup:=by
 unfold eN at h
 simp only[aE,dE] at h
 refine ZC.2 λi j hi hj jS e=>?_
 have h1:=(h.1 i hi).2
 have h2:=(h.1 j hj).2
 rw[e,h2] at h1
 omega
theorem ao5 (h:eN bs=true) {ms:List Bool} (h0:ms.getD 0 false=true):eN (fW ms bs bs.length)=true:=by
 have hn:=ZE h
 have hb:=AN h
 have oK:=ZB ms bs bs.length (lR _)
 rw[List.take_length] at oK
 have hlen:=oK.length_le
 have wg:=h
 unfold eN at wg⊢
 simp only[aE,dE] at wg⊢
 obtain⟨r,er⟩:∃r,fW ms bs bs.length=bR bs 0::r:=by
  have:=wg.2.1.1.1
  obtain⟨m,hm⟩:∃m,bs.length=m+1:=⟨bs.length-1,om⟩
  rw[hm];exact Rg bs h0 m
 have e0:bR (fW ms bs bs.length) 0=bR bs 0:=by rw[er];rfl
 refine⟨λi hi=>⟨hb _ (oK.subset (List.mem_of_getElem? (kq hi))),ZD (List.Nodup.sublist (oK.map _) hn) hi⟩,⟨⟨by rw[er];simp,om⟩,?_⟩,?_⟩
 ·rw[e0];exact wg.2.1.2
 ·rw[e0];exact wg.2.2
def k9 (ms:List Bool) (bs:List Bk) (k:Nat):List ai:=(fW ms bs k).map Bk.aJ
theorem ao6 {ms:List Bool} (h:ms.getD k false=true):k9 ms bs (k+1)=k9 ms bs k++[(bR bs k).aJ]:=by
 unfold k9;rw[fW,iP h,List.map_append];rfl
theorem ao7 {ms:List Bool} (h:ms.getD k false=false):k9 ms bs (k+1)=k9 ms bs k:=by
 unfold k9;rw[fW,iN (by rw[h];decide),List.append_nil]
theorem Gb (ms:List Bool) (bs:List Bk):∀k,(fW ms bs k).length<=k
 |0=>by simp[fW]
 |k+1=>by
  have:=Gb ms bs k
  rw[fW,lA];split<;>simp<;>omega
def I5 (ok:Bool) (bs:List Bk) (xs:List ai):Prop:=(ok=false->xs=[])∧(ok=true->∃ms,RM bs ms∧xs=k9 ms bs bs.length)
theorem I5.same {ok:Bool} {ys:List ai} (h:I5 ok bs xs) (h':I5 ok bs ys):xs=ys:=by
 cases ok with
 |false=>rw[h.1 rfl,h'.1 rfl]
 |true=>
  obtain⟨ms,h1,e1⟩:=h.2 rfl
  obtain⟨ns,h2,e2⟩:=h'.2 rfl
  rw[e1,e2];unfold k9;rw[Rf h1 h2]
theorem Ri (h:eN bs=true):Ma (bs.map cP):=by
 have hn:=ZE h
 unfold eN at h
 simp only[aE,dE] at h
 refine⟨by rw[List.length_map];omega,λk hk=>?_,?_⟩
 ·rw[List.length_map] at hk
  rw[Cm hk]
  show iO (bs.map cP) (bR bs k).aJ=_
  rw[Ra];exact ZD hn hk
 ·rw[Cm om];exact h.2.1.2
theorem ao8 (h:eN bs=true) {ms:List Bool} (hm:RM bs ms) (hs:s∈iB ((fW ms bs bs.length).map cP)):s∈k9 ms bs bs.length∨s∈(iB (bs.map cP)).filter λs=>!decide (iO (bs.map cP) s≥0):=by
 have ho:=Ri h
 obtain⟨b,hb,hn⟩:=(I4 ..).1 hs
 obtain⟨c,hc,rfl⟩:=List.mem_map.1 hb
 obtain⟨k,hk,sY,rfl⟩:=Mb.1 hc
 have nz:s∈iB [dJ (bs.map cP) k]:=(I4 ..).2 ⟨_,List.mem_singleton.2 rfl,by rw[Cm hk];exact hn⟩
 by_cases hf:iO (bs.map cP) s≥0
 ·obtain⟨j,hj⟩:∃j:Nat,iO (bs.map cP) s=(j:Int):=⟨(iO (bs.map cP) s).toNat,om⟩
  have hr:=rr.step ((hm k).1 sY) nz hj
  have lZ:=Rb hj
  rw[List.length_map] at lZ
  refine .inl (List.mem_map.2 ⟨bR bs j,Mb.2 ⟨j,lZ,(hm j).2 hr,rfl⟩,?_⟩)
  have:=Zv hj
  rw[Cm lZ] at this
  exact this
 ·exact .inr (List.mem_filter.2 ⟨Zy (by rw[List.length_map];exact hk) nz,by rw[dF hf];rfl⟩)
theorem RM.of (h:eN bs=true) (hx:pX (bs.map cP) xs xs.length):RM bs (bs.map λb=>decide (b.aJ∈xs)):=by
 have ho:=Ri h
 intro k
 by_cases hk:k<bs.length
 ·rw[<-hx.fin ho (by rw[List.length_map];exact hk),Cm hk,gG,List.getElem?_map,kq hk]
  exact decide_eq_true_iff
 ·rw[gG,List.getElem?_eq_none (by rw[List.length_map];omega)]
  exact⟨λh=>(by cases h),λh=>absurd (h.lt ho.1) (by rw[List.length_map];exact hk)⟩
theorem ao9 (h:eN bs=true) {ms:List Bool} (hm:RM bs ms):∃r,k9 ms bs bs.length=ua::r:=by
 unfold eN at h
 simp only[aE,dE] at h
 obtain⟨m,hm'⟩:∃m,bs.length=m+1:=⟨bs.length-1,om⟩
 obtain⟨r,e⟩:=Rg bs hm.zero m
 exact⟨r.map Bk.aJ,by unfold k9;rw[hm',e,List.map_cons,h.2.1.2];rfl⟩
theorem apb (h:eN bs=true) {ms:List Bool} (hm:RM bs ms):0<(k9 ms bs bs.length).length∧bD (k9 ms bs bs.length) 0=ua:=by
 obtain⟨r,e⟩:=ao9 h hm
 rw[e];exact⟨by simp,rfl⟩
theorem apc {ms:List Bool} {b:Bk} (hk:k<=bs.length) (h:b∈fW ms bs k):b∈bs:=by
 obtain⟨i,hi,_,rfl⟩:=Mb.1 h
 exact List.mem_of_getElem? (kq om)
theorem aK.setCells {T:TypeId}:∀(vs:List Value) (o:Nat) {w:World} {cs:Array Value},aK w b cs T->∃cs',aK (w.setCells b o vs) b cs' T∧cs'.size=cs.size∧(∀x,x<o->cs'[x]?=cs[x]?)∧aj [b] w (w.setCells b o vs)∧(w.setCells b o vs).heap.size=w.heap.size
 |[],o,w,cs,h=>⟨cs,h,rfl,λ_ _=>rfl,aj.refl _ _,rfl⟩
 |v::vs,o,w,cs,h=>by
  obtain⟨cs',h1,h2,h3,h4,h5⟩:=aK.setCells vs (o+1) (h.set o v)
  refine⟨cs',h1,by rw[h2];simp,λx hx=>?_,(aj.setCell _ _ _ _).trans h4,h5.trans (by simp[World.setCell])⟩
  rw[h3 x om,Array.getElem?_setIfInBounds_ne om]
section
variable {P:Program} {n:Nat} {ops:Array Oper} {K:Env->World->Prop} {rest:List Oper} {e:Env} {w:World}
 {dst:Option Nat} {ty:TypeId} {pos:String} {after:Array Edge} {g:Option (Nat×Bool)} {x y:Operand}
theorem apd {b o m c:Nat} {cs:Array Value} {U:TypeId} (hT:P.underlying T=some (.slice E)) (hE:TI P E 1 bytes z) (hg:gate ops e g=true) 
  (hd:cj n dst=true) (hz:z.cells=#[z]) (h1:z.oneCell'=true) (hx:ev e x= .slice (some ⟨b,o,none⟩) m c) (hb:aK w b cs U) (hm:0<m) (ho:o+m<=cs.size)
  (k:∀w' cs',aj [b] w w'->aK w' b cs' U->cs'.size=cs.size->(∀i,i<o->cs'[i]?=cs[i]?)->w'.heap.size=w.heap.size->OW P n ops K rest (bQ e dst (.tuple #[])) w'):
  OW P n ops K (⟨dst,.call {callee:=.builtin .clear,args:=#[x],argTypes:=#[T]},ty,pos,after,g⟩::rest) e w:=by
 have hr:=Lib.run_clear_slice (P:=P) w T E ty z hT hE.Ja hz h1 b o m c hm (λj hj=>by rw[hb.cell,Array.getElem?_eq_getElem om];rfl) (λj _=>hb.frozen _)
 obtain⟨cs',h2,h3,h4,h5,h6⟩:=hb.setCells (List.replicate m z) o
 refine eJ hg hd (v:=.tuple #[]) (w':=w.setCells b o (List.replicate m z)) ?_ (k _ cs' h5 h2 h3 h4 h6)
 simp[execOp,resolve,invoke,builtin,hx,hr]
theorem ape {lo:Operand} {b m c l:Nat} {ki:IntKind} (hT:P.underlying T=some (.slice E)) (hE:TI P E 1 bytes z) (hg:gate ops e g=true) (hd:cj n dst=true) 
  (hx:ev e x= .slice (some ⟨b,0,none⟩) m c) (si:ev e lo= .int ki (l:Int)) (hl:l<m) (hc:m<=c)
  (k:OW P n ops K rest (bQ e dst (.slice (some ⟨b,0+l*1,none⟩) (m-l) (c-l))) w):OW P n ops K (⟨dst,.slice T x (some lo) none none,ty,pos,after,g⟩::rest) e w:=by
 have h1:l<=m:=by omega
 have h2:¬c=l:=by omega
 refine eJ hg hd (v:=.slice (some ⟨b,0+l*1,none⟩) (m-l) (c-l)) (w':=w) ?_ k
 simp[execOp,Instr.sliceAt,Instr.slice,hx,si,run_underlying hT,Instr.sliceBounds,Instr.sliceBound,asIntOf,h1,h2,hE.qG,p4]
theorem apf {hi:Operand} {b m c l:Nat} {ki:IntKind} (hT:P.underlying T=some (.slice E)) (hE:TI P E 1 bytes z) (hg:gate ops e g=true) (hd:cj n dst=true) 
  (hx:ev e x= .slice (some ⟨b,0,none⟩) m c) (yE:ev e hi= .int ki (l:Int)) (hl:l<=c)
  (k:OW P n ops K rest (bQ e dst (.slice (some ⟨b,0,none⟩) l c)) w):OW P n ops K (⟨dst,.slice T x none (some hi) none,ty,pos,after,g⟩::rest) e w:=by
 refine eJ hg hd (v:=.slice (some ⟨b,0,none⟩) l c) (w':=w) ?_ k
 simp[execOp,Instr.sliceAt,Instr.slice,hx,yE,run_underlying hT,Instr.sliceBounds,Instr.sliceBound,asIntOf,hl,hE.qG,p4]
end
structure qD (xs:List ai) (p:ai->Bool) (b c T:Nat) (i j:Nat) (w:World):Prop where
 ne:∃cs:Array Value,aK w b cs T∧cs.size=c∧(∀(x:Nat) (s:ai),((xs.take j).filter λs=>!p s)[x]?=some s->cs[x]?=some (str s))∧∀x:Nat,j<=x->x<xs.length->cs[x]?=some (str (bD xs x))
 ij:((xs.take j).filter λs=>!p s).length=i
 lt:i<j
 le:j<=xs.length
 cap:xs.length<=c∧c<=maxLen
theorem qD.ext (h:qD xs p b c T i j w) (k:aj [] w w'):qD xs p b c T i j w':=by
 obtain⟨⟨cs,h1,h2⟩,h3,h4,h5,h6⟩:=h
 exact⟨⟨cs,h1.ext k,h2⟩,h3,h4,h5,h6⟩
theorem qD.at (h:qD xs p b c T i j w) (hj:j<xs.length):w.cell? ⟨b,0+j*1,none⟩=some (str (bD xs j)):=by
 obtain⟨cs,h1,_,_,h4⟩:=h.ne
 rw[h1.cell,show 0+j*1=j by omega];exact h4 j (lR _) hj
theorem Rj (q:ai->Bool) (hj:j<xs.length):(xs.take (j+1)).filter q=(xs.take j).filter q++if q (bD xs j)=true then[bD xs j] else[]:=by
 rw[List.take_add_one,ik hj,List.filter_append]
 congr 1
 show List.filter q [bD xs j]=_
 rw[List.filter_cons];split<;>simp
theorem qD.skip (h:qD xs p b c T i j w) (hj:j<xs.length) (hp:p (bD xs j)=true):qD xs p b c T i (j+1) w:=by
 have e:(xs.take (j+1)).filter (λs=>!p s)=(xs.take j).filter λs=>!p s:=by rw[Rj _ hj,hp];simp
 obtain⟨⟨cs,h1,h2,h3,h4⟩,h5,h6,h7,h8⟩:=h
 exact⟨⟨cs,h1,h2,by rw[e];exact h3,λx hx=>h4 x om⟩,by rw[e];exact h5,om,hj,h8⟩
theorem qD.put (h:qD xs p b c T i j w) (hj:j<xs.length) (hp:p (bD xs j)=false) {cs:Array Value} (hb:aK w b cs T) (gB:aK w' b (cs.setIfInBounds i (str (bD xs j))) T):qD xs p b c T (i+1) (j+1) w':=by
 have e:(xs.take (j+1)).filter (λs=>!p s)=((xs.take j).filter λs=>!p s)++[bD xs j]:=by rw[Rj _ hj,hp];simp
 obtain⟨⟨Rk,h1,h2,h3,h4⟩,h5,h6,h7,h8⟩:=h
 have bV:Rk=cs:=by
  have:=h1.symm.trans hb
  cases this;rfl
 subst bV
 refine⟨⟨_,gB,by simpa using h2,λx s hx=>?_,λx hx hl=>?_⟩,by rw[e,lA,h5];rfl,om,hj,h8⟩
 ·rw[e] at hx
  by_cases hxi:x=i
  ·subst hxi
   rw[List.getElem?_append_right om,h5,Nat.sub_self] at hx
   cases hx
   rw[Array.getElem?_setIfInBounds_self_of_lt om]
  ·rw[Array.getElem?_setIfInBounds_ne om]
   refine h3 x s ?_
   rw[List.getElem?_append] at hx
   split at hx
   ·exact hx
   ·have:=(List.getElem?_eq_some_iff.1 hx).1;simp at this;omega
 ·rw[Array.getElem?_setIfInBounds_ne om];exact h4 x om hl
theorem qD.start {cs:Array Value} (hb:aK w b cs T) (hc:cs.size=c) (ht:cs.toList.take xs.length=xs.map λx=>str x) (xg:xs.length<=c∧c<=maxLen) (hi:i<xs.length) (hp:p (bD xs i)=true) (cC:∀j,j<i->p (bD xs j)=false):qD xs p b c T i (i+1) w:=by
 have hk:∀k,k<=i->(xs.take k).filter (λs=>!p s)=xs.take k:=λk hk=>by
  rw[List.filter_eq_self]
  intro s hs
  obtain⟨j,hj,e⟩:=List.getElem_of_mem hs
  rw[List.length_take] at hj
  rw[List.getElem_take] at e
  have h1:=cC j om
  have h2:bD xs j=s:=by unfold bD;rw[gG,gE om,<-e];rfl
  rw[h2] at h1;rw[h1];rfl
 have e:(xs.take (i+1)).filter (λs=>!p s)=xs.take i:=by rw[Rj _ hi,hp,hk i (lR _)];simp
 have eF:∀x,x<xs.length->cs[x]?=some (str (bD xs x)):=λx hx=>by
  have h1:(cs.toList.take xs.length)[x]?=some (str (bD xs x)):=by rw[ht,List.getElem?_map,ik hx];rfl
  rw[List.getElem?_take] at h1
  split at h1
  ·simpa using h1
  ·omega
 refine⟨⟨cs,hb,hc,λx s hx=>?_,λx _ hl=>eF x hl⟩,by rw[e,List.length_take];omega,om,hi,xg⟩
 rw[e,List.getElem?_take] at hx
 split at hx
 ·have hl:=(List.getElem?_eq_some_iff.1 hx).1
  rw[eF x hl];unfold bD;rw[gG,hx];rfl
 ·cases hx
theorem qD.fin (h:qD xs p b c T i xs.length w) {cs cs':Array Value} (hb:aK w b cs T) (gB:aK w' b cs' T) (hs:cs'.size=cs.size) (aph:∀x,x<i->cs'[x]?=cs[x]?):cG w' T (.slice (some ⟨b,0,none⟩) i c) (some b) (xs.filter λs=>!p s):=by
 obtain⟨⟨Rk,h1,h2,h3,_⟩,h5,h6,h7,h8⟩:=h
 have bV:Rk=cs:=by
  have:=h1.symm.trans hb
  cases this;rfl
 subst bV
 rw[List.take_length] at h3 h5
 subst h5
 refine⟨by simp,.inr ⟨b,c,cs',rfl,rfl,gB,om,h8.2,om,?_⟩⟩
 apply List.ext_getElem?
 intro x
 rw[List.getElem?_take,List.getElem?_map]
 split
 ·next hx=>
  rw[Nat.mul_one] at hx
  have hg:(xs.filter λs=>!p s)[x]?=some (xs.filter λs=>!p s)[x]:=gE hx
  rw[hg,Array.getElem?_toList,aph x hx,h3 x _ hg];rfl
 ·next hx=>rw[Nat.mul_one] at hx;rw[List.getElem?_eq_none om];rfl
theorem ZF (ps:List cI) (h0:0<ps.length) (aO:ps.length<=40) (QB:kC ps<=100000) (bh:LL ps) (v:Value) (w:World) (hv:ky [] w v ps):
  bw Tryz.prog 34 [v] w λr w'=>(∃ms:List Bool,ms.length=ps.length∧(∀k,ms.getD k false=true↔rr ps k)∧r= .slice (some ⟨w.heap.size,0,none⟩) ps.length ps.length∧aK w' w.heap.size (ms.map Value.bool).toArray 4)∧aj [] w w':=by
 obtain⟨a,c,rfl⟩:=BB hv
 obtain⟨b0,wj,r1,LJ,r2,IU,rfl,eD,nk,qh⟩:=BC hv (rE (ps:=ps) h0)
 have hK:=aj.refl [] w
 refine bU [.tmp 2] 50 Tryz.func34 rfl adY rfl rfl ?_
 refine W ?_
 refine anA (u:=.bool false) ps.length GQ CM rfl rfl rfl rfl rfl rfl om λw1 aI dh xG=>?_
 have hK:=hK.ext aI
 refine W ?_
 refine eR vQ pq rfl rfl λw2 az iZ dD=>?_
 have hK:=hK.ext az
 refine W ?_
 have auc:=xG
 refine dR (λq:List Bool×Value×Nat×List Int=>[(0,.slice (some ⟨b0,wj,none⟩) ps.length c),(3,.slice (some ⟨w.heap.size,0,none⟩) ps.length ps.length),(4,q.2.1)]) (λq w'=>(wY ps w w' q.1 q.2.1 q.2.2.1 q.2.2.2∧sU ps q.1 q.2.2.2)∧Cj q.1*(kC ps+1)+q.2.2.2.length<=ps.length*(kC ps+1)+1) (λq=>Cj q.1*(kC ps+1)+q.2.2.2.length) ((List.replicate ps.length false,.slice (some ⟨w1.heap.size,0,none⟩) 1 1,w1.heap.size,[0])) (⟨rfl,rfl,rfl⟩) (⟨⟨⟨hK,by rw[List.map_replicate];exact xG.ext az,Qu.one iZ,sm,by rw[dh];exact Nat.lt_succ_self _,by intro z hz;simp at hz;subst hz;omega⟩,sU.init ps ps.length⟩,by rw[ano];simp⟩) λgg w3 e3 hI=>?_
 obtain⟨ms,qv,gq,zints⟩:=gg
 dsimp only at hI⊢
 obtain⟨⟨hI,hR⟩,Fu⟩:=hI
 have aQ:=hI.que.form
 obtain⟨off,cap,rfl⟩:=aQ
 rw[List.length_map] at hI⊢
 have hK:=hI.kp
 refine W ?_
 refine zc rfl (λh1=>?_) (λh1=>?_)
 have dN:zints≠[]:=(by intro e;subst e;simp at h1)
 have aQ:=List.exists_cons_of_ne_nil dN
 obtain⟨z,zints,rfl⟩:=aQ
 have hzr:=hI.rng z (List.mem_cons_self ..)
 refine WI ?_
 refine zi (i:=0) vQ pq rfl rfl sm<|zl M8 rfl hI.que.head<|zA<|aV<|zr<|zm<|anw vQ pq rfl rfl rfl rfl hI.que λqv hQ=>?_
 have hI:=hI.pop hQ
 have aQ:∃kk:Nat,kk=z.toNat:=⟨_,rfl⟩
 obtain⟨kk,ey⟩:=aQ
 refine W ?_
 apply oP 5 22 27 rfl oQ
 intro h2
 have Af:z=(kk:Int):=(by simp at h2;omega)
 subst Af
 refine WL ?_
 refine zl GP rfl (hI.out.at (QD (by rw[hI.len];omega))) ?_
 exact oQ
 intro xx
 refine aV<|zc rfl (λh3=>?_) (λh3=>?_)
 refine WZ ?_
 have hR:=hR.skip (λk hk=>by subst hk;have e9:kk=k:=om;subst e9;have h9:=h3;simp at h9;rcases h9 with h9|h9;(·omega);(·simpa using h9))
 exact⟨(ms,qv,gq,zints),⟨rfl,rfl,rfl⟩,⟨⟨hI,hR⟩,by simp only[lC] at Fu;dsimp only;omega⟩,by simp only[lC];omega⟩
 have Af:z=(kk:Int)∧ms.getD kk false=false:=(by simp at h3;exact⟨by omega,by simpa using h3.2⟩)
 obtain⟨Af,sY⟩:=Af
 subst Af
 have eM:kk<ps.length:=by omega
 have hJ:=sU.mark hR (by rw[hI.len];exact eM) sY
 refine WI ?_
 refine zi GQ CM rfl rfl eM<|gD (o:=0+kk*1) (v:=.bool true) CM rfl rfl rfl hI.out (by rw[List.length_map,hI.len];simpa[Nat.blt_eq] using eM) λw4 aP xG du=>?_
 have hQ:=hQ.aF aP (by have:=hI.ne;simp;omega)
 have hKo:=hI.kp
 have hK:=hKo.since aP (λx hx=>.inr (by simp at hx;omega))
 have xG:aK w4 w.heap.size ((ms.set kk true).map Value.bool).toArray 4:=by rw[List.map_set];simpa using xG
 refine WA ?_
 refine kR rfl rfl rfl rfl rfl (show IntKind.i64.wrap ((kk:Int)+1)=((kk+1:Nat):Int) from wrap_i64 _ om om)<|YW (L:=[gq]) (l:=kk) (h:=kk+1) vO jT rfl rfl rfl rfl rfl om om (ky.ext (bP.fresh hv (λx hx=>.inr (by have:=hI.ne;simp at hx;omega))) hK) λvs aX=>?_
 rw[take_one (show(ps.map cI.enc)[kk]?=some (cI.enc (dJ ps kk)) from by rw[List.getElem?_map,rE eM];rfl)] at aX
 have fD:kC [dJ ps kk]<=kC ps:=by have h3:=Qz eM;have h4:=QA ps (kk+1);simp[kC] at h3 h4⊢;omega
 have mQ:=F7 [dJ ps kk]
 have uk:zints.length<=5000000:=by have:=Nat.mul_le_mul aO (show kC ps+1<=100001 by omega);simp only[lC] at Fu;omega
 refine aA (YV [dJ ps kk] sm om (λb hb=>by simp at hb;subst hb;exact bh _ (List.mem_of_getElem? (rE eM))) _ [gq] w4 aX (by have:=hQ.lt;simpa using this)) ?_
 rintro v5 w5 ⟨tG,aN⟩
 have iR:=aN.size
 refine cJ aN hK xG hQ λhK xG hQ=>?_
 have eT:=tG
 have aQ:=dH eT
 obtain⟨an,nn,cn,e9,qk⟩:=aQ
 subst e9
 refine W ?_
 refine dR (λq:Nat×Value×Nat×List Int=>[(0,.slice (some ⟨b0,wj,none⟩) ps.length c),(3,.slice (some ⟨w.heap.size,0,none⟩) ps.length ps.length),(4,q.2.1),(36,.slice an nn cn),(37,.int .i64 (nn:Int)),(38,.int .i64 (q.1:Int))]) (λq w'=>wY ps w w' (ms.set kk true) q.2.1 q.2.2.1 q.2.2.2∧bf [q.2.2.1] w' (.slice an nn cn) (iB [dJ ps kk])∧q.1<=nn∧q.2.2.2.length=zints.length+q.1∧Eo ps (ms.set kk true) q.2.2.2 kk q.1) (λq=>nn-q.1) ((0,qv,gq,zints)) (⟨rfl,rfl,rfl,rfl,rfl,rfl⟩) (⟨⟨hK,xG,hQ,by rw[List.length_set];exact hI.len,hI.ne,λz hz=>hI.rng z (mK _ hz)⟩,eT,Nat.zero_le _,rfl,hJ⟩) λgg w6 e6 hI=>?_
 obtain⟨j,qv2,g2,ZG⟩:=gg
 dsimp only at hI⊢
 obtain⟨Al,eT,hj,FV,hJ⟩:=hI
 have aQ:=Al.que.form
 obtain⟨lP,auf,rfl⟩:=aQ
 have hK:=Al.kp
 refine W ?_
 refine zc rfl (λh4=>?_) (λh4=>?_)
 have lZ:j<nn:=(by simp at h4;omega)
 have hg:=ik (xs:=iB [dJ ps kk]) (i:=j) om
 have aQ:=lf eT hg
 obtain⟨b3,BP,rfl,dS⟩:=aQ
 refine WI ?_
 refine zi bg ba rfl rfl lZ<|W ?_
 refine aA (Qy ps om (bD (iB [dJ ps kk]) j) _ [] w6 (ky.ext hv hK)) ?_
 rintro _ w7 ⟨rfl,bW⟩
 have lp:=bW.size
 refine bI bW Al eT λAl eT=>?_
 refine eR vQ pq rfl rfl λw8 cg apj kX=>bI cg Al eT λAl eT=>?_
 refine anx vQ pq rfl rfl rfl rfl rfl rfl Al.que apj rfl (by rw[List.length_map];omega) λqv3 g3 w9 hQ3 aB J6=>?_
 have hI3:=Al.push hQ3 aB J6 (by rcases YR ps (bD (iB [dJ ps kk]) j) with h9|h9;(·exact h9);(·omega))
 have eT:=anB eT aB J6
 refine W ?_
 exact⟨(j+1,qv3,g3,ZG++[iO ps (bD (iB [dJ ps kk]) j)]),⟨rfl,rfl,rfl,rfl,rfl,rfl⟩,⟨hI3,eT,by dsimp only;omega,by rw[lA];simp;omega,hJ.push (by rw[I3 (by rw[hI.len];exact eM),iP rfl]) om⟩,by dsimp only;omega⟩
 have h9j:=h4
 have ZH:=YQ (ms:=ms) (k:=kk) (by rw[gE (by rw[hI.len];exact eM)];rw[gG,gE (by rw[hI.len];exact eM)] at sY;simpa using sY)
 rw[<-ZH,Nat.add_mul] at Fu
 simp only[lC] at Fu
 refine WZ ?_
 exact⟨(ms.set kk true,_,g2,ZG),⟨rfl,rfl,rfl⟩,⟨⟨Al,hJ.done (by simp at h9j;omega)⟩,by dsimp only;omega⟩,by dsimp only;rw[<-ZH,Nat.add_mul];simp only[lC];omega⟩
 have hze:zints=[]:=(by cases zints with|nil=>rfl|cons z9 zs9=>simp at h1)
 have o4:sU ps ms []:=hze▸hR
 refine W ?_
 exact⟨_,rfl,⟨ms,hI.len,o4.fin,rfl,hI.out⟩,hI.kp⟩
theorem apq (bs:List Bk) (hb:ur bs) (v:Value) (Li:List Nat) (w:World) (hv:lH Li w v bs):
  bw Tryz.prog 18 [v] w λr w'=>(∃xv xs,r= .tuple #[xv,.bool (lg bs)]∧bf [] w' xv xs∧I5 (lg bs) bs xs)∧aj [] w w':=by
 have hK:=aj.refl [] w
 refine bU [.tmp 2,.tmp 3] 35 Tryz.func18 rfl ac6 rfl rfl ?_
 refine W ?_
 refine aA (LI bs hb _ Li [] w hv sm) ?_
 rintro v1 w1 ⟨fN,aI⟩
 have dk:=aI.size
 have hK:=hK.ext aI
 obtain⟨ps,pv,rfl,hp,rR⟩:=fN
 refine W ?_
 refine zc rfl (λh1=>?_) (λh1=>?_)
 have hq:lg bs=false:=by simpa using h1
 refine W ?_
 exact⟨_,rfl,⟨_,[],by rw[hq];rfl,.nil _ _ _,λ_=>rfl,λh=>(by rw[hq] at h;cases h)⟩,hK⟩
 have mx:lg bs=true:=(by simpa using h1)
 have aO:=rR mx
 subst aO
 have fK:eN bs=true:=(by unfold lg at mx;exact(aE _ _▸mx).1)
 have se:=(AS fK).2
 have uS:=En se
 have hlen:1<=bs.length∧bs.length<=40:=(by unfold eN at fK;simp only[aE,dE] at fK;exact fK.2.1.1)
 rw[List.length_map] at uS
 refine W ?_
 refine aA (ZF (bs.map cP) (by rw[List.length_map];omega) (by rw[List.length_map];omega) om (LZ se) _ w1 hp) ?_
 rintro v2 w2 ⟨gz,az⟩
 have dx:=az.size
 refine bI az hK hp λhK hp=>?_
 obtain⟨ms,sj,xe,e9,Gc⟩:=gz
 subst e9
 rw[List.length_map] at sj⊢
 have gk:=aj.refl [] w2
 have aQ:=BB hp
 obtain⟨pa,pc,e8⟩:=aQ
 subst e8
 have aQ:=BC hp (rE (ps:=bs.map cP) (i:=0) (by rw[List.length_map];omega))
 obtain⟨pb,poff,p1,gF,p2,iy,e7,_,_,_⟩:=aQ
 subst e7
 refine W ?_
 refine dR (λq:Nat×Option Addr×Nat×Option Nat=>[(4,.slice (some ⟨pb,poff,none⟩) (bs.map cP).length pc),(6,.slice q.2.1 (k9 ms bs q.1).length q.2.2.1),(17,.slice (some ⟨w1.heap.size,0,none⟩) bs.length bs.length),(18,.int .i64 (bs.length:Int)),(19,.int .i64 (q.1:Int))]) (λq w'=>aj [] w w'∧aj [] w2 w'∧Gr w2.heap.size [] w' 9 1 (.slice q.2.1 (k9 ms bs q.1).length q.2.2.1) q.2.2.2 (fb (k9 ms bs q.1))∧q.1<=bs.length) (λq=>bs.length-q.1) ((0,none,0,none)) (⟨rfl,rfl,rfl,rfl,rfl⟩) (⟨hK,gk,Gr.nil sm (lR _),sm⟩) λgg w3 e3 hI=>?_
 obtain⟨i,a3,cc,g⟩:=gg
 dsimp only at hI⊢
 obtain⟨hK,gk,hO,hk⟩:=hI
 have nj:=Gb ms bs i
 refine W ?_
 refine zc rfl (λh2=>?_) (λh2=>?_)
 have hi:i<bs.length:=by omega
 have yw:(bs.map cP)[i]?=some (dJ (bs.map cP) i):=rE (by rw[List.length_map];exact hi)
 have ej:=BC hp yw
 obtain⟨b,off,r1,LJ,r2,IU,e5,hc,nk,qh⟩:=ej
 cases e5
 have Ah:(dJ (bs.map cP) i).aJ=(bR bs i).aJ:=by rw[Cm hi];rfl
 refine WI ?_
 refine zi GQ CM rfl rfl hi<|zl GP rfl ((Gc.ext gk).at (QD om))<|zA<|zA<|aV<|zr<|zm<|aV<|zc rfl (λh3=>?_) (λh3=>?_)
 have Gd:ms.getD i false=true:=h3
 refine WI ?_
 refine zi vO jT rfl rfl (by rw[List.length_map];exact hi)<|zf Tn rfl<|zl fo rfl (hc.ext gk 0 _ rfl)<|eR bg ba rfl rfl λw4 aP Q5 gQ=>cJ aP hK gk hO λhK gk hO=>?_
 refine Ew bg ba rfl rfl rfl rfl rfl rfl hO Q5 (by unfold k9;rw[List.length_map];omega) λa4 fU g4 w5 fP aN=>?_
 have fB:=hK
 have hK:=aj.Jt (by have:=gk.size;omega) hO.low hK aN
 have gk:=hO.since gk aN
 have e1:k9 ms bs i++[(dJ (bs.map cP) i).aJ]=k9 ms bs (i+1):=by rw[ao6 Gd,Ah]
 rw[e1] at fP⊢
 refine zA<|aV<|jF<|kR rfl rfl rfl rfl rfl (show IntKind.i64.wrap ((i:Int)+1)=((i+1:Nat):Int) from wrap_i64 _ om om)<|zm<|aV ?_
 exact⟨(i+1,a4,fU,g4),⟨rfl,rfl,rfl,rfl,rfl⟩,⟨hK,gk,fP,by dsimp only;omega⟩,by dsimp only;omega⟩
 have oX:k9 ms bs (i+1)=k9 ms bs i:=ao7 (by cases hh:ms.getD i false with|true=>rw[hh] at h3;cases h3|false=>rfl)
 refine gT<|jF<|kR rfl rfl rfl rfl rfl (show IntKind.i64.wrap ((i:Int)+1)=((i+1:Nat):Int) from wrap_i64 _ om om)<|zm<|aV<|⟨(i+1,a3,cc,g),⟨rfl,congrArg (λn=>Value.slice a3 n cc) (congrArg List.length oX.symm),rfl,rfl,rfl⟩,⟨hK,gk,?_,by dsimp only;omega⟩,by dsimp only;omega⟩
 (show Gr _ _ _ _ _ (.slice a3 (k9 ms bs (i+1)).length cc) _ (fb (k9 ms bs (i+1))))
 rw[oX]
 exact hO
 have Am:i=bs.length:=by omega
 subst Am
 refine W ?_
 exact⟨_,rfl,⟨_,_,by rw[mx];rfl,hO.done,λh=>(by rw[mx] at h;cases h),λ_=>⟨ms,xe,rfl⟩⟩,hK⟩
theorem apr (bs:List Bk) (hb:ur bs) (mx:lg bs=true) (v:Value) (Li L:List Nat) (w:World) (hv:lH Li w v bs) (hL:∀x,x∈L->x<w.heap.size):
  bw Tryz.prog 10 [v] w λr w'=>(∃xv ms,r= .tuple #[xv,.bool true]∧RM bs ms∧lH L w' xv (fW ms bs bs.length))∧aj [] w w':=by
 have hK:=aj.refl [] w
 have fK:eN bs=true:=by unfold lg at mx;exact(aE _ _▸mx).1
 have se:=(AS fK).2
 have hlen:1<=bs.length∧bs.length<=40:=by unfold eN at fK;simp only[aE,dE] at fK;exact fK.2.1.1
 have uS:=En se
 rw[List.length_map] at uS
 refine bU [.tmp 2,.tmp 3] 35 Tryz.func10 rfl ab6 rfl rfl ?_
 refine W ?_
 refine aA (LI bs hb _ Li [] w hv sm) ?_
 rintro v1 w1 ⟨fN,aI⟩
 have dk:=aI.size
 have hK:=hK.ext aI
 obtain⟨ps,pv,rfl,hp,rR⟩:=fN
 have aO:=rR mx
 subst aO
 refine W ?_
 refine Mc (congrArg Value.bool (by rw[mx];rfl))<|W ?_
 refine aA (ZF (bs.map cP) (by rw[List.length_map];omega) (by rw[List.length_map];omega) om (LZ se) _ w1 hp) ?_
 rintro v2 w2 ⟨gz,az⟩
 have dx:=az.size
 refine bI az hK hp λhK hp=>?_
 obtain⟨ms,sj,xe,e9,Gc⟩:=gz
 subst e9
 rw[List.length_map] at sj⊢
 have gk:=aj.refl [] w2
 have aQ:=BB hp
 obtain⟨pa,pc,e8⟩:=aQ
 subst e8
 have aQ:=BC hp (rE (ps:=bs.map cP) (i:=0) (by rw[List.length_map];omega))
 obtain⟨pb,poff,p1,gF,p2,iy,e7,_,_,_⟩:=aQ
 subst e7
 refine W ?_
 refine dR (λq:Nat×Option Addr×Nat×Option Nat=>[(4,.slice (some ⟨pb,poff,none⟩) (bs.map cP).length pc),(6,.slice q.2.1 (nS ms (bs.map cP) q.1).length q.2.2.1),(17,.slice (some ⟨w1.heap.size,0,none⟩) bs.length bs.length),(18,.int .i64 (bs.length:Int)),(19,.int .i64 (q.1:Int))]) (λq w'=>aj [] w w'∧aj [] w2 w'∧Gr w2.heap.size L w' 58 3 (.slice q.2.1 (nS ms (bs.map cP) q.1).length q.2.2.1) q.2.2.2 ((nS ms (bs.map cP) q.1).map Bk.enc)∧q.1<=bs.length) (λq=>bs.length-q.1) ((0,none,0,none)) (⟨rfl,rfl,rfl,rfl,rfl⟩) (⟨hK,gk,Gr.nil (λx hx=>lL (hL x hx) hK.size) (lR _),sm⟩) λgg w3 e3 hI=>?_
 obtain⟨i,a3,cc,g⟩:=gg
 dsimp only at hI⊢
 obtain⟨hK,gk,hO,hk⟩:=hI
 have nj:=YT ms (bs.map cP) i
 refine W ?_
 refine zc rfl (λh2=>?_) (λh2=>?_)
 have hi:i<bs.length:=by omega
 have yw:(bs.map cP)[i]?=some (dJ (bs.map cP) i):=rE (by rw[List.length_map];exact hi)
 have Ef:=List.mem_of_getElem? yw
 refine WI ?_
 refine zi GQ CM rfl rfl hi<|zl GP rfl ((Gc.ext gk).at (QD om))<|zA<|zA<|aV<|zr<|zm<|aV<|zc rfl (λh3=>?_) (λh3=>?_)
 have Gd:ms.getD i false=true:=h3
 refine WA ?_
 refine kR rfl rfl rfl rfl rfl (show IntKind.i64.wrap ((i:Int)+1)=((i+1:Nat):Int) from wrap_i64 _ om om)<|YW (L:=[]) (l:=i) (h:=i+1) vO jT rfl rfl rfl rfl rfl om (by rw[List.length_map];omega) (ky.ext hp gk) λvs aX=>?_
 rw[take_one (show((bs.map cP).map cI.enc)[i]?=some (cI.enc (dJ (bs.map cP) i)) from by rw[List.getElem?_map,yw];rfl)] at aX
 refine aA (anG [dJ (bs.map cP) i] sm (λb hb=>by rw[List.mem_singleton.1 hb];exact(se _ Ef).aoY) _ (g.toList++L) [] w3 aX hO.all) ?_
 rintro v4 w4 ⟨ke,aP⟩
 have fH:=aP.size
 refine cJ aP hK gk hO λhK gk hO=>?_
 have ZI:=ke
 have aQ:=vI ZI
 obtain⟨wa,wn,wc,e6,hwn⟩:=aQ
 subst e6
 have oX:nS ms (bs.map cP) (i+1)=nS ms (bs.map cP) i++[o8 (dJ (bs.map cP) i)]:=by rw[nS,iP Gd]
 refine xH iD fm rfl rfl rfl rfl rfl rfl hO ZI (aoZ _) so λa4 fU g4 w5 fP aN=>?_
 have fB:=hK
 have hK:=aj.Jt (by have:=gk.size;omega) hO.low hK aN
 have gk:=hO.since gk aN
 have e1:(nS ms (bs.map cP) i).map Bk.enc++([dJ (bs.map cP) i].map o8).map Bk.enc=(nS ms (bs.map cP) (i+1)).map Bk.enc:=by rw[oX,List.map_append];rfl
 have e2:((nS ms (bs.map cP) i).map Bk.enc).length+(([dJ (bs.map cP) i].map o8).map Bk.enc).length=(nS ms (bs.map cP) (i+1)).length:=by rw[oX];simp
 rw[e1] at fP
 rw[e2] at fP⊢
 refine W ?_
 exact⟨(i+1,a4,fU,g4),⟨rfl,rfl,rfl,rfl,rfl⟩,⟨hK,gk,fP,by dsimp only;omega⟩,by dsimp only;omega⟩
 have oX:nS ms (bs.map cP) (i+1)=nS ms (bs.map cP) i:=by rw[nS,iN (by intro hh;rw[hh] at h3;cases h3)];simp
 refine W ?_
 refine⟨(i+1,a3,cc,g),⟨rfl,congrArg (λn=>Value.slice a3 n cc) (congrArg List.length oX.symm),rfl,rfl,rfl⟩,⟨hK,gk,?_,by dsimp only;omega⟩,by dsimp only;omega⟩
 (show Gr _ _ _ _ _ (.slice a3 (nS ms (bs.map cP) (i+1)).length cc) _ ((nS ms (bs.map cP) (i+1)).map Bk.enc))
 rw[oX]
 exact hO
 have Am:i=bs.length:=by omega
 subst Am
 refine W ?_
 exact⟨_,rfl,⟨_,ms,rfl,xe,by have h9:=hO.um;rw[Rh fK ms _ (lR _)] at h9;rw[Rh fK ms _ (lR _)];exact h9⟩,hK⟩
theorem apt (bs:List Bk) (hb:ur bs) (mx:lg bs=true) (v:Value) (Li:List Nat) (w:World) (hv:lH Li w v bs):
  bw Tryz.prog 21 [v] w λr w'=>(∃xv,r= .tuple #[xv,.bool true]∧bf [] w' xv (iB (bs.map cP)))∧aj [] w w':=by
 have hK:=aj.refl [] w
 have fK:eN bs=true:=by unfold lg at mx;exact(aE _ _▸mx).1
 have se:=(AS fK).2
 have hlen:1<=bs.length∧bs.length<=40:=by unfold eN at fK;simp only[aE,dE] at fK;exact fK.2.1.1
 have uS:=En se
 rw[List.length_map] at uS
 refine bU [.tmp 2,.tmp 3] 15 Tryz.func21 rfl ady rfl rfl ?_
 refine W ?_
 refine aA (LI bs hb _ Li [] w hv sm) ?_
 rintro v1 w1 ⟨fN,aI⟩
 have dk:=aI.size
 have hK:=hK.ext aI
 obtain⟨ps,pv,rfl,hp,rR⟩:=fN
 have aO:=rR mx
 subst aO
 refine W ?_
 refine Mc (congrArg Value.bool (by rw[mx];rfl))<|gT<|zr<|zm<|aA (YV (bs.map cP) (by rw[List.length_map];omega) om (LZ se) _ [] w1 hp sm) ?_
 rintro v2 w2 ⟨gz,az⟩
 have dx:=az.size
 have hK:=hK.ext az
 have hr:=gz
 refine W ?_
 exact⟨_,rfl,⟨_,rfl,hr⟩,hK⟩
theorem apu (xs:List ai) (hlen:xs.length<1000000000) (p:ai->Bool) (f:FuncId) (caps:List Value) (v:Value) (L:List Nat) (w:World) (hv:bf L w v xs) 
  (hf:∀i,i<xs.length->∀w',aj [] w w'->bw Tryz.prog f (str (bD xs i)::caps) w' λr w''=>r= .bool (p (bD xs i))∧aj [] w' w''):
  bw Tryz.prog 86 [v,.func (.func f) #[] caps.toArray] w λr w'=>(∃z:Int,r= .int .i64 z∧(z= -1∧(∀i,i<xs.length->p (bD xs i)=false)∨∃i:Nat,z=(i:Int)∧i<xs.length∧p (bD xs i)=true∧∀j,j<i->p (bD xs j)=false))∧aj [] w w':=by
 obtain⟨a,n,c,rfl,hn⟩:=dH hv
 subst hn
 have hK:=aj.refl [] w
 refine bU [.tmp 4] 19 Tryz.func86 rfl aev rfl rfl ?_
 refine W ?_
 refine dR (λk:Nat=>[(0,.slice a xs.length c),(1,.func (.func f) #[] caps.toArray),(7,.int .i64 (xs.length:Int)),(8,.int .i64 (k:Int))]) (λk w'=>aj [] w w'∧k<=xs.length∧∀i,i<k->p (bD xs i)=false) (λk=>xs.length-k) (0) (⟨rfl,rfl,rfl,rfl⟩) (⟨hK,om,by intro i hi;omega⟩) λgg w1 e1 hI=>?_
 obtain⟨hK,hk,cC⟩:=hI
 refine W ?_
 refine zc rfl (λh1=>?_) (λh1=>?_)
 have hg:=ik (xs:=xs) (i:=gg) om
 have aQ:=lf hv hg
 obtain⟨b,off,rfl,hc⟩:=aQ
 refine WL ?_
 refine zl fo rfl (hc.ext hK 0 _ rfl)<|Jp rfl rfl rfl (hf gg om w1 hK) ?_
 rintro _ w2 ⟨rfl,az⟩
 have dx:=az.size
 have hK:=hK.ext az
 refine aV<|zc rfl (λh2=>?_) (λh2=>?_)
 have hq:=h2
 refine W ?_
 exact⟨_,rfl,⟨_,rfl,.inr ⟨gg,rfl,om,hq,cC⟩⟩,hK⟩
 refine W ?_
 exact⟨gg+1,⟨rfl,rfl,rfl,rfl⟩,⟨hK,om,by intro i hi;rcases Nat.lt_or_ge i gg with h|h;exact cC i h;rw[show i=gg by omega];exact h2⟩,om⟩
 refine W ?_
 exact⟨_,rfl,⟨-1,rfl,.inl ⟨rfl,λi hi=>cC i om⟩⟩,hK⟩
theorem apv (xs:List ai) (hlen:xs.length<1000000000) (p:ai->Bool) (f:FuncId) (caps:List Value) (v:Value) (gb:Option Nat) (w:World) (hv:cG w 9 v gb xs) 
  (hf:∀i,i<xs.length->∀w',aj gb.toList w w'->bw Tryz.prog f (str (bD xs i)::caps) w' λr w''=>r= .bool (p (bD xs i))∧aj [] w' w''):
  bw Tryz.prog 52 [v,.func (.func f) #[] caps.toArray] w λr w'=>cG w' 9 r gb (xs.filter λs=>!p s)∧aj gb.toList w w':=by
 have cQ:=hv
 obtain⟨a,c,rfl⟩:=jn hv
 have hK:=aj.refl gb.toList w
 refine bU [.tmp 4] 42 Tryz.func52 rfl aeb rfl rfl ?_
 refine W ?_
 refine aA (apu xs hlen p f caps _ [] w hv.rs (λi hi w' k=>hf i hi w' (k.mono sm))) ?_
 rintro v9 w1 ⟨⟨z,e9,hz⟩,aB⟩
 subst e9
 refine bI aB hv hK λhv hK=>?_
 refine W ?_
 refine zc rfl (λh1=>?_) (λh1=>?_)
 have BW:z= -1:=(by simpa using h1)
 have cC:xs.filter (λs=>!p s)=xs:=List.filter_eq_self.2 (λs hs=>by obtain⟨i,hi,e⟩:=List.getElem_of_mem hs;rcases hz with⟨_,h1⟩|⟨i9,h1,_⟩;(·have h2:=h1 i hi;have h3:bD xs i=s:=(by unfold bD;rw[gG,gE hi,<-e];rfl);rw[h3] at h2;rw[h2];rfl);(·omega))
 refine W ?_
 exact⟨_,rfl,by rw[cC];exact hv,hK⟩
 have BW:z≠ -1:=(by simpa using h1)
 have hzi:∃i:Nat,z=(i:Int)∧i<xs.length∧p (bD xs i)=true∧∀j,j<i->p (bD xs j)=false:=(by rcases hz with⟨h1,_⟩|h1;(·exact absurd h1 BW);(·exact h1))
 obtain⟨i0,apx,hi0,mf,apz⟩:=hzi
 subst apx
 have dm:=hv.2
 rcases dm with⟨e8,vX,_⟩|⟨b,cap,cur,mc,e8,fp,my,l0,bV,l9⟩
 (·omega)
 cases e8
 subst mc
 have hD:=qD.start fp om (by rw[Nat.mul_one] at l9;exact l9) ⟨my,l0⟩ hi0 mf apz
 refine WA ?_
 refine kR rfl rfl rfl rfl rfl (show IntKind.i64.wrap ((i0:Int)+1)=((i0+1:Nat):Int) from wrap_i64 _ om om)<|zA<|aV<|sV<|dR (λq:Nat×Nat=>[(0,.slice (some ⟨b,0,none⟩) xs.length c),(1,.func (.func f) #[] caps.toArray),(5,.int .i64 (q.1:Int)),(6,.int .i64 (q.2:Int))]) (λq w'=>aj [b] w w'∧qD xs p b c 9 q.1 q.2 w') (λq=>xs.length-q.2) ((i0,i0+1)) (⟨rfl,rfl,rfl,rfl⟩) (⟨hK,hD⟩) λgg w2 e2 hI=>?_
 obtain⟨i,j⟩:=gg
 dsimp only at hI⊢
 obtain⟨hK,hD⟩:=hI
 have lZ:=hD.le
 have jS:=hD.lt
 refine W ?_
 refine zc rfl (λh2=>?_) (λh2=>?_)
 have hj:j<xs.length:=by omega
 refine WL ?_
 refine zl fo rfl (hD.at hj)<|zA<|aV<|zr<|zm<|zm<|Jp rfl rfl rfl (hf j hj w2 hK) ?_
 rintro _ w3 ⟨rfl,aH⟩
 have fh:=aH.size
 refine bI aH hK hD λhK hD=>?_
 refine kF rfl rfl rfl<|aV<|zc rfl (λh3=>?_) (λh3=>?_)
 have Rl:p (bD xs j)=false:=(by simpa using h3)
 have Rm:=hD.ne
 obtain⟨cs,cT,nA,_,_⟩:=Rm
 have Vn:=hD.cap
 refine W ?_
 refine Jb ba rfl rfl rfl rfl rfl cT om λw4 aP db kX=>?_
 have hK:=hK.trans aP
 have hD:=hD.put hj Rl cT (by rw[show 0+i*1=i by omega] at db;exact db)
 refine aV<|jF<|zm<|kR rfl rfl rfl rfl rfl (show IntKind.i64.wrap ((i:Int)+1)=((i+1:Nat):Int) from wrap_i64 _ om om)<|zA<|aV<|jF<|zm<|kR rfl rfl rfl rfl rfl (show IntKind.i64.wrap ((j:Int)+1)=((j+1:Nat):Int) from wrap_i64 _ om om)<|zA<|aV ?_
 exact⟨(i+1,j+1),⟨rfl,rfl,rfl,rfl⟩,⟨hK,hD⟩,by dsimp only;omega⟩
 have Rl:p (bD xs j)=true:=(by simpa using h3)
 have hD:=hD.skip hj Rl
 refine gT<|jF<|zm<|kR rfl rfl rfl rfl rfl (show IntKind.i64.wrap ((j:Int)+1)=((j+1:Nat):Int) from wrap_i64 _ om om)<|zA<|aV ?_
 exact⟨(i,j+1),⟨rfl,rfl,rfl,rfl⟩,⟨hK,hD⟩,by dsimp only;omega⟩
 have hje:j=xs.length:=om
 subst hje
 have Rm:=hD.ne
 obtain⟨cs,cT,nA,_,_⟩:=Rm
 have Vn:=hD.cap
 refine W ?_
 refine ape bg ba rfl rfl rfl rfl om om<|apd bg ba rfl rfl rfl rfl rfl cT om om λw3 cs8 aH db wH pH kX=>?_
 have hK:=hK.trans aH
 have hO:=hD.fin cT db wH (λx hx=>pH x om)
 refine W ?_
 refine apf bg ba rfl rfl rfl rfl om<|zA<|aV<|j4 ?_
 exact⟨_,rfl,hO,hK⟩
theorem apB (ps:List cI) (hlen:ps.length<1000000000) (l:ai) (b1:Nat) (pv:Value) (L:List Nat) (w:World) (hp:ky L w pv ps) (aY:aK w b1 [pv].toArray 51):
  bw Tryz.prog 53 [str l,.pointer (some ⟨b1,0,none⟩)] w λr w'=>r= .bool (decide (iO ps l≥0))∧aj [] w w':=by
 obtain⟨a,c,rfl⟩:=BB hp
 have hK:=aj.refl [] w
 refine bU [.tmp 3] 8 Tryz.func53 rfl aec rfl rfl ?_
 refine W ?_
 refine aA (Qy ps hlen l _ L w hp) ?_
 rintro _ w1 ⟨rfl,aI⟩
 have dk:=aI.size
 have hK:=hK.ext aI
 refine W ?_
 exact⟨_,rfl,rfl,hK⟩
def Ro (ps:List cI):List ai:=(iB ps).filter λs=>!decide (iO ps s≥0)
theorem apC (bs:List Bk) (hb:ur bs) (mx:lg bs=true) (v:Value) (Li:List Nat) (w:World) (hv:lH Li w v bs):
  bw Tryz.prog 22 [v] w λr w'=>(∃xv,r= .tuple #[xv,.bool true]∧bf [] w' xv (Ro (bs.map cP)))∧aj [] w w':=by
 have hK:=aj.refl [] w
 have fK:eN bs=true:=by unfold lg at mx;exact(aE _ _▸mx).1
 have se:=(AS fK).2
 have hlen:1<=bs.length∧bs.length<=40:=by unfold eN at fK;simp only[aE,dE] at fK;exact fK.2.1.1
 have uS:=En se
 rw[List.length_map] at uS
 have mQ:=F7 (bs.map cP)
 refine bU [.tmp 2,.tmp 3] 17 Tryz.func22 rfl adD rfl rfl ?_
 refine W ?_
 refine aA (LI bs hb _ Li [] w hv sm) ?_
 rintro v1 w1 ⟨fN,aI⟩
 have dk:=aI.size
 have hK:=hK.ext aI
 obtain⟨ps,pv,rfl,hp,rR⟩:=fN
 have aO:=rR mx
 subst aO
 have aQ:=BB hp
 obtain⟨pa,pc,e8⟩:=aQ
 subst e8
 refine W ?_
 refine aaf M7 rfl rfl rfl λw2 az aG dD=>?_
 have hK:=hK.grow;have hK:=hK.ext az;have hp:=hp.grow;have hp:=hp.ext az
 refine gD M7 rfl rfl rfl aG rfl λw3 aH aG gL=>?_
 have hK:=hK.aD aH sx;have hp:=hp.aD aH sx
 refine W ?_
 refine Mc (congrArg Value.bool (by rw[mx];rfl))<|WZ ?_
 have BA:=hp
 have jg:=hK.size
 have Ww:=aG.lt
 refine aA (YU (bs.map cP) (by rw[List.length_map];omega) om (LZ se) _ [] w3 (bP.none hp) sm) ?_
 rintro v4 w4 ⟨ke,aP⟩
 have fH:=aP.size
 refine bI aP hK aG λhK aG=>?_
 obtain⟨gn,hG⟩:=ke
 have hO:=hG.sn
 have Rp:=hG.low
 have hpg:=bP.ext (bP.fresh BA (L':=gn.toList) (λx hx=>.inr (Rp x (by simpa using hx)))) aP
 refine My (vs:=[.pointer (some ⟨w1.heap.size,0,none⟩)]) rfl rfl rfl<|aA (apv (iB (bs.map cP)) om (λs=>decide (iO (bs.map cP) s≥0)) 53 [.pointer (some ⟨w1.heap.size,0,none⟩)] _ gn w4 hO (λi hi w' k=>apB (bs.map cP) (by rw[List.length_map];omega) _ _ _ gn.toList w' (bP.aD hpg k (λ_ h=>h)) (aG.aF k (λhx=>by have:=Rp _ (by simpa using hx);omega)))) ?_
 rintro v9 w5 ⟨cU,aB⟩
 have hK:=hK.since aB (λx hx=>.inr (by have:=Rp x (by simpa using hx);omega))
 refine W ?_
 exact⟨_,rfl,⟨_,rfl,cU.rs⟩,hK⟩
theorem apE {b:Bk} (hb:kH b=true) (hi:i<b.code.length):∃t,bB (bD b.code i)=some t∧tr (bD b.code i)=t∧bX t=(nth t.ak 0).aw∧0<t.ak.length∧((bX t=[108,97,98]∨bX t=[122,101,114,111])->2<t.ak.length):=by
 have hm:=List.mem_of_getElem? (ik hi)
 obtain⟨t,ht,hI⟩:=(GI hb).2.2 _ hm
 have he:=GH ht
 have hk:=((GR hb).cok t (List.mem_map.2 ⟨_,hm,he⟩)).2.2
 have hl:=(Tu hk).2.1
 exact⟨t,ht,he,SN hI,om,YS hk⟩
theorem apF {b:Bk} (h:kH b=true):b.ck.length<=40∧b.code.length<=80:=by
 have h1:=(GR h).regs
 have h2:=(GR h).code
 rw[show(cP b).regs=b.ck.map tr from rfl,List.length_map] at h1
 rw[show(cP b).code=b.code.map tr from rfl,List.length_map] at h2
 exact⟨h1,h2⟩
def sf (xs:List ai) (b:Bk) (i:Nat):List ai:=((b.code.take i).map tr).foldl addN xs
theorem apG (xs:List ai) (b:Bk) (i:Nat):(sf xs b i).length<=xs.length+i:=by
 have h1:=LK ((b.code.take i).map tr) xs
 rw[List.length_map,List.length_take] at h1
 unfold sf;omega
theorem apH (xs:List ai) {b:Bk} (hi:i<b.code.length):sf xs b (i+1)=addN (sf xs b i) (tr (bD b.code i)):=by
 unfold sf
 rw[List.take_add_one,ik hi,List.map_append,List.foldl_append];rfl
theorem apI (xs:List ai) (b:Bk):sf xs b b.code.length=r6 xs (cP b):=by
 unfold sf;rw[List.take_length];rfl
theorem apJ {t:aq} (h:bX t=[108,97,98]∨bX t=[122,101,114,111]) (hn:¬(nth t.ak 2).aw∈xs):addN xs t=xs++[(nth t.ak 2).aw]:=by
 unfold addN nR;rw[iP h];exact iN hn
theorem apK {t:aq} (h:(bX t=[108,97,98]∨bX t=[122,101,114,111])->(nth t.ak 2).aw∈xs):addN xs t=xs:=by
 unfold addN nR
 split
 ·next s e=>
  split at e
  ·next hh=>cases e;exact iP (h hh)
  ·cases e
 ·rfl
theorem apL (b:Bk) (fp:kH b=true) (xs:List ai) (hx:xs.length<=1000000) (w0:World) (vb vl:Value) (g:Option Nat) (w:World) (hb:qI [] w0 vb b) (fS:aj [] w0 w) (hO:Gr w0.heap.size [] w 9 1 vl g (fb xs)):
  bw Tryz.prog 115 [vb,vl] w λr w'=>(∃g',Gr w0.heap.size [] w' 9 1 r g' (fb (r6 xs (cP b))))∧aj [] w0 w':=by
 obtain⟨a1,n1,c1,a2,n2,c2,rfl,fu,eS,dk,dx⟩:=AB hb
 subst eS
 have hlen:=(GR fp).code
 have hlen:b.code.length<=80:=by simpa[cP] using hlen
 obtain⟨xsv,dm⟩:=hO.own
 obtain⟨al,cl,rfl⟩:=dm.len
 rw[po] at hO⊢
 have Lt:=hO
 have hK:=fS
 refine bU [.tmp 4] 55 Tryz.func115 rfl acj rfl rfl ?_
 refine zr<|eK rfl λw1 aI aR dh=>?_
 have hK:=hK.ext aI
 refine W ?_
 have hO:=Lt.alloc aI dh
 have VN:=fS.size
 refine dR (λq:Nat×Option Addr×Nat×Option Nat=>[(1,.slice q.2.1 (sf xs b q.1).length q.2.2.1),(2,.pointer (some ⟨w.heap.size,0,none⟩)),(5,.int .i64 (q.1:Int))]) (λq w'=>aj [] w0 w'∧aK w' w.heap.size [str b.aJ,.slice a1 n1 c1,.slice a2 b.code.length c2].toArray 58∧Gr w0.heap.size [w.heap.size] w' 9 1 (.slice q.2.1 (sf xs b q.1).length q.2.2.1) q.2.2.2 (fb (sf xs b q.1))∧q.1<=b.code.length) (λq=>b.code.length-q.1) ((0,al,cl,g)) (⟨rfl,rfl,rfl⟩) (⟨hK,aR,hO,sm⟩) λgg w2 e2 hI=>?_
 obtain⟨i,a3,cc,g3⟩:=gg
 dsimp only at hI⊢
 obtain⟨hK,aR,hO,hi⟩:=hI
 have ix:=aR.lt
 have mQ:=apG xs b i
 refine W ?_
 refine zc rfl (λh1=>?_) (λh1=>?_)
 have fX:i<b.code.length:=by omega
 have aQ:=apE fp fX
 obtain⟨t,qV,htr,nX,h0,h2⟩:=aQ
 have hg:=ik (xs:=b.code) (i:=i) fX
 have aQ:=lf dx hg
 obtain⟨bc,offc,e7,hc⟩:=aQ
 cases e7
 have pV:=apH xs fX
 rw[htr] at pV
 refine WI ?_
 refine zi bg ba rfl rfl fX<|zl fo rfl (hc.ext hK 0 _ rfl)<|aA (yW (bD b.code i) [] w2 sm) ?_
 rintro v3 w3 ⟨jo,aH⟩
 have fh:=aH.size
 refine cJ aH hK aR hO λhK aR hO=>?_
 obtain⟨t',tv,e9,ht,hp⟩:=jo
 subst e9
 have wb:=hp _ qV
 subst wb
 have aQ:=cY ht
 obtain⟨pa,pn,pc,e8,eO,aO⟩:=aQ
 subst e8
 subst eO
 refine W ?_
 refine dz aM rfl rfl rfl λw4 aP bO gQ=>?_
 have hK:=hK.grow;have hK:=hK.ext aP;have aR:=aR.grow;have aR:=aR.ext aP;have hO:=hO.alloc aP gQ;have aO:=aO.grow;have aO:=aO.ext aP
 refine cL aM rfl rfl rfl bO rfl λw5 aN bO gZ=>?_
 have hK:=hK.aD aN sx;have aR:=aR.aD aN sx;have hO:=hO.aD aN sx;have aO:=aO.aD aN sx
 refine W ?_
 have apN:=iM aO (gh h0)
 obtain⟨bp,offp,xI,pn0,xJ,e6,eD,_,_⟩:=apN
 subst e6
 refine W ?_
 apply oP 3 32 35 rfl oQ
 intro _
 exact oQ
 intro xx
 refine WZ ?_
 apply oA 9 36 45 (aj [] w5) rfl oQ
 intro h3
 have hh:bX t'=[108,97,98]∨bX t'=[122,101,114,111]:=(by rw[nX];simpa using h3)
 have Rq:=iM aO (gh (h2 hh))
 obtain⟨bp2,apP,iI,xR,iy,e5,bY,_,_⟩:=Rq
 cases e5
 have iG:=h2 hh
 refine W ?_
 refine aA (xM (sf xs b i) om _ _ _ w5 hO.done) ?_
 rintro _ w6 ⟨rfl,bN⟩
 have iJ:=bN.size
 exact oQ
 intro xx w6 bN
 refine kJ bN hK aR hO aO bO λhK aR hO aO bO=>?_
 refine aV<|zc rfl (λh4=>?_) (λh4=>?_)
 have nz:(bX t'=[108,97,98]∨bX t'=[122,101,114,111])∧¬(nth t'.ak 2).aw∈sf xs b i:=(by rw[nX];simpa using h4)
 obtain⟨hh,qk⟩:=nz
 have Rq:=iM aO (gh (h2 hh))
 obtain⟨bp2,apP,iI,xR,iy,e5,bY,_,_⟩:=Rq
 cases e5
 have iG:=h2 hh
 rw[apJ hh qk] at pV
 refine W ?_
 refine eR bg ba rfl rfl λw7 bW QP oe=>cJ bW hK aR hO λhK aR hO=>?_
 refine Ew bg ba rfl rfl rfl rfl rfl rfl hO QP om λa5 Fc g5 w8 fP cg=>?_
 have aR:=aR.aF cg (hO.AD sm)
 have hK:=hK.since cg (λx hx=>.inr (hO.low x (by simpa using hx)))
 rw[<-pV] at fP⊢
 refine W ?_
 exact⟨(i+1,a5,Fc,g5),⟨rfl,rfl,rfl⟩,⟨hK,aR,fP.gm (λx hx=>by simp at hx;simp[hx]),by dsimp only;omega⟩,by dsimp only;omega⟩
 have uz:(bX t'=[108,97,98]∨bX t'=[122,101,114,111])->(nth t'.ak 2).aw∈sf xs b i:=(by rw[nX];intro hh;have h9:=h4;simp at h9;exact h9 hh)
 rw[apK uz] at pV
 refine W ?_
 refine⟨(i+1,a3,cc,g3),⟨congrArg (λn=>Value.slice a3 n cc) (congrArg List.length pV.symm),rfl,rfl⟩,⟨hK,aR,?_,by dsimp only;omega⟩,by dsimp only;omega⟩
 (show Gr _ _ _ _ _ (.slice a3 (sf xs b (i+1)).length cc) _ (fb (sf xs b (i+1))))
 rw[pV]
 exact hO.gm (λx hx=>by simp at hx;simp[hx])
 have Am:i=b.code.length:=om
 subst Am
 rw[apI] at hO⊢
 refine W ?_
 exact⟨_,rfl,⟨_,hO.gm sm⟩,hK⟩
theorem apQ (bs:List Bk) (fK:eN bs=true) (v:Value) (Li:List Nat) (w:World) (hv:lH Li w v bs):
  bw Tryz.prog 81 [v] w λr w'=>(∃xs gx,cG w' 9 r gx xs∧(∀x,x∈gx.toList->w.heap.size<=x)∧xs.length<=100000∧pX (bs.map cP) xs xs.length)∧aj [] w w':=by
 have hv:=bP.none hv
 obtain⟨a,n,c,rfl,hn⟩:=vI hv
 subst hn
 have ho:=Ri fK
 have apR:=ho.main
 have se:=(AS fK).2
 have hlen:1<=bs.length∧bs.length<=40:=by unfold eN at fK;simp only[aE,dE] at fK;exact fK.2.1.1
 have uS:=En se
 rw[List.length_map] at uS
 have hK:=aj.refl [] w
 refine bU [.tmp 2] 28 Tryz.func81 rfl aeq rfl rfl ?_
 refine W ?_
 refine eR bg ba rfl rfl λw1 aI bO dh=>?_
 have hK:=hK.ext aI
 refine W ?_
 have hO:=(show Gr w.heap.size [] w1 9 1 (.slice (some ⟨w.heap.size,0,none⟩) 1 1) (some w.heap.size) (fb [ua]) from⟨⟨_,(aK.sn [ua] bO).R7 sm⟩,by intro x hx;cases hx;exact lR _,sm,hK.size⟩)
 refine dR (λq:Nat×List ai×Option Addr×Nat×Option Nat=>[(0,.slice a bs.length c),(3,.slice q.2.2.1 q.2.1.length q.2.2.2.1),(4,.int .i64 (q.1:Int))]) (λq w'=>aj [] w w'∧Gr w.heap.size [] w' 9 1 (.slice q.2.2.1 q.2.1.length q.2.2.2.1) q.2.2.2.2 (fb q.2.1)∧pX (bs.map cP) q.2.1 q.1∧q.1<=q.2.1.length) (λq=>4000-q.1) ((0,[ua],some ⟨w.heap.size,0,none⟩,1,some w.heap.size)) (⟨rfl,rfl,rfl⟩) (⟨hK,hO,pX.init _,sm⟩) λgg w2 e2 hI=>?_
 obtain⟨i,xs,a3,cc,g3⟩:=gg
 dsimp only at hI⊢
 obtain⟨hK,hO,hR,hi⟩:=hI
 have lB:=hR.len ho.1
 refine W ?_
 refine zc rfl (λh1=>?_) (λh1=>?_)
 have fX:i<xs.length:=by omega
 have hg:=ik (xs:=xs) (i:=i) fX
 have ej:=lf hO.done hg
 obtain⟨bc,offc,e7,hc⟩:=ej
 cases e7
 refine WI ?_
 refine zi bg ba rfl rfl fX<|zl fo rfl (hc 0 _ rfl)<|aA (NO bs om (bD xs i) _ _ _ (hv.ext hK)) ?_
 rintro _ _ ⟨rfl,rfl⟩
 refine W ?_
 refine zc rfl (λh2=>?_) (λh2=>?_)
 have Af:0<=lJ bs (bD xs i):=(by simpa using h2)
 have aQ:∃k:Nat,lJ bs (bD xs i)=(k:Int):=⟨(lJ bs (bD xs i)).toNat,om⟩
 obtain⟨k,hk⟩:=aQ
 have ZJ:iO (bs.map cP) (bD xs i)=(k:Int):=(by rw[Ra];exact hk)
 have eM:k<bs.length:=(by have:=Rb ZJ;rwa [List.length_map] at this)
 have mc:=xm hv (kq eM)
 obtain⟨bb,ob,d1,m1,f1,d2,m2,f2,e5,Cn,pP,pz,cz,bZ⟩:=mc
 cases e5
 rw[hk]
 have sW:=hR.add apR fX ZJ
 rw[Cm eM] at sW
 have hbB:=AN fK _ (List.mem_of_getElem? (kq eM))
 refine jF<|zm<|zm<|zi iD fm rfl rfl eM<|zL CK fm rfl (Cn.ext hK) rfl<|zm<|aA (apL (bR bs k) hbB xs om w _ _ g3 w2 (vH cz bZ) hK hO) ?_
 rintro v9 w3 ⟨⟨g9,cU⟩,x4⟩
 have hK:=x4
 have aQ:=cU.own
 obtain⟨ysv,dm⟩:=aQ
 have aQ:=dm.len
 obtain⟨al,cl,e4⟩:=aQ
 subst e4
 rw[po] at cU⊢
 refine W ?_
 exact⟨(i+1,_,al,cl,g9),⟨rfl,rfl,rfl⟩,⟨hK,cU,sW,by have h9:=(Rd (cP (bR bs k)).code xs);obtain⟨r,e⟩:=h9;show i+1<=(r6 xs (cP (bR bs k))).length;rw[r6,e,lA];omega⟩,by dsimp only;omega⟩
 have hsk:=hR.skip (λk hk=>by rw[Ra] at hk;have h9:=h2;simp at h9;omega)
 refine W ?_
 exact⟨(i+1,xs,_,cc,g3),⟨rfl,rfl,rfl⟩,⟨hK,hO,hsk,by dsimp only;omega⟩,by dsimp only;omega⟩
 have Am:i=xs.length:=om
 subst Am
 refine W ?_
 exact⟨_,rfl,⟨xs,g3,hO.sn,λx hx=>hO.low x (by simpa using hx),om,hR⟩,hK⟩
theorem apU (bs:List Bk) (hb:ur bs) (v:Value) (Li:List Nat) (w:World) (hv:lH Li w v bs):
  bw Tryz.prog 50 [v] w λr w'=>(∃xv ys,r= .tuple #[xv,.bool (eN bs)]∧lH [] w' xv ys∧(eN bs=false->ys=[])∧(eN bs=true->∃ms,RM bs ms∧ys=fW ms bs bs.length))∧aj [] w w':=by
 have hv:=bP.none hv
 obtain⟨a,n,c,rfl,hn⟩:=vI hv
 subst hn
 have hK:=aj.refl [] w
 refine bU [.tmp 2,.tmp 3] 36 Tryz.func50 rfl ad9 rfl rfl ?_
 refine W ?_
 refine vJ w.heap.size [] iD fm rfl rfl (lR _) sm λw1 aI dh hO=>?_
 have hK:=hK.ext aI
 refine W ?_
 refine aA (UF bs hb _ [] w1 (hv.ext hK)) ?_
 rintro _ w2 ⟨rfl,az⟩
 have dx:=az.size
 refine bI az hK hO λhK hO=>?_
 refine kF rfl rfl rfl<|aV<|zc rfl (λh1=>?_) (λh1=>?_)
 have hq:eN bs=false:=(by simpa using h1)
 refine W ?_
 exact⟨_,rfl,⟨_,[],by rw[hq];rfl,hO.done,λ_=>rfl,λh=>(by rw[hq] at h;cases h)⟩,hK⟩
 have fK:eN bs=true:=(by simpa using h1)
 have se:=(AS fK).2
 have hlen:1<=bs.length∧bs.length<=40:=(by unfold eN at fK;simp only[aE,dE] at fK;exact fK.2.1.1)
 refine WZ ?_
 have fO:=hO
 refine aA (apQ bs fK _ [] w2 (hv.ext hK)) ?_
 rintro v3 w3 ⟨jo,aH⟩
 have fh:=aH.size
 refine bI aH hK hO λhK hO=>?_
 obtain⟨xs,gx,hX,tN,lB,hR⟩:=jo
 have bV:=jn hX
 obtain⟨xa,xc,e8⟩:=bV
 subst e8
 have xe:=RM.of fK hR
 have aQ:∃ms,ms=bs.map λb=>decide (b.aJ∈xs):=⟨_,rfl⟩
 obtain⟨ms,Gc⟩:=aQ
 rw[<-Gc] at xe
 have hO:=(show Gr w.heap.size gx.toList w3 58 3 (.slice (some ⟨w.heap.size,0,none⟩) 0 0) (some w.heap.size) [] from⟨fO.own.imp λ_ h=>(h.more (λx hx=>.inr (tN x hx))).aF aH sm,fO.low,λx hx=>hX.lt x hx,hO.bsz⟩)
 refine W ?_
 refine dR (λq:Nat×Option Addr×Nat×Option Nat=>[(0,.slice a bs.length c),(4,.slice q.2.1 (fW ms bs q.1).length q.2.2.1),(5,.slice xa xs.length xc),(6,.int .i64 (q.1:Int))]) (λq w'=>aj [] w w'∧cG w' 9 (.slice xa xs.length xc) gx xs∧Gr w.heap.size gx.toList w' 58 3 (.slice q.2.1 (fW ms bs q.1).length q.2.2.1) q.2.2.2 ((fW ms bs q.1).map Bk.enc)∧q.1<=bs.length) (λq=>bs.length-q.1) ((0,some ⟨w.heap.size,0,none⟩,0,some w.heap.size)) (⟨rfl,rfl,rfl,rfl⟩) (⟨hK,hX,hO,sm⟩) λgg w4 e4 hI=>?_
 obtain⟨i,a3,cc,g3⟩:=gg
 dsimp only at hI⊢
 obtain⟨hK,hX,hO,hi⟩:=hI
 have nj:=Gb ms bs i
 refine W ?_
 refine zc rfl (λh2=>?_) (λh2=>?_)
 have fX:i<bs.length:=by omega
 have yw:=xm hv (kq fX)
 obtain⟨bb,ob,d1,m1,f1,d2,m2,f2,e5,Cn,pP,pz,cz,bZ⟩:=yw
 cases e5
 have Gd:ms.getD i false=decide ((bR bs i).aJ∈xs):=(by rw[Gc,gG,List.getElem?_map,kq fX];rfl)
 have pH:=hb.2 i fX
 have wg:=apF (AN fK _ (List.mem_of_getElem? (kq fX)))
 refine WI ?_
 refine zi iD fm rfl rfl fX<|zf EE rfl<|zl fo rfl (Cn.ext hK 0 _ rfl)<|aA (xM xs om _ _ [] w4 hX.rs) ?_
 rintro _ w5 ⟨rfl,aN⟩
 have iR:=aN.size
 refine cJ aN hK hX hO λhK hX hO=>?_
 refine aV<|zc rfl (λh3=>?_) (λh3=>?_)
 have nz:ms.getD i false=true:=(by rw[Gd];exact dT h3)
 have pV:fW ms bs i++[bR bs i]=fW ms bs (i+1):=(by rw[fW,iP nz])
 refine WI ?_
 refine zi iD fm rfl rfl fX<|zL CK fm rfl (Cn.ext hK) rfl ?_
 have ZK:=hO.all
 refine aA (Zk (bR bs i) om om _ [] w5 (vH (cz.ext hK) (bZ.ext hK))) ?_
 rintro v6 w6 ⟨wL,bN⟩
 have iJ:=bN.size
 refine cJ bN hK hX hO λhK hX hO=>?_
 obtain⟨v1,v2,g1,g2,e4,nT,fO,pd,iT⟩:=wL
 have bV:=jn nT
 obtain⟨a5,c5,e3⟩:=bV
 subst e3
 have bV:=jn fO
 obtain⟨a6,c6,e3⟩:=bV
 subst e3
 subst e4
 have iR:=nT.rep (L:=g3.toList++gx.toList) (λb hb hx=>by have h8:=ZK b hx;have h9:=(pd b (by simp[hb])).1;omega)
 have iJ:=fO.rep (L:=g3.toList++gx.toList) (λb hb hx=>by have h8:=ZK b hx;have h9:=(iT b (by simp[hb])).1;omega)
 refine eR iD fm rfl rfl λw7 bW Fg oe=>kJ bW hK hX hO iR iJ λhK hX hO iR iJ=>?_
 refine MA iD fm rfl rfl rfl rfl rfl rfl hO Fg (vH iR iJ) om λa7 c7 g7 w8 fP cg=>?_
 have hX:=hX.aF cg (λb hb=>hO.AD (by simp[hb]))
 have hK:=hO.since hK cg
 rw[pV] at fP⊢
 refine W ?_
 exact⟨(i+1,a7,c7,g7),⟨rfl,rfl,rfl,rfl⟩,⟨hK,hX,fP,by dsimp only;omega⟩,by dsimp only;omega⟩
 have nz:ms.getD i false=false:=(by rw[Gd];exact dF h3)
 have pV:fW ms bs (i+1)=fW ms bs i:=(by rw[fW,iN (by rw[nz];decide),List.append_nil])
 refine W ?_
 refine⟨(i+1,a3,cc,g3),⟨rfl,congrArg (λn=>Value.slice a3 n cc) (congrArg List.length pV.symm),rfl,rfl⟩,⟨hK,hX,?_,by dsimp only;omega⟩,by dsimp only;omega⟩
 (show Gr _ _ _ _ _ (.slice a3 (fW ms bs (i+1)).length cc) _ ((fW ms bs (i+1)).map Bk.enc))
 rw[pV]
 exact hO
 have Am:i=bs.length:=om
 subst Am
 refine W ?_
 exact⟨_,rfl,⟨_,_,by rw[fK];rfl,bP.none hO.um,λh=>(by rw[fK] at h;cases h),λ_=>⟨ms,xe,rfl⟩⟩,hK⟩
theorem apV (bs:List Bk) (hb:ur bs) (v:Value) (Li:List Nat) (w:World) (hv:lH Li w v bs):
  bw Tryz.prog 19 [v] w λr w'=>(∃xv xs,r= .tuple #[xv,.bool (eN bs)]∧bf [] w' xv xs∧I5 (eN bs) bs xs)∧aj [] w w':=by
 have hK:=aj.refl [] w
 have ix:=hb.1
 refine bU [.tmp 2,.tmp 3] 30 Tryz.func19 rfl adj rfl rfl ?_
 refine W ?_
 refine aA (apU bs hb _ Li w hv) ?_
 rintro v1 w1 ⟨fN,aI⟩
 have dk:=aI.size
 have hK:=hK.ext aI
 obtain⟨xv,ys,e9,hY,ZL,ZM⟩:=fN
 subst e9
 have bV:=vI hY
 obtain⟨ya,yn,yc,e8,I0⟩:=bV
 subst e8
 subst I0
 have hyl:ys.length<=1000:=(by cases hq:eN bs with|false=>rw[ZL hq];simp|true=>obtain⟨ms,_,e⟩:=ZM hq;have h9:=Gb ms bs bs.length;have h8:=hq;unfold eN at h8;simp only[aE,dE] at h8;rw[e];omega)
 have Pm:=hK
 have gk:=aj.refl [] w1
 refine W ?_
 refine vJ w1.heap.size [] bg ba rfl rfl (lR _) sm λw2 az dh hO=>?_
 have gk:=gk.ext az
 refine W ?_
 refine dR (λq:Nat×Option Addr×Nat×Option Nat=>[(4,.slice ya ys.length yc),(5,.bool (eN bs)),(6,.slice q.2.1 ((ys.take q.1).map Bk.aJ).length q.2.2.1),(7,.int .i64 (q.1:Int))]) (λq w'=>aj [] w1 w'∧Gr w1.heap.size [] w' 9 1 (.slice q.2.1 ((ys.take q.1).map Bk.aJ).length q.2.2.1) q.2.2.2 (fb ((ys.take q.1).map Bk.aJ))∧q.1<=ys.length) (λq=>ys.length-q.1) ((0,some ⟨w1.heap.size,0,none⟩,0,some w1.heap.size)) (⟨rfl,rfl,rfl,rfl⟩) (⟨gk,hO,sm⟩) λgg w3 e3 hI=>?_
 obtain⟨i,a3,cc,g3⟩:=gg
 dsimp only at hI⊢
 obtain⟨gk,hO,hi⟩:=hI
 refine W ?_
 refine zc rfl (λh1=>?_) (λh1=>?_)
 have fX:i<ys.length:=by omega
 have yw:=xm hY (kq fX)
 obtain⟨bb,ob,d1,m1,f1,d2,m2,f2,e5,Cn,pP,pz,cz,bZ⟩:=yw
 cases e5
 have pV:=AP Bk.aJ (kq fX)
 refine WI ?_
 refine zi iD fm rfl rfl fX<|zf EE rfl<|zl fo rfl (Cn.ext gk 0 _ rfl)<|eR bg ba rfl rfl λw4 aP zT gQ=>bI aP gk hO λgk hO=>?_
 refine Ew bg ba rfl rfl rfl rfl rfl rfl hO zT (by rw[List.length_map,List.length_take];omega) λa7 c7 g7 w5 fP aN=>?_
 have gk:=hO.since gk aN
 rw[pV] at fP⊢
 refine W ?_
 exact⟨(i+1,a7,c7,g7),⟨rfl,rfl,rfl,rfl⟩,⟨gk,fP,by dsimp only;omega⟩,by dsimp only;omega⟩
 rw[CI Bk.aJ om] at hO⊢
 refine W ?_
 exact⟨_,rfl,⟨_,_,rfl,hO.done,λh=>by rw[ZL h];rfl,λh=>by obtain⟨ms,h1,h2⟩:=ZM h;exact⟨ms,h1,by rw[h2];rfl⟩⟩,Pm.trans gk⟩
structure Co (bs:List Bk) (n:Nat):Prop where
 len:1<=bs.length∧bs.length<=n
 bk:∀b,b∈bs->b.aJ.length<=100∧b.ck.length<=40∧b.code.length<=80∧(∀x,x∈b.ck->x.length<=12000)∧∀x,x∈b.code->x.length<=12000
theorem Co.smalls (h:Co bs n) (hn:n<=1000):ur bs:=⟨by have:=h.len;omega,λi hi=>by
 have:=h.bk (bR bs i) (List.mem_of_getElem? (kq hi))
 exact⟨by omega,om,om⟩⟩
theorem Co.snoc (h:Co bs n) {f:Bk} (hf:f.aJ.length<=100∧f.ck.length<=40∧f.code.length<=80∧(∀x,x∈f.ck->x.length<=12000)∧∀x,x∈f.code->x.length<=12000):Co (bs++[f]) (n+1):=
 ⟨by have:=h.len;simp;omega,λb hb=>by
  rcases mA.1 hb with h9|h9
  ·exact h.bk b h9
  ·rw[List.mem_singleton.1 h9];exact hf⟩
def Rr:List ai:=[[99,48],[99,49],[98,57]]
theorem apX (br q:Nat) (hq:q<=500000000) (w:World) (h:dB w br q):
  bw Tryz.prog 49 [.pointer (some ⟨br,0,none⟩)] w λr w'=>(∃bs g,Co bs 42∧Gr w.heap.size [br] w' 58 3 r g (bs.map Bk.enc))∧dB w' br (q+30000)∧aj [br] w w':=by
 have hk:=aj.refl [br] w
 have ix:=h.lt
 refine bU [.tmp 2] 33 Tryz.func49 rfl ad7 rfl rfl ?_
 refine W ?_
 refine aA (aoT br q om w h) ?_
 rintro v9 w1 ⟨⟨ps0,g0,hP,hO⟩,h,aB⟩
 have hk:=hk.trans aB
 have H5:=hO.own
 obtain⟨xsv,dm⟩:=H5
 have H5:=dm.len
 obtain⟨a0,c0,e9⟩:=H5
 subst e9
 rw[List.length_map] at hO⊢
 refine W ?_
 refine dR (λq5:Nat×List Bk×Option Addr×Nat×Option Nat=>[(0,.pointer (some ⟨br,0,none⟩)),(3,.slice q5.2.2.1 q5.2.1.length q5.2.2.2.1),(4,.int .i64 (q5.1:Int))]) (λq5 w'=>aj [br] w w'∧dB w' br (q+20000+1000*q5.1)∧Gr w.heap.size [br] w' 58 3 (.slice q5.2.2.1 q5.2.1.length q5.2.2.2.1) q5.2.2.2.2 (q5.2.1.map Bk.enc)∧Co q5.2.1 (40+q5.1)∧q5.1<=2) (λq5=>2-q5.1) ((0,ps0,a0,c0,g0)) (⟨rfl,rfl,rfl⟩) (⟨hk,h,hO,⟨hP.len,hP.bk⟩,om⟩) λgg w2 e2 hI=>?_
 obtain⟨i,bs,a3,cc,g3⟩:=gg
 dsimp only at hI⊢
 obtain⟨hk,h,hO,hD,hi⟩:=hI
 have hDl:=hD.len
 have k8:=h.lt
 refine W ?_
 refine zc rfl (λh1=>?_) (λh1=>?_)
 have fX:i<2:=by omega
 refine W ?_
 refine pJ bg ba rfl rfl rfl rfl rfl λw3 aH uT gL=>cJ aH hk h hO λhk h hO=>?_
 refine aA (mw Rr de de br _ om _ w3 h (aK.dO Rr uT (λhx=>by simp at hx;omega) de)) ?_
 rintro zM w4 ⟨⟨lb,apZ,BS⟩,h,aB⟩
 subst BS
 have hk:=hk.trans aB
 have hO:=hO.aD aB sm
 have B6:=(show∀x,x∈Rr->x.length<=30 from by decide) _ apZ
 refine zm<|aA (mv 2 de de br _ om w4 h) ?_
 rintro v9 w5 ⟨⟨z4,e9,gQ⟩,h,aB⟩
 subst e9
 have hk:=hk.trans aB
 have hO:=hO.aD aB sm
 have k8:=h.lt
 have fG:=hO.all
 refine aA (LX lb z4 om br _ om w5 h) ?_
 rintro v9 w6 ⟨⟨f,hf,BH⟩,h,aB⟩
 have hk:=hk.trans aB
 have hO:=hO.aD aB sm
 have BH:=BH _ fG
 have bV:=AB BH
 obtain⟨a5,n5,c5,a6,n6,c6,e9,H6,Qc,iR,iJ⟩:=bV
 subst e9
 have hfd:=hf.dr om
 have k8:=h.lt
 have H5:=hk.size
 refine dz fm rfl rfl rfl λw7 bW cu gZ=>bI bW hk h λhk h=>?_
 have hO:=hO.alloc bW gZ
 have iR:=bP.ext (bP.grow iR) bW
 have iJ:=bP.ext (bP.grow iJ) bW
 refine cL (vs:=[str f.aJ,.slice a5 n5 c5,.slice a6 n6 c6]) fm rfl rfl rfl cu rfl λw8 cg cu du=>?_
 have hO:=hO.aD cg sm
 have hk:=hk.since cg (λx hx=>.inr (by simp at hx;omega))
 have h:=h.aF cg (λx hx=>by simp at hx;omega)
 have iR:=bP.aD iR cg sm
 have iJ:=bP.aD iJ cg sm
 refine W ?_
 refine aA (NO bs om f.aJ _ _ _ hO.um) ?_
 rintro _ _ ⟨rfl,rfl⟩
 refine WZ ?_
 apply oA 3 24 27 (aj [] w8) rfl oQ
 intro h2
 refine W ?_
 refine aA (UE f om om om _ _ w8 (vH iR iJ)) ?_
 rintro _ w9 ⟨rfl,aB⟩
 have nA:=aB.size
 exact oQ
 intro xx w9 aB
 refine tC aB hk h hO iR iJ cu λhk h hO iR iJ cu=>?_
 refine aV<|zc rfl (λh3=>?_) (λh3=>?_)
 refine W ?_
 refine eR iD fm rfl rfl λcv cw yk Bx=>kJ cw hk h hO iR iJ λhk h hO iR iJ=>?_
 refine MA iD fm rfl rfl rfl rfl rfl rfl hO yk (vH (bP.weaken iR (λx hx=>by simp only[mA,mC,List.not_mem_nil,or_false] at hx⊢;rcases hx with h9|h9|h9;(·exact .inr (.inl h9));(·exact .inl h9);(·exact .inr (.inr h9)))) (bP.weaken iJ (λx hx=>by simp only[mA,mC,List.not_mem_nil,or_false] at hx⊢;rcases hx with h9|h9|h9;(·exact .inr (.inl h9));(·exact .inl h9);(·exact .inr (.inr h9))))) om λa7 c7 g7 ew fP cR=>?_
 have hk:=hO.since hk cR
 have h:=h.aF cR (λx hx=>by have:=hO.low x (by simp at hx;simp[hx]);omega)
 refine W ?_
 exact⟨(i+1,bs++[f],a7,c7,g7),⟨rfl,rfl,rfl⟩,⟨hk,h.more om,fP.gm (λx hx=>by simp at hx;simp[hx]),by dsimp only;exact hD.snoc hfd,by dsimp only;omega⟩,by dsimp only;omega⟩
 refine W ?_
 exact⟨(i+1,bs,a3,cc,g3),⟨rfl,rfl,rfl⟩,⟨hk,h.more om,hO.gm (λx hx=>by simp at hx;simp[hx]),⟨by dsimp only;omega,hD.bk⟩,by dsimp only;omega⟩,by dsimp only;omega⟩
 refine W ?_
 exact⟨_,rfl,⟨bs,g3,⟨by omega,hD.bk⟩,hO⟩,h.more om,hk⟩
theorem ap1 (bs:List UInt8) (hb:bs.length<=1000000000) (v:Value) (w:World) (hv:bP [] w v (.sl 1 (r5 bs))):
  bw Tryz.prog 17 [v] w λr w'=>(∃ps,Co ps 42∧lH [] w' r ps)∧aj [] w w':=by
 have hK:=aj.refl [] w
 refine bU [.tmp 2] 6 Tryz.func17 rfl ac0 rfl rfl ?_
 refine W ?_
 refine aA (anK bs hb _ w hv) ?_
 rintro v1 w1 ⟨fN,aI⟩
 have dk:=aI.size
 have hK:=hK.ext aI
 obtain⟨br,e9,Kd,h⟩:=fN
 subst e9
 refine aA (apX br 0 de w1 h) ?_
 rintro v9 w2 ⟨⟨ps,gp,hD,hG⟩,h,aB⟩
 have hR:=hG.um
 have hK:=hK.since aB (λx hx=>.inr (by simp at hx;omega))
 refine W ?_
 exact⟨_,rfl,⟨ps,hD,bP.none hR⟩,hK⟩
theorem Rs (xs:List ai) (hx:xs.length<1000000000000) (va vb:Value) (La Lb:List Nat) (w:World) (ha:bf La w va xs) (hb:bf Lb w vb xs):bw Tryz.prog 20 [va,vb] w λr w'=>r= .bool true∧aj [] w w':=by
 obtain⟨a1,n1,c1,rfl,fu⟩:=dH ha
 obtain⟨a2,n2,c2,rfl,eS⟩:=dH hb
 subst fu eS
 have hK:=aj.refl [] w
 refine bU [.tmp 4] 26 Tryz.func20 rfl adt rfl rfl ?_
 refine W ?_
 refine zc rfl (λh1=>?_) (λh1=>?_)
 exact absurd rfl h1
 refine W ?_
 refine dR (λk:Nat=>[(0,.slice a1 xs.length c1),(1,.slice a2 xs.length c2),(5,.int .i64 (k:Int))]) (λk w'=>aj [] w w'∧k<=xs.length) (λk=>xs.length-k) (0) (⟨rfl,rfl,rfl⟩) (⟨hK,om⟩) λgg w1 e1 hI=>?_
 obtain⟨hK,hk⟩:=hI
 refine W ?_
 refine zc rfl (λh2=>?_) (λh2=>?_)
 have hg:=ik (xs:=xs) (i:=gg) om
 obtain⟨b1,eX,rfl,bK⟩:=lf ha hg
 obtain⟨b2,lP,rfl,bY⟩:=lf hb hg
 refine WZ ?_
 apply lh dv 9 (rA 17 9) (rA 17 9) [[],[],[0,1],[2],[],[],[4,5],[6],[3,7]] [It.v _,It.v _,It.v _,It.v _,It.v _,It.v _,It.v _,It.v _,It.v (.bool (decide (bD xs gg≠bD xs gg)))] de rfl
 intro wd aC
 refine VA ?_
 refine vk aC (λx w2 az=>?_) ?_
 have hK:=hK.ext az
 refine zl fo rfl (bK.ext hK 0 _ rfl) ?_
 exact pv
 refine VA ?_
 refine vk aC (λx w2 az=>?_) ?_
 have hK:=hK.ext az
 refine zl fo rfl (bY.ext hK 0 _ rfl) ?_
 exact pv
 exact VZ
 intro x oW gS
 have hK:=hK.ext gS
 change OW _ _ _ _ [] (bo (bm _ x _) (zZ 17 [_,_,_,_,_,_,_,_,_])) _
 refine aV<|zc rfl (λh3=>?_) (λh3=>?_)
 exact absurd rfl h3
 refine W ?_
 exact⟨gg+1,⟨rfl,rfl,rfl⟩,⟨hK,om⟩,om⟩
 refine W ?_
 exact⟨_,rfl,rfl,hK⟩
theorem ZN (ps:List ai) (hl:ps.length<=1000000000) (s:ai) (v:Value) (L:List Nat) (w:World) (hv:bf L w v ps):bw Tryz.prog 23 [v,str s] w λr w'=>r= .bool (decide (s∈ps))∧aj [] w w':=by
 obtain⟨a,n,c,rfl,hn⟩:=dH hv
 subst hn
 have hK:=aj.refl [] w
 refine bU [.tmp 4] 18 Tryz.func23 rfl adN rfl rfl ?_
 refine W ?_
 refine dR (λk:Nat=>[(0,.slice a ps.length c),(1,str s),(5,.int .i64 (k:Int))]) (λk w'=>aj [] w w'∧k<=ps.length∧∀i,i<k->bD ps i≠s) (λk=>ps.length-k) (0) (⟨rfl,rfl,rfl⟩) (⟨hK,om,by intro i hi;omega⟩) λgg w1 e1 hI=>?_
 obtain⟨hK,hk,cC⟩:=hI
 refine W ?_
 refine zc rfl (λh1=>?_) (λh1=>?_)
 have hg:=ik (xs:=ps) (i:=gg) om
 have aQ:=lf hv hg
 obtain⟨b1,eX,rfl,bK⟩:=aQ
 refine WL ?_
 refine zl fo rfl (bK.ext hK 0 _ rfl)<|zm<|Ap rfl rfl rfl rfl<|aV<|zc rfl (λh2=>?_) (λh2=>?_)
 have hq:s∈ps:=(by rw[<-h2];exact List.mem_of_getElem? hg)
 refine W ?_
 exact⟨_,rfl,by rw[dT hq];rfl,hK⟩
 have dN:=h2
 refine W ?_
 exact⟨gg+1,⟨rfl,rfl,rfl⟩,⟨hK,om,by intro i hi;rcases Nat.lt_or_ge i gg with h|h;exact cC i h;rw[show i=gg by omega];exact dN⟩,om⟩
 have hq:¬s∈ps:=(λhm=>by obtain⟨i,hi,e⟩:=List.getElem_of_mem hm;exact cC i om (by simp[bD,gE hi,e]))
 refine W ?_
 exact⟨_,rfl,by rw[dF hq];rfl,hK⟩
theorem ap2 (ys:List Bk) (hyl:ys.length<=1000) (v:Value) (L:List Nat) (w:World) (hv:lH L w v ys):bw Tryz.prog 24 [v] w λr w'=>bf [] w' r (ys.map Bk.aJ)∧aj [] w w':=by
 obtain⟨ya,yn,yc,rfl,I0⟩:=vI hv
 subst I0
 have hK:=aj.refl [] w
 refine bU [.tmp 2] 21 Tryz.func24 rfl adP rfl rfl ?_
 refine W ?_
 refine vJ w.heap.size [] bg ba rfl rfl (lR _) sm λw1 aI dh hO=>?_
 have hK:=hK.ext aI
 refine W ?_
 refine dR (λq:Nat×Option Addr×Nat×Option Nat=>[(0,.slice ya ys.length yc),(3,.slice q.2.1 ((ys.take q.1).map Bk.aJ).length q.2.2.1),(4,.int .i64 (q.1:Int))]) (λq w'=>aj [] w w'∧Gr w.heap.size [] w' 9 1 (.slice q.2.1 ((ys.take q.1).map Bk.aJ).length q.2.2.1) q.2.2.2 (fb ((ys.take q.1).map Bk.aJ))∧q.1<=ys.length) (λq=>ys.length-q.1) ((0,some ⟨w.heap.size,0,none⟩,0,some w.heap.size)) (⟨rfl,rfl,rfl⟩) (⟨hK,hO,sm⟩) λgg w2 e2 hI=>?_
 obtain⟨i,a3,cc,g3⟩:=gg
 dsimp only at hI⊢
 obtain⟨hK,hO,hi⟩:=hI
 refine W ?_
 refine zc rfl (λh1=>?_) (λh1=>?_)
 have fX:i<ys.length:=by omega
 have yw:=xm hv (kq fX)
 obtain⟨bb,ob,d1,m1,f1,d2,m2,f2,e5,Cn,pP,pz,cz,bZ⟩:=yw
 cases e5
 have pV:=AP Bk.aJ (kq fX)
 refine WI ?_
 refine zi iD fm rfl rfl fX<|zf EE rfl<|zl fo rfl (Cn.ext hK 0 _ rfl)<|eR bg ba rfl rfl λw3 aH jP gL=>bI aH hK hO λhK hO=>?_
 refine Ew bg ba rfl rfl rfl rfl rfl rfl hO jP (by rw[List.length_map,List.length_take];omega) λa7 c7 g7 w4 fP aP=>?_
 have hK:=hO.since hK aP
 rw[pV] at fP⊢
 refine W ?_
 exact⟨(i+1,a7,c7,g7),⟨rfl,rfl,rfl⟩,⟨hK,fP,by dsimp only;omega⟩,by dsimp only;omega⟩
 rw[CI Bk.aJ om] at hO⊢
 refine W ?_
 exact⟨_,rfl,hO.done,hK⟩
theorem auj (bs:List UInt8) (v:Value) (w:World) (hv:bP [] w v (.sl 1 (r5 bs))):
  bw Tryz.prog 5 [v] w λr w'=>r= .bool true∧aj [] w w':=by
 obtain⟨a,c,rfl,_⟩:=sh hv
 have ix:(r5 bs).length=bs.length:=F6 bs
 have hK:=aj.refl [] w
 refine bU [.tmp 2] 107 Tryz.func5 rfl nm5 rfl rfl ?_
 refine W ?_
 refine zc rfl (λh1=>?_) (λh1=>?_)
 refine W ?_
 exact⟨_,rfl,rfl,hK⟩
 refine gT<|zr<|zm<|aA (ap1 bs om _ w hv) ?_
 rintro v1 w1 ⟨fN,aI⟩
 have dk:=aI.size
 have hK:=hK.ext aI
 obtain⟨ps,hD,hR⟩:=fN
 have bV:=vI hR
 obtain⟨pa,pn,pc,e8,eO⟩:=bV
 subst e8
 have hS:=hD.smalls de
 have Ah:∀b,b∈ps->b.aJ.length<=12000:=(λb hb=>by have:=(hD.bk b hb).1;omega)
 have ZO:=Zu Ah
 have nj:=hD.len
 refine W ?_
 refine aA (apq ps hS _ [] w1 hR) ?_
 rintro v2 w2 ⟨gz,az⟩
 have dx:=az.size
 refine bI az hK hR λhK hR=>?_
 rw[ZO] at gz
 obtain⟨xv,xs,e7,hX,EZ⟩:=gz
 subst e7
 have wX:=dH hX
 obtain⟨xa,xn,xc,e6,Zg⟩:=wX
 subst e6
 have lB:xs.length<=42:=(by cases hq:eN ps with|false=>rw[EZ.1 hq];simp|true=>obtain⟨ms,_,e⟩:=EZ.2 hq;rw[e];unfold k9;rw[List.length_map];have:=Gb ms ps ps.length;omega)
 refine W ?_
 refine aA (apV ps hS _ [] w2 hR) ?_
 rintro v3 w3 ⟨jo,aH⟩
 have fh:=aH.size
 refine cJ aH hK hR hX λhK hR hX=>?_
 obtain⟨yv,ys,e7,hY,hLy⟩:=jo
 subst e7
 have Pp:=dH hY
 obtain⟨ya,yn,yc,e6,I0⟩:=Pp
 subst e6
 have hxy:=EZ.same hLy
 subst hxy
 refine W ?_
 apply oO 5 33 38 (aj [] w3) rfl oQ
 intro h2
 refine zm<|zm<|aA (Rs xs om _ _ [] [] w3 hX hY) ?_
 rintro _ w4 ⟨rfl,aP⟩
 have fH:=aP.size
 exact oQ
 intro xx w5 aN
 refine gY aN hK hR hX hY λhK hR hX hY=>?_
 refine WZ ?_
 apply oP 3 39 42 rfl oQ
 intro _
 exact oQ
 intro xx
 refine aV<|zc rfl (λh4=>?_) (λh4=>?_)
 refine WZ ?_
 apply oA 4 46 50 (aj [] w5) rfl oQ
 intro h5
 refine zm<|zm<|aA (Rs xs om _ _ [] [] w5 hX hY) ?_
 rintro _ w6 ⟨rfl,bN⟩
 have iJ:=bN.size
 exact oQ
 intro xx w6 bN
 have hK:=hK.ext bN
 refine W ?_
 exact⟨_,rfl,congrArg Value.bool sm,hK⟩
 have fK:eN ps=true:=(by simpa using h4)
 have mx:lg ps=true:=ZO.trans fK
 have aQ:=EZ.2 fK
 obtain⟨ms0,ap5,sS⟩:=aQ
 refine gT<|zr<|zm<|aA (apr ps hS mx _ [] [] w5 hR sm) ?_
 rintro v6 w6 ⟨wL,bN⟩
 have iJ:=bN.size
 refine cJ bN hK hR hX λhK hR hX=>?_
 obtain⟨tv,ms,e7,xe,hT⟩:=wL
 subst e7
 have N9:=vI hT
 obtain⟨ta,tn,tc,e6,htn⟩:=N9
 subst e6
 have Rt:xs=k9 ms ps ps.length:=(by rw[sS];unfold k9;rw[Rf ap5 xe])
 have fL:=Gb ms ps ps.length
 have GY:=ao5 fK xe.zero
 have LM:∀b,b∈fW ms ps ps.length->b∈ps:=(λb hb=>apc (lR _) hb)
 have htI:lg (fW ms ps ps.length)=true:=(Zu (λb hb=>Ah b (LM b hb))).trans GY
 have htS:ur (fW ms ps ps.length):=⟨by omega,λi hi=>by have:=hD.bk _ (LM _ (List.mem_of_getElem? (kq hi)));exact⟨by omega,om,om⟩⟩
 refine W ?_
 refine aA (apt (fW ms ps ps.length) htS htI _ [] w6 hT) ?_
 rintro v7 w7 ⟨wy,bW⟩
 have lp:=bW.size
 refine gY bW hK hR hX hT λhK hR hX hT=>?_
 obtain⟨nv,e7,hN⟩:=wy
 subst e7
 have vh:=dH hN
 obtain⟨na,nn,nc,e6,qk⟩:=vh
 subst e6
 refine W ?_
 refine aA (apC ps hS mx _ [] w7 hR) ?_
 rintro v8 w8 ⟨Dw,cg⟩
 have wH:=cg.size
 refine gY cg hK hX hT hN λhK hX hT hN=>?_
 obtain⟨wv,e7,hW⟩:=Dw
 subst e7
 have Ps:=dH hW
 obtain⟨wa,wn,wc,e6,hwn⟩:=Ps
 subst e6
 have gk:=aj.refl [] w8
 refine W ?_
 have mQ:=F7 ((fW ms ps ps.length).map cP)
 have Fq:=En (AS GY).2
 have Hz:(Ro (ps.map cP)).length<=(iB (ps.map cP)).length:=List.length_filter_le _ _
 have aum:=F7 (ps.map cP)
 have ap8:=En (AS fK).2
 rw[List.length_map] at Fq ap8
 refine dR (λi:Nat=>[(4,.slice xa xn xc),(8,.slice ta tn tc),(9,.bool true),(10,.slice na nn nc),(11,.bool true),(12,.slice wa wn wc),(13,.bool true),(14,.int .i64 (i:Int))]) (λi w'=>aj [] w w'∧aj [] w8 w'∧i<=nn) (λi=>nn-i) (0) (⟨rfl,rfl,rfl,rfl,rfl,rfl,rfl,rfl⟩) (⟨hK,gk,om⟩) λgg w9 e9 hI=>?_
 obtain⟨hK,gk,hi⟩:=hI
 have hX:=hX.ext gk;have hT:=hT.ext gk;have hN:=hN.ext gk;have hW:=hW.ext gk
 refine W ?_
 refine zc rfl (λh6=>?_) (λh6=>?_)
 have fX:gg<(iB ((fW ms ps ps.length).map cP)).length:=om
 have hg:=ik (xs:=iB ((fW ms ps ps.length).map cP)) (i:=gg) fX
 have hng:=lf hN hg
 obtain⟨nb,noff,e5,hc⟩:=hng
 cases e5
 have ld:=ao8 fK xe (List.mem_of_getElem? hg)
 rw[<-Rt] at ld
 refine W ?_
 refine aA (ZN xs om _ _ [] w9 hX) ?_
 rintro _ cv ⟨rfl,cw⟩
 have zI:=cw.size
 refine gY cw hK hW gk hc λhK hW gk hc=>?_
 refine WZ ?_
 apply oA 8 79 87 (aj [] cv) rfl oQ
 intro h7
 refine W ?_
 refine aA (ZN (Ro (ps.map cP)) om _ _ [] cv hW) ?_
 rintro _ ew ⟨rfl,cR⟩
 have yo:=cR.size
 exact oQ
 intro xx ew cR
 refine bI cR hK gk λhK gk=>?_
 refine aV<|zc rfl (λh8=>?_) (λh8=>?_)
 exfalso
 have rh:=Bool.and_eq_true_iff.1 h8
 simp only[Bool.not_eq_true',decide_eq_false_iff_not] at rh
 exact ld.elim rh.1 rh.2
 refine W ?_
 exact⟨gg+1,⟨rfl,rfl,rfl,rfl,rfl,rfl,rfl,rfl⟩,⟨hK,gk,om⟩,om⟩
 have F5:=apb fK xe
 rw[<-Rt] at F5
 obtain⟨F5,il⟩:=F5
 have hg:=ik (xs:=xs) (i:=0) F5
 have hxg:=lf hX hg
 obtain⟨xb,xoff,e5,hc⟩:=hxg
 cases e5
 refine yx<|yy rfl<|zr<|zm<|zm<|yH (t:=89) (b:=true) rfl<|zm<|zp rfl<|zm<|yH (t:=92) (b:=true) rfl<|zm<|zp rfl<|zm<|yH (t:=95) (b:=true) rfl<|zm<|zi (i:=0) bg ba rfl rfl om<|zl fo rfl (hc 0 _ rfl)<|Ap rfl rfl rfl rfl<|zp rfl<|zm<|yH (t:=101) (b:=true) (congrArg Value.bool (dT il))<|zm<|zm ?_
 refine aA (ap2 (fW ms ps ps.length) om _ [] w9 hT) ?_
 rintro v10 cv ⟨P7,cw⟩
 have zI:=cw.size
 refine bI cw hK hX λhK hX=>?_
 have hL:=P7
 have ld:=dH hL
 obtain⟨la,ln,lc,e6,BQ⟩:=ld
 subst e6
 have hL:bf [] cv (.slice la ln lc) xs:=(by rw[Rt];exact hL)
 refine aA (Rs xs om _ _ [] [] cv hX hL) ?_
 rintro _ ew ⟨rfl,cR⟩
 have yo:=cR.size
 have hK:=hK.ext cR
 refine W ?_
 exact⟨_,rfl,rfl,hK⟩
theorem aun:(fun(_:Program) (_:FuncId) (_:Func) (s:ChangeSpec) (c:OpenClaim)=>(c.wf (OpenSpec.ofChange s):Bool)) Tryz.pinned.checked.prog 5 Tryz.f5 Rows.fnReachSpec Rows.fnReachRow=true:=by kernel_rfl
theorem auo:(fun(P:Program) (_:FuncId) (_:Func) (_:ChangeSpec) (_:OpenClaim)=>(laidOutB P:Bool)) Tryz.pinned.checked.prog 5 Tryz.f5 Rows.fnReachSpec Rows.fnReachRow=true:=by kernel_rfl
theorem aup:(fun(P:Program) (_:FuncId) (_:Func) (_:ChangeSpec) (_:OpenClaim)=>(mapsRowed P:Bool)) Tryz.pinned.checked.prog 5 Tryz.f5 Rows.fnReachSpec Rows.fnReachRow=true:=by kernel_rfl
theorem auq:(fun(P:Program) (_:FuncId) (fn:Func) (_:ChangeSpec) (_:OpenClaim)=>(fn.params.all (P.readableRec ·):Bool)) Tryz.pinned.checked.prog 5 Tryz.f5 Rows.fnReachSpec Rows.fnReachRow=true:=by kernel_rfl
theorem aur:(fun(P:Program) (_:FuncId) (_:Func) (s:ChangeSpec) (c:OpenClaim)=>(namedTie P c.named s.vars:Bool)) Tryz.pinned.checked.prog 5 Tryz.f5 Rows.fnReachSpec Rows.fnReachRow=true:=by kernel_rfl
theorem aus:(fun(_:Program) (_:FuncId) (_:Func) (_:ChangeSpec) (c:OpenClaim)=>((c.stops==[]):Bool)) Tryz.pinned.checked.prog 5 Tryz.f5 Rows.fnReachSpec Rows.fnReachRow=true:=by kernel_rfl
theorem aut:(fun(P:Program) (_:FuncId) (_:Func) (_:ChangeSpec) (_:OpenClaim)=>((P.stops==[]):Bool)) Tryz.pinned.checked.prog 5 Tryz.f5 Rows.fnReachSpec Rows.fnReachRow=true:=by kernel_rfl
theorem auu:(fun(_:Program) (_:FuncId) (_:Func) (_:ChangeSpec) (c:OpenClaim)=>((c.knobs==[]):Bool)) Tryz.pinned.checked.prog 5 Tryz.f5 Rows.fnReachSpec Rows.fnReachRow=true:=by kernel_rfl
theorem auv:(fun(P:Program) (_:FuncId) (_:Func) (_:ChangeSpec) (_:OpenClaim)=>((P.stopKnobs==[]):Bool)) Tryz.pinned.checked.prog 5 Tryz.f5 Rows.fnReachSpec Rows.fnReachRow=true:=by kernel_rfl
theorem auw:(fun(P:Program) (f:FuncId) (_:Func) (_:ChangeSpec) (c:OpenClaim)=>((c.inPlace==P.inPlace f):Bool)) Tryz.pinned.checked.prog 5 Tryz.f5 Rows.fnReachSpec Rows.fnReachRow=true:=by kernel_rfl
theorem auy:(fun(P:Program) (f:FuncId) (_:Func) (_:ChangeSpec) (c:OpenClaim)=>((c.unfollowed==P.unfollowed f):Bool)) Tryz.pinned.checked.prog 5 Tryz.f5 Rows.fnReachSpec Rows.fnReachRow=true:=by kernel_rfl
theorem auz:(fun(P:Program) (f:FuncId) (_:Func) (_:ChangeSpec) (c:OpenClaim)=>((c.recurses==P.recurses f):Bool)) Tryz.pinned.checked.prog 5 Tryz.f5 Rows.fnReachSpec Rows.fnReachRow=true:=by kernel_rfl
theorem auA:(fun(P:Program) (f:FuncId) (_:Func) (_:ChangeSpec) (c:OpenClaim)=>((c.named==P.varsNamed f):Bool)) Tryz.pinned.checked.prog 5 Tryz.f5 Rows.fnReachSpec Rows.fnReachRow=true:=by kernel_rfl
theorem auB:(fun(P:Program) (_:FuncId) (fn:Func) (s:ChangeSpec) (c:OpenClaim)=>((c.maps==(fn.params.toList++s.plain.varTypes P).any (P.mapsRec ·)):Bool)) Tryz.pinned.checked.prog 5 Tryz.f5 Rows.fnReachSpec Rows.fnReachRow=true:=by kernel_rfl
theorem auC:(fun(P:Program) (_:FuncId) (fn:Func) (s:ChangeSpec) (c:OpenClaim)=>((c.ifaces==(fn.params.toList++s.plain.varTypes P).any (P.ifacesRec ·)):Bool)) Tryz.pinned.checked.prog 5 Tryz.f5 Rows.fnReachSpec Rows.fnReachRow=true:=by kernel_rfl
theorem auD:(fun(P:Program) (_:FuncId) (fn:Func) (_:ChangeSpec) (c:OpenClaim)=>((c.mapsOut==P.mapsAmong fn.resultTypes.toList):Bool)) Tryz.pinned.checked.prog 5 Tryz.f5 Rows.fnReachSpec Rows.fnReachRow=true:=by kernel_rfl
theorem auE:(fun(P:Program) (_:FuncId) (fn:Func) (s:ChangeSpec) (c:OpenClaim)=>((c.loops==(fn.params.toList++s.plain.varTypes P).any (P.loopsFrom ·)):Bool)) Tryz.pinned.checked.prog 5 Tryz.f5 Rows.fnReachSpec Rows.fnReachRow=true:=by kernel_rfl
theorem auF:(fun(P:Program) (_:FuncId) (fn:Func) (s:ChangeSpec) (c:OpenClaim)=>((c.wideKeys==(fn.params.toList++s.plain.varTypes P++fn.resultTypes.toList).any (P.wideKeysFrom ·)):Bool)) Tryz.pinned.checked.prog 5 Tryz.f5 Rows.fnReachSpec Rows.fnReachRow=true:=by kernel_rfl
theorem auG:(fun(P:Program) (_:FuncId) (_:Func) (s:ChangeSpec) (_:OpenClaim)=>(s.vars.all (P.varReadable ·):Bool)) Tryz.pinned.checked.prog 5 Tryz.f5 Rows.fnReachSpec Rows.fnReachRow=true:=by kernel_rfl
theorem auH:(fun(P:Program) (_:FuncId) (fn:Func) (_:ChangeSpec) (_:OpenClaim)=>(fn.resultTypes.all (λt=>P.readableRec t&&decide (t<P.types.size)):Bool)) Tryz.pinned.checked.prog 5 Tryz.f5 Rows.fnReachSpec Rows.fnReachRow=true:=by kernel_rfl
theorem auI:(fun(P:Program) (_:FuncId) (fn:Func) (_:ChangeSpec) (c:OpenClaim)=>((c.ifacesOut==fn.resultTypes.toList.any (P.ifacesRec ·)):Bool)) Tryz.pinned.checked.prog 5 Tryz.f5 Rows.fnReachSpec Rows.fnReachRow=true:=by kernel_rfl
theorem auJ:(fun(P:Program) (_:FuncId) (fn:Func) (_:ChangeSpec) (c:OpenClaim)=>((c.loopsOut==fn.resultTypes.toList.any (P.loopsFrom ·)):Bool)) Tryz.pinned.checked.prog 5 Tryz.f5 Rows.fnReachSpec Rows.fnReachRow=true:=by kernel_rfl
theorem auK:(fun(P:Program) (_:FuncId) (_:Func) (_:ChangeSpec) (c:OpenClaim)=>((c.plainKeys==P.plainKeys):Bool)) Tryz.pinned.checked.prog 5 Tryz.f5 Rows.fnReachSpec Rows.fnReachRow=true:=by kernel_rfl
theorem auL:Tryz.pinned.checked.prog.funcNamed "loop.example/typedassembly/laws.FnReach"=some 5:=by kernel_rfl
theorem auM:(Tryz.f5).isInstance Tryz.pinned.checked.prog Rows.fnReachRow.origin Rows.fnReachRow.targs:=of_decide_eq_true (by kernel_rfl)
theorem auN:(Tryz.f5).isWrapper Tryz.pinned.checked.prog Rows.fnReachRow.wrapper Rows.fnReachRow.mainSum:=by unfold Func.isWrapper;first|(rw[iP (by decide+kernel)];kernel_rfl)|(rw[iN (by decide+kernel)];exact⟨rfl,rfl⟩)
theorem auO:Rows.fnReachRow.wfByText (OpenSpec.ofChange Rows.fnReachSpec)=true:=by kernel_rfl
theorem auP:(fun(_:Program) (_:FuncId) (_:Func) (_:ChangeSpec) (c:OpenClaim)=>(c.shortTexts.isNone:Bool)) Tryz.pinned.checked.prog 5 Tryz.f5 Rows.fnReachSpec Rows.fnReachRow=true:=by kernel_rfl
theorem auQ:(fun(P:Program) (_:FuncId) (_:Func) (_:ChangeSpec) (_:OpenClaim)=>(P.stopsHeard:Bool)) Tryz.pinned.checked.prog 5 Tryz.f5 Rows.fnReachSpec Rows.fnReachRow=true:=by kernel_rfl
theorem auR:(fun(P:Program) (_:FuncId) (_:Func) (_:ChangeSpec) (_:OpenClaim)=>(P.mayEnter:Bool)) Tryz.pinned.checked.prog 5 Tryz.f5 Rows.fnReachSpec Rows.fnReachRow=true:=by kernel_rfl
theorem auS:(fun(P:Program) (_:FuncId) (_:Func) (_:ChangeSpec) (c:OpenClaim)=>((c.lifted==P.liftsFinal):Bool)) Tryz.pinned.checked.prog 5 Tryz.f5 Rows.fnReachSpec Rows.fnReachRow=true:=by kernel_rfl
theorem auT:(fun(P:Program) (_:FuncId) (_:Func) (_:ChangeSpec) (c:OpenClaim)=>((P.make==some c.make):Bool)) Tryz.pinned.checked.prog 5 Tryz.f5 Rows.fnReachSpec Rows.fnReachRow=true:=by kernel_rfl
theorem auU:(fun(P:Program) (_:FuncId) (fn:Func) (_:ChangeSpec) (c:OpenClaim)=>((c.kinds==(if c.domain.isEmpty then[] else fn.params.toList.map λt=>match P.underlying t with|some (.int k)=>some k|_=>none)):Bool)) Tryz.pinned.checked.prog 5 Tryz.f5 Rows.fnReachSpec Rows.fnReachRow=true:=by kernel_rfl
theorem auV:(fun(_:Program) (_:FuncId) (_:Func) (_:ChangeSpec) (c:OpenClaim)=>((c.pinned==c.pinnedBy):Bool)) Tryz.pinned.checked.prog 5 Tryz.f5 Rows.fnReachSpec Rows.fnReachRow=true:=by kernel_rfl
theorem auW:(fun(P:Program) (_:FuncId) (fn:Func) (s:ChangeSpec) (c:OpenClaim)=>((c.veiled==(fn.params.toList++s.plain.varTypes P++fn.resultTypes.toList).any (P.veiledRec ·)):Bool)) Tryz.pinned.checked.prog 5 Tryz.f5 Rows.fnReachSpec Rows.fnReachRow=true:=by kernel_rfl
theorem auX:(fun(P:Program) (_:FuncId) (fn:Func) (s:ChangeSpec) (c:OpenClaim)=>(c.veiledFits P fn.params.toList (fn.params.toList++s.plain.varTypes P++fn.resultTypes.toList):Bool)) Tryz.pinned.checked.prog 5 Tryz.f5 Rows.fnReachSpec Rows.fnReachRow=true:=by kernel_rfl
theorem auY:Tryz.pinned.checked.prog.mainIs=some (true, "11cc121be114b82c54ce4e6be40da035a0e47b7a30a856ed352bc20fea3a48b9".toList):=by kernel_rfl
theorem auZ:true=Tryz.pinned.checked.prog.looks []:=by kernel_rfl
theorem au0:Tryz.pinned.checked.prog.wantsStandIn 22=false:=by kernel_rfl
theorem au1:false=Rows.fnReachRow.goesBy Tryz.pinned.checked.prog:=by kernel_rfl
end Go.Proofs.YthbhobaiopccaaaGreatDoor
