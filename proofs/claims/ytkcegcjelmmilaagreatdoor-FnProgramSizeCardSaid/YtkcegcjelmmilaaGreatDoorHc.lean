/- Lemmas for the law FnProgramSize, no statement of their own: no conditions. -/
import Derived.Test.YtkcegcjelmmilaaGreatDoorHb
import Derived.Laws.IdiomStrings
import Derived.Laws.MakeOwn
namespace Go.Proofs.YtkcegcjelmmilaaGreatDoor
open Go
set_option maxHeartbeats 4000000
variable {L L':List Nat} {w w':World} {v z:Value} {ts:List aq} {B E b bytes c i j k n sz x:Nat} {vs:List Value} {ps:List dy} {a:Option Addr} {g gb:Option Nat} {t:aq} {s:cD} {rows:List (List C)} {vss:List (List Value)} {m m1 m2:Mk} {xs:List ai} {gss:List (Option Nat×Option Nat)} {bs:List Bk} {q1 q2 q3 q4 q5 q6:Operand} {a1 a2 a3 a4 a5 a6 h:ai} {e:Ex}
theorem aeZ (h:ai) (n:Nat) (hn:n<=8000) (w:World):bz Tryz.prog 58 [str h,.int .i64 (n:Int)] w λr w'=>r=str (gi h n)∧aj [] w w':=by
 have hK:=aj.refl [] w
 refine bS [.tmp 4] 33 Tryz.func58 rfl aaM rfl rfl ?_
 refine W ?_
 refine zc rfl (λh1=>?_) (λh1=>?_)
 have et:=h1
 refine W ?_
 exact⟨_,rfl,show str _=str _ from congrArg _ (by rw[gi,iP et]),hK⟩
 have et:=h1
 refine W ?_
 refine ix (λ_:Unit=>[(1,.int .i64 (n:Int)),(5,str h),(8,.bool (decide (h=[109,111,118])||decide (h=[111,112,101,110])))]) (λ_ w'=>w'=w) ?_ ?_
 refine zc rfl (λh2=>?_) (λh2=>?_)
 refine WZ ?_
 exact⟨(),⟨rfl,rfl,congrArg Value.bool (zM h2)⟩,rfl⟩
 refine W ?_
 exact⟨(),⟨rfl,rfl,congrArg Value.bool (zN h2)⟩,rfl⟩
 intro gu w1 e1 hI
 obtain rfl:=hI
 refine zc rfl (λh3=>?_) (λh3=>?_)
 have bK:=zO h3
 refine W ?_
 exact⟨_,rfl,show str _=str _ from congrArg _ (by rw[gi,iN et,iP bK]),hK⟩
 have bK:=zP h3
 refine W ?_
 refine ix (λ_:Unit=>[(1,.int .i64 (n:Int)),(5,str h),(11,.bool (decide (h=[97,100,100])||decide (h=[115,117,98])||decide (h=[109,117,108])))]) (λ_ w'=>w'=w1) ?_ ?_
 refine zc rfl (λh4=>?_) (λh4=>?_)
 refine WZ ?_
 exact⟨(),⟨rfl,rfl,congrArg Value.bool (Q7 h4)⟩,rfl⟩
 have fx:=h4
 refine W ?_
 refine zc rfl (λh5=>?_) (λh5=>?_)
 refine WZ ?_
 exact⟨(),⟨rfl,rfl,congrArg Value.bool (Q8 fx h5)⟩,rfl⟩
 refine W ?_
 exact⟨(),⟨rfl,rfl,congrArg Value.bool (Q9 fx h5)⟩,rfl⟩
 intro gu w2 e2 hI
 obtain rfl:=hI
 refine zc rfl (λh6=>?_) (λh6=>?_)
 have bU:=Ra h6
 refine W ?_
 exact⟨_,rfl,show str _=str _ from congrArg _ (by rw[gi,iN et,iN bK,iP bU]),hK⟩
 have bU:=Rb h6
 refine W ?_
 refine zc rfl (λh7=>?_) (λh7=>?_)
 have dO:=h7
 refine W ?_
 refine Y6 rfl rfl rfl rfl (show(if(0:Int)<(n:Int)-2 then(n:Int)-2 else 0)=((n-2:Nat):Int) from by split<;>omega)<|aA (aeY (n-2) om w2) ?_
 rintro _ w3 ⟨rfl,aH⟩
 have fm:=aH.size
 have hK:=hK.ext aH
 refine W ?_
 exact⟨_,rfl,show str _=str _ from congrArg _ (by rw[gi,iN et,iN bK,iN bU,iP dO]),hK⟩
 have dO:=h7
 refine W ?_
 refine zc rfl (λh8=>?_) (λh8=>?_)
 have jx:=h8
 refine W ?_
 exact⟨_,rfl,show str _=str _ from congrArg _ (by rw[gi,iN et,iN bK,iN bU,iN dO,iP jx]),hK⟩
 have jx:=h8
 refine W ?_
 refine zc rfl (λh9=>?_) (λh9=>?_)
 have j9:=h9
 refine W ?_
 exact⟨_,rfl,show str _=str _ from congrArg _ (by rw[gi,iN et,iN bK,iN bU,iN dO,iN jx,iP j9]),hK⟩
 have j9:=h9
 refine W ?_
 refine zc rfl (λfO=>?_) (λfO=>?_)
 have qq:=fO
 refine W ?_
 exact⟨_,rfl,show str _=str _ from congrArg _ (by rw[gi,iN et,iN bK,iN bU,iN dO,iN jx,iN j9,iP qq]),hK⟩
 have qq:=fO
 refine W ?_
 refine zc rfl (λoU=>?_) (λoU=>?_)
 have AI:=oU
 refine W ?_
 exact⟨_,rfl,show str _=str _ from congrArg _ (by rw[gi,iN et,iN bK,iN bU,iN dO,iN jx,iN j9,iN qq,iP AI]),hK⟩
 have AI:=oU
 refine W ?_
 refine ix (λ_:Unit=>[(5,str h),(30,.bool (decide (h=[106,117,109,112])||decide (h=[104,97,108,116])))]) (λ_ w'=>w'=w2) ?_ ?_
 refine zc rfl (λkC=>?_) (λkC=>?_)
 refine WZ ?_
 exact⟨(),⟨rfl,congrArg Value.bool (zM kC)⟩,rfl⟩
 refine W ?_
 exact⟨(),⟨rfl,congrArg Value.bool (zN kC)⟩,rfl⟩
 intro gu w3 e3 hI
 obtain rfl:=hI
 refine zc rfl (λoV=>?_) (λoV=>?_)
 have Gu:=zO oV
 refine W ?_
 exact⟨_,rfl,show str _=str _ from congrArg _ (by rw[gi,iN et,iN bK,iN bU,iN dO,iN jx,iN j9,iN qq,iN AI,iP Gu]),hK⟩
 have Gu:=zP oV
 refine W ?_
 exact⟨_,rfl,show str _=str _ from congrArg _ (by rw[gi,iN et,iN bK,iN bU,iN dO,iN jx,iN j9,iN qq,iN AI,iN Gu]),hK⟩
theorem Ta (h:eM L w v ts):∃a c,v= .slice a ts.length c:=by
 obtain⟨a,c,rfl,_⟩:=rC h
 exact⟨a,c,by rw[ia]⟩
theorem Tb (t:aq) (hs:t.size<=12001) (cm:WF t) (v:Value) (L:List Nat) (w:World) (hv:bB L w v t):
  bz Tryz.prog 32 [v] w λr w'=>r= .bool (nS t)∧aj [] w w':=by
 have cO:=hv
 obtain⟨a,n,c,rfl,hn,aP⟩:=cU hv
 have hK:=aj.refl [] w
 have hn8:=ac0 cm
 subst hn
 have hσ:=acZ (cw t) t.ak.length
 refine bS [.tmp 2] 78 Tryz.func32 rfl aal rfl rfl ?_
 refine zr<|eH rfl λw1 aI aX dk=>cN aI hK aP cO λhK aP cO=>?_
 refine W ?_
 apply k8 dj 7 (rA 7 6++[3]) (rA 7 6++[3]) [[],[0],[],[2],[3],[1,4],[5]] [It.v _,It.v _,It.v _,It.v _,It.v _,It.v _,It.v (str (gi (cw t) t.ak.length))] de rfl
 intro wd aC
 refine VA ?_
 refine vk aC (λx w2 az=>?_) ?_
 have cO:=cO.ext az
 refine aA (Cj t cm _ L w2 cO) ?_
 rintro _ w3 ⟨rfl,aH⟩
 have fm:=aH.size
 exact pk aH
 refine VA ?_
 refine vk aC (λx w2 az=>?_) ?_
 refine aA (aeZ (cw t) t.ak.length om w2) ?_
 rintro _ w3 ⟨rfl,aH⟩
 have fm:=aH.size
 exact pk aH
 exact VZ
 intro x o3 gR
 refine cN gR hK aP aX λhK aP aX=>?_
 change OW _ _ _ _ [] (bo (bj _ x _) (zZ 7 [_,_,_,_,_,_]++[(3,_)])) _
 refine W ?_
 apply oP 8 15 23 rfl oQ
 intro h1
 refine WZ ?_
 exact oQ
 intro xx
 refine aZ<|zc rfl (λh2=>?_) (λh2=>?_)
 have hb:gi (cw t) t.ak.length=[]∨t.ak.length≠(gi (cw t) t.ak.length).length+1:=by simp only[oE,dE] at h2;rcases h2 with h|h;exact .inl h;exact .inr om
 refine W ?_
 exact⟨_,rfl,by rw[IE hb];rfl,hK⟩
 have hb:¬(gi (cw t) t.ak.length=[]∨t.ak.length≠(gi (cw t) t.ak.length).length+1):=by simp only[Bool.or_eq_false_iff,decide_eq_false_iff_not] at h2;rintro(h|h);exact h2.1 h;exact h2.2 om
 have dL:=List.length_pos_iff.2 (λh=>hb (.inl h))
 have hl:t.ak.length=(gi (cw t) t.ak.length).length+1:=Classical.byContradiction λh=>hb (.inr h)
 obtain⟨b0,vj,_,_,_,rfl,_,_,_⟩:=iJ aP (gh (ps:=t.ak) (i:=0) om)
 refine W ?_
 refine Ft (l:=1) sk fg rfl rfl rfl rfl om aP λAK aW=>?_
 have aW:eM L o3 AK (t.ak.drop 1):=by rw[eM,Qq];exact aW
 obtain⟨a1,c1,rfl⟩:=Ta aW
 have Fy:(t.ak.drop 1).length=t.ak.length-1:=List.length_drop
 generalize hσe:gi (cw t) t.ak.length=σ at*
 refine W ?_
 refine eA (λk:Nat=>[(1,.pointer (some ⟨w.heap.size,0,none⟩)),(3,str σ),(26,.slice a1 (t.ak.drop 1).length c1),(27,.int .i64 ((t.ak.drop 1).length:Int)),(28,.int .i64 (k:Int))]) (λk w'=>aj [] w w'∧aj [] o3 w'∧k<=(t.ak.drop 1).length∧∀i,i<k->gz ((σ.getD i 0).toNat:Int) (nth t.ak (i+1))=true) (λk=>(t.ak.drop 1).length-k) (0) (⟨rfl,rfl,rfl,rfl,rfl⟩) (⟨hK,aj.refl [] _,om,by intro i hi;omega⟩) λgg qw yc hI=>?_
 obtain⟨hK,aI,hk,cL⟩:=hI
 refine bI aI aW aX λaW aX=>?_
 have fC:=hK.size
 have aod:=aI.size
 have iq:=aX.lt
 refine W ?_
 refine zc rfl (λh3=>?_) (λh3=>?_)
 have hp:=gh (ps:=t.ak.drop 1) (i:=gg) om
 obtain⟨b1,eX,pa,pn,pc,rfl,jk,eP,fM⟩:=iJ aW hp
 rw[S7] at jk eP fM
 have yd:=cm.nth (i:=gg+1) om
 have mY:=kY (t:=t) (i:=gg+1) om
 have Ch:=xR (nth t.ak (gg+1))
 refine W ?_
 refine dx fg rfl rfl rfl λoZ jy cg aoe=>?_
 have hK:=hK.grow;have hK:=hK.ext jy;have aI:=aI.grow;have aI:=aI.ext jy;have fM:=fM.grow;have fM:=fM.ext jy
 refine zA<|cJ fg rfl rfl rfl cg rfl λo4 iX cg ae0=>?_
 have hK:=hK.aD iX sx;have aI:=aI.aD iX sx;have fM:=fM.aD iX sx
 refine W ?_
 have l4:=aj.refl [] o4
 refine j3 il rfl rfl rfl rfl (je om)<|W ?_
 refine ix (λ_:Unit=>[(1,.pointer (some ⟨w.heap.size,0,none⟩)),(3,str σ),(5,.pointer (some ⟨qw.heap.size,0,none⟩)),(6,.bool false),(26,.slice (some ⟨b1,eX,none⟩) (t.ak.drop 1).length c1),(27,.int .i64 ((t.ak.drop 1).length:Int)),(28,.int .i64 (gg:Int)),(35,.int .u8 ((σ.getD gg 0).toNat:Int)),(36,.bool (decide (((σ.getD gg 0).toNat:Int)=100)||decide (((σ.getD gg 0).toNat:Int)=115)))]) (λ_ w'=>w'=o4) ?_ ?_
 refine zc rfl (λh4=>?_) (λh4=>?_)
 refine WZ ?_
 exact⟨(),⟨rfl,rfl,rfl,rfl,rfl,rfl,rfl,rfl,congrArg Value.bool (zM h4)⟩,rfl⟩
 refine W ?_
 exact⟨(),⟨rfl,rfl,rfl,rfl,rfl,rfl,rfl,rfl,congrArg Value.bool (zN h4)⟩,rfl⟩
 intro gu qu e45 hI
 obtain rfl:=hI
 refine ix (λ_:Unit=>[(1,.pointer (some ⟨w.heap.size,0,none⟩)),(3,str σ),(6,.bool (gz ((σ.getD gg 0).toNat:Int) (nth t.ak (gg+1)))),(26,.slice (some ⟨b1,eX,none⟩) (t.ak.drop 1).length c1),(27,.int .i64 ((t.ak.drop 1).length:Int)),(28,.int .i64 (gg:Int))]) (λ_ w'=>aj [] qu w') ?_ ?_
 refine zc rfl (λh5=>?_) (λh5=>?_)
 have hz:=zO h5
 refine W ?_
 refine aA (aeO _ om qu) ?_
 rintro _ rN ⟨rfl,pK⟩
 have Ja:=pK.size
 have l4:=l4.ext pK
 refine W ?_
 exact⟨(),⟨rfl,rfl,by rw[gz,iP hz];rfl,rfl,rfl,rfl⟩,l4⟩
 have hz:=zP h5
 refine W ?_
 refine zc rfl (λh6=>?_) (λh6=>?_)
 refine W ?_
 refine aA (MG _ om _) ?_
 rintro _ _ ⟨rfl,rfl⟩
 refine W ?_
 exact⟨(),⟨rfl,rfl,by rw[gz,iN hz,iP h6];rfl,rfl,rfl,rfl⟩,l4⟩
 have dk:=h6
 refine W ?_
 refine zc rfl (λh7=>?_) (λh7=>?_)
 have dC:=h7
 refine W ?_
 refine aA (MG _ om _) ?_
 rintro _ _ ⟨rfl,rfl⟩
 refine WZ ?_
 apply oA 5 52 57 (aj [] qu) rfl oQ
 intro h8
 obtain⟨z,AL⟩:=Option.isSome_iff_exists.1 h8
 have AJ:z=(numeral (nth t.ak (gg+1)).aw).getD 0:=by rw[AL];rfl
 refine W ?_
 refine aA (S4 _ AL qu) ?_
 rintro _ rN ⟨rfl,pK⟩
 have Ja:=pK.size
 rw[AJ]
 exact oQ
 intro xx rN pK
 have l4:=l4.ext pK
 refine W ?_
 exact⟨(),⟨rfl,rfl,by rw[gz,iN hz,iN dk,iP dC];rfl,rfl,rfl,rfl⟩,l4⟩
 have dC:=h7
 refine W ?_
 refine zc rfl (λh9=>?_) (λh9=>?_)
 refine W ?_
 refine aA (S5 _ om _) ?_
 rintro _ _ ⟨rfl,rfl⟩
 refine W ?_
 exact⟨(),⟨rfl,rfl,by rw[gz,iN hz,iN dk,iN dC,iP h9];rfl,rfl,rfl,rfl⟩,l4⟩
 have gJ:=h9
 refine W ?_
 refine zc rfl (λfO=>?_) (λfO=>?_)
 have gQ:=fO
 refine W ?_
 refine aA (aeP (nth t.ak (gg+1)) yd [101] 2 _ _ qu (kV fM)) ?_
 rintro _ rN ⟨rfl,pK⟩
 have Ja:=pK.size
 refine cN pK fM cg l4 λfM cg l4=>?_
 refine WZ ?_
 apply oA 3 67 70 (aj [] rN) rfl oQ
 intro oU
 refine W ?_
 refine aA (MI (nth t.ak (gg+1)).size (nth t.ak (gg+1)) (lR _) om yd false _ _ rN (kV fM)) ?_
 rintro _ wO ⟨rfl,l5⟩
 have aof:=l5.size
 exact oQ
 intro xx wO l5
 have l4:=l4.ext l5
 refine W ?_
 exact⟨(),⟨rfl,rfl,by rw[gz,iN hz,iN dk,iN dC,iN gJ,iP gQ,show decide ((nth t.ak (gg+1)).ak.length=2)=decide (((nth t.ak (gg+1)).ak.length:Int)=2) from decide_eq_decide.2 om];rfl,rfl,rfl,rfl⟩,l4⟩
 have gQ:=fO
 refine W ?_
 refine zc rfl (λkC=>?_) (λkC=>?_)
 have ig:=kC
 refine W ?_
 refine aA (MI (nth t.ak (gg+1)).size (nth t.ak (gg+1)) (lR _) om yd false _ _ qu (kV fM)) ?_
 rintro _ rN ⟨rfl,pK⟩
 have Ja:=pK.size
 have l4:=l4.ext pK
 refine W ?_
 exact⟨(),⟨rfl,rfl,by rw[gz,iN hz,iN dk,iN dC,iN gJ,iN gQ,iP ig];rfl,rfl,rfl,rfl⟩,l4⟩
 have ig:=kC
 refine WZ ?_
 exact⟨(),⟨rfl,rfl,by rw[gz,iN hz,iN dk,iN dC,iN gJ,iN gQ,iN ig];rfl,rfl,rfl,rfl⟩,l4⟩
 intro gu rN e46 hI
 have hK:=hK.ext hI;have aI:=aI.ext hI
 refine W ?_
 refine zc rfl (λoV=>?_) (λoV=>?_)
 subst hσe
 have hq:gz (((gi (cw t) t.ak.length).getD gg 0).toNat:Int) (nth t.ak (gg+1))=false:=by simpa using oV
 refine W ?_
 exact⟨_,rfl,by rw[acF om hq];rfl,hK⟩
 have hq:gz ((σ.getD gg 0).toNat:Int) (nth t.ak (gg+1))=true:=by simpa using oV
 refine W ?_
 exact⟨gg+1,⟨rfl,rfl,rfl,rfl,rfl⟩,⟨hK,aI,om,by intro i hi;rcases Nat.lt_or_ge i gg with h|h;exact cL i h;rw[show i=gg by omega];exact hq⟩,om⟩
 subst hσe
 have hq:=acG hb (λi hi=>cL i om)
 refine W ?_
 exact⟨_,rfl,by rw[hq];rfl,hK⟩
theorem ae2 (t:aq) (cm:WF t) (v:Value) (L:List Nat) (w:World) (hv:bB L w v t):
  bz Tryz.prog 33 [v] w λr w'=>r= .bool (FV t)∧aj [] w w':=by
 have cO:=hv
 obtain⟨a,n,c,rfl,hn,aP⟩:=cU hv
 have hK:=aj.refl [] w
 refine bS [.tmp 2] 11 Tryz.func33 rfl aam rfl rfl ?_
 refine zr<|eH rfl λw1 aI aX dk=>bI aI hK cO λhK cO=>?_
 refine W ?_
 refine aA (Cj t cm _ L w1 cO) ?_
 rintro _ w2 ⟨rfl,az⟩
 have dm:=az.size
 refine cN az hK cO aX λhK cO aX=>?_
 refine WZ ?_
 apply oO 4 6 10 (aj [] w2) rfl oQ
 intro _
 refine W ?_
 refine aA (Cj t cm _ L w2 cO) ?_
 rintro _ w3 ⟨rfl,aH⟩
 have fm:=aH.size
 exact oQ
 intro xx w4 aO
 have hK:=hK.ext aO
 refine W ?_
 exact⟨_,rfl,rfl,hK⟩
def ae3 (L:List Nat) (d:Nat) (s:ai) (v:Value) (w:World):Prop:=
 ∃t tv r ok,v= .tuple #[tv,str r,.bool ok]∧bB L w tv t∧zW d s t r ok
theorem ae4:∀(d:Nat) (s:ai) (L:List Nat) (w:World),d<=60->s.length<=12000->(∀x,x∈L->x<w.heap.size)->
  bz Tryz.prog 57 [str s,.int .i64 ((60:Int)-(d:Int))] w λv w'=>ae3 L d s v w'∧aj [] w w':=by
 intro d
 induction d using Nat.strongRecOn with
 |_ d ih=>
 intro s L w hd hs hL
 have hK:=aj.refl [] w
 refine kW [.cell 4 65,.tmp 5,.tmp 6] 78 Tryz.func57 rfl aaL rfl rfl rfl ?_
 refine zr<|dx fg rfl rfl rfl λw1 aI aG dk=>?_
 have hK:=hK.grow;have hK:=hK.ext aI
 refine W ?_
 refine aA (aeH _ _ _) ?_
 rintro _ _ ⟨rfl,rfl⟩
 refine kx rfl rfl rfl<|aZ<|zc rfl (λh1=>?_) (λh1=>?_)
 have wG:=h1
 refine W ?_
 refine eA (λk:Nat=>[(0,str s),(1,.int .i64 ((60:Int)-(d:Int))),(4,.pointer (some ⟨w.heap.size,0,none⟩)),(7,.int .i64 (k:Int))]) (λk w'=>w'=w1∧k<=(s.takeWhile eT).length) (λk=>s.length-k) (0) (⟨rfl,rfl,rfl,rfl⟩) (⟨rfl,om⟩) λgg w2 e2 hI=>?_
 obtain⟨rfl,Ef⟩:=hI
 have Gn:=Qp eT s gg Ef
 have fF:=FH eT s
 refine WZ ?_
 apply oB 5 19 24 rfl oQ
 intro h2
 refine zm<|zm<|j3 il rfl rfl rfl rfl (je om)<|aA (aeM _ _) ?_
 rintro _ _ ⟨rfl,rfl⟩
 exact oQ
 intro xx
 refine aZ<|zc rfl (λh3=>?_) (λh3=>?_)
 have dU:=Gn.2 (by simpa using h3)
 refine W ?_
 exact⟨gg+1,⟨rfl,rfl,rfl,rfl⟩,⟨rfl,om⟩,om⟩
 have Gp:gg=(s.takeWhile eT).length:=Nat.le_antisymm Ef (Nat.le_of_not_lt (λhh=>by have hx:=Gn.1 hh;rw[hx.2,Bool.and_true,decide_eq_false_iff_not] at h3;omega))
 refine WZ ?_
 refine zB dj (cj w.heap.size ([str ((s.drop 0).take (gg-0)),.slice none 0 0]) 65) 12 (rA 27 9++[100009,5,6]) (rA 27 9++[100009,5,6]) [[],[],[0,1],[2],[],[],[4,5],[],[7],[3],[6],[8]] [λv _=>v=(str s),λv _=>v=(.int .i64 (gg:Int)),λv _=>v=(str ((s.drop 0).take (gg-0))),λv _=>v=(.agg #[str ((s.drop 0).take (gg-0)),.slice none 0 0]),λv _=>v=(str s),λv _=>v=(.int .i64 (gg:Int)),λv _=>v=(str ((s.drop gg).take (s.length-gg))),λv _=>v=(.int .i64 (gg:Int)),λv _=>v=(.bool (decide ((0:Int)<(gg:Int)))),λ_ ww=>aJ ww w.heap.size ([str ((s.drop 0).take (gg-0)),.slice none 0 0]).toArray 65,λv _=>v=(str ((s.drop gg).take (s.length-gg))),λv _=>v=(.bool (decide ((0:Int)<(gg:Int))))] de (fu (fu (fu (fu (fu (fu (fu (fu (fu (DH (fu (fu trivial)))))))))))) (λwd aC=>?_) ?_
 refine eh ?_ ?_
 intro x vs w3 e aH hd he
 replace aH:=(cj w.heap.size ([str ((s.drop 0).take (gg-0)),.slice none 0 0]) 65).trans aC aH
 replace he:e=bo (bj _ x _) []:=he
 subst he
 refine W ?_
 exact dn ((cj w.heap.size ([str ((s.drop 0).take (gg-0)),.slice none 0 0]) 65).refl _) rfl
 refine eh ?_ ?_
 intro x vs w3 e aH hd he
 replace aH:=(cj w.heap.size ([str ((s.drop 0).take (gg-0)),.slice none 0 0]) 65).trans aC aH
 replace he:e=bo (bj _ x _) []:=he
 subst he
 refine W ?_
 exact dn ((cj w.heap.size ([str ((s.drop 0).take (gg-0)),.slice none 0 0]) 65).refl _) rfl
 refine eh ?_ ?_
 intro x vs w3 e aH hd he
 have aQ:(vs 0=(str s))∧(vs 1=(.int .i64 (gg:Int))):=hd
 obtain⟨d0,d1⟩:=aQ
 replace aH:=(cj w.heap.size ([str ((s.drop 0).take (gg-0)),.slice none 0 0]) 65).trans aC aH
 replace he:e=bo (bj _ x _) [(27,vs 0),(28,vs 1)]:=he
 rw[d0,d1] at he
 subst he
 refine BE il rfl rfl rfl (.inl ⟨rfl,rfl⟩) (.inr ⟨_,rfl⟩) om om<|aZ ?_
 exact dn ((cj w.heap.size ([str ((s.drop 0).take (gg-0)),.slice none 0 0]) 65).refl _) rfl
 refine eh ?_ ?_
 intro x vs w3 e aH hd he
 have d2:vs 2=(str ((s.drop 0).take (gg-0))):=hd
 replace aH:=(cj w.heap.size ([str ((s.drop 0).take (gg-0)),.slice none 0 0]) 65).trans aC aH
 replace he:e=bo (bj _ x _) [(29,vs 2)]:=he
 rw[d2] at he
 subst he
 refine js (abx _ _) rfl rfl<|aZ ?_
 exact dn ((cj w.heap.size ([str ((s.drop 0).take (gg-0)),.slice none 0 0]) 65).refl _) rfl
 refine eh ?_ ?_
 intro x vs w3 e aH hd he
 replace aH:=(cj w.heap.size ([str ((s.drop 0).take (gg-0)),.slice none 0 0]) 65).trans aC aH
 replace he:e=bo (bj _ x _) []:=he
 subst he
 refine W ?_
 exact dn ((cj w.heap.size ([str ((s.drop 0).take (gg-0)),.slice none 0 0]) 65).refl _) rfl
 refine eh ?_ ?_
 intro x vs w3 e aH hd he
 replace aH:=(cj w.heap.size ([str ((s.drop 0).take (gg-0)),.slice none 0 0]) 65).trans aC aH
 replace he:e=bo (bj _ x _) []:=he
 subst he
 refine W ?_
 exact dn ((cj w.heap.size ([str ((s.drop 0).take (gg-0)),.slice none 0 0]) 65).refl _) rfl
 refine eh ?_ ?_
 intro x vs w3 e aH hd he
 have aQ:(vs 4=(str s))∧(vs 5=(.int .i64 (gg:Int))):=hd
 obtain⟨d4,d5⟩:=aQ
 replace aH:=(cj w.heap.size ([str ((s.drop 0).take (gg-0)),.slice none 0 0]) 65).trans aC aH
 replace he:e=bo (bj _ x _) [(31,vs 4),(32,vs 5)]:=he
 rw[d4,d5] at he
 subst he
 refine BE il rfl rfl rfl (.inr ⟨_,rfl⟩) (.inl ⟨rfl,rfl⟩) om om<|aZ ?_
 exact dn ((cj w.heap.size ([str ((s.drop 0).take (gg-0)),.slice none 0 0]) 65).refl _) rfl
 refine eh ?_ ?_
 intro x vs w3 e aH hd he
 replace aH:=(cj w.heap.size ([str ((s.drop 0).take (gg-0)),.slice none 0 0]) 65).trans aC aH
 replace he:e=bo (bj _ x _) []:=he
 subst he
 refine W ?_
 exact dn ((cj w.heap.size ([str ((s.drop 0).take (gg-0)),.slice none 0 0]) 65).refl _) rfl
 refine eh ?_ ?_
 intro x vs w3 e aH hd he
 have d7:vs 7=(.int .i64 (gg:Int)):=hd
 replace aH:=(cj w.heap.size ([str ((s.drop 0).take (gg-0)),.slice none 0 0]) 65).trans aC aH
 replace he:e=bo (bj _ x _) [(34,vs 7)]:=he
 rw[d7] at he
 subst he
 refine W ?_
 exact dn ((cj w.heap.size ([str ((s.drop 0).take (gg-0)),.slice none 0 0]) 65).refl _) rfl
 refine eh ?_ ?_
 intro x vs w3 e aH hd he
 have d3:vs 3=(.agg #[str ((s.drop 0).take (gg-0)),.slice none 0 0]):=hd
 replace aH:=(cj w.heap.size ([str ((s.drop 0).take (gg-0)),.slice none 0 0]) 65).trans aC aH
 obtain⟨us,vm,vq⟩:=aH.2.2 ⟨_,(by rfl),aG⟩
 replace he:e=bo (bj _ x _) [(30,vs 3)]:=he
 rw[d3] at he
 subst he
 refine cJ fg rfl rfl rfl vq (by rw[vm];rfl) λw4 aO hb gQ=>W ?_
 exact dn ⟨aO,λ_=>hb,λ_=>⟨_,rfl,hb⟩⟩ hb
 refine eh ?_ ?_
 intro x vs w3 e aH hd he
 have d6:vs 6=(str ((s.drop gg).take (s.length-gg))):=hd
 replace aH:=(cj w.heap.size ([str ((s.drop 0).take (gg-0)),.slice none 0 0]) 65).trans aC aH
 replace he:e=bo (bj _ x _) [(33,vs 6)]:=he
 rw[d6] at he
 subst he
 refine W ?_
 exact dn ((cj w.heap.size ([str ((s.drop 0).take (gg-0)),.slice none 0 0]) 65).refl _) rfl
 refine eh ?_ ?_
 intro x vs w3 e aH hd he
 have d8:vs 8=(.bool (decide ((0:Int)<(gg:Int)))):=hd
 replace aH:=(cj w.heap.size ([str ((s.drop 0).take (gg-0)),.slice none 0 0]) 65).trans aC aH
 replace he:e=bo (bj _ x _) [(35,vs 8)]:=he
 rw[d8] at he
 subst he
 refine W ?_
 exact dn ((cj w.heap.size ([str ((s.drop 0).take (gg-0)),.slice none 0 0]) 65).refl _) rfl
 exact trivial
 intro x vs qw Cl dP
 have d0:vs 0=(str s):=dP 0 de
 have d1:vs 1=(.int .i64 (gg:Int)):=dP 1 de
 have d2:vs 2=(str ((s.drop 0).take (gg-0))):=dP 2 de
 have d3:vs 3=(.agg #[str ((s.drop 0).take (gg-0)),.slice none 0 0]):=dP 3 de
 have d4:vs 4=(str s):=dP 4 de
 have d5:vs 5=(.int .i64 (gg:Int)):=dP 5 de
 have d6:vs 6=(str ((s.drop gg).take (s.length-gg))):=dP 6 de
 have d7:vs 7=(.int .i64 (gg:Int)):=dP 7 de
 have d8:vs 8=(.bool (decide ((0:Int)<(gg:Int)))):=dP 8 de
 have d9:aJ qw w.heap.size ([str ((s.drop 0).take (gg-0)),.slice none 0 0]).toArray 65:=dP 9 de
 have d10:vs 10=(str ((s.drop gg).take (s.length-gg))):=dP 10 de
 have d11:vs 11=(.bool (decide ((0:Int)<(gg:Int)))):=dP 11 de
 have hK:=hK.aD Cl.1 sx
 have aG:=d9
 change OW _ _ _ _ [] (bo (bj _ x _) (zZ 27 [vs 0,vs 1,vs 2,vs 3,vs 4,vs 5,vs 6,vs 7,vs 8]++[(100009,vs 9),(5,vs 10),(6,vs 11)])) _
 rw[d0,d1,d2,d3,d4,d5,d6,d7,d8,d10,d11]
 refine aZ<|jZ<|⟨[_,_,_],⟨fZ tF fg rfl aG rfl,rfl,rfl⟩,⟨.mk (s.takeWhile eT) [],_,s.dropWhile eT,_,by rw[List.drop_zero,Nat.sub_zero,Gp,Ik,LR,FG];rfl,kU oH,?_⟩,hK⟩
 unfold zW
 rw[ade wG]
 by_cases hz:s.takeWhile eT=[]
 rw[iP hz];exact .inr ⟨rfl,by simp[hz]⟩
 rw[iN hz];refine .inl ⟨rfl,dT ?_⟩;have:=List.length_pos_iff.2 hz;omega
 obtain⟨r0,rfl⟩:=ada h1
 refine W ?_
 refine zc rfl (λh4=>?_) (λh4=>?_)
 have ML:d=0:=by omega
 refine zr<|js (Ll _) rfl rfl<|cJ fg rfl rfl rfl aG rfl λw2 az aG dC=>?_
 have hK:=hK.aD az sx
 refine W ?_
 exact⟨[_,_,_],⟨fZ tF fg rfl aG rfl,rfl,rfl⟩,⟨.mk [] [],_,[],_,rfl,kU oH,.inr ⟨by rw[ML];simp[ei],rfl⟩⟩,hK⟩
 have aQ:∃d',d=d'+1:=⟨d-1,om⟩
 obtain⟨d',rfl⟩:=aQ
 refine gY<|zr<|dx fg rfl rfl rfl λw2 az dh dC=>?_
 have hK:=hK.grow;have hK:=hK.ext az;have aG:=aG.grow;have aG:=aG.ext az
 refine W ?_
 have aoh:=aG.lt
 refine eA (λq:List aq×ai×Option Addr×Nat×Option Nat=>[(0,str q.2.1),(1,.int .i64 ((60:Int)-((d'+1:Nat):Int))),(4,.pointer (some ⟨w.heap.size,0,none⟩)),(8,.pointer (some ⟨w1.heap.size,0,none⟩))]) (λq w'=>aj [] w w'∧aJ w' w.heap.size [str [],.slice none 0 0].toArray 65∧aJ w' w1.heap.size [str [],.slice q.2.2.1 q.1.length q.2.2.2.1].toArray 65∧Gr w.heap.size (w.heap.size::w1.heap.size::L) w' 65 2 (.slice q.2.2.1 q.1.length q.2.2.2.1) q.2.2.2.2 (cT q.1)∧0<q.2.1.length∧q.2.1.length+q.1.length<=12000∧mq (d'+1) r0=(mq (d'+1) (q.2.1.drop 1)).map (λp=>(q.1++p.1,p.2))) (λq=>q.2.1.length) (([],40::r0,none,0,none)) (⟨rfl,rfl,rfl,rfl⟩) (⟨hK,aG,dh,Gr.nil (by intro x hx;simp at hx;rcases hx with rfl|rfl|hx;omega;omega;have:=hL x hx;omega) om,sm,by simp at hs⊢;omega,sm⟩) λgg w3 e3 hI=>?_
 obtain⟨acc,sc,a,cc,g⟩:=gg
 dsimp only at hI⊢
 obtain⟨hK,aG,dh,hO,Tc,aoi,sH⟩:=hI
 have fC:=hK.size
 have Td:=aG.lt
 have aoj:=dh.lt
 refine tj<|zr<|zm<|BE (l:=1) il rfl rfl rfl (.inr ⟨_,rfl⟩) (.inl ⟨rfl,rfl⟩) om om<|zm<|mX rfl rfl rfl rfl rfl (show IntKind.i64.wrap ((60:Int)-((d'+1:Nat):Int)+1)=(60:Int)-(d':Int) by rw[wrap_i64 _ om om];omega) ?_
 rw[LR]
 refine aA (ih d' om (sc.drop 1) (g.toList++(w.heap.size::w1.heap.size::L)) w3 om so hO.all) ?_
 rintro v4 w4 ⟨jR,aO⟩
 have fE:=aO.size
 refine ie aO hK aG dh hO λhK aG dh hO=>?_
 obtain⟨t,tv,r,ok,rfl,ht,hm⟩:=jR
 obtain⟨pa,pn,pc,rfl,eP,aP⟩:=cU ht
 subst eP
 refine W ?_
 refine dx fg rfl rfl rfl λw5 aN cW ig=>?_
 have hK:=hK.grow;have hK:=hK.ext aN;have aG:=aG.grow;have aG:=aG.ext aN;have dh:=dh.grow;have dh:=dh.ext aN;have hO:=hO.alloc aN ig;have ht:=ht.grow;have ht:=ht.ext aN
 refine cJ fg rfl rfl rfl cW rfl λw6 bN cW kI=>?_
 have hK:=hK.aD bN sx;have aG:=aG.aD bN sx;have dh:=dh.aD bN sx;have hO:=hO.aD bN sx;have ht:=ht.aD bN sx
 refine W ?_
 apply oP 3 50 53 rfl oQ
 intro _
 exact oQ
 intro xx
 refine WZ ?_
 apply oP 9 54 63 rfl oQ
 intro h6
 simp at h6
 have ob:=List.length_pos_iff.2 h6.2
 refine zm<|j3 (i:=0) il rfl rfl rfl rfl (je ob)<|WZ ?_
 apply oB 4 58 62 rfl oQ
 intro _
 refine zm<|j3 (i:=0) il rfl rfl rfl rfl (je ob) ?_
 exact oQ
 intro xx
 exact oQ
 intro xx
 refine aZ<|zc rfl (λh8=>?_) (λh8=>?_)
 have hR:ei (d'+1) (40::r0)=none:=by rw[DJ,sH,adh hm h8];rfl
 refine zr<|js (Ll _) rfl rfl<|cJ fg rfl rfl rfl aG rfl λw7 bW aG oX=>?_
 have hK:=hK.aD bW sx
 refine W ?_
 exact⟨[_,_,_],⟨fZ tF fg rfl aG rfl,rfl,rfl⟩,⟨.mk [] [],_,[],_,rfl,kU oH,.inr ⟨hR,rfl⟩⟩,hK⟩
 obtain⟨mZ,ob,fM⟩:=adi hm h8
 refine W ?_
 refine fc sk fg rfl rfl λw7 bW ae5 oX=>la bW hK aG dh hO ht λhK aG dh hO ht=>?_
 refine LG sk fg rfl rfl rfl rfl rfl rfl hO ae5 ht.LH om λa2 nB g2 w8 fY cE=>?_
 have cV:=cE.size
 have hK:=hO.since hK cE
 have aG:=aG.aD cE (hO.DQ sm);have dh:=dh.aD cE (hO.DQ sm)
 refine zf QM rfl<|gd Is rfl rfl rfl dh rfl λw9 aB dh df=>?_
 have hK:=hK.aD aB sx;have aG:=aG.aD aB sx;have fY:=fY.aD aB sx
 refine W ?_
 refine j3 (i:=0) il rfl rfl rfl rfl (je mZ)<|vY rfl rfl rfl rfl rfl<|aZ<|zc rfl (λh9=>?_) (λh9=>?_)
 have AG:r.getD 0 0=41:=UInt8.toNat_inj.1 (by have Cf:(41:UInt8).toNat=41:=rfl;rw[Cf];omega)
 have hR:ei (d'+1) (40::r0)=some (.mk [] (acc++[t]),r.drop 1):=by rw[DJ,sH,fM,iP AG];rfl
 refine WZ ?_
 refine zB dj (cj w.heap.size ([str [],.slice a2 (acc++[t]).length nB]) 65) 6 [75,76,77,100003,5,6] [75,76,77,100003,5,6] [[],[],[1],[0],[2],[]] [λv _=>v=(.agg #[str [],.slice a2 (acc++[t]).length nB]),λv _=>v=(str r),λv _=>v=(str ((r.drop 1).take (r.length-1))),λ_ ww=>aJ ww w.heap.size ([str [],.slice a2 (acc++[t]).length nB]).toArray 65,λv _=>v=(str ((r.drop 1).take (r.length-1))),λv _=>v=(.bool true)] de (fu (fu (fu (DH (fu (fu trivial)))))) (λwd aC=>?_) ?_
 refine eh ?_ ?_
 intro x vs cu e cB hd he
 replace cB:=(cj w.heap.size ([str [],.slice a2 (acc++[t]).length nB]) 65).trans aC cB
 have dh:=dh.aD cB.1 sx
 replace he:e=bo (bj _ x _) []:=he
 subst he
 refine W ?_
 exact dn ((cj w.heap.size ([str [],.slice a2 (acc++[t]).length nB]) 65).refl _) rfl
 refine eh ?_ ?_
 intro x vs cu e cB hd he
 replace cB:=(cj w.heap.size ([str [],.slice a2 (acc++[t]).length nB]) 65).trans aC cB
 replace he:e=bo (bj _ x _) []:=he
 subst he
 refine W ?_
 exact dn ((cj w.heap.size ([str [],.slice a2 (acc++[t]).length nB]) 65).refl _) rfl
 refine eh ?_ ?_
 intro x vs cu e cB hd he
 have d1:vs 1=(str r):=hd
 replace cB:=(cj w.heap.size ([str [],.slice a2 (acc++[t]).length nB]) 65).trans aC cB
 replace he:e=bo (bj _ x _) [(76,vs 1)]:=he
 rw[d1] at he
 subst he
 refine BE (l:=1) il rfl rfl rfl (.inr ⟨_,rfl⟩) (.inl ⟨rfl,rfl⟩) om om<|aZ ?_
 exact dn ((cj w.heap.size ([str [],.slice a2 (acc++[t]).length nB]) 65).refl _) rfl
 refine eh ?_ ?_
 intro x vs cu e cB hd he
 have d0:vs 0=(.agg #[str [],.slice a2 (acc++[t]).length nB]):=hd
 replace cB:=(cj w.heap.size ([str [],.slice a2 (acc++[t]).length nB]) 65).trans aC cB
 obtain⟨us,vm,vq⟩:=cB.2.2 ⟨_,(by rfl),aG⟩
 replace he:e=bo (bj _ x _) [(75,vs 0)]:=he
 rw[d0] at he
 subst he
 refine cJ fg rfl rfl rfl vq (by rw[vm];rfl) λeD dd hb vi=>W ?_
 exact dn ⟨dd,λ_=>hb,λ_=>⟨_,rfl,hb⟩⟩ hb
 refine eh ?_ ?_
 intro x vs cu e cB hd he
 have d2:vs 2=(str ((r.drop 1).take (r.length-1))):=hd
 replace cB:=(cj w.heap.size ([str [],.slice a2 (acc++[t]).length nB]) 65).trans aC cB
 replace he:e=bo (bj _ x _) [(77,vs 2)]:=he
 rw[d2] at he
 subst he
 refine W ?_
 exact dn ((cj w.heap.size ([str [],.slice a2 (acc++[t]).length nB]) 65).refl _) rfl
 refine eh ?_ ?_
 intro x vs cu e cB hd he
 replace cB:=(cj w.heap.size ([str [],.slice a2 (acc++[t]).length nB]) 65).trans aC cB
 replace he:e=bo (bj _ x _) []:=he
 subst he
 refine W ?_
 exact dn ((cj w.heap.size ([str [],.slice a2 (acc++[t]).length nB]) 65).refl _) rfl
 exact trivial
 intro x vs oc iE dP
 have d0:vs 0=(.agg #[str [],.slice a2 (acc++[t]).length nB]):=dP 0 de
 have d1:vs 1=(str r):=dP 1 de
 have d2:vs 2=(str ((r.drop 1).take (r.length-1))):=dP 2 de
 have d3:aJ oc w.heap.size ([str [],.slice a2 (acc++[t]).length nB]).toArray 65:=dP 3 de
 have d4:vs 4=(str ((r.drop 1).take (r.length-1))):=dP 4 de
 have d5:vs 5=(.bool true):=dP 5 de
 have hK:=hK.aD iE.1 sx;have fY:=fY.aD iE.1 sx
 have aG:=d3
 change OW _ _ _ _ [] (bo (bj _ x _) (zZ 75 [vs 0,vs 1,vs 2]++[(100003,vs 3),(5,vs 4),(6,vs 5)])) _
 rw[d0,d1,d2,d4,d5]
 refine W ?_
 exact⟨[_,_,_],⟨fZ tF fg rfl aG rfl,rfl,rfl⟩,⟨.mk [] (acc++[t]),_,r.drop 1,_,by rw[LR];rfl,kU (fY.trees.gP (λx hx=>by simp[hx])),.inl ⟨hR,rfl⟩⟩,hK⟩
 have AG:r.getD 0 0≠41:=λh=>h9 (by rw[h];rfl)
 refine WZ ?_
 exact⟨(acc++[t],r,a2,nB,g2),⟨rfl,rfl,rfl,rfl⟩,⟨hK,aG,dh,fY.gP (λx hx=>mK _ hx),mZ,by simp at ob⊢;omega,by rw[sH,fM,iN AG,map_append]⟩,by simp at ob;dsimp only;omega⟩
def dy.enc (b:dy):List C:=[.val (str b.aM),.sl 2 (cT b.regs),.sl 2 (cT b.code)]
def nD (L:List Nat) (w:World) (v:Value) (b:dy):Prop:=j1 L w v b.enc
theorem nD.ext {b:dy} (h:nD L w v b) (k:aj [] w w'):nD L w' v b:=j1.ext h k
theorem nD.grow {b:dy} (h:nD L w v b):nD (w.heap.size::L) w v b:=j1.fresh h zD
theorem nD.aD {b:dy} (h:nD L w v b) (k:aj L' w w') (hL:∀x,x∈L'->x∈L):nD L w' v b:=j1.aF h (k.mono hL)
theorem nD.gP {b:dy} (h:nD L w v b) (hL:∀x,x∈L'->x∈L):nD L' w v b:=j1.fresh h λx hx=>.inl (hL x hx)
theorem Te {b:dy} (h:cS L w vs b.enc):∃v1 v2,vs=[str b.aM,v1,v2]∧eM L w v1 b.regs∧eM L w v2 b.code:=by
 rw[dy.enc] at h
 match vs,h with
 |[v0,v1,v2],h=>obtain⟨h0,h1,h2,_⟩:=h;cases h0;exact⟨v1,v2,rfl,h1,h2⟩
 |[],h=>exact h.elim
 |[_],h=>exact h.2.elim
 |[_,_],h=>exact h.2.2.elim
 |_::_::_::_::_,h=>exact h.2.2.2.elim
theorem Jb (h:eM L w v ts):∃a c,v= .slice a ts.length c:=by grind [eM,rC,ia]
theorem Tf {b:dy} (h:nD L w v b):∃a1 c1 a2 c2,v= .agg #[str b.aM,.slice a1 b.regs.length c1,.slice a2 b.code.length c2]∧
  eM L w (.slice a1 b.regs.length c1) b.regs∧eM L w (.slice a2 b.code.length c2) b.code:=by
 obtain⟨vs,rfl,hr⟩:=h
 obtain⟨v1,v2,rfl,h1,h2⟩:=Te hr
 obtain⟨a1,c1,rfl⟩:=Jb h1
 obtain⟨a2,c2,rfl⟩:=Jb h2
 exact⟨a1,c1,a2,c2,rfl,h1,h2⟩
theorem MM {l:ai} {r c:List aq} {v1 v2:Value} (h1:eM L w v1 r) (h2:eM L w v2 c):nD L w (.agg #[str l,v1,v2]) ⟨l,r,c⟩:=
 ⟨[str l,v1,v2],rfl,.val _,h1,h2,trivial⟩
theorem nD.kj {x y:Value} {b:dy} (h:nD L w (.agg #[x,y,z]) b):cS L w [x,y,z] b.enc:=by
 obtain⟨vs,he,hr⟩:=h
 have hv:vs=[x,y,z]:=by
  have:=congrArg (λv=>match v with|Value.agg x=>x.toList|_=>[]) he
  simpa using this.symm
 rw[<-hv];exact hr
def nG (L:List Nat) (w:World) (v:Value) (ps:List dy):Prop:=bQ L w v (.sl 3 (ps.map dy.enc))
theorem nG.ext (h:nG L w v ps) (k:aj [] w w'):nG L w' v ps:=bQ.ext h k
theorem nG.gP {b:List dy} (h:nG L w v b) (hL:∀x,x∈L'->x∈L):nG L' w v b:=bQ.fresh h λx hx=>.inl (hL x hx)
theorem Tg:nG L w (.slice none 0 0) []:=.nil _ _ _
theorem Eh (h:nG L w v ps):∃a c,v= .slice a ps.length c:=by grind [nG,rC]
theorem Cm {k:dy} (h:nG L w (.slice a n c) ps) (hi:ps[i]?=some k):
  ∃b off a1 c1 a2 c2,a=some ⟨b,off,none⟩∧fS w b (off+i*3) [str k.aM,.slice a1 k.regs.length c1,.slice a2 k.code.length c2]∧eM L w (.slice a1 k.regs.length c1) k.regs∧eM L w (.slice a2 k.code.length c2) k.code:=by
 obtain⟨b,off,vs,ha,hb,hL,hl,hc,hr⟩:=zn h (show(ps.map dy.enc)[i]?=some k.enc by simp[hi])
 obtain⟨v1,v2,rfl,h1,h2⟩:=Te hr
 obtain⟨a1,c1,rfl⟩:=Jb h1
 obtain⟨a2,c2,rfl⟩:=Jb h2
 exact⟨b,off,a1,c1,a2,c2,ha,hc,h1,h2⟩
theorem Gr.prog {T:TypeId} (h:Gr B L w T 3 v g (ps.map dy.enc)):nG L w v ps:=h.done
section
variable {P:Program} {n:Nat} {ops:Array Oper} {K:Env->World->Prop} {rest:List Oper} {e:Env} {w:World}
 {dst:Option Nat} {ty:TypeId} {pos:String} {after:Array Edge} {g:Option (Nat×Bool)} {x y:Operand}
theorem ae6 {B:Nat} {L:List Nat} {t:Nat} {v u1 u2 u3:Value} {gb:Option Nat} {ts:List dy} {f:dy} {b U:Nat} (hT:P.underlying t=some (.slice E)) (hE:TI P E 3 bytes z) (hg:gate ops e g=true) (hd:bV n dst=true) (hz:Nat.beq z.cells.size 3=true) (fK:Nat.ble bytes 1000=true) 
  (hx:ev e x=v) (hy:ev e y= .slice (some ⟨b,0,none⟩) 1 1) (hO:Gr B L w E 3 v gb (ts.map dy.enc)) (hb:aJ w b [u1,u2,u3].toArray U)
  (hr:nD (gb.toList++L) w (.agg #[u1,u2,u3]) f) (hn:ts.length<100000000)
  (k:∀a' cap' g' w',Gr B L w' E 3 (.slice a' (ts++[f]).length cap') g' ((ts++[f]).map dy.enc)->aj gb.toList w w'->OW P n ops K rest (bM e dst (.slice a' (ts++[f]).length cap')) w'):
  OW P n ops K (⟨dst,.call {callee:=.builtin .append,args:=#[x,y],argTypes:=#[t,t]},ty,pos,after,g⟩::rest) e w:=by
 refine DR hT hE hg hd hz fK hx hy hO hb rfl ?_ hr.kj (by simpa using hn) ?_
 ·rw[List.all_eq_true]
  refine λu hu=>cS.FK hr.kj (λc hc v hv=>?_) u hu
  rw[dy.enc] at hc
  simp only[mC,List.not_mem_nil,or_false] at hc
  rcases hc with h|h|h
  ·rw[h] at hv;cases hv;rfl
  ·rw[h] at hv;cases hv
  ·rw[h] at hv;cases hv
 ·intro a' cap' g' w' iU hk
  have e1:(ts.map dy.enc).length+1=(ts++[f]).length:=by simp
  have e2:ts.map dy.enc++[f.enc]=(ts++[f]).map dy.enc:=by simp
  rw[e1] at iU⊢
  rw[e2] at iU
  exact k a' cap' g' w' iU hk
end
theorem ae7 {s:ai} (h:12000<s.length):bA s=none:=by unfold bA;rw[iP h]
def ae8 (L:List Nat) (s:ai) (v:Value) (w:World):Prop:=∃t tv,v= .tuple #[tv,.bool (bA s).isSome]∧bB L w tv t∧∀t',bA s=some t'->t=t'
theorem Th (s:ai) (L:List Nat) (w:World) (hL:∀x,x∈L->x<w.heap.size):bz Tryz.prog 31 [str s] w λr w'=>ae8 L s r w'∧aj [] w w':=by
 have hK:=aj.refl [] w
 refine kW [.cell 2 65,.tmp 3] 23 Tryz.func31 rfl aak rfl rfl rfl ?_
 refine zr<|dx fg rfl rfl rfl λw1 aI aU dk=>?_
 have hK:=hK.grow;have hK:=hK.ext aI
 refine W ?_
 refine zc rfl (λh1=>?_) (λh1=>?_)
 have hp:=ae7 (s:=s) om
 refine zr<|js (Ll _) rfl rfl<|cJ fg rfl rfl rfl aU rfl λw2 az aU dC=>?_
 have hK:=hK.aD az sx
 refine W ?_
 exact⟨[_,_],⟨fZ tF fg rfl aU rfl,rfl⟩,⟨.mk [] [],_,by rw[hp];rfl,kU oH,by rw[hp];intro t' h;cases h⟩,hK⟩
 have hle:s.length<=12000:=by omega
 have hL1:∀x,x∈w.heap.size::L->x<w1.heap.size:=by intro x hx;rcases mC.1 hx with rfl|hx;omega;have:=hL x hx;omega
 refine gY<|zr<|zm<|aA (ae4 60 s (w.heap.size::L) w1 om hle hL1) ?_
 rintro v2 w2 ⟨ij,az⟩
 have dm:=az.size
 refine bI az hK aU λhK aU=>?_
 obtain⟨t,tv,r,ok,rfl,ht,hm⟩:=ij
 obtain⟨pa,pn,pc,rfl,eP,aP⟩:=cU ht
 subst eP
 refine W ?_
 refine dx fg rfl rfl rfl λw3 aH aG gJ=>?_
 have hK:=hK.grow;have hK:=hK.ext aH;have aU:=aU.grow;have aU:=aU.ext aH;have ht:=ht.grow;have ht:=ht.ext aH
 refine cJ fg rfl rfl rfl aG rfl λw4 aO aG gQ=>?_
 have hK:=hK.aD aO sx;have aU:=aU.aD aO sx;have ht:=ht.aD aO sx
 refine W ?_
 apply oB 3 19 22 rfl oQ
 intro _
 exact oQ
 intro xx
 refine cJ fg rfl rfl rfl aU rfl λw5 aN aU ig=>?_
 have hK:=hK.aD aN sx;have ht:=ht.aD aN sx
 refine W ?_
 obtain⟨mB,pL⟩:=adj hle hm
 exact⟨[_,_],⟨fZ tF fg rfl aU rfl,rfl⟩,⟨t,_,by rw[<-mB];rfl,ht.gP (λx hx=>by simp[hx]),pL⟩,hK⟩
def afa (L:List Nat) (s:ai) (v:Value) (w:World):Prop:=∃t tv,v= .tuple #[tv,.bool (sq s)]∧bB L w tv t∧∀t',bA s=some t'->t=t'
theorem afb (s:ai) (L:List Nat) (w:World) (hL:∀x,x∈L->x<w.heap.size):bz Tryz.prog 30 [str s] w λr w'=>afa L s r w'∧aj [] w w':=by
 have hK:=aj.refl [] w
 refine kW [.cell 2 65,.tmp 3] 17 Tryz.func30 rfl aaj rfl rfl rfl ?_
 refine zr<|dx fg rfl rfl rfl λw1 aI aU dk=>?_
 have hK:=hK.grow;have hK:=hK.ext aI
 refine W ?_
 refine aA (Th s (w.heap.size::L) w1 (by intro x hx;rcases mC.1 hx with rfl|hx;omega;have:=hL x hx;omega)) ?_
 rintro v2 w2 ⟨ij,az⟩
 have dm:=az.size
 refine bI az hK aU λhK aU=>?_
 obtain⟨t,tv,rfl,ht,hp⟩:=ij
 obtain⟨pa,pn,pc,rfl,eP,aP⟩:=cU ht
 subst eP
 have cm:=λh=>DV hp h
 refine W ?_
 refine dx fg rfl rfl rfl λw3 aH aG gJ=>?_
 have hK:=hK.grow;have hK:=hK.ext aH;have aU:=aU.grow;have aU:=aU.ext aH;have ht:=ht.grow;have ht:=ht.ext aH
 refine cJ fg rfl rfl rfl aG rfl λw4 aO aG gQ=>?_
 have hK:=hK.aD aO sx;have aU:=aU.aD aO sx;have ht:=ht.aD aO sx
 refine W ?_
 refine zB dj (cj w.heap.size ([str t.aw,.slice pa t.ak.length pc]) 65) 8 (rA 11 6++[100006,3]) (rA 11 6++[100006,3]) [[],[],[1],[2],[2,3],[2,4],[0],[5]] [λv _=>v=(.agg #[str t.aw,.slice pa t.ak.length pc]),λv _=>v=(.bool ((bA s).isSome)),λv _=>v=(.bool ((bA s).isSome)),λv _=>((bA s).isSome)=true->v=(.agg #[str t.aw,.slice pa t.ak.length pc]),λv _=>((bA s).isSome)=true->v=(.bool (fa false t)),λv _=>v=(.bool ((bA s).isSome&&fa false t)),λ_ ww=>aJ ww w.heap.size ([str t.aw,.slice pa t.ak.length pc]).toArray 65,λv _=>v=(.bool ((bA s).isSome&&fa false t))] de (fu (fu (fu (BG (BG (fu (DH (fu trivial)))))))) (λwd aC=>?_) ?_
 refine eh ?_ ?_
 intro x vs w5 e aN hd he
 replace aN:=(cj w.heap.size ([str t.aw,.slice pa t.ak.length pc]) 65).trans aC aN
 have aG:=aG.aD aN.1 sx
 replace he:e=bo (bj _ x _) []:=he
 subst he
 refine W ?_
 exact dn ((cj w.heap.size ([str t.aw,.slice pa t.ak.length pc]) 65).refl _) rfl
 refine eh ?_ ?_
 intro x vs w5 e aN hd he
 replace aN:=(cj w.heap.size ([str t.aw,.slice pa t.ak.length pc]) 65).trans aC aN
 replace he:e=bo (bj _ x _) []:=he
 subst he
 refine W ?_
 exact dn ((cj w.heap.size ([str t.aw,.slice pa t.ak.length pc]) 65).refl _) rfl
 refine eh ?_ ?_
 intro x vs w5 e aN hd he
 have d1:vs 1=(.bool ((bA s).isSome)):=hd
 replace aN:=(cj w.heap.size ([str t.aw,.slice pa t.ak.length pc]) 65).trans aC aN
 replace he:e=bo (bj _ x _) [(12,vs 1)]:=he
 rw[d1] at he
 subst he
 refine W ?_
 exact dn ((cj w.heap.size ([str t.aw,.slice pa t.ak.length pc]) 65).refl _) rfl
 refine eh ?_ ?_
 intro x vs w5 e aN hd he
 have d2:vs 2=(.bool ((bA s).isSome)):=hd
 replace aN:=(cj w.heap.size ([str t.aw,.slice pa t.ak.length pc]) 65).trans aC aN
 have aG:=aG.aD aN.1 sx
 rcases bE ((bA s).isSome) with hg|hg
 rw[hg] at d2
 replace he:e=bo (bj _ x _) [(13,vs 2)]:=he
 rw[d2] at he
 subst he
 refine W ?_
 exact dn ((cj w.heap.size ([str t.aw,.slice pa t.ak.length pc]) 65).refl _) (show((bA s).isSome)=true->_=((.agg #[str t.aw,.slice pa t.ak.length pc]):Value) from λ_=>rfl)
 rw[hg] at d2
 replace he:e=bo (bj _ x _) [(13,vs 2)]:=he
 rw[d2] at he
 subst he
 refine W ?_
 exact dn ((cj w.heap.size ([str t.aw,.slice pa t.ak.length pc]) 65).refl _) (show((bA s).isSome)=true->_=(_:Value) from λhh=>nomatch hg.symm.trans hh)
 refine eh ?_ ?_
 intro x vs w5 e aN hd he
 have aQ:(vs 2=(.bool ((bA s).isSome)))∧(((bA s).isSome)=true->vs 3=(.agg #[str t.aw,.slice pa t.ak.length pc])):=hd
 obtain⟨d2,d3⟩:=aQ
 replace aN:=(cj w.heap.size ([str t.aw,.slice pa t.ak.length pc]) 65).trans aC aN
 have ht:=ht.aD aN.1 sx
 rcases bE ((bA s).isSome) with hg|hg
 rw[hg] at d2
 replace d3:=d3 hg
 replace he:e=bo (bj _ x _) [(13,vs 2),(14,vs 3)]:=he
 rw[d2,d3] at he
 subst he
 refine aA (MI t.size t (lR _) (by have:=(cm hg).2;omega) (cm hg).1 false _ _ w5 ht) ?_
 rintro _ w6 ⟨rfl,bN⟩
 have od:=bN.size
 refine W ?_
 exact dn ((cj w.heap.size ([str t.aw,.slice pa t.ak.length pc]) 65).of bN) (show((bA s).isSome)=true->_=((.bool (fa false t)):Value) from λ_=>rfl)
 rw[hg] at d2
 replace he:e=bo (bj _ x _) [(13,vs 2),(14,vs 3)]:=he
 rw[d2] at he
 subst he
 refine W ?_
 exact dn ((cj w.heap.size ([str t.aw,.slice pa t.ak.length pc]) 65).refl _) (show((bA s).isSome)=true->_=(_:Value) from λhh=>nomatch hg.symm.trans hh)
 refine eh ?_ ?_
 intro x vs w5 e aN hd he
 have aQ:(vs 2=(.bool ((bA s).isSome)))∧(((bA s).isSome)=true->vs 4=(.bool (fa false t))):=hd
 obtain⟨d2,d4⟩:=aQ
 replace aN:=(cj w.heap.size ([str t.aw,.slice pa t.ak.length pc]) 65).trans aC aN
 rcases bE ((bA s).isSome) with hg|hg
 rw[hg] at d2
 replace d4:=d4 hg
 replace he:e=bo (bj _ x _) [(13,vs 2),(15,vs 4)]:=he
 rw[d2,d4] at he
 subst he
 refine W ?_
 exact dn ((cj w.heap.size ([str t.aw,.slice pa t.ak.length pc]) 65).refl _) (by first|rfl|(rw[hg];rfl))
 rw[hg] at d2
 replace he:e=bo (bj _ x _) [(13,vs 2),(15,vs 4)]:=he
 rw[d2] at he
 subst he
 refine W ?_
 exact dn ((cj w.heap.size ([str t.aw,.slice pa t.ak.length pc]) 65).refl _) (by first|rfl|(rw[hg];rfl))
 refine eh ?_ ?_
 intro x vs w5 e aN hd he
 have d0:vs 0=(.agg #[str t.aw,.slice pa t.ak.length pc]):=hd
 replace aN:=(cj w.heap.size ([str t.aw,.slice pa t.ak.length pc]) 65).trans aC aN
 obtain⟨us,vm,vq⟩:=aN.2.2 ⟨_,(by rfl),aU⟩
 replace he:e=bo (bj _ x _) [(11,vs 0)]:=he
 rw[d0] at he
 subst he
 refine cJ fg rfl rfl rfl vq (by rw[vm];rfl) λw6 bN hb kI=>W ?_
 exact dn ⟨bN,λ_=>hb,λ_=>⟨_,rfl,hb⟩⟩ hb
 refine eh ?_ ?_
 intro x vs w5 e aN hd he
 have d5:vs 5=(.bool ((bA s).isSome&&fa false t)):=hd
 replace aN:=(cj w.heap.size ([str t.aw,.slice pa t.ak.length pc]) 65).trans aC aN
 replace he:e=bo (bj _ x _) [(16,vs 5)]:=he
 rw[d5] at he
 subst he
 refine W ?_
 exact dn ((cj w.heap.size ([str t.aw,.slice pa t.ak.length pc]) 65).refl _) rfl
 exact trivial
 intro x vs o4 iX dP
 have d0:vs 0=(.agg #[str t.aw,.slice pa t.ak.length pc]):=dP 0 de
 have d1:vs 1=(.bool ((bA s).isSome)):=dP 1 de
 have d2:vs 2=(.bool ((bA s).isSome)):=dP 2 de
 have d3:((bA s).isSome)=true->vs 3=(.agg #[str t.aw,.slice pa t.ak.length pc]):=dP 3 de
 have d4:((bA s).isSome)=true->vs 4=(.bool (fa false t)):=dP 4 de
 have d5:vs 5=(.bool ((bA s).isSome&&fa false t)):=dP 5 de
 have d6:aJ o4 w.heap.size ([str t.aw,.slice pa t.ak.length pc]).toArray 65:=dP 6 de
 have d7:vs 7=(.bool ((bA s).isSome&&fa false t)):=dP 7 de
 have hK:=hK.aD iX.1 sx;have ht:=ht.aD iX.1 sx
 have aU:=d6
 change OW _ _ _ _ [] (bo (bj _ x _) (zZ 11 [vs 0,vs 1,vs 2,vs 3,vs 4,vs 5]++[(100006,vs 6),(3,vs 7)])) _
 rw[d0,d1,d2,d5,d7]
 refine W ?_
 exact⟨[_,_],⟨fZ tF fg rfl aU rfl,rfl⟩,⟨t,_,by rw[Iz (f:=fa false) hp];rfl,ht.gP (λx hx=>by simp[hx]),hp⟩,hK⟩
def Ti (L:List Nat) (b:Bk) (v:Value) (w:World):Prop:=∃ib bv,v= .tuple #[bv,.bool (nT b)]∧nD L w bv ib∧(nT b=true->ib=dQ b)
theorem MN {b:Bk} (h:nT b=false):Ti L b (.tuple #[.agg #[str [],.slice none 0 0,.slice none 0 0],.bool false]) w:=
 ⟨⟨[],[],[]⟩,_,by rw[h],MM oH oH,by rw[h];intro h;cases h⟩
theorem afc (k:Bk) (hl:k.aM.length<1000000000) (fx:k.bY.length<1000000000) (eV:k.code.length<1000000000) (v:Value) (Li L:List Nat) (w:World) (hv:qP Li w v k) (hL:∀x,x∈L->x<w.heap.size):
  bz Tryz.prog 17 [v] w λr w'=>Ti L k r w'∧aj [] w w':=by
 obtain⟨a1,n1,c1,a2,n2,c2,rfl,oW,mo,cV,dm⟩:=DP hv
 have hK:=aj.refl [] w
 refine kW [.cell 2 35,.tmp 3] 102 Tryz.func17 rfl Z3 rfl rfl rfl ?_
 refine zr<|eH rfl λw1 aI aX dk=>?_
 have hK:=hK.ext aI
 refine dx jf rfl rfl rfl λw2 az aU dC=>?_
 have hK:=hK.grow;have hK:=hK.ext az;have aX:=aX.grow;have aX:=aX.ext az
 refine W ?_
 refine aA (S5 _ om _) ?_
 rintro _ _ ⟨rfl,rfl⟩
 refine WZ ?_
 apply oP 5 17 22 rfl oQ
 intro _
 refine WZ ?_
 exact oQ
 intro xx
 refine WZ ?_
 apply oP 5 23 28 rfl oQ
 intro _
 refine WZ ?_
 exact oQ
 intro xx
 refine WZ ?_
 apply oP 6 29 35 rfl oQ
 intro _
 refine W ?_
 refine aA (I9 _ _ _ _) ?_
 rintro _ _ ⟨rfl,rfl⟩
 exact oQ
 intro xx
 refine aZ<|zc rfl (λh4=>?_) (λh4=>?_)
 have hq:=adk oW mo h4
 refine zr<|js (Lk _) rfl rfl<|cJ jf rfl rfl rfl aU rfl λw3 aH aU gJ=>?_
 have hK:=hK.aD aH sx
 refine W ?_
 exact⟨[_,_],⟨fZ zG jf rfl aU rfl,rfl⟩,MN hq,hK⟩
 obtain⟨qf,nC⟩:=adl oW mo h4
 have tT:k.bY.length<=40∧k.code.length<=80:=by simp only[aE,dE] at qf;exact⟨qf.1.2,qf.2.2⟩
 refine W ?_
 refine js (abv _ _) rfl rfl<|dx jf rfl rfl rfl λw3 aH aG gJ=>?_
 have hK:=hK.grow;have hK:=hK.ext aH;have aX:=aX.grow;have aX:=aX.ext aH;have aU:=aU.grow;have aU:=aU.ext aH
 refine cJ jf rfl rfl rfl aG rfl λw4 aO aG gQ=>?_
 have hK:=hK.aD aO sx;have aX:=aX.aD aO sx;have aU:=aU.aD aO sx
 refine W ?_
 refine eA (λq:Nat×Option Addr×Nat×Option Nat=>[(1,.pointer (some ⟨w.heap.size,0,none⟩)),(2,.pointer (some ⟨w1.heap.size,0,none⟩)),(4,.pointer (some ⟨w2.heap.size,0,none⟩)),(41,.slice a1 n1 c1),(42,.int .i64 (n1:Int)),(43,.int .i64 (q.1:Int))]) (λq w'=>aj [] w w'∧aJ w' w.heap.size [str k.aM,.slice a1 n1 c1,.slice a2 n2 c2].toArray 39∧aJ w' w1.heap.size [str [],.slice none 0 0,.slice none 0 0].toArray 35∧aJ w' w2.heap.size [str k.aM,.slice q.2.1 ((k.bY.take q.1).map tr).length q.2.2.1,.slice none 0 0].toArray 35∧Gr w1.heap.size (w1.heap.size::w2.heap.size::L) w' 65 2 (.slice q.2.1 ((k.bY.take q.1).map tr).length q.2.2.1) q.2.2.2 (cT ((k.bY.take q.1).map tr))∧q.1<=k.bY.length∧∀i,i<q.1->sq (bX k.bY i)=true) (λq=>k.bY.length-q.1) ((0,none,0,none)) (⟨rfl,rfl,rfl,rfl,rfl,rfl⟩) (⟨hK,aX,aU,aG,Gr.nil (by intro x hx;simp at hx;rcases hx with rfl|rfl|hx;omega;omega;have:=hL x hx;omega) om,sm,by intro i hi;simp at hi⟩) λgg w5 e5 hI=>?_
 obtain⟨i,a,cc,g⟩:=gg
 dsimp only at hI⊢
 obtain⟨hK,aX,aU,aG,hO,hk,cL⟩:=hI
 have fC:=hK.size
 have Tj:=aX.lt
 have Tl:=aU.lt
 have Td:=aG.lt
 refine W ?_
 refine zc rfl (λh5=>?_) (λh5=>?_)
 have ey:=km (xs:=k.bY) (i:=i) om
 obtain⟨b,off,rfl,hc⟩:=pB (cV.ext hK) ey
 refine W ?_
 refine aA (afb (bX k.bY i) (g.toList++(w1.heap.size::w2.heap.size::L)) w5 hO.all) ?_
 rintro v6 w6 ⟨Cn,bN⟩
 have od:=bN.size
 refine la bN hK aX aU aG hO λhK aX aU aG hO=>?_
 obtain⟨t,tv,rfl,ht,hp⟩:=Cn
 obtain⟨pa,pn,pc,rfl,eP,aP⟩:=cU ht
 subst eP
 refine W ?_
 refine dx fg rfl rfl rfl λw7 bW cM oX=>?_
 have hK:=hK.grow;have hK:=hK.ext bW;have aX:=aX.grow;have aX:=aX.ext bW;have aU:=aU.grow;have aU:=aU.ext bW;have aG:=aG.grow;have aG:=aG.ext bW;have hO:=hO.alloc bW oX;have ht:=ht.grow;have ht:=ht.ext bW
 refine cJ fg rfl rfl rfl cM rfl λw8 cE cM ld=>?_
 have hK:=hK.aD cE sx;have aX:=aX.aD cE sx;have aU:=aU.aD cE sx;have aG:=aG.aD cE sx;have hO:=hO.aD cE sx;have ht:=ht.aD cE sx
 refine W ?_
 refine zc rfl (λh6=>?_) (λh6=>?_)
 have hq:=adm (b:=k) (i:=i) om (by simpa using h6)
 refine zr<|js (Lk _) rfl rfl<|cJ jf rfl rfl rfl aU rfl λw9 aB aU df=>?_
 have hK:=hK.aD aB sx
 refine W ?_
 exact⟨[_,_],⟨fZ zG jf rfl aU rfl,rfl⟩,MN hq,hK⟩
 have lD:sq (bX k.bY i)=true:=by simpa using h6
 refine W ?_
 refine fc sk fg rfl rfl λw9 aB MO df=>tS aB hK aX aU aG hO ht λhK aX aU aG hO ht=>?_
 refine LG sk fg rfl rfl rfl rfl rfl rfl hO MO ht.LH (by rw[DU _ hk];omega) λa3 Gv g3 cu iY cB=>?_
 have Tm:=cB.size
 have hK:=aj.LF om hO.low hK cB
 have aX:=aX.aD cB (hO.Ru om);have aU:=aU.aD cB (hO.DQ sm);have aG:=aG.aD cB (hO.DQ sm)
 rw[ado lD hp,DT tr ey] at iY⊢
 refine zf QJ rfl<|gd Is rfl rfl rfl aG rfl λeD dd aG vi=>?_
 have hK:=hK.aD dd sx;have aX:=aX.aD dd sx;have aU:=aU.aD dd sx;have iY:=iY.aD dd sx
 refine W ?_
 exact⟨(i+1,a3,Gv,g3),⟨rfl,rfl,rfl,rfl,rfl,rfl⟩,⟨hK,aX,aU,aG,iY.gP (λx hx=>mK _ hx),by dsimp only;omega,by intro j hj;rcases Nat.lt_or_ge j i with h|h;exact cL j h;rw[show j=i by dsimp only at hj;omega];exact lD⟩,by dsimp only;omega⟩
 have MF:∀j,j<k.bY.length->sq (bX k.bY j)=true:=λj hj=>cL j om
 rw[F0 tr om] at aG hO
 have MP:=hO.trees
 have iZ:=aj.refl [w1.heap.size,w2.heap.size] w5
 clear cL hO
 refine W ?_
 refine eA (λq:Nat×Option Addr×Nat×Option Nat=>[(1,.pointer (some ⟨w.heap.size,0,none⟩)),(2,.pointer (some ⟨w1.heap.size,0,none⟩)),(4,.pointer (some ⟨w2.heap.size,0,none⟩)),(63,.slice a2 n2 c2),(64,.int .i64 (n2:Int)),(65,.int .i64 (q.1:Int))]) (λq w'=>aj [] w w'∧aj [w1.heap.size,w2.heap.size] w5 w'∧aJ w' w.heap.size [str k.aM,.slice a1 n1 c1,.slice a2 n2 c2].toArray 39∧aJ w' w1.heap.size [str [],.slice none 0 0,.slice none 0 0].toArray 35∧aJ w' w2.heap.size [str k.aM,.slice a (k.bY.map tr).length cc,.slice q.2.1 ((k.code.take q.1).map tr).length q.2.2.1].toArray 35∧Gr w5.heap.size (w1.heap.size::w2.heap.size::L) w' 65 2 (.slice q.2.1 ((k.code.take q.1).map tr).length q.2.2.1) q.2.2.2 (cT ((k.code.take q.1).map tr))∧q.1<=k.code.length∧∀i,i<q.1->rF k.code i=true) (λq=>k.code.length-q.1) ((0,none,0,none)) (⟨rfl,rfl,rfl,rfl,rfl,rfl⟩) (⟨hK,iZ,aX,aU,aG,Gr.nil (by intro x hx;simp at hx;rcases hx with rfl|rfl|hx;omega;omega;have:=hL x hx;omega) om,sm,by intro i hi;simp at hi⟩) λgg w6 e6 hI=>?_
 obtain⟨j,a5,Jc,g⟩:=gg
 dsimp only at hI⊢
 obtain⟨hK,iZ,aX,aU,aG,hO,az,cL⟩:=hI
 have fC:=hK.size
 have aok:=iZ.size
 have Tj:=aX.lt
 have Tl:=aU.lt
 have Td:=aG.lt
 refine W ?_
 refine zc rfl (λh7=>?_) (λh7=>?_)
 have ey:=km (xs:=k.code) (i:=j) om
 obtain⟨b,off,rfl,hc⟩:=pB (dm.ext hK) ey
 refine W ?_
 refine aA (Th (bX k.code j) (g.toList++(w1.heap.size::w2.heap.size::L)) w6 hO.all) ?_
 rintro v7 w7 ⟨ye,bW⟩
 have lf:=bW.size
 refine tS bW hK iZ aX aU aG hO λhK iZ aX aU aG hO=>?_
 obtain⟨t,tv,rfl,ht,hp⟩:=ye
 obtain⟨pa,pn,pc,rfl,eP,aP⟩:=cU ht
 subst eP
 have cm:=λh=>DV hp h
 refine W ?_
 refine dx fg rfl rfl rfl λw8 cE iF ld=>?_
 have hK:=hK.grow;have hK:=hK.ext cE;have iZ:=iZ.grow;have iZ:=iZ.ext cE;have aX:=aX.grow;have aX:=aX.ext cE;have aU:=aU.grow;have aU:=aU.ext cE;have aG:=aG.grow;have aG:=aG.ext cE;have hO:=hO.alloc cE ld;have ht:=ht.grow;have ht:=ht.ext cE
 refine cJ fg rfl rfl rfl iF rfl λw9 aB iF df=>?_
 have hK:=hK.aD aB sx;have iZ:=iZ.aD aB sx;have aX:=aX.aD aB sx;have aU:=aU.aD aB sx;have aG:=aG.aD aB sx;have hO:=hO.aD aB sx;have ht:=ht.aD aB sx
 refine W ?_
 refine D8 [75,76,77,78,79,80,81,82,83,84,85,86,87,88,89,90,91,92] [(92,.bool ((!(bA (bX k.code j)).isSome||!nS t)||(FV t !=decide ((j:Int)=(n2:Int)-1))))] ?_ ?_
 rcases bE (!(bA (bX k.code j)).isSome) with iD|iD
 apply k8 dj 18 (rA 75 18) (rA 75 18) [[],[0],[1],[2],[2,3],[2,4],[2,5],[6],[7],[7,8],[7],[7],[7,11],[7,12],[7,13],[7,10,14],[7,9,15],[7,16]] [It.v _,It.v _,It.v (.bool true),It.v _,It.v _,It.v _,It.v _,It.v (.bool true),It.v _,It.v _,It.v _,It.v _,It.v _,It.v _,It.v _,It.v _,It.v _,It.v _] de rfl
 intro wd aC
 refine VA ?_
 refine vc (λx cu cB=>?_) ?_
 refine WZ ?_
 exact pv (by exact congrArg Value.bool iD)
 refine vk aC (λx cu cB=>?_) ?_
 exact cF pv
 refine vk aC (λx cu cB=>?_) ?_
 exact cF pv
 refine vc (λx cu cB=>?_) ?_
 exact cF pv
 refine vc (λ_ _ _=>WZ pv) ?_
 refine vc (λx cu cB=>?_) ?_
 refine WZ ?_
 exact pv (by rfl)
 exact VZ
 intro x oc iE
 change OW _ _ _ _ [] (bo (bj _ x _) (zZ 75 [_,_,_,_,_,_,_,_,_,_,_,_,_,_,_,_,_,_])) _
 refine W ?_
 exact kE iE
 rcases bE (!(bA (bX k.code j)).isSome||!nS t) with mx|mx
 apply k8 dj 18 (rA 75 18) (rA 75 18) [[],[0],[1],[2],[2,3],[2,4],[2,5],[6],[7],[7,8],[7],[7],[7,11],[7,12],[7,13],[7,10,14],[7,9,15],[7,16]] [It.v _,It.v _,It.v (.bool false),It.v _,It.v _,It.v _,It.v _,It.v (.bool true),It.v _,It.v _,It.v _,It.v _,It.v _,It.v _,It.v _,It.v _,It.v _,It.v _] de rfl
 intro wd aC
 refine VA ?_
 refine vc (λx cu cB=>?_) ?_
 refine WZ ?_
 exact pv (by exact congrArg Value.bool iD)
 refine VA ?_
 refine vk aC (λx cu cB=>?_) ?_
 have ht:=ht.ext cB
 have hg:=iD
 refine aA (Tb t (cm (by simpa using hg)).2 (cm (by simpa using hg)).1 _ _ cu ht) ?_
 rintro _ eD ⟨rfl,dd⟩
 have AM:=dd.size
 exact pk dd
 refine VA ?_
 refine vc (λx cu cB=>?_) ?_
 refine WZ ?_
 exact pv (by first|exact congrArg Value.bool mx|(rw[iD] at mx;exact congrArg Value.bool mx))
 exact VZ
 intro x oc iE
 change OW _ _ _ _ [] (bo (bj _ x _) (zZ 75 [_,_,_,_,_,_,_,_,_,_,_,_,_,_,_,_,_,_])) _
 refine W ?_
 exact kE iE
 apply k8 dj 18 (rA 75 18) (rA 75 18) [[],[0],[1],[2],[2,3],[2,4],[2,5],[6],[7],[7,8],[7],[7],[7,11],[7,12],[7,13],[7,10,14],[7,9,15],[7,16]] [It.v _,It.v _,It.v (.bool false),It.v _,It.v _,It.v _,It.v _,It.v (.bool false),It.v _,It.v _,It.v _,It.v _,It.v _,It.v _,It.v _,It.v _,It.v _,It.v _] de rfl
 intro wd aC
 refine VA ?_
 refine vc (λx cu cB=>?_) ?_
 refine WZ ?_
 exact pv (by exact congrArg Value.bool iD)
 refine VA ?_
 refine vk aC (λx cu cB=>?_) ?_
 have ht:=ht.ext cB
 have hg:=iD
 refine aA (Tb t (cm (by simpa using hg)).2 (cm (by simpa using hg)).1 _ _ cu ht) ?_
 rintro _ eD ⟨rfl,dd⟩
 have AM:=dd.size
 exact pk dd
 refine VA ?_
 refine vc (λx cu cB=>?_) ?_
 refine WZ ?_
 exact pv (by first|exact congrArg Value.bool mx|(rw[iD] at mx;exact congrArg Value.bool mx))
 refine VA ?_
 refine vk aC (λx cu cB=>?_) ?_
 have ht:=ht.ext cB
 have hg:=mx
 refine aA (ae2 t (cm (by rw[Bool.or_eq_false_iff] at hg;simpa using hg.1)).1 _ _ cu ht) ?_
 rintro _ eD ⟨rfl,dd⟩
 have AM:=dd.size
 exact pk dd
 refine vc (λ_ _ _=>WZ pv) ?_
 refine vc (λ_ _ _=>WZ pv) ?_
 refine vk aC (λx cu cB=>?_) ?_
 have aX:=aX.ext cB
 refine WZ ?_
 exact pv
 refine vk aC (λx cu cB=>?_) ?_
 refine WZ ?_
 exact pv
 refine vk aC (λx cu cB=>?_) ?_
 refine WZ ?_
 exact pv
 refine vk aC (λx cu cB=>?_) ?_
 refine WZ ?_
 exact pv
 refine vk aC (λx cu cB=>?_) ?_
 refine WZ ?_
 exact pv
 refine vc (λ_ _ _=>WZ pv) ?_
 exact trivial
 intro x oc iE
 change OW _ _ _ _ [] (bo (bj _ x _) (zZ 75 [_,_,_,_,_,_,_,_,_,_,_,_,_,_,_,_,_,_])) _
 refine W ?_
 exact kE iE
 intro x oc iE
 refine Cd iE hK iZ aX aU aG hO ht iF λhK iZ aX aU aG hO ht iF=>?_
 refine zc rfl (λh8=>?_) (λh8=>?_)
 rw[RU mo om hp] at h8
 have hq:=adn (b:=k) (i:=j) om (by simpa using h8)
 refine zr<|js (Lk _) rfl rfl<|cJ jf rfl rfl rfl aU rfl λoe lE aU afd=>?_
 have hK:=hK.aD lE sx
 refine W ?_
 exact⟨[_,_],⟨fZ zG jf rfl aU rfl,rfl⟩,MN hq,hK⟩
 rw[RU mo om hp] at h8
 have lD:rF k.code j=true:=by simpa using h8
 refine W ?_
 refine fc sk fg rfl rfl λoe lE Gw afd=>I3 lE hK iZ aX aU aG hO ht λhK iZ aX aU aG hO ht=>?_
 refine LG sk fg rfl rfl rfl rfl rfl rfl hO Gw ht.LH (by rw[DU _ az];omega) λa3 Gv g3 lg iY kK=>?_
 have Tm:=kK.size
 have hK:=aj.LF om hO.low hK kK
 have iZ:=hO.since iZ kK
 have aX:=aX.aD kK (hO.Ru om);have aU:=aU.aD kK (hO.DQ sm);have aG:=aG.aD kK (hO.DQ sm)
 rw[adp lD hp,DT tr ey] at iY⊢
 refine zf QK rfl<|gd Is rfl rfl rfl aG rfl λAN pM aG afe=>?_
 have hK:=hK.aD pM sx;have iZ:=iZ.aD pM sx;have aX:=aX.aD pM sx;have aU:=aU.aD pM sx;have iY:=iY.aD pM sx
 refine W ?_
 exact⟨(j+1,a3,Gv,g3),⟨rfl,rfl,rfl,rfl,rfl,rfl⟩,⟨hK,iZ,aX,aU,aG,iY.gP (λx hx=>mK _ hx),by dsimp only;omega,by intro i2 hj;rcases Nat.lt_or_ge i2 j with h|h;exact cL i2 h;rw[show i2=j by dsimp only at hj;omega];exact lD⟩,by dsimp only;omega⟩
 have hq:=Rl qf MF (λi hi=>cL i om)
 have hqI:nT k=true:=by unfold nT;rw[hq,nC];rfl
 rw[F0 tr om] at aG hO
 refine W ?_
 refine cJ jf rfl rfl rfl aU rfl λw7 bW aU oX=>?_
 have hK:=hK.aD bW sx;have iZ:=iZ.aD bW sx;have hO:=hO.aD bW sx
 refine W ?_
 exact⟨[_,_],⟨fZ zG jf rfl aU rfl,rfl⟩,⟨dQ k,_,by rw[hqI];rfl,MM (l:=k.aM) ((MP.aD iZ sm).gP (λx hx=>by simp[hx])) (hO.trees.gP (λx hx=>by simp[hx])),λ_=>rfl⟩,hK⟩
theorem afg (k:dy) (l:ai) (b1:Nat) (v:Value) (L:List Nat) (w:World) (hv:nD L w v k) (aX:aJ w b1 [str l].toArray 9):
  bz Tryz.prog 35 [v,.pointer (some ⟨b1,0,none⟩)] w λr w'=>r= .bool (decide (k.aM=l))∧aj [] w w':=by
 obtain⟨a1,c1,a2,c2,rfl,cv,ck⟩:=Tf hv
 have hK:=aj.refl [] w
 refine bS [.tmp 3] 8 Tryz.func35 rfl aao rfl rfl ?_
 refine zr<|eH rfl λw1 aI aU dk=>bI aI hK aX λhK aX=>?_
 refine W ?_
 exact⟨_,rfl,rfl,hK⟩
theorem afh (ps:List dy) (hlen:ps.length<1000000000) (g:dy->Bool) (f:FuncId) (caps:List Value) (v:Value) (L:List Nat) (w:World) (hv:nG L w v ps) 
  (hf:∀i,i<ps.length->∀(u:Value) (w':World),aj [] w w'->nD L w' u (eC ps i)->bz Tryz.prog f (u::caps) w' λr w''=>r= .bool (g (eC ps i))∧aj [] w' w''):
  bz Tryz.prog 34 [v,.func (.func f) #[] caps.toArray] w λr w'=>r= .int .i64 (F2 ps g)∧aj [] w w':=by
 obtain⟨a,c,rfl⟩:=Eh hv
 have hK:=aj.refl [] w
 refine bS [.tmp 4] 19 Tryz.func34 rfl aan rfl rfl ?_
 refine W ?_
 refine eA (λk:Nat=>[(0,.slice a ps.length c),(1,.func (.func f) #[] caps.toArray),(7,.int .i64 (ps.length:Int)),(8,.int .i64 (k:Int))]) (λk w'=>aj [] w w'∧k<=ps.length∧∀i,i<k->g (eC ps i)=false) (λk=>ps.length-k) (0) (⟨rfl,rfl,rfl,rfl⟩) (⟨hK,om,by intro i hi;omega⟩) λgg w1 e1 hI=>?_
 obtain⟨hK,hk,cL⟩:=hI
 have hv:=hv.ext hK
 refine W ?_
 refine zc rfl (λh1=>?_) (λh1=>?_)
 have hp:=sv (ps:=ps) (i:=gg) om
 obtain⟨b,off,a1,c1,a2,c2,rfl,hc,mB,pL⟩:=Cm hv hp
 refine W ?_
 refine Qy rfl rfl rfl (hf gg om _ w1 hK (MM mB pL)) ?_
 rintro _ w2 ⟨rfl,az⟩
 have dm:=az.size
 have hK:=hK.ext az
 refine aZ<|zc rfl (λh2=>?_) (λh2=>?_)
 have hq:=adq om cL h2
 refine W ?_
 exact⟨_,rfl,by rw[hq];rfl,hK⟩
 refine W ?_
 exact⟨gg+1,⟨rfl,rfl,rfl,rfl⟩,⟨hK,om,by intro i hi;rcases Nat.lt_or_ge i gg with h|h;exact cL i h;rw[show i=gg by omega];exact h2⟩,om⟩
 have hq:=adr (λi hi=>cL i om)
 refine W ?_
 exact⟨_,rfl,by rw[hq];rfl,hK⟩
theorem Tn (ps:List dy) (hlen:ps.length<1000000000) (l:ai) (v:Value) (L:List Nat) (w:World) (hv:nG L w v ps):
  bz Tryz.prog 18 [v,str l] w λr w'=>r= .int .i64 (uS ps l)∧aj [] w w':=by
 have hK:=aj.refl [] w
 refine bS [.tmp 4] 8 Tryz.func18 rfl Z6 rfl rfl ?_
 refine zr<|K2 rfl rfl rfl λw1 aI cQ dk=>bI aI hK hv λhK hv=>?_
 refine W ?_
 refine Qx (vs:=[.pointer (some ⟨w.heap.size,0,none⟩)]) rfl rfl rfl<|aA (afh ps hlen (λb=>decide (b.aM=l)) 35 [.pointer (some ⟨w.heap.size,0,none⟩)] _ L w1 hv (λi hi u w' k hu=>afg (eC ps i) l _ _ L _ hu (cQ.ext k))) ?_
 rintro _ w2 ⟨rfl,az⟩
 have dm:=az.size
 have hK:=hK.ext az
 refine W ?_
 exact⟨_,rfl,rfl,hK⟩
def afi (L:List Nat) (bs:List Bk) (v:Value) (w:World):Prop:=∃ps pv,v= .tuple #[pv,.bool (ni bs)]∧nG L w pv ps∧(ni bs=true->ps=bs.map dQ)
theorem To (bs:List Bk) (hb:tJ bs) (v:Value) (Li L:List Nat) (w:World) (hv:nR Li w v bs) (hL:∀x,x∈L->x<w.heap.size):
  bz Tryz.prog 9 [v] w λr w'=>afi L bs r w'∧aj [] w w':=by
 obtain⟨a,n,c,rfl,hn⟩:=zQ hv
 have hK:=aj.refl [] w
 have iq:=hb.1
 refine bS [.tmp 2,.tmp 3] 52 Tryz.func9 rfl nm9 rfl rfl ?_
 refine W ?_
 refine aA (I9 _ _ _ _) ?_
 rintro _ _ ⟨rfl,rfl⟩
 refine kx rfl rfl rfl<|aZ<|zc rfl (λh1=>?_) (λh1=>?_)
 have hq:ni bs=false:=adv (λh=>by rw[dT (p:=(1:Int)<=(n:Int)) om,dT (p:=(n:Int)<=40) om] at h1;exact absurd h1 de)
 refine W ?_
 exact⟨_,rfl,⟨[],_,by rw[hq];rfl,Tg,by rw[hq];intro h;cases h⟩,hK⟩
 have Tp:1<=bs.length∧bs.length<=40:=by have:=h1;simp only[aE,dE] at this;omega
 refine W ?_
 refine eA (λq:Nat×Option Addr×Nat×Option Nat=>[(0,.slice a n c),(4,.slice q.2.1 ((bs.take q.1).map dQ).length q.2.2.1),(13,.slice a n c),(14,.int .i64 (n:Int)),(15,.int .i64 (q.1:Int))]) (λq w'=>aj [] w w'∧Gr w.heap.size L w' 35 3 (.slice q.2.1 ((bs.take q.1).map dQ).length q.2.2.1) q.2.2.2 (((bs.take q.1).map dQ).map dy.enc)∧q.1<=bs.length∧∀i,i<q.1->nT (bR bs i)=true∧oJ bs (bR bs i).aM=i) (λq=>bs.length-q.1) ((0,none,0,none)) (⟨rfl,rfl,rfl,rfl,rfl⟩) (⟨hK,Gr.nil hL om,sm,by intro i hi;simp at hi⟩) λgg w1 e1 hI=>?_
 obtain⟨i,a1,cc,g⟩:=gg
 dsimp only at hI⊢
 obtain⟨hK,hO,hk,cL⟩:=hI
 have fC:=hK.size
 refine W ?_
 refine zc rfl (λh2=>?_) (λh2=>?_)
 have ey:=pC (bs:=bs) (i:=i) om
 obtain⟨b,off,ra,rn,rc,ca,cn,c3,rfl,hc,rf,wP,cV,dm⟩:=BU hv ey
 have qt:=hb.2 i om
 refine WL ?_
 refine zL DK fU rfl (hc.ext hK) rfl<|dx fU rfl rfl rfl λw2 az bL dC=>?_
 have hK:=hK.grow;have hK:=hK.ext az;have hO:=hO.alloc az dC
 refine cJ fU rfl rfl rfl bL rfl λw3 aH bL gJ=>?_
 have hK:=hK.aD aH sx;have hO:=hO.aD aH sx
 refine W ?_
 refine aA (afc (bR bs i) qt.1 qt.2.1 qt.2.2 _ _ (g.toList++(w1.heap.size::L)) w3 (qP.ext (BT cV dm) hK) hO.all) ?_
 rintro v4 w4 ⟨jR,aO⟩
 have fE:=aO.size
 refine bI aO hK hO λhK hO=>?_
 obtain⟨ib,bv,rfl,ht,hp⟩:=jR
 obtain⟨b1a,b1c,b2a,b2c,rfl,_,_⟩:=Tf ht
 refine W ?_
 refine dx jf rfl rfl rfl λw5 aN cM ig=>?_
 have hK:=hK.grow;have hK:=hK.ext aN;have hO:=hO.alloc aN ig;have ht:=ht.grow;have ht:=ht.ext aN
 refine cJ jf rfl rfl rfl cM rfl λw6 bN cM kI=>?_
 have hK:=hK.aD bN sx;have hO:=hO.aD bN sx;have ht:=ht.aD bN sx
 refine W ?_
 apply oO 6 26 32 (aj [] w6) rfl oQ
 intro h3
 have wQ:nT (bR bs i)=true:=by simpa using h3
 have hib:=hp wQ
 subst hib
 refine W ?_
 refine aA (Tn ((bs.take i).map dQ) (by rw[DU _ hk];omega) (bR bs i).aM _ L w6 (hO.prog.gP (λx hx=>by simp[hx]))) ?_
 rintro _ w7 ⟨rfl,bW⟩
 have lf:=bW.size
 exact oQ
 intro xx w8 cE
 refine ie cE hK hO ht cM λhK hO ht cM=>?_
 refine aZ<|zc rfl (λh4=>?_) (λh4=>?_)
 have hq:ni bs=false:=adt (i:=i) om (by simp only[oE,Bool.not_eq_true'] at h4;rcases h4 with h|h;exact .inl h;rw[RV om] at h;exact .inr (of_decide_eq_true h))
 refine W ?_
 exact⟨_,rfl,⟨[],_,by rw[hq];rfl,Tg,by rw[hq];intro h;cases h⟩,hK⟩
 have wQ:nT (bR bs i)=true∧oJ bs (bR bs i).aM=i:=by simp only[Bool.or_eq_false_iff,Bool.not_eq_false'] at h4;rw[RV om] at h4;exact⟨h4.1,Classical.byContradiction (of_decide_eq_false h4.2)⟩
 refine W ?_
 refine fc wk jf rfl rfl λw9 aB afk df=>cN aB hK hO ht λhK hO ht=>?_
 refine ae6 wk jf rfl rfl rfl rfl rfl rfl hO afk (ht.gP (λx hx=>by simp at hx⊢;rcases hx with h|h|h<;>simp[h])) (by rw[DU _ hk];omega) λa3 Gv g3 cu iY cB=>?_
 have Tm:=cB.size
 have hK:=hO.since hK cB
 rw[hp wQ.1,DT dQ ey] at iY⊢
 refine W ?_
 exact⟨(i+1,a3,Gv,g3),⟨rfl,rfl,rfl,rfl,rfl⟩,⟨hK,iY.gP (λx hx=>by simp[hx]),by dsimp only;omega,by intro i2 hj;rcases Nat.lt_or_ge i2 i with h|h;exact cL i2 h;rw[show i2=i by dsimp only at hj;omega];exact wQ⟩,by dsimp only;omega⟩
 have hq:=adu (λj hj=>cL j om)
 rw[F0 dQ om] at hO⊢
 obtain⟨b,off,r1,Jd,r2,Gx,rfl,hc,cv,ck⟩:=Cm hO.prog (sv (ps:=bs.map dQ) (i:=0) so)
 have e0:eC (bs.map dQ) 0=dQ (bR bs 0):=by simp[gE (show 0<bs.length by omega)]
 rw[e0] at hc cv ck
 refine W ?_
 refine D8 [38,39,40,41,42,43,44,45,46,47,48,49,50,51,2,3] [(2,.slice (some ⟨b,off,none⟩) (bs.map dQ).length cc),(3,.bool (decide ((bR bs 0).aM=[109,97,105,110])&&decide (((dQ (bR bs 0)).regs.length:Int)=0)))] ?_ ?_
 rcases bE (decide ((bR bs 0).aM=[109,97,105,110])) with iD|iD
 apply k8 dj 16 (rA 38 14++[2,3]) (rA 38 14++[2,3]) [[],[],[1],[2],[3],[4],[5],[6],[6,7],[6,8],[6,9],[6,10],[6,11],[6,12],[0],[13]] [It.v _,It.v _,It.v _,It.v _,It.v _,It.v _,It.v (.bool true),It.v _,It.v _,It.v _,It.v _,It.v _,It.v _,It.v _,It.v _,It.v _] de rfl
 intro wd aC
 refine VA ?_
 refine vk aC (λx w2 az=>?_) ?_
 refine zi (i:=0) wk jf rfl rfl so ?_
 exact pv
 refine VA ?_
 refine vc (λx w2 az=>?_) ?_
 refine zm ?_
 exact pv (by exact congrArg Value.bool iD)
 refine VA ?_
 refine vk aC (λx w2 az=>?_) ?_
 refine zi (i:=0) wk jf rfl rfl so ?_
 exact pv
 exact VZ
 intro x o3 gR
 change OW _ _ _ _ [] (bo (bj _ x _) (zZ 38 [_,_,_,_,_,_,_,_,_,_,_,_,_,_]++[(2,_),(3,_)])) _
 refine W ?_
 exact kE gR
 apply k8 dj 16 (rA 38 14++[2,3]) (rA 38 14++[2,3]) [[],[],[1],[2],[3],[4],[5],[6],[6,7],[6,8],[6,9],[6,10],[6,11],[6,12],[0],[13]] [It.v _,It.v _,It.v _,It.v _,It.v _,It.v _,It.v (.bool false),It.v _,It.v _,It.v _,It.v _,It.v _,It.v _,It.v _,It.v _,It.v _] de rfl
 intro wd aC
 refine VA ?_
 refine vk aC (λx w2 az=>?_) ?_
 refine zi (i:=0) wk jf rfl rfl so ?_
 exact pv
 refine VA ?_
 refine vc (λx w2 az=>?_) ?_
 refine zm ?_
 exact pv (by exact congrArg Value.bool iD)
 exact VZ
 intro x o3 gR
 change OW _ _ _ _ [] (bo (bj _ x _) (zZ 38 [_,_,_,_,_,_,_,_,_,_,_,_,_,_]++[(2,_),(3,_)])) _
 refine W ?_
 exact kE gR
 intro x o3 gR
 refine bI gR hK hO λhK hO=>?_
 refine jZ<|⟨_,rfl,⟨bs.map dQ,_,?_,hO.prog.gP (λx hx=>by simp[hx]),λ_=>rfl⟩,hK⟩
 rw[hq,dT Tp.1,dT Tp.2,show decide (((dQ (bR bs 0)).regs.length:Int)=0)=decide ((bR bs 0).bY.length=0) from decide_eq_decide.2 (by have:(dQ (bR bs 0)).regs.length=(bR bs 0).bY.length:=List.length_map _;omega)]
 rfl
def tU (t:aq):Option ai:=if cw t=[108,97,98]∨cw t=[122,101,114,111] then some (nth t.ak 2).aw else none
def addN (out:List ai) (t:aq):List ai:=match tU t with
 |some s=>if s∈out then out else out++[s]
 |none=>out
theorem afl (out:List ai) (t:aq):(addN out t).length<=out.length+1:=by
 unfold addN;split
 ·split<;>simp
 ·omega
theorem MQ:∀(ts:List aq) (out:List ai),(ts.foldl addN out).length<=out.length+ts.length
 |[],out=>by simp
 |t::ts,out=>by
  have h1:=MQ ts (addN out t)
  have h2:=afl out t
  simp only[List.foldl_cons,lC];omega
theorem Tq {α β:Type} (f:β->α->β) (a:β) {l:List α} {x:α} (h:l[k]?=some x):(l.take (k+1)).foldl f a=f ((l.take k).foldl f a) x:=by
 rw[List.take_add_one,h,List.foldl_append];rfl
def Gy (out:List ai) (b:dy):List ai:=b.code.foldl addN out
def rh (ps:List dy):List ai:=ps.foldl Gy []
def jl (ps:List dy):Nat:=(ps.map λb=>b.code.length).sum
theorem Gz (hk:k<ps.length):jl (ps.take (k+1))=jl (ps.take k)+(eC ps k).code.length:=by
 unfold jl
 rw[List.take_add_one,sv hk,List.map_append,List.sum_append];simp
theorem Tr:∀ps:List dy,(rh ps).length<=jl ps:=by
 have key:∀(ps:List dy) (out:List ai),(ps.foldl Gy out).length<=out.length+jl ps:=by
  intro ps
  induction ps with
  |nil=>intro out;simp[jl]
  |cons b ps ih=>
   intro out
   have h1:=ih (Gy out b)
   have h2:=MQ b.code out
   simp only[List.foldl_cons,jl,List.map_cons,List.sum_cons] at h1⊢
   unfold Gy at h1⊢
   omega
 intro ps;have:=key ps [];unfold rh;simpa using this
theorem Je (ps:List dy) (k:Nat):jl (ps.take k)<=jl ps:=by
 have h:jl ps=jl (ps.take k)+jl (ps.drop k):=by
  unfold jl
  rw[<-List.sum_append,<-List.map_append,List.take_append_drop]
 omega
theorem Tt (bs:List Bk):jl (bs.map dQ)=lines bs:=by
 unfold jl lines
 rw[List.map_map];congr 1
 exact List.map_congr_left λb _=>List.length_map _
def AO (ms:List Bool):Nat:=(ms.filter λb=>!b).length
theorem Tu:∀{ms:List Bool} {k:Nat},ms[k]?=some false->AO (ms.set k true)+1=AO ms
 |b::ms,0,h=>by
  have hb:b=false:=by simpa using h
  subst hb;simp[AO]
 |b::ms,k+1,h=>by
  have ih:=Tu (ms:=ms) (k:=k) (by simpa using h)
  unfold AO at ih⊢
  cases b<;>simp[List.filter_cons] at ih⊢<;>omega
theorem afm (n:Nat):AO (List.replicate n false)=n:=by simp[AO,List.filter_replicate]
theorem afn (ps:List dy) (l:ai): -1<=uS ps l∧uS ps l<ps.length∨ps.length=0∧uS ps l= -1:=by
 unfold uS
 cases h:ps.findIdx? (λb=>decide (b.aM=l)) with
 |none=>
  rcases Nat.eq_zero_or_pos ps.length with h0|h0
  ·exact .inr ⟨h0,rfl⟩
  ·exact .inl ⟨by show(-1:Int)<= -1;omega,by show(-1:Int)<_;omega⟩
 |some i=>
  have:=(List.findIdx?_eq_some_iff_getElem.1 h).1
  exact .inl ⟨by show(-1:Int)<=(i:Int);omega,by show(i:Int)<_;omega⟩
theorem afo (h:nS t=true) (hn:cw t=[108,97,98]∨cw t=[122,101,114,111]):2<t.ak.length:=by
 obtain⟨h1,h2,_⟩:=adD h
 rcases hn with e|e<;>rw[e] at h1 h2<;>simp[gi] at h1 h2⊢<;>omega
def mD (p:dy):Bk:=⟨p.aM,p.regs.map aq.text,p.code.map aq.text⟩
def jG (ms:List Bool) (ps:List dy):Nat->List Bk
 |0=>[]
 |k+1=>jG ms ps k++if ms.getD k false=true then[mD (eC ps k)] else[]
theorem MR (ms:List Bool) (ps:List dy):∀k,(jG ms ps k).length<=k
 |0=>by simp[jG]
 |k+1=>by
  have:=MR ms ps k
  rw[jG,lA];split<;>simp<;>omega
theorem Tv {ms:List Bool}:∀{k:Nat} {b:Bk},b∈jG ms ps k->∃i,i<k∧b=mD (eC ps i)
 |0,b,h=>by simp[jG] at h
 |k+1,b,h=>by
  rw[jG,mA] at h
  rcases h with h|h
  ·obtain⟨i,hi,e⟩:=Tv h;exact⟨i,om,e⟩
  ·split at h
   ·exact⟨k,om,by simpa using h⟩
   ·cases h
theorem afp (a b:List Bk):lines (a++b)=lines a+lines b:=by unfold lines;rw[List.map_append,List.sum_append]
theorem Tw (ms:List Bool) (ps:List dy):∀k,k<=ps.length->lines (jG ms ps k)<=jl (ps.take k)
 |0,_=>by simp[jG,lines]
 |k+1,h=>by
  have ih:=Tw ms ps k om
  rw[jG,afp,Gz om]
  split
  ·simp[lines,mD] at ih⊢;omega
  ·simp[lines] at ih⊢;omega
def sK (bs:List Bk):Int:=if ni bs then(lines bs:Int) else -1
theorem afq (bs:List Bk):sK bs<=(lines bs:Int):=by unfold sK;split<;>omega
theorem afr (t:aq) (cm:WF t) (hn:(cw t=[108,97,98]∨cw t=[122,101,114,111])->2<t.ak.length) (v:Value) (L:List Nat) (w:World) (hv:bB L w v t):
  bz Tryz.prog 40 [v] w λr w'=>r= .tuple #[str ((tU t).getD []),.bool (tU t).isSome]∧aj [] w w':=by
 have cO:=hv
 obtain⟨a,n,c,rfl,wR,aP⟩:=cU hv
 subst wR
 have hK:=aj.refl [] w
 refine bS [.tmp 2,.tmp 3] 17 Tryz.func40 rfl aau rfl rfl ?_
 refine zr<|eH rfl λw1 aI aX dk=>cN aI hK cO aP λhK cO aP=>?_
 refine W ?_
 refine aA (Cj t cm _ _ w1 cO) ?_
 rintro _ w2 ⟨rfl,az⟩
 have dm:=az.size
 refine ie az hK cO aP aX λhK cO aP aX=>?_
 refine WZ ?_
 apply oO 4 7 11 (aj [] w2) rfl oQ
 intro _
 refine W ?_
 refine aA (Cj t cm _ _ w2 cO) ?_
 rintro _ w3 ⟨rfl,aH⟩
 have fm:=aH.size
 exact oQ
 intro xx w4 aO
 refine cN aO hK aP aX λhK aP aX=>?_
 refine aZ<|zc rfl (λh2=>?_) (λh2=>?_)
 have hh:cw t=[108,97,98]∨cw t=[122,101,114,111]:=by simpa using h2
 have hl:=hn hh
 have ey:=iJ aP (gh (ps:=t.ak) (i:=2) hl)
 obtain⟨b2,lF,pa,pn,pc,rfl,bU,eP,fM⟩:=ey
 refine WI ?_
 refine zi (i:=2) sk fg rfl rfl hl<|W ?_
 exact⟨_,rfl,by unfold tU;rw[iP hh];rfl,hK⟩
 have hh:¬(cw t=[108,97,98]∨cw t=[122,101,114,111]):=by simpa using h2
 refine W ?_
 exact⟨_,rfl,by unfold tU;rw[iN hh];rfl,hK⟩
theorem afs (xs:List ai) (hl:xs.length<1000000000) (s:ai) (v:Value) (L:List Nat) (w:World) (hv:bc L w v xs):
  bz Tryz.prog 67 [v,str s] w λr w'=>(∃z:Int,r= .int .i64 z∧decide (z≥0)=decide (s∈xs))∧w=w':=by
 obtain⟨a,n,c,rfl,hn⟩:=dJ hv
 subst hn
 refine bS [.tmp 4] 19 Tryz.func67 rfl aaV rfl rfl ?_
 refine W ?_
 refine eA (λk:Nat=>[(0,.slice a xs.length c),(1,str s),(7,.int .i64 (xs.length:Int)),(8,.int .i64 (k:Int))]) (λk w'=>w'=w∧k<=xs.length∧∀i,i<k->bX xs i≠s) (λk=>xs.length-k) (0) (⟨rfl,rfl,rfl,rfl⟩) (⟨rfl,om,by intro i hi;omega⟩) λgg w1 e1 hI=>?_
 obtain⟨rfl,hk,cL⟩:=hI
 refine W ?_
 refine zc rfl (λh1=>?_) (λh1=>?_)
 have hg:=km (xs:=xs) (i:=gg) om
 have aQ:=pB hv hg
 obtain⟨b,off,rfl,hc⟩:=aQ
 refine W ?_
 refine zc rfl (λh2=>?_) (λh2=>?_)
 have he:s=bX xs gg:=by simpa using h2
 refine W ?_
 exact⟨_,rfl,⟨(gg:Int),rfl,by rw[dT (p:=s∈xs) (by rw[he];exact List.mem_of_getElem? hg),dT om]⟩,rfl⟩
 have he:¬s=bX xs gg:=by simpa using h2
 refine W ?_
 exact⟨gg+1,⟨rfl,rfl,rfl,rfl⟩,⟨rfl,om,by intro i hi;rcases Nat.lt_or_ge i gg with h|h;exact cL i h;rw[show i=gg by omega];exact λe=>he e.symm⟩,om⟩
 have wG:¬s∈xs:=λhm=>by obtain⟨i,hi,e⟩:=List.getElem_of_mem hm;exact cL i om (by rw[<-e];simp[bX,gE hi])
 refine W ?_
 exact⟨_,rfl,⟨-1,rfl,by rw[dF wG];decide⟩,rfl⟩
theorem aft (xs:List ai) (hl:xs.length<1000000000) (s:ai) (v:Value) (L:List Nat) (w:World) (hv:bc L w v xs):
  bz Tryz.prog 41 [v,str s] w λr w'=>r= .bool (decide (s∈xs))∧w=w':=by
 refine bS [.tmp 4] 9 Tryz.func41 rfl aav rfl rfl ?_
 refine W ?_
 refine aA (afs xs hl s _ L _ hv) ?_
 rintro _ _ ⟨⟨z,rfl,hz⟩,rfl⟩
 refine W ?_
 exact⟨_,rfl,congrArg Value.bool hz,rfl⟩
def og (ps:List dy) (i j:Nat):List ai:=((eC ps i).code.take j).foldl addN (rh (ps.take i))
theorem afu (hi:i<ps.length) (hj:j<=(eC ps i).code.length):(og ps i j).length<=jl ps:=by
 have h1:=MQ ((eC ps i).code.take j) (rh (ps.take i))
 have h2:=Tr (ps.take i)
 have h3:=Gz hi
 have h4:=Je ps (i+1)
 rw[List.length_take] at h1
 unfold og
 omega
theorem afv (hi:i<ps.length):og ps i (eC ps i).code.length=rh (ps.take (i+1)):=by
 unfold og
 rw[List.take_length]
 unfold rh
 rw[Tq Gy [] (sv hi)];rfl
theorem afw (hj:j<(eC ps i).code.length):og ps i (j+1)=addN (og ps i j) (nth (eC ps i).code j):=by
 unfold og
 exact Tq addN _ (gh hj)
def MS (ps:List dy):Prop:=∀b,b∈ps->∀t,t∈b.code->WF t∧((cw t=[108,97,98]∨cw t=[122,101,114,111])->2<t.ak.length)
theorem afx (ps:List dy) (aP:ps.length<=1000) (I8:jl ps<=1000000) (ba:MS ps) (v:Value) (L:List Nat) (w:World) (hv:nG L w v ps) (hL:∀x,x∈L->x<w.heap.size):
  bz Tryz.prog 22 [v] w λr w'=>bc L w' r (rh ps)∧aj [] w w':=by
 obtain⟨a,c,rfl⟩:=Eh hv
 have hK:=aj.refl [] w
 refine bS [.tmp 2] 42 Tryz.func22 rfl aaa rfl rfl ?_
 refine W ?_
 refine eA (λq:Nat×Option Addr×Nat×Option Nat=>[(3,.slice q.2.1 (rh (ps.take q.1)).length q.2.2.1),(10,.slice a ps.length c),(11,.int .i64 (ps.length:Int)),(12,.int .i64 (q.1:Int))]) (λq w'=>aj [] w w'∧Gr w.heap.size L w' 9 1 (.slice q.2.1 (rh (ps.take q.1)).length q.2.2.1) q.2.2.2 (ga (rh (ps.take q.1)))∧q.1<=ps.length) (λq=>ps.length-q.1) ((0,none,0,none)) (⟨rfl,rfl,rfl,rfl⟩) (⟨hK,Gr.nil hL (lR _),sm⟩) λgg w1 e1 hI=>?_
 obtain⟨i,a3,cc,g⟩:=gg
 dsimp only at hI⊢
 obtain⟨hK,hO,hk⟩:=hI
 have fC:=hK.size
 refine W ?_
 refine zc rfl (λh1=>?_) (λh1=>?_)
 have hi:i<ps.length:=by omega
 have hp:=sv (ps:=ps) hi
 have aQ:=Cm hv hp
 obtain⟨b,off,r1,Jd,r2,Gx,rfl,hc,mB,pL⟩:=aQ
 have Co:=List.mem_of_getElem? hp
 have lW:(eC ps i).code.length<=1000000:=by have h3:=Gz hi;have h4:=Je ps (i+1);omega
 refine WI ?_
 refine zi wk jf rfl rfl hi<|zL zG jf rfl (hc.ext hK) rfl<|dx jf rfl rfl rfl λw2 az cg dC=>?_
 have hK:=hK.grow;have hK:=hK.ext az;have hO:=hO.alloc az dC
 refine cJ jf rfl rfl rfl cg rfl λw3 aH cg gJ=>?_
 have hK:=hK.aD aH sx;have hO:=hO.aD aH sx
 refine W ?_
 refine eA (λq:Nat×Option Addr×Nat×Option Nat=>[(3,.slice q.2.1 (og ps i q.1).length q.2.2.1),(10,.slice (some ⟨b,off,none⟩) ps.length c),(11,.int .i64 (ps.length:Int)),(12,.int .i64 (i:Int)),(17,.slice r2 (eC ps i).code.length Gx),(18,.int .i64 ((eC ps i).code.length:Int)),(19,.int .i64 (q.1:Int))]) (λq w'=>aj [] w w'∧Gr w.heap.size L w' 9 1 (.slice q.2.1 (og ps i q.1).length q.2.2.1) q.2.2.2 (ga (og ps i q.1))∧q.1<=(eC ps i).code.length) (λq=>(eC ps i).code.length-q.1) ((0,a3,cc,g)) (⟨rfl,rfl,rfl,rfl,rfl,rfl,rfl⟩) (⟨hK,hO.gP (λx hx=>by simp[hx]),sm⟩) λgg w4 e4 hI=>?_
 obtain⟨j,a4,fP,g4⟩:=gg
 dsimp only at hI⊢
 obtain⟨hK,hO,hj⟩:=hI
 have fC:=hK.size
 refine W ?_
 refine zc rfl (λh2=>?_) (λh2=>?_)
 have oz:j<(eC ps i).code.length:=by omega
 have ey:=gh (ps:=(eC ps i).code) oz
 have aQ:=iJ pL ey
 obtain⟨b1,eX,pa,pn,pc,rfl,jk,eP,fM⟩:=aQ
 have qo:=ba _ Co _ (List.mem_of_getElem? ey)
 have Cp:=afu hi hj
 have Tx:=afw oz
 refine WI ?_
 refine zi sk fg rfl rfl oz<|zL tF fg rfl (jk.ext hK) rfl<|dx fg rfl rfl rfl λw5 aN cM ig=>?_
 have hK:=hK.grow;have hK:=hK.ext aN;have hO:=hO.alloc aN ig
 refine cJ fg rfl rfl rfl cM rfl λw6 bN cM kI=>?_
 have hK:=hK.aD bN sx;have hO:=hO.aD bN sx
 refine W ?_
 refine aA (afr (nth (eC ps i).code j) qo.1 qo.2 _ L w6 ((kV fM).ext hK)) ?_
 rintro _ w7 ⟨rfl,bW⟩
 have lf:=bW.size
 refine bI bW hK hO λhK hO=>?_
 refine W ?_
 apply oB 5 29 34 rfl oQ
 intro h3
 refine zm<|zm<|aA (aft (og ps i j) om _ _ _ _ hO.done) ?_
 rintro _ _ ⟨rfl,rfl⟩
 exact oQ
 intro xx
 refine aZ<|zc rfl (λh4=>?_) (λh4=>?_)
 have tV:(tU (nth (eC ps i).code j)).isSome=true∧¬(tU (nth (eC ps i).code j)).getD []∈og ps i j:=by simpa using h4
 have hs:og ps i j++[(tU (nth (eC ps i).code j)).getD []]=og ps i (j+1):=by rw[Tx];unfold addN;revert tV;cases tU (nth (eC ps i).code j) with|none=>intro h;cases h.1|some s=>intro h;exact(iN h.2).symm
 refine kH<|zm<|zm<|fc bh bf rfl rfl λw8 cE Ei ld=>bI cE hK hO λhK hO=>?_
 refine Rv bh bf rfl rfl rfl rfl rfl rfl hO Ei om λa5 Jc g5 w9 iY aB=>?_
 have hK:=hO.since hK aB
 rw[hs] at iY⊢
 refine W ?_
 exact⟨(j+1,a5,Jc,g5),⟨rfl,rfl,rfl,rfl,rfl,rfl,rfl⟩,⟨hK,iY.gP (λx hx=>by simp[hx]),by dsimp only;omega⟩,by dsimp only;omega⟩
 have hs:og ps i (j+1)=og ps i j:=by rw[Tx];unfold addN;have tV:¬((tU (nth (eC ps i).code j)).isSome=true∧¬(tU (nth (eC ps i).code j)).getD []∈og ps i j):=(by simpa using h4);revert tV;cases tU (nth (eC ps i).code j) with|none=>intro _;rfl|some s=>intro h;exact iP (Classical.byContradiction λhh=>h ⟨rfl,hh⟩)
 refine W ?_
 refine⟨(j+1,a4,fP,g4),⟨congrArg (λn=>Value.slice a4 n fP) (congrArg List.length hs.symm),rfl,rfl,rfl,rfl,rfl,rfl⟩,⟨hK,?_,by dsimp only;omega⟩,by dsimp only;omega⟩
 (show Gr _ _ _ _ _ (.slice a4 (og ps i (j+1)).length fP) _ (ga (og ps i (j+1))))
 rw[hs]
 exact hO.gP (λx hx=>by simp[hx])
 have oz:j=(eC ps i).code.length:=by omega
 subst oz
 rw[afv hi] at hO⊢
 refine W ?_
 exact⟨(i+1,a4,fP,g4),⟨rfl,rfl,rfl,rfl⟩,⟨hK,hO.gP (λx hx=>by simp[hx]),by dsimp only;omega⟩,by dsimp only;omega⟩
 have wS:ps.take i=ps:=List.take_of_length_le om
 rw[wS] at hO⊢
 refine W ?_
 exact⟨_,rfl,hO.done,hK⟩
/-! ### Rows of zero values -/
theorem Tz (z:Array Value):∀n:Nat,(madeCells z (n*z.size)).toList=(List.replicate n z.toList).flatten
 |0=>by simp[madeCells]
 |n+1=>by
  have ih:=Tz z n
  have e:(madeCells z (n*z.size)).toList=(List.range (n*z.size)).map λi=>z[i%z.size]!:=by simp[madeCells]
  have e2:(madeCells z ((n+1)*z.size)).toList=(List.range ((n+1)*z.size)).map λi=>z[i%z.size]!:=by simp[madeCells]
  rw[e2,Nat.add_mul,Nat.one_mul,Nat.add_comm,List.range_add,List.map_append,List.replicate_succ,List.flatten_cons,<-ih,e]
  congr 1
  ·refine List.ext_getElem sm λi h1 h2=>?_
   have hi:i<z.size:=by simpa using h1
   simp[Nat.mod_eq_of_lt hi,hi]
  ·rw[List.map_map]
   refine List.map_congr_left λi _=>?_
   simp
section
variable {P:Program} {n:Nat} {ops:Array Oper} {K:Env->World->Prop} {rest:List Oper} {e:Env} {w:World}
 {dst:Option Nat} {ty:TypeId} {pos:String} {after:Array Edge} {g:Option (Nat×Bool)} {x y:Operand}
/-! ### Elements that are stored -/
def setAt (cs:Array Value) (k:Nat):List Value->Array Value
 |[]=>cs
 |v::vs=>setAt (cs.setIfInBounds k v) (k+1) vs
theorem MT:∀(vs:List Value) (cs:Array Value) (k:Nat),(setAt cs k vs).size=cs.size:=by intro x;induction x<;>grind [setAt]
theorem Jf:∀(vs:List Value) (cs:Array Value) (k:Nat),k+vs.length<=cs.size->(setAt cs k vs).toList=cs.toList.take k++(vs++cs.toList.drop (k+vs.length))
 |[],cs,k,_=>by simp[setAt]
 |v::vs,cs,k,h=>by
  unfold setAt
  simp only[lC] at h
  rw[Jf vs _ _ so,Array.toList_setIfInBounds]
  have hk:k<cs.toList.length:=by simp;omega
  rw[List.take_add_one,List.getElem?_set_self hk,List.take_set_of_le (lR k)]
  rw[List.drop_set_of_lt om]
  simp only[Option.toList_some,List.append_assoc,List.cons_append,List.nil_append,lC]
  rw[show k+1+vs.length=k+(vs.length+1) from by omega]
theorem MU:∀(vs:List Value) (i:Nat) (w:World) (b o:Nat) (U:TypeId) (cs:Array Value),aJ w b cs U->o+i+vs.length<=cs.size->(∀u∈vs,u.oneCell'=true)->
  ∃w',(storeCells ⟨b,o,none⟩ vs i).run P w= .ok () w'∧aj [b] w w'∧aJ w' b (setAt cs (o+i) vs) U∧w'.heap.size=w.heap.size
 |[],i,w,b,o,U,cs,hb,_,_=>⟨w,rfl,aj.refl _ _,hb,rfl⟩
 |v::vs,i,w,b,o,U,cs,hb,hs,h1=>by
  simp only[lC] at hs
  have mj:o+i<cs.size:=by omega
  have aR:(store ((⟨b,o,none⟩:Addr).add i) v).run P w= .ok () (w.setCell ⟨b,o+i,none⟩ v):=by
   rw[qL,run_store P w _ v _ (h1 v sm),hb.cell,Array.getElem?_eq_getElem mj,hb.frozen]
   simp
  obtain⟨w',hr,hk,gN,hz⟩:=MU vs (i+1) (w.setCell ⟨b,o+i,none⟩ v) b o U (cs.setIfInBounds (o+i) v) (hb.set (o+i) v) so (λu hu=>h1 u (by simp[hu]))
  refine⟨w',?_,(aj.setCell w b (o+i) v).trans hk,gN,by rw[hz];simp[World.setCell]⟩
  simp only[storeCells,Sem.run_bind,aR,Result.andThen_ok]
  exact hr
theorem TH {α:Type}:∀{rows:List (List α)} {i:Nat} {row:List α},(∀r,r∈rows->r.length=sz)->i<rows.length->row.length=sz->(rows.set i row).flatten=rows.flatten.take (i*sz)++(row++rows.flatten.drop (i*sz+sz))
 |r::rows,0,row,h,_,hr=>by
  have h0:r.length=sz:=h r sm
  simp[<-h0]
 |r::rows,i+1,row,h,hi,hr=>by
  have h0:r.length=sz:=h r sm
  have ih:=TH (rows:=rows) (i:=i) (row:=row) (λr hr=>h r (by simp[hr])) (by simpa using hi) hr
  rw[List.set_cons_succ,List.flatten_cons,List.flatten_cons,ih]
  have e1:(i+1)*sz=r.length+i*sz:=by rw[h0,Nat.add_mul];omega
  have e2:(i+1)*sz+sz=r.length+(i*sz+sz):=by omega
  rw[e2,e1,List.take_length_add_append,List.drop_length_add_append,List.append_assoc]
theorem cS.take {w:World}:∀{k:Nat} {vs:List Value} {cs:List C},cS L w vs cs->cS L w (vs.take k) (cs.take k)
 |0,_,_,_=>by simp[cS]
 |_+1,[],[],_=>trivial
 |_+1,_::_,_::_,h=>⟨h.1,cS.take h.2⟩
theorem cS.drop {w:World}:∀{k:Nat} {vs:List Value} {cs:List C},cS L w vs cs->cS L w (vs.drop k) (cs.drop k)
 |0,_,_,h=>h
 |_+1,[],[],_=>trivial
 |k+1,_::_,_::_,h=>cS.drop (k:=k) h.2
theorem afy {T:Nat} {v:Value} {vs:List Value} {row:List C} {B:Nat} {L:List Nat} {E gb:Nat} {N c:Nat} {rows:List (List C)} {b o i:Nat} (jN:TI P T sz bytes z) (hg:gate ops e g=true) 
  (hx:ev e x= .pointer (some ⟨b,o,none⟩)) (hy:ev e y=v) (hv:v.cells=vs.toArray) (ho:o=i*sz) (hO:Gr B L w E sz (.slice (some ⟨b,0,none⟩) N c) (some gb) rows) (hi:i<rows.length) (h1:vs.all Value.oneCell'=true)
  (ob:row.length=sz) (hr:cS (gb::L) w vs row)
  (k:∀w',aj [gb] w w'->w'.heap.size=w.heap.size->Gr B L w' E sz (.slice (some ⟨b,0,none⟩) N c) (some gb) (rows.set i row)->OW P n ops K rest e w'):
  OW P n ops K (⟨none,.store T x y,ty,pos,after,g⟩::rest) e w:=by
 subst ho
 obtain⟨xs,⟨⟨mm,h|⟨b',cap,cur,oh,MV,hb,ml,lU,bZ,ht⟩⟩,gB,gZ,vu⟩⟩:=hO.own
 ·obtain⟨h,_⟩:=h;cases h
 ·cases MV;cases oh
  have fQ:vs.length=sz:=by rw[hr.length,ob]
  have hle:(i+1)*sz<=rows.length*sz:=Nat.mul_le_mul_right _ hi
  have TJ:rows.length*sz<=c*sz:=Nat.mul_le_mul_right _ ml
  rw[Nat.add_mul,Nat.one_mul] at hle
  obtain⟨w',jM,hk,gN,hz⟩:=MU (P:=P) vs 0 w gb (i*sz) E cur hb (by rw[bZ,fQ];omega) (λu hu=>List.all_eq_true.1 h1 u hu)
  rw[Nat.add_zero] at gN
  refine H7 hg (w':=w') (by
   simp[execOp,Instr.storeAt,Instr.sureAddr,hx,hy,storeVar,hv,jN.rD,fQ,jM]) (k w' hk hz ⟨⟨xs.take (i*sz)++(vs++xs.drop (i*sz+sz)),⟨⟨?_,.inr ⟨gb,c,_,rfl,sm,gN,by simpa using ml,lU,by rw[MT];exact bZ,?_⟩⟩,?_,?_,vu⟩⟩,hO.low,λx hx=>by rw[hz];exact hO.cC x hx,by rw[hz];exact hO.bsz⟩)
  ·rw[lA,lA,List.length_take,List.length_drop,List.length_set,mm,fQ];omega
  ·rw[Jf _ _ _ (by rw[bZ,fQ];omega),List.length_set,<-ht,fQ,List.take_append,List.take_append]
   simp only[List.length_take,Array.length_toList,bZ,fQ,List.take_take,List.drop_take]
   rw[Nat.min_eq_right (show i*sz<=rows.length*sz by omega),Nat.min_eq_left (show i*sz<=rows.length*sz by omega),Nat.min_eq_left (show i*sz<=c*sz by omega),List.take_of_length_le (l:=vs) om]
   rw[show rows.length*sz-i*sz-sz=rows.length*sz-(i*sz+sz) from by omega]
  ·rw[TH gZ hi ob]
   refine cS.append (cS.aF gB.take (hk.mono sm)) (cS.append (hr.aF (hk.mono sm)) (cS.aF gB.drop (hk.mono sm)))
  ·intro r rE
   rcases List.mem_or_eq_of_mem_set rE with h|h
   ·exact gZ r h
   ·rw[h];exact ob
/-! ### Slices that are built of several ak -/
theorem TK (off:Nat):∀(us:List Value) (i:Nat) (cs:Array Value),((us.zipIdx i).foldl (fun(cs:Array Value) (p:Value×Nat)=>cs.setIfInBounds (off+p.2) p.1) cs)=setAt cs (off+i) us
 |[],_,_=>rfl
 |u::us,i,cs=>by rw[List.zipIdx_cons,List.foldl_cons,TK off us];rfl
theorem TL:∀(us:List Value) (vss:List (List Value)) (k:Nat) (cs:Array Value),us.map Value.cells=vss.map List.toArray->(∀vs,vs∈vss->vs.length=sz)->cs.size=(k+us.length)*sz->
  ∃cs',Instr.fill (λi=>some (i*sz,sz)) cs ((us.zipIdx k).map λp=>(p.2,p.1))=some cs'∧cs'.toList=cs.toList.take (k*sz)++vss.flatten
 |[],[],k,cs,_,_,hs=>⟨cs,rfl,by simp only[List.length_nil,Nat.add_zero] at hs;simp only[List.flatten_nil,List.append_nil];rw[List.take_of_length_le (by simp[hs])]⟩
 |[],_::_,_,_,h,_,_=>by simp at h
 |_::_,[],_,_,h,_,_=>by simp at h
 |u::us,vs::vss,k,cs,h,hl,hs=>by
  simp only[List.map_cons,List.cons.injEq] at h
  have fQ:vs.length=sz:=hl vs sm
  simp only[lC] at hs
  have e:(k+(us.length+1))*sz=k*sz+sz+us.length*sz:=by rw[Nat.add_mul,Nat.add_mul,Nat.one_mul];omega
  rw[List.zipIdx_cons,List.map_cons]
  obtain⟨cs',h1,h2⟩:=TL us vss (k+1) (setAt cs (k*sz) vs) h.2 (λv hv=>hl v (by simp[hv])) (by rw[MT,hs];congr 1;omega)
  refine⟨cs',?_,?_⟩
  ·unfold Instr.fill
   simp only[h.1]
   rw[iN (by simp[fQ];omega)]
   have h3:=TK (k*sz) vs 0 cs
   simp only[Nat.add_zero] at h3
   have h4:Array.foldl (fun(cs:Array Value) (p:Value×Nat)=>cs.setIfInBounds (k*sz+p.2) p.1) cs vs.toArray.zipIdx=setAt cs (k*sz) vs:=by rw[<-h3];simp
   rw[h4];exact h1
  ·have e2:(k+1)*sz=k*sz+sz:=by rw[Nat.add_mul,Nat.one_mul]
   have FC:min (k*sz) cs.size=k*sz:=Nat.min_eq_left om
   rw[h2,Jf _ _ _ (by rw[fQ];omega),e2,List.flatten_cons,List.take_append,List.take_append]
   simp only[List.length_take,Array.length_toList,FC,fQ,List.take_take]
   rw[Nat.min_eq_right (show k*sz<=k*sz+sz by omega),show k*sz+sz-k*sz=sz from by omega,List.take_of_length_le (l:=vs) om,Nat.sub_self,List.take_zero,List.append_nil,List.append_assoc]
theorem afz {T:TypeId} {us:List Value} {vss:List (List Value)} (hT:P.underlying T=some (.slice E)) (hE:TI P E sz bytes z) (nQ:0<sz) (wR:0<us.length) (cV:us.length*sz<=16777216) 
  (hv:us.map Value.cells=vss.map List.toArray) (hl:∀vs,vs∈vss->vs.length=sz):(Instr.buildSlice T us.length ((us.zipIdx 0).map λp=>(p.2,p.1)).toArray).run P w= .ok (.slice (some ⟨w.heap.size,0,none⟩) us.length us.length) (w.alloc (.cells vss.flatten.toArray E)):=by
 have h0:¬us.length*sz=0:=by
  have:0<us.length*sz:=Nat.mul_pos wR nQ
  omega
 have hb:¬(16777216<us.length*sz):=by omega
 obtain⟨cs',hf,bZ⟩:=TL us vss 0 ((Array.range (us.length*sz)).map (z.cells[·%z.cells.size]!)) hv hl sm
 have he:cs'=vss.flatten.toArray:=by apply Array.ext';simpa using bZ
 subst he
 simp[Instr.buildSlice,Sem.run_bind,run_underlying hT,Result.andThen_ok,hE.rD,hb,h0,hE.KY,hf,newRow]
theorem sL {m:Nat} {T:TypeId} {ak:Array (Nat×Operand)} (qs:List Operand) (vss:List (List Value)) (hT:P.underlying T=some (.slice E)) (hE:TI P E sz bytes z) (hg:gate ops e g=true) (hd:bV n dst=true) 
  (hp:ak=((qs.zipIdx 0).map λp=>(p.2,p.1)).toArray) (hm:m=qs.length) (nQ:Nat.blt 0 sz=true) (wR:Nat.blt 0 qs.length=true) (cV:Nat.ble (qs.length*sz) 16777216=true)
  (hv:qs.map (λq=>(ev e q).cells)=vss.map List.toArray) (hl:vss.all (λvs=>Nat.beq vs.length sz)=true)
  (k:∀w',aj [] w w'->aJ w' w.heap.size vss.flatten.toArray E->w'.heap.size=w.heap.size+1->OW P n ops K rest (bM e dst (.slice (some ⟨w.heap.size,0,none⟩) m m)) w'):
  OW P n ops K (⟨dst,.buildSlice T m ak,ty,pos,after,g⟩::rest) e w:=by
 subst hp hm
 have TO:(qs.map (ev e)).length=qs.length:=by simp
 have hr:=afz (P:=P) (w:=w) (us:=qs.map (ev e)) (vss:=vss) hT hE (by simpa[Nat.blt_eq] using nQ) (by simpa[Nat.blt_eq] using wR) (by rw[TO];exact Nat.le_of_ble_eq_true cV) (by rw[List.map_map];exact hv) (λvs h=>Nat.eq_of_beq_eq_true (List.all_eq_true.1 hl vs h))
 rw[TO] at hr
 have afA:((qs.zipIdx 0).map λp=>(p.2,p.1)).toArray.map (fun(p:Nat×Operand)=>(p.1,ev e p.2))=(((qs.map (ev e)).zipIdx 0).map λp=>(p.2,p.1)).toArray:=by
  rw[List.map_toArray,List.map_map]
  congr 1
  have:∀(qs:List Operand) (i:Nat),(qs.zipIdx i).map ((fun(p:Nat×Operand)=>(p.1,ev e p.2))∘λp=>(p.2,p.1))=((qs.map (ev e)).zipIdx i).map λp=>(p.2,p.1):=by
   intro qs
   induction qs with
   |nil=>intro i;rfl
   |cons q qs ih=>intro i;simp only[List.zipIdx_cons,List.map_cons,List.map,ih];rfl
  exact this qs 0
 exact eQ hg hd (w':=w.alloc (.cells vss.flatten.toArray E)) (by
  have rH:(Array.map (λx=>(x.fst,ev e x.snd)) ((qs.zipIdx 0).map λp=>(p.2,p.1)).toArray)=(((qs.map (ev e)).zipIdx 0).map λp=>(p.2,p.1)).toArray:=afA
  simp only[execOp]
  rw[rH,Sem.run_bind,hr];simp) (k _ (aj.alloc _ _ _) (aJ.alloc _ _ _) sm)
/-! ### Slices that are appended whole -/
theorem TP {w:World}:∀{rows:List (List C)} {f:Nat->List Value},(∀i row,rows[i]?=some row->cS L w (f i) row)->cS L w ((List.range rows.length).map f).flatten rows.flatten
 |[],_,_=>trivial
 |r::rows,f,h=>by
  rw[lC,List.range_succ_eq_map,List.map_cons,List.map_map,List.flatten_cons,List.flatten_cons]
  exact(h 0 r rfl).append (TP (f:=f∘Nat.succ) λi row hi=>h (i+1) row (by simpa using hi))
theorem afB {w:World} {off:Nat} {xs ys:List Value} (h:fS w b off xs) (k:fS w b (off+xs.length) ys):fS w b off (xs++ys):=by grind [fS]
theorem TQ {w:World} {sz:Nat}:∀{n off:Nat} {f:Nat->List Value},(∀i,i<n->(f i).length=sz∧fS w b (off+i*sz) (f i))->fS w b off ((List.range n).map f).flatten
 |0,_,_,_=>λj v hj=>by simp at hj
 |n+1,off,f,h=>by
  rw[List.range_succ_eq_map,List.map_cons,List.map_map,List.flatten_cons]
  obtain⟨h1,h2⟩:=h 0 om
  rw[Nat.zero_mul,Nat.add_zero] at h2
  refine afB h2 (TQ (sz:=sz) λi hi=>?_)
  obtain⟨h3,h4⟩:=h (i+1) om
  refine⟨h3,?_⟩
  rw[h1]
  rwa [show off+(i+1)*sz=off+sz+i*sz from by rw[Nat.add_mul];omega] at h4
theorem TR {w:World} {len cap size:Nat} (h:bQ L w (.slice a len cap) (.sl size rows)) (hp:0<rows.length):
  ∃b off vs,a=some ⟨b,off,none⟩∧b<w.heap.size∧b∉L∧fS w b off vs∧cS L w vs rows.flatten∧len=rows.length∧∀row,row∈rows->row.length=size:=by
 cases h with
 |nil=>simp at hp
 |sl b off len cap size rows f hl hc hb hL hs kh gB=>
  refine⟨b,off,((List.range rows.length).map λi=>(List.range size).map (f i)).flatten,rfl,hb,hL,TQ (sz:=size) λi hi=>⟨by simp,λj v hj=>?_⟩,TP λi row hi=>?_,hl.symm,hs⟩
  ·have xH:j<size:=by have:=(List.getElem?_eq_some_iff.1 hj).1;simpa using this
   have e:f i j=v:=by simpa[List.getElem?_map,xH] using hj
   rw[<-e];exact kh i j om xH
  ·have gZ:=hs row (List.mem_of_getElem? hi)
   refine cS.of (by simp[gZ]) λj v c hv px=>?_
   have xH:j<size:=by have:=(List.getElem?_eq_some_iff.1 hv).1;simpa using this
   have e:f i j=v:=by simpa[List.getElem?_map,xH] using hv
   rw[<-e];exact gB i j row c hi px
theorem TT {t ty T:TypeId} {i:TypeInfo} (ht:P.underlying t=some (.slice T)) (hi:P.info? T=some i) 
  {a:Option Addr} {m cap:Nat} (h:m<=cap) {a2:Option Addr} {c2:Nat}:
  (Builtin.append_ #[t,t] ty #[.slice a m cap,.slice a2 0 c2]).run P w= .ok (.slice a m cap) w:=by
 have hf:(Builtin.firstCells i.size 0 (.slice a2 0 c2)).run P w= .ok #[] w:=by
  cases a2 with
  |none=>simp[Builtin.firstCells]
  |some b=>exact run_firstCells_some (P:=P) (w:=w) i.size 0 b 0 c2 [] sm sm
 cases a<;>simp[Builtin.append_,run_underlying ht,sizeOf,typeInfo,hi,Builtin.lenOf,h,hf,storeCells]
theorem wT {B:Nat} {L:List Nat} {t:Nat} {v:Value} {gb:Option Nat} {rows new:List (List C)} {a2:Option Addr} {n2 c2:Nat} (hT:P.underlying t=some (.slice E)) (hE:TI P E sz bytes z) (hg:gate ops e g=true) (hd:bV n dst=true) (hz:Nat.beq z.cells.size sz=true) (fK:Nat.ble bytes 1000=true) 
  (hx:ev e x=v) (hy:ev e y= .slice a2 n2 c2) (hO:Gr B L w E sz v gb rows) (hr:bQ (gb.toList++L) w (.slice a2 n2 c2) (.sl sz new)) (h1:∀row,row∈new->∀c,c∈row->∀v,c= .val v->v.oneCell'=true)
  (hn:rows.length+new.length<100000000)
  (k:∀a' cap' g' w',Gr B L w' E sz (.slice a' (rows.length+new.length) cap') g' (rows++new)->aj gb.toList w w'->OW P n ops K rest (bM e dst (.slice a' (rows.length+new.length) cap')) w'):
  OW P n ops K (⟨dst,.call {callee:=.builtin .append,args:=#[x,y],argTypes:=#[t,t]},ty,pos,after,g⟩::rest) e w:=by
 obtain⟨xs,hR⟩:=hO.own
 have zR:bytes<=1000:=Nat.le_of_ble_eq_true fK
 by_cases hp:0<new.length
 ·obtain⟨b,off,vs,rfl,hb,ri,hc,Jg,rfl,gZ⟩:=TR hr hp
  refine Qt hT hE hg hd hz hx hR hy rfl hp gZ hc ?_ Jg hO.cC (Nat.le_trans (Nat.mul_le_mul (show rows.length+new.length<=100000000 by omega) (show bytes+1<=1001 by omega)) de) ?_
  ·refine cS.FK Jg λc hc v hv=>?_
   obtain⟨row,h2,h3⟩:=List.mem_flatten.1 hc
   exact h1 row h2 c h3 v hv
  ·intro a' cap' g' w' iU hk kz
   refine k a' cap' g' w' ⟨⟨_,iU⟩,λb hb=>?_,λx hx=>lL (hO.cC x hx) hk.size,Nat.le_trans hO.bsz hk.size⟩ hk
   rcases kz with h|h
   ·rw[h] at hb;exact hO.low b hb
   ·rw[h] at hb;cases hb;exact hO.bsz
 ·have nv:new=[]:=List.length_eq_zero_iff.1 om
  subst nv
  obtain⟨a,cap,rfl⟩:=hR.len
  have h20:n2=0:=by
   obtain⟨_,_,he,_⟩:=rC hr
   cases he;rfl
  subst h20
  have zq:rows.length<=cap:=by
   rcases hR.own.2 with⟨h,h2,_⟩|⟨_,_,_,_,h,_,h2,_⟩
   ·rw[h2];omega
   ·cases h;exact h2
  obtain⟨i,hi,_,_,_⟩:=hE.get
  have jM:=TT (P:=P) (w:=w) (t:=t) (ty:=ty) hT hi (a:=a) (m:=rows.length) (cap:=cap) zq (a2:=a2) (c2:=c2)
  refine eQ hg hd (v:=.slice a rows.length cap) (w':=w) (by
   simp only[execOp,resolve,invoke,builtin,Sem.run_bind,Sem.run_pure,Result.andThen_ok,List.map_toArray,List.map_cons,List.map_nil,hx,hy,jM]) ?_
  have:=k a cap gb w (by simpa using hO) (aj.refl _ _)
  simpa using this
end
theorem tW:∀(m:Nat) (t:aq),t.size<=m->WF t->t.size<=100000000->t.text.length<=100000000->∀(v:Value) (L:List Nat) (w:World),bB L w v t->
  bz Tryz.prog 72 [v] w λr w'=>r=str t.text∧aj [] w w':=by
 intro m
 induction m with
 |zero=>intro t h cm;have:=LJ cm;omega
 |succ m ih=>
  intro t hm cm lD fF v L w hv
  obtain⟨a,n,c,rfl,hn,aP⟩:=cU hv
  subst hn
  have nZ:=wm t
  have hK:=aj.refl [] w
  refine bS [.tmp 2] 31 Tryz.func72 rfl aa0 rfl rfl ?_
  refine zr<|eH rfl λw1 aI aX dk=>?_
  have hK:=hK.ext aI
  refine W ?_
  refine zc rfl (λh1=>?_) (λh1=>?_)
  have ht:=RY cm (by rw[cm.leaf h1];rfl)
  refine W ?_
  exact⟨_,rfl,show str _=str _ from congrArg _ ht.symm,hK⟩
  have ha:t.aw=[]:=Classical.not_not.1 h1
  refine W ?_
  refine eA (λk:Nat=>[(1,.pointer (some ⟨w.heap.size,0,none⟩)),(3,str (uT (t.ak.take k))),(4,.int .i64 (k:Int))]) (λk w'=>aj [] w w'∧aJ w' w.heap.size [str t.aw,.slice a t.ak.length c].toArray 78∧k<=t.ak.length) (λk=>t.ak.length-k) (0) (⟨rfl,rfl,rfl⟩) (⟨hK,aX,om⟩) λgg w2 e2 hI=>?_
  obtain⟨hK,aX,hk⟩:=hI
  refine W ?_
  refine zc rfl (λh2=>?_) (λh2=>?_)
  have ey:=gh (ps:=t.ak) (i:=gg) om
  obtain⟨b1,eX,pa,pn,pc,rfl,jk,eP,fM⟩:=iJ aP ey
  subst eP
  have yd:=cm.nth (i:=gg) om
  have mY:=kY (t:=t) (i:=gg) om
  have mB:=LV cm ha hk
  have pL:=LV cm ha (k:=gg+1) om
  have aR:=R0 (ps:=t.ak) (k:=gg) om
  have hlen:=congrArg List.length aR
  rw[lA] at hlen
  refine W ?_
  refine ix (λ_:Unit=>[(1,.pointer (some ⟨w.heap.size,0,none⟩)),(3,str (uT (t.ak.take gg)++(if gg=0 then[] else[32]))),(4,.int .i64 (gg:Int))]) (λ_ w'=>w'=w2) ?_ ?_
  refine zc rfl (λh3=>?_) (λh3=>?_)
  have yf:¬gg=0:=by omega
  refine W ?_
  exact⟨(),⟨rfl,by rw[iN yf];rfl,rfl⟩,rfl⟩
  have yf:gg=0:=by omega
  refine WZ ?_
  exact⟨(),⟨rfl,by rw[iP yf,List.append_nil];rfl,rfl⟩,rfl⟩
  intro gu w3 e3 hI
  obtain rfl:=hI
  refine WL ?_
  refine zl iC rfl (aX.at rfl)<|zm<|zi cz aL rfl rfl om<|zL eU aL rfl (jk.ext hK) rfl<|aA (ih (nth t.ak gg) om yd om om _ L w3 ((kV fM).ext hK)) ?_
  rintro _ w4 ⟨rfl,aO⟩
  have fE:=aO.size
  refine bI aO hK aX λhK aX=>?_
  refine gV rfl rfl rfl rfl om<|W ?_
  exact⟨gg+1,⟨rfl,by rw[aR];rfl,rfl⟩,⟨hK,aX,om⟩,om⟩
  have fG:gg=t.ak.length:=by omega
  have wS:=R1 cm ha
  have mB:=LV cm ha hk
  subst fG
  refine WS ?_
  refine gV rfl rfl rfl rfl (by simp at mB⊢;omega)<|zA<|aZ<|jZ ?_
  exact⟨_,rfl,show str _=str _ from congrArg _ wS,hK⟩

theorem yg (h:ai) (ps:List ai) (hl:(dR h ps).length<=1000000000) (v:Value) (L:List Nat) (w:World) (hv:bc L w v ps):bz Tryz.prog 55 [str h,v] w λr w'=>r=str (dR h ps)∧aj [] w w':=by
 obtain⟨a,n,c,rfl,hn⟩:=dJ hv
 subst hn
 have hK:=aj.refl [] w
 have hh:=λk=>adA (h:=h) (ps:=ps) k
 have TU:(uV h ps 0).length=h.length+1:=by simp[uV,qe]
 have h01:=hh 0
 have nZ:ps.length<=(dR h ps).length:=by simp only[dR,lC,lA,R4,jv];omega
 refine bS [.tmp 4] 24 Tryz.func55 rfl aaJ rfl rfl ?_
 refine WS ?_
 refine gV rfl rfl rfl rfl (by simp only[lC,List.length_nil];omega)<|W ?_
 refine eA (λk:Nat=>[(1,.slice a ps.length c),(5,str (uV h ps k)),(6,.int .i64 (k:Int))]) (λk w'=>aj [] w w'∧k<=ps.length) (λk=>ps.length-k) (0) (⟨rfl,show str _=str _ from congrArg _ (by simp[uV,qe]),rfl⟩) (⟨hK,om⟩) λgg w1 e1 hI=>?_
 obtain⟨hK,hk⟩:=hI
 refine W ?_
 refine zc rfl (λh1=>?_) (λh1=>?_)
 have hg:=km (xs:=ps) (i:=gg) om
 obtain⟨b1,eX,rfl,bK⟩:=pB hv hg
 have aR:=ady (h:=h) (ps:=ps) (k:=gg) om
 have hlen:=congrArg List.length aR
 simp only[lA,lC,List.length_nil] at hlen
 have hle:=hh (gg+1)
 refine WS ?_
 refine gV rfl rfl rfl rfl (by simp only[lC,List.length_nil];omega)<|WL ?_
 refine zl gD rfl (bK.ext hK 0 _ rfl)<|gV rfl rfl rfl rfl (by simp only[lA,lC,List.length_nil];omega)<|W ?_
 exact⟨gg+1,⟨rfl,show str _=str _ from congrArg _ aR.symm,rfl⟩,⟨hK,om⟩,om⟩
 have hle:=hh gg
 refine WS ?_
 refine gV rfl rfl rfl rfl (by simp only[lC,List.length_nil];omega)<|zA<|aZ<|jZ ?_
 exact⟨_,rfl,show str _=str _ from congrArg _ (adz om),hK⟩
def apart:List (Option Nat×Option Nat)->Prop
 |[]=>True
 |g::gs=>(∀x,x∈iV g->x∉gx gs)∧apart gs
theorem Jh (g:Option Nat×Option Nat) (gs:List (Option Nat×Option Nat)):gx (g::gs)=iV g++gx gs:=by simp[gx]
theorem MW (gs:List (Option Nat×Option Nat)) (g:Option Nat×Option Nat):gx (gs++[g])=gx gs++iV g:=by simp[gx]
section
variable {P:Program} {n:Nat} {ops:Array Oper} {K:Env->World->Prop} {rest:List Oper} {e:Env} {w:World}
 {dst:Option Nat} {ty:TypeId} {pos:String} {after:Array Edge} {g:Option (Nat×Bool)} {x y:Operand}
end
/-! ### Operations -/
section
variable {P:Program} {n:Nat} {ops:Array Oper} {K:Env->World->Prop} {rest:List Oper} {e:Env} {w:World}
 {dst:Option Nat} {ty:TypeId} {pos:String} {after:Array Edge} {g:Option (Nat×Bool)} {x y:Operand}
theorem TV {S D b cap:Nat} {z:Int} {c:UInt8} {U:TypeId} (hS:P.underlying S=some (.slice E)) (hE:P.underlying E=some (.int .u8)) (hD:P.underlying D=some .string) (hg:gate ops e g=true) (hd:bV n dst=true) 
  (hx:ev e x= .slice (some ⟨b,0,none⟩) 1 cap) (hb:aJ w b [.int .u8 z].toArray U) (hz:z=(c.toNat:Int)) (k:OW P n ops K rest (bM e dst (str [c])) w):OW P n ops K (⟨dst,.convert S D x,ty,pos,after,g⟩::rest) e w:=by
 have jM:=run_convert_bytes_back (P:=P) w S D E ⟨b,0,none⟩ cap [c] hS hE hD (by
  intro j hj
  have:j=0:=by simpa using hj
  subst this
  have:=hb.cell 0
  simpa[Addr.add,hz] using this)
 exact eQ hg hd (v:=str [c]) (w':=w) (by
  have vv:ev e x= .slice (some ⟨b,0,none⟩) ([c]:List UInt8).length cap:=hx
  simp only[execOp,vv,Sem.run_bind,jM,Result.andThen_ok,Sem.run_pure]) k
theorem TW {T TS:Nat} {gb:Option Nat} {xs:List ai} {s:ai} {o nn c:Nat} (jN:TI P T 1 bytes z) (hg:gate ops e g=true) (hx:ev e x= .pointer (some ⟨b,o,none⟩)) (hy:ev e y=str s) (ho:o=i) 
  (hO:cG w TS (.slice (some ⟨b,0,none⟩) nn c) gb xs) (hi:i<xs.length)
  (k:∀w',aj gb.toList w w'->cG w' TS (.slice (some ⟨b,0,none⟩) nn c) gb (xs.set i s)->w'.heap.size=w.heap.size->OW P n ops K rest e w'):OW P n ops K (⟨none,.store T x y,ty,pos,after,g⟩::rest) e w:=by
 subst ho
 obtain⟨hl,h|⟨b',cap,cur,oh,hv,hb,ml,lU,bZ,ht⟩⟩:=hO
 ·obtain⟨h,_⟩:=h;cases h
 ·cases hv
  subst oh
  refine KZ jN rfl hg hx hy rfl hb (by rw[bZ];omega) λw' hk gN hz=>?_
  refine k w' (by simpa using hk) ⟨by simp,.inr ⟨b,_,_,rfl,sm,gN,by simpa using ml,lU,by simpa using bZ,?_⟩⟩ hz
  rw[Array.toList_setIfInBounds,List.length_set,List.take_set,ht,List.map_set]
end
theorem TX {α:Type}:∀{rows:List (List α)} {i j:Nat} {a:α} {row:List α},(∀row,row∈rows->row.length=sz)->rows[i]?=some row->j<sz->rows.flatten.set (i*sz+j) a=(rows.set i (row.set j a)).flatten
 |r::rows,0,j,a,row,h,hi,hj=>by
  simp only[List.getElem?_cons_zero,Option.some.injEq] at hi
  subst hi
  have hr:r.length=sz:=h r sm
  rw[List.flatten_cons,Nat.zero_mul,Nat.zero_add,List.set_cons_zero,List.flatten_cons,List.set_append_left _ _ om]
 |r::rows,i+1,j,a,row,h,hi,hj=>by
  have hr:r.length=sz:=h r sm
  have:=TX (rows:=rows) (a:=a) (λrow hr=>h row (by simp[hr])) (by simpa using hi) hj
  rw[List.flatten_cons,List.set_cons_succ,List.flatten_cons,List.set_append_right _ _ (by rw[hr,Nat.add_mul];omega),hr,<-this]
  congr 2
  rw[Nat.add_mul];omega
theorem iL.set {T:TypeId}:∀{gss:List (Option Nat×Option Nat)} {vss:List (List Value)} {bs:List Bk} {i:Nat} {g:Option Nat×Option Nat} {v:List Value} {f:Bk},iL w T gss vss bs->gss[i]?=some g->qd w' T g v f->
  (∀(j:Nat) (g2:Option Nat×Option Nat) (v2:List Value) (b2:Bk),j≠i->gss[j]?=some g2->qd w T g2 v2 b2->qd w' T g2 v2 b2)->iL w' T gss (vss.set i v) (bs.set i f)
 |[],[],[],i,g,v,f,_,hg,_,_=>by simp at hg
 |g0::gs,v0::vs,b0::bs,0,g,v,f,h,hg,hf,hk=>by
  simp only[List.getElem?_cons_zero,Option.some.injEq] at hg
  subst hg
  refine⟨hf,?_⟩
  have key:∀{gs:List (Option Nat×Option Nat)} {vs:List (List Value)} {bs:List Bk},(∀(j:Nat) (g2:Option Nat×Option Nat) (v2:List Value) (b2:Bk),gs[j]?=some g2->qd w T g2 v2 b2->qd w' T g2 v2 b2)->iL w T gs vs bs->iL w' T gs vs bs:=by
   intro gs
   induction gs with
   |nil=>intro vs bs _ h;cases vs<;>cases bs<;>first|trivial|exact h.elim
   |cons g gs ih=>
    intro vs bs hk h
    cases vs with
    |nil=>cases bs<;>exact h.elim
    |cons v vs=>
     cases bs with
     |nil=>exact h.elim
     |cons b bs=>exact⟨hk 0 _ _ _ rfl h.1,ih (λj g2 v2 b2 hj=>hk (j+1) g2 v2 b2 (by simpa using hj)) h.2⟩
  exact key (λj g2 v2 b2 hj ho=>hk (j+1) g2 v2 b2 om (by simpa using hj) ho) h.2
 |g0::gs,v0::vs,b0::bs,i+1,g,v,f,h,hg,hf,hk=>
  ⟨hk 0 _ _ _ om rfl h.1,iL.set h.2 (by simpa using hg) hf λj g2 v2 b2 hj iO ho=>hk (j+1) g2 v2 b2 om (by simpa using iO) ho⟩
theorem Cq {g:Option Nat×Option Nat} (hg:gss[i]?=some g) (hx:x∈iV g):x∈gx gss:=by grind [gx]
theorem afD:∀{gss:List (Option Nat×Option Nat)} {i j:Nat} {g g2:Option Nat×Option Nat} {x:Nat},(gx gss).Nodup->i≠j->gss[i]?=some g->gss[j]?=some g2->x∈iV g->x∉iV g2:=by intro x;induction x<;>grind [gx,iV]
theorem lZ.row {w w':World} {TB TS:TypeId} {v:Value} {g:Option Nat} {gss:List (Option Nat×Option Nat)} {vss:List (List Value)} {bs:List Bk} {i:Nat} {gs:Option Nat×Option Nat} {vs:List Value} {f:Bk} {L:List Nat} 
  (h:lZ w TB TS v g gss vss bs) (hg:gss[i]?=some gs) (hv:vss[i]?=some vs) (hk:aj L w w') (hL:∀x,x∈L->x∈iV gs) (hf:qd w' TS gs vs f):lZ w' TB TS v g gss vss (bs.set i f):=by
 have hd:=(List.nodup_append.1 h.nodup)
 have zu:vss.set i vs=vss:=by
  refine List.ext_getElem sm λj h1 h2=>?_
  rw[List.getElem_set]
  split
  ·rename_i lX;subst lX
   rw[gE h2] at hv;simpa using hv.symm
  ·rfl
 have hr:=iL.set (w':=w') h.rows hg hf (λj g2 v2 b2 hj iO ho=>ho.aF hk λx hx mm=>afD hd.2.1 hj iO hg hx (hL x mm))
 rw[zu] at hr
 exact⟨by rw[List.length_set];exact h.own.aF hk (λb hb hx=>hd.2.2 b (by simp[hb]) b (Cq hg (hL b hx)) rfl),hr,h.nodup,λx hx=>lL (h.lt x hx) hk.size⟩
section
variable {P:Program} {n:Nat} {ops:Array Oper} {K:Env->World->Prop} {rest:List Oper} {e:Env} {w:World}
 {dst:Option Nat} {ty:TypeId} {pos:String} {after:Array Edge} {g:Option (Nat×Bool)} {x y:Operand}
end
theorem TZ (k:Nat):(48:Int)+((k%10:Nat):Int)=((UInt8.ofNat (48+k%10)).toNat:Int):=by simp_all[Nat.mod_eq_of_lt,Nat.reducePow];omega
theorem cG.form {T:TypeId} (h:cG w T (.slice a n c) g xs) (hx:0<xs.length):∃b,a=some ⟨b,0,none⟩∧g=some b:=by cases h.2<;>grind
theorem cG.cases {T:TypeId} (h:cG w T v g xs):∃a c,v= .slice a xs.length c:=iH.len h
theorem lZ.get {TB TS:TypeId} (h:lZ w TB TS (.slice a n c) g gss vss bs) (hi:i<bs.length):
  ∃b gs a1 c1 a2 c2,a=some ⟨b,0,none⟩∧g=some b∧b<w.heap.size∧b∉iV gs∧gss[i]?=some gs∧vss[i]?=some [str (bR bs i).aM,.slice a1 (bR bs i).bY.length c1,.slice a2 (bR bs i).code.length c2]∧
   fS w b (0+i*3) [str (bR bs i).aM,.slice a1 (bR bs i).bY.length c1,.slice a2 (bR bs i).code.length c2]∧
   cG w TS (.slice a1 (bR bs i).bY.length c1) gs.1 (bR bs i).bY∧cG w TS (.slice a2 (bR bs i).code.length c2) gs.2 (bR bs i).code∧(∀x,gs.1=some x->gs.2=some x->False):=by
 have hd:=List.nodup_append.1 h.nodup
 obtain⟨fl,iy,wU⟩:=h.rows.lens
 obtain⟨gs,vs,jm,aW,v1,v2,rfl,cV,dm⟩:=h.rows.get (pC hi)
 obtain⟨a1,c1,rfl⟩:=cG.cases cV
 obtain⟨a2,c2,rfl⟩:=cG.cases dm
 obtain⟨hl,hz|⟨b,cap,cur,oh,hv,hb,ml,lU,bZ,ht⟩⟩:=h.own
 ·obtain⟨_,hz,_⟩:=hz;omega
 ·cases hv
  subst oh
  refine⟨b,gs,a1,c1,a2,c2,rfl,rfl,hb.lt,λhx=>hd.2.2 b sm b (Cq jm hx) rfl,jm,aW,λj v hj=>?_,cV,dm,λx h1 h2=>?_⟩
  ·have hf:=Fl wU aW hj
   have dU:i*3+j<vss.flatten.length:=(List.getElem?_eq_some_iff.1 hf).1
   rw[hb.cell,Nat.zero_add]
   have h2:=ht
   have:(cur.toList.take (bs.length*3))[i*3+j]?=some v:=by rw[ht];exact hf
   rw[List.getElem?_take] at this
   split at this
   ·simpa using this
   ·cases this
  ·have hn:(iV gs).Nodup:=by
    have:∀{gss:List (Option Nat×Option Nat)} {i:Nat},(gx gss).Nodup->gss[i]?=some gs->(iV gs).Nodup:=by
     intro gss
     induction gss with
     |nil=>intro i _ h;simp at h
     |cons p q ih=>
      intro i hn hg
      rw[Jh,List.nodup_append] at hn
      cases i with
      |zero=>simp at hg;subst hg;exact hn.1
      |succ i=>exact ih hn.2.1 (by simpa using hg)
    exact this hd.2.1 jm
   simp[iV,h1,h2] at hn
theorem afE (w:World):bz Tryz.prog 97 [str [],.int .i64 0,.int .i64 0] w λr w'=>r= .tuple #[.agg #[str [],.slice none 0 0],.int .i64 (-1)]∧aj [] w w':=by
 have hK:=aj.refl [] w
 refine kW [.cell 6 78,.tmp 7] 87 Tryz.func97 rfl Io rfl rfl rfl ?_
 refine zr<|dx aL rfl rfl rfl λw1 aI bL dk=>?_
 have hK:=hK.grow;have hK:=hK.ext aI
 refine zA<|aZ<|zr<|js (FM _) rfl rfl<|dx aL rfl rfl rfl λw2 az dh dC=>?_
 have hK:=hK.grow;have hK:=hK.ext az;have bL:=bL.grow;have bL:=bL.ext az
 refine cJ aL rfl rfl rfl dh rfl λw3 aH dh gJ=>?_
 have hK:=hK.aD aH sx;have bL:=bL.aD aH sx
 refine aZ<|jL<|zr<|zm<|Fq rfl rfl rfl rfl rfl<|zm ?_
 apply BF 5 15 20 [15,16,17,18,19,20] (λw'=>w3=w') rfl
 intro h1
 replace h1:=jj h1
 refine W ?_
 exact mg rfl rfl
 intro h1
 replace h1:=jj h1
 refine W ?_
 exact mg rfl rfl
 rintro xx _ rfl
 refine aZ<|zc rfl (λh2=>?_) (λh2=>?_)
 refine W ?_
 refine cJ aL rfl rfl rfl bL rfl λw4 aO bL gQ=>?_
 have hK:=hK.aD aO sx
 refine W ?_
 exact⟨[_,_],⟨fZ eU aL rfl bL rfl,rfl⟩,rfl,hK⟩
 simp at h2
theorem Ji (s:ai) (L:List Nat) (w:World) (hL:∀x,x∈L->x<w.heap.size):
  bz Tryz.prog 64 [str s] w λv w'=>(∃t tv,v= .tuple #[tv,.bool (bA s).isSome]∧bB L w' tv t∧DY s t)∧aj [] w w':=by
 by_cases hs:s=[]
 ·subst hs
  have hK:=aj.refl [] w
  refine kW [.cell 2 78,.tmp 3] 20 Tryz.func64 rfl QC rfl rfl rfl ?_
  refine zr<|dx aL rfl rfl rfl λw1 aI aU dk=>?_
  have hK:=hK.grow;have hK:=hK.ext aI
  refine W ?_
  refine zc rfl (λh1=>?_) (λh1=>?_)
  simp at h1
  refine gY<|zr<|zm<|aA (afE w1) ?_
  rintro _ w2 ⟨rfl,az⟩
  have dm:=az.size
  refine bI az hK aU λhK aU=>?_
  refine W ?_
  refine dx aL rfl rfl rfl λw3 aH aG gJ=>?_
  have hK:=hK.grow;have hK:=hK.ext aH;have aU:=aU.grow;have aU:=aU.ext aH
  refine cJ aL rfl rfl rfl aG rfl λw4 aO aG gQ=>?_
  have hK:=hK.aD aO sx;have aU:=aU.aD aO sx
  refine W ?_
  refine cJ aL rfl rfl rfl aU rfl λw5 aN aU ig=>?_
  have hK:=hK.aD aN sx
  refine W ?_
  exact⟨[_,_],⟨fZ eU aL rfl aU rfl,rfl⟩,⟨.mk [] [],_,by rw[R6];rfl,kU oH,λt' h=>(by rw[R6] at h;cases h),λ_=>rfl⟩,hK⟩
 ·obtain⟨h1,h2⟩:=AH s L w hL
  exact⟨h1,Calls.mono h2 λe w' ⟨v,he,⟨t,tv,hv,ht,hp⟩,hk⟩=>⟨v,he,⟨t,tv,hv,ht,hp,λe=>absurd e hs⟩,hk⟩⟩
theorem Gr.form {T:TypeId} (h:Gr B L w T sz (.slice a n c) g rows) (hp:0<rows.length):∃b,a=some ⟨b,0,none⟩∧g=some b:=by
 obtain⟨xs,hx⟩:=h.own
 rcases hx.own.2 with⟨_,h0,_⟩|⟨b,_,_,e,hv,_⟩
 ·omega
 ·cases hv;exact⟨b,rfl,e⟩
theorem AP (ps:List ai) (hl:ps.length<=1000000000) (s:ai) (v:Value) (L:List Nat) (w:World) (hv:bc L w v ps):bz Tryz.prog 142 [v,str s] w λr w'=>r= .bool (decide (s∈ps))∧aj [] w w':=by
 obtain⟨a,n,c,rfl,hn⟩:=dJ hv
 subst hn
 have hK:=aj.refl [] w
 refine bS [.tmp 4] 18 Tryz.func142 rfl ZK rfl rfl ?_
 refine W ?_
 refine eA (λk:Nat=>[(0,.slice a ps.length c),(1,str s),(5,.int .i64 (k:Int))]) (λk w'=>aj [] w w'∧k<=ps.length∧∀i,i<k->bX ps i≠s) (λk=>ps.length-k) (0) (⟨rfl,rfl,rfl⟩) (⟨hK,om,by intro i hi;omega⟩) λgg w1 e1 hI=>?_
 obtain⟨hK,hk,cL⟩:=hI
 refine W ?_
 refine zc rfl (λh1=>?_) (λh1=>?_)
 have hg:=km (xs:=ps) (i:=gg) om
 obtain⟨b1,eX,rfl,bK⟩:=pB hv hg
 refine WL ?_
 refine zl gD rfl (bK.ext hK 0 _ rfl)<|zm<|DG rfl rfl rfl rfl<|aZ<|zc rfl (λh2=>?_) (λh2=>?_)
 have hq:s∈ps:=(by rw[<-h2];exact List.mem_of_getElem? hg)
 refine W ?_
 exact⟨_,rfl,by rw[dT hq];rfl,hK⟩
 have dL:=h2
 refine W ?_
 exact⟨gg+1,⟨rfl,rfl,rfl⟩,⟨hK,om,by intro i hi;rcases Nat.lt_or_ge i gg with h|h;exact cL i h;rw[show i=gg by omega];exact dL⟩,om⟩
 have hq:¬s∈ps:=(λhm=>by obtain⟨i,hi,e⟩:=List.getElem_of_mem hm;exact cL i om (by simp[bX,gE hi,e]))
 refine W ?_
 exact⟨_,rfl,by rw[dF hq];rfl,hK⟩
theorem afF (h:n<10):(48:Int)+(n:Int)=((UInt8.ofNat (48+n)).toNat:Int):=by
 have:=TZ n
 rwa [Nat.mod_eq_of_lt h] at this
def Cr (z:Int) (v:Value) (w:World):Prop:=∃b,v= .slice (some ⟨b,0,none⟩) 1 1∧aJ w b [.int .u8 z].toArray 5
theorem Cr.ext {z:Int} (h:Cr z v w) (k:aj [] w w'):Cr z v w':=by
 obtain⟨b,e,h⟩:=h
 exact⟨b,e,h.ext k⟩
theorem Ej:∀(m n:Nat),n<=m->(aT n).length<=n+1
 |m,n,h=>by
  rw[aT]
  by_cases h9:n<10
  ·rw[iP h9];simp
  ·rw[iN h9]
   cases m with
   |zero=>omega
   |succ m=>have:=Ej m (n/10) om;simp only[lA,List.length_singleton];omega
theorem ir:∀(m n:Nat),n<m->n<=1000000->∀w:World,bz Tryz.prog 70 [.int .i64 (n:Int)] w λr w'=>r=str (aT n)∧aj [] w w':=by
 intro m
 induction m with
 |zero=>intro n hn;omega
 |succ m ih=>
  intro n hn h9 w
  have hK:=aj.refl [] w
  have hl:=Ej _ (n/10) (lR _)
  refine bS [.tmp 2] 28 Tryz.func70 rfl aaY rfl rfl ?_
  refine W ?_
  refine zc rfl (λh1=>?_) (λh1=>?_)
  omega
  refine W ?_
  refine zc rfl (λh2=>?_) (λh2=>?_)
  omega
  refine W ?_
  refine zc rfl (λh3=>?_) (λh3=>?_)
  refine W ?_
  refine xL wj xQ rfl rfl rfl (wrap_u8 _ om om)<|fc BQ FN rfl rfl λw1 aI wV dk=>?_
  have hK:=hK.ext aI
  refine TV BQ xQ il rfl rfl rfl wV (afF om)<|zA<|aZ<|jZ ?_
  exact⟨_,rfl,congrArg str (show[UInt8.ofNat (48+n)]=aT n from by rw[aT,iP om]),hK⟩
  have fO:¬n<10:=by omega
  refine WZ ?_
  refine zB dj lV 10 (rA 18 10) (rA 18 10) [[],[0],[1],[],[3],[4],[5],[6],[7],[2,8]] [λv _=>v=(.int .i64 (n:Int)),λv _=>v=(.int .i64 ((n/10:Nat):Int)),λv _=>v=(str (aT (n/10))),λv _=>v=(.int .i64 (n:Int)),λv _=>v=(.int .i64 ((n%10:Nat):Int)),λv _=>v=(.int .i64 ((48:Int)+((n%10:Nat):Int))),λv _=>v=(.int .u8 ((48:Int)+((n%10:Nat):Int))),fun(v:Value) (ww:World)=>Cr ((48:Int)+((n%10:Nat):Int)) v ww,λv _=>v=(str [UInt8.ofNat (48+n%10)]),λv _=>v=(str (aT (n/10)++[UInt8.ofNat (48+n%10)]))] de (fu (fu (fu (fu (fu (fu (fu (YJ (λv w w' h k=>Cr.ext h k) (fu (fu trivial)))))))))) (λwd aC=>?_) ?_
  refine eh ?_ ?_
  intro x vs w1 e aI hd he
  replace aI:=lV.trans aC aI
  replace he:e=bo (bj _ x _) []:=he
  subst he
  refine W ?_
  exact dn (lV.refl _) rfl
  refine eh ?_ ?_
  intro x vs w1 e aI hd he
  have d0:vs 0=(.int .i64 (n:Int)):=hd
  replace aI:=lV.trans aC aI
  replace he:e=bo (bj _ x _) [(18,vs 0)]:=he
  rw[d0] at he
  subst he
  refine K0 (b:=10) rfl rfl rfl rfl rfl om (wrap_i64 _ om om)<|aZ ?_
  exact dn (lV.refl _) rfl
  refine eh ?_ ?_
  intro x vs w1 e aI hd he
  have d1:vs 1=(.int .i64 ((n/10:Nat):Int)):=hd
  replace aI:=lV.trans aC aI
  replace he:e=bo (bj _ x _) [(19,vs 1)]:=he
  rw[d1] at he
  subst he
  refine aA (ih (n/10) om om w1) ?_
  rintro _ w2 ⟨rfl,az⟩
  have dm:=az.size
  refine W ?_
  exact dn (lV.of az) rfl
  refine eh ?_ ?_
  intro x vs w1 e aI hd he
  replace aI:=lV.trans aC aI
  replace he:e=bo (bj _ x _) []:=he
  subst he
  refine W ?_
  exact dn (lV.refl _) rfl
  refine eh ?_ ?_
  intro x vs w1 e aI hd he
  have d3:vs 3=(.int .i64 (n:Int)):=hd
  replace aI:=lV.trans aC aI
  replace he:e=bo (bj _ x _) [(21,vs 3)]:=he
  rw[d3] at he
  subst he
  refine Fs (b:=10) rfl rfl rfl rfl rfl om<|aZ ?_
  exact dn (lV.refl _) rfl
  refine eh ?_ ?_
  intro x vs w1 e aI hd he
  have d4:vs 4=(.int .i64 ((n%10:Nat):Int)):=hd
  replace aI:=lV.trans aC aI
  replace he:e=bo (bj _ x _) [(22,vs 4)]:=he
  rw[d4] at he
  subst he
  refine W ?_
  exact dn (lV.refl _) rfl
  refine eh ?_ ?_
  intro x vs w1 e aI hd he
  have d5:vs 5=(.int .i64 ((48:Int)+((n%10:Nat):Int))):=hd
  replace aI:=lV.trans aC aI
  replace he:e=bo (bj _ x _) [(23,vs 5)]:=he
  rw[d5] at he
  subst he
  refine xL wj xQ rfl rfl rfl (wrap_u8 _ om om)<|aZ ?_
  exact dn (lV.refl _) rfl
  refine eh ?_ ?_
  intro x vs w1 e aI hd he
  have d6:vs 6=(.int .u8 ((48:Int)+((n%10:Nat):Int))):=hd
  replace aI:=lV.trans aC aI
  replace he:e=bo (bj _ x _) [(24,vs 6)]:=he
  rw[d6] at he
  subst he
  refine fc BQ FN rfl rfl λw2 az Cs dC=>W ?_
  exact dn (lV.of az) ⟨_,rfl,Cs⟩
  refine eh ?_ ?_
  intro x vs w1 e aI hd he
  have d7:(fun(v:Value) (ww:World)=>Cr ((48:Int)+((n%10:Nat):Int)) v ww) (vs 7) w1:=hd
  replace aI:=lV.trans aC aI
  replace he:e=bo (bj _ x _) [(25,vs 7)]:=he
  obtain⟨b7,e7,Cs⟩:=d7
  rw[e7] at he
  subst he
  refine TV BQ xQ il rfl rfl rfl Cs (TZ n)<|aZ ?_
  exact dn (lV.refl _) rfl
  refine eh ?_ ?_
  intro x vs w1 e aI hd he
  have aQ:(vs 2=(str (aT (n/10))))∧(vs 8=(str [UInt8.ofNat (48+n%10)])):=hd
  obtain⟨d2,d8⟩:=aQ
  replace aI:=lV.trans aC aI
  replace he:e=bo (bj _ x _) [(20,vs 2),(26,vs 8)]:=he
  rw[d2,d8] at he
  subst he
  refine W ?_
  exact dn (lV.refl _) rfl
  exact trivial
  intro x vs MX afG dP
  have d0:vs 0=(.int .i64 (n:Int)):=dP 0 de
  have d1:vs 1=(.int .i64 ((n/10:Nat):Int)):=dP 1 de
  have d2:vs 2=(str (aT (n/10))):=dP 2 de
  have d3:vs 3=(.int .i64 (n:Int)):=dP 3 de
  have d4:vs 4=(.int .i64 ((n%10:Nat):Int)):=dP 4 de
  have d5:vs 5=(.int .i64 ((48:Int)+((n%10:Nat):Int))):=dP 5 de
  have d6:vs 6=(.int .u8 ((48:Int)+((n%10:Nat):Int))):=dP 6 de
  have d7:(fun(v:Value) (ww:World)=>Cr ((48:Int)+((n%10:Nat):Int)) v ww) (vs 7) MX:=dP 7 de
  have d8:vs 8=(str [UInt8.ofNat (48+n%10)]):=dP 8 de
  have d9:vs 9=(str (aT (n/10)++[UInt8.ofNat (48+n%10)])):=dP 9 de
  have hK:=hK.ext afG
  change OW _ _ _ _ _ (bo (bj _ x _) (zZ 18 [vs 0,vs 1,vs 2,vs 3,vs 4,vs 5,vs 6,vs 7,vs 8,vs 9])) _
  rw[d0,d1,d2,d3,d4,d5,d6,d8,d9]
  refine W ?_
  exact⟨_,rfl,congrArg str (show aT (n/10)++[UInt8.ofNat (48+n%10)]=aT n from by conv=>(rhs;rw[aT,iN fO])),hK⟩
theorem AQ (s:ai) (w:World):bz Tryz.prog 145 [str s] w λr w'=>r= .agg #[str s,.slice none 0 0]∧aj [] w w':=by
 have hK:=aj.refl [] w
 refine kW [.cell 2 78] 5 Tryz.func145 rfl ZN rfl rfl rfl ?_
 refine zr<|dx aL rfl rfl rfl λw1 aI aU dk=>?_
 have hK:=hK.grow;have hK:=hK.ext aI
 refine aZ<|zr<|zm<|js (aby _ _) rfl rfl<|cJ aL rfl rfl rfl aU rfl λw2 az aU dC=>?_
 have hK:=hK.aD az sx
 refine W ?_
 exact⟨[_],fZ eU aL rfl aU rfl,rfl,hK⟩
theorem dH.sub {T:TypeId} (h:dH L w T sz v g rows) (hL:∀x,x∈L'->x∈L∨w.heap.size<=x):dH L' w T sz v g rows:=by
 obtain⟨xs,h1,h2⟩:=h.own
 exact⟨⟨xs,h1,h2.fresh hL⟩,h.row⟩
structure KA (L:List Nat) (T:TypeId) (sz:Nat) (g:Option Nat) (rows rows':List (List C)) (w w':World):Prop where
 aF:aj g.toList w w'
 old:∀v,dH (g.toList++L) w T sz v g rows->dH (g.toList++L) w' T sz v g rows
 new:∀v g',dH (g.toList++(g'.toList++L)) w T sz v g' rows'->dH (g.toList++(g'.toList++L)) w' T sz v g' rows'
theorem dH.any {T:TypeId} (h:dH L w T sz v g rows) (k:aj [] w w'):dH L w' T sz v g rows:=h.aF (Fr.of k sm) k sm
theorem T0 (L:List Nat) (T:TypeId) (sz:Nat) (g:Option Nat) (rows rows':List (List C)):Kept (KA L T sz g rows rows'):=
 ⟨λ_=>⟨aj.refl _ _,λ_ h=>h,λ_ _ h=>h⟩,λh k=>⟨h.aF.trans k.aF,λv x=>k.old v (h.old v x),λv g' x=>k.new v g' (h.new v g' x)⟩,
  λh=>⟨h.any,λ_ x=>x.any h,λ_ _ x=>x.any h⟩⟩
section
variable {P:Program} {w:World}
theorem afH {t ty T:TypeId} {i:TypeInfo} {sz bytes:Nat} (ht:P.underlying t=some (.slice T)) (hi:P.info? T=some i) (hz:i.zero=some z) 
  (BC:i.size=sz) (fK:i.bytes=bytes) (xI:z.cells.size=sz) {L:List Nat}
  {v:Value} {g:Option Nat} {rows:List (List C)} {row:List C} (hO:dH (g.toList++L) w T sz v g rows)
  (ab c:Nat) (news:List Value) (gZ:row.length=sz) (tl:fS w ab 0 news) (h1:∀u∈news,u.oneCell'=true) (hr:cS (g.toList++L) w news row)
  (hb:(rows.length+1)*(bytes+1)<=140737488355328):
  ∃v' g' w',(Builtin.append_ #[t,t] ty #[v,.slice (some ⟨ab,0,none⟩) 1 c]).run P w= .ok v' w'∧dH (g.toList++(g'.toList++L)) w' T sz v' g' (rows++[row])∧KA L T sz g rows (rows++[row]) w w'∧
   (g'=g∨g'=some w.heap.size):=by
 subst BC
 subst fK
 obtain⟨xs,dv,Ct⟩:=hO.own
 have aX:(rows.length+1)*i.bytes+(rows.length+1)<=140737488355328:=by rw[Nat.mul_add,Nat.mul_one] at hb;exact hb
 have zo:rows.length+1<=maxLen:=by unfold maxLen;omega
 have xJ:(rows.length+1)*i.bytes<=140737488355328:=by omega
 have hl:news.length=1*i.size:=by rw[hr.length,gZ,Nat.one_mul]
 have H6:rows.length+1<=9223372036854775807:=by simp only[maxLen] at zo;omega
 have hlen:(xs++news).length=(rows.length+1)*i.size:=by rw[lA,dv.1,hl,Nat.add_mul]
 have uF:∀b o j:Nat,(⟨b,o,none⟩:Addr).add j=⟨b,o+j,none⟩:=λb o j=>by unfold Addr.add;split<;>simp_all
 have uG:∀j u,news[j]?=some u->w.cell? ((⟨ab,0,none⟩:Addr).add j)=some u:=λj u hu=>by rw[uF];exact tl j u hu
 have T1:∀r,r∈rows++[row]->r.length=i.size:=λr hx=>by
  rcases mA.1 hx with hx|hx
  ·exact hO.row r hx
  ·simp at hx;rw[hx];exact gZ
 have mE:(rows++[row]).flatten=rows.flatten++row:=by simp
 have grown:∀(old:Nat),old<rows.length+1->
   dH (g.toList++((some w.heap.size).toList++L)) (w.drew.alloc (.cells (xs.toArray++news.toArray++Builtin.zeroCells z.cells (grownCap w (rows.length+1) old T-(rows.length+1))) T)) T i.size
    (.slice (some ⟨w.heap.size,0,none⟩) (rows.length+1) (grownCap w (rows.length+1) old T)) (some w.heap.size) (rows++[row])∧
   aj [] w (w.drew.alloc (.cells (xs.toArray++news.toArray++Builtin.zeroCells z.cells (grownCap w (rows.length+1) old T-(rows.length+1))) T)):=by
  intro old ho
  have oC:=grownCap_ge w (rows.length+1) old T
  have lU:grownCap w (rows.length+1) old T<=maxLen:=grownCap_le_maxLen w (rows.length+1) old T zo
  have hk:aj [] w (w.drew.alloc (.cells (xs.toArray++news.toArray++Builtin.zeroCells z.cells (grownCap w (rows.length+1) old T-(rows.length+1))) T)):=⟨rfl,rfl,rfl,sm,λk hk _=>heap_alloc_old w.drew _ k hk⟩
  refine⟨⟨⟨xs++news,⟨by simpa using hlen,.inr ⟨w.heap.size,_,_,rfl,?_,heap_alloc_new w.drew _,?_,lU,?_,?_⟩⟩,?_⟩,T1⟩,hk⟩
  ·simp
  ·simpa using oC
  ·simp only[Array.size_append,List.size_toArray,size_zeroCells,xI,dv.1,hl,<-Nat.add_mul]
   congr 1
   omega
  ·simp only[Array.toList_append,List.append_assoc]
   rw[<-List.append_assoc,lA,List.length_singleton,<-hlen]
   exact List.take_left
  ·rw[mE]
   refine((Ct.append hr).fresh (L':=g.toList++((some w.heap.size).toList++L)) λx hx=>?_).aF hk.any
   rcases mA.1 hx with hx|hx
   ·exact .inl (by simp[hx])
   ·rcases mA.1 hx with hx|hx
    ·right;simp at hx;omega
    ·exact .inl (by simp[hx])
 rcases dv.2 with⟨rfl,wR,rfl⟩|⟨b,cap,cur,rfl,rfl,hb,ml,lU,bZ,tq⟩
 ·have hx:xs=[]:=List.eq_nil_of_length_eq_zero (by rw[dv.1,wR];simp)
  subst hx
  have hr:=run_append_nil (P:=P) w t ty T i z ht hi hz ⟨ab,0,none⟩ 1 c news hl uG om om (by rw[wR] at xJ;simp only[Nat.zero_add] at xJ;omega)
  have kS:=grown 0 om
  rw[wR] at kS
  simp only[Nat.zero_add,List.nil_append,Array.empty_append] at kS⊢
  exact⟨_,some w.heap.size,_,hr,kS.1,(T0 L T i.size none rows (rows++[row])).of kS.2,.inr rfl⟩
 ·by_cases oD:rows.length+1<=cap
  ·have kv:rows.length*i.size+news.length<=cur.size:=by rw[hl,bZ,<-Nat.add_mul];exact Nat.mul_le_mul_right _ oD
   have jM:=run_append_room (P:=P) w t ty T i ht hi b rows.length cap cur hb ⟨ab,0,none⟩ 1 c news hl uG h1 oD kv
   have Ek:aj [b] w (w.setRow b (cur.toList.take (rows.length*i.size)++news++cur.toList.drop (rows.length*i.size+news.length)).toArray):=⟨rfl,rfl,rfl,sm,λk _ hk=>setRow_other w b k _ (by simpa using hk)⟩
   have Jj:aJ (w.setRow b (cur.toList.take (rows.length*i.size)++news++cur.toList.drop (rows.length*i.size+news.length)).toArray) b (cur.toList.take (rows.length*i.size)++news++cur.toList.drop (rows.length*i.size+news.length)).toArray T:=setRow_heap w b cur _ T _ hb
   have fC:(cur.toList.take (rows.length*i.size)++news++cur.toList.drop (rows.length*i.size+news.length)).toArray.size=cap*i.size:=by
    simp only[List.size_toArray,lA,List.length_take,List.length_drop,Array.length_toList]
    omega
   have T2:(cur.toList.take (rows.length*i.size)++news++cur.toList.drop (rows.length*i.size+news.length)).take ((rows.length+1)*i.size)=xs++news:=by
    rw[tq,<-hlen];exact List.take_left
   have afI:(cur.toList.take (rows.length*i.size)++news++cur.toList.drop (rows.length*i.size+news.length)).take (rows.length*i.size)=xs:=by
    rw[tq,<-dv.1,List.append_assoc];exact List.take_left
   -- whoever owns block b,owns it with this size
   have cap_of:∀(v:Value) (n:Nat) (ys:List Value),iH w T i.size v (some b) n ys->∃cap',v= .slice (some ⟨b,0,none⟩) n cap'∧n<=cap'∧cap'<=maxLen∧cap'*i.size=cap*i.size∧ys=cur.toList.take (n*i.size):=by
    intro v n ys hv
    rcases hv.2 with⟨_,_,h⟩|⟨b',cap',cur',e',Gl,gN,DF,px,D0,nP⟩
    ·cases h
    ·cases e'
     have:cur'=cur:=by have h2:=gN.symm.trans hb;simpa using h2
     subst this
     exact⟨cap',Gl,DF,px,by rw[<-D0,bZ],nP.symm⟩
   have wr:∀(v:Value) (n:Nat),(∃cap',v=Value.slice (some ⟨b,0,none⟩) n cap'∧n<=cap'∧cap'<=maxLen∧cap'*i.size=cap*i.size)->∀ys:List Value,ys.length=n*i.size->(cur.toList.take (rows.length*i.size)++news++cur.toList.drop (rows.length*i.size+news.length)).take (n*i.size)=ys->
     iH (w.setRow b (cur.toList.take (rows.length*i.size)++news++cur.toList.drop (rows.length*i.size+news.length)).toArray) T i.size v (some b) n ys:=by
    rintro v n ⟨cap',Gl,DF,px,D0⟩ ys hy eR
    exact⟨hy,.inr ⟨b,cap',_,rfl,Gl,Jj,DF,px,by rw[fC,D0],eR⟩⟩
   refine⟨_,some b,_,jM,⟨⟨xs++news,wr _ _ ⟨cap,sm,by simpa using oD,lU,rfl⟩ _ (by simpa using hlen) (by simpa using T2),?_⟩,T1⟩,⟨Ek,λv hv=>?_,λv g' hv=>?_⟩,.inl rfl⟩
   ·rw[mE]
    exact((Ct.append hr).fresh λx hx=>.inl (by simp only[mA] at hx⊢;rcases hx with h|h|h;exact .inl h;exact .inl h;exact .inr h)).aF (Ek.mono λx hx=>by simp at hx;simp[hx])
   ·obtain⟨ys,h1,h2⟩:=hv.own
    obtain⟨cap',a1,a2,a3,a4,a5⟩:=cap_of _ _ _ h1
    refine⟨⟨ys,wr _ _ ⟨cap',a1,a2,a3,a4⟩ _ h1.1 ?_,h2.aF (Ek.mono λx hx=>by simp at hx;simp[hx])⟩,hv.row⟩
    rw[afI,a5,tq]
   ·obtain⟨ys,h1,h2⟩:=hv.own
    by_cases AR:g'=some b
    ·subst AR
     obtain⟨cap',a1,a2,a3,a4,a5⟩:=cap_of _ _ _ h1
     refine⟨⟨xs++news,wr _ _ ⟨cap',a1,a2,a3,a4⟩ _ (by simpa using hlen) (by simpa using T2),?_⟩,hv.row⟩
     rw[mE]
     exact((Ct.append hr).fresh λx hx=>.inl (by simp only[mA] at hx⊢;rcases hx with h|h|h;exact .inl h;exact .inl h;exact .inr h)).aF (Ek.mono λx hx=>by simp at hx;simp[hx])
    ·exact⟨⟨ys,h1.aF Ek (λx hx fj=>AR (by simp at fj;rw[hx,fj])),h2.aF (Ek.mono λx hx=>by simp at hx;simp[hx])⟩,hv.row⟩
  ·have holds:∀j u,xs[j]?=some u->w.cell? ((⟨b,0,none⟩:Addr).add j)=some u:=λj u hu=>by
    rw[uF,hb.cell]
    rw[<-tq,List.getElem?_take] at hu
    split at hu
    ·simpa using hu
    ·cases hu
   have hr:=run_append_grow (P:=P) w t ty T i z ht hi hz ⟨b,0,none⟩ rows.length cap xs dv.1 holds ⟨ab,0,none⟩ 1 c news hl uG om om (growslice_fits om xJ)
   have kS:=grown cap om
   exact⟨_,some w.heap.size,_,hr,kS.1,(T0 L T i.size (some b) rows (rows++[row])).of kS.2,.inr rfl⟩
end
section
variable {P:Program} {n:Nat} {ops:Array Oper} {K:Env->World->Prop} {rest:List Oper} {e:Env} {w:World}
 {dst:Option Nat} {ty:TypeId} {pos:String} {after:Array Edge} {g:Option (Nat×Bool)} {x y:Operand}
theorem Cu {L:List Nat} {t:Nat} {v:Value} {gb:Option Nat} {rows:List (List C)} {row:List C} {news:List Value} {b c:Nat} (hT:P.underlying t=some (.slice E)) (hE:TI P E sz bytes z) (hg:gate ops e g=true) (hd:bV n dst=true) (hz:Nat.beq z.cells.size sz=true) (fK:Nat.ble bytes 1000=true) 
  (hx:ev e x=v) (hy:ev e y= .slice (some ⟨b,0,none⟩) 1 c) (hO:dH (gb.toList++L) w E sz v gb rows) (gZ:row.length=sz) (hc:fS w b 0 news) (h1:∀u∈news,u.oneCell'=true)
  (hr:cS (gb.toList++L) w news row) (hn:rows.length<100000000)
  (k:∀v' g' w',dH (gb.toList++(g'.toList++L)) w' E sz v' g' (rows++[row])->KA L E sz gb rows (rows++[row]) w w'->(g'=gb∨g'=some w.heap.size)->OW P n ops K rest (bM e dst v') w'):
  OW P n ops K (⟨dst,.call {callee:=.builtin .append,args:=#[x,y],argTypes:=#[t,t]},ty,pos,after,g⟩::rest) e w:=by
 obtain⟨i,hi,uO,fC,MY⟩:=hE.get
 have zR:bytes<=1000:=Nat.le_of_ble_eq_true fK
 obtain⟨v',g',w',jM,xP,hk,kz⟩:=afH (P:=P) (ty:=ty) hT hi uO fC MY (Nat.eq_of_beq_eq_true hz) hO b c news gZ hc h1 hr
  (Nat.le_trans (Nat.mul_le_mul (show rows.length+1<=100000000 by omega) (show bytes+1<=1001 by omega)) de)
 exact eQ hg hd (w':=w') (by
  simp only[execOp,resolve,invoke,builtin,Sem.run_bind,Sem.run_pure,Result.andThen_ok,List.map_toArray,List.map_cons,List.map_nil,hx,hy,jM]) (k v' g' w' xP hk kz)
end
/-! ### Behind it -/
theorem MZ:∀{vs:List Value} {xs:List ai},cS L w vs (ga xs).flatten->vs=xs.map λx=>str x
 |[],[],_=>rfl
 |v::vs,x::xs,h=>by
  obtain⟨h1,h2⟩:=h
  cases h1
  rw[MZ (xs:=xs) h2];rfl
theorem dH.uR {T:TypeId} (h:dH L w T 1 v g (ga xs)):cG w T v g xs:=by
 obtain⟨vs,h1,h2⟩:=h.own
 rw[qb,MZ h2] at h1;exact h1
theorem T3 (L:List Nat) (w:World):∀xs:List ai,cS L w (xs.map λx=>str x) (ga xs).flatten
 |[]=>trivial
 |_::xs=>⟨.val _,T3 L w xs⟩
theorem cG.T4 {T:TypeId} (h:cG w T v g xs) (L:List Nat):dH L w T 1 v g (ga xs):=
 ⟨⟨_,h.ad6,T3 L w xs⟩,λrow hr=>by obtain⟨x,_,rfl⟩:=List.mem_map.1 hr;rfl⟩
theorem T5 (xs:List ai) (x:ai):ga xs++[[.val (str x)]]=ga (xs++[x]):=by simp[ga]
theorem afJ (xs:List Nat) (x:Nat):tP xs++[[.val (.int .i64 (x:Int))]]=tP (xs++[x]):=by simp[tP]
section
variable {τ:sD} {E L:List Nat} {w w':World} {b:Nat} {o:Bool} {vb vt vc vy:Value} {gb gt gc gy:Option Nat} {m:Mk}
def pN (E:List Nat) (b:Nat) (gb gt gy:Option Nat):List Nat:=E++b::(gb.toList++(gt.toList++gy.toList))
theorem yh:x∈pN E b gb gt gy↔x∈E∨x=b∨x∈gb.toList∨x∈gt.toList∨x∈gy.toList:=by simp[pN]
theorem gk.M0 (h:gk τ E L w b o vb vt vc vy gb gt gc gy m):bc (pN E b gb gt gy) w vc m.code:=by
 obtain⟨a1,a2,a3,a4,a5,a6⟩:=h.apart
 rcases h.co with⟨_,h1⟩|⟨_,hn,h1⟩
 ·refine h1.rep λx hx hh=>?_
  have vv:x∈gc.toList:=by simp[hx]
  rw[yh] at hh
  rcases hh with hh|hh|hh|hh|hh
  ·exact(a5 x vv).1 hh
  ·exact(a5 x vv).2.1 hh
  ·exact(a5 x vv).2.2.1 hh
  ·exact(a5 x vv).2.2.2 hh
  ·exact(a6 x hh).2.2.2.2 vv
 ·exact h1.fresh λx hx=>.inl (h.mem.2 (by rw[yh] at hx;rcases hx with h|h|h|h|h<;>simp[h]))
theorem gk.T6 (h:gk τ E L w b o vb vt vc vy gb gt gc gy m):∀x,x∈pN E b gb gt gy->x∈L:=λx hx=>h.mem.2 (by rw[yh] at hx;rcases hx with h|h|h|h|h<;>simp[h])
theorem gk.afK (h:gk τ E L w b o vb vt vc vy gb gt gc gy m) (hy:dH (gb.toList++(g.toList++pN E b gb gt gy)) w' τ.B 3 v g (bs.map Bk.enc)) (k:aj gb.toList w w') (hg:g=gb∨∃x,g=some x∧w.heap.size<=x):
  ∃L',gk τ E L' w' b false v vt vc vy g gt none gy {m with blocks:=bs}∧Fr L w L' w':=by
 obtain⟨a1,a2,a3,a4,a5,a6⟩:=h.apart
 have kz:∀x,x∈g.toList->x∈gb.toList∨w.heap.size<=x∧x∉gt.toList∧x∉(none:Option Nat).toList∧x∉gy.toList:=λx hx=>by
  rcases hg with rfl|⟨y,rfl,hy⟩
  ·exact .inl hx
  ·have hx:x=y:=by simpa using hx
   refine .inr ⟨by omega,λhh=>?_,sm,λhh=>?_⟩<;>have:=h.IW (x:=x) (by simp[hh])<;>omega
 obtain⟨hF,hN⟩:=h.swap k (λx hx=>⟨h.mem.2 (by simp[hx]),(a3 x hx).2,(a3 x hx).1⟩) (gb':=g) (gt':=gt) (gc':=none) (gy':=gy) kz (λx hx=>.inl hx) (λx hx=>by simp at hx) (λx hx=>.inl hx)
 have hcr:bc (E++b::(g.toList++(gt.toList++((none:Option Nat).toList++gy.toList)))) w' vc m.code:=by
  have h1:bc (pN E b gb gt gy) w' vc m.code:=bQ.aD h.M0 k λx hx=>yh.2 (by simp[hx])
  have h2:bc (g.toList++pN E b gb gt gy) w' vc m.code:=by
   rcases hg with rfl|⟨y,rfl,hy⟩
   ·exact h1.fresh λx hx=>.inl (by rcases mA.1 hx with h|h;exact yh.2 (by simp[h]);exact h)
   ·exact bQ.aD (h.M0.fresh (L':=(some y).toList++pN E b gb gt gy) λx hx=>by
     rcases mA.1 hx with h|h
     ·simp at h;right;omega
     ·exact .inl h) k λx hx=>mR _ (yh.2 (by simp[hx]))
  exact h2.fresh λx hx=>.inl (by
   rw[xY] at hx
   rw[mA,yh]
   rcases hx with h|h|h|h|h|h
   ·simp[h]
   ·simp[h]
   ·simp[h]
   ·simp[h]
   ·simp at h
   ·simp[h])
 refine⟨_,⟨hy.sub λx hx=>.inl ?_,h.ta.aF hF k (λx hx hy=>(a4 x hx).2.2 hy),.inr ⟨rfl,rfl,hcr⟩,h.ty.aF k λx hx hy=>(a6 x (by simp[hx])).2.2.1 hy,rfl,hN,?_⟩,hF⟩
 ·rw[xY] at hx
  rw[mA,mA,yh]
  rcases hx with h|h|h|h|h|h
  ·simp[h]
  ·simp[h]
  ·simp[h]
  ·simp[h]
  ·simp at h
  ·simp[h]
 ·intro x hx
  rw[xY] at hx
  have hs:=k.size
  rcases hx with hx|hx|hx|hx|hx|hx
  ·exact lL (h.cC x (h.mem.2 (by simp[hx]))) hs
  ·exact lL (h.cC x (h.mem.2 (by simp[hx]))) hs
  ·exact hy.lt x hx
  ·exact lL (h.cC x (h.mem.2 (by simp[hx]))) hs
  ·simp at hx
  ·exact lL (h.cC x (h.mem.2 (by simp[hx]))) hs
theorem gk.FX (h:gk τ E L w b o vb vt vc vy gb gt gc gy m) {ts:List Tk} (hy:dH (gt.toList++(g.toList++L)) w' τ.T 12 v g (ts.map Tk.enc)) (k:aj gt.toList w w') (hg:g=gt∨∃x,g=some x∧w.heap.size<=x):
  ∃L',gk τ E L' w' b o vb v vc vy gb g gc gy {m with bF:=ts}∧Fr L w L' w':=by
 obtain⟨a1,a2,a3,a4,a5,a6⟩:=h.apart
 have kz:∀x,x∈g.toList->x∈gt.toList∨w.heap.size<=x∧x∉gb.toList∧x∉gc.toList∧x∉gy.toList:=λx hx=>by
  rcases hg with rfl|⟨y,rfl,hy⟩
  ·exact .inl hx
  ·have hx:x=y:=by simpa using hx
   refine .inr ⟨by omega,λhh=>?_,λhh=>?_,λhh=>?_⟩<;>have:=h.IW (x:=x) (by simp[hh])<;>omega
 obtain⟨hF,hN⟩:=h.swap k (λx hx=>⟨h.mem.2 (by simp[hx]),(a4 x hx).2.1,(a4 x hx).1⟩) (gb':=gb) (gt':=g) (gc':=gc) (gy':=gy) (λx hx=>.inl hx) kz (λx hx=>.inl hx) (λx hx=>.inl hx)
 refine⟨_,⟨h.bl.aF hF k (λx hx hy=>(a4 x hy).2.2 hx),hy.sub λx hx=>.inl ?_,?_,h.ty.aF k λx hx hy=>(a6 x (by simp[hx])).2.2.2.1 hy,rfl,hN,?_⟩,hF⟩
 ·rw[xY] at hx
  rw[mA,mA,h.mem]
  rcases hx with h|h|h|h|h|h<;>simp[h]
 ·rcases h.co with⟨ho,h1⟩|⟨ho,hn,h1⟩
  ·exact .inl ⟨ho,h1.aF k λx hx hy=>(a5 x (by simp[hx])).2.2.2 hy⟩
  ·exact .inr ⟨ho,hn,h1.go hF⟩
 ·intro x hx
  rw[xY] at hx
  have hs:=k.size
  rcases hx with hx|hx|hx|hx|hx|hx
  ·exact lL (h.cC x (h.mem.2 (by simp[hx]))) hs
  ·exact lL (h.cC x (h.mem.2 (by simp[hx]))) hs
  ·exact lL (h.cC x (h.mem.2 (by simp[hx]))) hs
  ·exact hy.lt x hx
  ·exact lL (h.cC x (h.mem.2 (by simp[hx]))) hs
  ·exact lL (h.cC x (h.mem.2 (by simp[hx]))) hs
theorem gk.num (h:gk τ E L w b o vb vt vc vy gb gt gc gy m) (c:Nat) (q:Bool):gk τ E L w b o vb vt vc vy gb gt gc gy {m with count:=c,wide:=q}:=⟨h.bl,h.ta,h.co,h.ty,h.eL,h.nd,h.cC⟩
end
theorem Fr.in {G G':List Nat} (h:Fr G w G' w') (E:List Nat):Fr (E++G) w (E++G') w':=
 ⟨h.aF.mono λx hx=>mR _ hx,λx hx=>by
  rcases mA.1 hx with hx|hx
  ·exact .inl (List.mem_append_left _ hx)
  ·rcases h.mem x hx with h1|h1
   ·exact .inl (mR _ h1)
   ·exact .inr h1⟩
structure yi where
 M:TypeId
 S:TypeId
 T:TypeId
structure iz (τ:yi) (E G:List Nat) (w:World) (b:Nat) (vt vn ve:Value) (gn ge:Option Nat) (ag aK:List ai) (exprs:List aq):Prop where
 ta:bc (E++G) w vt ag
 na:cG w τ.S vn gn aK
 ex:dH (E++G) w τ.T 2 ve ge (cT exprs)
 eG:G=b::(gn.toList++ge.toList)
 nd:(E++G).Nodup
 cC:∀x,x∈E++G->x<w.heap.size
section
variable {τ:yi} {E G:List Nat} {w w':World} {b:Nat} {vt vn ve:Value} {gn ge:Option Nat} {ag aK:List ai} {exprs:List aq}
theorem iz.mem (h:iz τ E G w b vt vn ve gn ge ag aK exprs):x∈G↔x=b∨x∈gn.toList∨x∈ge.toList:=by rw[h.eG];simp
theorem iz.apart (h:iz τ E G w b vt vn ve gn ge ag aK exprs):E.Nodup∧b∉E∧(∀x,x∈gn.toList->x∉E∧x≠b)∧(∀x,x∈ge.toList->x∉E∧x≠b∧x∉gn.toList):=by
 have hn:=h.nd
 rw[h.eG,List.nodup_append,List.nodup_cons,List.nodup_append] at hn
 obtain⟨h1,⟨h2,h3,h4,h5⟩,h6⟩:=hn
 refine⟨h1,λhb=>h6 b hb b sm rfl,λx hx=>⟨λhe=>h6 x he x (by simp[hx]) rfl,λe=>h2 (by simp[<-e,hx])⟩,λx hx=>⟨λhe=>h6 x he x (by simp[hx]) rfl,λe=>h2 (by simp[<-e,hx]),λhy=>h5 x hy x hx rfl⟩⟩
theorem T7 {A B:Option Nat} {F:List Nat} {b:Nat} (h1:F.Nodup) (h2:b∉F) (ha:∀x,x∈A.toList->x∉F∧x≠b) (hb:∀x,x∈B.toList->x∉F∧x≠b∧x∉A.toList):(F++b::(A.toList++B.toList)).Nodup:=by grind
theorem iz.T8 (h:iz τ E G w b vt vn ve gn ge ag aK exprs) {ys:List ai} (hy:cG w' τ.S v g ys) (k:aj gn.toList w w') (hg:g=gn∨g=some w.heap.size):
  ∃G',iz τ E G' w' b vt v ve g ge ag ys exprs∧Fr G w G' w':=by
 obtain⟨a1,a2,a3,a4⟩:=h.apart
 have o5:∀x,x∈g.toList->x∈gn.toList∨x=w.heap.size:=λx hx=>by
  rcases hg with rfl|rfl
  ·exact .inl hx
  ·right;simpa using hx
 have dU:∀x,x∈E++G->x≠w.heap.size:=λx hx e=>by have:=h.cC x hx;omega
 have hF:Fr G w (b::(g.toList++ge.toList)) w':=⟨k.mono λx hx=>h.mem.2 (by simp[hx]),λx hx=>by
  rcases mC.1 hx with rfl|hx
  ·exact .inl (h.mem.2 (.inl rfl))
  ·rcases mA.1 hx with hx|hx
   ·rcases o5 x hx with h1|h1
    ·exact .inl (h.mem.2 (by simp[h1]))
    ·right;omega
   ·exact .inl (h.mem.2 (by simp[hx]))⟩
 have hN:(E++b::(g.toList++ge.toList)).Nodup:=T7 a1 a2 (λx hx=>by
  rcases o5 x hx with h1|h1
  ·exact a3 x h1
  ·exact⟨λhe=>dU x (by simp[he]) h1,λe=>dU x (mR _ (h.mem.2 (.inl e))) h1⟩) (λx hx=>⟨(a4 x hx).1,(a4 x hx).2.1,λhy=>by
  rcases o5 x hy with h1|h1
  ·exact(a4 x hx).2.2 h1
  ·exact dU x (mR _ (h.mem.2 (by simp[hx]))) h1⟩)
 refine⟨_,⟨h.ta.go (hF.in E),hy,h.ex.aF (hF.in E) k (λx hx hy=>(a4 x hx).2.2 hy),rfl,hN,λx hx=>?_⟩,hF⟩
 have hs:=k.size
 rcases mA.1 hx with hx|hx
 ·exact lL (h.cC x (by simp[hx])) hs
 ·rcases mC.1 hx with rfl|hx
  ·exact lL (h.cC x (mR _ (h.mem.2 (.inl rfl)))) hs
  ·rcases mA.1 hx with hx|hx
   ·exact hy.lt x hx
   ·exact lL (h.cC x (mR _ (h.mem.2 (by simp[hx])))) hs
theorem iz.aF (h:iz τ E G w b vt vn ve gn ge ag aK exprs) {H:List Nat} (k:aj H w w') (hH:∀x,x∈H->x=b):iz τ E G w' b vt vn ve gn ge ag aK exprs:=by
 obtain⟨a1,a2,a3,a4⟩:=h.apart
 have hF:Fr (E++G) w (E++G) w':=Fr.of k λx hx=>mR _ (h.mem.2 (.inl (hH x hx)))
 exact⟨h.ta.go hF,h.na.aF k (λx hx hy=>(a3 x (by simp[hx])).2 (hH x hy)),h.ex.aF hF k (λx hx hy=>(a4 x hx).2.1 (hH x hy)),h.eG,h.nd,λx hx=>lL (h.cC x hx) k.size⟩
theorem M1 {w:World} {T:TypeId} (hx:aJ w x #[] T):iH w T sz (.slice (some ⟨x,0,none⟩) 0 0) (some x) 0 []:=by grind [aJ,iH]
theorem T9 {w:World} {T:TypeId} (hx:aJ w x #[] T):cG w T (.slice (some ⟨x,0,none⟩) 0 0) (some x) []:=M1 hx
theorem M3 {w:World} {T:TypeId} (hx:aJ w x #[] T):dH L w T sz (.slice (some ⟨x,0,none⟩) 0 0) (some x) []:=⟨⟨[],M1 hx,trivial⟩,sm⟩
theorem iz.opened (h:iz τ E G w b vt vn ve gn ge ag aK exprs) (k:aj [b] w w') {y:Nat} (hx:aJ w' x #[] τ.S) (hy:aJ w' y #[] τ.T) (h1:w.heap.size<=x) (h2:x<y):
  iz τ (gn.toList++(ge.toList++E)) (b::[x,y]) w' b vt (.slice (some ⟨x,0,none⟩) 0 0) (.slice (some ⟨y,0,none⟩) 0 0) (some x) (some y) ag [] []∧
   cG w' τ.S vn gn aK∧dH (E++G) w' τ.T 2 ve ge (cT exprs)∧Fr G w (b::[x,y]) w':=by
 obtain⟨a1,a2,a3,a4⟩:=h.apart
 have dU:∀z,z∈E++G->z<w.heap.size:=h.cC
 have hF:Fr (E++G) w ((gn.toList++(ge.toList++E))++(b::[x,y])) w':=⟨k.mono λz hz=>mR _ (h.mem.2 (.inl (by simpa using hz))),λz hz=>by
  simp only[mA,mC,List.not_mem_nil,or_false] at hz
  rcases hz with(hz|hz|hz)|hz|hz|hz
  ·exact .inl (mR _ (h.mem.2 (.inr (.inl hz))))
  ·exact .inl (mR _ (h.mem.2 (.inr (.inr hz))))
  ·exact .inl (List.mem_append_left _ hz)
  ·exact .inl (mR _ (h.mem.2 (.inl hz)))
  ·right;omega
  ·right;omega⟩
 have ka:Fr (E++G) w (E++G) w':=Fr.of k λz hz=>mR _ (h.mem.2 (.inl (by simpa using hz)))
 have hb:b<w.heap.size:=dU b (mR _ (h.mem.2 (.inl rfl)))
 have o5:∀z,z∈gn.toList->z<w.heap.size:=λz hz=>dU z (mR _ (h.mem.2 (.inr (.inl hz))))
 have oC:∀z,z∈ge.toList->z<w.heap.size:=λz hz=>dU z (mR _ (h.mem.2 (.inr (.inr hz))))
 have hE:∀z,z∈E->z<w.heap.size:=λz hz=>dU z (List.mem_append_left _ hz)
 refine⟨⟨h.ta.go hF,T9 hx,M3 hy,rfl,?_,?_⟩,h.na.aF k (λz hz hy=>(a3 z (by simp[hz])).2 (by simpa using hy)),h.ex.aF ka k (λz hz hy=>(a4 z hz).2.1 (by simpa using hy)),⟨k.mono λz hz=>h.mem.2 (.inl (by simpa using hz)),λz hz=>?_⟩⟩
 ·rw[List.nodup_append,List.nodup_append,List.nodup_append]
  refine⟨⟨Ms gn,⟨Ms ge,a1,λp hp q hq e=>(a4 p hp).1 (e▸hq)⟩,λp hp q hq e=>?_⟩,?_,λp hp q hq e=>?_⟩
  ·subst e
   rcases mA.1 hq with hq|hq
   ·exact(a4 p hq).2.2 hp
   ·exact(a3 p hp).1 hq
  ·simp only[List.nodup_cons,mC,List.not_mem_nil,or_false,not_false_eq_true,List.nodup_nil,and_true]
   omega
  ·subst e
   simp only[mC,List.not_mem_nil,or_false] at hq
   simp only[mA] at hp
   rcases hp with hp|hp|hp
   ·rcases hq with hq|hq|hq
    ·exact(a3 p hp).2 hq
    ·have:=o5 p hp;omega
    ·have:=o5 p hp;omega
   ·rcases hq with hq|hq|hq
    ·exact(a4 p hp).2.1 hq
    ·have:=oC p hp;omega
    ·have:=oC p hp;omega
   ·rcases hq with hq|hq|hq
    ·subst hq;exact a2 hp
    ·have:=hE p hp;omega
    ·have:=hE p hp;omega
 ·intro z hz
  simp only[mA,mC,List.not_mem_nil,or_false] at hz
  have hs:=k.size
  rcases hz with(hz|hz|hz)|hz|hz|hz
  ·have:=o5 z hz;omega
  ·have:=oC z hz;omega
  ·have:=hE z hz;omega
  ·omega
  ·rw[hz];exact hx.lt
  ·rw[hz];exact hy.lt
 ·simp only[mC,List.not_mem_nil,or_false] at hz
  rcases hz with hz|hz|hz
  ·exact .inl (h.mem.2 (.inl hz))
  ·right;omega
  ·right;omega
theorem iz.closed {G2:List Nat} {Cv vn2 ve2:Value} {gn2 ge2:Option Nat} {afQ:List ai} {afR:List aq} {w0:World} (h:iz τ E G w0 b vt vn ve gn ge ag aK exprs) 
  (h2:iz τ (gn.toList++(ge.toList++E)) G2 w b Cv vn2 ve2 gn2 ge2 ag afQ afR) (hn:cG w τ.S vn gn aK) (he:dH (E++G) w τ.T 2 ve ge (cT exprs)) (hk:Fr G w0 G2 w) (k:aj [b] w w'):
  iz τ E G w' b Cv vn ve gn ge ag aK exprs∧Fr G w0 G w':=by
 obtain⟨a1,a2,a3,a4⟩:=h.apart
 have GA:aj G w w':=k.mono λz hz=>h.mem.2 (.inl (by simpa using hz))
 have ka:Fr (E++G) w (E++G) w':=Fr.of GA λz hz=>mR _ hz
 have rI:∀z,z∈E++G->z∈(gn.toList++(ge.toList++E))++G2:=λz hz=>by
  rcases mA.1 hz with hz|hz
  ·simp[hz]
  ·rcases h.mem.1 hz with hz|hz|hz
   ·exact mR _ (h2.mem.2 (.inl hz))
   ·simp[hz]
   ·simp[hz]
 have sM:bc (E++G) w Cv ag:=h2.ta.fresh λz hz=>.inl (rI z hz)
 refine⟨⟨sM.go ka,hn.aF k (λz hz hy=>(a3 z (by simp[hz])).2 (by simpa using hy)),he.aF ka k (λz hz hy=>(a4 z hz).2.1 (by simpa using hy)),h.eG,h.nd,λz hz=>?_⟩,⟨hk.aF.since GA λz hz=>.inl hz,λz hz=>.inl hz⟩⟩
 have:=h.cC z hz
 have h3:=hk.aF.size
 have h4:=k.size
 omega
def m5V (n:Nat) (vt vn ve:Value):List Value:=[vt,.int .i64 (n:Int),vn,ve]
def M5 (τ:yi) (E G:List Nat) (w:World) (b:Nat) (ag:List ai) (n:Nat) (aK:List ai) (exprs:List aq):Prop:=∃vt vn ve gn ge,aJ w b (m5V n vt vn ve).toArray τ.M∧iz τ E G w b vt vn ve gn ge ag aK exprs
theorem iz.ext (h:iz τ E G w b vt vn ve gn ge ag aK exprs) (k:aj [] w w'):iz τ E G w' b vt vn ve gn ge ag aK exprs:=h.aF k sm
theorem M5.ext (h:M5 τ E G w b ag n aK exprs) (k:aj [] w w'):M5 τ E G w' b ag n aK exprs:=by
 obtain⟨vt,vn,ve,gn,ge,h1,h2⟩:=h
 exact⟨vt,vn,ve,gn,ge,h1.aF k sm,h2.ext k⟩
end
structure dM (L:List Nat) (w:World) (b:Nat) (vs:Array Value) (T:TypeId):Prop where
 gX:aJ w b vs T
 out:b∉L
theorem dM.lt {vs:Array Value} {T:TypeId} (h:dM L w b vs T):b<w.heap.size:=h.gX.lt
theorem dM.at {T:TypeId} (h:dM L w b vs.toArray T) (hv:vs[i]?=some v):w.cell? ⟨b,i,none⟩=some v:=h.gX.at hv
theorem dM.all {T:TypeId} (h:dM L w b vs.toArray T):fS w b 0 vs:=h.gX.all
theorem dM.go {vs:Array Value} {T:TypeId} (h:dM L w b vs T) (k:Fr L w L' w'):dM L' w' b vs T:=
 ⟨h.gX.aF k.aF h.out,λhx=>by
  rcases k.mem b hx with h1|h1
  ·exact h.out h1
  ·have:=h.gX.lt;omega⟩
theorem dM.ext {vs:Array Value} {T:TypeId} (h:dM L w b vs T) (k:aj [] w w'):dM L w' b vs T:=⟨h.gX.ext k,h.out⟩
theorem dM.aD {G:List Nat} {vs:Array Value} {T:TypeId} (h:dM L w b vs T) (k:aj G w w') (hG:∀x,x∈G->x∈L):dM L w' b vs T:=h.go (Fr.of k hG)
theorem aJ.o {vs:Array Value} {T:TypeId} (h:aJ w b vs T) (hL:∀x,x∈L->x<b):dM L w b vs T:=⟨h,λhx=>by have:=hL b hx;omega⟩
theorem cG.rs {T:TypeId} (h:cG w T v g xs):bc [] w v xs:=h.rep sm
theorem jS {T:TypeId} (h:cG w T v g xs):∃a c,v= .slice a xs.length c:=iH.len h
section
variable {P:Program} {n:Nat} {ops:Array Oper} {K:Env->World->Prop} {rest:List Oper} {e:Env} {w:World} {dst:Option Nat} {ty:TypeId} {pos:String} {after:Array Edge} {g:Option (Nat×Bool)} {x y:Operand}
theorem Ua {t:Nat} {v:Value} {gb:Option Nat} {xs:List ai} {s:ai} {b U:Nat} (hT:P.underlying t=some (.slice E)) (hE:TI P E 1 bytes z) (hg:gate ops e g=true) (hd:bV n dst=true) (hz:Nat.beq z.cells.size 1=true) (fK:Nat.ble bytes 1000=true) 
  (hx:ev e x=v) (hy:ev e y= .slice (some ⟨b,0,none⟩) 1 1) (hO:cG w E v gb xs) (hb:aJ w b [str s].toArray U) (hn:xs.length<100000000)
  (k:∀v' g' w',cG w' E v' g' (xs++[s])->aj gb.toList w w'->Fr gb.toList w g'.toList w'->OW P n ops K rest (bM e dst v') w'):
  OW P n ops K (⟨dst,.call {callee:=.builtin .append,args:=#[x,y],argTypes:=#[t,t]},ty,pos,after,g⟩::rest) e w:=by
 refine Cu (L:=[]) (row:=[.val (str s)]) hT hE hg hd hz fK hx hy (hO.T4 _) rfl hb.all (by simp[Value.oneCell']) ⟨.val _,trivial⟩ (by rw[qb];exact hn) ?_
 intro v' g' w' iU hk kz
 rw[T5] at iU
 refine k v' g' w' iU.uR hk.aF ⟨hk.aF,λq hq=>?_⟩
 rcases kz with h|h
 ·rw[h] at hq;exact .inl hq
 ·rw[h] at hq;simp at hq;right;omega
theorem kL {T:Nat} (hT:P.underlying T=some (.slice E)) (hE:TI P E 1 bytes z) (hg:gate ops e g=true) (hd:bV n dst=true) (h1:ev e q1=str a1) (h2:ev e q2=str a2) 
  (k:∀w',aj [] w w'->aJ w' w.heap.size [str a1,str a2].toArray E->w'.heap.size=w.heap.size+1->OW P n ops K rest (bM e dst (.slice (some ⟨w.heap.size,0,none⟩) 2 2)) w'):
  OW P n ops K (⟨dst,.buildSlice T 2 #[(0,q1),(1,q2)],ty,pos,after,g⟩::rest) e w:=
 sL [q1,q2] [[str a1],[str a2]] hT hE hg hd rfl rfl rfl rfl rfl (by simp[h1,h2,Value.cells]) rfl k
theorem pO {T:Nat} (hT:P.underlying T=some (.slice E)) (hE:TI P E 1 bytes z) (hg:gate ops e g=true) (hd:bV n dst=true) (h1:ev e q1=str a1) (h2:ev e q2=str a2) (h3:ev e q3=str a3) 
  (k:∀w',aj [] w w'->aJ w' w.heap.size [str a1,str a2,str a3].toArray E->w'.heap.size=w.heap.size+1->OW P n ops K rest (bM e dst (.slice (some ⟨w.heap.size,0,none⟩) 3 3)) w'):
  OW P n ops K (⟨dst,.buildSlice T 3 #[(0,q1),(1,q2),(2,q3)],ty,pos,after,g⟩::rest) e w:=
 sL [q1,q2,q3] [[str a1],[str a2],[str a3]] hT hE hg hd rfl rfl rfl rfl rfl (by simp[h1,h2,h3,Value.cells]) rfl k
theorem yj {T:Nat} (hT:P.underlying T=some (.slice E)) (hE:TI P E 1 bytes z) (hg:gate ops e g=true) (hd:bV n dst=true) (h1:ev e q1=str a1) (h2:ev e q2=str a2) (h3:ev e q3=str a3) (h4:ev e q4=str a4) 
  (k:∀w',aj [] w w'->aJ w' w.heap.size [str a1,str a2,str a3,str a4].toArray E->w'.heap.size=w.heap.size+1->OW P n ops K rest (bM e dst (.slice (some ⟨w.heap.size,0,none⟩) 4 4)) w'):
  OW P n ops K (⟨dst,.buildSlice T 4 #[(0,q1),(1,q2),(2,q3),(3,q4)],ty,pos,after,g⟩::rest) e w:=
 sL [q1,q2,q3,q4] [[str a1],[str a2],[str a3],[str a4]] hT hE hg hd rfl rfl rfl rfl rfl (by simp[h1,h2,h3,h4,Value.cells]) rfl k
theorem Ub {T:Nat} (hT:P.underlying T=some (.slice E)) (hE:TI P E 1 bytes z) (hg:gate ops e g=true) (hd:bV n dst=true) (h1:ev e q1=str a1) (h2:ev e q2=str a2) (h3:ev e q3=str a3) (h4:ev e q4=str a4) (h5:ev e q5=str a5) 
  (k:∀w',aj [] w w'->aJ w' w.heap.size [str a1,str a2,str a3,str a4,str a5].toArray E->w'.heap.size=w.heap.size+1->OW P n ops K rest (bM e dst (.slice (some ⟨w.heap.size,0,none⟩) 5 5)) w'):
  OW P n ops K (⟨dst,.buildSlice T 5 #[(0,q1),(1,q2),(2,q3),(3,q4),(4,q5)],ty,pos,after,g⟩::rest) e w:=
 sL [q1,q2,q3,q4,q5] [[str a1],[str a2],[str a3],[str a4],[str a5]] hT hE hg hd rfl rfl rfl rfl rfl (by simp[h1,h2,h3,h4,h5,Value.cells]) rfl k
theorem afT {T:Nat} (hT:P.underlying T=some (.slice E)) (hE:TI P E 1 bytes z) (hg:gate ops e g=true) (hd:bV n dst=true) (h1:ev e q1=str a1) (h2:ev e q2=str a2) (h3:ev e q3=str a3) (h4:ev e q4=str a4) (h5:ev e q5=str a5) (h6:ev e q6=str a6) 
  (k:∀w',aj [] w w'->aJ w' w.heap.size [str a1,str a2,str a3,str a4,str a5,str a6].toArray E->w'.heap.size=w.heap.size+1->OW P n ops K rest (bM e dst (.slice (some ⟨w.heap.size,0,none⟩) 6 6)) w'):
  OW P n ops K (⟨dst,.buildSlice T 6 #[(0,q1),(1,q2),(2,q3),(3,q4),(4,q5),(5,q6)],ty,pos,after,g⟩::rest) e w:=
 sL [q1,q2,q3,q4,q5,q6] [[str a1],[str a2],[str a3],[str a4],[str a5],[str a6]] hT hE hg hd rfl rfl rfl rfl rfl (by simp[h1,h2,h3,h4,h5,h6,Value.cells]) rfl k
theorem Uc {T:Nat} {q7 q8:Operand} {a7 a8:ai} (hT:P.underlying T=some (.slice E)) (hE:TI P E 1 bytes z) (hg:gate ops e g=true) (hd:bV n dst=true) (h1:ev e q1=str a1) (h2:ev e q2=str a2) (h3:ev e q3=str a3) (h4:ev e q4=str a4) (h5:ev e q5=str a5) (h6:ev e q6=str a6) (h7:ev e q7=str a7) (h8:ev e q8=str a8) 
  (k:∀w',aj [] w w'->aJ w' w.heap.size [str a1,str a2,str a3,str a4,str a5,str a6,str a7,str a8].toArray E->w'.heap.size=w.heap.size+1->OW P n ops K rest (bM e dst (.slice (some ⟨w.heap.size,0,none⟩) 8 8)) w'):
  OW P n ops K (⟨dst,.buildSlice T 8 #[(0,q1),(1,q2),(2,q3),(3,q4),(4,q5),(5,q6),(6,q7),(7,q8)],ty,pos,after,g⟩::rest) e w:=
 sL [q1,q2,q3,q4,q5,q6,q7,q8] [[str a1],[str a2],[str a3],[str a4],[str a5],[str a6],[str a7],[str a8]] hT hE hg hd rfl rfl rfl rfl rfl (by simp[h1,h2,h3,h4,h5,h6,h7,h8,Value.cells]) rfl k
theorem afU {T:Nat} {q7 q8 q9 M4:Operand} {a7 a8 a9 Jk:ai} (hT:P.underlying T=some (.slice E)) (hE:TI P E 1 bytes z) (hg:gate ops e g=true) (hd:bV n dst=true) (h1:ev e q1=str a1) (h2:ev e q2=str a2) (h3:ev e q3=str a3) (h4:ev e q4=str a4) (h5:ev e q5=str a5) (h6:ev e q6=str a6) (h7:ev e q7=str a7) (h8:ev e q8=str a8) (h9:ev e q9=str a9) (fO:ev e M4=str Jk) 
  (k:∀w',aj [] w w'->aJ w' w.heap.size [str a1,str a2,str a3,str a4,str a5,str a6,str a7,str a8,str a9,str Jk].toArray E->w'.heap.size=w.heap.size+1->OW P n ops K rest (bM e dst (.slice (some ⟨w.heap.size,0,none⟩) 10 10)) w'):
  OW P n ops K (⟨dst,.buildSlice T 10 #[(0,q1),(1,q2),(2,q3),(3,q4),(4,q5),(5,q6),(6,q7),(7,q8),(8,q9),(9,M4)],ty,pos,after,g⟩::rest) e w:=
 sL [q1,q2,q3,q4,q5,q6,q7,q8,q9,M4] [[str a1],[str a2],[str a3],[str a4],[str a5],[str a6],[str a7],[str a8],[str a9],[str Jk]] hT hE hg hd rfl rfl rfl rfl rfl (by simp[h1,h2,h3,h4,h5,h6,h7,h8,h9,fO,Value.cells]) rfl k
end
theorem bB.eq {u:aq} (h:bB L w v t) (e:t=u):bB L w v u:=e▸h
theorem eW (h:eM L w (.slice a n c) ts) (hi:i<ts.length):
  ∃b off pa pc,a=some ⟨b,off,none⟩∧fy L w b (off+i*2) [str (nth ts i).aw,.slice pa (nth ts i).ak.length pc]∧bB L w (.agg #[str (nth ts i).aw,.slice pa (nth ts i).ak.length pc]) (nth ts i):=by
 obtain⟨b,off,vs,ha,hb,hL,hl,hc,hr⟩:=zn h (Lh (gh hi))
 obtain⟨pa,pn,pc,he,hn,hp⟩:=cU (t:=nth ts i) ⟨vs,rfl,hr⟩
 have hv:vs=[str (nth ts i).aw,.slice pa pn pc]:=by
  have:=congrArg (λv=>match v with|Value.agg x=>x.toList|_=>[]) he
  simpa using this
 subst hv hn
 exact⟨b,off,pa,pc,ha,⟨hc,hb,hL⟩,kV hp⟩
theorem aJ.uR {T:Nat} (xs:List ai) (h:aJ w b (xs.map λx=>str x).toArray T) (hl:xs.length<=100000:=by simp):cG w T (.slice (some ⟨b,0,none⟩) xs.length xs.length) (some b) xs:=
 ⟨by simp,.inr ⟨b,xs.length,_,rfl,rfl,h,lR _,Nat.le_trans hl de,sm,by rw[Nat.mul_one,List.take_of_length_le sm]⟩⟩
theorem aJ.dK {T:Nat} (xs:List ai) (h:aJ w b (xs.map λx=>str x).toArray T) (hL:b∉L) (hl:xs.length<=100000:=by simp):bc L w (.slice (some ⟨b,0,none⟩) xs.length xs.length) xs:=
 (h.uR xs hl).rep λq hq=>by cases hq;exact hL
theorem aJ.kM {T:Nat} (h:aJ w b #[] T):cG w T (.slice (some ⟨b,0,none⟩) 0 0) (some b) []:=T9 h
theorem sN (h:n<1000):(aT n).length<=3:=by grind [aT]
theorem lG (h:ai) (ps:List ai):(dR h ps).length=h.length+2+jv ps:=by grind [dR,R4,jv]
theorem afV {m:Nat}:∀xs:List ai,(∀s,s∈xs->s.length<=m)->(xs.map List.length).sum<=xs.length*m:=by intro x;induction x<;>grind [lC,Nat.add_mul]
theorem AS {m:Nat} (xs:List ai) (h:∀s,s∈xs->s.length<=m):jv xs<=xs.length*(m+1):=by
 have:=afV xs h
 unfold jv;rw[Nat.mul_add];omega
structure jT (s:cD):Prop where
 types:xU (ew s)
 regs:∀p,p∈s->p.2.1<1000
theorem GB (h:jT s) (x:ai):kn s x<1000:=by
 unfold kn
 cases hf:s.reverse.find? λp=>decide (p.1=x) with
 |none=>simp
 |some p=>exact h.regs p (List.mem_reverse.1 (List.mem_of_find?_eq_some hf))
theorem Jl (h:jT s) (x:ai):(j5 s x).n<=16:=by
 unfold j5
 cases hl:look (ew s) x with
 |none=>decide
 |some T=>exact h.types x T hl
theorem pP {T:Ty} (h:T.n<=16):(bu T).length<=256:=by have:=B4 T;omega
theorem tX {T:Ty} (h:T.n<=16):(dz (bu T)).length<=272:=by have:=pP h;rw[Mr];omega
theorem jT.snoc (h:jT s) {x:ai} {r:Nat} {T:Ty} (hr:r<1000) (hT:T.n<=16):jT (s++[(x,r,T)]):=by
 refine⟨by rw[D5];exact F5 h.types hT,λp hp=>?_⟩
 rcases mA.1 hp with hp|hp
 ·exact h.regs p hp
 ·simp only[List.mem_singleton] at hp;rw[hp];exact hr
def AT (s:ai):Prop:=∃T:Ty,T.n<=16∧s=dz (bu T)
/-! ### The type of a package's tuple -/
def lH (s:cD) (aK:List ai) (on:ai):List ai:=aK.map (λx=>bu (j5 s x))++(if on≠[] then[on] else[])
def El:Option Ty->ai
 |some T=>dz (bu T)
 |none=>[]
def tY (s:cD) (aK:List ai) (on:Option Ty):List aq:=aK.map (λx=>qV (j5 s x))++(match on with|some T=>[Aa (qV T)]|none=>[])
theorem Em (s:cD) (aK:List ai) (on:Option Ty):lH s aK (El on)=(tY s aK on).map aq.text:=by
 unfold lH tY
 rw[List.map_append,List.map_map]
 congr 1
 cases on with
 |none=>rfl
 |some T=>
  have dL:dz (bu T)≠[]:=by simp[dz]
  refine(iP (show El (some T)≠[] from dL)).trans ?_
  simp[El,Su,bu]
theorem Ud (s:cD) (aK:List ai) (on:ai):(lH s aK on).length<=aK.length+1:=by grind [lH]
theorem Ue (h:jT s) {aK:List ai} {on:ai} (ky:on.length<=272):∀t,t∈lH s aK on->t.length<=272:=by grind [lH,pP,Jl]
theorem GC (h:jT s) {aK:List ai} {on:ai} (hn:aK.length<=40) (ky:on.length<=272):(dR [116] (lH s aK on)).length<=11200:=by
 have h1:=AS _ (Ue h (aK:=aK) ky)
 have h2:=Ud s aK on
 have h3:(lH s aK on).length*(272+1)<=41*(272+1):=Nat.mul_le_mul om (lR _)
 rw[lG];simp only[lC,List.length_nil];omega
theorem afW (s:cD) (aK:List ai) (on:Option Ty):aK.length<=(tY s aK on).length:=by simp_all[tY]
theorem afX (s:cD) (aK:List ai) (on:Option Ty):∀t,t∈tY s aK on->Good t:=λt ht=>by
 unfold tY at ht
 rcases mA.1 ht with ht|ht
 ·obtain⟨x,_,rfl⟩:=List.mem_map.1 ht
  exact D3 _
 ·cases on with
  |none=>simp at ht
  |some T=>simp only[List.mem_singleton] at ht;rw[ht];exact St (D3 T)
theorem Uf (h:jT s) {aK:List ai} {on:Option Ty} (hn:aK.length<=40) (ky:∀T,on=some T->T.n<=16):
  bA (dR [116] (lH s aK (El on)))=some (wq [116] (tY s aK on)):=by
 have hg:=ac7 (h:=[116]) de de (afX s aK on)
 rw[Em,<-RP de]
 refine LO hg ?_ ?_
 ·show aq.depth.deeps (bJ [116]::tY s aK on)<=60
  refine LK λp hp=>?_
  rcases mC.1 hp with rfl|hp
  ·have:(bJ [116]).depth=0:=rfl
   omega
  ·unfold tY at hp
   rcases mA.1 hp with hp|hp
   ·obtain⟨x,_,rfl⟩:=List.mem_map.1 hp
    have:=D4 (j5 s x)
    have:=Jl h x
    omega
   ·cases on with
    |none=>simp at hp
    |some T=>
     simp only[List.mem_singleton] at hp
     have:=D4 T
     have:=ky T rfl
     rw[hp,Sv];omega
 ·rw[RP de,<-Em]
  have:=GC h (aK:=aK) (on:=El on) hn (by
   cases on with
   |none=>simp[El]
   |some T=>exact tX (ky T rfl))
  omega
/-! ### The state stays small -/
structure eY (m:Mk):Prop where
 types:∀s,s∈m.types->s.length<=100000
 code:∀s,s∈m.code->s.length<=100000
theorem eY.cY (h:eY m) {k:ai} (hk:k.length<=100000):eY (m.cY k):=⟨λs hs=>by
 rcases mA.1 hs with hs|hs
 ·exact h.types s hs
 ·simp only[List.mem_singleton] at hs;rw[hs];exact hk,h.code⟩
theorem eY.cA (h:eY m) {hd:ai} {ps:List ai} (hk:(dR hd ps).length<=100000):eY (m.cA hd ps):=⟨h.types,λs hs=>by
 rcases mA.1 hs with hs|hs
 ·exact h.code s hs
 ·simp only[List.mem_singleton] at hs;rw[hs];exact hk⟩
structure afY (m m':Mk) (dt dc:Nat):Prop where
 blocks:m'.blocks=m.blocks
 bF:m'.bF=m.bF
 types:m'.types.length=m.types.length+dt
 code:m'.code.length=m.code.length+dc
theorem Ug (m:Mk) (s:cD) (ton:Nat) (aK:List ai) (on aM kind:ai) (bY:List ai):afY m (oS m s ton aK on aM kind bY).m 4 4:=by
 refine⟨rfl,rfl,?_,?_⟩<;>simp[oS,Mk.cY,Mk.cA]
theorem Uh (m:Mk) (s:cD) (ton:Nat) (aK:List ai) (on aM kind:ai) (bY:List ai):(oS m s ton aK on aM kind bY).w=dR [116] (lH s aK on):=rfl
theorem Ui (hm:eY m) (hs:jT s) {ton:Nat} (ht:ton<1000) {aK:List ai} (hn:aK.length<=40) {on aM kind:ai} (ky:on.length<=272) (hl:aM.length<=10) (hk:kind.length<=272) {bY:List ai} (dL:bY.length<=2) (M6:∀x,x∈bY->x.length<=272) (eR:m.types.length+4<1000):eY (oS m s ton aK on aM kind bY).m:=by
 have hw:=GC hs hn ky
 have dec:∀k,k<1000->(aT k).length<=3:=λk hk=>sN hk
 have aom:=AS bY M6
 have Uj:(dR [99] (dR [116] (lH s aK on)::bY)).length<=12000:=by
  rw[lG]
  have:jv (dR [116] (lH s aK on)::bY)=1+(dR [116] (lH s aK on)).length+jv bY:=by unfold jv;simp;omega
  have h3:bY.length*(272+1)<=2*(272+1):=Nat.mul_le_mul dL (lR _)
  simp only[lC,List.length_nil];omega
 have regs:∀x,x∈aK.map (λx=>aT (kn s x))++(if on≠[] then[aT ton] else[])->x.length<=3:=λx hx=>by
  rcases mA.1 hx with hx|hx
  ·obtain⟨y,_,rfl⟩:=List.mem_map.1 hx
   exact dec _ (GB hs y)
  ·split at hx
   ·simp only[List.mem_singleton] at hx;rw[hx];exact dec _ ht
   ·simp at hx
 have ob:(aK.map (λx=>aT (kn s x))++(if on≠[] then[aT ton] else[])).length<=41:=by
  rw[lA,List.length_map]
  split<;>simp<;>omega
 unfold oS
 have s2:∀a b:ai,jv [a,b]=2+a.length+b.length:=λa b=>by simp[jv];omega
 have s3:∀a b c:ai,jv [a,b,c]=3+a.length+b.length+c.length:=λa b c=>by simp[jv];omega
 have s4:∀a b c d:ai,jv [a,b,c,d]=4+a.length+b.length+c.length+d.length:=λa b c d=>by simp[jv];omega
 have mZ:=dec m.types.length om
 have cv:=dec (m.types.length+1) om
 have ck:=dec (m.types.length+2) om
 have Jm:=dec (m.types.length+3) om
 refine eY.cA (eY.cY (eY.cA (eY.cY (eY.cA (eY.cY (eY.cA (eY.cY hm ?_) ?_) ?_) ?_) ?_) ?_) ?_) ?_
 ·exact Nat.le_trans hw om
 ·have h1:=AS _ regs
  have h2:(aK.map (λx=>aT (kn s x))++(if on≠[] then[aT ton] else[])).length*(3+1)<=41*(3+1):=Nat.mul_le_mul ob (lR _)
  rw[lG]
  have:jv (aT m.types.length::(aK.map (λx=>aT (kn s x))++(if on≠[] then[aT ton] else[])))=1+(aT m.types.length).length+jv (aK.map (λx=>aT (kn s x))++(if on≠[] then[aT ton] else[])):=by unfold jv;simp;omega
  rw[this]
  simp only[lC,List.length_nil];omega
 ·exact Nat.le_trans Uj om
 ·rw[lG,s2];simp only[lC,List.length_nil];omega
 ·rw[lG,s2];have:=hw;unfold lH at this Uj;simp only[lC,List.length_nil];unfold lH at hw;omega
 ·rw[lG,s3];simp only[lC,List.length_nil];omega
 ·omega
 ·rw[lG,s4];have:=hw;unfold lH at this;simp only[lC,List.length_nil];omega
structure Ext (m m':Mk) (k:Nat) (new:List Tk):Prop where
 blocks:m'.blocks=m.blocks
 bF:m'.bF=m.bF++new
 count:m'.count=m.count+new.length
 types:m.types.length<=m'.types.length∧m'.types.length<=m.types.length+k
 code:m'.code.length<=m.code.length+2*k
theorem Ext.refl (m:Mk):Ext m m 0 []:=⟨rfl,sm,rfl,om,om⟩
theorem Ext.trans {p q:List Tk} (h:Ext m m1 j p) (h2:Ext m1 m2 k q):Ext m m2 (j+k) (p++q):=
 ⟨h2.blocks.trans h.blocks,by rw[h2.bF,h.bF,List.append_assoc],by rw[h2.count,h.count,lA];omega,by have:=h.types;have:=h2.types;omega,by have:=h.code;have:=h2.code;omega⟩
theorem Ext.more {m':Mk} {p:List Tk} (h:Ext m m' j p) (hk:j<=k):Ext m m' k p:=⟨h.blocks,h.bF,h.count,by have:=h.types;omega,by have:=h.code;omega⟩
theorem M7 {s:ai} (h:qg s=true):s.length<=4:=by grind [qg,numeral,Rt,dN]
theorem oo (h:e.ok):e.aw.length<=4:=by cases e<;>grind [Ex.ok,Ex.aw,M7]
theorem AU (a b:ai):jv [a,b]=2+a.length+b.length:=by simp[jv];omega
theorem GD {m:Mk} {a:ai} (hm:eY m) (hs:jT s) (ha:a.length<=4) (ht:m.types.length<1000):Ext m (bT m s a).1 1 []∧eY (bT m s a).1∧(bT m s a).2<1000:=by
 unfold bT
 split
 ·exact⟨(Ext.refl m).more om,hm,GB hs a⟩
 ·refine⟨⟨rfl,by simp[Mk.cY,Mk.cA],rfl,by simp[Mk.cY,Mk.cA],by simp[Mk.cY,Mk.cA]⟩,eY.cA (eY.cY hm sm) ?_,ht⟩
  have:=sN ht
  rw[lG,AU];simp only[lC,List.length_nil];omega
/-! ### Tasks -/
structure oq (t:Tk):Prop where
 ok:t.expr.ok
 type:∃T,bw t.expr (ew t.sc)=some T
 sc:jT t.sc
 bud:5*t.sc.length+2*t.expr.n<=240
 room:t.regs.length+t.loads+8*t.expr.n<=990
 regs:∀r,r∈t.regs->r.length<=100000
 loads:t.loads=0∨∃ts:List aq,t.regs.head?=some (dR [116] (ts.map aq.text))∧t.loads<=ts.length∧bA (dR [116] (ts.map aq.text))=some (wq [116] ts)
 self:t.self=[]∨∃a b,t.self=[a,b]∧a.length<=272∧b.length<=11200∧t.regs.length=3∧∀r,r∈t.regs->r.length<=11200
 aV:AT t.aV
 on:t.on<1000
 aM:t.aM.length<=4
theorem M8 (s:cD) (k:Nat) (aK:List ai):ew (im s k aK [])=aK.map λx=>(x,j5 s x):=by
 unfold im ew
 rw[List.nil_append,List.map_map]
 have:∀(l:List ai) (j:Nat),(l.zipIdx j).map ((λp:ai×Nat×Ty=>(p.1,p.2.2))∘λp=>(p.1,k+p.2,j5 s p.1))=l.map λx=>(x,j5 s x):=by
  intro l
  induction l with
  |nil=>intro j;rfl
  |cons x l ih=>intro j;simp only[List.zipIdx_cons,List.map_cons,Function.comp,ih]
 exact this aK 0
theorem M9:∀{aK:List ai} {x:ai},x∈aK->look (aK.map λx=>(x,j5 s x)) x=some (j5 s x):=by
 intro aK x h
 have key:∀(l:List ai),(∃y,y∈l∧y=x)->(l.map λx=>(x,j5 s x)).find? (λp=>decide (p.1=x))=some (x,j5 s x):=by
  intro l
  induction l with
  |nil=>rintro⟨_,hy,_⟩;simp at hy
  |cons y l ih=>
   intro hh
   rw[List.map_cons,List.find?_cons]
   by_cases e:y=x
   ·rw[dT e,e]
   ·rw[dF e]
    obtain⟨z,hz,Uk⟩:=hh
    rcases mC.1 hz with hz|hz
    ·exact absurd (hz▸Uk) e
    ·exact ih ⟨z,hz,Uk⟩
 unfold look
 rw[<-List.map_reverse,key aK.reverse ⟨x,List.mem_reverse.2 h,rfl⟩];rfl
theorem Ul (h:jT s) (k:Nat) (aK:List ai) (hn:k+aK.length<1000):jT (im s k aK []):=by
 refine⟨λx T hT=>?_,λp hp=>?_⟩
 ·rw[M8] at hT
  have hx:x∈aK:=by
   unfold look at hT
   cases hf:(aK.map λx=>(x,j5 s x)).reverse.find? (λp=>decide (p.1=x)) with
   |none=>rw[hf] at hT;cases hT
   |some q=>
    have h1:=List.find?_some hf
    have h2:=List.mem_reverse.1 (List.mem_of_find?_eq_some hf)
    obtain⟨y,hy,rfl⟩:=List.mem_map.1 h2
    rw[<-of_decide_eq_true h1];exact hy
  rw[M9 hx] at hT
  cases hT;exact Jl h x
 ·unfold im at hp
  rw[List.nil_append] at hp
  obtain⟨q,hq,rfl⟩:=List.mem_map.1 hp
  have:=List.snd_lt_of_mem_zipIdx hq
  show k+q.2<1000;omega
theorem yk (s:cD) (k:Nat) (aK:List ai):(im s k aK []).length=aK.length:=by simp[im]
theorem Na {x:ai} (h:(look (ew s) x).isSome=true):look (ew s) x=some (j5 s x):=by
 unfold j5
 cases hl:look (ew s) x with
 |none=>rw[hl] at h;cases h
 |some T=>rfl
theorem Nb {bd:List ai} (hb:5*s.length+2*e.n<=240) (hf:∀x,Fv x e->x∉bd->(look (ew s) x).isSome=true):(cH e bd []).length<=34∧(cH e bd []).length<=s.length:=by
 have h1:=Me e bd []
 have h2:(cH e bd []).length<=(s.map Prod.fst).length:=Mg (adO e bd [] List.nodup_nil) λx hx=>by
  rcases(B3 x e bd []).1 hx with h|⟨hx,hb⟩
  ·simp at h
  ·have:=hf x hx hb
   unfold look at this
   cases hq:(ew s).reverse.find? λp=>decide (p.1=x) with
   |none=>rw[hq] at this;cases this
   |some q=>
    have h3:=List.find?_some hq
    have h4:=List.mem_reverse.1 (List.mem_of_find?_eq_some hq)
    unfold ew at h4
    obtain⟨p,hp,rfl⟩:=List.mem_map.1 h4
    rw[<-of_decide_eq_true h3]
    exact List.mem_map.2 ⟨p,hp,rfl⟩
 simp only[List.length_nil,Nat.zero_add,List.length_map] at h1 h2
 omega
theorem Um {ton:Nat} {aK:List ai} {on aM kind:ai} {bY:List ai}:Ext m (oS m s ton aK on aM kind bY).m 4 []:=by
 have h:=Ug m s ton aK on aM kind bY
 exact⟨h.blocks,by rw[h.bF];simp,rfl,by rw[h.types];omega,by rw[h.code];omega⟩
theorem AV {m:Mk} (h:m.count<1000):m.aM.length<=4:=by grind [Mk.aM,sN]
theorem Un {m:Mk} {f x:ai} {A B:Ty} {T:Ty} (hs:jT s) (ba:(Ex.fn f x A B e).ok) (ht:bw (.fn f x A B e) (ew s)=some T) (hb:5*s.length+2*(Ex.fn f x A B e).n<=240) (hc:m.count<1000):oq (Af m s f x A B e)∧(cH (.fn f x A B e) [] []).length<=34∧1+A.n+B.n<=16:=by
 obtain⟨hf,hx,dL,hA,hB,he⟩:=ba
 have sO:∀y,Fv y (.fn f x A B e)->y∉([]:List ai)->(look (ew s) y).isSome=true:=λy hy _=>pG ht hy
 obtain⟨fl,iy⟩:=Nb hb sO
 have x5:1+A.n+B.n<=16∧bw e (ew s++[(f,.op true A B),(x,A)])=some B:=by
  unfold bw at ht
  split at ht
  ·rename_i jk
   cases yl:bw e (ew s++[(f,.op true A B),(x,A)]) with
   |none=>rw[yl] at ht;cases ht
   |some C=>
    rw[yl,Option.bind_some] at ht
    split at ht
    ·rename_i hq;rw[adR.1 hq];exact⟨jk,rfl⟩
    ·cases ht
  ·cases ht
 have AW:(Ty.op true A B).n<=16:=x5.1
 have wW:(bu (.op true A B)).length<=256:=pP AW
 have hn:(Ex.fn f x A B e).n=3+A.n+B.n+e.n:=rfl
 rw[hn] at hb
 have hA1:=A.pos
 have Jn:=B.pos
 have Jo:=Ul hs 3 (cH (.fn f x A B e) [] []) om
 have GF:(nV m s f x A B e).w=dR [116] (lH s (cH (.fn f x A B e) [] []) []):=Uh ..
 have Jp:(nV m s f x A B e).w.length<=11200:=by rw[GF];exact GC hs om sm
 have eR:bw e (ew (Ae s f x A B e))=some B:=by
  rw[<-x5.2]
  unfold Ae
  rw[D5]
  refine qi e _ _ λy Jq hy=>?_
  rw[oL,z6]
  by_cases e1:x=y
  ·rw[iP e1,iP e1]
  ·rw[iN e1,iN e1]
   by_cases e2:f=y
   ·have h0:0<jQ f e:=(adQ hf e).2 (e2▸hy)
    rw[iP e2,iP h0,D5,oL,iP e2]
   ·rw[iN e2]
    have Uo:Fv y (.fn f x A B e):=⟨λe'=>e2 e'.symm,λe'=>e1 e'.symm,hy⟩
    have rO:y∈cH (.fn f x A B e) [] []:=(B3 y _ [] []).2 (.inr ⟨Uo,sm⟩)
    have hl:look (ew (im s 3 (cH (.fn f x A B e) [] []) [])) y=look (ew s) y:=by
     rw[M8,M9 rO,Na (pG ht Uo)]
    split
    ·rw[D5,oL,iN e2,hl]
    ·exact hl
 have Tc:jT (Ae s f x A B e):=by
  unfold Ae
  split
  ·exact(Jo.snoc om AW).snoc om hA
  ·exact Jo.snoc om hA
 have nC:5*(Ae s f x A B e).length+2*e.n<=240:=by
  unfold Ae
  rw[lA]
  split
  ·rw[lA,yk];simp only[lC,List.length_nil];omega
  ·rw[yk];simp only[lC,List.length_nil];omega
 refine⟨{ok:=he,type:=⟨B,eR⟩,sc:=Tc,bud:=nC,room:=?_,regs:=?_,loads:=?_,self:=?_,aV:=⟨B,hB,rfl⟩,on:=?_,aM:=AV hc},fl,x5.1⟩
 ·show 3+(cH (.fn f x A B e) [] []).length+8*e.n<=990
  omega
 ·intro r hr
  have rE:r∈[(nV m s f x A B e).w,bu A,dz (bu B)]:=hr
  simp only[mC,List.not_mem_nil,or_false] at rE
  rcases rE with rfl|rfl|rfl
  ·omega
  ·have:=pP hA;omega
  ·have:=tX hB;omega
 ·refine .inr ⟨tY s (cH (.fn f x A B e) [] []) none,?_,afW _ _ _,?_⟩
  ·show some (nV m s f x A B e).w=_
   rw[GF,<-Em];rfl
  ·rw[<-Em];exact Uf hs om sm
 ·show(if 0<jQ f e then[bu (.op true A B),(nV m s f x A B e).w] else[])=[]∨_
  by_cases h0:0<jQ f e
  ·refine .inr ⟨bu (.op true A B),(nV m s f x A B e).w,iP h0,om,Jp,rfl,λr hr=>?_⟩
   have rE:r∈[(nV m s f x A B e).w,bu A,dz (bu B)]:=hr
   simp only[mC,List.not_mem_nil,or_false] at rE
   rcases rE with rfl|rfl|rfl
   ·exact Jp
   ·have:=pP hA;omega
   ·have:=tX hB;omega
  ·exact .inl (iN h0)
 ·show(2:Nat)<1000;omega
theorem afZ {f x:ai} {A B:Ty} {T:Ty} (hm:eY m) (hs:jT s) (ba:(Ex.fn f x A B e).ok) (ht:bw (.fn f x A B e) (ew s)=some T) (hb:5*s.length+2*(Ex.fn f x A B e).n<=240) (eR:m.types.length+4<1000) (hc:m.count<1000):
  Ext m (Ag m s f x A B e).1 4 [Af m s f x A B e]∧eY (Ag m s f x A B e).1∧(Ag m s f x A B e).2<1000∧oq (Af m s f x A B e):=by
 obtain⟨hi,fl,AW⟩:=Un (m:=m) hs ba ht hb hc
 obtain⟨_,_,_,hA,hB,_⟩:=ba
 have wW:(bu (.op true A B)).length<=256:=pP AW
 have hp:Ext m.k7 (nV m s f x A B e).m 4 []:=Um
 have GG:eY m.k7:=⟨hm.types,hm.code⟩
 have qt:eY (nV m s f x A B e).m:=Ui GG hs om om sm (by have:=AV hc;omega) om sm (λy hy=>by
  simp only[mC,List.not_mem_nil,or_false] at hy
  rcases hy with rfl|rfl
  ·have:=pP hA;omega
  ·exact tX hB) eR
 have h1:(nV m s f x A B e).m.bF=m.bF:=by rw[hp.bF];simp[Mk.k7]
 have h2:(nV m s f x A B e).m.count=m.count+1:=by rw[hp.count];simp[Mk.k7]
 refine⟨⟨hp.blocks,?_,h2,hp.types,hp.code⟩,⟨qt.types,qt.code⟩,?_,hi⟩
 ·show(nV m s f x A B e).m.bF++[Af m s f x A B e]=m.bF++[Af m s f x A B e]
  rw[h1]
 ·show m.types.length+3<1000;omega
theorem af0 {m:Mk} {ton:Nat} {aV name:ai} {kind:Ty} {rest:Ex} {T:Ty} (hs:jT s) (ky:AT aV) (wW:kind.n<=16) (ba:rest.ok) (ht:bw rest (ew s++[(name,kind)])=some T) (hb:5*(s.length+1)+2*rest.n<=240) (hc:m.count<1000):oq (IU m s ton aV name kind rest)∧(cH rest [name] []).length<=34:=by
 obtain⟨O,hO,rfl⟩:=ky
 have sO:∀y,Fv y rest->y∉[name]->(look (ew s) y).isSome=true:=λy hy hn=>by
  have:=pG ht hy
  rw[oL,iN (λe=>hn (by rw[e];simp))] at this;exact this
 obtain⟨fl,iy⟩:=Nb om sO
 have Jo:=Ul hs 2 (cH rest [name] []) om
 have GF:(nW m s ton (dz (bu O)) name kind rest).w=dR [116] (lH s (cH rest [name] []) (dz (bu O))):=Uh ..
 have Jp:(nW m s ton (dz (bu O)) name kind rest).w.length<=11200:=by rw[GF];exact GC hs om (tX hO)
 have eR:bw rest (ew (im s 2 (cH rest [name] []) []++[(name,1,kind)]))=some T:=by
  rw[<-ht,D5]
  refine qi rest _ _ λy Jq hy=>?_
  rw[oL,oL]
  by_cases e1:name=y
  ·rw[iP e1,iP e1]
  ·rw[iN e1,iN e1]
   have eK:y∉[name]:=λh=>e1 (by simpa using h:y=name).symm
   have rO:y∈cH rest [name] []:=(B3 y _ [name] []).2 (.inr ⟨hy,eK⟩)
   rw[M8,M9 rO,Na (sO y hy eK)]
 refine⟨{ok:=ba,type:=⟨T,eR⟩,sc:=Jo.snoc om wW,bud:=?_,room:=?_,regs:=?_,loads:=?_,self:=.inl rfl,aV:=⟨O,hO,rfl⟩,on:=?_,aM:=AV hc},fl⟩
 ·show 5*(im s 2 (cH rest [name] []) []++[(name,1,kind)]).length+2*rest.n<=240
  rw[lA,yk];simp only[lC,List.length_nil];omega
 ·show 2+((cH rest [name] []).length+1)+8*rest.n<=990
  omega
 ·intro r hr
  have rE:r∈[(nW m s ton (dz (bu O)) name kind rest).w,bu kind]:=hr
  simp only[mC,List.not_mem_nil,or_false] at rE
  rcases rE with rfl|rfl
  ·omega
  ·have:=pP wW;omega
 ·refine .inr ⟨tY s (cH rest [name] []) (some O),?_,?_,?_⟩
  ·show some (nW m s ton (dz (bu O)) name kind rest).w=_
   rw[GF,<-Em];rfl
  ·show(cH rest [name] []).length+1<=_
   unfold tY;rw[lA,List.length_map];simp
  ·rw[<-Em];exact Uf hs om (λT hT=>by cases hT;exact hO)
 ·show 2+(cH rest [name] []).length<1000;omega
theorem af1 {ton:Nat} {aV name:ai} {kind:Ty} {rest:Ex} {T:Ty} (hm:eY m) (hs:jT s) (rj:ton<1000) (ky:AT aV) (wW:kind.n<=16) (ba:rest.ok) (ht:bw rest (ew s++[(name,kind)])=some T) (hb:5*(s.length+1)+2*rest.n<=240) (eR:m.types.length+4<1000) (hc:m.count<1000):
  Ext m (tO m s ton aV name kind rest).1 4 [IU m s ton aV name kind rest]∧eY (tO m s ton aV name kind rest).1∧(tO m s ton aV name kind rest).2.1<1000∧AT (tO m s ton aV name kind rest).2.2∧oq (IU m s ton aV name kind rest):=by
 obtain⟨hi,fl⟩:=af0 (m:=m) (ton:=ton) hs ky wW ba ht hb hc
 obtain⟨O,hO,rfl⟩:=ky
 have hp:Ext m.k7 (nW m s ton (dz (bu O)) name kind rest).m 4 []:=Um
 have GG:eY m.k7:=⟨hm.types,hm.code⟩
 have qt:eY (nW m s ton (dz (bu O)) name kind rest).m:=Ui GG hs rj om (tX hO) (by have:=AV hc;omega) (tX wW) sm (λy hy=>by
  simp only[List.mem_singleton] at hy
  rw[hy];have:=pP wW;omega) eR
 have h1:(nW m s ton (dz (bu O)) name kind rest).m.bF=m.bF:=by rw[hp.bF];simp[Mk.k7]
 have h2:(nW m s ton (dz (bu O)) name kind rest).m.count=m.count+1:=by rw[hp.count];simp[Mk.k7]
 refine⟨⟨hp.blocks,?_,h2,hp.types,hp.code⟩,⟨qt.types,qt.code⟩,?_,⟨kind,wW,rfl⟩,hi⟩
 ·show(nW m s ton (dz (bu O)) name kind rest).m.bF++[_]=m.bF++[_]
  rw[h1]
 ·show m.types.length+3<1000;omega
theorem GH (m:Mk) (k:ai):Ext m (m.cY k) 1 []:=⟨rfl,by simp[Mk.cY],rfl,by simp[Mk.cY],by simp[Mk.cY]⟩
theorem tZ (m:Mk) (h:ai) (ps:List ai):Ext m (m.cA h ps) 1 []:=⟨rfl,by simp[Mk.cA],rfl,by simp[Mk.cA],by simp[Mk.cA]⟩
theorem ym (m:Mk) (k:ai):(m.cY k).types.length=m.types.length+1:=by simp[Mk.cY]
theorem ot (m:Mk) (h:ai) (ps:List ai):(m.cA h ps).types=m.types:=rfl
theorem nH {n:Nat} (h:n<1000):(aT n).length<=3:=sN h
theorem ou {m:Mk} (h:eY m) {hd:ai} {ps:List ai} (hh:hd.length<=5) (hp:ps.length<=4) (hs:∀p,p∈ps->p.length<=300):eY (m.cA hd ps):=h.cA (by
 have h1:=AS (m:=300) ps hs
 have h2:ps.length*301<=4*301:=Nat.mul_le_mul hp (lR _)
 rw[lG];omega)
theorem En {s:ai} (h:dN s=true):s.length<=4:=by grind [dN]
def kD (ts:List Tk):Nat:=(ts.map λt=>t.expr.n+1).sum
theorem GI (a b:List Tk):kD (a++b)=kD a+kD b:=by grind [kD]
theorem Nc (t:Tk):kD [t]=t.expr.n+1:=by simp[kD]
theorem GJ:kD []=0:=rfl
theorem Up {a b:ai} (hm:eY m) (hs:jT s) (ha:a.length<=4) (hb:b.length<=4) (ht:m.types.length+1<1000):
  (Ext m (bT m s a).1 1 []∧eY (bT m s a).1∧(bT m s a).2<1000)∧Ext m (bT (bT m s a).1 s b).1 2 []∧eY (bT (bT m s a).1 s b).1∧(bT (bT m s a).1 s b).2<1000:=by
 have h1:=GD hm hs ha om
 have h2:=GD (m:=(bT m s a).1) (a:=b) h1.2.1 hs hb (by have:=h1.1.types;omega)
 exact⟨h1,h1.1.trans h2.1,h2.2⟩
structure Uq (m m':Mk) (r:Nat) (n:Nat) (new:List Tk):Prop where
 ext:Ext m m' 4 new
 sml:eY m'
 cY:r<1000
 inv:∀k,k∈new->oq k
 num:kD new+1<=n
theorem Nd {T:Ty} (hm:eY m) (hs:jT s) (ba:e.ok) (ht:bw e (ew s)=some T) (hb:5*s.length+2*e.n<=240) (eR:m.types.length+8*e.n<=1000) (hc:m.count<1000):
  ∃new,Uq m (mw m s T e).1 (mw m s T e).2 e.n new:=by
 have hT:=lv hs.types ht
 have hk:=pP hT
 have two:∀(h a b:ai),a.length<=4->b.length<=4->h.length<=5->m.types.length+8<=1000->∀n,1<=n->
   Uq m (((bT (bT m s a).1 s b).1.cY (bu T)).cA h [aT (bT (bT m s a).1 s b).1.types.length,aT (bT m s a).2,aT (bT (bT m s a).1 s b).2]) (bT (bT m s a).1 s b).1.types.length n []:=by
  intro h a b ha hb hh h8 n hn
  obtain⟨⟨e1,_,r1⟩,e2,s2,r2⟩:=Up hm hs ha hb om
  have Nf:=e2.types
  refine⟨(e2.trans ((GH _ _).trans (tZ _ _ _))),ou (s2.cY om) hh sm ?_,om,sm,by simp[GJ];omega⟩
  intro p hp
  simp only[mC,List.not_mem_nil,or_false] at hp
  rcases hp with rfl|rfl|rfl
  ·have:=nH (n:=(bT (bT m s a).1 s b).1.types.length) om;omega
  ·have:=nH r1;omega
  ·have:=nH r2;omega
 cases e with
 |«at» a=>
  obtain⟨h1,h2,h3⟩:=GD hm hs (M7 ba) (by simp only[Ex.n] at eR;omega)
  exact⟨[],h1.more om,h2,h3,sm,by simp[GJ,Ex.n]⟩
 |un h a=>
  simp only[Ex.n] at eR
  have yn:=a.pos
  obtain⟨h1,h2,h3⟩:=GD hm hs (oo ba.2) om
  have Nf:=h1.types
  refine⟨[],((h1.trans ((GH _ _).trans (tZ _ _ _)))).more om,ou (h2.cY om) sm sm ?_,?_,sm,by simp[GJ,Ex.n]⟩
  ·intro p hp
   simp only[mC,List.not_mem_nil,or_false] at hp
   rcases hp with rfl|rfl|rfl
   ·have:=nH (n:=(bT m s a.aw).1.types.length) om;omega
   ·have:=nH h3;omega
   ·split<;>simp
  ·show(bT m s a.aw).1.types.length<1000;omega
 |bi h a b=>
  simp only[Ex.n] at eR
  have yn:=a.pos
  refine⟨[],two (qm h) a.aw b.aw (oo ba.2.1) (oo ba.2.2) ?_ om _ (Ex.pos _)⟩
  unfold qm;split
  ·simp
  ·split
   ·simp
   ·split<;>simp
 |ite a b c=>
  simp only[Ex.n] at eR
  exact⟨[],two (qm gj) a.aw b.aw (oo ba.1) (oo ba.2.1) de om _ (Ex.pos _)⟩
 |lt x a b=>
  simp only[Ex.n] at eR
  exact⟨[],two (qm fV) x a.aw (En ba.1) (oo ba.2.1) de om _ (Ex.pos _)⟩
 |fn f x A B e=>
  simp only[Ex.n] at eR
  obtain⟨h1,h2,h3,h4⟩:=afZ hm hs ba ht hb om hc
  refine⟨_,h1,h2,h3,λk hk=>by simp only[List.mem_singleton] at hk;rw[hk];exact h4,?_⟩
  rw[Nc];simp only[Af,Ex.n];omega
theorem Ur (hm:eY m) {s:Nat} (hs:s<1000) (ht:m.types.length+3<1000):Ext m (sC m s) 6 []∧eY (sC m s)∧(sC m s).types.length=m.types.length+3:=by
 have h0:=nH hs
 have h1:=nH (n:=m.types.length) om
 have h2:=nH (n:=m.types.length+1) om
 have h3:=nH (n:=m.types.length+2) om
 unfold sC
 have z:([]:ai).length<=100000:=by simp
 refine⟨(GH _ _).trans ((tZ _ _ _).trans ((GH _ _).trans ((tZ _ _ _).trans ((GH _ _).trans (tZ _ _ _))))),?_,by simp[Mk.cY,Mk.cA]⟩
 refine ou (eY.cY (ou (eY.cY (ou (eY.cY hm z) sm sm ?_) z) sm sm ?_) z) sm sm ?_
 all_goals
  intro p hp
  simp only[mC,List.not_mem_nil,or_false] at hp
  rcases hp with rfl|rfl|rfl<;>first|omega|simp
theorem af2 (hm:eY m) {f on:Nat} (hf:f<1000) (hx:x<1000) (ho:on<1000) (ht:m.types.length+3<1000):Ext m (xV m f x on) 10 []∧eY (xV m f x on):=by
 obtain⟨h1,h2,h3⟩:=Ur hm hf ht
 have d1:=nH (n:=m.types.length+1) om
 have d2:=nH (n:=m.types.length+2) om
 have d3:=nH hx
 have d4:=nH ho
 unfold xV
 refine⟨h1.trans ((tZ _ _ _).trans ((tZ _ _ _).trans ((tZ _ _ _).trans (tZ _ _ _)))),?_⟩
 refine ou (ou (ou (ou h2 sm sm ?_) sm sm ?_) sm sm ?_) sm sm ?_
 all_goals
  intro p hp
  simp only[mC,List.not_mem_nil,or_false] at hp
  first
  |(rcases hp with rfl|rfl<;>first|omega|simp)
  |(rw[hp];omega)
theorem af3 (hm:eY m) {on r:Nat} (ho:on<1000) (hr:r<1000) (ht:m.types.length+3<1000):Ext m (xW m on r) 10 []∧eY (xW m on r):=by
 obtain⟨h1,h2,h3⟩:=Ur hm ho ht
 have d1:=nH (n:=m.types.length+1) om
 have d2:=nH (n:=m.types.length+2) om
 have d3:=nH hr
 unfold xW
 refine⟨(h1.trans ((tZ _ _ _).trans ((tZ _ _ _).trans (tZ _ _ _)))).more om,?_⟩
 refine ou (ou (ou h2 sm sm ?_) sm sm ?_) sm sm ?_
 all_goals
  intro p hp
  simp only[mC,List.not_mem_nil,or_false] at hp
  first
  |(rcases hp with rfl|rfl<;>first|omega|simp)
  |(rw[hp];omega)
structure nI (m:Mk) (s:cD) (on:Nat) (aV:ai) (e:Ex):Prop where
 sml:eY m
 sc:jT s
 ok:e.ok
 type:∃T,bw e (ew s)=some T
 bud:5*s.length+2*e.n<=240
 room:m.types.length+8*e.n<=1000
 on:on<1000
 aV:AT aV
 cnt:m.count+e.n<=900
structure vw (m:Mk) (s:cD) (on:Nat) (aV:ai) (e:Ex) (T:Ty):Prop where
 ok:(bD e).s.ok
 type:bw (bD e).s (ew s)=some T
 small:T.n<=16
 nu:nu s (bD e).s=T
 le:(bD e).s.n<=e.n
 last:(bD e).name=[]->(bD e).s=e
 rest:(bD e).name≠[]->dN (bD e).name=true∧(bD e).rest.ok∧(∃U,bw (bD e).rest (ew s++[((bD e).name,T)])=some U)∧(bD e).s.n+(bD e).rest.n+2<=e.n
theorem nI.goal {on:Nat} {aV:ai} (h:nI m s on aV e):∃T,vw m s on aV e T:=by
 obtain⟨T,hT⟩:=h.type
 have same:bD e=⟨[],e,e⟩->∃T,vw m s on aV e T:=λhg=>by
  refine⟨T,?_,?_,lv h.sc.types hT,?_,?_,?_,?_⟩
  ·rw[hg];exact h.ok
  ·rw[hg];exact hT
  ·rw[hg];unfold nu;rw[hT];rfl
  ·rw[hg];exact lR _
  ·intro _;rw[hg]
  ·intro hn;rw[hg] at hn;exact absurd rfl hn
 have ba:=h.ok
 cases e with
 |lt x a b=>
  unfold bw at hT
  cases ha:bw a (ew s) with
  |none=>rw[ha] at hT;cases hT
  |some A=>
   rw[ha,Option.bind_some] at hT
   refine⟨A,ba.2.1,ha,lv h.sc.types ha,by show(bw a (ew s)).getD .i=A;rw[ha];rfl,by simp only[bD,Ex.n];omega,λhn=>absurd hn (uX ba.1),λ_=>⟨ba.1,ba.2.2,⟨T,hT⟩,by simp only[bD,Ex.n];omega⟩⟩
 |«at» a=>exact same rfl
 |un a b=>exact same rfl
 |bi a b c=>exact same rfl
 |ite a b c=>exact same rfl
 |fn a b c d f=>exact same rfl
def eF (m:Mk) (s:cD) (on:Nat) (aV name:ai) (kind:Ty) (rest:Ex):Mk×Nat×ai:=if name≠[] then tO m s on aV name kind rest else(m,on,aV)
structure Cut (m m':Mk) (on':Nat) (onOf':ai) (n:Nat) (new:List Tk):Prop where
 ext:Ext m m' 4 new
 sml:eY m'
 on:on'<1000
 aV:AT onOf'
 inv:∀k,k∈new->oq k
 num:kD new<=n
theorem Us {m0:Mk} {on:Nat} {aV:ai} {T:Ty} (h:nI m0 s on aV e) (g:vw m0 s on aV e T) (hm:eY m) (eR:m.types.length+4<1000) (hc:m.count<1000) (h3:2<=(bD e).s.n):
  ∃new,Cut m (eF m s on aV (bD e).name T (bD e).rest).1 (eF m s on aV (bD e).name T (bD e).rest).2.1 (eF m s on aV (bD e).name T (bD e).rest).2.2 (e.n-(bD e).s.n) new:=by
 by_cases hn:(bD e).name=[]
 ·unfold eF
  rw[iN (by simp[hn])]
  exact⟨[],(Ext.refl m).more om,hm,h.on,h.aV,sm,by simp[GJ]⟩
 ·unfold eF
  rw[iP hn]
  obtain⟨eK,GK,⟨U,hU⟩,rP⟩:=g.rest hn
  have hb:=h.bud
  obtain⟨h1,h2,h3,h4,h5⟩:=af1 (name:=(bD e).name) hm h.sc h.on h.aV g.small GK hU om eR hc
  refine⟨_,h1,h2,h3,h4,λk hk=>by simp only[List.mem_singleton] at hk;rw[hk];exact h5,?_⟩
  rw[Nc]
  show(bD e).rest.n+1<=_
  omega
structure Fin (m m':Mk) (n:Nat) (new:List Tk):Prop where
 ext:Ext m m' 20 new
 sml:eY m'
 inv:∀k,k∈new->oq k
 num:kD new+1<=n
structure On (m m':Mk) (s:cD) (on:Nat) (aV:ai) (n:Nat) (r:Ex) (new:List Tk):Prop where
 ext:Ext m m' 20 new
 inv:nI m' s on aV r
 bF:∀k,k∈new->oq k
 num:kD new+r.n+1<=n
theorem af4 {on:Nat} {aV:ai} {T:Ty} (h:nI m s on aV e) (g:vw m s on aV e T) (hn:(bD e).name=[]):
  ∃new,Fin m (xW (mw m s T (bD e).s).1 on (mw m s T (bD e).s).2) e.n new:=by
 have hr:=h.room
 have hc:=h.cnt
 have hp:=(bD e).s.pos
 have hle:=g.le
 obtain⟨new,hP⟩:=Nd h.sml h.sc g.ok g.type (by have:=h.bud;omega) om om
 have ht:=hP.ext.types
 obtain⟨h1,h2⟩:=af3 hP.sml h.on hP.cY om
 exact⟨new,by have:=hP.ext.trans h1;rw[List.append_nil] at this;exact this.more om,h2,hP.inv,by have:=hP.num;omega⟩
theorem Ut {on:Nat} {aV:ai} {T:Ty} (h:nI m s on aV e) (g:vw m s on aV e T) (hn:(bD e).name≠[]):
  ∃new,On m (mw m s T (bD e).s).1 (s++[((bD e).name,(mw m s T (bD e).s).2,T)]) on aV e.n (bD e).rest new:=by
 have hr:=h.room
 have hc:=h.cnt
 have hp:=(bD e).s.pos
 have hle:=g.le
 obtain⟨eK,GK,⟨U,hU⟩,rP⟩:=g.rest hn
 obtain⟨new,hP⟩:=Nd h.sml h.sc g.ok g.type (by have:=h.bud;omega) om om
 have ht:=hP.ext.types
 have hct:=hP.ext.count
 have Jr:=hP.num
 have hlen:new.length<=kD new:=by
  unfold kD
  clear hP hct Jr
  induction new with
  |nil=>simp
  |cons t l ih=>simp only[lC,List.map_cons,List.sum_cons];omega
 refine⟨new,hP.ext.more om,⟨hP.sml,h.sc.snoc hP.cY g.small,GK,⟨U,by rw[D5];exact hU⟩,?_,om,h.on,h.aV,om⟩,hP.inv,om⟩
 have:=h.bud
 simp only[lA,lC,List.length_nil];omega
theorem af6 {on:Nat} {aV:ai} {f x:Ex} {T:Ty} (h:nI m s on aV e) (g:vw m s on aV e T) (hs:(bD e).s= .bi j4 f x):
  ∃new,Cut (bT (bT m s f.aw).1 s x.aw).1 (eF (bT (bT m s f.aw).1 s x.aw).1 s on aV (bD e).name T (bD e).rest).1 (eF (bT (bT m s f.aw).1 s x.aw).1 s on aV (bD e).name T (bD e).rest).2.1 (eF (bT (bT m s f.aw).1 s x.aw).1 s on aV (bD e).name T (bD e).rest).2.2 (e.n-3) new∧
   Fin m (xV (eF (bT (bT m s f.aw).1 s x.aw).1 s on aV (bD e).name T (bD e).rest).1 (bT m s f.aw).2 (bT (bT m s f.aw).1 s x.aw).2 (eF (bT (bT m s f.aw).1 s x.aw).1 s on aV (bD e).name T (bD e).rest).2.1) e.n new:=by
 have ba:=g.ok
 rw[hs] at ba
 have hr:=h.room
 have hc:=h.cnt
 have hle:=g.le
 have Ng:3<=(bD e).s.n:=by rw[hs];simp only[Ex.n];have:=f.pos;have:=x.pos;omega
 obtain⟨⟨e1,s1,r1⟩,e2,s2,r2⟩:=Up h.sml h.sc (oo ba.2.1) (oo ba.2.2) om
 have t2:=e2.types
 have c2:=e2.count
 simp only[List.length_nil] at c2
 obtain⟨new,hC⟩:=Us h g s2 om om om
 have t3:=hC.ext.types
 obtain⟨h1,h2⟩:=af2 hC.sml r1 r2 hC.on om
 refine⟨new,⟨hC.ext,hC.sml,hC.on,hC.aV,hC.inv,by have:=hC.num;omega⟩,?_,h2,hC.inv,by have:=hC.num;omega⟩
 have:=(e2.trans hC.ext).trans h1
 rw[List.append_nil,List.nil_append] at this;exact this.more om
def Nh (m:Mk) (s:cD) (on:Nat) (aV:ai) (x:Ex):Tk:=⟨m.aM,m.types,0,[],s,x,on,aV,m.types.length⟩
def GL (m:Mk) (s:cD) (on:Nat) (aV:ai) (r:Nat) (x:Ex):Mk:={(m.k7.cA F8 [aT r,m.aM]) with bF:=m.bF++[Nh m s on aV x]}
theorem Uu {on:Nat} {aV:ai} {c x y:Ex} {T:Ty} (h:nI m s on aV e) (g:vw m s on aV e T) (hs:(bD e).s= .ite c x y):
  ∃new yo,Cut (bT m s c.aw).1 (eF (bT m s c.aw).1 s on aV (bD e).name T (bD e).rest).1 (eF (bT m s c.aw).1 s on aV (bD e).name T (bD e).rest).2.1 (eF (bT m s c.aw).1 s on aV (bD e).name T (bD e).rest).2.2 (e.n-(bD e).s.n) new∧
   On m (GL (eF (bT m s c.aw).1 s on aV (bD e).name T (bD e).rest).1 s (eF (bT m s c.aw).1 s on aV (bD e).name T (bD e).rest).2.1 (eF (bT m s c.aw).1 s on aV (bD e).name T (bD e).rest).2.2 (bT m s c.aw).2 x) s
    (eF (bT m s c.aw).1 s on aV (bD e).name T (bD e).rest).2.1 (eF (bT m s c.aw).1 s on aV (bD e).name T (bD e).rest).2.2 e.n y yo:=by
 have ba:=g.ok
 have eR:=g.type
 rw[hs] at ba eR
 have hr:=h.room
 have hc:=h.cnt
 have hle:=g.le
 have hb:=h.bud
 have hcp:=c.pos
 have Ng:(bD e).s.n=1+c.n+x.n+y.n:=by rw[hs];rfl
 have hxp:=x.pos
 have hyp:=y.pos
 obtain⟨e1,s1,r1⟩:=GD h.sml h.sc (oo ba.1) om
 have t1:=e1.types
 have c1:=e1.count
 simp only[List.length_nil] at c1
 obtain⟨new,hC⟩:=Us h g s1 om om om
 generalize eF (bT m s c.aw).1 s on aV (bD e).name T (bD e).rest=Q at hC⊢
 obtain⟨m2,yp,Uv⟩:=Q
 dsimp only at hC⊢
 have t3:=hC.ext.types
 have c3:=hC.ext.count
 have Jr:=hC.num
 have hlen:new.length<=kD new:=by
  unfold kD
  clear hC c3 Jr t3
  induction new with
  |nil=>simp
  |cons t l ih=>simp only[lC,List.map_cons,List.sum_cons];omega
 have hl:=AV (m:=m2) om
 have tys:(∃X,bw x (ew s)=some X)∧∃Y,bw y (ew s)=some Y:=by
  unfold bw at eR
  cases h1:bw c (ew s) with
  |none=>rw[h1] at eR;cases eR
  |some A=>
   cases h2:bw x (ew s) with
   |none=>rw[h1,h2] at eR;cases eR
   |some B=>
    cases h3:bw y (ew s) with
    |none=>rw[h1,h2,h3] at eR;cases eR
    |some D=>exact⟨⟨B,rfl⟩,⟨D,rfl⟩⟩
 have ov:oq (Nh m2 s yp Uv x):=
  ⟨ba.2.1,tys.1,h.sc,by show 5*s.length+2*x.n<=240;omega,by show m2.types.length+0+8*x.n<=990;omega,hC.sml.types,.inl rfl,.inl rfl,hC.aV,hC.on,hl⟩
 refine⟨new,new++[Nh m2 s yp Uv x],hC,⟨?_,⟨?_,h.sc,ba.2.2,tys.2,om,?_,hC.on,hC.aV,?_⟩,?_,?_⟩⟩
 ·have he:=e1.trans hC.ext
  rw[List.nil_append] at he
  refine⟨he.blocks,?_,?_,?_,?_⟩
  ·show m2.bF++[_]=_
   rw[he.bF,List.append_assoc]
  ·show m2.count+1=_
   rw[he.count,lA];simp;omega
  ·have:=he.types;exact⟨this.1,by show m2.types.length<=_;omega⟩
  ·have:=he.code
   show(m2.code++[_]).length<=_
   simp only[lA,lC,List.length_nil];omega
 ·have:=ou (m:=m2.k7) (hd:=F8) (ps:=[aT (bT m s c.aw).2,m2.aM]) ⟨hC.sml.types,hC.sml.code⟩ de sm (λp hp=>by
   simp only[mC,List.not_mem_nil,or_false] at hp
   rcases hp with rfl|rfl
   ·have:=nH r1;omega
   ·omega)
  exact⟨this.types,this.code⟩
 ·show m2.types.length+_<=_;omega
 ·show m2.count+1+_<=_;omega
 ·intro k hk
  rcases mA.1 hk with hk|hk
  ·exact hC.inv k hk
  ·simp only[List.mem_singleton] at hk;rw[hk];exact ov
 ·rw[GI,Nc]
  show _+(x.n+1)+_+1<=_
  omega
def o6 (m:Mk) (ts:List aq):Nat->Mk
 |0=>m
 |k+1=>((o6 m ts k).cY (nth ts k).text).cA sB [aT (o6 m ts k).types.length,[48],aT k]
def AX (m:Mk) (aM:ai) (regs:List ai) (a b:ai):Mk:=
 let code:=dR [99] regs
 let r:=m.types.length
 (((((m.cY code).cA sy [aT r,aM]).cY (dR [116] [code,b])).cA lx [aT (r+1),aT r,[48]]).cY a).cA sA [aT (r+2),aT (r+1),a,b]
def nJ (m:Mk) (regs:List ai):Mk:={m with code:=[],types:=regs}
def Jt (m:Mk) (t:Tk):Mk:=match t.self with
 |[a,b]=>AX m t.aM t.regs a b
 |_=>m
def mF (t:Tk):List aq:=match bA (t.regs.getD 0 [105]) with
 |some x=>x.ak.drop 1
 |none=>[]
def qx (m:Mk) (t:Tk):Mk:=Jt (o6 (nJ m t.regs) (mF t) t.loads) t
theorem Ni {t:Tk} (h:t.regs.head?=some (dR [116] (ts.map aq.text))) (hp:bA (dR [116] (ts.map aq.text))=some (wq [116] ts)):mF t=ts∧bA (t.regs.getD 0 [105])=some (wq [116] ts):=by
 have e:t.regs.getD 0 [105]=dR [116] (ts.map aq.text):=by
  cases hr:t.regs with
  |nil=>rw[hr] at h;cases h
  |cons a l=>rw[hr] at h;simpa using h
 unfold mF
 rw[e,hp]
 exact⟨rfl,rfl⟩
structure Cw (m m':Mk) (regs:List ai) (k:Nat):Prop where
 blocks:m'.blocks=m.blocks
 bF:m'.bF=m.bF
 count:m'.count=m.count
 types:m'.types.length=regs.length+k
 code:m'.code.length<=k
 sml:eY m'
theorem Nj {regs:List ai} (h:∀r,r∈regs->r.length<=100000):Cw m (nJ m regs) regs 0:=⟨rfl,rfl,rfl,rfl,by simp[nJ],⟨h,by simp[nJ]⟩⟩
theorem Nk {m:Mk} {regs:List ai} (h:∀r,r∈regs->r.length<=100000) (lD:∀t,t∈ts->t.text.length<=100000):∀k,regs.length+k<1000->k<=ts.length->Cw m (o6 (nJ m regs) ts k) regs k
 |0,_,_=>Nj h
 |k+1,hk,hl=>by
  have ih:=Nk (m:=m) h lD k om om
  have d1:=nH (n:=(o6 (nJ m regs) ts k).types.length) (by rw[ih.types];omega)
  have d2:=nH (n:=k) om
  refine⟨ih.blocks,ih.bF,ih.count,by show(((o6 (nJ m regs) ts k).types++[_])).length=_;rw[lA,ih.types];rfl,?_,?_⟩
  ·show((o6 (nJ m regs) ts k).code++[_]).length<=_
   have:=ih.code
   rw[lA];simp;omega
  ·refine ou (ih.sml.cY ?_) sm sm ?_
   ·have:=lD (nth ts k) (by unfold nth;rw[gG,gE om];exact List.getElem_mem _)
    omega
   ·intro p hp
    simp only[mC,List.not_mem_nil,or_false] at hp
    rcases hp with rfl|rfl|rfl
    ·omega
    ·simp
    ·omega
theorem Uw {regs:List ai} (h3:regs.length=3) (h:∀r,r∈regs->r.length<=11200):(dR [99] regs).length<=33610:=by
 have h1:=AS (m:=11200) regs h
 rw[h3] at h1
 rw[lG]
 simp only[lC,List.length_nil];omega
theorem af7 (a b c d:ai):jv [a,b,c,d]=4+a.length+b.length+c.length+d.length:=by simp[jv];omega
theorem af8 (hm:eY m) {aM:ai} (hl:aM.length<=4) {regs:List ai} (h3:regs.length=3) (h:∀r,r∈regs->r.length<=11200) {a b:ai} (ha:a.length<=272) (hb:b.length<=11200) (ht:m.types.length+3<1000):eY (AX m aM regs a b):=by grind [Uw,nH,cS.length,dR,lG,AU,AX,eY.cA,eY.cY,ou,af7]
theorem af9 {m':Mk} {regs:List ai} (h:Cw m m' regs k) (aM a b:ai) (hs:eY (AX m' aM regs a b)):Cw m (AX m' aM regs a b) regs (k+3):=
 ⟨h.blocks,h.bF,h.count,by have:=h.types;simp[AX,Mk.cY,Mk.cA];omega,by have:=h.code;simp[AX,Mk.cY,Mk.cA];omega,hs⟩
theorem Ux {s:ai} {ps:List ai} (h:s∈ps):s.length<=jv ps:=by
 unfold jv
 have:∀{xs:List ai},s∈xs->s.length<=(xs.map List.length).sum:=by
  intro xs
  induction xs with
  |nil=>intro h;cases h
  |cons x xs ih=>
   intro h
   rw[List.map_cons,List.sum_cons]
   rcases mC.1 h with rfl|h
   ·omega
   ·have:=ih h;omega
 have:=this h;omega
theorem Nl {m:Mk} {t:Tk} (h:oq t):Cw m (qx m t) t.regs (t.loads+(if t.self=[] then 0 else 3)):=by
 have hr:=h.room
 have hp:=t.expr.pos
 have h1:Cw m (o6 (nJ m t.regs) (mF t) t.loads) t.regs t.loads:=by
  rcases h.loads with h0|⟨ts,hh,hl,GM⟩
  ·rw[h0];exact Nj h.regs
  ·obtain⟨e1,_⟩:=Ni hh GM
   rw[e1]
   refine Nk h.regs (λx hx=>?_) _ om hl
   have h2:=h.regs _ (List.mem_of_mem_head? hh)
   rw[lG] at h2
   have:=Ux (List.mem_map_of_mem (f:=aq.text) hx)
   omega
 unfold qx Jt
 rcases h.self with h0|⟨a,b,hs,ha,hb,h3,hl⟩
 ·rw[h0,iP rfl];exact h1
 ·rw[hs,iN sm]
  refine af9 h1 _ _ _ (af8 h1.sml h.aM h3 hl ha hb ?_)
  rw[h1.types];omega
theorem Uy {t:Tk} (h:oq t) (hc:m.count+t.expr.n<=900):nI (qx m t) t.sc t.on t.aV t.expr:=by
 have hb:=Nl (m:=m) h
 have hr:=h.room
 refine⟨hb.sml,h.sc,h.ok,h.type,h.bud,?_,h.on,h.aV,by rw[hb.count];exact hc⟩
 rw[hb.types]
 split<;>omega
/-! ### A block's body -/
def l6:Nat->At->Ex->Mk
 |0,a,_=>a.m
 |k+1,a,e=>match j6 a e with
  | .inl m=>m
  | .inr p=>l6 k p.1 p.2
theorem Ju (m:Mk) (s:cD) (on:Nat) (aV:ai) (g:Goal):IV ⟨m,s,on,aV⟩ g=⟨(eF m s on aV g.name (nu s g.s) g.rest).1,s,(eF m s on aV g.name (nu s g.s) g.rest).2.1,(eF m s on aV g.name (nu s g.s) g.rest).2.2⟩:=by
 unfold IV eF
 split<;>rfl
theorem Uz {on:Nat} {aV:ai} (h:nI m s on aV e):match j6 ⟨m,s,on,aV⟩ e with
  | .inl m'=>∃new,Fin m m' e.n new
  | .inr p=>∃new,On m p.1.m p.1.s p.1.on p.1.aV e.n p.2 new:=by
 obtain⟨T,g⟩:=h.goal
 have hY:=g.nu
 have simple:j6 ⟨m,s,on,aV⟩ e=(if(bD e).name=[] then .inl (xW (mw m s (nu s (bD e).s) (bD e).s).1 on (mw m s (nu s (bD e).s) (bD e).s).2) else .inr (⟨(mw m s (nu s (bD e).s) (bD e).s).1,s++[((bD e).name,(mw m s (nu s (bD e).s) (bD e).s).2,nu s (bD e).s)],on,aV⟩,(bD e).rest))->
   match j6 ⟨m,s,on,aV⟩ e with
   | .inl m'=>∃new,Fin m m' e.n new
   | .inr p=>∃new,On m p.1.m p.1.s p.1.on p.1.aV e.n p.2 new:=λhs=>by
  rw[hs,hY]
  by_cases hn:(bD e).name=[]
  ·rw[iP hn];exact af4 h g hn
  ·rw[iN hn];exact Ut h g hn
 cases hg:(bD e).s with
 |«at» a=>exact simple (by unfold j6;simp only[hg])
 |un a b=>exact simple (by unfold j6;simp only[hg])
 |lt a b c=>exact simple (by unfold j6;simp only[hg])
 |fn a b c d f=>exact simple (by unfold j6;simp only[hg])
 |bi hd f x=>
  by_cases hc:hd=j4
  ·subst hc
   have hs:j6 ⟨m,s,on,aV⟩ e= .inl (xV (eF (bT (bT m s f.aw).1 s x.aw).1 s on aV (bD e).name T (bD e).rest).1 (bT m s f.aw).2 (bT (bT m s f.aw).1 s x.aw).2 (eF (bT (bT m s f.aw).1 s x.aw).1 s on aV (bD e).name T (bD e).rest).2.1):=by
    unfold j6
    simp only[hg,if_true,Ju]
    rw[<-hg,hY]
   rw[hs]
   obtain⟨new,_,hF⟩:=af6 h g hg
   exact⟨new,hF⟩
  ·exact simple (by unfold j6;simp only[hg,iN hc])
 |ite c x y=>
  have hs:j6 ⟨m,s,on,aV⟩ e= .inr (⟨GL (eF (bT m s c.aw).1 s on aV (bD e).name T (bD e).rest).1 s (eF (bT m s c.aw).1 s on aV (bD e).name T (bD e).rest).2.1 (eF (bT m s c.aw).1 s on aV (bD e).name T (bD e).rest).2.2 (bT m s c.aw).2 x,s,
    (eF (bT m s c.aw).1 s on aV (bD e).name T (bD e).rest).2.1,(eF (bT m s c.aw).1 s on aV (bD e).name T (bD e).rest).2.2⟩,y):=by
   unfold j6
   simp only[hg,Ju]
   rw[<-hg,hY];rfl
  rw[hs]
  obtain⟨_,new,_,hO⟩:=Uu h g hg
  exact⟨new,hO⟩
structure wX (m m':Mk) (s:cD) (on:Nat) (aV:ai) (n k:Nat) (r:Ex) (new:List Tk):Prop where
 ext:Ext m m' k new
 inv:nI m' s on aV r
 bF:∀k,k∈new->oq k
 num:kD new+r.n<=n
 steps:k+20*r.n<=20*n
theorem wX.start {on:Nat} {aV:ai} (h:nI m s on aV e):wX m m s on aV e.n 0 e []:=⟨Ext.refl m,h,sm,by simp[GJ],om⟩
theorem wX.step {s2:cD} {on yp:Nat} {aV Eo:ai} {r r2:Ex} {new yo:List Tk} (h:wX m m1 s on aV n k r new) (h2:On m1 m2 s2 yp Eo r.n r2 yo):wX m m2 s2 yp Eo n (k+20) r2 (new++yo):=
 ⟨h.ext.trans h2.ext,h2.inv,λt ht=>by rcases mA.1 ht with ht|ht;exact h.bF t ht;exact h2.bF t ht,by rw[GI];have:=h.num;have:=h2.num;omega,by have:=h.steps;have:=h2.num;omega⟩
structure Nn (m m':Mk) (n:Nat) (new:List Tk):Prop where
 ext:Ext m m' (20*n) new
 sml:eY m'
 inv:∀k,k∈new->oq k
 num:kD new+1<=n
theorem wX.fin {on:Nat} {aV:ai} {r:Ex} {new yo:List Tk} (h:wX m m1 s on aV n k r new) (h2:Fin m1 m2 r.n yo):Nn m m2 n (new++yo):=by
 have h3:=h.steps
 have h4:=r.pos
 refine⟨(h.ext.trans h2.ext).more om,h2.sml,λt ht=>?_,by rw[GI];have:=h.num;have:=h2.num;omega⟩
 rcases mA.1 ht with ht|ht
 ·exact h.bF t ht
 ·exact h2.inv t ht
theorem Jv:∀(k:Nat) {m:Mk} {s:cD} {on:Nat} {aV:ai} {e:Ex},nI m s on aV e->e.n<=k->∃new,Nn m (l6 k ⟨m,s,on,aV⟩ e) e.n new
 |0,_,_,_,_,e,_,hk=>absurd hk (by have:=e.pos;omega)
 |k+1,m,s,on,aV,e,h,hk=>by
  have h1:=Uz h
  unfold l6
  cases hs:j6 ⟨m,s,on,aV⟩ e with
  |inl m'=>
   rw[hs] at h1
   obtain⟨new,h1⟩:=h1
   exact⟨_,(wX.start h).fin h1⟩
  |inr p=>
   rw[hs] at h1
   obtain⟨⟨m1,s1,vz,aga⟩,e1⟩:=p
   obtain⟨new,h1⟩:=h1
   dsimp only at h1⊢
   obtain⟨yo,h2⟩:=Jv k h1.inv (by have:=h1.num;omega)
   have h3:=h1.num
   refine⟨new++yo,(h1.ext.trans h2.ext).more om,h2.sml,λt ht=>?_,by rw[GI];have:=h2.num;omega⟩
   rcases mA.1 ht with ht|ht
   ·exact h1.bF t ht
   ·exact h2.inv t ht
theorem agb:∀(k:Nat) {m:Mk} {s:cD} {on:Nat} {aV:ai} {e:Ex},nI m s on aV e->e.n<=k->l6 k ⟨m,s,on,aV⟩ e=l6 e.n ⟨m,s,on,aV⟩ e:=by
 have key:∀(k j:Nat) {m:Mk} {s:cD} {on:Nat} {aV:ai} {e:Ex},nI m s on aV e->e.n<=k->e.n<=j->l6 k ⟨m,s,on,aV⟩ e=l6 j ⟨m,s,on,aV⟩ e:=by
  intro k
  induction k with
  |zero=>intro j _ _ _ _ e _ hk;have:=e.pos;omega
  |succ k ih=>
   intro j m s on aV e h hk hj
   cases j with
   |zero=>have:=e.pos;omega
   |succ j=>
    have h1:=Uz h
    unfold l6
    cases hs:j6 ⟨m,s,on,aV⟩ e with
    |inl m'=>rfl
    |inr p=>
     rw[hs] at h1
     obtain⟨⟨m1,s1,vz,aga⟩,e1⟩:=p
     obtain⟨new,h1⟩:=h1
     dsimp only at h1⊢
     have h3:=h1.num
     exact ih j h1.inv om om
 exact λk m s on aV e h hk=>key k e.n h hk (lR _)
/-! ### A program -/
def Cx (m:Mk) (aM:ai) (regs:List ai):Mk:={m with blocks:=m.blocks++[⟨aM,regs,m.code⟩]}
abbrev sT:ai:=[40,116,41]
def sP (T:Ty):Mk:=
 let on:=dz (bu T)
 let code:=dR [99] [sT,bu T]
 ((((⟨[],[],0,false,[],[sT,code,dR [116] [code,sT],on]⟩:Mk).cA lx [[48]]).cA sy [[49],Ad]).cA lx [[50],[49],[48]]).cA sA [[51],[50],on,sT]
def GN (e:Ex) (T:Ty):Tk:=⟨B5,[],0,[],[],e,3,dz (bu T),0⟩
def rQ (e:Ex) (T:Ty):Mk:=l6 e.n ⟨sP T,[],3,dz (bu T)⟩ e
def Cy (e:Ex) (T:Ty):Mk:=Cx {(Cx (rQ e T) B5 []) with code:=[[40,104,97,108,116,32,49,41]]} Ad [sT,bu T]
def Ep (m:Mk) (t:Tk):Mk:=Cx (l6 t.expr.n ⟨qx m t,t.sc,t.on,t.aV⟩ t.expr) t.aM t.regs
def gK (ts:List Tk) (i:Nat):Tk:=ts.getD i ⟨[],[],0,[],[],.at [],0,[],0⟩
def yq:Nat->Mk->Nat->Mk
 |0,m,_=>m
 |k+1,m,i=>if i<m.bF.length then yq k (Ep m (gK m.bF i)) (i+1) else m
def ofM (e:Ex) (T:Ty):Mk:=yq 1000 (Cy e T) 0
structure rR (m:Mk) (i:Nat):Prop where
 le:i<=m.bF.length
 count:m.count=m.bF.length
 num:i+kD (m.bF.drop i)<=120
 inv:∀t,t∈m.bF.drop i->oq t
 tK:∀b,b∈m.blocks->b.small∧b.aM.length<=10
 bnum:m.blocks.length=i+2
theorem UA {T:Ty} (ba:e.ok) (ht:bw e []=some T) (hn:e.n<=120):nI (sP T) [] 3 (dz (bu T)) e:=by
 have hT:=lv (Γ:=[]) (λs T h=>by simp[look] at h) ht
 have h1:=pP hT
 have h2:=tX hT
 have hc:(dR [99] [sT,bu T]).length<=300:=by rw[lG,AU];simp only[lC,List.length_nil];omega
 have ho:AT (dz (bu T)):=⟨T,hT,rfl⟩
 refine⟨?_,⟨λs T h=>by simp[ew,look] at h,sm⟩,ba,⟨T,ht⟩,by simp;omega,by simp[sP,Mk.cA];omega,om,ho,by simp[sP,Mk.cA];omega⟩
 unfold sP
 refine ou (ou (ou (ou ⟨?_,sm⟩ sm sm ?_) sm sm ?_) sm sm ?_) sm sm ?_
 ·intro s hs
  simp only[mC,List.not_mem_nil,or_false] at hs
  rcases hs with rfl|rfl|rfl|rfl
  ·simp
  ·omega
  ·rw[lG,AU];simp only[lC,List.length_nil];omega
  ·omega
 all_goals
  intro p hp
  simp only[mC,List.not_mem_nil,or_false] at hp
  first
  |(rcases hp with rfl|rfl|rfl|rfl<;>first|omega|simp)
  |(rcases hp with rfl|rfl|rfl<;>first|omega|simp)
  |(rcases hp with rfl|rfl<;>first|omega|simp)
  |(rw[hp];simp)
theorem UB {T:Ty} (ba:e.ok) (ht:bw e []=some T) (hn:e.n<=120):∃new,Nn (sP T) (rQ e T) e.n new:=Jv _ (UA ba ht hn) (lR _)
theorem UC (ts:List Tk):ts.length<=kD ts:=by induction ts<;>grind [kD]
theorem agc (m:Mk) (l:ai) (r:List ai):(Cx m l r).blocks=m.blocks++[⟨l,r,m.code⟩]:=rfl
theorem No {T:Ty} (ba:e.ok) (ht:bw e []=some T) (hn:e.n<=120):rR (Cy e T) 0:=by
 obtain⟨new,h⟩:=UB ba ht hn
 have h1:=h.ext.bF
 have h2:=h.ext.count
 have h3:=h.num
 have h4:=h.ext.code
 have h5:=h.ext.blocks
 have hb:(Cy e T).blocks=[⟨B5,[],(rQ e T).code⟩,⟨Ad,[sT,bu T],[[40,104,97,108,116,32,49,41]]⟩]:=by
  unfold Cy
  rw[agc]
  show(rQ e T).blocks++_++_=_
  rw[h5];rfl
 have nP:(Cy e T).bF=new:=by
  show(rQ e T).bF=new
  rw[h1];rfl
 refine⟨Nat.zero_le _,?_,?_,?_,?_,by rw[hb];rfl⟩
 ·rw[nP]
  show(rQ e T).count=_
  rw[h2];simp[sP,Mk.cA]
 ·rw[nP,List.drop_zero];omega
 ·rw[nP,List.drop_zero];exact h.inv
 ·intro b fH
  rw[hb] at fH
  have h6:(sP T).code.length=4:=rfl
  simp only[mC,List.not_mem_nil,or_false] at fH
  rcases fH with rfl|rfl
  ·exact⟨⟨by simp,sm,by show(rQ e T).code.length<_;omega⟩,sm⟩
  ·exact⟨⟨by simp,sm,sm⟩,sm⟩
theorem Jw {ts:List Tk} (hi:i<ts.length):ts.drop i=gK ts i::ts.drop (i+1):=by simp_all[gK]
theorem rR.task (h:rR m i) (hi:i<m.bF.length):oq (gK m.bF i)∧m.count+(gK m.bF i).expr.n<=900∧m.bF.length<=120:=by
 have h1:=h.num
 have hl:=UC (m.bF.drop i)
 rw[List.length_drop] at hl
 have h2:kD (m.bF.drop i)=(gK m.bF i).expr.n+1+kD (m.bF.drop (i+1)):=by rw[Jw hi];simp[kD]
 have h3:=h.count
 exact⟨h.inv _ (by rw[Jw hi];simp),om,om⟩
theorem rR.step (h:rR m i) (hi:i<m.bF.length):rR (Ep m (gK m.bF i)) (i+1):=by
 obtain⟨hT,hc,_⟩:=h.task hi
 have h1:=h.num
 have h2:kD (m.bF.drop i)=(gK m.bF i).expr.n+1+kD (m.bF.drop (i+1)):=by rw[Jw hi];simp[kD]
 have hb:=Nl (m:=m) hT
 obtain⟨new,hF⟩:=Jv _ (Uy hT hc) (lR _)
 have e1:=hF.ext.bF
 have e2:=hF.ext.count
 have e3:=hF.ext.code
 have e4:=hF.ext.blocks
 have e5:=hF.num
 have hbc:=hb.code
 rw[hb.bF] at e1
 rw[hb.count] at e2
 rw[hb.blocks] at e4
 have hr:=hT.room
 have hd:(m.bF++new).drop (i+1)=m.bF.drop (i+1)++new:=by rw[List.drop_append_of_le_length hi]
 have ht:(Ep m (gK m.bF i)).bF=m.bF++new:=e1
 refine⟨by rw[ht,lA];omega,?_,?_,?_,?_,?_⟩
 ·rw[ht,lA,<-h.count];exact e2
 ·rw[ht,hd,GI];omega
 ·intro t Er
  rw[ht,hd] at Er
  rcases mA.1 Er with Er|Er
  ·exact h.inv t (by rw[Jw hi];simp[Er])
  ·exact hF.inv t Er
 ·intro b fH
  have Es:b∈m.blocks++[⟨(gK m.bF i).aM,(gK m.bF i).regs,(l6 (gK m.bF i).expr.n ⟨qx m (gK m.bF i),(gK m.bF i).sc,(gK m.bF i).on,(gK m.bF i).aV⟩ (gK m.bF i).expr).code⟩]:=by rw[<-e4];exact fH
  rcases mA.1 Es with Es|Es
  ·exact h.tK b Es
  ·simp only[List.mem_singleton] at Es
   rw[Es]
   have hl:=hT.aM
   refine⟨⟨by show(gK m.bF i).aM.length<_;omega,by show(gK m.bF i).regs.length<_;omega,?_⟩,by show(gK m.bF i).aM.length<=_;omega⟩
   refine Nat.lt_of_le_of_lt e3 ?_
   have:(if(gK m.bF i).self=[] then 0 else 3)<=3:=by split<;>omega
   omega
 ·show((l6 _ _ _).blocks++[_]).length=_
  rw[e4,lA,h.bnum];rfl
theorem UD (h:¬i<m.bF.length):∀k,yq k m i=m
 |0=>rfl
 |k+1=>by unfold yq;rw[iN h]
theorem UE (h:i<m.bF.length) (k:Nat):yq (k+1) m i=yq k (Ep m (gK m.bF i)) (i+1):=by
 rw[yq,iP h]
theorem rR.small (h:rR m i):tJ m.blocks:=by
 have h1:=h.num
 refine⟨by rw[h.bnum];omega,λj hj=>(h.tK _ ?_).1⟩
 unfold bR
 rw[gG,gE hj];exact List.getElem_mem hj
theorem rR.labels (h:rR m i):∀b,b∈m.blocks->b.aM.length<=10:=λb hb=>(h.tK b hb).2
theorem AY (h:ai):(gH h=true∧fW h=false∧h≠gj∧h≠fV∧h≠gF∧dW h=(1,3))∨(gH h=false∧fW h=false∧h=gj∧dW h=(1,4))∨
  (gH h=false∧fW h=false∧h=fV∧dW h=(2,4))∨(gH h=false∧fW h=false∧h=gF∧dW h=(5,6))∨(gH h=false∧fW h=true∧h≠gj∧h≠fV∧h≠gF∧dW h=(1,2))∨
  (gH h=false∧fW h=false∧h≠gj∧h≠fV∧h≠gF∧dW h=(0,0)):=by
 by_cases hb:gH h=true
 ·left
  have hk:dW h=(1,3):=by unfold dW;rw[iP hb]
  have aU:=hb
  simp only[gH,oE,dE] at aU
  rcases aU with(((e|e)|e)|e)|e<;>subst e<;>refine⟨rfl,rfl,by decide,by decide,by decide,hk⟩
 ·have gN:gH h=false:=by simpa using hb
  right
  by_cases h1:h=gj
  ·left;exact⟨gN,by rw[h1];rfl,h1,by rw[h1];rfl⟩
  ·right
   by_cases h2:h=fV
   ·left;exact⟨gN,by rw[h2];rfl,h2,by rw[h2];rfl⟩
   ·right
    by_cases h3:h=gF
    ·left;exact⟨gN,by rw[h3];rfl,h3,by rw[h3];rfl⟩
    ·right
     by_cases h4:fW h=true
     ·left;exact⟨gN,h4,h1,h2,h3,by unfold dW;rw[iN hb,iN h1,iN h2,iN h3,iP h4]⟩
     ·right;exact⟨gN,by simpa using h4,h1,h2,h3,by unfold dW;rw[iN hb,iN h1,iN h2,iN h3,iN h4]⟩
theorem Jx:dW gj=(1,4)∧dW fV=(2,4)∧dW gF=(5,6)∧fW gj=false∧fW fV=false∧fW gF=false∧gH gj=false∧gH fV=false∧gH gF=false:=by simp_all[dW,fW,gH]
def Et (ps:List aq):Bool:=(decide ((dW (nth ps 0).aw).1<=1)||dN (nth ps 1).aw)&&
 (decide ((dW (nth ps 0).aw).1≠5)||(dN (nth ps 2).aw&&decide ((nth ps 1).aw≠(nth ps 2).aw)&&jP (nth ps 3)&&jP (nth ps 4)))
theorem agd (ps:List aq):nj ps=(decide ((dW (nth ps 0).aw).1≠0)&&decide (ps.length=(dW (nth ps 0).aw).2)&&Et ps&&(ps.drop (dW (nth ps 0).aw).1).all dw):=by
 unfold Et
 match ps with
 |[]=>simp[nj,nth,aq.aw,dW,gH,fW]
 |[h]=>rcases AY h.aw with⟨h1,h2,h3,h4,h5,hk⟩|⟨h1,h2,h3,hk⟩|⟨h1,h2,h3,hk⟩|⟨h1,h2,h3,hk⟩|⟨h1,h2,h3,h4,h5,hk⟩|⟨h1,h2,h3,h4,h5,hk⟩<;>simp[nj,nth,hk]
 |[h,a]=>rcases AY h.aw with⟨h1,h2,h3,h4,h5,hk⟩|⟨h1,h2,h3,hk⟩|⟨h1,h2,h3,hk⟩|⟨h1,h2,h3,hk⟩|⟨h1,h2,h3,h4,h5,hk⟩|⟨h1,h2,h3,h4,h5,hk⟩<;>simp[nj,nth,hk,h1,h2,h3,Jx]
 |[h,a,b]=>rcases AY h.aw with⟨h1,h2,h3,h4,h5,hk⟩|⟨h1,h2,h3,hk⟩|⟨h1,h2,h3,hk⟩|⟨h1,h2,h3,hk⟩|⟨h1,h2,h3,h4,h5,hk⟩|⟨h1,h2,h3,h4,h5,hk⟩<;>simp[nj,nth,hk,h1,h2,h3,Jx]
 |[h,a,b,c]=>rcases AY h.aw with⟨h1,h2,h3,h4,h5,hk⟩|⟨h1,h2,h3,hk⟩|⟨h1,h2,h3,hk⟩|⟨h1,h2,h3,hk⟩|⟨h1,h2,h3,h4,h5,hk⟩|⟨h1,h2,h3,h4,h5,hk⟩<;>simp[nj,nth,hk,h1,h2,h3,Jx]<;>try simp[*]
 |[h,a,b,c,d]=>rcases AY h.aw with⟨h1,h2,h3,h4,h5,hk⟩|⟨h1,h2,h3,hk⟩|⟨h1,h2,h3,hk⟩|⟨h1,h2,h3,hk⟩|⟨h1,h2,h3,h4,h5,hk⟩|⟨h1,h2,h3,h4,h5,hk⟩<;>simp[nj,nth,hk]
 |[h,a,b,c,d,e]=>rcases AY h.aw with⟨h1,h2,h3,h4,h5,hk⟩|⟨h1,h2,h3,hk⟩|⟨h1,h2,h3,hk⟩|⟨h1,h2,h3,hk⟩|⟨h1,h2,h3,h4,h5,hk⟩|⟨h1,h2,h3,h4,h5,hk⟩<;>simp[nj,nth,hk,h3,Jx]<;>try simp[*,Bool.and_assoc]
 |h::a::b::c::d::e::f::r=>rcases AY h.aw with⟨h1,h2,h3,h4,h5,hk⟩|⟨h1,h2,h3,hk⟩|⟨h1,h2,h3,hk⟩|⟨h1,h2,h3,hk⟩|⟨h1,h2,h3,h4,h5,hk⟩|⟨h1,h2,h3,h4,h5,hk⟩<;>simp[nj,nth,hk]<;>omega
theorem UF (t:aq):dw t=if t.aw≠[] then qg t.aw else nj t.ak:=by cases t with|mk a ps=>rw[dw];rfl
theorem age (ha:t.aw=[]):dw t=(decide ((dW (nth t.ak 0).aw).1≠0)&&decide (t.ak.length=(dW (nth t.ak 0).aw).2)&&Et t.ak&&(t.ak.drop (dW (nth t.ak 0).aw).1).all dw):=by grind [UF,agd]
theorem UG (ps:List aq):sw ps=(decide (ps.length=3)&&(decide ((nth ps 0).aw=[62])||decide ((nth ps 0).aw=[42]))&&(oK (nth ps 1)&&oK (nth ps 2))):=by
 match ps with
 |[]=>simp[sw]
 |[h]=>simp[sw]
 |[h,a]=>simp[sw]
 |[h,a,b]=>simp[sw,nth]
 |h::a::b::c::r=>simp[sw]
/-! ### Texts -/
def yr (s:ai):Bool:=match bA s with
 |some t=>jP t
 |none=>false
theorem agf {s:ai}:yr s=true↔∃T:Ty,T.n<=16∧s=T.text:=by grind [yr,bA,zX,tH,wo,Ty.bA,Good.wf,Ex.wf]
theorem UH {T:Ty}:yr T.text=decide (T.n<=16):=by grind [agf,Ty.inj]
def Cz (s sg:ai):Option (Ty×Ty)->Prop
 |some (a,b)=>∃f,sg=jO f∧s=(Ty.op f a b).text∧(Ty.op f a b).n<=16
 |none=>∀f a b,sg=jO f->s=(Ty.op f a b).text->¬(Ty.op f a b).n<=16
def Jy (t:aq):Bool:=dw t&&decide (fh t<=120)
def l7 (s:ai):Bool:=match bA s with
 |some t=>Jy t
 |none=>false
theorem agh (hw:WF t):Jy t=true↔∃e:Ex,t=e.au∧e.ok∧e.n<=120:=by grind [Jy,adN,Ex.fh]
theorem wY {s:ai}:l7 s=true↔∃e:Ex,bA s=some e.au∧e.ok∧e.n<=120:=by grind [l7,bA,agh,tH]
theorem UI {ps:List aq} (i:Nat):jw (ps.take i)<=jw ps:=by
 conv=>rhs;rw[<-List.take_append_drop i ps,R7]
 omega
theorem agi (t:aq):jw t.ak<=t.size:=by
 cases t with
 |mk a ps=>have:=Ma ps;simp only[aq.size,aq.ak];omega
theorem UJ:∀(m:Nat) (t:aq),t.size<=m->t.size<=10000000->WF t->∀(v:Value) (L:List Nat) (w:World),bB L w v t->
  bz Tryz.prog 74 [v] w λr w'=>r= .int .i64 (fh t:Int)∧aj [] w w':=by
 intro m
 induction m with
 |zero=>intro t h;have:=xR t;omega
 |succ m ih=>
  intro t hm lD cm v L w hv
  obtain⟨a,n,c,rfl,hn,aP⟩:=cU hv
  subst hn
  have nZ:=wm t
  have hhs:=agi t
  have hK:=aj.refl [] w
  refine bS [.tmp 2] 24 Tryz.func74 rfl aa2 rfl rfl ?_
  refine zr<|eH rfl λw1 aI aX dk=>?_
  have hK:=hK.ext aI
  refine W ?_
  refine zc rfl (λh1=>?_) (λh1=>?_)
  have hq:fh t=1:=by rw[LZ,iP h1]
  refine W ?_
  exact⟨_,rfl,by rw[hq];rfl,hK⟩
  have hq:fh t=jw t.ak:=by rw[LZ,iN h1]
  refine W ?_
  refine eA (λk:Nat=>[(1,.pointer (some ⟨w.heap.size,0,none⟩)),(3,.int .i64 ((jw (t.ak.take k):Nat):Int)),(4,.int .i64 (k:Int))]) (λk w'=>aj [] w w'∧aJ w' w.heap.size [str t.aw,.slice a t.ak.length c].toArray 78∧k<=t.ak.length) (λk=>t.ak.length-k) (0) (⟨rfl,rfl,rfl⟩) (⟨hK,aX,om⟩) λgg w2 e2 hI=>?_
  obtain⟨hK,aX,hk⟩:=hI
  refine W ?_
  refine zc rfl (λh2=>?_) (λh2=>?_)
  have ey:=gh (ps:=t.ak) (i:=gg) om
  obtain⟨b1,eX,pa,pn,pc,rfl,jk,eP,fM⟩:=iJ aP ey
  subst eP
  have yd:=cm.nth (i:=gg) om
  have mY:=kY (t:=t) (i:=gg) om
  have aR:=R8 ey
  have hle:=UI (ps:=t.ak) (gg+1)
  refine WL ?_
  refine zl iC rfl (aX.at rfl)<|zm<|zi cz aL rfl rfl om<|zL eU aL rfl (jk.ext hK) rfl<|aA (ih (nth t.ak gg) om om yd _ L w2 ((kV fM).ext hK)) ?_
  rintro _ w3 ⟨rfl,aH⟩
  have fm:=aH.size
  refine bI aH hK aX λhK aX=>?_
  refine W ?_
  exact⟨gg+1,⟨rfl,congrArg (Value.int .i64) om,rfl⟩,⟨hK,aX,om⟩,om⟩
  have fG:gg=t.ak.length:=by omega
  subst fG
  refine W ?_
  exact⟨_,rfl,by rw[hq,List.take_length];rfl,hK⟩
theorem agj:∀(m:Nat) (t:aq),t.size<=m->t.size<=10000000->WF t->∀(v:Value) (L:List Nat) (w:World),bB L w v t->
  bz Tryz.prog 146 [v] w λr w'=>r= .bool (oK t)∧aj [] w w':=by
 intro m
 induction m with
 |zero=>intro t h;have:=xR t;omega
 |succ m ih=>
  intro t hm lD cm v L w hv
  obtain⟨a,n,c,rfl,hn,aP⟩:=cU hv
  subst hn
  have hK:=aj.refl [] w
  have nZ:=wm t
  refine bS [.tmp 2] 41 Tryz.func146 rfl ZO rfl rfl ?_
  refine zr<|eH rfl λw1 aI aX dk=>bI aI hK aP λhK aP=>?_
  refine W ?_
  refine zc rfl (λh1=>?_) (λh1=>?_)
  have hq:oK t=decide (t.aw=[105]):=by rw[R9,iP h1]
  refine W ?_
  exact⟨_,rfl,by rw[hq];rfl,hK⟩
  have ha:t.aw=[]:=Classical.not_not.1 h1
  have j8:=cm.pos ha
  have hq:oK t=sw t.ak:=by rw[R9,iN (λh=>h ha)]
  obtain⟨b,off,pa,pn,pc,rfl,et,eP,fM⟩:=iJ aP (gh j8)
  refine WZ ?_
  apply oP 15 13 28 rfl oQ
  intro h2
  refine WZ ?_
  apply oB 7 20 27 rfl oQ
  intro h3
  refine WZ ?_
  exact oQ
  intro xx
  exact oQ
  intro xx
  refine aZ<|zc rfl (λh4=>?_) (λh4=>?_)
  have hz:sw t.ak=false:=by rw[UG];simp only[oE,aE,dE] at h4;rcases h4 with h|⟨h1,h2⟩;(·rw[dF om];rfl);(·rw[dF h1,dF h2];simp)
  refine W ?_
  exact⟨_,rfl,by rw[hq,hz];rfl,hK⟩
  simp only[Bool.or_eq_false_iff,Bool.and_eq_false_iff,decide_eq_false_iff_not,Classical.not_not] at h4
  obtain⟨h31,UK⟩:=h4
  have h3:t.ak.length=3:=om
  have nY:sw t.ak=(oK (nth t.ak 1)&&oK (nth t.ak 2)):=by rw[UG,dT h3];rcases UK with h|h<;>rw[h]<;>rfl
  obtain⟨b1,eX,gA,qZ,gm,e1,bK,sJ,oY⟩:=iJ aP (gh (i:=1) om)
  cases e1
  subst sJ
  obtain⟨b2,lF,iA,AZ,iw,e2,bU,Jz,Np⟩:=iJ aP (gh (i:=2) om)
  cases e2
  subst Jz
  have cV:=kY (t:=t) (i:=1) om
  have dm:=kY (t:=t) (i:=2) om
  have cI:=kV oY
  have dI:=kV Np
  refine gY<|zr<|zf jt rfl<|zl iC rfl (aX.at rfl)<|zi (i:=1) cz aL rfl rfl om<|zL eU aL rfl bK rfl<|aA (ih (nth t.ak 1) om om (cm.nth om) _ L w1 cI) ?_
  rintro _ w2 ⟨rfl,az⟩
  have dm:=az.size
  refine ie az hK aX bU dI λhK aX bU dI=>?_
  refine WZ ?_
  apply oA 6 34 40 (aj [] w2) rfl oQ
  intro h5
  refine zf jt rfl<|zl iC rfl (aX.at rfl)<|zi (i:=2) cz aL rfl rfl om<|zL eU aL rfl bU rfl<|aA (ih (nth t.ak 2) om om (cm.nth om) _ L w2 dI) ?_
  rintro _ w3 ⟨rfl,aH⟩
  have fm:=aH.size
  exact oQ
  intro xx w3 aH
  have hK:=hK.ext aH
  refine W ?_
  exact⟨_,rfl,by rw[hq,nY];rfl,hK⟩
theorem A1 (t:aq) (lD:t.size<=10000000) (cm:WF t) (v:Value) (L:List Nat) (w:World) (hv:bB L w v t):
  bz Tryz.prog 110 [v] w λr w'=>r= .bool (jP t)∧aj [] w w':=by
 have cO:=hv
 obtain⟨a,n,c,rfl,hn,aP⟩:=cU hv
 have hK:=aj.refl [] w
 refine bS [.tmp 2] 10 Tryz.func110 rfl Zi rfl rfl ?_
 refine zr<|eH rfl λw1 aI aX dk=>bI aI hK cO λhK cO=>?_
 refine W ?_
 refine aA (agj t.size t (lR _) lD cm _ L w1 cO) ?_
 rintro _ w2 ⟨rfl,az⟩
 have dm:=az.size
 refine cN az hK cO aX λhK cO aX=>?_
 refine WZ ?_
 apply oA 4 5 9 (aj [] w2) rfl oQ
 intro _
 refine W ?_
 refine aA (UJ t.size t (lR _) lD cm _ L w2 cO) ?_
 rintro _ w3 ⟨rfl,aH⟩
 have fm:=aH.size
 exact oQ
 intro xx w3 aH
 have hK:=hK.ext aH
 refine W ?_
 exact⟨_,rfl,congrArg Value.bool (show _=jP t from by unfold jP;congr 1;exact decide_eq_decide.2 om),hK⟩
theorem agk {s:ai} (h:DY s t):((bA s).isSome&&jP t)=yr s:=by
 unfold yr
 cases hp:bA s with
 |none=>rfl
 |some u=>rw[h.1 u hp];rfl
theorem Nq (s:ai) (w:World):bz Tryz.prog 152 [str s] w λr w'=>r= .bool (yr s)∧aj [] w w':=by
 have hK:=aj.refl [] w
 refine bS [.tmp 2] 15 Tryz.func152 rfl ZV rfl rfl ?_
 refine W ?_
 refine aA (Ji s [] w sm) ?_
 rintro v1 w1 ⟨fX,aI⟩
 have cV:=aI.size
 have hK:=hK.ext aI
 obtain⟨t,tv,rfl,ht,hp⟩:=fX
 obtain⟨pa,pn,pc,rfl,eP,aP⟩:=cU ht
 refine W ?_
 refine dx aL rfl rfl rfl λw2 az cQ dC=>?_
 have hK:=hK.grow;have hK:=hK.ext az;have ht:=ht.grow;have ht:=ht.ext az
 refine cJ aL rfl rfl rfl cQ rfl λw3 aH cQ gJ=>?_
 have hK:=hK.aD aH sx;have ht:=ht.aD aH sx
 refine W ?_
 apply oA 3 11 14 (aj [] w3) rfl oQ
 intro h1
 obtain⟨u,hu⟩:=Option.isSome_iff_exists.1 h1
 have e:=hp.1 u hu
 subst e
 refine W ?_
 refine aA (A1 t (by have:=zJ hu;omega) (tH hu) _ _ w3 ht) ?_
 rintro _ w4 ⟨rfl,aO⟩
 have fE:=aO.size
 exact oQ
 intro xx w4 aO
 have hK:=hK.ext aO
 refine W ?_
 exact⟨_,rfl,congrArg Value.bool (agk hp),hK⟩
def sQ:Option (Ty×Ty)->ai
 |some p=>p.1.text
 |none=>[]
def yt:Option (Ty×Ty)->ai
 |some p=>p.2.text
 |none=>[]
def Nr (o:Option (Ty×Ty)):Value:=.tuple #[str (sQ o),str (yt o),.bool o.isSome]
theorem agl {s sg:ai} (hp:DY s t) (h:(((!(bA s).isSome||!jP t)||decide (t.aw≠[]))||decide ((nth t.ak 0).aw≠sg))=true):Cz s sg none:=by
 intro f a b e1 e2 hn
 have aP:bA s=some (Ty.op f a b).au:=by rw[e2];exact Ty.bA om
 have e:=hp.1 _ aP
 subst e
 have ht:jP (Ty.op f a b).au=true:=(zX (tH aP)).2 ⟨_,rfl,hn⟩
 rw[aP,ht] at h
 simp[Ty.au,aq.aw,aq.ak,nth,bJ,e1] at h
theorem agm {s sg:ai} (hp:DY s t) (h:(((!(bA s).isSome||!jP t)||decide (t.aw≠[]))||decide ((nth t.ak 0).aw≠sg))=false):∃f A B,t=(Ty.op f A B).au∧(Ty.op f A B).n<=16∧Cz s sg (some (A,B)):=by
 simp only[Bool.or_eq_false_iff,Bool.not_eq_false',decide_eq_false_iff_not,Classical.not_not] at h
 obtain⟨⟨⟨h1,h2⟩,h3⟩,h4⟩:=h
 obtain⟨u,hu⟩:=Option.isSome_iff_exists.1 h1
 have e:=hp.1 u hu
 subst e
 obtain⟨T,rfl,hn⟩:=(zX (tH hu)).1 h2
 cases T with
 |i=>simp[Ty.au,bJ,aq.aw] at h3
 |op f A B=>exact⟨f,A,B,rfl,hn,f,by rw[<-h4];rfl,(wo hu).2.2.1.symm,hn⟩
theorem UM (s sg:ai) (w:World):bz Tryz.prog 154 [str s,str sg] w λr w'=>(∃o,Cz s sg o∧r=Nr o)∧aj [] w w':=by
 have hK:=aj.refl [] w
 refine bS [.tmp 4,.tmp 5,.tmp 6] 45 Tryz.func154 rfl ZW rfl rfl ?_
 refine W ?_
 refine aA (Ji s [] w sm) ?_
 rintro v1 w1 ⟨fX,aI⟩
 have cV:=aI.size
 have hK:=hK.ext aI
 obtain⟨t,tv,rfl,ht,hp⟩:=fX
 obtain⟨pa,pn,pc,rfl,eP,aP⟩:=cU ht
 subst eP
 refine W ?_
 refine dx aL rfl rfl rfl λw2 az cM dC=>?_
 have hK:=hK.grow;have hK:=hK.ext az;have ht:=ht.grow;have ht:=ht.ext az;have aP:=aP.grow;have aP:=aP.ext az
 refine cJ aL rfl rfl rfl cM rfl λw3 aH cM gJ=>?_
 have hK:=hK.aD aH sx;have ht:=ht.aD aH sx;have aP:=aP.aD aH sx
 refine W ?_
 apply oO 4 16 20 (aj [] w3) rfl oQ
 intro h1
 obtain⟨u,hu⟩:=Option.isSome_iff_exists.1 h1
 have e:=hp.1 u hu
 subst e
 refine W ?_
 refine aA (A1 t (by have:=zJ hu;omega) (tH hu) _ _ w3 ht) ?_
 rintro _ w4 ⟨rfl,aO⟩
 have fE:=aO.size
 exact oQ
 intro xx w5 aN
 refine cN aN hK aP cM λhK aP cM=>?_
 refine WZ ?_
 apply oP 4 21 25 rfl oQ
 intro _
 refine WZ ?_
 exact oQ
 intro xx
 refine WZ ?_
 apply oP 8 26 34 rfl oQ
 intro h3
 simp only[Bool.or_eq_false_iff,Bool.not_eq_false',decide_eq_false_iff_not,Classical.not_not] at h3
 obtain⟨⟨q1,q2⟩,q3⟩:=h3
 obtain⟨u,hu⟩:=Option.isSome_iff_exists.1 q1
 have e:=hp.1 u hu
 subst e
 have j8:=(tH hu).pos q3
 obtain⟨b0,vj,qa,qn,qc,e0,et,_,_⟩:=iJ aP (gh j8)
 subst e0
 refine WZ ?_
 exact oQ
 intro xx
 refine aZ<|zc rfl (λh4=>?_) (λh4=>?_)
 refine W ?_
 exact⟨_,rfl,⟨none,agl hp h4,rfl⟩,hK⟩
 obtain⟨f,A,B,e,hn,hT⟩:=agm hp h4
 subst e
 have Sd:(Ty.op f A B).n=1+A.n+B.n:=rfl
 have hA:=Ty.size A
 have hB:=Ty.size B
 have Ns:=Ty.len A
 have Nt:=Ty.len B
 have Eg:(Ty.op f A B).au.ak.length=3:=rfl
 obtain⟨b1,eX,gA,qZ,gm,e1,bK,sJ,oY⟩:=iJ aP (gh (i:=1) om)
 subst e1
 subst sJ
 obtain⟨b2,lF,iA,AZ,iw,e2,bU,Jz,Np⟩:=iJ aP (gh (i:=2) om)
 cases e2
 subst Jz
 have cI:bB _ w5 _ A.au:=kV oY
 have dI:bB _ w5 _ B.au:=kV Np
 refine WZ ?_
 apply dV dj 13 [35,36,37,38,39,40,41,42,43,44,4,5,6] [[],[0],[1],[2],[3],[],[5],[6],[7],[8],[4],[9],[]] (it [_,_,_,_,_,_,_,_,_,_,_,_,_]) de rfl
 intro wd aC
 refine VA ?_
 refine vk aC (λx w6 bN=>?_) ?_
 refine zi (i:=1) cz aL rfl rfl ((show 1<3 from om)) ?_
 exact pv
 refine VA ?_
 refine vk aC (λx w6 bN=>?_) ?_
 have cI:=cI.ext bN
 refine aA (tW A.au.size A.au (lR _) A.lu.wf om (show A.text.length<=100000000 from om) _ _ w6 cI) ?_
 rintro _ w7 ⟨rfl,bW⟩
 have lf:=bW.size
 exact pk bW
 refine VA ?_
 refine vk aC (λx w6 bN=>?_) ?_
 refine zi (i:=2) cz aL rfl rfl ((show 2<3 from om)) ?_
 exact pv
 refine VA ?_
 refine vk aC (λx w6 bN=>?_) ?_
 have dI:=dI.ext bN
 refine aA (tW B.au.size B.au (lR _) B.lu.wf om (show B.text.length<=100000000 from om) _ _ w6 dI) ?_
 rintro _ w7 ⟨rfl,bW⟩
 have lf:=bW.size
 exact pk bW
 exact VZ
 intro x qu rM
 have hK:=hK.ext rM
 change OW _ _ _ _ [] (bo (bj _ x _) (zZ 35 [_,_,_,_,_,_,_,_,_,_]++[(4,_),(5,_),(6,_)])) _
 refine W ?_
 exact⟨_,rfl,⟨some (A,B),hT,rfl⟩,hK⟩
theorem UN (s:ai) (w:World):bz Tryz.prog 127 [str s] w λr w'=>(∃o,Cz s [62] o∧r=Nr o)∧aj [] w w':=by
 have hK:=aj.refl [] w
 refine bS [.tmp 2,.tmp 3,.tmp 4] 10 Tryz.func127 rfl Zz rfl rfl ?_
 refine W ?_
 refine aA (UM s [62] w) ?_
 rintro v1 w1 ⟨fX,aI⟩
 have cV:=aI.size
 have hK:=hK.ext aI
 obtain⟨o,ho,rfl⟩:=fX
 refine W ?_
 exact⟨_,rfl,⟨o,ho,rfl⟩,hK⟩
theorem UO (s:ai) (w:World):bz Tryz.prog 126 [str s] w λr w'=>(∃o,Cz s [42] o∧r=Nr o)∧aj [] w w':=by
 have hK:=aj.refl [] w
 refine bS [.tmp 2,.tmp 3,.tmp 4] 10 Tryz.func126 rfl Zy rfl rfl ?_
 refine W ?_
 refine aA (UM s [42] w) ?_
 rintro v1 w1 ⟨fX,aI⟩
 have cV:=aI.size
 have hK:=hK.ext aI
 obtain⟨o,ho,rfl⟩:=fX
 refine W ?_
 exact⟨_,rfl,⟨o,ho,rfl⟩,hK⟩
theorem UP {T:Ty} (hT:T.n<=16) (f:Bool) {o:Option (Ty×Ty)} (h:Cz T.text (jO f) o):o=match T with| .op g a b=>if g=f then some (a,b) else none| .i=>none:=by
 cases o with
 |some p=>
  obtain⟨g,h1,h2,h3⟩:=h
  have e:=Ty.inj h2
  subst e
  have:f=g:=by cases f<;>cases g<;>first|rfl|(simp[jO] at h1)
  subst this
  simp
 |none=>
  cases T with
  |i=>rfl
  |op g a b=>
   have dL:¬g=f:=λe=>h f a b rfl (by rw[e]) (by rw[<-e];exact hT)
   simp[dL]
theorem UQ {T:Ty} (h:T.n<=16):yr T.text=true:=by rw[UH];exact dT h
theorem UR (f:Bool) (A B:Ty) (hA:A.n<=16) (hB:B.n<=16) (w:World):
  bz Tryz.prog 123 [.bool f,str A.text,str B.text] w λr w'=>r= .tuple #[str (if 1+A.n+B.n<=16 then(Ty.op f A B).text else[]),.bool (decide (1+A.n+B.n<=16))]∧aj [] w w':=by
 have hK:=aj.refl [] w
 have Ns:=Ty.len A
 have Nt:=Ty.len B
 have UK:=LY f
 have pQ:(((((([40]++jO f)++[32])++A.text)++[32])++B.text)++[41])=(Ty.op f A B).text:=by rw[Ty.IH];simp
 have hy:yr (Ty.op f A B).text=decide (1+A.n+B.n<=16):=UH
 refine bS [.tmp 6,.tmp 7] 34 Tryz.func123 rfl Zw rfl rfl ?_
 refine W ?_
 refine ix (λ_:Unit=>[(0,.bool f),(1,str A.text),(2,str B.text),(8,str (jO f))]) (λ_ w'=>w'=w) ?_ ?_
 refine zc rfl (λh1=>?_) (λh1=>?_)
 have hf:=h1
 refine W ?_
 exact⟨(),⟨rfl,rfl,rfl,by rw[hf];rfl⟩,rfl⟩
 have hf:=h1
 refine WZ ?_
 exact⟨(),⟨rfl,rfl,rfl,by rw[hf];rfl⟩,rfl⟩
 intro gu w1 e1 hI
 subst hI
 refine W ?_
 refine aA (Nq A.text w1) ?_
 rintro v2 w2 ⟨ij,az⟩
 have dm:=az.size
 have hK:=hK.ext az
 obtain rfl:=ij.trans (congrArg Value.bool (UQ hA))
 refine kx rfl rfl rfl<|zm<|Fu (t:=23) (b:=false) rfl<|zm<|aA (Nq B.text w2) ?_
 rintro v3 w3 ⟨ko,aH⟩
 have fm:=aH.size
 have hK:=hK.ext aH
 obtain rfl:=ko.trans (congrArg Value.bool (UQ hB))
 refine kx rfl rfl rfl<|zp rfl<|zm<|Fu (t:=28) (b:=false) rfl<|zm<|aA (Nq _ w3) ?_
 rintro v4 w4 ⟨jR,aO⟩
 have fE:=aO.size
 have hK:=hK.ext aO
 obtain rfl:=jR.trans (congrArg Value.bool ((congrArg yr pQ).trans hy))
 refine W ?_
 refine zc rfl (λh2=>?_) (λh2=>?_)
 have hn:¬1+A.n+B.n<=16:=by simpa using h2
 refine W ?_
 have hr:Value.tuple #[str (if 1+A.n+B.n<=16 then(Ty.op f A B).text else[]),.bool (decide (1+A.n+B.n<=16))]=Value.tuple #[str [],.bool false]:=by rw[iN hn,dF hn]
 exact⟨_,rfl,hr.symm,hK⟩
 have hn:1+A.n+B.n<=16:=by simpa using h2
 refine W ?_
 have hr:Value.tuple #[str (if 1+A.n+B.n<=16 then(Ty.op f A B).text else[]),.bool (decide (1+A.n+B.n<=16))]=Value.tuple #[str (((((([40]++jO f)++[32])++A.text)++[32])++B.text)++[41]),.bool true]:=by rw[iP hn,dT hn,pQ]
 exact⟨_,rfl,hr.symm,hK⟩
theorem UT (c:UInt8):(decide ((c.toNat:Int)<97)||decide ((122:Int)<(c.toNat:Int)))=!(decide (97<=c)&&decide (c<=122)):=by
 have h1:decide (97<=c)=decide ((97:Int)<=c.toNat):=(FP 97 c).symm
 have h2:decide (c<=122)=decide ((c.toNat:Int)<=122):=decide_eq_decide.2 (by rw[UInt8.le_iff_toNat_le];have:(122:UInt8).toNat=122:=rfl;omega)
 rw[h1,h2,Bool.not_and,<-decide_not,<-decide_not]
 congr 1<;>exact decide_eq_decide.2 om
theorem agn {s:ai} (h1:1<=k) (hk:k<s.length) (h:gW (s.getD k 0)=false):(s.drop 1).all gW=false:=by
 rw[List.all_eq_false]
 refine⟨s.getD k 0,?_,by rw[h];simp⟩
 rw[List.mem_iff_getElem?]
 refine⟨k-1,?_⟩
 rw[List.getElem?_drop,show 1+(k-1)=k by omega]
 exact je hk
theorem ago {s:ai} (h:∀k,1<=k->k<s.length->gW (s.getD k 0)=true):(s.drop 1).all gW=true:=by
 rw[List.all_eq_true]
 intro c hc
 obtain⟨i,hi⟩:=List.mem_iff_getElem?.1 hc
 rw[List.getElem?_drop] at hi
 have hl:=(List.getElem?_eq_some_iff.1 hi).1
 have:=h (1+i) om hl
 rw[je hl] at hi
 cases hi
 exact this
theorem vA (s:ai) (w:World):bz Tryz.prog 108 [str s] w λv w'=>v= .bool (dN s)∧w=w':=by
 have hN:dN s=(((decide (1<=s.length)&&decide (s.length<=4))&&(decide (97<=s.getD 0 0)&&decide (s.getD 0 0<=122)))&&(s.drop 1).all gW):=rfl
 have hz:∀c:UInt8,(decide ((c.toNat:Int)<48)||decide ((57:Int)<(c.toNat:Int)))=!gW c:=by
  intro c
  cases hd:gW c with
  |true=>have:=(BR c).1 hd;simp;omega
  |false=>rw[Bool.not_false,oE,dE,dE];apply Classical.byContradiction;intro hh;have:=(BR c).2 om;rw[hd] at this;cases this
 refine bS [.tmp 2] 34 Tryz.func108 rfl Zf rfl rfl ?_
 refine W ?_
 refine aA (Gm _ _ _ _) ?_
 rintro _ _ ⟨rfl,rfl⟩
 refine WZ ?_
 apply oP 4 8 12 rfl oQ
 intro h1
 have hl:1<=s.length∧s.length<=4:=(by simp at h1;omega)
 refine zm<|j3 (i:=0) il rfl rfl rfl rfl (je om) ?_
 exact oQ
 intro xx
 refine WZ ?_
 apply oP 4 13 17 rfl oQ
 intro h2
 have hl:1<=s.length∧s.length<=4:=(by simp at h2;omega)
 refine zm<|j3 (i:=0) il rfl rfl rfl rfl (je om) ?_
 exact oQ
 intro xx
 refine aZ<|zc rfl (λh3=>?_) (λh3=>?_)
 have hq:dN s=false:=(by rw[hN];rw[Bool.or_assoc,UT] at h3;simp only[oE,Bool.not_eq_true',Bool.and_eq_false_iff,decide_eq_false_iff_not] at h3;simp only[Bool.and_eq_false_iff,decide_eq_false_iff_not];left;rcases h3 with(h|h)|h;(·left;left;omega);(·left;right;omega);(·right;exact h))
 refine W ?_
 exact⟨_,rfl,by rw[hq];rfl,rfl⟩
 have hl:(1<=s.length∧s.length<=4)∧(decide (97<=s.getD 0 0)&&decide (s.getD 0 0<=122))=true:=(by rw[Bool.or_assoc,UT] at h3;simp only[Bool.or_eq_false_iff,Bool.not_eq_false'] at h3;refine⟨?_,h3.2⟩;have h1:=h3.1;simp at h1;omega)
 have hq:dN s=(s.drop 1).all gW:=(by rw[hN,hl.2,dT hl.1.1,dT hl.1.2];rfl)
 refine W ?_
 refine eA (λk:Nat=>[(0,str s),(3,.int .i64 (k:Int))]) (λk w'=>w'=w∧1<=k∧k<=s.length∧∀j,1<=j->j<k->gW (s.getD j 0)=true) (λk=>s.length-k) (1) (⟨rfl,rfl⟩) (⟨rfl,om,om,by intro j h1 h2;omega⟩) λgg w1 e1 hI=>?_
 obtain⟨rfl,aI,hk,cL⟩:=hI
 refine W ?_
 refine zc rfl (λh4=>?_) (λh4=>?_)
 refine W ?_
 refine j3 il rfl rfl rfl rfl (je om)<|WZ ?_
 apply oP 5 28 33 rfl oQ
 intro h5
 refine zm<|zm<|j3 il rfl rfl rfl rfl (je om) ?_
 exact oQ
 intro xx
 refine aZ<|zc rfl (λh6=>?_) (λh6=>?_)
 have hd:gW (s.getD gg 0)=false:=(by rw[hz] at h6;simpa using h6)
 refine W ?_
 exact⟨_,rfl,by rw[hq,agn aI om hd];rfl,rfl⟩
 have hd:gW (s.getD gg 0)=true:=(by rw[hz] at h6;simpa using h6)
 refine W ?_
 exact⟨gg+1,⟨rfl,rfl⟩,⟨rfl,om,om,by intro j h1 h2;rcases Nat.lt_or_ge j gg with h|h;exact cL j h1 h;rw[show j=gg by omega];exact hd⟩,om⟩
 refine W ?_
 exact⟨_,rfl,by rw[hq,ago (λj h1 h2=>cL j h1 om)];rfl,rfl⟩
def Nu (h:ai):Value:=.tuple #[.int .i64 ((dW h).1:Int),.int .i64 ((dW h).2:Int)]
theorem yu {a:Nat} (e:dW h=(a,b)):Nu h= .tuple #[.int .i64 (a:Int),.int .i64 (b:Int)]:=by unfold Nu;rw[e]
theorem agp (e:gH h=true):dW h=(1,3):=by unfold dW;rw[iP e]
theorem agq (e:fW h=true):dW h=(1,2):=by
 unfold fW at e
 simp only[oE,dE] at e
 rcases e with e|e<;>subst e<;>decide
theorem JA (h:ai) (w:World):bz Tryz.prog 109 [str h] w λv w'=>v=Nu h∧w=w':=by
 refine bS [.tmp 2,.tmp 3] 20 Tryz.func109 rfl Zg rfl rfl ?_
 refine W ?_
 refine ix (λ_:Unit=>[(4,str h),(5,.bool (gH h))]) (λ_ w'=>w'=w) ?_ ?_
 refine zc rfl (λh1=>?_) (λh1=>?_)
 refine WZ ?_
 exact⟨(),⟨rfl,congrArg Value.bool (show decide (h=[43])=gH h from by rw[dT h1,show gH h=true from by rw[h1];rfl])⟩,rfl⟩
 have n1:=h1
 refine W ?_
 refine zc rfl (λh2=>?_) (λh2=>?_)
 refine WZ ?_
 exact⟨(),⟨rfl,congrArg Value.bool (show decide (h=[45])=gH h from by rw[dT h2,show gH h=true from by rw[h2];rfl])⟩,rfl⟩
 have n2:=h2
 refine W ?_
 refine zc rfl (λh3=>?_) (λh3=>?_)
 refine WZ ?_
 exact⟨(),⟨rfl,congrArg Value.bool (show decide (h=[42])=gH h from by rw[dT h3,show gH h=true from by rw[h3];rfl])⟩,rfl⟩
 have n3:=h3
 refine W ?_
 refine zc rfl (λh4=>?_) (λh4=>?_)
 refine WZ ?_
 exact⟨(),⟨rfl,congrArg Value.bool (show decide (h=j4)=gH h from by rw[dT h4,show gH h=true from by rw[h4];rfl])⟩,rfl⟩
 have n4:=h4
 refine W ?_
 exact⟨(),⟨rfl,congrArg Value.bool (show decide (h=xS)=gH h from by unfold gH;rw[dF n1,dF n2,dF n3,dF n4];rfl)⟩,rfl⟩
 intro gu w1 e1 hI
 obtain rfl:=hI.symm
 refine zc rfl (λh5=>?_) (λh5=>?_)
 have hq:=h5
 refine W ?_
 exact⟨_,rfl,(yu (agp hq)).symm,rfl⟩
 have b0:=h5
 refine W ?_
 refine zc rfl (λh6=>?_) (λh6=>?_)
 have hq:=h6
 refine W ?_
 exact⟨_,rfl,(yu (by rw[hq];rfl)).symm,rfl⟩
 have m1:=h6
 refine W ?_
 refine zc rfl (λh7=>?_) (λh7=>?_)
 have hq:=h7
 refine W ?_
 exact⟨_,rfl,(yu (by rw[hq];rfl)).symm,rfl⟩
 have m2:=h7
 refine W ?_
 refine zc rfl (λh8=>?_) (λh8=>?_)
 have hq:=h8
 refine W ?_
 exact⟨_,rfl,(yu (by rw[hq];rfl)).symm,rfl⟩
 have m3:=h8
 refine W ?_
 refine ix (λ_:Unit=>[(4,str h),(17,.bool (fW h))]) (λ_ w'=>w'=w) ?_ ?_
 refine zc rfl (λh9=>?_) (λh9=>?_)
 refine WZ ?_
 exact⟨(),⟨rfl,congrArg Value.bool (show decide (h=B2)=fW h from by rw[dT h9,show fW h=true from by rw[h9];rfl])⟩,rfl⟩
 have n5:=h9
 refine W ?_
 exact⟨(),⟨rfl,congrArg Value.bool (show decide (h=qT)=fW h from by unfold fW;rw[dF n5];rfl)⟩,rfl⟩
 intro gu w2 e2 hI
 obtain rfl:=hI.symm
 refine zc rfl (λfO=>?_) (λfO=>?_)
 have hq:=fO
 refine W ?_
 exact⟨_,rfl,(yu (agq hq)).symm,rfl⟩
 have m4:=fO
 refine W ?_
 exact⟨_,rfl,(yu (by unfold dW;rw[iN (by rw[b0];simp),iN m1,iN m2,iN m3,iN (by rw[m4];simp)])).symm,rfl⟩
end Go.Proofs.YtkcegcjelmmilaaGreatDoor
