/- Lemmas for the law FnLink, no statement of their own: no conditions. -/
import Derived.Test.YtcildnfcpkpomaaGreatDoorHd
import Derived.Laws.IdiomStrings
set_option maxHeartbeats 4000000
set_option linter.unusedVariables false
set_option linter.unusedSimpArgs false
namespace Go.Proofs.YtcildnfcpkpomaaGreatDoor
open Go
variable {E b bytes c i k n sz x:Nat} {v z:Value} {g gb:Option Nat} {ps xs:List ak} {s:cY} {w w':World} {gss:List (Option Nat×Option Nat)} {bs:List Bk} {vs:Array Value} {L:List Nat} {a:Option Addr} {rows:List (List C)} {q1 q2 q3 q4 q5 q6:Operand} {a1 a2 a3 a4 a5 a6 h:ak} {t:aq} {ts:List aq} {m m1 m2:Mk} {e:Ex}
/-! ### Operations -/
section
variable {P:Program} {n:Nat} {ops:Array Oper} {K:Env->World->Prop} {rest:List Oper} {e:Env} {w:World}
 {dst:Option Nat} {ty:TypeId} {pos:String} {after:Array Edge} {g:Option (Nat×Bool)} {x y:Operand}
theorem Xt {S D b cap:Nat} {z:Int} {c:UInt8} {U:TypeId} (f:P.underlying S=some (.slice E)) (d:P.underlying E=some (.int .u8)) (a:P.underlying D=some .string) (l:gate ops e g=true) (i:cJ n dst=true) 
  (o:ev e x= .slice (some ⟨b,0,none⟩) 1 cap) (hb:aK w b [.int .u8 z].toArray U) (p:z=(c.toNat:Int)) (k:OW P n ops K rest (bU e dst<|str [c]) w):OW P n ops K (⟨dst,.convert S D x,ty,pos,after,g⟩::rest) e w:=by
 have q:=run_convert_bytes_back (P:=P) w S D E ⟨b,0,none⟩ cap [c] f d a (by
  intro j m;have:j=0:=by simpa using m
  subst this;have:=hb.cell 0;simpa[Addr.add,p] using this)
 exact fp l i (v:=str [c]) (w':=w) (by have r:ev e x= .slice (some ⟨b,0,none⟩) ([c]:List UInt8).length cap:=o;simp only[execOp,r,Sem.run_bind,q,Result.andThen_ok,Sem.run_pure]) k
theorem Xu {T TS:Nat} {a:Option Nat} {d:List ak} {s:ak} {o j c:Nat} (B:TI P T 1 bytes z) (m:gate ops e g=true) (t:ev e x= .pointer (some ⟨b,o,none⟩)) (u:ev e y=str s) (p:o=i) 
  (l:cZ w TS (.slice (some ⟨b,0,none⟩) j c) a d) (F:i<d.length)
  (k:∀w',aj a.toList w w'->cZ w' TS (.slice (some ⟨b,0,none⟩) j c) a (d.set i s)->w'.heap.size=w.heap.size->OW P n ops K rest e w'):OW P n ops K (⟨none,.store T x y,ty,pos,after,g⟩::rest) e w:=by
 subst p;obtain⟨_,h|⟨_,cap,_,D,r,hb,E,C,f,q⟩⟩:=l
 .obtain⟨h,_⟩:=h;cases h
 .cases r;subst D;refine K7 B rfl m t u rfl hb (by rw[f];omega) λw' hk A v=>?_;refine k w' (by simpa using hk) ⟨by simp,.inr ⟨b,_,_,rfl,sm,A,by simpa using E,C,by simpa using f,?_⟩⟩ v;rw[Array.toList_setIfInBounds,List.length_set,List.take_set,q,List.map_set]
end
theorem Xv {c:Type}:∀{rows:List (List c)} {i j:Nat} {a:c} {row:List c},(∀row∈rows,row.length=sz)->rows[i]?=some row->j<sz->rows.flatten.set (i*sz+j) a=(rows.set i<|row.set j a).flatten
 |r::rows,0,j,a,row,h,hi,hj=>by simp only[List.getElem?_cons_zero,Option.some.injEq] at hi;subst hi;have b:r.length=sz:=h r sm;rw[List.flatten_cons,Nat.zero_mul,Nat.zero_add,List.set_cons_zero,List.flatten_cons,List.set_append_left _ _ om]
 |r::rows,i+1,j,a,row,h,hi,hj=>by
  have b:r.length=sz:=h r sm;have:=Xv (rows:=rows) (a:=a) (λrow b=>h row<|by simp[b]) (by simpa using hi) hj;rw[List.flatten_cons,List.set_cons_succ,List.flatten_cons,List.set_append_right _ _ (by rw[b,Nat.add_mul];omega),b,<-this]
  congr 2
  rw[Nat.add_mul];omega
theorem jH.set {T:TypeId}:∀{gss:List (Option Nat×Option Nat)} {m:List (List Value)} {bs:List Bk} {i:Nat} {g:Option Nat×Option Nat} {v:List Value} {f:Bk},jH w T gss m bs->gss[i]?=some g->rX w' T g v f->
  (∀(j:Nat) (a:Option Nat×Option Nat) (d:List Value) (c:Bk),j≠i->gss[j]?=some a->rX w T a d c->rX w' T a d c)->jH w' T gss (m.set i v) (bs.set i f)
 |[],[],[],i,g,v,f,_,l,_,_=>by simp at l
 |g0::e,v0::vs,b0::bs,0,g,v,f,h,l,hf,hk=>by
  simp only[List.getElem?_cons_zero,Option.some.injEq] at l;subst l;refine⟨hf,?_⟩;have p:∀{e:List (Option Nat×Option Nat)} {vs:List (List Value)} {bs:List Bk},(∀(j:Nat) (a:Option Nat×Option Nat) (d:List Value) (c:Bk),e[j]?=some a->rX w T a d c->rX w' T a d c)->jH w T e vs bs->jH w' T e vs bs:=by
   intro e;induction e with
   |nil=>intro vs bs _ h;cases vs<;>cases bs<;>first|trivial|exact h.elim
   |cons g e q=>
    intro vs bs hk h;cases vs with
    |nil=>cases bs<;>exact h.elim
    |cons v vs=>
     cases bs with
     |nil=>exact h.elim
     |cons b bs=>exact⟨hk 0 _ _ _ rfl h.1,q (λj a d c n=>hk (j+1) a d c<|by simpa using n) h.2⟩
  exact p (λj a d c n o=>hk (j+1) a d c om (by simpa using n) o) h.2
 |g0::e,v0::vs,b0::bs,i+1,g,v,f,h,l,hf,hk=>
  ⟨hk 0 _ _ _ om rfl h.1,jH.set h.2 (by simpa using l) hf λj a d c n r o=>hk (j+1) a d c om (by simpa using r) o⟩
theorem EI {g:Option Nat×Option Nat} (a:gss[i]?=some g) (b:x∈jY g):x∈iC gss:=by grind [iC]
theorem aj0:∀{gss:List (Option Nat×Option Nat)} {i j:Nat} {g a:Option Nat×Option Nat} {x:Nat},(iC gss).Nodup->i≠j->gss[i]?=some g->gss[j]?=some a->x∈jY g->x∉jY a:=by intro x;induction x<;>grind [iC,jY]
theorem nY.row {w w':World} {n TS:TypeId} {v:Value} {g:Option Nat} {c:List (Option Nat×Option Nat)} {a:List (List Value)} {bs:List Bk} {i:Nat} {e:Option Nat×Option Nat} {m:List Value} {f:Bk} {L:List Nat} 
  (h:nY w n TS v g c a bs) (l:c[i]?=some e) (r:a[i]?=some m) (hk:aj L w w') (o:∀x∈L,x∈jY e) (u:rX w' TS e m f):nY w' n TS v g c a (bs.set i f):=by
 have p:=(List.nodup_append.1 h.nodup);have s:a.set i m=a:=by
  refine List.ext_getElem sm λj _ t=>?_;rw[List.getElem_set];split
  .rename_i C;subst C;rw[gE t] at r;simpa using r.symm
  .rfl
 have q:=jH.set (w':=w') h.rows l u λj _ _ _ y A z=>z.aG hk λx d B=>aj0 p.2.1 y A l d<|o x B;rw[s] at q;exact⟨by rw[List.length_set];exact h.own.aG hk λb hb d=>p.2.2 b (by simp[hb]) b (EI l<|o b d) rfl,q,h.nodup,λx d=>lL (h.lt x d) hk.size⟩
section
variable {P:Program} {n:Nat} {ops:Array Oper} {K:Env->World->Prop} {rest:List Oper} {e:Env} {w:World}
 {dst:Option Nat} {ty:TypeId} {pos:String} {after:Array Edge} {g:Option (Nat×Bool)} {x y:Operand}
end
theorem Xw (k:Nat):(48:Int)+((k%10:Nat):Int)=((UInt8.ofNat<|48+k%10).toNat:Int):=by simp_all[Nat.mod_eq_of_lt,Nat.reducePow];omega
theorem cZ.form {T:TypeId} (h:cZ w T (.slice a n c) g xs) (d:0<xs.length):∃b,a=some ⟨b,0,none⟩/\g=some b:=by cases h.2<;>grind
theorem cZ.cases {T:TypeId} (h:cZ w T v g xs):∃a c,v= .slice a xs.length c:=jC.len h
theorem nY.get {C TS:TypeId} {e:List (List Value)} (h:nY w C TS (.slice a n c) g gss e bs) (E:i<bs.length):
  ∃b d a1 c1 a2 c2,a=some ⟨b,0,none⟩/\g=some b/\b<w.heap.size/\b∉jY d/\gss[i]?=some d/\e[i]?=some [str (cm bs i).aM,.slice a1 (cm bs i).cQ.length c1,.slice a2 (cm bs i).code.length c2]/\
   fZ w b (0+i*3) [str (cm bs i).aM,.slice a1 (cm bs i).cQ.length c1,.slice a2 (cm bs i).code.length c2]/\
   cZ w TS (.slice a1 (cm bs i).cQ.length c1) d.1 (cm bs i).cQ/\cZ w TS (.slice a2 (cm bs i).code.length c2) d.2 (cm bs i).code/\(∀x,d.1=some x->d.2=some x->False):=by
 have y:=List.nodup_append.1 h.nodup;obtain⟨_,_,L⟩:=h.rows.lens;obtain⟨d,vs,o,r,_,_,rfl,s,t⟩:=h.rows.get<|l8 E;obtain⟨a1,c1,rfl⟩:=cZ.cases s;obtain⟨a2,c2,rfl⟩:=cZ.cases t;obtain⟨_,B|⟨b,cap,l,K,H,hb,_,_,_,A⟩⟩:=h.own
 .obtain⟨_,B,_⟩:=B;omega
 .cases H;subst K;refine⟨b,d,a1,c1,a2,c2,rfl,rfl,hb.lt,λI=>y.2.2 b sm b (EI o I) rfl,o,r,λj v F=>?_,s,t,λx D u=>?_⟩
  .have z:=DV L r F;have M:i*3+j<e.flatten.length:=(List.getElem?_eq_some_iff.1 z).1;rw[hb.cell,Nat.zero_add];have u:=A;have:(l.toList.take<|bs.length*3)[i*3+j]?=some v:=by rw[A];exact z
   rw[List.getElem?_take] at this;split at this
   .simpa using this
   .cases this
  .have f:(jY d).Nodup:=by
    have:∀{gss:List (Option Nat×Option Nat)} {i:Nat},(iC gss).Nodup->gss[i]?=some d->(jY d).Nodup:=by
     intro gss;induction gss with
     |nil=>intro i _ h;simp at h
     |cons p q J=>
      intro i f m;rw[Mt,List.nodup_append] at f;cases i with
      |zero=>simp at m;subst m;exact f.1
      |succ i=>exact J f.2.1<|by simpa using m
    exact this y.2.1 o
   simp[jY,D,u] at f
theorem aj1 (w:World):bu Tryz.prog 107 [str [],.int .i64 0,.int .i64 0] w λr w'=>r= .tuple #[.agg #[str [],.slice none 0 0],.int .i64 (-1)]/\aj [] w w':=by have a:=aj.refl [] w;refine ly [.cell 6 103,.tmp 7] 87 Tryz.func107 rfl LI rfl rfl rfl ?_;refine zr<|dy aP rfl rfl rfl λ_ i b _=>?_;have a:=a.grow;have a:=a.ext i;refine zA<|aV<|zr<|jF (IU _) rfl rfl<|dy aP rfl rfl rfl λ_ e f _=>?_;have a:=a.grow;have a:=a.ext e;have b:=b.grow;have b:=b.ext e;refine cN aP rfl rfl rfl f rfl λl d f _=>?_;have a:=a.aB d sx;have b:=b.aB d sx;refine aV<|ka<|zr<|zm<|Ik rfl rfl rfl rfl rfl<|zm ?_;apply DZ 5 15 20 [15,16,17,18,19,20] (λw'=>l=w') rfl;intro c;replace c:=jK c;refine W ?_;exact mg rfl rfl;intro c;replace c:=jK c;refine W ?_;exact mg rfl rfl;rintro _ _ rfl;refine aV<|zc rfl (λg=>?_) λg=>?_;refine W ?_;refine cN aP rfl rfl rfl b rfl λ_ j b _=>?_;have a:=a.aB j sx;refine W ?_;exact⟨[_,_],⟨gB fQ aP rfl b rfl,rfl⟩,rfl,a⟩;simp at g
theorem Mu (s:ak) (L:List Nat) (w:World) (p:∀x∈L,x<w.heap.size):
  bu Tryz.prog 78 [str s] w λv w'=>(∃t d,v= .tuple #[d,.bool (bT s).isSome]/\bg L w' d t/\GA s t)/\aj [] w w':=by
 by_cases l:s=[]
 .subst l;have a:=aj.refl [] w;refine ly [.cell 2 103,.tmp 3] 20 Tryz.func78 rfl VS rfl rfl rfl ?_;refine zr<|dy aP rfl rfl rfl λz m b _=>?_;have a:=a.grow;have a:=a.ext m;refine W ?_;refine zc rfl (λc=>?_) λc=>?_;simp at c;refine iF<|zr<|zm<|aA (aj1 z) ?_;rintro _ _ ⟨rfl,j⟩;have A:=j.size;refine bJ j a b λa b=>?_;refine W ?_;refine dy aP rfl rfl rfl λ_ g f _=>?_;have a:=a.grow;have a:=a.ext g;have b:=b.grow;have b:=b.ext g;refine cN aP rfl rfl rfl f rfl λ_ i f _=>?_;have a:=a.aB i sx;have b:=b.aB i sx;refine W ?_;refine cN aP rfl rfl rfl b rfl λ_ n b _=>?_;have a:=a.aB n sx;refine W ?_;exact⟨[_,_],⟨gB fQ aP rfl b rfl,rfl⟩,⟨.mk [] [],_,by rw[Wp];rfl,jV l6,λ_ h=>(by rw[Wp] at h;cases h),λ_=>rfl⟩,a⟩
 .obtain⟨c,o⟩:=C1 s L w p;exact⟨c,Calls.mono o λe w' ⟨v,q,⟨t,d,y,u,r⟩,hk⟩=>⟨v,q,⟨t,d,y,u,r,λe=>absurd e l⟩,hk⟩⟩
theorem Gr.form {B:Nat} {T:TypeId} (h:Gr B L w T sz (.slice a n c) g rows) (f:0<rows.length):∃b,a=some ⟨b,0,none⟩/\g=some b:=by
 obtain⟨xs,d⟩:=h.own;rcases d.own.2 with⟨_,h0,_⟩|⟨b,_,_,e,hv,_⟩
 .omega
 .cases hv;exact⟨b,rfl,e⟩
theorem C4 (b:List ak) (B:b.length<=1000000000) (s:ak) (v:Value) (L:List Nat) (w:World) (p:bo L w v b):bu Tryz.prog 104 [v,str s] w λr w'=>r= .bool (decide<|s∈b)/\aj [] w w':=by obtain⟨a,n,c,rfl,A⟩:=er p;subst A;have d:=aj.refl [] w;refine cg [.tmp 4] 18 Tryz.func104 rfl afs rfl rfl ?_;refine W ?_;refine et (λk:Nat=>[(0,.slice a b.length c),(1,str s),(5,.int .i64 (k:Int))]) (λk w'=>aj [] w w'/\k<=b.length/\∀i,i<k->bV b i≠s) (λk=>b.length-k) (0) (⟨rfl,rfl,rfl⟩) (⟨d,om,by intro i j;omega⟩) λf _ _ y=>?_;obtain⟨d,hk,m⟩:=y;refine W ?_;refine zc rfl (λu=>?_) λu=>?_;have o:=jW (xs:=b) (i:=f) om;obtain⟨_,_,rfl,q⟩:=pg p o;refine WL ?_;refine zl gH rfl (q.ext d 0 _ rfl)<|zm<|Gl rfl rfl rfl rfl<|aV<|zc rfl (λg=>?_) λg=>?_;have l:s∈b:=(by rw[<-g];exact List.mem_of_getElem? o);refine W ?_;exact⟨_,rfl,by rw[dT l];rfl,d⟩;have t:=g;refine W ?_;exact⟨f+1,⟨rfl,rfl,rfl⟩,⟨d,om,by intro i j;rcases Nat.lt_or_ge i f with h|h;exact m i h;rw[show i=f by omega];exact t⟩,om⟩;have l:¬s∈b:=(λz=>by obtain⟨i,j,e⟩:=List.getElem_of_mem z;exact m i om<|by simp[bV,gE j,e]);refine W ?_;exact⟨_,rfl,by rw[dF l];rfl,d⟩
theorem aj2 (h:n<10):(48:Int)+(n:Int)=((UInt8.ofNat<|48+n).toNat:Int):=by have:=Xw n;rwa [Nat.mod_eq_of_lt h] at this
def EJ (z:Int) (v:Value) (w:World):Prop:=∃b,v= .slice (some ⟨b,0,none⟩) 1 1/\aK w b [.int .u8 z].toArray 5
theorem EJ.ext {z:Int} (h:EJ z v w) (k:aj [] w w'):EJ z v w':=by obtain⟨b,e,h⟩:=h;exact⟨b,e,h.ext k⟩
theorem GR:∀(m n:Nat),n<=m->(aS n).length<=n+1
 |m,n,h=>by
  rw[aS];by_cases a:n<10
  .rw[iP a];simp
  .rw[iN a];cases m with
   |zero=>omega
   |succ m=>have:=GR m (n/10) om;simp only[lA,List.length_singleton];omega
theorem jq:∀(m n:Nat),n<m->n<=1000000->∀w:World,bu Tryz.prog 111 [.int .i64 (n:Int)] w λr w'=>r=str (aS n)/\aj [] w w':=by
 intro m;induction m with
 |zero=>intro n A;omega
 |succ m B=>
  intro n A _ w;have d:=aj.refl [] w;have F:=GR _ (n/10)<|lR _;refine cg [.tmp 2] 28 Tryz.func111 rfl afy rfl rfl ?_;refine W ?_;refine zc rfl (λu=>?_) λu=>?_;omega;refine W ?_;refine zc rfl (λy=>?_) λy=>?_;omega;refine W ?_;refine zc rfl (λz=>?_) λz=>?_;refine W ?_;refine Am yW AA rfl rfl rfl (wrap_u8 _ om om)<|fM En IV rfl rfl λf c C _=>?_;have d:=d.ext c;refine Xt En AA ji rfl rfl rfl C (aj2 om)<|zA<|aV<|kW ?_;exact⟨_,rfl,congrArg str<|show[UInt8.ofNat (48+n)]=aS n from by rw[aS,iP om],d⟩;have t:¬n<10:=by omega
  refine WZ ?_;apply rk dh cM 10 (rA 18 10) (rA 18 10) [[],[0],[1],[],[3],[4],[5],[6],[7],[2,8]] [.v _,.v _,.v _,.v _,.v _,.v _,.v _,.p<|fun(v:Value) (g:World)=>EJ ((48:Int)+((n%10:Nat):Int)) v g,.v<|str [UInt8.ofNat (48+n%10)],.v (str<|aS (n/10)++[UInt8.ofNat (48+n%10)])] de (by exact(bS<|bS (bS<|bS (bS<|bS (bS<|rf (λv w w' h k=>EJ.ext h k) (bS<|bS trivial))))));intro _ aC;refine dd (λ_ _ _=>WZ<|cA cM) ?_;refine dd (λ_ _ _=>Oz (b:=10) rfl rfl rfl rfl rfl om (wrap_i64 _ om om)<|cA cM) ?_;refine ju cM aC (λx f c=>?_) ?_;refine aA (B (n/10) om om f) ?_;rintro _ D ⟨rfl,i⟩;have E:=i.size;exact IS cM i;refine dd (λ_ _ _=>WZ<|cA cM) ?_;refine dd (λ_ _ _=>Im (b:=10) rfl rfl rfl rfl rfl om<|cA cM) ?_;refine dd (λ_ _ _=>WZ<|cA cM) ?_;refine dd (λ_ _ _=>Am yW AA rfl rfl rfl (wrap_u8 _ om om)<|cA cM) ?_;refine fJ ?_ ?_;intro x vs f e c l a;have d6:vs 6=(.int .u8<|(48:Int)+((n%10:Nat):Int)):=l;replace c:=cM.trans aC c;replace a:e=ba (aZ _ x _) [(24,vs 6)]:=a;rw[d6] at a;subst a;refine fM En IV rfl rfl λD i j _=>W ?_;exact dn (cM.of i) ⟨_,rfl,j⟩;refine fJ ?_ ?_;intro x vs f e c l a;have d7:(fun(v:Value) (g:World)=>EJ ((48:Int)+((n%10:Nat):Int)) v g) (vs 7) f:=l;replace c:=cM.trans aC c;replace a:e=ba (aZ _ x _) [(25,vs 7)]:=a;obtain⟨_,s,j⟩:=d7;rw[s] at a;subst a;refine Xt En AA ji rfl rfl rfl j (Xw n)<|aV ?_;exact dn (cM.refl _) rfl;refine dd (λ_ _ _=>WZ<|cA cM) ?_;exact trivial;intro x p q;intro o d7;replace d7:(fun(v:Value) (g:World)=>EJ ((48:Int)+((n%10:Nat):Int)) v g) o p:=d7;have d:=d.ext q;change OW _ _ _ _ _ (ba (aZ _ x _)<|zZ 18 [_,_,_,_,_,_,_,o,_,_]) _;refine W ?_;exact⟨_,rfl,congrArg str<|show aS (n/10)++[UInt8.ofNat (48+n%10)]=aS n from by conv=>(rhs;rw[aS,iN t]),d⟩
theorem C5 (s:ak) (w:World):bu Tryz.prog 188 [str s] w λr w'=>r= .agg #[str s,.slice none 0 0]/\aj [] w w':=by have a:=aj.refl [] w;refine ly [.cell 2 103] 5 Tryz.func188 rfl agH rfl rfl rfl ?_;refine zr<|dy aP rfl rfl rfl λ_ c b _=>?_;have a:=a.grow;have a:=a.ext c;refine aV<|zr<|zm<|jF (ah9 _ _) rfl rfl<|cN aP rfl rfl rfl b rfl λ_ d b _=>?_;have a:=a.aB d sx;refine W ?_;exact⟨[_],gB fQ aP rfl b rfl,rfl,a⟩
theorem eh.sub {L':List Nat} {T:TypeId} (h:eh L w T sz v g rows) (c:∀x∈L',x∈L\/w.heap.size<=x):eh L' w T sz v g rows:=by obtain⟨xs,a,b⟩:=h.own;exact⟨⟨xs,a,b.fresh c⟩,h.row⟩
structure KA (L:List Nat) (T:TypeId) (sz:Nat) (g:Option Nat) (rows rows':List (List C)) (w w':World):Prop where
 aG:aj g.toList w w'
 old:∀v,eh (g.toList++L) w T sz v g rows->eh (g.toList++L) w' T sz v g rows
 new:∀v g',eh (g.toList++(g'.toList++L)) w T sz v g' rows'->eh (g.toList++(g'.toList++L)) w' T sz v g' rows'
theorem eh.any {T:TypeId} (h:eh L w T sz v g rows) (k:aj [] w w'):eh L w' T sz v g rows:=h.aG (Fr.of k sm) k sm
theorem Xx (L:List Nat) (T:TypeId) (c:Nat) (g:Option Nat) (rows a:List (List C)):Kept (KA L T c g rows a):=
 ⟨λ_=>⟨aj.refl _ _,λ_ h=>h,λ_ _ h=>h⟩,λh k=>⟨h.aG.trans k.aG,λv x=>k.old v<|h.old v x,λv b x=>k.new v b<|h.new v b x⟩,
  λh=>⟨h.any,λ_ x=>x.any h,λ_ _ x=>x.any h⟩⟩
section
variable {P:Program} {w:World}
theorem aj3 {t ty T:TypeId} {i:TypeInfo} {K bytes:Nat} (V:P.underlying t=some (.slice T)) (U:P.info? T=some i) (hz:i.zero=some z) 
  (DU:i.size=K) (gS:i.bytes=bytes) (Aj:z.cells.size=K) {L:List Nat}
  {v:Value} {g:Option Nat} {rows:List (List C)} {row:List C} (hO:eh (g.toList++L) w T K v g rows)
  (E c:Nat) (a:List Value) (iR:row.length=K) (wg:fZ w E 0 a) (y:∀u∈a,u.oneCell'=true) (q:dG (g.toList++L) w a row)
  (hb:(rows.length+1)*(bytes+1)<=140737488355328):
  ∃v' H w',(Builtin.append_ #[t,t] ty #[v,.slice (some ⟨E,0,none⟩) 1 c]).run P w= .ok v' w'/\eh (g.toList++(H.toList++L)) w' T K v' H (rows++[row])/\KA L T K g rows (rows++[row]) w w'/\
   (H=g\/H=some w.heap.size):=by
 subst DU;subst gS;obtain⟨xs,F,X⟩:=hO.own;have aX:(rows.length+1)*i.bytes+(rows.length+1)<=140737488355328:=by rw[Nat.mul_add,Nat.mul_one] at hb;exact hb
 have BV:rows.length+1<=maxLen:=by unfold maxLen;omega
 have N:(rows.length+1)*i.bytes<=140737488355328:=by omega
 have I:a.length=1*i.size:=by rw[q.length,iR,Nat.one_mul]
 have K4:rows.length+1<=9223372036854775807:=by simp only[maxLen] at BV;omega
 have f:(xs++a).length=(rows.length+1)*i.size:=by rw[lA,F.1,I,Nat.add_mul]
 have xJ:∀b o j:Nat,(⟨b,o,none⟩:Addr).add j=⟨b,o+j,none⟩:=λb o j=>by unfold Addr.add;split<;>simp_all
 have xK:∀j u,a[j]?=some u->w.cell? ((⟨E,0,none⟩:Addr).add j)=some u:=λj u J=>by rw[xJ];exact wg j u J
 have Xy:∀r∈rows++[row],r.length=i.size:=λr e=>by
  rcases mA.1 e with e|e
  .exact hO.row r e
  .simp at e;rw[e];exact iR
 have Y:(rows++[row]).flatten=rows.flatten++row:=by simp
 have p:∀(old:Nat),old<rows.length+1->
   eh (g.toList++((some w.heap.size).toList++L)) (w.drew.alloc<|.cells (xs.toArray++a.toArray++Builtin.zeroCells z.cells (grownCap w (rows.length+1) old T-(rows.length+1))) T) T i.size
    (.slice (some ⟨w.heap.size,0,none⟩) (rows.length+1)<|grownCap w (rows.length+1) old T) (some w.heap.size) (rows++[row])/\
   aj [] w (w.drew.alloc<|.cells (xs.toArray++a.toArray++Builtin.zeroCells z.cells (grownCap w (rows.length+1) old T-(rows.length+1))) T):=by
  intro old _;have rR:=grownCap_ge w (rows.length+1) old T;have Z:grownCap w (rows.length+1) old T<=maxLen:=grownCap_le_maxLen w (rows.length+1) old T BV;have hk:aj [] w (w.drew.alloc<|.cells (xs.toArray++a.toArray++Builtin.zeroCells z.cells (grownCap w (rows.length+1) old T-(rows.length+1))) T):=⟨rfl,rfl,rfl,sm,λk hk _=>(aj.alloc [] w.drew _).block k hk sm⟩;refine⟨⟨⟨xs++a,⟨by simpa using f,.inr ⟨w.heap.size,_,_,rfl,?_,heap_alloc_new w.drew _,?_,Z,?_,?_⟩⟩,?_⟩,Xy⟩,hk⟩
  .simp
  .simpa using rR
  .simp only[Array.size_append,List.size_toArray,size_zeroCells,Aj,F.1,I,<-Nat.add_mul]
   congr 1
   omega
  .simp only[Array.toList_append,List.append_assoc];rw[<-List.append_assoc,lA,List.length_singleton,<-f];exact List.take_left
  .rw[Y];refine((X.append q).fresh (L':=g.toList++((some w.heap.size).toList++L)) λx e=>?_).aG hk.any;rcases mA.1 e with e|e
   .exact .inl<|by simp[e]
   .rcases mA.1 e with e|e
    .right;simp at e;omega
    .exact .inl<|by simp[e]
 rcases F.2 with⟨rfl,yi,rfl⟩|⟨b,cap,cur,rfl,rfl,hb,nV,Z,cu,wh⟩
 .have e:xs=[]:=List.eq_nil_of_length_eq_zero (by rw[F.1,yi];simp);subst e;have q:=run_append_nil (P:=P) w t ty T i z V U hz ⟨E,0,none⟩ 1 c a I xK om om (by rw[yi] at N;simp only[Nat.zero_add] at N;omega);have B:=p 0 om;rw[yi] at B;simp only[Nat.zero_add,List.nil_append,Array.empty_append] at B⊢;exact⟨_,some w.heap.size,_,q,B.1,(Xx L T i.size none rows<|rows++[row]).of B.2,.inr rfl⟩
 .by_cases qm:rows.length+1<=cap
  .have l4:rows.length*i.size+a.length<=cur.size:=by rw[I,cu,<-Nat.add_mul];exact Nat.mul_le_mul_right _ qm
   have ky:=run_append_room (P:=P) w t ty T i V U b rows.length cap cur hb ⟨E,0,none⟩ 1 c a I xK y qm l4;have D:aj [b] w (w.setRow b (cur.toList.take (rows.length*i.size)++a++cur.toList.drop (rows.length*i.size+a.length)).toArray):=⟨rfl,rfl,rfl,sm,λk _ hk=>setRow_other w b k _<|by simpa using hk⟩;have Mw:aK (w.setRow b (cur.toList.take (rows.length*i.size)++a++cur.toList.drop (rows.length*i.size+a.length)).toArray) b (cur.toList.take (rows.length*i.size)++a++cur.toList.drop (rows.length*i.size+a.length)).toArray T:=setRow_heap w b cur _ T _ hb;have fi:(cur.toList.take (rows.length*i.size)++a++cur.toList.drop (rows.length*i.size+a.length)).toArray.size=cap*i.size:=by simp only[List.size_toArray,lA,List.length_take,List.length_drop,Array.length_toList];omega
   have Xz:(cur.toList.take (rows.length*i.size)++a++cur.toList.drop (rows.length*i.size+a.length)).take ((rows.length+1)*i.size)=xs++a:=by rw[wh,<-f];exact List.take_left
   have S:(cur.toList.take (rows.length*i.size)++a++cur.toList.drop (rows.length*i.size+a.length)).take (rows.length*i.size)=xs:=by rw[wh,<-F.1,List.append_assoc];exact List.take_left
   -- whoever owns block b,owns it with this size
   have l:∀(v:Value) (n:Nat) (m:List Value),jC w T i.size v (some b) n m->∃d,v= .slice (some ⟨b,0,none⟩) n d/\n<=d/\d<=maxLen/\d*i.size=cap*i.size/\m=cur.toList.take (n*i.size):=by
    intro v n m s;rcases s.2 with⟨_,_,h⟩|⟨b',d,cur',e',O,ir,R,qY,Q,pK⟩
    .cases h
    .cases e';have:cur'=cur:=by have M:=ir.symm.trans hb;simpa using M
     subst this;exact⟨d,O,R,qY,by rw[<-Q,cu],pK.symm⟩
   have wr:∀(v:Value) (n:Nat),(∃d,v=Value.slice (some ⟨b,0,none⟩) n d/\n<=d/\d<=maxLen/\d*i.size=cap*i.size)->∀m:List Value,m.length=n*i.size->(cur.toList.take (rows.length*i.size)++a++cur.toList.drop (rows.length*i.size+a.length)).take (n*i.size)=m->
     jC (w.setRow b (cur.toList.take (rows.length*i.size)++a++cur.toList.drop (rows.length*i.size+a.length)).toArray) T i.size v (some b) n m:=by
    rintro v n ⟨d,O,R,qY,Q⟩ m hy fN;exact⟨hy,.inr ⟨b,d,_,rfl,O,Mw,R,qY,by rw[fi,Q],fN⟩⟩
   refine⟨_,some b,_,ky,⟨⟨xs++a,wr _ _ ⟨cap,sm,by simpa using qm,Z,rfl⟩ _ (by simpa using f)<|by simpa using Xz,?_⟩,Xy⟩,⟨D,λv s=>?_,λv H s=>?_⟩,.inl rfl⟩
   .rw[Y];exact((X.append q).fresh λx e=>.inl (by simp only[mA] at e⊢;rcases e with h|h|h;exact .inl h;exact .inl h;exact .inr h)).aG (D.mono λx e=>by simp at e;simp[e])
   .obtain⟨m,y,M⟩:=s.own;obtain⟨d,a1,a2,a3,a4,a5⟩:=l _ _ _ y;refine⟨⟨m,wr _ _ ⟨d,a1,a2,a3,a4⟩ _ y.1 ?_,M.aG (D.mono λx e=>by simp at e;simp[e])⟩,s.row⟩;rw[S,a5,wh]
   .obtain⟨m,y,M⟩:=s.own;by_cases C6:H=some b
    .subst C6;obtain⟨d,a1,a2,a3,a4,a5⟩:=l _ _ _ y;refine⟨⟨xs++a,wr _ _ ⟨d,a1,a2,a3,a4⟩ _ (by simpa using f)<|by simpa using Xz,?_⟩,s.row⟩;rw[Y];exact((X.append q).fresh λx e=>.inl (by simp only[mA] at e⊢;rcases e with h|h|h;exact .inl h;exact .inl h;exact .inr h)).aG (D.mono λx e=>by simp at e;simp[e])
    .exact⟨⟨m,y.aG D λx e gv=>C6 (by simp at gv;rw[e,gv]),M.aG (D.mono λx e=>by simp at e;simp[e])⟩,s.row⟩
  .have A:∀j u,xs[j]?=some u->w.cell? ((⟨b,0,none⟩:Addr).add j)=some u:=λj u J=>by
    rw[xJ,hb.cell];rw[<-wh,List.getElem?_take] at J;split at J
    .simpa using J
    .cases J
   have q:=run_append_grow (P:=P) w t ty T i z V U hz ⟨b,0,none⟩ rows.length cap xs F.1 A ⟨E,0,none⟩ 1 c a I xK om om<|growslice_fits om N;have B:=p cap om;exact⟨_,some w.heap.size,_,q,B.1,(Xx L T i.size (some b) rows<|rows++[row]).of B.2,.inr rfl⟩
end
section
variable {P:Program} {n:Nat} {ops:Array Oper} {K:Env->World->Prop} {rest:List Oper} {e:Env} {w:World}
 {dst:Option Nat} {ty:TypeId} {pos:String} {after:Array Edge} {g:Option (Nat×Bool)} {x y:Operand}
theorem EL {L:List Nat} {t:Nat} {v:Value} {f:Option Nat} {rows:List (List C)} {row:List C} {a:List Value} {b c:Nat} (A:P.underlying t=some (.slice E)) (r:TI P E sz bytes z) (F:gate ops e g=true) (D:cJ n dst=true) (N:Nat.beq z.cells.size sz=true) (p:Nat.ble bytes 1000=true) 
  (J:ev e x=v) (M:ev e y= .slice (some ⟨b,0,none⟩) 1 c) (s:eh (f.toList++L) w E sz v f rows) (O:row.length=sz) (B:fZ w b 0 a) (q:∀u∈a,u.oneCell'=true)
  (I:dG (f.toList++L) w a row) (U:rows.length<100000000)
  (k:∀j d w',eh (f.toList++(d.toList++L)) w' E sz j d (rows++[row])->KA L E sz f rows (rows++[row]) w w'->(d=f\/d=some w.heap.size)->OW P n ops K rest (bU e dst j) w'):
  OW P n ops K (⟨dst,.call {callee:=.builtin .append,args:=#[x,y],argTypes:=#[t,t]},ty,pos,after,g⟩::rest) e w:=by
 obtain⟨i,H,S,o,m⟩:=r.get;have T:bytes<=1000:=Nat.le_of_ble_eq_true p;obtain⟨j,d,w',Q,l,hk,R⟩:=aj3 (P:=P) (ty:=ty) A H S o m (Nat.eq_of_beq_eq_true N) s b c a O B q I
  (Nat.le_trans (Nat.mul_le_mul (show rows.length+1<=100000000 by omega)<|show bytes+1<=1001 by omega) de)
 exact fp F D (w':=w') (by simp only[execOp,resolve,invoke,builtin,Sem.run_bind,Sem.run_pure,Result.andThen_ok,List.map_toArray,List.map_cons,List.map_nil,J,M,Q])<|k j d w' l hk R
end
/-! ### Behind it -/
theorem Qx:∀{vs:List Value} {xs:List ak},dG L w vs (ic xs).flatten->vs=xs.map λx=>str x
 |[],[],_=>rfl
 |v::vs,x::xs,h=>by obtain⟨a,b⟩:=h;cases a;rw[Qx (xs:=xs) b];rfl
theorem eh.wA {T:TypeId} (h:eh L w T 1 v g (ic xs)):cZ w T v g xs:=by obtain⟨vs,a,b⟩:=h.own;rw[rW,Qx b] at a;exact a
theorem XA (L:List Nat) (w:World):∀xs:List ak,dG L w (xs.map λx=>str x) (ic xs).flatten
 |[]=>trivial
 |_::xs=>⟨.val _,XA L w xs⟩
theorem cZ.XB {T:TypeId} (h:cZ w T v g xs) (L:List Nat):eh L w T 1 v g (ic xs):=
 ⟨⟨_,h.ajv,XA L w xs⟩,λrow a=>by obtain⟨x,_,rfl⟩:=List.mem_map.1 a;rfl⟩
theorem XC (a:List ak) (x:ak):ic a++[[.val (str x)]]=ic (a++[x]):=by simp[ic]
theorem aj5 (a:List Nat) (x:Nat):wS a++[[.val (.int .i64 (x:Int))]]=wS (a++[x]):=by simp[wS]
section
variable {τ:vv} {E L:List Nat} {w w':World} {b:Nat} {o:Bool} {vb vt vc vy:Value} {gb gt gc gy:Option Nat} {m:Mk}
def rC (E:List Nat) (b:Nat) (a c d:Option Nat):List Nat:=E++b::(a.toList++(c.toList++d.toList))
theorem AS:x∈rC E b gb gt gy↔x∈E\/x=b\/x∈gb.toList\/x∈gt.toList\/x∈gy.toList:=by simp[rC]
theorem iy.Qy (h:iy τ E L w b o vb vt vc vy gb gt gc gy m):bo (rC E b gb gt gy) w vc m.code:=by
 obtain⟨a1,a2,a3,a4,a5,a6⟩:=h.apart;rcases h.co with⟨_,h1⟩|⟨_,hn,h1⟩
 .refine h1.rep λx d a=>?_;have c:x∈gc.toList:=by simp[d]
  rw[AS] at a;rcases a with a|a|a|a|a
  .exact(a5 x c).1 a
  .exact(a5 x c).2.1 a
  .exact(a5 x c).2.2.1 a
  .exact(a5 x c).2.2.2 a
  .exact(a6 x a).2.2.2.2 c
 .exact h1.fresh λx d=>.inl<|h.mem.2 (by rw[AS] at d;rcases d with h|h|h|h|h<;>simp[h])
theorem iy.XD (h:iy τ E L w b o vb vt vc vy gb gt gc gy m):∀x,x∈rC E b gb gt gy->x∈L:=λx a=>h.mem.2 (by rw[AS] at a;rcases a with h|h|h|h|h<;>simp[h])
theorem iy.aj6 (h:iy τ E L w b o vb vt vc vy gb gt gc gy m) (c:eh (gb.toList++(g.toList++rC E b gb gt gy)) w' τ.B 3 v g (bs.map Bk.enc)) (k:aj gb.toList w w') (i:g=gb\/∃x,g=some x/\w.heap.size<=x):
  ∃L',iy τ E L' w' b false v vt vc vy g gt none gy {m with blocks:=bs}/\Fr L w L' w':=by
 obtain⟨a1,a2,a3,a4,a5,a6⟩:=h.apart;have q:∀x∈g.toList,x∈gb.toList\/w.heap.size<=x/\x∉gt.toList/\x∉(none:Option Nat).toList/\x∉gy.toList:=λx a=>by
  rcases i with rfl|⟨y,rfl,c⟩
  .exact .inl a
  .have a:x=y:=by simpa using a
   refine .inr ⟨by omega,λj=>?_,sm,λj=>?_⟩<;>have:=h.Mg (x:=x) (by simp[j])<;>omega
 obtain⟨f,p⟩:=h.swap k (λx a=>⟨h.mem.2<|by simp[a],(a3 x a).2,(a3 x a).1⟩) (gb':=g) (gt':=gt) (gc':=none) (gy':=gy) q (λx a=>.inl a) (λx a=>by simp at a) λx a=>.inl a;have e:bo (E++b::(g.toList++(gt.toList++((none:Option Nat).toList++gy.toList)))) w' vc m.code:=by
  have l:bo (rC E b gb gt gy) w' vc m.code:=cj.aB h.Qy k λx a=>AS.2 (by simp[a]);have n:bo (g.toList++rC E b gb gt gy) w' vc m.code:=by
   rcases i with rfl|⟨y,rfl,c⟩
   .exact l.fresh λx a=>.inl (by rcases mA.1 a with h|h;exact AS.2 (by simp[h]);exact h)
   .exact cj.aB (h.Qy.fresh (L':=(some y).toList++rC E b gb gt gy) λx a=>by
     rcases mA.1 a with h|h
     .simp at h;right;omega
     .exact .inl h) k λx a=>mR _ (AS.2<|by simp[a])
  exact n.fresh λx a=>.inl (by
   rw[AI] at a;rw[mA,AS];rcases a with h|h|h|h|h|h
   .simp[h]
   .simp[h]
   .simp[h]
   .simp[h]
   .simp at h
   .simp[h])
 refine⟨_,⟨c.sub λx a=>.inl ?_,h.ta.aG f k λx a c=>(a4 x a).2.2 c,.inr ⟨rfl,rfl,e⟩,h.ty.aG k λx a c=>(a6 x<|by simp[a]).2.2.1 c,rfl,p,?_⟩,f⟩
 .rw[AI] at a;rw[mA,mA,AS];rcases a with h|h|h|h|h|h
  .simp[h]
  .simp[h]
  .simp[h]
  .simp[h]
  .simp at h
  .simp[h]
 .intro x a;rw[AI] at a;have d:=k.size;rcases a with a|a|a|a|a|a
  .exact lL (h.cU x (h.mem.2<|by simp[a])) d
  .exact lL (h.cU x (h.mem.2<|by simp[a])) d
  .exact c.lt x a
  .exact lL (h.cU x (h.mem.2<|by simp[a])) d
  .simp at a
  .exact lL (h.cU x (h.mem.2<|by simp[a])) d
theorem iy.dW (h:iy τ E L w b o vb vt vc vy gb gt gc gy m) {j:List Tk} (c:eh (gt.toList++(g.toList++L)) w' τ.T 12 v g (j.map Tk.enc)) (k:aj gt.toList w w') (n:g=gt\/∃x,g=some x/\w.heap.size<=x):
  ∃i,iy τ E i w' b o vb v vc vy gb g gc gy {m with bN:=j}/\Fr L w i w':=by
 obtain⟨a1,a2,a3,a4,a5,a6⟩:=h.apart;have p:∀x∈g.toList,x∈gt.toList\/w.heap.size<=x/\x∉gb.toList/\x∉gc.toList/\x∉gy.toList:=λx a=>by
  rcases n with rfl|⟨y,rfl,c⟩
  .exact .inl a
  .have a:x=y:=by simpa using a
   refine .inr ⟨by omega,λf=>?_,λf=>?_,λf=>?_⟩<;>have:=h.Mg (x:=x) (by simp[f])<;>omega
 obtain⟨e,l⟩:=h.swap k (λx a=>⟨h.mem.2<|by simp[a],(a4 x a).2.1,(a4 x a).1⟩) (gb':=gb) (gt':=g) (gc':=gc) (gy':=gy) (λx a=>.inl a) p (λx a=>.inl a) λx a=>.inl a;refine⟨_,⟨h.bl.aG e k λx a c=>(a4 x c).2.2 a,c.sub λx a=>.inl ?_,?_,h.ty.aG k λx a c=>(a6 x<|by simp[a]).2.2.2.1 c,rfl,l,?_⟩,e⟩
 .rw[AI] at a;rw[mA,mA,h.mem];rcases a with h|h|h|h|h|h<;>simp[h]
 .rcases h.co with⟨ho,h1⟩|⟨ho,hn,h1⟩
  .exact .inl ⟨ho,h1.aG k λx a c=>(a5 x<|by simp[a]).2.2.2 c⟩
  .exact .inr ⟨ho,hn,h1.go e⟩
 .intro x a;rw[AI] at a;have d:=k.size;rcases a with a|a|a|a|a|a
  .exact lL (h.cU x (h.mem.2<|by simp[a])) d
  .exact lL (h.cU x (h.mem.2<|by simp[a])) d
  .exact lL (h.cU x (h.mem.2<|by simp[a])) d
  .exact c.lt x a
  .exact lL (h.cU x (h.mem.2<|by simp[a])) d
  .exact lL (h.cU x (h.mem.2<|by simp[a])) d
theorem iy.num (h:iy τ E L w b o vb vt vc vy gb gt gc gy m) (c:Nat) (q:Bool):iy τ E L w b o vb vt vc vy gb gt gc gy {m with count:=c,wide:=q}:=⟨h.bl,h.ta,h.co,h.ty,h.eL,h.nd,h.cU⟩
end
theorem Fr.in {G c:List Nat} (h:Fr G w c w') (E:List Nat):Fr (E++G) w (E++c) w':=
 ⟨h.aG.mono λx a=>mR _ a,λx a=>by
  rcases mA.1 a with a|a
  .exact .inl<|List.mem_append_left _ a
  .rcases h.mem x a with b|b
   .exact .inl<|mR _ b
   .exact .inr b⟩
structure AT where
 M:TypeId
 S:TypeId
 T:TypeId
structure jy (τ:AT) (E G:List Nat) (w:World) (b:Nat) (vt vn ve:Value) (gn ge:Option Nat) (ai aN:List ak) (exprs:List aq):Prop where
 ta:bo (E++G) w vt ai
 na:cZ w τ.S vn gn aN
 ex:eh (E++G) w τ.T 2 ve ge (du exprs)
 eG:G=b::(gn.toList++ge.toList)
 nd:(E++G).Nodup
 cU:∀x∈E++G,x<w.heap.size
section
variable {τ:AT} {E G:List Nat} {w w':World} {b:Nat} {vt vn ve:Value} {gn ge:Option Nat} {ai aN:List ak} {exprs:List aq}
theorem jy.mem (h:jy τ E G w b vt vn ve gn ge ai aN exprs):x∈G↔x=b\/x∈gn.toList\/x∈ge.toList:=by rw[h.eG];simp
theorem jy.apart (h:jy τ E G w b vt vn ve gn ge ai aN exprs):E.Nodup/\b∉E/\(∀x∈gn.toList,x∉E/\x≠b)/\(∀x∈ge.toList,x∉E/\x≠b/\x∉gn.toList):=by have g:=h.nd;rw[h.eG,List.nodup_append,List.nodup_cons,List.nodup_append] at g;obtain⟨i,⟨f,_,_,j⟩,c⟩:=g;refine⟨i,λhb=>c b hb b sm rfl,λx a=>⟨λd=>c x d x (by simp[a]) rfl,λe=>f<|by simp[<-e,a]⟩,λx a=>⟨λd=>c x d x (by simp[a]) rfl,λe=>f<|by simp[<-e,a],λl=>j x l x a rfl⟩⟩
theorem XE {A B:Option Nat} {F:List Nat} {b:Nat} (a:F.Nodup) (c:b∉F) (d:∀x∈A.toList,x∉F/\x≠b) (hb:∀x∈B.toList,x∉F/\x≠b/\x∉A.toList):(F++b::(A.toList++B.toList)).Nodup:=by grind
theorem jy.XF (h:jy τ E G w b vt vn ve gn ge ai aN exprs) {n:List ak} (d:cZ w' τ.S v g n) (k:aj gn.toList w w') (q:g=gn\/g=some w.heap.size):
  ∃m,jy τ E m w' b vt v ve g ge ai n exprs/\Fr G w m w':=by
 obtain⟨a1,a2,a3,a4⟩:=h.apart;have l:∀x∈g.toList,x∈gn.toList\/x=w.heap.size:=λx a=>by
  rcases q with rfl|rfl
  .exact .inl a
  .right;simpa using a
 have f:∀x∈E++G,x≠w.heap.size:=λx a e=>by have:=h.cU x a;omega
 have i:Fr G w (b::(g.toList++ge.toList)) w':=⟨k.mono λx a=>h.mem.2<|by simp[a],λx a=>by
  rcases mC.1 a with rfl|a
  .exact .inl (h.mem.2<|.inl rfl)
  .rcases mA.1 a with a|a
   .rcases l x a with c|c
    .exact .inl (h.mem.2<|by simp[c])
    .right;omega
   .exact .inl (h.mem.2<|by simp[a])⟩
 have o:(E++b::(g.toList++ge.toList)).Nodup:=XE a1 a2 (λx a=>by
  rcases l x a with c|c
  .exact a3 x c
  .exact⟨λp=>f x (by simp[p]) c,λe=>f x (mR _ (h.mem.2<|.inl e)) c⟩) (λx a=>⟨(a4 x a).1,(a4 x a).2.1,λd=>by
  rcases l x d with c|c
  .exact(a4 x a).2.2 c
  .exact f x (mR _ (h.mem.2<|by simp[a])) c⟩)
 refine⟨_,⟨h.ta.go<|i.in E,d,h.ex.aG (i.in E) k λx a d=>(a4 x a).2.2 d,rfl,o,λx a=>?_⟩,i⟩;have j:=k.size;rcases mA.1 a with a|a
 .exact lL (h.cU x<|by simp[a]) j
 .rcases mC.1 a with rfl|a
  .exact lL (h.cU x<|mR _ (h.mem.2<|.inl rfl)) j
  .rcases mA.1 a with a|a
   .exact d.lt x a
   .exact lL (h.cU x<|mR _ (h.mem.2<|by simp[a])) j
theorem jy.aG (h:jy τ E G w b vt vn ve gn ge ai aN exprs) {H:List Nat} (k:aj H w w') (c:∀x∈H,x=b):jy τ E G w' b vt vn ve gn ge ai aN exprs:=by obtain⟨a1,a2,a3,a4⟩:=h.apart;have e:Fr (E++G) w (E++G) w':=Fr.of k λx a=>mR _<|h.mem.2 (.inl<|c x a);exact⟨h.ta.go e,h.na.aG k λx a d=>(a3 x<|by simp[a]).2<|c x d,h.ex.aG e k λx a d=>(a4 x a).2.1<|c x d,h.eG,h.nd,λx a=>lL (h.cU x a) k.size⟩
theorem Qz {w:World} {T:TypeId} (a:aK w x #[] T):jC w T sz (.slice (some ⟨x,0,none⟩) 0 0) (some x) 0 []:=by grind [aK,jC]
theorem XG {w:World} {T:TypeId} (a:aK w x #[] T):cZ w T (.slice (some ⟨x,0,none⟩) 0 0) (some x) []:=Qz a
theorem QA {w:World} {T:TypeId} (a:aK w x #[] T):eh L w T sz (.slice (some ⟨x,0,none⟩) 0 0) (some x) []:=⟨⟨[],Qz a,trivial⟩,sm⟩
theorem jy.opened (h:jy τ E G w b vt vn ve gn ge ai aN exprs) (k:aj [b] w w') {y:Nat} (m:aK w' x #[] τ.S) (f:aK w' y #[] τ.T) (r:w.heap.size<=x) (s:x<y):
  jy τ (gn.toList++(ge.toList++E)) (b::[x,y]) w' b vt (.slice (some ⟨x,0,none⟩) 0 0) (.slice (some ⟨y,0,none⟩) 0 0) (some x) (some y) ai [] []/\
   cZ w' τ.S vn gn aN/\eh (E++G) w' τ.T 2 ve ge (du exprs)/\Fr G w (b::[x,y]) w':=by
 obtain⟨a1,a2,a3,a4⟩:=h.apart;have g:∀z∈E++G,z<w.heap.size:=h.cU;have n:Fr (E++G) w ((gn.toList++(ge.toList++E))++(b::[x,y])) w':=⟨k.mono λz a=>mR _<|h.mem.2 (.inl<|by simpa using a),λz a=>by
  simp only[mA,mC,List.not_mem_nil,or_false] at a;rcases a with(a|a|a)|a|a|a
  .exact .inl (mR _<|h.mem.2 (.inr<|.inl a))
  .exact .inl (mR _<|h.mem.2 (.inr<|.inr a))
  .exact .inl<|List.mem_append_left _ a
  .exact .inl<|mR _ (h.mem.2<|.inl a)
  .right;omega
  .right;omega⟩
 have o:Fr (E++G) w (E++G) w':=Fr.of k λz a=>mR _<|h.mem.2 (.inl<|by simpa using a);have hb:b<w.heap.size:=g b<|mR _ (h.mem.2<|.inl rfl);have j:∀z∈gn.toList,z<w.heap.size:=λz a=>g z (mR _<|h.mem.2 (.inr<|.inl a));have l:∀z∈ge.toList,z<w.heap.size:=λz a=>g z (mR _<|h.mem.2 (.inr<|.inr a));have i:∀z∈E,z<w.heap.size:=λz a=>g z<|List.mem_append_left _ a;refine⟨⟨h.ta.go n,XG m,QA f,rfl,?_,?_⟩,h.na.aG k λz a f=>(a3 z<|by simp[a]).2<|by simpa using f,h.ex.aG o k λz a f=>(a4 z a).2.1<|by simpa using f,⟨k.mono λz a=>h.mem.2 (.inl<|by simpa using a),λz a=>?_⟩⟩
 .rw[List.nodup_append,List.nodup_append,List.nodup_append];refine⟨⟨Qb gn,⟨Qb ge,a1,λp d q c e=>(a4 p d).1<|e▸c⟩,λp d q c e=>?_⟩,?_,λp d q c e=>?_⟩
  .subst e;rcases mA.1 c with c|c
   .exact(a4 p c).2.2 d
   .exact(a3 p d).1 c
  .simp only[List.nodup_cons,mC,List.not_mem_nil,or_false,not_false_eq_true,List.nodup_nil,and_true];omega
  .subst e;simp only[mC,List.not_mem_nil,or_false] at c;simp only[mA] at d;rcases d with d|d|d
   .rcases c with c|c|c
    .exact(a3 p d).2 c
    .have:=j p d;omega
    .have:=j p d;omega
   .rcases c with c|c|c
    .exact(a4 p d).2.1 c
    .have:=l p d;omega
    .have:=l p d;omega
   .rcases c with c|c|c
    .subst c;exact a2 d
    .have:=i p d;omega
    .have:=i p d;omega
 .intro z a;simp only[mA,mC,List.not_mem_nil,or_false] at a;have t:=k.size;rcases a with(a|a|a)|a|a|a
  .have:=j z a;omega
  .have:=l z a;omega
  .have:=i z a;omega
  .omega
  .rw[a];exact m.lt
  .rw[a];exact f.lt
 .simp only[mC,List.not_mem_nil,or_false] at a;rcases a with a|a|a
  .exact .inl (h.mem.2<|.inl a)
  .right;omega
  .right;omega
theorem jy.closed {d:List Nat} {c m l:Value} {i g:Option Nat} {e:List ak} {f:List aq} {n:World} (h:jy τ E G n b vt vn ve gn ge ai aN exprs) 
  (p:jy τ (gn.toList++(ge.toList++E)) d w b c m l i g ai e f) (s:cZ w τ.S vn gn aN) (r:eh (E++G) w τ.T 2 ve ge (du exprs)) (hk:Fr G n d w) (k:aj [b] w w'):
  jy τ E G w' b c vn ve gn ge ai aN exprs/\Fr G n G w':=by
 obtain⟨a1,a2,a3,a4⟩:=h.apart;have o:aj G w w':=k.mono λz a=>h.mem.2 (.inl<|by simpa using a);have q:Fr (E++G) w (E++G) w':=Fr.of o λz a=>mR _ a;have t:∀z∈E++G,z∈(gn.toList++(ge.toList++E))++d:=λz a=>by
  rcases mA.1 a with a|a
  .simp[a]
  .rcases h.mem.1 a with a|a|a
   .exact mR _ (p.mem.2<|.inl a)
   .simp[a]
   .simp[a]
 have u:bo (E++G) w c ai:=p.ta.fresh λz a=>.inl<|t z a;refine⟨⟨u.go q,s.aG k λz a j=>(a3 z<|by simp[a]).2<|by simpa using j,r.aG q k λz a j=>(a4 z a).2.1<|by simpa using j,h.eG,h.nd,λz a=>?_⟩,⟨hk.aG.since o λz a=>.inl a,λz a=>.inl a⟩⟩;have:=h.cU z a;have v:=hk.aG.size;have y:=k.size;omega
def m5V (n:Nat) (b a ve:Value):List Value:=[b,.int .i64 (n:Int),a,ve]
def M5 (c:AT) (E G:List Nat) (w:World) (b:Nat) (d:List ak) (n:Nat) (aN:List ak) (a:List aq):Prop:=∃vt vn ve gn ge,aK w b (m5V n vt vn ve).toArray c.M/\jy c E G w b vt vn ve gn ge d aN a
theorem jy.ext (h:jy τ E G w b vt vn ve gn ge ai aN exprs) (k:aj [] w w'):jy τ E G w' b vt vn ve gn ge ai aN exprs:=h.aG k sm
theorem M5.ext (h:M5 τ E G w b ai n aN exprs) (k:aj [] w w'):M5 τ E G w' b ai n aN exprs:=by obtain⟨vt,vn,ve,gn,ge,a,c⟩:=h;exact⟨vt,vn,ve,gn,ge,a.aG k sm,c.ext k⟩
end
structure eC (L:List Nat) (w:World) (b:Nat) (vs:Array Value) (T:TypeId):Prop where
 jd:aK w b vs T
 out:b∉L
theorem eC.lt {T:TypeId} (h:eC L w b vs T):b<w.heap.size:=h.jd.lt
theorem eC.at {a:List Value} {T:TypeId} (h:eC L w b a.toArray T) (c:a[i]?=some v):w.cell? ⟨b,i,none⟩=some v:=h.jd.at c
theorem eC.all {a:List Value} {T:TypeId} (h:eC L w b a.toArray T):fZ w b 0 a:=h.jd.all
theorem eC.go {a:List Nat} {T:TypeId} (h:eC L w b vs T) (k:Fr L w a w'):eC a w' b vs T:=
 ⟨h.jd.aG k.aG h.out,λd=>by
  rcases k.mem b d with c|c
  .exact h.out c
  .have:=h.jd.lt;omega⟩
theorem eC.ext {T:TypeId} (h:eC L w b vs T) (k:aj [] w w'):eC L w' b vs T:=⟨h.jd.ext k,h.out⟩
theorem eC.aB {G:List Nat} {T:TypeId} (h:eC L w b vs T) (k:aj G w w') (a:∀x∈G,x∈L):eC L w' b vs T:=h.go<|Fr.of k a
theorem aK.o {T:TypeId} (h:aK w b vs T) (a:∀x∈L,x<b):eC L w b vs T:=⟨h,λc=>by have:=a b c;omega⟩
theorem cZ.rs {T:TypeId} (h:cZ w T v g xs):bo [] w v xs:=h.rep sm
theorem jL {T:TypeId} (h:cZ w T v g xs):∃a c,v= .slice a xs.length c:=jC.len h
section
variable {P:Program} {n:Nat} {ops:Array Oper} {K:Env->World->Prop} {rest:List Oper} {e:Env} {w:World} {dst:Option Nat} {ty:TypeId} {pos:String} {after:Array Edge} {g:Option (Nat×Bool)} {x y:Operand}
theorem XH {t:Nat} {v:Value} {f:Option Nat} {i:List ak} {s:ak} {b U:Nat} (p:P.underlying t=some (.slice E)) (m:TI P E 1 bytes z) (u:gate ops e g=true) (r:cJ n dst=true) (D:Nat.beq z.cells.size 1=true) (l:Nat.ble bytes 1000=true) 
  (B:ev e x=v) (C:ev e y= .slice (some ⟨b,0,none⟩) 1 1) (o:cZ w E v f i) (hb:aK w b [str s].toArray U) (A:i.length<100000000)
  (k:∀d a w',cZ w' E d a (i++[s])->aj f.toList w w'->Fr f.toList w a.toList w'->OW P n ops K rest (bU e dst d) w'):
  OW P n ops K (⟨dst,.call {callee:=.builtin .append,args:=#[x,y],argTypes:=#[t,t]},ty,pos,after,g⟩::rest) e w:=by
 refine EL (L:=[]) (row:=[.val (str s)]) p m u r D l B C (o.XB _) rfl hb.all (by simp[Value.oneCell']) ⟨.val _,trivial⟩ (by rw[rW];exact A) ?_;intro d a w' j hk F;rw[XC] at j;refine k d a w' j.wA hk.aG ⟨hk.aG,λq c=>?_⟩;rcases F with h|h
 .rw[h] at c;exact .inl c
 .rw[h] at c;simp at c;right;omega
theorem mu {T:Nat} (d:P.underlying T=some (.slice E)) (c:TI P E 1 bytes z) (i:gate ops e g=true) (f:cJ n dst=true) (a:ev e q1=str a1) (b:ev e q2=str a2) 
  (k:∀w',aj [] w w'->aK w' w.heap.size [str a1,str a2].toArray E->w'.heap.size=w.heap.size+1->OW P n ops K rest (bU e dst<|.slice (some ⟨w.heap.size,0,none⟩) 2 2) w'):
  OW P n ops K (⟨dst,.buildSlice T 2 #[(0,q1),(1,q2)],ty,pos,after,g⟩::rest) e w:=
 tX [q1,q2] [[str a1],[str a2]] d c i f rfl rfl rfl rfl rfl (by simp[a,b,Value.cells]) rfl k
theorem qI {T:Nat} (f:P.underlying T=some (.slice E)) (d:TI P E 1 bytes z) (j:gate ops e g=true) (i:cJ n dst=true) (a:ev e q1=str a1) (b:ev e q2=str a2) (c:ev e q3=str a3) 
  (k:∀w',aj [] w w'->aK w' w.heap.size [str a1,str a2,str a3].toArray E->w'.heap.size=w.heap.size+1->OW P n ops K rest (bU e dst<|.slice (some ⟨w.heap.size,0,none⟩) 3 3) w'):
  OW P n ops K (⟨dst,.buildSlice T 3 #[(0,q1),(1,q2),(2,q3)],ty,pos,after,g⟩::rest) e w:=
 tX [q1,q2,q3] [[str a1],[str a2],[str a3]] f d j i rfl rfl rfl rfl rfl (by simp[a,b,c,Value.cells]) rfl k
theorem AU {T:Nat} (i:P.underlying T=some (.slice E)) (f:TI P E 1 bytes z) (l:gate ops e g=true) (j:cJ n dst=true) (a:ev e q1=str a1) (b:ev e q2=str a2) (c:ev e q3=str a3) (d:ev e q4=str a4) 
  (k:∀w',aj [] w w'->aK w' w.heap.size [str a1,str a2,str a3,str a4].toArray E->w'.heap.size=w.heap.size+1->OW P n ops K rest (bU e dst<|.slice (some ⟨w.heap.size,0,none⟩) 4 4) w'):
  OW P n ops K (⟨dst,.buildSlice T 4 #[(0,q1),(1,q2),(2,q3),(3,q4)],ty,pos,after,g⟩::rest) e w:=
 tX [q1,q2,q3,q4] [[str a1],[str a2],[str a3],[str a4]] i f l j rfl rfl rfl rfl rfl (by simp[a,b,c,d,Value.cells]) rfl k
theorem XI {T:Nat} (j:P.underlying T=some (.slice E)) (i:TI P E 1 bytes z) (m:gate ops e g=true) (l:cJ n dst=true) (a:ev e q1=str a1) (b:ev e q2=str a2) (c:ev e q3=str a3) (d:ev e q4=str a4) (f:ev e q5=str a5) 
  (k:∀w',aj [] w w'->aK w' w.heap.size [str a1,str a2,str a3,str a4,str a5].toArray E->w'.heap.size=w.heap.size+1->OW P n ops K rest (bU e dst<|.slice (some ⟨w.heap.size,0,none⟩) 5 5) w'):
  OW P n ops K (⟨dst,.buildSlice T 5 #[(0,q1),(1,q2),(2,q3),(3,q4),(4,q5)],ty,pos,after,g⟩::rest) e w:=
 tX [q1,q2,q3,q4,q5] [[str a1],[str a2],[str a3],[str a4],[str a5]] j i m l rfl rfl rfl rfl rfl (by simp[a,b,c,d,f,Value.cells]) rfl k
theorem akf {T:Nat} (l:P.underlying T=some (.slice E)) (j:TI P E 1 bytes z) (o:gate ops e g=true) (m:cJ n dst=true) (a:ev e q1=str a1) (b:ev e q2=str a2) (c:ev e q3=str a3) (d:ev e q4=str a4) (f:ev e q5=str a5) (i:ev e q6=str a6) 
  (k:∀w',aj [] w w'->aK w' w.heap.size [str a1,str a2,str a3,str a4,str a5,str a6].toArray E->w'.heap.size=w.heap.size+1->OW P n ops K rest (bU e dst<|.slice (some ⟨w.heap.size,0,none⟩) 6 6) w'):
  OW P n ops K (⟨dst,.buildSlice T 6 #[(0,q1),(1,q2),(2,q3),(3,q4),(4,q5),(5,q6)],ty,pos,after,g⟩::rest) e w:=
 tX [q1,q2,q3,q4,q5,q6] [[str a1],[str a2],[str a3],[str a4],[str a5],[str a6]] l j o m rfl rfl rfl rfl rfl (by simp[a,b,c,d,f,i,Value.cells]) rfl k
theorem XJ {T:Nat} {c d:Operand} {a b:ak} (s:P.underlying T=some (.slice E)) (r:TI P E 1 bytes z) (u:gate ops e g=true) (t:cJ n dst=true) (f:ev e q1=str a1) (i:ev e q2=str a2) (j:ev e q3=str a3) (l:ev e q4=str a4) (m:ev e q5=str a5) (o:ev e q6=str a6) (p:ev e c=str a) (q:ev e d=str b) 
  (k:∀w',aj [] w w'->aK w' w.heap.size [str a1,str a2,str a3,str a4,str a5,str a6,str a,str b].toArray E->w'.heap.size=w.heap.size+1->OW P n ops K rest (bU e dst<|.slice (some ⟨w.heap.size,0,none⟩) 8 8) w'):
  OW P n ops K (⟨dst,.buildSlice T 8 #[(0,q1),(1,q2),(2,q3),(3,q4),(4,q5),(5,q6),(6,c),(7,d)],ty,pos,after,g⟩::rest) e w:=
 tX [q1,q2,q3,q4,q5,q6,c,d] [[str a1],[str a2],[str a3],[str a4],[str a5],[str a6],[str a],[str b]] s r u t rfl rfl rfl rfl rfl (by simp[f,i,j,l,m,o,p,q,Value.cells]) rfl k
theorem akg {T:Nat} {i j l b:Operand} {c d f a:ak} (B:P.underlying T=some (.slice E)) (A:TI P E 1 bytes z) (D:gate ops e g=true) (C:cJ n dst=true) (o:ev e q1=str a1) (p:ev e q2=str a2) (q:ev e q3=str a3) (r:ev e q4=str a4) (s:ev e q5=str a5) (t:ev e q6=str a6) (u:ev e i=str c) (v:ev e j=str d) (y:ev e l=str f) (m:ev e b=str a) 
  (k:∀w',aj [] w w'->aK w' w.heap.size [str a1,str a2,str a3,str a4,str a5,str a6,str c,str d,str f,str a].toArray E->w'.heap.size=w.heap.size+1->OW P n ops K rest (bU e dst<|.slice (some ⟨w.heap.size,0,none⟩) 10 10) w'):
  OW P n ops K (⟨dst,.buildSlice T 10 #[(0,q1),(1,q2),(2,q3),(3,q4),(4,q5),(5,q6),(6,i),(7,j),(8,l),(9,b)],ty,pos,after,g⟩::rest) e w:=
 tX [q1,q2,q3,q4,q5,q6,i,j,l,b] [[str a1],[str a2],[str a3],[str a4],[str a5],[str a6],[str c],[str d],[str f],[str a]] B A D C rfl rfl rfl rfl rfl (by simp[o,p,q,r,s,t,u,v,y,m,Value.cells]) rfl k
end
theorem bg.eq {u:aq} (h:bg L w v t) (e:t=u):bg L w v u:=e▸h
theorem fS (h:da L w (.slice a n c) ts) (o:i<ts.length):
  ∃b d e f,a=some ⟨b,d,none⟩/\gC L w b (d+i*2) [str (nth ts i).au,.slice e (nth ts i).ag.length f]/\bg L w (.agg #[str (nth ts i).au,.slice e (nth ts i).ag.length f]) (nth ts i):=by
 obtain⟨b,d,vs,j,hb,g,_,l,r⟩:=Ah h (Lk<|eK o);obtain⟨e,u,f,m,p,q⟩:=db (t:=nth ts i) ⟨vs,rfl,r⟩;have s:vs=[str (nth ts i).au,.slice e u f]:=by have:=congrArg (λv=>match v with|Value.agg x=>x.toList|_=>[]) m;simpa using this
 subst s p;exact⟨b,d,e,f,j,⟨l,hb,g⟩,kA q⟩
theorem aK.wA {T:Nat} (a:List ak) (h:aK w b (a.map λx=>str x).toArray T) (c:a.length<=100000:=by simp):cZ w T (.slice (some ⟨b,0,none⟩) a.length a.length) (some b) a:=
 ⟨by simp,.inr ⟨b,a.length,_,rfl,rfl,h,lR _,Nat.le_trans c de,sm,by rw[Nat.mul_one,List.take_of_length_le sm]⟩⟩
theorem aK.eu {T:Nat} (a:List ak) (h:aK w b (a.map λx=>str x).toArray T) (c:b∉L) (d:a.length<=100000:=by simp):bo L w (.slice (some ⟨b,0,none⟩) a.length a.length) a:=
 (h.wA a d).rep λq e=>by cases e;exact c
theorem aK.mv {T:Nat} (h:aK w b #[] T):cZ w T (.slice (some ⟨b,0,none⟩) 0 0) (some b) []:=XG h
theorem vE (h:n<1000):(aS n).length<=3:=by grind [aS]
theorem nJ (h:ak) (a:List ak):(eN h a).length=h.length+2+kB a:=by grind [eN,VM,kB]
theorem akh {m:Nat}:∀xs:List ak,(∀s∈xs,s.length<=m)->(xs.map List.length).sum<=xs.length*m:=by intro x;induction x<;>grind [lC,Nat.add_mul]
theorem C8 {m:Nat} (a:List ak) (h:∀s∈a,s.length<=m):kB a<=a.length*(m+1):=by have:=akh a h;unfold kB;rw[Nat.mul_add];omega
structure lh (s:cY):Prop where
 types:AE (fx s)
 regs:∀p∈s,p.2.1<1000
theorem Jk (h:lh s) (x:ak):lQ s x<1000:=by
 unfold lQ;cases a:s.reverse.find? λp=>decide (p.1=x) with
 |none=>simp
 |some p=>exact h.regs p (List.mem_reverse.1<|List.mem_of_find?_eq_some a)
theorem My (h:lh s) (x:ak):(lB s x).n<=16:=by
 unfold lB;cases a:look (fx s) x with
 |none=>decide
 |some T=>exact h.types x T a
theorem rD {T:Ty} (h:T.n<=16):(bD T).length<=256:=by have:=Et T;omega
theorem wY {T:Ty} (h:T.n<=16):(dQ<|bD T).length<=272:=by have:=rD h;rw[Qa];omega
theorem lh.snoc (h:lh s) {x:ak} {r:Nat} {T:Ty} (c:r<1000) (b:T.n<=16):lh (s++[(x,r,T)]):=by
 refine⟨by rw[GH];exact I1 h.types b,λp a=>?_⟩;rcases mA.1 a with a|a
 .exact h.regs p a
 .simp only[List.mem_singleton] at a;rw[a];exact c
def C9 (s:ak):Prop:=∃T:Ty,T.n<=16/\s=dQ (bD T)
/-! ### The type of a package's tuple -/
def nK (s:cY) (aN:List ak) (on:ak):List ak:=aN.map (λx=>bD<|lB s x)++(if on≠[] then[on] else[])
def GU:Option Ty->ak
 |some T=>dQ<|bD T
 |none=>[]
def wZ (s:cY) (aN:List ak) (on:Option Ty):List aq:=aN.map (λx=>sX<|lB s x)++(match on with|some T=>[Cs (sX T)]|none=>[])
theorem GV (s:cY) (aN:List ak) (on:Option Ty):nK s aN (GU on)=(wZ s aN on).map aq.text:=by
 unfold nK wZ;rw[List.map_append,List.map_map]
 congr 1
 cases on with
 |none=>rfl
 |some T=>
  have a:dQ (bD T)≠[]:=by simp[dQ]
  refine(iP<|show GU (some T)≠[] from a).trans ?_;simp[GU,WR,bD]
theorem XK (s:cY) (aN:List ak) (on:ak):(nK s aN on).length<=aN.length+1:=by grind [nK]
theorem XL (h:lh s) {aN:List ak} {on:ak} (a:on.length<=272):∀t,t∈nK s aN on->t.length<=272:=by grind [nK,rD,My]
theorem Jl (h:lh s) {aN:List ak} {on:ak} (e:aN.length<=40) (a:on.length<=272):(eN [116] (nK s aN on)).length<=11200:=by have b:=C8 _<|XL h (aN:=aN) a;have c:=XK s aN on;have d:(nK s aN on).length*(272+1)<=41*(272+1):=Nat.mul_le_mul om<|lR _;rw[nJ];simp only[lC,List.length_nil];omega
theorem aki (s:cY) (aN:List ak) (on:Option Ty):aN.length<=(wZ s aN on).length:=by simp_all[wZ]
theorem akj (s:cY) (aN:List ak) (on:Option Ty):∀t,t∈wZ s aN on->Good t:=λt a=>by
 unfold wZ at a;rcases mA.1 a with a|a
 .obtain⟨x,_,rfl⟩:=List.mem_map.1 a;exact GF _
 .cases on with
  |none=>simp at a
  |some T=>simp only[List.mem_singleton] at a;rw[a];exact WQ<|GF T
theorem XM (h:lh s) {aN:List ak} {on:Option Ty} (d:aN.length<=40) (b:∀T,on=some T->T.n<=16):
  bT (eN [116] (nK s aN<|GU on))=some (mF [116] (wZ s aN on)):=by
 have c:=LD (h:=[116]) de de<|akj s aN on;rw[GV,<-Vw de];refine Pj c ?_ ?_
 .show aq.depth.deeps (bK [116]::wZ s aN on)<=60;refine LA λp a=>?_;rcases mC.1 a with rfl|a
  .have:(bK [116]).depth=0:=rfl;omega
  .unfold wZ at a;rcases mA.1 a with a|a
   .obtain⟨x,_,rfl⟩:=List.mem_map.1 a;have:=GG<|lB s x;have:=My h x;omega
   .cases on with
    |none=>simp at a
    |some T=>simp only[List.mem_singleton] at a;have:=GG T;have:=b T rfl;rw[a,WT];omega
 .rw[Vw de,<-GV];have:=Jl h (aN:=aN) (on:=GU on) d (by
   cases on with
   |none=>simp[GU]
   |some T=>exact wY<|b T rfl)
  omega
/-! ### The state stays small -/
structure fU (m:Mk):Prop where
 types:∀s∈m.types,s.length<=100000
 code:∀s∈m.code,s.length<=100000
theorem fU.dI (h:fU m) {k:ak} (hk:k.length<=100000):fU (m.dI k):=⟨λs a=>by
 rcases mA.1 a with a|a
 .exact h.types s a
 .simp only[List.mem_singleton] at a;rw[a];exact hk,h.code⟩
theorem fU.cX (h:fU m) {b:ak} (hk:(eN b ps).length<=100000):fU (m.cX b ps):=⟨h.types,λs a=>by
 rcases mA.1 a with a|a
 .exact h.code s a
 .simp only[List.mem_singleton] at a;rw[a];exact hk⟩
structure akk (m m':Mk) (dt dc:Nat):Prop where
 blocks:m'.blocks=m.blocks
 bN:m'.bN=m.bN
 types:m'.types.length=m.types.length+dt
 code:m'.code.length=m.code.length+dc
theorem XN (m:Mk) (s:cY) (b:Nat) (aN:List ak) (on aM a:ak) (cQ:List ak):akk m (qB m s b aN on aM a cQ).m 4 4:=by refine⟨rfl,rfl,?_,?_⟩<;>simp[qB,Mk.dI,Mk.cX]
theorem XO (m:Mk) (s:cY) (b:Nat) (aN:List ak) (on aM a:ak) (cQ:List ak):(qB m s b aN on aM a cQ).w=eN [116] (nK s aN on):=rfl
theorem XP (r:fU m) (n:lh s) {e:Nat} (u:e<1000) {aN:List ak} (t:aN.length<=40) {on aM i:ak} (v:on.length<=272) (K:aM.length<=10) (hk:i.length<=272) {cQ:List ak} (q:cQ.length<=2) (o:∀x∈cQ,x.length<=272) (F:m.types.length+4<1000):fU (qB m s e aN on aM i cQ).m:=by
 have j:=Jl n t v;have f:∀k,k<1000->(aS k).length<=3:=λk hk=>vE hk;have p:=C8 cQ o;have l:(eN [99] (eN [116] (nK s aN on)::cQ)).length<=12000:=by
  rw[nJ];have:kB (eN [116] (nK s aN on)::cQ)=1+(eN [116] (nK s aN on)).length+kB cQ:=by unfold kB;simp;omega
  have J:cQ.length*(272+1)<=2*(272+1):=Nat.mul_le_mul q<|lR _;simp only[lC,List.length_nil];omega
 have regs:∀x,x∈aN.map (λx=>aS<|lQ s x)++(if on≠[] then[aS e] else[])->x.length<=3:=λx g=>by
  rcases mA.1 g with g|g
  .obtain⟨y,_,rfl⟩:=List.mem_map.1 g;exact f _<|Jk n y
  .split at g
   .simp only[List.mem_singleton] at g;rw[g];exact f _ u
   .simp at g
 have z:(aN.map (λx=>aS<|lQ s x)++(if on≠[] then[aS e] else[])).length<=41:=by rw[lA,List.length_map];split<;>simp<;>omega
 unfold qB;have s2:∀a b:ak,kB [a,b]=2+a.length+b.length:=λa b=>by simp[kB];omega
 have A:∀a b c:ak,kB [a,b,c]=3+a.length+b.length+c.length:=λa b c=>by simp[kB];omega
 have B:∀a b c d:ak,kB [a,b,c,d]=4+a.length+b.length+c.length+d.length:=λa b c d=>by simp[kB];omega
 have L:=f m.types.length om;have D:=f (m.types.length+1) om;have E:=f (m.types.length+2) om;have C:=f (m.types.length+3) om;refine fU.cX (fU.dI (fU.cX (fU.dI (fU.cX (fU.dI (fU.cX (fU.dI r ?_) ?_) ?_) ?_) ?_) ?_) ?_) ?_
 .exact Nat.le_trans j om
 .have H:=C8 _ regs;have I:(aN.map (λx=>aS<|lQ s x)++(if on≠[] then[aS e] else[])).length*(3+1)<=41*(3+1):=Nat.mul_le_mul z<|lR _;rw[nJ];have:kB (aS m.types.length::(aN.map (λx=>aS<|lQ s x)++(if on≠[] then[aS e] else[])))=1+(aS m.types.length).length+kB (aN.map (λx=>aS<|lQ s x)++(if on≠[] then[aS e] else[])):=by unfold kB;simp;omega
  rw[this];simp only[lC,List.length_nil];omega
 .exact Nat.le_trans l om
 .rw[nJ,s2];simp only[lC,List.length_nil];omega
 .rw[nJ,s2];have:=j;unfold nK at this l;simp only[lC,List.length_nil];unfold nK at j;omega
 .rw[nJ,A];simp only[lC,List.length_nil];omega
 .omega
 .rw[nJ,B];have:=j;unfold nK at this;simp only[lC,List.length_nil];omega
structure Ext (m m':Mk) (k:Nat) (new:List Tk):Prop where
 blocks:m'.blocks=m.blocks
 bN:m'.bN=m.bN++new
 count:m'.count=m.count+new.length
 types:m.types.length<=m'.types.length/\m'.types.length<=m.types.length+k
 code:m'.code.length<=m.code.length+2*k
theorem Ext.refl (m:Mk):Ext m m 0 []:=⟨rfl,sm,rfl,om,om⟩
theorem Ext.trans {j:Nat} {p q:List Tk} (h:Ext m m1 j p) (a:Ext m1 m2 k q):Ext m m2 (j+k) (p++q):=
 ⟨a.blocks.trans h.blocks,by rw[a.bN,h.bN,List.append_assoc],by rw[a.count,h.count,lA];omega,by have:=h.types;have:=a.types;omega,by have:=h.code;have:=a.code;omega⟩
theorem Ext.more {a:Mk} {j:Nat} {p:List Tk} (h:Ext m a j p) (hk:j<=k):Ext m a k p:=⟨h.blocks,h.bN,h.count,by have:=h.types;omega,by have:=h.code;omega⟩
theorem QC {s:ak} (h:r7 s=true):s.length<=4:=by grind [r7,numeral,Vi,eH]
theorem pW (h:e.ok):e.au.length<=4:=by cases e<;>grind [Ex.ok,Ex.au,QC]
theorem Da (a b:ak):kB [a,b]=2+a.length+b.length:=by simp[kB];omega
theorem Jn {m:Mk} {a:ak} (b:fU m) (d:lh s) (e:a.length<=4) (c:m.types.length<1000):Ext m (cO m s a).1 1 []/\fU (cO m s a).1/\(cO m s a).2<1000:=by
 unfold cO;split
 .exact⟨(Ext.refl m).more om,b,Jk d a⟩
 .refine⟨⟨rfl,by simp[Mk.dI,Mk.cX],rfl,by simp[Mk.dI,Mk.cX],by simp[Mk.dI,Mk.cX]⟩,fU.cX (fU.dI b sm) ?_,c⟩;have:=vE c;rw[nJ,Da];simp only[lC,List.length_nil];omega
/-! ### Tasks -/
structure pX (t:Tk):Prop where
 ok:t.expr.ok
 type:∃T,bI t.expr (fx t.sc)=some T
 sc:lh t.sc
 bud:5*t.sc.length+2*t.expr.n<=240
 room:t.regs.length+t.loads+8*t.expr.n<=990
 regs:∀r∈t.regs,r.length<=100000
 loads:t.loads=0\/∃ts:List aq,t.regs.head?=some (eN [116] (ts.map aq.text))/\t.loads<=ts.length/\bT (eN [116] (ts.map aq.text))=some (mF [116] ts)
 self:t.self=[]\/∃a b,t.self=[a,b]/\a.length<=272/\b.length<=11200/\t.regs.length=3/\∀r∈t.regs,r.length<=11200
 aY:C9 t.aY
 on:t.on<1000
 aM:t.aM.length<=4
theorem QD (s:cY) (k:Nat) (aN:List ak):fx (jn s k aN [])=aN.map λx=>(x,lB s x):=by
 unfold jn fx;rw[List.nil_append,List.map_map];have:∀(l:List ak) (j:Nat),(l.zipIdx j).map ((λp:ak×Nat×Ty=>(p.1,p.2.2))∘λp=>(p.1,k+p.2,lB s p.1))=l.map λx=>(x,lB s x):=by
  intro l;induction l with
  |nil=>intro j;rfl
  |cons x l a=>intro j;simp only[List.zipIdx_cons,List.map_cons,Function.comp,a]
 exact this aN 0
theorem QE:∀{aN:List ak} {x:ak},x∈aN->look (aN.map λx=>(x,lB s x)) x=some (lB s x):=by
 intro aN x h;have b:∀(l:List ak),(∃y∈l,y=x)->(l.map λx=>(x,lB s x)).find? (λp=>decide<|p.1=x)=some (x,lB s x):=by
  intro l;induction l with
  |nil=>rintro⟨_,f,_⟩;simp at f
  |cons y l g=>
   intro d;rw[List.map_cons,List.find?_cons];by_cases e:y=x
   .rw[dT e,e]
   .rw[dF e];obtain⟨z,a,c⟩:=d;rcases mC.1 a with a|a
    .exact absurd (a▸c) e
    .exact g ⟨z,a,c⟩
 unfold look;rw[<-List.map_reverse,b aN.reverse ⟨x,List.mem_reverse.2 h,rfl⟩];rfl
theorem XR (h:lh s) (k:Nat) (aN:List ak) (j:k+aN.length<1000):lh (jn s k aN []):=by
 refine⟨λx T a=>?_,λp c=>?_⟩
 .rw[QD] at a;have g:x∈aN:=by
   unfold look at a;cases b:(aN.map λx=>(x,lB s x)).reverse.find? (λp=>decide<|p.1=x) with
   |none=>rw[b] at a;cases a
   |some q=>have d:=List.find?_some b;have e:=List.mem_reverse.1<|List.mem_of_find?_eq_some b;obtain⟨y,i,rfl⟩:=List.mem_map.1 e;rw[<-of_decide_eq_true d];exact i
  rw[QE g] at a;cases a;exact My h x
 .unfold jn at c;rw[List.nil_append] at c;obtain⟨q,f,rfl⟩:=List.mem_map.1 c;have:=List.snd_lt_of_mem_zipIdx f;show k+q.2<1000;omega
theorem AV (s:cY) (k:Nat) (aN:List ak):(jn s k aN []).length=aN.length:=by simp[jn]
theorem QF {x:ak} (h:(look (fx s) x).isSome=true):look (fx s) x=some (lB s x):=by
 unfold lB;cases a:look (fx s) x with
 |none=>rw[a] at h;cases h
 |some T=>rfl
theorem QG {bd:List ak} (hb:5*s.length+2*e.n<=240) (i:∀x,Fv x e->x∉bd->(look (fx s) x).isSome=true):(dP e bd []).length<=34/\(dP e bd []).length<=s.length:=by
 have d:=PX e bd [];have f:(dP e bd []).length<=(s.map Prod.fst).length:=PZ (ajd e bd [] List.nodup_nil) λx b=>by
  rcases(Es x e bd []).1 b with h|⟨b,hb⟩
  .simp at h
  .have:=i x b hb;unfold look at this;cases a:(fx s).reverse.find? λp=>decide (p.1=x) with
   |none=>rw[a] at this;cases this
   |some q=>have g:=List.find?_some a;have c:=List.mem_reverse.1<|List.mem_of_find?_eq_some a;unfold fx at c;obtain⟨p,j,rfl⟩:=List.mem_map.1 c;rw[<-of_decide_eq_true g];exact List.mem_map.2 ⟨p,j,rfl⟩
 simp only[List.length_nil,Nat.zero_add,List.length_map] at d f;omega
theorem XS {b:Nat} {aN:List ak} {on aM a:ak} {cQ:List ak}:Ext m (qB m s b aN on aM a cQ).m 4 []:=by have h:=XN m s b aN on aM a cQ;exact⟨h.blocks,by rw[h.bN];simp,rfl,by rw[h.types];omega,by rw[h.code];omega⟩
theorem Db {m:Mk} (h:m.count<1000):m.aM.length<=4:=by grind [Mk.aM,vE]
theorem XT {m:Mk} {f x:ak} {A B:Ty} {T:Ty} (q:lh s) (I:(Ex.fn f x A B e).ok) (a:bI (.fn f x A B e) (fx s)=some T) (hb:5*s.length+2*(Ex.fn f x A B e).n<=240) (M:m.count<1000):pX (Cx m s f x A B e)/\(dP (.fn f x A B e) [] []).length<=34/\1+A.n+B.n<=16:=by
 obtain⟨O,_,_,i,o,N⟩:=I;have V:∀y,Fv y (.fn f x A B e)->y∉([]:List ak)->(look (fx s) y).isSome=true:=λy j _=>rr a j;obtain⟨K,_⟩:=QG hb V;have l:1+A.n+B.n<=16/\bI e (fx s++[(f,.op true A B),(x,A)])=some B:=by
  unfold bI at a;split at a
  .rename_i R;cases t:bI e (fx s++[(f,.op true A B),(x,A)]) with
   |none=>rw[t] at a;cases a
   |some C=>
    rw[t,Option.bind_some] at a;split at a
    .rename_i Q;rw[ajg.1 Q];exact⟨R,rfl⟩
    .cases a
  .cases a
 have u:(Ty.op true A B).n<=16:=l.1;have Y:(bD<|.op true A B).length<=256:=rD u;have P:(Ex.fn f x A B e).n=3+A.n+B.n+e.n:=rfl;rw[P] at hb;have L:=A.pos;have X:=B.pos;have z:=XR q 3 (dP (.fn f x A B e) [] []) om;have v:(pR m s f x A B e).w=eN [116] (nK s (dP (.fn f x A B e) [] []) []):=XO ..;have D:(pR m s f x A B e).w.length<=11200:=by rw[v];exact Jl q om sm
 have J:bI e (fx<|Cw s f x A B e)=some B:=by
  rw[<-l.2];unfold Cw;rw[GH];refine sd e _ _ λy _ j=>?_;rw[qy,Co];by_cases c:x=y
  .rw[iP c,iP c]
  .rw[iN c,iN c];by_cases b:f=y
   .have g:0<k9 f e:=(ajf O e).2<|b▸j;rw[iP b,iP g,GH,qy,iP b]
   .rw[iN b];have E:Fv y (.fn f x A B e):=⟨λn=>b n.symm,λn=>c n.symm,j⟩;have U:y∈dP (.fn f x A B e) [] []:=(Es y _ [] []).2<|.inr ⟨E,sm⟩;have F:look (fx<|jn s 3 (dP (.fn f x A B e) [] []) []) y=look (fx s) y:=by
     rw[QD,QE U,QF (rr a E)]
    split
    .rw[GH,qy,iN b,F]
    .exact F
 have H:lh (Cw s f x A B e):=by
  unfold Cw;split
  .exact(z.snoc om u).snoc om i
  .exact z.snoc om i
 have S:5*(Cw s f x A B e).length+2*e.n<=240:=by
  unfold Cw;rw[lA];split
  .rw[lA,AV];simp only[lC,List.length_nil];omega
  .rw[AV];simp only[lC,List.length_nil];omega
 refine⟨{ok:=N,type:=⟨B,J⟩,sc:=H,bud:=S,room:=?_,regs:=?_,loads:=?_,self:=?_,aY:=⟨B,o,rfl⟩,on:=?_,aM:=Db M},K,l.1⟩
 .show 3+(dP (.fn f x A B e) [] []).length+8*e.n<=990;omega
 .intro r p;have d:r∈[(pR m s f x A B e).w,bD A,dQ (bD B)]:=p;simp only[mC,List.not_mem_nil,or_false] at d;rcases d with rfl|rfl|rfl
  .omega
  .have:=rD i;omega
  .have:=wY o;omega
 .refine .inr ⟨wZ s (dP (.fn f x A B e) [] []) none,?_,aki _ _ _,?_⟩
  .show some (pR m s f x A B e).w=_;rw[v,<-GV];rfl
  .rw[<-GV];exact XM q om sm
 .show(if 0<k9 f e then[bD<|.op true A B,(pR m s f x A B e).w] else[])=[]\/_;by_cases g:0<k9 f e
  .refine .inr ⟨bD<|.op true A B,(pR m s f x A B e).w,iP g,om,D,rfl,λr p=>?_⟩;have d:r∈[(pR m s f x A B e).w,bD A,dQ (bD B)]:=p;simp only[mC,List.not_mem_nil,or_false] at d;rcases d with rfl|rfl|rfl
   .exact D
   .have:=rD i;omega
   .have:=wY o;omega
  .exact .inl<|iN g
 .show(2:Nat)<1000;omega
theorem akl {f x:ak} {A B:Ty} {T:Ty} (d:fU m) (g:lh s) (b:(Ex.fn f x A B e).ok) (v:bI (.fn f x A B e) (fx s)=some T) (hb:5*s.length+2*(Ex.fn f x A B e).n<=240) (o:m.types.length+4<1000) (c:m.count<1000):
  Ext m (Cy m s f x A B e).1 4 [Cx m s f x A B e]/\fU (Cy m s f x A B e).1/\(Cy m s f x A B e).2<1000/\pX (Cx m s f x A B e):=by
 obtain⟨u,_,l⟩:=XT (m:=m) g b v hb c;obtain⟨_,_,_,r,t,_⟩:=b;have z:(bD<|.op true A B).length<=256:=rD l;have a:Ext m.mI (pR m s f x A B e).m 4 []:=XS;have n:fU m.mI:=⟨d.types,d.code⟩;have j:fU (pR m s f x A B e).m:=XP n g om om sm (by have:=Db c;omega) om sm (λy i=>by
  simp only[mC,List.not_mem_nil,or_false] at i;rcases i with rfl|rfl
  .have:=rD r;omega
  .exact wY t) o
 have p:(pR m s f x A B e).m.bN=m.bN:=by rw[a.bN];simp[Mk.mI]
 have q:(pR m s f x A B e).m.count=m.count+1:=by rw[a.count];simp[Mk.mI]
 refine⟨⟨a.blocks,?_,q,a.types,a.code⟩,⟨j.types,j.code⟩,?_,u⟩
 .show(pR m s f x A B e).m.bN++[Cx m s f x A B e]=m.bN++[Cx m s f x A B e];rw[p]
 .show m.types.length+3<1000;omega
theorem akm {m:Mk} {ton:Nat} {aY name:ak} {a:Ty} {rest:Ex} {T:Ty} (f:lh s) (C:C9 aY) (o:a.n<=16) (q:rest.ok) (j:bI rest (fx s++[(name,a)])=some T) (hb:5*(s.length+1)+2*rest.n<=240) (z:m.count<1000):pX (Me m s ton aY name a rest)/\(dP rest [name] []).length<=34:=by
 obtain⟨O,d,rfl⟩:=C;have n:∀y,Fv y rest->y∉[name]->(look (fx s) y).isSome=true:=λy c A=>by have:=rr j c;rw[qy,iN λe=>A (by rw[e];simp)] at this;exact this
 obtain⟨u,_⟩:=QG om n;have p:=XR f 2 (dP rest [name] []) om;have g:(pS m s ton (dQ<|bD O) name a rest).w=eN [116] (nK s (dP rest [name] []) (dQ<|bD O)):=XO ..;have E:(pS m s ton (dQ<|bD O) name a rest).w.length<=11200:=by rw[g];exact Jl f om<|wY d
 have t:bI rest (fx<|jn s 2 (dP rest [name] []) []++[(name,1,a)])=some T:=by
  rw[<-j,GH];refine sd rest _ _ λy _ c=>?_;rw[qy,qy];by_cases b:name=y
  .rw[iP b,iP b]
  .rw[iN b,iN b];have i:y∉[name]:=λh=>b (by simpa using h:y=name).symm;have D:y∈dP rest [name] []:=(Es y _ [name] []).2<|.inr ⟨c,i⟩;rw[QD,QE D,QF (n y c i)]
 refine⟨{ok:=q,type:=⟨T,t⟩,sc:=p.snoc om o,bud:=?_,room:=?_,regs:=?_,loads:=?_,self:=.inl rfl,aY:=⟨O,d,rfl⟩,on:=?_,aM:=Db z},u⟩
 .show 5*(jn s 2 (dP rest [name] []) []++[(name,1,a)]).length+2*rest.n<=240;rw[lA,AV];simp only[lC,List.length_nil];omega
 .show 2+((dP rest [name] []).length+1)+8*rest.n<=990;omega
 .intro r B;have l:r∈[(pS m s ton (dQ (bD O)) name a rest).w,bD a]:=B;simp only[mC,List.not_mem_nil,or_false] at l;rcases l with rfl|rfl
  .omega
  .have:=rD o;omega
 .refine .inr ⟨wZ s (dP rest [name] [])<|some O,?_,?_,?_⟩
  .show some (pS m s ton (dQ<|bD O) name a rest).w=_;rw[g,<-GV];rfl
  .show(dP rest [name] []).length+1<=_;unfold wZ;rw[lA,List.length_map];simp
  .rw[<-GV];exact XM f om λT v=>by cases v;exact d
 .show 2+(dP rest [name] []).length<1000;omega
theorem akn {ton:Nat} {aY name:ak} {a:Ty} {rest:Ex} {T:Ty} (e:fU m) (f:lh s) (v:ton<1000) (i:C9 aY) (c:a.n<=16) (n:rest.ok) (u:bI rest (fx s++[(name,a)])=some T) (hb:5*(s.length+1)+2*rest.n<=240) (o:m.types.length+4<1000) (d:m.count<1000):
  Ext m (wR m s ton aY name a rest).1 4 [Me m s ton aY name a rest]/\fU (wR m s ton aY name a rest).1/\(wR m s ton aY name a rest).2.1<1000/\C9 (wR m s ton aY name a rest).2.2/\pX (Me m s ton aY name a rest):=by
 obtain⟨t,_⟩:=akm (m:=m) (ton:=ton) f i c n u hb d;obtain⟨O,r,rfl⟩:=i;have b:Ext m.mI (pS m s ton (dQ<|bD O) name a rest).m 4 []:=XS;have l:fU m.mI:=⟨e.types,e.code⟩;have j:fU (pS m s ton (dQ<|bD O) name a rest).m:=XP l f v om (wY r) (by have:=Db d;omega) (wY c) sm (λy g=>by simp only[List.mem_singleton] at g;rw[g];have:=rD c;omega) o;have p:(pS m s ton (dQ<|bD O) name a rest).m.bN=m.bN:=by rw[b.bN];simp[Mk.mI]
 have q:(pS m s ton (dQ<|bD O) name a rest).m.count=m.count+1:=by rw[b.count];simp[Mk.mI]
 refine⟨⟨b.blocks,?_,q,b.types,b.code⟩,⟨j.types,j.code⟩,?_,⟨a,c,rfl⟩,t⟩
 .show(pS m s ton (dQ<|bD O) name a rest).m.bN++[_]=m.bN++[_];rw[p]
 .show m.types.length+3<1000;omega
theorem Jq (m:Mk) (k:ak):Ext m (m.dI k) 1 []:=⟨rfl,by simp[Mk.dI],rfl,by simp[Mk.dI],by simp[Mk.dI]⟩
theorem xd (m:Mk) (h:ak) (a:List ak):Ext m (m.cX h a) 1 []:=⟨rfl,by simp[Mk.cX],rfl,by simp[Mk.cX],by simp[Mk.cX]⟩
theorem AY (m:Mk) (k:ak):(m.dI k).types.length=m.types.length+1:=by simp[Mk.dI]
theorem pY (m:Mk) (h:ak) (a:List ak):(m.cX h a).types=m.types:=rfl
theorem py {n:Nat} (h:n<1000):(aS n).length<=3:=vE h
theorem pZ {m:Mk} (h:fU m) {hd:ak} (e:hd.length<=5) (a:ps.length<=4) (b:∀p∈ps,p.length<=300):fU (m.cX hd ps):=h.cX (by have c:=C8 (m:=300) ps b;have d:ps.length*301<=4*301:=Nat.mul_le_mul a<|lR _;rw[nJ];omega)
theorem GW {s:ak} (h:eH s=true):s.length<=4:=by grind [eH]
def mh (a:List Tk):Nat:=(a.map λt=>t.expr.n+1).sum
theorem Jr (a b:List Tk):mh (a++b)=mh a+mh b:=by grind [mh]
theorem QH (t:Tk):mh [t]=t.expr.n+1:=by simp[mh]
theorem Jt:mh []=0:=rfl
theorem XW {a b:ak} (g:fU m) (e:lh s) (f:a.length<=4) (hb:b.length<=4) (i:m.types.length+1<1000):
  (Ext m (cO m s a).1 1 []/\fU (cO m s a).1/\(cO m s a).2<1000)/\Ext m (cO (cO m s a).1 s b).1 2 []/\fU (cO (cO m s a).1 s b).1/\(cO (cO m s a).1 s b).2<1000:=by
 have c:=Jn g e f om;have d:=Jn (m:=(cO m s a).1) (a:=b) c.2.1 e hb (by have:=c.1.types;omega);exact⟨c,c.1.trans d.1,d.2⟩
structure XX (m m':Mk) (r:Nat) (n:Nat) (new:List Tk):Prop where
 ext:Ext m m' 4 new
 sml:fU m'
 dI:r<1000
 inv:∀k∈new,pX k
 num:mh new+1<=n
theorem QI {T:Ty} (r:fU m) (q:lh s) (d:e.ok) (u:bI e (fx s)=some T) (hb:5*s.length+2*e.n<=240) (g:m.types.length+8*e.n<=1000) (E:m.count<1000):
  ∃new,XX m (oK m s T e).1 (oK m s T e).2 e.n new:=by
 have C:=nq q.types u;have hk:=rD C;have two:∀(h a b:ak),a.length<=4->b.length<=4->h.length<=5->m.types.length+8<=1000->∀n,1<=n->
   XX m (((cO (cO m s a).1 s b).1.dI<|bD T).cX h [aS (cO (cO m s a).1 s b).1.types.length,aS (cO m s a).2,aS (cO (cO m s a).1 s b).2]) (cO (cO m s a).1 s b).1.types.length n []:=by
  intro h a b D hb F _ n _;obtain⟨⟨_,_,H⟩,t,s2,I⟩:=XW r q D hb om;have y:=t.types;refine⟨(t.trans ((Jq _ _).trans<|xd _ _ _)),pZ (s2.dI om) F sm ?_,om,sm,by simp[Jt];omega⟩;intro p o;simp only[mC,List.not_mem_nil,or_false] at o;rcases o with rfl|rfl|rfl
  .have:=py (n:=(cO (cO m s a).1 s b).1.types.length) om;omega
  .have:=py H;omega
  .have:=py I;omega
 cases e with
 |«at» a=>obtain⟨i,j,l⟩:=Jn r q (QC d) (by simp only[Ex.n] at g;omega);exact⟨[],i.more om,j,l,sm,by simp[Jt,Ex.n]⟩
 |un h a=>
  simp only[Ex.n] at g;have v:=a.pos;obtain⟨i,j,l⟩:=Jn r q (pW d.2) om;have y:=i.types;refine⟨[],((i.trans ((Jq _ _).trans<|xd _ _ _))).more om,pZ (j.dI om) sm sm ?_,?_,sm,by simp[Jt,Ex.n]⟩
  .intro p o;simp only[mC,List.not_mem_nil,or_false] at o;rcases o with rfl|rfl|rfl
   .have:=py (n:=(cO m s a.au).1.types.length) om;omega
   .have:=py l;omega
   .split<;>simp
  .show(cO m s a.au).1.types.length<1000;omega
 |bi h a b=>
  simp only[Ex.n] at g;have v:=a.pos;refine⟨[],two (si h) a.au b.au (pW d.2.1) (pW d.2.2) ?_ om _<|Ex.pos _⟩;unfold si;split
  .simp
  .split
   .simp
   .split<;>simp
 |ite a b c=>simp only[Ex.n] at g;exact⟨[],two (si ix) a.au b.au (pW d.1) (pW d.2.1) de om _<|Ex.pos _⟩
 |lt x a b=>simp only[Ex.n] at g;exact⟨[],two (si il) x a.au (GW d.1) (pW d.2.1) de om _<|Ex.pos _⟩
 |fn f x A B e=>simp only[Ex.n] at g;obtain⟨i,j,l,z⟩:=akl r q d u hb om E;refine⟨_,i,j,l,λk hk=>by simp only[List.mem_singleton] at hk;rw[hk];exact z,?_⟩;rw[QH];simp only[Cx,Ex.n];omega
theorem XY (b:fU m) {s:Nat} (c:s<1000) (i:m.types.length+3<1000):Ext m (vu m s) 6 []/\fU (vu m s)/\(vu m s).types.length=m.types.length+3:=by
 have d:=py c;have e:=py (n:=m.types.length) om;have f:=py (n:=m.types.length+1) om;have g:=py (n:=m.types.length+2) om;unfold vu;have z:([]:ak).length<=100000:=by simp
 refine⟨(Jq _ _).trans<|(xd _ _ _).trans ((Jq _ _).trans<|(xd _ _ _).trans ((Jq _ _).trans<|xd _ _ _)),?_,by simp[Mk.dI,Mk.cX]⟩;refine pZ (fU.dI (pZ (fU.dI (pZ (fU.dI b z) sm sm ?_) z) sm sm ?_) z) sm sm ?_
 all_goals
  intro p a;simp only[mC,List.not_mem_nil,or_false] at a;rcases a with rfl|rfl|rfl<;>first|omega|simp
theorem ako (e:fU m) {f on:Nat} (d:f<1000) (j:x<1000) (g:on<1000) (i:m.types.length+3<1000):Ext m (AF m f x on) 10 []/\fU (AF m f x on):=by
 obtain⟨b,c,_⟩:=XY e d i;have d1:=py (n:=m.types.length+1) om;have d2:=py (n:=m.types.length+2) om;have d3:=py j;have d4:=py g;unfold AF;refine⟨b.trans ((xd _ _ _).trans<|(xd _ _ _).trans ((xd _ _ _).trans<|xd _ _ _)),?_⟩;refine pZ (pZ (pZ (pZ c sm sm ?_) sm sm ?_) sm sm ?_) sm sm ?_
 all_goals
  intro p a;simp only[mC,List.not_mem_nil,or_false] at a
  first
  |(rcases a with rfl|rfl<;>first|omega|simp)
  |(rw[a];omega)
theorem akp (d:fU m) {on r:Nat} (e:on<1000) (f:r<1000) (g:m.types.length+3<1000):Ext m (AG m on r) 10 []/\fU (AG m on r):=by
 obtain⟨b,c,_⟩:=XY d e g;have d1:=py (n:=m.types.length+1) om;have d2:=py (n:=m.types.length+2) om;have d3:=py f;unfold AG;refine⟨(b.trans<|(xd _ _ _).trans ((xd _ _ _).trans<|xd _ _ _)).more om,?_⟩;refine pZ (pZ (pZ c sm sm ?_) sm sm ?_) sm sm ?_
 all_goals
  intro p a;simp only[mC,List.not_mem_nil,or_false] at a
  first
  |(rcases a with rfl|rfl<;>first|omega|simp)
  |(rw[a];omega)
structure pz (m:Mk) (s:cY) (on:Nat) (aY:ak) (e:Ex):Prop where
 sml:fU m
 sc:lh s
 ok:e.ok
 type:∃T,bI e (fx s)=some T
 bud:5*s.length+2*e.n<=240
 room:m.types.length+8*e.n<=1000
 on:on<1000
 aY:C9 aY
 cnt:m.count+e.n<=900
structure ym (m:Mk) (s:cY) (on:Nat) (aY:ak) (e:Ex) (T:Ty):Prop where
 ok:(bM e).s.ok
 type:bI (bM e).s (fx s)=some T
 small:T.n<=16
 pr:pr s (bM e).s=T
 le:(bM e).s.n<=e.n
 last:(bM e).name=[]->(bM e).s=e
 rest:(bM e).name≠[]->eH (bM e).name=true/\(bM e).rest.ok/\(∃U,bI (bM e).rest (fx s++[((bM e).name,T)])=some U)/\(bM e).s.n+(bM e).rest.n+2<=e.n
theorem pz.goal {on:Nat} {aY:ak} (h:pz m s on aY e):∃T,ym m s on aY e T:=by
 obtain⟨T,i⟩:=h.type;have g:bM e=⟨[],e,e⟩->∃T,ym m s on aY e T:=λj=>by
  refine⟨T,?_,?_,nq h.sc.types i,?_,?_,?_,?_⟩
  .rw[j];exact h.ok
  .rw[j];exact i
  .rw[j];unfold pr;rw[i];rfl
  .rw[j];exact lR _
  .intro _;rw[j]
  .intro o;rw[j] at o;exact absurd rfl o
 have n:=h.ok;cases e with
 |lt x a b=>
  unfold bI at i;cases l:bI a (fx s) with
  |none=>rw[l] at i;cases i
  |some A=>rw[l,Option.bind_some] at i;refine⟨A,n.2.1,l,nq h.sc.types l,by show(bI a<|fx s).getD .i=A;rw[l];rfl,by simp only[bM,Ex.n];omega,λo=>absurd o<|yb n.1,λ_=>⟨n.1,n.2.2,⟨T,i⟩,by simp only[bM,Ex.n];omega⟩⟩
 |«at» a=>exact g rfl
 |un a b=>exact g rfl
 |bi a b c=>exact g rfl
 |ite a b c=>exact g rfl
 |fn a b c d f=>exact g rfl
def fD (m:Mk) (s:cY) (on:Nat) (aY name:ak) (a:Ty) (rest:Ex):Mk×Nat×ak:=if name≠[] then wR m s on aY name a rest else(m,on,aY)
structure Cut (m m':Mk) (on':Nat) (onOf':ak) (n:Nat) (new:List Tk):Prop where
 ext:Ext m m' 4 new
 sml:fU m'
 on:on'<1000
 aY:C9 onOf'
 inv:∀k∈new,pX k
 num:mh new<=n
theorem XZ {d:Mk} {on:Nat} {aY:ak} {T:Ty} (h:pz d s on aY e) (g:ym d s on aY e T) (c:fU m) (i:m.types.length+4<1000) (q:m.count<1000) (b:2<=(bM e).s.n):
  ∃new,Cut m (fD m s on aY (bM e).name T (bM e).rest).1 (fD m s on aY (bM e).name T (bM e).rest).2.1 (fD m s on aY (bM e).name T (bM e).rest).2.2 (e.n-(bM e).s.n) new:=by
 by_cases a:(bM e).name=[]
 .unfold fD;rw[iN (by simp[a])];exact⟨[],(Ext.refl m).more om,c,h.on,h.aY,sm,by simp[Jt]⟩
 .unfold fD;rw[iP a];obtain⟨_,f,⟨U,p⟩,_⟩:=g.rest a;have hb:=h.bud;obtain⟨j,l,b,n,o⟩:=akn (name:=(bM e).name) c h.sc h.on h.aY g.small f p om i q;refine⟨_,j,l,b,n,λk hk=>by simp only[List.mem_singleton] at hk;rw[hk];exact o,?_⟩;rw[QH];show(bM e).rest.n+1<=_;omega
structure Fin (m m':Mk) (n:Nat) (new:List Tk):Prop where
 ext:Ext m m' 20 new
 sml:fU m'
 inv:∀k∈new,pX k
 num:mh new+1<=n
structure On (m m':Mk) (s:cY) (on:Nat) (aY:ak) (n:Nat) (r:Ex) (new:List Tk):Prop where
 ext:Ext m m' 20 new
 inv:pz m' s on aY r
 bN:∀k∈new,pX k
 num:mh new+r.n+1<=n
theorem akq {on:Nat} {aY:ak} {T:Ty} (h:pz m s on aY e) (g:ym m s on aY e T) (i:(bM e).name=[]):
  ∃new,Fin m (AG (oK m s T (bM e).s).1 on (oK m s T (bM e).s).2) e.n new:=by
 have l:=h.room;have f:=h.cnt;have j:=(bM e).s.pos;have d:=g.le;obtain⟨new,a⟩:=QI h.sml h.sc g.ok g.type (by have:=h.bud;omega) om om;have n:=a.ext.types;obtain⟨b,c⟩:=akp a.sml h.on a.dI om;exact⟨new,by have:=a.ext.trans b;rw[List.append_nil] at this;exact this.more om,c,a.inv,by have:=a.num;omega⟩
theorem X0 {on:Nat} {aY:ak} {T:Ty} (h:pz m s on aY e) (g:ym m s on aY e T) (n:(bM e).name≠[]):
  ∃new,On m (oK m s T (bM e).s).1 (s++[((bM e).name,(oK m s T (bM e).s).2,T)]) on aY e.n (bM e).rest new:=by
 have q:=h.room;have o:=h.cnt;have p:=(bM e).s.pos;have j:=g.le;obtain⟨_,f,⟨U,i⟩,_⟩:=g.rest n;obtain⟨new,a⟩:=QI h.sml h.sc g.ok g.type (by have:=h.bud;omega) om om;have r:=a.ext.types;have b:=a.ext.count;have d:=a.num;have c:new.length<=mh new:=by
  unfold mh;clear a b d;induction new with
  |nil=>simp
  |cons t l _=>simp only[lC,List.map_cons,List.sum_cons];omega
 refine⟨new,a.ext.more om,⟨a.sml,h.sc.snoc a.dI g.small,f,⟨U,by rw[GH];exact i⟩,?_,om,h.on,h.aY,om⟩,a.inv,om⟩;have:=h.bud;simp only[lA,lC,List.length_nil];omega
theorem aks {on:Nat} {aY:ak} {f x:Ex} {T:Ty} (h:pz m s on aY e) (g:ym m s on aY e T) (d:(bM e).s= .bi lz f x):
  ∃new,Cut (cO (cO m s f.au).1 s x.au).1 (fD (cO (cO m s f.au).1 s x.au).1 s on aY (bM e).name T (bM e).rest).1 (fD (cO (cO m s f.au).1 s x.au).1 s on aY (bM e).name T (bM e).rest).2.1 (fD (cO (cO m s f.au).1 s x.au).1 s on aY (bM e).name T (bM e).rest).2.2 (e.n-3) new/\
   Fin m (AF (fD (cO (cO m s f.au).1 s x.au).1 s on aY (bM e).name T (bM e).rest).1 (cO m s f.au).2 (cO (cO m s f.au).1 s x.au).2 (fD (cO (cO m s f.au).1 s x.au).1 s on aY (bM e).name T (bM e).rest).2.1) e.n new:=by
 have b:=g.ok;rw[d] at b;have r:=h.room;have q:=h.cnt;have l:=g.le;have p:3<=(bM e).s.n:=by rw[d];simp only[Ex.n];have:=f.pos;have:=x.pos;omega
 obtain⟨⟨_,s1,n⟩,c,s2,o⟩:=XW h.sml h.sc (pW b.2.1) (pW b.2.2) om;have t2:=c.types;have c2:=c.count;simp only[List.length_nil] at c2;obtain⟨new,a⟩:=XZ h g s2 om om om;have t3:=a.ext.types;obtain⟨i,j⟩:=ako a.sml n o a.on om;refine⟨new,⟨a.ext,a.sml,a.on,a.aY,a.inv,by have:=a.num;omega⟩,?_,j,a.inv,by have:=a.num;omega⟩;have:=(c.trans a.ext).trans i;rw[List.append_nil,List.nil_append] at this;exact this.more om
def QL (m:Mk) (s:cY) (on:Nat) (aY:ak) (x:Ex):Tk:=⟨m.aM,m.types,0,[],s,x,on,aY,m.types.length⟩
def Jv (m:Mk) (s:cY) (on:Nat) (aY:ak) (r:Nat) (x:Ex):Mk:={(m.mI.cX I4 [aS r,m.aM]) with bN:=m.bN++[QL m s on aY x]}
theorem X4 {on:Nat} {aY:ak} {c x y:Ex} {T:Ty} (h:pz m s on aY e) (g:ym m s on aY e T) (z:(bM e).s= .ite c x y):
  ∃new C,Cut (cO m s c.au).1 (fD (cO m s c.au).1 s on aY (bM e).name T (bM e).rest).1 (fD (cO m s c.au).1 s on aY (bM e).name T (bM e).rest).2.1 (fD (cO m s c.au).1 s on aY (bM e).name T (bM e).rest).2.2 (e.n-(bM e).s.n) new/\
   On m (Jv (fD (cO m s c.au).1 s on aY (bM e).name T (bM e).rest).1 s (fD (cO m s c.au).1 s on aY (bM e).name T (bM e).rest).2.1 (fD (cO m s c.au).1 s on aY (bM e).name T (bM e).rest).2.2 (cO m s c.au).2 x) s
    (fD (cO m s c.au).1 s on aY (bM e).name T (bM e).rest).2.1 (fD (cO m s c.au).1 s on aY (bM e).name T (bM e).rest).2.2 e.n y C:=by
 have i:=g.ok;have b:=g.type;rw[z] at i b;have S:=h.room;have R:=h.cnt;have J:=g.le;have hb:=h.bud;have P:=c.pos;have O:(bM e).s.n=1+c.n+x.n+y.n:=by rw[z];rfl
 have K:=x.pos;have L:=y.pos;obtain⟨j,s1,N⟩:=Jn h.sml h.sc (pW i.1) om;have t1:=j.types;have c1:=j.count;simp only[List.length_nil] at c1;obtain⟨new,a⟩:=XZ h g s1 om om om;generalize fD (cO m s c.au).1 s on aY (bM e).name T (bM e).rest=Q at a⊢;obtain⟨m2,o,q⟩:=Q;dsimp only at a⊢;have t3:=a.ext.types;have F:=a.ext.count;have E:=a.num;have u:new.length<=mh new:=by
  unfold mh;clear a F E t3;induction new with
  |nil=>simp
  |cons t l _=>simp only[lC,List.map_cons,List.sum_cons];omega
 have I:=Db (m:=m2) om;have f:(∃X,bI x (fx s)=some X)/\∃Y,bI y (fx s)=some Y:=by
  unfold bI at b;cases n:bI c (fx s) with
  |none=>rw[n] at b;cases b
  |some A=>
   cases r:bI x (fx s) with
   |none=>rw[n,r] at b;cases b
   |some B=>
    cases H:bI y (fx s) with
    |none=>rw[n,r,H] at b;cases b
    |some D=>exact⟨⟨B,rfl⟩,⟨D,rfl⟩⟩
 have M:pX (QL m2 s o q x):=
  ⟨i.2.1,f.1,h.sc,by show 5*s.length+2*x.n<=240;omega,by show m2.types.length+0+8*x.n<=990;omega,a.sml.types,.inl rfl,.inl rfl,a.aY,a.on,I⟩
 refine⟨new,new++[QL m2 s o q x],a,⟨?_,⟨?_,h.sc,i.2.2,f.2,om,?_,a.on,a.aY,?_⟩,?_,?_⟩⟩
 .have d:=j.trans a.ext;rw[List.nil_append] at d;refine⟨d.blocks,?_,?_,?_,?_⟩
  .show m2.bN++[_]=_;rw[d.bN,List.append_assoc]
  .show m2.count+1=_;rw[d.count,lA];simp;omega
  .have:=d.types;exact⟨this.1,by show m2.types.length<=_;omega⟩
  .have:=d.code;show(m2.code++[_]).length<=_;simp only[lA,lC,List.length_nil];omega
 .have:=pZ (m:=m2.mI) (hd:=I4) (ps:=[aS (cO m s c.au).2,m2.aM]) ⟨a.sml.types,a.sml.code⟩ de sm (λp v=>by
   simp only[mC,List.not_mem_nil,or_false] at v;rcases v with rfl|rfl
   .have:=py N;omega
   .omega)
  exact⟨this.types,this.code⟩
 .show m2.types.length+_<=_;omega
 .show m2.count+1+_<=_;omega
 .intro k hk;rcases mA.1 hk with hk|hk
  .exact a.inv k hk
  .simp only[List.mem_singleton] at hk;rw[hk];exact M
 .rw[Jr,QH];show _+(x.n+1)+_+1<=_;omega
def qJ (m:Mk) (a:List aq):Nat->Mk
 |0=>m
 |k+1=>((qJ m a k).dI (nth a k).text).cX vq [aS (qJ m a k).types.length,[48],aS k]
def Dc (m:Mk) (aM:ak) (regs:List ak) (a b:ak):Mk:=
 let code:=eN [99] regs;let r:=m.types.length
 (((((m.dI code).cX vj [aS r,aM]).dI<|eN [116] [code,b]).cX nu [aS<|r+1,aS r,[48]]).dI a).cX vm [aS<|r+2,aS<|r+1,a,b]
def pA (m:Mk) (regs:List ak):Mk:={m with code:=[],types:=regs}
def MF (m:Mk) (t:Tk):Mk:=match t.self with
 |[a,b]=>Dc m t.aM t.regs a b
 |_=>m
def oS (t:Tk):List aq:=match bT (t.regs.getD 0 [105]) with
 |some x=>x.ag.drop 1
 |none=>[]
def sk (m:Mk) (t:Tk):Mk:=MF (qJ (pA m t.regs) (oS t) t.loads) t
theorem QM {t:Tk} (h:t.regs.head?=some (eN [116] (ts.map aq.text))) (c:bT (eN [116] (ts.map aq.text))=some (mF [116] ts)):oS t=ts/\bT (t.regs.getD 0 [105])=some (mF [116] ts):=by
 have e:t.regs.getD 0 [105]=eN [116] (ts.map aq.text):=by
  cases b:t.regs with
  |nil=>rw[b] at h;cases h
  |cons a l=>rw[b] at h;simpa using h
 unfold oS;rw[e,c];exact⟨rfl,rfl⟩
structure EN (m m':Mk) (regs:List ak) (k:Nat):Prop where
 blocks:m'.blocks=m.blocks
 bN:m'.bN=m.bN
 count:m'.count=m.count
 types:m'.types.length=regs.length+k
 code:m'.code.length<=k
 sml:fU m'
theorem QN {regs:List ak} (h:∀r∈regs,r.length<=100000):EN m (pA m regs) regs 0:=⟨rfl,rfl,rfl,rfl,by simp[pA],⟨h,by simp[pA]⟩⟩
theorem QO {m:Mk} {regs:List ak} (h:∀r∈regs,r.length<=100000) (c:∀t∈ts,t.text.length<=100000):∀k,regs.length+k<1000->k<=ts.length->EN m (qJ (pA m regs) ts k) regs k
 |0,_,_=>QN h
 |k+1,hk,_=>by
  have a:=QO (m:=m) h c k om om;have d1:=py (n:=(qJ (pA m regs) ts k).types.length) (by rw[a.types];omega);have d2:=py (n:=k) om;refine⟨a.blocks,a.bN,a.count,by show(((qJ (pA m regs) ts k).types++[_])).length=_;rw[lA,a.types];rfl,?_,?_⟩
  .show((qJ (pA m regs) ts k).code++[_]).length<=_;have:=a.code;rw[lA];simp;omega
  .refine pZ (a.sml.dI ?_) sm sm ?_
   .have:=c (nth ts k) (by unfold nth;rw[gG,gE om];exact List.getElem_mem _);omega
   .intro p b;simp only[mC,List.not_mem_nil,or_false] at b;rcases b with rfl|rfl|rfl
    .omega
    .simp
    .omega
theorem X7 {regs:List ak} (b:regs.length=3) (h:∀r∈regs,r.length<=11200):(eN [99] regs).length<=33610:=by have a:=C8 (m:=11200) regs h;rw[b] at a;rw[nJ];simp only[lC,List.length_nil];omega
theorem akt (a b c d:ak):kB [a,b,c,d]=4+a.length+b.length+c.length+d.length:=by simp[kB];omega
theorem aku (f:fU m) {aM:ak} (e:aM.length<=4) {regs:List ak} (c:regs.length=3) (h:∀r∈regs,r.length<=11200) {a b:ak} (d:a.length<=272) (hb:b.length<=11200) (g:m.types.length+3<1000):fU (Dc m aM regs a b):=by grind [X7,py,dG.length,eN,nJ,Da,Dc,fU.cX,fU.dI,pZ,akt]
theorem akv {c:Mk} {regs:List ak} (h:EN m c regs k) (aM a b:ak) (d:fU (Dc c aM regs a b)):EN m (Dc c aM regs a b) regs (k+3):=
 ⟨h.blocks,h.bN,h.count,by have:=h.types;simp[Dc,Mk.dI,Mk.cX];omega,by have:=h.code;simp[Dc,Mk.dI,Mk.cX];omega,d⟩
theorem X8 {s:ak} (h:s∈ps):s.length<=kB ps:=by
 unfold kB;have:∀{xs:List ak},s∈xs->s.length<=(xs.map List.length).sum:=by
  intro xs;induction xs with
  |nil=>intro h;cases h
  |cons x xs a=>
   intro h;rw[List.map_cons,List.sum_cons];rcases mC.1 h with rfl|h
   .omega
   .have:=a h;omega
 have:=this h;omega
theorem QP {m:Mk} {t:Tk} (h:pX t):EN m (sk m t) t.regs (t.loads+(if t.self=[] then 0 else 3)):=by
 have s:=h.room;have r:=t.expr.pos;have c:EN m (qJ (pA m t.regs) (oS t) t.loads) t.regs t.loads:=by
  rcases h.loads with d|⟨ts,g,e,i⟩
  .rw[d];exact QN h.regs
  .obtain⟨j,_⟩:=QM g i;rw[j];refine QO h.regs (λx q=>?_) _ om e;have l:=h.regs _<|List.mem_of_mem_head? g;rw[nJ] at l;have:=X8<|List.mem_map_of_mem (f:=aq.text) q;omega
 unfold sk MF;rcases h.self with d|⟨a,b,p,o,hb,n,e⟩
 .rw[d,iP rfl];exact c
 .rw[p,iN sm];refine akv c _ _ _<|aku c.sml h.aM n e o hb ?_;rw[c.types];omega
theorem X9 {t:Tk} (h:pX t) (a:m.count+t.expr.n<=900):pz (sk m t) t.sc t.on t.aY t.expr:=by have hb:=QP (m:=m) h;have b:=h.room;refine⟨hb.sml,h.sc,h.ok,h.type,h.bud,?_,h.on,h.aY,by rw[hb.count];exact a⟩;rw[hb.types];split<;>omega
/-! ### A block's body -/
def og:Nat->At->Ex->Mk
 |0,a,_=>a.m
 |k+1,a,e=>match lD a e with
  | .inl m=>m
  | .inr p=>og k p.1 p.2
theorem MG (m:Mk) (s:cY) (on:Nat) (aY:ak) (g:Goal):Mf ⟨m,s,on,aY⟩ g=⟨(fD m s on aY g.name (pr s g.s) g.rest).1,s,(fD m s on aY g.name (pr s g.s) g.rest).2.1,(fD m s on aY g.name (pr s g.s) g.rest).2.2⟩:=by unfold Mf fD;split<;>rfl
theorem Ya {on:Nat} {aY:ak} (h:pz m s on aY e):match lD ⟨m,s,on,aY⟩ e with
  | .inl q=>∃new,Fin m q e.n new
  | .inr p=>∃new,On m p.1.m p.1.s p.1.on p.1.aY e.n p.2 new:=by
 obtain⟨T,g⟩:=h.goal;have o:=g.pr;have i:lD ⟨m,s,on,aY⟩ e=(if(bM e).name=[] then .inl (AG (oK m s (pr s (bM e).s) (bM e).s).1 on (oK m s (pr s (bM e).s) (bM e).s).2) else .inr (⟨(oK m s (pr s (bM e).s) (bM e).s).1,s++[((bM e).name,(oK m s (pr s (bM e).s) (bM e).s).2,pr s (bM e).s)],on,aY⟩,(bM e).rest))->
   match lD ⟨m,s,on,aY⟩ e with
   | .inl q=>∃new,Fin m q e.n new
   | .inr p=>∃new,On m p.1.m p.1.s p.1.on p.1.aY e.n p.2 new:=λl=>by
  rw[l,o];by_cases n:(bM e).name=[]
  .rw[iP n];exact akq h g n
  .rw[iN n];exact X0 h g n
 cases j:(bM e).s with
 |«at» a=>exact i (by unfold lD;simp only[j])
 |un a b=>exact i (by unfold lD;simp only[j])
 |lt a b c=>exact i (by unfold lD;simp only[j])
 |fn a b c d f=>exact i (by unfold lD;simp only[j])
 |bi v f x=>
  by_cases r:v=lz
  .subst r;have l:lD ⟨m,s,on,aY⟩ e= .inl (AF (fD (cO (cO m s f.au).1 s x.au).1 s on aY (bM e).name T (bM e).rest).1 (cO m s f.au).2 (cO (cO m s f.au).1 s x.au).2 (fD (cO (cO m s f.au).1 s x.au).1 s on aY (bM e).name T (bM e).rest).2.1):=by
    unfold lD;simp only[j,if_true,MG];rw[<-j,o]
   rw[l];obtain⟨new,_,t⟩:=aks h g j;exact⟨new,t⟩
  .exact i (by unfold lD;simp only[j,iN r])
 |ite c x y=>
  have l:lD ⟨m,s,on,aY⟩ e= .inr (⟨Jv (fD (cO m s c.au).1 s on aY (bM e).name T (bM e).rest).1 s (fD (cO m s c.au).1 s on aY (bM e).name T (bM e).rest).2.1 (fD (cO m s c.au).1 s on aY (bM e).name T (bM e).rest).2.2 (cO m s c.au).2 x,s,
    (fD (cO m s c.au).1 s on aY (bM e).name T (bM e).rest).2.1,(fD (cO m s c.au).1 s on aY (bM e).name T (bM e).rest).2.2⟩,y):=by
   unfold lD;simp only[j,MG];rw[<-j,o];rfl
  rw[l];obtain⟨_,new,_,u⟩:=X4 h g j;exact⟨new,u⟩
structure zB (m m':Mk) (s:cY) (on:Nat) (aY:ak) (n k:Nat) (r:Ex) (new:List Tk):Prop where
 ext:Ext m m' k new
 inv:pz m' s on aY r
 bN:∀k∈new,pX k
 num:mh new+r.n<=n
 steps:k+20*r.n<=20*n
theorem zB.start {on:Nat} {aY:ak} (h:pz m s on aY e):zB m m s on aY e.n 0 e []:=⟨Ext.refl m,h,sm,by simp[Jt],om⟩
theorem zB.step {s2:cY} {on d:Nat} {aY e:ak} {r f:Ex} {new c:List Tk} (h:zB m m1 s on aY n k r new) (a:On m1 m2 s2 d e r.n f c):zB m m2 s2 d e n (k+20) f (new++c):=
 ⟨h.ext.trans a.ext,a.inv,λt b=>by rcases mA.1 b with b|b;exact h.bN t b;exact a.bN t b,by rw[Jr];have:=h.num;have:=a.num;omega,by have:=h.steps;have:=a.num;omega⟩
structure QQ (m m':Mk) (n:Nat) (new:List Tk):Prop where
 ext:Ext m m' (20*n) new
 sml:fU m'
 inv:∀k∈new,pX k
 num:mh new+1<=n
theorem zB.fin {on:Nat} {aY:ak} {r:Ex} {new c:List Tk} (h:zB m m1 s on aY n k r new) (b:Fin m1 m2 r.n c):QQ m m2 n (new++c):=by
 have d:=h.steps;have e:=r.pos;refine⟨(h.ext.trans b.ext).more om,b.sml,λt a=>?_,by rw[Jr];have:=h.num;have:=b.num;omega⟩;rcases mA.1 a with a|a
 .exact h.bN t a
 .exact b.inv t a
theorem MH:∀(k:Nat) {m:Mk} {s:cY} {on:Nat} {aY:ak} {e:Ex},pz m s on aY e->e.n<=k->∃new,QQ m (og k ⟨m,s,on,aY⟩ e) e.n new
 |0,_,_,_,_,e,_,hk=>absurd hk (by have:=e.pos;omega)
 |k+1,m,s,on,aY,e,h,hk=>by
  have a:=Ya h;unfold og;cases d:lD ⟨m,s,on,aY⟩ e with
  |inl _=>rw[d] at a;obtain⟨new,a⟩:=a;exact⟨_,(zB.start h).fin a⟩
  |inr p=>
   rw[d] at a;obtain⟨⟨m1,s1,_,_⟩,_⟩:=p;obtain⟨new,a⟩:=a;dsimp only at a⊢;obtain⟨f,c⟩:=MH k a.inv (by have:=a.num;omega);have g:=a.num;refine⟨new++f,(a.ext.trans c.ext).more om,c.sml,λt b=>?_,by rw[Jr];have:=c.num;omega⟩;rcases mA.1 b with b|b
   .exact a.bN t b
   .exact c.inv t b
theorem akx:∀(k:Nat) {m:Mk} {s:cY} {on:Nat} {aY:ak} {e:Ex},pz m s on aY e->e.n<=k->og k ⟨m,s,on,aY⟩ e=og e.n ⟨m,s,on,aY⟩ e:=by
 have b:∀(k j:Nat) {m:Mk} {s:cY} {on:Nat} {aY:ak} {e:Ex},pz m s on aY e->e.n<=k->e.n<=j->og k ⟨m,s,on,aY⟩ e=og j ⟨m,s,on,aY⟩ e:=by
  intro k;induction k with
  |zero=>intro j _ _ _ _ e _ hk;have:=e.pos;omega
  |succ k d=>
   intro j m s on aY e h hk _;cases j with
   |zero=>have:=e.pos;omega
   |succ j=>
    have a:=Ya h;unfold og;cases c:lD ⟨m,s,on,aY⟩ e with
    |inl _=>rfl
    |inr p=>rw[c] at a;obtain⟨⟨m1,s1,_,_⟩,_⟩:=p;obtain⟨new,a⟩:=a;dsimp only at a⊢;have f:=a.num;exact d j a.inv om om
 exact λk m s on aY e h hk=>b k e.n h hk (lR _)
/-! ### A program -/
def EO (m:Mk) (aM:ak) (regs:List ak):Mk:={m with blocks:=m.blocks++[⟨aM,regs,m.code⟩]}
abbrev sT:ak:=[40,116,41]
def vG (T:Ty):Mk:=
 let on:=dQ<|bD T;let code:=eN [99] [sT,bD T]
 ((((⟨[],[],0,false,[],[sT,code,eN [116] [code,sT],on]⟩:Mk).cX nu [[48]]).cX vj [[49],Cv]).cX nu [[50],[49],[48]]).cX vm [[51],[50],on,sT]
def Jx (e:Ex) (T:Ty):Tk:=⟨Eu,[],0,[],[],e,3,dQ<|bD T,0⟩
def uj (e:Ex) (T:Ty):Mk:=og e.n ⟨vG T,[],3,dQ<|bD T⟩ e
def EP (e:Ex) (T:Ty):Mk:=EO {(EO (uj e T) Eu []) with code:=[[40,104,97,108,116,32,49,41]]} Cv [sT,bD T]
def GZ (m:Mk) (t:Tk):Mk:=EO (og t.expr.n ⟨sk m t,t.sc,t.on,t.aY⟩ t.expr) t.aM t.regs
def iL (a:List Tk) (i:Nat):Tk:=a.getD i ⟨[],[],0,[],[],.at [],0,[],0⟩
def A3:Nat->Mk->Nat->Mk
 |0,m,_=>m
 |k+1,m,i=>if i<m.bN.length then A3 k (GZ m<|iL m.bN i) (i+1) else m
def ofM (e:Ex) (T:Ty):Mk:=A3 1000 (EP e T) 0
structure uk (m:Mk) (i:Nat):Prop where
 le:i<=m.bN.length
 count:m.count=m.bN.length
 num:i+mh (m.bN.drop i)<=120
 inv:∀t,t∈m.bN.drop i->pX t
 uT:∀b∈m.blocks,b.small/\b.aM.length<=10
 bnum:m.blocks.length=i+2
theorem Yb {T:Ty} (f:e.ok) (d:bI e []=some T) (m:e.n<=120):pz (vG T) [] 3 (dQ<|bD T) e:=by
 have b:=nq (Γ:=[]) (λs T h=>by simp[look] at h) d;have i:=rD b;have j:=wY b;have l:(eN [99] [sT,bD T]).length<=300:=by rw[nJ,Da];simp only[lC,List.length_nil];omega
 have g:C9 (dQ<|bD T):=⟨T,b,rfl⟩;refine⟨?_,⟨λs T h=>by simp[fx,look] at h,sm⟩,f,⟨T,d⟩,by simp;omega,by simp[vG,Mk.cX];omega,om,g,by simp[vG,Mk.cX];omega⟩;unfold vG;refine pZ (pZ (pZ (pZ ⟨?_,sm⟩ sm sm ?_) sm sm ?_) sm sm ?_) sm sm ?_
 .intro s c;simp only[mC,List.not_mem_nil,or_false] at c;rcases c with rfl|rfl|rfl|rfl
  .simp
  .omega
  .rw[nJ,Da];simp only[lC,List.length_nil];omega
  .omega
 all_goals
  intro p a;simp only[mC,List.not_mem_nil,or_false] at a
  first
  |(rcases a with rfl|rfl|rfl|rfl<;>first|omega|simp)
  |(rcases a with rfl|rfl|rfl<;>first|omega|simp)
  |(rcases a with rfl|rfl<;>first|omega|simp)
  |(rw[a];simp)
theorem Yc {T:Ty} (a:e.ok) (c:bI e []=some T) (b:e.n<=120):∃new,QQ (vG T) (uj e T) e.n new:=MH _ (Yb a c b)<|lR _
theorem Yd (a:List Tk):a.length<=mh a:=by induction a<;>grind [mh]
theorem aky (m:Mk) (l:ak) (r:List ak):(EO m l r).blocks=m.blocks++[⟨l,r,m.code⟩]:=rfl
theorem QR {T:Ty} (d:e.ok) (l:bI e []=some T) (j:e.n<=120):uk (EP e T) 0:=by
 obtain⟨new,h⟩:=Yc d l j;have f:=h.ext.bN;have g:=h.ext.count;have m:=h.num;have n:=h.ext.code;have i:=h.ext.blocks;have hb:(EP e T).blocks=[⟨Eu,[],(uj e T).code⟩,⟨Cv,[sT,bD T],[[40,104,97,108,116,32,49,41]]⟩]:=by unfold EP;rw[aky];show(uj e T).blocks++_++_=_;rw[i];rfl
 have c:(EP e T).bN=new:=by show(uj e T).bN=new;rw[f];rfl
 refine⟨Nat.zero_le _,?_,?_,?_,?_,by rw[hb];rfl⟩
 .rw[c];show(uj e T).count=_;rw[g];simp[vG,Mk.cX]
 .rw[c,List.drop_zero];omega
 .rw[c,List.drop_zero];exact h.inv
 .intro b a;rw[hb] at a;have o:(vG T).code.length=4:=rfl;simp only[mC,List.not_mem_nil,or_false] at a;rcases a with rfl|rfl
  .exact⟨⟨by simp,sm,by show(uj e T).code.length<_;omega⟩,sm⟩
  .exact⟨⟨by simp,sm,sm⟩,sm⟩
theorem MI {a:List Tk} (b:i<a.length):a.drop i=iL a i::a.drop (i+1):=by simp_all[iL]
theorem uk.task (h:uk m i) (a:i<m.bN.length):pX (iL m.bN i)/\m.count+(iL m.bN i).expr.n<=900/\m.bN.length<=120:=by
 have c:=h.num;have b:=Yd<|m.bN.drop i;rw[List.length_drop] at b;have d:mh (m.bN.drop i)=(iL m.bN i).expr.n+1+mh (m.bN.drop<|i+1):=by rw[MI a];simp[mh]
 have e:=h.count;exact⟨h.inv _ (by rw[MI a];simp),om,om⟩
theorem uk.step (h:uk m i) (f:i<m.bN.length):uk (GZ m<|iL m.bN i) (i+1):=by
 obtain⟨e,r,_⟩:=h.task f;have v:=h.num;have y:mh (m.bN.drop i)=(iL m.bN i).expr.n+1+mh (m.bN.drop<|i+1):=by rw[MI f];simp[mh]
 have hb:=QP (m:=m) e;obtain⟨new,d⟩:=MH _ (X9 e r)<|lR _;have l:=d.ext.bN;have n:=d.ext.count;have p:=d.ext.code;have j:=d.ext.blocks;have u:=d.num;have s:=hb.code;rw[hb.bN] at l;rw[hb.count] at n;rw[hb.blocks] at j;have A:=e.room;have o:(m.bN++new).drop (i+1)=m.bN.drop (i+1)++new:=by rw[List.drop_append_of_le_length f]
 have g:(GZ m<|iL m.bN i).bN=m.bN++new:=l;refine⟨by rw[g,lA];omega,?_,?_,?_,?_,?_⟩
 .rw[g,lA,<-h.count];exact n
 .rw[g,o,Jr];omega
 .intro t a;rw[g,o] at a;rcases mA.1 a with a|a
  .exact h.inv t (by rw[MI f];simp[a])
  .exact d.inv t a
 .intro b q;have c:b∈m.blocks++[⟨(iL m.bN i).aM,(iL m.bN i).regs,(og (iL m.bN i).expr.n ⟨sk m (iL m.bN i),(iL m.bN i).sc,(iL m.bN i).on,(iL m.bN i).aY⟩ (iL m.bN i).expr).code⟩]:=by rw[<-j];exact q
  rcases mA.1 c with c|c
  .exact h.uT b c
  .simp only[List.mem_singleton] at c;rw[c];have z:=e.aM;refine⟨⟨by show(iL m.bN i).aM.length<_;omega,by show(iL m.bN i).regs.length<_;omega,?_⟩,by show(iL m.bN i).aM.length<=_;omega⟩;refine Nat.lt_of_le_of_lt p ?_;have:(if(iL m.bN i).self=[] then 0 else 3)<=3:=by split<;>omega
   omega
 .show((og _ _ _).blocks++[_]).length=_;rw[j,lA,h.bnum];rfl
theorem Ye (h:¬i<m.bN.length):∀k,A3 k m i=m
 |0=>rfl
 |k+1=>by unfold A3;rw[iN h]
theorem Yf (h:i<m.bN.length) (k:Nat):A3 (k+1) m i=A3 k (GZ m<|iL m.bN i) (i+1):=by rw[A3,iP h]
theorem uk.small (h:uk m i):mE m.blocks:=by have b:=h.num;refine⟨by rw[h.bnum];omega,λj a=>(h.uT _ ?_).1⟩;unfold cm;rw[gG,gE a];exact List.getElem_mem a
theorem uk.labels (h:uk m i):∀b∈m.blocks,b.aM.length<=10:=λb hb=>(h.uT b hb).2
theorem Dd (h:ak):(iJ h=true/\im h=false/\h≠ix/\h≠il/\h≠iI/\eS h=(1,3))\/(iJ h=false/\im h=false/\h=ix/\eS h=(1,4))\/
  (iJ h=false/\im h=false/\h=il/\eS h=(2,4))\/(iJ h=false/\im h=false/\h=iI/\eS h=(5,6))\/(iJ h=false/\im h=true/\h≠ix/\h≠il/\h≠iI/\eS h=(1,2))\/
  (iJ h=false/\im h=false/\h≠ix/\h≠il/\h≠iI/\eS h=(0,0)):=by
 by_cases hb:iJ h=true
 .left;have hk:eS h=(1,3):=by unfold eS;rw[iP hb]
  have g:=hb;simp only[iJ,oE,dE] at g;rcases g with(((e|e)|e)|e)|e<;>subst e<;>refine⟨rfl,rfl,by decide,by decide,by decide,hk⟩
 .have d:iJ h=false:=by simpa using hb
  right;by_cases a:h=ix
  .left;exact⟨d,by rw[a];rfl,a,by rw[a];rfl⟩
  .right;by_cases b:h=il
   .left;exact⟨d,by rw[b];rfl,b,by rw[b];rfl⟩
   .right;by_cases c:h=iI
    .left;exact⟨d,by rw[c];rfl,c,by rw[c];rfl⟩
    .right;by_cases f:im h=true
     .left;exact⟨d,f,a,b,c,by unfold eS;rw[iN hb,iN a,iN b,iN c,iP f]⟩
     .right;exact⟨d,by simpa using f,a,b,c,by unfold eS;rw[iN hb,iN a,iN b,iN c,iN f]⟩
theorem MK:eS ix=(1,4)/\eS il=(2,4)/\eS iI=(5,6)/\im ix=false/\im il=false/\im iI=false/\iJ ix=false/\iJ il=false/\iJ iI=false:=by simp_all[eS,im,iJ]
def Hc (a:List aq):Bool:=(decide ((eS (nth a 0).au).1<=1)||eH (nth a 1).au)&&
 (decide ((eS (nth a 0).au).1≠5)||(eH (nth a 2).au&&decide ((nth a 1).au≠(nth a 2).au)&&k8 (nth a 3)&&k8 (nth a 4)))
theorem akz (g:List aq):pj g=(decide ((eS (nth g 0).au).1≠0)&&decide (g.length=(eS (nth g 0).au).2)&&Hc g&&(g.drop (eS (nth g 0).au).1).all dZ):=by
 unfold Hc
 match g with
 |[]=>simp[pj,nth,aq.au,eS,iJ,im]
 |[h]=>rcases Dd h.au with⟨h1,h2,h3,h4,h5,hk⟩|⟨h1,h2,h3,hk⟩|⟨h1,h2,h3,hk⟩|⟨h1,h2,h3,hk⟩|⟨h1,h2,h3,h4,h5,hk⟩|⟨h1,h2,h3,h4,h5,hk⟩<;>simp[pj,nth,hk]
 |[h,a]=>rcases Dd h.au with⟨h1,h2,h3,h4,h5,hk⟩|⟨h1,h2,h3,hk⟩|⟨h1,h2,h3,hk⟩|⟨h1,h2,h3,hk⟩|⟨h1,h2,h3,h4,h5,hk⟩|⟨h1,h2,h3,h4,h5,hk⟩<;>simp[pj,nth,hk,h1,h2,h3,MK]
 |[h,a,b]=>rcases Dd h.au with⟨h1,h2,h3,h4,h5,hk⟩|⟨h1,h2,h3,hk⟩|⟨h1,h2,h3,hk⟩|⟨h1,h2,h3,hk⟩|⟨h1,h2,h3,h4,h5,hk⟩|⟨h1,h2,h3,h4,h5,hk⟩<;>simp[pj,nth,hk,h1,h2,h3,MK]
 |[h,a,b,c]=>rcases Dd h.au with⟨h1,h2,h3,h4,h5,hk⟩|⟨h1,h2,h3,hk⟩|⟨h1,h2,h3,hk⟩|⟨h1,h2,h3,hk⟩|⟨h1,h2,h3,h4,h5,hk⟩|⟨h1,h2,h3,h4,h5,hk⟩<;>simp[pj,nth,hk,h1,h2,h3,MK]<;>try simp[*]
 |[h,a,b,c,d]=>rcases Dd h.au with⟨h1,h2,h3,h4,h5,hk⟩|⟨h1,h2,h3,hk⟩|⟨h1,h2,h3,hk⟩|⟨h1,h2,h3,hk⟩|⟨h1,h2,h3,h4,h5,hk⟩|⟨h1,h2,h3,h4,h5,hk⟩<;>simp[pj,nth,hk]
 |[h,a,b,c,d,e]=>rcases Dd h.au with⟨h1,h2,h3,h4,h5,hk⟩|⟨h1,h2,h3,hk⟩|⟨h1,h2,h3,hk⟩|⟨h1,h2,h3,hk⟩|⟨h1,h2,h3,h4,h5,hk⟩|⟨h1,h2,h3,h4,h5,hk⟩<;>simp[pj,nth,hk,h3,MK]<;>try simp[*,Bool.and_assoc]
 |h::a::b::c::d::e::f::r=>rcases Dd h.au with⟨h1,h2,h3,h4,h5,hk⟩|⟨h1,h2,h3,hk⟩|⟨h1,h2,h3,hk⟩|⟨h1,h2,h3,hk⟩|⟨h1,h2,h3,h4,h5,hk⟩|⟨h1,h2,h3,h4,h5,hk⟩<;>simp[pj,nth,hk]<;>omega
theorem Yg (t:aq):dZ t=if t.au≠[] then r7 t.au else pj t.ag:=by cases t with|mk a ps=>rw[dZ];rfl
theorem akA (a:t.au=[]):dZ t=(decide ((eS (nth t.ag 0).au).1≠0)&&decide (t.ag.length=(eS (nth t.ag 0).au).2)&&Hc t.ag&&(t.ag.drop (eS (nth t.ag 0).au).1).all dZ):=by grind [Yg,akz]
theorem Yh (d:List aq):vi d=(decide (d.length=3)&&(decide ((nth d 0).au=[62])||decide ((nth d 0).au=[42]))&&(qx (nth d 1)&&qx (nth d 2))):=by
 match d with
 |[]=>simp[vi]
 |[h]=>simp[vi]
 |[h,a]=>simp[vi]
 |[h,a,b]=>simp[vi,nth]
 |h::a::b::c::r=>simp[vi]
/-! ### Texts -/
def A4 (s:ak):Bool:=match bT s with
 |some t=>k8 t
 |none=>false
theorem akB {s:ak}:A4 s=true↔∃T:Ty,T.n<=16/\s=T.text:=by grind [A4,bT,Cl,wG,wI,Ty.bT,Good.wf,Ex.wf]
theorem Yi {T:Ty}:A4 T.text=decide (T.n<=16):=by grind [akB,Ty.inj]
def ER (s c:ak):Option (Ty×Ty)->Prop
 |some (a,b)=>∃f,c=k7 f/\s=(Ty.op f a b).text/\(Ty.op f a b).n<=16
 |none=>∀f a b,c=k7 f->s=(Ty.op f a b).text->¬(Ty.op f a b).n<=16
def ML (t:aq):Bool:=dZ t&&decide (gI t<=120)
def oh (s:ak):Bool:=match bT s with
 |some t=>ML t
 |none=>false
theorem akC (a:WF t):ML t=true↔∃e:Ex,t=e.av/\e.ok/\e.n<=120:=by grind [ML,ajc,Ex.gI]
theorem zC {s:ak}:oh s=true↔∃e:Ex,bT s=some e.av/\e.ok/\e.n<=120:=by grind [oh,bT,akC,wG]
theorem Yj {ps:List aq} (i:Nat):kD (ps.take i)<=kD ps:=by
 conv=>rhs;rw[<-List.take_append_drop i ps,Wq]
 omega
theorem akD (t:aq):kD t.ag<=t.size:=by
 cases t with
 |mk a ps=>have:=PT ps;simp only[aq.size,aq.ag];omega
theorem Yk:∀(m:Nat) (t:aq),t.size<=m->t.size<=10000000->WF t->∀(v:Value) (L:List Nat) (w:World),bg L w v t->
  bu Tryz.prog 118 [v] w λr w'=>r= .int .i64 (gI t:Int)/\aj [] w w':=by
 intro m;induction m with
 |zero=>intro t h;have:=sQ t;omega
 |succ m I=>
  intro t _ _ s v L w F;obtain⟨a,n,c,rfl,E,q⟩:=db F;subst E;have O:=oF t;have C:=akD t;have b:=aj.refl [] w;refine cg [.tmp 2] 24 Tryz.func118 rfl afF rfl rfl ?_;refine zr<|eJ rfl λ_ p e _=>?_;have b:=b.ext p;refine W ?_;refine zc rfl (λf=>?_) λf=>?_;have g:gI t=1:=by rw[PS,iP f]
  refine W ?_;exact⟨_,rfl,by rw[g];rfl,b⟩;have g:gI t=kD t.ag:=by rw[PS,iN f]
  refine W ?_;refine et (λk:Nat=>[(1,.pointer<|some ⟨w.heap.size,0,none⟩),(3,.int .i64 ((kD (t.ag.take k):Nat):Int)),(4,.int .i64 (k:Int))]) (λk w'=>aj [] w w'/\aK w' w.heap.size [str t.au,.slice a t.ag.length c].toArray 103/\k<=t.ag.length) (λk=>t.ag.length-k) (0) (⟨rfl,rfl,rfl⟩) (⟨b,e,om⟩) λd J _ B=>?_;obtain⟨b,e,hk⟩:=B;refine W ?_;refine zc rfl (λA=>?_) λA=>?_;have l:=eK (ps:=t.ag) (i:=d) om;obtain⟨_,_,_,_,_,rfl,H,u,y⟩:=iB q l;subst u;have o:=s.nth (i:=d) om;have N:=kZ (t:=t) (i:=d) om;have K:=Wr l;have D:=Yj (ps:=t.ag)<|d+1;refine WL ?_;refine zl jD rfl (e.at rfl)<|zm<|zi cW aP rfl rfl om<|zL fQ aP rfl (H.ext b) rfl<|aA (I (nth t.ag d) om om o _ L J<|(kA y).ext b) ?_;rintro _ _ ⟨rfl,j⟩;have M:=j.size;refine bJ j b e λb e=>?_;refine W ?_;exact⟨d+1,⟨rfl,congrArg (Value.int .i64) om,rfl⟩,⟨b,e,om⟩,om⟩;have z:d=t.ag.length:=by omega
  subst z;refine W ?_;exact⟨_,rfl,by rw[g,List.take_length];rfl,b⟩
theorem akE:∀(m:Nat) (t:aq),t.size<=m->t.size<=10000000->WF t->∀(v:Value) (L:List Nat) (w:World),bg L w v t->
  bu Tryz.prog 189 [v] w λr w'=>r= .bool (qx t)/\aj [] w w':=by
 intro m;induction m with
 |zero=>intro t h;have:=sQ t;omega
 |succ m B=>
  intro t _ _ q v L w Q;obtain⟨a,n,c,rfl,P,e⟩:=db Q;subst P;have d:=aj.refl [] w;have od:=oF t;refine cg [.tmp 2] 41 Tryz.func189 rfl agI rfl rfl ?_;refine zr<|eJ rfl λX I j _=>bJ I d e λd e=>?_;refine W ?_;refine zc rfl (λf=>?_) λf=>?_;have l:qx t=decide (t.au=[105]):=by rw[Ws,iP f]
  refine W ?_;exact⟨_,rfl,by rw[l];rfl,d⟩;have A:t.au=[]:=Classical.not_not.1 f;have T:=q.pos A;have l:qx t=vi t.ag:=by rw[Ws,iN λh=>h A]
  obtain⟨b,_,_,_,_,rfl,_,_,_⟩:=iB e<|eK T;refine WZ ?_;apply oP 15 13 28 rfl oQ;intro y;refine WZ ?_;apply oB 7 20 27 rfl oQ;intro z;refine WZ ?_;exact oQ;intro D;exact oQ;intro D;refine aV<|zc rfl (λg=>?_) λg=>?_;have R:vi t.ag=false:=by rw[Yh];simp only[oE,aE,dE] at g;rcases g with h|⟨f,y⟩;(·rw[dF om];rfl);(·rw[dF f,dF y];simp)
  refine W ?_;exact⟨_,rfl,by rw[l,R];rfl,d⟩;simp only[Bool.or_eq_false_iff,Bool.and_eq_false_iff,decide_eq_false_iff_not,Classical.not_not] at g;obtain⟨_,H⟩:=g;have z:t.ag.length=3:=om;have S:vi t.ag=(qx (nth t.ag 1)&&qx (nth t.ag 2)):=by rw[Yh,dT z];rcases H with h|h<;>rw[h]<;>rfl
  obtain⟨_,_,_,_,_,N,J,V,U⟩:=iB e<|eK (i:=1) om;cases N;subst V;obtain⟨_,_,_,_,_,O,p,E,F⟩:=iB e<|eK (i:=2) om;cases O;subst E;have Z:=kZ (t:=t) (i:=1) om;have M:=kZ (t:=t) (i:=2) om;have K:=kA U;have s:=kA F;refine iF<|zr<|zf kC rfl<|zl jD rfl (j.at rfl)<|zi (i:=1) cW aP rfl rfl om<|zL fQ aP rfl J rfl<|aA (B (nth t.ag 1) om om (q.nth om) _ L X K) ?_;rintro _ C ⟨rfl,u⟩;have M:=u.size;refine gK u d j p s λd j p s=>?_;refine WZ ?_;apply oA 6 34 40 (aj [] C) rfl oQ;intro _;refine zf kC rfl<|zl jD rfl (j.at rfl)<|zi (i:=2) cW aP rfl rfl om<|zL fQ aP rfl p rfl<|aA (B (nth t.ag 2) om om (q.nth om) _ L C s) ?_;rintro _ Y ⟨rfl,o⟩;have eP:=o.size;exact oQ;intro D Y o;have d:=d.ext o;refine W ?_;exact⟨_,rfl,by rw[l,S];rfl,d⟩
theorem Df (t:aq) (l:t.size<=10000000) (i:WF t) (v:Value) (L:List Nat) (w:World) (j:bg L w v t):
  bu Tryz.prog 154 [v] w λr w'=>r= .bool (k8 t)/\aj [] w w':=by
 have d:=j;obtain⟨a,n,c,rfl,_,_⟩:=db j;have b:=aj.refl [] w;refine cg [.tmp 2] 10 Tryz.func154 rfl agd rfl rfl ?_;refine zr<|eJ rfl λp o f _=>bJ o b d λb d=>?_;refine W ?_;refine aA (akE t.size t (lR _) l i _ L p d) ?_;rintro _ m ⟨rfl,g⟩;have s:=g.size;refine cV g b d f λb d f=>?_;refine WZ ?_;apply oA 4 5 9 (aj [] m) rfl oQ;intro _;refine W ?_;refine aA (Yk t.size t (lR _) l i _ L m d) ?_;rintro _ q ⟨rfl,e⟩;have u:=e.size;exact oQ;intro _ q e;have b:=b.ext e;refine W ?_;exact⟨_,rfl,congrArg Value.bool (show _=k8 t from by unfold k8;congr 1;exact decide_eq_decide.2 om),b⟩
theorem akF {s:ak} (h:GA s t):((bT s).isSome&&k8 t)=A4 s:=by
 unfold A4;cases a:bT s with
 |none=>rfl
 |some u=>rw[h.1 u a];rfl
theorem QT (s:ak) (w:World):bu Tryz.prog 195 [str s] w λr w'=>r= .bool (A4 s)/\aj [] w w':=by have a:=aj.refl [] w;refine cg [.tmp 2] 15 Tryz.func195 rfl agO rfl rfl ?_;refine W ?_;refine aA (Mu s [] w sm) ?_;rintro _ _ ⟨n,g⟩;have q:=g.size;have a:=a.ext g;obtain⟨t,_,rfl,b,l⟩:=n;obtain⟨_,_,_,rfl,_,_⟩:=db b;refine W ?_;refine dy aP rfl rfl rfl λ_ i j _=>?_;have a:=a.grow;have a:=a.ext i;have b:=b.grow;have b:=b.ext i;refine cN aP rfl rfl rfl j rfl λm f j _=>?_;have a:=a.aB f sx;have b:=b.aB f sx;refine W ?_;apply oA 3 11 14 (aj [] m) rfl oQ;intro o;obtain⟨u,d⟩:=Option.isSome_iff_exists.1 o;have e:=l.1 u d;subst e;refine W ?_;refine aA (Df t (by have:=B5 d;omega) (wG d) _ _ m b) ?_;rintro _ p ⟨rfl,c⟩;have v:=c.size;exact oQ;intro _ p c;have a:=a.ext c;refine W ?_;exact⟨_,rfl,congrArg Value.bool<|akF l,a⟩
def vH:Option (Ty×Ty)->ak
 |some p=>p.1.text
 |none=>[]
def A5:Option (Ty×Ty)->ak
 |some p=>p.2.text
 |none=>[]
def QU (o:Option (Ty×Ty)):Value:=.tuple #[str<|vH o,str<|A5 o,.bool o.isSome]
theorem akG {s d:ak} (l:GA s t) (h:(((!(bT s).isSome||!k8 t)||decide (t.au≠[]))||decide ((nth t.ag 0).au≠d))=true):ER s d none:=by
 intro f a b g i j;have c:bT s=some (Ty.op f a b).av:=by rw[i];exact Ty.bT om
 have e:=l.1 _ c;subst e;have m:k8 (Ty.op f a b).av=true:=(Cl<|wG c).2 ⟨_,rfl,j⟩;rw[c,m] at h;simp[Ty.av,aq.au,aq.ag,nth,bK,g] at h
theorem akH {s c:ak} (m:GA s t) (h:(((!(bT s).isSome||!k8 t)||decide (t.au≠[]))||decide ((nth t.ag 0).au≠c))=false):∃f A B,t=(Ty.op f A B).av/\(Ty.op f A B).n<=16/\ER s c (some (A,B)):=by
 simp only[Bool.or_eq_false_iff,Bool.not_eq_false',decide_eq_false_iff_not,Classical.not_not] at h;obtain⟨⟨⟨d,g⟩,j⟩,l⟩:=h;obtain⟨u,a⟩:=Option.isSome_iff_exists.1 d;have e:=m.1 u a;subst e;obtain⟨T,rfl,b⟩:=(Cl<|wG a).1 g;cases T with
 |i=>simp[Ty.av,bK,aq.au] at j
 |op f A B=>exact⟨f,A,B,rfl,b,f,by rw[<-l];rfl,(wI a).2.2.1.symm,b⟩
theorem Ym (s E:ak) (w:World):bu Tryz.prog 197 [str s,str E] w λr w'=>(∃o,ER s E o/\r=QU o)/\aj [] w w':=by have a:=aj.refl [] w;refine cg [.tmp 4,.tmp 5,.tmp 6] 45 Tryz.func197 rfl agP rfl rfl ?_;refine W ?_;refine aA (Mu s [] w sm) ?_;rintro _ _ ⟨R,C⟩;have cz:=C.size;have a:=a.ext C;obtain⟨t,_,rfl,c,n⟩:=R;obtain⟨_,_,_,rfl,Q,b⟩:=db c;subst Q;refine W ?_;refine dy aP rfl rfl rfl λ_ q m _=>?_;have a:=a.grow;have a:=a.ext q;have c:=c.grow;have c:=c.ext q;have b:=b.grow;have b:=b.ext q;refine cN aP rfl rfl rfl m rfl λF p m _=>?_;have a:=a.aB p sx;have c:=c.aB p sx;have b:=b.aB p sx;refine W ?_;apply oO 4 16 20 (aj [] F) rfl oQ;intro S;obtain⟨u,d⟩:=Option.isSome_iff_exists.1 S;have e:=n.1 u d;subst e;refine W ?_;refine aA (Df t (by have:=B5 d;omega) (wG d) _ _ F c) ?_;rintro _ _ ⟨rfl,L⟩;have fy:=L.size;exact oQ;intro I H M;refine cV M a b m λa b m=>?_;refine WZ ?_;apply oP 4 21 25 rfl oQ;intro _;refine WZ ?_;exact oQ;intro I;refine WZ ?_;apply oP 8 26 34 rfl oQ;intro D;simp only[Bool.or_eq_false_iff,Bool.not_eq_false',decide_eq_false_iff_not,Classical.not_not] at D;obtain⟨⟨q1,q2⟩,q3⟩:=D;obtain⟨u,d⟩:=Option.isSome_iff_exists.1 q1;have e:=n.1 u d;subst e;have V:=(wG d).pos q3;obtain⟨_,_,_,_,_,N,_,_,_⟩:=iB b<|eK V;subst N;refine WZ ?_;exact oQ;intro I;refine aV<|zc rfl (λz=>?_) λz=>?_;refine W ?_;exact⟨_,rfl,⟨none,akG n z,rfl⟩,a⟩;obtain⟨f,A,B,e,_,T⟩:=akH n z;subst e;have Wv:(Ty.op f A B).n=1+A.n+B.n:=rfl;have hA:=Ty.size A;have hB:=Ty.size B;have QV:=Ty.len A;have QW:=Ty.len B;have oe:(Ty.op f A B).av.ag.length=3:=rfl;obtain⟨_,_,_,_,_,O,_,Z,Y⟩:=iB b<|eK (i:=1) om;subst O;subst Z;obtain⟨_,_,_,_,_,P,_,J,K⟩:=iB b<|eK (i:=2) om;cases P;subst J;have v:bg _ H _ A.av:=kA Y;have y:bg _ H _ B.av:=kA K;refine WZ ?_;apply dV dh 13 [35,36,37,38,39,40,41,42,43,44,4,5,6] [[],[0],[1],[2],[3],[],[5],[6],[7],[8],[4],[9],[]] (it [_,_,_,_,_,_,_,_,_,_,_,_,_]) de rfl;intro _ aC;refine VA ?_;refine vk aC (λx l g=>?_) ?_;refine zi (i:=1) cW aP rfl rfl ((show 1<3 from om)) ?_;exact pv;refine VA ?_;refine vk aC (λx l g=>?_) ?_;have v:=v.ext g;refine aA (wX A.av.size A.av (lR _) A.fG.wf om (show A.text.length<=100000000 from om) _ _ l v) ?_;rintro _ w7 ⟨rfl,j⟩;have U:=j.size;exact pk j;refine VA ?_;refine vk aC (λx l g=>?_) ?_;refine zi (i:=2) cW aP rfl rfl ((show 2<3 from om)) ?_;exact pv;refine VA ?_;refine vk aC (λx l g=>?_) ?_;have y:=y.ext g;refine aA (wX B.av.size B.av (lR _) B.fG.wf om (show B.text.length<=100000000 from om) _ _ l y) ?_;rintro _ w7 ⟨rfl,j⟩;have U:=j.size;exact pk j;exact VZ;intro x _ X;have a:=a.ext X;change OW _ _ _ _ [] (ba (aZ _ x _)<|zZ 35 [_,_,_,_,_,_,_,_,_,_]++[(4,_),(5,_),(6,_)]) _;refine W ?_;exact⟨_,rfl,⟨some (A,B),T,rfl⟩,a⟩
theorem Yn (s:ak) (w:World):bu Tryz.prog 171 [str s] w λr w'=>(∃o,ER s [62] o/\r=QU o)/\aj [] w w':=by have a:=aj.refl [] w;refine cg [.tmp 2,.tmp 3,.tmp 4] 10 Tryz.func171 rfl agu rfl rfl ?_;refine W ?_;refine aA (Ym s [62] w) ?_;rintro _ _ ⟨c,b⟩;have e:=b.size;have a:=a.ext b;obtain⟨o,d,rfl⟩:=c;refine W ?_;exact⟨_,rfl,⟨o,d,rfl⟩,a⟩
theorem Yo (s:ak) (w:World):bu Tryz.prog 170 [str s] w λr w'=>(∃o,ER s [42] o/\r=QU o)/\aj [] w w':=by have a:=aj.refl [] w;refine cg [.tmp 2,.tmp 3,.tmp 4] 10 Tryz.func170 rfl agt rfl rfl ?_;refine W ?_;refine aA (Ym s [42] w) ?_;rintro _ _ ⟨c,b⟩;have e:=b.size;have a:=a.ext b;obtain⟨o,d,rfl⟩:=c;refine W ?_;exact⟨_,rfl,⟨o,d,rfl⟩,a⟩
theorem Yp {T:Ty} (l:T.n<=16) (f:Bool) {o:Option (Ty×Ty)} (h:ER T.text (k7 f) o):o=match T with| .op g a b=>if g=f then some (a,b) else none| .i=>none:=by
 cases o with
 |some p=>
  obtain⟨g,d,j,_⟩:=h;have e:=Ty.inj j;subst e;have:f=g:=by cases f<;>cases g<;>first|rfl|(simp[k7] at d)
  subst this;simp
 |none=>
  cases T with
  |i=>rfl
  |op g a b=>have c:¬g=f:=λe=>h f a b rfl (by rw[e]) (by rw[<-e];exact l);simp[c]
theorem Yq {T:Ty} (h:T.n<=16):A4 T.text=true:=by rw[Yi];exact dT h
theorem Yr (f:Bool) (A B:Ty) (p:A.n<=16) (q:B.n<=16) (w:World):
  bu Tryz.prog 167 [.bool f,str A.text,str B.text] w λr w'=>r= .tuple #[str<|if 1+A.n+B.n<=16 then(Ty.op f A B).text else[],.bool (decide<|1+A.n+B.n<=16)]/\aj [] w w':=by
 have a:=aj.refl [] w;have E:=Ty.len A;have F:=Ty.len B;have H:=PR f;have n:(((((([40]++k7 f)++[32])++A.text)++[32])++B.text)++[41])=(Ty.op f A B).text:=by rw[Ty.LU];simp
 have u:A4 (Ty.op f A B).text=decide (1+A.n+B.n<=16):=Yi;refine cg [.tmp 6,.tmp 7] 34 Tryz.func167 rfl agr rfl rfl ?_;refine W ?_;refine jl (λ_:Unit=>[(0,.bool f),(1,str A.text),(2,str B.text),(8,str<|k7 f)]) (λ_ w'=>w'=w) ?_ ?_;refine zc rfl (λd=>?_) λd=>?_;have g:=d;refine W ?_;exact⟨(),⟨rfl,rfl,rfl,by rw[g];rfl⟩,rfl⟩;have g:=d;refine WZ ?_;exact⟨(),⟨rfl,rfl,rfl,by rw[g];rfl⟩,rfl⟩;intro _ z _ s;subst s;refine W ?_;refine aA (QT A.text z) ?_;rintro _ C ⟨o,m⟩;have I:=m.size;have a:=a.ext m;obtain rfl:=o.trans (congrArg Value.bool<|Yq p);refine kz rfl rfl rfl<|zm<|DY (t:=23) (b:=false) rfl<|zm<|aA (QT B.text C) ?_;rintro _ D ⟨y,j⟩;have J:=j.size;have a:=a.ext j;obtain rfl:=y.trans (congrArg Value.bool<|Yq q);refine kz rfl rfl rfl<|zp rfl<|zm<|DY (t:=28) (b:=false) rfl<|zm<|aA (QT _ D) ?_;rintro _ _ ⟨v,l⟩;have K:=l.size;have a:=a.ext l;obtain rfl:=v.trans (congrArg Value.bool<|(congrArg A4 n).trans u);refine W ?_;refine zc rfl (λe=>?_) λe=>?_;have c:¬1+A.n+B.n<=16:=by simpa using e
 refine W ?_;have i:Value.tuple #[str<|if 1+A.n+B.n<=16 then(Ty.op f A B).text else[],.bool (decide<|1+A.n+B.n<=16)]=Value.tuple #[str [],.bool false]:=by rw[iN c,dF c]
 exact⟨_,rfl,i.symm,a⟩;have c:1+A.n+B.n<=16:=by simpa using e
 refine W ?_;have i:Value.tuple #[str<|if 1+A.n+B.n<=16 then(Ty.op f A B).text else[],.bool (decide<|1+A.n+B.n<=16)]=Value.tuple #[str<|((((([40]++k7 f)++[32])++A.text)++[32])++B.text)++[41],.bool true]:=by rw[iP c,dT c,n]
 exact⟨_,rfl,i.symm,a⟩
theorem Ys (c:UInt8):(decide ((c.toNat:Int)<97)||decide ((122:Int)<(c.toNat:Int)))=!(decide (97<=c)&&decide (c<=122)):=by
 have a:decide (97<=c)=decide ((97:Int)<=c.toNat):=(IH 97 c).symm;have b:decide (c<=122)=decide ((c.toNat:Int)<=122):=decide_eq_decide.2 (by rw[UInt8.le_iff_toNat_le];have:(122:UInt8).toNat=122:=rfl;omega);rw[a,b,Bool.not_and,<-decide_not,<-decide_not]
 congr 1<;>exact decide_eq_decide.2 om
theorem akI {s:ak} (a:1<=k) (hk:k<s.length) (h:ja (s.getD k 0)=false):(s.drop 1).all ja=false:=by rw[List.all_eq_false];refine⟨s.getD k 0,?_,by rw[h];simp⟩;rw[List.mem_iff_getElem?];refine⟨k-1,?_⟩;rw[List.getElem?_drop,show 1+(k-1)=k by omega];exact jU hk
theorem akJ {s:ak} (h:∀k,1<=k->k<s.length->ja (s.getD k 0)=true):(s.drop 1).all ja=true:=by rw[List.all_eq_true];intro c d;obtain⟨i,a⟩:=List.mem_iff_getElem?.1 d;rw[List.getElem?_drop] at a;have b:=(List.getElem?_eq_some_iff.1 a).1;have:=h (1+i) om b;rw[jU b] at a;cases a;exact this
theorem yp (s:ak) (w:World):bu Tryz.prog 152 [str s] w λv w'=>v= .bool (eH s)/\w=w':=by
 have o:eH s=(((decide (1<=s.length)&&decide (s.length<=4))&&(decide (97<=s.getD 0 0)&&decide (s.getD 0 0<=122)))&&(s.drop 1).all ja):=rfl;have p:∀c:UInt8,(decide ((c.toNat:Int)<48)||decide ((57:Int)<(c.toNat:Int)))=!ja c:=by
  intro c;cases d:ja c with
  |true=>have:=(Eb c).1 d;simp;omega
  |false=>rw[Bool.not_false,oE,dE,dE];apply Classical.byContradiction;intro _;have:=(Eb c).2 om;rw[d] at this;cases this
 refine cg [.tmp 2] 34 Tryz.func152 rfl agb rfl rfl ?_;refine W ?_;refine aA (Jf _ _ _ _) ?_;rintro _ _ ⟨rfl,rfl⟩;refine WZ ?_;apply oP 4 8 12 rfl oQ;intro a;have g:1<=s.length/\s.length<=4:=(by simp at a;omega);refine zm<|kY (i:=0) ji rfl rfl rfl rfl (jU om) ?_;exact oQ;intro q;refine WZ ?_;apply oP 4 13 17 rfl oQ;intro l;have g:1<=s.length/\s.length<=4:=(by simp at l;omega);refine zm<|kY (i:=0) ji rfl rfl rfl rfl (jU om) ?_;exact oQ;intro q;refine aV<|zc rfl (λb=>?_) λb=>?_;have m:eH s=false:=(by rw[o];rw[Bool.or_assoc,Ys] at b;simp only[oE,Bool.not_eq_true',Bool.and_eq_false_iff,decide_eq_false_iff_not] at b;simp only[Bool.and_eq_false_iff,decide_eq_false_iff_not];left;rcases b with(h|h)|h;(·left;left;omega);(·left;right;omega);(·right;exact h));refine W ?_;exact⟨_,rfl,by rw[m];rfl,rfl⟩;have g:(1<=s.length/\s.length<=4)/\(decide (97<=s.getD 0 0)&&decide (s.getD 0 0<=122))=true:=(by rw[Bool.or_assoc,Ys] at b;simp only[Bool.or_eq_false_iff,Bool.not_eq_false'] at b;refine⟨?_,b.2⟩;have a:=b.1;simp at a;omega);have m:eH s=(s.drop 1).all ja:=(by rw[o,g.2,dT g.1.1,dT g.1.2];rfl);refine W ?_;refine et (λk:Nat=>[(0,str s),(3,.int .i64 (k:Int))]) (λk w'=>w'=w/\1<=k/\k<=s.length/\∀j,1<=j->j<k->ja (s.getD j 0)=true) (λk=>s.length-k) (1) (⟨rfl,rfl⟩) (⟨rfl,om,om,by intro j a l;omega⟩) λe _ _ u=>?_;obtain⟨rfl,r,hk,n⟩:=u;refine W ?_;refine zc rfl (λt=>?_) λt=>?_;refine W ?_;refine kY ji rfl rfl rfl rfl (jU om)<|WZ ?_;apply oP 5 28 33 rfl oQ;intro _;refine zm<|zm<|kY ji rfl rfl rfl rfl (jU om) ?_;exact oQ;intro q;refine aV<|zc rfl (λf=>?_) λf=>?_;have d:ja (s.getD e 0)=false:=(by rw[p] at f;simpa using f);refine W ?_;exact⟨_,rfl,by rw[m,akI r om d];rfl,rfl⟩;have d:ja (s.getD e 0)=true:=(by rw[p] at f;simpa using f);refine W ?_;exact⟨e+1,⟨rfl,rfl⟩,⟨rfl,om,om,by intro j a l;rcases Nat.lt_or_ge j e with h|h;exact n j a h;rw[show j=e by omega];exact d⟩,om⟩;refine W ?_;exact⟨_,rfl,by rw[m,akJ λj a l=>n j a om];rfl,rfl⟩
def QX (h:ak):Value:=.tuple #[.int .i64 ((eS h).1:Int),.int .i64 ((eS h).2:Int)]
theorem A6 {a:Nat} (e:eS h=(a,b)):QX h= .tuple #[.int .i64 (a:Int),.int .i64 (b:Int)]:=by unfold QX;rw[e]
theorem akK (e:iJ h=true):eS h=(1,3):=by unfold eS;rw[iP e]
theorem akL (e:im h=true):eS h=(1,2):=by unfold im at e;simp only[oE,dE] at e;rcases e with e|e<;>subst e<;>decide
theorem MM (h:ak) (w:World):bu Tryz.prog 153 [str h] w λv w'=>v=QX h/\w=w':=by refine cg [.tmp 2,.tmp 3] 20 Tryz.func153 rfl agc rfl rfl ?_;refine W ?_;refine jl (λ_:Unit=>[(4,str h),(5,.bool<|iJ h)]) (λ_ w'=>w'=w) ?_ ?_;refine zc rfl (λb=>?_) λb=>?_;refine WZ ?_;exact⟨(),⟨rfl,congrArg Value.bool<|show decide (h=[43])=iJ h from by rw[dT b,show iJ h=true from by rw[b];rfl]⟩,rfl⟩;have s:=b;refine W ?_;refine zc rfl (λc=>?_) λc=>?_;refine WZ ?_;exact⟨(),⟨rfl,congrArg Value.bool<|show decide (h=[45])=iJ h from by rw[dT c,show iJ h=true from by rw[c];rfl]⟩,rfl⟩;have t:=c;refine W ?_;refine zc rfl (λd=>?_) λd=>?_;refine WZ ?_;exact⟨(),⟨rfl,congrArg Value.bool<|show decide (h=[42])=iJ h from by rw[dT d,show iJ h=true from by rw[d];rfl]⟩,rfl⟩;have u:=d;refine W ?_;refine zc rfl (λe=>?_) λe=>?_;refine WZ ?_;exact⟨(),⟨rfl,congrArg Value.bool<|show decide (h=lz)=iJ h from by rw[dT e,show iJ h=true from by rw[e];rfl]⟩,rfl⟩;have y:=e;refine W ?_;exact⟨(),⟨rfl,congrArg Value.bool (show decide (h=AD)=iJ h from by unfold iJ;rw[dF s,dF t,dF u,dF y];rfl)⟩,rfl⟩;intro p _ _ n;obtain rfl:=n.symm;refine zc rfl (λi=>?_) λi=>?_;have a:=i;refine W ?_;exact⟨_,rfl,(A6<|akK a).symm,rfl⟩;have o:=i;refine W ?_;refine zc rfl (λj=>?_) λj=>?_;have a:=j;refine W ?_;exact⟨_,rfl,(A6 (by rw[a];rfl)).symm,rfl⟩;have m1:=j;refine W ?_;refine zc rfl (λl=>?_) λl=>?_;have a:=l;refine W ?_;exact⟨_,rfl,(A6 (by rw[a];rfl)).symm,rfl⟩;have m2:=l;refine W ?_;refine zc rfl (λm=>?_) λm=>?_;have a:=m;refine W ?_;exact⟨_,rfl,(A6 (by rw[a];rfl)).symm,rfl⟩;have q:=m;refine W ?_;refine jl (λ_:Unit=>[(4,str h),(17,.bool<|im h)]) (λ_ w'=>w'=w) ?_ ?_;refine zc rfl (λf=>?_) λf=>?_;refine WZ ?_;exact⟨(),⟨rfl,congrArg Value.bool<|show decide (h=Er)=im h from by rw[dT f,show im h=true from by rw[f];rfl]⟩,rfl⟩;have z:=f;refine W ?_;exact⟨(),⟨rfl,congrArg Value.bool (show decide (h=sV)=im h from by unfold im;rw[dF z];rfl)⟩,rfl⟩;intro p _ _ n;obtain rfl:=n.symm;refine zc rfl (λg=>?_) λg=>?_;have a:=g;refine W ?_;exact⟨_,rfl,(A6<|akL a).symm,rfl⟩;have r:=g;refine W ?_;exact⟨_,rfl,(A6 (by unfold eS;rw[iN (by rw[o];simp),iN m1,iN m2,iN q,iN (by rw[r];simp)])).symm,rfl⟩
end Go.Proofs.YtcildnfcpkpomaaGreatDoor
