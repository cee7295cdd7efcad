/- Lemmas for the law FnWants, no statement of their own: no conditions. -/
import Derived.Test.YtcildnfcpkpomaaGreatDoorGd
import Derived.Laws.IdiomStrings
set_option maxHeartbeats 4000000
set_option linter.unusedVariables false
set_option linter.unusedSimpArgs false
namespace Go.Proofs.YtcildnfcpkpomaaGreatDoor
open Go
variable {E b bytes c i k n sz x:Nat} {v z:Value} {g gb:Option Nat} {ps xs:List aj} {s:cV} {w w':World} {gss:List (Option Nat×Option Nat)} {bs:List Bk} {vs:Array Value} {L:List Nat} {a:Option Addr} {rows:List (List C)} {q1 q2 q3 q4 q5 q6:Operand} {a1 a2 a3 a4 a5 a6 h:aj} {t:aq} {ts:List aq} {m m1 m2:Mk} {e:Ex}
/-! ### Operations -/
section
variable {P:Program} {n:Nat} {ops:Array Oper} {K:Env->World->Prop} {rest:List Oper} {e:Env} {w:World}
 {dst:Option Nat} {ty:TypeId} {pos:String} {after:Array Edge} {g:Option (Nat×Bool)} {x y:Operand}
theorem W3 {S D b cap:Nat} {z:Int} {c:UInt8} {U:TypeId} (f:P.underlying S=some (.slice E)) (d:P.underlying E=some (.int .u8)) (a:P.underlying D=some .string) (l:gate ops e g=true) (i:cD n dst=true) 
  (o:ev e x= .slice (some ⟨b,0,none⟩) 1 cap) (hb:aK w b [.int .u8 z].toArray U) (p:z=(c.toNat:Int)) (k:OW P n ops K rest (bX e dst<|str [c]) w):OW P n ops K (⟨dst,.convert S D x,ty,pos,after,g⟩::rest) e w:=by
 have q:=run_convert_bytes_back (P:=P) w S D E ⟨b,0,none⟩ cap [c] f d a (by
  intro j m;have:j=0:=by simpa using m
  subst this;have:=hb.cell 0;simpa[Addr.add,p] using this)
 exact fI l i (v:=str [c]) (w':=w) (by have r:ev e x= .slice (some ⟨b,0,none⟩) ([c]:List UInt8).length cap:=o;simp only[execOp,r,Sem.run_bind,q,Result.andThen_ok,Sem.run_pure]) k
theorem W4 {T TS:Nat} {a:Option Nat} {d:List aj} {s:aj} {o j c:Nat} (B:TI P T 1 bytes z) (m:gate ops e g=true) (t:ev e x= .pointer (some ⟨b,o,none⟩)) (u:ev e y=str s) (p:o=i) 
  (l:cS w TS (.slice (some ⟨b,0,none⟩) j c) a d) (F:i<d.length)
  (k:∀w',ak a.toList w w'->cS w' TS (.slice (some ⟨b,0,none⟩) j c) a (d.set i s)->w'.heap.size=w.heap.size->OW P n ops K rest e w'):OW P n ops K (⟨none,.store T x y,ty,pos,after,g⟩::rest) e w:=by
 subst p;obtain⟨_,h|⟨_,cap,_,D,r,hb,E,C,f,q⟩⟩:=l
 .obtain⟨h,_⟩:=h;cases h
 .cases r;subst D;refine KM B rfl m t u rfl hb (by rw[f];omega) λw' hk A v=>?_;refine k w' (by simpa using hk) ⟨by simp,.inr ⟨b,_,_,rfl,sm,A,by simpa using E,C,by simpa using f,?_⟩⟩ v;rw[Array.toList_setIfInBounds,List.length_set,List.take_set,q,List.map_set]
end
theorem W5 {c:Type}:∀{rows:List (List c)} {i j:Nat} {a:c} {row:List c},(∀row∈rows,row.length=sz)->rows[i]?=some row->j<sz->rows.flatten.set (i*sz+j) a=(rows.set i<|row.set j a).flatten
 |r::rows,0,j,a,row,h,hi,hj=>by simp only[List.getElem?_cons_zero,Option.some.injEq] at hi;subst hi;have b:r.length=sz:=h r sm;rw[List.flatten_cons,Nat.zero_mul,Nat.zero_add,List.set_cons_zero,List.flatten_cons,List.set_append_left _ _ om]
 |r::rows,i+1,j,a,row,h,hi,hj=>by
  have b:r.length=sz:=h r sm;have:=W5 (rows:=rows) (a:=a) (λrow b=>h row<|by simp[b]) (by simpa using hi) hj;rw[List.flatten_cons,List.set_cons_succ,List.flatten_cons,List.set_append_right _ _ (by rw[b,Nat.add_mul];omega),b,<-this]
  congr 2
  rw[Nat.add_mul];omega
theorem jI.set {T:TypeId}:∀{gss:List (Option Nat×Option Nat)} {m:List (List Value)} {bs:List Bk} {i:Nat} {g:Option Nat×Option Nat} {v:List Value} {f:Bk},jI w T gss m bs->gss[i]?=some g->rH w' T g v f->
  (∀(j:Nat) (a:Option Nat×Option Nat) (d:List Value) (c:Bk),j≠i->gss[j]?=some a->rH w T a d c->rH w' T a d c)->jI w' T gss (m.set i v) (bs.set i f)
 |[],[],[],i,g,v,f,_,l,_,_=>by simp at l
 |g0::e,v0::vs,b0::bs,0,g,v,f,h,l,hf,hk=>by
  simp only[List.getElem?_cons_zero,Option.some.injEq] at l;subst l;refine⟨hf,?_⟩;have p:∀{e:List (Option Nat×Option Nat)} {vs:List (List Value)} {bs:List Bk},(∀(j:Nat) (a:Option Nat×Option Nat) (d:List Value) (c:Bk),e[j]?=some a->rH w T a d c->rH w' T a d c)->jI w T e vs bs->jI w' T e vs bs:=by
   intro e;induction e with
   |nil=>intro vs bs _ h;cases vs<;>cases bs<;>first|trivial|exact h.elim
   |cons g e q=>
    intro vs bs hk h;cases vs with
    |nil=>cases bs<;>exact h.elim
    |cons v vs=>
     cases bs with
     |nil=>exact h.elim
     |cons b bs=>exact⟨hk 0 _ _ _ rfl h.1,q (λj a d c n=>hk (j+1) a d c<|by simpa using n) h.2⟩
  exact p (λj a d c n o=>hk (j+1) a d c om (by simpa using n) o) h.2
 |g0::e,v0::vs,b0::bs,i+1,g,v,f,h,l,hf,hk=>
  ⟨hk 0 _ _ _ om rfl h.1,jI.set h.2 (by simpa using l) hf λj a d c n r o=>hk (j+1) a d c om (by simpa using r) o⟩
theorem En {g:Option Nat×Option Nat} (a:gss[i]?=some g) (b:x∈jS g):x∈iB gss:=by grind [iB]
theorem aji:∀{gss:List (Option Nat×Option Nat)} {i j:Nat} {g a:Option Nat×Option Nat} {x:Nat},(iB gss).Nodup->i≠j->gss[i]?=some g->gss[j]?=some a->x∈jS g->x∉jS a:=by intro x;induction x<;>grind [iB,jS]
theorem nN.row {w w':World} {n TS:TypeId} {v:Value} {g:Option Nat} {c:List (Option Nat×Option Nat)} {a:List (List Value)} {bs:List Bk} {i:Nat} {e:Option Nat×Option Nat} {m:List Value} {f:Bk} {L:List Nat} 
  (h:nN w n TS v g c a bs) (l:c[i]?=some e) (r:a[i]?=some m) (hk:ak L w w') (o:∀x∈L,x∈jS e) (u:rH w' TS e m f):nN w' n TS v g c a (bs.set i f):=by
 have p:=(List.nodup_append.1 h.nodup);have s:a.set i m=a:=by
  refine List.ext_getElem sm λj _ t=>?_;rw[List.getElem_set];split
  .rename_i C;subst C;rw[gE t] at r;simpa using r.symm
  .rfl
 have q:=jI.set (w':=w') h.rows l u λj _ _ _ y A z=>z.aG hk λx d B=>aji p.2.1 y A l d<|o x B;rw[s] at q;exact⟨by rw[List.length_set];exact h.own.aG hk λb hb d=>p.2.2 b (by simp[hb]) b (En l<|o b d) rfl,q,h.nodup,λx d=>lL (h.lt x d) hk.size⟩
section
variable {P:Program} {n:Nat} {ops:Array Oper} {K:Env->World->Prop} {rest:List Oper} {e:Env} {w:World}
 {dst:Option Nat} {ty:TypeId} {pos:String} {after:Array Edge} {g:Option (Nat×Bool)} {x y:Operand}
end
theorem W6 (k:Nat):(48:Int)+((k%10:Nat):Int)=((UInt8.ofNat<|48+k%10).toNat:Int):=by simp_all[Nat.mod_eq_of_lt,Nat.reducePow];omega
theorem cS.form {T:TypeId} (h:cS w T (.slice a n c) g xs) (d:0<xs.length):∃b,a=some ⟨b,0,none⟩/\g=some b:=by cases h.2<;>grind
theorem cS.cases {T:TypeId} (h:cS w T v g xs):∃a c,v= .slice a xs.length c:=jD.len h
theorem nN.get {C TS:TypeId} {e:List (List Value)} (h:nN w C TS (.slice a n c) g gss e bs) (E:i<bs.length):
  ∃b d a1 c1 a2 c2,a=some ⟨b,0,none⟩/\g=some b/\b<w.heap.size/\b∉jS d/\gss[i]?=some d/\e[i]?=some [str (cA bs i).aM,.slice a1 (cA bs i).cO.length c1,.slice a2 (cA bs i).code.length c2]/\
   fW w b (0+i*3) [str (cA bs i).aM,.slice a1 (cA bs i).cO.length c1,.slice a2 (cA bs i).code.length c2]/\
   cS w TS (.slice a1 (cA bs i).cO.length c1) d.1 (cA bs i).cO/\cS w TS (.slice a2 (cA bs i).code.length c2) d.2 (cA bs i).code/\(∀x,d.1=some x->d.2=some x->False):=by
 have y:=List.nodup_append.1 h.nodup;obtain⟨_,_,L⟩:=h.rows.lens;obtain⟨d,vs,o,r,_,_,rfl,s,t⟩:=h.rows.get<|qM E;obtain⟨a1,c1,rfl⟩:=cS.cases s;obtain⟨a2,c2,rfl⟩:=cS.cases t;obtain⟨_,B|⟨b,cap,l,K,H,hb,_,_,_,A⟩⟩:=h.own
 .obtain⟨_,B,_⟩:=B;omega
 .cases H;subst K;refine⟨b,d,a1,c1,a2,c2,rfl,rfl,hb.lt,λI=>y.2.2 b sm b (En o I) rfl,o,r,λj v F=>?_,s,t,λx D u=>?_⟩
  .have z:=Dx L r F;have M:i*3+j<e.flatten.length:=(List.getElem?_eq_some_iff.1 z).1;rw[hb.cell,Nat.zero_add];have u:=A;have:(l.toList.take<|bs.length*3)[i*3+j]?=some v:=by rw[A];exact z
   rw[List.getElem?_take] at this;split at this
   .simpa using this
   .cases this
  .have f:(jS d).Nodup:=by
    have:∀{gss:List (Option Nat×Option Nat)} {i:Nat},(iB gss).Nodup->gss[i]?=some d->(jS d).Nodup:=by
     intro gss;induction gss with
     |nil=>intro i _ h;simp at h
     |cons p q J=>
      intro i f m;rw[LX,List.nodup_append] at f;cases i with
      |zero=>simp at m;subst m;exact f.1
      |succ i=>exact J f.2.1<|by simpa using m
    exact this y.2.1 o
   simp[jS,D,u] at f
theorem ajj (w:World):bz Tryz.prog 107 [str [],.int .i64 0,.int .i64 0] w λr w'=>r= .tuple #[.agg #[str [],.slice none 0 0],.int .i64 (-1)]/\ak [] w w':=by have a:=ak.refl [] w;refine lj [.cell 6 103,.tmp 7] 87 Tryz.func107 rfl Lm rfl rfl rfl ?_;refine zr<|du aO rfl rfl rfl λ_ i b _=>?_;have a:=a.grow;have a:=a.ext i;refine zA<|aV<|zr<|jv (IB _) rfl rfl<|du aO rfl rfl rfl λ_ e f _=>?_;have a:=a.grow;have a:=a.ext e;have b:=b.grow;have b:=b.ext e;refine cH aO rfl rfl rfl f rfl λl d f _=>?_;have a:=a.aB d sx;have b:=b.aB d sx;refine aV<|j1<|zr<|zm<|HX rfl rfl rfl rfl rfl<|zm ?_;apply DD 5 15 20 [15,16,17,18,19,20] (λw'=>l=w') rfl;intro c;replace c:=jx c;refine W ?_;exact mg rfl rfl;intro c;replace c:=jx c;refine W ?_;exact mg rfl rfl;rintro _ _ rfl;refine aV<|zc rfl (λg=>?_) λg=>?_;refine W ?_;refine cH aO rfl rfl rfl b rfl λ_ j b _=>?_;have a:=a.aB j sx;refine W ?_;exact⟨[_,_],⟨gA fO aO rfl b rfl,rfl⟩,rfl,a⟩;simp at g
theorem LY (s:aj) (L:List Nat) (w:World) (p:∀x∈L,x<w.heap.size):
  bz Tryz.prog 78 [str s] w λv w'=>(∃t d,v= .tuple #[d,.bool (bS s).isSome]/\bg L w' d t/\Gn s t)/\ak [] w w':=by
 by_cases l:s=[]
 .subst l;have a:=ak.refl [] w;refine lj [.cell 2 103,.tmp 3] 20 Tryz.func78 rfl Vo rfl rfl rfl ?_;refine zr<|du aO rfl rfl rfl λz m b _=>?_;have a:=a.grow;have a:=a.ext m;refine W ?_;refine zc rfl (λc=>?_) λc=>?_;simp at c;refine iA<|zr<|zm<|aA (ajj z) ?_;rintro _ _ ⟨rfl,j⟩;have A:=j.size;refine bK j a b λa b=>?_;refine W ?_;refine du aO rfl rfl rfl λ_ g f _=>?_;have a:=a.grow;have a:=a.ext g;have b:=b.grow;have b:=b.ext g;refine cH aO rfl rfl rfl f rfl λ_ i f _=>?_;have a:=a.aB i sx;have b:=b.aB i sx;refine W ?_;refine cH aO rfl rfl rfl b rfl λ_ n b _=>?_;have a:=a.aB n sx;refine W ?_;exact⟨[_,_],⟨gA fO aO rfl b rfl,rfl⟩,⟨.mk [] [],_,by rw[VV];rfl,jQ lS,λ_ h=>(by rw[VV] at h;cases h),λ_=>rfl⟩,a⟩
 .obtain⟨c,o⟩:=Aq s L w p;exact⟨c,Calls.mono o λe w' ⟨v,q,⟨t,d,y,u,r⟩,hk⟩=>⟨v,q,⟨t,d,y,u,r,λe=>absurd e l⟩,hk⟩⟩
theorem Gr.form {B:Nat} {T:TypeId} (h:Gr B L w T sz (.slice a n c) g rows) (f:0<rows.length):∃b,a=some ⟨b,0,none⟩/\g=some b:=by
 obtain⟨xs,d⟩:=h.own;rcases d.own.2 with⟨_,h0,_⟩|⟨b,_,_,e,hv,_⟩
 .omega
 .cases hv;exact⟨b,rfl,e⟩
theorem Ax (b:List aj) (B:b.length<=1000000000) (s:aj) (v:Value) (L:List Nat) (w:World) (p:bw L w v b):bz Tryz.prog 104 [v,str s] w λr w'=>r= .bool (decide<|s∈b)/\ak [] w w':=by obtain⟨a,n,c,rfl,A⟩:=dU p;subst A;have d:=ak.refl [] w;refine bY [.tmp 4] 18 Tryz.func104 rfl aeI rfl rfl ?_;refine W ?_;refine ey (λk:Nat=>[(0,.slice a b.length c),(1,str s),(5,.int .i64 (k:Int))]) (λk w'=>ak [] w w'/\k<=b.length/\∀i,i<k->bM b i≠s) (λk=>b.length-k) (0) (⟨rfl,rfl,rfl⟩) (⟨d,om,by intro i j;omega⟩) λf _ _ y=>?_;obtain⟨d,hk,m⟩:=y;refine W ?_;refine zc rfl (λu=>?_) λu=>?_;have o:=js (xs:=b) (i:=f) om;obtain⟨_,_,rfl,q⟩:=mr p o;refine WL ?_;refine zl fT rfl (q.ext d 0 _ rfl)<|zm<|Dy rfl rfl rfl rfl<|aV<|zc rfl (λg=>?_) λg=>?_;have l:s∈b:=(by rw[<-g];exact List.mem_of_getElem? o);refine W ?_;exact⟨_,rfl,by rw[dT l];rfl,d⟩;have t:=g;refine W ?_;exact⟨f+1,⟨rfl,rfl,rfl⟩,⟨d,om,by intro i j;rcases Nat.lt_or_ge i f with h|h;exact m i h;rw[show i=f by omega];exact t⟩,om⟩;have l:¬s∈b:=(λz=>by obtain⟨i,j,e⟩:=List.getElem_of_mem z;exact m i om<|by simp[bM,gE j,e]);refine W ?_;exact⟨_,rfl,by rw[dF l];rfl,d⟩
theorem ajk (h:n<10):(48:Int)+(n:Int)=((UInt8.ofNat<|48+n).toNat:Int):=by have:=W6 n;rwa [Nat.mod_eq_of_lt h] at this
def Eo (z:Int) (v:Value) (w:World):Prop:=∃b,v= .slice (some ⟨b,0,none⟩) 1 1/\aK w b [.int .u8 z].toArray 5
theorem Eo.ext {z:Int} (h:Eo z v w) (k:ak [] w w'):Eo z v w':=by obtain⟨b,e,h⟩:=h;exact⟨b,e,h.ext k⟩
theorem GG:∀(m n:Nat),n<=m->(aS n).length<=n+1
 |m,n,h=>by
  rw[aS];by_cases a:n<10
  .rw[iP a];simp
  .rw[iN a];cases m with
   |zero=>omega
   |succ m=>have:=GG m (n/10) om;simp only[lA,List.length_singleton];omega
theorem jn:∀(m n:Nat),n<m->n<=1000000->∀w:World,bz Tryz.prog 111 [.int .i64 (n:Int)] w λr w'=>r=str (aS n)/\ak [] w w':=by
 intro m;induction m with
 |zero=>intro n A;omega
 |succ m B=>
  intro n A _ w;have d:=ak.refl [] w;have F:=GG _ (n/10)<|lR _;refine bY [.tmp 2] 28 Tryz.func111 rfl aeO rfl rfl ?_;refine W ?_;refine zc rfl (λu=>?_) λu=>?_;omega;refine W ?_;refine zc rfl (λy=>?_) λy=>?_;omega;refine W ?_;refine zc rfl (λz=>?_) λz=>?_;refine W ?_;refine zW yD Ag rfl rfl rfl (wrap_u8 _ om om)<|fJ D3 IC rfl rfl λf c C _=>?_;have d:=d.ext c;refine W3 D3 Ag jh rfl rfl rfl C (ajk om)<|zA<|aV<|kP ?_;exact⟨_,rfl,congrArg str<|show[UInt8.ofNat (48+n)]=aS n from by rw[aS,iP om],d⟩;have t:¬n<10:=by omega
  refine WZ ?_;apply qN dk cF 10 (rA 18 10) (rA 18 10) [[],[0],[1],[],[3],[4],[5],[6],[7],[2,8]] [.v _,.v _,.v _,.v _,.v _,.v _,.v _,.p<|fun(v:Value) (g:World)=>Eo ((48:Int)+((n%10:Nat):Int)) v g,.v<|str [UInt8.ofNat (48+n%10)],.v (str<|aS (n/10)++[UInt8.ofNat (48+n%10)])] de (by exact(bU<|bU (bU<|bU (bU<|bU (bU<|qI (λv w w' h k=>Eo.ext h k) (bU<|bU trivial))))));intro _ aC;refine da (λ_ _ _=>WZ<|ck cF) ?_;refine da (λ_ _ _=>Ob (b:=10) rfl rfl rfl rfl rfl om (wrap_i64 _ om om)<|ck cF) ?_;refine jt cF aC (λx f c=>?_) ?_;refine aA (B (n/10) om om f) ?_;rintro _ D ⟨rfl,i⟩;have E:=i.size;exact Iz cF i;refine da (λ_ _ _=>WZ<|ck cF) ?_;refine da (λ_ _ _=>HZ (b:=10) rfl rfl rfl rfl rfl om<|ck cF) ?_;refine da (λ_ _ _=>WZ<|ck cF) ?_;refine da (λ_ _ _=>zW yD Ag rfl rfl rfl (wrap_u8 _ om om)<|ck cF) ?_;refine fE ?_ ?_;intro x vs f e c l a;have d6:vs 6=(.int .u8<|(48:Int)+((n%10:Nat):Int)):=l;replace c:=cF.trans aC c;replace a:e=ba (aZ _ x _) [(24,vs 6)]:=a;rw[d6] at a;subst a;refine fJ D3 IC rfl rfl λD i j _=>W ?_;exact dn (cF.of i) ⟨_,rfl,j⟩;refine fE ?_ ?_;intro x vs f e c l a;have d7:(fun(v:Value) (g:World)=>Eo ((48:Int)+((n%10:Nat):Int)) v g) (vs 7) f:=l;replace c:=cF.trans aC c;replace a:e=ba (aZ _ x _) [(25,vs 7)]:=a;obtain⟨_,s,j⟩:=d7;rw[s] at a;subst a;refine W3 D3 Ag jh rfl rfl rfl j (W6 n)<|aV ?_;exact dn (cF.refl _) rfl;refine da (λ_ _ _=>WZ<|ck cF) ?_;exact trivial;intro x p q;intro o d7;replace d7:(fun(v:Value) (g:World)=>Eo ((48:Int)+((n%10:Nat):Int)) v g) o p:=d7;have d:=d.ext q;change OW _ _ _ _ _ (ba (aZ _ x _)<|zZ 18 [_,_,_,_,_,_,_,o,_,_]) _;refine W ?_;exact⟨_,rfl,congrArg str<|show aS (n/10)++[UInt8.ofNat (48+n%10)]=aS n from by conv=>(rhs;rw[aS,iN t]),d⟩
theorem CG (s:aj) (w:World):bz Tryz.prog 188 [str s] w λr w'=>r= .agg #[str s,.slice none 0 0]/\ak [] w w':=by have a:=ak.refl [] w;refine lj [.cell 2 103] 5 Tryz.func188 rfl afZ rfl rfl rfl ?_;refine zr<|du aO rfl rfl rfl λ_ c b _=>?_;have a:=a.grow;have a:=a.ext c;refine aV<|zr<|zm<|jv (ahq _ _) rfl rfl<|cH aO rfl rfl rfl b rfl λ_ d b _=>?_;have a:=a.aB d sx;refine W ?_;exact⟨[_],gA fO aO rfl b rfl,rfl,a⟩
theorem dZ.sub {L':List Nat} {T:TypeId} (h:dZ L w T sz v g rows) (c:∀x∈L',x∈L\/w.heap.size<=x):dZ L' w T sz v g rows:=by obtain⟨xs,a,b⟩:=h.own;exact⟨⟨xs,a,b.fresh c⟩,h.row⟩
structure KA (L:List Nat) (T:TypeId) (sz:Nat) (g:Option Nat) (rows rows':List (List C)) (w w':World):Prop where
 aG:ak g.toList w w'
 old:∀v,dZ (g.toList++L) w T sz v g rows->dZ (g.toList++L) w' T sz v g rows
 new:∀v g',dZ (g.toList++(g'.toList++L)) w T sz v g' rows'->dZ (g.toList++(g'.toList++L)) w' T sz v g' rows'
theorem dZ.any {T:TypeId} (h:dZ L w T sz v g rows) (k:ak [] w w'):dZ L w' T sz v g rows:=h.aG (Fr.of k sm) k sm
theorem W7 (L:List Nat) (T:TypeId) (c:Nat) (g:Option Nat) (rows a:List (List C)):Kept (KA L T c g rows a):=
 ⟨λ_=>⟨ak.refl _ _,λ_ h=>h,λ_ _ h=>h⟩,λh k=>⟨h.aG.trans k.aG,λv x=>k.old v<|h.old v x,λv b x=>k.new v b<|h.new v b x⟩,
  λh=>⟨h.any,λ_ x=>x.any h,λ_ _ x=>x.any h⟩⟩
section
variable {P:Program} {w:World}
theorem ajl {t ty T:TypeId} {i:TypeInfo} {K bytes:Nat} (U:P.underlying t=some (.slice T)) (S:P.info? T=some i) (hz:i.zero=some z) 
  (Dv:i.size=K) (iu:i.bytes=bytes) (zU:z.cells.size=K) {L:List Nat}
  {v:Value} {g:Option Nat} {rows:List (List C)} {row:List C} (hO:dZ (g.toList++L) w T K v g rows)
  (E c:Nat) (a:List Value) (iR:row.length=K) (Dw:fW w E 0 a) (y:∀u∈a,u.oneCell'=true) (q:dC (g.toList++L) w a row)
  (hb:(rows.length+1)*(bytes+1)<=140737488355328):
  ∃v' H w',(Builtin.append_ #[t,t] ty #[v,.slice (some ⟨E,0,none⟩) 1 c]).run P w= .ok v' w'/\dZ (g.toList++(H.toList++L)) w' T K v' H (rows++[row])/\KA L T K g rows (rows++[row]) w w'/\
   (H=g\/H=some w.heap.size):=by
 subst Dv;subst iu;obtain⟨xs,F,X⟩:=hO.own;have aW:(rows.length+1)*i.bytes+(rows.length+1)<=140737488355328:=by rw[Nat.mul_add,Nat.mul_one] at hb;exact hb
 have BB:rows.length+1<=maxLen:=by unfold maxLen;omega
 have zV:(rows.length+1)*i.bytes<=140737488355328:=by omega
 have I:a.length=1*i.size:=by rw[q.length,iR,Nat.one_mul]
 have KI:rows.length+1<=9223372036854775807:=by simp only[maxLen] at BB;omega
 have f:(xs++a).length=(rows.length+1)*i.size:=by rw[lA,F.1,I,Nat.add_mul]
 have yt:∀b o j:Nat,(⟨b,o,none⟩:Addr).add j=⟨b,o+j,none⟩:=λb o j=>by unfold Addr.add;split<;>simp_all
 have xf:∀j u,a[j]?=some u->w.cell? ((⟨E,0,none⟩:Addr).add j)=some u:=λj u J=>by rw[yt];exact Dw j u J
 have W8:∀r∈rows++[row],r.length=i.size:=λr e=>by
  rcases mA.1 e with e|e
  .exact hO.row r e
  .simp at e;rw[e];exact iR
 have V:(rows++[row]).flatten=rows.flatten++row:=by simp
 have p:∀(old:Nat),old<rows.length+1->
   dZ (g.toList++((some w.heap.size).toList++L)) (w.drew.alloc<|.cells (xs.toArray++a.toArray++Builtin.zeroCells z.cells (grownCap w (rows.length+1) old T-(rows.length+1))) T) T i.size
    (.slice (some ⟨w.heap.size,0,none⟩) (rows.length+1)<|grownCap w (rows.length+1) old T) (some w.heap.size) (rows++[row])/\
   ak [] w (w.drew.alloc<|.cells (xs.toArray++a.toArray++Builtin.zeroCells z.cells (grownCap w (rows.length+1) old T-(rows.length+1))) T):=by
  intro old _;have rC:=grownCap_ge w (rows.length+1) old T;have Y:grownCap w (rows.length+1) old T<=maxLen:=grownCap_le_maxLen w (rows.length+1) old T BB;have hk:ak [] w (w.drew.alloc<|.cells (xs.toArray++a.toArray++Builtin.zeroCells z.cells (grownCap w (rows.length+1) old T-(rows.length+1))) T):=⟨rfl,rfl,rfl,sm,λk hk _=>(ak.alloc [] w.drew _).block k hk sm⟩;refine⟨⟨⟨xs++a,⟨by simpa using f,.inr ⟨w.heap.size,_,_,rfl,?_,heap_alloc_new w.drew _,?_,Y,?_,?_⟩⟩,?_⟩,W8⟩,hk⟩
  .simp
  .simpa using rC
  .simp only[Array.size_append,List.size_toArray,size_zeroCells,zU,F.1,I,<-Nat.add_mul]
   congr 1
   omega
  .simp only[Array.toList_append,List.append_assoc];rw[<-List.append_assoc,lA,List.length_singleton,<-f];exact List.take_left
  .rw[V];refine((X.append q).fresh (L':=g.toList++((some w.heap.size).toList++L)) λx e=>?_).aG hk.any;rcases mA.1 e with e|e
   .exact .inl<|by simp[e]
   .rcases mA.1 e with e|e
    .right;simp at e;omega
    .exact .inl<|by simp[e]
 rcases F.2 with⟨rfl,xK,rfl⟩|⟨b,cap,cur,rfl,rfl,hb,nJ,Y,cC,vJ⟩
 .have e:xs=[]:=List.eq_nil_of_length_eq_zero (by rw[F.1,xK];simp);subst e;have q:=run_append_nil (P:=P) w t ty T i z U S hz ⟨E,0,none⟩ 1 c a I xf om om (by rw[xK] at zV;simp only[Nat.zero_add] at zV;omega);have B:=p 0 om;rw[xK] at B;simp only[Nat.zero_add,List.nil_append,Array.empty_append] at B⊢;exact⟨_,some w.heap.size,_,q,B.1,(W7 L T i.size none rows<|rows++[row]).of B.2,.inr rfl⟩
 .by_cases uy:rows.length+1<=cap
  .have mn:rows.length*i.size+a.length<=cur.size:=by rw[I,cC,<-Nat.add_mul];exact Nat.mul_le_mul_right _ uy
   have ko:=run_append_room (P:=P) w t ty T i U S b rows.length cap cur hb ⟨E,0,none⟩ 1 c a I xf y uy mn;have D:ak [b] w (w.setRow b (cur.toList.take (rows.length*i.size)++a++cur.toList.drop (rows.length*i.size+a.length)).toArray):=⟨rfl,rfl,rfl,sm,λk _ hk=>setRow_other w b k _<|by simpa using hk⟩;have Ma:aK (w.setRow b (cur.toList.take (rows.length*i.size)++a++cur.toList.drop (rows.length*i.size+a.length)).toArray) b (cur.toList.take (rows.length*i.size)++a++cur.toList.drop (rows.length*i.size+a.length)).toArray T:=setRow_heap w b cur _ T _ hb;have fH:(cur.toList.take (rows.length*i.size)++a++cur.toList.drop (rows.length*i.size+a.length)).toArray.size=cap*i.size:=by simp only[List.size_toArray,lA,List.length_take,List.length_drop,Array.length_toList];omega
   have W9:(cur.toList.take (rows.length*i.size)++a++cur.toList.drop (rows.length*i.size+a.length)).take ((rows.length+1)*i.size)=xs++a:=by rw[vJ,<-f];exact List.take_left
   have R:(cur.toList.take (rows.length*i.size)++a++cur.toList.drop (rows.length*i.size+a.length)).take (rows.length*i.size)=xs:=by rw[vJ,<-F.1,List.append_assoc];exact List.take_left
   -- whoever owns block b,owns it with this size
   have l:∀(v:Value) (n:Nat) (m:List Value),jD w T i.size v (some b) n m->∃d,v= .slice (some ⟨b,0,none⟩) n d/\n<=d/\d<=maxLen/\d*i.size=cap*i.size/\m=cur.toList.take (n*i.size):=by
    intro v n m s;rcases s.2 with⟨_,_,h⟩|⟨b',d,cur',e',N,ik,O,Z,Q,pB⟩
    .cases h
    .cases e';have:cur'=cur:=by have M:=ik.symm.trans hb;simpa using M
     subst this;exact⟨d,N,O,Z,by rw[<-Q,cC],pB.symm⟩
   have wr:∀(v:Value) (n:Nat),(∃d,v=Value.slice (some ⟨b,0,none⟩) n d/\n<=d/\d<=maxLen/\d*i.size=cap*i.size)->∀m:List Value,m.length=n*i.size->(cur.toList.take (rows.length*i.size)++a++cur.toList.drop (rows.length*i.size+a.length)).take (n*i.size)=m->
     jD (w.setRow b (cur.toList.take (rows.length*i.size)++a++cur.toList.drop (rows.length*i.size+a.length)).toArray) T i.size v (some b) n m:=by
    rintro v n ⟨d,N,O,Z,Q⟩ m hy fL;exact⟨hy,.inr ⟨b,d,_,rfl,N,Ma,O,Z,by rw[fH,Q],fL⟩⟩
   refine⟨_,some b,_,ko,⟨⟨xs++a,wr _ _ ⟨cap,sm,by simpa using uy,Y,rfl⟩ _ (by simpa using f)<|by simpa using W9,?_⟩,W8⟩,⟨D,λv s=>?_,λv H s=>?_⟩,.inl rfl⟩
   .rw[V];exact((X.append q).fresh λx e=>.inl (by simp only[mA] at e⊢;rcases e with h|h|h;exact .inl h;exact .inl h;exact .inr h)).aG (D.mono λx e=>by simp at e;simp[e])
   .obtain⟨m,y,M⟩:=s.own;obtain⟨d,a1,a2,a3,a4,a5⟩:=l _ _ _ y;refine⟨⟨m,wr _ _ ⟨d,a1,a2,a3,a4⟩ _ y.1 ?_,M.aG (D.mono λx e=>by simp at e;simp[e])⟩,s.row⟩;rw[R,a5,vJ]
   .obtain⟨m,y,M⟩:=s.own;by_cases CH:H=some b
    .subst CH;obtain⟨d,a1,a2,a3,a4,a5⟩:=l _ _ _ y;refine⟨⟨xs++a,wr _ _ ⟨d,a1,a2,a3,a4⟩ _ (by simpa using f)<|by simpa using W9,?_⟩,s.row⟩;rw[V];exact((X.append q).fresh λx e=>.inl (by simp only[mA] at e⊢;rcases e with h|h|h;exact .inl h;exact .inl h;exact .inr h)).aG (D.mono λx e=>by simp at e;simp[e])
    .exact⟨⟨m,y.aG D λx e gm=>CH (by simp at gm;rw[e,gm]),M.aG (D.mono λx e=>by simp at e;simp[e])⟩,s.row⟩
  .have A:∀j u,xs[j]?=some u->w.cell? ((⟨b,0,none⟩:Addr).add j)=some u:=λj u J=>by
    rw[yt,hb.cell];rw[<-vJ,List.getElem?_take] at J;split at J
    .simpa using J
    .cases J
   have q:=run_append_grow (P:=P) w t ty T i z U S hz ⟨b,0,none⟩ rows.length cap xs F.1 A ⟨E,0,none⟩ 1 c a I xf om om<|growslice_fits om zV;have B:=p cap om;exact⟨_,some w.heap.size,_,q,B.1,(W7 L T i.size (some b) rows<|rows++[row]).of B.2,.inr rfl⟩
end
section
variable {P:Program} {n:Nat} {ops:Array Oper} {K:Env->World->Prop} {rest:List Oper} {e:Env} {w:World}
 {dst:Option Nat} {ty:TypeId} {pos:String} {after:Array Edge} {g:Option (Nat×Bool)} {x y:Operand}
theorem Er {L:List Nat} {t:Nat} {v:Value} {f:Option Nat} {rows:List (List C)} {row:List C} {a:List Value} {b c:Nat} (s:P.underlying t=some (.slice E)) (q:TI P E sz bytes z) (D:gate ops e g=true) (B:cD n dst=true) (M:Nat.beq z.cells.size sz=true) (O:Nat.ble bytes 1000=true) 
  (I:ev e x=v) (J:ev e y= .slice (some ⟨b,0,none⟩) 1 c) (r:dZ (f.toList++L) w E sz v f rows) (N:row.length=sz) (A:fW w b 0 a) (p:∀u∈a,u.oneCell'=true)
  (H:dC (f.toList++L) w a row) (U:rows.length<100000000)
  (k:∀j d w',dZ (f.toList++(d.toList++L)) w' E sz j d (rows++[row])->KA L E sz f rows (rows++[row]) w w'->(d=f\/d=some w.heap.size)->OW P n ops K rest (bX e dst j) w'):
  OW P n ops K (⟨dst,.call {callee:=.builtin .append,args:=#[x,y],argTypes:=#[t,t]},ty,pos,after,g⟩::rest) e w:=by
 obtain⟨i,F,l,o,m⟩:=q.get;have T:bytes<=1000:=Nat.le_of_ble_eq_true O;obtain⟨j,d,w',Q,S,hk,R⟩:=ajl (P:=P) (ty:=ty) s F l o m (Nat.eq_of_beq_eq_true M) r b c a N A p H
  (Nat.le_trans (Nat.mul_le_mul (show rows.length+1<=100000000 by omega)<|show bytes+1<=1001 by omega) de)
 exact fI D B (w':=w') (by simp only[execOp,resolve,invoke,builtin,Sem.run_bind,Sem.run_pure,Result.andThen_ok,List.map_toArray,List.map_cons,List.map_nil,I,J,Q])<|k j d w' S hk R
end
/-! ### Behind it -/
theorem P6:∀{vs:List Value} {xs:List aj},dC L w vs (fX xs).flatten->vs=xs.map λx=>str x
 |[],[],_=>rfl
 |v::vs,x::xs,h=>by obtain⟨a,b⟩:=h;cases a;rw[P6 (xs:=xs) b];rfl
theorem dZ.tt {T:TypeId} (h:dZ L w T 1 v g (fX xs)):cS w T v g xs:=by obtain⟨vs,a,b⟩:=h.own;rw[p9,P6 b] at a;exact a
theorem Xa (L:List Nat) (w:World):∀xs:List aj,dC L w (xs.map λx=>str x) (fX xs).flatten
 |[]=>trivial
 |_::xs=>⟨.val _,Xa L w xs⟩
theorem cS.Xb {T:TypeId} (h:cS w T v g xs) (L:List Nat):dZ L w T 1 v g (fX xs):=
 ⟨⟨_,h.aiM,Xa L w xs⟩,λrow a=>by obtain⟨x,_,rfl⟩:=List.mem_map.1 a;rfl⟩
theorem Xc (a:List aj) (x:aj):fX a++[[.val (str x)]]=fX (a++[x]):=by simp[fX]
theorem ajn (a:List Nat) (x:Nat):wb a++[[.val (.int .i64 (x:Int))]]=wb (a++[x]):=by simp[wb]
section
variable {τ:uQ} {E L:List Nat} {w w':World} {b:Nat} {o:Bool} {vb vt vc vy:Value} {gb gt gc gy:Option Nat} {m:Mk}
def rb (E:List Nat) (b:Nat) (a c d:Option Nat):List Nat:=E++b::(a.toList++(c.toList++d.toList))
theorem Ay:x∈rb E b gb gt gy↔x∈E\/x=b\/x∈gb.toList\/x∈gt.toList\/x∈gy.toList:=by simp[rb]
theorem iw.P7 (h:iw τ E L w b o vb vt vc vy gb gt gc gy m):bw (rb E b gb gt gy) w vc m.code:=by
 obtain⟨a1,a2,a3,a4,a5,a6⟩:=h.apart;rcases h.co with⟨_,h1⟩|⟨_,hn,h1⟩
 .refine h1.rep λx d a=>?_;have c:x∈gc.toList:=by simp[d]
  rw[Ay] at a;rcases a with a|a|a|a|a
  .exact(a5 x c).1 a
  .exact(a5 x c).2.1 a
  .exact(a5 x c).2.2.1 a
  .exact(a5 x c).2.2.2 a
  .exact(a6 x a).2.2.2.2 c
 .exact h1.fresh λx d=>.inl<|h.mem.2 (by rw[Ay] at d;rcases d with h|h|h|h|h<;>simp[h])
theorem iw.Xd (h:iw τ E L w b o vb vt vc vy gb gt gc gy m):∀x,x∈rb E b gb gt gy->x∈L:=λx a=>h.mem.2 (by rw[Ay] at a;rcases a with h|h|h|h|h<;>simp[h])
theorem iw.ajo (h:iw τ E L w b o vb vt vc vy gb gt gc gy m) (c:dZ (gb.toList++(g.toList++rb E b gb gt gy)) w' τ.B 3 v g (bs.map Bk.enc)) (k:ak gb.toList w w') (i:g=gb\/∃x,g=some x/\w.heap.size<=x):
  ∃L',iw τ E L' w' b false v vt vc vy g gt none gy {m with blocks:=bs}/\Fr L w L' w':=by
 obtain⟨a1,a2,a3,a4,a5,a6⟩:=h.apart;have q:∀x∈g.toList,x∈gb.toList\/w.heap.size<=x/\x∉gt.toList/\x∉(none:Option Nat).toList/\x∉gy.toList:=λx a=>by
  rcases i with rfl|⟨y,rfl,c⟩
  .exact .inl a
  .have a:x=y:=by simpa using a
   refine .inr ⟨by omega,λj=>?_,sm,λj=>?_⟩<;>have:=h.LK (x:=x) (by simp[j])<;>omega
 obtain⟨f,p⟩:=h.swap k (λx a=>⟨h.mem.2<|by simp[a],(a3 x a).2,(a3 x a).1⟩) (gb':=g) (gt':=gt) (gc':=none) (gy':=gy) q (λx a=>.inl a) (λx a=>by simp at a) λx a=>.inl a;have e:bw (E++b::(g.toList++(gt.toList++((none:Option Nat).toList++gy.toList)))) w' vc m.code:=by
  have l:bw (rb E b gb gt gy) w' vc m.code:=cg.aB h.P7 k λx a=>Ay.2 (by simp[a]);have n:bw (g.toList++rb E b gb gt gy) w' vc m.code:=by
   rcases i with rfl|⟨y,rfl,c⟩
   .exact l.fresh λx a=>.inl (by rcases mA.1 a with h|h;exact Ay.2 (by simp[h]);exact h)
   .exact cg.aB (h.P7.fresh (L':=(some y).toList++rb E b gb gt gy) λx a=>by
     rcases mA.1 a with h|h
     .simp at h;right;omega
     .exact .inl h) k λx a=>mR _ (Ay.2<|by simp[a])
  exact n.fresh λx a=>.inl (by
   rw[Ao] at a;rw[mA,Ay];rcases a with h|h|h|h|h|h
   .simp[h]
   .simp[h]
   .simp[h]
   .simp[h]
   .simp at h
   .simp[h])
 refine⟨_,⟨c.sub λx a=>.inl ?_,h.ta.aG f k λx a c=>(a4 x a).2.2 c,.inr ⟨rfl,rfl,e⟩,h.ty.aG k λx a c=>(a6 x<|by simp[a]).2.2.1 c,rfl,p,?_⟩,f⟩
 .rw[Ao] at a;rw[mA,mA,Ay];rcases a with h|h|h|h|h|h
  .simp[h]
  .simp[h]
  .simp[h]
  .simp[h]
  .simp at h
  .simp[h]
 .intro x a;rw[Ao] at a;have d:=k.size;rcases a with a|a|a|a|a|a
  .exact lL (h.cP x (h.mem.2<|by simp[a])) d
  .exact lL (h.cP x (h.mem.2<|by simp[a])) d
  .exact c.lt x a
  .exact lL (h.cP x (h.mem.2<|by simp[a])) d
  .simp at a
  .exact lL (h.cP x (h.mem.2<|by simp[a])) d
theorem iw.dW (h:iw τ E L w b o vb vt vc vy gb gt gc gy m) {j:List Tk} (c:dZ (gt.toList++(g.toList++L)) w' τ.T 12 v g (j.map Tk.enc)) (k:ak gt.toList w w') (n:g=gt\/∃x,g=some x/\w.heap.size<=x):
  ∃i,iw τ E i w' b o vb v vc vy gb g gc gy {m with bP:=j}/\Fr L w i w':=by
 obtain⟨a1,a2,a3,a4,a5,a6⟩:=h.apart;have p:∀x∈g.toList,x∈gt.toList\/w.heap.size<=x/\x∉gb.toList/\x∉gc.toList/\x∉gy.toList:=λx a=>by
  rcases n with rfl|⟨y,rfl,c⟩
  .exact .inl a
  .have a:x=y:=by simpa using a
   refine .inr ⟨by omega,λf=>?_,λf=>?_,λf=>?_⟩<;>have:=h.LK (x:=x) (by simp[f])<;>omega
 obtain⟨e,l⟩:=h.swap k (λx a=>⟨h.mem.2<|by simp[a],(a4 x a).2.1,(a4 x a).1⟩) (gb':=gb) (gt':=g) (gc':=gc) (gy':=gy) (λx a=>.inl a) p (λx a=>.inl a) λx a=>.inl a;refine⟨_,⟨h.bl.aG e k λx a c=>(a4 x c).2.2 a,c.sub λx a=>.inl ?_,?_,h.ty.aG k λx a c=>(a6 x<|by simp[a]).2.2.2.1 c,rfl,l,?_⟩,e⟩
 .rw[Ao] at a;rw[mA,mA,h.mem];rcases a with h|h|h|h|h|h<;>simp[h]
 .rcases h.co with⟨ho,h1⟩|⟨ho,hn,h1⟩
  .exact .inl ⟨ho,h1.aG k λx a c=>(a5 x<|by simp[a]).2.2.2 c⟩
  .exact .inr ⟨ho,hn,h1.go e⟩
 .intro x a;rw[Ao] at a;have d:=k.size;rcases a with a|a|a|a|a|a
  .exact lL (h.cP x (h.mem.2<|by simp[a])) d
  .exact lL (h.cP x (h.mem.2<|by simp[a])) d
  .exact lL (h.cP x (h.mem.2<|by simp[a])) d
  .exact c.lt x a
  .exact lL (h.cP x (h.mem.2<|by simp[a])) d
  .exact lL (h.cP x (h.mem.2<|by simp[a])) d
theorem iw.num (h:iw τ E L w b o vb vt vc vy gb gt gc gy m) (c:Nat) (q:Bool):iw τ E L w b o vb vt vc vy gb gt gc gy {m with count:=c,wide:=q}:=⟨h.bl,h.ta,h.co,h.ty,h.eL,h.nd,h.cP⟩
end
theorem Fr.in {G c:List Nat} (h:Fr G w c w') (E:List Nat):Fr (E++G) w (E++c) w':=
 ⟨h.aG.mono λx a=>mR _ a,λx a=>by
  rcases mA.1 a with a|a
  .exact .inl<|List.mem_append_left _ a
  .rcases h.mem x a with b|b
   .exact .inl<|mR _ b
   .exact .inr b⟩
structure Az where
 M:TypeId
 S:TypeId
 T:TypeId
structure jA (τ:Az) (E G:List Nat) (w:World) (b:Nat) (vt vn ve:Value) (gn ge:Option Nat) (ai aN:List aj) (exprs:List aq):Prop where
 ta:bw (E++G) w vt ai
 na:cS w τ.S vn gn aN
 ex:dZ (E++G) w τ.T 2 ve ge (dj exprs)
 eG:G=b::(gn.toList++ge.toList)
 nd:(E++G).Nodup
 cP:∀x∈E++G,x<w.heap.size
section
variable {τ:Az} {E G:List Nat} {w w':World} {b:Nat} {vt vn ve:Value} {gn ge:Option Nat} {ai aN:List aj} {exprs:List aq}
theorem jA.mem (h:jA τ E G w b vt vn ve gn ge ai aN exprs):x∈G↔x=b\/x∈gn.toList\/x∈ge.toList:=by rw[h.eG];simp
theorem jA.apart (h:jA τ E G w b vt vn ve gn ge ai aN exprs):E.Nodup/\b∉E/\(∀x∈gn.toList,x∉E/\x≠b)/\(∀x∈ge.toList,x∉E/\x≠b/\x∉gn.toList):=by have g:=h.nd;rw[h.eG,List.nodup_append,List.nodup_cons,List.nodup_append] at g;obtain⟨i,⟨f,_,_,j⟩,c⟩:=g;refine⟨i,λhb=>c b hb b sm rfl,λx a=>⟨λd=>c x d x (by simp[a]) rfl,λe=>f<|by simp[<-e,a]⟩,λx a=>⟨λd=>c x d x (by simp[a]) rfl,λe=>f<|by simp[<-e,a],λl=>j x l x a rfl⟩⟩
theorem Xe {A B:Option Nat} {F:List Nat} {b:Nat} (a:F.Nodup) (c:b∉F) (d:∀x∈A.toList,x∉F/\x≠b) (hb:∀x∈B.toList,x∉F/\x≠b/\x∉A.toList):(F++b::(A.toList++B.toList)).Nodup:=by grind
theorem jA.Xf (h:jA τ E G w b vt vn ve gn ge ai aN exprs) {n:List aj} (d:cS w' τ.S v g n) (k:ak gn.toList w w') (q:g=gn\/g=some w.heap.size):
  ∃m,jA τ E m w' b vt v ve g ge ai n exprs/\Fr G w m w':=by
 obtain⟨a1,a2,a3,a4⟩:=h.apart;have l:∀x∈g.toList,x∈gn.toList\/x=w.heap.size:=λx a=>by
  rcases q with rfl|rfl
  .exact .inl a
  .right;simpa using a
 have f:∀x∈E++G,x≠w.heap.size:=λx a e=>by have:=h.cP x a;omega
 have i:Fr G w (b::(g.toList++ge.toList)) w':=⟨k.mono λx a=>h.mem.2<|by simp[a],λx a=>by
  rcases mC.1 a with rfl|a
  .exact .inl (h.mem.2<|.inl rfl)
  .rcases mA.1 a with a|a
   .rcases l x a with c|c
    .exact .inl (h.mem.2<|by simp[c])
    .right;omega
   .exact .inl (h.mem.2<|by simp[a])⟩
 have o:(E++b::(g.toList++ge.toList)).Nodup:=Xe a1 a2 (λx a=>by
  rcases l x a with c|c
  .exact a3 x c
  .exact⟨λp=>f x (by simp[p]) c,λe=>f x (mR _ (h.mem.2<|.inl e)) c⟩) (λx a=>⟨(a4 x a).1,(a4 x a).2.1,λd=>by
  rcases l x d with c|c
  .exact(a4 x a).2.2 c
  .exact f x (mR _ (h.mem.2<|by simp[a])) c⟩)
 refine⟨_,⟨h.ta.go<|i.in E,d,h.ex.aG (i.in E) k λx a d=>(a4 x a).2.2 d,rfl,o,λx a=>?_⟩,i⟩;have j:=k.size;rcases mA.1 a with a|a
 .exact lL (h.cP x<|by simp[a]) j
 .rcases mC.1 a with rfl|a
  .exact lL (h.cP x<|mR _ (h.mem.2<|.inl rfl)) j
  .rcases mA.1 a with a|a
   .exact d.lt x a
   .exact lL (h.cP x<|mR _ (h.mem.2<|by simp[a])) j
theorem jA.aG (h:jA τ E G w b vt vn ve gn ge ai aN exprs) {H:List Nat} (k:ak H w w') (c:∀x∈H,x=b):jA τ E G w' b vt vn ve gn ge ai aN exprs:=by obtain⟨a1,a2,a3,a4⟩:=h.apart;have e:Fr (E++G) w (E++G) w':=Fr.of k λx a=>mR _<|h.mem.2 (.inl<|c x a);exact⟨h.ta.go e,h.na.aG k λx a d=>(a3 x<|by simp[a]).2<|c x d,h.ex.aG e k λx a d=>(a4 x a).2.1<|c x d,h.eG,h.nd,λx a=>lL (h.cP x a) k.size⟩
theorem P8 {w:World} {T:TypeId} (a:aK w x #[] T):jD w T sz (.slice (some ⟨x,0,none⟩) 0 0) (some x) 0 []:=by grind [aK,jD]
theorem Xg {w:World} {T:TypeId} (a:aK w x #[] T):cS w T (.slice (some ⟨x,0,none⟩) 0 0) (some x) []:=P8 a
theorem P9 {w:World} {T:TypeId} (a:aK w x #[] T):dZ L w T sz (.slice (some ⟨x,0,none⟩) 0 0) (some x) []:=⟨⟨[],P8 a,trivial⟩,sm⟩
theorem jA.opened (h:jA τ E G w b vt vn ve gn ge ai aN exprs) (k:ak [b] w w') {y:Nat} (m:aK w' x #[] τ.S) (f:aK w' y #[] τ.T) (r:w.heap.size<=x) (s:x<y):
  jA τ (gn.toList++(ge.toList++E)) (b::[x,y]) w' b vt (.slice (some ⟨x,0,none⟩) 0 0) (.slice (some ⟨y,0,none⟩) 0 0) (some x) (some y) ai [] []/\
   cS w' τ.S vn gn aN/\dZ (E++G) w' τ.T 2 ve ge (dj exprs)/\Fr G w (b::[x,y]) w':=by
 obtain⟨a1,a2,a3,a4⟩:=h.apart;have g:∀z∈E++G,z<w.heap.size:=h.cP;have n:Fr (E++G) w ((gn.toList++(ge.toList++E))++(b::[x,y])) w':=⟨k.mono λz a=>mR _<|h.mem.2 (.inl<|by simpa using a),λz a=>by
  simp only[mA,mC,List.not_mem_nil,or_false] at a;rcases a with(a|a|a)|a|a|a
  .exact .inl (mR _<|h.mem.2 (.inr<|.inl a))
  .exact .inl (mR _<|h.mem.2 (.inr<|.inr a))
  .exact .inl<|List.mem_append_left _ a
  .exact .inl<|mR _ (h.mem.2<|.inl a)
  .right;omega
  .right;omega⟩
 have o:Fr (E++G) w (E++G) w':=Fr.of k λz a=>mR _<|h.mem.2 (.inl<|by simpa using a);have hb:b<w.heap.size:=g b<|mR _ (h.mem.2<|.inl rfl);have j:∀z∈gn.toList,z<w.heap.size:=λz a=>g z (mR _<|h.mem.2 (.inr<|.inl a));have l:∀z∈ge.toList,z<w.heap.size:=λz a=>g z (mR _<|h.mem.2 (.inr<|.inr a));have i:∀z∈E,z<w.heap.size:=λz a=>g z<|List.mem_append_left _ a;refine⟨⟨h.ta.go n,Xg m,P9 f,rfl,?_,?_⟩,h.na.aG k λz a f=>(a3 z<|by simp[a]).2<|by simpa using f,h.ex.aG o k λz a f=>(a4 z a).2.1<|by simpa using f,⟨k.mono λz a=>h.mem.2 (.inl<|by simpa using a),λz a=>?_⟩⟩
 .rw[List.nodup_append,List.nodup_append,List.nodup_append];refine⟨⟨PL gn,⟨PL ge,a1,λp d q c e=>(a4 p d).1<|e▸c⟩,λp d q c e=>?_⟩,?_,λp d q c e=>?_⟩
  .subst e;rcases mA.1 c with c|c
   .exact(a4 p c).2.2 d
   .exact(a3 p d).1 c
  .simp only[List.nodup_cons,mC,List.not_mem_nil,or_false,not_false_eq_true,List.nodup_nil,and_true];omega
  .subst e;simp only[mC,List.not_mem_nil,or_false] at c;simp only[mA] at d;rcases d with d|d|d
   .rcases c with c|c|c
    .exact(a3 p d).2 c
    .have:=j p d;omega
    .have:=j p d;omega
   .rcases c with c|c|c
    .exact(a4 p d).2.1 c
    .have:=l p d;omega
    .have:=l p d;omega
   .rcases c with c|c|c
    .subst c;exact a2 d
    .have:=i p d;omega
    .have:=i p d;omega
 .intro z a;simp only[mA,mC,List.not_mem_nil,or_false] at a;have t:=k.size;rcases a with(a|a|a)|a|a|a
  .have:=j z a;omega
  .have:=l z a;omega
  .have:=i z a;omega
  .omega
  .rw[a];exact m.lt
  .rw[a];exact f.lt
 .simp only[mC,List.not_mem_nil,or_false] at a;rcases a with a|a|a
  .exact .inl (h.mem.2<|.inl a)
  .right;omega
  .right;omega
theorem jA.closed {d:List Nat} {c m l:Value} {i g:Option Nat} {e:List aj} {f:List aq} {n:World} (h:jA τ E G n b vt vn ve gn ge ai aN exprs) 
  (p:jA τ (gn.toList++(ge.toList++E)) d w b c m l i g ai e f) (t:cS w τ.S vn gn aN) (s:dZ (E++G) w τ.T 2 ve ge (dj exprs)) (hk:Fr G n d w) (k:ak [b] w w'):
  jA τ E G w' b c vn ve gn ge ai aN exprs/\Fr G n G w':=by
 obtain⟨a1,a2,a3,a4⟩:=h.apart;have o:ak G w w':=k.mono λz a=>h.mem.2 (.inl<|by simpa using a);have q:Fr (E++G) w (E++G) w':=Fr.of o λz a=>mR _ a;have u:∀z∈E++G,z∈(gn.toList++(ge.toList++E))++d:=λz a=>by
  rcases mA.1 a with a|a
  .simp[a]
  .rcases h.mem.1 a with a|a|a
   .exact mR _ (p.mem.2<|.inl a)
   .simp[a]
   .simp[a]
 have r:bw (E++G) w c ai:=p.ta.fresh λz a=>.inl<|u z a;refine⟨⟨r.go q,t.aG k λz a j=>(a3 z<|by simp[a]).2<|by simpa using j,s.aG q k λz a j=>(a4 z a).2.1<|by simpa using j,h.eG,h.nd,λz a=>?_⟩,⟨hk.aG.since o λz a=>.inl a,λz a=>.inl a⟩⟩;have:=h.cP z a;have v:=hk.aG.size;have y:=k.size;omega
def m5V (n:Nat) (b a ve:Value):List Value:=[b,.int .i64 (n:Int),a,ve]
def M5 (c:Az) (E G:List Nat) (w:World) (b:Nat) (d:List aj) (n:Nat) (aN:List aj) (a:List aq):Prop:=∃vt vn ve gn ge,aK w b (m5V n vt vn ve).toArray c.M/\jA c E G w b vt vn ve gn ge d aN a
theorem jA.ext (h:jA τ E G w b vt vn ve gn ge ai aN exprs) (k:ak [] w w'):jA τ E G w' b vt vn ve gn ge ai aN exprs:=h.aG k sm
theorem M5.ext (h:M5 τ E G w b ai n aN exprs) (k:ak [] w w'):M5 τ E G w' b ai n aN exprs:=by obtain⟨vt,vn,ve,gn,ge,a,c⟩:=h;exact⟨vt,vn,ve,gn,ge,a.aG k sm,c.ext k⟩
end
structure eC (L:List Nat) (w:World) (b:Nat) (vs:Array Value) (T:TypeId):Prop where
 jc:aK w b vs T
 out:b∉L
theorem eC.lt {T:TypeId} (h:eC L w b vs T):b<w.heap.size:=h.jc.lt
theorem eC.at {a:List Value} {T:TypeId} (h:eC L w b a.toArray T) (c:a[i]?=some v):w.cell? ⟨b,i,none⟩=some v:=h.jc.at c
theorem eC.all {a:List Value} {T:TypeId} (h:eC L w b a.toArray T):fW w b 0 a:=h.jc.all
theorem eC.go {a:List Nat} {T:TypeId} (h:eC L w b vs T) (k:Fr L w a w'):eC a w' b vs T:=
 ⟨h.jc.aG k.aG h.out,λd=>by
  rcases k.mem b d with c|c
  .exact h.out c
  .have:=h.jc.lt;omega⟩
theorem eC.ext {T:TypeId} (h:eC L w b vs T) (k:ak [] w w'):eC L w' b vs T:=⟨h.jc.ext k,h.out⟩
theorem eC.aB {G:List Nat} {T:TypeId} (h:eC L w b vs T) (k:ak G w w') (a:∀x∈G,x∈L):eC L w' b vs T:=h.go<|Fr.of k a
theorem aK.o {T:TypeId} (h:aK w b vs T) (a:∀x∈L,x<b):eC L w b vs T:=⟨h,λc=>by have:=a b c;omega⟩
theorem cS.rs {T:TypeId} (h:cS w T v g xs):bw [] w v xs:=h.rep sm
theorem kv {T:TypeId} (h:cS w T v g xs):∃a c,v= .slice a xs.length c:=jD.len h
section
variable {P:Program} {n:Nat} {ops:Array Oper} {K:Env->World->Prop} {rest:List Oper} {e:Env} {w:World} {dst:Option Nat} {ty:TypeId} {pos:String} {after:Array Edge} {g:Option (Nat×Bool)} {x y:Operand}
theorem Xh {t:Nat} {v:Value} {f:Option Nat} {i:List aj} {s:aj} {b U:Nat} (o:P.underlying t=some (.slice E)) (l:TI P E 1 bytes z) (r:gate ops e g=true) (p:cD n dst=true) (C:Nat.beq z.cells.size 1=true) (D:Nat.ble bytes 1000=true) 
  (A:ev e x=v) (B:ev e y= .slice (some ⟨b,0,none⟩) 1 1) (m:cS w E v f i) (hb:aK w b [str s].toArray U) (u:i.length<100000000)
  (k:∀d a w',cS w' E d a (i++[s])->ak f.toList w w'->Fr f.toList w a.toList w'->OW P n ops K rest (bX e dst d) w'):
  OW P n ops K (⟨dst,.call {callee:=.builtin .append,args:=#[x,y],argTypes:=#[t,t]},ty,pos,after,g⟩::rest) e w:=by
 refine Er (L:=[]) (row:=[.val (str s)]) o l r p C D A B (m.Xb _) rfl hb.all (by simp[Value.oneCell']) ⟨.val _,trivial⟩ (by rw[p9];exact u) ?_;intro d a w' j hk F;rw[Xc] at j;refine k d a w' j.tt hk.aG ⟨hk.aG,λq c=>?_⟩;rcases F with h|h
 .rw[h] at c;exact .inl c
 .rw[h] at c;simp at c;right;omega
theorem l9 {T:Nat} (d:P.underlying T=some (.slice E)) (c:TI P E 1 bytes z) (i:gate ops e g=true) (f:cD n dst=true) (a:ev e q1=str a1) (b:ev e q2=str a2) 
  (k:∀w',ak [] w w'->aK w' w.heap.size [str a1,str a2].toArray E->w'.heap.size=w.heap.size+1->OW P n ops K rest (bX e dst<|.slice (some ⟨w.heap.size,0,none⟩) 2 2) w'):
  OW P n ops K (⟨dst,.buildSlice T 2 #[(0,q1),(1,q2)],ty,pos,after,g⟩::rest) e w:=
 tK [q1,q2] [[str a1],[str a2]] d c i f rfl rfl rfl rfl rfl (by simp[a,b,Value.cells]) rfl k
theorem rf {T:Nat} (f:P.underlying T=some (.slice E)) (d:TI P E 1 bytes z) (j:gate ops e g=true) (i:cD n dst=true) (a:ev e q1=str a1) (b:ev e q2=str a2) (c:ev e q3=str a3) 
  (k:∀w',ak [] w w'->aK w' w.heap.size [str a1,str a2,str a3].toArray E->w'.heap.size=w.heap.size+1->OW P n ops K rest (bX e dst<|.slice (some ⟨w.heap.size,0,none⟩) 3 3) w'):
  OW P n ops K (⟨dst,.buildSlice T 3 #[(0,q1),(1,q2),(2,q3)],ty,pos,after,g⟩::rest) e w:=
 tK [q1,q2,q3] [[str a1],[str a2],[str a3]] f d j i rfl rfl rfl rfl rfl (by simp[a,b,c,Value.cells]) rfl k
theorem AB {T:Nat} (i:P.underlying T=some (.slice E)) (f:TI P E 1 bytes z) (l:gate ops e g=true) (j:cD n dst=true) (a:ev e q1=str a1) (b:ev e q2=str a2) (c:ev e q3=str a3) (d:ev e q4=str a4) 
  (k:∀w',ak [] w w'->aK w' w.heap.size [str a1,str a2,str a3,str a4].toArray E->w'.heap.size=w.heap.size+1->OW P n ops K rest (bX e dst<|.slice (some ⟨w.heap.size,0,none⟩) 4 4) w'):
  OW P n ops K (⟨dst,.buildSlice T 4 #[(0,q1),(1,q2),(2,q3),(3,q4)],ty,pos,after,g⟩::rest) e w:=
 tK [q1,q2,q3,q4] [[str a1],[str a2],[str a3],[str a4]] i f l j rfl rfl rfl rfl rfl (by simp[a,b,c,d,Value.cells]) rfl k
theorem Xi {T:Nat} (j:P.underlying T=some (.slice E)) (i:TI P E 1 bytes z) (m:gate ops e g=true) (l:cD n dst=true) (a:ev e q1=str a1) (b:ev e q2=str a2) (c:ev e q3=str a3) (d:ev e q4=str a4) (f:ev e q5=str a5) 
  (k:∀w',ak [] w w'->aK w' w.heap.size [str a1,str a2,str a3,str a4,str a5].toArray E->w'.heap.size=w.heap.size+1->OW P n ops K rest (bX e dst<|.slice (some ⟨w.heap.size,0,none⟩) 5 5) w'):
  OW P n ops K (⟨dst,.buildSlice T 5 #[(0,q1),(1,q2),(2,q3),(3,q4),(4,q5)],ty,pos,after,g⟩::rest) e w:=
 tK [q1,q2,q3,q4,q5] [[str a1],[str a2],[str a3],[str a4],[str a5]] j i m l rfl rfl rfl rfl rfl (by simp[a,b,c,d,f,Value.cells]) rfl k
theorem ajx {T:Nat} (l:P.underlying T=some (.slice E)) (j:TI P E 1 bytes z) (o:gate ops e g=true) (m:cD n dst=true) (a:ev e q1=str a1) (b:ev e q2=str a2) (c:ev e q3=str a3) (d:ev e q4=str a4) (f:ev e q5=str a5) (i:ev e q6=str a6) 
  (k:∀w',ak [] w w'->aK w' w.heap.size [str a1,str a2,str a3,str a4,str a5,str a6].toArray E->w'.heap.size=w.heap.size+1->OW P n ops K rest (bX e dst<|.slice (some ⟨w.heap.size,0,none⟩) 6 6) w'):
  OW P n ops K (⟨dst,.buildSlice T 6 #[(0,q1),(1,q2),(2,q3),(3,q4),(4,q5),(5,q6)],ty,pos,after,g⟩::rest) e w:=
 tK [q1,q2,q3,q4,q5,q6] [[str a1],[str a2],[str a3],[str a4],[str a5],[str a6]] l j o m rfl rfl rfl rfl rfl (by simp[a,b,c,d,f,i,Value.cells]) rfl k
theorem Xj {T:Nat} {c d:Operand} {a b:aj} (s:P.underlying T=some (.slice E)) (r:TI P E 1 bytes z) (u:gate ops e g=true) (t:cD n dst=true) (f:ev e q1=str a1) (i:ev e q2=str a2) (j:ev e q3=str a3) (l:ev e q4=str a4) (m:ev e q5=str a5) (o:ev e q6=str a6) (p:ev e c=str a) (q:ev e d=str b) 
  (k:∀w',ak [] w w'->aK w' w.heap.size [str a1,str a2,str a3,str a4,str a5,str a6,str a,str b].toArray E->w'.heap.size=w.heap.size+1->OW P n ops K rest (bX e dst<|.slice (some ⟨w.heap.size,0,none⟩) 8 8) w'):
  OW P n ops K (⟨dst,.buildSlice T 8 #[(0,q1),(1,q2),(2,q3),(3,q4),(4,q5),(5,q6),(6,c),(7,d)],ty,pos,after,g⟩::rest) e w:=
 tK [q1,q2,q3,q4,q5,q6,c,d] [[str a1],[str a2],[str a3],[str a4],[str a5],[str a6],[str a],[str b]] s r u t rfl rfl rfl rfl rfl (by simp[f,i,j,l,m,o,p,q,Value.cells]) rfl k
theorem ajy {T:Nat} {i j l b:Operand} {c d f a:aj} (B:P.underlying T=some (.slice E)) (A:TI P E 1 bytes z) (D:gate ops e g=true) (C:cD n dst=true) (o:ev e q1=str a1) (p:ev e q2=str a2) (q:ev e q3=str a3) (r:ev e q4=str a4) (s:ev e q5=str a5) (t:ev e q6=str a6) (u:ev e i=str c) (v:ev e j=str d) (y:ev e l=str f) (m:ev e b=str a) 
  (k:∀w',ak [] w w'->aK w' w.heap.size [str a1,str a2,str a3,str a4,str a5,str a6,str c,str d,str f,str a].toArray E->w'.heap.size=w.heap.size+1->OW P n ops K rest (bX e dst<|.slice (some ⟨w.heap.size,0,none⟩) 10 10) w'):
  OW P n ops K (⟨dst,.buildSlice T 10 #[(0,q1),(1,q2),(2,q3),(3,q4),(4,q5),(5,q6),(6,i),(7,j),(8,l),(9,b)],ty,pos,after,g⟩::rest) e w:=
 tK [q1,q2,q3,q4,q5,q6,i,j,l,b] [[str a1],[str a2],[str a3],[str a4],[str a5],[str a6],[str c],[str d],[str f],[str a]] B A D C rfl rfl rfl rfl rfl (by simp[o,p,q,r,s,t,u,v,y,m,Value.cells]) rfl k
end
theorem bg.eq {u:aq} (h:bg L w v t) (e:t=u):bg L w v u:=e▸h
theorem fP (h:cX L w (.slice a n c) ts) (o:i<ts.length):
  ∃b d e f,a=some ⟨b,d,none⟩/\gB L w b (d+i*2) [str (nth ts i).au,.slice e (nth ts i).ag.length f]/\bg L w (.agg #[str (nth ts i).au,.slice e (nth ts i).ag.length f]) (nth ts i):=by
 obtain⟨b,d,vs,j,hb,g,_,l,r⟩:=zS h (KY<|et o);obtain⟨e,u,f,m,p,q⟩:=cY (t:=nth ts i) ⟨vs,rfl,r⟩;have s:vs=[str (nth ts i).au,.slice e u f]:=by have:=congrArg (λv=>match v with|Value.agg x=>x.toList|_=>[]) m;simpa using this
 subst s p;exact⟨b,d,e,f,j,⟨l,hb,g⟩,kq q⟩
theorem aK.tt {T:Nat} (a:List aj) (h:aK w b (a.map λx=>str x).toArray T) (c:a.length<=100000:=by simp):cS w T (.slice (some ⟨b,0,none⟩) a.length a.length) (some b) a:=
 ⟨by simp,.inr ⟨b,a.length,_,rfl,rfl,h,lR _,Nat.le_trans c de,sm,by rw[Nat.mul_one,List.take_of_length_le sm]⟩⟩
theorem aK.er {T:Nat} (a:List aj) (h:aK w b (a.map λx=>str x).toArray T) (c:b∉L) (d:a.length<=100000:=by simp):bw L w (.slice (some ⟨b,0,none⟩) a.length a.length) a:=
 (h.tt a d).rep λq e=>by cases e;exact c
theorem aK.ma {T:Nat} (h:aK w b #[] T):cS w T (.slice (some ⟨b,0,none⟩) 0 0) (some b) []:=Xg h
theorem uY (h:n<1000):(aS n).length<=3:=by grind [aS]
theorem ni (h:aj) (a:List aj):(eM h a).length=h.length+2+kr a:=by grind [eM,Vi,kr]
theorem ajz {m:Nat}:∀xs:List aj,(∀s∈xs,s.length<=m)->(xs.map List.length).sum<=xs.length*m:=by intro x;induction x<;>grind [lC,Nat.add_mul]
theorem CJ {m:Nat} (a:List aj) (h:∀s∈a,s.length<=m):kr a<=a.length*(m+1):=by have:=ajz a h;unfold kr;rw[Nat.mul_add];omega
structure kX (s:cV):Prop where
 types:Ak (fl s)
 regs:∀p∈s,p.2.1<1000
theorem I4 (h:kX s) (x:aj):lF s x<1000:=by
 unfold lF;cases a:s.reverse.find? λp=>decide (p.1=x) with
 |none=>simp
 |some p=>exact h.regs p (List.mem_reverse.1<|List.mem_of_find?_eq_some a)
theorem Mc (h:kX s) (x:aj):(ln s x).n<=16:=by
 unfold ln;cases a:look (fl s) x with
 |none=>decide
 |some T=>exact h.types x T a
theorem rh {T:Ty} (h:T.n<=16):(bD T).length<=256:=by have:=D8 T;omega
theorem wk {T:Ty} (h:T.n<=16):(dP<|bD T).length<=272:=by have:=rh h;rw[PK];omega
theorem kX.snoc (h:kX s) {x:aj} {r:Nat} {T:Ty} (c:r<1000) (b:T.n<=16):kX (s++[(x,r,T)]):=by
 refine⟨by rw[Gw];exact II h.types b,λp a=>?_⟩;rcases mA.1 a with a|a
 .exact h.regs p a
 .simp only[List.mem_singleton] at a;rw[a];exact c
def CK (s:aj):Prop:=∃T:Ty,T.n<=16/\s=dP (bD T)
/-! ### The type of a package's tuple -/
def nj (s:cV) (aN:List aj) (on:aj):List aj:=aN.map (λx=>bD<|ln s x)++(if on≠[] then[on] else[])
def GI:Option Ty->aj
 |some T=>dP<|bD T
 |none=>[]
def wm (s:cV) (aN:List aj) (on:Option Ty):List aq:=aN.map (λx=>sG<|ln s x)++(match on with|some T=>[B8 (sG T)]|none=>[])
theorem GJ (s:cV) (aN:List aj) (on:Option Ty):nj s aN (GI on)=(wm s aN on).map aq.text:=by
 unfold nj wm;rw[List.map_append,List.map_map]
 congr 1
 cases on with
 |none=>rfl
 |some T=>
  have a:dP (bD T)≠[]:=by simp[dP]
  refine(iP<|show GI (some T)≠[] from a).trans ?_;simp[GI,Wk,bD]
theorem Xk (s:cV) (aN:List aj) (on:aj):(nj s aN on).length<=aN.length+1:=by grind [nj]
theorem Xl (h:kX s) {aN:List aj} {on:aj} (a:on.length<=272):∀t,t∈nj s aN on->t.length<=272:=by grind [nj,rh,Mc]
theorem I5 (h:kX s) {aN:List aj} {on:aj} (e:aN.length<=40) (a:on.length<=272):(eM [116] (nj s aN on)).length<=11200:=by have b:=CJ _<|Xl h (aN:=aN) a;have c:=Xk s aN on;have d:(nj s aN on).length*(272+1)<=41*(272+1):=Nat.mul_le_mul om<|lR _;rw[ni];simp only[lC,List.length_nil];omega
theorem ajA (s:cV) (aN:List aj) (on:Option Ty):aN.length<=(wm s aN on).length:=by simp_all[wm]
theorem ajB (s:cV) (aN:List aj) (on:Option Ty):∀t,t∈wm s aN on->Good t:=λt a=>by
 unfold wm at a;rcases mA.1 a with a|a
 .obtain⟨x,_,rfl⟩:=List.mem_map.1 a;exact Gu _
 .cases on with
  |none=>simp at a
  |some T=>simp only[List.mem_singleton] at a;rw[a];exact Wj<|Gu T
theorem Xm (h:kX s) {aN:List aj} {on:Option Ty} (d:aN.length<=40) (b:∀T,on=some T->T.n<=16):
  bS (eM [116] (nj s aN<|GI on))=some (mu [116] (wm s aN on)):=by
 have c:=Lh (h:=[116]) de de<|ajB s aN on;rw[GJ,<-U3 de];refine OU c ?_ ?_
 .show aq.depth.deeps (bJ [116]::wm s aN on)<=60;refine Lf λp a=>?_;rcases mC.1 a with rfl|a
  .have:(bJ [116]).depth=0:=rfl;omega
  .unfold wm at a;rcases mA.1 a with a|a
   .obtain⟨x,_,rfl⟩:=List.mem_map.1 a;have:=Gv<|ln s x;have:=Mc h x;omega
   .cases on with
    |none=>simp at a
    |some T=>simp only[List.mem_singleton] at a;have:=Gv T;have:=b T rfl;rw[a,Wl];omega
 .rw[U3 de,<-GJ];have:=I5 h (aN:=aN) (on:=GI on) d (by
   cases on with
   |none=>simp[GI]
   |some T=>exact wk<|b T rfl)
  omega
/-! ### The state stays small -/
structure fR (m:Mk):Prop where
 types:∀s∈m.types,s.length<=100000
 code:∀s∈m.code,s.length<=100000
theorem fR.dD (h:fR m) {k:aj} (hk:k.length<=100000):fR (m.dD k):=⟨λs a=>by
 rcases mA.1 a with a|a
 .exact h.types s a
 .simp only[List.mem_singleton] at a;rw[a];exact hk,h.code⟩
theorem fR.cU (h:fR m) {b:aj} (hk:(eM b ps).length<=100000):fR (m.cU b ps):=⟨h.types,λs a=>by
 rcases mA.1 a with a|a
 .exact h.code s a
 .simp only[List.mem_singleton] at a;rw[a];exact hk⟩
structure ajC (m m':Mk) (dt dc:Nat):Prop where
 blocks:m'.blocks=m.blocks
 bP:m'.bP=m.bP
 types:m'.types.length=m.types.length+dt
 code:m'.code.length=m.code.length+dc
theorem Xn (m:Mk) (s:cV) (b:Nat) (aN:List aj) (on aM a:aj) (cO:List aj):ajC m (qh m s b aN on aM a cO).m 4 4:=by refine⟨rfl,rfl,?_,?_⟩<;>simp[qh,Mk.dD,Mk.cU]
theorem Xo (m:Mk) (s:cV) (b:Nat) (aN:List aj) (on aM a:aj) (cO:List aj):(qh m s b aN on aM a cO).w=eM [116] (nj s aN on):=rfl
theorem Xp (r:fR m) (n:kX s) {e:Nat} (u:e<1000) {aN:List aj} (t:aN.length<=40) {on aM i:aj} (v:on.length<=272) (K:aM.length<=10) (hk:i.length<=272) {cO:List aj} (q:cO.length<=2) (o:∀x∈cO,x.length<=272) (F:m.types.length+4<1000):fR (qh m s e aN on aM i cO).m:=by
 have j:=I5 n t v;have f:∀k,k<1000->(aS k).length<=3:=λk hk=>uY hk;have p:=CJ cO o;have l:(eM [99] (eM [116] (nj s aN on)::cO)).length<=12000:=by
  rw[ni];have:kr (eM [116] (nj s aN on)::cO)=1+(eM [116] (nj s aN on)).length+kr cO:=by unfold kr;simp;omega
  have J:cO.length*(272+1)<=2*(272+1):=Nat.mul_le_mul q<|lR _;simp only[lC,List.length_nil];omega
 have regs:∀x,x∈aN.map (λx=>aS<|lF s x)++(if on≠[] then[aS e] else[])->x.length<=3:=λx g=>by
  rcases mA.1 g with g|g
  .obtain⟨y,_,rfl⟩:=List.mem_map.1 g;exact f _<|I4 n y
  .split at g
   .simp only[List.mem_singleton] at g;rw[g];exact f _ u
   .simp at g
 have z:(aN.map (λx=>aS<|lF s x)++(if on≠[] then[aS e] else[])).length<=41:=by rw[lA,List.length_map];split<;>simp<;>omega
 unfold qh;have s2:∀a b:aj,kr [a,b]=2+a.length+b.length:=λa b=>by simp[kr];omega
 have A:∀a b c:aj,kr [a,b,c]=3+a.length+b.length+c.length:=λa b c=>by simp[kr];omega
 have B:∀a b c d:aj,kr [a,b,c,d]=4+a.length+b.length+c.length+d.length:=λa b c d=>by simp[kr];omega
 have L:=f m.types.length om;have E:=f (m.types.length+1) om;have D:=f (m.types.length+2) om;have C:=f (m.types.length+3) om;refine fR.cU (fR.dD (fR.cU (fR.dD (fR.cU (fR.dD (fR.cU (fR.dD r ?_) ?_) ?_) ?_) ?_) ?_) ?_) ?_
 .exact Nat.le_trans j om
 .have H:=CJ _ regs;have I:(aN.map (λx=>aS<|lF s x)++(if on≠[] then[aS e] else[])).length*(3+1)<=41*(3+1):=Nat.mul_le_mul z<|lR _;rw[ni];have:kr (aS m.types.length::(aN.map (λx=>aS<|lF s x)++(if on≠[] then[aS e] else[])))=1+(aS m.types.length).length+kr (aN.map (λx=>aS<|lF s x)++(if on≠[] then[aS e] else[])):=by unfold kr;simp;omega
  rw[this];simp only[lC,List.length_nil];omega
 .exact Nat.le_trans l om
 .rw[ni,s2];simp only[lC,List.length_nil];omega
 .rw[ni,s2];have:=j;unfold nj at this l;simp only[lC,List.length_nil];unfold nj at j;omega
 .rw[ni,A];simp only[lC,List.length_nil];omega
 .omega
 .rw[ni,B];have:=j;unfold nj at this;simp only[lC,List.length_nil];omega
structure Ext (m m':Mk) (k:Nat) (new:List Tk):Prop where
 blocks:m'.blocks=m.blocks
 bP:m'.bP=m.bP++new
 count:m'.count=m.count+new.length
 types:m.types.length<=m'.types.length/\m'.types.length<=m.types.length+k
 code:m'.code.length<=m.code.length+2*k
theorem Ext.refl (m:Mk):Ext m m 0 []:=⟨rfl,sm,rfl,om,om⟩
theorem Ext.trans {j:Nat} {p q:List Tk} (h:Ext m m1 j p) (a:Ext m1 m2 k q):Ext m m2 (j+k) (p++q):=
 ⟨a.blocks.trans h.blocks,by rw[a.bP,h.bP,List.append_assoc],by rw[a.count,h.count,lA];omega,by have:=h.types;have:=a.types;omega,by have:=h.code;have:=a.code;omega⟩
theorem Ext.more {a:Mk} {j:Nat} {p:List Tk} (h:Ext m a j p) (hk:j<=k):Ext m a k p:=⟨h.blocks,h.bP,h.count,by have:=h.types;omega,by have:=h.code;omega⟩
theorem Qc {s:aj} (h:rM s=true):s.length<=4:=by grind [rM,numeral,UM,eE]
theorem pI (h:e.ok):e.au.length<=4:=by cases e<;>grind [Ex.ok,Ex.au,Qc]
theorem CL (a b:aj):kr [a,b]=2+a.length+b.length:=by simp[kr];omega
theorem I6 {m:Mk} {a:aj} (b:fR m) (d:kX s) (e:a.length<=4) (c:m.types.length<1000):Ext m (cI m s a).1 1 []/\fR (cI m s a).1/\(cI m s a).2<1000:=by
 unfold cI;split
 .exact⟨(Ext.refl m).more om,b,I4 d a⟩
 .refine⟨⟨rfl,by simp[Mk.dD,Mk.cU],rfl,by simp[Mk.dD,Mk.cU],by simp[Mk.dD,Mk.cU]⟩,fR.cU (fR.dD b sm) ?_,c⟩;have:=uY c;rw[ni,CL];simp only[lC,List.length_nil];omega
/-! ### Tasks -/
structure pJ (t:Tk):Prop where
 ok:t.expr.ok
 type:∃T,bH t.expr (fl t.sc)=some T
 sc:kX t.sc
 bud:5*t.sc.length+2*t.expr.n<=240
 room:t.regs.length+t.loads+8*t.expr.n<=990
 regs:∀r∈t.regs,r.length<=100000
 loads:t.loads=0\/∃ts:List aq,t.regs.head?=some (eM [116] (ts.map aq.text))/\t.loads<=ts.length/\bS (eM [116] (ts.map aq.text))=some (mu [116] ts)
 self:t.self=[]\/∃a b,t.self=[a,b]/\a.length<=272/\b.length<=11200/\t.regs.length=3/\∀r∈t.regs,r.length<=11200
 aY:CK t.aY
 on:t.on<1000
 aM:t.aM.length<=4
theorem Qd (s:cV) (k:Nat) (aN:List aj):fl (jm s k aN [])=aN.map λx=>(x,ln s x):=by
 unfold jm fl;rw[List.nil_append,List.map_map];have:∀(l:List aj) (j:Nat),(l.zipIdx j).map ((λp:aj×Nat×Ty=>(p.1,p.2.2))∘λp=>(p.1,k+p.2,ln s p.1))=l.map λx=>(x,ln s x):=by
  intro l;induction l with
  |nil=>intro j;rfl
  |cons x l a=>intro j;simp only[List.zipIdx_cons,List.map_cons,Function.comp,a]
 exact this aN 0
theorem Qe:∀{aN:List aj} {x:aj},x∈aN->look (aN.map λx=>(x,ln s x)) x=some (ln s x):=by
 intro aN x h;have b:∀(l:List aj),(∃y∈l,y=x)->(l.map λx=>(x,ln s x)).find? (λp=>decide<|p.1=x)=some (x,ln s x):=by
  intro l;induction l with
  |nil=>rintro⟨_,f,_⟩;simp at f
  |cons y l g=>
   intro d;rw[List.map_cons,List.find?_cons];by_cases e:y=x
   .rw[dT e,e]
   .rw[dF e];obtain⟨z,a,c⟩:=d;rcases mC.1 a with a|a
    .exact absurd (a▸c) e
    .exact g ⟨z,a,c⟩
 unfold look;rw[<-List.map_reverse,b aN.reverse ⟨x,List.mem_reverse.2 h,rfl⟩];rfl
theorem Xr (h:kX s) (k:Nat) (aN:List aj) (j:k+aN.length<1000):kX (jm s k aN []):=by
 refine⟨λx T a=>?_,λp c=>?_⟩
 .rw[Qd] at a;have g:x∈aN:=by
   unfold look at a;cases b:(aN.map λx=>(x,ln s x)).reverse.find? (λp=>decide<|p.1=x) with
   |none=>rw[b] at a;cases a
   |some q=>have d:=List.find?_some b;have e:=List.mem_reverse.1<|List.mem_of_find?_eq_some b;obtain⟨y,i,rfl⟩:=List.mem_map.1 e;rw[<-of_decide_eq_true d];exact i
  rw[Qe g] at a;cases a;exact Mc h x
 .unfold jm at c;rw[List.nil_append] at c;obtain⟨q,f,rfl⟩:=List.mem_map.1 c;have:=List.snd_lt_of_mem_zipIdx f;show k+q.2<1000;omega
theorem AD (s:cV) (k:Nat) (aN:List aj):(jm s k aN []).length=aN.length:=by simp[jm]
theorem Qf {x:aj} (h:(look (fl s) x).isSome=true):look (fl s) x=some (ln s x):=by
 unfold ln;cases a:look (fl s) x with
 |none=>rw[a] at h;cases h
 |some T=>rfl
theorem Qg {bd:List aj} (hb:5*s.length+2*e.n<=240) (i:∀x,Fv x e->x∉bd->(look (fl s) x).isSome=true):(dM e bd []).length<=34/\(dM e bd []).length<=s.length:=by
 have d:=Py e bd [];have f:(dM e bd []).length<=(s.map Prod.fst).length:=PA (aiu e bd [] List.nodup_nil) λx b=>by
  rcases(D7 x e bd []).1 b with h|⟨b,hb⟩
  .simp at h
  .have:=i x b hb;unfold look at this;cases a:(fl s).reverse.find? λp=>decide (p.1=x) with
   |none=>rw[a] at this;cases this
   |some q=>have g:=List.find?_some a;have c:=List.mem_reverse.1<|List.mem_of_find?_eq_some a;unfold fl at c;obtain⟨p,j,rfl⟩:=List.mem_map.1 c;rw[<-of_decide_eq_true g];exact List.mem_map.2 ⟨p,j,rfl⟩
 simp only[List.length_nil,Nat.zero_add,List.length_map] at d f;omega
theorem Xs {b:Nat} {aN:List aj} {on aM a:aj} {cO:List aj}:Ext m (qh m s b aN on aM a cO).m 4 []:=by have h:=Xn m s b aN on aM a cO;exact⟨h.blocks,by rw[h.bP];simp,rfl,by rw[h.types];omega,by rw[h.code];omega⟩
theorem CM {m:Mk} (h:m.count<1000):m.aM.length<=4:=by grind [Mk.aM,uY]
theorem Xt {m:Mk} {f x:aj} {A B:Ty} {T:Ty} (q:kX s) (I:(Ex.fn f x A B e).ok) (a:bH (.fn f x A B e) (fl s)=some T) (hb:5*s.length+2*(Ex.fn f x A B e).n<=240) (M:m.count<1000):pJ (Cd m s f x A B e)/\(dM (.fn f x A B e) [] []).length<=34/\1+A.n+B.n<=16:=by
 obtain⟨O,_,_,i,o,N⟩:=I;have V:∀y,Fv y (.fn f x A B e)->y∉([]:List aj)->(look (fl s) y).isSome=true:=λy j _=>qS a j;obtain⟨K,_⟩:=Qg hb V;have l:1+A.n+B.n<=16/\bH e (fl s++[(f,.op true A B),(x,A)])=some B:=by
  unfold bH at a;split at a
  .rename_i R;cases F:bH e (fl s++[(f,.op true A B),(x,A)]) with
   |none=>rw[F] at a;cases a
   |some C=>
    rw[F,Option.bind_some] at a;split at a
    .rename_i Q;rw[aix.1 Q];exact⟨R,rfl⟩
    .cases a
  .cases a
 have t:(Ty.op true A B).n<=16:=l.1;have Y:(bD<|.op true A B).length<=256:=rh t;have P:(Ex.fn f x A B e).n=3+A.n+B.n+e.n:=rfl;rw[P] at hb;have L:=A.pos;have X:=B.pos;have z:=Xr q 3 (dM (.fn f x A B e) [] []) om;have v:(pE m s f x A B e).w=eM [116] (nj s (dM (.fn f x A B e) [] []) []):=Xo ..;have u:(pE m s f x A B e).w.length<=11200:=by rw[v];exact I5 q om sm
 have J:bH e (fl<|Cc s f x A B e)=some B:=by
  rw[<-l.2];unfold Cc;rw[Gw];refine rO e _ _ λy _ j=>?_;rw[qe,B5];by_cases c:x=y
  .rw[iP c,iP c]
  .rw[iN c,iN c];by_cases b:f=y
   .have g:0<kU f e:=(aiw O e).2<|b▸j;rw[iP b,iP g,Gw,qe,iP b]
   .rw[iN b];have D:Fv y (.fn f x A B e):=⟨λn=>b n.symm,λn=>c n.symm,j⟩;have U:y∈dM (.fn f x A B e) [] []:=(D7 y _ [] []).2<|.inr ⟨D,sm⟩;have E:look (fl<|jm s 3 (dM (.fn f x A B e) [] []) []) y=look (fl s) y:=by
     rw[Qd,Qe U,Qf (qS a D)]
    split
    .rw[Gw,qe,iN b,E]
    .exact E
 have H:kX (Cc s f x A B e):=by
  unfold Cc;split
  .exact(z.snoc om t).snoc om i
  .exact z.snoc om i
 have S:5*(Cc s f x A B e).length+2*e.n<=240:=by
  unfold Cc;rw[lA];split
  .rw[lA,AD];simp only[lC,List.length_nil];omega
  .rw[AD];simp only[lC,List.length_nil];omega
 refine⟨{ok:=N,type:=⟨B,J⟩,sc:=H,bud:=S,room:=?_,regs:=?_,loads:=?_,self:=?_,aY:=⟨B,o,rfl⟩,on:=?_,aM:=CM M},K,l.1⟩
 .show 3+(dM (.fn f x A B e) [] []).length+8*e.n<=990;omega
 .intro r p;have d:r∈[(pE m s f x A B e).w,bD A,dP (bD B)]:=p;simp only[mC,List.not_mem_nil,or_false] at d;rcases d with rfl|rfl|rfl
  .omega
  .have:=rh i;omega
  .have:=wk o;omega
 .refine .inr ⟨wm s (dM (.fn f x A B e) [] []) none,?_,ajA _ _ _,?_⟩
  .show some (pE m s f x A B e).w=_;rw[v,<-GJ];rfl
  .rw[<-GJ];exact Xm q om sm
 .show(if 0<kU f e then[bD<|.op true A B,(pE m s f x A B e).w] else[])=[]\/_;by_cases g:0<kU f e
  .refine .inr ⟨bD<|.op true A B,(pE m s f x A B e).w,iP g,om,u,rfl,λr p=>?_⟩;have d:r∈[(pE m s f x A B e).w,bD A,dP (bD B)]:=p;simp only[mC,List.not_mem_nil,or_false] at d;rcases d with rfl|rfl|rfl
   .exact u
   .have:=rh i;omega
   .have:=wk o;omega
  .exact .inl<|iN g
 .show(2:Nat)<1000;omega
theorem ajD {f x:aj} {A B:Ty} {T:Ty} (d:fR m) (g:kX s) (b:(Ex.fn f x A B e).ok) (v:bH (.fn f x A B e) (fl s)=some T) (hb:5*s.length+2*(Ex.fn f x A B e).n<=240) (o:m.types.length+4<1000) (c:m.count<1000):
  Ext m (Ce m s f x A B e).1 4 [Cd m s f x A B e]/\fR (Ce m s f x A B e).1/\(Ce m s f x A B e).2<1000/\pJ (Cd m s f x A B e):=by
 obtain⟨u,_,l⟩:=Xt (m:=m) g b v hb c;obtain⟨_,_,_,r,t,_⟩:=b;have z:(bD<|.op true A B).length<=256:=rh l;have a:Ext m.mx (pE m s f x A B e).m 4 []:=Xs;have n:fR m.mx:=⟨d.types,d.code⟩;have j:fR (pE m s f x A B e).m:=Xp n g om om sm (by have:=CM c;omega) om sm (λy i=>by
  simp only[mC,List.not_mem_nil,or_false] at i;rcases i with rfl|rfl
  .have:=rh r;omega
  .exact wk t) o
 have p:(pE m s f x A B e).m.bP=m.bP:=by rw[a.bP];simp[Mk.mx]
 have q:(pE m s f x A B e).m.count=m.count+1:=by rw[a.count];simp[Mk.mx]
 refine⟨⟨a.blocks,?_,q,a.types,a.code⟩,⟨j.types,j.code⟩,?_,u⟩
 .show(pE m s f x A B e).m.bP++[Cd m s f x A B e]=m.bP++[Cd m s f x A B e];rw[p]
 .show m.types.length+3<1000;omega
theorem ajE {m:Mk} {ton:Nat} {aY name:aj} {a:Ty} {rest:Ex} {T:Ty} (f:kX s) (C:CK aY) (o:a.n<=16) (q:rest.ok) (j:bH rest (fl s++[(name,a)])=some T) (hb:5*(s.length+1)+2*rest.n<=240) (z:m.count<1000):pJ (LI m s ton aY name a rest)/\(dM rest [name] []).length<=34:=by
 obtain⟨O,d,rfl⟩:=C;have n:∀y,Fv y rest->y∉[name]->(look (fl s) y).isSome=true:=λy c A=>by have:=qS j c;rw[qe,iN λe=>A (by rw[e];simp)] at this;exact this
 obtain⟨u,_⟩:=Qg om n;have p:=Xr f 2 (dM rest [name] []) om;have g:(pF m s ton (dP<|bD O) name a rest).w=eM [116] (nj s (dM rest [name] []) (dP<|bD O)):=Xo ..;have E:(pF m s ton (dP<|bD O) name a rest).w.length<=11200:=by rw[g];exact I5 f om<|wk d
 have t:bH rest (fl<|jm s 2 (dM rest [name] []) []++[(name,1,a)])=some T:=by
  rw[<-j,Gw];refine rO rest _ _ λy _ c=>?_;rw[qe,qe];by_cases b:name=y
  .rw[iP b,iP b]
  .rw[iN b,iN b];have i:y∉[name]:=λh=>b (by simpa using h:y=name).symm;have D:y∈dM rest [name] []:=(D7 y _ [name] []).2<|.inr ⟨c,i⟩;rw[Qd,Qe D,Qf (n y c i)]
 refine⟨{ok:=q,type:=⟨T,t⟩,sc:=p.snoc om o,bud:=?_,room:=?_,regs:=?_,loads:=?_,self:=.inl rfl,aY:=⟨O,d,rfl⟩,on:=?_,aM:=CM z},u⟩
 .show 5*(jm s 2 (dM rest [name] []) []++[(name,1,a)]).length+2*rest.n<=240;rw[lA,AD];simp only[lC,List.length_nil];omega
 .show 2+((dM rest [name] []).length+1)+8*rest.n<=990;omega
 .intro r B;have l:r∈[(pF m s ton (dP (bD O)) name a rest).w,bD a]:=B;simp only[mC,List.not_mem_nil,or_false] at l;rcases l with rfl|rfl
  .omega
  .have:=rh o;omega
 .refine .inr ⟨wm s (dM rest [name] [])<|some O,?_,?_,?_⟩
  .show some (pF m s ton (dP<|bD O) name a rest).w=_;rw[g,<-GJ];rfl
  .show(dM rest [name] []).length+1<=_;unfold wm;rw[lA,List.length_map];simp
  .rw[<-GJ];exact Xm f om λT v=>by cases v;exact d
 .show 2+(dM rest [name] []).length<1000;omega
theorem ajF {ton:Nat} {aY name:aj} {a:Ty} {rest:Ex} {T:Ty} (e:fR m) (f:kX s) (v:ton<1000) (i:CK aY) (c:a.n<=16) (n:rest.ok) (u:bH rest (fl s++[(name,a)])=some T) (hb:5*(s.length+1)+2*rest.n<=240) (o:m.types.length+4<1000) (d:m.count<1000):
  Ext m (vZ m s ton aY name a rest).1 4 [LI m s ton aY name a rest]/\fR (vZ m s ton aY name a rest).1/\(vZ m s ton aY name a rest).2.1<1000/\CK (vZ m s ton aY name a rest).2.2/\pJ (LI m s ton aY name a rest):=by
 obtain⟨t,_⟩:=ajE (m:=m) (ton:=ton) f i c n u hb d;obtain⟨O,r,rfl⟩:=i;have b:Ext m.mx (pF m s ton (dP<|bD O) name a rest).m 4 []:=Xs;have l:fR m.mx:=⟨e.types,e.code⟩;have j:fR (pF m s ton (dP<|bD O) name a rest).m:=Xp l f v om (wk r) (by have:=CM d;omega) (wk c) sm (λy g=>by simp only[List.mem_singleton] at g;rw[g];have:=rh c;omega) o;have p:(pF m s ton (dP<|bD O) name a rest).m.bP=m.bP:=by rw[b.bP];simp[Mk.mx]
 have q:(pF m s ton (dP<|bD O) name a rest).m.count=m.count+1:=by rw[b.count];simp[Mk.mx]
 refine⟨⟨b.blocks,?_,q,b.types,b.code⟩,⟨j.types,j.code⟩,?_,⟨a,c,rfl⟩,t⟩
 .show(pF m s ton (dP<|bD O) name a rest).m.bP++[_]=m.bP++[_];rw[p]
 .show m.types.length+3<1000;omega
theorem I8 (m:Mk) (k:aj):Ext m (m.dD k) 1 []:=⟨rfl,by simp[Mk.dD],rfl,by simp[Mk.dD],by simp[Mk.dD]⟩
theorem wo (m:Mk) (h:aj) (a:List aj):Ext m (m.cU h a) 1 []:=⟨rfl,by simp[Mk.cU],rfl,by simp[Mk.cU],by simp[Mk.cU]⟩
theorem AF (m:Mk) (k:aj):(m.dD k).types.length=m.types.length+1:=by simp[Mk.dD]
theorem pL (m:Mk) (h:aj) (a:List aj):(m.cU h a).types=m.types:=rfl
theorem pg {n:Nat} (h:n<1000):(aS n).length<=3:=uY h
theorem pM {m:Mk} (h:fR m) {hd:aj} (e:hd.length<=5) (a:ps.length<=4) (b:∀p∈ps,p.length<=300):fR (m.cU hd ps):=h.cU (by have c:=CJ (m:=300) ps b;have d:ps.length*301<=4*301:=Nat.mul_le_mul a<|lR _;rw[ni];omega)
theorem GK {s:aj} (h:eE s=true):s.length<=4:=by grind [eE]
def lY (a:List Tk):Nat:=(a.map λt=>t.expr.n+1).sum
theorem I9 (a b:List Tk):lY (a++b)=lY a+lY b:=by grind [lY]
theorem Qh (t:Tk):lY [t]=t.expr.n+1:=by simp[lY]
theorem Ja:lY []=0:=rfl
theorem Xw {a b:aj} (g:fR m) (e:kX s) (f:a.length<=4) (hb:b.length<=4) (i:m.types.length+1<1000):
  (Ext m (cI m s a).1 1 []/\fR (cI m s a).1/\(cI m s a).2<1000)/\Ext m (cI (cI m s a).1 s b).1 2 []/\fR (cI (cI m s a).1 s b).1/\(cI (cI m s a).1 s b).2<1000:=by
 have c:=I6 g e f om;have d:=I6 (m:=(cI m s a).1) (a:=b) c.2.1 e hb (by have:=c.1.types;omega);exact⟨c,c.1.trans d.1,d.2⟩
structure Xx (m m':Mk) (r:Nat) (n:Nat) (new:List Tk):Prop where
 ext:Ext m m' 4 new
 sml:fR m'
 dD:r<1000
 inv:∀k∈new,pJ k
 num:lY new+1<=n
theorem Qi {T:Ty} (r:fR m) (q:kX s) (d:e.ok) (u:bH e (fl s)=some T) (hb:5*s.length+2*e.n<=240) (g:m.types.length+8*e.n<=1000) (E:m.count<1000):
  ∃new,Xx m (oD m s T e).1 (oD m s T e).2 e.n new:=by
 have C:=mQ q.types u;have hk:=rh C;have two:∀(h a b:aj),a.length<=4->b.length<=4->h.length<=5->m.types.length+8<=1000->∀n,1<=n->
   Xx m (((cI (cI m s a).1 s b).1.dD<|bD T).cU h [aS (cI (cI m s a).1 s b).1.types.length,aS (cI m s a).2,aS (cI (cI m s a).1 s b).2]) (cI (cI m s a).1 s b).1.types.length n []:=by
  intro h a b D hb F _ n _;obtain⟨⟨_,_,H⟩,t,s2,I⟩:=Xw r q D hb om;have y:=t.types;refine⟨(t.trans ((I8 _ _).trans<|wo _ _ _)),pM (s2.dD om) F sm ?_,om,sm,by simp[Ja];omega⟩;intro p o;simp only[mC,List.not_mem_nil,or_false] at o;rcases o with rfl|rfl|rfl
  .have:=pg (n:=(cI (cI m s a).1 s b).1.types.length) om;omega
  .have:=pg H;omega
  .have:=pg I;omega
 cases e with
 |«at» a=>obtain⟨i,j,l⟩:=I6 r q (Qc d) (by simp only[Ex.n] at g;omega);exact⟨[],i.more om,j,l,sm,by simp[Ja,Ex.n]⟩
 |un h a=>
  simp only[Ex.n] at g;have v:=a.pos;obtain⟨i,j,l⟩:=I6 r q (pI d.2) om;have y:=i.types;refine⟨[],((i.trans ((I8 _ _).trans<|wo _ _ _))).more om,pM (j.dD om) sm sm ?_,?_,sm,by simp[Ja,Ex.n]⟩
  .intro p o;simp only[mC,List.not_mem_nil,or_false] at o;rcases o with rfl|rfl|rfl
   .have:=pg (n:=(cI m s a.au).1.types.length) om;omega
   .have:=pg l;omega
   .split<;>simp
  .show(cI m s a.au).1.types.length<1000;omega
 |bi h a b=>
  simp only[Ex.n] at g;have v:=a.pos;refine⟨[],two (rS h) a.au b.au (pI d.2.1) (pI d.2.2) ?_ om _<|Ex.pos _⟩;unfold rS;split
  .simp
  .split
   .simp
   .split<;>simp
 |ite a b c=>simp only[Ex.n] at g;exact⟨[],two (rS iv) a.au b.au (pI d.1) (pI d.2.1) de om _<|Ex.pos _⟩
 |lt x a b=>simp only[Ex.n] at g;exact⟨[],two (rS ic) x a.au (GK d.1) (pI d.2.1) de om _<|Ex.pos _⟩
 |fn f x A B e=>simp only[Ex.n] at g;obtain⟨i,j,l,z⟩:=ajD r q d u hb om E;refine⟨_,i,j,l,λk hk=>by simp only[List.mem_singleton] at hk;rw[hk];exact z,?_⟩;rw[Qh];simp only[Cd,Ex.n];omega
theorem Xy (b:fR m) {s:Nat} (c:s<1000) (i:m.types.length+3<1000):Ext m (uP m s) 6 []/\fR (uP m s)/\(uP m s).types.length=m.types.length+3:=by
 have d:=pg c;have e:=pg (n:=m.types.length) om;have f:=pg (n:=m.types.length+1) om;have g:=pg (n:=m.types.length+2) om;unfold uP;have z:([]:aj).length<=100000:=by simp
 refine⟨(I8 _ _).trans<|(wo _ _ _).trans ((I8 _ _).trans<|(wo _ _ _).trans ((I8 _ _).trans<|wo _ _ _)),?_,by simp[Mk.dD,Mk.cU]⟩;refine pM (fR.dD (pM (fR.dD (pM (fR.dD b z) sm sm ?_) z) sm sm ?_) z) sm sm ?_
 all_goals
  intro p a;simp only[mC,List.not_mem_nil,or_false] at a;rcases a with rfl|rfl|rfl<;>first|omega|simp
theorem ajG (e:fR m) {f on:Nat} (d:f<1000) (j:x<1000) (g:on<1000) (i:m.types.length+3<1000):Ext m (Al m f x on) 10 []/\fR (Al m f x on):=by
 obtain⟨b,c,_⟩:=Xy e d i;have d1:=pg (n:=m.types.length+1) om;have d2:=pg (n:=m.types.length+2) om;have d3:=pg j;have d4:=pg g;unfold Al;refine⟨b.trans ((wo _ _ _).trans<|(wo _ _ _).trans ((wo _ _ _).trans<|wo _ _ _)),?_⟩;refine pM (pM (pM (pM c sm sm ?_) sm sm ?_) sm sm ?_) sm sm ?_
 all_goals
  intro p a;simp only[mC,List.not_mem_nil,or_false] at a
  first
  |(rcases a with rfl|rfl<;>first|omega|simp)
  |(rw[a];omega)
theorem ajH (d:fR m) {on r:Nat} (e:on<1000) (f:r<1000) (g:m.types.length+3<1000):Ext m (Am m on r) 10 []/\fR (Am m on r):=by
 obtain⟨b,c,_⟩:=Xy d e g;have d1:=pg (n:=m.types.length+1) om;have d2:=pg (n:=m.types.length+2) om;have d3:=pg f;unfold Am;refine⟨(b.trans<|(wo _ _ _).trans ((wo _ _ _).trans<|wo _ _ _)).more om,?_⟩;refine pM (pM (pM c sm sm ?_) sm sm ?_) sm sm ?_
 all_goals
  intro p a;simp only[mC,List.not_mem_nil,or_false] at a
  first
  |(rcases a with rfl|rfl<;>first|omega|simp)
  |(rw[a];omega)
structure ph (m:Mk) (s:cV) (on:Nat) (aY:aj) (e:Ex):Prop where
 sml:fR m
 sc:kX s
 ok:e.ok
 type:∃T,bH e (fl s)=some T
 bud:5*s.length+2*e.n<=240
 room:m.types.length+8*e.n<=1000
 on:on<1000
 aY:CK aY
 cnt:m.count+e.n<=900
structure xR (m:Mk) (s:cV) (on:Nat) (aY:aj) (e:Ex) (T:Ty):Prop where
 ok:(bN e).s.ok
 type:bH (bN e).s (fl s)=some T
 small:T.n<=16
 o8:o8 s (bN e).s=T
 le:(bN e).s.n<=e.n
 last:(bN e).name=[]->(bN e).s=e
 rest:(bN e).name≠[]->eE (bN e).name=true/\(bN e).rest.ok/\(∃U,bH (bN e).rest (fl s++[((bN e).name,T)])=some U)/\(bN e).s.n+(bN e).rest.n+2<=e.n
theorem ph.goal {on:Nat} {aY:aj} (h:ph m s on aY e):∃T,xR m s on aY e T:=by
 obtain⟨T,i⟩:=h.type;have g:bN e=⟨[],e,e⟩->∃T,xR m s on aY e T:=λj=>by
  refine⟨T,?_,?_,mQ h.sc.types i,?_,?_,?_,?_⟩
  .rw[j];exact h.ok
  .rw[j];exact i
  .rw[j];unfold o8;rw[i];rfl
  .rw[j];exact lR _
  .intro _;rw[j]
  .intro o;rw[j] at o;exact absurd rfl o
 have n:=h.ok;cases e with
 |lt x a b=>
  unfold bH at i;cases l:bH a (fl s) with
  |none=>rw[l] at i;cases i
  |some A=>rw[l,Option.bind_some] at i;refine⟨A,n.2.1,l,mQ h.sc.types l,by show(bH a<|fl s).getD .i=A;rw[l];rfl,by simp only[bN,Ex.n];omega,λo=>absurd o<|xD n.1,λ_=>⟨n.1,n.2.2,⟨T,i⟩,by simp only[bN,Ex.n];omega⟩⟩
 |«at» a=>exact g rfl
 |un a b=>exact g rfl
 |bi a b c=>exact g rfl
 |ite a b c=>exact g rfl
 |fn a b c d f=>exact g rfl
def fx (m:Mk) (s:cV) (on:Nat) (aY name:aj) (a:Ty) (rest:Ex):Mk×Nat×aj:=if name≠[] then vZ m s on aY name a rest else(m,on,aY)
structure Cut (m m':Mk) (on':Nat) (onOf':aj) (n:Nat) (new:List Tk):Prop where
 ext:Ext m m' 4 new
 sml:fR m'
 on:on'<1000
 aY:CK onOf'
 inv:∀k∈new,pJ k
 num:lY new<=n
theorem Xz {d:Mk} {on:Nat} {aY:aj} {T:Ty} (h:ph d s on aY e) (g:xR d s on aY e T) (c:fR m) (i:m.types.length+4<1000) (q:m.count<1000) (b:2<=(bN e).s.n):
  ∃new,Cut m (fx m s on aY (bN e).name T (bN e).rest).1 (fx m s on aY (bN e).name T (bN e).rest).2.1 (fx m s on aY (bN e).name T (bN e).rest).2.2 (e.n-(bN e).s.n) new:=by
 by_cases a:(bN e).name=[]
 .unfold fx;rw[iN (by simp[a])];exact⟨[],(Ext.refl m).more om,c,h.on,h.aY,sm,by simp[Ja]⟩
 .unfold fx;rw[iP a];obtain⟨_,f,⟨U,p⟩,_⟩:=g.rest a;have hb:=h.bud;obtain⟨j,l,b,n,o⟩:=ajF (name:=(bN e).name) c h.sc h.on h.aY g.small f p om i q;refine⟨_,j,l,b,n,λk hk=>by simp only[List.mem_singleton] at hk;rw[hk];exact o,?_⟩;rw[Qh];show(bN e).rest.n+1<=_;omega
structure Fin (m m':Mk) (n:Nat) (new:List Tk):Prop where
 ext:Ext m m' 20 new
 sml:fR m'
 inv:∀k∈new,pJ k
 num:lY new+1<=n
structure On (m m':Mk) (s:cV) (on:Nat) (aY:aj) (n:Nat) (r:Ex) (new:List Tk):Prop where
 ext:Ext m m' 20 new
 inv:ph m' s on aY r
 bP:∀k∈new,pJ k
 num:lY new+r.n+1<=n
theorem ajI {on:Nat} {aY:aj} {T:Ty} (h:ph m s on aY e) (g:xR m s on aY e T) (i:(bN e).name=[]):
  ∃new,Fin m (Am (oD m s T (bN e).s).1 on (oD m s T (bN e).s).2) e.n new:=by
 have l:=h.room;have f:=h.cnt;have j:=(bN e).s.pos;have d:=g.le;obtain⟨new,a⟩:=Qi h.sml h.sc g.ok g.type (by have:=h.bud;omega) om om;have n:=a.ext.types;obtain⟨b,c⟩:=ajH a.sml h.on a.dD om;exact⟨new,by have:=a.ext.trans b;rw[List.append_nil] at this;exact this.more om,c,a.inv,by have:=a.num;omega⟩
theorem XA {on:Nat} {aY:aj} {T:Ty} (h:ph m s on aY e) (g:xR m s on aY e T) (n:(bN e).name≠[]):
  ∃new,On m (oD m s T (bN e).s).1 (s++[((bN e).name,(oD m s T (bN e).s).2,T)]) on aY e.n (bN e).rest new:=by
 have q:=h.room;have o:=h.cnt;have p:=(bN e).s.pos;have j:=g.le;obtain⟨_,c,⟨U,i⟩,_⟩:=g.rest n;obtain⟨new,a⟩:=Qi h.sml h.sc g.ok g.type (by have:=h.bud;omega) om om;have r:=a.ext.types;have f:=a.ext.count;have d:=a.num;have b:new.length<=lY new:=by
  unfold lY;clear a f d;induction new with
  |nil=>simp
  |cons t l _=>simp only[lC,List.map_cons,List.sum_cons];omega
 refine⟨new,a.ext.more om,⟨a.sml,h.sc.snoc a.dD g.small,c,⟨U,by rw[Gw];exact i⟩,?_,om,h.on,h.aY,om⟩,a.inv,om⟩;have:=h.bud;simp only[lA,lC,List.length_nil];omega
theorem ajJ {on:Nat} {aY:aj} {f x:Ex} {T:Ty} (h:ph m s on aY e) (g:xR m s on aY e T) (d:(bN e).s= .bi ll f x):
  ∃new,Cut (cI (cI m s f.au).1 s x.au).1 (fx (cI (cI m s f.au).1 s x.au).1 s on aY (bN e).name T (bN e).rest).1 (fx (cI (cI m s f.au).1 s x.au).1 s on aY (bN e).name T (bN e).rest).2.1 (fx (cI (cI m s f.au).1 s x.au).1 s on aY (bN e).name T (bN e).rest).2.2 (e.n-3) new/\
   Fin m (Al (fx (cI (cI m s f.au).1 s x.au).1 s on aY (bN e).name T (bN e).rest).1 (cI m s f.au).2 (cI (cI m s f.au).1 s x.au).2 (fx (cI (cI m s f.au).1 s x.au).1 s on aY (bN e).name T (bN e).rest).2.1) e.n new:=by
 have b:=g.ok;rw[d] at b;have r:=h.room;have q:=h.cnt;have l:=g.le;have p:3<=(bN e).s.n:=by rw[d];simp only[Ex.n];have:=f.pos;have:=x.pos;omega
 obtain⟨⟨_,s1,n⟩,c,s2,o⟩:=Xw h.sml h.sc (pI b.2.1) (pI b.2.2) om;have t2:=c.types;have c2:=c.count;simp only[List.length_nil] at c2;obtain⟨new,a⟩:=Xz h g s2 om om om;have t3:=a.ext.types;obtain⟨i,j⟩:=ajG a.sml n o a.on om;refine⟨new,⟨a.ext,a.sml,a.on,a.aY,a.inv,by have:=a.num;omega⟩,?_,j,a.inv,by have:=a.num;omega⟩;have:=(c.trans a.ext).trans i;rw[List.append_nil,List.nil_append] at this;exact this.more om
def Qm (m:Mk) (s:cV) (on:Nat) (aY:aj) (x:Ex):Tk:=⟨m.aM,m.types,0,[],s,x,on,aY,m.types.length⟩
def Jc (m:Mk) (s:cV) (on:Nat) (aY:aj) (r:Nat) (x:Ex):Mk:={(m.mx.cU IL [aS r,m.aM]) with bP:=m.bP++[Qm m s on aY x]}
theorem XB {on:Nat} {aY:aj} {c x y:Ex} {T:Ty} (h:ph m s on aY e) (g:xR m s on aY e T) (z:(bN e).s= .ite c x y):
  ∃new C,Cut (cI m s c.au).1 (fx (cI m s c.au).1 s on aY (bN e).name T (bN e).rest).1 (fx (cI m s c.au).1 s on aY (bN e).name T (bN e).rest).2.1 (fx (cI m s c.au).1 s on aY (bN e).name T (bN e).rest).2.2 (e.n-(bN e).s.n) new/\
   On m (Jc (fx (cI m s c.au).1 s on aY (bN e).name T (bN e).rest).1 s (fx (cI m s c.au).1 s on aY (bN e).name T (bN e).rest).2.1 (fx (cI m s c.au).1 s on aY (bN e).name T (bN e).rest).2.2 (cI m s c.au).2 x) s
    (fx (cI m s c.au).1 s on aY (bN e).name T (bN e).rest).2.1 (fx (cI m s c.au).1 s on aY (bN e).name T (bN e).rest).2.2 e.n y C:=by
 have i:=g.ok;have b:=g.type;rw[z] at i b;have S:=h.room;have R:=h.cnt;have J:=g.le;have hb:=h.bud;have P:=c.pos;have O:(bN e).s.n=1+c.n+x.n+y.n:=by rw[z];rfl
 have K:=x.pos;have L:=y.pos;obtain⟨j,s1,N⟩:=I6 h.sml h.sc (pI i.1) om;have t1:=j.types;have c1:=j.count;simp only[List.length_nil] at c1;obtain⟨new,a⟩:=Xz h g s1 om om om;generalize fx (cI m s c.au).1 s on aY (bN e).name T (bN e).rest=Q at a⊢;obtain⟨m2,o,q⟩:=Q;dsimp only at a⊢;have t3:=a.ext.types;have F:=a.ext.count;have E:=a.num;have u:new.length<=lY new:=by
  unfold lY;clear a F E t3;induction new with
  |nil=>simp
  |cons t l _=>simp only[lC,List.map_cons,List.sum_cons];omega
 have I:=CM (m:=m2) om;have f:(∃X,bH x (fl s)=some X)/\∃Y,bH y (fl s)=some Y:=by
  unfold bH at b;cases n:bH c (fl s) with
  |none=>rw[n] at b;cases b
  |some A=>
   cases r:bH x (fl s) with
   |none=>rw[n,r] at b;cases b
   |some B=>
    cases H:bH y (fl s) with
    |none=>rw[n,r,H] at b;cases b
    |some D=>exact⟨⟨B,rfl⟩,⟨D,rfl⟩⟩
 have M:pJ (Qm m2 s o q x):=
  ⟨i.2.1,f.1,h.sc,by show 5*s.length+2*x.n<=240;omega,by show m2.types.length+0+8*x.n<=990;omega,a.sml.types,.inl rfl,.inl rfl,a.aY,a.on,I⟩
 refine⟨new,new++[Qm m2 s o q x],a,⟨?_,⟨?_,h.sc,i.2.2,f.2,om,?_,a.on,a.aY,?_⟩,?_,?_⟩⟩
 .have d:=j.trans a.ext;rw[List.nil_append] at d;refine⟨d.blocks,?_,?_,?_,?_⟩
  .show m2.bP++[_]=_;rw[d.bP,List.append_assoc]
  .show m2.count+1=_;rw[d.count,lA];simp;omega
  .have:=d.types;exact⟨this.1,by show m2.types.length<=_;omega⟩
  .have:=d.code;show(m2.code++[_]).length<=_;simp only[lA,lC,List.length_nil];omega
 .have:=pM (m:=m2.mx) (hd:=IL) (ps:=[aS (cI m s c.au).2,m2.aM]) ⟨a.sml.types,a.sml.code⟩ de sm (λp v=>by
   simp only[mC,List.not_mem_nil,or_false] at v;rcases v with rfl|rfl
   .have:=pg N;omega
   .omega)
  exact⟨this.types,this.code⟩
 .show m2.types.length+_<=_;omega
 .show m2.count+1+_<=_;omega
 .intro k hk;rcases mA.1 hk with hk|hk
  .exact a.inv k hk
  .simp only[List.mem_singleton] at hk;rw[hk];exact M
 .rw[I9,Qh];show _+(x.n+1)+_+1<=_;omega
def qo (m:Mk) (a:List aq):Nat->Mk
 |0=>m
 |k+1=>((qo m a k).dD (nth a k).text).cU uO [aS (qo m a k).types.length,[48],aS k]
def CP (m:Mk) (aM:aj) (regs:List aj) (a b:aj):Mk:=
 let code:=eM [99] regs;let r:=m.types.length
 (((((m.dD code).cU uM [aS r,aM]).dD<|eM [116] [code,b]).cU mS [aS<|r+1,aS r,[48]]).dD a).cU uN [aS<|r+2,aS<|r+1,a,b]
def pj (m:Mk) (regs:List aj):Mk:={m with code:=[],types:=regs}
def Mj (m:Mk) (t:Tk):Mk:=match t.self with
 |[a,b]=>CP m t.aM t.regs a b
 |_=>m
def oH (t:Tk):List aq:=match bS (t.regs.getD 0 [105]) with
 |some x=>x.ag.drop 1
 |none=>[]
def rX (m:Mk) (t:Tk):Mk:=Mj (qo (pj m t.regs) (oH t) t.loads) t
theorem Qn {t:Tk} (h:t.regs.head?=some (eM [116] (ts.map aq.text))) (c:bS (eM [116] (ts.map aq.text))=some (mu [116] ts)):oH t=ts/\bS (t.regs.getD 0 [105])=some (mu [116] ts):=by
 have e:t.regs.getD 0 [105]=eM [116] (ts.map aq.text):=by
  cases b:t.regs with
  |nil=>rw[b] at h;cases h
  |cons a l=>rw[b] at h;simpa using h
 unfold oH;rw[e,c];exact⟨rfl,rfl⟩
structure Eu (m m':Mk) (regs:List aj) (k:Nat):Prop where
 blocks:m'.blocks=m.blocks
 bP:m'.bP=m.bP
 count:m'.count=m.count
 types:m'.types.length=regs.length+k
 code:m'.code.length<=k
 sml:fR m'
theorem Qo {regs:List aj} (h:∀r∈regs,r.length<=100000):Eu m (pj m regs) regs 0:=⟨rfl,rfl,rfl,rfl,by simp[pj],⟨h,by simp[pj]⟩⟩
theorem Qp {m:Mk} {regs:List aj} (h:∀r∈regs,r.length<=100000) (c:∀t∈ts,t.text.length<=100000):∀k,regs.length+k<1000->k<=ts.length->Eu m (qo (pj m regs) ts k) regs k
 |0,_,_=>Qo h
 |k+1,hk,_=>by
  have a:=Qp (m:=m) h c k om om;have d1:=pg (n:=(qo (pj m regs) ts k).types.length) (by rw[a.types];omega);have d2:=pg (n:=k) om;refine⟨a.blocks,a.bP,a.count,by show(((qo (pj m regs) ts k).types++[_])).length=_;rw[lA,a.types];rfl,?_,?_⟩
  .show((qo (pj m regs) ts k).code++[_]).length<=_;have:=a.code;rw[lA];simp;omega
  .refine pM (a.sml.dD ?_) sm sm ?_
   .have:=c (nth ts k) (by unfold nth;rw[gG,gE om];exact List.getElem_mem _);omega
   .intro p b;simp only[mC,List.not_mem_nil,or_false] at b;rcases b with rfl|rfl|rfl
    .omega
    .simp
    .omega
theorem XE {regs:List aj} (b:regs.length=3) (h:∀r∈regs,r.length<=11200):(eM [99] regs).length<=33610:=by have a:=CJ (m:=11200) regs h;rw[b] at a;rw[ni];simp only[lC,List.length_nil];omega
theorem ajK (a b c d:aj):kr [a,b,c,d]=4+a.length+b.length+c.length+d.length:=by simp[kr];omega
theorem ajL (f:fR m) {aM:aj} (e:aM.length<=4) {regs:List aj} (c:regs.length=3) (h:∀r∈regs,r.length<=11200) {a b:aj} (d:a.length<=272) (hb:b.length<=11200) (g:m.types.length+3<1000):fR (CP m aM regs a b):=by grind [XE,pg,dC.length,eM,ni,CL,CP,fR.cU,fR.dD,pM,ajK]
theorem ajM {c:Mk} {regs:List aj} (h:Eu m c regs k) (aM a b:aj) (d:fR (CP c aM regs a b)):Eu m (CP c aM regs a b) regs (k+3):=
 ⟨h.blocks,h.bP,h.count,by have:=h.types;simp[CP,Mk.dD,Mk.cU];omega,by have:=h.code;simp[CP,Mk.dD,Mk.cU];omega,d⟩
theorem XF {s:aj} (h:s∈ps):s.length<=kr ps:=by
 unfold kr;have:∀{xs:List aj},s∈xs->s.length<=(xs.map List.length).sum:=by
  intro xs;induction xs with
  |nil=>intro h;cases h
  |cons x xs a=>
   intro h;rw[List.map_cons,List.sum_cons];rcases mC.1 h with rfl|h
   .omega
   .have:=a h;omega
 have:=this h;omega
theorem Qq {m:Mk} {t:Tk} (h:pJ t):Eu m (rX m t) t.regs (t.loads+(if t.self=[] then 0 else 3)):=by
 have s:=h.room;have r:=t.expr.pos;have c:Eu m (qo (pj m t.regs) (oH t) t.loads) t.regs t.loads:=by
  rcases h.loads with d|⟨ts,g,e,i⟩
  .rw[d];exact Qo h.regs
  .obtain⟨j,_⟩:=Qn g i;rw[j];refine Qp h.regs (λx q=>?_) _ om e;have l:=h.regs _<|List.mem_of_mem_head? g;rw[ni] at l;have:=XF<|List.mem_map_of_mem (f:=aq.text) q;omega
 unfold rX Mj;rcases h.self with d|⟨a,b,p,o,hb,n,e⟩
 .rw[d,iP rfl];exact c
 .rw[p,iN sm];refine ajM c _ _ _<|ajL c.sml h.aM n e o hb ?_;rw[c.types];omega
theorem XG {t:Tk} (h:pJ t) (a:m.count+t.expr.n<=900):ph (rX m t) t.sc t.on t.aY t.expr:=by have hb:=Qq (m:=m) h;have b:=h.room;refine⟨hb.sml,h.sc,h.ok,h.type,h.bud,?_,h.on,h.aY,by rw[hb.count];exact a⟩;rw[hb.types];split<;>omega
/-! ### A block's body -/
def nW:Nat->At->Ex->Mk
 |0,a,_=>a.m
 |k+1,a,e=>match lp a e with
  | .inl m=>m
  | .inr p=>nW k p.1 p.2
theorem Ml (m:Mk) (s:cV) (on:Nat) (aY:aj) (g:Goal):LJ ⟨m,s,on,aY⟩ g=⟨(fx m s on aY g.name (o8 s g.s) g.rest).1,s,(fx m s on aY g.name (o8 s g.s) g.rest).2.1,(fx m s on aY g.name (o8 s g.s) g.rest).2.2⟩:=by unfold LJ fx;split<;>rfl
theorem XH {on:Nat} {aY:aj} (h:ph m s on aY e):match lp ⟨m,s,on,aY⟩ e with
  | .inl q=>∃new,Fin m q e.n new
  | .inr p=>∃new,On m p.1.m p.1.s p.1.on p.1.aY e.n p.2 new:=by
 obtain⟨T,g⟩:=h.goal;have o:=g.o8;have i:lp ⟨m,s,on,aY⟩ e=(if(bN e).name=[] then .inl (Am (oD m s (o8 s (bN e).s) (bN e).s).1 on (oD m s (o8 s (bN e).s) (bN e).s).2) else .inr (⟨(oD m s (o8 s (bN e).s) (bN e).s).1,s++[((bN e).name,(oD m s (o8 s (bN e).s) (bN e).s).2,o8 s (bN e).s)],on,aY⟩,(bN e).rest))->
   match lp ⟨m,s,on,aY⟩ e with
   | .inl q=>∃new,Fin m q e.n new
   | .inr p=>∃new,On m p.1.m p.1.s p.1.on p.1.aY e.n p.2 new:=λl=>by
  rw[l,o];by_cases n:(bN e).name=[]
  .rw[iP n];exact ajI h g n
  .rw[iN n];exact XA h g n
 cases j:(bN e).s with
 |«at» a=>exact i (by unfold lp;simp only[j])
 |un a b=>exact i (by unfold lp;simp only[j])
 |lt a b c=>exact i (by unfold lp;simp only[j])
 |fn a b c d f=>exact i (by unfold lp;simp only[j])
 |bi v f x=>
  by_cases r:v=ll
  .subst r;have l:lp ⟨m,s,on,aY⟩ e= .inl (Al (fx (cI (cI m s f.au).1 s x.au).1 s on aY (bN e).name T (bN e).rest).1 (cI m s f.au).2 (cI (cI m s f.au).1 s x.au).2 (fx (cI (cI m s f.au).1 s x.au).1 s on aY (bN e).name T (bN e).rest).2.1):=by
    unfold lp;simp only[j,if_true,Ml];rw[<-j,o]
   rw[l];obtain⟨new,_,t⟩:=ajJ h g j;exact⟨new,t⟩
  .exact i (by unfold lp;simp only[j,iN r])
 |ite c x y=>
  have l:lp ⟨m,s,on,aY⟩ e= .inr (⟨Jc (fx (cI m s c.au).1 s on aY (bN e).name T (bN e).rest).1 s (fx (cI m s c.au).1 s on aY (bN e).name T (bN e).rest).2.1 (fx (cI m s c.au).1 s on aY (bN e).name T (bN e).rest).2.2 (cI m s c.au).2 x,s,
    (fx (cI m s c.au).1 s on aY (bN e).name T (bN e).rest).2.1,(fx (cI m s c.au).1 s on aY (bN e).name T (bN e).rest).2.2⟩,y):=by
   unfold lp;simp only[j,Ml];rw[<-j,o];rfl
  rw[l];obtain⟨_,new,_,u⟩:=XB h g j;exact⟨new,u⟩
structure yU (m m':Mk) (s:cV) (on:Nat) (aY:aj) (n k:Nat) (r:Ex) (new:List Tk):Prop where
 ext:Ext m m' k new
 inv:ph m' s on aY r
 bP:∀k∈new,pJ k
 num:lY new+r.n<=n
 steps:k+20*r.n<=20*n
theorem yU.start {on:Nat} {aY:aj} (h:ph m s on aY e):yU m m s on aY e.n 0 e []:=⟨Ext.refl m,h,sm,by simp[Ja],om⟩
theorem yU.step {s2:cV} {on d:Nat} {aY e:aj} {r f:Ex} {new c:List Tk} (h:yU m m1 s on aY n k r new) (a:On m1 m2 s2 d e r.n f c):yU m m2 s2 d e n (k+20) f (new++c):=
 ⟨h.ext.trans a.ext,a.inv,λt b=>by rcases mA.1 b with b|b;exact h.bP t b;exact a.bP t b,by rw[I9];have:=h.num;have:=a.num;omega,by have:=h.steps;have:=a.num;omega⟩
structure Qr (m m':Mk) (n:Nat) (new:List Tk):Prop where
 ext:Ext m m' (20*n) new
 sml:fR m'
 inv:∀k∈new,pJ k
 num:lY new+1<=n
theorem yU.fin {on:Nat} {aY:aj} {r:Ex} {new c:List Tk} (h:yU m m1 s on aY n k r new) (b:Fin m1 m2 r.n c):Qr m m2 n (new++c):=by
 have d:=h.steps;have e:=r.pos;refine⟨(h.ext.trans b.ext).more om,b.sml,λt a=>?_,by rw[I9];have:=h.num;have:=b.num;omega⟩;rcases mA.1 a with a|a
 .exact h.bP t a
 .exact b.inv t a
theorem Mm:∀(k:Nat) {m:Mk} {s:cV} {on:Nat} {aY:aj} {e:Ex},ph m s on aY e->e.n<=k->∃new,Qr m (nW k ⟨m,s,on,aY⟩ e) e.n new
 |0,_,_,_,_,e,_,hk=>absurd hk (by have:=e.pos;omega)
 |k+1,m,s,on,aY,e,h,hk=>by
  have a:=XH h;unfold nW;cases d:lp ⟨m,s,on,aY⟩ e with
  |inl _=>rw[d] at a;obtain⟨new,a⟩:=a;exact⟨_,(yU.start h).fin a⟩
  |inr p=>
   rw[d] at a;obtain⟨⟨m1,s1,_,_⟩,_⟩:=p;obtain⟨new,a⟩:=a;dsimp only at a⊢;obtain⟨f,c⟩:=Mm k a.inv (by have:=a.num;omega);have g:=a.num;refine⟨new++f,(a.ext.trans c.ext).more om,c.sml,λt b=>?_,by rw[I9];have:=c.num;omega⟩;rcases mA.1 b with b|b
   .exact a.bP t b
   .exact c.inv t b
theorem ajO:∀(k:Nat) {m:Mk} {s:cV} {on:Nat} {aY:aj} {e:Ex},ph m s on aY e->e.n<=k->nW k ⟨m,s,on,aY⟩ e=nW e.n ⟨m,s,on,aY⟩ e:=by
 have b:∀(k j:Nat) {m:Mk} {s:cV} {on:Nat} {aY:aj} {e:Ex},ph m s on aY e->e.n<=k->e.n<=j->nW k ⟨m,s,on,aY⟩ e=nW j ⟨m,s,on,aY⟩ e:=by
  intro k;induction k with
  |zero=>intro j _ _ _ _ e _ hk;have:=e.pos;omega
  |succ k d=>
   intro j m s on aY e h hk _;cases j with
   |zero=>have:=e.pos;omega
   |succ j=>
    have a:=XH h;unfold nW;cases c:lp ⟨m,s,on,aY⟩ e with
    |inl _=>rfl
    |inr p=>rw[c] at a;obtain⟨⟨m1,s1,_,_⟩,_⟩:=p;obtain⟨new,a⟩:=a;dsimp only at a⊢;have f:=a.num;exact d j a.inv om om
 exact λk m s on aY e h hk=>b k e.n h hk (lR _)
/-! ### A program -/
def Ev (m:Mk) (aM:aj) (regs:List aj):Mk:={m with blocks:=m.blocks++[⟨aM,regs,m.code⟩]}
abbrev sT:aj:=[40,116,41]
def vg (T:Ty):Mk:=
 let on:=dP<|bD T;let code:=eM [99] [sT,bD T]
 ((((⟨[],[],0,false,[],[sT,code,eM [116] [code,sT],on]⟩:Mk).cU mS [[48]]).cU uM [[49],Cb]).cU mS [[50],[49],[48]]).cU uN [[51],[50],on,sT]
def Jd (e:Ex) (T:Ty):Tk:=⟨D9,[],0,[],[],e,3,dP<|bD T,0⟩
def tO (e:Ex) (T:Ty):Mk:=nW e.n ⟨vg T,[],3,dP<|bD T⟩ e
def Ew (e:Ex) (T:Ty):Mk:=Ev {(Ev (tO e T) D9 []) with code:=[[40,104,97,108,116,32,49,41]]} Cb [sT,bD T]
def GM (m:Mk) (t:Tk):Mk:=Ev (nW t.expr.n ⟨rX m t,t.sc,t.on,t.aY⟩ t.expr) t.aM t.regs
def iK (a:List Tk) (i:Nat):Tk:=a.getD i ⟨[],[],0,[],[],.at [],0,[],0⟩
def AJ:Nat->Mk->Nat->Mk
 |0,m,_=>m
 |k+1,m,i=>if i<m.bP.length then AJ k (GM m<|iK m.bP i) (i+1) else m
def ofM (e:Ex) (T:Ty):Mk:=AJ 1000 (Ew e T) 0
structure tP (m:Mk) (i:Nat):Prop where
 le:i<=m.bP.length
 count:m.count=m.bP.length
 num:i+lY (m.bP.drop i)<=120
 inv:∀t,t∈m.bP.drop i->pJ t
 yC:∀b∈m.blocks,b.small/\b.aM.length<=10
 bnum:m.blocks.length=i+2
theorem XI {T:Ty} (f:e.ok) (d:bH e []=some T) (m:e.n<=120):ph (vg T) [] 3 (dP<|bD T) e:=by
 have b:=mQ (Γ:=[]) (λs T h=>by simp[look] at h) d;have i:=rh b;have j:=wk b;have l:(eM [99] [sT,bD T]).length<=300:=by rw[ni,CL];simp only[lC,List.length_nil];omega
 have g:CK (dP<|bD T):=⟨T,b,rfl⟩;refine⟨?_,⟨λs T h=>by simp[fl,look] at h,sm⟩,f,⟨T,d⟩,by simp;omega,by simp[vg,Mk.cU];omega,om,g,by simp[vg,Mk.cU];omega⟩;unfold vg;refine pM (pM (pM (pM ⟨?_,sm⟩ sm sm ?_) sm sm ?_) sm sm ?_) sm sm ?_
 .intro s c;simp only[mC,List.not_mem_nil,or_false] at c;rcases c with rfl|rfl|rfl|rfl
  .simp
  .omega
  .rw[ni,CL];simp only[lC,List.length_nil];omega
  .omega
 all_goals
  intro p a;simp only[mC,List.not_mem_nil,or_false] at a
  first
  |(rcases a with rfl|rfl|rfl|rfl<;>first|omega|simp)
  |(rcases a with rfl|rfl|rfl<;>first|omega|simp)
  |(rcases a with rfl|rfl<;>first|omega|simp)
  |(rw[a];simp)
theorem XJ {T:Ty} (a:e.ok) (c:bH e []=some T) (b:e.n<=120):∃new,Qr (vg T) (tO e T) e.n new:=Mm _ (XI a c b)<|lR _
theorem XK (a:List Tk):a.length<=lY a:=by induction a<;>grind [lY]
theorem ajP (m:Mk) (l:aj) (r:List aj):(Ev m l r).blocks=m.blocks++[⟨l,r,m.code⟩]:=rfl
theorem Qs {T:Ty} (d:e.ok) (l:bH e []=some T) (j:e.n<=120):tP (Ew e T) 0:=by
 obtain⟨new,h⟩:=XJ d l j;have f:=h.ext.bP;have g:=h.ext.count;have m:=h.num;have n:=h.ext.code;have i:=h.ext.blocks;have hb:(Ew e T).blocks=[⟨D9,[],(tO e T).code⟩,⟨Cb,[sT,bD T],[[40,104,97,108,116,32,49,41]]⟩]:=by unfold Ew;rw[ajP];show(tO e T).blocks++_++_=_;rw[i];rfl
 have c:(Ew e T).bP=new:=by show(tO e T).bP=new;rw[f];rfl
 refine⟨Nat.zero_le _,?_,?_,?_,?_,by rw[hb];rfl⟩
 .rw[c];show(tO e T).count=_;rw[g];simp[vg,Mk.cU]
 .rw[c,List.drop_zero];omega
 .rw[c,List.drop_zero];exact h.inv
 .intro b a;rw[hb] at a;have o:(vg T).code.length=4:=rfl;simp only[mC,List.not_mem_nil,or_false] at a;rcases a with rfl|rfl
  .exact⟨⟨by simp,sm,by show(tO e T).code.length<_;omega⟩,sm⟩
  .exact⟨⟨by simp,sm,sm⟩,sm⟩
theorem Mn {a:List Tk} (b:i<a.length):a.drop i=iK a i::a.drop (i+1):=by simp_all[iK]
theorem tP.task (h:tP m i) (a:i<m.bP.length):pJ (iK m.bP i)/\m.count+(iK m.bP i).expr.n<=900/\m.bP.length<=120:=by
 have c:=h.num;have b:=XK<|m.bP.drop i;rw[List.length_drop] at b;have d:lY (m.bP.drop i)=(iK m.bP i).expr.n+1+lY (m.bP.drop<|i+1):=by rw[Mn a];simp[lY]
 have e:=h.count;exact⟨h.inv _ (by rw[Mn a];simp),om,om⟩
theorem tP.step (h:tP m i) (f:i<m.bP.length):tP (GM m<|iK m.bP i) (i+1):=by
 obtain⟨e,r,_⟩:=h.task f;have v:=h.num;have y:lY (m.bP.drop i)=(iK m.bP i).expr.n+1+lY (m.bP.drop<|i+1):=by rw[Mn f];simp[lY]
 have hb:=Qq (m:=m) e;obtain⟨new,d⟩:=Mm _ (XG e r)<|lR _;have l:=d.ext.bP;have n:=d.ext.count;have p:=d.ext.code;have j:=d.ext.blocks;have u:=d.num;have s:=hb.code;rw[hb.bP] at l;rw[hb.count] at n;rw[hb.blocks] at j;have A:=e.room;have o:(m.bP++new).drop (i+1)=m.bP.drop (i+1)++new:=by rw[List.drop_append_of_le_length f]
 have g:(GM m<|iK m.bP i).bP=m.bP++new:=l;refine⟨by rw[g,lA];omega,?_,?_,?_,?_,?_⟩
 .rw[g,lA,<-h.count];exact n
 .rw[g,o,I9];omega
 .intro t a;rw[g,o] at a;rcases mA.1 a with a|a
  .exact h.inv t (by rw[Mn f];simp[a])
  .exact d.inv t a
 .intro b q;have c:b∈m.blocks++[⟨(iK m.bP i).aM,(iK m.bP i).regs,(nW (iK m.bP i).expr.n ⟨rX m (iK m.bP i),(iK m.bP i).sc,(iK m.bP i).on,(iK m.bP i).aY⟩ (iK m.bP i).expr).code⟩]:=by rw[<-j];exact q
  rcases mA.1 c with c|c
  .exact h.yC b c
  .simp only[List.mem_singleton] at c;rw[c];have z:=e.aM;refine⟨⟨by show(iK m.bP i).aM.length<_;omega,by show(iK m.bP i).regs.length<_;omega,?_⟩,by show(iK m.bP i).aM.length<=_;omega⟩;refine Nat.lt_of_le_of_lt p ?_;have:(if(iK m.bP i).self=[] then 0 else 3)<=3:=by split<;>omega
   omega
 .show((nW _ _ _).blocks++[_]).length=_;rw[j,lA,h.bnum];rfl
theorem XL (h:¬i<m.bP.length):∀k,AJ k m i=m
 |0=>rfl
 |k+1=>by unfold AJ;rw[iN h]
theorem XM (h:i<m.bP.length) (k:Nat):AJ (k+1) m i=AJ k (GM m<|iK m.bP i) (i+1):=by rw[AJ,iP h]
theorem tP.small (h:tP m i):o3 m.blocks:=by have b:=h.num;refine⟨by rw[h.bnum];omega,λj a=>(h.yC _ ?_).1⟩;unfold cA;rw[gG,gE a];exact List.getElem_mem a
theorem tP.labels (h:tP m i):∀b∈m.blocks,b.aM.length<=10:=λb hb=>(h.yC b hb).2
theorem CR (h:aj):(iI h=true/\ie h=false/\h≠iv/\h≠ic/\h≠iH/\eQ h=(1,3))\/(iI h=false/\ie h=false/\h=iv/\eQ h=(1,4))\/
  (iI h=false/\ie h=false/\h=ic/\eQ h=(2,4))\/(iI h=false/\ie h=false/\h=iH/\eQ h=(5,6))\/(iI h=false/\ie h=true/\h≠iv/\h≠ic/\h≠iH/\eQ h=(1,2))\/
  (iI h=false/\ie h=false/\h≠iv/\h≠ic/\h≠iH/\eQ h=(0,0)):=by
 by_cases hb:iI h=true
 .left;have hk:eQ h=(1,3):=by unfold eQ;rw[iP hb]
  have g:=hb;simp only[iI,oE,dE] at g;rcases g with(((e|e)|e)|e)|e<;>subst e<;>refine⟨rfl,rfl,by decide,by decide,by decide,hk⟩
 .have d:iI h=false:=by simpa using hb
  right;by_cases a:h=iv
  .left;exact⟨d,by rw[a];rfl,a,by rw[a];rfl⟩
  .right;by_cases b:h=ic
   .left;exact⟨d,by rw[b];rfl,b,by rw[b];rfl⟩
   .right;by_cases c:h=iH
    .left;exact⟨d,by rw[c];rfl,c,by rw[c];rfl⟩
    .right;by_cases f:ie h=true
     .left;exact⟨d,f,a,b,c,by unfold eQ;rw[iN hb,iN a,iN b,iN c,iP f]⟩
     .right;exact⟨d,by simpa using f,a,b,c,by unfold eQ;rw[iN hb,iN a,iN b,iN c,iN f]⟩
theorem Mp:eQ iv=(1,4)/\eQ ic=(2,4)/\eQ iH=(5,6)/\ie iv=false/\ie ic=false/\ie iH=false/\iI iv=false/\iI ic=false/\iI iH=false:=by simp_all[eQ,ie,iI]
def GP (a:List aq):Bool:=(decide ((eQ (nth a 0).au).1<=1)||eE (nth a 1).au)&&
 (decide ((eQ (nth a 0).au).1≠5)||(eE (nth a 2).au&&decide ((nth a 1).au≠(nth a 2).au)&&kT (nth a 3)&&kT (nth a 4)))
theorem ajQ (g:List aq):o5 g=(decide ((eQ (nth g 0).au).1≠0)&&decide (g.length=(eQ (nth g 0).au).2)&&GP g&&(g.drop (eQ (nth g 0).au).1).all dY):=by
 unfold GP
 match g with
 |[]=>simp[o5,nth,aq.au,eQ,iI,ie]
 |[h]=>rcases CR h.au with⟨h1,h2,h3,h4,h5,hk⟩|⟨h1,h2,h3,hk⟩|⟨h1,h2,h3,hk⟩|⟨h1,h2,h3,hk⟩|⟨h1,h2,h3,h4,h5,hk⟩|⟨h1,h2,h3,h4,h5,hk⟩<;>simp[o5,nth,hk]
 |[h,a]=>rcases CR h.au with⟨h1,h2,h3,h4,h5,hk⟩|⟨h1,h2,h3,hk⟩|⟨h1,h2,h3,hk⟩|⟨h1,h2,h3,hk⟩|⟨h1,h2,h3,h4,h5,hk⟩|⟨h1,h2,h3,h4,h5,hk⟩<;>simp[o5,nth,hk,h1,h2,h3,Mp]
 |[h,a,b]=>rcases CR h.au with⟨h1,h2,h3,h4,h5,hk⟩|⟨h1,h2,h3,hk⟩|⟨h1,h2,h3,hk⟩|⟨h1,h2,h3,hk⟩|⟨h1,h2,h3,h4,h5,hk⟩|⟨h1,h2,h3,h4,h5,hk⟩<;>simp[o5,nth,hk,h1,h2,h3,Mp]
 |[h,a,b,c]=>rcases CR h.au with⟨h1,h2,h3,h4,h5,hk⟩|⟨h1,h2,h3,hk⟩|⟨h1,h2,h3,hk⟩|⟨h1,h2,h3,hk⟩|⟨h1,h2,h3,h4,h5,hk⟩|⟨h1,h2,h3,h4,h5,hk⟩<;>simp[o5,nth,hk,h1,h2,h3,Mp]<;>try simp[*]
 |[h,a,b,c,d]=>rcases CR h.au with⟨h1,h2,h3,h4,h5,hk⟩|⟨h1,h2,h3,hk⟩|⟨h1,h2,h3,hk⟩|⟨h1,h2,h3,hk⟩|⟨h1,h2,h3,h4,h5,hk⟩|⟨h1,h2,h3,h4,h5,hk⟩<;>simp[o5,nth,hk]
 |[h,a,b,c,d,e]=>rcases CR h.au with⟨h1,h2,h3,h4,h5,hk⟩|⟨h1,h2,h3,hk⟩|⟨h1,h2,h3,hk⟩|⟨h1,h2,h3,hk⟩|⟨h1,h2,h3,h4,h5,hk⟩|⟨h1,h2,h3,h4,h5,hk⟩<;>simp[o5,nth,hk,h3,Mp]<;>try simp[*,Bool.and_assoc]
 |h::a::b::c::d::e::f::r=>rcases CR h.au with⟨h1,h2,h3,h4,h5,hk⟩|⟨h1,h2,h3,hk⟩|⟨h1,h2,h3,hk⟩|⟨h1,h2,h3,hk⟩|⟨h1,h2,h3,h4,h5,hk⟩|⟨h1,h2,h3,h4,h5,hk⟩<;>simp[o5,nth,hk]<;>omega
theorem XN (t:aq):dY t=if t.au≠[] then rM t.au else o5 t.ag:=by cases t with|mk a ps=>rw[dY];rfl
theorem ajR (a:t.au=[]):dY t=(decide ((eQ (nth t.ag 0).au).1≠0)&&decide (t.ag.length=(eQ (nth t.ag 0).au).2)&&GP t.ag&&(t.ag.drop (eQ (nth t.ag 0).au).1).all dY):=by grind [XN,ajQ]
theorem XO (d:List aq):uL d=(decide (d.length=3)&&(decide ((nth d 0).au=[62])||decide ((nth d 0).au=[42]))&&(qd (nth d 1)&&qd (nth d 2))):=by
 match d with
 |[]=>simp[uL]
 |[h]=>simp[uL]
 |[h,a]=>simp[uL]
 |[h,a,b]=>simp[uL,nth]
 |h::a::b::c::r=>simp[uL]
/-! ### Texts -/
def AK (s:aj):Bool:=match bS s with
 |some t=>kT t
 |none=>false
theorem ajS {s:aj}:AK s=true↔∃T:Ty,T.n<=16/\s=T.text:=by grind [AK,bS,B2,vQ,vS,Ty.bS,Good.wf,Ex.wf]
theorem XP {T:Ty}:AK T.text=decide (T.n<=16):=by grind [ajS,Ty.inj]
def Ey (s c:aj):Option (Ty×Ty)->Prop
 |some (a,b)=>∃f,c=kS f/\s=(Ty.op f a b).text/\(Ty.op f a b).n<=16
 |none=>∀f a b,c=kS f->s=(Ty.op f a b).text->¬(Ty.op f a b).n<=16
def Mq (t:aq):Bool:=dY t&&decide (gF t<=120)
def nX (s:aj):Bool:=match bS s with
 |some t=>Mq t
 |none=>false
theorem ajT (a:WF t):Mq t=true↔∃e:Ex,t=e.av/\e.ok/\e.n<=120:=by grind [Mq,ait,Ex.gF]
theorem yV {s:aj}:nX s=true↔∃e:Ex,bS s=some e.av/\e.ok/\e.n<=120:=by grind [nX,bS,ajT,vQ]
theorem XQ {ps:List aq} (i:Nat):ku (ps.take i)<=ku ps:=by
 conv=>rhs;rw[<-List.take_append_drop i ps,VW]
 omega
theorem ajU (t:aq):ku t.ag<=t.size:=by
 cases t with
 |mk a ps=>have:=Pu ps;simp only[aq.size,aq.ag];omega
theorem XR:∀(m:Nat) (t:aq),t.size<=m->t.size<=10000000->WF t->∀(v:Value) (L:List Nat) (w:World),bg L w v t->
  bz Tryz.prog 118 [v] w λr w'=>r= .int .i64 (gF t:Int)/\ak [] w w':=by
 intro m;induction m with
 |zero=>intro t h;have:=rI t;omega
 |succ m I=>
  intro t _ _ s v L w F;obtain⟨a,n,c,rfl,E,q⟩:=cY F;subst E;have O:=ow t;have C:=ajU t;have b:=ak.refl [] w;refine bY [.tmp 2] 24 Tryz.func118 rfl aeV rfl rfl ?_;refine zr<|eJ rfl λ_ p e _=>?_;have b:=b.ext p;refine W ?_;refine zc rfl (λf=>?_) λf=>?_;have g:gF t=1:=by rw[Pt,iP f]
  refine W ?_;exact⟨_,rfl,by rw[g];rfl,b⟩;have g:gF t=ku t.ag:=by rw[Pt,iN f]
  refine W ?_;refine ey (λk:Nat=>[(1,.pointer<|some ⟨w.heap.size,0,none⟩),(3,.int .i64 ((ku (t.ag.take k):Nat):Int)),(4,.int .i64 (k:Int))]) (λk w'=>ak [] w w'/\aK w' w.heap.size [str t.au,.slice a t.ag.length c].toArray 103/\k<=t.ag.length) (λk=>t.ag.length-k) (0) (⟨rfl,rfl,rfl⟩) (⟨b,e,om⟩) λd J _ B=>?_;obtain⟨b,e,hk⟩:=B;refine W ?_;refine zc rfl (λA=>?_) λA=>?_;have l:=et (ps:=t.ag) (i:=d) om;obtain⟨_,_,_,_,_,rfl,H,u,y⟩:=gX q l;subst u;have o:=s.nth (i:=d) om;have N:=kD (t:=t) (i:=d) om;have K:=VX l;have D:=XQ (ps:=t.ag)<|d+1;refine WL ?_;refine zl jE rfl (e.at rfl)<|zm<|zi cT aO rfl rfl om<|zL fO aO rfl (H.ext b) rfl<|aA (I (nth t.ag d) om om o _ L J<|(kq y).ext b) ?_;rintro _ _ ⟨rfl,j⟩;have M:=j.size;refine bK j b e λb e=>?_;refine W ?_;exact⟨d+1,⟨rfl,congrArg (Value.int .i64) om,rfl⟩,⟨b,e,om⟩,om⟩;have z:d=t.ag.length:=by omega
  subst z;refine W ?_;exact⟨_,rfl,by rw[g,List.take_length];rfl,b⟩
theorem ajV:∀(m:Nat) (t:aq),t.size<=m->t.size<=10000000->WF t->∀(v:Value) (L:List Nat) (w:World),bg L w v t->
  bz Tryz.prog 189 [v] w λr w'=>r= .bool (qd t)/\ak [] w w':=by
 intro m;induction m with
 |zero=>intro t h;have:=rI t;omega
 |succ m B=>
  intro t _ _ p v L w Q;obtain⟨a,n,c,rfl,P,e⟩:=cY Q;subst P;have d:=ak.refl [] w;have nU:=ow t;refine bY [.tmp 2] 41 Tryz.func189 rfl af0 rfl rfl ?_;refine zr<|eJ rfl λX I j _=>bK I d e λd e=>?_;refine W ?_;refine zc rfl (λf=>?_) λf=>?_;have l:qd t=decide (t.au=[105]):=by rw[VY,iP f]
  refine W ?_;exact⟨_,rfl,by rw[l];rfl,d⟩;have A:t.au=[]:=Classical.not_not.1 f;have T:=p.pos A;have l:qd t=uL t.ag:=by rw[VY,iN λh=>h A]
  obtain⟨b,_,_,_,_,rfl,_,_,_⟩:=gX e<|et T;refine WZ ?_;apply oP 15 13 28 rfl oQ;intro y;refine WZ ?_;apply oB 7 20 27 rfl oQ;intro z;refine WZ ?_;exact oQ;intro D;exact oQ;intro D;refine aV<|zc rfl (λg=>?_) λg=>?_;have R:uL t.ag=false:=by rw[XO];simp only[oE,aE,dE] at g;rcases g with h|⟨f,y⟩;(·rw[dF om];rfl);(·rw[dF f,dF y];simp)
  refine W ?_;exact⟨_,rfl,by rw[l,R];rfl,d⟩;simp only[Bool.or_eq_false_iff,Bool.and_eq_false_iff,decide_eq_false_iff_not,Classical.not_not] at g;obtain⟨_,H⟩:=g;have z:t.ag.length=3:=om;have S:uL t.ag=(qd (nth t.ag 1)&&qd (nth t.ag 2)):=by rw[XO,dT z];rcases H with h|h<;>rw[h]<;>rfl
  obtain⟨_,_,_,_,_,N,J,V,U⟩:=gX e<|et (i:=1) om;cases N;subst V;obtain⟨_,_,_,_,_,O,q,E,F⟩:=gX e<|et (i:=2) om;cases O;subst E;have Z:=kD (t:=t) (i:=1) om;have K:=kD (t:=t) (i:=2) om;have M:=kq U;have s:=kq F;refine iA<|zr<|zf kt rfl<|zl jE rfl (j.at rfl)<|zi (i:=1) cT aO rfl rfl om<|zL fO aO rfl J rfl<|aA (B (nth t.ag 1) om om (p.nth om) _ L X M) ?_;rintro _ C ⟨rfl,u⟩;have K:=u.size;refine gN u d j q s λd j q s=>?_;refine WZ ?_;apply oA 6 34 40 (ak [] C) rfl oQ;intro _;refine zf kt rfl<|zl jE rfl (j.at rfl)<|zi (i:=2) cT aO rfl rfl om<|zL fO aO rfl q rfl<|aA (B (nth t.ag 2) om om (p.nth om) _ L C s) ?_;rintro _ Y ⟨rfl,o⟩;have fD:=o.size;exact oQ;intro D Y o;have d:=d.ext o;refine W ?_;exact⟨_,rfl,by rw[l,S];rfl,d⟩
theorem CS (t:aq) (l:t.size<=10000000) (i:WF t) (v:Value) (L:List Nat) (w:World) (j:bg L w v t):
  bz Tryz.prog 154 [v] w λr w'=>r= .bool (kT t)/\ak [] w w':=by
 have d:=j;obtain⟨a,n,c,rfl,_,_⟩:=cY j;have b:=ak.refl [] w;refine bY [.tmp 2] 10 Tryz.func154 rfl afw rfl rfl ?_;refine zr<|eJ rfl λp o f _=>bK o b d λb d=>?_;refine W ?_;refine aA (ajV t.size t (lR _) l i _ L p d) ?_;rintro _ m ⟨rfl,g⟩;have s:=g.size;refine cN g b d f λb d f=>?_;refine WZ ?_;apply oA 4 5 9 (ak [] m) rfl oQ;intro _;refine W ?_;refine aA (XR t.size t (lR _) l i _ L m d) ?_;rintro _ q ⟨rfl,e⟩;have u:=e.size;exact oQ;intro _ q e;have b:=b.ext e;refine W ?_;exact⟨_,rfl,congrArg Value.bool (show _=kT t from by unfold kT;congr 1;exact decide_eq_decide.2 om),b⟩
theorem ajW {s:aj} (h:Gn s t):((bS s).isSome&&kT t)=AK s:=by
 unfold AK;cases a:bS s with
 |none=>rfl
 |some u=>rw[h.1 u a];rfl
theorem Qu (s:aj) (w:World):bz Tryz.prog 195 [str s] w λr w'=>r= .bool (AK s)/\ak [] w w':=by have a:=ak.refl [] w;refine bY [.tmp 2] 15 Tryz.func195 rfl af6 rfl rfl ?_;refine W ?_;refine aA (LY s [] w sm) ?_;rintro _ _ ⟨n,g⟩;have q:=g.size;have a:=a.ext g;obtain⟨t,_,rfl,b,l⟩:=n;obtain⟨_,_,_,rfl,_,_⟩:=cY b;refine W ?_;refine du aO rfl rfl rfl λ_ i j _=>?_;have a:=a.grow;have a:=a.ext i;have b:=b.grow;have b:=b.ext i;refine cH aO rfl rfl rfl j rfl λm f j _=>?_;have a:=a.aB f sx;have b:=b.aB f sx;refine W ?_;apply oA 3 11 14 (ak [] m) rfl oQ;intro o;obtain⟨u,d⟩:=Option.isSome_iff_exists.1 o;have e:=l.1 u d;subst e;refine W ?_;refine aA (CS t (by have:=BM d;omega) (vQ d) _ _ m b) ?_;rintro _ p ⟨rfl,c⟩;have v:=c.size;exact oQ;intro _ p c;have a:=a.ext c;refine W ?_;exact⟨_,rfl,congrArg Value.bool<|ajW l,a⟩
def vh:Option (Ty×Ty)->aj
 |some p=>p.1.text
 |none=>[]
def AL:Option (Ty×Ty)->aj
 |some p=>p.2.text
 |none=>[]
def Qv (o:Option (Ty×Ty)):Value:=.tuple #[str<|vh o,str<|AL o,.bool o.isSome]
theorem ajX {s d:aj} (l:Gn s t) (h:(((!(bS s).isSome||!kT t)||decide (t.au≠[]))||decide ((nth t.ag 0).au≠d))=true):Ey s d none:=by
 intro f a b g i j;have c:bS s=some (Ty.op f a b).av:=by rw[i];exact Ty.bS om
 have e:=l.1 _ c;subst e;have m:kT (Ty.op f a b).av=true:=(B2<|vQ c).2 ⟨_,rfl,j⟩;rw[c,m] at h;simp[Ty.av,aq.au,aq.ag,nth,bJ,g] at h
theorem ajY {s c:aj} (m:Gn s t) (h:(((!(bS s).isSome||!kT t)||decide (t.au≠[]))||decide ((nth t.ag 0).au≠c))=false):∃f A B,t=(Ty.op f A B).av/\(Ty.op f A B).n<=16/\Ey s c (some (A,B)):=by
 simp only[Bool.or_eq_false_iff,Bool.not_eq_false',decide_eq_false_iff_not,Classical.not_not] at h;obtain⟨⟨⟨d,g⟩,j⟩,l⟩:=h;obtain⟨u,a⟩:=Option.isSome_iff_exists.1 d;have e:=m.1 u a;subst e;obtain⟨T,rfl,b⟩:=(B2<|vQ a).1 g;cases T with
 |i=>simp[Ty.av,bJ,aq.au] at j
 |op f A B=>exact⟨f,A,B,rfl,b,f,by rw[<-l];rfl,(vS a).2.2.1.symm,b⟩
theorem XT (s E:aj) (w:World):bz Tryz.prog 197 [str s,str E] w λr w'=>(∃o,Ey s E o/\r=Qv o)/\ak [] w w':=by have a:=ak.refl [] w;refine bY [.tmp 4,.tmp 5,.tmp 6] 45 Tryz.func197 rfl af7 rfl rfl ?_;refine W ?_;refine aA (LY s [] w sm) ?_;rintro _ _ ⟨R,C⟩;have cJ:=C.size;have a:=a.ext C;obtain⟨t,_,rfl,c,n⟩:=R;obtain⟨_,_,_,rfl,Q,b⟩:=cY c;subst Q;refine W ?_;refine du aO rfl rfl rfl λ_ q m _=>?_;have a:=a.grow;have a:=a.ext q;have c:=c.grow;have c:=c.ext q;have b:=b.grow;have b:=b.ext q;refine cH aO rfl rfl rfl m rfl λF p m _=>?_;have a:=a.aB p sx;have c:=c.aB p sx;have b:=b.aB p sx;refine W ?_;apply oO 4 16 20 (ak [] F) rfl oQ;intro S;obtain⟨u,d⟩:=Option.isSome_iff_exists.1 S;have e:=n.1 u d;subst e;refine W ?_;refine aA (CS t (by have:=BM d;omega) (vQ d) _ _ F c) ?_;rintro _ _ ⟨rfl,L⟩;have gv:=L.size;exact oQ;intro I H M;refine cN M a b m λa b m=>?_;refine WZ ?_;apply oP 4 21 25 rfl oQ;intro _;refine WZ ?_;exact oQ;intro I;refine WZ ?_;apply oP 8 26 34 rfl oQ;intro D;simp only[Bool.or_eq_false_iff,Bool.not_eq_false',decide_eq_false_iff_not,Classical.not_not] at D;obtain⟨⟨q1,q2⟩,q3⟩:=D;obtain⟨u,d⟩:=Option.isSome_iff_exists.1 q1;have e:=n.1 u d;subst e;have V:=(vQ d).pos q3;obtain⟨_,_,_,_,_,N,_,_,_⟩:=gX b<|et V;subst N;refine WZ ?_;exact oQ;intro I;refine aV<|zc rfl (λz=>?_) λz=>?_;refine W ?_;exact⟨_,rfl,⟨none,ajX n z,rfl⟩,a⟩;obtain⟨f,A,B,e,_,T⟩:=ajY n z;subst e;have V3:(Ty.op f A B).n=1+A.n+B.n:=rfl;have hA:=Ty.size A;have hB:=Ty.size B;have Qw:=Ty.len A;have Qx:=Ty.len B;have nV:(Ty.op f A B).av.ag.length=3:=rfl;obtain⟨_,_,_,_,_,O,_,Z,Y⟩:=gX b<|et (i:=1) om;subst O;subst Z;obtain⟨_,_,_,_,_,P,_,J,K⟩:=gX b<|et (i:=2) om;cases P;subst J;have v:bg _ H _ A.av:=kq Y;have y:bg _ H _ B.av:=kq K;refine WZ ?_;apply dV dk 13 [35,36,37,38,39,40,41,42,43,44,4,5,6] [[],[0],[1],[2],[3],[],[5],[6],[7],[8],[4],[9],[]] (it [_,_,_,_,_,_,_,_,_,_,_,_,_]) de rfl;intro _ aC;refine VA ?_;refine vk aC (λx l g=>?_) ?_;refine zi (i:=1) cT aO rfl rfl ((show 1<3 from om)) ?_;exact pv;refine VA ?_;refine vk aC (λx l g=>?_) ?_;have v:=v.ext g;refine aA (wj A.av.size A.av (lR _) A.fB.wf om (show A.text.length<=100000000 from om) _ _ l v) ?_;rintro _ w7 ⟨rfl,j⟩;have X:=j.size;exact pk j;refine VA ?_;refine vk aC (λx l g=>?_) ?_;refine zi (i:=2) cT aO rfl rfl ((show 2<3 from om)) ?_;exact pv;refine VA ?_;refine vk aC (λx l g=>?_) ?_;have y:=y.ext g;refine aA (wj B.av.size B.av (lR _) B.fB.wf om (show B.text.length<=100000000 from om) _ _ l y) ?_;rintro _ w7 ⟨rfl,j⟩;have X:=j.size;exact pk j;exact VZ;intro x _ U;have a:=a.ext U;change OW _ _ _ _ [] (ba (aZ _ x _)<|zZ 35 [_,_,_,_,_,_,_,_,_,_]++[(4,_),(5,_),(6,_)]) _;refine W ?_;exact⟨_,rfl,⟨some (A,B),T,rfl⟩,a⟩
theorem XU (s:aj) (w:World):bz Tryz.prog 171 [str s] w λr w'=>(∃o,Ey s [62] o/\r=Qv o)/\ak [] w w':=by have a:=ak.refl [] w;refine bY [.tmp 2,.tmp 3,.tmp 4] 10 Tryz.func171 rfl afM rfl rfl ?_;refine W ?_;refine aA (XT s [62] w) ?_;rintro _ _ ⟨c,b⟩;have e:=b.size;have a:=a.ext b;obtain⟨o,d,rfl⟩:=c;refine W ?_;exact⟨_,rfl,⟨o,d,rfl⟩,a⟩
theorem XV (s:aj) (w:World):bz Tryz.prog 170 [str s] w λr w'=>(∃o,Ey s [42] o/\r=Qv o)/\ak [] w w':=by have a:=ak.refl [] w;refine bY [.tmp 2,.tmp 3,.tmp 4] 10 Tryz.func170 rfl afL rfl rfl ?_;refine W ?_;refine aA (XT s [42] w) ?_;rintro _ _ ⟨c,b⟩;have e:=b.size;have a:=a.ext b;obtain⟨o,d,rfl⟩:=c;refine W ?_;exact⟨_,rfl,⟨o,d,rfl⟩,a⟩
theorem XW {T:Ty} (l:T.n<=16) (f:Bool) {o:Option (Ty×Ty)} (h:Ey T.text (kS f) o):o=match T with| .op g a b=>if g=f then some (a,b) else none| .i=>none:=by
 cases o with
 |some p=>
  obtain⟨g,d,j,_⟩:=h;have e:=Ty.inj j;subst e;have:f=g:=by cases f<;>cases g<;>first|rfl|(simp[kS] at d)
  subst this;simp
 |none=>
  cases T with
  |i=>rfl
  |op g a b=>have c:¬g=f:=λe=>h f a b rfl (by rw[e]) (by rw[<-e];exact l);simp[c]
theorem XX {T:Ty} (h:T.n<=16):AK T.text=true:=by rw[XP];exact dT h
theorem XY (f:Bool) (A B:Ty) (p:A.n<=16) (q:B.n<=16) (w:World):
  bz Tryz.prog 167 [.bool f,str A.text,str B.text] w λr w'=>r= .tuple #[str<|if 1+A.n+B.n<=16 then(Ty.op f A B).text else[],.bool (decide<|1+A.n+B.n<=16)]/\ak [] w w':=by
 have a:=ak.refl [] w;have E:=Ty.len A;have F:=Ty.len B;have H:=Ps f;have n:(((((([40]++kS f)++[32])++A.text)++[32])++B.text)++[41])=(Ty.op f A B).text:=by rw[Ty.Lw];simp
 have u:AK (Ty.op f A B).text=decide (1+A.n+B.n<=16):=XP;refine bY [.tmp 6,.tmp 7] 34 Tryz.func167 rfl afJ rfl rfl ?_;refine W ?_;refine jo (λ_:Unit=>[(0,.bool f),(1,str A.text),(2,str B.text),(8,str<|kS f)]) (λ_ w'=>w'=w) ?_ ?_;refine zc rfl (λd=>?_) λd=>?_;have g:=d;refine W ?_;exact⟨(),⟨rfl,rfl,rfl,by rw[g];rfl⟩,rfl⟩;have g:=d;refine WZ ?_;exact⟨(),⟨rfl,rfl,rfl,by rw[g];rfl⟩,rfl⟩;intro _ z _ s;subst s;refine W ?_;refine aA (Qu A.text z) ?_;rintro _ C ⟨o,m⟩;have I:=m.size;have a:=a.ext m;obtain rfl:=o.trans (congrArg Value.bool<|XX p);refine j4 rfl rfl rfl<|zm<|DC (t:=23) (b:=false) rfl<|zm<|aA (Qu B.text C) ?_;rintro _ D ⟨y,j⟩;have J:=j.size;have a:=a.ext j;obtain rfl:=y.trans (congrArg Value.bool<|XX q);refine j4 rfl rfl rfl<|zp rfl<|zm<|DC (t:=28) (b:=false) rfl<|zm<|aA (Qu _ D) ?_;rintro _ _ ⟨v,l⟩;have K:=l.size;have a:=a.ext l;obtain rfl:=v.trans (congrArg Value.bool<|(congrArg AK n).trans u);refine W ?_;refine zc rfl (λe=>?_) λe=>?_;have c:¬1+A.n+B.n<=16:=by simpa using e
 refine W ?_;have i:Value.tuple #[str<|if 1+A.n+B.n<=16 then(Ty.op f A B).text else[],.bool (decide<|1+A.n+B.n<=16)]=Value.tuple #[str [],.bool false]:=by rw[iN c,dF c]
 exact⟨_,rfl,i.symm,a⟩;have c:1+A.n+B.n<=16:=by simpa using e
 refine W ?_;have i:Value.tuple #[str<|if 1+A.n+B.n<=16 then(Ty.op f A B).text else[],.bool (decide<|1+A.n+B.n<=16)]=Value.tuple #[str<|((((([40]++kS f)++[32])++A.text)++[32])++B.text)++[41],.bool true]:=by rw[iP c,dT c,n]
 exact⟨_,rfl,i.symm,a⟩
theorem XZ (c:UInt8):(decide ((c.toNat:Int)<97)||decide ((122:Int)<(c.toNat:Int)))=!(decide (97<=c)&&decide (c<=122)):=by
 have a:decide (97<=c)=decide ((97:Int)<=c.toNat):=(Il 97 c).symm;have b:decide (c<=122)=decide ((c.toNat:Int)<=122):=decide_eq_decide.2 (by rw[UInt8.le_iff_toNat_le];have:(122:UInt8).toNat=122:=rfl;omega);rw[a,b,Bool.not_and,<-decide_not,<-decide_not]
 congr 1<;>exact decide_eq_decide.2 om
theorem ajZ {s:aj} (a:1<=k) (hk:k<s.length) (h:jb (s.getD k 0)=false):(s.drop 1).all jb=false:=by rw[List.all_eq_false];refine⟨s.getD k 0,?_,by rw[h];simp⟩;rw[List.mem_iff_getElem?];refine⟨k-1,?_⟩;rw[List.getElem?_drop,show 1+(k-1)=k by omega];exact jP hk
theorem aj0 {s:aj} (h:∀k,1<=k->k<s.length->jb (s.getD k 0)=true):(s.drop 1).all jb=true:=by rw[List.all_eq_true];intro c d;obtain⟨i,a⟩:=List.mem_iff_getElem?.1 d;rw[List.getElem?_drop] at a;have b:=(List.getElem?_eq_some_iff.1 a).1;have:=h (1+i) om b;rw[jP b] at a;cases a;exact this
theorem xT (s:aj) (w:World):bz Tryz.prog 152 [str s] w λv w'=>v= .bool (eE s)/\w=w':=by
 have o:eE s=(((decide (1<=s.length)&&decide (s.length<=4))&&(decide (97<=s.getD 0 0)&&decide (s.getD 0 0<=122)))&&(s.drop 1).all jb):=rfl;have p:∀c:UInt8,(decide ((c.toNat:Int)<48)||decide ((57:Int)<(c.toNat:Int)))=!jb c:=by
  intro c;cases d:jb c with
  |true=>have:=(DR c).1 d;simp;omega
  |false=>rw[Bool.not_false,oE,dE,dE];apply Classical.byContradiction;intro _;have:=(DR c).2 om;rw[d] at this;cases this
 refine bY [.tmp 2] 34 Tryz.func152 rfl afu rfl rfl ?_;refine W ?_;refine aA (IZ _ _ _ _) ?_;rintro _ _ ⟨rfl,rfl⟩;refine WZ ?_;apply oP 4 8 12 rfl oQ;intro a;have g:1<=s.length/\s.length<=4:=(by simp at a;omega);refine zm<|kR (i:=0) jh rfl rfl rfl rfl (jP om) ?_;exact oQ;intro q;refine WZ ?_;apply oP 4 13 17 rfl oQ;intro l;have g:1<=s.length/\s.length<=4:=(by simp at l;omega);refine zm<|kR (i:=0) jh rfl rfl rfl rfl (jP om) ?_;exact oQ;intro q;refine aV<|zc rfl (λb=>?_) λb=>?_;have m:eE s=false:=(by rw[o];rw[Bool.or_assoc,XZ] at b;simp only[oE,Bool.not_eq_true',Bool.and_eq_false_iff,decide_eq_false_iff_not] at b;simp only[Bool.and_eq_false_iff,decide_eq_false_iff_not];left;rcases b with(h|h)|h;(·left;left;omega);(·left;right;omega);(·right;exact h));refine W ?_;exact⟨_,rfl,by rw[m];rfl,rfl⟩;have g:(1<=s.length/\s.length<=4)/\(decide (97<=s.getD 0 0)&&decide (s.getD 0 0<=122))=true:=(by rw[Bool.or_assoc,XZ] at b;simp only[Bool.or_eq_false_iff,Bool.not_eq_false'] at b;refine⟨?_,b.2⟩;have a:=b.1;simp at a;omega);have m:eE s=(s.drop 1).all jb:=(by rw[o,g.2,dT g.1.1,dT g.1.2];rfl);refine W ?_;refine ey (λk:Nat=>[(0,str s),(3,.int .i64 (k:Int))]) (λk w'=>w'=w/\1<=k/\k<=s.length/\∀j,1<=j->j<k->jb (s.getD j 0)=true) (λk=>s.length-k) (1) (⟨rfl,rfl⟩) (⟨rfl,om,om,by intro j a l;omega⟩) λe _ _ u=>?_;obtain⟨rfl,r,hk,n⟩:=u;refine W ?_;refine zc rfl (λt=>?_) λt=>?_;refine W ?_;refine kR jh rfl rfl rfl rfl (jP om)<|WZ ?_;apply oP 5 28 33 rfl oQ;intro _;refine zm<|zm<|kR jh rfl rfl rfl rfl (jP om) ?_;exact oQ;intro q;refine aV<|zc rfl (λf=>?_) λf=>?_;have d:jb (s.getD e 0)=false:=(by rw[p] at f;simpa using f);refine W ?_;exact⟨_,rfl,by rw[m,ajZ r om d];rfl,rfl⟩;have d:jb (s.getD e 0)=true:=(by rw[p] at f;simpa using f);refine W ?_;exact⟨e+1,⟨rfl,rfl⟩,⟨rfl,om,om,by intro j a l;rcases Nat.lt_or_ge j e with h|h;exact n j a h;rw[show j=e by omega];exact d⟩,om⟩;refine W ?_;exact⟨_,rfl,by rw[m,aj0 λj a l=>n j a om];rfl,rfl⟩
def Qy (h:aj):Value:=.tuple #[.int .i64 ((eQ h).1:Int),.int .i64 ((eQ h).2:Int)]
theorem AM {a:Nat} (e:eQ h=(a,b)):Qy h= .tuple #[.int .i64 (a:Int),.int .i64 (b:Int)]:=by unfold Qy;rw[e]
theorem aj1 (e:iI h=true):eQ h=(1,3):=by unfold eQ;rw[iP e]
theorem aj2 (e:ie h=true):eQ h=(1,2):=by unfold ie at e;simp only[oE,dE] at e;rcases e with e|e<;>subst e<;>decide
theorem Mr (h:aj) (w:World):bz Tryz.prog 153 [str h] w λv w'=>v=Qy h/\w=w':=by refine bY [.tmp 2,.tmp 3] 20 Tryz.func153 rfl afv rfl rfl ?_;refine W ?_;refine jo (λ_:Unit=>[(4,str h),(5,.bool<|iI h)]) (λ_ w'=>w'=w) ?_ ?_;refine zc rfl (λb=>?_) λb=>?_;refine WZ ?_;exact⟨(),⟨rfl,congrArg Value.bool<|show decide (h=[43])=iI h from by rw[dT b,show iI h=true from by rw[b];rfl]⟩,rfl⟩;have s:=b;refine W ?_;refine zc rfl (λc=>?_) λc=>?_;refine WZ ?_;exact⟨(),⟨rfl,congrArg Value.bool<|show decide (h=[45])=iI h from by rw[dT c,show iI h=true from by rw[c];rfl]⟩,rfl⟩;have t:=c;refine W ?_;refine zc rfl (λd=>?_) λd=>?_;refine WZ ?_;exact⟨(),⟨rfl,congrArg Value.bool<|show decide (h=[42])=iI h from by rw[dT d,show iI h=true from by rw[d];rfl]⟩,rfl⟩;have u:=d;refine W ?_;refine zc rfl (λe=>?_) λe=>?_;refine WZ ?_;exact⟨(),⟨rfl,congrArg Value.bool<|show decide (h=ll)=iI h from by rw[dT e,show iI h=true from by rw[e];rfl]⟩,rfl⟩;have y:=e;refine W ?_;exact⟨(),⟨rfl,congrArg Value.bool (show decide (h=Aj)=iI h from by unfold iI;rw[dF s,dF t,dF u,dF y];rfl)⟩,rfl⟩;intro p _ _ n;obtain rfl:=n.symm;refine zc rfl (λi=>?_) λi=>?_;have a:=i;refine W ?_;exact⟨_,rfl,(AM<|aj1 a).symm,rfl⟩;have o:=i;refine W ?_;refine zc rfl (λj=>?_) λj=>?_;have a:=j;refine W ?_;exact⟨_,rfl,(AM (by rw[a];rfl)).symm,rfl⟩;have m1:=j;refine W ?_;refine zc rfl (λl=>?_) λl=>?_;have a:=l;refine W ?_;exact⟨_,rfl,(AM (by rw[a];rfl)).symm,rfl⟩;have m2:=l;refine W ?_;refine zc rfl (λm=>?_) λm=>?_;have a:=m;refine W ?_;exact⟨_,rfl,(AM (by rw[a];rfl)).symm,rfl⟩;have q:=m;refine W ?_;refine jo (λ_:Unit=>[(4,str h),(17,.bool<|ie h)]) (λ_ w'=>w'=w) ?_ ?_;refine zc rfl (λf=>?_) λf=>?_;refine WZ ?_;exact⟨(),⟨rfl,congrArg Value.bool<|show decide (h=D6)=ie h from by rw[dT f,show ie h=true from by rw[f];rfl]⟩,rfl⟩;have z:=f;refine W ?_;exact⟨(),⟨rfl,congrArg Value.bool (show decide (h=sE)=ie h from by unfold ie;rw[dF z];rfl)⟩,rfl⟩;intro p _ _ n;obtain rfl:=n.symm;refine zc rfl (λg=>?_) λg=>?_;have a:=g;refine W ?_;exact⟨_,rfl,(AM<|aj2 a).symm,rfl⟩;have r:=g;refine W ?_;exact⟨_,rfl,(AM (by unfold eQ;rw[iN (by rw[o];simp),iN m1,iN m2,iN q,iN (by rw[r];simp)])).symm,rfl⟩
end Go.Proofs.YtcildnfcpkpomaaGreatDoor
