/- Lemmas for the law FnNames, no statement of their own: no conditions. -/
import Derived.Test.YtcildnfcpkpomaaGreatDoorFd
import Derived.Laws.IdiomStrings
set_option maxHeartbeats 4000000
set_option linter.unusedVariables false
set_option linter.unusedSimpArgs false
namespace Go.Proofs.YtcildnfcpkpomaaGreatDoor
open Go
variable {E b bytes c i k n sz x:Nat} {v z:Value} {g gb:Option Nat} {ps xs:List aj} {s:cT} {w w':World} {gss:List (Option Nat×Option Nat)} {bs:List Bk} {vs:Array Value} {L:List Nat} {a:Option Addr} {rows:List (List C)} {q1 q2 q3 q4 q5 q6:Operand} {a1 a2 a3 a4 a5 a6 h:aj} {t:aq} {ts:List aq} {m m1 m2:Mk} {e:Ex}
/-! ### Operations -/
section
variable {P:Program} {n:Nat} {ops:Array Oper} {K:Env->World->Prop} {rest:List Oper} {e:Env} {w:World}
 {dst:Option Nat} {ty:TypeId} {pos:String} {after:Array Edge} {g:Option (Nat×Bool)} {x y:Operand}
theorem Wc {S D b cap:Nat} {z:Int} {c:UInt8} {U:TypeId} (f:P.underlying S=some (.slice E)) (d:P.underlying E=some (.int .u8)) (a:P.underlying D=some .string) (l:gate ops e g=true) (i:cC n dst=true) 
  (o:ev e x= .slice (some ⟨b,0,none⟩) 1 cap) (hb:aJ w b [.int .u8 z].toArray U) (p:z=(c.toNat:Int)) (k:OW P n ops K rest (bW e dst<|str [c]) w):OW P n ops K (⟨dst,.convert S D x,ty,pos,after,g⟩::rest) e w:=by
 have q:=run_convert_bytes_back (P:=P) w S D E ⟨b,0,none⟩ cap [c] f d a (by
  intro j m;have:j=0:=by simpa using m
  subst this;have:=hb.cell 0;simpa[Addr.add,p] using this)
 exact fC l i (v:=str [c]) (w':=w) (by have r:ev e x= .slice (some ⟨b,0,none⟩) ([c]:List UInt8).length cap:=o;simp only[execOp,r,Sem.run_bind,q,Result.andThen_ok,Sem.run_pure]) k
theorem Wd {T TS:Nat} {a:Option Nat} {d:List aj} {s:aj} {o j c:Nat} (B:TI P T 1 bytes z) (p:gate ops e g=true) (u:ev e x= .pointer (some ⟨b,o,none⟩)) (v:ev e y=str s) (q:o=i) 
  (m:cV w TS (.slice (some ⟨b,0,none⟩) j c) a d) (F:i<d.length)
  (k:∀w',ak a.toList w w'->cV w' TS (.slice (some ⟨b,0,none⟩) j c) a (d.set i s)->w'.heap.size=w.heap.size->OW P n ops K rest e w'):OW P n ops K (⟨none,.store T x y,ty,pos,after,g⟩::rest) e w:=by
 subst q;obtain⟨_,h|⟨_,cap,_,C,t,hb,E,D,f,r⟩⟩:=m
 .obtain⟨h,_⟩:=h;cases h
 .cases t;subst C;refine J8 B rfl p u v rfl hb (by rw[f];omega) λw' hk l A=>?_;refine k w' (by simpa using hk) ⟨by simp,.inr ⟨b,_,_,rfl,sm,l,by simpa using E,D,by simpa using f,?_⟩⟩ A;rw[Array.toList_setIfInBounds,List.length_set,List.take_set,r,List.map_set]
end
theorem We {c:Type}:∀{rows:List (List c)} {i j:Nat} {a:c} {row:List c},(∀row∈rows,row.length=sz)->rows[i]?=some row->j<sz->rows.flatten.set (i*sz+j) a=(rows.set i<|row.set j a).flatten
 |r::rows,0,j,a,row,h,hi,hj=>by simp only[List.getElem?_cons_zero,Option.some.injEq] at hi;subst hi;have b:r.length=sz:=h r sm;rw[List.flatten_cons,Nat.zero_mul,Nat.zero_add,List.set_cons_zero,List.flatten_cons,List.set_append_left _ _ om]
 |r::rows,i+1,j,a,row,h,hi,hj=>by
  have b:r.length=sz:=h r sm;have:=We (rows:=rows) (a:=a) (λrow b=>h row<|by simp[b]) (by simpa using hi) hj;rw[List.flatten_cons,List.set_cons_succ,List.flatten_cons,List.set_append_right _ _ (by rw[b,Nat.add_mul];omega),b,<-this]
  congr 2
  rw[Nat.add_mul];omega
theorem jA.set {T:TypeId}:∀{gss:List (Option Nat×Option Nat)} {m:List (List Value)} {bs:List Bk} {i:Nat} {g:Option Nat×Option Nat} {v:List Value} {f:Bk},jA w T gss m bs->gss[i]?=some g->rj w' T g v f->
  (∀(j:Nat) (a:Option Nat×Option Nat) (d:List Value) (c:Bk),j≠i->gss[j]?=some a->rj w T a d c->rj w' T a d c)->jA w' T gss (m.set i v) (bs.set i f)
 |[],[],[],i,g,v,f,_,l,_,_=>by simp at l
 |g0::e,v0::vs,b0::bs,0,g,v,f,h,l,hf,hk=>by
  simp only[List.getElem?_cons_zero,Option.some.injEq] at l;subst l;refine⟨hf,?_⟩;have p:∀{e:List (Option Nat×Option Nat)} {vs:List (List Value)} {bs:List Bk},(∀(j:Nat) (a:Option Nat×Option Nat) (d:List Value) (c:Bk),e[j]?=some a->rj w T a d c->rj w' T a d c)->jA w T e vs bs->jA w' T e vs bs:=by
   intro e;induction e with
   |nil=>intro vs bs _ h;cases vs<;>cases bs<;>first|trivial|exact h.elim
   |cons g e q=>
    intro vs bs hk h;cases vs with
    |nil=>cases bs<;>exact h.elim
    |cons v vs=>
     cases bs with
     |nil=>exact h.elim
     |cons b bs=>exact⟨hk 0 _ _ _ rfl h.1,q (λj a d c n=>hk (j+1) a d c<|by simpa using n) h.2⟩
  exact p (λj a d c n o=>hk (j+1) a d c om (by simpa using n) o) h.2
 |g0::e,v0::vs,b0::bs,i+1,g,v,f,h,l,hf,hk=>
  ⟨hk 0 _ _ _ om rfl h.1,jA.set h.2 (by simpa using l) hf λj a d c n r o=>hk (j+1) a d c om (by simpa using r) o⟩
theorem DR {g:Option Nat×Option Nat} (a:gss[i]?=some g) (b:x∈jK g):x∈ix gss:=by grind [ix]
theorem aik:∀{gss:List (Option Nat×Option Nat)} {i j:Nat} {g a:Option Nat×Option Nat} {x:Nat},(ix gss).Nodup->i≠j->gss[i]?=some g->gss[j]?=some a->x∈jK g->x∉jK a:=by intro x;induction x<;>grind [ix,jK]
theorem nz.row {w w':World} {n TS:TypeId} {v:Value} {g:Option Nat} {c:List (Option Nat×Option Nat)} {a:List (List Value)} {bs:List Bk} {i:Nat} {e:Option Nat×Option Nat} {m:List Value} {f:Bk} {L:List Nat} 
  (h:nz w n TS v g c a bs) (l:c[i]?=some e) (r:a[i]?=some m) (hk:ak L w w') (o:∀x∈L,x∈jK e) (u:rj w' TS e m f):nz w' n TS v g c a (bs.set i f):=by
 have p:=(List.nodup_append.1 h.nodup);have s:a.set i m=a:=by
  refine List.ext_getElem sm λj _ t=>?_;rw[List.getElem_set];split
  .rename_i C;subst C;rw[gE t] at r;simpa using r.symm
  .rfl
 have q:=jA.set (w':=w') h.rows l u λj _ _ _ y A z=>z.aG hk λx d B=>aik p.2.1 y A l d<|o x B;rw[s] at q;exact⟨by rw[List.length_set];exact h.own.aG hk λb hb d=>p.2.2 b (by simp[hb]) b (DR l<|o b d) rfl,q,h.nodup,λx d=>lL (h.lt x d) hk.size⟩
section
variable {P:Program} {n:Nat} {ops:Array Oper} {K:Env->World->Prop} {rest:List Oper} {e:Env} {w:World}
 {dst:Option Nat} {ty:TypeId} {pos:String} {after:Array Edge} {g:Option (Nat×Bool)} {x y:Operand}
end
theorem Wf (k:Nat):(48:Int)+((k%10:Nat):Int)=((UInt8.ofNat<|48+k%10).toNat:Int):=by simp_all[Nat.mod_eq_of_lt,Nat.reducePow];omega
theorem cV.form {T:TypeId} (h:cV w T (.slice a n c) g xs) (d:0<xs.length):∃b,a=some ⟨b,0,none⟩/\g=some b:=by cases h.2<;>grind
theorem cV.cases {T:TypeId} (h:cV w T v g xs):∃a c,v= .slice a xs.length c:=jv.len h
theorem nz.get {C TS:TypeId} {e:List (List Value)} (h:nz w C TS (.slice a n c) g gss e bs) (E:i<bs.length):
  ∃b d a1 c1 a2 c2,a=some ⟨b,0,none⟩/\g=some b/\b<w.heap.size/\b∉jK d/\gss[i]?=some d/\e[i]?=some [str (cA bs i).aO,.slice a1 (cA bs i).cM.length c1,.slice a2 (cA bs i).code.length c2]/\
   fP w b (0+i*3) [str (cA bs i).aO,.slice a1 (cA bs i).cM.length c1,.slice a2 (cA bs i).code.length c2]/\
   cV w TS (.slice a1 (cA bs i).cM.length c1) d.1 (cA bs i).cM/\cV w TS (.slice a2 (cA bs i).code.length c2) d.2 (cA bs i).code/\(∀x,d.1=some x->d.2=some x->False):=by
 have y:=List.nodup_append.1 h.nodup;obtain⟨_,_,L⟩:=h.rows.lens;obtain⟨d,vs,o,r,_,_,rfl,s,t⟩:=h.rows.get<|r6 E;obtain⟨a1,c1,rfl⟩:=cV.cases s;obtain⟨a2,c2,rfl⟩:=cV.cases t;obtain⟨_,B|⟨b,cap,l,K,H,hb,_,_,_,A⟩⟩:=h.own
 .obtain⟨_,B,_⟩:=B;omega
 .cases H;subst K;refine⟨b,d,a1,c1,a2,c2,rfl,rfl,hb.lt,λI=>y.2.2 b sm b (DR o I) rfl,o,r,λj v F=>?_,s,t,λx D u=>?_⟩
  .have z:=CZ L r F;have M:i*3+j<e.flatten.length:=(List.getElem?_eq_some_iff.1 z).1;rw[hb.cell,Nat.zero_add];have u:=A;have:(l.toList.take<|bs.length*3)[i*3+j]?=some v:=by rw[A];exact z
   rw[List.getElem?_take] at this;split at this
   .simpa using this
   .cases this
  .have f:(jK d).Nodup:=by
    have:∀{gss:List (Option Nat×Option Nat)} {i:Nat},(ix gss).Nodup->gss[i]?=some d->(jK d).Nodup:=by
     intro gss;induction gss with
     |nil=>intro i _ h;simp at h
     |cons p q J=>
      intro i f m;rw[Lh,List.nodup_append] at f;cases i with
      |zero=>simp at m;subst m;exact f.1
      |succ i=>exact J f.2.1<|by simpa using m
    exact this y.2.1 o
   simp[jK,D,u] at f
theorem ail (w:World):bB Tryz.prog 107 [str [],.int .i64 0,.int .i64 0] w λr w'=>r= .tuple #[.agg #[str [],.slice none 0 0],.int .i64 (-1)]/\ak [] w w':=by have a:=ak.refl [] w;refine kV [.cell 6 103,.tmp 7] 87 Tryz.func107 rfl KF rfl rfl rfl ?_;refine zr<|dx aM rfl rfl rfl λ_ i b _=>?_;have a:=a.grow;have a:=a.ext i;refine zA<|aW<|zr<|jG (HS _) rfl rfl<|dx aM rfl rfl rfl λ_ e f _=>?_;have a:=a.grow;have a:=a.ext e;have b:=b.grow;have b:=b.ext e;refine cI aM rfl rfl rfl f rfl λl d f _=>?_;have a:=a.aB d sx;have b:=b.aB d sx;refine aW<|jS<|zr<|zm<|Hk rfl rfl rfl rfl rfl<|zm ?_;apply C5 5 15 20 [15,16,17,18,19,20] (λw'=>l=w') rfl;intro c;replace c:=jq c;refine W ?_;exact mg rfl rfl;intro c;replace c:=jq c;refine W ?_;exact mg rfl rfl;rintro _ _ rfl;refine aW<|zc rfl (λg=>?_) λg=>?_;refine W ?_;refine cI aM rfl rfl rfl b rfl λ_ j b _=>?_;have a:=a.aB j sx;refine W ?_;exact⟨[_,_],⟨ga fJ aM rfl b rfl,rfl⟩,rfl,a⟩;simp at g
theorem Lj (s:aj) (L:List Nat) (w:World) (p:∀x∈L,x<w.heap.size):
  bB Tryz.prog 78 [str s] w λv w'=>(∃t d,v= .tuple #[d,.bool (bS s).isSome]/\bg L w' d t/\FE s t)/\ak [] w w':=by
 by_cases l:s=[]
 .subst l;have a:=ak.refl [] w;refine kV [.cell 2 103,.tmp 3] 20 Tryz.func78 rfl UB rfl rfl rfl ?_;refine zr<|dx aM rfl rfl rfl λz m b _=>?_;have a:=a.grow;have a:=a.ext m;refine W ?_;refine zc rfl (λc=>?_) λc=>?_;simp at c;refine iw<|zr<|zm<|aA (ail z) ?_;rintro _ _ ⟨rfl,j⟩;have A:=j.size;refine bN j a b λa b=>?_;refine W ?_;refine dx aM rfl rfl rfl λ_ g f _=>?_;have a:=a.grow;have a:=a.ext g;have b:=b.grow;have b:=b.ext g;refine cI aM rfl rfl rfl f rfl λ_ i f _=>?_;have a:=a.aB i sx;have b:=b.aB i sx;refine W ?_;refine cI aM rfl rfl rfl b rfl λ_ n b _=>?_;have a:=a.aB n sx;refine W ?_;exact⟨[_,_],⟨ga fJ aM rfl b rfl,rfl⟩,⟨.mk [] [],_,by rw[Vb];rfl,jI lB,λ_ h=>(by rw[Vb] at h;cases h),λ_=>rfl⟩,a⟩
 .obtain⟨c,o⟩:=zS s L w p;exact⟨c,Calls.mono o λe w' ⟨v,q,⟨t,d,y,u,r⟩,hk⟩=>⟨v,q,⟨t,d,y,u,r,λe=>absurd e l⟩,hk⟩⟩
theorem Gr.form {B:Nat} {T:TypeId} (h:Gr B L w T sz (.slice a n c) g rows) (f:0<rows.length):∃b,a=some ⟨b,0,none⟩/\g=some b:=by
 obtain⟨xs,d⟩:=h.own;rcases d.own.2 with⟨_,h0,_⟩|⟨b,_,_,e,hv,_⟩
 .omega
 .cases hv;exact⟨b,rfl,e⟩
theorem zX (b:List aj) (B:b.length<=1000000000) (s:aj) (v:Value) (L:List Nat) (w:World) (p:bu L w v b):bB Tryz.prog 104 [v,str s] w λr w'=>r= .bool (decide<|s∈b)/\ak [] w w':=by obtain⟨a,n,c,rfl,A⟩:=dX p;subst A;have d:=ak.refl [] w;refine bY [.tmp 4] 18 Tryz.func104 rfl adP rfl rfl ?_;refine W ?_;refine eJ (λk:Nat=>[(0,.slice a b.length c),(1,str s),(5,.int .i64 (k:Int))]) (λk w'=>ak [] w w'/\k<=b.length/\∀i,i<k->bP b i≠s) (λk=>b.length-k) (0) (⟨rfl,rfl,rfl⟩) (⟨d,om,by intro i j;omega⟩) λf _ _ y=>?_;obtain⟨d,hk,m⟩:=y;refine W ?_;refine zc rfl (λu=>?_) λu=>?_;have o:=jx (xs:=b) (i:=f) om;obtain⟨_,_,rfl,q⟩:=nv p o;refine WL ?_;refine zl fS rfl (q.ext d 0 _ rfl)<|zm<|C1 rfl rfl rfl rfl<|aW<|zc rfl (λg=>?_) λg=>?_;have l:s∈b:=(by rw[<-g];exact List.mem_of_getElem? o);refine W ?_;exact⟨_,rfl,by rw[dT l];rfl,d⟩;have t:=g;refine W ?_;exact⟨f+1,⟨rfl,rfl,rfl⟩,⟨d,om,by intro i j;rcases Nat.lt_or_ge i f with h|h;exact m i h;rw[show i=f by omega];exact t⟩,om⟩;have l:¬s∈b:=(λz=>by obtain⟨i,j,e⟩:=List.getElem_of_mem z;exact m i om<|by simp[bP,gE j,e]);refine W ?_;exact⟨_,rfl,by rw[dF l];rfl,d⟩
theorem aim (h:n<10):(48:Int)+(n:Int)=((UInt8.ofNat<|48+n).toNat:Int):=by have:=Wf n;rwa [Nat.mod_eq_of_lt h] at this
def DS (z:Int) (v:Value) (w:World):Prop:=∃b,v= .slice (some ⟨b,0,none⟩) 1 1/\aJ w b [.int .u8 z].toArray 5
theorem DS.ext {z:Int} (h:DS z v w) (k:ak [] w w'):DS z v w':=by obtain⟨b,e,h⟩:=h;exact⟨b,e,h.ext k⟩
theorem FX:∀(m n:Nat),n<=m->(aS n).length<=n+1
 |m,n,h=>by
  rw[aS];by_cases a:n<10
  .rw[iP a];simp
  .rw[iN a];cases m with
   |zero=>omega
   |succ m=>have:=FX m (n/10) om;simp only[lA,List.length_singleton];omega
theorem jg:∀(m n:Nat),n<m->n<=1000000->∀w:World,bB Tryz.prog 111 [.int .i64 (n:Int)] w λr w'=>r=str (aS n)/\ak [] w w':=by
 intro m;induction m with
 |zero=>intro n A;omega
 |succ m B=>
  intro n A _ w;have d:=ak.refl [] w;have F:=FX _ (n/10)<|lR _;refine bY [.tmp 2] 28 Tryz.func111 rfl adV rfl rfl ?_;refine W ?_;refine zc rfl (λu=>?_) λu=>?_;omega;refine W ?_;refine zc rfl (λy=>?_) λy=>?_;omega;refine W ?_;refine zc rfl (λz=>?_) λz=>?_;refine W ?_;refine zq xY zG rfl rfl rfl (wrap_u8 _ om om)<|fX Du HT rfl rfl λf c C _=>?_;have d:=d.ext c;refine Wc Du zG jb rfl rfl rfl C (aim om)<|zA<|aW<|kF ?_;exact⟨_,rfl,congrArg str<|show[UInt8.ofNat (48+n)]=aS n from by rw[aS,iP om],d⟩;have t:¬n<10:=by omega
  refine WZ ?_;apply qx dj cE 10 (rA 18 10) (rA 18 10) [[],[0],[1],[],[3],[4],[5],[6],[7],[2,8]] [.v _,.v _,.v _,.v _,.v _,.v _,.v _,.p<|fun(v:Value) (g:World)=>DS ((48:Int)+((n%10:Nat):Int)) v g,.v<|str [UInt8.ofNat (48+n%10)],.v (str<|aS (n/10)++[UInt8.ofNat (48+n%10)])] de (by exact(bU<|bU (bU<|bU (bU<|bU (bU<|qq (λv w w' h k=>DS.ext h k) (bU<|bU trivial))))));intro _ aC;refine cZ (λ_ _ _=>WZ<|ck cE) ?_;refine cZ (λ_ _ _=>Ny (b:=10) rfl rfl rfl rfl rfl om (wrap_i64 _ om om)<|ck cE) ?_;refine jj cE aC (λx f c=>?_) ?_;refine aA (B (n/10) om om f) ?_;rintro _ D ⟨rfl,i⟩;have E:=i.size;exact HQ cE i;refine cZ (λ_ _ _=>WZ<|ck cE) ?_;refine cZ (λ_ _ _=>Hm (b:=10) rfl rfl rfl rfl rfl om<|ck cE) ?_;refine cZ (λ_ _ _=>WZ<|ck cE) ?_;refine cZ (λ_ _ _=>zq xY zG rfl rfl rfl (wrap_u8 _ om om)<|ck cE) ?_;refine fz ?_ ?_;intro x vs f e c l a;have d6:vs 6=(.int .u8<|(48:Int)+((n%10:Nat):Int)):=l;replace c:=cE.trans aC c;replace a:e=ba (aZ _ x _) [(24,vs 6)]:=a;rw[d6] at a;subst a;refine fX Du HT rfl rfl λD i j _=>W ?_;exact dn (cE.of i) ⟨_,rfl,j⟩;refine fz ?_ ?_;intro x vs f e c l a;have d7:(fun(v:Value) (g:World)=>DS ((48:Int)+((n%10:Nat):Int)) v g) (vs 7) f:=l;replace c:=cE.trans aC c;replace a:e=ba (aZ _ x _) [(25,vs 7)]:=a;obtain⟨_,s,j⟩:=d7;rw[s] at a;subst a;refine Wc Du zG jb rfl rfl rfl j (Wf n)<|aW ?_;exact dn (cE.refl _) rfl;refine cZ (λ_ _ _=>WZ<|ck cE) ?_;exact trivial;intro x p q;intro o d7;replace d7:(fun(v:Value) (g:World)=>DS ((48:Int)+((n%10:Nat):Int)) v g) o p:=d7;have d:=d.ext q;change OW _ _ _ _ _ (ba (aZ _ x _)<|zZ 18 [_,_,_,_,_,_,_,o,_,_]) _;refine W ?_;exact⟨_,rfl,congrArg str<|show aS (n/10)++[UInt8.ofNat (48+n%10)]=aS n from by conv=>(rhs;rw[aS,iN t]),d⟩
theorem Ca (s:aj) (w:World):bB Tryz.prog 188 [str s] w λr w'=>r= .agg #[str s,.slice none 0 0]/\ak [] w w':=by have a:=ak.refl [] w;refine kV [.cell 2 103] 5 Tryz.func188 rfl ae6 rfl rfl rfl ?_;refine zr<|dx aM rfl rfl rfl λ_ c b _=>?_;have a:=a.grow;have a:=a.ext c;refine aW<|zr<|zm<|jG (agr _ _) rfl rfl<|cI aM rfl rfl rfl b rfl λ_ d b _=>?_;have a:=a.aB d sx;refine W ?_;exact⟨[_],ga fJ aM rfl b rfl,rfl,a⟩
theorem eh.sub {L':List Nat} {T:TypeId} (h:eh L w T sz v g rows) (c:∀x∈L',x∈L\/w.heap.size<=x):eh L' w T sz v g rows:=by obtain⟨xs,a,b⟩:=h.own;exact⟨⟨xs,a,b.fresh c⟩,h.row⟩
structure KA (L:List Nat) (T:TypeId) (sz:Nat) (g:Option Nat) (rows rows':List (List C)) (w w':World):Prop where
 aG:ak g.toList w w'
 old:∀v,eh (g.toList++L) w T sz v g rows->eh (g.toList++L) w' T sz v g rows
 new:∀v g',eh (g.toList++(g'.toList++L)) w T sz v g' rows'->eh (g.toList++(g'.toList++L)) w' T sz v g' rows'
theorem eh.any {T:TypeId} (h:eh L w T sz v g rows) (k:ak [] w w'):eh L w' T sz v g rows:=h.aG (Fr.of k sm) k sm
theorem Wg (L:List Nat) (T:TypeId) (c:Nat) (g:Option Nat) (rows a:List (List C)):Kept (KA L T c g rows a):=
 ⟨λ_=>⟨ak.refl _ _,λ_ h=>h,λ_ _ h=>h⟩,λh k=>⟨h.aG.trans k.aG,λv x=>k.old v<|h.old v x,λv b x=>k.new v b<|h.new v b x⟩,
  λh=>⟨h.any,λ_ x=>x.any h,λ_ _ x=>x.any h⟩⟩
section
variable {P:Program} {w:World}
theorem ain {t ty T:TypeId} {i:TypeInfo} {K bytes:Nat} (U:P.underlying t=some (.slice T)) (S:P.info? T=some i) (hz:i.zero=some z) 
  (CX:i.size=K) (ig:i.bytes=bytes) (zk:z.cells.size=K) {L:List Nat}
  {v:Value} {g:Option Nat} {rows:List (List C)} {row:List C} (hO:eh (g.toList++L) w T K v g rows)
  (E c:Nat) (a:List Value) (iK:row.length=K) (CY:fP w E 0 a) (y:∀u∈a,u.oneCell'=true) (q:dz (g.toList++L) w a row)
  (hb:(rows.length+1)*(bytes+1)<=140737488355328):
  ∃v' H w',(Builtin.append_ #[t,t] ty #[v,.slice (some ⟨E,0,none⟩) 1 c]).run P w= .ok v' w'/\eh (g.toList++(H.toList++L)) w' T K v' H (rows++[row])/\KA L T K g rows (rows++[row]) w w'/\
   (H=g\/H=some w.heap.size):=by
 subst CX;subst ig;obtain⟨xs,F,V⟩:=hO.own;have aV:(rows.length+1)*i.bytes+(rows.length+1)<=140737488355328:=by rw[Nat.mul_add,Nat.mul_one] at hb;exact hb
 have A6:rows.length+1<=maxLen:=by unfold maxLen;omega
 have zo:(rows.length+1)*i.bytes<=140737488355328:=by omega
 have I:a.length=1*i.size:=by rw[q.length,iK,Nat.one_mul]
 have J4:rows.length+1<=9223372036854775807:=by simp only[maxLen] at A6;omega
 have f:(xs++a).length=(rows.length+1)*i.size:=by rw[lA,F.1,I,Nat.add_mul]
 have xM:∀b o j:Nat,(⟨b,o,none⟩:Addr).add j=⟨b,o+j,none⟩:=λb o j=>by unfold Addr.add;split<;>simp_all
 have wy:∀j u,a[j]?=some u->w.cell? ((⟨E,0,none⟩:Addr).add j)=some u:=λj u J=>by rw[xM];exact CY j u J
 have Wh:∀r∈rows++[row],r.length=i.size:=λr e=>by
  rcases mA.1 e with e|e
  .exact hO.row r e
  .simp at e;rw[e];exact iK
 have X:(rows++[row]).flatten=rows.flatten++row:=by simp
 have p:∀(old:Nat),old<rows.length+1->
   eh (g.toList++((some w.heap.size).toList++L)) (w.drew.alloc<|.cells (xs.toArray++a.toArray++Builtin.zeroCells z.cells (grownCap w (rows.length+1) old T-(rows.length+1))) T) T i.size
    (.slice (some ⟨w.heap.size,0,none⟩) (rows.length+1)<|grownCap w (rows.length+1) old T) (some w.heap.size) (rows++[row])/\
   ak [] w (w.drew.alloc<|.cells (xs.toArray++a.toArray++Builtin.zeroCells z.cells (grownCap w (rows.length+1) old T-(rows.length+1))) T):=by
  intro old _;have sP:=grownCap_ge w (rows.length+1) old T;have Y:grownCap w (rows.length+1) old T<=maxLen:=grownCap_le_maxLen w (rows.length+1) old T A6;have hk:ak [] w (w.drew.alloc<|.cells (xs.toArray++a.toArray++Builtin.zeroCells z.cells (grownCap w (rows.length+1) old T-(rows.length+1))) T):=⟨rfl,rfl,rfl,sm,λk hk _=>(ak.alloc [] w.drew _).block k hk sm⟩;refine⟨⟨⟨xs++a,⟨by simpa using f,.inr ⟨w.heap.size,_,_,rfl,?_,heap_alloc_new w.drew _,?_,Y,?_,?_⟩⟩,?_⟩,Wh⟩,hk⟩
  .simp
  .simpa using sP
  .simp only[Array.size_append,List.size_toArray,size_zeroCells,zk,F.1,I,<-Nat.add_mul]
   congr 1
   omega
  .simp only[Array.toList_append,List.append_assoc];rw[<-List.append_assoc,lA,List.length_singleton,<-f];exact List.take_left
  .rw[X];refine((V.append q).fresh (L':=g.toList++((some w.heap.size).toList++L)) λx e=>?_).aG hk.any;rcases mA.1 e with e|e
   .exact .inl<|by simp[e]
   .rcases mA.1 e with e|e
    .right;simp at e;omega
    .exact .inl<|by simp[e]
 rcases F.2 with⟨rfl,xe,rfl⟩|⟨b,cap,cur,rfl,rfl,hb,nj,Y,cD,uY⟩
 .have e:xs=[]:=List.eq_nil_of_length_eq_zero (by rw[F.1,xe];simp);subst e;have q:=run_append_nil (P:=P) w t ty T i z U S hz ⟨E,0,none⟩ 1 c a I wy om om (by rw[xe] at zo;simp only[Nat.zero_add] at zo;omega);have B:=p 0 om;rw[xe] at B;simp only[Nat.zero_add,List.nil_append,Array.empty_append] at B⊢;exact⟨_,some w.heap.size,_,q,B.1,(Wg L T i.size none rows<|rows++[row]).of B.2,.inr rfl⟩
 .by_cases tQ:rows.length+1<=cap
  .have l3:rows.length*i.size+a.length<=cur.size:=by rw[I,cD,<-Nat.add_mul];exact Nat.mul_le_mul_right _ tQ
   have j9:=run_append_room (P:=P) w t ty T i U S b rows.length cap cur hb ⟨E,0,none⟩ 1 c a I wy y tQ l3;have D:ak [b] w (w.setRow b (cur.toList.take (rows.length*i.size)++a++cur.toList.drop (rows.length*i.size+a.length)).toArray):=⟨rfl,rfl,rfl,sm,λk _ hk=>setRow_other w b k _<|by simpa using hk⟩;have Pv:aJ (w.setRow b (cur.toList.take (rows.length*i.size)++a++cur.toList.drop (rows.length*i.size+a.length)).toArray) b (cur.toList.take (rows.length*i.size)++a++cur.toList.drop (rows.length*i.size+a.length)).toArray T:=setRow_heap w b cur _ T _ hb;have fV:(cur.toList.take (rows.length*i.size)++a++cur.toList.drop (rows.length*i.size+a.length)).toArray.size=cap*i.size:=by simp only[List.size_toArray,lA,List.length_take,List.length_drop,Array.length_toList];omega
   have Wi:(cur.toList.take (rows.length*i.size)++a++cur.toList.drop (rows.length*i.size+a.length)).take ((rows.length+1)*i.size)=xs++a:=by rw[uY,<-f];exact List.take_left
   have R:(cur.toList.take (rows.length*i.size)++a++cur.toList.drop (rows.length*i.size+a.length)).take (rows.length*i.size)=xs:=by rw[uY,<-F.1,List.append_assoc];exact List.take_left
   -- whoever owns block b,owns it with this size
   have l:∀(v:Value) (n:Nat) (m:List Value),jv w T i.size v (some b) n m->∃d,v= .slice (some ⟨b,0,none⟩) n d/\n<=d/\d<=maxLen/\d*i.size=cap*i.size/\m=cur.toList.take (n*i.size):=by
    intro v n m s;rcases s.2 with⟨_,_,h⟩|⟨b',d,cur',e',N,gX,Q,Z,O,pb⟩
    .cases h
    .cases e';have:cur'=cur:=by have M:=gX.symm.trans hb;simpa using M
     subst this;exact⟨d,N,Q,Z,by rw[<-O,cD],pb.symm⟩
   have wr:∀(v:Value) (n:Nat),(∃d,v=Value.slice (some ⟨b,0,none⟩) n d/\n<=d/\d<=maxLen/\d*i.size=cap*i.size)->∀m:List Value,m.length=n*i.size->(cur.toList.take (rows.length*i.size)++a++cur.toList.drop (rows.length*i.size+a.length)).take (n*i.size)=m->
     jv (w.setRow b (cur.toList.take (rows.length*i.size)++a++cur.toList.drop (rows.length*i.size+a.length)).toArray) T i.size v (some b) n m:=by
    rintro v n ⟨d,N,Q,Z,O⟩ m hy fG;exact⟨hy,.inr ⟨b,d,_,rfl,N,Pv,Q,Z,by rw[fV,O],fG⟩⟩
   refine⟨_,some b,_,j9,⟨⟨xs++a,wr _ _ ⟨cap,sm,by simpa using tQ,Y,rfl⟩ _ (by simpa using f)<|by simpa using Wi,?_⟩,Wh⟩,⟨D,λv s=>?_,λv H s=>?_⟩,.inl rfl⟩
   .rw[X];exact((V.append q).fresh λx e=>.inl (by simp only[mA] at e⊢;rcases e with h|h|h;exact .inl h;exact .inl h;exact .inr h)).aG (D.mono λx e=>by simp at e;simp[e])
   .obtain⟨m,y,M⟩:=s.own;obtain⟨d,a1,a2,a3,a4,a5⟩:=l _ _ _ y;refine⟨⟨m,wr _ _ ⟨d,a1,a2,a3,a4⟩ _ y.1 ?_,M.aG (D.mono λx e=>by simp at e;simp[e])⟩,s.row⟩;rw[R,a5,uY]
   .obtain⟨m,y,M⟩:=s.own;by_cases Cb:H=some b
    .subst Cb;obtain⟨d,a1,a2,a3,a4,a5⟩:=l _ _ _ y;refine⟨⟨xs++a,wr _ _ ⟨d,a1,a2,a3,a4⟩ _ (by simpa using f)<|by simpa using Wi,?_⟩,s.row⟩;rw[X];exact((V.append q).fresh λx e=>.inl (by simp only[mA] at e⊢;rcases e with h|h|h;exact .inl h;exact .inl h;exact .inr h)).aG (D.mono λx e=>by simp at e;simp[e])
    .exact⟨⟨m,y.aG D λx e fW=>Cb (by simp at fW;rw[e,fW]),M.aG (D.mono λx e=>by simp at e;simp[e])⟩,s.row⟩
  .have A:∀j u,xs[j]?=some u->w.cell? ((⟨b,0,none⟩:Addr).add j)=some u:=λj u J=>by
    rw[xM,hb.cell];rw[<-uY,List.getElem?_take] at J;split at J
    .simpa using J
    .cases J
   have q:=run_append_grow (P:=P) w t ty T i z U S hz ⟨b,0,none⟩ rows.length cap xs F.1 A ⟨E,0,none⟩ 1 c a I wy om om<|growslice_fits om zo;have B:=p cap om;exact⟨_,some w.heap.size,_,q,B.1,(Wg L T i.size (some b) rows<|rows++[row]).of B.2,.inr rfl⟩
end
section
variable {P:Program} {n:Nat} {ops:Array Oper} {K:Env->World->Prop} {rest:List Oper} {e:Env} {w:World}
 {dst:Option Nat} {ty:TypeId} {pos:String} {after:Array Edge} {g:Option (Nat×Bool)} {x y:Operand}
theorem DU {L:List Nat} {t:Nat} {v:Value} {f:Option Nat} {rows:List (List C)} {row:List C} {a:List Value} {b c:Nat} (s:P.underlying t=some (.slice E)) (q:TI P E sz bytes z) (D:gate ops e g=true) (B:cC n dst=true) (M:Nat.beq z.cells.size sz=true) (O:Nat.ble bytes 1000=true) 
  (I:ev e x=v) (J:ev e y= .slice (some ⟨b,0,none⟩) 1 c) (r:eh (f.toList++L) w E sz v f rows) (N:row.length=sz) (A:fP w b 0 a) (p:∀u∈a,u.oneCell'=true)
  (H:dz (f.toList++L) w a row) (U:rows.length<100000000)
  (k:∀j d w',eh (f.toList++(d.toList++L)) w' E sz j d (rows++[row])->KA L E sz f rows (rows++[row]) w w'->(d=f\/d=some w.heap.size)->OW P n ops K rest (bW e dst j) w'):
  OW P n ops K (⟨dst,.call {callee:=.builtin .append,args:=#[x,y],argTypes:=#[t,t]},ty,pos,after,g⟩::rest) e w:=by
 obtain⟨i,F,l,o,m⟩:=q.get;have T:bytes<=1000:=Nat.le_of_ble_eq_true O;obtain⟨j,d,w',Q,S,hk,R⟩:=ain (P:=P) (ty:=ty) s F l o m (Nat.eq_of_beq_eq_true M) r b c a N A p H
  (Nat.le_trans (Nat.mul_le_mul (show rows.length+1<=100000000 by omega)<|show bytes+1<=1001 by omega) de)
 exact fC D B (w':=w') (by simp only[execOp,resolve,invoke,builtin,Sem.run_bind,Sem.run_pure,Result.andThen_ok,List.map_toArray,List.map_cons,List.map_nil,I,J,Q])<|k j d w' S hk R
end
/-! ### Behind it -/
theorem Px:∀{vs:List Value} {xs:List aj},dz L w vs (fQ xs).flatten->vs=xs.map λx=>str x
 |[],[],_=>rfl
 |v::vs,x::xs,h=>by obtain⟨a,b⟩:=h;cases a;rw[Px (xs:=xs) b];rfl
theorem eh.tV {T:TypeId} (h:eh L w T 1 v g (fQ xs)):cV w T v g xs:=by obtain⟨vs,a,b⟩:=h.own;rw[pR,Px b] at a;exact a
theorem Wj (L:List Nat) (w:World):∀xs:List aj,dz L w (xs.map λx=>str x) (fQ xs).flatten
 |[]=>trivial
 |_::xs=>⟨.val _,Wj L w xs⟩
theorem cV.Wk {T:TypeId} (h:cV w T v g xs) (L:List Nat):eh L w T 1 v g (fQ xs):=
 ⟨⟨_,h.ahM,Wj L w xs⟩,λrow a=>by obtain⟨x,_,rfl⟩:=List.mem_map.1 a;rfl⟩
theorem Wl (a:List aj) (x:aj):fQ a++[[.val (str x)]]=fQ (a++[x]):=by simp[fQ]
theorem aip (a:List Nat) (x:Nat):vC a++[[.val (.int .i64 (x:Int))]]=vC (a++[x]):=by simp[vC]
section
variable {τ:uj} {E L:List Nat} {w w':World} {b:Nat} {o:Bool} {vb vt vc vy:Value} {gb gt gc gy:Option Nat} {m:Mk}
def qK (E:List Nat) (b:Nat) (a c d:Option Nat):List Nat:=E++b::(a.toList++(c.toList++d.toList))
theorem zY:x∈qK E b gb gt gy↔x∈E\/x=b\/x∈gb.toList\/x∈gt.toList\/x∈gy.toList:=by simp[qK]
theorem im.Py (h:im τ E L w b o vb vt vc vy gb gt gc gy m):bu (qK E b gb gt gy) w vc m.code:=by
 obtain⟨a1,a2,a3,a4,a5,a6⟩:=h.apart;rcases h.co with⟨_,h1⟩|⟨_,hn,h1⟩
 .refine h1.rep λx d a=>?_;have c:x∈gc.toList:=by simp[d]
  rw[zY] at a;rcases a with a|a|a|a|a
  .exact(a5 x c).1 a
  .exact(a5 x c).2.1 a
  .exact(a5 x c).2.2.1 a
  .exact(a5 x c).2.2.2 a
  .exact(a6 x a).2.2.2.2 c
 .exact h1.fresh λx d=>.inl<|h.mem.2 (by rw[zY] at d;rcases d with h|h|h|h|h<;>simp[h])
theorem im.Wm (h:im τ E L w b o vb vt vc vy gb gt gc gy m):∀x,x∈qK E b gb gt gy->x∈L:=λx a=>h.mem.2 (by rw[zY] at a;rcases a with h|h|h|h|h<;>simp[h])
theorem im.aiq (h:im τ E L w b o vb vt vc vy gb gt gc gy m) (c:eh (gb.toList++(g.toList++qK E b gb gt gy)) w' τ.B 3 v g (bs.map Bk.enc)) (k:ak gb.toList w w') (i:g=gb\/∃x,g=some x/\w.heap.size<=x):
  ∃L',im τ E L' w' b false v vt vc vy g gt none gy {m with blocks:=bs}/\Fr L w L' w':=by
 obtain⟨a1,a2,a3,a4,a5,a6⟩:=h.apart;have q:∀x∈g.toList,x∈gb.toList\/w.heap.size<=x/\x∉gt.toList/\x∉(none:Option Nat).toList/\x∉gy.toList:=λx a=>by
  rcases i with rfl|⟨y,rfl,c⟩
  .exact .inl a
  .have a:x=y:=by simpa using a
   refine .inr ⟨by omega,λj=>?_,sm,λj=>?_⟩<;>have:=h.K4 (x:=x) (by simp[j])<;>omega
 obtain⟨f,p⟩:=h.swap k (λx a=>⟨h.mem.2<|by simp[a],(a3 x a).2,(a3 x a).1⟩) (gb':=g) (gt':=gt) (gc':=none) (gy':=gy) q (λx a=>.inl a) (λx a=>by simp at a) λx a=>.inl a;have e:bu (E++b::(g.toList++(gt.toList++((none:Option Nat).toList++gy.toList)))) w' vc m.code:=by
  have l:bu (qK E b gb gt gy) w' vc m.code:=cg.aB h.Py k λx a=>zY.2 (by simp[a]);have n:bu (g.toList++qK E b gb gt gy) w' vc m.code:=by
   rcases i with rfl|⟨y,rfl,c⟩
   .exact l.fresh λx a=>.inl (by rcases mA.1 a with h|h;exact zY.2 (by simp[h]);exact h)
   .exact cg.aB (h.Py.fresh (L':=(some y).toList++qK E b gb gt gy) λx a=>by
     rcases mA.1 a with h|h
     .simp at h;right;omega
     .exact .inl h) k λx a=>mR _ (zY.2<|by simp[a])
  exact n.fresh λx a=>.inl (by
   rw[zP] at a;rw[mA,zY];rcases a with h|h|h|h|h|h
   .simp[h]
   .simp[h]
   .simp[h]
   .simp[h]
   .simp at h
   .simp[h])
 refine⟨_,⟨c.sub λx a=>.inl ?_,h.ta.aG f k λx a c=>(a4 x a).2.2 c,.inr ⟨rfl,rfl,e⟩,h.ty.aG k λx a c=>(a6 x<|by simp[a]).2.2.1 c,rfl,p,?_⟩,f⟩
 .rw[zP] at a;rw[mA,mA,zY];rcases a with h|h|h|h|h|h
  .simp[h]
  .simp[h]
  .simp[h]
  .simp[h]
  .simp at h
  .simp[h]
 .intro x a;rw[zP] at a;have d:=k.size;rcases a with a|a|a|a|a|a
  .exact lL (h.cN x (h.mem.2<|by simp[a])) d
  .exact lL (h.cN x (h.mem.2<|by simp[a])) d
  .exact c.lt x a
  .exact lL (h.cN x (h.mem.2<|by simp[a])) d
  .simp at a
  .exact lL (h.cN x (h.mem.2<|by simp[a])) d
theorem im.dS (h:im τ E L w b o vb vt vc vy gb gt gc gy m) {j:List Tk} (c:eh (gt.toList++(g.toList++L)) w' τ.T 12 v g (j.map Tk.enc)) (k:ak gt.toList w w') (n:g=gt\/∃x,g=some x/\w.heap.size<=x):
  ∃i,im τ E i w' b o vb v vc vy gb g gc gy {m with bM:=j}/\Fr L w i w':=by
 obtain⟨a1,a2,a3,a4,a5,a6⟩:=h.apart;have p:∀x∈g.toList,x∈gt.toList\/w.heap.size<=x/\x∉gb.toList/\x∉gc.toList/\x∉gy.toList:=λx a=>by
  rcases n with rfl|⟨y,rfl,c⟩
  .exact .inl a
  .have a:x=y:=by simpa using a
   refine .inr ⟨by omega,λf=>?_,λf=>?_,λf=>?_⟩<;>have:=h.K4 (x:=x) (by simp[f])<;>omega
 obtain⟨e,l⟩:=h.swap k (λx a=>⟨h.mem.2<|by simp[a],(a4 x a).2.1,(a4 x a).1⟩) (gb':=gb) (gt':=g) (gc':=gc) (gy':=gy) (λx a=>.inl a) p (λx a=>.inl a) λx a=>.inl a;refine⟨_,⟨h.bl.aG e k λx a c=>(a4 x c).2.2 a,c.sub λx a=>.inl ?_,?_,h.ty.aG k λx a c=>(a6 x<|by simp[a]).2.2.2.1 c,rfl,l,?_⟩,e⟩
 .rw[zP] at a;rw[mA,mA,h.mem];rcases a with h|h|h|h|h|h<;>simp[h]
 .rcases h.co with⟨ho,h1⟩|⟨ho,hn,h1⟩
  .exact .inl ⟨ho,h1.aG k λx a c=>(a5 x<|by simp[a]).2.2.2 c⟩
  .exact .inr ⟨ho,hn,h1.go e⟩
 .intro x a;rw[zP] at a;have d:=k.size;rcases a with a|a|a|a|a|a
  .exact lL (h.cN x (h.mem.2<|by simp[a])) d
  .exact lL (h.cN x (h.mem.2<|by simp[a])) d
  .exact lL (h.cN x (h.mem.2<|by simp[a])) d
  .exact c.lt x a
  .exact lL (h.cN x (h.mem.2<|by simp[a])) d
  .exact lL (h.cN x (h.mem.2<|by simp[a])) d
theorem im.num (h:im τ E L w b o vb vt vc vy gb gt gc gy m) (c:Nat) (q:Bool):im τ E L w b o vb vt vc vy gb gt gc gy {m with count:=c,wide:=q}:=⟨h.bl,h.ta,h.co,h.ty,h.eL,h.nd,h.cN⟩
end
theorem Fr.in {G c:List Nat} (h:Fr G w c w') (E:List Nat):Fr (E++G) w (E++c) w':=
 ⟨h.aG.mono λx a=>mR _ a,λx a=>by
  rcases mA.1 a with a|a
  .exact .inl<|List.mem_append_left _ a
  .rcases h.mem x a with b|b
   .exact .inl<|mR _ b
   .exact .inr b⟩
structure z1 where
 M:TypeId
 S:TypeId
 T:TypeId
structure js (τ:z1) (E G:List Nat) (w:World) (b:Nat) (vt vn ve:Value) (gn ge:Option Nat) (ai aL:List aj) (exprs:List aq):Prop where
 ta:bu (E++G) w vt ai
 na:cV w τ.S vn gn aL
 ex:eh (E++G) w τ.T 2 ve ge (di exprs)
 eG:G=b::(gn.toList++ge.toList)
 nd:(E++G).Nodup
 cN:∀x∈E++G,x<w.heap.size
section
variable {τ:z1} {E G:List Nat} {w w':World} {b:Nat} {vt vn ve:Value} {gn ge:Option Nat} {ai aL:List aj} {exprs:List aq}
theorem js.mem (h:js τ E G w b vt vn ve gn ge ai aL exprs):x∈G↔x=b\/x∈gn.toList\/x∈ge.toList:=by rw[h.eG];simp
theorem js.apart (h:js τ E G w b vt vn ve gn ge ai aL exprs):E.Nodup/\b∉E/\(∀x∈gn.toList,x∉E/\x≠b)/\(∀x∈ge.toList,x∉E/\x≠b/\x∉gn.toList):=by have g:=h.nd;rw[h.eG,List.nodup_append,List.nodup_cons,List.nodup_append] at g;obtain⟨i,⟨f,_,_,j⟩,c⟩:=g;refine⟨i,λhb=>c b hb b sm rfl,λx a=>⟨λd=>c x d x (by simp[a]) rfl,λe=>f<|by simp[<-e,a]⟩,λx a=>⟨λd=>c x d x (by simp[a]) rfl,λe=>f<|by simp[<-e,a],λl=>j x l x a rfl⟩⟩
theorem Wn {A B:Option Nat} {F:List Nat} {b:Nat} (a:F.Nodup) (c:b∉F) (d:∀x∈A.toList,x∉F/\x≠b) (hb:∀x∈B.toList,x∉F/\x≠b/\x∉A.toList):(F++b::(A.toList++B.toList)).Nodup:=by grind
theorem js.Wo (h:js τ E G w b vt vn ve gn ge ai aL exprs) {n:List aj} (d:cV w' τ.S v g n) (k:ak gn.toList w w') (q:g=gn\/g=some w.heap.size):
  ∃m,js τ E m w' b vt v ve g ge ai n exprs/\Fr G w m w':=by
 obtain⟨a1,a2,a3,a4⟩:=h.apart;have l:∀x∈g.toList,x∈gn.toList\/x=w.heap.size:=λx a=>by
  rcases q with rfl|rfl
  .exact .inl a
  .right;simpa using a
 have f:∀x∈E++G,x≠w.heap.size:=λx a e=>by have:=h.cN x a;omega
 have i:Fr G w (b::(g.toList++ge.toList)) w':=⟨k.mono λx a=>h.mem.2<|by simp[a],λx a=>by
  rcases mC.1 a with rfl|a
  .exact .inl (h.mem.2<|.inl rfl)
  .rcases mA.1 a with a|a
   .rcases l x a with c|c
    .exact .inl (h.mem.2<|by simp[c])
    .right;omega
   .exact .inl (h.mem.2<|by simp[a])⟩
 have o:(E++b::(g.toList++ge.toList)).Nodup:=Wn a1 a2 (λx a=>by
  rcases l x a with c|c
  .exact a3 x c
  .exact⟨λp=>f x (by simp[p]) c,λe=>f x (mR _ (h.mem.2<|.inl e)) c⟩) (λx a=>⟨(a4 x a).1,(a4 x a).2.1,λd=>by
  rcases l x d with c|c
  .exact(a4 x a).2.2 c
  .exact f x (mR _ (h.mem.2<|by simp[a])) c⟩)
 refine⟨_,⟨h.ta.go<|i.in E,d,h.ex.aG (i.in E) k λx a d=>(a4 x a).2.2 d,rfl,o,λx a=>?_⟩,i⟩;have j:=k.size;rcases mA.1 a with a|a
 .exact lL (h.cN x<|by simp[a]) j
 .rcases mC.1 a with rfl|a
  .exact lL (h.cN x<|mR _ (h.mem.2<|.inl rfl)) j
  .rcases mA.1 a with a|a
   .exact d.lt x a
   .exact lL (h.cN x<|mR _ (h.mem.2<|by simp[a])) j
theorem js.aG (h:js τ E G w b vt vn ve gn ge ai aL exprs) {H:List Nat} (k:ak H w w') (c:∀x∈H,x=b):js τ E G w' b vt vn ve gn ge ai aL exprs:=by obtain⟨a1,a2,a3,a4⟩:=h.apart;have e:Fr (E++G) w (E++G) w':=Fr.of k λx a=>mR _<|h.mem.2 (.inl<|c x a);exact⟨h.ta.go e,h.na.aG k λx a d=>(a3 x<|by simp[a]).2<|c x d,h.ex.aG e k λx a d=>(a4 x a).2.1<|c x d,h.eG,h.nd,λx a=>lL (h.cN x a) k.size⟩
theorem Pz {w:World} {T:TypeId} (a:aJ w x #[] T):jv w T sz (.slice (some ⟨x,0,none⟩) 0 0) (some x) 0 []:=by grind [aJ,jv]
theorem Wp {w:World} {T:TypeId} (a:aJ w x #[] T):cV w T (.slice (some ⟨x,0,none⟩) 0 0) (some x) []:=Pz a
theorem PA {w:World} {T:TypeId} (a:aJ w x #[] T):eh L w T sz (.slice (some ⟨x,0,none⟩) 0 0) (some x) []:=⟨⟨[],Pz a,trivial⟩,sm⟩
theorem js.opened (h:js τ E G w b vt vn ve gn ge ai aL exprs) (k:ak [b] w w') {y:Nat} (m:aJ w' x #[] τ.S) (f:aJ w' y #[] τ.T) (r:w.heap.size<=x) (s:x<y):
  js τ (gn.toList++(ge.toList++E)) (b::[x,y]) w' b vt (.slice (some ⟨x,0,none⟩) 0 0) (.slice (some ⟨y,0,none⟩) 0 0) (some x) (some y) ai [] []/\
   cV w' τ.S vn gn aL/\eh (E++G) w' τ.T 2 ve ge (di exprs)/\Fr G w (b::[x,y]) w':=by
 obtain⟨a1,a2,a3,a4⟩:=h.apart;have g:∀z∈E++G,z<w.heap.size:=h.cN;have n:Fr (E++G) w ((gn.toList++(ge.toList++E))++(b::[x,y])) w':=⟨k.mono λz a=>mR _<|h.mem.2 (.inl<|by simpa using a),λz a=>by
  simp only[mA,mC,List.not_mem_nil,or_false] at a;rcases a with(a|a|a)|a|a|a
  .exact .inl (mR _<|h.mem.2 (.inr<|.inl a))
  .exact .inl (mR _<|h.mem.2 (.inr<|.inr a))
  .exact .inl<|List.mem_append_left _ a
  .exact .inl<|mR _ (h.mem.2<|.inl a)
  .right;omega
  .right;omega⟩
 have o:Fr (E++G) w (E++G) w':=Fr.of k λz a=>mR _<|h.mem.2 (.inl<|by simpa using a);have hb:b<w.heap.size:=g b<|mR _ (h.mem.2<|.inl rfl);have j:∀z∈gn.toList,z<w.heap.size:=λz a=>g z (mR _<|h.mem.2 (.inr<|.inl a));have l:∀z∈ge.toList,z<w.heap.size:=λz a=>g z (mR _<|h.mem.2 (.inr<|.inr a));have i:∀z∈E,z<w.heap.size:=λz a=>g z<|List.mem_append_left _ a;refine⟨⟨h.ta.go n,Wp m,PA f,rfl,?_,?_⟩,h.na.aG k λz a f=>(a3 z<|by simp[a]).2<|by simpa using f,h.ex.aG o k λz a f=>(a4 z a).2.1<|by simpa using f,⟨k.mono λz a=>h.mem.2 (.inl<|by simpa using a),λz a=>?_⟩⟩
 .rw[List.nodup_append,List.nodup_append,List.nodup_append];refine⟨⟨O9 gn,⟨O9 ge,a1,λp d q c e=>(a4 p d).1<|e▸c⟩,λp d q c e=>?_⟩,?_,λp d q c e=>?_⟩
  .subst e;rcases mA.1 c with c|c
   .exact(a4 p c).2.2 d
   .exact(a3 p d).1 c
  .simp only[List.nodup_cons,mC,List.not_mem_nil,or_false,not_false_eq_true,List.nodup_nil,and_true];omega
  .subst e;simp only[mC,List.not_mem_nil,or_false] at c;simp only[mA] at d;rcases d with d|d|d
   .rcases c with c|c|c
    .exact(a3 p d).2 c
    .have:=j p d;omega
    .have:=j p d;omega
   .rcases c with c|c|c
    .exact(a4 p d).2.1 c
    .have:=l p d;omega
    .have:=l p d;omega
   .rcases c with c|c|c
    .subst c;exact a2 d
    .have:=i p d;omega
    .have:=i p d;omega
 .intro z a;simp only[mA,mC,List.not_mem_nil,or_false] at a;have t:=k.size;rcases a with(a|a|a)|a|a|a
  .have:=j z a;omega
  .have:=l z a;omega
  .have:=i z a;omega
  .omega
  .rw[a];exact m.lt
  .rw[a];exact f.lt
 .simp only[mC,List.not_mem_nil,or_false] at a;rcases a with a|a|a
  .exact .inl (h.mem.2<|.inl a)
  .right;omega
  .right;omega
theorem js.closed {d:List Nat} {c m l:Value} {i g:Option Nat} {e:List aj} {f:List aq} {n:World} (h:js τ E G n b vt vn ve gn ge ai aL exprs) 
  (p:js τ (gn.toList++(ge.toList++E)) d w b c m l i g ai e f) (s:cV w τ.S vn gn aL) (r:eh (E++G) w τ.T 2 ve ge (di exprs)) (hk:Fr G n d w) (k:ak [b] w w'):
  js τ E G w' b c vn ve gn ge ai aL exprs/\Fr G n G w':=by
 obtain⟨a1,a2,a3,a4⟩:=h.apart;have o:ak G w w':=k.mono λz a=>h.mem.2 (.inl<|by simpa using a);have q:Fr (E++G) w (E++G) w':=Fr.of o λz a=>mR _ a;have t:∀z∈E++G,z∈(gn.toList++(ge.toList++E))++d:=λz a=>by
  rcases mA.1 a with a|a
  .simp[a]
  .rcases h.mem.1 a with a|a|a
   .exact mR _ (p.mem.2<|.inl a)
   .simp[a]
   .simp[a]
 have u:bu (E++G) w c ai:=p.ta.fresh λz a=>.inl<|t z a;refine⟨⟨u.go q,s.aG k λz a j=>(a3 z<|by simp[a]).2<|by simpa using j,r.aG q k λz a j=>(a4 z a).2.1<|by simpa using j,h.eG,h.nd,λz a=>?_⟩,⟨hk.aG.since o λz a=>.inl a,λz a=>.inl a⟩⟩;have:=h.cN z a;have v:=hk.aG.size;have y:=k.size;omega
def m5V (n:Nat) (b a ve:Value):List Value:=[b,.int .i64 (n:Int),a,ve]
def M5 (c:z1) (E G:List Nat) (w:World) (b:Nat) (d:List aj) (n:Nat) (aL:List aj) (a:List aq):Prop:=∃vt vn ve gn ge,aJ w b (m5V n vt vn ve).toArray c.M/\js c E G w b vt vn ve gn ge d aL a
theorem js.ext (h:js τ E G w b vt vn ve gn ge ai aL exprs) (k:ak [] w w'):js τ E G w' b vt vn ve gn ge ai aL exprs:=h.aG k sm
theorem M5.ext (h:M5 τ E G w b ai n aL exprs) (k:ak [] w w'):M5 τ E G w' b ai n aL exprs:=by obtain⟨vt,vn,ve,gn,ge,a,c⟩:=h;exact⟨vt,vn,ve,gn,ge,a.aG k sm,c.ext k⟩
end
structure et (L:List Nat) (w:World) (b:Nat) (vs:Array Value) (T:TypeId):Prop where
 iV:aJ w b vs T
 out:b∉L
theorem et.lt {T:TypeId} (h:et L w b vs T):b<w.heap.size:=h.iV.lt
theorem et.at {a:List Value} {T:TypeId} (h:et L w b a.toArray T) (c:a[i]?=some v):w.cell? ⟨b,i,none⟩=some v:=h.iV.at c
theorem et.all {a:List Value} {T:TypeId} (h:et L w b a.toArray T):fP w b 0 a:=h.iV.all
theorem et.go {a:List Nat} {T:TypeId} (h:et L w b vs T) (k:Fr L w a w'):et a w' b vs T:=
 ⟨h.iV.aG k.aG h.out,λd=>by
  rcases k.mem b d with c|c
  .exact h.out c
  .have:=h.iV.lt;omega⟩
theorem et.ext {T:TypeId} (h:et L w b vs T) (k:ak [] w w'):et L w' b vs T:=⟨h.iV.ext k,h.out⟩
theorem et.aB {G:List Nat} {T:TypeId} (h:et L w b vs T) (k:ak G w w') (a:∀x∈G,x∈L):et L w' b vs T:=h.go<|Fr.of k a
theorem aJ.o {T:TypeId} (h:aJ w b vs T) (a:∀x∈L,x<b):et L w b vs T:=⟨h,λc=>by have:=a b c;omega⟩
theorem cV.rs {T:TypeId} (h:cV w T v g xs):bu [] w v xs:=h.rep sm
theorem ky {T:TypeId} (h:cV w T v g xs):∃a c,v= .slice a xs.length c:=jv.len h
section
variable {P:Program} {n:Nat} {ops:Array Oper} {K:Env->World->Prop} {rest:List Oper} {e:Env} {w:World} {dst:Option Nat} {ty:TypeId} {pos:String} {after:Array Edge} {g:Option (Nat×Bool)} {x y:Operand}
theorem Wq {t:Nat} {v:Value} {f:Option Nat} {i:List aj} {s:aj} {b U:Nat} (o:P.underlying t=some (.slice E)) (l:TI P E 1 bytes z) (r:gate ops e g=true) (p:cC n dst=true) (C:Nat.beq z.cells.size 1=true) (D:Nat.ble bytes 1000=true) 
  (A:ev e x=v) (B:ev e y= .slice (some ⟨b,0,none⟩) 1 1) (m:cV w E v f i) (hb:aJ w b [str s].toArray U) (u:i.length<100000000)
  (k:∀d a w',cV w' E d a (i++[s])->ak f.toList w w'->Fr f.toList w a.toList w'->OW P n ops K rest (bW e dst d) w'):
  OW P n ops K (⟨dst,.call {callee:=.builtin .append,args:=#[x,y],argTypes:=#[t,t]},ty,pos,after,g⟩::rest) e w:=by
 refine DU (L:=[]) (row:=[.val (str s)]) o l r p C D A B (m.Wk _) rfl hb.all (by simp[Value.oneCell']) ⟨.val _,trivial⟩ (by rw[pR];exact u) ?_;intro d a w' j hk F;rw[Wl] at j;refine k d a w' j.tV hk.aG ⟨hk.aG,λq c=>?_⟩;rcases F with h|h
 .rw[h] at c;exact .inl c
 .rw[h] at c;simp at c;right;omega
theorem lS {T:Nat} (d:P.underlying T=some (.slice E)) (c:TI P E 1 bytes z) (i:gate ops e g=true) (f:cC n dst=true) (a:ev e q1=str a1) (b:ev e q2=str a2) 
  (k:∀w',ak [] w w'->aJ w' w.heap.size [str a1,str a2].toArray E->w'.heap.size=w.heap.size+1->OW P n ops K rest (bW e dst<|.slice (some ⟨w.heap.size,0,none⟩) 2 2) w'):
  OW P n ops K (⟨dst,.buildSlice T 2 #[(0,q1),(1,q2)],ty,pos,after,g⟩::rest) e w:=
 ur [q1,q2] [[str a1],[str a2]] d c i f rfl rfl rfl rfl rfl (by simp[a,b,Value.cells]) rfl k
theorem qL {T:Nat} (f:P.underlying T=some (.slice E)) (d:TI P E 1 bytes z) (j:gate ops e g=true) (i:cC n dst=true) (a:ev e q1=str a1) (b:ev e q2=str a2) (c:ev e q3=str a3) 
  (k:∀w',ak [] w w'->aJ w' w.heap.size [str a1,str a2,str a3].toArray E->w'.heap.size=w.heap.size+1->OW P n ops K rest (bW e dst<|.slice (some ⟨w.heap.size,0,none⟩) 3 3) w'):
  OW P n ops K (⟨dst,.buildSlice T 3 #[(0,q1),(1,q2),(2,q3)],ty,pos,after,g⟩::rest) e w:=
 ur [q1,q2,q3] [[str a1],[str a2],[str a3]] f d j i rfl rfl rfl rfl rfl (by simp[a,b,c,Value.cells]) rfl k
theorem z7 {T:Nat} (i:P.underlying T=some (.slice E)) (f:TI P E 1 bytes z) (l:gate ops e g=true) (j:cC n dst=true) (a:ev e q1=str a1) (b:ev e q2=str a2) (c:ev e q3=str a3) (d:ev e q4=str a4) 
  (k:∀w',ak [] w w'->aJ w' w.heap.size [str a1,str a2,str a3,str a4].toArray E->w'.heap.size=w.heap.size+1->OW P n ops K rest (bW e dst<|.slice (some ⟨w.heap.size,0,none⟩) 4 4) w'):
  OW P n ops K (⟨dst,.buildSlice T 4 #[(0,q1),(1,q2),(2,q3),(3,q4)],ty,pos,after,g⟩::rest) e w:=
 ur [q1,q2,q3,q4] [[str a1],[str a2],[str a3],[str a4]] i f l j rfl rfl rfl rfl rfl (by simp[a,b,c,d,Value.cells]) rfl k
theorem Wr {T:Nat} (j:P.underlying T=some (.slice E)) (i:TI P E 1 bytes z) (m:gate ops e g=true) (l:cC n dst=true) (a:ev e q1=str a1) (b:ev e q2=str a2) (c:ev e q3=str a3) (d:ev e q4=str a4) (f:ev e q5=str a5) 
  (k:∀w',ak [] w w'->aJ w' w.heap.size [str a1,str a2,str a3,str a4,str a5].toArray E->w'.heap.size=w.heap.size+1->OW P n ops K rest (bW e dst<|.slice (some ⟨w.heap.size,0,none⟩) 5 5) w'):
  OW P n ops K (⟨dst,.buildSlice T 5 #[(0,q1),(1,q2),(2,q3),(3,q4),(4,q5)],ty,pos,after,g⟩::rest) e w:=
 ur [q1,q2,q3,q4,q5] [[str a1],[str a2],[str a3],[str a4],[str a5]] j i m l rfl rfl rfl rfl rfl (by simp[a,b,c,d,f,Value.cells]) rfl k
theorem aiz {T:Nat} (l:P.underlying T=some (.slice E)) (j:TI P E 1 bytes z) (o:gate ops e g=true) (m:cC n dst=true) (a:ev e q1=str a1) (b:ev e q2=str a2) (c:ev e q3=str a3) (d:ev e q4=str a4) (f:ev e q5=str a5) (i:ev e q6=str a6) 
  (k:∀w',ak [] w w'->aJ w' w.heap.size [str a1,str a2,str a3,str a4,str a5,str a6].toArray E->w'.heap.size=w.heap.size+1->OW P n ops K rest (bW e dst<|.slice (some ⟨w.heap.size,0,none⟩) 6 6) w'):
  OW P n ops K (⟨dst,.buildSlice T 6 #[(0,q1),(1,q2),(2,q3),(3,q4),(4,q5),(5,q6)],ty,pos,after,g⟩::rest) e w:=
 ur [q1,q2,q3,q4,q5,q6] [[str a1],[str a2],[str a3],[str a4],[str a5],[str a6]] l j o m rfl rfl rfl rfl rfl (by simp[a,b,c,d,f,i,Value.cells]) rfl k
theorem Ws {T:Nat} {c d:Operand} {a b:aj} (s:P.underlying T=some (.slice E)) (r:TI P E 1 bytes z) (u:gate ops e g=true) (t:cC n dst=true) (f:ev e q1=str a1) (i:ev e q2=str a2) (j:ev e q3=str a3) (l:ev e q4=str a4) (m:ev e q5=str a5) (o:ev e q6=str a6) (p:ev e c=str a) (q:ev e d=str b) 
  (k:∀w',ak [] w w'->aJ w' w.heap.size [str a1,str a2,str a3,str a4,str a5,str a6,str a,str b].toArray E->w'.heap.size=w.heap.size+1->OW P n ops K rest (bW e dst<|.slice (some ⟨w.heap.size,0,none⟩) 8 8) w'):
  OW P n ops K (⟨dst,.buildSlice T 8 #[(0,q1),(1,q2),(2,q3),(3,q4),(4,q5),(5,q6),(6,c),(7,d)],ty,pos,after,g⟩::rest) e w:=
 ur [q1,q2,q3,q4,q5,q6,c,d] [[str a1],[str a2],[str a3],[str a4],[str a5],[str a6],[str a],[str b]] s r u t rfl rfl rfl rfl rfl (by simp[f,i,j,l,m,o,p,q,Value.cells]) rfl k
theorem aiA {T:Nat} {i j l b:Operand} {c d f a:aj} (B:P.underlying T=some (.slice E)) (A:TI P E 1 bytes z) (D:gate ops e g=true) (C:cC n dst=true) (o:ev e q1=str a1) (p:ev e q2=str a2) (q:ev e q3=str a3) (r:ev e q4=str a4) (s:ev e q5=str a5) (t:ev e q6=str a6) (u:ev e i=str c) (v:ev e j=str d) (y:ev e l=str f) (m:ev e b=str a) 
  (k:∀w',ak [] w w'->aJ w' w.heap.size [str a1,str a2,str a3,str a4,str a5,str a6,str c,str d,str f,str a].toArray E->w'.heap.size=w.heap.size+1->OW P n ops K rest (bW e dst<|.slice (some ⟨w.heap.size,0,none⟩) 10 10) w'):
  OW P n ops K (⟨dst,.buildSlice T 10 #[(0,q1),(1,q2),(2,q3),(3,q4),(4,q5),(5,q6),(6,i),(7,j),(8,l),(9,b)],ty,pos,after,g⟩::rest) e w:=
 ur [q1,q2,q3,q4,q5,q6,i,j,l,b] [[str a1],[str a2],[str a3],[str a4],[str a5],[str a6],[str c],[str d],[str f],[str a]] B A D C rfl rfl rfl rfl rfl (by simp[o,p,q,r,s,t,u,v,y,m,Value.cells]) rfl k
end
theorem bg.eq {u:aq} (h:bg L w v t) (e:t=u):bg L w v u:=e▸h
theorem fK (h:cY L w (.slice a n c) ts) (o:i<ts.length):
  ∃b d e f,a=some ⟨b,d,none⟩/\gd L w b (d+i*2) [str (nth ts i).au,.slice e (nth ts i).ag.length f]/\bg L w (.agg #[str (nth ts i).au,.slice e (nth ts i).ag.length f]) (nth ts i):=by
 obtain⟨b,d,vs,j,hb,g,_,l,r⟩:=zh h (Ki<|ew o);obtain⟨e,u,f,m,p,q⟩:=db (t:=nth ts i) ⟨vs,rfl,r⟩;have s:vs=[str (nth ts i).au,.slice e u f]:=by have:=congrArg (λv=>match v with|Value.agg x=>x.toList|_=>[]) m;simpa using this
 subst s p;exact⟨b,d,e,f,j,⟨l,hb,g⟩,kI q⟩
theorem aJ.tV {T:Nat} (a:List aj) (h:aJ w b (a.map λx=>str x).toArray T) (c:a.length<=100000:=by simp):cV w T (.slice (some ⟨b,0,none⟩) a.length a.length) (some b) a:=
 ⟨by simp,.inr ⟨b,a.length,_,rfl,rfl,h,lR _,Nat.le_trans c de,sm,by rw[Nat.mul_one,List.take_of_length_le sm]⟩⟩
theorem aJ.ej {T:Nat} (a:List aj) (h:aJ w b (a.map λx=>str x).toArray T) (c:b∉L) (d:a.length<=100000:=by simp):bu L w (.slice (some ⟨b,0,none⟩) a.length a.length) a:=
 (h.tV a d).rep λq e=>by cases e;exact c
theorem aJ.lT {T:Nat} (h:aJ w b #[] T):cV w T (.slice (some ⟨b,0,none⟩) 0 0) (some b) []:=Wp h
theorem ux (h:n<1000):(aS n).length<=3:=by grind [aS]
theorem mP (h:aj) (a:List aj):(eH h a).length=h.length+2+kc a:=by grind [eH,Ux,kc]
theorem aiB {m:Nat}:∀xs:List aj,(∀s∈xs,s.length<=m)->(xs.map List.length).sum<=xs.length*m:=by intro x;induction x<;>grind [lC,Nat.add_mul]
theorem Cd {m:Nat} (a:List aj) (h:∀s∈a,s.length<=m):kc a<=a.length*(m+1):=by have:=aiB a h;unfold kc;rw[Nat.mul_add];omega
structure kP (s:cT):Prop where
 types:zK (fh s)
 regs:∀p∈s,p.2.1<1000
theorem Ip (h:kP s) (x:aj):lk s x<1000:=by
 unfold lk;cases a:s.reverse.find? λp=>decide (p.1=x) with
 |none=>simp
 |some p=>exact h.regs p (List.mem_reverse.1<|List.mem_of_find?_eq_some a)
theorem Lm (h:kP s) (x:aj):(kY s x).n<=16:=by
 unfold kY;cases a:look (fh s) x with
 |none=>decide
 |some T=>exact h.types x T a
theorem qM {T:Ty} (h:T.n<=16):(bD T).length<=256:=by have:=DA T;omega
theorem vI {T:Ty} (h:T.n<=16):(dN<|bD T).length<=272:=by have:=qM h;rw[O8];omega
theorem kP.snoc (h:kP s) {x:aj} {r:Nat} {T:Ty} (c:r<1000) (b:T.n<=16):kP (s++[(x,r,T)]):=by
 refine⟨by rw[FK];exact H0 h.types b,λp a=>?_⟩;rcases mA.1 a with a|a
 .exact h.regs p a
 .simp only[List.mem_singleton] at a;rw[a];exact c
def Ce (s:aj):Prop:=∃T:Ty,T.n<=16/\s=dN (bD T)
/-! ### The type of a package's tuple -/
def mQ (s:cT) (aL:List aj) (on:aj):List aj:=aL.map (λx=>bD<|kY s x)++(if on≠[] then[on] else[])
def F0:Option Ty->aj
 |some T=>dN<|bD T
 |none=>[]
def vJ (s:cT) (aL:List aj) (on:Option Ty):List aq:=aL.map (λx=>sh<|kY s x)++(match on with|some T=>[BD (sh T)]|none=>[])
theorem F2 (s:cT) (aL:List aj) (on:Option Ty):mQ s aL (F0 on)=(vJ s aL on).map aq.text:=by
 unfold mQ vJ;rw[List.map_append,List.map_map]
 congr 1
 cases on with
 |none=>rfl
 |some T=>
  have a:dN (bD T)≠[]:=by simp[dN]
  refine(iP<|show F0 (some T)≠[] from a).trans ?_;simp[F0,Vy,bD]
theorem Wt (s:cT) (aL:List aj) (on:aj):(mQ s aL on).length<=aL.length+1:=by grind [mQ]
theorem Wu (h:kP s) {aL:List aj} {on:aj} (a:on.length<=272):∀t,t∈mQ s aL on->t.length<=272:=by grind [mQ,qM,Lm]
theorem Iq (h:kP s) {aL:List aj} {on:aj} (e:aL.length<=40) (a:on.length<=272):(eH [116] (mQ s aL on)).length<=11200:=by have b:=Cd _<|Wu h (aL:=aL) a;have c:=Wt s aL on;have d:(mQ s aL on).length*(272+1)<=41*(272+1):=Nat.mul_le_mul om<|lR _;rw[mP];simp only[lC,List.length_nil];omega
theorem aiC (s:cT) (aL:List aj) (on:Option Ty):aL.length<=(vJ s aL on).length:=by simp_all[vJ]
theorem aiD (s:cT) (aL:List aj) (on:Option Ty):∀t,t∈vJ s aL on->Good t:=λt a=>by
 unfold vJ at a;rcases mA.1 a with a|a
 .obtain⟨x,_,rfl⟩:=List.mem_map.1 a;exact FI _
 .cases on with
  |none=>simp at a
  |some T=>simp only[List.mem_singleton] at a;rw[a];exact Vx<|FI T
theorem Wv (h:kP s) {aL:List aj} {on:Option Ty} (d:aL.length<=40) (b:∀T,on=some T->T.n<=16):
  bS (eH [116] (mQ s aL<|F0 on))=some (l8 [116] (vJ s aL on)):=by
 have c:=Ky (h:=[116]) de de<|aiD s aL on;rw[F2,<-Um de];refine Od c ?_ ?_
 .show aq.depth.deeps (bJ [116]::vJ s aL on)<=60;refine Kw λp a=>?_;rcases mC.1 a with rfl|a
  .have:(bJ [116]).depth=0:=rfl;omega
  .unfold vJ at a;rcases mA.1 a with a|a
   .obtain⟨x,_,rfl⟩:=List.mem_map.1 a;have:=FJ<|kY s x;have:=Lm h x;omega
   .cases on with
    |none=>simp at a
    |some T=>simp only[List.mem_singleton] at a;have:=FJ T;have:=b T rfl;rw[a,Vz];omega
 .rw[Um de,<-F2];have:=Iq h (aL:=aL) (on:=F0 on) d (by
   cases on with
   |none=>simp[F0]
   |some T=>exact vI<|b T rfl)
  omega
/-! ### The state stays small -/
structure fM (m:Mk):Prop where
 types:∀s∈m.types,s.length<=100000
 code:∀s∈m.code,s.length<=100000
theorem fM.dA (h:fM m) {k:aj} (hk:k.length<=100000):fM (m.dA k):=⟨λs a=>by
 rcases mA.1 a with a|a
 .exact h.types s a
 .simp only[List.mem_singleton] at a;rw[a];exact hk,h.code⟩
theorem fM.cR (h:fM m) {b:aj} (hk:(eH b ps).length<=100000):fM (m.cR b ps):=⟨h.types,λs a=>by
 rcases mA.1 a with a|a
 .exact h.code s a
 .simp only[List.mem_singleton] at a;rw[a];exact hk⟩
structure aiE (m m':Mk) (dt dc:Nat):Prop where
 blocks:m'.blocks=m.blocks
 bM:m'.bM=m.bM
 types:m'.types.length=m.types.length+dt
 code:m'.code.length=m.code.length+dc
theorem Ww (m:Mk) (s:cT) (b:Nat) (aL:List aj) (on aO a:aj) (cM:List aj):aiE m (pW m s b aL on aO a cM).m 4 4:=by refine⟨rfl,rfl,?_,?_⟩<;>simp[pW,Mk.dA,Mk.cR]
theorem Wx (m:Mk) (s:cT) (b:Nat) (aL:List aj) (on aO a:aj) (cM:List aj):(pW m s b aL on aO a cM).w=eH [116] (mQ s aL on):=rfl
theorem Wy (r:fM m) (n:kP s) {e:Nat} (u:e<1000) {aL:List aj} (t:aL.length<=40) {on aO i:aj} (v:on.length<=272) (K:aO.length<=10) (hk:i.length<=272) {cM:List aj} (q:cM.length<=2) (o:∀x∈cM,x.length<=272) (F:m.types.length+4<1000):fM (pW m s e aL on aO i cM).m:=by
 have j:=Iq n t v;have f:∀k,k<1000->(aS k).length<=3:=λk hk=>ux hk;have p:=Cd cM o;have l:(eH [99] (eH [116] (mQ s aL on)::cM)).length<=12000:=by
  rw[mP];have:kc (eH [116] (mQ s aL on)::cM)=1+(eH [116] (mQ s aL on)).length+kc cM:=by unfold kc;simp;omega
  have J:cM.length*(272+1)<=2*(272+1):=Nat.mul_le_mul q<|lR _;simp only[lC,List.length_nil];omega
 have regs:∀x,x∈aL.map (λx=>aS<|lk s x)++(if on≠[] then[aS e] else[])->x.length<=3:=λx g=>by
  rcases mA.1 g with g|g
  .obtain⟨y,_,rfl⟩:=List.mem_map.1 g;exact f _<|Ip n y
  .split at g
   .simp only[List.mem_singleton] at g;rw[g];exact f _ u
   .simp at g
 have z:(aL.map (λx=>aS<|lk s x)++(if on≠[] then[aS e] else[])).length<=41:=by rw[lA,List.length_map];split<;>simp<;>omega
 unfold pW;have s2:∀a b:aj,kc [a,b]=2+a.length+b.length:=λa b=>by simp[kc];omega
 have A:∀a b c:aj,kc [a,b,c]=3+a.length+b.length+c.length:=λa b c=>by simp[kc];omega
 have B:∀a b c d:aj,kc [a,b,c,d]=4+a.length+b.length+c.length+d.length:=λa b c d=>by simp[kc];omega
 have L:=f m.types.length om;have E:=f (m.types.length+1) om;have D:=f (m.types.length+2) om;have C:=f (m.types.length+3) om;refine fM.cR (fM.dA (fM.cR (fM.dA (fM.cR (fM.dA (fM.cR (fM.dA r ?_) ?_) ?_) ?_) ?_) ?_) ?_) ?_
 .exact Nat.le_trans j om
 .have H:=Cd _ regs;have I:(aL.map (λx=>aS<|lk s x)++(if on≠[] then[aS e] else[])).length*(3+1)<=41*(3+1):=Nat.mul_le_mul z<|lR _;rw[mP];have:kc (aS m.types.length::(aL.map (λx=>aS<|lk s x)++(if on≠[] then[aS e] else[])))=1+(aS m.types.length).length+kc (aL.map (λx=>aS<|lk s x)++(if on≠[] then[aS e] else[])):=by unfold kc;simp;omega
  rw[this];simp only[lC,List.length_nil];omega
 .exact Nat.le_trans l om
 .rw[mP,s2];simp only[lC,List.length_nil];omega
 .rw[mP,s2];have:=j;unfold mQ at this l;simp only[lC,List.length_nil];unfold mQ at j;omega
 .rw[mP,A];simp only[lC,List.length_nil];omega
 .omega
 .rw[mP,B];have:=j;unfold mQ at this;simp only[lC,List.length_nil];omega
structure Ext (m m':Mk) (k:Nat) (new:List Tk):Prop where
 blocks:m'.blocks=m.blocks
 bM:m'.bM=m.bM++new
 count:m'.count=m.count+new.length
 types:m.types.length<=m'.types.length/\m'.types.length<=m.types.length+k
 code:m'.code.length<=m.code.length+2*k
theorem Ext.refl (m:Mk):Ext m m 0 []:=⟨rfl,sm,rfl,om,om⟩
theorem Ext.trans {j:Nat} {p q:List Tk} (h:Ext m m1 j p) (a:Ext m1 m2 k q):Ext m m2 (j+k) (p++q):=
 ⟨a.blocks.trans h.blocks,by rw[a.bM,h.bM,List.append_assoc],by rw[a.count,h.count,lA];omega,by have:=h.types;have:=a.types;omega,by have:=h.code;have:=a.code;omega⟩
theorem Ext.more {a:Mk} {j:Nat} {p:List Tk} (h:Ext m a j p) (hk:j<=k):Ext m a k p:=⟨h.blocks,h.bM,h.count,by have:=h.types;omega,by have:=h.code;omega⟩
theorem PD {s:aj} (h:rp s=true):s.length<=4:=by grind [rp,numeral,T6,ey]
theorem pr (h:e.ok):e.au.length<=4:=by cases e<;>grind [Ex.ok,Ex.au,PD]
theorem Cf (a b:aj):kc [a,b]=2+a.length+b.length:=by simp[kc];omega
theorem Ir {m:Mk} {a:aj} (b:fM m) (d:kP s) (e:a.length<=4) (c:m.types.length<1000):Ext m (cF m s a).1 1 []/\fM (cF m s a).1/\(cF m s a).2<1000:=by
 unfold cF;split
 .exact⟨(Ext.refl m).more om,b,Ip d a⟩
 .refine⟨⟨rfl,by simp[Mk.dA,Mk.cR],rfl,by simp[Mk.dA,Mk.cR],by simp[Mk.dA,Mk.cR]⟩,fM.cR (fM.dA b sm) ?_,c⟩;have:=ux c;rw[mP,Cf];simp only[lC,List.length_nil];omega
/-! ### Tasks -/
structure pw (t:Tk):Prop where
 ok:t.expr.ok
 type:∃T,bH t.expr (fh t.sc)=some T
 sc:kP t.sc
 bud:5*t.sc.length+2*t.expr.n<=240
 room:t.regs.length+t.loads+8*t.expr.n<=990
 regs:∀r∈t.regs,r.length<=100000
 loads:t.loads=0\/∃ts:List aq,t.regs.head?=some (eH [116] (ts.map aq.text))/\t.loads<=ts.length/\bS (eH [116] (ts.map aq.text))=some (l8 [116] ts)
 self:t.self=[]\/∃a b,t.self=[a,b]/\a.length<=272/\b.length<=11200/\t.regs.length=3/\∀r∈t.regs,r.length<=11200
 aX:Ce t.aX
 on:t.on<1000
 aO:t.aO.length<=4
theorem PE (s:cT) (k:Nat) (aL:List aj):fh (jf s k aL [])=aL.map λx=>(x,kY s x):=by
 unfold jf fh;rw[List.nil_append,List.map_map];have:∀(l:List aj) (j:Nat),(l.zipIdx j).map ((λp:aj×Nat×Ty=>(p.1,p.2.2))∘λp=>(p.1,k+p.2,kY s p.1))=l.map λx=>(x,kY s x):=by
  intro l;induction l with
  |nil=>intro j;rfl
  |cons x l a=>intro j;simp only[List.zipIdx_cons,List.map_cons,Function.comp,a]
 exact this aL 0
theorem PF:∀{aL:List aj} {x:aj},x∈aL->look (aL.map λx=>(x,kY s x)) x=some (kY s x):=by
 intro aL x h;have b:∀(l:List aj),(∃y∈l,y=x)->(l.map λx=>(x,kY s x)).find? (λp=>decide<|p.1=x)=some (x,kY s x):=by
  intro l;induction l with
  |nil=>rintro⟨_,f,_⟩;simp at f
  |cons y l g=>
   intro d;rw[List.map_cons,List.find?_cons];by_cases e:y=x
   .rw[dT e,e]
   .rw[dF e];obtain⟨z,a,c⟩:=d;rcases mC.1 a with a|a
    .exact absurd (a▸c) e
    .exact g ⟨z,a,c⟩
 unfold look;rw[<-List.map_reverse,b aL.reverse ⟨x,List.mem_reverse.2 h,rfl⟩];rfl
theorem WB (h:kP s) (k:Nat) (aL:List aj) (j:k+aL.length<1000):kP (jf s k aL []):=by
 refine⟨λx T a=>?_,λp c=>?_⟩
 .rw[PE] at a;have g:x∈aL:=by
   unfold look at a;cases b:(aL.map λx=>(x,kY s x)).reverse.find? (λp=>decide<|p.1=x) with
   |none=>rw[b] at a;cases a
   |some q=>have d:=List.find?_some b;have e:=List.mem_reverse.1<|List.mem_of_find?_eq_some b;obtain⟨y,i,rfl⟩:=List.mem_map.1 e;rw[<-of_decide_eq_true d];exact i
  rw[PF g] at a;cases a;exact Lm h x
 .unfold jf at c;rw[List.nil_append] at c;obtain⟨q,f,rfl⟩:=List.mem_map.1 c;have:=List.snd_lt_of_mem_zipIdx f;show k+q.2<1000;omega
theorem z8 (s:cT) (k:Nat) (aL:List aj):(jf s k aL []).length=aL.length:=by simp[jf]
theorem PG {x:aj} (h:(look (fh s) x).isSome=true):look (fh s) x=some (kY s x):=by
 unfold kY;cases a:look (fh s) x with
 |none=>rw[a] at h;cases h
 |some T=>rfl
theorem PH {bd:List aj} (hb:5*s.length+2*e.n<=240) (i:∀x,Fv x e->x∉bd->(look (fh s) x).isSome=true):(dL e bd []).length<=34/\(dL e bd []).length<=s.length:=by
 have d:=OU e bd [];have f:(dL e bd []).length<=(s.map Prod.fst).length:=OX (ahu e bd [] List.nodup_nil) λx b=>by
  rcases(Dz x e bd []).1 b with h|⟨b,hb⟩
  .simp at h
  .have:=i x b hb;unfold look at this;cases a:(fh s).reverse.find? λp=>decide (p.1=x) with
   |none=>rw[a] at this;cases this
   |some q=>have g:=List.find?_some a;have c:=List.mem_reverse.1<|List.mem_of_find?_eq_some a;unfold fh at c;obtain⟨p,j,rfl⟩:=List.mem_map.1 c;rw[<-of_decide_eq_true g];exact List.mem_map.2 ⟨p,j,rfl⟩
 simp only[List.length_nil,Nat.zero_add,List.length_map] at d f;omega
theorem WC {b:Nat} {aL:List aj} {on aO a:aj} {cM:List aj}:Ext m (pW m s b aL on aO a cM).m 4 []:=by have h:=Ww m s b aL on aO a cM;exact⟨h.blocks,by rw[h.bM];simp,rfl,by rw[h.types];omega,by rw[h.code];omega⟩
theorem Cg {m:Mk} (h:m.count<1000):m.aO.length<=4:=by grind [Mk.aO,ux]
theorem WD {m:Mk} {f x:aj} {A B:Ty} {T:Ty} (p:kP s) (I:(Ex.fn f x A B e).ok) (a:bH (.fn f x A B e) (fh s)=some T) (hb:5*s.length+2*(Ex.fn f x A B e).n<=240) (M:m.count<1000):pw (BI m s f x A B e)/\(dL (.fn f x A B e) [] []).length<=34/\1+A.n+B.n<=16:=by
 obtain⟨O,_,_,i,n,N⟩:=I;have V:∀y,Fv y (.fn f x A B e)->y∉([]:List aj)->(look (fh s) y).isSome=true:=λy j _=>qB a j;obtain⟨K,_⟩:=PH hb V;have q:1+A.n+B.n<=16/\bH e (fh s++[(f,.op true A B),(x,A)])=some B:=by
  unfold bH at a;split at a
  .rename_i R;cases u:bH e (fh s++[(f,.op true A B),(x,A)]) with
   |none=>rw[u] at a;cases a
   |some C=>
    rw[u,Option.bind_some] at a;split at a
    .rename_i Q;rw[ahx.1 Q];exact⟨R,rfl⟩
    .cases a
  .cases a
 have t:(Ty.op true A B).n<=16:=q.1;have Y:(bD<|.op true A B).length<=256:=qM t;have P:(Ex.fn f x A B e).n=3+A.n+B.n+e.n:=rfl;rw[P] at hb;have L:=A.pos;have X:=B.pos;have D:=WB p 3 (dL (.fn f x A B e) [] []) om;have v:(ph m s f x A B e).w=eH [116] (mQ s (dL (.fn f x A B e) [] []) []):=Wx ..;have z:(ph m s f x A B e).w.length<=11200:=by rw[v];exact Iq p om sm
 have J:bH e (fh<|BH s f x A B e)=some B:=by
  rw[<-q.2];unfold BH;rw[FK];refine rr e _ _ λy _ j=>?_;rw[pT,BA];by_cases c:x=y
  .rw[iP c,iP c]
  .rw[iN c,iN c];by_cases b:f=y
   .have g:0<kL f e:=(ahw O e).2<|b▸j;rw[iP b,iP g,FK,pT,iP b]
   .rw[iN b];have E:Fv y (.fn f x A B e):=⟨λl=>b l.symm,λl=>c l.symm,j⟩;have U:y∈dL (.fn f x A B e) [] []:=(Dz y _ [] []).2<|.inr ⟨E,sm⟩;have F:look (fh<|jf s 3 (dL (.fn f x A B e) [] []) []) y=look (fh s) y:=by
     rw[PE,PF U,PG (qB a E)]
    split
    .rw[FK,pT,iN b,F]
    .exact F
 have H:kP (BH s f x A B e):=by
  unfold BH;split
  .exact(D.snoc om t).snoc om i
  .exact D.snoc om i
 have S:5*(BH s f x A B e).length+2*e.n<=240:=by
  unfold BH;rw[lA];split
  .rw[lA,z8];simp only[lC,List.length_nil];omega
  .rw[z8];simp only[lC,List.length_nil];omega
 refine⟨{ok:=N,type:=⟨B,J⟩,sc:=H,bud:=S,room:=?_,regs:=?_,loads:=?_,self:=?_,aX:=⟨B,n,rfl⟩,on:=?_,aO:=Cg M},K,q.1⟩
 .show 3+(dL (.fn f x A B e) [] []).length+8*e.n<=990;omega
 .intro r o;have d:r∈[(ph m s f x A B e).w,bD A,dN (bD B)]:=o;simp only[mC,List.not_mem_nil,or_false] at d;rcases d with rfl|rfl|rfl
  .omega
  .have:=qM i;omega
  .have:=vI n;omega
 .refine .inr ⟨vJ s (dL (.fn f x A B e) [] []) none,?_,aiC _ _ _,?_⟩
  .show some (ph m s f x A B e).w=_;rw[v,<-F2];rfl
  .rw[<-F2];exact Wv p om sm
 .show(if 0<kL f e then[bD<|.op true A B,(ph m s f x A B e).w] else[])=[]\/_;by_cases g:0<kL f e
  .refine .inr ⟨bD<|.op true A B,(ph m s f x A B e).w,iP g,om,z,rfl,λr o=>?_⟩;have d:r∈[(ph m s f x A B e).w,bD A,dN (bD B)]:=o;simp only[mC,List.not_mem_nil,or_false] at d;rcases d with rfl|rfl|rfl
   .exact z
   .have:=qM i;omega
   .have:=vI n;omega
  .exact .inl<|iN g
 .show(2:Nat)<1000;omega
theorem aiF {f x:aj} {A B:Ty} {T:Ty} (d:fM m) (g:kP s) (b:(Ex.fn f x A B e).ok) (v:bH (.fn f x A B e) (fh s)=some T) (hb:5*s.length+2*(Ex.fn f x A B e).n<=240) (o:m.types.length+4<1000) (c:m.count<1000):
  Ext m (BJ m s f x A B e).1 4 [BI m s f x A B e]/\fM (BJ m s f x A B e).1/\(BJ m s f x A B e).2<1000/\pw (BI m s f x A B e):=by
 obtain⟨u,_,l⟩:=WD (m:=m) g b v hb c;obtain⟨_,_,_,r,t,_⟩:=b;have z:(bD<|.op true A B).length<=256:=qM l;have a:Ext m.mc (ph m s f x A B e).m 4 []:=WC;have n:fM m.mc:=⟨d.types,d.code⟩;have j:fM (ph m s f x A B e).m:=Wy n g om om sm (by have:=Cg c;omega) om sm (λy i=>by
  simp only[mC,List.not_mem_nil,or_false] at i;rcases i with rfl|rfl
  .have:=qM r;omega
  .exact vI t) o
 have p:(ph m s f x A B e).m.bM=m.bM:=by rw[a.bM];simp[Mk.mc]
 have q:(ph m s f x A B e).m.count=m.count+1:=by rw[a.count];simp[Mk.mc]
 refine⟨⟨a.blocks,?_,q,a.types,a.code⟩,⟨j.types,j.code⟩,?_,u⟩
 .show(ph m s f x A B e).m.bM++[BI m s f x A B e]=m.bM++[BI m s f x A B e];rw[p]
 .show m.types.length+3<1000;omega
theorem aiG {m:Mk} {ton:Nat} {aX name:aj} {a:Ty} {rest:Ex} {T:Ty} (f:kP s) (C:Ce aX) (o:a.n<=16) (q:rest.ok) (j:bH rest (fh s++[(name,a)])=some T) (hb:5*(s.length+1)+2*rest.n<=240) (z:m.count<1000):pw (K2 m s ton aX name a rest)/\(dL rest [name] []).length<=34:=by
 obtain⟨O,d,rfl⟩:=C;have n:∀y,Fv y rest->y∉[name]->(look (fh s) y).isSome=true:=λy c A=>by have:=qB j c;rw[pT,iN λe=>A (by rw[e];simp)] at this;exact this
 obtain⟨u,_⟩:=PH om n;have p:=WB f 2 (dL rest [name] []) om;have g:(pj m s ton (dN<|bD O) name a rest).w=eH [116] (mQ s (dL rest [name] []) (dN<|bD O)):=Wx ..;have E:(pj m s ton (dN<|bD O) name a rest).w.length<=11200:=by rw[g];exact Iq f om<|vI d
 have t:bH rest (fh<|jf s 2 (dL rest [name] []) []++[(name,1,a)])=some T:=by
  rw[<-j,FK];refine rr rest _ _ λy _ c=>?_;rw[pT,pT];by_cases b:name=y
  .rw[iP b,iP b]
  .rw[iN b,iN b];have i:y∉[name]:=λh=>b (by simpa using h:y=name).symm;have D:y∈dL rest [name] []:=(Dz y _ [name] []).2<|.inr ⟨c,i⟩;rw[PE,PF D,PG (n y c i)]
 refine⟨{ok:=q,type:=⟨T,t⟩,sc:=p.snoc om o,bud:=?_,room:=?_,regs:=?_,loads:=?_,self:=.inl rfl,aX:=⟨O,d,rfl⟩,on:=?_,aO:=Cg z},u⟩
 .show 5*(jf s 2 (dL rest [name] []) []++[(name,1,a)]).length+2*rest.n<=240;rw[lA,z8];simp only[lC,List.length_nil];omega
 .show 2+((dL rest [name] []).length+1)+8*rest.n<=990;omega
 .intro r B;have l:r∈[(pj m s ton (dN (bD O)) name a rest).w,bD a]:=B;simp only[mC,List.not_mem_nil,or_false] at l;rcases l with rfl|rfl
  .omega
  .have:=qM o;omega
 .refine .inr ⟨vJ s (dL rest [name] [])<|some O,?_,?_,?_⟩
  .show some (pj m s ton (dN<|bD O) name a rest).w=_;rw[g,<-F2];rfl
  .show(dL rest [name] []).length+1<=_;unfold vJ;rw[lA,List.length_map];simp
  .rw[<-F2];exact Wv f om λT v=>by cases v;exact d
 .show 2+(dL rest [name] []).length<1000;omega
theorem aiH {ton:Nat} {aX name:aj} {a:Ty} {rest:Ex} {T:Ty} (e:fM m) (f:kP s) (v:ton<1000) (i:Ce aX) (c:a.n<=16) (n:rest.ok) (u:bH rest (fh s++[(name,a)])=some T) (hb:5*(s.length+1)+2*rest.n<=240) (o:m.types.length+4<1000) (d:m.count<1000):
  Ext m (vB m s ton aX name a rest).1 4 [K2 m s ton aX name a rest]/\fM (vB m s ton aX name a rest).1/\(vB m s ton aX name a rest).2.1<1000/\Ce (vB m s ton aX name a rest).2.2/\pw (K2 m s ton aX name a rest):=by
 obtain⟨t,_⟩:=aiG (m:=m) (ton:=ton) f i c n u hb d;obtain⟨O,r,rfl⟩:=i;have b:Ext m.mc (pj m s ton (dN<|bD O) name a rest).m 4 []:=WC;have l:fM m.mc:=⟨e.types,e.code⟩;have j:fM (pj m s ton (dN<|bD O) name a rest).m:=Wy l f v om (vI r) (by have:=Cg d;omega) (vI c) sm (λy g=>by simp only[List.mem_singleton] at g;rw[g];have:=qM c;omega) o;have p:(pj m s ton (dN<|bD O) name a rest).m.bM=m.bM:=by rw[b.bM];simp[Mk.mc]
 have q:(pj m s ton (dN<|bD O) name a rest).m.count=m.count+1:=by rw[b.count];simp[Mk.mc]
 refine⟨⟨b.blocks,?_,q,b.types,b.code⟩,⟨j.types,j.code⟩,?_,⟨a,c,rfl⟩,t⟩
 .show(pj m s ton (dN<|bD O) name a rest).m.bM++[_]=m.bM++[_];rw[p]
 .show m.types.length+3<1000;omega
theorem Ix (m:Mk) (k:aj):Ext m (m.dA k) 1 []:=⟨rfl,by simp[Mk.dA],rfl,by simp[Mk.dA],by simp[Mk.dA]⟩
theorem vK (m:Mk) (h:aj) (a:List aj):Ext m (m.cR h a) 1 []:=⟨rfl,by simp[Mk.cR],rfl,by simp[Mk.cR],by simp[Mk.cR]⟩
theorem Ab (m:Mk) (k:aj):(m.dA k).types.length=m.types.length+1:=by simp[Mk.dA]
theorem px (m:Mk) (h:aj) (a:List aj):(m.cR h a).types=m.types:=rfl
theorem oV {n:Nat} (h:n<1000):(aS n).length<=3:=ux h
theorem py {m:Mk} (h:fM m) {hd:aj} (e:hd.length<=5) (a:ps.length<=4) (b:∀p∈ps,p.length<=300):fM (m.cR hd ps):=h.cR (by have c:=Cd (m:=300) ps b;have d:ps.length*301<=4*301:=Nat.mul_le_mul a<|lR _;rw[mP];omega)
theorem F3 {s:aj} (h:ey s=true):s.length<=4:=by grind [ey]
def lI (a:List Tk):Nat:=(a.map λt=>t.expr.n+1).sum
theorem Iy (a b:List Tk):lI (a++b)=lI a+lI b:=by grind [lI]
theorem PI (t:Tk):lI [t]=t.expr.n+1:=by simp[lI]
theorem Iz:lI []=0:=rfl
theorem WH {a b:aj} (g:fM m) (e:kP s) (f:a.length<=4) (hb:b.length<=4) (i:m.types.length+1<1000):
  (Ext m (cF m s a).1 1 []/\fM (cF m s a).1/\(cF m s a).2<1000)/\Ext m (cF (cF m s a).1 s b).1 2 []/\fM (cF (cF m s a).1 s b).1/\(cF (cF m s a).1 s b).2<1000:=by
 have c:=Ir g e f om;have d:=Ir (m:=(cF m s a).1) (a:=b) c.2.1 e hb (by have:=c.1.types;omega);exact⟨c,c.1.trans d.1,d.2⟩
structure WJ (m m':Mk) (r:Nat) (n:Nat) (new:List Tk):Prop where
 ext:Ext m m' 4 new
 sml:fM m'
 dA:r<1000
 inv:∀k∈new,pw k
 num:lI new+1<=n
theorem PJ {T:Ty} (r:fM m) (q:kP s) (d:e.ok) (u:bH e (fh s)=some T) (hb:5*s.length+2*e.n<=240) (g:m.types.length+8*e.n<=1000) (E:m.count<1000):
  ∃new,WJ m (oc m s T e).1 (oc m s T e).2 e.n new:=by
 have C:=mD q.types u;have hk:=qM C;have two:∀(h a b:aj),a.length<=4->b.length<=4->h.length<=5->m.types.length+8<=1000->∀n,1<=n->
   WJ m (((cF (cF m s a).1 s b).1.dA<|bD T).cR h [aS (cF (cF m s a).1 s b).1.types.length,aS (cF m s a).2,aS (cF (cF m s a).1 s b).2]) (cF (cF m s a).1 s b).1.types.length n []:=by
  intro h a b D hb F _ n _;obtain⟨⟨_,_,H⟩,t,s2,I⟩:=WH r q D hb om;have y:=t.types;refine⟨(t.trans ((Ix _ _).trans<|vK _ _ _)),py (s2.dA om) F sm ?_,om,sm,by simp[Iz];omega⟩;intro p o;simp only[mC,List.not_mem_nil,or_false] at o;rcases o with rfl|rfl|rfl
  .have:=oV (n:=(cF (cF m s a).1 s b).1.types.length) om;omega
  .have:=oV H;omega
  .have:=oV I;omega
 cases e with
 |«at» a=>obtain⟨i,j,l⟩:=Ir r q (PD d) (by simp only[Ex.n] at g;omega);exact⟨[],i.more om,j,l,sm,by simp[Iz,Ex.n]⟩
 |un h a=>
  simp only[Ex.n] at g;have v:=a.pos;obtain⟨i,j,l⟩:=Ir r q (pr d.2) om;have y:=i.types;refine⟨[],((i.trans ((Ix _ _).trans<|vK _ _ _))).more om,py (j.dA om) sm sm ?_,?_,sm,by simp[Iz,Ex.n]⟩
  .intro p o;simp only[mC,List.not_mem_nil,or_false] at o;rcases o with rfl|rfl|rfl
   .have:=oV (n:=(cF m s a.au).1.types.length) om;omega
   .have:=oV l;omega
   .split<;>simp
  .show(cF m s a.au).1.types.length<1000;omega
 |bi h a b=>
  simp only[Ex.n] at g;have v:=a.pos;refine⟨[],two (rB h) a.au b.au (pr d.2.1) (pr d.2.2) ?_ om _<|Ex.pos _⟩;unfold rB;split
  .simp
  .split
   .simp
   .split<;>simp
 |ite a b c=>simp only[Ex.n] at g;exact⟨[],two (rB il) a.au b.au (pr d.1) (pr d.2.1) de om _<|Ex.pos _⟩
 |lt x a b=>simp only[Ex.n] at g;exact⟨[],two (rB gR) x a.au (F3 d.1) (pr d.2.1) de om _<|Ex.pos _⟩
 |fn f x A B e=>simp only[Ex.n] at g;obtain⟨i,j,l,z⟩:=aiF r q d u hb om E;refine⟨_,i,j,l,λk hk=>by simp only[List.mem_singleton] at hk;rw[hk];exact z,?_⟩;rw[PI];simp only[BI,Ex.n];omega
theorem WK (b:fM m) {s:Nat} (c:s<1000) (i:m.types.length+3<1000):Ext m (ui m s) 6 []/\fM (ui m s)/\(ui m s).types.length=m.types.length+3:=by
 have d:=oV c;have e:=oV (n:=m.types.length) om;have f:=oV (n:=m.types.length+1) om;have g:=oV (n:=m.types.length+2) om;unfold ui;have z:([]:aj).length<=100000:=by simp
 refine⟨(Ix _ _).trans<|(vK _ _ _).trans ((Ix _ _).trans<|(vK _ _ _).trans ((Ix _ _).trans<|vK _ _ _)),?_,by simp[Mk.dA,Mk.cR]⟩;refine py (fM.dA (py (fM.dA (py (fM.dA b z) sm sm ?_) z) sm sm ?_) z) sm sm ?_
 all_goals
  intro p a;simp only[mC,List.not_mem_nil,or_false] at a;rcases a with rfl|rfl|rfl<;>first|omega|simp
theorem aiI (e:fM m) {f on:Nat} (d:f<1000) (j:x<1000) (g:on<1000) (i:m.types.length+3<1000):Ext m (zM m f x on) 10 []/\fM (zM m f x on):=by
 obtain⟨b,c,_⟩:=WK e d i;have d1:=oV (n:=m.types.length+1) om;have d2:=oV (n:=m.types.length+2) om;have d3:=oV j;have d4:=oV g;unfold zM;refine⟨b.trans ((vK _ _ _).trans<|(vK _ _ _).trans ((vK _ _ _).trans<|vK _ _ _)),?_⟩;refine py (py (py (py c sm sm ?_) sm sm ?_) sm sm ?_) sm sm ?_
 all_goals
  intro p a;simp only[mC,List.not_mem_nil,or_false] at a
  first
  |(rcases a with rfl|rfl<;>first|omega|simp)
  |(rw[a];omega)
theorem aiJ (d:fM m) {on r:Nat} (e:on<1000) (f:r<1000) (g:m.types.length+3<1000):Ext m (zN m on r) 10 []/\fM (zN m on r):=by
 obtain⟨b,c,_⟩:=WK d e g;have d1:=oV (n:=m.types.length+1) om;have d2:=oV (n:=m.types.length+2) om;have d3:=oV f;unfold zN;refine⟨(b.trans<|(vK _ _ _).trans ((vK _ _ _).trans<|vK _ _ _)).more om,?_⟩;refine py (py (py c sm sm ?_) sm sm ?_) sm sm ?_
 all_goals
  intro p a;simp only[mC,List.not_mem_nil,or_false] at a
  first
  |(rcases a with rfl|rfl<;>first|omega|simp)
  |(rw[a];omega)
structure oW (m:Mk) (s:cT) (on:Nat) (aX:aj) (e:Ex):Prop where
 sml:fM m
 sc:kP s
 ok:e.ok
 type:∃T,bH e (fh s)=some T
 bud:5*s.length+2*e.n<=240
 room:m.types.length+8*e.n<=1000
 on:on<1000
 aX:Ce aX
 cnt:m.count+e.n<=900
structure xg (m:Mk) (s:cT) (on:Nat) (aX:aj) (e:Ex) (T:Ty):Prop where
 ok:(bL e).s.ok
 type:bH (bL e).s (fh s)=some T
 small:T.n<=16
 oN:oN s (bL e).s=T
 le:(bL e).s.n<=e.n
 last:(bL e).name=[]->(bL e).s=e
 rest:(bL e).name≠[]->ey (bL e).name=true/\(bL e).rest.ok/\(∃U,bH (bL e).rest (fh s++[((bL e).name,T)])=some U)/\(bL e).s.n+(bL e).rest.n+2<=e.n
theorem oW.goal {on:Nat} {aX:aj} (h:oW m s on aX e):∃T,xg m s on aX e T:=by
 obtain⟨T,i⟩:=h.type;have g:bL e=⟨[],e,e⟩->∃T,xg m s on aX e T:=λj=>by
  refine⟨T,?_,?_,mD h.sc.types i,?_,?_,?_,?_⟩
  .rw[j];exact h.ok
  .rw[j];exact i
  .rw[j];unfold oN;rw[i];rfl
  .rw[j];exact lR _
  .intro _;rw[j]
  .intro o;rw[j] at o;exact absurd rfl o
 have n:=h.ok;cases e with
 |lt x a b=>
  unfold bH at i;cases l:bH a (fh s) with
  |none=>rw[l] at i;cases i
  |some A=>rw[l,Option.bind_some] at i;refine⟨A,n.2.1,l,mD h.sc.types l,by show(bH a<|fh s).getD .i=A;rw[l];rfl,by simp only[bL,Ex.n];omega,λo=>absurd o<|wV n.1,λ_=>⟨n.1,n.2.2,⟨T,i⟩,by simp only[bL,Ex.n];omega⟩⟩
 |«at» a=>exact g rfl
 |un a b=>exact g rfl
 |bi a b c=>exact g rfl
 |ite a b c=>exact g rfl
 |fn a b c d f=>exact g rfl
def fp (m:Mk) (s:cT) (on:Nat) (aX name:aj) (a:Ty) (rest:Ex):Mk×Nat×aj:=if name≠[] then vB m s on aX name a rest else(m,on,aX)
structure Cut (m m':Mk) (on':Nat) (onOf':aj) (n:Nat) (new:List Tk):Prop where
 ext:Ext m m' 4 new
 sml:fM m'
 on:on'<1000
 aX:Ce onOf'
 inv:∀k∈new,pw k
 num:lI new<=n
theorem WM {d:Mk} {on:Nat} {aX:aj} {T:Ty} (h:oW d s on aX e) (g:xg d s on aX e T) (c:fM m) (i:m.types.length+4<1000) (q:m.count<1000) (b:2<=(bL e).s.n):
  ∃new,Cut m (fp m s on aX (bL e).name T (bL e).rest).1 (fp m s on aX (bL e).name T (bL e).rest).2.1 (fp m s on aX (bL e).name T (bL e).rest).2.2 (e.n-(bL e).s.n) new:=by
 by_cases a:(bL e).name=[]
 .unfold fp;rw[iN (by simp[a])];exact⟨[],(Ext.refl m).more om,c,h.on,h.aX,sm,by simp[Iz]⟩
 .unfold fp;rw[iP a];obtain⟨_,f,⟨U,p⟩,_⟩:=g.rest a;have hb:=h.bud;obtain⟨j,l,b,n,o⟩:=aiH (name:=(bL e).name) c h.sc h.on h.aX g.small f p om i q;refine⟨_,j,l,b,n,λk hk=>by simp only[List.mem_singleton] at hk;rw[hk];exact o,?_⟩;rw[PI];show(bL e).rest.n+1<=_;omega
structure Fin (m m':Mk) (n:Nat) (new:List Tk):Prop where
 ext:Ext m m' 20 new
 sml:fM m'
 inv:∀k∈new,pw k
 num:lI new+1<=n
structure On (m m':Mk) (s:cT) (on:Nat) (aX:aj) (n:Nat) (r:Ex) (new:List Tk):Prop where
 ext:Ext m m' 20 new
 inv:oW m' s on aX r
 bM:∀k∈new,pw k
 num:lI new+r.n+1<=n
theorem aiK {on:Nat} {aX:aj} {T:Ty} (h:oW m s on aX e) (g:xg m s on aX e T) (i:(bL e).name=[]):
  ∃new,Fin m (zN (oc m s T (bL e).s).1 on (oc m s T (bL e).s).2) e.n new:=by
 have l:=h.room;have f:=h.cnt;have j:=(bL e).s.pos;have d:=g.le;obtain⟨new,a⟩:=PJ h.sml h.sc g.ok g.type (by have:=h.bud;omega) om om;have n:=a.ext.types;obtain⟨b,c⟩:=aiJ a.sml h.on a.dA om;exact⟨new,by have:=a.ext.trans b;rw[List.append_nil] at this;exact this.more om,c,a.inv,by have:=a.num;omega⟩
theorem WN {on:Nat} {aX:aj} {T:Ty} (h:oW m s on aX e) (g:xg m s on aX e T) (n:(bL e).name≠[]):
  ∃new,On m (oc m s T (bL e).s).1 (s++[((bL e).name,(oc m s T (bL e).s).2,T)]) on aX e.n (bL e).rest new:=by
 have q:=h.room;have o:=h.cnt;have p:=(bL e).s.pos;have j:=g.le;obtain⟨_,d,⟨U,i⟩,_⟩:=g.rest n;obtain⟨new,a⟩:=PJ h.sml h.sc g.ok g.type (by have:=h.bud;omega) om om;have r:=a.ext.types;have b:=a.ext.count;have f:=a.num;have c:new.length<=lI new:=by
  unfold lI;clear a b f;induction new with
  |nil=>simp
  |cons t l _=>simp only[lC,List.map_cons,List.sum_cons];omega
 refine⟨new,a.ext.more om,⟨a.sml,h.sc.snoc a.dA g.small,d,⟨U,by rw[FK];exact i⟩,?_,om,h.on,h.aX,om⟩,a.inv,om⟩;have:=h.bud;simp only[lA,lC,List.length_nil];omega
theorem aiM {on:Nat} {aX:aj} {f x:Ex} {T:Ty} (h:oW m s on aX e) (g:xg m s on aX e T) (d:(bL e).s= .bi kX f x):
  ∃new,Cut (cF (cF m s f.au).1 s x.au).1 (fp (cF (cF m s f.au).1 s x.au).1 s on aX (bL e).name T (bL e).rest).1 (fp (cF (cF m s f.au).1 s x.au).1 s on aX (bL e).name T (bL e).rest).2.1 (fp (cF (cF m s f.au).1 s x.au).1 s on aX (bL e).name T (bL e).rest).2.2 (e.n-3) new/\
   Fin m (zM (fp (cF (cF m s f.au).1 s x.au).1 s on aX (bL e).name T (bL e).rest).1 (cF m s f.au).2 (cF (cF m s f.au).1 s x.au).2 (fp (cF (cF m s f.au).1 s x.au).1 s on aX (bL e).name T (bL e).rest).2.1) e.n new:=by
 have b:=g.ok;rw[d] at b;have r:=h.room;have q:=h.cnt;have l:=g.le;have p:3<=(bL e).s.n:=by rw[d];simp only[Ex.n];have:=f.pos;have:=x.pos;omega
 obtain⟨⟨_,s1,n⟩,c,s2,o⟩:=WH h.sml h.sc (pr b.2.1) (pr b.2.2) om;have t2:=c.types;have c2:=c.count;simp only[List.length_nil] at c2;obtain⟨new,a⟩:=WM h g s2 om om om;have t3:=a.ext.types;obtain⟨i,j⟩:=aiI a.sml n o a.on om;refine⟨new,⟨a.ext,a.sml,a.on,a.aX,a.inv,by have:=a.num;omega⟩,?_,j,a.inv,by have:=a.num;omega⟩;have:=(c.trans a.ext).trans i;rw[List.append_nil,List.nil_append] at this;exact this.more om
def PM (m:Mk) (s:cT) (on:Nat) (aX:aj) (x:Ex):Tk:=⟨m.aO,m.types,0,[],s,x,on,aX,m.types.length⟩
def IB (m:Mk) (s:cT) (on:Nat) (aX:aj) (r:Nat) (x:Ex):Mk:={(m.mc.cR H4 [aS r,m.aO]) with bM:=m.bM++[PM m s on aX x]}
theorem WO {on:Nat} {aX:aj} {c x y:Ex} {T:Ty} (h:oW m s on aX e) (g:xg m s on aX e T) (z:(bL e).s= .ite c x y):
  ∃new C,Cut (cF m s c.au).1 (fp (cF m s c.au).1 s on aX (bL e).name T (bL e).rest).1 (fp (cF m s c.au).1 s on aX (bL e).name T (bL e).rest).2.1 (fp (cF m s c.au).1 s on aX (bL e).name T (bL e).rest).2.2 (e.n-(bL e).s.n) new/\
   On m (IB (fp (cF m s c.au).1 s on aX (bL e).name T (bL e).rest).1 s (fp (cF m s c.au).1 s on aX (bL e).name T (bL e).rest).2.1 (fp (cF m s c.au).1 s on aX (bL e).name T (bL e).rest).2.2 (cF m s c.au).2 x) s
    (fp (cF m s c.au).1 s on aX (bL e).name T (bL e).rest).2.1 (fp (cF m s c.au).1 s on aX (bL e).name T (bL e).rest).2.2 e.n y C:=by
 have i:=g.ok;have b:=g.type;rw[z] at i b;have S:=h.room;have R:=h.cnt;have J:=g.le;have hb:=h.bud;have P:=c.pos;have O:(bL e).s.n=1+c.n+x.n+y.n:=by rw[z];rfl
 have K:=x.pos;have L:=y.pos;obtain⟨j,s1,N⟩:=Ir h.sml h.sc (pr i.1) om;have t1:=j.types;have c1:=j.count;simp only[List.length_nil] at c1;obtain⟨new,a⟩:=WM h g s1 om om om;generalize fp (cF m s c.au).1 s on aX (bL e).name T (bL e).rest=Q at a⊢;obtain⟨m2,o,q⟩:=Q;dsimp only at a⊢;have t3:=a.ext.types;have F:=a.ext.count;have E:=a.num;have u:new.length<=lI new:=by
  unfold lI;clear a F E t3;induction new with
  |nil=>simp
  |cons t l _=>simp only[lC,List.map_cons,List.sum_cons];omega
 have I:=Cg (m:=m2) om;have f:(∃X,bH x (fh s)=some X)/\∃Y,bH y (fh s)=some Y:=by
  unfold bH at b;cases n:bH c (fh s) with
  |none=>rw[n] at b;cases b
  |some A=>
   cases r:bH x (fh s) with
   |none=>rw[n,r] at b;cases b
   |some B=>
    cases H:bH y (fh s) with
    |none=>rw[n,r,H] at b;cases b
    |some D=>exact⟨⟨B,rfl⟩,⟨D,rfl⟩⟩
 have M:pw (PM m2 s o q x):=
  ⟨i.2.1,f.1,h.sc,by show 5*s.length+2*x.n<=240;omega,by show m2.types.length+0+8*x.n<=990;omega,a.sml.types,.inl rfl,.inl rfl,a.aX,a.on,I⟩
 refine⟨new,new++[PM m2 s o q x],a,⟨?_,⟨?_,h.sc,i.2.2,f.2,om,?_,a.on,a.aX,?_⟩,?_,?_⟩⟩
 .have d:=j.trans a.ext;rw[List.nil_append] at d;refine⟨d.blocks,?_,?_,?_,?_⟩
  .show m2.bM++[_]=_;rw[d.bM,List.append_assoc]
  .show m2.count+1=_;rw[d.count,lA];simp;omega
  .have:=d.types;exact⟨this.1,by show m2.types.length<=_;omega⟩
  .have:=d.code;show(m2.code++[_]).length<=_;simp only[lA,lC,List.length_nil];omega
 .have:=py (m:=m2.mc) (hd:=H4) (ps:=[aS (cF m s c.au).2,m2.aO]) ⟨a.sml.types,a.sml.code⟩ de sm (λp v=>by
   simp only[mC,List.not_mem_nil,or_false] at v;rcases v with rfl|rfl
   .have:=oV N;omega
   .omega)
  exact⟨this.types,this.code⟩
 .show m2.types.length+_<=_;omega
 .show m2.count+1+_<=_;omega
 .intro k hk;rcases mA.1 hk with hk|hk
  .exact a.inv k hk
  .simp only[List.mem_singleton] at hk;rw[hk];exact M
 .rw[Iy,PI];show _+(x.n+1)+_+1<=_;omega
def p6 (m:Mk) (a:List aq):Nat->Mk
 |0=>m
 |k+1=>((p6 m a k).dA (nth a k).text).cR uh [aS (p6 m a k).types.length,[48],aS k]
def Ci (m:Mk) (aO:aj) (regs:List aj) (a b:aj):Mk:=
 let code:=eH [99] regs;let r:=m.types.length
 (((((m.dA code).cR ub [aS r,aO]).dA<|eH [116] [code,b]).cR mE [aS<|r+1,aS r,[48]]).dA a).cR ug [aS<|r+2,aS<|r+1,a,b]
def oX (m:Mk) (regs:List aj):Mk:={m with code:=[],types:=regs}
def Lu (m:Mk) (t:Tk):Mk:=match t.self with
 |[a,b]=>Ci m t.aO t.regs a b
 |_=>m
def oh (t:Tk):List aq:=match bS (t.regs.getD 0 [105]) with
 |some x=>x.ag.drop 1
 |none=>[]
def rF (m:Mk) (t:Tk):Mk:=Lu (p6 (oX m t.regs) (oh t) t.loads) t
theorem PN {t:Tk} (h:t.regs.head?=some (eH [116] (ts.map aq.text))) (c:bS (eH [116] (ts.map aq.text))=some (l8 [116] ts)):oh t=ts/\bS (t.regs.getD 0 [105])=some (l8 [116] ts):=by
 have e:t.regs.getD 0 [105]=eH [116] (ts.map aq.text):=by
  cases b:t.regs with
  |nil=>rw[b] at h;cases h
  |cons a l=>rw[b] at h;simpa using h
 unfold oh;rw[e,c];exact⟨rfl,rfl⟩
structure DW (m m':Mk) (regs:List aj) (k:Nat):Prop where
 blocks:m'.blocks=m.blocks
 bM:m'.bM=m.bM
 count:m'.count=m.count
 types:m'.types.length=regs.length+k
 code:m'.code.length<=k
 sml:fM m'
theorem PO {regs:List aj} (h:∀r∈regs,r.length<=100000):DW m (oX m regs) regs 0:=⟨rfl,rfl,rfl,rfl,by simp[oX],⟨h,by simp[oX]⟩⟩
theorem PQ {m:Mk} {regs:List aj} (h:∀r∈regs,r.length<=100000) (c:∀t∈ts,t.text.length<=100000):∀k,regs.length+k<1000->k<=ts.length->DW m (p6 (oX m regs) ts k) regs k
 |0,_,_=>PO h
 |k+1,hk,_=>by
  have a:=PQ (m:=m) h c k om om;have d1:=oV (n:=(p6 (oX m regs) ts k).types.length) (by rw[a.types];omega);have d2:=oV (n:=k) om;refine⟨a.blocks,a.bM,a.count,by show(((p6 (oX m regs) ts k).types++[_])).length=_;rw[lA,a.types];rfl,?_,?_⟩
  .show((p6 (oX m regs) ts k).code++[_]).length<=_;have:=a.code;rw[lA];simp;omega
  .refine py (a.sml.dA ?_) sm sm ?_
   .have:=c (nth ts k) (by unfold nth;rw[gG,gE om];exact List.getElem_mem _);omega
   .intro p b;simp only[mC,List.not_mem_nil,or_false] at b;rcases b with rfl|rfl|rfl
    .omega
    .simp
    .omega
theorem WT {regs:List aj} (b:regs.length=3) (h:∀r∈regs,r.length<=11200):(eH [99] regs).length<=33610:=by have a:=Cd (m:=11200) regs h;rw[b] at a;rw[mP];simp only[lC,List.length_nil];omega
theorem aiN (a b c d:aj):kc [a,b,c,d]=4+a.length+b.length+c.length+d.length:=by simp[kc];omega
theorem aiO (f:fM m) {aO:aj} (e:aO.length<=4) {regs:List aj} (c:regs.length=3) (h:∀r∈regs,r.length<=11200) {a b:aj} (d:a.length<=272) (hb:b.length<=11200) (g:m.types.length+3<1000):fM (Ci m aO regs a b):=by grind [WT,oV,dz.length,eH,mP,Cf,Ci,fM.cR,fM.dA,py,aiN]
theorem aiP {c:Mk} {regs:List aj} (h:DW m c regs k) (aO a b:aj) (d:fM (Ci c aO regs a b)):DW m (Ci c aO regs a b) regs (k+3):=
 ⟨h.blocks,h.bM,h.count,by have:=h.types;simp[Ci,Mk.dA,Mk.cR];omega,by have:=h.code;simp[Ci,Mk.dA,Mk.cR];omega,d⟩
theorem WU {s:aj} (h:s∈ps):s.length<=kc ps:=by
 unfold kc;have:∀{xs:List aj},s∈xs->s.length<=(xs.map List.length).sum:=by
  intro xs;induction xs with
  |nil=>intro h;cases h
  |cons x xs a=>
   intro h;rw[List.map_cons,List.sum_cons];rcases mC.1 h with rfl|h
   .omega
   .have:=a h;omega
 have:=this h;omega
theorem PR {m:Mk} {t:Tk} (h:pw t):DW m (rF m t) t.regs (t.loads+(if t.self=[] then 0 else 3)):=by
 have s:=h.room;have r:=t.expr.pos;have c:DW m (p6 (oX m t.regs) (oh t) t.loads) t.regs t.loads:=by
  rcases h.loads with d|⟨ts,g,e,i⟩
  .rw[d];exact PO h.regs
  .obtain⟨j,_⟩:=PN g i;rw[j];refine PQ h.regs (λx q=>?_) _ om e;have l:=h.regs _<|List.mem_of_mem_head? g;rw[mP] at l;have:=WU<|List.mem_map_of_mem (f:=aq.text) q;omega
 unfold rF Lu;rcases h.self with d|⟨a,b,p,o,hb,n,e⟩
 .rw[d,iP rfl];exact c
 .rw[p,iN sm];refine aiP c _ _ _<|aiO c.sml h.aO n e o hb ?_;rw[c.types];omega
theorem WV {t:Tk} (h:pw t) (a:m.count+t.expr.n<=900):oW (rF m t) t.sc t.on t.aX t.expr:=by have hb:=PR (m:=m) h;have b:=h.room;refine⟨hb.sml,h.sc,h.ok,h.type,h.bud,?_,h.on,h.aX,by rw[hb.count];exact a⟩;rw[hb.types];split<;>omega
/-! ### A block's body -/
def nH:Nat->At->Ex->Mk
 |0,a,_=>a.m
 |k+1,a,e=>match kZ a e with
  | .inl m=>m
  | .inr p=>nH k p.1 p.2
theorem Lv (m:Mk) (s:cT) (on:Nat) (aX:aj) (g:Goal):K3 ⟨m,s,on,aX⟩ g=⟨(fp m s on aX g.name (oN s g.s) g.rest).1,s,(fp m s on aX g.name (oN s g.s) g.rest).2.1,(fp m s on aX g.name (oN s g.s) g.rest).2.2⟩:=by unfold K3 fp;split<;>rfl
theorem WW {on:Nat} {aX:aj} (h:oW m s on aX e):match kZ ⟨m,s,on,aX⟩ e with
  | .inl q=>∃new,Fin m q e.n new
  | .inr p=>∃new,On m p.1.m p.1.s p.1.on p.1.aX e.n p.2 new:=by
 obtain⟨T,g⟩:=h.goal;have o:=g.oN;have i:kZ ⟨m,s,on,aX⟩ e=(if(bL e).name=[] then .inl (zN (oc m s (oN s (bL e).s) (bL e).s).1 on (oc m s (oN s (bL e).s) (bL e).s).2) else .inr (⟨(oc m s (oN s (bL e).s) (bL e).s).1,s++[((bL e).name,(oc m s (oN s (bL e).s) (bL e).s).2,oN s (bL e).s)],on,aX⟩,(bL e).rest))->
   match kZ ⟨m,s,on,aX⟩ e with
   | .inl q=>∃new,Fin m q e.n new
   | .inr p=>∃new,On m p.1.m p.1.s p.1.on p.1.aX e.n p.2 new:=λl=>by
  rw[l,o];by_cases n:(bL e).name=[]
  .rw[iP n];exact aiK h g n
  .rw[iN n];exact WN h g n
 cases j:(bL e).s with
 |«at» a=>exact i (by unfold kZ;simp only[j])
 |un a b=>exact i (by unfold kZ;simp only[j])
 |lt a b c=>exact i (by unfold kZ;simp only[j])
 |fn a b c d f=>exact i (by unfold kZ;simp only[j])
 |bi v f x=>
  by_cases r:v=kX
  .subst r;have l:kZ ⟨m,s,on,aX⟩ e= .inl (zM (fp (cF (cF m s f.au).1 s x.au).1 s on aX (bL e).name T (bL e).rest).1 (cF m s f.au).2 (cF (cF m s f.au).1 s x.au).2 (fp (cF (cF m s f.au).1 s x.au).1 s on aX (bL e).name T (bL e).rest).2.1):=by
    unfold kZ;simp only[j,if_true,Lv];rw[<-j,o]
   rw[l];obtain⟨new,_,t⟩:=aiM h g j;exact⟨new,t⟩
  .exact i (by unfold kZ;simp only[j,iN r])
 |ite c x y=>
  have l:kZ ⟨m,s,on,aX⟩ e= .inr (⟨IB (fp (cF m s c.au).1 s on aX (bL e).name T (bL e).rest).1 s (fp (cF m s c.au).1 s on aX (bL e).name T (bL e).rest).2.1 (fp (cF m s c.au).1 s on aX (bL e).name T (bL e).rest).2.2 (cF m s c.au).2 x,s,
    (fp (cF m s c.au).1 s on aX (bL e).name T (bL e).rest).2.1,(fp (cF m s c.au).1 s on aX (bL e).name T (bL e).rest).2.2⟩,y):=by
   unfold kZ;simp only[j,Lv];rw[<-j,o];rfl
  rw[l];obtain⟨_,new,_,u⟩:=WO h g j;exact⟨new,u⟩
structure yq (m m':Mk) (s:cT) (on:Nat) (aX:aj) (n k:Nat) (r:Ex) (new:List Tk):Prop where
 ext:Ext m m' k new
 inv:oW m' s on aX r
 bM:∀k∈new,pw k
 num:lI new+r.n<=n
 steps:k+20*r.n<=20*n
theorem yq.start {on:Nat} {aX:aj} (h:oW m s on aX e):yq m m s on aX e.n 0 e []:=⟨Ext.refl m,h,sm,by simp[Iz],om⟩
theorem yq.step {s2:cT} {on d:Nat} {aX e:aj} {r f:Ex} {new c:List Tk} (h:yq m m1 s on aX n k r new) (a:On m1 m2 s2 d e r.n f c):yq m m2 s2 d e n (k+20) f (new++c):=
 ⟨h.ext.trans a.ext,a.inv,λt b=>by rcases mA.1 b with b|b;exact h.bM t b;exact a.bM t b,by rw[Iy];have:=h.num;have:=a.num;omega,by have:=h.steps;have:=a.num;omega⟩
structure PS (m m':Mk) (n:Nat) (new:List Tk):Prop where
 ext:Ext m m' (20*n) new
 sml:fM m'
 inv:∀k∈new,pw k
 num:lI new+1<=n
theorem yq.fin {on:Nat} {aX:aj} {r:Ex} {new c:List Tk} (h:yq m m1 s on aX n k r new) (b:Fin m1 m2 r.n c):PS m m2 n (new++c):=by
 have d:=h.steps;have e:=r.pos;refine⟨(h.ext.trans b.ext).more om,b.sml,λt a=>?_,by rw[Iy];have:=h.num;have:=b.num;omega⟩;rcases mA.1 a with a|a
 .exact h.bM t a
 .exact b.inv t a
theorem Lw:∀(k:Nat) {m:Mk} {s:cT} {on:Nat} {aX:aj} {e:Ex},oW m s on aX e->e.n<=k->∃new,PS m (nH k ⟨m,s,on,aX⟩ e) e.n new
 |0,_,_,_,_,e,_,hk=>absurd hk (by have:=e.pos;omega)
 |k+1,m,s,on,aX,e,h,hk=>by
  have a:=WW h;unfold nH;cases d:kZ ⟨m,s,on,aX⟩ e with
  |inl _=>rw[d] at a;obtain⟨new,a⟩:=a;exact⟨_,(yq.start h).fin a⟩
  |inr p=>
   rw[d] at a;obtain⟨⟨m1,s1,_,_⟩,_⟩:=p;obtain⟨new,a⟩:=a;dsimp only at a⊢;obtain⟨f,c⟩:=Lw k a.inv (by have:=a.num;omega);have g:=a.num;refine⟨new++f,(a.ext.trans c.ext).more om,c.sml,λt b=>?_,by rw[Iy];have:=c.num;omega⟩;rcases mA.1 b with b|b
   .exact a.bM t b
   .exact c.inv t b
theorem aiR:∀(k:Nat) {m:Mk} {s:cT} {on:Nat} {aX:aj} {e:Ex},oW m s on aX e->e.n<=k->nH k ⟨m,s,on,aX⟩ e=nH e.n ⟨m,s,on,aX⟩ e:=by
 have b:∀(k j:Nat) {m:Mk} {s:cT} {on:Nat} {aX:aj} {e:Ex},oW m s on aX e->e.n<=k->e.n<=j->nH k ⟨m,s,on,aX⟩ e=nH j ⟨m,s,on,aX⟩ e:=by
  intro k;induction k with
  |zero=>intro j _ _ _ _ e _ hk;have:=e.pos;omega
  |succ k d=>
   intro j m s on aX e h hk _;cases j with
   |zero=>have:=e.pos;omega
   |succ j=>
    have a:=WW h;unfold nH;cases c:kZ ⟨m,s,on,aX⟩ e with
    |inl _=>rfl
    |inr p=>rw[c] at a;obtain⟨⟨m1,s1,_,_⟩,_⟩:=p;obtain⟨new,a⟩:=a;dsimp only at a⊢;have f:=a.num;exact d j a.inv om om
 exact λk m s on aX e h hk=>b k e.n h hk (lR _)
/-! ### A program -/
def DX (m:Mk) (aO:aj) (regs:List aj):Mk:={m with blocks:=m.blocks++[⟨aO,regs,m.code⟩]}
abbrev sT:aj:=[40,116,41]
def uz (T:Ty):Mk:=
 let on:=dN<|bD T;let code:=eH [99] [sT,bD T]
 ((((⟨[],[],0,false,[],[sT,code,eH [116] [code,sT],on]⟩:Mk).cR mE [[48]]).cR ub [[49],BG]).cR mE [[50],[49],[48]]).cR ug [[51],[50],on,sT]
def ID (e:Ex) (T:Ty):Tk:=⟨DB,[],0,[],[],e,3,dN<|bD T,0⟩
def th (e:Ex) (T:Ty):Mk:=nH e.n ⟨uz T,[],3,dN<|bD T⟩ e
def DY (e:Ex) (T:Ty):Mk:=DX {(DX (th e T) DB []) with code:=[[40,104,97,108,116,32,49,41]]} BG [sT,bD T]
def F5 (m:Mk) (t:Tk):Mk:=DX (nH t.expr.n ⟨rF m t,t.sc,t.on,t.aX⟩ t.expr) t.aO t.regs
def iG (a:List Tk) (i:Nat):Tk:=a.getD i ⟨[],[],0,[],[],.at [],0,[],0⟩
def Af:Nat->Mk->Nat->Mk
 |0,m,_=>m
 |k+1,m,i=>if i<m.bM.length then Af k (F5 m<|iG m.bM i) (i+1) else m
def ofM (e:Ex) (T:Ty):Mk:=Af 1000 (DY e T) 0
structure ti (m:Mk) (i:Nat):Prop where
 le:i<=m.bM.length
 count:m.count=m.bM.length
 num:i+lI (m.bM.drop i)<=120
 inv:∀t,t∈m.bM.drop i->pw t
 Bh:∀b∈m.blocks,b.small/\b.aO.length<=10
 bnum:m.blocks.length=i+2
theorem WX {T:Ty} (f:e.ok) (d:bH e []=some T) (m:e.n<=120):oW (uz T) [] 3 (dN<|bD T) e:=by
 have b:=mD (Γ:=[]) (λs T h=>by simp[look] at h) d;have i:=qM b;have j:=vI b;have l:(eH [99] [sT,bD T]).length<=300:=by rw[mP,Cf];simp only[lC,List.length_nil];omega
 have g:Ce (dN<|bD T):=⟨T,b,rfl⟩;refine⟨?_,⟨λs T h=>by simp[fh,look] at h,sm⟩,f,⟨T,d⟩,by simp;omega,by simp[uz,Mk.cR];omega,om,g,by simp[uz,Mk.cR];omega⟩;unfold uz;refine py (py (py (py ⟨?_,sm⟩ sm sm ?_) sm sm ?_) sm sm ?_) sm sm ?_
 .intro s c;simp only[mC,List.not_mem_nil,or_false] at c;rcases c with rfl|rfl|rfl|rfl
  .simp
  .omega
  .rw[mP,Cf];simp only[lC,List.length_nil];omega
  .omega
 all_goals
  intro p a;simp only[mC,List.not_mem_nil,or_false] at a
  first
  |(rcases a with rfl|rfl|rfl|rfl<;>first|omega|simp)
  |(rcases a with rfl|rfl|rfl<;>first|omega|simp)
  |(rcases a with rfl|rfl<;>first|omega|simp)
  |(rw[a];simp)
theorem WY {T:Ty} (a:e.ok) (c:bH e []=some T) (b:e.n<=120):∃new,PS (uz T) (th e T) e.n new:=Lw _ (WX a c b)<|lR _
theorem W0 (a:List Tk):a.length<=lI a:=by induction a<;>grind [lI]
theorem aiS (m:Mk) (l:aj) (r:List aj):(DX m l r).blocks=m.blocks++[⟨l,r,m.code⟩]:=rfl
theorem PT {T:Ty} (d:e.ok) (l:bH e []=some T) (j:e.n<=120):ti (DY e T) 0:=by
 obtain⟨new,h⟩:=WY d l j;have f:=h.ext.bM;have g:=h.ext.count;have m:=h.num;have n:=h.ext.code;have i:=h.ext.blocks;have hb:(DY e T).blocks=[⟨DB,[],(th e T).code⟩,⟨BG,[sT,bD T],[[40,104,97,108,116,32,49,41]]⟩]:=by unfold DY;rw[aiS];show(th e T).blocks++_++_=_;rw[i];rfl
 have c:(DY e T).bM=new:=by show(th e T).bM=new;rw[f];rfl
 refine⟨Nat.zero_le _,?_,?_,?_,?_,by rw[hb];rfl⟩
 .rw[c];show(th e T).count=_;rw[g];simp[uz,Mk.cR]
 .rw[c,List.drop_zero];omega
 .rw[c,List.drop_zero];exact h.inv
 .intro b a;rw[hb] at a;have o:(uz T).code.length=4:=rfl;simp only[mC,List.not_mem_nil,or_false] at a;rcases a with rfl|rfl
  .exact⟨⟨by simp,sm,by show(th e T).code.length<_;omega⟩,sm⟩
  .exact⟨⟨by simp,sm,sm⟩,sm⟩
theorem Ly {a:List Tk} (b:i<a.length):a.drop i=iG a i::a.drop (i+1):=by simp_all[iG]
theorem ti.task (h:ti m i) (a:i<m.bM.length):pw (iG m.bM i)/\m.count+(iG m.bM i).expr.n<=900/\m.bM.length<=120:=by
 have c:=h.num;have b:=W0<|m.bM.drop i;rw[List.length_drop] at b;have d:lI (m.bM.drop i)=(iG m.bM i).expr.n+1+lI (m.bM.drop<|i+1):=by rw[Ly a];simp[lI]
 have e:=h.count;exact⟨h.inv _ (by rw[Ly a];simp),om,om⟩
theorem ti.step (h:ti m i) (f:i<m.bM.length):ti (F5 m<|iG m.bM i) (i+1):=by
 obtain⟨e,r,_⟩:=h.task f;have v:=h.num;have y:lI (m.bM.drop i)=(iG m.bM i).expr.n+1+lI (m.bM.drop<|i+1):=by rw[Ly f];simp[lI]
 have hb:=PR (m:=m) e;obtain⟨new,d⟩:=Lw _ (WV e r)<|lR _;have l:=d.ext.bM;have n:=d.ext.count;have p:=d.ext.code;have j:=d.ext.blocks;have u:=d.num;have s:=hb.code;rw[hb.bM] at l;rw[hb.count] at n;rw[hb.blocks] at j;have A:=e.room;have o:(m.bM++new).drop (i+1)=m.bM.drop (i+1)++new:=by rw[List.drop_append_of_le_length f]
 have g:(F5 m<|iG m.bM i).bM=m.bM++new:=l;refine⟨by rw[g,lA];omega,?_,?_,?_,?_,?_⟩
 .rw[g,lA,<-h.count];exact n
 .rw[g,o,Iy];omega
 .intro t a;rw[g,o] at a;rcases mA.1 a with a|a
  .exact h.inv t (by rw[Ly f];simp[a])
  .exact d.inv t a
 .intro b q;have c:b∈m.blocks++[⟨(iG m.bM i).aO,(iG m.bM i).regs,(nH (iG m.bM i).expr.n ⟨rF m (iG m.bM i),(iG m.bM i).sc,(iG m.bM i).on,(iG m.bM i).aX⟩ (iG m.bM i).expr).code⟩]:=by rw[<-j];exact q
  rcases mA.1 c with c|c
  .exact h.Bh b c
  .simp only[List.mem_singleton] at c;rw[c];have z:=e.aO;refine⟨⟨by show(iG m.bM i).aO.length<_;omega,by show(iG m.bM i).regs.length<_;omega,?_⟩,by show(iG m.bM i).aO.length<=_;omega⟩;refine Nat.lt_of_le_of_lt p ?_;have:(if(iG m.bM i).self=[] then 0 else 3)<=3:=by split<;>omega
   omega
 .show((nH _ _ _).blocks++[_]).length=_;rw[j,lA,h.bnum];rfl
theorem W1 (h:¬i<m.bM.length):∀k,Af k m i=m
 |0=>rfl
 |k+1=>by unfold Af;rw[iN h]
theorem W2 (h:i<m.bM.length) (k:Nat):Af (k+1) m i=Af k (F5 m<|iG m.bM i) (i+1):=by rw[Af,iP h]
theorem ti.small (h:ti m i):xV m.blocks:=by have b:=h.num;refine⟨by rw[h.bnum];omega,λj a=>(h.Bh _ ?_).1⟩;unfold cA;rw[gG,gE a];exact List.getElem_mem a
theorem ti.labels (h:ti m i):∀b∈m.blocks,b.aO.length<=10:=λb hb=>(h.Bh b hb).2
theorem Cj (h:aj):(iD h=true/\gS h=false/\h≠il/\h≠gR/\h≠iC/\eN h=(1,3))\/(iD h=false/\gS h=false/\h=il/\eN h=(1,4))\/
  (iD h=false/\gS h=false/\h=gR/\eN h=(2,4))\/(iD h=false/\gS h=false/\h=iC/\eN h=(5,6))\/(iD h=false/\gS h=true/\h≠il/\h≠gR/\h≠iC/\eN h=(1,2))\/
  (iD h=false/\gS h=false/\h≠il/\h≠gR/\h≠iC/\eN h=(0,0)):=by
 by_cases hb:iD h=true
 .left;have hk:eN h=(1,3):=by unfold eN;rw[iP hb]
  have g:=hb;simp only[iD,oE,dE] at g;rcases g with(((e|e)|e)|e)|e<;>subst e<;>refine⟨rfl,rfl,by decide,by decide,by decide,hk⟩
 .have d:iD h=false:=by simpa using hb
  right;by_cases a:h=il
  .left;exact⟨d,by rw[a];rfl,a,by rw[a];rfl⟩
  .right;by_cases b:h=gR
   .left;exact⟨d,by rw[b];rfl,b,by rw[b];rfl⟩
   .right;by_cases c:h=iC
    .left;exact⟨d,by rw[c];rfl,c,by rw[c];rfl⟩
    .right;by_cases f:gS h=true
     .left;exact⟨d,f,a,b,c,by unfold eN;rw[iN hb,iN a,iN b,iN c,iP f]⟩
     .right;exact⟨d,by simpa using f,a,b,c,by unfold eN;rw[iN hb,iN a,iN b,iN c,iN f]⟩
theorem LA:eN il=(1,4)/\eN gR=(2,4)/\eN iC=(5,6)/\gS il=false/\gS gR=false/\gS iC=false/\iD il=false/\iD gR=false/\iD iC=false:=by simp_all[eN,gS,iD]
def F8 (a:List aq):Bool:=(decide ((eN (nth a 0).au).1<=1)||ey (nth a 1).au)&&
 (decide ((eN (nth a 0).au).1≠5)||(ey (nth a 2).au&&decide ((nth a 1).au≠(nth a 2).au)&&kK (nth a 3)&&kK (nth a 4)))
theorem aiT (g:List aq):oJ g=(decide ((eN (nth g 0).au).1≠0)&&decide (g.length=(eN (nth g 0).au).2)&&F8 g&&(g.drop (eN (nth g 0).au).1).all dZ):=by
 unfold F8
 match g with
 |[]=>simp[oJ,nth,aq.au,eN,iD,gS]
 |[h]=>rcases Cj h.au with⟨h1,h2,h3,h4,h5,hk⟩|⟨h1,h2,h3,hk⟩|⟨h1,h2,h3,hk⟩|⟨h1,h2,h3,hk⟩|⟨h1,h2,h3,h4,h5,hk⟩|⟨h1,h2,h3,h4,h5,hk⟩<;>simp[oJ,nth,hk]
 |[h,a]=>rcases Cj h.au with⟨h1,h2,h3,h4,h5,hk⟩|⟨h1,h2,h3,hk⟩|⟨h1,h2,h3,hk⟩|⟨h1,h2,h3,hk⟩|⟨h1,h2,h3,h4,h5,hk⟩|⟨h1,h2,h3,h4,h5,hk⟩<;>simp[oJ,nth,hk,h1,h2,h3,LA]
 |[h,a,b]=>rcases Cj h.au with⟨h1,h2,h3,h4,h5,hk⟩|⟨h1,h2,h3,hk⟩|⟨h1,h2,h3,hk⟩|⟨h1,h2,h3,hk⟩|⟨h1,h2,h3,h4,h5,hk⟩|⟨h1,h2,h3,h4,h5,hk⟩<;>simp[oJ,nth,hk,h1,h2,h3,LA]
 |[h,a,b,c]=>rcases Cj h.au with⟨h1,h2,h3,h4,h5,hk⟩|⟨h1,h2,h3,hk⟩|⟨h1,h2,h3,hk⟩|⟨h1,h2,h3,hk⟩|⟨h1,h2,h3,h4,h5,hk⟩|⟨h1,h2,h3,h4,h5,hk⟩<;>simp[oJ,nth,hk,h1,h2,h3,LA]<;>try simp[*]
 |[h,a,b,c,d]=>rcases Cj h.au with⟨h1,h2,h3,h4,h5,hk⟩|⟨h1,h2,h3,hk⟩|⟨h1,h2,h3,hk⟩|⟨h1,h2,h3,hk⟩|⟨h1,h2,h3,h4,h5,hk⟩|⟨h1,h2,h3,h4,h5,hk⟩<;>simp[oJ,nth,hk]
 |[h,a,b,c,d,e]=>rcases Cj h.au with⟨h1,h2,h3,h4,h5,hk⟩|⟨h1,h2,h3,hk⟩|⟨h1,h2,h3,hk⟩|⟨h1,h2,h3,hk⟩|⟨h1,h2,h3,h4,h5,hk⟩|⟨h1,h2,h3,h4,h5,hk⟩<;>simp[oJ,nth,hk,h3,LA]<;>try simp[*,Bool.and_assoc]
 |h::a::b::c::d::e::f::r=>rcases Cj h.au with⟨h1,h2,h3,h4,h5,hk⟩|⟨h1,h2,h3,hk⟩|⟨h1,h2,h3,hk⟩|⟨h1,h2,h3,hk⟩|⟨h1,h2,h3,h4,h5,hk⟩|⟨h1,h2,h3,h4,h5,hk⟩<;>simp[oJ,nth,hk]<;>omega
theorem W3 (t:aq):dZ t=if t.au≠[] then rp t.au else oJ t.ag:=by cases t with|mk a ps=>rw[dZ];rfl
theorem aiU (a:t.au=[]):dZ t=(decide ((eN (nth t.ag 0).au).1≠0)&&decide (t.ag.length=(eN (nth t.ag 0).au).2)&&F8 t.ag&&(t.ag.drop (eN (nth t.ag 0).au).1).all dZ):=by grind [W3,aiT]
theorem W4 (d:List aq):ua d=(decide (d.length=3)&&(decide ((nth d 0).au=[62])||decide ((nth d 0).au=[42]))&&(pS (nth d 1)&&pS (nth d 2))):=by
 match d with
 |[]=>simp[ua]
 |[h]=>simp[ua]
 |[h,a]=>simp[ua]
 |[h,a,b]=>simp[ua,nth]
 |h::a::b::c::r=>simp[ua]
/-! ### Texts -/
def Ag (s:aj):Bool:=match bS s with
 |some t=>kK t
 |none=>false
theorem aiV {s:aj}:Ag s=true↔∃T:Ty,T.n<=16/\s=T.text:=by grind [Ag,bS,Bx,vm,xW,Ty.bS,Good.wf,Ex.wf]
theorem W5 {T:Ty}:Ag T.text=decide (T.n<=16):=by grind [aiV,Ty.inj]
def DZ (s c:aj):Option (Ty×Ty)->Prop
 |some (a,b)=>∃f,c=kJ f/\s=(Ty.op f a b).text/\(Ty.op f a b).n<=16
 |none=>∀f a b,c=kJ f->s=(Ty.op f a b).text->¬(Ty.op f a b).n<=16
def LB (t:aq):Bool:=dZ t&&decide (gk t<=120)
def nI (s:aj):Bool:=match bS s with
 |some t=>LB t
 |none=>false
theorem aiW (a:WF t):LB t=true↔∃e:Ex,t=e.av/\e.ok/\e.n<=120:=by grind [LB,aht,Ex.gk]
theorem yr {s:aj}:nI s=true↔∃e:Ex,bS s=some e.av/\e.ok/\e.n<=120:=by grind [nI,bS,aiW,vm]
theorem W6 {ps:List aq} (i:Nat):kh (ps.take i)<=kh ps:=by
 conv=>rhs;rw[<-List.take_append_drop i ps,Vc]
 omega
theorem aiX (t:aq):kh t.ag<=t.size:=by
 cases t with
 |mk a ps=>have:=OQ ps;simp only[aq.size,aq.ag];omega
theorem W7:∀(m:Nat) (t:aq),t.size<=m->t.size<=10000000->WF t->∀(v:Value) (L:List Nat) (w:World),bg L w v t->
  bB Tryz.prog 118 [v] w λr w'=>r= .int .i64 (gk t:Int)/\ak [] w w':=by
 intro m;induction m with
 |zero=>intro t h;have:=r5 t;omega
 |succ m H=>
  intro t _ _ s v L w F;obtain⟨a,n,c,rfl,E,q⟩:=db F;subst E;have O:=oH t;have C:=aiX t;have b:=ak.refl [] w;refine bY [.tmp 2] 24 Tryz.func118 rfl ad2 rfl rfl ?_;refine zr<|eK rfl λ_ p e _=>?_;have b:=b.ext p;refine W ?_;refine zc rfl (λf=>?_) λf=>?_;have g:gk t=1:=by rw[OP,iP f]
  refine W ?_;exact⟨_,rfl,by rw[g];rfl,b⟩;have g:gk t=kh t.ag:=by rw[OP,iN f]
  refine W ?_;refine eJ (λk:Nat=>[(1,.pointer<|some ⟨w.heap.size,0,none⟩),(3,.int .i64 ((kh (t.ag.take k):Nat):Int)),(4,.int .i64 (k:Int))]) (λk w'=>ak [] w w'/\aJ w' w.heap.size [str t.au,.slice a t.ag.length c].toArray 103/\k<=t.ag.length) (λk=>t.ag.length-k) (0) (⟨rfl,rfl,rfl⟩) (⟨b,e,om⟩) λd J _ B=>?_;obtain⟨b,e,hk⟩:=B;refine W ?_;refine zc rfl (λA=>?_) λA=>?_;have l:=ew (ps:=t.ag) (i:=d) om;obtain⟨_,_,_,_,_,rfl,I,u,y⟩:=ik q l;subst u;have o:=s.nth (i:=d) om;have N:=kW (t:=t) (i:=d) om;have K:=Vd l;have D:=W6 (ps:=t.ag)<|d+1;refine WL ?_;refine zl jy rfl (e.at rfl)<|zm<|zi cQ aM rfl rfl om<|zL fJ aM rfl (I.ext b) rfl<|aA (H (nth t.ag d) om om o _ L J<|(kI y).ext b) ?_;rintro _ _ ⟨rfl,j⟩;have M:=j.size;refine bN j b e λb e=>?_;refine W ?_;exact⟨d+1,⟨rfl,congrArg (Value.int .i64) om,rfl⟩,⟨b,e,om⟩,om⟩;have z:d=t.ag.length:=by omega
  subst z;refine W ?_;exact⟨_,rfl,by rw[g,List.take_length];rfl,b⟩
theorem aiY:∀(m:Nat) (t:aq),t.size<=m->t.size<=10000000->WF t->∀(v:Value) (L:List Nat) (w:World),bg L w v t->
  bB Tryz.prog 189 [v] w λr w'=>r= .bool (pS t)/\ak [] w w':=by
 intro m;induction m with
 |zero=>intro t h;have:=r5 t;omega
 |succ m B=>
  intro t _ _ p v L w Q;obtain⟨a,n,c,rfl,P,e⟩:=db Q;subst P;have d:=ak.refl [] w;have og:=oH t;refine bY [.tmp 2] 41 Tryz.func189 rfl ae7 rfl rfl ?_;refine zr<|eK rfl λX I j _=>bN I d e λd e=>?_;refine W ?_;refine zc rfl (λf=>?_) λf=>?_;have l:pS t=decide (t.au=[105]):=by rw[Ve,iP f]
  refine W ?_;exact⟨_,rfl,by rw[l];rfl,d⟩;have A:t.au=[]:=Classical.not_not.1 f;have T:=p.pos A;have l:pS t=ua t.ag:=by rw[Ve,iN λh=>h A]
  obtain⟨b,_,_,_,_,rfl,_,_,_⟩:=ik e<|ew T;refine WZ ?_;apply oP 15 13 28 rfl oQ;intro y;refine WZ ?_;apply oB 7 20 27 rfl oQ;intro z;refine WZ ?_;exact oQ;intro D;exact oQ;intro D;refine aW<|zc rfl (λg=>?_) λg=>?_;have R:ua t.ag=false:=by rw[W4];simp only[oE,aE,dE] at g;rcases g with h|⟨f,y⟩;(·rw[dF om];rfl);(·rw[dF f,dF y];simp)
  refine W ?_;exact⟨_,rfl,by rw[l,R];rfl,d⟩;simp only[Bool.or_eq_false_iff,Bool.and_eq_false_iff,decide_eq_false_iff_not,Classical.not_not] at g;obtain⟨_,H⟩:=g;have z:t.ag.length=3:=om;have S:ua t.ag=(pS (nth t.ag 1)&&pS (nth t.ag 2)):=by rw[W4,dT z];rcases H with h|h<;>rw[h]<;>rfl
  obtain⟨_,_,_,_,_,N,J,V,U⟩:=ik e<|ew (i:=1) om;cases N;subst V;obtain⟨_,_,_,_,_,O,q,E,F⟩:=ik e<|ew (i:=2) om;cases O;subst E;have Z:=kW (t:=t) (i:=1) om;have K:=kW (t:=t) (i:=2) om;have M:=kI U;have s:=kI F;refine iw<|zr<|zf kf rfl<|zl jy rfl (j.at rfl)<|zi (i:=1) cQ aM rfl rfl om<|zL fJ aM rfl J rfl<|aA (B (nth t.ag 1) om om (p.nth om) _ L X M) ?_;rintro _ C ⟨rfl,u⟩;have K:=u.size;refine gT u d j q s λd j q s=>?_;refine WZ ?_;apply oA 6 34 40 (ak [] C) rfl oQ;intro _;refine zf kf rfl<|zl jy rfl (j.at rfl)<|zi (i:=2) cQ aM rfl rfl om<|zL fJ aM rfl q rfl<|aA (B (nth t.ag 2) om om (p.nth om) _ L C s) ?_;rintro _ Y ⟨rfl,o⟩;have fy:=o.size;exact oQ;intro D Y o;have d:=d.ext o;refine W ?_;exact⟨_,rfl,by rw[l,S];rfl,d⟩
theorem Ck (t:aq) (l:t.size<=10000000) (i:WF t) (v:Value) (L:List Nat) (w:World) (j:bg L w v t):
  bB Tryz.prog 154 [v] w λr w'=>r= .bool (kK t)/\ak [] w w':=by
 have d:=j;obtain⟨a,n,c,rfl,_,_⟩:=db j;have b:=ak.refl [] w;refine bY [.tmp 2] 10 Tryz.func154 rfl aeD rfl rfl ?_;refine zr<|eK rfl λp o f _=>bN o b d λb d=>?_;refine W ?_;refine aA (aiY t.size t (lR _) l i _ L p d) ?_;rintro _ m ⟨rfl,g⟩;have s:=g.size;refine cS g b d f λb d f=>?_;refine WZ ?_;apply oA 4 5 9 (ak [] m) rfl oQ;intro _;refine W ?_;refine aA (W7 t.size t (lR _) l i _ L m d) ?_;rintro _ q ⟨rfl,e⟩;have u:=e.size;exact oQ;intro _ q e;have b:=b.ext e;refine W ?_;exact⟨_,rfl,congrArg Value.bool (show _=kK t from by unfold kK;congr 1;exact decide_eq_decide.2 om),b⟩
theorem aiZ {s:aj} (h:FE s t):((bS s).isSome&&kK t)=Ag s:=by
 unfold Ag;cases a:bS s with
 |none=>rfl
 |some u=>rw[h.1 u a];rfl
theorem PV (s:aj) (w:World):bB Tryz.prog 195 [str s] w λr w'=>r= .bool (Ag s)/\ak [] w w':=by have a:=ak.refl [] w;refine bY [.tmp 2] 15 Tryz.func195 rfl afd rfl rfl ?_;refine W ?_;refine aA (Lj s [] w sm) ?_;rintro _ _ ⟨n,g⟩;have q:=g.size;have a:=a.ext g;obtain⟨t,_,rfl,b,l⟩:=n;obtain⟨_,_,_,rfl,_,_⟩:=db b;refine W ?_;refine dx aM rfl rfl rfl λ_ i j _=>?_;have a:=a.grow;have a:=a.ext i;have b:=b.grow;have b:=b.ext i;refine cI aM rfl rfl rfl j rfl λm f j _=>?_;have a:=a.aB f sx;have b:=b.aB f sx;refine W ?_;apply oA 3 11 14 (ak [] m) rfl oQ;intro o;obtain⟨u,d⟩:=Option.isSome_iff_exists.1 o;have e:=l.1 u d;subst e;refine W ?_;refine aA (Ck t (by have:=Bi d;omega) (vm d) _ _ m b) ?_;rintro _ p ⟨rfl,c⟩;have v:=c.size;exact oQ;intro _ p c;have a:=a.ext c;refine W ?_;exact⟨_,rfl,congrArg Value.bool<|aiZ l,a⟩
def uA:Option (Ty×Ty)->aj
 |some p=>p.1.text
 |none=>[]
def Ah:Option (Ty×Ty)->aj
 |some p=>p.2.text
 |none=>[]
def PW (o:Option (Ty×Ty)):Value:=.tuple #[str<|uA o,str<|Ah o,.bool o.isSome]
theorem ai0 {s d:aj} (l:FE s t) (h:(((!(bS s).isSome||!kK t)||decide (t.au≠[]))||decide ((nth t.ag 0).au≠d))=true):DZ s d none:=by
 intro f a b g i j;have c:bS s=some (Ty.op f a b).av:=by rw[i];exact Ty.bS om
 have e:=l.1 _ c;subst e;have m:kK (Ty.op f a b).av=true:=(Bx<|vm c).2 ⟨_,rfl,j⟩;rw[c,m] at h;simp[Ty.av,aq.au,aq.ag,nth,bJ,g] at h
theorem ai1 {s c:aj} (m:FE s t) (h:(((!(bS s).isSome||!kK t)||decide (t.au≠[]))||decide ((nth t.ag 0).au≠c))=false):∃f A B,t=(Ty.op f A B).av/\(Ty.op f A B).n<=16/\DZ s c (some (A,B)):=by
 simp only[Bool.or_eq_false_iff,Bool.not_eq_false',decide_eq_false_iff_not,Classical.not_not] at h;obtain⟨⟨⟨d,g⟩,j⟩,l⟩:=h;obtain⟨u,a⟩:=Option.isSome_iff_exists.1 d;have e:=m.1 u a;subst e;obtain⟨T,rfl,b⟩:=(Bx<|vm a).1 g;cases T with
 |i=>simp[Ty.av,bJ,aq.au] at j
 |op f A B=>exact⟨f,A,B,rfl,b,f,by rw[<-l];rfl,(xW a).2.2.1.symm,b⟩
theorem W9 (s E:aj) (w:World):bB Tryz.prog 197 [str s,str E] w λr w'=>(∃o,DZ s E o/\r=PW o)/\ak [] w w':=by have a:=ak.refl [] w;refine bY [.tmp 4,.tmp 5,.tmp 6] 45 Tryz.func197 rfl afe rfl rfl ?_;refine W ?_;refine aA (Lj s [] w sm) ?_;rintro _ _ ⟨R,C⟩;have cK:=C.size;have a:=a.ext C;obtain⟨t,_,rfl,c,n⟩:=R;obtain⟨_,_,_,rfl,Q,b⟩:=db c;subst Q;refine W ?_;refine dx aM rfl rfl rfl λ_ q m _=>?_;have a:=a.grow;have a:=a.ext q;have c:=c.grow;have c:=c.ext q;have b:=b.grow;have b:=b.ext q;refine cI aM rfl rfl rfl m rfl λF p m _=>?_;have a:=a.aB p sx;have c:=c.aB p sx;have b:=b.aB p sx;refine W ?_;apply oO 4 16 20 (ak [] F) rfl oQ;intro S;obtain⟨u,d⟩:=Option.isSome_iff_exists.1 S;have e:=n.1 u d;subst e;refine W ?_;refine aA (Ck t (by have:=Bi d;omega) (vm d) _ _ F c) ?_;rintro _ _ ⟨rfl,L⟩;have gq:=L.size;exact oQ;intro I H M;refine cS M a b m λa b m=>?_;refine WZ ?_;apply oP 4 21 25 rfl oQ;intro _;refine WZ ?_;exact oQ;intro I;refine WZ ?_;apply oP 8 26 34 rfl oQ;intro D;simp only[Bool.or_eq_false_iff,Bool.not_eq_false',decide_eq_false_iff_not,Classical.not_not] at D;obtain⟨⟨q1,q2⟩,q3⟩:=D;obtain⟨u,d⟩:=Option.isSome_iff_exists.1 q1;have e:=n.1 u d;subst e;have U:=(vm d).pos q3;obtain⟨_,_,_,_,_,N,_,_,_⟩:=ik b<|ew U;subst N;refine WZ ?_;exact oQ;intro I;refine aW<|zc rfl (λz=>?_) λz=>?_;refine W ?_;exact⟨_,rfl,⟨none,ai0 n z,rfl⟩,a⟩;obtain⟨f,A,B,e,_,T⟩:=ai1 n z;subst e;have Vh:(Ty.op f A B).n=1+A.n+B.n:=rfl;have hA:=Ty.size A;have hB:=Ty.size B;have PX:=Ty.len A;have PY:=Ty.len B;have nG:(Ty.op f A B).av.ag.length=3:=rfl;obtain⟨_,_,_,_,_,O,_,Z,Y⟩:=ik b<|ew (i:=1) om;subst O;subst Z;obtain⟨_,_,_,_,_,P,_,J,K⟩:=ik b<|ew (i:=2) om;cases P;subst J;have v:bg _ H _ A.av:=kI Y;have y:bg _ H _ B.av:=kI K;refine WZ ?_;apply dV dj 13 [35,36,37,38,39,40,41,42,43,44,4,5,6] [[],[0],[1],[2],[3],[],[5],[6],[7],[8],[4],[9],[]] (it [_,_,_,_,_,_,_,_,_,_,_,_,_]) de rfl;intro _ aC;refine VA ?_;refine vk aC (λx l g=>?_) ?_;refine zi (i:=1) cQ aM rfl rfl ((show 1<3 from om)) ?_;exact pv;refine VA ?_;refine vk aC (λx l g=>?_) ?_;have v:=v.ext g;refine aA (vG A.av.size A.av (lR _) A.fE.wf om (show A.text.length<=100000000 from om) _ _ l v) ?_;rintro _ w7 ⟨rfl,j⟩;have X:=j.size;exact pk j;refine VA ?_;refine vk aC (λx l g=>?_) ?_;refine zi (i:=2) cQ aM rfl rfl ((show 2<3 from om)) ?_;exact pv;refine VA ?_;refine vk aC (λx l g=>?_) ?_;have y:=y.ext g;refine aA (vG B.av.size B.av (lR _) B.fE.wf om (show B.text.length<=100000000 from om) _ _ l y) ?_;rintro _ w7 ⟨rfl,j⟩;have X:=j.size;exact pk j;exact VZ;intro x _ V;have a:=a.ext V;change OW _ _ _ _ [] (ba (aZ _ x _)<|zZ 35 [_,_,_,_,_,_,_,_,_,_]++[(4,_),(5,_),(6,_)]) _;refine W ?_;exact⟨_,rfl,⟨some (A,B),T,rfl⟩,a⟩
theorem Xa (s:aj) (w:World):bB Tryz.prog 171 [str s] w λr w'=>(∃o,DZ s [62] o/\r=PW o)/\ak [] w w':=by have a:=ak.refl [] w;refine bY [.tmp 2,.tmp 3,.tmp 4] 10 Tryz.func171 rfl aeT rfl rfl ?_;refine W ?_;refine aA (W9 s [62] w) ?_;rintro _ _ ⟨c,b⟩;have e:=b.size;have a:=a.ext b;obtain⟨o,d,rfl⟩:=c;refine W ?_;exact⟨_,rfl,⟨o,d,rfl⟩,a⟩
theorem Xb (s:aj) (w:World):bB Tryz.prog 170 [str s] w λr w'=>(∃o,DZ s [42] o/\r=PW o)/\ak [] w w':=by have a:=ak.refl [] w;refine bY [.tmp 2,.tmp 3,.tmp 4] 10 Tryz.func170 rfl aeS rfl rfl ?_;refine W ?_;refine aA (W9 s [42] w) ?_;rintro _ _ ⟨c,b⟩;have e:=b.size;have a:=a.ext b;obtain⟨o,d,rfl⟩:=c;refine W ?_;exact⟨_,rfl,⟨o,d,rfl⟩,a⟩
theorem Xc {T:Ty} (l:T.n<=16) (f:Bool) {o:Option (Ty×Ty)} (h:DZ T.text (kJ f) o):o=match T with| .op g a b=>if g=f then some (a,b) else none| .i=>none:=by
 cases o with
 |some p=>
  obtain⟨g,d,j,_⟩:=h;have e:=Ty.inj j;subst e;have:f=g:=by cases f<;>cases g<;>first|rfl|(simp[kJ] at d)
  subst this;simp
 |none=>
  cases T with
  |i=>rfl
  |op g a b=>have c:¬g=f:=λe=>h f a b rfl (by rw[e]) (by rw[<-e];exact l);simp[c]
theorem Xd {T:Ty} (h:T.n<=16):Ag T.text=true:=by rw[W5];exact dT h
theorem Xe (f:Bool) (A B:Ty) (p:A.n<=16) (q:B.n<=16) (w:World):
  bB Tryz.prog 167 [.bool f,str A.text,str B.text] w λr w'=>r= .tuple #[str<|if 1+A.n+B.n<=16 then(Ty.op f A B).text else[],.bool (decide<|1+A.n+B.n<=16)]/\ak [] w w':=by
 have a:=ak.refl [] w;have E:=Ty.len A;have F:=Ty.len B;have H:=OO f;have n:(((((([40]++kJ f)++[32])++A.text)++[32])++B.text)++[41])=(Ty.op f A B).text:=by rw[Ty.KP];simp
 have u:Ag (Ty.op f A B).text=decide (1+A.n+B.n<=16):=W5;refine bY [.tmp 6,.tmp 7] 34 Tryz.func167 rfl aeQ rfl rfl ?_;refine W ?_;refine jn (λ_:Unit=>[(0,.bool f),(1,str A.text),(2,str B.text),(8,str<|kJ f)]) (λ_ w'=>w'=w) ?_ ?_;refine zc rfl (λd=>?_) λd=>?_;have g:=d;refine W ?_;exact⟨(),⟨rfl,rfl,rfl,by rw[g];rfl⟩,rfl⟩;have g:=d;refine WZ ?_;exact⟨(),⟨rfl,rfl,rfl,by rw[g];rfl⟩,rfl⟩;intro _ z _ s;subst s;refine W ?_;refine aA (PV A.text z) ?_;rintro _ C ⟨o,m⟩;have I:=m.size;have a:=a.ext m;obtain rfl:=o.trans (congrArg Value.bool<|Xd p);refine ka rfl rfl rfl<|zm<|Fi (t:=23) (b:=false) rfl<|zm<|aA (PV B.text C) ?_;rintro _ D ⟨v,j⟩;have J:=j.size;have a:=a.ext j;obtain rfl:=v.trans (congrArg Value.bool<|Xd q);refine ka rfl rfl rfl<|zp rfl<|zm<|Fi (t:=28) (b:=false) rfl<|zm<|aA (PV _ D) ?_;rintro _ _ ⟨y,l⟩;have K:=l.size;have a:=a.ext l;obtain rfl:=y.trans (congrArg Value.bool<|(congrArg Ag n).trans u);refine W ?_;refine zc rfl (λe=>?_) λe=>?_;have c:¬1+A.n+B.n<=16:=by simpa using e
 refine W ?_;have i:Value.tuple #[str<|if 1+A.n+B.n<=16 then(Ty.op f A B).text else[],.bool (decide<|1+A.n+B.n<=16)]=Value.tuple #[str [],.bool false]:=by rw[iN c,dF c]
 exact⟨_,rfl,i.symm,a⟩;have c:1+A.n+B.n<=16:=by simpa using e
 refine W ?_;have i:Value.tuple #[str<|if 1+A.n+B.n<=16 then(Ty.op f A B).text else[],.bool (decide<|1+A.n+B.n<=16)]=Value.tuple #[str<|((((([40]++kJ f)++[32])++A.text)++[32])++B.text)++[41],.bool true]:=by rw[iP c,dT c,n]
 exact⟨_,rfl,i.symm,a⟩
theorem Xf (c:UInt8):(decide ((c.toNat:Int)<97)||decide ((122:Int)<(c.toNat:Int)))=!(decide (97<=c)&&decide (c<=122)):=by
 have a:decide (97<=c)=decide ((97:Int)<=c.toNat):=(HF 97 c).symm;have b:decide (c<=122)=decide ((c.toNat:Int)<=122):=decide_eq_decide.2 (by rw[UInt8.le_iff_toNat_le];have:(122:UInt8).toNat=122:=rfl;omega);rw[a,b,Bool.not_and,<-decide_not,<-decide_not]
 congr 1<;>exact decide_eq_decide.2 om
theorem ai2 {s:aj} (a:1<=k) (hk:k<s.length) (h:iU (s.getD k 0)=false):(s.drop 1).all iU=false:=by rw[List.all_eq_false];refine⟨s.getD k 0,?_,by rw[h];simp⟩;rw[List.mem_iff_getElem?];refine⟨k-1,?_⟩;rw[List.getElem?_drop,show 1+(k-1)=k by omega];exact jH hk
theorem ai3 {s:aj} (h:∀k,1<=k->k<s.length->iU (s.getD k 0)=true):(s.drop 1).all iU=true:=by rw[List.all_eq_true];intro c d;obtain⟨i,a⟩:=List.mem_iff_getElem?.1 d;rw[List.getElem?_drop] at a;have b:=(List.getElem?_eq_some_iff.1 a).1;have:=h (1+i) om b;rw[jH b] at a;cases a;exact this
theorem xi (s:aj) (w:World):bB Tryz.prog 152 [str s] w λv w'=>v= .bool (ey s)/\w=w':=by
 have o:ey s=(((decide (1<=s.length)&&decide (s.length<=4))&&(decide (97<=s.getD 0 0)&&decide (s.getD 0 0<=122)))&&(s.drop 1).all iU):=rfl;have p:∀c:UInt8,(decide ((c.toNat:Int)<48)||decide ((57:Int)<(c.toNat:Int)))=!iU c:=by
  intro c;cases d:iU c with
  |true=>have:=(Dk c).1 d;simp;omega
  |false=>rw[Bool.not_false,oE,dE,dE];apply Classical.byContradiction;intro _;have:=(Dk c).2 om;rw[d] at this;cases this
 refine bY [.tmp 2] 34 Tryz.func152 rfl aeB rfl rfl ?_;refine W ?_;refine aA (Ij _ _ _ _) ?_;rintro _ _ ⟨rfl,rfl⟩;refine WZ ?_;apply oP 4 8 12 rfl oQ;intro a;have g:1<=s.length/\s.length<=4:=(by simp at a;omega);refine zm<|kH (i:=0) jb rfl rfl rfl rfl (jH om) ?_;exact oQ;intro q;refine WZ ?_;apply oP 4 13 17 rfl oQ;intro l;have g:1<=s.length/\s.length<=4:=(by simp at l;omega);refine zm<|kH (i:=0) jb rfl rfl rfl rfl (jH om) ?_;exact oQ;intro q;refine aW<|zc rfl (λb=>?_) λb=>?_;have m:ey s=false:=(by rw[o];rw[Bool.or_assoc,Xf] at b;simp only[oE,Bool.not_eq_true',Bool.and_eq_false_iff,decide_eq_false_iff_not] at b;simp only[Bool.and_eq_false_iff,decide_eq_false_iff_not];left;rcases b with(h|h)|h;(·left;left;omega);(·left;right;omega);(·right;exact h));refine W ?_;exact⟨_,rfl,by rw[m];rfl,rfl⟩;have g:(1<=s.length/\s.length<=4)/\(decide (97<=s.getD 0 0)&&decide (s.getD 0 0<=122))=true:=(by rw[Bool.or_assoc,Xf] at b;simp only[Bool.or_eq_false_iff,Bool.not_eq_false'] at b;refine⟨?_,b.2⟩;have a:=b.1;simp at a;omega);have m:ey s=(s.drop 1).all iU:=(by rw[o,g.2,dT g.1.1,dT g.1.2];rfl);refine W ?_;refine eJ (λk:Nat=>[(0,str s),(3,.int .i64 (k:Int))]) (λk w'=>w'=w/\1<=k/\k<=s.length/\∀j,1<=j->j<k->iU (s.getD j 0)=true) (λk=>s.length-k) (1) (⟨rfl,rfl⟩) (⟨rfl,om,om,by intro j a l;omega⟩) λe _ _ u=>?_;obtain⟨rfl,r,hk,n⟩:=u;refine W ?_;refine zc rfl (λt=>?_) λt=>?_;refine W ?_;refine kH jb rfl rfl rfl rfl (jH om)<|WZ ?_;apply oP 5 28 33 rfl oQ;intro _;refine zm<|zm<|kH jb rfl rfl rfl rfl (jH om) ?_;exact oQ;intro q;refine aW<|zc rfl (λf=>?_) λf=>?_;have d:iU (s.getD e 0)=false:=(by rw[p] at f;simpa using f);refine W ?_;exact⟨_,rfl,by rw[m,ai2 r om d];rfl,rfl⟩;have d:iU (s.getD e 0)=true:=(by rw[p] at f;simpa using f);refine W ?_;exact⟨e+1,⟨rfl,rfl⟩,⟨rfl,om,om,by intro j a l;rcases Nat.lt_or_ge j e with h|h;exact n j a h;rw[show j=e by omega];exact d⟩,om⟩;refine W ?_;exact⟨_,rfl,by rw[m,ai3 λj a l=>n j a om];rfl,rfl⟩
def PZ (h:aj):Value:=.tuple #[.int .i64 ((eN h).1:Int),.int .i64 ((eN h).2:Int)]
theorem Ai {a:Nat} (e:eN h=(a,b)):PZ h= .tuple #[.int .i64 (a:Int),.int .i64 (b:Int)]:=by unfold PZ;rw[e]
theorem ai4 (e:iD h=true):eN h=(1,3):=by unfold eN;rw[iP e]
theorem ai5 (e:gS h=true):eN h=(1,2):=by unfold gS at e;simp only[oE,dE] at e;rcases e with e|e<;>subst e<;>decide
theorem LC (h:aj) (w:World):bB Tryz.prog 153 [str h] w λv w'=>v=PZ h/\w=w':=by refine bY [.tmp 2,.tmp 3] 20 Tryz.func153 rfl aeC rfl rfl ?_;refine W ?_;refine jn (λ_:Unit=>[(4,str h),(5,.bool<|iD h)]) (λ_ w'=>w'=w) ?_ ?_;refine zc rfl (λb=>?_) λb=>?_;refine WZ ?_;exact⟨(),⟨rfl,congrArg Value.bool<|show decide (h=[43])=iD h from by rw[dT b,show iD h=true from by rw[b];rfl]⟩,rfl⟩;have s:=b;refine W ?_;refine zc rfl (λc=>?_) λc=>?_;refine WZ ?_;exact⟨(),⟨rfl,congrArg Value.bool<|show decide (h=[45])=iD h from by rw[dT c,show iD h=true from by rw[c];rfl]⟩,rfl⟩;have t:=c;refine W ?_;refine zc rfl (λd=>?_) λd=>?_;refine WZ ?_;exact⟨(),⟨rfl,congrArg Value.bool<|show decide (h=[42])=iD h from by rw[dT d,show iD h=true from by rw[d];rfl]⟩,rfl⟩;have u:=d;refine W ?_;refine zc rfl (λe=>?_) λe=>?_;refine WZ ?_;exact⟨(),⟨rfl,congrArg Value.bool<|show decide (h=kX)=iD h from by rw[dT e,show iD h=true from by rw[e];rfl]⟩,rfl⟩;have y:=e;refine W ?_;exact⟨(),⟨rfl,congrArg Value.bool (show decide (h=zJ)=iD h from by unfold iD;rw[dF s,dF t,dF u,dF y];rfl)⟩,rfl⟩;intro p _ _ n;obtain rfl:=n.symm;refine zc rfl (λi=>?_) λi=>?_;have a:=i;refine W ?_;exact⟨_,rfl,(Ai<|ai4 a).symm,rfl⟩;have o:=i;refine W ?_;refine zc rfl (λj=>?_) λj=>?_;have a:=j;refine W ?_;exact⟨_,rfl,(Ai (by rw[a];rfl)).symm,rfl⟩;have m1:=j;refine W ?_;refine zc rfl (λl=>?_) λl=>?_;have a:=l;refine W ?_;exact⟨_,rfl,(Ai (by rw[a];rfl)).symm,rfl⟩;have m2:=l;refine W ?_;refine zc rfl (λm=>?_) λm=>?_;have a:=m;refine W ?_;exact⟨_,rfl,(Ai (by rw[a];rfl)).symm,rfl⟩;have q:=m;refine W ?_;refine jn (λ_:Unit=>[(4,str h),(17,.bool<|gS h)]) (λ_ w'=>w'=w) ?_ ?_;refine zc rfl (λf=>?_) λf=>?_;refine WZ ?_;exact⟨(),⟨rfl,congrArg Value.bool<|show decide (h=Dy)=gS h from by rw[dT f,show gS h=true from by rw[f];rfl]⟩,rfl⟩;have z:=f;refine W ?_;exact⟨(),⟨rfl,congrArg Value.bool (show decide (h=se)=gS h from by unfold gS;rw[dF z];rfl)⟩,rfl⟩;intro p _ _ n;obtain rfl:=n.symm;refine zc rfl (λg=>?_) λg=>?_;have a:=g;refine W ?_;exact⟨_,rfl,(Ai<|ai5 a).symm,rfl⟩;have r:=g;refine W ?_;exact⟨_,rfl,(Ai (by unfold eN;rw[iN (by rw[o];simp),iN m1,iN m2,iN q,iN (by rw[r];simp)])).symm,rfl⟩
end Go.Proofs.YtcildnfcpkpomaaGreatDoor
