/- Lemmas for the law FnProgramSize, no statement of their own: no conditions. -/
import Derived.Test.YthbhobaiopccaaaGreatDoorHc
import Derived.Deep.Strs
import Derived.Laws.IdiomStrings
import Derived.Laws.MakeOwn
set_option maxHeartbeats 4000000
set_option linter.unusedVariables false
set_option linter.unusedSimpArgs false
namespace Go.Proofs.YthbhobaiopccaaaGreatDoor
open Go
variable {p q:Prop} {B E S U b bytes c i n o off sz:Nat} {t:Bool} {l:List Oper} {a:Int} {v z:Value} {vs:List Value} {P:Program} {ops:Array Oper} {e0:Env} {w w' w0:World} {k k':IntKind} {L L' d:List Nat} {r:List (List Nat)} {rows:List (List C)} {vss:List (List Value)} {g gb:Option Nat} {ps:List dw} {xs:List ai} {gss:List (Option Nat×Option Nat)}
class tR (p:Prop) (q:outParam Prop):Prop where
 imp:p->q
instance (priority:=low) {p:Prop}:tR p p:=⟨id⟩
instance {p:Prop} {i:Decidable p}:tR (@decide p i=true) p:=⟨of_decide_eq_true⟩
instance {p:Prop} {i:Decidable p}:tR (@decide p i=false) (¬p):=⟨of_decide_eq_false⟩
instance {b:Bool}:tR ((!b)=true) (b=false):=⟨λh=>by simpa using h⟩
instance {b:Bool}:tR ((!b)=false) (b=true):=⟨λh=>by simpa using h⟩
theorem jk [t:tR p q] (h:p):q:=t.imp h
section
variable {P:Program} {n:Nat} {N R:Env->World->Prop} {X:Nat->Env->World->Prop} {e:Env} {w:World}
theorem zc {c:Operand} {x y:Code} (hc:ev e c= .bool t) [hp:tR (t=true) p] [hq:tR (t=false) q] (hx:p->CW P n x N R X e w) (hy:q->CW P n y N R X e w):CW P n (.cond c x y) N R X e w:=
 P2 hc (λh=>hx (hp.imp h)) (λh=>hy (hq.imp h))
theorem zr {id:Nat} {y:Code} (h:OW P n l.toArray (λe w=>CW P n y N R X e w) l e w):CW P n ((Code.region id l.toArray false).seq y) N R X e w:=jL (kH h)
end
section
variable {P:Program} {n:Nat} {ops:Array Oper} {K:Env->World->Prop} {rest:List Oper} {e:Env} {w:World}
 {dst:Option Nat} {ty:TypeId} {pos:String} {after:Array Edge} {g:Option (Nat×Bool)} {x y:Operand} {T T':TypeId}
theorem zm (k:OW P n ops K rest (bM e dst (ev e x)) w) (hg:gate ops e g=true:=by rfl) (hd:bV n dst=true:=by rfl):OW P n ops K (⟨dst,.move x,ty,pos,after,g⟩::rest) e w:=Ys hg hd k
theorem zA (k:OW P n ops K rest (bM e dst (ev e x)) w) (hg:gate ops e g=true:=by rfl) (hd:bV n dst=true:=by rfl):OW P n ops K (⟨dst,.assign x,ty,pos,after,g⟩::rest) e w:=Yt hg hd k
theorem zs {op:Op} (k:OW P n ops K rest (bM e dst undef) w) (hg:gate ops e g=false:=by rfl) (hd:bV n dst=true:=by rfl):OW P n ops K (⟨dst,op,ty,pos,after,g⟩::rest) e w:=KY hg hd k
theorem zp {c:Operand} (hc:ev e c= .bool t) (k:OW P n ops K rest (bM e dst (bif t then ev e x else ev e y)) w) (hg:gate ops e g=true:=by rfl) (hd:bV n dst=true:=by rfl):OW P n ops K (⟨dst,.pick c x y,ty,pos,after,g⟩::rest) e w:=P9 hg hd hc k
theorem zf (hS:gC P S i=some off) (hx:ev e x= .pointer (some ⟨b,o,none⟩)) (k:OW P n ops K rest (bM e dst (.pointer (some ⟨b,o+off,none⟩))) w) (hg:gate ops e g=true:=by rfl) (hd:bV n dst=true:=by rfl):
  OW P n ops K (⟨dst,.fieldAddr S x i,ty,pos,after,g⟩::rest) e w:=Qd hS hg hd hx k
theorem zl {a:Addr} (hT:p8 P T=true) (hx:ev e x= .pointer (some a)) (hc:w.cell? a=some v) (k:OW P n ops K rest (bM e dst v) w) (hg:gate ops e g=true:=by rfl) (hd:bV n dst=true:=by rfl):
  OW P n ops K (⟨dst,.load T x,ty,pos,after,g⟩::rest) e w:=Yw hT hg hd hx hc k
theorem zL (hT:sj P T=true) (jN:TI P T sz bytes z) (hx:ev e x= .pointer (some ⟨b,o,none⟩)) (hc:fS w b o vs) (hl:vs.length=sz) (k:OW P n ops K rest (bM e dst (.agg vs.toArray)) w) (hg:gate ops e g=true:=by rfl) (hd:bV n dst=true:=by rfl):
  OW P n ops K (⟨dst,.load T x,ty,pos,after,g⟩::rest) e w:=Yx hT jN hg hd hx hc hl k
theorem zi {T E:TypeId} {len cap i:Nat} {ki:IntKind} (hT:P.underlying T=some (.slice E)) (hE:TI P E sz bytes z) (hx:ev e x= .slice (some ⟨b,o,none⟩) len cap) (hy:ev e y= .int ki (i:Int)) (hi:i<len) 
  (k:OW P n ops K rest (bM e dst (.pointer (some ⟨b,o+i*sz,none⟩))) w) (hg:gate ops e g=true:=by rfl) (hd:bV n dst=true:=by rfl):OW P n ops K (⟨dst,.indexAddr T x y,ty,pos,after,g⟩::rest) e w:=Qe hT hE hg hd hx hy hi k
theorem zx (hx:ev e x= .tuple vs.toArray) (hi:vs[i]?=some v) (k:OW P n ops K rest (bM e dst v) w) (hg:gate ops e g=true:=by rfl) (hd:bV n dst=true:=by rfl):
  OW P n ops K (⟨dst,.extract x i,ty,pos,after,g⟩::rest) e w:=Qf hg hd hx hi k
end
theorem vfm {W ds:List Nat} {its:List Ie} {Js:List (List Nat->List Value->World->Prop)} {G0:List Nat} {k:Nat} {o:Oper} (hr:va P n ops W ds its Js e0 G0 w0 (k+1) l r) (h:I0 P n ops W ds its e0 G0 w0 k o d:=by exact λ_ _ _ _ _ _=>zm fv) (hk:(its.getD k l0).j7=none:=by rfl):va P n ops W ds its Js e0 G0 w0 k (o::l) (d::r):=vf h hr hk
theorem vk {W ds:List Nat} {its:List It} {wz:World} {k:Nat} {o:Oper} (aC:aj [] wz w0) (h:∀(x:Env) (w:World),aj [] wz w->dq its ds w d λacc=>OW P n ops (λe' w'=>aj [] w w'∧(its.getD k (.p λ_ _=>True)).F (e' (ds.getD k 0)) w'∧ek [ds.getD k 0] (bo (bj W x e0) acc) e') [o] (bo (bj W x e0) acc) w) (hr:qY P n ops W ds its e0 w0 (k+1) l r):qY P n ops W ds its e0 w0 k (o::l) (d::r):=vc (λx w hk=>h x w (aj.trans aC hk)) hr
theorem Ap {W ds:List Nat} {its:List It} {k:Nat} {o:Oper} (hr:qY P n ops W ds its e0 w0 (k+1) l r) (h:Gb P n ops W ds its e0 w0 k o d:=by exact λ_ _ _=>zm pv):qY P n ops W ds its e0 w0 k (o::l) (d::r):=⟨h,hr⟩
theorem vcs {W ds:List Nat} {its:List It} {k:Nat} {o:Oper} (hr:qY P n ops W ds its e0 w0 (k+1) l r) (h:Gb P n ops W ds its e0 w0 k o d:=by exact λ_ _ _=>KY rfl rfl pv):qY P n ops W ds its e0 w0 k (o::l) (d::r):=⟨h,hr⟩
class FO (P:Program) (S i:Nat) (off:outParam Nat):Prop where h:gC P S i=some off
class O1 (P:Program) (T:Nat):Prop where h:p8 P T=true
class OA (P:Program) (T:Nat):Prop where h:sj P T=true
class nB (P:Program) (T:Nat) (sz bytes:outParam Nat) (z:outParam Value):Prop where h:TI P T sz bytes z
class UL (P:Program) (T:Nat) (d:outParam TypeDesc):Prop where h:P.underlying T=some d
instance:OA Tryz.prog 152:=⟨acW⟩
instance:OA Tryz.prog 166:=⟨RV⟩
instance:OA Tryz.prog 56:=⟨zT⟩
instance:OA Tryz.prog 58:=⟨DU⟩
instance:OA Tryz.prog 66:=⟨tJ⟩
instance:OA Tryz.prog 74:=⟨eV⟩
instance:UL Tryz.prog 4 .bool:=⟨ac4⟩
instance:FO Tryz.prog 102 0 0:=⟨ac5⟩
instance:FO Tryz.prog 102 1 1:=⟨RW⟩
instance:FO Tryz.prog 152 0 0:=⟨ac6⟩
instance:FO Tryz.prog 152 1 1:=⟨ac7⟩
instance:FO Tryz.prog 164 0 0:=⟨ac8⟩
instance:FO Tryz.prog 164 1 1:=⟨ac9⟩
instance:FO Tryz.prog 164 2 2:=⟨ada⟩
instance:FO Tryz.prog 164 3 3:=⟨adb⟩
instance:FO Tryz.prog 164 4 4:=⟨ade⟩
instance:FO Tryz.prog 164 5 5:=⟨adf⟩
instance:FO Tryz.prog 166 0 0:=⟨adg⟩
instance:FO Tryz.prog 166 1 1:=⟨RX⟩
instance:FO Tryz.prog 166 10 11:=⟨adh⟩
instance:FO Tryz.prog 166 2 2:=⟨adi⟩
instance:FO Tryz.prog 166 3 3:=⟨IC⟩
instance:FO Tryz.prog 166 4 4:=⟨adj⟩
instance:FO Tryz.prog 166 5 5:=⟨adk⟩
instance:FO Tryz.prog 166 6 6:=⟨adl⟩
instance:FO Tryz.prog 166 7 7:=⟨RY⟩
instance:FO Tryz.prog 166 8 9:=⟨RZ⟩
instance:FO Tryz.prog 166 9 10:=⟨adm⟩
instance:FO Tryz.prog 190 0 0:=⟨adn⟩
instance:FO Tryz.prog 190 1 1:=⟨ado⟩
instance:FO Tryz.prog 190 2 2:=⟨adp⟩
instance:FO Tryz.prog 190 3 3:=⟨adq⟩
instance:FO Tryz.prog 228 0 0:=⟨adr⟩
instance:FO Tryz.prog 228 1 1:=⟨ads⟩
instance:FO Tryz.prog 56 0 0:=⟨adt⟩
instance:FO Tryz.prog 56 1 1:=⟨R0⟩
instance:FO Tryz.prog 56 2 2:=⟨R1⟩
instance:FO Tryz.prog 58 0 0:=⟨LS⟩
instance:FO Tryz.prog 58 1 1:=⟨LU⟩
instance:FO Tryz.prog 58 2 2:=⟨zU⟩
instance:FO Tryz.prog 66 0 0:=⟨adu⟩
instance:FO Tryz.prog 66 1 1:=⟨R2⟩
instance:FO Tryz.prog 74 0 0:=⟨kY⟩
instance:FO Tryz.prog 74 1 1:=⟨jv⟩
instance:nB Tryz.prog 113 2 32 (.agg #[.pointer none,.slice none 0 0]):=⟨LV⟩
instance:nB Tryz.prog 152 2 48 (.agg #[.slice none 0 0,.slice none 0 0]):=⟨BY⟩
instance:nB Tryz.prog 162 1 24 (.slice none 0 0):=⟨ID⟩
instance:nB Tryz.prog 166 12 216 (.agg #[.string ⟨#[]⟩,.slice none 0 0,.int .i64 0,.slice none 0 0,.slice none 0 0,.slice none 0 0,.slice none 0 0,.string ⟨#[]⟩,.slice none 0 0,.int .i64 0,.string ⟨#[]⟩,.int .i64 0]):=⟨mr⟩
instance:nB Tryz.prog 23 1 24 (.slice none 0 0):=⟨R3⟩
instance:nB Tryz.prog 3 1 8 (.int .i64 0):=⟨oJ⟩
instance:nB Tryz.prog 35 1 24 (.slice none 0 0):=⟨mu⟩
instance:nB Tryz.prog 4 1 1 (.bool false):=⟨DV⟩
instance:nB Tryz.prog 5 1 1 (.int .u8 0):=⟨F3⟩
instance:nB Tryz.prog 54 1 24 (.slice none 0 0):=⟨IE⟩
instance:nB Tryz.prog 56 3 64 (.agg #[.string ⟨#[]⟩,.slice none 0 0,.slice none 0 0]):=⟨jg⟩
instance:nB Tryz.prog 58 3 64 (.agg #[.string ⟨#[]⟩,.slice none 0 0,.slice none 0 0]):=⟨fV⟩
instance:nB Tryz.prog 66 2 40 (.agg #[.string ⟨#[]⟩,.slice none 0 0]):=⟨fg⟩
instance:nB Tryz.prog 72 1 24 (.slice none 0 0):=⟨DW⟩
instance:nB Tryz.prog 74 2 40 (.agg #[.string ⟨#[]⟩,.slice none 0 0]):=⟨aL⟩
instance:nB Tryz.prog 9 1 16 (.string ⟨#[]⟩):=⟨bf⟩
instance:nB Tryz.prog 98 1 24 (.slice none 0 0):=⟨R4⟩
instance:UL Tryz.prog 181 (.int .u64):=⟨IF⟩
instance:UL Tryz.prog 3 (.int .i64):=⟨wo⟩
instance:UL Tryz.prog 5 (.int .u8):=⟨xR⟩
instance:O1 Tryz.prog 162:=⟨adv⟩
instance:O1 Tryz.prog 22:=⟨adw⟩
instance:O1 Tryz.prog 23:=⟨adx⟩
instance:O1 Tryz.prog 3:=⟨LW⟩
instance:O1 Tryz.prog 35:=⟨tK⟩
instance:O1 Tryz.prog 4:=⟨IG⟩
instance:O1 Tryz.prog 5:=⟨ady⟩
instance:O1 Tryz.prog 54:=⟨adz⟩
instance:O1 Tryz.prog 72:=⟨iC⟩
instance:O1 Tryz.prog 9:=⟨gD⟩
instance:O1 Tryz.prog 98:=⟨adA⟩
instance:UL Tryz.prog 162 (.slice 166):=⟨zW⟩
instance:UL Tryz.prog 22 (.slice 5):=⟨BZ⟩
instance:UL Tryz.prog 23 (.slice 58):=⟨iL⟩
instance:UL Tryz.prog 35 (.slice 9):=⟨bh⟩
instance:UL Tryz.prog 51 (.slice 56):=⟨wq⟩
instance:UL Tryz.prog 54 (.slice 66):=⟨sv⟩
instance:UL Tryz.prog 59 (.slice 4):=⟨IH⟩
instance:UL Tryz.prog 72 (.slice 74):=⟨cz⟩
instance:UL Tryz.prog 98 (.slice 3):=⟨uV⟩
instance:UL Tryz.prog 9 .string:=⟨il⟩
section
variable {P:Program} {n:Nat} {ops:Array Oper} {K:Env->World->Prop} {rest:List Oper} {e:Env} {w:World}
 {dst:Option Nat} {ty:TypeId} {pos:String} {after:Array Edge} {g:Option (Nat×Bool)} {x y:Operand} {T T' E:TypeId}
theorem wN {a:Addr} (k:OW P n ops K rest (bM e dst (.pointer (some a))) w) (hx:ev e x= .pointer (some a):=by rfl) (hg:gate ops e g=true:=by rfl) (hd:bV n dst=true:=by rfl):OW P n ops K (⟨dst,.nilCheck x,ty,pos,after,g⟩::rest) e w:=Fp hg hd hx k
theorem wF [hS:FO P S i off] (k:OW P n ops K rest (bM e dst (.pointer (some ⟨b,o+off,none⟩))) w) (hx:ev e x= .pointer (some ⟨b,o,none⟩):=by rfl) (hg:gate ops e g=true:=by rfl) (hd:bV n dst=true:=by rfl):
  OW P n ops K (⟨dst,.fieldAddr S x i,ty,pos,after,g⟩::rest) e w:=Qd hS.h hg hd hx k
theorem wB [hT:O1 P T] (k:OW P n ops K rest (bM e dst v) w) (hx:ev e x= .pointer (some ⟨b,o,none⟩):=by rfl) (hb:aJ w b vs.toArray U:=by first|with_reducible assumption|exact dM.gX (by with_reducible assumption)|assumption) (hc:vs[o]?=some v:=by rfl) (hg:gate ops e g=true:=by rfl) (hd:bV n dst=true:=by rfl):
  OW P n ops K (⟨dst,.load T x,ty,pos,after,g⟩::rest) e w:=zl hT.h hx (hb.at hc) k hg hd
theorem wM [hT:OA P T] [jN:nB P T sz bytes z] (k:OW P n ops K rest (bM e dst (.agg vs.toArray)) w) (hx:ev e x= .pointer (some ⟨b,0,none⟩):=by rfl) (hb:aJ w b vs.toArray U:=by first|with_reducible assumption|exact dM.gX (by with_reducible assumption)|assumption) (hl:vs.length=sz:=by rfl) (hg:gate ops e g=true:=by rfl) (hd:bV n dst=true:=by rfl):
  OW P n ops K (⟨dst,.load T x,ty,pos,after,g⟩::rest) e w:=zL hT.h jN.h hx hb.all hl k hg hd
theorem wC [hT:O1 P T] (k:OW P n ops K rest (bM e dst v) w) (hx:ev e x= .pointer (some ⟨b,o,none⟩):=by rfl) (hb:fS w b o vs:=by first|with_reducible assumption|exact fy.cells (by with_reducible assumption)|assumption) (hc:vs[0]?=some v:=by rfl) (hg:gate ops e g=true:=by rfl) (hd:bV n dst=true:=by rfl):
  OW P n ops K (⟨dst,.load T x,ty,pos,after,g⟩::rest) e w:=zl hT.h hx (hb 0 _ hc) k hg hd
theorem wD [hT:O1 P T] (k:OW P n ops K rest (bM e dst v) w) (hx:ev e x= .pointer (some ⟨b,o+1,none⟩):=by rfl) (hb:fS w b o vs:=by first|with_reducible assumption|exact fy.cells (by with_reducible assumption)|assumption) (hc:vs[1]?=some v:=by rfl) (hg:gate ops e g=true:=by rfl) (hd:bV n dst=true:=by rfl):
  OW P n ops K (⟨dst,.load T x,ty,pos,after,g⟩::rest) e w:=zl hT.h hx (hb 1 _ hc) k hg hd
theorem wE [hT:OA P T] [jN:nB P T sz bytes z] (k:OW P n ops K rest (bM e dst (.agg vs.toArray)) w) (hx:ev e x= .pointer (some ⟨b,o,none⟩):=by rfl) (hb:fS w b o vs:=by first|with_reducible assumption|exact fy.cells (by with_reducible assumption)|assumption) (hl:vs.length=sz:=by rfl) (hg:gate ops e g=true:=by rfl) (hd:bV n dst=true:=by rfl):
  OW P n ops K (⟨dst,.load T x,ty,pos,after,g⟩::rest) e w:=zL hT.h jN.h hx hb hl k hg hd
theorem wi {len cap:Nat} {ki:IntKind} [hT:UL P T (.slice E)] [hE:nB P E sz bytes z] (k:OW P n ops K rest (bM e dst (.pointer (some ⟨b,o+i*sz,none⟩))) w) (hx:ev e x= .slice (some ⟨b,o,none⟩) len cap:=by rfl) (hy:ev e y= .int ki (i:Int):=by rfl) (hi:i<len:=by omega) 
  (hg:gate ops e g=true:=by rfl) (hd:bV n dst=true:=by rfl):OW P n ops K (⟨dst,.indexAddr T x y,ty,pos,after,g⟩::rest) e w:=Qe hT.h hE.h hg hd hx hy hi k
theorem wp {c:Operand} (k:OW P n ops K rest (bM e dst (bif t then ev e x else ev e y)) w) (hc:ev e c= .bool t:=by rfl) (hg:gate ops e g=true:=by rfl) (hd:bV n dst=true:=by rfl):OW P n ops K (⟨dst,.pick c x y,ty,pos,after,g⟩::rest) e w:=P9 hg hd hc k
theorem wx (k:OW P n ops K rest (bM e dst v) w) (hx:ev e x= .tuple vs.toArray:=by rfl) (hi:vs[i]?=some v:=by rfl) (hg:gate ops e g=true:=by rfl) (hd:bV n dst=true:=by rfl):
  OW P n ops K (⟨dst,.extract x i,ty,pos,after,g⟩::rest) e w:=Qf hg hd hx hi k
theorem Aq {b:Int} (c:OW P n ops K rest (bM e dst (.bool (decide (a=b)))) w) (hx:ev e x= .int k a:=by rfl) (hy:ev e y= .int k' b:=by rfl) (hk:k=k':=by rfl) (hg:gate ops e g=true:=by rfl) (hd:bV n dst=true:=by rfl):OW P n ops K (⟨dst,.binOp .eql T x y T',ty,pos,after,g⟩::rest) e w:=vY (hg:=hg) (hd:=hd) (hx:=hx) (hy:=hy) (hk:=hk) (c:=c)
theorem Ar {b:Int} (c:OW P n ops K rest (bM e dst (.bool (decide (a≠b)))) w) (hx:ev e x= .int k a:=by rfl) (hy:ev e y= .int k' b:=by rfl) (hk:k=k':=by rfl) (hg:gate ops e g=true:=by rfl) (hd:bV n dst=true:=by rfl):OW P n ops K (⟨dst,.binOp .neq T x y T',ty,pos,after,g⟩::rest) e w:=Ia (hg:=hg) (hd:=hd) (hx:=hx) (hy:=hy) (hk:=hk) (c:=c)
theorem As {b:Int} (c:OW P n ops K rest (bM e dst (.bool (decide (a<b)))) w) (hx:ev e x= .int k a:=by rfl) (hy:ev e y= .int k' b:=by rfl) (hk:k=k':=by rfl) (hg:gate ops e g=true:=by rfl) (hd:bV n dst=true:=by rfl):OW P n ops K (⟨dst,.binOp .lss T x y T',ty,pos,after,g⟩::rest) e w:=H9 (hg:=hg) (hd:=hd) (hx:=hx) (hy:=hy) (hk:=hk) (c:=c)
theorem Au {b:Int} (c:OW P n ops K rest (bM e dst (.bool (decide (a<=b)))) w) (hx:ev e x= .int k a:=by rfl) (hy:ev e y= .int k' b:=by rfl) (hk:k=k':=by rfl) (hg:gate ops e g=true:=by rfl) (hd:bV n dst=true:=by rfl):OW P n ops K (⟨dst,.binOp .leq T x y T',ty,pos,after,g⟩::rest) e w:=YC (hg:=hg) (hd:=hd) (hx:=hx) (hy:=hy) (hk:=hk) (c:=c)
theorem Av {b:Int} (c:OW P n ops K rest (bM e dst (.bool (decide (b<a)))) w) (hx:ev e x= .int k a:=by rfl) (hy:ev e y= .int k' b:=by rfl) (hk:k=k':=by rfl) (hg:gate ops e g=true:=by rfl) (hd:bV n dst=true:=by rfl):OW P n ops K (⟨dst,.binOp .gtr T x y T',ty,pos,after,g⟩::rest) e w:=Fs (hg:=hg) (hd:=hd) (hx:=hx) (hy:=hy) (hk:=hk) (c:=c)
theorem Aw {b:Int} (c:OW P n ops K rest (bM e dst (.bool (decide (b<=a)))) w) (hx:ev e x= .int k a:=by rfl) (hy:ev e y= .int k' b:=by rfl) (hk:k=k':=by rfl) (hg:gate ops e g=true:=by rfl) (hd:bV n dst=true:=by rfl):OW P n ops K (⟨dst,.binOp .geq T x y T',ty,pos,after,g⟩::rest) e w:=Qg (hg:=hg) (hd:=hd) (hx:=hx) (hy:=hy) (hk:=hk) (c:=c)
theorem Ax {a b:List UInt8} (c:OW P n ops K rest (bM e dst (.bool (decide (a=b)))) w) (hx:ev e x=str a:=by rfl) (hy:ev e y=str b:=by rfl) (hg:gate ops e g=true:=by rfl) (hd:bV n dst=true:=by rfl):OW P n ops K (⟨dst,.binOp .eql T x y T',ty,pos,after,g⟩::rest) e w:=DG (hg:=hg) (hd:=hd) (hx:=hx) (hy:=hy) (c:=c)
theorem Ay {a b:List UInt8} (c:OW P n ops K rest (bM e dst (.bool (decide (a≠b)))) w) (hx:ev e x=str a:=by rfl) (hy:ev e y=str b:=by rfl) (hg:gate ops e g=true:=by rfl) (hd:bV n dst=true:=by rfl):OW P n ops K (⟨dst,.binOp .neq T x y T',ty,pos,after,g⟩::rest) e w:=K2 (hg:=hg) (hd:=hd) (hx:=hx) (hy:=hy) (c:=c)
theorem Az {b:Bool} (c:OW P n ops K rest (bM e dst (.bool (!b))) w) (hx:ev e x= .bool b:=by rfl) (hg:gate ops e g=true:=by rfl) (hd:bV n dst=true:=by rfl):OW P n ops K (⟨dst,.unOp .not T x,ty,pos,after,g⟩::rest) e w:=kx (hg:=hg) (hd:=hd) (hx:=hx) (c:=c)
theorem AA {a b:Bool} [hT:UL P T .bool] (c:OW P n ops K rest (bM e dst (.bool (a==b))) w) (hx:ev e x= .bool a:=by rfl) (hy:ev e y= .bool b:=by rfl) (hg:gate ops e g=true:=by rfl) (hd:bV n dst=true:=by rfl):OW P n ops K (⟨dst,.binOp .eql T x y T',ty,pos,after,g⟩::rest) e w:=YD (hT:=hT.h) (hg:=hg) (hd:=hd) (hx:=hx) (hy:=hy) (c:=c)
theorem AB {a b:Bool} [hT:UL P T .bool] (c:OW P n ops K rest (bM e dst (.bool (!(a==b)))) w) (hx:ev e x= .bool a:=by rfl) (hy:ev e y= .bool b:=by rfl) (hg:gate ops e g=true:=by rfl) (hd:bV n dst=true:=by rfl):OW P n ops K (⟨dst,.binOp .neq T x y T',ty,pos,after,g⟩::rest) e w:=YE (hT:=hT.h) (hg:=hg) (hd:=hd) (hx:=hx) (hy:=hy) (c:=c)
theorem AD {T E:TypeId} {x:Operand} {a:Option Addr} {m cap:Nat} [hT:UL P T (.slice E)] (k:OW P n ops K rest (bM e dst (.int .i64 m)) w) (hx:ev e x= .slice a m cap:=by rfl) (hg:gate ops e g=true:=by rfl) (hd:bV n dst=true:=by rfl):OW P n ops K (⟨dst,.call {callee:=.builtin .len,args:=#[x],argTypes:=#[T]},ty,pos,after,g⟩::rest) e w:=Fq (hT:=hT.h) (hg:=hg) (hd:=hd) (hx:=hx) (k:=k)
theorem AE {a:List UInt8} [hT:UL P T .string] (k:OW P n ops K rest (bM e dst (.int .i64 (a.length:Nat))) w) (hx:ev e x=str a:=by rfl) (hg:gate ops e g=true:=by rfl) (hd:bV n dst=true:=by rfl):OW P n ops K (⟨dst,.call {callee:=.builtin .len,args:=#[x],argTypes:=#[T]},ty,pos,after,g⟩::rest) e w:=YH (hT:=hT.h) (hg:=hg) (hd:=hd) (hx:=hx) (k:=k)
theorem AF {b c:Int} (c':OW P n ops K rest (bM e dst (.int k c)) w) (hx:ev e x= .int k a:=by rfl) (hy:ev e y= .int k' b:=by rfl) (hk:k=k':=by rfl) (hc:k.wrap (a+b)=c:=by exact wrap_i64 _ om om) (hg:gate ops e g=true:=by rfl) (hd:bV n dst=true:=by rfl):OW P n ops K (⟨dst,.binOp .add T x y T',ty,pos,after,g⟩::rest) e w:=mY (hg:=hg) (hd:=hd) (hx:=hx) (hy:=hy) (hk:=hk) (hc:=hc) (c':=c')
theorem Ca {b c:Int} (c':OW P n ops K rest (bM e dst (.int k c)) w) (hx:ev e x= .int k a:=by rfl) (hy:ev e y= .int k' b:=by rfl) (hk:k=k':=by rfl) (hc:k.wrap (a-b)=c:=by exact wrap_i64 _ om om) (hg:gate ops e g=true:=by rfl) (hd:bV n dst=true:=by rfl):OW P n ops K (⟨dst,.binOp .sub T x y T',ty,pos,after,g⟩::rest) e w:=xK (hg:=hg) (hd:=hd) (hx:=hx) (hy:=hy) (hk:=hk) (hc:=hc) (c':=c')
theorem Cb {b c:Int} (c':OW P n ops K rest (bM e dst (.int k c)) w) (hx:ev e x= .int k a:=by rfl) (hy:ev e y= .int k' b:=by rfl) (hk:k=k':=by rfl) (hc:k.wrap (a*b)=c:=by exact wrap_i64 _ om om) (hg:gate ops e g=true:=by rfl) (hd:bV n dst=true:=by rfl):OW P n ops K (⟨dst,.binOp .mul T x y T',ty,pos,after,g⟩::rest) e w:=Ib (hg:=hg) (hd:=hd) (hx:=hx) (hy:=hy) (hk:=hk) (hc:=hc) (c':=c')
theorem Cc {a b:List UInt8} (c:OW P n ops K rest (bM e dst (str (a++b))) w) (hx:ev e x=str a:=by rfl) (hy:ev e y=str b:=by rfl) (hs:a.length+b.length<=9223372036854775807:=by(simp;omega)) (hg:gate ops e g=true:=by rfl) (hd:bV n dst=true:=by rfl):OW P n ops K (⟨dst,.binOp .add T x y T',ty,pos,after,g⟩::rest) e w:=gV (hg:=hg) (hd:=hd) (hx:=hx) (hy:=hy) (hs:=hs) (c:=c)
end
theorem bI {TA TB TA' TB':Prop} (k:aj [] w w') (ta:TA) (tb:TB) (y:TA'->TB'->p) (xta:aj [] w w'->TA->TA':=by intro k h;exact h.ext k) (xtb:aj [] w w'->TB->TB':=by intro k h;exact h.ext k):p:=y (xta k ta) (xtb k tb)
theorem cN {TA TB TC TA' TB' TC':Prop} (k:aj [] w w') (ta:TA) (tb:TB) (tc:TC) (y:TA'->TB'->TC'->p) (xta:aj [] w w'->TA->TA':=by intro k h;exact h.ext k) (xtb:aj [] w w'->TB->TB':=by intro k h;exact h.ext k) (xtc:aj [] w w'->TC->TC':=by intro k h;exact h.ext k):p:=y (xta k ta) (xtb k tb) (xtc k tc)
theorem ie {TA TB TC TD TA' TB' TC' TD':Prop} (k:aj [] w w') (ta:TA) (tb:TB) (tc:TC) (td:TD) (y:TA'->TB'->TC'->TD'->p) (xta:aj [] w w'->TA->TA':=by intro k h;exact h.ext k) (xtb:aj [] w w'->TB->TB':=by intro k h;exact h.ext k) (xtc:aj [] w w'->TC->TC':=by intro k h;exact h.ext k) (xtd:aj [] w w'->TD->TD':=by intro k h;exact h.ext k):p:=y (xta k ta) (xtb k tb) (xtc k tc) (xtd k td)
theorem la {TA TB TC TD TE TA' TB' TC' TD' TE':Prop} (k:aj [] w w') (ta:TA) (tb:TB) (tc:TC) (td:TD) (te:TE) (y:TA'->TB'->TC'->TD'->TE'->p) (xta:aj [] w w'->TA->TA':=by intro k h;exact h.ext k) (xtb:aj [] w w'->TB->TB':=by intro k h;exact h.ext k) (xtc:aj [] w w'->TC->TC':=by intro k h;exact h.ext k) (xtd:aj [] w w'->TD->TD':=by intro k h;exact h.ext k) (xte:aj [] w w'->TE->TE':=by intro k h;exact h.ext k):p:=y (xta k ta) (xtb k tb) (xtc k tc) (xtd k td) (xte k te)
theorem tS {TA TB TC TD TE TF TA' TB' TC' TD' TE' TF':Prop} (k:aj [] w w') (ta:TA) (tb:TB) (tc:TC) (td:TD) (te:TE) (tf:TF) (y:TA'->TB'->TC'->TD'->TE'->TF'->p) (xta:aj [] w w'->TA->TA':=by intro k h;exact h.ext k) (xtb:aj [] w w'->TB->TB':=by intro k h;exact h.ext k) (xtc:aj [] w w'->TC->TC':=by intro k h;exact h.ext k) (xtd:aj [] w w'->TD->TD':=by intro k h;exact h.ext k) (xte:aj [] w w'->TE->TE':=by intro k h;exact h.ext k) (xtf:aj [] w w'->TF->TF':=by intro k h;exact h.ext k):p:=y (xta k ta) (xtb k tb) (xtc k tc) (xtd k td) (xte k te) (xtf k tf)
theorem I4 {TA TB TC TD TE TF TG TA' TB' TC' TD' TE' TF' TG':Prop} (k:aj [] w w') (ta:TA) (tb:TB) (tc:TC) (td:TD) (te:TE) (tf:TF) (tg:TG) (y:TA'->TB'->TC'->TD'->TE'->TF'->TG'->p) (xta:aj [] w w'->TA->TA':=by intro k h;exact h.ext k) (xtb:aj [] w w'->TB->TB':=by intro k h;exact h.ext k) (xtc:aj [] w w'->TC->TC':=by intro k h;exact h.ext k) (xtd:aj [] w w'->TD->TD':=by intro k h;exact h.ext k) (xte:aj [] w w'->TE->TE':=by intro k h;exact h.ext k) (xtf:aj [] w w'->TF->TF':=by intro k h;exact h.ext k) (xtg:aj [] w w'->TG->TG':=by intro k h;exact h.ext k):p:=y (xta k ta) (xtb k tb) (xtc k tc) (xtd k td) (xte k te) (xtf k tf) (xtg k tg)
theorem Cd {TA TB TC TD TE TF TG TM TA' TB' TC' TD' TE' TF' TG' TM':Prop} (k:aj [] w w') (ta:TA) (tb:TB) (tc:TC) (td:TD) (te:TE) (tf:TF) (tg:TG) (tm:TM) (y:TA'->TB'->TC'->TD'->TE'->TF'->TG'->TM'->p) (xta:aj [] w w'->TA->TA':=by intro k h;exact h.ext k) (xtb:aj [] w w'->TB->TB':=by intro k h;exact h.ext k) (xtc:aj [] w w'->TC->TC':=by intro k h;exact h.ext k) (xtd:aj [] w w'->TD->TD':=by intro k h;exact h.ext k) (xte:aj [] w w'->TE->TE':=by intro k h;exact h.ext k) (xtf:aj [] w w'->TF->TF':=by intro k h;exact h.ext k) (xtg:aj [] w w'->TG->TG':=by intro k h;exact h.ext k) (xtm:aj [] w w'->TM->TM':=by intro k h;exact h.ext k):p:=y (xta k ta) (xtb k tb) (xtc k tc) (xtd k td) (xte k te) (xtf k tf) (xtg k tg) (xtm k tm)
theorem aeg {TA TB TC TD TE TF TG TM TN TA' TB' TC' TD' TE' TF' TG' TM' TN':Prop} (k:aj [] w w') (ta:TA) (tb:TB) (tc:TC) (td:TD) (te:TE) (tf:TF) (tg:TG) (tm:TM) (tn:TN) (y:TA'->TB'->TC'->TD'->TE'->TF'->TG'->TM'->TN'->p) (xta:aj [] w w'->TA->TA':=by intro k h;exact h.ext k) (xtb:aj [] w w'->TB->TB':=by intro k h;exact h.ext k) (xtc:aj [] w w'->TC->TC':=by intro k h;exact h.ext k) (xtd:aj [] w w'->TD->TD':=by intro k h;exact h.ext k) (xte:aj [] w w'->TE->TE':=by intro k h;exact h.ext k) (xtf:aj [] w w'->TF->TF':=by intro k h;exact h.ext k) (xtg:aj [] w w'->TG->TG':=by intro k h;exact h.ext k) (xtm:aj [] w w'->TM->TM':=by intro k h;exact h.ext k) (xtn:aj [] w w'->TN->TN':=by intro k h;exact h.ext k):p:=y (xta k ta) (xtb k tb) (xtc k tc) (xtd k td) (xte k te) (xtf k tf) (xtg k tg) (xtm k tm) (xtn k tn)
structure Hd (q:Prop):Prop where out:q
theorem W (k:q) (h:Hd q->p:=by intro k;(repeat(first|refine zm ?_|refine zA ?_|refine zr ?_|refine aZ ?_|refine zs ?_|refine wF ?_|refine wB ?_|refine wC ?_|refine wD ?_|refine wM ?_|refine wE ?_|refine wN ?_|refine wp ?_|refine wx ?_|refine jL ?_|refine gY ?_|refine kH ?_|refine tj ?_|refine Aq ?_|refine Ar ?_|refine As ?_|refine Au ?_|refine Av ?_|refine Aw ?_|refine Ax ?_|refine Ay ?_|refine Az ?_|refine AD ?_|refine AE ?_|refine AA ?_|refine AB ?_|refine wi ?_|refine AF ?_|refine Ca ?_|refine Cb ?_|refine Cc ?_|refine jZ ?_|refine zj ?_|refine zk rfl ?_|refine DE rfl ?_));exact k.out):p:=h ⟨k⟩
theorem WL (k:q) (h:Hd q->p:=by intro k;(repeat(first|refine zm ?_|refine zA ?_|refine zr ?_|refine aZ ?_|refine zs ?_|refine wF ?_|refine wN ?_|refine wp ?_|refine wx ?_|refine jL ?_|refine gY ?_|refine kH ?_|refine tj ?_|refine Aq ?_|refine Ar ?_|refine As ?_|refine Au ?_|refine Av ?_|refine Aw ?_|refine Ax ?_|refine Ay ?_|refine Az ?_|refine AD ?_|refine AE ?_|refine AA ?_|refine AB ?_|refine wi ?_|refine AF ?_|refine Ca ?_|refine Cb ?_|refine Cc ?_|refine jZ ?_|refine zj ?_|refine zk rfl ?_|refine DE rfl ?_));exact k.out):p:=h ⟨k⟩
theorem WI (k:q) (h:Hd q->p:=by intro k;(repeat(first|refine zm ?_|refine zA ?_|refine zr ?_|refine aZ ?_|refine zs ?_|refine wF ?_|refine wB ?_|refine wC ?_|refine wD ?_|refine wM ?_|refine wE ?_|refine wN ?_|refine wp ?_|refine wx ?_|refine jL ?_|refine gY ?_|refine kH ?_|refine tj ?_|refine Aq ?_|refine Ar ?_|refine As ?_|refine Au ?_|refine Av ?_|refine Aw ?_|refine Ax ?_|refine Ay ?_|refine Az ?_|refine AD ?_|refine AE ?_|refine AA ?_|refine AB ?_|refine AF ?_|refine Ca ?_|refine Cb ?_|refine Cc ?_|refine jZ ?_|refine zj ?_|refine zk rfl ?_|refine DE rfl ?_));exact k.out):p:=h ⟨k⟩
theorem WA (k:q) (h:Hd q->p:=by intro k;(repeat(first|refine zm ?_|refine zA ?_|refine zr ?_|refine aZ ?_|refine zs ?_|refine wF ?_|refine wB ?_|refine wC ?_|refine wD ?_|refine wM ?_|refine wE ?_|refine wN ?_|refine wp ?_|refine wx ?_|refine jL ?_|refine gY ?_|refine kH ?_|refine tj ?_|refine Aq ?_|refine Ar ?_|refine As ?_|refine Au ?_|refine Av ?_|refine Aw ?_|refine Ax ?_|refine Ay ?_|refine Az ?_|refine AD ?_|refine AE ?_|refine AA ?_|refine AB ?_|refine wi ?_|refine Cc ?_|refine jZ ?_|refine zj ?_|refine zk rfl ?_|refine DE rfl ?_));exact k.out):p:=h ⟨k⟩
theorem WS (k:q) (h:Hd q->p:=by intro k;(repeat(first|refine zm ?_|refine zA ?_|refine zr ?_|refine aZ ?_|refine zs ?_|refine wF ?_|refine wB ?_|refine wC ?_|refine wD ?_|refine wM ?_|refine wE ?_|refine wN ?_|refine wp ?_|refine wx ?_|refine jL ?_|refine gY ?_|refine kH ?_|refine tj ?_|refine Aq ?_|refine Ar ?_|refine As ?_|refine Au ?_|refine Av ?_|refine Aw ?_|refine Ax ?_|refine Ay ?_|refine Az ?_|refine AD ?_|refine AE ?_|refine AA ?_|refine AB ?_|refine wi ?_|refine AF ?_|refine Ca ?_|refine Cb ?_|refine jZ ?_|refine zj ?_|refine zk rfl ?_|refine DE rfl ?_));exact k.out):p:=h ⟨k⟩
theorem WZ (k:q) (h:Hd q->p:=by intro k;(repeat(first|refine zm ?_|refine zA ?_|refine zr ?_|refine zs ?_|refine wF ?_|refine wB ?_|refine wC ?_|refine wD ?_|refine wM ?_|refine wE ?_|refine wN ?_|refine wp ?_|refine wx ?_|refine jL ?_|refine gY ?_|refine kH ?_|refine tj ?_|refine Aq ?_|refine Ar ?_|refine As ?_|refine Au ?_|refine Av ?_|refine Aw ?_|refine Ax ?_|refine Ay ?_|refine Az ?_|refine AD ?_|refine AE ?_|refine AA ?_|refine AB ?_|refine wi ?_|refine AF ?_|refine Ca ?_|refine Cb ?_|refine Cc ?_|refine jZ ?_|refine zj ?_|refine zk rfl ?_|refine DE rfl ?_));exact k.out):p:=h ⟨k⟩
theorem oM {D:List Nat} {e e':Env} (h2:p) (h3:q) (h:ek D e e':=by repeat(first|with_reducible exact xN|refine Ic rfl ?_|refine K4 rfl ?_)):ek D e e'∧p∧q:=⟨h,h2,h3⟩
theorem oQ (h:p:=by refine W ?_;exact oM rfl (by first|rfl|exact aj.refl _ _|assumption)):p:=h
section
variable {P:Program} {n:Nat} {ops:Array Oper} {K:Env->World->Prop} {e:Env} {w:World} {l:List Oper} (m tc tp:Nat) (J:World->Prop) {c r:Bool} {p:Prop}
theorem oO (ht:e tc= .bool c) (h1:OW P n ops (λe' w'=>ek (List.range' tc (tp+1-tc)) e e'∧e' tp= .bool true∧J w') (l.take m) (gU e tc (.bool true)) w) [t:tR (c=false) p] 
  (h0:p->OW P n ops (λe' w'=>ek (List.range' tc (tp+1-tc)) e e'∧e' tp= .bool r∧J w') (l.take m) (gU e tc (.bool false)) w)
  (k:∀x w',J w'->OW P n ops K (l.drop m) (gU (bj (List.range' tc (tp+1-tc)) x e) tp (.bool (c||r))) w'):OW P n ops K l e w:=
 BF m tc tp _ J ht (λ_=>h1) (λh=>h0 (t.imp h)) k
theorem oA (ht:e tc= .bool c) (h0:OW P n ops (λe' w'=>ek (List.range' tc (tp+1-tc)) e e'∧e' tp= .bool false∧J w') (l.take m) (gU e tc (.bool false)) w) [t:tR (c=true) p] 
  (h1:p->OW P n ops (λe' w'=>ek (List.range' tc (tp+1-tc)) e e'∧e' tp= .bool r∧J w') (l.take m) (gU e tc (.bool true)) w)
  (k:∀x w',J w'->OW P n ops K (l.drop m) (gU (bj (List.range' tc (tp+1-tc)) x e) tp (.bool (c&&r))) w'):OW P n ops K l e w:=
 Ig m tc tp _ J ht (λh=>h1 (t.imp h)) (λ_=>h0) k
theorem oP (ht:e tc= .bool c) (h1:OW P n ops (λe' w'=>ek (List.range' tc (tp+1-tc)) e e'∧e' tp= .bool true∧w=w') (l.take m) (gU e tc (.bool true)) w) [t:tR (c=false) p] 
  (h0:p->OW P n ops (λe' w'=>ek (List.range' tc (tp+1-tc)) e e'∧e' tp= .bool r∧w=w') (l.take m) (gU e tc (.bool false)) w)
  (k:∀x,OW P n ops K (l.drop m) (gU (bj (List.range' tc (tp+1-tc)) x e) tp (.bool (c||r))) w):OW P n ops K l e w:=
 BF m tc tp _ (w=·) ht (λ_=>h1) (λh=>h0 (t.imp h)) λx _ hw=>hw▸k x
theorem oB (ht:e tc= .bool c) (h0:OW P n ops (λe' w'=>ek (List.range' tc (tp+1-tc)) e e'∧e' tp= .bool false∧w=w') (l.take m) (gU e tc (.bool false)) w) [t:tR (c=true) p] 
  (h1:p->OW P n ops (λe' w'=>ek (List.range' tc (tp+1-tc)) e e'∧e' tp= .bool r∧w=w') (l.take m) (gU e tc (.bool true)) w)
  (k:∀x,OW P n ops K (l.drop m) (gU (bj (List.range' tc (tp+1-tc)) x e) tp (.bool (c&&r))) w):OW P n ops K l e w:=
 Ig m tc tp _ (w=·) ht (λh=>h1 (t.imp h)) (λ_=>h0) λx _ hw=>hw▸k x
end
abbrev it (l:List Value):List It:=l.map It.v
theorem dV {n:Nat} {l:List Oper} {N R:Env->World->Prop} {X:Nat->Env->World->Prop} {id:Nat} {e0:Env} {w0:World} (hm:P.follows .mixedOrders=true) (m:Nat) (ds:List Nat) (deps:List (List Nat)) (its:List It) 
  (hB:uI l m ds ds deps=true) (hS:its.all It.Ga=true)
  (hc:∀wd,aj [] w0 wd->qY P n l.toArray ds ds its e0 wd 0 (l.take m) deps)
  (ht:∀(x:Env) (w:World),aj [] w0 w->dq its ds w (List.range m) λacc=>OW P n l.toArray N (l.drop m) (bo (bj ds x e0) acc) w):
  CW P n (.region id l.toArray true) N R X e0 w0:=k8 hm m ds ds deps its hB hS hc ht
section
variable {P:Program} {n:Nat} {ops:Array Oper} {W ds:List Nat} {e0:Env} {wz w0:World} {k:Nat} {o:Oper} {l:List Oper} {d:List Nat} {r:List (List Nat)}
theorem V1 {its:List It} (aC:aj [] wz w0) (hr:qY P n ops W ds its e0 w0 (k+1) l r) (h:Gb P n ops W ds its e0 w0 k o d:=by intro x w hk;first|exact zm pv|exact zA pv|exact zs pv|exact wF pv|exact wB pv (hb:=aJ.ext (by first|with_reducible assumption|assumption) (aj.trans aC hk))|exact wB pv (hb:=dM.gX (dM.ext (by first|with_reducible assumption|assumption) (aj.trans aC hk)))|exact wM pv (hb:=aJ.ext (by first|with_reducible assumption|assumption) (aj.trans aC hk))|exact wM pv (hb:=dM.gX (dM.ext (by first|with_reducible assumption|assumption) (aj.trans aC hk)))|exact wC pv (hb:=fS.ext (by first|with_reducible assumption|assumption) (aj.trans aC hk))|exact wC pv (hb:=fy.cells (fy.ext (by first|with_reducible assumption|assumption) (aj.trans aC hk)))|exact wD pv (hb:=fS.ext (by first|with_reducible assumption|assumption) (aj.trans aC hk))|exact wD pv (hb:=fy.cells (fy.ext (by first|with_reducible assumption|assumption) (aj.trans aC hk)))|exact wE pv (hb:=fS.ext (by first|with_reducible assumption|assumption) (aj.trans aC hk))|exact wE pv (hb:=fy.cells (fy.ext (by first|with_reducible assumption|assumption) (aj.trans aC hk)))|exact wN pv|(refine wp ?_;exact pv)|exact wx pv|exact Aq pv|exact Ar pv|exact As pv|exact Au pv|exact Av pv|exact Aw pv|exact Ax pv|exact Ay pv|exact Az pv|exact AD pv|exact AE pv|exact AA pv|exact AB pv|exact wi pv|exact AF pv|exact Ca pv|exact Cb pv|exact Cc pv):qY P n ops W ds its e0 w0 k (o::l) (d::r):=⟨h,hr⟩
theorem F1 {its:List Ie} {Js:List (List Nat->List Value->World->Prop)} {G0:List Nat} (hr:va P n ops W ds its Js e0 G0 w0 (k+1) l r) (h:I0 P n ops W ds its e0 G0 w0 k o d:=by intro x w G aS bC pJ;first|exact zm fv|exact zA fv|exact zs fv|exact wF fv|exact wB fv (hb:=dM.gX (dM.go (by first|with_reducible assumption|assumption) bC))|exact wM fv (hb:=dM.gX (dM.go (by first|with_reducible assumption|assumption) bC))|exact wC fv (hb:=fy.cells (fy.go (by first|with_reducible assumption|assumption) bC))|exact wD fv (hb:=fy.cells (fy.go (by first|with_reducible assumption|assumption) bC))|exact wE fv (hb:=fy.cells (fy.go (by first|with_reducible assumption|assumption) bC))|exact wN fv|(refine wp ?_;exact fv)|exact wx fv|exact Aq fv|exact Ar fv|exact As fv|exact Au fv|exact Av fv|exact Aw fv|exact Ax fv|exact Ay fv|exact Az fv|exact AD fv|exact AE fv|exact AA fv|exact AB fv|exact wi fv|exact AF fv|exact Ca fv|exact Cb fv|exact Cc fv) (hk:(its.getD k l0).j7=none:=by rfl):va P n ops W ds its Js e0 G0 w0 k (o::l) (d::r):=vf h hr hk
end
theorem VA (k:q) (h:Hd q->p:=by intro k;(repeat(refine V1 aC ?_));exact k.out):p:=h ⟨k⟩
theorem VZ (h:p:=by(repeat(refine V1 aC ?_));exact trivial):p:=h
theorem FZ (h:p:=by(repeat(refine F1 ?_));exact trivial):p:=h
theorem FA (k:q) (h:Hd q->p:=by intro k;(repeat(refine F1 ?_));exact k.out):p:=h ⟨k⟩
/-! ### Rows of zero values -/
theorem SR (z:Array Value):∀n:Nat,(madeCells z (n*z.size)).toList=(List.replicate n z.toList).flatten
 |0=>by simp[madeCells]
 |n+1=>by
  have ih:=SR z n
  have e:(madeCells z (n*z.size)).toList=(List.range (n*z.size)).map λi=>z[i%z.size]!:=by simp[madeCells]
  have e2:(madeCells z ((n+1)*z.size)).toList=(List.range ((n+1)*z.size)).map λi=>z[i%z.size]!:=by simp[madeCells]
  rw[e2,Nat.add_mul,Nat.one_mul,Nat.add_comm,List.range_add,List.map_append,List.replicate_succ,List.flatten_cons,<-ih,e]
  congr 1
  ·refine List.ext_getElem sm λi h1 h2=>?_
   have hi:i<z.size:=by simpa using h1
   simp[Nat.mod_eq_of_lt hi,hi]
  ·rw[List.map_map]
   refine List.map_congr_left λi _=>?_
   simp
section
variable {P:Program} {n:Nat} {ops:Array Oper} {K:Env->World->Prop} {rest:List Oper} {e:Env} {w:World}
 {dst:Option Nat} {ty:TypeId} {pos:String} {after:Array Edge} {g:Option (Nat×Bool)} {x y:Operand}
/-! ### Elements that are stored -/
def setAt (cs:Array Value) (k:Nat):List Value->Array Value
 |[]=>cs
 |v::vs=>setAt (cs.setIfInBounds k v) (k+1) vs
theorem MC:∀(vs:List Value) (cs:Array Value) (k:Nat),(setAt cs k vs).size=cs.size:=by intro x;induction x<;>grind [setAt]
theorem I5:∀(vs:List Value) (cs:Array Value) (k:Nat),k+vs.length<=cs.size->(setAt cs k vs).toList=cs.toList.take k++(vs++cs.toList.drop (k+vs.length))
 |[],cs,k,_=>by simp[setAt]
 |v::vs,cs,k,h=>by
  unfold setAt
  simp only[lC] at h
  rw[I5 vs _ _ so,Array.toList_setIfInBounds]
  have hk:k<cs.toList.length:=by simp;omega
  rw[List.take_add_one,List.getElem?_set_self hk,List.take_set_of_le (lR k)]
  rw[List.drop_set_of_lt om]
  simp only[Option.toList_some,List.append_assoc,List.cons_append,List.nil_append,lC]
  rw[show k+1+vs.length=k+(vs.length+1) from by omega]
theorem MD:∀(vs:List Value) (i:Nat) (w:World) (b o:Nat) (U:TypeId) (cs:Array Value),aJ w b cs U->o+i+vs.length<=cs.size->(∀u∈vs,u.oneCell'=true)->
  ∃w',(storeCells ⟨b,o,none⟩ vs i).run P w= .ok () w'∧aj [b] w w'∧aJ w' b (setAt cs (o+i) vs) U∧w'.heap.size=w.heap.size
 |[],i,w,b,o,U,cs,hb,_,_=>⟨w,rfl,aj.refl _ _,hb,rfl⟩
 |v::vs,i,w,b,o,U,cs,hb,hs,h1=>by
  simp only[lC] at hs
  have mj:o+i<cs.size:=by omega
  have aR:(store ((⟨b,o,none⟩:Addr).add i) v).run P w= .ok () (w.setCell ⟨b,o+i,none⟩ v):=by
   rw[qM,run_store P w _ v _ (h1 v sm),hb.cell,Array.getElem?_eq_getElem mj,hb.frozen]
   simp
  obtain⟨w',hr,hk,gN,hz⟩:=MD vs (i+1) (w.setCell ⟨b,o+i,none⟩ v) b o U (cs.setIfInBounds (o+i) v) (hb.set (o+i) v) so (λu hu=>h1 u (by simp[hu]))
  refine⟨w',?_,(aj.setCell w b (o+i) v).trans hk,gN,by rw[hz];simp[World.setCell]⟩
  simp only[storeCells,Sem.run_bind,aR,Result.andThen_ok]
  exact hr
theorem SS {α:Type}:∀{rows:List (List α)} {i:Nat} {row:List α},(∀r,r∈rows->r.length=sz)->i<rows.length->row.length=sz->(rows.set i row).flatten=rows.flatten.take (i*sz)++(row++rows.flatten.drop (i*sz+sz))
 |r::rows,0,row,h,_,hr=>by
  have h0:r.length=sz:=h r sm
  simp[<-h0]
 |r::rows,i+1,row,h,hi,hr=>by
  have h0:r.length=sz:=h r sm
  have ih:=SS (rows:=rows) (i:=i) (row:=row) (λr hr=>h r (by simp[hr])) (by simpa using hi) hr
  rw[List.set_cons_succ,List.flatten_cons,List.flatten_cons,ih]
  have e1:(i+1)*sz=r.length+i*sz:=by rw[h0,Nat.add_mul];omega
  have e2:(i+1)*sz+sz=r.length+(i*sz+sz):=by omega
  rw[e2,e1,List.take_length_add_append,List.drop_length_add_append,List.append_assoc]
theorem cS.take {w:World}:∀{k:Nat} {vs:List Value} {cs:List C},cS L w vs cs->cS L w (vs.take k) (cs.take k)
 |0,_,_,_=>by simp[cS]
 |_+1,[],[],_=>trivial
 |_+1,_::_,_::_,h=>⟨h.1,cS.take h.2⟩
theorem cS.drop {w:World}:∀{k:Nat} {vs:List Value} {cs:List C},cS L w vs cs->cS L w (vs.drop k) (cs.drop k)
 |0,_,_,h=>h
 |_+1,[],[],_=>trivial
 |k+1,_::_,_::_,h=>cS.drop (k:=k) h.2
theorem aeh {T:Nat} {v:Value} {vs:List Value} {row:List C} {B:Nat} {L:List Nat} {E gb:Nat} {N c:Nat} {rows:List (List C)} {b o i:Nat} (jN:TI P T sz bytes z) (hg:gate ops e g=true) 
  (hx:ev e x= .pointer (some ⟨b,o,none⟩)) (hy:ev e y=v) (hv:v.cells=vs.toArray) (ho:o=i*sz) (hO:Gr B L w E sz (.slice (some ⟨b,0,none⟩) N c) (some gb) rows) (hi:i<rows.length) (h1:vs.all Value.oneCell'=true)
  (nZ:row.length=sz) (hr:cS (gb::L) w vs row)
  (k:∀w',aj [gb] w w'->w'.heap.size=w.heap.size->Gr B L w' E sz (.slice (some ⟨b,0,none⟩) N c) (some gb) (rows.set i row)->OW P n ops K rest e w'):
  OW P n ops K (⟨none,.store T x y,ty,pos,after,g⟩::rest) e w:=by
 subst ho
 obtain⟨xs,⟨⟨mm,h|⟨b',cap,cur,oa,ME,hb,ml,lU,bZ,ht⟩⟩,gB,gZ,vi⟩⟩:=hO.own
 ·obtain⟨h,_⟩:=h;cases h
 ·cases ME;cases oa
  have fP:vs.length=sz:=by rw[hr.length,nZ]
  have hle:(i+1)*sz<=rows.length*sz:=Nat.mul_le_mul_right _ hi
  have SU:rows.length*sz<=c*sz:=Nat.mul_le_mul_right _ ml
  rw[Nat.add_mul,Nat.one_mul] at hle
  obtain⟨w',jM,hk,gN,hz⟩:=MD (P:=P) vs 0 w gb (i*sz) E cur hb (by rw[bZ,fP];omega) (λu hu=>List.all_eq_true.1 h1 u hu)
  rw[Nat.add_zero] at gN
  refine H8 hg (w':=w') (by
   simp[execOp,Instr.storeAt,Instr.sureAddr,hx,hy,storeVar,hv,jN.rD,fP,jM]) (k w' hk hz ⟨⟨xs.take (i*sz)++(vs++xs.drop (i*sz+sz)),⟨⟨?_,.inr ⟨gb,c,_,rfl,sm,gN,by simpa using ml,lU,by rw[MC];exact bZ,?_⟩⟩,?_,?_,vi⟩⟩,hO.low,λx hx=>by rw[hz];exact hO.cC x hx,by rw[hz];exact hO.bsz⟩)
  ·rw[lA,lA,List.length_take,List.length_drop,List.length_set,mm,fP];omega
  ·rw[I5 _ _ _ (by rw[bZ,fP];omega),List.length_set,<-ht,fP,List.take_append,List.take_append]
   simp only[List.length_take,Array.length_toList,bZ,fP,List.take_take,List.drop_take]
   rw[Nat.min_eq_right (show i*sz<=rows.length*sz by omega),Nat.min_eq_left (show i*sz<=rows.length*sz by omega),Nat.min_eq_left (show i*sz<=c*sz by omega),List.take_of_length_le (l:=vs) om]
   rw[show rows.length*sz-i*sz-sz=rows.length*sz-(i*sz+sz) from by omega]
  ·rw[SS gZ hi nZ]
   refine cS.append (cS.aF gB.take (hk.mono sm)) (cS.append (hr.aF (hk.mono sm)) (cS.aF gB.drop (hk.mono sm)))
  ·intro r rE
   rcases List.mem_or_eq_of_mem_set rE with h|h
   ·exact gZ r h
   ·rw[h];exact nZ
/-! ### Slices that are built of several ak -/
theorem SV (off:Nat):∀(us:List Value) (i:Nat) (cs:Array Value),((us.zipIdx i).foldl (fun(cs:Array Value) (p:Value×Nat)=>cs.setIfInBounds (off+p.2) p.1) cs)=setAt cs (off+i) us
 |[],_,_=>rfl
 |u::us,i,cs=>by rw[List.zipIdx_cons,List.foldl_cons,SV off us];rfl
theorem SW:∀(us:List Value) (vss:List (List Value)) (k:Nat) (cs:Array Value),us.map Value.cells=vss.map List.toArray->(∀vs,vs∈vss->vs.length=sz)->cs.size=(k+us.length)*sz->
  ∃cs',Instr.fill (λi=>some (i*sz,sz)) cs ((us.zipIdx k).map λp=>(p.2,p.1))=some cs'∧cs'.toList=cs.toList.take (k*sz)++vss.flatten
 |[],[],k,cs,_,_,hs=>⟨cs,rfl,by simp only[List.length_nil,Nat.add_zero] at hs;simp only[List.flatten_nil,List.append_nil];rw[List.take_of_length_le (by simp[hs])]⟩
 |[],_::_,_,_,h,_,_=>by simp at h
 |_::_,[],_,_,h,_,_=>by simp at h
 |u::us,vs::vss,k,cs,h,hl,hs=>by
  simp only[List.map_cons,List.cons.injEq] at h
  have fP:vs.length=sz:=hl vs sm
  simp only[lC] at hs
  have e:(k+(us.length+1))*sz=k*sz+sz+us.length*sz:=by rw[Nat.add_mul,Nat.add_mul,Nat.one_mul];omega
  rw[List.zipIdx_cons,List.map_cons]
  obtain⟨cs',h1,h2⟩:=SW us vss (k+1) (setAt cs (k*sz) vs) h.2 (λv hv=>hl v (by simp[hv])) (by rw[MC,hs];congr 1;omega)
  refine⟨cs',?_,?_⟩
  ·unfold Instr.fill
   simp only[h.1]
   rw[iN (by simp[fP];omega)]
   have h3:=SV (k*sz) vs 0 cs
   simp only[Nat.add_zero] at h3
   have h4:Array.foldl (fun(cs:Array Value) (p:Value×Nat)=>cs.setIfInBounds (k*sz+p.2) p.1) cs vs.toArray.zipIdx=setAt cs (k*sz) vs:=by rw[<-h3];simp
   rw[h4];exact h1
  ·have e2:(k+1)*sz=k*sz+sz:=by rw[Nat.add_mul,Nat.one_mul]
   have FD:min (k*sz) cs.size=k*sz:=Nat.min_eq_left om
   rw[h2,I5 _ _ _ (by rw[fP];omega),e2,List.flatten_cons,List.take_append,List.take_append]
   simp only[List.length_take,Array.length_toList,FD,fP,List.take_take]
   rw[Nat.min_eq_right (show k*sz<=k*sz+sz by omega),show k*sz+sz-k*sz=sz from by omega,List.take_of_length_le (l:=vs) om,Nat.sub_self,List.take_zero,List.append_nil,List.append_assoc]
theorem aei {T:TypeId} {us:List Value} {vss:List (List Value)} (hT:P.underlying T=some (.slice E)) (hE:TI P E sz bytes z) (nQ:0<sz) (wO:0<us.length) (cV:us.length*sz<=16777216) 
  (hv:us.map Value.cells=vss.map List.toArray) (hl:∀vs,vs∈vss->vs.length=sz):(Instr.buildSlice T us.length ((us.zipIdx 0).map λp=>(p.2,p.1)).toArray).run P w= .ok (.slice (some ⟨w.heap.size,0,none⟩) us.length us.length) (w.alloc (.cells vss.flatten.toArray E)):=by
 have h0:¬us.length*sz=0:=by
  have:0<us.length*sz:=Nat.mul_pos wO nQ
  omega
 have hb:¬(16777216<us.length*sz):=by omega
 obtain⟨cs',hf,bZ⟩:=SW us vss 0 ((Array.range (us.length*sz)).map (z.cells[·%z.cells.size]!)) hv hl sm
 have he:cs'=vss.flatten.toArray:=by apply Array.ext';simpa using bZ
 subst he
 simp[Instr.buildSlice,Sem.run_bind,run_underlying hT,Result.andThen_ok,hE.rD,hb,h0,hE.KZ,hf,newRow]
theorem sH {m:Nat} {T:TypeId} {ak:Array (Nat×Operand)} (qs:List Operand) (vss:List (List Value)) (hT:P.underlying T=some (.slice E)) (hE:TI P E sz bytes z) (hg:gate ops e g=true) (hd:bV n dst=true) 
  (hp:ak=((qs.zipIdx 0).map λp=>(p.2,p.1)).toArray) (hm:m=qs.length) (nQ:Nat.blt 0 sz=true) (wO:Nat.blt 0 qs.length=true) (cV:Nat.ble (qs.length*sz) 16777216=true)
  (hv:qs.map (λq=>(ev e q).cells)=vss.map List.toArray) (hl:vss.all (λvs=>Nat.beq vs.length sz)=true)
  (k:∀w',aj [] w w'->aJ w' w.heap.size vss.flatten.toArray E->w'.heap.size=w.heap.size+1->OW P n ops K rest (bM e dst (.slice (some ⟨w.heap.size,0,none⟩) m m)) w'):
  OW P n ops K (⟨dst,.buildSlice T m ak,ty,pos,after,g⟩::rest) e w:=by
 subst hp hm
 have SX:(qs.map (ev e)).length=qs.length:=by simp
 have hr:=aei (P:=P) (w:=w) (us:=qs.map (ev e)) (vss:=vss) hT hE (by simpa[Nat.blt_eq] using nQ) (by simpa[Nat.blt_eq] using wO) (by rw[SX];exact Nat.le_of_ble_eq_true cV) (by rw[List.map_map];exact hv) (λvs h=>Nat.eq_of_beq_eq_true (List.all_eq_true.1 hl vs h))
 rw[SX] at hr
 have aej:((qs.zipIdx 0).map λp=>(p.2,p.1)).toArray.map (fun(p:Nat×Operand)=>(p.1,ev e p.2))=(((qs.map (ev e)).zipIdx 0).map λp=>(p.2,p.1)).toArray:=by
  rw[List.map_toArray,List.map_map]
  congr 1
  have:∀(qs:List Operand) (i:Nat),(qs.zipIdx i).map ((fun(p:Nat×Operand)=>(p.1,ev e p.2))∘λp=>(p.2,p.1))=((qs.map (ev e)).zipIdx i).map λp=>(p.2,p.1):=by
   intro qs
   induction qs with
   |nil=>intro i;rfl
   |cons q qs ih=>intro i;simp only[List.zipIdx_cons,List.map_cons,List.map,ih];rfl
  exact this qs 0
 exact eQ hg hd (w':=w.alloc (.cells vss.flatten.toArray E)) (by
  have rH:(Array.map (λx=>(x.fst,ev e x.snd)) ((qs.zipIdx 0).map λp=>(p.2,p.1)).toArray)=(((qs.map (ev e)).zipIdx 0).map λp=>(p.2,p.1)).toArray:=aej
  simp only[execOp]
  rw[rH,Sem.run_bind,hr];simp) (k _ (aj.alloc _ _ _) (aJ.alloc _ _ _) sm)
/-! ### Slices that are appended whole -/
theorem SY {w:World}:∀{rows:List (List C)} {f:Nat->List Value},(∀i row,rows[i]?=some row->cS L w (f i) row)->cS L w ((List.range rows.length).map f).flatten rows.flatten
 |[],_,_=>trivial
 |r::rows,f,h=>by
  rw[lC,List.range_succ_eq_map,List.map_cons,List.map_map,List.flatten_cons,List.flatten_cons]
  exact(h 0 r rfl).append (SY (f:=f∘Nat.succ) λi row hi=>h (i+1) row (by simpa using hi))
theorem aek {w:World} {xs ys:List Value} (h:fS w b off xs) (k:fS w b (off+xs.length) ys):fS w b off (xs++ys):=by grind [fS]
theorem SZ {w:World} {sz:Nat}:∀{n off:Nat} {f:Nat->List Value},(∀i,i<n->(f i).length=sz∧fS w b (off+i*sz) (f i))->fS w b off ((List.range n).map f).flatten
 |0,_,_,_=>λj v hj=>by simp at hj
 |n+1,off,f,h=>by
  rw[List.range_succ_eq_map,List.map_cons,List.map_map,List.flatten_cons]
  obtain⟨h1,h2⟩:=h 0 om
  rw[Nat.zero_mul,Nat.add_zero] at h2
  refine aek h2 (SZ (sz:=sz) λi hi=>?_)
  obtain⟨h3,h4⟩:=h (i+1) om
  refine⟨h3,?_⟩
  rw[h1]
  rwa [show off+(i+1)*sz=off+sz+i*sz from by rw[Nat.add_mul];omega] at h4
theorem S0 {w:World} {a:Option Addr} {len cap size:Nat} (h:bQ L w (.slice a len cap) (.sl size rows)) (hp:0<rows.length):
  ∃b off vs,a=some ⟨b,off,none⟩∧b<w.heap.size∧b∉L∧fS w b off vs∧cS L w vs rows.flatten∧len=rows.length∧∀row,row∈rows->row.length=size:=by
 cases h with
 |nil=>simp at hp
 |sl b off len cap size rows f hl hc hb hL hs kh gB=>
  refine⟨b,off,((List.range rows.length).map λi=>(List.range size).map (f i)).flatten,rfl,hb,hL,SZ (sz:=size) λi hi=>⟨by simp,λj v hj=>?_⟩,SY λi row hi=>?_,hl.symm,hs⟩
  ·have xH:j<size:=by have:=(List.getElem?_eq_some_iff.1 hj).1;simpa using this
   have e:f i j=v:=by simpa[List.getElem?_map,xH] using hj
   rw[<-e];exact kh i j om xH
  ·have gZ:=hs row (List.mem_of_getElem? hi)
   refine cS.of (by simp[gZ]) λj v c hv px=>?_
   have xH:j<size:=by have:=(List.getElem?_eq_some_iff.1 hv).1;simpa using this
   have e:f i j=v:=by simpa[List.getElem?_map,xH] using hv
   rw[<-e];exact gB i j row c hi px
theorem S1 {t ty T:TypeId} {i:TypeInfo} (ht:P.underlying t=some (.slice T)) (hi:P.info? T=some i) 
  {a:Option Addr} {m cap:Nat} (h:m<=cap) {a2:Option Addr} {c2:Nat}:
  (Builtin.append_ #[t,t] ty #[.slice a m cap,.slice a2 0 c2]).run P w= .ok (.slice a m cap) w:=by
 have hf:(Builtin.firstCells i.size 0 (.slice a2 0 c2)).run P w= .ok #[] w:=by
  cases a2 with
  |none=>simp[Builtin.firstCells]
  |some b=>exact run_firstCells_some (P:=P) (w:=w) i.size 0 b 0 c2 [] sm sm
 cases a<;>simp[Builtin.append_,run_underlying ht,sizeOf,typeInfo,hi,Builtin.lenOf,h,hf,storeCells]
theorem wP {B:Nat} {L:List Nat} {t:Nat} {v:Value} {gb:Option Nat} {rows new:List (List C)} {a2:Option Addr} {n2 c2:Nat} (hT:P.underlying t=some (.slice E)) (hE:TI P E sz bytes z) (hg:gate ops e g=true) (hd:bV n dst=true) (hz:Nat.beq z.cells.size sz=true) (fK:Nat.ble bytes 1000=true) 
  (hx:ev e x=v) (hy:ev e y= .slice a2 n2 c2) (hO:Gr B L w E sz v gb rows) (hr:bQ (gb.toList++L) w (.slice a2 n2 c2) (.sl sz new)) (h1:∀row,row∈new->∀c,c∈row->∀v,c= .val v->v.oneCell'=true)
  (hn:rows.length+new.length<100000000)
  (k:∀a' cap' g' w',Gr B L w' E sz (.slice a' (rows.length+new.length) cap') g' (rows++new)->aj gb.toList w w'->OW P n ops K rest (bM e dst (.slice a' (rows.length+new.length) cap')) w'):
  OW P n ops K (⟨dst,.call {callee:=.builtin .append,args:=#[x,y],argTypes:=#[t,t]},ty,pos,after,g⟩::rest) e w:=by
 obtain⟨xs,hR⟩:=hO.own
 have zH:bytes<=1000:=Nat.le_of_ble_eq_true fK
 by_cases hp:0<new.length
 ·obtain⟨b,off,vs,rfl,hb,rb,hc,I6,rfl,gZ⟩:=S0 hr hp
  refine Qt hT hE hg hd hz hx hR hy rfl hp gZ hc ?_ I6 hO.cC (Nat.le_trans (Nat.mul_le_mul (show rows.length+new.length<=100000000 by omega) (show bytes+1<=1001 by omega)) de) ?_
  ·refine cS.FL I6 λc hc v hv=>?_
   obtain⟨row,h2,h3⟩:=List.mem_flatten.1 hc
   exact h1 row h2 c h3 v hv
  ·intro a' cap' g' w' iT hk kz
   refine k a' cap' g' w' ⟨⟨_,iT⟩,λb hb=>?_,λx hx=>lL (hO.cC x hx) hk.size,Nat.le_trans hO.bsz hk.size⟩ hk
   rcases kz with h|h
   ·rw[h] at hb;exact hO.low b hb
   ·rw[h] at hb;cases hb;exact hO.bsz
 ·have nz:new=[]:=List.length_eq_zero_iff.1 om
  subst nz
  obtain⟨a,cap,rfl⟩:=hR.len
  have h20:n2=0:=by
   obtain⟨_,_,he,_⟩:=rC hr
   cases he;rfl
  subst h20
  have zq:rows.length<=cap:=by
   rcases hR.own.2 with⟨h,h2,_⟩|⟨_,_,_,_,h,_,h2,_⟩
   ·rw[h2];omega
   ·cases h;exact h2
  obtain⟨i,hi,_,_,_⟩:=hE.get
  have jM:=S1 (P:=P) (w:=w) (t:=t) (ty:=ty) hT hi (a:=a) (m:=rows.length) (cap:=cap) zq (a2:=a2) (c2:=c2)
  refine eQ hg hd (v:=.slice a rows.length cap) (w':=w) (by
   simp only[execOp,resolve,invoke,builtin,Sem.run_bind,Sem.run_pure,Result.andThen_ok,List.map_toArray,List.map_cons,List.map_nil,hx,hy,jM]) ?_
  have:=k a cap gb w (by simpa using hO) (aj.refl _ _)
  simpa using this
end

section
open Go Go.ChangeShapes Go.WideShapes
theorem aem {a:Addr} (h:w.cell? a=some v):a=⟨a.block,a.off,none⟩∧a.block<w.heap.size:=by
 obtain⟨b,o,s⟩:=a
 unfold World.cell? at h
 split at h
 ·rename_i c _ _ he
  cases s with
  |some s=>simp at h
  |none=>exact⟨rfl,(Array.getElem?_eq_some_iff.1 he).1⟩
 ·cases h
theorem aen {a:Addr} (h:a=⟨a.block,a.off,none⟩) (i:Nat):a.add i=⟨a.block,a.off+i,none⟩:=by rw[h];exact qM _ _ _
section
variable {H:Type} {enc:TypeId×Value->H} {P:Program} {w:World} {held:Bool}
end
end
theorem Gn (a b c:Int) (w:World):bz Tryz.prog 66 [.int .i64 a,.int .i64 b,.int .i64 c] w λv w'=>v= .bool (decide (b<=a)&&decide (a<=c))∧w=w':=by
 refine bS [.tmp 6] 15 Tryz.func66 rfl acA rfl rfl ?_
 refine W ?_
 apply oB 4 10 14 rfl oQ
 intro _
 exact oQ
 intro xx
 refine W ?_
 exact⟨_,rfl,rfl,rfl⟩
theorem aeo (c:UInt8) (w:World):bz Tryz.prog 110 [.int .u8 c.toNat] w λv w'=>v= .bool (eT c)∧w=w':=by
 refine bS [.tmp 2] 33 Tryz.func110 rfl aaH rfl rfl ?_
 refine W ?_
 apply oB 3 5 8 rfl oQ
 intro _
 exact oQ
 intro xx
 refine WZ ?_
 apply oP 7 9 16 rfl oQ
 intro _
 refine WZ ?_
 apply oB 3 12 15 rfl oQ
 intro _
 exact oQ
 intro xx
 exact oQ
 intro xx
 refine WZ ?_
 apply oP 3 17 20 rfl oQ
 intro _
 exact oQ
 intro xx
 refine WZ ?_
 apply oP 3 21 24 rfl oQ
 intro _
 exact oQ
 intro xx
 refine WZ ?_
 apply oP 3 25 28 rfl oQ
 intro _
 exact oQ
 intro xx
 refine WZ ?_
 apply oP 3 29 32 rfl oQ
 intro _
 exact oQ
 intro xx
 refine W ?_
 exact⟨_,rfl,congrArg Value.bool (Ql c),rfl⟩
def aep (L:List Nat) (s:ai) (d i:Nat) (v:Value) (w:World):Prop:=
 ∃t tv en,v= .tuple #[tv,.int .i64 en]∧bB L w tv t∧BO s.length (rT d (s.drop i)) t en
theorem aeq (s:ai) (hs:s.length<=12000):∀(d i:Nat) (L:List Nat) (w:World),d<=61->i<=s.length->(∀x,x∈L->x<w.heap.size)->
  bz Tryz.prog 72 [str s,.int .i64 (i:Int),.int .i64 ((61:Int)-(d:Int))] w λv w'=>aep L s d i v w'∧aj [] w w':=by
 intro d
 induction d with
 |zero=>
  intro i L w hd hi hL
  have hK:=aj.refl [] w
  refine kW [.cell 6 74,.tmp 7] 87 Tryz.func72 rfl IA rfl rfl rfl ?_
  refine zr<|dy aL rfl rfl rfl λw1 aI bL dk=>?_
  have hK:=hK.grow;have hK:=hK.ext aI
  refine zA<|aZ<|zr<|js (F2 _) rfl rfl<|dy aL rfl rfl rfl λw2 az dh dC=>?_
  have hK:=hK.grow;have hK:=hK.ext az;have bL:=bL.grow;have bL:=bL.ext az
  refine cJ aL rfl rfl rfl dh rfl λw3 aH dh gJ=>?_
  have hK:=hK.aD aH sx;have bL:=bL.aD aH sx
  refine aZ<|jL<|zr<|zm<|Fs rfl rfl rfl rfl rfl<|zm ?_
  apply BF 5 15 20 [15,16,17,18,19,20] (λw'=>w3=w') rfl
  intro h1
  replace h1:=jk h1
  refine W ?_
  exact mg rfl rfl
  intro h1
  replace h1:=jk h1
  refine W ?_
  exact mg rfl rfl
  rintro xx _ rfl
  refine aZ<|zc rfl (λh2=>?_) (λh2=>?_)
  refine W ?_
  refine cJ aL rfl rfl rfl bL rfl λw4 aO bL gQ=>?_
  have hK:=hK.aD aO sx
  refine W ?_
  exact⟨[_,_],⟨ga eV aL rfl bL rfl,rfl⟩,⟨.mk [] [],_,_,rfl,kU oH,rfl⟩,hK⟩
  exfalso
  simp at h2
 |succ d ih=>
  intro i L w hd hi hL
  have hK:=aj.refl [] w
  by_cases mj:i<s.length
  ·have Ce:=drop_cons (jf mj)
   have S2:=FI eT (s.drop i)
   rw[List.length_drop] at S2
   refine kW [.cell 6 74,.tmp 7] 87 Tryz.func72 rfl IA rfl rfl rfl<|zr<|dy aL rfl rfl rfl λw1 aI bL dk=>?_
   have hK:=hK.grow;have hK:=hK.ext aI
   refine zA<|aZ<|zr<|js (F2 _) rfl rfl<|dy aL rfl rfl rfl λw2 az dh dC=>?_
   have hK:=hK.grow;have hK:=hK.ext az;have bL:=bL.grow;have bL:=bL.ext az
   refine cJ aL rfl rfl rfl dh rfl λw3 aH dh gJ=>?_
   have hK:=hK.aD aH sx;have bL:=bL.aD aH sx
   refine W ?_
   apply oP 5 15 20 rfl oQ
   intro _
   exact oQ
   intro xx
   refine aZ<|zc rfl (λh2=>?_) (λh2=>?_)
   exfalso
   simp at h2
   omega
   refine W ?_
   refine j3 il rfl rfl rfl rfl (jf mj)<|Ia rfl rfl rfl rfl rfl<|aZ<|zc rfl (λh3=>?_) (λh3=>?_)
   have dL:s.getD i 0≠40:=λh=>h3 (by rw[h];rfl)
   refine W ?_
   refine eA (λk:Nat=>[(0,str s),(1,.int .i64 (k:Int)),(6,.pointer (some ⟨w.heap.size,0,none⟩)),(8,.pointer (some ⟨w1.heap.size,0,none⟩)),(9,.int .i64 (i:Int))]) (λk w'=>w'=w3∧i<=k∧k-i<=((s.drop i).takeWhile eT).length) (λk=>s.length-k) i (⟨rfl,rfl,rfl,rfl,rfl⟩) (⟨rfl,lR _,om⟩) λgg w4 e4 hI=>?_
   obtain⟨rfl,uM,Ef⟩:=hI
   have Gp:=YU s uM Ef
   refine WZ ?_
   apply oB 5 31 36 rfl oQ
   intro h4
   refine zm<|zm<|j3 il rfl rfl rfl rfl (jf om)<|aA (aeo _ _) ?_
   rintro _ _ ⟨rfl,rfl⟩
   exact oQ
   intro xx
   refine aZ<|zc rfl (λh5=>?_) (λh5=>?_)
   have dU:=Gp.2 (by simpa using h5)
   refine W ?_
   exact⟨gg+1,⟨rfl,rfl,rfl,rfl,rfl⟩,⟨rfl,om,om⟩,om⟩
   have Gq:gg-i=((s.drop i).takeWhile eT).length:=Nat.le_antisymm Ef (Nat.le_of_not_lt (λhh=>by have hx:=Gp.1 hh;rw[hx.2,Bool.and_true,decide_eq_false_iff_not] at h5;omega))
   refine W ?_
   refine BE il rfl rfl rfl (.inr ⟨_,rfl⟩) (.inr ⟨_,rfl⟩) om om<|zf kY rfl<|gd bf rfl rfl rfl dh rfl λw5 aN dh ig=>?_
   have hK:=hK.aD aN sx;have bL:=bL.aD aN sx
   refine W ?_
   refine zc rfl (λh6=>?_) (λh6=>?_)
   have hR:rT (d+1) (s.drop i)=none:=by rw[Gq,Il] at h6;show ei d _=none;rw[Ce,FK _ _ _ dL,<-Ce,iP h6]
   refine W ?_
   refine cJ aL rfl rfl rfl bL rfl λw6 bN bL kI=>?_
   have hK:=hK.aD bN sx
   refine W ?_
   exact⟨[_,_],⟨ga eV aL rfl bL rfl,rfl⟩,⟨.mk _ [],_,_,rfl,kU oH,by rw[hR];rfl⟩,hK⟩
   have hR:rT (d+1) (s.drop i)=some (.mk ((s.drop i).takeWhile eT) [],(s.drop i).dropWhile eT):=by rw[Gq,Il] at h6;show ei d _=_;rw[Ce,FK _ _ _ dL,<-Ce,iN h6]
   refine W ?_
   refine cJ aL rfl rfl rfl bL rfl λw6 bN bL kI=>?_
   have hK:=hK.aD bN sx
   refine zA<|aZ<|jZ<|⟨[_,_],⟨ga eV aL rfl bL rfl,rfl⟩,⟨.mk _ [],_,_,rfl,kU oH,?_⟩,hK⟩
   rw[hR]
   refine⟨by rw[Gq,Il],?_⟩
   rw[FH,List.length_drop,List.length_drop]
   show(gg:Int)=_
   omega
   have MF:s.getD i 0=40:=UInt8.toNat_inj.1 (by have Cf:(40:UInt8).toNat=40:=rfl;rw[Cf];omega)
   refine WZ ?_
   refine eA (λq:List aq×Nat×Option Addr×Nat×Option Nat×List Value=>[(0,str s),(1,.int .i64 (q.2.1:Int)),(2,.int .i64 ((61:Int)-((d+1:Nat):Int))),(6,.pointer (some ⟨w.heap.size,0,none⟩)),(8,.pointer (some ⟨w1.heap.size,0,none⟩))]) (λq w'=>aj [] w w'∧aJ w' w.heap.size [str [],.slice none 0 0].toArray 74∧aJ w' w1.heap.size [str [],.slice q.2.2.1 q.1.length q.2.2.2.1].toArray 74∧gO (w.heap.size::w1.heap.size::L) w' 74 2 (.slice q.2.2.1 q.1.length q.2.2.2.1) q.2.2.2.2.1 (cT q.1) q.2.2.2.2.2∧(∀b,q.2.2.2.2.1=some b->w.heap.size<=b)∧q.2.1<s.length∧i<=q.2.1∧q.1.length<=q.2.1∧w1.heap.size<w'.heap.size∧mq d (s.drop (i+1))=(mq d (s.drop (q.2.1+1))).map (λp=>(q.1++p.1,p.2))) (λq=>s.length-q.2.1) (([],i,none,0,none,[])) (⟨rfl,rfl,rfl,rfl,rfl⟩) (⟨hK,bL,dh,gO.nil _ _ _ _,sm,mj,lR _,sm,om,sm⟩) λgg w4 e4 hI=>?_
   obtain⟨acc,k,a,cc,g,xs⟩:=gg
   dsimp only at hI⊢
   obtain⟨hK,bL,dh,hO,hg,hk,uM,hak,x4,sI⟩:=hI
   have hLx:∀x,x∈g.toList++(w.heap.size::w1.heap.size::L)->x<w4.heap.size:=by intro x hx;simp at hx;rcases hx with hx|rfl|rfl|hx;exact hO.own.lt x hx;omega;omega;have h1:=hL x hx;have h2:=hK.size;omega
   refine WA ?_
   refine AF ?_
   refine zm<|mY rfl rfl rfl rfl rfl (show IntKind.i64.wrap ((61:Int)-((d+1:Nat):Int)+1)=(61:Int)-(d:Int) by rw[wrap_i64 _ om om];omega)<|aA (ih (k+1) (g.toList++(w.heap.size::w1.heap.size::L)) w4 om om hLx) ?_
   rintro v5 w5 ⟨sJ,aN⟩
   have l3:=aN.size
   refine ie aN hK bL dh hO λhK bL dh hO=>?_
   obtain⟨t,tv,en,rfl,ht,hm⟩:=sJ
   obtain⟨pa,pn,pc,rfl,eP,aP⟩:=cU ht
   subst eP
   refine W ?_
   refine dy aL rfl rfl rfl λw6 bN qp kI=>?_
   have hK:=hK.grow;have hK:=hK.ext bN;have bL:=bL.grow;have bL:=bL.ext bN;have dh:=dh.grow;have dh:=dh.ext bN;have hO:=hO.alloc bN kI;have ht:=ht.grow;have ht:=ht.ext bN
   refine cJ aL rfl rfl rfl qp rfl λw7 bW qp oX=>?_
   have hK:=hK.aD bW sx;have bL:=bL.aD bW sx;have dh:=dh.aD bW sx;have hO:=hO.aD bW sx;have ht:=ht.aD bW sx
   refine W ?_
   apply oP 5 61 66 rfl oQ
   intro _
   exact oQ
   intro xx
   refine aZ<|zc rfl (λh8=>?_) (λh8=>?_)
   have hR:rT (d+1) (s.drop i)=none:=by show ei d _=none;rw[Ce,MF,DJ,sI,YV hm (by simpa using h8) om];rfl
   refine W ?_
   refine cJ aL rfl rfl rfl bL rfl λw8 cE bL ld=>?_
   have hK:=hK.aD cE sx;have hO:=hO.aD cE sx
   refine W ?_
   exact⟨[_,_],⟨ga eV aL rfl bL rfl,rfl⟩,⟨.mk [] acc,_,_,rfl,kU (hO.done.weaken (λx hx=>by simp[hx])),by rw[hR];rfl⟩,hK⟩
   simp at h8
   obtain⟨m,rfl,Qk,MG,fM⟩:=YW hm h8.1 om
   refine W ?_
   refine fc cz aL rfl rfl λw8 cE aes ld=>la cE hK bL dh hO ht λhK bL dh hO ht=>?_
   refine Qv cz aL rfl rfl rfl rfl rfl hO (oG t) aes.all (by simp[Value.oneCell']) (ht.kj.fresh (λx hx=>.inl (Qr x hx))) ?_ ?_ ?_
   intro x hx;simp at hx;rcases hx with rfl|rfl|rfl|hx;(·omega);(·omega);(·omega);(·have h1:=hL x hx;have h2:=hK.size;omega)
   rw[ia];omega
   intro a2 nC g2 w9 fZ aB iO
   have e1:(cT acc).length+1=(acc++[t]).length:=by simp[ia]
   have e2:cT acc++[t.enc]=cT (acc++[t]):=by simp[Lh,cT]
   rw[e1] at fZ⊢
   rw[e2] at fZ
   have cV:=aB.size
   have I7:∀b,g2=some b->w.heap.size<=b:=by intro b hb;rcases iO with h|h;(·rw[h] at hb;exact hg b hb);(·rw[h] at hb;cases hb;omega)
   have hK:=hK.aD aB (λx hx=>.inr (hg x (by simpa using hx)));have bL:=bL.aD aB (hO.sep sm);have dh:=dh.aD aB (hO.sep sm)
   refine zf jv rfl<|gd DW rfl rfl rfl dh rfl λcu cB dh Cg=>?_
   have hK:=hK.aD cB sx;have bL:=bL.aD cB sx;have fZ:=fZ.aD cB sx
   refine W ?_
   refine j3 il rfl rfl rfl rfl (jf MG)<|vY rfl rfl rfl rfl rfl<|aZ<|zc rfl (λh9=>?_) (λh9=>?_)
   have AG:s.getD m 0=41:=UInt8.toNat_inj.1 (by have Cf:(41:UInt8).toNat=41:=rfl;rw[Cf];omega)
   have hR:rT (d+1) (s.drop i)=some (.mk [] (acc++[t]),s.drop (m+1)):=by show ei d _=_;rw[Ce,MF,DJ,sI,fM,iP AG];rfl
   refine W ?_
   refine cJ aL rfl rfl rfl bL rfl λeD dd bL vj=>?_
   have hK:=hK.aD dd sx;have fZ:=fZ.aD dd sx
   refine W ?_
   exact⟨[_,_],⟨ga eV aL rfl bL rfl,rfl⟩,⟨.mk [] (acc++[t]),_,_,rfl,kU (fZ.done.weaken (λx hx=>by simp[hx])),by rw[hR];exact⟨rfl,by rw[List.length_drop];omega⟩⟩,hK⟩
   have AG:s.getD m 0≠41:=λh=>h9 (by rw[h];rfl)
   refine W ?_
   refine j3 il rfl rfl rfl rfl (jf MG)<|Ia rfl rfl rfl rfl rfl<|aZ<|zc rfl (λfO=>?_) (λfO=>?_)
   have MH:s.getD m 0≠32:=λh=>fO (by rw[h];rfl)
   have hR:rT (d+1) (s.drop i)=none:=by show ei d _=_;rw[Ce,MF,DJ,sI,fM,iN AG,iN MH];rfl
   refine W ?_
   refine cJ aL rfl rfl rfl bL rfl λeD dd bL vj=>?_
   have hK:=hK.aD dd sx;have fZ:=fZ.aD dd sx
   refine W ?_
   exact⟨[_,_],⟨ga eV aL rfl bL rfl,rfl⟩,⟨.mk [] (acc++[t]),_,_,rfl,kU (fZ.done.weaken (λx hx=>by simp[hx])),by rw[hR];rfl⟩,hK⟩
   have MH:s.getD m 0=32:=UInt8.toNat_inj.1 (by have Cf:(32:UInt8).toNat=32:=rfl;rw[Cf];omega)
   refine WZ ?_
   exact⟨(acc++[t],m,a2,nC,g2,_),⟨rfl,rfl,rfl,rfl,rfl⟩,⟨hK,bL,dh,fZ.more (by intro x hx;exact .inl (by simp at hx⊢;rcases hx with hx|hx|hx<;>simp[hx])),I7,MG,by dsimp only;omega,by simp;omega,om,by rw[sI,fM,iN AG,iP MH,map_append]⟩,by dsimp only;omega⟩
  refine kW [.cell 6 74,.tmp 7] 87 Tryz.func72 rfl IA rfl rfl rfl<|zr<|dy aL rfl rfl rfl λw1 aI bL dk=>?_
  have hK:=hK.grow;have hK:=hK.ext aI
  refine zA<|aZ<|zr<|js (F2 _) rfl rfl<|dy aL rfl rfl rfl λw2 az dh dC=>?_
  have hK:=hK.grow;have hK:=hK.ext az;have bL:=bL.grow;have bL:=bL.ext az
  refine cJ aL rfl rfl rfl dh rfl λw3 aH dh gJ=>?_
  have hK:=hK.aD aH sx;have bL:=bL.aD aH sx
  refine W ?_
  apply oP 5 15 20 rfl oQ
  intro _
  exact oQ
  intro xx
  refine aZ<|zc rfl (λh2=>?_) (λh2=>?_)
  have hR:rT (d+1) (s.drop i)=none:=by rw[List.drop_of_length_le om];exact Qo d
  refine W ?_
  refine cJ aL rfl rfl rfl bL rfl λw4 aO bL gQ=>?_
  have hK:=hK.aD aO sx
  refine W ?_
  exact⟨[_,_],⟨ga eV aL rfl bL rfl,rfl⟩,⟨.mk [] [],_,_,rfl,kU oH,by rw[hR];rfl⟩,hK⟩
  exfalso
  simp at h2
  omega
theorem AH (s:ai) (L:List Nat) (w:World) (hL:∀x,x∈L->x<w.heap.size):
  bz Tryz.prog 42 [str s] w λv w'=>(∃t tv,v= .tuple #[tv,.bool (bA s).isSome]∧bB L w' tv t∧∀t',bA s=some t'->t=t')∧aj [] w w':=by
 have hK:=aj.refl [] w
 refine kW [.cell 2 74,.tmp 3] 20 Tryz.func42 rfl RT rfl rfl rfl ?_
 refine zr<|dy aL rfl rfl rfl λw1 aI aU dk=>?_
 have hK:=hK.grow;have hK:=hK.ext aI
 refine W ?_
 refine zc rfl (λh1=>?_) (λh1=>?_)
 have hp:bA s=none:=by unfold bA;rw[iP om]
 refine zr<|js (F2 _) rfl rfl<|cJ aL rfl rfl rfl aU rfl λw2 az aU dC=>?_
 have hK:=hK.aD az sx
 refine W ?_
 exact⟨[_,_],⟨ga eV aL rfl aU rfl,rfl⟩,⟨.mk [] [],_,by rw[hp];rfl,kU oH,λt' h=>by rw[hp] at h;cases h⟩,hK⟩
 refine gY<|zr<|zm<|aA (aeq s om 61 0 (w.heap.size::L) w1 om om (by intro x hx;rcases mC.1 hx with rfl|hx;(·omega);(·have:=hL x hx;omega))) ?_
 rintro v2 w2 ⟨ij,az⟩
 have dm:=az.size
 refine bI az hK aU λhK aU=>?_
 obtain⟨t,tv,en,rfl,ht,hm⟩:=ij
 obtain⟨pa,pn,pc,rfl,eP,aP⟩:=cU ht
 refine W ?_
 refine dy aL rfl rfl rfl λw3 aH aG gJ=>?_
 have hK:=hK.grow;have hK:=hK.ext aH;have aU:=aU.grow;have aU:=aU.ext aH;have ht:=ht.grow;have ht:=ht.ext aH
 refine cJ aL rfl rfl rfl aG rfl λw4 aO aG gQ=>?_
 have hK:=hK.aD aO sx;have aU:=aU.aD aO sx;have ht:=ht.aD aO sx
 refine W ?_
 refine cJ aL rfl rfl rfl aU rfl λw5 aN aU ig=>?_
 have hK:=hK.aD aN sx;have ht:=ht.aD aN sx
 refine W ?_
 have D1:=YX om hm
 exact⟨[_,_],⟨ga eV aL rfl aU rfl,rfl⟩,⟨t,_,by rw[<-D1.1];rfl,j1.fresh ht (λx hx=>.inl (by simp[hx])),D1.2⟩,hK⟩
theorem I8 (t:aq) (v:Value) (L:List Nat) (w:World) (hv:bB L w v t):bz Tryz.prog 43 [v] w λr w'=>r=str (cw t)∧aj [] w w':=by
 obtain⟨a,n,c,rfl,hn,aP⟩:=cU hv
 have hK:=aj.refl [] w
 refine bS [.tmp 2] 17 Tryz.func43 rfl acp rfl rfl ?_
 refine zr<|eH rfl λw1 aI aX dk=>bI aI hK aP λhK aP=>?_
 refine W ?_
 apply oP 5 6 11 rfl oQ
 intro _
 refine WZ ?_
 exact oQ
 intro xx
 refine aZ<|zc rfl (λh2=>?_) (λh2=>?_)
 have hh:cw t=[]:=FQ (by simp at h2;rcases h2 with h|h;(·exact .inl h);(·right;subst hn;simpa using h))
 refine W ?_
 exact⟨_,rfl,by rw[hh];rfl,hK⟩
 simp at h2
 have h0:=h2.2
 have aQ:∃p0,t.ak[0]?=some p0:=⟨t.ak[0]'om,gE om⟩
 obtain⟨p0,mz⟩:=aQ
 obtain⟨b,off,pa,pn,pc,rfl,et,eP,fM⟩:=iJ aP mz
 have hh:cw t=p0.aw:=FP h2.1 mz
 refine WI ?_
 refine zi (i:=0) cz aL rfl rfl (by rw[hn];exact(List.getElem?_eq_some_iff.1 mz).1) ?_
 refine W ?_
 exact⟨_,rfl,by rw[hh];rfl,hK⟩
theorem S3 (s:ai) (hs:s.length<9223372036854775807) (w:World):bz Tryz.prog 100 [str s] w λr w'=>r= .bool (ni s)∧w=w':=by
 refine bS [.tmp 2] 39 Tryz.func100 rfl aaA rfl rfl ?_
 refine W ?_
 refine eA (λk:Nat=>[(0,str s),(3,.int .i64 (k:Int))]) (λk w'=>w'=w∧k<=s.length∧∀j,j<k->BT s j=true) (λk=>s.length-k) (0) (⟨rfl,rfl⟩) (⟨rfl,om,by intro j hj;omega⟩) λgg w1 e1 hI=>?_
 obtain⟨rfl,hk,cL⟩:=hI
 refine W ?_
 refine zc rfl (λh1=>?_) (λh1=>?_)
 refine W ?_
 refine j3 il rfl rfl rfl rfl (jf om)<|WZ ?_
 apply oB 5 14 19 rfl oQ
 intro h2
 refine zm<|zm<|j3 il rfl rfl rfl rfl (jf om) ?_
 exact oQ
 intro xx
 refine WZ ?_
 apply oP 15 20 35 rfl oQ
 intro h3
 refine WZ ?_
 apply oB 5 23 28 rfl oQ
 intro h4
 refine zm<|zm<|j3 il rfl rfl rfl rfl (jf om) ?_
 exact oQ
 intro xx
 refine WZ ?_
 apply oB 5 29 34 rfl oQ
 intro h5
 refine zm<|zm<|j3 il rfl rfl rfl rfl (jf om) ?_
 exact oQ
 intro xx
 exact oQ
 intro xx
 refine kx rfl rfl rfl<|aZ<|zc rfl (λh6=>?_) (λh6=>?_)
 rw[Ir] at h6
 refine W ?_
 exact⟨_,rfl,by rw[QM om h6];rfl,rfl⟩
 rw[Ir] at h6
 refine W ?_
 exact⟨gg+1,⟨rfl,rfl⟩,⟨rfl,om,QO cL h6⟩,om⟩
 refine W ?_
 exact⟨_,rfl,by rw[QN (λj hj=>cL j om)];rfl,rfl⟩
def Gs (s:ai):Value:=.tuple #[.int .i64 ((numeral s).getD 0),.bool (numeral s).isSome]
theorem I9 (s:ai) (w:World):bz Tryz.prog 170 [str s] w λv w'=>v=Gs s∧w=w':=by
 refine bS [.tmp 2,.tmp 3] 57 Tryz.func170 rfl abp rfl rfl ?_
 refine W ?_
 apply oB 4 12 16 rfl oQ
 intro h1
 refine zm<|j3 (i:=0) il rfl rfl rfl rfl (jf om) ?_
 exact oQ
 intro xx
 refine W ?_
 refine ix (λ_:Unit=>[(0,str s),(4,.int .i64 (qQ s)),(5,str (er s))]) (λ_ w'=>w'=w) ?_ ?_
 refine zc rfl (λh2=>?_) (λh2=>?_)
 have hm:0<s.length∧s.getD 0 0=45:=by have Gt:=QL 45 (s.getD 0 0);simp only[show((45:UInt8).toNat:Int)=45 from rfl] at Gt;rw[Gt] at h2;simpa using h2
 refine W ?_
 refine BE (l:=1) il rfl rfl rfl (.inr ⟨_,rfl⟩) (.inl ⟨rfl,rfl⟩) om om<|zA<|aZ ?_
 exact⟨(),⟨rfl,by rw[qQ,iP hm];rfl,by have h1:er s=(s.drop 1).take (s.length-1):=by{rw[er,iP hm,List.take_of_length_le sm]};rw[h1];exact rfl⟩,rfl⟩
 have hm:¬(0<s.length∧s.getD 0 0=45):=by have Gt:=QL 45 (s.getD 0 0);simp only[show((45:UInt8).toNat:Int)=45 from rfl] at Gt;rw[Gt] at h2;simpa using h2
 refine WZ ?_
 exact⟨(),⟨rfl,by rw[qQ,iN hm];rfl,by rw[er,iN hm];exact rfl⟩,rfl⟩
 intro gu w1 e1 hI
 obtain rfl:=hI
 refine W ?_
 refine zc rfl (λh3=>?_) (λh3=>?_)
 have hn:numeral s=some 0:=by unfold numeral;rw[iP h3]
 refine W ?_
 exact⟨_,rfl,by unfold Gs;rw[hn];rfl,rfl⟩
 have nQ:=h3
 refine W ?_
 refine aA (Gn _ _ _ _) ?_
 rintro _ _ ⟨rfl,rfl⟩
 refine WZ ?_
 apply oP 4 25 29 rfl oQ
 intro h4
 simp at h4
 refine zm<|j3 (i:=0) il rfl rfl rfl rfl (jf om) ?_
 exact oQ
 intro xx
 refine aZ<|zc rfl (λh5=>?_) (λh5=>?_)
 have hn:numeral s=none:=Y8 nQ (Zc h5)
 refine W ?_
 exact⟨_,rfl,by unfold Gs;rw[hn];rfl,rfl⟩
 have hd:=Zd h5
 refine W ?_
 refine eA (λk:Nat=>[(4,.int .i64 (qQ s)),(5,str (er s)),(6,.int .i64 (val ((er s).take k):Nat)),(7,.int .i64 (k:Int))]) (λk w'=>w'=w1∧k<=(er s).length∧((er s).take k).all gW=true) (λk=>(er s).length-k) (0) (⟨rfl,rfl,rfl,rfl⟩) (⟨rfl,om,sm⟩) λgg w2 e2 hI=>?_
 obtain⟨rfl,hk,cL⟩:=hI
 refine W ?_
 refine zc rfl (λh6=>?_) (λh6=>?_)
 have dU:gg<(er s).length:=by omega
 have hv:=QJ _ cL
 have ij:val ((er s).take gg)<100:=lL hv (Nat.le_trans (Nat.pow_le_pow_right om (show((er s).take gg).length<=2 by simp;omega)) de)
 clear hv
 refine W ?_
 refine j3 il rfl rfl rfl rfl (jf dU)<|WZ ?_
 apply oP 5 40 45 rfl oQ
 intro _
 refine zm<|zm<|j3 il rfl rfl rfl rfl (jf dU) ?_
 exact oQ
 intro xx
 refine aZ<|zc rfl (λh8=>?_) (λh8=>?_)
 have hn:numeral s=none:=Y9 nQ dU (QQ h8)
 refine W ?_
 exact⟨_,rfl,by unfold Gs;rw[hn];rfl,rfl⟩
 have hc:=QR h8
 have bK:=hc.1
 have bU:=hc.2.1
 refine W ?_
 refine j3 il rfl rfl rfl rfl (jf dU)<|xK rfl rfl rfl rfl rfl (wrap_u8 _ om om)<|xL xR wo rfl rfl rfl (wrap_i64 _ om om)<|W ?_
 exact⟨gg+1,⟨rfl,rfl,by rw[Ln dU,QI];show Value.int _ _=Value.int _ _;congr 1;omega,rfl⟩,⟨rfl,om,by rw[Ln dU,List.all_append,cL];simp only[List.all_cons,hc.2.2];rfl⟩,om⟩
 have fG:(er s).take gg=er s:=List.take_of_length_le om
 rw[fG] at cL
 have hv:=QJ _ cL
 have ij:val (er s)<1000:=lL hv (Nat.le_trans (Nat.pow_le_pow_right om hd.2.1) de)
 clear hv
 rw[fG]
 have cV:=Zb s
 have hmul: -1000<qQ s*(val (er s):Int)∧qQ s*(val (er s):Int)<1000:=by rcases cV with h|h<;>rw[h]<;>omega
 refine W ?_
 exact⟨_,rfl,by unfold Gs;rw[Za nQ hd cL];rfl,rfl⟩
theorem aet (t:aq) (v:Value) (L:List Nat) (w:World) (hv:bB L w v t):bz Tryz.prog 203 [v] w λr w'=>r= .int .i64 (zK t.aw)∧aj [] w w':=by
 obtain⟨a,n,c,rfl,hn,aP⟩:=cU hv
 have hK:=aj.refl [] w
 refine bS [.tmp 2] 19 Tryz.func203 rfl abR rfl rfl ?_
 refine zr<|eH rfl λw1 aI aX dk=>?_
 have hK:=hK.ext aI
 refine W ?_
 refine aA (I9 _ _) ?_
 rintro _ _ ⟨rfl,rfl⟩
 refine W ?_
 apply oP 4 13 17 rfl oQ
 intro _
 refine zm<|aA (Gn _ _ _ _) ?_
 rintro _ _ ⟨rfl,rfl⟩
 exact oQ
 intro xx
 refine aZ<|zc rfl (λh2=>?_) (λh2=>?_)
 have hr:zK t.aw= -1:=by unfold zK;cases hn:numeral t.aw with|none=>rfl|some k=>rw[hn] at h2;simp at h2;exact iN om
 refine W ?_
 exact⟨_,rfl,by rw[hr];rfl,hK⟩
 have hr:zK t.aw=(numeral t.aw).getD 0:=by unfold zK;cases hn:numeral t.aw with|none=>rw[hn] at h2;simp at h2|some k=>rw[hn] at h2;simp at h2;exact iP om
 refine W ?_
 exact⟨_,rfl,by rw[hr];rfl,hK⟩
theorem MI:∀(m:Nat) (t:aq),t.size<=m->t.size<=100000->WF t->∀(hidden:Bool) (v:Value) (L:List Nat) (w:World),bB L w v t->
  bz Tryz.prog 138 [v,.bool hidden,.bool false] w λr w'=>r= .bool (fa hidden t)∧aj [] w w':=by
 intro m
 induction m with
 |zero=>intro t h;cases t;simp[aq.size] at h
 |succ m ih=>
  intro t hm rH cm hidden v L w hv
  obtain⟨a,n,c,rfl,hn,aP⟩:=cU hv
  have hK:=aj.refl [] w
  have ob:=wj t
  refine bS [.tmp 6] 72 Tryz.func138 rfl aa0 rfl rfl ?_
  refine zr<|eH rfl λw1 aI cQ dk=>bI aI hK aP λhK aP=>?_
  refine W ?_
  refine zc rfl (λh1=>?_) (λh1=>?_)
  refine WZ ?_
  apply oP 7 15 22 rfl oQ
  intro _
  refine WZ ?_
  apply oB 4 17 21 rfl oQ
  intro _
  refine WZ ?_
  exact oQ
  intro xx
  exact oQ
  intro xx
  refine WZ ?_
  apply oP 7 23 30 rfl oQ
  intro _
  refine zm<|zm<|Fw (t:=25) (b:=false) rfl ?_
  exact oQ
  intro xx
  refine W ?_
  exact⟨_,rfl,show Value.bool _=Value.bool _ from congrArg _ (by rw[QV h1,Bool.or_false]),hK⟩
  have ha:t.aw=[]:=Classical.not_not.1 h1
  have j8:=cm.pos ha
  have mz:=gh j8
  obtain⟨b,off,pa,pn,pc,rfl,et,eP,fM⟩:=iJ aP mz
  refine WI ?_
  refine zi (i:=0) cz aL rfl rfl (by rw[hn];exact j8)<|W ?_
  refine zc rfl (λh5=>?_) (λh5=>?_)
  refine WZ ?_
  apply oA 7 42 49 (aj [] w1) rfl oQ
  intro h6
  have hlen:t.ak.length=2:=by omega
  have mB:=gh (ps:=t.ak) (i:=1) om
  obtain⟨b1,eX,gA,rf,gm,aX,bK,sK,oY⟩:=iJ aP mB
  cases aX
  refine zf jv rfl<|zl iC rfl (cQ.at rfl)<|zi (i:=1) cz aL rfl rfl om<|zL eV aL rfl bK rfl<|zm<|aA (ih (nth t.ak 1) (by have:=kX (t:=t) (i:=1) om;omega) (by have:=kX (t:=t) (i:=1) om;omega) (cm.nth om) true _ L w1 (kV oY)) ?_
  rintro _ w2 ⟨rfl,az⟩
  have dm:=az.size
  exact oQ
  intro xx w2 az
  have hK:=hK.ext az
  refine zA<|aZ<|jZ<|⟨_,rfl,show Value.bool _=Value.bool _ from congrArg _ ?_,hK⟩
  rw[Lq ha j8 h5]
  congr 1
  exact decide_eq_decide.2 om
  have dL:=h5
  refine WZ ?_
  apply oB 3 52 55 rfl oQ
  intro _
  exact oQ
  intro xx
  refine aZ<|zc rfl (λh8=>?_) (λh8=>?_)
  have hb:=QW ha j8 dL (Zk h8)
  refine W ?_
  exact⟨_,rfl,by rw[hb];rfl,hK⟩
  have tL:(nth t.ak 0).aw=[116]∨(nth t.ak 0).aw=[99]:=Zj h8
  refine W ?_
  refine eA (λk:Nat=>[(3,.pointer (some ⟨w.heap.size,0,none⟩)),(1,.bool hidden),(2,.bool false),(8,.int .i64 (k:Int))]) (λk w'=>aj [] w w'∧aj [] w1 w'∧1<=k∧k<=t.ak.length∧(t.ak.drop 1).all (fa hidden)=(t.ak.drop k).all (fa hidden)) (λk=>t.ak.length-k) (1) (⟨rfl,rfl,rfl,rfl⟩) (⟨hK,aj.refl [] _,om,om,rfl⟩) λgg w2 e2 hI=>?_
  obtain⟨hK,aI,hk,fb,cL⟩:=hI
  refine bI aI aP cQ λaP cQ=>?_
  refine W ?_
  refine zc rfl (λh9=>?_) (λh9=>?_)
  have hp:=gh (ps:=t.ak) (i:=gg) om
  obtain⟨b1,eX,gA,rf,gm,aX,bK,sK,oY⟩:=iJ aP hp
  cases aX
  refine W ?_
  refine aA (ih (nth t.ak gg) (by have:=kX (t:=t) (i:=gg) om;omega) (by have:=kX (t:=t) (i:=gg) om;omega) (cm.nth om) hidden _ L w2 (kV oY)) ?_
  rintro _ w3 ⟨rfl,aH⟩
  have fm:=aH.size
  refine bI aH hK aI λhK aI=>?_
  refine kx rfl rfl rfl<|aZ<|zc rfl (λfO=>?_) (λfO=>?_)
  have hb:fa hidden t=false:=by rw[Ls ha j8 tL,cL,QX om,fO];rfl
  refine W ?_
  exact⟨_,rfl,by rw[hb];rfl,hK⟩
  refine W ?_
  exact⟨gg+1,⟨rfl,rfl,rfl,rfl⟩,⟨hK,aI,om,om,by rw[cL,QX om,fO];rfl⟩,om⟩
  have hb:fa hidden t=true:=by rw[Ls ha j8 tL,cL,List.drop_of_length_le om];rfl
  refine W ?_
  exact⟨_,rfl,by rw[hb];rfl,hK⟩

theorem aeu (t:aq) (hs:t.size<=100000) (cm:WF t) (z:Int) (v:Value) (L:List Nat) (w:World) (hv:bB L w v t):
  bz Tryz.prog 169 [v,.int .u8 z] w λr w'=>r= .bool (iV z t)∧aj [] w w':=by
 have cO:=hv
 obtain⟨a,n,c,rfl,hn,aP⟩:=cU hv
 have hK:=aj.refl [] w
 have Ch:=xQ t
 refine bS [.tmp 4] 39 Tryz.func169 rfl abo rfl rfl ?_
 refine zr<|eH rfl λw1 aI aU dk=>bI aI hK cO λhK cO=>?_
 refine W ?_
 refine ix (λ_:Unit=>[(2,.pointer (some ⟨w.heap.size,0,none⟩)),(7,.int .u8 z),(8,.bool (decide (z=114)||decide (z=42)))]) (λ_ w'=>w'=w1) ?_ ?_
 refine zc rfl (λh1=>?_) (λh1=>?_)
 refine WZ ?_
 exact⟨(),⟨rfl,rfl,congrArg Value.bool (zM h1)⟩,rfl⟩
 refine W ?_
 exact⟨(),⟨rfl,rfl,congrArg Value.bool (zN h1)⟩,rfl⟩
 intro gu w2 e2 hI
 obtain rfl:=hI
 refine zc rfl (λh2=>?_) (λh2=>?_)
 have hc:=zO h2
 refine W ?_
 refine aA (aet t _ L w2 cO) ?_
 rintro _ w3 ⟨rfl,aH⟩
 have fm:=aH.size
 have hK:=hK.ext aH
 refine W ?_
 exact⟨_,rfl,show Value.bool _=Value.bool _ from congrArg _ (by rw[iV,iP hc];rfl),hK⟩
 have hc:=zP h2
 refine W ?_
 refine zc rfl (λh3=>?_) (λh3=>?_)
 have bK:=h3
 refine W ?_
 refine aA (I9 _ _) ?_
 rintro _ _ ⟨rfl,rfl⟩
 refine W ?_
 exact⟨_,rfl,show Value.bool _=Value.bool _ from congrArg _ (by rw[iV,iN hc,iP bK]),hK⟩
 have bK:=h3
 refine W ?_
 refine zc rfl (λh4=>?_) (λh4=>?_)
 have bU:=h4
 refine W ?_
 refine aA (S3 _ om _) ?_
 rintro _ _ ⟨rfl,rfl⟩
 refine W ?_
 exact⟨_,rfl,show Value.bool _=Value.bool _ from congrArg _ (by rw[iV,iN hc,iN bK,iP bU]),hK⟩
 have bU:=h4
 refine W ?_
 refine zc rfl (λh5=>?_) (λh5=>?_)
 have dO:=h5
 refine W ?_
 refine aA (I8 t _ L w2 cO) ?_
 rintro _ w3 ⟨rfl,aH⟩
 have fm:=aH.size
 refine cN aH hK cO aU λhK cO aU=>?_
 refine WZ ?_
 apply oA 3 33 36 (aj [] w3) rfl oQ
 intro _
 refine W ?_
 refine aA (MI t.size t (lR _) hs cm false _ L w3 cO) ?_
 rintro _ w4 ⟨rfl,aO⟩
 have fE:=aO.size
 exact oQ
 intro xx w4 aO
 have hK:=hK.ext aO
 refine W ?_
 exact⟨_,rfl,show Value.bool _=Value.bool _ from congrArg _ (by rw[iV,iN hc,iN bK,iN bU,iP dO]),hK⟩
 have dO:=h5
 refine W ?_
 refine aA (MI t.size t (lR _) hs cm false _ L w2 cO) ?_
 rintro _ w3 ⟨rfl,aH⟩
 have fm:=aH.size
 have hK:=hK.ext aH
 refine W ?_
 exact⟨_,rfl,show Value.bool _=Value.bool _ from congrArg _ (by rw[iV,iN hc,iN bK,iN bU,iN dO]),hK⟩
theorem aev (h:ai) (w:World):bz Tryz.prog 168 [str h] w λr w'=>r=str (shapeOf h)∧w=w':=by
 refine bS [.tmp 2] 25 Tryz.func168 rfl abn rfl rfl ?_
 refine W ?_
 refine zc rfl (λh1=>?_) (λh1=>?_)
 have hc:=h1
 refine W ?_
 exact⟨_,rfl,show str _=str _ from congrArg _ (by rw[shapeOf,iP hc]),rfl⟩
 have hc:=h1
 refine W ?_
 refine ix (λ_:Unit=>[(3,str h),(6,.bool (decide (h=[109,111,118])||decide (h=[111,112,101,110])))]) (λ_ w'=>w'=w) ?_ ?_
 refine zc rfl (λh2=>?_) (λh2=>?_)
 refine WZ ?_
 exact⟨(),⟨rfl,congrArg Value.bool (zM h2)⟩,rfl⟩
 refine W ?_
 exact⟨(),⟨rfl,congrArg Value.bool (zN h2)⟩,rfl⟩
 intro gu w1 e1 hI
 obtain rfl:=hI
 refine zc rfl (λh3=>?_) (λh3=>?_)
 have bK:=zO h3
 refine W ?_
 exact⟨_,rfl,show str _=str _ from congrArg _ (by rw[shapeOf,iN hc,iP bK]),rfl⟩
 have bK:=zP h3
 refine W ?_
 refine ix (λ_:Unit=>[(3,str h),(9,.bool (decide (h=[97,100,100])||decide (h=[115,117,98])||decide (h=[109,117,108])))]) (λ_ w'=>w'=w1) ?_ ?_
 refine zc rfl (λh4=>?_) (λh4=>?_)
 refine WZ ?_
 exact⟨(),⟨rfl,congrArg Value.bool (Q0 h4)⟩,rfl⟩
 have fx:=h4
 refine W ?_
 refine zc rfl (λh5=>?_) (λh5=>?_)
 refine WZ ?_
 exact⟨(),⟨rfl,congrArg Value.bool (Q1 fx h5)⟩,rfl⟩
 refine W ?_
 exact⟨(),⟨rfl,congrArg Value.bool (Q2 fx h5)⟩,rfl⟩
 intro gu w2 e2 hI
 obtain rfl:=hI
 refine zc rfl (λh6=>?_) (λh6=>?_)
 have bU:=Q3 h6
 refine W ?_
 exact⟨_,rfl,show str _=str _ from congrArg _ (by rw[shapeOf,iN hc,iN bK,iP bU]),rfl⟩
 have bU:=Q4 h6
 refine W ?_
 refine zc rfl (λh7=>?_) (λh7=>?_)
 have dO:=h7
 refine W ?_
 exact⟨_,rfl,show str _=str _ from congrArg _ (by rw[shapeOf,iN hc,iN bK,iN bU,iP dO]),rfl⟩
 have dO:=h7
 refine W ?_
 refine zc rfl (λh8=>?_) (λh8=>?_)
 have jx:=h8
 refine W ?_
 exact⟨_,rfl,show str _=str _ from congrArg _ (by rw[shapeOf,iN hc,iN bK,iN bU,iN dO,iP jx]),rfl⟩
 have jx:=h8
 refine W ?_
 refine ix (λ_:Unit=>[(3,str h),(17,.bool (decide (h=[108,97,98])||decide (h=[122,101,114,111])))]) (λ_ w'=>w'=w2) ?_ ?_
 refine zc rfl (λh9=>?_) (λh9=>?_)
 refine WZ ?_
 exact⟨(),⟨rfl,congrArg Value.bool (zM h9)⟩,rfl⟩
 refine W ?_
 exact⟨(),⟨rfl,congrArg Value.bool (zN h9)⟩,rfl⟩
 intro gu w3 e3 hI
 obtain rfl:=hI
 refine zc rfl (λfO=>?_) (λfO=>?_)
 have j9:=zO fO
 refine W ?_
 exact⟨_,rfl,show str _=str _ from congrArg _ (by rw[shapeOf,iN hc,iN bK,iN bU,iN dO,iN jx,iP j9]),rfl⟩
 have j9:=zP fO
 refine W ?_
 refine zc rfl (λoU=>?_) (λoU=>?_)
 have qq:=oU
 refine W ?_
 exact⟨_,rfl,show str _=str _ from congrArg _ (by rw[shapeOf,iN hc,iN bK,iN bU,iN dO,iN jx,iN j9,iP qq]),rfl⟩
 have qq:=oU
 refine W ?_
 refine ix (λ_:Unit=>[(3,str h),(22,.bool (decide (h=[106,117,109,112])||decide (h=[104,97,108,116])))]) (λ_ w'=>w'=w3) ?_ ?_
 refine zc rfl (λkC=>?_) (λkC=>?_)
 refine WZ ?_
 exact⟨(),⟨rfl,congrArg Value.bool (zM kC)⟩,rfl⟩
 refine W ?_
 exact⟨(),⟨rfl,congrArg Value.bool (zN kC)⟩,rfl⟩
 intro gu w4 e4 hI
 obtain rfl:=hI
 refine zc rfl (λoV=>?_) (λoV=>?_)
 have AI:=zO oV
 refine W ?_
 exact⟨_,rfl,show str _=str _ from congrArg _ (by rw[shapeOf,iN hc,iN bK,iN bU,iN dO,iN jx,iN j9,iN qq,iP AI]),rfl⟩
 have AI:=zP oV
 refine W ?_
 exact⟨_,rfl,show str _=str _ from congrArg _ (by rw[shapeOf,iN hc,iN bK,iN bU,iN dO,iN jx,iN j9,iN qq,iN AI]),rfl⟩
theorem S4 (t:aq) (hs:t.size<=100000) (cm:WF t) (v:Value) (L:List Nat) (w:World) (hv:bB L w v t):
  bz Tryz.prog 139 [v] w λr w'=>r= .bool (lr t)∧aj [] w w':=by
 have cO:=hv
 obtain⟨a,n,c,rfl,hn,aP⟩:=cU hv
 have hK:=aj.refl [] w
 have Ch:=wj t
 have nD:=Zo (cw t)
 refine bS [.tmp 2] 67 Tryz.func139 rfl aa1 rfl rfl ?_
 refine zr<|eH rfl λw1 aI aX dk=>cN aI hK aP cO λhK aP cO=>?_
 refine W ?_
 refine aA (I8 t _ L w1 cO) ?_
 rintro _ w2 ⟨rfl,az⟩
 have dm:=az.size
 refine cN az hK aP aX λhK aP aX=>?_
 refine aA (aev _ _) ?_
 rintro _ _ ⟨rfl,rfl⟩
 refine W ?_
 refine zc rfl (λh1=>?_) (λh1=>?_)
 refine W ?_
 exact⟨_,rfl,by rw[Q6 h1];rfl,hK⟩
 have dL:=h1
 refine WZ ?_
 apply oB 8 14 22 rfl oQ
 intro h2
 refine WZ ?_
 exact oQ
 intro xx
 refine WZ ?_
 apply oP 5 23 28 rfl oQ
 intro _
 refine WZ ?_
 exact oQ
 intro xx
 refine aZ<|zc rfl (λh4=>?_) (λh4=>?_)
 have hb:=(Q5 hn).symm.trans h4
 refine W ?_
 exact⟨_,rfl,by rw[Lw hb];rfl,hK⟩
 have hb:=(Q5 hn).symm.trans h4
 have h2:=Zn hb
 have qf:=Lu dL
 refine W ?_
 refine eA (λk:Nat=>[(1,.pointer (some ⟨w.heap.size,0,none⟩)),(3,str (shapeOf (cw t))),(4,.int .i64 (k:Int))]) (λk w'=>aj [] w w'∧aj [] w2 w'∧1<=k∧k<=t.ak.length∧∀i,i<k->1<=i->tH t i=true) (λk=>t.ak.length-k) (1) (⟨rfl,rfl,rfl⟩) (⟨hK,aj.refl [] _,om,om,by intro i hi h1;omega⟩) λgg w3 e3 hI=>?_
 obtain⟨hK,aI,hk,fb,cL⟩:=hI
 refine bI aI aP aX λaP aX=>?_
 refine W ?_
 refine zc rfl (λh5=>?_) (λh5=>?_)
 have hp:=gh (ps:=t.ak) (i:=gg) om
 obtain⟨b,off,pa,pn,pc,rfl,hc,eP,fM⟩:=iJ aP hp
 have mZ:=List.length_pos_iff.2 dL
 refine WZ ?_
 apply k8 dj 14 (rA 36 14) (rA 36 14) [[],[0],[],[1,2],[3],[],[],[],[7],[6,8],[9],[5,10],[4,11],[12]] [It.v _,It.v _,It.v _,It.v _,It.v _,It.v _,It.v _,It.v _,It.v _,It.v _,It.v _,It.v _,It.v _,It.v (.bool (!tH t gg))] de rfl
 intro wd aC
 refine VA ?_
 refine vk aC (λx w4 aO=>?_) ?_
 refine Y4 rfl rfl rfl rfl (show(if((shapeOf (cw t)).length:Int)<(gg:Int) then((shapeOf (cw t)).length:Int) else(gg:Int))=((min gg (shapeOf (cw t)).length:Nat):Int) from by split<;>omega) ?_
 exact pv
 refine vk aC (λx w4 aO=>?_) ?_
 refine xK rfl rfl rfl rfl rfl (show IntKind.i64.wrap (((min gg (shapeOf (cw t)).length:Nat):Int)-1)=((min gg (shapeOf (cw t)).length-1:Nat):Int) from by rw[wrap_i64 _ om om];omega) ?_
 exact pv
 refine vk aC (λx w4 aO=>?_) ?_
 refine j3 il rfl rfl rfl rfl (jf om) ?_
 exact pv
 refine vk aC (λx w4 aO=>?_) ?_
 have fM:=fM.ext aO
 refine aA (aeu (nth t.ak gg) (by have:=kX (t:=t) (i:=gg) om;omega) (cm.nth om) _ _ L w4 (kV fM)) ?_
 rintro _ w5 ⟨rfl,aN⟩
 have l3:=aN.size
 exact pk aN
 exact VZ
 intro x oZ jy
 refine bI jy hK aI λhK aI=>?_
 change OW _ _ _ _ [] (bo (bj _ x _) (zZ 36 [_,_,_,_,_,_,_,_,_,_,_,_,_,_])) _
 refine aZ<|zc rfl (λh6=>?_) (λh6=>?_)
 have hq:tH t gg=false:=by simpa using h6
 refine W ?_
 exact⟨_,rfl,by rw[Zp om hk hq];rfl,hK⟩
 have hq:tH t gg=true:=by simpa using h6
 refine W ?_
 exact⟨gg+1,⟨rfl,rfl,rfl⟩,⟨hK,aI,om,om,by intro i hi h1;rcases Nat.lt_or_ge i gg with h|h;exact cL i h h1;rw[show i=gg by omega];exact hq⟩,om⟩
 have aU:=Zq dL hb (λi hi=>cL i om)
 have mz:=gh qf.2.1
 obtain⟨b,off,pa,pn,pc,rfl,et,eP,fM⟩:=iJ aP mz
 refine WI ?_
 refine zi (i:=0) cz aL rfl rfl (by rw[hn];exact qf.2.1)<|W ?_
 refine zc rfl (λh7=>?_) (λh7=>?_)
 have hg:cw t=[103,101,116]:=qf.2.2.trans h7
 have Ci:=Zm hb hg
 have Eg:=gh (ps:=t.ak) (i:=3) om
 obtain⟨b1,eX,gA,rf,gm,fH,bK,sK,oY⟩:=iJ aP Eg
 cases fH
 refine zr<|zf jv rfl<|zl iC rfl (aX.at rfl)<|zi (i:=3) cz aL rfl rfl om<|zf kY rfl<|zl gD rfl (bK 0 _ rfl)<|aA (I9 _ _) ?_
 rintro _ _ ⟨rfl,rfl⟩
 refine W ?_
 exact⟨_,rfl,show Value.bool _=Value.bool _ from congrArg _ (by rw[aU,show decide (cw t≠[103,101,116])=false from dF (λh=>h hg),Bool.false_or]),hK⟩
 have hg:cw t≠[103,101,116]:=λh=>h7 (qf.2.2.symm.trans h)
 refine W ?_
 exact⟨_,rfl,by rw[aU,dT hg];rfl,hK⟩
theorem aew (s:ai) (w:World):bz Tryz.prog 101 [str s] w λr w'=>r= .bool (sn s)∧aj [] w w':=by
 have hK:=aj.refl [] w
 refine bS [.tmp 2] 15 Tryz.func101 rfl aaB rfl rfl ?_
 refine W ?_
 refine aA (AH s [] w sm) ?_
 rintro v1 w1 ⟨fY,aI⟩
 have cV:=aI.size
 have hK:=hK.ext aI
 obtain⟨t,tv,rfl,ht,rL⟩:=fY
 obtain⟨pa,pn,pc,rfl,eP,aP⟩:=cU ht
 refine W ?_
 refine dy aL rfl rfl rfl λw2 az cQ dC=>?_
 have hK:=hK.grow;have hK:=hK.ext az;have ht:=ht.grow;have ht:=ht.ext az
 refine cJ aL rfl rfl rfl cQ rfl λw3 aH cQ gJ=>?_
 have hK:=hK.aD aH sx;have ht:=ht.aD aH sx
 refine W ?_
 apply oA 3 11 14 (aj [] w3) rfl oQ
 intro h1
 obtain⟨t',nP⟩:=Option.isSome_iff_exists.1 h1
 have x5:=rL t' nP
 have cm:=tG nP
 have fC:=zJ nP
 rw[<-x5] at cm fC
 refine W ?_
 refine aA (MI t.size t (lR _) om cm false _ _ w3 ht) ?_
 rintro _ w4 ⟨rfl,aO⟩
 have fE:=aO.size
 exact oQ
 intro xx w4 aO
 have hK:=hK.ext aO
 refine W ?_
 exact⟨_,rfl,show Value.bool _=Value.bool _ from congrArg _ (Is rL),hK⟩
theorem Gu (s:ai) (w:World):bz Tryz.prog 102 [str s] w λr w'=>r= .bool (sq s)∧aj [] w w':=by
 have hK:=aj.refl [] w
 refine bS [.tmp 2] 15 Tryz.func102 rfl aaC rfl rfl ?_
 refine W ?_
 refine aA (AH s [] w sm) ?_
 rintro v1 w1 ⟨fY,aI⟩
 have cV:=aI.size
 have hK:=hK.ext aI
 obtain⟨t,tv,rfl,ht,rL⟩:=fY
 obtain⟨pa,pn,pc,rfl,eP,aP⟩:=cU ht
 refine W ?_
 refine dy aL rfl rfl rfl λw2 az cQ dC=>?_
 have hK:=hK.grow;have hK:=hK.ext az;have ht:=ht.grow;have ht:=ht.ext az
 refine cJ aL rfl rfl rfl cQ rfl λw3 aH cQ gJ=>?_
 have hK:=hK.aD aH sx;have ht:=ht.aD aH sx
 refine W ?_
 apply oA 3 11 14 (aj [] w3) rfl oQ
 intro h1
 obtain⟨t',nP⟩:=Option.isSome_iff_exists.1 h1
 have x5:=rL t' nP
 have cm:=tG nP
 have fC:=zJ nP
 rw[<-x5] at cm fC
 refine W ?_
 refine aA (S4 t om cm _ _ w3 ht) ?_
 rintro _ w4 ⟨rfl,aO⟩
 have fE:=aO.size
 exact oQ
 intro xx w4 aO
 have hK:=hK.ext aO
 refine W ?_
 exact⟨_,rfl,show Value.bool _=Value.bool _ from congrArg _ (Is rL),hK⟩
theorem Ja (s:ai) (w:World):bz Tryz.prog 103 [str s] w λr w'=>r= .bool (DO s)∧aj [] w w':=by
 have hK:=aj.refl [] w
 refine bS [.tmp 2] 31 Tryz.func103 rfl aaD rfl rfl ?_
 refine W ?_
 refine aA (AH s [] w sm) ?_
 rintro v1 w1 ⟨fY,aI⟩
 have cV:=aI.size
 have hK:=hK.ext aI
 obtain⟨t,tv,rfl,ht,rL⟩:=fY
 obtain⟨pa,pn,pc,rfl,eP,aP⟩:=cU ht
 refine W ?_
 refine dy aL rfl rfl rfl λw2 az cQ dC=>?_
 have hK:=hK.grow;have hK:=hK.ext az;have ht:=ht.grow;have ht:=ht.ext az;have aP:=aP.grow;have aP:=aP.ext az
 refine cJ aL rfl rfl rfl cQ rfl λw3 aH cQ gJ=>?_
 have hK:=hK.aD aH sx;have ht:=ht.aD aH sx;have aP:=aP.aD aH sx
 refine W ?_
 apply oA 3 11 14 (aj [] w3) rfl oQ
 intro h1
 obtain⟨t',nP⟩:=Option.isSome_iff_exists.1 h1
 have x5:=rL t' nP
 have cm:=tG nP
 have fC:=zJ nP
 rw[<-x5] at cm fC
 refine W ?_
 refine aA (S4 t om cm _ _ w3 ht) ?_
 rintro _ w4 ⟨rfl,aO⟩
 have fE:=aO.size
 exact oQ
 intro xx w4 aO
 refine cN aO hK aP cQ λhK aP cQ=>?_
 refine WZ ?_
 apply oB 15 15 30 rfl oQ
 intro h2
 simp only[aE] at h2
 have hq:=Zr h2.2
 have mz:=gh hq
 obtain⟨b,off,x6,pn0,ya,rfl,et,an9,fM⟩:=iJ aP mz
 refine WI ?_
 refine zi (i:=0) cz aL rfl rfl (by rw[eP];exact hq)<|WZ ?_
 apply oP 7 22 29 rfl oQ
 intro _
 refine WI ?_
 refine zi (i:=0) cz aL rfl rfl (by rw[eP];exact hq)<|WZ ?_
 exact oQ
 intro xx
 exact oQ
 intro xx
 refine W ?_
 exact⟨_,rfl,show Value.bool _=Value.bool _ from congrArg _ (by rw[Bool.and_assoc];exact Is (f:=Iv) rL),hK⟩
theorem aex (bs:List Bk) (hb:bs.length<9223372036854775807) (l:ai) (v:Value) (L:List Nat) (w:World) (hv:nR L w v bs):
  bz Tryz.prog 65 [v,str l] w λr w'=>r= .int .i64 (oI bs l)∧w=w':=by
 obtain⟨a,n,c,rfl,hn⟩:=zG hv
 refine bS [.tmp 4] 20 Tryz.func65 rfl acz rfl rfl ?_
 refine W ?_
 refine eA (λk:Nat=>[(0,.slice a n c),(1,str l),(5,.int .i64 (k:Int))]) (λk w'=>w'=w∧k<=bs.length∧∀i,i<k->(bR bs i).aM≠l) (λk=>bs.length-k) (0) (⟨rfl,rfl,rfl⟩) (⟨rfl,om,by intro i hi;omega⟩) λgg w1 e1 hI=>?_
 obtain⟨rfl,hk,cL⟩:=hI
 refine W ?_
 refine zc rfl (λh1=>?_) (λh1=>?_)
 have hg:=pC (bs:=bs) (i:=gg) om
 obtain⟨b,off,a1,n1,c1,a2,n2,c2,rfl,hc,fx,eU,cV,dm⟩:=BQ hv hg
 refine W ?_
 refine zc rfl (λh2=>?_) (λh2=>?_)
 have hf:=Q7 om cL h2
 refine W ?_
 exact⟨_,rfl,by rw[hf];rfl,rfl⟩
 refine W ?_
 exact⟨gg+1,⟨rfl,rfl,rfl⟩,⟨rfl,om,by intro i hi;rcases Nat.lt_or_ge i gg with h|h;exact cL i h;rw[show i=gg by omega];exact h2⟩,om⟩
 have hf:=Zt (λi hi=>cL i om)
 refine W ?_
 exact⟨_,rfl,by rw[hf];rfl,rfl⟩
theorem aey (k:Bk) (hl:k.aM.length<1000000000) (fx:k.bY.length<1000000000) (eU:k.code.length<1000000000) (v:Value) (L:List Nat) (w:World) (hv:qP L w v k):
  bz Tryz.prog 64 [v] w λr w'=>r= .bool (lZ k)∧aj [] w w':=by
 obtain⟨a1,n1,c1,a2,n2,c2,rfl,oW,mo,cV,dm⟩:=DK hv
 have hK:=aj.refl [] w
 refine bS [.tmp 2] 65 Tryz.func64 rfl acy rfl rfl ?_
 refine zr<|eH rfl λw1 aI aX dk=>cN aI hK cV dm λhK cV dm=>?_
 refine W ?_
 refine aA (S3 _ om _) ?_
 rintro _ _ ⟨rfl,rfl⟩
 refine WZ ?_
 apply oP 5 9 14 rfl oQ
 intro _
 refine WZ ?_
 exact oQ
 intro xx
 refine WZ ?_
 apply oP 6 15 21 rfl oQ
 intro _
 refine W ?_
 refine aA (Gn _ _ _ _) ?_
 rintro _ _ ⟨rfl,rfl⟩
 exact oQ
 intro xx
 refine aZ<|zc rfl (λh3=>?_) (λh3=>?_)
 rw[Iw oW mo] at h3
 have hb:=Q8 (b:=k) (QZ h3)
 refine W ?_
 exact⟨_,rfl,by rw[hb];rfl,hK⟩
 rw[Iw oW mo] at h3
 have hb:(ni k.aM&&decide (k.bY.length<=40)&&(decide (1<=k.code.length)&&decide (k.code.length<=80)))=true:=QY h3
 refine W ?_
 refine eA (λi:Nat=>[(1,.pointer (some ⟨w.heap.size,0,none⟩)),(3,.int .i64 (i:Int))]) (λi w'=>aj [] w w'∧aj [] w1 w'∧i<=k.bY.length∧∀j,j<i->sn (bX k.bY j)=true) (λi=>k.bY.length-i) (0) (⟨rfl,rfl⟩) (⟨hK,aj.refl [] _,om,by intro i hi;omega⟩) λgg w2 e2 hI=>?_
 obtain⟨hK,aI,hk,cL⟩:=hI
 refine cN aI cV dm aX λcV dm aX=>?_
 refine W ?_
 refine zc rfl (λh4=>?_) (λh4=>?_)
 have hg:=km (xs:=k.bY) (i:=gg) om
 obtain⟨b,off,rfl,hc⟩:=pB cV hg
 refine W ?_
 refine aA (aew _ w2) ?_
 rintro _ w3 ⟨rfl,aH⟩
 have fm:=aH.size
 refine bI aH hK aI λhK aI=>?_
 refine kx rfl rfl rfl<|aZ<|zc rfl (λh5=>?_) (λh5=>?_)
 have hq:=Q9 (b:=k) (i:=gg) om (by simpa using h5)
 refine W ?_
 exact⟨_,rfl,by rw[hq];rfl,hK⟩
 refine W ?_
 exact⟨gg+1,⟨rfl,rfl⟩,⟨hK,aI,om,by intro i hi;rcases Nat.lt_or_ge i gg with h|h;exact cL i h;rw[show i=gg by omega];simpa using h5⟩,om⟩
 have MJ:∀i,i<k.bY.length->sn (bX k.bY i)=true:=λi hi=>cL i om
 clear cL aI hk
 refine W ?_
 refine eA (λi:Nat=>[(1,.pointer (some ⟨w.heap.size,0,none⟩)),(4,.int .i64 (i:Int))]) (λi w'=>aj [] w w'∧aj [] w2 w'∧i<=k.code.length∧∀j,j<i->rF k.code j=true) (λi=>k.code.length-i) (0) (⟨rfl,rfl⟩) (⟨hK,aj.refl [] _,om,by intro i hi;omega⟩) λgg w3 e3 hI=>?_
 obtain⟨hK,aI,hk,cL⟩:=hI
 refine bI aI dm aX λdm aX=>?_
 refine W ?_
 refine zc rfl (λh6=>?_) (λh6=>?_)
 have hg:=km (xs:=k.code) (i:=gg) om
 obtain⟨b,off,rfl,hc⟩:=pB dm hg
 refine W ?_
 refine D8 [43,44,45,46,47,48,49,50,51,52,53,54,55,56,57,58,59,60,61,62,63,64] [(64,.bool (!sq (bX k.code gg)||(DO (bX k.code gg) !=decide ((gg:Int)=(n2:Int)-1))))] ?_ ?_
 rcases bE (!sq (bX k.code gg)) with iD|iD
 apply k8 dj 22 (rA 43 22) (rA 43 22) [[],[0],[],[1,2],[3],[4],[5],[6],[7],[7,8],[7],[7,9,10],[7,11],[7,12],[7],[7],[7,15],[7,16],[7,17],[7,14,18],[7,13,19],[7,20]] [It.v _,It.v _,It.v _,It.v _,It.v _,It.v _,It.v _,It.v (.bool true),It.v _,It.v _,It.v _,It.v _,It.v _,It.v _,It.v _,It.v _,It.v _,It.v _,It.v _,It.v _,It.v _,It.v _] de rfl
 intro wd aC
 refine VA ?_
 refine vk aC (λx w4 aO=>?_) ?_
 refine aA (Gu _ w4) ?_
 rintro _ w5 ⟨rfl,aN⟩
 have l3:=aN.size
 exact pk aN
 refine VA ?_
 refine vc (λx w4 aO=>?_) ?_
 refine WZ ?_
 exact pv (by exact congrArg Value.bool iD)
 exact VZ
 intro x oZ jy
 change OW _ _ _ _ [] (bo (bj _ x _) (zZ 43 [_,_,_,_,_,_,_,_,_,_,_,_,_,_,_,_,_,_,_,_,_,_])) _
 refine W ?_
 exact kE jy
 apply k8 dj 22 (rA 43 22) (rA 43 22) [[],[0],[],[1,2],[3],[4],[5],[6],[7],[7,8],[7],[7,9,10],[7,11],[7,12],[7],[7],[7,15],[7,16],[7,17],[7,14,18],[7,13,19],[7,20]] [It.v _,It.v _,It.v _,It.v _,It.v _,It.v _,It.v _,It.v (.bool false),It.v _,It.v _,It.v _,It.v _,It.v _,It.v _,It.v _,It.v _,It.v _,It.v _,It.v _,It.v _,It.v _,It.v _] de rfl
 intro wd aC
 refine VA ?_
 refine vk aC (λx w4 aO=>?_) ?_
 refine aA (Gu _ w4) ?_
 rintro _ w5 ⟨rfl,aN⟩
 have l3:=aN.size
 exact pk aN
 refine VA ?_
 refine vc (λx w4 aO=>?_) ?_
 refine WZ ?_
 exact pv (by exact congrArg Value.bool iD)
 refine VA ?_
 refine vk aC (λx w4 aO=>?_) ?_
 refine aA (Ja _ w4) ?_
 rintro _ w5 ⟨rfl,aN⟩
 have l3:=aN.size
 exact pk aN
 exact VZ
 intro x oZ jy
 change OW _ _ _ _ [] (bo (bj _ x _) (zZ 43 [_,_,_,_,_,_,_,_,_,_,_,_,_,_,_,_,_,_,_,_,_,_])) _
 refine W ?_
 exact kE jy
 intro x oZ jy
 refine bI jy hK aI λhK aI=>?_
 refine zc rfl (λh7=>?_) (λh7=>?_)
 rw[Ly mo om] at h7
 have hq:=Ra (b:=k) (i:=gg) om (by simpa using h7)
 refine W ?_
 exact⟨_,rfl,by rw[hq];rfl,hK⟩
 rw[Ly mo om] at h7
 refine W ?_
 exact⟨gg+1,⟨rfl,rfl⟩,⟨hK,aI,om,by intro i hi;rcases Nat.lt_or_ge i gg with h|h;exact cL i h;rw[show i=gg by omega];simpa using h7⟩,om⟩
 have hq:=Rb hb MJ (λi hi=>cL i om)
 refine W ?_
 exact⟨_,rfl,by rw[hq];rfl,hK⟩
theorem S5 (bs:List Bk) (hb:tI bs) (v:Value) (L:List Nat) (w:World) (hv:nR L w v bs):
  bz Tryz.prog 33 [v] w λr w'=>r= .bool (jt bs)∧aj [] w w':=by
 obtain⟨a,n,c,rfl,hn⟩:=zG hv
 have hK:=aj.refl [] w
 have iq:=hb.1
 refine bS [.tmp 2] 45 Tryz.func33 rfl acg rfl rfl ?_
 refine W ?_
 refine eA (λi:Nat=>[(0,.slice a n c),(3,.int .i64 (i:Int))]) (λi w'=>aj [] w w'∧i<=bs.length∧∀j,j<i->lZ (bR bs j)=true∧oI bs (bR bs j).aM=(j:Int)) (λi=>bs.length-i) (0) (⟨rfl,rfl⟩) (⟨hK,om,by intro i hi;omega⟩) λgg w1 e1 hI=>?_
 obtain⟨hK,hk,cL⟩:=hI
 have hv:=hv.ext hK
 refine W ?_
 refine zc rfl (λh1=>?_) (λh1=>?_)
 have hg:=pC (bs:=bs) (i:=gg) om
 obtain⟨b,off,a1,n1,c1,a2,n2,c2,rfl,hc,fx,eU,cV,dm⟩:=BQ hv hg
 have qt:=hb.2 gg om
 refine W ?_
 refine aA (aey (bR bs gg) qt.1 qt.2.1 qt.2.2 _ _ w1 (BP cV dm)) ?_
 rintro _ w2 ⟨rfl,az⟩
 have dm:=az.size
 refine cN az hK hv hc λhK hv hc=>?_
 refine WZ ?_
 apply oP 10 16 26 rfl oQ
 intro h2
 refine zm<|zm<|zm<|zi iL fV rfl rfl om<|zf LS rfl<|zl gD rfl (hc 0 _ rfl)<|aA (aex bs om _ _ _ _ hv) ?_
 rintro _ _ ⟨rfl,rfl⟩
 exact oQ
 intro xx
 refine aZ<|zc rfl (λh3=>?_) (λh3=>?_)
 have hq:=Rc (bs:=bs) (i:=gg) om (λhh=>by rw[hh.1,hh.2] at h3;simp at h3)
 refine W ?_
 exact⟨_,rfl,by rw[hq];rfl,hK⟩
 simp only[Bool.or_eq_false_iff,Bool.not_eq_false',decide_eq_false_iff_not,ne_eq,Classical.not_not] at h3
 refine W ?_
 exact⟨gg+1,⟨rfl,rfl⟩,⟨hK,om,by intro i hi;rcases Nat.lt_or_ge i gg with h|h;exact cL i h;rw[show i=gg by omega];exact h3⟩,om⟩
 have hq:=Rd (λi hi=>cL i om)
 clear cL
 refine W ?_
 refine aA (Gn _ _ _ _) ?_
 rintro _ _ ⟨rfl,rfl⟩
 refine WZ ?_
 apply oB 6 30 36 rfl oQ
 intro h4
 simp at h4
 have h0:=pC (bs:=bs) (i:=0) om
 obtain⟨b,off,a1,n1,c1,a2,n2,c2,rfl,hc,fx,eU,cV,dm⟩:=BQ hv h0
 refine zm<|zi (i:=0) iL fV rfl rfl om<|zf LS rfl<|zl gD rfl (hc 0 _ rfl) ?_
 exact oQ
 intro xx
 refine WZ ?_
 apply oB 7 37 44 rfl oQ
 intro h5
 simp at h5
 have h0:=pC (bs:=bs) (i:=0) om
 obtain⟨b,off,a1,n1,c1,a2,n2,c2,rfl,hc,fx,eU,cV,dm⟩:=BQ hv h0
 subst fx
 refine zm<|zi (i:=0) iL fV rfl rfl om<|zf LU rfl<|zl tK rfl (hc 1 _ rfl) ?_
 exact oQ
 intro xx
 refine W ?_
 exact⟨_,rfl,show Value.bool _=Value.bool _ from congrArg _ (by rw[hq];exact Zu hn (λ_=>rfl)),hK⟩
theorem aez (bs:List Bk) (hb:tI bs) (v:Value) (L:List Nat) (w:World) (hv:nR L w v bs):
  bz Tryz.prog 9 [v] w λr w'=>r= .int .i64 (BU bs)∧aj [] w w':=by
 obtain⟨a,n,c,rfl,hn⟩:=zG hv
 have hK:=aj.refl [] w
 have iq:=hb.1
 refine bS [.tmp 2] 23 Tryz.func9 rfl nm9 rfl rfl ?_
 refine W ?_
 refine aA (S5 bs hb _ _ w hv) ?_
 rintro _ w1 ⟨rfl,aI⟩
 have cV:=aI.size
 refine bI aI hK hv λhK hv=>?_
 refine kx rfl rfl rfl<|aZ<|zc rfl (λh1=>?_) (λh1=>?_)
 have hq:=h1
 refine W ?_
 exact⟨_,rfl,by rw[BU,hq];rfl,hK⟩
 have hq:=h1
 refine W ?_
 refine eA (λi:Nat=>[(0,.slice a n c),(3,.int .i64 (lines (bs.take i):Nat)),(4,.int .i64 (i:Int))]) (λi w'=>w'=w1∧i<=bs.length) (λi=>bs.length-i) (0) (⟨rfl,rfl,rfl⟩) (⟨rfl,om⟩) λgg w2 e2 hI=>?_
 obtain⟨rfl,hk⟩:=hI
 refine W ?_
 refine zc rfl (λh2=>?_) (λh2=>?_)
 have hg:=pC (bs:=bs) (i:=gg) om
 obtain⟨b,off,a1,n1,c1,a2,n2,c2,rfl,hc,fx,eU,cV,dm⟩:=BQ hv hg
 have qt:=(hb.2 gg om).2.2
 have yb:=Rf hb gg om
 have Eh:=Re (bs:=bs) (k:=gg) om
 refine WL ?_
 refine zl tK rfl (hc 2 _ rfl)<|W ?_
 exact⟨gg+1,⟨rfl,by show Value.int _ _=Value.int _ _;congr 1;omega,rfl⟩,⟨rfl,om⟩,om⟩
 have he:bs.take gg=bs:=List.take_of_length_le om
 refine W ?_
 exact⟨_,rfl,by rw[BU,iP hq,he];rfl,hK⟩
def dw.enc (b:dw):List C:=[.val (str b.aM),.sl 2 (cT b.regs),.sl 2 (cT b.code)]
def nG (L:List Nat) (w:World) (v:Value) (b:dw):Prop:=j1 L w v b.enc
theorem nG.ext {b:dw} (h:nG L w v b) (k:aj [] w w'):nG L w' v b:=j1.ext h k
theorem nG.grow {b:dw} (h:nG L w v b):nG (w.heap.size::L) w v b:=j1.fresh h zD
theorem nG.aD {b:dw} (h:nG L w v b) (k:aj L' w w') (hL:∀x,x∈L'->x∈L):nG L w' v b:=j1.aF h (k.mono hL)
theorem nG.gP {b:dw} (h:nG L w v b) (hL:∀x,x∈L'->x∈L):nG L' w v b:=j1.fresh h λx hx=>.inl (hL x hx)
theorem S6 {b:dw} (h:cS L w vs b.enc):∃v1 v2,vs=[str b.aM,v1,v2]∧eM L w v1 b.regs∧eM L w v2 b.code:=by
 rw[dw.enc] at h
 match vs,h with
 |[v0,v1,v2],h=>obtain⟨h0,h1,h2,_⟩:=h;cases h0;exact⟨v1,v2,rfl,h1,h2⟩
 |[],h=>exact h.elim
 |[_],h=>exact h.2.elim
 |[_,_],h=>exact h.2.2.elim
 |_::_::_::_::_,h=>exact h.2.2.2.elim
theorem Jb {ts:List aq} (h:eM L w v ts):∃a c,v= .slice a ts.length c:=by grind [eM,rC,ia]
theorem S7 {b:dw} (h:nG L w v b):∃a1 c1 a2 c2,v= .agg #[str b.aM,.slice a1 b.regs.length c1,.slice a2 b.code.length c2]∧
  eM L w (.slice a1 b.regs.length c1) b.regs∧eM L w (.slice a2 b.code.length c2) b.code:=by
 obtain⟨vs,rfl,hr⟩:=h
 obtain⟨v1,v2,rfl,h1,h2⟩:=S6 hr
 obtain⟨a1,c1,rfl⟩:=Jb h1
 obtain⟨a2,c2,rfl⟩:=Jb h2
 exact⟨a1,c1,a2,c2,rfl,h1,h2⟩
theorem MK {l:ai} {r c:List aq} {v1 v2:Value} (h1:eM L w v1 r) (h2:eM L w v2 c):nG L w (.agg #[str l,v1,v2]) ⟨l,r,c⟩:=
 ⟨[str l,v1,v2],rfl,.val _,h1,h2,trivial⟩
theorem nG.kj {x y:Value} {b:dw} (h:nG L w (.agg #[x,y,z]) b):cS L w [x,y,z] b.enc:=by
 obtain⟨vs,he,hr⟩:=h
 have hv:vs=[x,y,z]:=by
  have:=congrArg (λv=>match v with|Value.agg x=>x.toList|_=>[]) he
  simpa using this.symm
 rw[<-hv];exact hr
def mD (L:List Nat) (w:World) (v:Value) (ps:List dw):Prop:=bQ L w v (.sl 3 (ps.map dw.enc))
theorem mD.ext (h:mD L w v ps) (k:aj [] w w'):mD L w' v ps:=bQ.ext h k
theorem mD.gP {b:List dw} (h:mD L w v b) (hL:∀x,x∈L'->x∈L):mD L' w v b:=bQ.fresh h λx hx=>.inl (hL x hx)
theorem S8:mD L w (.slice none 0 0) []:=.nil _ _ _
theorem Ei (h:mD L w v ps):∃a c,v= .slice a ps.length c:=by grind [mD,rC]
theorem Cj {a:Option Addr} {k:dw} (h:mD L w (.slice a n c) ps) (hi:ps[i]?=some k):
  ∃b off a1 c1 a2 c2,a=some ⟨b,off,none⟩∧fS w b (off+i*3) [str k.aM,.slice a1 k.regs.length c1,.slice a2 k.code.length c2]∧eM L w (.slice a1 k.regs.length c1) k.regs∧eM L w (.slice a2 k.code.length c2) k.code:=by
 obtain⟨b,off,vs,ha,hb,hL,hl,hc,hr⟩:=zn h (show(ps.map dw.enc)[i]?=some k.enc by simp[hi])
 obtain⟨v1,v2,rfl,h1,h2⟩:=S6 hr
 obtain⟨a1,c1,rfl⟩:=Jb h1
 obtain⟨a2,c2,rfl⟩:=Jb h2
 exact⟨b,off,a1,c1,a2,c2,ha,hc,h1,h2⟩
theorem Gr.prog {T:TypeId} (h:Gr B L w T 3 v g (ps.map dw.enc)):mD L w v ps:=h.done
section
variable {P:Program} {n:Nat} {ops:Array Oper} {K:Env->World->Prop} {rest:List Oper} {e:Env} {w:World}
 {dst:Option Nat} {ty:TypeId} {pos:String} {after:Array Edge} {g:Option (Nat×Bool)} {x y:Operand}
theorem aeA {B:Nat} {L:List Nat} {t:Nat} {v u1 u2 u3:Value} {gb:Option Nat} {ts:List dw} {f:dw} {b U:Nat} (hT:P.underlying t=some (.slice E)) (hE:TI P E 3 bytes z) (hg:gate ops e g=true) (hd:bV n dst=true) (hz:Nat.beq z.cells.size 3=true) (fK:Nat.ble bytes 1000=true) 
  (hx:ev e x=v) (hy:ev e y= .slice (some ⟨b,0,none⟩) 1 1) (hO:Gr B L w E 3 v gb (ts.map dw.enc)) (hb:aJ w b [u1,u2,u3].toArray U)
  (hr:nG (gb.toList++L) w (.agg #[u1,u2,u3]) f) (hn:ts.length<100000000)
  (k:∀a' cap' g' w',Gr B L w' E 3 (.slice a' (ts++[f]).length cap') g' ((ts++[f]).map dw.enc)->aj gb.toList w w'->OW P n ops K rest (bM e dst (.slice a' (ts++[f]).length cap')) w'):
  OW P n ops K (⟨dst,.call {callee:=.builtin .append,args:=#[x,y],argTypes:=#[t,t]},ty,pos,after,g⟩::rest) e w:=by
 refine DM hT hE hg hd hz fK hx hy hO hb rfl ?_ hr.kj (by simpa using hn) ?_
 ·rw[List.all_eq_true]
  refine λu hu=>cS.FL hr.kj (λc hc v hv=>?_) u hu
  rw[dw.enc] at hc
  simp only[mC,List.not_mem_nil,or_false] at hc
  rcases hc with h|h|h
  ·rw[h] at hv;cases hv;rfl
  ·rw[h] at hv;cases hv
  ·rw[h] at hv;cases hv
 ·intro a' cap' g' w' iT hk
  have e1:(ts.map dw.enc).length+1=(ts++[f]).length:=by simp
  have e2:ts.map dw.enc++[f.enc]=(ts++[f]).map dw.enc:=by simp
  rw[e1] at iT⊢
  rw[e2] at iT
  exact k a' cap' g' w' iT hk
end
theorem tT:∀(m:Nat) (t:aq),t.size<=m->WF t->t.size<=100000000->t.text.length<=100000000->∀(v:Value) (L:List Nat) (w:World),bB L w v t->
  bz Tryz.prog 106 [v] w λr w'=>r=str t.text∧aj [] w w':=by
 intro m
 induction m with
 |zero=>intro t h cm;have:=LA cm;omega
 |succ m ih=>
  intro t hm cm lD fF v L w hv
  obtain⟨a,n,c,rfl,hn,aP⟩:=cU hv
  subst hn
  have ob:=wj t
  have hK:=aj.refl [] w
  refine bS [.tmp 2] 31 Tryz.func106 rfl aaE rfl rfl ?_
  refine zr<|eH rfl λw1 aI aX dk=>?_
  have hK:=hK.ext aI
  refine W ?_
  refine zc rfl (λh1=>?_) (λh1=>?_)
  have ht:=RH cm (by rw[cm.leaf h1];rfl)
  refine W ?_
  exact⟨_,rfl,show str _=str _ from congrArg _ ht.symm,hK⟩
  have ha:t.aw=[]:=Classical.not_not.1 h1
  refine W ?_
  refine eA (λk:Nat=>[(1,.pointer (some ⟨w.heap.size,0,none⟩)),(3,str (uS (t.ak.take k))),(4,.int .i64 (k:Int))]) (λk w'=>aj [] w w'∧aJ w' w.heap.size [str t.aw,.slice a t.ak.length c].toArray 74∧k<=t.ak.length) (λk=>t.ak.length-k) (0) (⟨rfl,rfl,rfl⟩) (⟨hK,aX,om⟩) λgg w2 e2 hI=>?_
  obtain⟨hK,aX,hk⟩:=hI
  refine W ?_
  refine zc rfl (λh2=>?_) (λh2=>?_)
  have ey:=gh (ps:=t.ak) (i:=gg) om
  obtain⟨b1,eX,pa,pn,pc,rfl,jl,eP,fM⟩:=iJ aP ey
  subst eP
  have yc:=cm.nth (i:=gg) om
  have mZ:=kX (t:=t) (i:=gg) om
  have mB:=LL cm ha hk
  have pK:=LL cm ha (k:=gg+1) om
  have aR:=RJ (ps:=t.ak) (k:=gg) om
  have hlen:=congrArg List.length aR
  rw[lA] at hlen
  refine W ?_
  refine ix (λ_:Unit=>[(1,.pointer (some ⟨w.heap.size,0,none⟩)),(3,str (uS (t.ak.take gg)++(if gg=0 then[] else[32]))),(4,.int .i64 (gg:Int))]) (λ_ w'=>w'=w2) ?_ ?_
  refine zc rfl (λh3=>?_) (λh3=>?_)
  have yd:¬gg=0:=by omega
  refine W ?_
  exact⟨(),⟨rfl,by rw[iN yd];rfl,rfl⟩,rfl⟩
  have yd:gg=0:=by omega
  refine WZ ?_
  exact⟨(),⟨rfl,by rw[iP yd,List.append_nil];rfl,rfl⟩,rfl⟩
  intro gu w3 e3 hI
  obtain rfl:=hI
  refine WL ?_
  refine zl iC rfl (aX.at rfl)<|zm<|zi cz aL rfl rfl om<|zL eV aL rfl (jl.ext hK) rfl<|aA (ih (nth t.ak gg) om yc om om _ L w3 ((kV fM).ext hK)) ?_
  rintro _ w4 ⟨rfl,aO⟩
  have fE:=aO.size
  refine bI aO hK aX λhK aX=>?_
  refine gV rfl rfl rfl rfl om<|W ?_
  exact⟨gg+1,⟨rfl,by rw[aR];rfl,rfl⟩,⟨hK,aX,om⟩,om⟩
  have fG:gg=t.ak.length:=by omega
  have wQ:=RK cm ha
  have mB:=LL cm ha hk
  subst fG
  refine WS ?_
  refine gV rfl rfl rfl rfl (by simp at mB⊢;omega)<|zA<|aZ<|jZ ?_
  exact⟨_,rfl,show str _=str _ from congrArg _ wQ,hK⟩
theorem ye (h:ai) (ps:List ai) (hl:(dR h ps).length<=1000000000) (v:Value) (L:List Nat) (w:World) (hv:bc L w v ps):bz Tryz.prog 135 [str h,v] w λr w'=>r=str (dR h ps)∧aj [] w w':=by
 obtain⟨a,n,c,rfl,hn⟩:=dJ hv
 subst hn
 have hK:=aj.refl [] w
 have hh:=λk=>aay (h:=h) (ps:=ps) k
 have S9:(uT h ps 0).length=h.length+1:=by simp[uT,qe]
 have h01:=hh 0
 have ob:ps.length<=(dR h ps).length:=by simp only[dR,lC,lA,RO,ju];omega
 refine bS [.tmp 4] 24 Tryz.func135 rfl aaX rfl rfl ?_
 refine WS ?_
 refine gV rfl rfl rfl rfl (by simp only[lC,List.length_nil];omega)<|W ?_
 refine eA (λk:Nat=>[(1,.slice a ps.length c),(5,str (uT h ps k)),(6,.int .i64 (k:Int))]) (λk w'=>aj [] w w'∧k<=ps.length) (λk=>ps.length-k) (0) (⟨rfl,show str _=str _ from congrArg _ (by simp[uT,qe]),rfl⟩) (⟨hK,om⟩) λgg w1 e1 hI=>?_
 obtain⟨hK,hk⟩:=hI
 refine W ?_
 refine zc rfl (λh1=>?_) (λh1=>?_)
 have hg:=km (xs:=ps) (i:=gg) om
 obtain⟨b1,eX,rfl,bK⟩:=pB hv hg
 have aR:=aaw (h:=h) (ps:=ps) (k:=gg) om
 have hlen:=congrArg List.length aR
 simp only[lA,lC,List.length_nil] at hlen
 have hle:=hh (gg+1)
 refine WS ?_
 refine gV rfl rfl rfl rfl (by simp only[lC,List.length_nil];omega)<|WL ?_
 refine zl gD rfl (bK.ext hK 0 _ rfl)<|gV rfl rfl rfl rfl (by simp only[lA,lC,List.length_nil];omega)<|W ?_
 exact⟨gg+1,⟨rfl,show str _=str _ from congrArg _ aR.symm,rfl⟩,⟨hK,om⟩,om⟩
 have hle:=hh gg
 refine WS ?_
 refine gV rfl rfl rfl rfl (by simp only[lC,List.length_nil];omega)<|zA<|aZ<|jZ ?_
 exact⟨_,rfl,show str _=str _ from congrArg _ (aax om),hK⟩
def apart:List (Option Nat×Option Nat)->Prop
 |[]=>True
 |g::gs=>(∀x,x∈iU g->x∉gx gs)∧apart gs
theorem Jc (g:Option Nat×Option Nat) (gs:List (Option Nat×Option Nat)):gx (g::gs)=iU g++gx gs:=by simp[gx]
theorem ML (gs:List (Option Nat×Option Nat)) (g:Option Nat×Option Nat):gx (gs++[g])=gx gs++iU g:=by simp[gx]
section
variable {P:Program} {n:Nat} {ops:Array Oper} {K:Env->World->Prop} {rest:List Oper} {e:Env} {w:World}
 {dst:Option Nat} {ty:TypeId} {pos:String} {after:Array Edge} {g:Option (Nat×Bool)} {x y:Operand}
end
/-! ### Operations -/
section
variable {P:Program} {n:Nat} {ops:Array Oper} {K:Env->World->Prop} {rest:List Oper} {e:Env} {w:World}
 {dst:Option Nat} {ty:TypeId} {pos:String} {after:Array Edge} {g:Option (Nat×Bool)} {x y:Operand}
theorem Ta {D b cap:Nat} {z:Int} {c:UInt8} {U:TypeId} (hS:P.underlying S=some (.slice E)) (hE:P.underlying E=some (.int .u8)) (hD:P.underlying D=some .string) (hg:gate ops e g=true) (hd:bV n dst=true) 
  (hx:ev e x= .slice (some ⟨b,0,none⟩) 1 cap) (hb:aJ w b [.int .u8 z].toArray U) (hz:z=(c.toNat:Int)) (k:OW P n ops K rest (bM e dst (str [c])) w):OW P n ops K (⟨dst,.convert S D x,ty,pos,after,g⟩::rest) e w:=by
 have jM:=run_convert_bytes_back (P:=P) w S D E ⟨b,0,none⟩ cap [c] hS hE hD (by
  intro j hj
  have:j=0:=by simpa using hj
  subst this
  have:=hb.cell 0
  simpa[Addr.add,hz] using this)
 exact eQ hg hd (v:=str [c]) (w':=w) (by
  have vm:ev e x= .slice (some ⟨b,0,none⟩) ([c]:List UInt8).length cap:=hx
  simp only[execOp,vm,Sem.run_bind,jM,Result.andThen_ok,Sem.run_pure]) k
theorem Tb {T TS:Nat} {gb:Option Nat} {xs:List ai} {s:ai} {nn c:Nat} (jN:TI P T 1 bytes z) (hg:gate ops e g=true) (hx:ev e x= .pointer (some ⟨b,o,none⟩)) (hy:ev e y=str s) (ho:o=i) 
  (hO:cG w TS (.slice (some ⟨b,0,none⟩) nn c) gb xs) (hi:i<xs.length)
  (k:∀w',aj gb.toList w w'->cG w' TS (.slice (some ⟨b,0,none⟩) nn c) gb (xs.set i s)->w'.heap.size=w.heap.size->OW P n ops K rest e w'):OW P n ops K (⟨none,.store T x y,ty,pos,after,g⟩::rest) e w:=by
 subst ho
 obtain⟨hl,h|⟨b',cap,cur,oa,hv,hb,ml,lU,bZ,ht⟩⟩:=hO
 ·obtain⟨h,_⟩:=h;cases h
 ·cases hv
  subst oa
  refine K0 jN rfl hg hx hy rfl hb (by rw[bZ];omega) λw' hk gN hz=>?_
  refine k w' (by simpa using hk) ⟨by simp,.inr ⟨b,_,_,rfl,sm,gN,by simpa using ml,lU,by simpa using bZ,?_⟩⟩ hz
  rw[Array.toList_setIfInBounds,List.length_set,List.take_set,ht,List.map_set]
end
theorem Tc {α:Type}:∀{rows:List (List α)} {i j:Nat} {a:α} {row:List α},(∀row,row∈rows->row.length=sz)->rows[i]?=some row->j<sz->rows.flatten.set (i*sz+j) a=(rows.set i (row.set j a)).flatten
 |r::rows,0,j,a,row,h,hi,hj=>by
  simp only[List.getElem?_cons_zero,Option.some.injEq] at hi
  subst hi
  have hr:r.length=sz:=h r sm
  rw[List.flatten_cons,Nat.zero_mul,Nat.zero_add,List.set_cons_zero,List.flatten_cons,List.set_append_left _ _ om]
 |r::rows,i+1,j,a,row,h,hi,hj=>by
  have hr:r.length=sz:=h r sm
  have:=Tc (rows:=rows) (a:=a) (λrow hr=>h row (by simp[hr])) (by simpa using hi) hj
  rw[List.flatten_cons,List.set_cons_succ,List.flatten_cons,List.set_append_right _ _ (by rw[hr,Nat.add_mul];omega),hr,<-this]
  congr 2
  rw[Nat.add_mul];omega
theorem iK.set {T:TypeId}:∀{gss:List (Option Nat×Option Nat)} {vss:List (List Value)} {bs:List Bk} {i:Nat} {g:Option Nat×Option Nat} {v:List Value} {f:Bk},iK w T gss vss bs->gss[i]?=some g->qd w' T g v f->
  (∀(j:Nat) (g2:Option Nat×Option Nat) (v2:List Value) (b2:Bk),j≠i->gss[j]?=some g2->qd w T g2 v2 b2->qd w' T g2 v2 b2)->iK w' T gss (vss.set i v) (bs.set i f)
 |[],[],[],i,g,v,f,_,hg,_,_=>by simp at hg
 |g0::gs,v0::vs,b0::bs,0,g,v,f,h,hg,hf,hk=>by
  simp only[List.getElem?_cons_zero,Option.some.injEq] at hg
  subst hg
  refine⟨hf,?_⟩
  have key:∀{gs:List (Option Nat×Option Nat)} {vs:List (List Value)} {bs:List Bk},(∀(j:Nat) (g2:Option Nat×Option Nat) (v2:List Value) (b2:Bk),gs[j]?=some g2->qd w T g2 v2 b2->qd w' T g2 v2 b2)->iK w T gs vs bs->iK w' T gs vs bs:=by
   intro gs
   induction gs with
   |nil=>intro vs bs _ h;cases vs<;>cases bs<;>first|trivial|exact h.elim
   |cons g gs ih=>
    intro vs bs hk h
    cases vs with
    |nil=>cases bs<;>exact h.elim
    |cons v vs=>
     cases bs with
     |nil=>exact h.elim
     |cons b bs=>exact⟨hk 0 _ _ _ rfl h.1,ih (λj g2 v2 b2 hj=>hk (j+1) g2 v2 b2 (by simpa using hj)) h.2⟩
  exact key (λj g2 v2 b2 hj ho=>hk (j+1) g2 v2 b2 om (by simpa using hj) ho) h.2
 |g0::gs,v0::vs,b0::bs,i+1,g,v,f,h,hg,hf,hk=>
  ⟨hk 0 _ _ _ om rfl h.1,iK.set h.2 (by simpa using hg) hf λj g2 v2 b2 hj iO ho=>hk (j+1) g2 v2 b2 om (by simpa using iO) ho⟩
theorem Ck {g:Option Nat×Option Nat} {x:Nat} (hg:gss[i]?=some g) (hx:x∈iU g):x∈gx gss:=by grind [gx]
theorem aeB:∀{gss:List (Option Nat×Option Nat)} {i j:Nat} {g g2:Option Nat×Option Nat} {x:Nat},(gx gss).Nodup->i≠j->gss[i]?=some g->gss[j]?=some g2->x∈iU g->x∉iU g2:=by intro x;induction x<;>grind [gx,iU]
theorem lY.row {w w':World} {TB TS:TypeId} {v:Value} {g:Option Nat} {gss:List (Option Nat×Option Nat)} {vss:List (List Value)} {bs:List Bk} {i:Nat} {gs:Option Nat×Option Nat} {vs:List Value} {f:Bk} {L:List Nat} 
  (h:lY w TB TS v g gss vss bs) (hg:gss[i]?=some gs) (hv:vss[i]?=some vs) (hk:aj L w w') (hL:∀x,x∈L->x∈iU gs) (hf:qd w' TS gs vs f):lY w' TB TS v g gss vss (bs.set i f):=by
 have hd:=(List.nodup_append.1 h.nodup)
 have zu:vss.set i vs=vss:=by
  refine List.ext_getElem sm λj h1 h2=>?_
  rw[List.getElem_set]
  split
  ·rename_i lX;subst lX
   rw[gE h2] at hv;simpa using hv.symm
  ·rfl
 have hr:=iK.set (w':=w') h.rows hg hf (λj g2 v2 b2 hj iO ho=>ho.aF hk λx hx mm=>aeB hd.2.1 hj iO hg hx (hL x mm))
 rw[zu] at hr
 exact⟨by rw[List.length_set];exact h.own.aF hk (λb hb hx=>hd.2.2 b (by simp[hb]) b (Ck hg (hL b hx)) rfl),hr,h.nodup,λx hx=>lL (h.lt x hx) hk.size⟩
section
variable {P:Program} {n:Nat} {ops:Array Oper} {K:Env->World->Prop} {rest:List Oper} {e:Env} {w:World}
 {dst:Option Nat} {ty:TypeId} {pos:String} {after:Array Edge} {g:Option (Nat×Bool)} {x y:Operand}
end
theorem Td (k:Nat):(48:Int)+((k%10:Nat):Int)=((UInt8.ofNat (48+k%10)).toNat:Int):=by simp_all[Nat.mod_eq_of_lt,Nat.reducePow];omega
theorem cG.form {T:TypeId} {a:Option Addr} (h:cG w T (.slice a n c) g xs) (hx:0<xs.length):∃b,a=some ⟨b,0,none⟩∧g=some b:=by cases h.2<;>grind
theorem cG.cases {T:TypeId} (h:cG w T v g xs):∃a c,v= .slice a xs.length c:=iH.len h
theorem lY.get {TB TS:TypeId} {a:Option Addr} {bs:List Bk} (h:lY w TB TS (.slice a n c) g gss vss bs) (hi:i<bs.length):
  ∃b gs a1 c1 a2 c2,a=some ⟨b,0,none⟩∧g=some b∧b<w.heap.size∧b∉iU gs∧gss[i]?=some gs∧vss[i]?=some [str (bR bs i).aM,.slice a1 (bR bs i).bY.length c1,.slice a2 (bR bs i).code.length c2]∧
   fS w b (0+i*3) [str (bR bs i).aM,.slice a1 (bR bs i).bY.length c1,.slice a2 (bR bs i).code.length c2]∧
   cG w TS (.slice a1 (bR bs i).bY.length c1) gs.1 (bR bs i).bY∧cG w TS (.slice a2 (bR bs i).code.length c2) gs.2 (bR bs i).code∧(∀x,gs.1=some x->gs.2=some x->False):=by
 have hd:=List.nodup_append.1 h.nodup
 obtain⟨fl,iy,wR⟩:=h.rows.lens
 obtain⟨gs,vs,jm,aW,v1,v2,rfl,cV,dm⟩:=h.rows.get (pC hi)
 obtain⟨a1,c1,rfl⟩:=cG.cases cV
 obtain⟨a2,c2,rfl⟩:=cG.cases dm
 obtain⟨hl,hz|⟨b,cap,cur,oa,hv,hb,ml,lU,bZ,ht⟩⟩:=h.own
 ·obtain⟨_,hz,_⟩:=hz;omega
 ·cases hv
  subst oa
  refine⟨b,gs,a1,c1,a2,c2,rfl,rfl,hb.lt,λhx=>hd.2.2 b sm b (Ck jm hx) rfl,jm,aW,λj v hj=>?_,cV,dm,λx h1 h2=>?_⟩
  ·have hf:=Fm wR aW hj
   have dU:i*3+j<vss.flatten.length:=(List.getElem?_eq_some_iff.1 hf).1
   rw[hb.cell,Nat.zero_add]
   have h2:=ht
   have:(cur.toList.take (bs.length*3))[i*3+j]?=some v:=by rw[ht];exact hf
   rw[List.getElem?_take] at this
   split at this
   ·simpa using this
   ·cases this
  ·have hn:(iU gs).Nodup:=by
    have:∀{gss:List (Option Nat×Option Nat)} {i:Nat},(gx gss).Nodup->gss[i]?=some gs->(iU gs).Nodup:=by
     intro gss
     induction gss with
     |nil=>intro i _ h;simp at h
     |cons p q ih=>
      intro i hn hg
      rw[Jc,List.nodup_append] at hn
      cases i with
      |zero=>simp at hg;subst hg;exact hn.1
      |succ i=>exact ih hn.2.1 (by simpa using hg)
    exact this hd.2.1 jm
   simp[iU,h1,h2] at hn
theorem aeC (w:World):bz Tryz.prog 72 [str [],.int .i64 0,.int .i64 0] w λr w'=>r= .tuple #[.agg #[str [],.slice none 0 0],.int .i64 (-1)]∧aj [] w w':=by
 have hK:=aj.refl [] w
 refine kW [.cell 6 74,.tmp 7] 87 Tryz.func72 rfl IA rfl rfl rfl ?_
 refine zr<|dy aL rfl rfl rfl λw1 aI bL dk=>?_
 have hK:=hK.grow;have hK:=hK.ext aI
 refine zA<|aZ<|zr<|js (F2 _) rfl rfl<|dy aL rfl rfl rfl λw2 az dh dC=>?_
 have hK:=hK.grow;have hK:=hK.ext az;have bL:=bL.grow;have bL:=bL.ext az
 refine cJ aL rfl rfl rfl dh rfl λw3 aH dh gJ=>?_
 have hK:=hK.aD aH sx;have bL:=bL.aD aH sx
 refine aZ<|jL<|zr<|zm<|Fs rfl rfl rfl rfl rfl<|zm ?_
 apply BF 5 15 20 [15,16,17,18,19,20] (λw'=>w3=w') rfl
 intro h1
 replace h1:=jk h1
 refine W ?_
 exact mg rfl rfl
 intro h1
 replace h1:=jk h1
 refine W ?_
 exact mg rfl rfl
 rintro xx _ rfl
 refine aZ<|zc rfl (λh2=>?_) (λh2=>?_)
 refine W ?_
 refine cJ aL rfl rfl rfl bL rfl λw4 aO bL gQ=>?_
 have hK:=hK.aD aO sx
 refine W ?_
 exact⟨[_,_],⟨ga eV aL rfl bL rfl,rfl⟩,rfl,hK⟩
 simp at h2
theorem Jd (s:ai) (L:List Nat) (w:World) (hL:∀x,x∈L->x<w.heap.size):
  bz Tryz.prog 42 [str s] w λv w'=>(∃t tv,v= .tuple #[tv,.bool (bA s).isSome]∧bB L w' tv t∧DY s t)∧aj [] w w':=by
 by_cases hs:s=[]
 ·subst hs
  have hK:=aj.refl [] w
  refine kW [.cell 2 74,.tmp 3] 20 Tryz.func42 rfl RT rfl rfl rfl ?_
  refine zr<|dy aL rfl rfl rfl λw1 aI aU dk=>?_
  have hK:=hK.grow;have hK:=hK.ext aI
  refine W ?_
  refine zc rfl (λh1=>?_) (λh1=>?_)
  simp at h1
  refine gY<|zr<|zm<|aA (aeC w1) ?_
  rintro _ w2 ⟨rfl,az⟩
  have dm:=az.size
  refine bI az hK aU λhK aU=>?_
  refine W ?_
  refine dy aL rfl rfl rfl λw3 aH aG gJ=>?_
  have hK:=hK.grow;have hK:=hK.ext aH;have aU:=aU.grow;have aU:=aU.ext aH
  refine cJ aL rfl rfl rfl aG rfl λw4 aO aG gQ=>?_
  have hK:=hK.aD aO sx;have aU:=aU.aD aO sx
  refine W ?_
  refine cJ aL rfl rfl rfl aU rfl λw5 aN aU ig=>?_
  have hK:=hK.aD aN sx
  refine W ?_
  exact⟨[_,_],⟨ga eV aL rfl aU rfl,rfl⟩,⟨.mk [] [],_,by rw[R6];rfl,kU oH,λt' h=>(by rw[R6] at h;cases h),λ_=>rfl⟩,hK⟩
 ·obtain⟨h1,h2⟩:=AH s L w hL
  exact⟨h1,Calls.mono h2 λe w' ⟨v,he,⟨t,tv,hv,ht,hp⟩,hk⟩=>⟨v,he,⟨t,tv,hv,ht,hp,λe=>absurd e hs⟩,hk⟩⟩
theorem Gr.form {T:TypeId} {a:Option Addr} (h:Gr B L w T sz (.slice a n c) g rows) (hp:0<rows.length):∃b,a=some ⟨b,0,none⟩∧g=some b:=by
 obtain⟨xs,hx⟩:=h.own
 rcases hx.own.2 with⟨_,h0,_⟩|⟨b,_,_,e,hv,_⟩
 ·omega
 ·cases hv;exact⟨b,rfl,e⟩
theorem AJ (ps:List ai) (hl:ps.length<=1000000000) (s:ai) (v:Value) (L:List Nat) (w:World) (hv:bc L w v ps):bz Tryz.prog 82 [v,str s] w λr w'=>r= .bool (decide (s∈ps))∧aj [] w w':=by
 obtain⟨a,n,c,rfl,hn⟩:=dJ hv
 subst hn
 have hK:=aj.refl [] w
 refine bS [.tmp 4] 18 Tryz.func82 rfl acI rfl rfl ?_
 refine W ?_
 refine eA (λk:Nat=>[(0,.slice a ps.length c),(1,str s),(5,.int .i64 (k:Int))]) (λk w'=>aj [] w w'∧k<=ps.length∧∀i,i<k->bX ps i≠s) (λk=>ps.length-k) (0) (⟨rfl,rfl,rfl⟩) (⟨hK,om,by intro i hi;omega⟩) λgg w1 e1 hI=>?_
 obtain⟨hK,hk,cL⟩:=hI
 refine W ?_
 refine zc rfl (λh1=>?_) (λh1=>?_)
 have hg:=km (xs:=ps) (i:=gg) om
 obtain⟨b1,eX,rfl,bK⟩:=pB hv hg
 refine WL ?_
 refine zl gD rfl (bK.ext hK 0 _ rfl)<|zm<|DG rfl rfl rfl rfl<|aZ<|zc rfl (λh2=>?_) (λh2=>?_)
 have hq:s∈ps:=(by rw[<-h2];exact List.mem_of_getElem? hg)
 refine W ?_
 exact⟨_,rfl,by rw[dT hq];rfl,hK⟩
 have dL:=h2
 refine W ?_
 exact⟨gg+1,⟨rfl,rfl,rfl⟩,⟨hK,om,by intro i hi;rcases Nat.lt_or_ge i gg with h|h;exact cL i h;rw[show i=gg by omega];exact dL⟩,om⟩
 have hq:¬s∈ps:=(λhm=>by obtain⟨i,hi,e⟩:=List.getElem_of_mem hm;exact cL i om (by simp[bX,gE hi,e]))
 refine W ?_
 exact⟨_,rfl,by rw[dF hq];rfl,hK⟩
theorem aeD (h:n<10):(48:Int)+(n:Int)=((UInt8.ofNat (48+n)).toNat:Int):=by
 have:=Td n
 rwa [Nat.mod_eq_of_lt h] at this
def Cl (z:Int) (v:Value) (w:World):Prop:=∃b,v= .slice (some ⟨b,0,none⟩) 1 1∧aJ w b [.int .u8 z].toArray 5
theorem Cl.ext {z:Int} (h:Cl z v w) (k:aj [] w w'):Cl z v w':=by
 obtain⟨b,e,h⟩:=h
 exact⟨b,e,h.ext k⟩
theorem Ej:∀(m n:Nat),n<=m->(aT n).length<=n+1
 |m,n,h=>by
  rw[aT]
  by_cases h9:n<10
  ·rw[iP h9];simp
  ·rw[iN h9]
   cases m with
   |zero=>omega
   |succ m=>have:=Ej m (n/10) om;simp only[lA,List.length_singleton];omega
theorem ir:∀(m n:Nat),n<m->n<=1000000->∀w:World,bz Tryz.prog 142 [.int .i64 (n:Int)] w λr w'=>r=str (aT n)∧aj [] w w':=by
 intro m
 induction m with
 |zero=>intro n hn;omega
 |succ m ih=>
  intro n hn h9 w
  have hK:=aj.refl [] w
  have hl:=Ej _ (n/10) (lR _)
  refine bS [.tmp 2] 28 Tryz.func142 rfl aa2 rfl rfl ?_
  refine W ?_
  refine zc rfl (λh1=>?_) (λh1=>?_)
  omega
  refine W ?_
  refine zc rfl (λh2=>?_) (λh2=>?_)
  omega
  refine W ?_
  refine zc rfl (λh3=>?_) (λh3=>?_)
  refine W ?_
  refine xL wo xR rfl rfl rfl (wrap_u8 _ om om)<|fc BZ F3 rfl rfl λw1 aI wS dk=>?_
  have hK:=hK.ext aI
  refine Ta BZ xR il rfl rfl rfl wS (aeD om)<|zA<|aZ<|jZ ?_
  exact⟨_,rfl,congrArg str (show[UInt8.ofNat (48+n)]=aT n from by rw[aT,iP om]),hK⟩
  have fO:¬n<10:=by omega
  refine WZ ?_
  refine zB dj lV 10 (rA 18 10) (rA 18 10) [[],[0],[1],[],[3],[4],[5],[6],[7],[2,8]] [λv _=>v=(.int .i64 (n:Int)),λv _=>v=(.int .i64 ((n/10:Nat):Int)),λv _=>v=(str (aT (n/10))),λv _=>v=(.int .i64 (n:Int)),λv _=>v=(.int .i64 ((n%10:Nat):Int)),λv _=>v=(.int .i64 ((48:Int)+((n%10:Nat):Int))),λv _=>v=(.int .u8 ((48:Int)+((n%10:Nat):Int))),fun(v:Value) (ww:World)=>Cl ((48:Int)+((n%10:Nat):Int)) v ww,λv _=>v=(str [UInt8.ofNat (48+n%10)]),λv _=>v=(str (aT (n/10)++[UInt8.ofNat (48+n%10)]))] de (fu (fu (fu (fu (fu (fu (fu (YJ (λv w w' h k=>Cl.ext h k) (fu (fu trivial)))))))))) (λwd aC=>?_) ?_
  refine eh ?_ ?_
  intro x vs w1 e aI hd he
  replace aI:=lV.trans aC aI
  replace he:e=bo (bj _ x _) []:=he
  subst he
  refine W ?_
  exact dn (lV.refl _) rfl
  refine eh ?_ ?_
  intro x vs w1 e aI hd he
  have d0:vs 0=(.int .i64 (n:Int)):=hd
  replace aI:=lV.trans aC aI
  replace he:e=bo (bj _ x _) [(18,vs 0)]:=he
  rw[d0] at he
  subst he
  refine K1 (b:=10) rfl rfl rfl rfl rfl om (wrap_i64 _ om om)<|aZ ?_
  exact dn (lV.refl _) rfl
  refine eh ?_ ?_
  intro x vs w1 e aI hd he
  have d1:vs 1=(.int .i64 ((n/10:Nat):Int)):=hd
  replace aI:=lV.trans aC aI
  replace he:e=bo (bj _ x _) [(19,vs 1)]:=he
  rw[d1] at he
  subst he
  refine aA (ih (n/10) om om w1) ?_
  rintro _ w2 ⟨rfl,az⟩
  have dm:=az.size
  refine W ?_
  exact dn (lV.of az) rfl
  refine eh ?_ ?_
  intro x vs w1 e aI hd he
  replace aI:=lV.trans aC aI
  replace he:e=bo (bj _ x _) []:=he
  subst he
  refine W ?_
  exact dn (lV.refl _) rfl
  refine eh ?_ ?_
  intro x vs w1 e aI hd he
  have d3:vs 3=(.int .i64 (n:Int)):=hd
  replace aI:=lV.trans aC aI
  replace he:e=bo (bj _ x _) [(21,vs 3)]:=he
  rw[d3] at he
  subst he
  refine Ft (b:=10) rfl rfl rfl rfl rfl om<|aZ ?_
  exact dn (lV.refl _) rfl
  refine eh ?_ ?_
  intro x vs w1 e aI hd he
  have d4:vs 4=(.int .i64 ((n%10:Nat):Int)):=hd
  replace aI:=lV.trans aC aI
  replace he:e=bo (bj _ x _) [(22,vs 4)]:=he
  rw[d4] at he
  subst he
  refine W ?_
  exact dn (lV.refl _) rfl
  refine eh ?_ ?_
  intro x vs w1 e aI hd he
  have d5:vs 5=(.int .i64 ((48:Int)+((n%10:Nat):Int))):=hd
  replace aI:=lV.trans aC aI
  replace he:e=bo (bj _ x _) [(23,vs 5)]:=he
  rw[d5] at he
  subst he
  refine xL wo xR rfl rfl rfl (wrap_u8 _ om om)<|aZ ?_
  exact dn (lV.refl _) rfl
  refine eh ?_ ?_
  intro x vs w1 e aI hd he
  have d6:vs 6=(.int .u8 ((48:Int)+((n%10:Nat):Int))):=hd
  replace aI:=lV.trans aC aI
  replace he:e=bo (bj _ x _) [(24,vs 6)]:=he
  rw[d6] at he
  subst he
  refine fc BZ F3 rfl rfl λw2 az Cm dC=>W ?_
  exact dn (lV.of az) ⟨_,rfl,Cm⟩
  refine eh ?_ ?_
  intro x vs w1 e aI hd he
  have d7:(fun(v:Value) (ww:World)=>Cl ((48:Int)+((n%10:Nat):Int)) v ww) (vs 7) w1:=hd
  replace aI:=lV.trans aC aI
  replace he:e=bo (bj _ x _) [(25,vs 7)]:=he
  obtain⟨b7,e7,Cm⟩:=d7
  rw[e7] at he
  subst he
  refine Ta BZ xR il rfl rfl rfl Cm (Td n)<|aZ ?_
  exact dn (lV.refl _) rfl
  refine eh ?_ ?_
  intro x vs w1 e aI hd he
  have aQ:(vs 2=(str (aT (n/10))))∧(vs 8=(str [UInt8.ofNat (48+n%10)])):=hd
  obtain⟨d2,d8⟩:=aQ
  replace aI:=lV.trans aC aI
  replace he:e=bo (bj _ x _) [(20,vs 2),(26,vs 8)]:=he
  rw[d2,d8] at he
  subst he
  refine W ?_
  exact dn (lV.refl _) rfl
  exact trivial
  intro x vs MM aeE dP
  have d0:vs 0=(.int .i64 (n:Int)):=dP 0 de
  have d1:vs 1=(.int .i64 ((n/10:Nat):Int)):=dP 1 de
  have d2:vs 2=(str (aT (n/10))):=dP 2 de
  have d3:vs 3=(.int .i64 (n:Int)):=dP 3 de
  have d4:vs 4=(.int .i64 ((n%10:Nat):Int)):=dP 4 de
  have d5:vs 5=(.int .i64 ((48:Int)+((n%10:Nat):Int))):=dP 5 de
  have d6:vs 6=(.int .u8 ((48:Int)+((n%10:Nat):Int))):=dP 6 de
  have d7:(fun(v:Value) (ww:World)=>Cl ((48:Int)+((n%10:Nat):Int)) v ww) (vs 7) MM:=dP 7 de
  have d8:vs 8=(str [UInt8.ofNat (48+n%10)]):=dP 8 de
  have d9:vs 9=(str (aT (n/10)++[UInt8.ofNat (48+n%10)])):=dP 9 de
  have hK:=hK.ext aeE
  change OW _ _ _ _ _ (bo (bj _ x _) (zZ 18 [vs 0,vs 1,vs 2,vs 3,vs 4,vs 5,vs 6,vs 7,vs 8,vs 9])) _
  rw[d0,d1,d2,d3,d4,d5,d6,d8,d9]
  refine W ?_
  exact⟨_,rfl,congrArg str (show aT (n/10)++[UInt8.ofNat (48+n%10)]=aT n from by conv=>(rhs;rw[aT,iN fO])),hK⟩
theorem AK (s:ai) (w:World):bz Tryz.prog 220 [str s] w λr w'=>r= .agg #[str s,.slice none 0 0]∧aj [] w w':=by
 have hK:=aj.refl [] w
 refine kW [.cell 2 74] 5 Tryz.func220 rfl abW rfl rfl rfl ?_
 refine zr<|dy aL rfl rfl rfl λw1 aI aU dk=>?_
 have hK:=hK.grow;have hK:=hK.ext aI
 refine aZ<|zr<|zm<|js (ac3 _ _) rfl rfl<|cJ aL rfl rfl rfl aU rfl λw2 az aU dC=>?_
 have hK:=hK.aD az sx
 refine W ?_
 exact⟨[_],ga eV aL rfl aU rfl,rfl,hK⟩
end Go.Proofs.YthbhobaiopccaaaGreatDoor
