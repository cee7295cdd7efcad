/- Lemmas for the law FnStart, no statement of their own: no conditions. -/
import Derived.Test.YthbhobaiopccaaaGreatDoorLc
import Derived.Deep.Strs
import Derived.Laws.IdiomStrings
import Derived.Laws.MakeOwn
set_option maxHeartbeats 4000000
set_option linter.unusedVariables false
set_option linter.unusedSimpArgs false
namespace Go.Proofs.YthbhobaiopccaaaGreatDoor
open Go
variable {p q:Prop} {B E S U b bytes c i n o off sz:Nat} {t:Bool} {l:List Oper} {a:Int} {v z:Value} {vs:List Value} {P:Program} {ops:Array Oper} {e0:Env} {w w' w0:World} {k k':IntKind} {L L' d:List Nat} {r:List (List Nat)} {rows:List (List C)} {vss:List (List Value)} {g gb:Option Nat} {ps:List eP} {xs:List ai} {gss:List (Option Nat×Option Nat)}
class tF (p:Prop) (q:outParam Prop):Prop where
 imp:p->q
instance (priority:=low) {p:Prop}:tF p p:=⟨id⟩
instance {p:Prop} {i:Decidable p}:tF (@decide p i=true) p:=⟨of_decide_eq_true⟩
instance {p:Prop} {i:Decidable p}:tF (@decide p i=false) (¬p):=⟨of_decide_eq_false⟩
instance {b:Bool}:tF ((!b)=true) (b=false):=⟨λh=>by simpa using h⟩
instance {b:Bool}:tF ((!b)=false) (b=true):=⟨λh=>by simpa using h⟩
theorem jG [t:tF p q] (h:p):q:=t.imp h
section
variable {P:Program} {n:Nat} {N R:Env->World->Prop} {X:Nat->Env->World->Prop} {e:Env} {w:World}
theorem zc {c:Operand} {x y:Code} (hc:ev e c= .bool t) [hp:tF (t=true) p] [hq:tF (t=false) q] (hx:p->CW P n x N R X e w) (hy:q->CW P n y N R X e w):CW P n (.cond c x y) N R X e w:=
 KL hc (λh=>hx (hp.imp h)) (λh=>hy (hq.imp h))
theorem zr {id:Nat} {y:Code} (h:OW P n l.toArray (λe w=>CW P n y N R X e w) l e w):CW P n ((Code.region id l.toArray false).seq y) N R X e w:=jq (lp h)
end
section
variable {P:Program} {n:Nat} {ops:Array Oper} {K:Env->World->Prop} {rest:List Oper} {e:Env} {w:World}
 {dst:Option Nat} {ty:TypeId} {pos:String} {after:Array Edge} {g:Option (Nat×Bool)} {x y:Operand} {T T':TypeId}
theorem zm (k:OW P n ops K rest (bQ e dst (ev e x)) w) (hg:gate ops e g=true:=by rfl) (hd:cm n dst=true:=by rfl):OW P n ops K (⟨dst,.move x,ty,pos,after,g⟩::rest) e w:=Yr hg hd k
theorem zA (k:OW P n ops K rest (bQ e dst (ev e x)) w) (hg:gate ops e g=true:=by rfl) (hd:cm n dst=true:=by rfl):OW P n ops K (⟨dst,.assign x,ty,pos,after,g⟩::rest) e w:=Ys hg hd k
theorem zs {op:Op} (k:OW P n ops K rest (bQ e dst undef) w) (hg:gate ops e g=false:=by rfl) (hd:cm n dst=true:=by rfl):OW P n ops K (⟨dst,op,ty,pos,after,g⟩::rest) e w:=KN hg hd k
theorem zp {c:Operand} (hc:ev e c= .bool t) (k:OW P n ops K rest (bQ e dst (bif t then ev e x else ev e y)) w) (hg:gate ops e g=true:=by rfl) (hd:cm n dst=true:=by rfl):OW P n ops K (⟨dst,.pick c x y,ty,pos,after,g⟩::rest) e w:=P4 hg hd hc k
theorem zf (hS:fT P S i=some off) (hx:ev e x= .pointer (some ⟨b,o,none⟩)) (k:OW P n ops K rest (bQ e dst (.pointer (some ⟨b,o+off,none⟩))) w) (hg:gate ops e g=true:=by rfl) (hd:cm n dst=true:=by rfl):
  OW P n ops K (⟨dst,.fieldAddr S x i,ty,pos,after,g⟩::rest) e w:=P8 hS hg hd hx k
theorem zl {a:Addr} (hT:pq P T=true) (hx:ev e x= .pointer (some a)) (hc:w.cell? a=some v) (k:OW P n ops K rest (bQ e dst v) w) (hg:gate ops e g=true:=by rfl) (hd:cm n dst=true:=by rfl):
  OW P n ops K (⟨dst,.load T x,ty,pos,after,g⟩::rest) e w:=Yv hT hg hd hx hc k
theorem zL (hT:ri P T=true) (jL:TI P T sz bytes z) (hx:ev e x= .pointer (some ⟨b,o,none⟩)) (hc:fQ w b o vs) (hl:vs.length=sz) (k:OW P n ops K rest (bQ e dst (.agg vs.toArray)) w) (hg:gate ops e g=true:=by rfl) (hd:cm n dst=true:=by rfl):
  OW P n ops K (⟨dst,.load T x,ty,pos,after,g⟩::rest) e w:=Yw hT jL hg hd hx hc hl k
theorem zi {T E:TypeId} {len cap i:Nat} {ki:IntKind} (hT:P.underlying T=some (.slice E)) (hE:TI P E sz bytes z) (hx:ev e x= .slice (some ⟨b,o,none⟩) len cap) (hy:ev e y= .int ki (i:Int)) (hi:i<len) 
  (k:OW P n ops K rest (bQ e dst (.pointer (some ⟨b,o+i*sz,none⟩))) w) (hg:gate ops e g=true:=by rfl) (hd:cm n dst=true:=by rfl):OW P n ops K (⟨dst,.indexAddr T x y,ty,pos,after,g⟩::rest) e w:=P9 hT hE hg hd hx hy hi k
theorem zx (hx:ev e x= .tuple vs.toArray) (hi:vs[i]?=some v) (k:OW P n ops K rest (bQ e dst v) w) (hg:gate ops e g=true:=by rfl) (hd:cm n dst=true:=by rfl):
  OW P n ops K (⟨dst,.extract x i,ty,pos,after,g⟩::rest) e w:=Qa hg hd hx hi k
end
theorem vfm {W ds:List Nat} {its:List Ie} {Js:List (List Nat->List Value->World->Prop)} {G0:List Nat} {k:Nat} {o:Oper} (hr:uG P n ops W ds its Js e0 G0 w0 (k+1) l r) (h:IM P n ops W ds its e0 G0 w0 k o d:=by exact λ_ _ _ _ _ _=>zm fv) (hk:(its.getD k lZ).j6=none:=by rfl):uG P n ops W ds its Js e0 G0 w0 k (o::l) (d::r):=vf h hr hk
theorem vk {W ds:List Nat} {its:List It} {wz:World} {k:Nat} {o:Oper} (aB:aj [] wz w0) (h:∀(x:Env) (w:World),aj [] wz w->dq its ds w d λacc=>OW P n ops (λe' w'=>aj [] w w'∧(its.getD k (.p λ_ _=>True)).F (e' (ds.getD k 0)) w'∧eh [ds.getD k 0] (bm (bg W x e0) acc) e') [o] (bm (bg W x e0) acc) w) (hr:qI P n ops W ds its e0 w0 (k+1) l r):qI P n ops W ds its e0 w0 k (o::l) (d::r):=vc (λx w hk=>h x w (aj.trans aB hk)) hr
theorem zW {W ds:List Nat} {its:List It} {k:Nat} {o:Oper} (hr:qI P n ops W ds its e0 w0 (k+1) l r) (h:FW P n ops W ds its e0 w0 k o d:=by exact λ_ _ _=>zm pv):qI P n ops W ds its e0 w0 k (o::l) (d::r):=⟨h,hr⟩
theorem vcs {W ds:List Nat} {its:List It} {k:Nat} {o:Oper} (hr:qI P n ops W ds its e0 w0 (k+1) l r) (h:FW P n ops W ds its e0 w0 k o d:=by exact λ_ _ _=>KN rfl rfl pv):qI P n ops W ds its e0 w0 k (o::l) (d::r):=⟨h,hr⟩
class FO (P:Program) (S i:Nat) (off:outParam Nat):Prop where h:fT P S i=some off
class O1 (P:Program) (T:Nat):Prop where h:pq P T=true
class OA (P:Program) (T:Nat):Prop where h:ri P T=true
class l0 (P:Program) (T:Nat) (sz bytes:outParam Nat) (z:outParam Value):Prop where h:TI P T sz bytes z
class UL (P:Program) (T:Nat) (d:outParam TypeDesc):Prop where h:P.underlying T=some d
instance:OA Tryz.prog 152:=⟨ac3⟩
instance:OA Tryz.prog 166:=⟨RG⟩
instance:OA Tryz.prog 43:=⟨xA⟩
instance:OA Tryz.prog 56:=⟨FG⟩
instance:OA Tryz.prog 58:=⟨DD⟩
instance:OA Tryz.prog 66:=⟨uA⟩
instance:OA Tryz.prog 74:=⟨eQ⟩
instance:UL Tryz.prog 4 .bool:=⟨adf⟩
instance:FO Tryz.prog 102 0 0:=⟨adg⟩
instance:FO Tryz.prog 102 1 1:=⟨RI⟩
instance:FO Tryz.prog 152 0 0:=⟨adh⟩
instance:FO Tryz.prog 152 1 1:=⟨adi⟩
instance:FO Tryz.prog 164 0 0:=⟨adj⟩
instance:FO Tryz.prog 164 1 1:=⟨adk⟩
instance:FO Tryz.prog 164 2 2:=⟨adl⟩
instance:FO Tryz.prog 164 3 3:=⟨adm⟩
instance:FO Tryz.prog 164 4 4:=⟨adn⟩
instance:FO Tryz.prog 164 5 5:=⟨ado⟩
instance:FO Tryz.prog 166 0 0:=⟨adp⟩
instance:FO Tryz.prog 166 1 1:=⟨RJ⟩
instance:FO Tryz.prog 166 10 11:=⟨adq⟩
instance:FO Tryz.prog 166 2 2:=⟨adr⟩
instance:FO Tryz.prog 166 3 3:=⟨Ip⟩
instance:FO Tryz.prog 166 4 4:=⟨ads⟩
instance:FO Tryz.prog 166 5 5:=⟨adt⟩
instance:FO Tryz.prog 166 6 6:=⟨adu⟩
instance:FO Tryz.prog 166 7 7:=⟨RK⟩
instance:FO Tryz.prog 166 8 9:=⟨RL⟩
instance:FO Tryz.prog 166 9 10:=⟨adv⟩
instance:FO Tryz.prog 190 0 0:=⟨adw⟩
instance:FO Tryz.prog 190 1 1:=⟨adx⟩
instance:FO Tryz.prog 190 2 2:=⟨ady⟩
instance:FO Tryz.prog 190 3 3:=⟨adz⟩
instance:FO Tryz.prog 228 0 0:=⟨adA⟩
instance:FO Tryz.prog 228 1 1:=⟨adB⟩
instance:FO Tryz.prog 43 0 0:=⟨RM⟩
instance:FO Tryz.prog 43 1 1:=⟨adC⟩
instance:FO Tryz.prog 43 2 2:=⟨adD⟩
instance:FO Tryz.prog 43 3 3:=⟨LL⟩
instance:FO Tryz.prog 56 0 0:=⟨adE⟩
instance:FO Tryz.prog 56 1 1:=⟨RO⟩
instance:FO Tryz.prog 56 2 2:=⟨RP⟩
instance:FO Tryz.prog 58 0 0:=⟨LM⟩
instance:FO Tryz.prog 58 1 1:=⟨LN⟩
instance:FO Tryz.prog 58 2 2:=⟨zv⟩
instance:FO Tryz.prog 66 0 0:=⟨Iq⟩
instance:FO Tryz.prog 66 1 1:=⟨RQ⟩
instance:FO Tryz.prog 74 0 0:=⟨kY⟩
instance:FO Tryz.prog 74 1 1:=⟨jt⟩
instance:l0 Tryz.prog 113 2 32 (.agg #[.pointer none,.slice none 0 0]):=⟨RR⟩
instance:l0 Tryz.prog 152 2 48 (.agg #[.slice none 0 0,.slice none 0 0]):=⟨BD⟩
instance:l0 Tryz.prog 162 1 24 (.slice none 0 0):=⟨Ir⟩
instance:l0 Tryz.prog 166 12 216 (.agg #[.string ⟨#[]⟩,.slice none 0 0,.int .i64 0,.slice none 0 0,.slice none 0 0,.slice none 0 0,.slice none 0 0,.string ⟨#[]⟩,.slice none 0 0,.int .i64 0,.string ⟨#[]⟩,.int .i64 0]):=⟨mx⟩
instance:l0 Tryz.prog 23 1 24 (.slice none 0 0):=⟨RS⟩
instance:l0 Tryz.prog 3 1 8 (.int .i64 0):=⟨p6⟩
instance:l0 Tryz.prog 35 1 24 (.slice none 0 0):=⟨kz⟩
instance:l0 Tryz.prog 4 1 1 (.bool false):=⟨RT⟩
instance:l0 Tryz.prog 41 1 24 (.slice none 0 0):=⟨LO⟩
instance:l0 Tryz.prog 43 4 72 (.agg #[.string ⟨#[]⟩,.int .i64 0,.slice none 0 0,.slice none 0 0]):=⟨iZ⟩
instance:l0 Tryz.prog 5 1 1 (.int .u8 0):=⟨FI⟩
instance:l0 Tryz.prog 54 1 24 (.slice none 0 0):=⟨Is⟩
instance:l0 Tryz.prog 56 3 64 (.agg #[.string ⟨#[]⟩,.slice none 0 0,.slice none 0 0]):=⟨nq⟩
instance:l0 Tryz.prog 58 3 64 (.agg #[.string ⟨#[]⟩,.slice none 0 0,.slice none 0 0]):=⟨gB⟩
instance:l0 Tryz.prog 66 2 40 (.agg #[.string ⟨#[]⟩,.slice none 0 0]):=⟨fc⟩
instance:l0 Tryz.prog 72 1 24 (.slice none 0 0):=⟨DE⟩
instance:l0 Tryz.prog 74 2 40 (.agg #[.string ⟨#[]⟩,.slice none 0 0]):=⟨aL⟩
instance:l0 Tryz.prog 9 1 16 (.string ⟨#[]⟩):=⟨bf⟩
instance:l0 Tryz.prog 98 1 24 (.slice none 0 0):=⟨RU⟩
instance:UL Tryz.prog 181 (.int .u64):=⟨Iv⟩
instance:UL Tryz.prog 3 (.int .i64):=⟨vO⟩
instance:UL Tryz.prog 5 (.int .u8):=⟨xB⟩
instance:O1 Tryz.prog 162:=⟨adF⟩
instance:O1 Tryz.prog 22:=⟨adG⟩
instance:O1 Tryz.prog 23:=⟨adH⟩
instance:O1 Tryz.prog 3:=⟨LQ⟩
instance:O1 Tryz.prog 35:=⟨tl⟩
instance:O1 Tryz.prog 4:=⟨RV⟩
instance:O1 Tryz.prog 41:=⟨FJ⟩
instance:O1 Tryz.prog 5:=⟨adI⟩
instance:O1 Tryz.prog 54:=⟨LR⟩
instance:O1 Tryz.prog 72:=⟨iG⟩
instance:O1 Tryz.prog 9:=⟨fA⟩
instance:O1 Tryz.prog 98:=⟨adJ⟩
instance:UL Tryz.prog 162 (.slice 166):=⟨zw⟩
instance:UL Tryz.prog 22 (.slice 5):=⟨BE⟩
instance:UL Tryz.prog 23 (.slice 58):=⟨jD⟩
instance:UL Tryz.prog 35 (.slice 9):=⟨bh⟩
instance:UL Tryz.prog 41 (.slice 35):=⟨BF⟩
instance:UL Tryz.prog 51 (.slice 56):=⟨BG⟩
instance:UL Tryz.prog 54 (.slice 66):=⟨p7⟩
instance:UL Tryz.prog 72 (.slice 74):=⟨cB⟩
instance:UL Tryz.prog 98 (.slice 3):=⟨DF⟩
instance:UL Tryz.prog 9 .string:=⟨ia⟩
section
variable {P:Program} {n:Nat} {ops:Array Oper} {K:Env->World->Prop} {rest:List Oper} {e:Env} {w:World}
 {dst:Option Nat} {ty:TypeId} {pos:String} {after:Array Edge} {g:Option (Nat×Bool)} {x y:Operand} {T T' E:TypeId}
theorem wN {a:Addr} (k:OW P n ops K rest (bQ e dst (.pointer (some a))) w) (hx:ev e x= .pointer (some a):=by rfl) (hg:gate ops e g=true:=by rfl) (hd:cm n dst=true:=by rfl):OW P n ops K (⟨dst,.nilCheck x,ty,pos,after,g⟩::rest) e w:=E6 hg hd hx k
theorem wF [hS:FO P S i off] (k:OW P n ops K rest (bQ e dst (.pointer (some ⟨b,o+off,none⟩))) w) (hx:ev e x= .pointer (some ⟨b,o,none⟩):=by rfl) (hg:gate ops e g=true:=by rfl) (hd:cm n dst=true:=by rfl):
  OW P n ops K (⟨dst,.fieldAddr S x i,ty,pos,after,g⟩::rest) e w:=P8 hS.h hg hd hx k
theorem wB [hT:O1 P T] (k:OW P n ops K rest (bQ e dst v) w) (hx:ev e x= .pointer (some ⟨b,o,none⟩):=by rfl) (hb:aJ w b vs.toArray U:=by first|with_reducible assumption|exact dL.gX (by with_reducible assumption)|assumption) (hc:vs[o]?=some v:=by rfl) (hg:gate ops e g=true:=by rfl) (hd:cm n dst=true:=by rfl):
  OW P n ops K (⟨dst,.load T x,ty,pos,after,g⟩::rest) e w:=zl hT.h hx (hb.at hc) k hg hd
theorem wM [hT:OA P T] [jL:l0 P T sz bytes z] (k:OW P n ops K rest (bQ e dst (.agg vs.toArray)) w) (hx:ev e x= .pointer (some ⟨b,0,none⟩):=by rfl) (hb:aJ w b vs.toArray U:=by first|with_reducible assumption|exact dL.gX (by with_reducible assumption)|assumption) (hl:vs.length=sz:=by rfl) (hg:gate ops e g=true:=by rfl) (hd:cm n dst=true:=by rfl):
  OW P n ops K (⟨dst,.load T x,ty,pos,after,g⟩::rest) e w:=zL hT.h jL.h hx hb.all hl k hg hd
theorem wC [hT:O1 P T] (k:OW P n ops K rest (bQ e dst v) w) (hx:ev e x= .pointer (some ⟨b,o,none⟩):=by rfl) (hb:fQ w b o vs:=by first|with_reducible assumption|exact fp.cells (by with_reducible assumption)|assumption) (hc:vs[0]?=some v:=by rfl) (hg:gate ops e g=true:=by rfl) (hd:cm n dst=true:=by rfl):
  OW P n ops K (⟨dst,.load T x,ty,pos,after,g⟩::rest) e w:=zl hT.h hx (hb 0 _ hc) k hg hd
theorem wD [hT:O1 P T] (k:OW P n ops K rest (bQ e dst v) w) (hx:ev e x= .pointer (some ⟨b,o+1,none⟩):=by rfl) (hb:fQ w b o vs:=by first|with_reducible assumption|exact fp.cells (by with_reducible assumption)|assumption) (hc:vs[1]?=some v:=by rfl) (hg:gate ops e g=true:=by rfl) (hd:cm n dst=true:=by rfl):
  OW P n ops K (⟨dst,.load T x,ty,pos,after,g⟩::rest) e w:=zl hT.h hx (hb 1 _ hc) k hg hd
theorem wE [hT:OA P T] [jL:l0 P T sz bytes z] (k:OW P n ops K rest (bQ e dst (.agg vs.toArray)) w) (hx:ev e x= .pointer (some ⟨b,o,none⟩):=by rfl) (hb:fQ w b o vs:=by first|with_reducible assumption|exact fp.cells (by with_reducible assumption)|assumption) (hl:vs.length=sz:=by rfl) (hg:gate ops e g=true:=by rfl) (hd:cm n dst=true:=by rfl):
  OW P n ops K (⟨dst,.load T x,ty,pos,after,g⟩::rest) e w:=zL hT.h jL.h hx hb hl k hg hd
theorem wi {len cap:Nat} {ki:IntKind} [hT:UL P T (.slice E)] [hE:l0 P E sz bytes z] (k:OW P n ops K rest (bQ e dst (.pointer (some ⟨b,o+i*sz,none⟩))) w) (hx:ev e x= .slice (some ⟨b,o,none⟩) len cap:=by rfl) (hy:ev e y= .int ki (i:Int):=by rfl) (hi:i<len:=by omega) 
  (hg:gate ops e g=true:=by rfl) (hd:cm n dst=true:=by rfl):OW P n ops K (⟨dst,.indexAddr T x y,ty,pos,after,g⟩::rest) e w:=P9 hT.h hE.h hg hd hx hy hi k
theorem wp {c:Operand} (k:OW P n ops K rest (bQ e dst (bif t then ev e x else ev e y)) w) (hc:ev e c= .bool t:=by rfl) (hg:gate ops e g=true:=by rfl) (hd:cm n dst=true:=by rfl):OW P n ops K (⟨dst,.pick c x y,ty,pos,after,g⟩::rest) e w:=P4 hg hd hc k
theorem wx (k:OW P n ops K rest (bQ e dst v) w) (hx:ev e x= .tuple vs.toArray:=by rfl) (hi:vs[i]?=some v:=by rfl) (hg:gate ops e g=true:=by rfl) (hd:cm n dst=true:=by rfl):
  OW P n ops K (⟨dst,.extract x i,ty,pos,after,g⟩::rest) e w:=Qa hg hd hx hi k
theorem zX {b:Int} (c:OW P n ops K rest (bQ e dst (.bool (decide (a=b)))) w) (hx:ev e x= .int k a:=by rfl) (hy:ev e y= .int k' b:=by rfl) (hk:k=k':=by rfl) (hg:gate ops e g=true:=by rfl) (hd:cm n dst=true:=by rfl):OW P n ops K (⟨dst,.binOp .eql T x y T',ty,pos,after,g⟩::rest) e w:=uj (hg:=hg) (hd:=hd) (hx:=hx) (hy:=hy) (hk:=hk) (c:=c)
theorem zY {b:Int} (c:OW P n ops K rest (bQ e dst (.bool (decide (a≠b)))) w) (hx:ev e x= .int k a:=by rfl) (hy:ev e y= .int k' b:=by rfl) (hk:k=k':=by rfl) (hg:gate ops e g=true:=by rfl) (hd:cm n dst=true:=by rfl):OW P n ops K (⟨dst,.binOp .neq T x y T',ty,pos,after,g⟩::rest) e w:=E8 (hg:=hg) (hd:=hd) (hx:=hx) (hy:=hy) (hk:=hk) (c:=c)
theorem z1 {b:Int} (c:OW P n ops K rest (bQ e dst (.bool (decide (a<b)))) w) (hx:ev e x= .int k a:=by rfl) (hy:ev e y= .int k' b:=by rfl) (hk:k=k':=by rfl) (hg:gate ops e g=true:=by rfl) (hd:cm n dst=true:=by rfl):OW P n ops K (⟨dst,.binOp .lss T x y T',ty,pos,after,g⟩::rest) e w:=HZ (hg:=hg) (hd:=hd) (hx:=hx) (hy:=hy) (hk:=hk) (c:=c)
theorem z6 {b:Int} (c:OW P n ops K rest (bQ e dst (.bool (decide (a<=b)))) w) (hx:ev e x= .int k a:=by rfl) (hy:ev e y= .int k' b:=by rfl) (hk:k=k':=by rfl) (hg:gate ops e g=true:=by rfl) (hd:cm n dst=true:=by rfl):OW P n ops K (⟨dst,.binOp .leq T x y T',ty,pos,after,g⟩::rest) e w:=YB (hg:=hg) (hd:=hd) (hx:=hx) (hy:=hy) (hk:=hk) (c:=c)
theorem z7 {b:Int} (c:OW P n ops K rest (bQ e dst (.bool (decide (b<a)))) w) (hx:ev e x= .int k a:=by rfl) (hy:ev e y= .int k' b:=by rfl) (hk:k=k':=by rfl) (hg:gate ops e g=true:=by rfl) (hd:cm n dst=true:=by rfl):OW P n ops K (⟨dst,.binOp .gtr T x y T',ty,pos,after,g⟩::rest) e w:=E7 (hg:=hg) (hd:=hd) (hx:=hx) (hy:=hy) (hk:=hk) (c:=c)
theorem z8 {b:Int} (c:OW P n ops K rest (bQ e dst (.bool (decide (b<=a)))) w) (hx:ev e x= .int k a:=by rfl) (hy:ev e y= .int k' b:=by rfl) (hk:k=k':=by rfl) (hg:gate ops e g=true:=by rfl) (hd:cm n dst=true:=by rfl):OW P n ops K (⟨dst,.binOp .geq T x y T',ty,pos,after,g⟩::rest) e w:=YC (hg:=hg) (hd:=hd) (hx:=hx) (hy:=hy) (hk:=hk) (c:=c)
theorem Aa {a b:List UInt8} (c:OW P n ops K rest (bQ e dst (.bool (decide (a=b)))) w) (hx:ev e x=str a:=by rfl) (hy:ev e y=str b:=by rfl) (hg:gate ops e g=true:=by rfl) (hd:cm n dst=true:=by rfl):OW P n ops K (⟨dst,.binOp .eql T x y T',ty,pos,after,g⟩::rest) e w:=Bh (hg:=hg) (hd:=hd) (hx:=hx) (hy:=hy) (c:=c)
theorem Ab {a b:List UInt8} (c:OW P n ops K rest (bQ e dst (.bool (decide (a≠b)))) w) (hx:ev e x=str a:=by rfl) (hy:ev e y=str b:=by rfl) (hg:gate ops e g=true:=by rfl) (hd:cm n dst=true:=by rfl):OW P n ops K (⟨dst,.binOp .neq T x y T',ty,pos,after,g⟩::rest) e w:=H2 (hg:=hg) (hd:=hd) (hx:=hx) (hy:=hy) (c:=c)
theorem Ac {b:Bool} (c:OW P n ops K rest (bQ e dst (.bool (!b))) w) (hx:ev e x= .bool b:=by rfl) (hg:gate ops e g=true:=by rfl) (hd:cm n dst=true:=by rfl):OW P n ops K (⟨dst,.unOp .not T x,ty,pos,after,g⟩::rest) e w:=km (hg:=hg) (hd:=hd) (hx:=hx) (c:=c)
theorem Ad {a b:Bool} [hT:UL P T .bool] (c:OW P n ops K rest (bQ e dst (.bool (a==b))) w) (hx:ev e x= .bool a:=by rfl) (hy:ev e y= .bool b:=by rfl) (hg:gate ops e g=true:=by rfl) (hd:cm n dst=true:=by rfl):OW P n ops K (⟨dst,.binOp .eql T x y T',ty,pos,after,g⟩::rest) e w:=YD (hT:=hT.h) (hg:=hg) (hd:=hd) (hx:=hx) (hy:=hy) (c:=c)
theorem Ae {a b:Bool} [hT:UL P T .bool] (c:OW P n ops K rest (bQ e dst (.bool (!(a==b)))) w) (hx:ev e x= .bool a:=by rfl) (hy:ev e y= .bool b:=by rfl) (hg:gate ops e g=true:=by rfl) (hd:cm n dst=true:=by rfl):OW P n ops K (⟨dst,.binOp .neq T x y T',ty,pos,after,g⟩::rest) e w:=YE (hT:=hT.h) (hg:=hg) (hd:=hd) (hx:=hx) (hy:=hy) (c:=c)
theorem Af {T E:TypeId} {x:Operand} {a:Option Addr} {m cap:Nat} [hT:UL P T (.slice E)] (k:OW P n ops K rest (bQ e dst (.int .i64 m)) w) (hx:ev e x= .slice a m cap:=by rfl) (hg:gate ops e g=true:=by rfl) (hd:cm n dst=true:=by rfl):OW P n ops K (⟨dst,.call {callee:=.builtin .len,args:=#[x],argTypes:=#[T]},ty,pos,after,g⟩::rest) e w:=Dm (hT:=hT.h) (hg:=hg) (hd:=hd) (hx:=hx) (k:=k)
theorem Ag {a:List UInt8} [hT:UL P T .string] (k:OW P n ops K rest (bQ e dst (.int .i64 (a.length:Nat))) w) (hx:ev e x=str a:=by rfl) (hg:gate ops e g=true:=by rfl) (hd:cm n dst=true:=by rfl):OW P n ops K (⟨dst,.call {callee:=.builtin .len,args:=#[x],argTypes:=#[T]},ty,pos,after,g⟩::rest) e w:=YH (hT:=hT.h) (hg:=hg) (hd:=hd) (hx:=hx) (k:=k)
theorem Ah {b c:Int} (c':OW P n ops K rest (bQ e dst (.int k c)) w) (hx:ev e x= .int k a:=by rfl) (hy:ev e y= .int k' b:=by rfl) (hk:k=k':=by rfl) (hc:k.wrap (a+b)=c:=by exact wrap_i64 _ om om) (hg:gate ops e g=true:=by rfl) (hd:cm n dst=true:=by rfl):OW P n ops K (⟨dst,.binOp .add T x y T',ty,pos,after,g⟩::rest) e w:=nU (hg:=hg) (hd:=hd) (hx:=hx) (hy:=hy) (hk:=hk) (hc:=hc) (c':=c')
theorem BP {b c:Int} (c':OW P n ops K rest (bQ e dst (.int k c)) w) (hx:ev e x= .int k a:=by rfl) (hy:ev e y= .int k' b:=by rfl) (hk:k=k':=by rfl) (hc:k.wrap (a-b)=c:=by exact wrap_i64 _ om om) (hg:gate ops e g=true:=by rfl) (hd:cm n dst=true:=by rfl):OW P n ops K (⟨dst,.binOp .sub T x y T',ty,pos,after,g⟩::rest) e w:=xh (hg:=hg) (hd:=hd) (hx:=hx) (hy:=hy) (hk:=hk) (hc:=hc) (c':=c')
theorem BQ {b c:Int} (c':OW P n ops K rest (bQ e dst (.int k c)) w) (hx:ev e x= .int k a:=by rfl) (hy:ev e y= .int k' b:=by rfl) (hk:k=k':=by rfl) (hc:k.wrap (a*b)=c:=by exact wrap_i64 _ om om) (hg:gate ops e g=true:=by rfl) (hd:cm n dst=true:=by rfl):OW P n ops K (⟨dst,.binOp .mul T x y T',ty,pos,after,g⟩::rest) e w:=H0 (hg:=hg) (hd:=hd) (hx:=hx) (hy:=hy) (hk:=hk) (hc:=hc) (c':=c')
theorem BR {a b:List UInt8} (c:OW P n ops K rest (bQ e dst (str (a++b))) w) (hx:ev e x=str a:=by rfl) (hy:ev e y=str b:=by rfl) (hs:a.length+b.length<=9223372036854775807:=by(simp;omega)) (hg:gate ops e g=true:=by rfl) (hd:cm n dst=true:=by rfl):OW P n ops K (⟨dst,.binOp .add T x y T',ty,pos,after,g⟩::rest) e w:=gU (hg:=hg) (hd:=hd) (hx:=hx) (hy:=hy) (hs:=hs) (c:=c)
end
theorem bI {TA TB TA' TB':Prop} (k:aj [] w w') (ta:TA) (tb:TB) (y:TA'->TB'->p) (xta:aj [] w w'->TA->TA':=by intro k h;exact h.ext k) (xtb:aj [] w w'->TB->TB':=by intro k h;exact h.ext k):p:=y (xta k ta) (xtb k tb)
theorem cG {TA TB TC TA' TB' TC':Prop} (k:aj [] w w') (ta:TA) (tb:TB) (tc:TC) (y:TA'->TB'->TC'->p) (xta:aj [] w w'->TA->TA':=by intro k h;exact h.ext k) (xtb:aj [] w w'->TB->TB':=by intro k h;exact h.ext k) (xtc:aj [] w w'->TC->TC':=by intro k h;exact h.ext k):p:=y (xta k ta) (xtb k tb) (xtc k tc)
theorem gQ {TA TB TC TD TA' TB' TC' TD':Prop} (k:aj [] w w') (ta:TA) (tb:TB) (tc:TC) (td:TD) (y:TA'->TB'->TC'->TD'->p) (xta:aj [] w w'->TA->TA':=by intro k h;exact h.ext k) (xtb:aj [] w w'->TB->TB':=by intro k h;exact h.ext k) (xtc:aj [] w w'->TC->TC':=by intro k h;exact h.ext k) (xtd:aj [] w w'->TD->TD':=by intro k h;exact h.ext k):p:=y (xta k ta) (xtb k tb) (xtc k tc) (xtd k td)
theorem la {TA TB TC TD TE TA' TB' TC' TD' TE':Prop} (k:aj [] w w') (ta:TA) (tb:TB) (tc:TC) (td:TD) (te:TE) (y:TA'->TB'->TC'->TD'->TE'->p) (xta:aj [] w w'->TA->TA':=by intro k h;exact h.ext k) (xtb:aj [] w w'->TB->TB':=by intro k h;exact h.ext k) (xtc:aj [] w w'->TC->TC':=by intro k h;exact h.ext k) (xtd:aj [] w w'->TD->TD':=by intro k h;exact h.ext k) (xte:aj [] w w'->TE->TE':=by intro k h;exact h.ext k):p:=y (xta k ta) (xtb k tb) (xtc k tc) (xtd k td) (xte k te)
theorem sB {TA TB TC TD TE TF TA' TB' TC' TD' TE' TF':Prop} (k:aj [] w w') (ta:TA) (tb:TB) (tc:TC) (td:TD) (te:TE) (tf:TF) (y:TA'->TB'->TC'->TD'->TE'->TF'->p) (xta:aj [] w w'->TA->TA':=by intro k h;exact h.ext k) (xtb:aj [] w w'->TB->TB':=by intro k h;exact h.ext k) (xtc:aj [] w w'->TC->TC':=by intro k h;exact h.ext k) (xtd:aj [] w w'->TD->TD':=by intro k h;exact h.ext k) (xte:aj [] w w'->TE->TE':=by intro k h;exact h.ext k) (xtf:aj [] w w'->TF->TF':=by intro k h;exact h.ext k):p:=y (xta k ta) (xtb k tb) (xtc k tc) (xtd k td) (xte k te) (xtf k tf)
theorem IS {TA TB TC TD TE TF TG TA' TB' TC' TD' TE' TF' TG':Prop} (k:aj [] w w') (ta:TA) (tb:TB) (tc:TC) (td:TD) (te:TE) (tf:TF) (tg:TG) (y:TA'->TB'->TC'->TD'->TE'->TF'->TG'->p) (xta:aj [] w w'->TA->TA':=by intro k h;exact h.ext k) (xtb:aj [] w w'->TB->TB':=by intro k h;exact h.ext k) (xtc:aj [] w w'->TC->TC':=by intro k h;exact h.ext k) (xtd:aj [] w w'->TD->TD':=by intro k h;exact h.ext k) (xte:aj [] w w'->TE->TE':=by intro k h;exact h.ext k) (xtf:aj [] w w'->TF->TF':=by intro k h;exact h.ext k) (xtg:aj [] w w'->TG->TG':=by intro k h;exact h.ext k):p:=y (xta k ta) (xtb k tb) (xtc k tc) (xtd k td) (xte k te) (xtf k tf) (xtg k tg)
theorem BS {TA TB TC TD TE TF TG TM TA' TB' TC' TD' TE' TF' TG' TM':Prop} (k:aj [] w w') (ta:TA) (tb:TB) (tc:TC) (td:TD) (te:TE) (tf:TF) (tg:TG) (tm:TM) (y:TA'->TB'->TC'->TD'->TE'->TF'->TG'->TM'->p) (xta:aj [] w w'->TA->TA':=by intro k h;exact h.ext k) (xtb:aj [] w w'->TB->TB':=by intro k h;exact h.ext k) (xtc:aj [] w w'->TC->TC':=by intro k h;exact h.ext k) (xtd:aj [] w w'->TD->TD':=by intro k h;exact h.ext k) (xte:aj [] w w'->TE->TE':=by intro k h;exact h.ext k) (xtf:aj [] w w'->TF->TF':=by intro k h;exact h.ext k) (xtg:aj [] w w'->TG->TG':=by intro k h;exact h.ext k) (xtm:aj [] w w'->TM->TM':=by intro k h;exact h.ext k):p:=y (xta k ta) (xtb k tb) (xtc k tc) (xtd k td) (xte k te) (xtf k tf) (xtg k tg) (xtm k tm)
theorem aep {TA TB TC TD TE TF TG TM TN TA' TB' TC' TD' TE' TF' TG' TM' TN':Prop} (k:aj [] w w') (ta:TA) (tb:TB) (tc:TC) (td:TD) (te:TE) (tf:TF) (tg:TG) (tm:TM) (tn:TN) (y:TA'->TB'->TC'->TD'->TE'->TF'->TG'->TM'->TN'->p) (xta:aj [] w w'->TA->TA':=by intro k h;exact h.ext k) (xtb:aj [] w w'->TB->TB':=by intro k h;exact h.ext k) (xtc:aj [] w w'->TC->TC':=by intro k h;exact h.ext k) (xtd:aj [] w w'->TD->TD':=by intro k h;exact h.ext k) (xte:aj [] w w'->TE->TE':=by intro k h;exact h.ext k) (xtf:aj [] w w'->TF->TF':=by intro k h;exact h.ext k) (xtg:aj [] w w'->TG->TG':=by intro k h;exact h.ext k) (xtm:aj [] w w'->TM->TM':=by intro k h;exact h.ext k) (xtn:aj [] w w'->TN->TN':=by intro k h;exact h.ext k):p:=y (xta k ta) (xtb k tb) (xtc k tc) (xtd k td) (xte k te) (xtf k tf) (xtg k tg) (xtm k tm) (xtn k tn)
structure Hd (q:Prop):Prop where out:q
theorem W (k:q) (h:Hd q->p:=by intro k;(repeat(first|refine zm ?_|refine zA ?_|refine zr ?_|refine aZ ?_|refine zs ?_|refine wF ?_|refine wB ?_|refine wC ?_|refine wD ?_|refine wM ?_|refine wE ?_|refine wN ?_|refine wp ?_|refine wx ?_|refine jq ?_|refine gz ?_|refine lp ?_|refine r6 ?_|refine zX ?_|refine zY ?_|refine z1 ?_|refine z6 ?_|refine z7 ?_|refine z8 ?_|refine Aa ?_|refine Ab ?_|refine Ac ?_|refine Af ?_|refine Ag ?_|refine Ad ?_|refine Ae ?_|refine wi ?_|refine Ah ?_|refine BP ?_|refine BQ ?_|refine BR ?_|refine jJ ?_|refine yP ?_|refine yQ rfl ?_|refine Dj rfl ?_));exact k.out):p:=h ⟨k⟩
theorem WL (k:q) (h:Hd q->p:=by intro k;(repeat(first|refine zm ?_|refine zA ?_|refine zr ?_|refine aZ ?_|refine zs ?_|refine wF ?_|refine wN ?_|refine wp ?_|refine wx ?_|refine jq ?_|refine gz ?_|refine lp ?_|refine r6 ?_|refine zX ?_|refine zY ?_|refine z1 ?_|refine z6 ?_|refine z7 ?_|refine z8 ?_|refine Aa ?_|refine Ab ?_|refine Ac ?_|refine Af ?_|refine Ag ?_|refine Ad ?_|refine Ae ?_|refine wi ?_|refine Ah ?_|refine BP ?_|refine BQ ?_|refine BR ?_|refine jJ ?_|refine yP ?_|refine yQ rfl ?_|refine Dj rfl ?_));exact k.out):p:=h ⟨k⟩
theorem WI (k:q) (h:Hd q->p:=by intro k;(repeat(first|refine zm ?_|refine zA ?_|refine zr ?_|refine aZ ?_|refine zs ?_|refine wF ?_|refine wB ?_|refine wC ?_|refine wD ?_|refine wM ?_|refine wE ?_|refine wN ?_|refine wp ?_|refine wx ?_|refine jq ?_|refine gz ?_|refine lp ?_|refine r6 ?_|refine zX ?_|refine zY ?_|refine z1 ?_|refine z6 ?_|refine z7 ?_|refine z8 ?_|refine Aa ?_|refine Ab ?_|refine Ac ?_|refine Af ?_|refine Ag ?_|refine Ad ?_|refine Ae ?_|refine Ah ?_|refine BP ?_|refine BQ ?_|refine BR ?_|refine jJ ?_|refine yP ?_|refine yQ rfl ?_|refine Dj rfl ?_));exact k.out):p:=h ⟨k⟩
theorem WA (k:q) (h:Hd q->p:=by intro k;(repeat(first|refine zm ?_|refine zA ?_|refine zr ?_|refine aZ ?_|refine zs ?_|refine wF ?_|refine wB ?_|refine wC ?_|refine wD ?_|refine wM ?_|refine wE ?_|refine wN ?_|refine wp ?_|refine wx ?_|refine jq ?_|refine gz ?_|refine lp ?_|refine r6 ?_|refine zX ?_|refine zY ?_|refine z1 ?_|refine z6 ?_|refine z7 ?_|refine z8 ?_|refine Aa ?_|refine Ab ?_|refine Ac ?_|refine Af ?_|refine Ag ?_|refine Ad ?_|refine Ae ?_|refine wi ?_|refine BR ?_|refine jJ ?_|refine yP ?_|refine yQ rfl ?_|refine Dj rfl ?_));exact k.out):p:=h ⟨k⟩
theorem WS (k:q) (h:Hd q->p:=by intro k;(repeat(first|refine zm ?_|refine zA ?_|refine zr ?_|refine aZ ?_|refine zs ?_|refine wF ?_|refine wB ?_|refine wC ?_|refine wD ?_|refine wM ?_|refine wE ?_|refine wN ?_|refine wp ?_|refine wx ?_|refine jq ?_|refine gz ?_|refine lp ?_|refine r6 ?_|refine zX ?_|refine zY ?_|refine z1 ?_|refine z6 ?_|refine z7 ?_|refine z8 ?_|refine Aa ?_|refine Ab ?_|refine Ac ?_|refine Af ?_|refine Ag ?_|refine Ad ?_|refine Ae ?_|refine wi ?_|refine Ah ?_|refine BP ?_|refine BQ ?_|refine jJ ?_|refine yP ?_|refine yQ rfl ?_|refine Dj rfl ?_));exact k.out):p:=h ⟨k⟩
theorem WZ (k:q) (h:Hd q->p:=by intro k;(repeat(first|refine zm ?_|refine zA ?_|refine zr ?_|refine zs ?_|refine wF ?_|refine wB ?_|refine wC ?_|refine wD ?_|refine wM ?_|refine wE ?_|refine wN ?_|refine wp ?_|refine wx ?_|refine jq ?_|refine gz ?_|refine lp ?_|refine r6 ?_|refine zX ?_|refine zY ?_|refine z1 ?_|refine z6 ?_|refine z7 ?_|refine z8 ?_|refine Aa ?_|refine Ab ?_|refine Ac ?_|refine Af ?_|refine Ag ?_|refine Ad ?_|refine Ae ?_|refine wi ?_|refine Ah ?_|refine BP ?_|refine BQ ?_|refine BR ?_|refine jJ ?_|refine yP ?_|refine yQ rfl ?_|refine Dj rfl ?_));exact k.out):p:=h ⟨k⟩
theorem oM {D:List Nat} {e e':Env} (h2:p) (h3:q) (h:eh D e e':=by repeat(first|with_reducible exact xm|refine H3 rfl ?_|refine KR rfl ?_)):eh D e e'∧p∧q:=⟨h,h2,h3⟩
theorem oQ (h:p:=by refine W ?_;exact oM rfl (by first|rfl|exact aj.refl _ _|assumption)):p:=h
section
variable {P:Program} {n:Nat} {ops:Array Oper} {K:Env->World->Prop} {e:Env} {w:World} {l:List Oper} (m tc tp:Nat) (J:World->Prop) {c r:Bool} {p:Prop}
theorem oO (ht:e tc= .bool c) (h1:OW P n ops (λe' w'=>eh (List.range' tc (tp+1-tc)) e e'∧e' tp= .bool true∧J w') (l.take m) (gT e tc (.bool true)) w) [t:tF (c=false) p] 
  (h0:p->OW P n ops (λe' w'=>eh (List.range' tc (tp+1-tc)) e e'∧e' tp= .bool r∧J w') (l.take m) (gT e tc (.bool false)) w)
  (k:∀x w',J w'->OW P n ops K (l.drop m) (gT (bg (List.range' tc (tp+1-tc)) x e) tp (.bool (c||r))) w'):OW P n ops K l e w:=
 Bj m tc tp _ J ht (λ_=>h1) (λh=>h0 (t.imp h)) k
theorem oA (ht:e tc= .bool c) (h0:OW P n ops (λe' w'=>eh (List.range' tc (tp+1-tc)) e e'∧e' tp= .bool false∧J w') (l.take m) (gT e tc (.bool false)) w) [t:tF (c=true) p] 
  (h1:p->OW P n ops (λe' w'=>eh (List.range' tc (tp+1-tc)) e e'∧e' tp= .bool r∧J w') (l.take m) (gT e tc (.bool true)) w)
  (k:∀x w',J w'->OW P n ops K (l.drop m) (gT (bg (List.range' tc (tp+1-tc)) x e) tp (.bool (c&&r))) w'):OW P n ops K l e w:=
 KV m tc tp _ J ht (λh=>h1 (t.imp h)) (λ_=>h0) k
theorem oP (ht:e tc= .bool c) (h1:OW P n ops (λe' w'=>eh (List.range' tc (tp+1-tc)) e e'∧e' tp= .bool true∧w=w') (l.take m) (gT e tc (.bool true)) w) [t:tF (c=false) p] 
  (h0:p->OW P n ops (λe' w'=>eh (List.range' tc (tp+1-tc)) e e'∧e' tp= .bool r∧w=w') (l.take m) (gT e tc (.bool false)) w)
  (k:∀x,OW P n ops K (l.drop m) (gT (bg (List.range' tc (tp+1-tc)) x e) tp (.bool (c||r))) w):OW P n ops K l e w:=
 Bj m tc tp _ (w=·) ht (λ_=>h1) (λh=>h0 (t.imp h)) λx _ hw=>hw▸k x
theorem oB (ht:e tc= .bool c) (h0:OW P n ops (λe' w'=>eh (List.range' tc (tp+1-tc)) e e'∧e' tp= .bool false∧w=w') (l.take m) (gT e tc (.bool false)) w) [t:tF (c=true) p] 
  (h1:p->OW P n ops (λe' w'=>eh (List.range' tc (tp+1-tc)) e e'∧e' tp= .bool r∧w=w') (l.take m) (gT e tc (.bool true)) w)
  (k:∀x,OW P n ops K (l.drop m) (gT (bg (List.range' tc (tp+1-tc)) x e) tp (.bool (c&&r))) w):OW P n ops K l e w:=
 KV m tc tp _ (w=·) ht (λh=>h1 (t.imp h)) (λ_=>h0) λx _ hw=>hw▸k x
end
abbrev it (l:List Value):List It:=l.map It.v
theorem dV {n:Nat} {l:List Oper} {N R:Env->World->Prop} {X:Nat->Env->World->Prop} {id:Nat} {e0:Env} {w0:World} (hm:P.follows .mixedOrders=true) (m:Nat) (ds:List Nat) (deps:List (List Nat)) (its:List It) 
  (hB:um l m ds ds deps=true) (hS:its.all It.FV=true)
  (hc:∀wd,aj [] w0 wd->qI P n l.toArray ds ds its e0 wd 0 (l.take m) deps)
  (ht:∀(x:Env) (w:World),aj [] w0 w->dq its ds w (List.range m) λacc=>OW P n l.toArray N (l.drop m) (bm (bg ds x e0) acc) w):
  CW P n (.region id l.toArray true) N R X e0 w0:=kD hm m ds ds deps its hB hS hc ht
section
variable {P:Program} {n:Nat} {ops:Array Oper} {W ds:List Nat} {e0:Env} {wz w0:World} {k:Nat} {o:Oper} {l:List Oper} {d:List Nat} {r:List (List Nat)}
theorem V1 {its:List It} (aB:aj [] wz w0) (hr:qI P n ops W ds its e0 w0 (k+1) l r) (h:FW P n ops W ds its e0 w0 k o d:=by intro x w hk;first|exact zm pv|exact zA pv|exact zs pv|exact wF pv|exact wB pv (hb:=aJ.ext (by first|with_reducible assumption|assumption) (aj.trans aB hk))|exact wB pv (hb:=dL.gX (dL.ext (by first|with_reducible assumption|assumption) (aj.trans aB hk)))|exact wM pv (hb:=aJ.ext (by first|with_reducible assumption|assumption) (aj.trans aB hk))|exact wM pv (hb:=dL.gX (dL.ext (by first|with_reducible assumption|assumption) (aj.trans aB hk)))|exact wC pv (hb:=fQ.ext (by first|with_reducible assumption|assumption) (aj.trans aB hk))|exact wC pv (hb:=fp.cells (fp.ext (by first|with_reducible assumption|assumption) (aj.trans aB hk)))|exact wD pv (hb:=fQ.ext (by first|with_reducible assumption|assumption) (aj.trans aB hk))|exact wD pv (hb:=fp.cells (fp.ext (by first|with_reducible assumption|assumption) (aj.trans aB hk)))|exact wE pv (hb:=fQ.ext (by first|with_reducible assumption|assumption) (aj.trans aB hk))|exact wE pv (hb:=fp.cells (fp.ext (by first|with_reducible assumption|assumption) (aj.trans aB hk)))|exact wN pv|(refine wp ?_;exact pv)|exact wx pv|exact zX pv|exact zY pv|exact z1 pv|exact z6 pv|exact z7 pv|exact z8 pv|exact Aa pv|exact Ab pv|exact Ac pv|exact Af pv|exact Ag pv|exact Ad pv|exact Ae pv|exact wi pv|exact Ah pv|exact BP pv|exact BQ pv|exact BR pv):qI P n ops W ds its e0 w0 k (o::l) (d::r):=⟨h,hr⟩
theorem F1 {its:List Ie} {Js:List (List Nat->List Value->World->Prop)} {G0:List Nat} (hr:uG P n ops W ds its Js e0 G0 w0 (k+1) l r) (h:IM P n ops W ds its e0 G0 w0 k o d:=by intro x w G aR bD pF;first|exact zm fv|exact zA fv|exact zs fv|exact wF fv|exact wB fv (hb:=dL.gX (dL.go (by first|with_reducible assumption|assumption) bD))|exact wM fv (hb:=dL.gX (dL.go (by first|with_reducible assumption|assumption) bD))|exact wC fv (hb:=fp.cells (fp.go (by first|with_reducible assumption|assumption) bD))|exact wD fv (hb:=fp.cells (fp.go (by first|with_reducible assumption|assumption) bD))|exact wE fv (hb:=fp.cells (fp.go (by first|with_reducible assumption|assumption) bD))|exact wN fv|(refine wp ?_;exact fv)|exact wx fv|exact zX fv|exact zY fv|exact z1 fv|exact z6 fv|exact z7 fv|exact z8 fv|exact Aa fv|exact Ab fv|exact Ac fv|exact Af fv|exact Ag fv|exact Ad fv|exact Ae fv|exact wi fv|exact Ah fv|exact BP fv|exact BQ fv|exact BR fv) (hk:(its.getD k lZ).j6=none:=by rfl):uG P n ops W ds its Js e0 G0 w0 k (o::l) (d::r):=vf h hr hk
end
theorem VA (k:q) (h:Hd q->p:=by intro k;(repeat(refine V1 aB ?_));exact k.out):p:=h ⟨k⟩
theorem VZ (h:p:=by(repeat(refine V1 aB ?_));exact trivial):p:=h
theorem FZ (h:p:=by(repeat(refine F1 ?_));exact trivial):p:=h
theorem FA (k:q) (h:Hd q->p:=by intro k;(repeat(refine F1 ?_));exact k.out):p:=h ⟨k⟩
/-! ### Rows of zero values -/
theorem SH (z:Array Value):∀n:Nat,(madeCells z (n*z.size)).toList=(List.replicate n z.toList).flatten
 |0=>by simp[madeCells]
 |n+1=>by
  have ih:=SH z n
  have e:(madeCells z (n*z.size)).toList=(List.range (n*z.size)).map λi=>z[i%z.size]!:=by simp[madeCells]
  have e2:(madeCells z ((n+1)*z.size)).toList=(List.range ((n+1)*z.size)).map λi=>z[i%z.size]!:=by simp[madeCells]
  rw[e2,Nat.add_mul,Nat.one_mul,Nat.add_comm,List.range_add,List.map_append,List.replicate_succ,List.flatten_cons,<-ih,e]
  congr 1
  ·refine List.ext_getElem sm λi h1 h2=>?_
   have hi:i<z.size:=by simpa using h1
   simp[Nat.mod_eq_of_lt hi,hi]
  ·rw[List.map_map]
   refine List.map_congr_left λi _=>?_
   simp
section
variable {P:Program} {n:Nat} {ops:Array Oper} {K:Env->World->Prop} {rest:List Oper} {e:Env} {w:World}
 {dst:Option Nat} {ty:TypeId} {pos:String} {after:Array Edge} {g:Option (Nat×Bool)} {x y:Operand}
/-! ### Elements that are stored -/
def setAt (cs:Array Value) (k:Nat):List Value->Array Value
 |[]=>cs
 |v::vs=>setAt (cs.setIfInBounds k v) (k+1) vs
theorem Mz:∀(vs:List Value) (cs:Array Value) (k:Nat),(setAt cs k vs).size=cs.size:=by intro x;induction x<;>grind [setAt]
theorem IT:∀(vs:List Value) (cs:Array Value) (k:Nat),k+vs.length<=cs.size->(setAt cs k vs).toList=cs.toList.take k++(vs++cs.toList.drop (k+vs.length))
 |[],cs,k,_=>by simp[setAt]
 |v::vs,cs,k,h=>by
  unfold setAt
  simp only[lC] at h
  rw[IT vs _ _ so,Array.toList_setIfInBounds]
  have hk:k<cs.toList.length:=by simp;omega
  rw[List.take_add_one,List.getElem?_set_self hk,List.take_set_of_le (lR k)]
  rw[List.drop_set_of_lt om]
  simp only[Option.toList_some,List.append_assoc,List.cons_append,List.nil_append,lC]
  rw[show k+1+vs.length=k+(vs.length+1) from by omega]
theorem MA:∀(vs:List Value) (i:Nat) (w:World) (b o:Nat) (U:TypeId) (cs:Array Value),aJ w b cs U->o+i+vs.length<=cs.size->(∀u∈vs,u.oneCell'=true)->
  ∃w',(storeCells ⟨b,o,none⟩ vs i).run P w= .ok () w'∧aj [b] w w'∧aJ w' b (setAt cs (o+i) vs) U∧w'.heap.size=w.heap.size
 |[],i,w,b,o,U,cs,hb,_,_=>⟨w,rfl,aj.refl _ _,hb,rfl⟩
 |v::vs,i,w,b,o,U,cs,hb,hs,h1=>by
  simp only[lC] at hs
  have mm:o+i<cs.size:=by omega
  have aS:(store ((⟨b,o,none⟩:Addr).add i) v).run P w= .ok () (w.setCell ⟨b,o+i,none⟩ v):=by
   rw[vE,run_store P w _ v _ (h1 v sm),hb.cell,Array.getElem?_eq_getElem mm,hb.frozen]
   simp
  obtain⟨w',hr,hk,gO,hz⟩:=MA vs (i+1) (w.setCell ⟨b,o+i,none⟩ v) b o U (cs.setIfInBounds (o+i) v) (hb.set (o+i) v) so (λu hu=>h1 u (by simp[hu]))
  refine⟨w',?_,(aj.setCell w b (o+i) v).trans hk,gO,by rw[hz];simp[World.setCell]⟩
  simp only[storeCells,Sem.run_bind,aS,Result.andThen_ok]
  exact hr
theorem SI {α:Type}:∀{rows:List (List α)} {i:Nat} {row:List α},(∀r,r∈rows->r.length=sz)->i<rows.length->row.length=sz->(rows.set i row).flatten=rows.flatten.take (i*sz)++(row++rows.flatten.drop (i*sz+sz))
 |r::rows,0,row,h,_,hr=>by
  have h0:r.length=sz:=h r sm
  simp[<-h0]
 |r::rows,i+1,row,h,hi,hr=>by
  have h0:r.length=sz:=h r sm
  have ih:=SI (rows:=rows) (i:=i) (row:=row) (λr hr=>h r (by simp[hr])) (by simpa using hi) hr
  rw[List.set_cons_succ,List.flatten_cons,List.flatten_cons,ih]
  have e1:(i+1)*sz=r.length+i*sz:=by rw[h0,Nat.add_mul];omega
  have e2:(i+1)*sz+sz=r.length+(i*sz+sz):=by omega
  rw[e2,e1,List.take_length_add_append,List.drop_length_add_append,List.append_assoc]
theorem cW.take {w:World}:∀{k:Nat} {vs:List Value} {cs:List C},cW L w vs cs->cW L w (vs.take k) (cs.take k)
 |0,_,_,_=>by simp[cW]
 |_+1,[],[],_=>trivial
 |_+1,_::_,_::_,h=>⟨h.1,cW.take h.2⟩
theorem cW.drop {w:World}:∀{k:Nat} {vs:List Value} {cs:List C},cW L w vs cs->cW L w (vs.drop k) (cs.drop k)
 |0,_,_,h=>h
 |_+1,[],[],_=>trivial
 |k+1,_::_,_::_,h=>cW.drop (k:=k) h.2
theorem aeq {T:Nat} {v:Value} {vs:List Value} {row:List C} {B:Nat} {L:List Nat} {E gb:Nat} {N c:Nat} {rows:List (List C)} {b o i:Nat} (jL:TI P T sz bytes z) (hg:gate ops e g=true) 
  (hx:ev e x= .pointer (some ⟨b,o,none⟩)) (hy:ev e y=v) (hv:v.cells=vs.toArray) (ho:o=i*sz) (hO:Gr B L w E sz (.slice (some ⟨b,0,none⟩) N c) (some gb) rows) (hi:i<rows.length) (h1:vs.all Value.oneCell'=true)
  (nG:row.length=sz) (hr:cW (gb::L) w vs row)
  (k:∀w',aj [gb] w w'->w'.heap.size=w.heap.size->Gr B L w' E sz (.slice (some ⟨b,0,none⟩) N c) (some gb) (rows.set i row)->OW P n ops K rest e w'):
  OW P n ops K (⟨none,.store T x y,ty,pos,after,g⟩::rest) e w:=by
 subst ho
 obtain⟨xs,⟨⟨kV,h|⟨b',cap,cur,oe,MB,hb,mn,lT,bY,ht⟩⟩,gD,gY,SJ⟩⟩:=hO.own
 ·obtain⟨h,_⟩:=h;cases h
 ·cases MB;cases oe
  have fR:vs.length=sz:=by rw[hr.length,nG]
  have hle:(i+1)*sz<=rows.length*sz:=Nat.mul_le_mul_right _ hi
  have SK:rows.length*sz<=c*sz:=Nat.mul_le_mul_right _ mn
  rw[Nat.add_mul,Nat.one_mul] at hle
  obtain⟨w',jK,hk,gO,hz⟩:=MA (P:=P) vs 0 w gb (i*sz) E cur hb (by rw[bY,fR];omega) (λu hu=>List.all_eq_true.1 h1 u hu)
  rw[Nat.add_zero] at gO
  refine HY hg (w':=w') (by
   simp[execOp,Instr.storeAt,Instr.sureAddr,hx,hy,storeVar,hv,jL.sZ,fR,jK]) (k w' hk hz ⟨⟨xs.take (i*sz)++(vs++xs.drop (i*sz+sz)),⟨⟨?_,.inr ⟨gb,c,_,rfl,sm,gO,by simpa using mn,lT,by rw[Mz];exact bY,?_⟩⟩,?_,?_,SJ⟩⟩,hO.low,λx hx=>by rw[hz];exact hO.cD x hx,by rw[hz];exact hO.bsz⟩)
  ·rw[lA,lA,List.length_take,List.length_drop,List.length_set,kV,fR];omega
  ·rw[IT _ _ _ (by rw[bY,fR];omega),List.length_set,<-ht,fR,List.take_append,List.take_append]
   simp only[List.length_take,Array.length_toList,bY,fR,List.take_take,List.drop_take]
   rw[Nat.min_eq_right (show i*sz<=rows.length*sz by omega),Nat.min_eq_left (show i*sz<=rows.length*sz by omega),Nat.min_eq_left (show i*sz<=c*sz by omega),List.take_of_length_le (l:=vs) om]
   rw[show rows.length*sz-i*sz-sz=rows.length*sz-(i*sz+sz) from by omega]
  ·rw[SI gY hi nG]
   refine cW.append (cW.aG gD.take (hk.mono sm)) (cW.append (hr.aG (hk.mono sm)) (cW.aG gD.drop (hk.mono sm)))
  ·intro r rj
   rcases List.mem_or_eq_of_mem_set rj with h|h
   ·exact gY r h
   ·rw[h];exact nG
/-! ### Slices that are built of several ak -/
theorem SL (off:Nat):∀(us:List Value) (i:Nat) (cs:Array Value),((us.zipIdx i).foldl (fun(cs:Array Value) (p:Value×Nat)=>cs.setIfInBounds (off+p.2) p.1) cs)=setAt cs (off+i) us
 |[],_,_=>rfl
 |u::us,i,cs=>by rw[List.zipIdx_cons,List.foldl_cons,SL off us];rfl
theorem SM:∀(us:List Value) (vss:List (List Value)) (k:Nat) (cs:Array Value),us.map Value.cells=vss.map List.toArray->(∀vs,vs∈vss->vs.length=sz)->cs.size=(k+us.length)*sz->
  ∃cs',Instr.fill (λi=>some (i*sz,sz)) cs ((us.zipIdx k).map λp=>(p.2,p.1))=some cs'∧cs'.toList=cs.toList.take (k*sz)++vss.flatten
 |[],[],k,cs,_,_,hs=>⟨cs,rfl,by simp only[List.length_nil,Nat.add_zero] at hs;simp only[List.flatten_nil,List.append_nil];rw[List.take_of_length_le (by simp[hs])]⟩
 |[],_::_,_,_,h,_,_=>by simp at h
 |_::_,[],_,_,h,_,_=>by simp at h
 |u::us,vs::vss,k,cs,h,hl,hs=>by
  simp only[List.map_cons,List.cons.injEq] at h
  have fR:vs.length=sz:=hl vs sm
  simp only[lC] at hs
  have e:(k+(us.length+1))*sz=k*sz+sz+us.length*sz:=by rw[Nat.add_mul,Nat.add_mul,Nat.one_mul];omega
  rw[List.zipIdx_cons,List.map_cons]
  obtain⟨cs',h1,h2⟩:=SM us vss (k+1) (setAt cs (k*sz) vs) h.2 (λv hv=>hl v (by simp[hv])) (by rw[Mz,hs];congr 1;omega)
  refine⟨cs',?_,?_⟩
  ·unfold Instr.fill
   simp only[h.1]
   rw[iN (by simp[fR];omega)]
   have h3:=SL (k*sz) vs 0 cs
   simp only[Nat.add_zero] at h3
   have h4:Array.foldl (fun(cs:Array Value) (p:Value×Nat)=>cs.setIfInBounds (k*sz+p.2) p.1) cs vs.toArray.zipIdx=setAt cs (k*sz) vs:=by rw[<-h3];simp
   rw[h4];exact h1
  ·have e2:(k+1)*sz=k*sz+sz:=by rw[Nat.add_mul,Nat.one_mul]
   have Fh:min (k*sz) cs.size=k*sz:=Nat.min_eq_left om
   rw[h2,IT _ _ _ (by rw[fR];omega),e2,List.flatten_cons,List.take_append,List.take_append]
   simp only[List.length_take,Array.length_toList,Fh,fR,List.take_take]
   rw[Nat.min_eq_right (show k*sz<=k*sz+sz by omega),show k*sz+sz-k*sz=sz from by omega,List.take_of_length_le (l:=vs) om,Nat.sub_self,List.take_zero,List.append_nil,List.append_assoc]
theorem aer {T:TypeId} {us:List Value} {vss:List (List Value)} (hT:P.underlying T=some (.slice E)) (hE:TI P E sz bytes z) (nX:0<sz) (Ai:0<us.length) (dm:us.length*sz<=16777216) 
  (hv:us.map Value.cells=vss.map List.toArray) (hl:∀vs,vs∈vss->vs.length=sz):(Instr.buildSlice T us.length ((us.zipIdx 0).map λp=>(p.2,p.1)).toArray).run P w= .ok (.slice (some ⟨w.heap.size,0,none⟩) us.length us.length) (w.alloc (.cells vss.flatten.toArray E)):=by
 have h0:¬us.length*sz=0:=by
  have:0<us.length*sz:=Nat.mul_pos Ai nX
  omega
 have hb:¬(16777216<us.length*sz):=by omega
 obtain⟨cs',hf,bY⟩:=SM us vss 0 ((Array.range (us.length*sz)).map (z.cells[·%z.cells.size]!)) hv hl sm
 have he:cs'=vss.flatten.toArray:=by apply Array.ext';simpa using bY
 subst he
 simp[Instr.buildSlice,Sem.run_bind,run_underlying hT,Result.andThen_ok,hE.sZ,hb,h0,hE.KO,hf,newRow]
theorem sC {m:Nat} {T:TypeId} {ak:Array (Nat×Operand)} (qs:List Operand) (vss:List (List Value)) (hT:P.underlying T=some (.slice E)) (hE:TI P E sz bytes z) (hg:gate ops e g=true) (hd:cm n dst=true) 
  (hp:ak=((qs.zipIdx 0).map λp=>(p.2,p.1)).toArray) (hm:m=qs.length) (nX:Nat.blt 0 sz=true) (Ai:Nat.blt 0 qs.length=true) (dm:Nat.ble (qs.length*sz) 16777216=true)
  (hv:qs.map (λq=>(ev e q).cells)=vss.map List.toArray) (hl:vss.all (λvs=>Nat.beq vs.length sz)=true)
  (k:∀w',aj [] w w'->aJ w' w.heap.size vss.flatten.toArray E->w'.heap.size=w.heap.size+1->OW P n ops K rest (bQ e dst (.slice (some ⟨w.heap.size,0,none⟩) m m)) w'):
  OW P n ops K (⟨dst,.buildSlice T m ak,ty,pos,after,g⟩::rest) e w:=by
 subst hp hm
 have SN:(qs.map (ev e)).length=qs.length:=by simp
 have hr:=aer (P:=P) (w:=w) (us:=qs.map (ev e)) (vss:=vss) hT hE (by simpa[Nat.blt_eq] using nX) (by simpa[Nat.blt_eq] using Ai) (by rw[SN];exact Nat.le_of_ble_eq_true dm) (by rw[List.map_map];exact hv) (λvs h=>Nat.eq_of_beq_eq_true (List.all_eq_true.1 hl vs h))
 rw[SN] at hr
 have aes:((qs.zipIdx 0).map λp=>(p.2,p.1)).toArray.map (fun(p:Nat×Operand)=>(p.1,ev e p.2))=(((qs.map (ev e)).zipIdx 0).map λp=>(p.2,p.1)).toArray:=by
  rw[List.map_toArray,List.map_map]
  congr 1
  have:∀(qs:List Operand) (i:Nat),(qs.zipIdx i).map ((fun(p:Nat×Operand)=>(p.1,ev e p.2))∘λp=>(p.2,p.1))=((qs.map (ev e)).zipIdx i).map λp=>(p.2,p.1):=by
   intro qs
   induction qs with
   |nil=>intro i;rfl
   |cons q qs ih=>intro i;simp only[List.zipIdx_cons,List.map_cons,List.map,ih];rfl
  exact this qs 0
 exact eX hg hd (w':=w.alloc (.cells vss.flatten.toArray E)) (by
  have rv:(Array.map (λx=>(x.fst,ev e x.snd)) ((qs.zipIdx 0).map λp=>(p.2,p.1)).toArray)=(((qs.map (ev e)).zipIdx 0).map λp=>(p.2,p.1)).toArray:=aes
  simp only[execOp]
  rw[rv,Sem.run_bind,hr];simp) (k _ (aj.alloc _ _ _) (aJ.alloc _ _ _) sm)
/-! ### Slices that are appended whole -/
theorem SO {w:World}:∀{rows:List (List C)} {f:Nat->List Value},(∀i row,rows[i]?=some row->cW L w (f i) row)->cW L w ((List.range rows.length).map f).flatten rows.flatten
 |[],_,_=>trivial
 |r::rows,f,h=>by
  rw[lC,List.range_succ_eq_map,List.map_cons,List.map_map,List.flatten_cons,List.flatten_cons]
  exact(h 0 r rfl).append (SO (f:=f∘Nat.succ) λi row hi=>h (i+1) row (by simpa using hi))
theorem aet {w:World} {xs ys:List Value} (h:fQ w b off xs) (k:fQ w b (off+xs.length) ys):fQ w b off (xs++ys):=by grind [fQ]
theorem SP {w:World} {sz:Nat}:∀{n off:Nat} {f:Nat->List Value},(∀i,i<n->(f i).length=sz∧fQ w b (off+i*sz) (f i))->fQ w b off ((List.range n).map f).flatten
 |0,_,_,_=>λj v hj=>by simp at hj
 |n+1,off,f,h=>by
  rw[List.range_succ_eq_map,List.map_cons,List.map_map,List.flatten_cons]
  obtain⟨h1,h2⟩:=h 0 om
  rw[Nat.zero_mul,Nat.add_zero] at h2
  refine aet h2 (SP (sz:=sz) λi hi=>?_)
  obtain⟨h3,h4⟩:=h (i+1) om
  refine⟨h3,?_⟩
  rw[h1]
  rwa [show off+(i+1)*sz=off+sz+i*sz from by rw[Nat.add_mul];omega] at h4
theorem SQ {w:World} {a:Option Addr} {len cap size:Nat} (h:bN L w (.slice a len cap) (.sl size rows)) (hp:0<rows.length):
  ∃b off vs,a=some ⟨b,off,none⟩∧b<w.heap.size∧b∉L∧fQ w b off vs∧cW L w vs rows.flatten∧len=rows.length∧∀row,row∈rows->row.length=size:=by
 cases h with
 |nil=>simp at hp
 |sl b off len cap size rows f hl hc hb hL hs kj gD=>
  refine⟨b,off,((List.range rows.length).map λi=>(List.range size).map (f i)).flatten,rfl,hb,hL,SP (sz:=size) λi hi=>⟨by simp,λj v hj=>?_⟩,SO λi row hi=>?_,hl.symm,hs⟩
  ·have xe:j<size:=by have:=(List.getElem?_eq_some_iff.1 hj).1;simpa using this
   have e:f i j=v:=by simpa[List.getElem?_map,xe] using hj
   rw[<-e];exact kj i j om xe
  ·have gY:=hs row (List.mem_of_getElem? hi)
   refine cW.of (by simp[gY]) λj v c hv pj=>?_
   have xe:j<size:=by have:=(List.getElem?_eq_some_iff.1 hv).1;simpa using this
   have e:f i j=v:=by simpa[List.getElem?_map,xe] using hv
   rw[<-e];exact gD i j row c hi pj
theorem SR {t ty T:TypeId} {i:TypeInfo} (ht:P.underlying t=some (.slice T)) (hi:P.info? T=some i) 
  {a:Option Addr} {m cap:Nat} (h:m<=cap) {a2:Option Addr} {c2:Nat}:
  (Builtin.append_ #[t,t] ty #[.slice a m cap,.slice a2 0 c2]).run P w= .ok (.slice a m cap) w:=by
 have hf:(Builtin.firstCells i.size 0 (.slice a2 0 c2)).run P w= .ok #[] w:=by
  cases a2 with
  |none=>simp[Builtin.firstCells]
  |some b=>exact run_firstCells_some (P:=P) (w:=w) i.size 0 b 0 c2 [] sm sm
 cases a<;>simp[Builtin.append_,run_underlying ht,sizeOf,typeInfo,hi,Builtin.lenOf,h,hf,storeCells]
theorem wa {B:Nat} {L:List Nat} {t:Nat} {v:Value} {gb:Option Nat} {rows new:List (List C)} {a2:Option Addr} {n2 c2:Nat} (hT:P.underlying t=some (.slice E)) (hE:TI P E sz bytes z) (hg:gate ops e g=true) (hd:cm n dst=true) (hz:Nat.beq z.cells.size sz=true) (gj:Nat.ble bytes 1000=true) 
  (hx:ev e x=v) (hy:ev e y= .slice a2 n2 c2) (hO:Gr B L w E sz v gb rows) (hr:bN (gb.toList++L) w (.slice a2 n2 c2) (.sl sz new)) (h1:∀row,row∈new->∀c,c∈row->∀v,c= .val v->v.oneCell'=true)
  (hn:rows.length+new.length<100000000)
  (k:∀a' cap' g' w',Gr B L w' E sz (.slice a' (rows.length+new.length) cap') g' (rows++new)->aj gb.toList w w'->OW P n ops K rest (bQ e dst (.slice a' (rows.length+new.length) cap')) w'):
  OW P n ops K (⟨dst,.call {callee:=.builtin .append,args:=#[x,y],argTypes:=#[t,t]},ty,pos,after,g⟩::rest) e w:=by
 obtain⟨xs,hR⟩:=hO.own
 have Bw:bytes<=1000:=Nat.le_of_ble_eq_true gj
 by_cases hp:0<new.length
 ·obtain⟨b,off,vs,rfl,hb,qK,hc,IU,rfl,gY⟩:=SQ hr hp
  refine Qm hT hE hg hd hz hx hR hy rfl hp gY hc ?_ IU hO.cD (Nat.le_trans (Nat.mul_le_mul (show rows.length+new.length<=100000000 by omega) (show bytes+1<=1001 by omega)) de) ?_
  ·refine cW.Fq IU λc hc v hv=>?_
   obtain⟨row,h2,h3⟩:=List.mem_flatten.1 hc
   exact h1 row h2 c h3 v hv
  ·intro a' cap' g' w' jO hk ky
   refine k a' cap' g' w' ⟨⟨_,jO⟩,λb hb=>?_,λx hx=>lL (hO.cD x hx) hk.size,Nat.le_trans hO.bsz hk.size⟩ hk
   rcases ky with h|h
   ·rw[h] at hb;exact hO.low b hb
   ·rw[h] at hb;cases hb;exact hO.bsz
 ·have nB:new=[]:=List.length_eq_zero_iff.1 om
  subst nB
  obtain⟨a,cap,rfl⟩:=hR.len
  have h20:n2=0:=by
   obtain⟨_,_,he,_⟩:=rh hr
   cases he;rfl
  subst h20
  have Dp:rows.length<=cap:=by
   rcases hR.own.2 with⟨h,h2,_⟩|⟨_,_,_,_,h,_,h2,_⟩
   ·rw[h2];omega
   ·cases h;exact h2
  obtain⟨i,hi,_,_,_⟩:=hE.get
  have jK:=SR (P:=P) (w:=w) (t:=t) (ty:=ty) hT hi (a:=a) (m:=rows.length) (cap:=cap) Dp (a2:=a2) (c2:=c2)
  refine eX hg hd (v:=.slice a rows.length cap) (w':=w) (by
   simp only[execOp,resolve,invoke,builtin,Sem.run_bind,Sem.run_pure,Result.andThen_ok,List.map_toArray,List.map_cons,List.map_nil,hx,hy,jK]) ?_
  have:=k a cap gb w (by simpa using hO) (aj.refl _ _)
  simpa using this
end

section
open Go Go.ChangeShapes Go.WideShapes
theorem aev {a:Addr} (h:w.cell? a=some v):a=⟨a.block,a.off,none⟩∧a.block<w.heap.size:=by
 obtain⟨b,o,s⟩:=a
 unfold World.cell? at h
 split at h
 ·rename_i c _ _ he
  cases s with
  |some s=>simp at h
  |none=>exact⟨rfl,(Array.getElem?_eq_some_iff.1 he).1⟩
 ·cases h
theorem aew {a:Addr} (h:a=⟨a.block,a.off,none⟩) (i:Nat):a.add i=⟨a.block,a.off+i,none⟩:=by rw[h];exact vE _ _ _
section
variable {H:Type} {enc:TypeId×Value->H} {P:Program} {w:World} {held:Bool}
end
end
theorem Ga (a b c:Int) (w:World):bz Tryz.prog 66 [.int .i64 a,.int .i64 b,.int .i64 c] w λv w'=>v= .bool (decide (b<=a)&&decide (a<=c))∧w=w':=by
 refine bX [.tmp 6] 15 Tryz.func66 rfl acI rfl rfl ?_
 refine W ?_
 apply oB 4 10 14 rfl oQ
 intro _
 exact oQ
 intro xx
 refine W ?_
 exact⟨_,rfl,rfl,rfl⟩
theorem aex (c:UInt8) (w:World):bz Tryz.prog 110 [.int .u8 c.toNat] w λv w'=>v= .bool (eO c)∧w=w':=by
 refine bX [.tmp 2] 33 Tryz.func110 rfl aaH rfl rfl ?_
 refine W ?_
 apply oB 3 5 8 rfl oQ
 intro _
 exact oQ
 intro xx
 refine WZ ?_
 apply oP 7 9 16 rfl oQ
 intro _
 refine WZ ?_
 apply oB 3 12 15 rfl oQ
 intro _
 exact oQ
 intro xx
 exact oQ
 intro xx
 refine WZ ?_
 apply oP 3 17 20 rfl oQ
 intro _
 exact oQ
 intro xx
 refine WZ ?_
 apply oP 3 21 24 rfl oQ
 intro _
 exact oQ
 intro xx
 refine WZ ?_
 apply oP 3 25 28 rfl oQ
 intro _
 exact oQ
 intro xx
 refine WZ ?_
 apply oP 3 29 32 rfl oQ
 intro _
 exact oQ
 intro xx
 refine W ?_
 exact⟨_,rfl,congrArg Value.bool (Qf c),rfl⟩
def aey (L:List Nat) (s:ai) (d i:Nat) (v:Value) (w:World):Prop:=
 ∃t tv en,v= .tuple #[tv,.int .i64 en]∧bC L w tv t∧Bu s.length (rT d (s.drop i)) t en
theorem aez (s:ai) (hs:s.length<=12000):∀(d i:Nat) (L:List Nat) (w:World),d<=61->i<=s.length->(∀x,x∈L->x<w.heap.size)->
  bz Tryz.prog 72 [str s,.int .i64 (i:Int),.int .i64 ((61:Int)-(d:Int))] w λv w'=>aey L s d i v w'∧aj [] w w':=by
 intro d
 induction d with
 |zero=>
  intro i L w hd hi hL
  have hK:=aj.refl [] w
  refine jr [.cell 6 74,.tmp 7] 87 Tryz.func72 rfl Io rfl rfl rfl ?_
  refine zr<|dk aL rfl rfl rfl λw1 aI bA db=>?_
  have hK:=hK.grow;have hK:=hK.ext aI
  refine zA<|aZ<|zr<|iO (FH _) rfl rfl<|dk aL rfl rfl rfl λw2 az cJ dJ=>?_
  have hK:=hK.grow;have hK:=hK.ext az;have bA:=bA.grow;have bA:=bA.ext az
  refine cw aL rfl rfl rfl cJ rfl λw3 aH cJ gv=>?_
  have hK:=hK.aD aH sx;have bA:=bA.aD aH sx
  refine aZ<|jq<|zr<|zm<|E7 rfl rfl rfl rfl rfl<|zm ?_
  apply Bj 5 15 20 [15,16,17,18,19,20] (λw'=>w3=w') rfl
  intro h1
  replace h1:=jG h1
  refine W ?_
  exact mg rfl rfl
  intro h1
  replace h1:=jG h1
  refine W ?_
  exact mg rfl rfl
  rintro xx _ rfl
  refine aZ<|zc rfl (λh2=>?_) (λh2=>?_)
  refine W ?_
  refine cw aL rfl rfl rfl bA rfl λw4 aO bA gC=>?_
  have hK:=hK.aD aO sx
  refine W ?_
  exact⟨[_,_],⟨fb eQ aL rfl bA rfl,rfl⟩,⟨.mk [] [],_,_,rfl,kW oH,rfl⟩,hK⟩
  exfalso
  simp at h2
 |succ d ih=>
  intro i L w hd hi hL
  have hK:=aj.refl [] w
  by_cases mm:i<s.length
  ·have BT:=drop_cons (iW mm)
   have SS:=Fm eO (s.drop i)
   rw[List.length_drop] at SS
   refine jr [.cell 6 74,.tmp 7] 87 Tryz.func72 rfl Io rfl rfl rfl<|zr<|dk aL rfl rfl rfl λw1 aI bA db=>?_
   have hK:=hK.grow;have hK:=hK.ext aI
   refine zA<|aZ<|zr<|iO (FH _) rfl rfl<|dk aL rfl rfl rfl λw2 az cJ dJ=>?_
   have hK:=hK.grow;have hK:=hK.ext az;have bA:=bA.grow;have bA:=bA.ext az
   refine cw aL rfl rfl rfl cJ rfl λw3 aH cJ gv=>?_
   have hK:=hK.aD aH sx;have bA:=bA.aD aH sx
   refine W ?_
   apply oP 5 15 20 rfl oQ
   intro _
   exact oQ
   intro xx
   refine aZ<|zc rfl (λh2=>?_) (λh2=>?_)
   exfalso
   simp at h2
   omega
   refine W ?_
   refine jM ia rfl rfl rfl rfl (iW mm)<|E8 rfl rfl rfl rfl rfl<|aZ<|zc rfl (λh3=>?_) (λh3=>?_)
   have dH:s.getD i 0≠40:=λh=>h3 (by rw[h];rfl)
   refine W ?_
   refine eH (λk:Nat=>[(0,str s),(1,.int .i64 (k:Int)),(6,.pointer (some ⟨w.heap.size,0,none⟩)),(8,.pointer (some ⟨w1.heap.size,0,none⟩)),(9,.int .i64 (i:Int))]) (λk w'=>w'=w3∧i<=k∧k-i<=((s.drop i).takeWhile eO).length) (λk=>s.length-k) i (⟨rfl,rfl,rfl,rfl,rfl⟩) (⟨rfl,lR _,om⟩) λgg w4 e4 hI=>?_
   obtain⟨rfl,uw,DW⟩:=hI
   have Gb:=YV s uw DW
   refine WZ ?_
   apply oB 5 31 36 rfl oQ
   intro h4
   refine zm<|zm<|jM ia rfl rfl rfl rfl (iW om)<|aA (aex _ _) ?_
   rintro _ _ ⟨rfl,rfl⟩
   exact oQ
   intro xx
   refine aZ<|zc rfl (λh5=>?_) (λh5=>?_)
   have dR:=Gb.2 (by simpa using h5)
   refine W ?_
   exact⟨gg+1,⟨rfl,rfl,rfl,rfl,rfl⟩,⟨rfl,om,om⟩,om⟩
   have Gc:gg-i=((s.drop i).takeWhile eO).length:=Nat.le_antisymm DW (Nat.le_of_not_lt (λhh=>by have hx:=Gb.1 hh;rw[hx.2,Bool.and_true,decide_eq_false_iff_not] at h5;omega))
   refine W ?_
   refine Bi ia rfl rfl rfl (.inr ⟨_,rfl⟩) (.inr ⟨_,rfl⟩) om om<|zf kY rfl<|fz bf rfl rfl rfl cJ rfl λw5 aP cJ iI=>?_
   have hK:=hK.aD aP sx;have bA:=bA.aD aP sx
   refine W ?_
   refine zc rfl (λh6=>?_) (λh6=>?_)
   have hR:rT (d+1) (s.drop i)=none:=by rw[Gc,H8] at h6;show dZ d _=none;rw[BT,Fp _ _ _ dH,<-BT,iP h6]
   refine W ?_
   refine cw aL rfl rfl rfl bA rfl λw6 bO bA kF=>?_
   have hK:=hK.aD bO sx
   refine W ?_
   exact⟨[_,_],⟨fb eQ aL rfl bA rfl,rfl⟩,⟨.mk _ [],_,_,rfl,kW oH,by rw[hR];rfl⟩,hK⟩
   have hR:rT (d+1) (s.drop i)=some (.mk ((s.drop i).takeWhile eO) [],(s.drop i).dropWhile eO):=by rw[Gc,H8] at h6;show dZ d _=_;rw[BT,Fp _ _ _ dH,<-BT,iN h6]
   refine W ?_
   refine cw aL rfl rfl rfl bA rfl λw6 bO bA kF=>?_
   have hK:=hK.aD bO sx
   refine zA<|aZ<|jJ<|⟨[_,_],⟨fb eQ aL rfl bA rfl,rfl⟩,⟨.mk _ [],_,_,rfl,kW oH,?_⟩,hK⟩
   rw[hR]
   refine⟨by rw[Gc,H8],?_⟩
   rw[Fl,List.length_drop,List.length_drop]
   show(gg:Int)=_
   omega
   have MC:s.getD i 0=40:=UInt8.toNat_inj.1 (by have BU:(40:UInt8).toNat=40:=rfl;rw[BU];omega)
   refine WZ ?_
   refine eH (λq:List au×Nat×Option Addr×Nat×Option Nat×List Value=>[(0,str s),(1,.int .i64 (q.2.1:Int)),(2,.int .i64 ((61:Int)-((d+1:Nat):Int))),(6,.pointer (some ⟨w.heap.size,0,none⟩)),(8,.pointer (some ⟨w1.heap.size,0,none⟩))]) (λq w'=>aj [] w w'∧aJ w' w.heap.size [str [],.slice none 0 0].toArray 74∧aJ w' w1.heap.size [str [],.slice q.2.2.1 q.1.length q.2.2.2.1].toArray 74∧gP (w.heap.size::w1.heap.size::L) w' 74 2 (.slice q.2.2.1 q.1.length q.2.2.2.1) q.2.2.2.2.1 (cX q.1) q.2.2.2.2.2∧(∀b,q.2.2.2.2.1=some b->w.heap.size<=b)∧q.2.1<s.length∧i<=q.2.1∧q.1.length<=q.2.1∧w1.heap.size<w'.heap.size∧mr d (s.drop (i+1))=(mr d (s.drop (q.2.1+1))).map (λp=>(q.1++p.1,p.2))) (λq=>s.length-q.2.1) (([],i,none,0,none,[])) (⟨rfl,rfl,rfl,rfl,rfl⟩) (⟨hK,bA,cJ,gP.nil _ _ _ _,sm,mm,lR _,sm,om,sm⟩) λgg w4 e4 hI=>?_
   obtain⟨acc,k,a,cc,g,xs⟩:=gg
   dsimp only at hI⊢
   obtain⟨hK,bA,cJ,hO,hg,hk,uw,hak,xL,sD⟩:=hI
   have MD:∀x,x∈g.toList++(w.heap.size::w1.heap.size::L)->x<w4.heap.size:=by intro x hx;simp at hx;rcases hx with hx|rfl|rfl|hx;exact hO.own.lt x hx;omega;omega;have h1:=hL x hx;have h2:=hK.size;omega
   refine WA ?_
   refine Ah ?_
   refine zm<|nU rfl rfl rfl rfl rfl (show IntKind.i64.wrap ((61:Int)-((d+1:Nat):Int)+1)=(61:Int)-(d:Int) by rw[wrap_i64 _ om om];omega)<|aA (ih (k+1) (g.toList++(w.heap.size::w1.heap.size::L)) w4 om om MD) ?_
   rintro v5 w5 ⟨xM,aP⟩
   have og:=aP.size
   refine gQ aP hK bA cJ hO λhK bA cJ hO=>?_
   obtain⟨t,tv,en,rfl,ht,hm⟩:=xM
   obtain⟨pa,pn,pc,rfl,eT,aQ⟩:=dj ht
   subst eT
   refine W ?_
   refine dk aL rfl rfl rfl λw6 bO j7 kF=>?_
   have hK:=hK.grow;have hK:=hK.ext bO;have bA:=bA.grow;have bA:=bA.ext bO;have cJ:=cJ.grow;have cJ:=cJ.ext bO;have hO:=hO.alloc bO kF;have ht:=ht.grow;have ht:=ht.ext bO
   refine cw aL rfl rfl rfl j7 rfl λw7 bV j7 oT=>?_
   have hK:=hK.aD bV sx;have bA:=bA.aD bV sx;have cJ:=cJ.aD bV sx;have hO:=hO.aD bV sx;have ht:=ht.aD bV sx
   refine W ?_
   apply oP 5 61 66 rfl oQ
   intro _
   exact oQ
   intro xx
   refine aZ<|zc rfl (λh8=>?_) (λh8=>?_)
   have hR:rT (d+1) (s.drop i)=none:=by show dZ d _=none;rw[BT,MC,Dt,sD,YW hm (by simpa using h8) om];rfl
   refine W ?_
   refine cw aL rfl rfl rfl bA rfl λw8 cA bA kG=>?_
   have hK:=hK.aD cA sx;have hO:=hO.aD cA sx
   refine W ?_
   exact⟨[_,_],⟨fb eQ aL rfl bA rfl,rfl⟩,⟨.mk [] acc,_,_,rfl,kW (hO.done.weaken (λx hx=>by simp[hx])),by rw[hR];rfl⟩,hK⟩
   simp at h8
   obtain⟨m,rfl,Qe,ME,fD⟩:=YX hm h8.1 om
   refine W ?_
   refine fF cB aL rfl rfl λw8 cA aeA kG=>la cA hK bA cJ hO ht λhK bA cJ hO ht=>?_
   refine Qn cB aL rfl rfl rfl rfl rfl hO (oG t) aeA.all (by simp[Value.oneCell']) (ht.ko.fresh (λx hx=>.inl (Qk x hx))) ?_ ?_ ?_
   intro x hx;simp at hx;rcases hx with rfl|rfl|rfl|hx;(·omega);(·omega);(·omega);(·have h1:=hL x hx;have h2:=hK.size;omega)
   rw[gZ];omega
   intro a2 nH g2 w9 fY aC iT
   have e1:(cX acc).length+1=(acc++[t]).length:=by simp[gZ]
   have e2:cX acc++[t.enc]=cX (acc++[t]):=by simp[K6,cX]
   rw[e1] at fY⊢
   rw[e2] at fY
   have dm:=aC.size
   have hg3:∀b,g2=some b->w.heap.size<=b:=by intro b hb;rcases iT with h|h;(·rw[h] at hb;exact hg b hb);(·rw[h] at hb;cases hb;omega)
   have hK:=hK.aD aC (λx hx=>.inr (hg x (by simpa using hx)));have bA:=bA.aD aC (hO.sep sm);have cJ:=cJ.aD aC (hO.sep sm)
   refine zf jt rfl<|fz DE rfl rfl rfl cJ rfl λbZ cj cJ xN=>?_
   have hK:=hK.aD cj sx;have bA:=bA.aD cj sx;have fY:=fY.aD cj sx
   refine W ?_
   refine jM ia rfl rfl rfl rfl (iW ME)<|uj rfl rfl rfl rfl rfl<|aZ<|zc rfl (λh9=>?_) (λh9=>?_)
   have Aj:s.getD m 0=41:=UInt8.toNat_inj.1 (by have BU:(41:UInt8).toNat=41:=rfl;rw[BU];omega)
   have hR:rT (d+1) (s.drop i)=some (.mk [] (acc++[t]),s.drop (m+1)):=by show dZ d _=_;rw[BT,MC,Dt,sD,fD,iP Aj];rfl
   refine W ?_
   refine cw aL rfl rfl rfl bA rfl λey cS bA rC=>?_
   have hK:=hK.aD cS sx;have fY:=fY.aD cS sx
   refine W ?_
   exact⟨[_,_],⟨fb eQ aL rfl bA rfl,rfl⟩,⟨.mk [] (acc++[t]),_,_,rfl,kW (fY.done.weaken (λx hx=>by simp[hx])),by rw[hR];exact⟨rfl,by rw[List.length_drop];omega⟩⟩,hK⟩
   have Aj:s.getD m 0≠41:=λh=>h9 (by rw[h];rfl)
   refine W ?_
   refine jM ia rfl rfl rfl rfl (iW ME)<|E8 rfl rfl rfl rfl rfl<|aZ<|zc rfl (λfB=>?_) (λfB=>?_)
   have MF:s.getD m 0≠32:=λh=>fB (by rw[h];rfl)
   have hR:rT (d+1) (s.drop i)=none:=by show dZ d _=_;rw[BT,MC,Dt,sD,fD,iN Aj,iN MF];rfl
   refine W ?_
   refine cw aL rfl rfl rfl bA rfl λey cS bA rC=>?_
   have hK:=hK.aD cS sx;have fY:=fY.aD cS sx
   refine W ?_
   exact⟨[_,_],⟨fb eQ aL rfl bA rfl,rfl⟩,⟨.mk [] (acc++[t]),_,_,rfl,kW (fY.done.weaken (λx hx=>by simp[hx])),by rw[hR];rfl⟩,hK⟩
   have MF:s.getD m 0=32:=UInt8.toNat_inj.1 (by have BU:(32:UInt8).toNat=32:=rfl;rw[BU];omega)
   refine WZ ?_
   exact⟨(acc++[t],m,a2,nH,g2,_),⟨rfl,rfl,rfl,rfl,rfl⟩,⟨hK,bA,cJ,fY.more (by intro x hx;exact .inl (by simp at hx⊢;rcases hx with hx|hx|hx<;>simp[hx])),hg3,ME,by dsimp only;omega,by simp;omega,om,by rw[sD,fD,iN Aj,iP MF,map_append]⟩,by dsimp only;omega⟩
  refine jr [.cell 6 74,.tmp 7] 87 Tryz.func72 rfl Io rfl rfl rfl<|zr<|dk aL rfl rfl rfl λw1 aI bA db=>?_
  have hK:=hK.grow;have hK:=hK.ext aI
  refine zA<|aZ<|zr<|iO (FH _) rfl rfl<|dk aL rfl rfl rfl λw2 az cJ dJ=>?_
  have hK:=hK.grow;have hK:=hK.ext az;have bA:=bA.grow;have bA:=bA.ext az
  refine cw aL rfl rfl rfl cJ rfl λw3 aH cJ gv=>?_
  have hK:=hK.aD aH sx;have bA:=bA.aD aH sx
  refine W ?_
  apply oP 5 15 20 rfl oQ
  intro _
  exact oQ
  intro xx
  refine aZ<|zc rfl (λh2=>?_) (λh2=>?_)
  have hR:rT (d+1) (s.drop i)=none:=by rw[List.drop_of_length_le om];exact Qi d
  refine W ?_
  refine cw aL rfl rfl rfl bA rfl λw4 aO bA gC=>?_
  have hK:=hK.aD aO sx
  refine W ?_
  exact⟨[_,_],⟨fb eQ aL rfl bA rfl,rfl⟩,⟨.mk [] [],_,_,rfl,kW oH,by rw[hR];rfl⟩,hK⟩
  exfalso
  simp at h2
  omega
theorem Ak (s:ai) (L:List Nat) (w:World) (hL:∀x,x∈L->x<w.heap.size):
  bz Tryz.prog 42 [str s] w λv w'=>(∃t tv,v= .tuple #[tv,.bool (bB s).isSome]∧bC L w' tv t∧∀t',bB s=some t'->t=t')∧aj [] w w':=by
 have hK:=aj.refl [] w
 refine jr [.cell 2 74,.tmp 3] 20 Tryz.func42 rfl RF rfl rfl rfl ?_
 refine zr<|dk aL rfl rfl rfl λw1 aI aN db=>?_
 have hK:=hK.grow;have hK:=hK.ext aI
 refine W ?_
 refine zc rfl (λh1=>?_) (λh1=>?_)
 have hp:bB s=none:=by unfold bB;rw[iP om]
 refine zr<|iO (FH _) rfl rfl<|cw aL rfl rfl rfl aN rfl λw2 az aN dJ=>?_
 have hK:=hK.aD az sx
 refine W ?_
 exact⟨[_,_],⟨fb eQ aL rfl aN rfl,rfl⟩,⟨.mk [] [],_,by rw[hp];rfl,kW oH,λt' h=>by rw[hp] at h;cases h⟩,hK⟩
 refine gz<|zr<|zm<|aA (aez s om 61 0 (w.heap.size::L) w1 om om (by intro x hx;rcases mC.1 hx with rfl|hx;(·omega);(·have:=hL x hx;omega))) ?_
 rintro v2 w2 ⟨fl,az⟩
 have dy:=az.size
 refine bI az hK aN λhK aN=>?_
 obtain⟨t,tv,en,rfl,ht,hm⟩:=fl
 obtain⟨pa,pn,pc,rfl,eT,aQ⟩:=dj ht
 refine W ?_
 refine dk aL rfl rfl rfl λw3 aH aF gv=>?_
 have hK:=hK.grow;have hK:=hK.ext aH;have aN:=aN.grow;have aN:=aN.ext aH;have ht:=ht.grow;have ht:=ht.ext aH
 refine cw aL rfl rfl rfl aF rfl λw4 aO aF gC=>?_
 have hK:=hK.aD aO sx;have aN:=aN.aD aO sx;have ht:=ht.aD aO sx
 refine W ?_
 refine cw aL rfl rfl rfl aN rfl λw5 aP aN iI=>?_
 have hK:=hK.aD aP sx;have ht:=ht.aD aP sx
 refine W ?_
 have DK:=YY om hm
 exact⟨[_,_],⟨fb eQ aL rfl aN rfl,rfl⟩,⟨t,_,by rw[<-DK.1];rfl,j1.fresh ht (λx hx=>.inl (by simp[hx])),DK.2⟩,hK⟩
theorem IV (t:au) (v:Value) (L:List Nat) (w:World) (hv:bC L w v t):bz Tryz.prog 43 [v] w λr w'=>r=str (cg t)∧aj [] w w':=by
 obtain⟨a,n,c,rfl,hn,aQ⟩:=dj hv
 have hK:=aj.refl [] w
 refine bX [.tmp 2] 17 Tryz.func43 rfl acu rfl rfl ?_
 refine zr<|eu rfl λw1 aI aW db=>bI aI hK aQ λhK aQ=>?_
 refine W ?_
 apply oP 5 6 11 rfl oQ
 intro _
 refine WZ ?_
 exact oQ
 intro xx
 refine aZ<|zc rfl (λh2=>?_) (λh2=>?_)
 have hh:cg t=[]:=Fy (by simp at h2;rcases h2 with h|h;(·exact .inl h);(·right;subst hn;simpa using h))
 refine W ?_
 exact⟨_,rfl,by rw[hh];rfl,hK⟩
 simp at h2
 have h0:=h2.2
 have aX:∃p0,t.ak[0]?=some p0:=⟨t.ak[0]'om,gE om⟩
 obtain⟨p0,mG⟩:=aX
 obtain⟨b,off,pa,pn,pc,rfl,er,eT,fD⟩:=ik aQ mG
 have hh:cg t=p0.aw:=Fx h2.1 mG
 refine WI ?_
 refine zi (i:=0) cB aL rfl rfl (by rw[hn];exact(List.getElem?_eq_some_iff.1 mG).1) ?_
 refine W ?_
 exact⟨_,rfl,by rw[hh];rfl,hK⟩
theorem SU (s:ai) (hs:s.length<9223372036854775807) (w:World):bz Tryz.prog 100 [str s] w λr w'=>r= .bool (nk s)∧w=w':=by
 refine bX [.tmp 2] 39 Tryz.func100 rfl aaA rfl rfl ?_
 refine W ?_
 refine eH (λk:Nat=>[(0,str s),(3,.int .i64 (k:Int))]) (λk w'=>w'=w∧k<=s.length∧∀j,j<k->Bz s j=true) (λk=>s.length-k) (0) (⟨rfl,rfl⟩) (⟨rfl,om,by intro j hj;omega⟩) λgg w1 e1 hI=>?_
 obtain⟨rfl,hk,cP⟩:=hI
 refine W ?_
 refine zc rfl (λh1=>?_) (λh1=>?_)
 refine W ?_
 refine jM ia rfl rfl rfl rfl (iW om)<|WZ ?_
 apply oB 5 14 19 rfl oQ
 intro h2
 refine zm<|zm<|jM ia rfl rfl rfl rfl (iW om) ?_
 exact oQ
 intro xx
 refine WZ ?_
 apply oP 15 20 35 rfl oQ
 intro h3
 refine WZ ?_
 apply oB 5 23 28 rfl oQ
 intro h4
 refine zm<|zm<|jM ia rfl rfl rfl rfl (iW om) ?_
 exact oQ
 intro xx
 refine WZ ?_
 apply oB 5 29 34 rfl oQ
 intro h5
 refine zm<|zm<|jM ia rfl rfl rfl rfl (iW om) ?_
 exact oQ
 intro xx
 exact oQ
 intro xx
 refine km rfl rfl rfl<|aZ<|zc rfl (λh6=>?_) (λh6=>?_)
 rw[Ig] at h6
 refine W ?_
 exact⟨_,rfl,by rw[QE om h6];rfl,rfl⟩
 rw[Ig] at h6
 refine W ?_
 exact⟨gg+1,⟨rfl,rfl⟩,⟨rfl,om,QG cP h6⟩,om⟩
 refine W ?_
 exact⟨_,rfl,by rw[QF (λj hj=>cP j om)];rfl,rfl⟩
def Gd (s:ai):Value:=.tuple #[.int .i64 ((numeral s).getD 0),.bool (numeral s).isSome]
theorem IW (s:ai) (w:World):bz Tryz.prog 170 [str s] w λv w'=>v=Gd s∧w=w':=by
 refine bX [.tmp 2,.tmp 3] 57 Tryz.func170 rfl abq rfl rfl ?_
 refine W ?_
 apply oB 4 12 16 rfl oQ
 intro h1
 refine zm<|jM (i:=0) ia rfl rfl rfl rfl (iW om) ?_
 exact oQ
 intro xx
 refine W ?_
 refine iD (λ_:Unit=>[(0,str s),(4,.int .i64 (qD s)),(5,str (ei s))]) (λ_ w'=>w'=w) ?_ ?_
 refine zc rfl (λh2=>?_) (λh2=>?_)
 have hm:0<s.length∧s.getD 0 0=45:=by have Ge:=QD 45 (s.getD 0 0);simp only[show((45:UInt8).toNat:Int)=45 from rfl] at Ge;rw[Ge] at h2;simpa using h2
 refine W ?_
 refine Bi (l:=1) ia rfl rfl rfl (.inr ⟨_,rfl⟩) (.inl ⟨rfl,rfl⟩) om om<|zA<|aZ ?_
 exact⟨(),⟨rfl,by rw[qD,iP hm];rfl,by have h1:ei s=(s.drop 1).take (s.length-1):=by{rw[ei,iP hm,List.take_of_length_le sm]};rw[h1];exact rfl⟩,rfl⟩
 have hm:¬(0<s.length∧s.getD 0 0=45):=by have Ge:=QD 45 (s.getD 0 0);simp only[show((45:UInt8).toNat:Int)=45 from rfl] at Ge;rw[Ge] at h2;simpa using h2
 refine WZ ?_
 exact⟨(),⟨rfl,by rw[qD,iN hm];rfl,by rw[ei,iN hm];exact rfl⟩,rfl⟩
 intro gu w1 e1 hI
 obtain rfl:=hI
 refine W ?_
 refine zc rfl (λh3=>?_) (λh3=>?_)
 have hn:numeral s=some 0:=by unfold numeral;rw[iP h3]
 refine W ?_
 exact⟨_,rfl,by unfold Gd;rw[hn];rfl,rfl⟩
 have nX:=h3
 refine W ?_
 refine aA (Ga _ _ _ _) ?_
 rintro _ _ ⟨rfl,rfl⟩
 refine WZ ?_
 apply oP 4 25 29 rfl oQ
 intro h4
 simp at h4
 refine zm<|jM (i:=0) ia rfl rfl rfl rfl (iW om) ?_
 exact oQ
 intro xx
 refine aZ<|zc rfl (λh5=>?_) (λh5=>?_)
 have hn:numeral s=none:=Y9 nX (Zd h5)
 refine W ?_
 exact⟨_,rfl,by unfold Gd;rw[hn];rfl,rfl⟩
 have hd:=Ze h5
 refine W ?_
 refine eH (λk:Nat=>[(4,.int .i64 (qD s)),(5,str (ei s)),(6,.int .i64 (val ((ei s).take k):Nat)),(7,.int .i64 (k:Int))]) (λk w'=>w'=w1∧k<=(ei s).length∧((ei s).take k).all gV=true) (λk=>(ei s).length-k) (0) (⟨rfl,rfl,rfl,rfl⟩) (⟨rfl,om,sm⟩) λgg w2 e2 hI=>?_
 obtain⟨rfl,hk,cP⟩:=hI
 refine W ?_
 refine zc rfl (λh6=>?_) (λh6=>?_)
 have dR:gg<(ei s).length:=by omega
 have hv:=QB _ cP
 have fl:val ((ei s).take gg)<100:=lL hv (Nat.le_trans (Nat.pow_le_pow_right om (show((ei s).take gg).length<=2 by simp;omega)) de)
 clear hv
 refine W ?_
 refine jM ia rfl rfl rfl rfl (iW dR)<|WZ ?_
 apply oP 5 40 45 rfl oQ
 intro _
 refine zm<|zm<|jM ia rfl rfl rfl rfl (iW dR) ?_
 exact oQ
 intro xx
 refine aZ<|zc rfl (λh8=>?_) (λh8=>?_)
 have hn:numeral s=none:=Za nX dR (QI h8)
 refine W ?_
 exact⟨_,rfl,by unfold Gd;rw[hn];rfl,rfl⟩
 have hc:=QJ h8
 have bF:=hc.1
 have bU:=hc.2.1
 refine W ?_
 refine jM ia rfl rfl rfl rfl (iW dR)<|xh rfl rfl rfl rfl rfl (wrap_u8 _ om om)<|xk xB vO rfl rfl rfl (wrap_i64 _ om om)<|W ?_
 exact⟨gg+1,⟨rfl,rfl,by rw[Ld dR,QA];show Value.int _ _=Value.int _ _;congr 1;omega,rfl⟩,⟨rfl,om,by rw[Ld dR,List.all_append,cP];simp only[List.all_cons,hc.2.2];rfl⟩,om⟩
 have fM:(ei s).take gg=ei s:=List.take_of_length_le om
 rw[fM] at cP
 have hv:=QB _ cP
 have fl:val (ei s)<1000:=lL hv (Nat.le_trans (Nat.pow_le_pow_right om hd.2.1) de)
 clear hv
 rw[fM]
 have dm:=Zc s
 have hmul: -1000<qD s*(val (ei s):Int)∧qD s*(val (ei s):Int)<1000:=by rcases dm with h|h<;>rw[h]<;>omega
 refine W ?_
 exact⟨_,rfl,by unfold Gd;rw[Zb nX hd cP];rfl,rfl⟩
theorem aeC (t:au) (v:Value) (L:List Nat) (w:World) (hv:bC L w v t):bz Tryz.prog 203 [v] w λr w'=>r= .int .i64 (s9 t.aw)∧aj [] w w':=by
 obtain⟨a,n,c,rfl,hn,aQ⟩:=dj hv
 have hK:=aj.refl [] w
 refine bX [.tmp 2] 19 Tryz.func203 rfl abT rfl rfl ?_
 refine zr<|eu rfl λw1 aI aW db=>?_
 have hK:=hK.ext aI
 refine W ?_
 refine aA (IW _ _) ?_
 rintro _ _ ⟨rfl,rfl⟩
 refine W ?_
 apply oP 4 13 17 rfl oQ
 intro _
 refine zm<|aA (Ga _ _ _ _) ?_
 rintro _ _ ⟨rfl,rfl⟩
 exact oQ
 intro xx
 refine aZ<|zc rfl (λh2=>?_) (λh2=>?_)
 have hr:s9 t.aw= -1:=by unfold s9;cases hn:numeral t.aw with|none=>rfl|some k=>rw[hn] at h2;simp at h2;exact iN om
 refine W ?_
 exact⟨_,rfl,by rw[hr];rfl,hK⟩
 have hr:s9 t.aw=(numeral t.aw).getD 0:=by unfold s9;cases hn:numeral t.aw with|none=>rw[hn] at h2;simp at h2|some k=>rw[hn] at h2;simp at h2;exact iP om
 refine W ?_
 exact⟨_,rfl,by rw[hr];rfl,hK⟩
theorem MG:∀(m:Nat) (t:au),t.size<=m->t.size<=100000->WF t->∀(hidden:Bool) (v:Value) (L:List Nat) (w:World),bC L w v t->
  bz Tryz.prog 138 [v,.bool hidden,.bool false] w λr w'=>r= .bool (eY hidden t)∧aj [] w w':=by
 intro m
 induction m with
 |zero=>intro t h;cases t;simp[au.size] at h
 |succ m ih=>
  intro t hm rv cL hidden v L w hv
  obtain⟨a,n,c,rfl,hn,aQ⟩:=dj hv
  have hK:=aj.refl [] w
  have mH:=xz t
  refine bX [.tmp 6] 72 Tryz.func138 rfl aa0 rfl rfl ?_
  refine zr<|eu rfl λw1 aI cF db=>bI aI hK aQ λhK aQ=>?_
  refine W ?_
  refine zc rfl (λh1=>?_) (λh1=>?_)
  refine WZ ?_
  apply oP 7 15 22 rfl oQ
  intro _
  refine WZ ?_
  apply oB 4 17 21 rfl oQ
  intro _
  refine WZ ?_
  exact oQ
  intro xx
  exact oQ
  intro xx
  refine WZ ?_
  apply oP 7 23 30 rfl oQ
  intro _
  refine zm<|zm<|sd (t:=25) (b:=false) rfl ?_
  exact oQ
  intro xx
  refine W ?_
  exact⟨_,rfl,show Value.bool _=Value.bool _ from congrArg _ (by rw[QN h1,Bool.or_false]),hK⟩
  have ha:t.aw=[]:=Classical.not_not.1 h1
  have jS:=cL.pos ha
  have mG:=fK jS
  obtain⟨b,off,pa,pn,pc,rfl,er,eT,fD⟩:=ik aQ mG
  refine WI ?_
  refine zi (i:=0) cB aL rfl rfl (by rw[hn];exact jS)<|W ?_
  refine zc rfl (λh5=>?_) (λh5=>?_)
  refine WZ ?_
  apply oA 7 42 49 (aj [] w1) rfl oQ
  intro h6
  have hlen:t.ak.length=2:=by omega
  have oU:=fK (ps:=t.ak) (i:=1) om
  obtain⟨b1,eR,gd,pG,gh,aW,bF,qL,nI⟩:=ik aQ oU
  cases aW
  refine zf jt rfl<|zl iG rfl (cF.at rfl)<|zi (i:=1) cB aL rfl rfl om<|zL eQ aL rfl bF rfl<|zm<|aA (ih (nth t.ak 1) (by have:=kX (t:=t) (i:=1) om;omega) (by have:=kX (t:=t) (i:=1) om;omega) (cL.nth om) true _ L w1 (lW nI)) ?_
  rintro _ w2 ⟨rfl,az⟩
  have dy:=az.size
  exact oQ
  intro xx w2 az
  have hK:=hK.ext az
  refine zA<|aZ<|jJ<|⟨_,rfl,show Value.bool _=Value.bool _ from congrArg _ ?_,hK⟩
  rw[Lg ha jS h5]
  congr 1
  exact decide_eq_decide.2 om
  have dH:=h5
  refine WZ ?_
  apply oB 3 52 55 rfl oQ
  intro _
  exact oQ
  intro xx
  refine aZ<|zc rfl (λh8=>?_) (λh8=>?_)
  have hb:=QO ha jS dH (Zl h8)
  refine W ?_
  exact⟨_,rfl,by rw[hb];rfl,hK⟩
  have tq:(nth t.ak 0).aw=[116]∨(nth t.ak 0).aw=[99]:=Zk h8
  refine W ?_
  refine eH (λk:Nat=>[(3,.pointer (some ⟨w.heap.size,0,none⟩)),(1,.bool hidden),(2,.bool false),(8,.int .i64 (k:Int))]) (λk w'=>aj [] w w'∧aj [] w1 w'∧1<=k∧k<=t.ak.length∧(t.ak.drop 1).all (eY hidden)=(t.ak.drop k).all (eY hidden)) (λk=>t.ak.length-k) (1) (⟨rfl,rfl,rfl,rfl⟩) (⟨hK,aj.refl [] _,om,om,rfl⟩) λgg w2 e2 hI=>?_
  obtain⟨hK,aI,hk,fZ,cP⟩:=hI
  refine bI aI aQ cF λaQ cF=>?_
  refine W ?_
  refine zc rfl (λh9=>?_) (λh9=>?_)
  have hp:=fK (ps:=t.ak) (i:=gg) om
  obtain⟨b1,eR,gd,pG,gh,aW,bF,qL,nI⟩:=ik aQ hp
  cases aW
  refine W ?_
  refine aA (ih (nth t.ak gg) (by have:=kX (t:=t) (i:=gg) om;omega) (by have:=kX (t:=t) (i:=gg) om;omega) (cL.nth om) hidden _ L w2 (lW nI)) ?_
  rintro _ w3 ⟨rfl,aH⟩
  have eU:=aH.size
  refine bI aH hK aI λhK aI=>?_
  refine km rfl rfl rfl<|aZ<|zc rfl (λfB=>?_) (λfB=>?_)
  have hb:eY hidden t=false:=by rw[Lh ha jS tq,cP,QP om,fB];rfl
  refine W ?_
  exact⟨_,rfl,by rw[hb];rfl,hK⟩
  refine W ?_
  exact⟨gg+1,⟨rfl,rfl,rfl,rfl⟩,⟨hK,aI,om,om,by rw[cP,QP om,fB];rfl⟩,om⟩
  have hb:eY hidden t=true:=by rw[Lh ha jS tq,cP,List.drop_of_length_le om];rfl
  refine W ?_
  exact⟨_,rfl,by rw[hb];rfl,hK⟩

theorem aeD (t:au) (hs:t.size<=100000) (cL:WF t) (z:Int) (v:Value) (L:List Nat) (w:World) (hv:bC L w v t):
  bz Tryz.prog 169 [v,.int .u8 z] w λr w'=>r= .bool (iY z t)∧aj [] w w':=by
 have dd:=hv
 obtain⟨a,n,c,rfl,hn,aQ⟩:=dj hv
 have hK:=aj.refl [] w
 have oh:=vL t
 refine bX [.tmp 4] 39 Tryz.func169 rfl abp rfl rfl ?_
 refine zr<|eu rfl λw1 aI aN db=>bI aI hK dd λhK dd=>?_
 refine W ?_
 refine iD (λ_:Unit=>[(2,.pointer (some ⟨w.heap.size,0,none⟩)),(7,.int .u8 z),(8,.bool (decide (z=114)||decide (z=42)))]) (λ_ w'=>w'=w1) ?_ ?_
 refine zc rfl (λh1=>?_) (λh1=>?_)
 refine WZ ?_
 exact⟨(),⟨rfl,rfl,congrArg Value.bool (zj h1)⟩,rfl⟩
 refine W ?_
 exact⟨(),⟨rfl,rfl,congrArg Value.bool (zk h1)⟩,rfl⟩
 intro gu w2 e2 hI
 obtain rfl:=hI
 refine zc rfl (λh2=>?_) (λh2=>?_)
 have hc:=zn h2
 refine W ?_
 refine aA (aeC t _ L w2 dd) ?_
 rintro _ w3 ⟨rfl,aH⟩
 have eU:=aH.size
 have hK:=hK.ext aH
 refine W ?_
 exact⟨_,rfl,show Value.bool _=Value.bool _ from congrArg _ (by rw[iY,iP hc];rfl),hK⟩
 have hc:=zo h2
 refine W ?_
 refine zc rfl (λh3=>?_) (λh3=>?_)
 have bF:=h3
 refine W ?_
 refine aA (IW _ _) ?_
 rintro _ _ ⟨rfl,rfl⟩
 refine W ?_
 exact⟨_,rfl,show Value.bool _=Value.bool _ from congrArg _ (by rw[iY,iN hc,iP bF]),hK⟩
 have bF:=h3
 refine W ?_
 refine zc rfl (λh4=>?_) (λh4=>?_)
 have bU:=h4
 refine W ?_
 refine aA (SU _ om _) ?_
 rintro _ _ ⟨rfl,rfl⟩
 refine W ?_
 exact⟨_,rfl,show Value.bool _=Value.bool _ from congrArg _ (by rw[iY,iN hc,iN bF,iP bU]),hK⟩
 have bU:=h4
 refine W ?_
 refine zc rfl (λh5=>?_) (λh5=>?_)
 have dM:=h5
 refine W ?_
 refine aA (IV t _ L w2 dd) ?_
 rintro _ w3 ⟨rfl,aH⟩
 have eU:=aH.size
 refine cG aH hK dd aN λhK dd aN=>?_
 refine WZ ?_
 apply oA 3 33 36 (aj [] w3) rfl oQ
 intro _
 refine W ?_
 refine aA (MG t.size t (lR _) hs cL false _ L w3 dd) ?_
 rintro _ w4 ⟨rfl,aO⟩
 have fG:=aO.size
 exact oQ
 intro xx w4 aO
 have hK:=hK.ext aO
 refine W ?_
 exact⟨_,rfl,show Value.bool _=Value.bool _ from congrArg _ (by rw[iY,iN hc,iN bF,iN bU,iP dM]),hK⟩
 have dM:=h5
 refine W ?_
 refine aA (MG t.size t (lR _) hs cL false _ L w2 dd) ?_
 rintro _ w3 ⟨rfl,aH⟩
 have eU:=aH.size
 have hK:=hK.ext aH
 refine W ?_
 exact⟨_,rfl,show Value.bool _=Value.bool _ from congrArg _ (by rw[iY,iN hc,iN bF,iN bU,iN dM]),hK⟩
theorem aeE (h:ai) (w:World):bz Tryz.prog 168 [str h] w λr w'=>r=str (shapeOf h)∧w=w':=by
 refine bX [.tmp 2] 25 Tryz.func168 rfl abo rfl rfl ?_
 refine W ?_
 refine zc rfl (λh1=>?_) (λh1=>?_)
 have hc:=h1
 refine W ?_
 exact⟨_,rfl,show str _=str _ from congrArg _ (by rw[shapeOf,iP hc]),rfl⟩
 have hc:=h1
 refine W ?_
 refine iD (λ_:Unit=>[(3,str h),(6,.bool (decide (h=[109,111,118])||decide (h=[111,112,101,110])))]) (λ_ w'=>w'=w) ?_ ?_
 refine zc rfl (λh2=>?_) (λh2=>?_)
 refine WZ ?_
 exact⟨(),⟨rfl,congrArg Value.bool (zj h2)⟩,rfl⟩
 refine W ?_
 exact⟨(),⟨rfl,congrArg Value.bool (zk h2)⟩,rfl⟩
 intro gu w1 e1 hI
 obtain rfl:=hI
 refine zc rfl (λh3=>?_) (λh3=>?_)
 have bF:=zn h3
 refine W ?_
 exact⟨_,rfl,show str _=str _ from congrArg _ (by rw[shapeOf,iN hc,iP bF]),rfl⟩
 have bF:=zo h3
 refine W ?_
 refine iD (λ_:Unit=>[(3,str h),(9,.bool (decide (h=[97,100,100])||decide (h=[115,117,98])||decide (h=[109,117,108])))]) (λ_ w'=>w'=w1) ?_ ?_
 refine zc rfl (λh4=>?_) (λh4=>?_)
 refine WZ ?_
 exact⟨(),⟨rfl,congrArg Value.bool (QS h4)⟩,rfl⟩
 have fi:=h4
 refine W ?_
 refine zc rfl (λh5=>?_) (λh5=>?_)
 refine WZ ?_
 exact⟨(),⟨rfl,congrArg Value.bool (QT fi h5)⟩,rfl⟩
 refine W ?_
 exact⟨(),⟨rfl,congrArg Value.bool (QU fi h5)⟩,rfl⟩
 intro gu w2 e2 hI
 obtain rfl:=hI
 refine zc rfl (λh6=>?_) (λh6=>?_)
 have bU:=QV h6
 refine W ?_
 exact⟨_,rfl,show str _=str _ from congrArg _ (by rw[shapeOf,iN hc,iN bF,iP bU]),rfl⟩
 have bU:=QW h6
 refine W ?_
 refine zc rfl (λh7=>?_) (λh7=>?_)
 have dM:=h7
 refine W ?_
 exact⟨_,rfl,show str _=str _ from congrArg _ (by rw[shapeOf,iN hc,iN bF,iN bU,iP dM]),rfl⟩
 have dM:=h7
 refine W ?_
 refine zc rfl (λh8=>?_) (λh8=>?_)
 have jv:=h8
 refine W ?_
 exact⟨_,rfl,show str _=str _ from congrArg _ (by rw[shapeOf,iN hc,iN bF,iN bU,iN dM,iP jv]),rfl⟩
 have jv:=h8
 refine W ?_
 refine iD (λ_:Unit=>[(3,str h),(17,.bool (decide (h=[108,97,98])||decide (h=[122,101,114,111])))]) (λ_ w'=>w'=w2) ?_ ?_
 refine zc rfl (λh9=>?_) (λh9=>?_)
 refine WZ ?_
 exact⟨(),⟨rfl,congrArg Value.bool (zj h9)⟩,rfl⟩
 refine W ?_
 exact⟨(),⟨rfl,congrArg Value.bool (zk h9)⟩,rfl⟩
 intro gu w3 e3 hI
 obtain rfl:=hI
 refine zc rfl (λfB=>?_) (λfB=>?_)
 have j8:=zn fB
 refine W ?_
 exact⟨_,rfl,show str _=str _ from congrArg _ (by rw[shapeOf,iN hc,iN bF,iN bU,iN dM,iN jv,iP j8]),rfl⟩
 have j8:=zo fB
 refine W ?_
 refine zc rfl (λmB=>?_) (λmB=>?_)
 have qi:=mB
 refine W ?_
 exact⟨_,rfl,show str _=str _ from congrArg _ (by rw[shapeOf,iN hc,iN bF,iN bU,iN dM,iN jv,iN j8,iP qi]),rfl⟩
 have qi:=mB
 refine W ?_
 refine iD (λ_:Unit=>[(3,str h),(22,.bool (decide (h=[106,117,109,112])||decide (h=[104,97,108,116])))]) (λ_ w'=>w'=w3) ?_ ?_
 refine zc rfl (λkC=>?_) (λkC=>?_)
 refine WZ ?_
 exact⟨(),⟨rfl,congrArg Value.bool (zj kC)⟩,rfl⟩
 refine W ?_
 exact⟨(),⟨rfl,congrArg Value.bool (zk kC)⟩,rfl⟩
 intro gu w4 e4 hI
 obtain rfl:=hI
 refine zc rfl (λmD=>?_) (λmD=>?_)
 have Al:=zn mD
 refine W ?_
 exact⟨_,rfl,show str _=str _ from congrArg _ (by rw[shapeOf,iN hc,iN bF,iN bU,iN dM,iN jv,iN j8,iN qi,iP Al]),rfl⟩
 have Al:=zo mD
 refine W ?_
 exact⟨_,rfl,show str _=str _ from congrArg _ (by rw[shapeOf,iN hc,iN bF,iN bU,iN dM,iN jv,iN j8,iN qi,iN Al]),rfl⟩
theorem SV (t:au) (hs:t.size<=100000) (cL:WF t) (v:Value) (L:List Nat) (w:World) (hv:bC L w v t):
  bz Tryz.prog 139 [v] w λr w'=>r= .bool (lr t)∧aj [] w w':=by
 have dd:=hv
 obtain⟨a,n,c,rfl,hn,aQ⟩:=dj hv
 have hK:=aj.refl [] w
 have oh:=xz t
 have oV:=Zp (cg t)
 refine bX [.tmp 2] 67 Tryz.func139 rfl aa1 rfl rfl ?_
 refine zr<|eu rfl λw1 aI aW db=>cG aI hK aQ dd λhK aQ dd=>?_
 refine W ?_
 refine aA (IV t _ L w1 dd) ?_
 rintro _ w2 ⟨rfl,az⟩
 have dy:=az.size
 refine cG az hK aQ aW λhK aQ aW=>?_
 refine aA (aeE _ _) ?_
 rintro _ _ ⟨rfl,rfl⟩
 refine W ?_
 refine zc rfl (λh1=>?_) (λh1=>?_)
 refine W ?_
 exact⟨_,rfl,by rw[QY h1];rfl,hK⟩
 have dH:=h1
 refine WZ ?_
 apply oB 8 14 22 rfl oQ
 intro h2
 refine WZ ?_
 exact oQ
 intro xx
 refine WZ ?_
 apply oP 5 23 28 rfl oQ
 intro _
 refine WZ ?_
 exact oQ
 intro xx
 refine aZ<|zc rfl (λh4=>?_) (λh4=>?_)
 have hb:=(QX hn).symm.trans h4
 refine W ?_
 exact⟨_,rfl,by rw[Ll hb];rfl,hK⟩
 have hb:=(QX hn).symm.trans h4
 have h2:=Zo hb
 have p8:=Lk dH
 refine W ?_
 refine eH (λk:Nat=>[(1,.pointer (some ⟨w.heap.size,0,none⟩)),(3,str (shapeOf (cg t))),(4,.int .i64 (k:Int))]) (λk w'=>aj [] w w'∧aj [] w2 w'∧1<=k∧k<=t.ak.length∧∀i,i<k->1<=i->th t i=true) (λk=>t.ak.length-k) (1) (⟨rfl,rfl,rfl⟩) (⟨hK,aj.refl [] _,om,om,by intro i hi h1;omega⟩) λgg w3 e3 hI=>?_
 obtain⟨hK,aI,hk,fZ,cP⟩:=hI
 refine bI aI aQ aW λaQ aW=>?_
 refine W ?_
 refine zc rfl (λh5=>?_) (λh5=>?_)
 have hp:=fK (ps:=t.ak) (i:=gg) om
 obtain⟨b,off,pa,pn,pc,rfl,hc,eT,fD⟩:=ik aQ hp
 have nV:=List.length_pos_iff.2 dH
 refine WZ ?_
 apply kD cT 14 (rA 36 14) (rA 36 14) [[],[0],[],[1,2],[3],[],[],[],[7],[6,8],[9],[5,10],[4,11],[12]] [It.v _,It.v _,It.v _,It.v _,It.v _,It.v _,It.v _,It.v _,It.v _,It.v _,It.v _,It.v _,It.v _,It.v (.bool (!th t gg))] de rfl
 intro wd aB
 refine VA ?_
 refine vk aB (λx w4 aO=>?_) ?_
 refine Y5 rfl rfl rfl rfl (show(if((shapeOf (cg t)).length:Int)<(gg:Int) then((shapeOf (cg t)).length:Int) else(gg:Int))=((min gg (shapeOf (cg t)).length:Nat):Int) from by split<;>omega) ?_
 exact pv
 refine vk aB (λx w4 aO=>?_) ?_
 refine xh rfl rfl rfl rfl rfl (show IntKind.i64.wrap (((min gg (shapeOf (cg t)).length:Nat):Int)-1)=((min gg (shapeOf (cg t)).length-1:Nat):Int) from by rw[wrap_i64 _ om om];omega) ?_
 exact pv
 refine vk aB (λx w4 aO=>?_) ?_
 refine jM ia rfl rfl rfl rfl (iW om) ?_
 exact pv
 refine vk aB (λx w4 aO=>?_) ?_
 have fD:=fD.ext aO
 refine aA (aeD (nth t.ak gg) (by have:=kX (t:=t) (i:=gg) om;omega) (cL.nth om) _ _ L w4 (lW fD)) ?_
 rintro _ w5 ⟨rfl,aP⟩
 have og:=aP.size
 exact pk aP
 exact VZ
 intro x mI ie
 refine bI ie hK aI λhK aI=>?_
 change OW _ _ _ _ [] (bm (bg _ x _) (zZ 36 [_,_,_,_,_,_,_,_,_,_,_,_,_,_])) _
 refine aZ<|zc rfl (λh6=>?_) (λh6=>?_)
 have hq:th t gg=false:=by simpa using h6
 refine W ?_
 exact⟨_,rfl,by rw[Zq om hk hq];rfl,hK⟩
 have hq:th t gg=true:=by simpa using h6
 refine W ?_
 exact⟨gg+1,⟨rfl,rfl,rfl⟩,⟨hK,aI,om,om,by intro i hi h1;rcases Nat.lt_or_ge i gg with h|h;exact cP i h h1;rw[show i=gg by omega];exact hq⟩,om⟩
 have aN:=Zr dH hb (λi hi=>cP i om)
 have mG:=fK p8.2.1
 obtain⟨b,off,pa,pn,pc,rfl,er,eT,fD⟩:=ik aQ mG
 refine WI ?_
 refine zi (i:=0) cB aL rfl rfl (by rw[hn];exact p8.2.1)<|W ?_
 refine zc rfl (λh7=>?_) (λh7=>?_)
 have hg:cg t=[103,101,116]:=p8.2.2.trans h7
 have Am:=Zn hb hg
 have DX:=fK (ps:=t.ak) (i:=3) om
 obtain⟨b1,eR,gd,pG,gh,fH,bF,qL,nI⟩:=ik aQ DX
 cases fH
 refine zr<|zf jt rfl<|zl iG rfl (aW.at rfl)<|zi (i:=3) cB aL rfl rfl om<|zf kY rfl<|zl fA rfl (bF 0 _ rfl)<|aA (IW _ _) ?_
 rintro _ _ ⟨rfl,rfl⟩
 refine W ?_
 exact⟨_,rfl,show Value.bool _=Value.bool _ from congrArg _ (by rw[aN,show decide (cg t≠[103,101,116])=false from dF (λh=>h hg),Bool.false_or]),hK⟩
 have hg:cg t≠[103,101,116]:=λh=>h7 (p8.2.2.symm.trans h)
 refine W ?_
 exact⟨_,rfl,by rw[aN,dT hg];rfl,hK⟩
theorem aeF (s:ai) (w:World):bz Tryz.prog 101 [str s] w λr w'=>r= .bool (sh s)∧aj [] w w':=by
 have hK:=aj.refl [] w
 refine bX [.tmp 2] 15 Tryz.func101 rfl aaB rfl rfl ?_
 refine W ?_
 refine aA (Ak s [] w sm) ?_
 rintro v1 w1 ⟨fX,aI⟩
 have dm:=aI.size
 have hK:=hK.ext aI
 obtain⟨t,tv,rfl,ht,rD⟩:=fX
 obtain⟨pa,pn,pc,rfl,eT,aQ⟩:=dj ht
 refine W ?_
 refine dk aL rfl rfl rfl λw2 az cF dJ=>?_
 have hK:=hK.grow;have hK:=hK.ext az;have ht:=ht.grow;have ht:=ht.ext az
 refine cw aL rfl rfl rfl cF rfl λw3 aH cF gv=>?_
 have hK:=hK.aD aH sx;have ht:=ht.aD aH sx
 refine W ?_
 apply oA 3 11 14 (aj [] w3) rfl oQ
 intro h1
 obtain⟨t',nW⟩:=Option.isSome_iff_exists.1 h1
 have xO:=rD t' nW
 have cL:=s8 nW
 have gN:=zh nW
 rw[<-xO] at cL gN
 refine W ?_
 refine aA (MG t.size t (lR _) om cL false _ _ w3 ht) ?_
 rintro _ w4 ⟨rfl,aO⟩
 have fG:=aO.size
 exact oQ
 intro xx w4 aO
 have hK:=hK.ext aO
 refine W ?_
 exact⟨_,rfl,show Value.bool _=Value.bool _ from congrArg _ (Ih rD),hK⟩
theorem Gf (s:ai) (w:World):bz Tryz.prog 102 [str s] w λr w'=>r= .bool (si s)∧aj [] w w':=by
 have hK:=aj.refl [] w
 refine bX [.tmp 2] 15 Tryz.func102 rfl aaC rfl rfl ?_
 refine W ?_
 refine aA (Ak s [] w sm) ?_
 rintro v1 w1 ⟨fX,aI⟩
 have dm:=aI.size
 have hK:=hK.ext aI
 obtain⟨t,tv,rfl,ht,rD⟩:=fX
 obtain⟨pa,pn,pc,rfl,eT,aQ⟩:=dj ht
 refine W ?_
 refine dk aL rfl rfl rfl λw2 az cF dJ=>?_
 have hK:=hK.grow;have hK:=hK.ext az;have ht:=ht.grow;have ht:=ht.ext az
 refine cw aL rfl rfl rfl cF rfl λw3 aH cF gv=>?_
 have hK:=hK.aD aH sx;have ht:=ht.aD aH sx
 refine W ?_
 apply oA 3 11 14 (aj [] w3) rfl oQ
 intro h1
 obtain⟨t',nW⟩:=Option.isSome_iff_exists.1 h1
 have xO:=rD t' nW
 have cL:=s8 nW
 have gN:=zh nW
 rw[<-xO] at cL gN
 refine W ?_
 refine aA (SV t om cL _ _ w3 ht) ?_
 rintro _ w4 ⟨rfl,aO⟩
 have fG:=aO.size
 exact oQ
 intro xx w4 aO
 have hK:=hK.ext aO
 refine W ?_
 exact⟨_,rfl,show Value.bool _=Value.bool _ from congrArg _ (Ih rD),hK⟩
theorem IX (s:ai) (w:World):bz Tryz.prog 103 [str s] w λr w'=>r= .bool (Dy s)∧aj [] w w':=by
 have hK:=aj.refl [] w
 refine bX [.tmp 2] 31 Tryz.func103 rfl aaD rfl rfl ?_
 refine W ?_
 refine aA (Ak s [] w sm) ?_
 rintro v1 w1 ⟨fX,aI⟩
 have dm:=aI.size
 have hK:=hK.ext aI
 obtain⟨t,tv,rfl,ht,rD⟩:=fX
 obtain⟨pa,pn,pc,rfl,eT,aQ⟩:=dj ht
 refine W ?_
 refine dk aL rfl rfl rfl λw2 az cF dJ=>?_
 have hK:=hK.grow;have hK:=hK.ext az;have ht:=ht.grow;have ht:=ht.ext az;have aQ:=aQ.grow;have aQ:=aQ.ext az
 refine cw aL rfl rfl rfl cF rfl λw3 aH cF gv=>?_
 have hK:=hK.aD aH sx;have ht:=ht.aD aH sx;have aQ:=aQ.aD aH sx
 refine W ?_
 apply oA 3 11 14 (aj [] w3) rfl oQ
 intro h1
 obtain⟨t',nW⟩:=Option.isSome_iff_exists.1 h1
 have xO:=rD t' nW
 have cL:=s8 nW
 have gN:=zh nW
 rw[<-xO] at cL gN
 refine W ?_
 refine aA (SV t om cL _ _ w3 ht) ?_
 rintro _ w4 ⟨rfl,aO⟩
 have fG:=aO.size
 exact oQ
 intro xx w4 aO
 refine cG aO hK aQ cF λhK aQ cF=>?_
 refine WZ ?_
 apply oB 15 15 30 rfl oQ
 intro h2
 simp only[aE] at h2
 have hq:=Zs h2.2
 have mG:=fK hq
 obtain⟨b,off,xP,pn0,xQ,rfl,er,aof,fD⟩:=ik aQ mG
 refine WI ?_
 refine zi (i:=0) cB aL rfl rfl (by rw[eT];exact hq)<|WZ ?_
 apply oP 7 22 29 rfl oQ
 intro _
 refine WI ?_
 refine zi (i:=0) cB aL rfl rfl (by rw[eT];exact hq)<|WZ ?_
 exact oQ
 intro xx
 exact oQ
 intro xx
 refine W ?_
 exact⟨_,rfl,show Value.bool _=Value.bool _ from congrArg _ (by rw[Bool.and_assoc];exact Ih (f:=Ii) rD),hK⟩
theorem aeG (bs:List Bk) (hb:bs.length<9223372036854775807) (l:ai) (v:Value) (L:List Nat) (w:World) (hv:nj L w v bs):
  bz Tryz.prog 65 [v,str l] w λr w'=>r= .int .i64 (mv bs l)∧w=w':=by
 obtain⟨a,n,c,rfl,hn⟩:=Ft hv
 refine bX [.tmp 4] 20 Tryz.func65 rfl acH rfl rfl ?_
 refine W ?_
 refine eH (λk:Nat=>[(0,.slice a n c),(1,str l),(5,.int .i64 (k:Int))]) (λk w'=>w'=w∧k<=bs.length∧∀i,i<k->(bR bs i).aM≠l) (λk=>bs.length-k) (0) (⟨rfl,rfl,rfl⟩) (⟨rfl,om,by intro i hi;omega⟩) λgg w1 e1 hI=>?_
 obtain⟨rfl,hk,cP⟩:=hI
 refine W ?_
 refine zc rfl (λh1=>?_) (λh1=>?_)
 have hg:=py (bs:=bs) (i:=gg) om
 obtain⟨b,off,a1,n1,c1,a2,n2,c2,rfl,hc,fi,eK,dm,dy⟩:=Dv hv hg
 refine W ?_
 refine zc rfl (λh2=>?_) (λh2=>?_)
 have hf:=Lm om cP h2
 refine W ?_
 exact⟨_,rfl,by rw[hf];rfl,rfl⟩
 refine W ?_
 exact⟨gg+1,⟨rfl,rfl,rfl⟩,⟨rfl,om,by intro i hi;rcases Nat.lt_or_ge i gg with h|h;exact cP i h;rw[show i=gg by omega];exact h2⟩,om⟩
 have hf:=Zu (λi hi=>cP i om)
 refine W ?_
 exact⟨_,rfl,by rw[hf];rfl,rfl⟩
theorem aeH (k:Bk) (hl:k.aM.length<1000000000) (fi:k.ck.length<1000000000) (eK:k.code.length<1000000000) (v:Value) (L:List Nat) (w:World) (hv:qC L w v k):
  bz Tryz.prog 64 [v] w λr w'=>r= .bool (lu k)∧aj [] w w':=by
 obtain⟨a1,n1,c1,a2,n2,c2,rfl,oS,mq,dm,dy⟩:=Du hv
 have hK:=aj.refl [] w
 refine bX [.tmp 2] 65 Tryz.func64 rfl acG rfl rfl ?_
 refine zr<|eu rfl λw1 aI aW db=>cG aI hK dm dy λhK dm dy=>?_
 refine W ?_
 refine aA (SU _ om _) ?_
 rintro _ _ ⟨rfl,rfl⟩
 refine WZ ?_
 apply oP 5 9 14 rfl oQ
 intro _
 refine WZ ?_
 exact oQ
 intro xx
 refine WZ ?_
 apply oP 6 15 21 rfl oQ
 intro _
 refine W ?_
 refine aA (Ga _ _ _ _) ?_
 rintro _ _ ⟨rfl,rfl⟩
 exact oQ
 intro xx
 refine aZ<|zc rfl (λh3=>?_) (λh3=>?_)
 rw[Ij oS mq] at h3
 have hb:=QZ (b:=k) (QR h3)
 refine W ?_
 exact⟨_,rfl,by rw[hb];rfl,hK⟩
 rw[Ij oS mq] at h3
 have hb:(nk k.aM&&decide (k.ck.length<=40)&&(decide (1<=k.code.length)&&decide (k.code.length<=80)))=true:=QQ h3
 refine W ?_
 refine eH (λi:Nat=>[(1,.pointer (some ⟨w.heap.size,0,none⟩)),(3,.int .i64 (i:Int))]) (λi w'=>aj [] w w'∧aj [] w1 w'∧i<=k.ck.length∧∀j,j<i->sh (cv k.ck j)=true) (λi=>k.ck.length-i) (0) (⟨rfl,rfl⟩) (⟨hK,aj.refl [] _,om,by intro i hi;omega⟩) λgg w2 e2 hI=>?_
 obtain⟨hK,aI,hk,cP⟩:=hI
 refine cG aI dm dy aW λdm dy aW=>?_
 refine W ?_
 refine zc rfl (λh4=>?_) (λh4=>?_)
 have hg:=jN (xs:=k.ck) (i:=gg) om
 obtain⟨b,off,rfl,hc⟩:=mu dm hg
 refine W ?_
 refine aA (aeF _ w2) ?_
 rintro _ w3 ⟨rfl,aH⟩
 have eU:=aH.size
 refine bI aH hK aI λhK aI=>?_
 refine km rfl rfl rfl<|aZ<|zc rfl (λh5=>?_) (λh5=>?_)
 have hq:=Q0 (b:=k) (i:=gg) om (by simpa using h5)
 refine W ?_
 exact⟨_,rfl,by rw[hq];rfl,hK⟩
 refine W ?_
 exact⟨gg+1,⟨rfl,rfl⟩,⟨hK,aI,om,by intro i hi;rcases Nat.lt_or_ge i gg with h|h;exact cP i h;rw[show i=gg by omega];simpa using h5⟩,om⟩
 have MH:∀i,i<k.ck.length->sh (cv k.ck i)=true:=λi hi=>cP i om
 clear cP aI hk
 refine W ?_
 refine eH (λi:Nat=>[(1,.pointer (some ⟨w.heap.size,0,none⟩)),(4,.int .i64 (i:Int))]) (λi w'=>aj [] w w'∧aj [] w2 w'∧i<=k.code.length∧∀j,j<i->rl k.code j=true) (λi=>k.code.length-i) (0) (⟨rfl,rfl⟩) (⟨hK,aj.refl [] _,om,by intro i hi;omega⟩) λgg w3 e3 hI=>?_
 obtain⟨hK,aI,hk,cP⟩:=hI
 refine bI aI dy aW λdy aW=>?_
 refine W ?_
 refine zc rfl (λh6=>?_) (λh6=>?_)
 have hg:=jN (xs:=k.code) (i:=gg) om
 obtain⟨b,off,rfl,hc⟩:=mu dy hg
 refine W ?_
 refine DP [43,44,45,46,47,48,49,50,51,52,53,54,55,56,57,58,59,60,61,62,63,64] [(64,.bool (!si (cv k.code gg)||(Dy (cv k.code gg) !=decide ((gg:Int)=(n2:Int)-1))))] ?_ ?_
 rcases bE (!si (cv k.code gg)) with iH|iH
 apply kD cT 22 (rA 43 22) (rA 43 22) [[],[0],[],[1,2],[3],[4],[5],[6],[7],[7,8],[7],[7,9,10],[7,11],[7,12],[7],[7],[7,15],[7,16],[7,17],[7,14,18],[7,13,19],[7,20]] [It.v _,It.v _,It.v _,It.v _,It.v _,It.v _,It.v _,It.v (.bool true),It.v _,It.v _,It.v _,It.v _,It.v _,It.v _,It.v _,It.v _,It.v _,It.v _,It.v _,It.v _,It.v _,It.v _] de rfl
 intro wd aB
 refine VA ?_
 refine vk aB (λx w4 aO=>?_) ?_
 refine aA (Gf _ w4) ?_
 rintro _ w5 ⟨rfl,aP⟩
 have og:=aP.size
 exact pk aP
 refine VA ?_
 refine vc (λx w4 aO=>?_) ?_
 refine WZ ?_
 exact pv (by exact congrArg Value.bool iH)
 exact VZ
 intro x mI ie
 change OW _ _ _ _ [] (bm (bg _ x _) (zZ 43 [_,_,_,_,_,_,_,_,_,_,_,_,_,_,_,_,_,_,_,_,_,_])) _
 refine W ?_
 exact kE ie
 apply kD cT 22 (rA 43 22) (rA 43 22) [[],[0],[],[1,2],[3],[4],[5],[6],[7],[7,8],[7],[7,9,10],[7,11],[7,12],[7],[7],[7,15],[7,16],[7,17],[7,14,18],[7,13,19],[7,20]] [It.v _,It.v _,It.v _,It.v _,It.v _,It.v _,It.v _,It.v (.bool false),It.v _,It.v _,It.v _,It.v _,It.v _,It.v _,It.v _,It.v _,It.v _,It.v _,It.v _,It.v _,It.v _,It.v _] de rfl
 intro wd aB
 refine VA ?_
 refine vk aB (λx w4 aO=>?_) ?_
 refine aA (Gf _ w4) ?_
 rintro _ w5 ⟨rfl,aP⟩
 have og:=aP.size
 exact pk aP
 refine VA ?_
 refine vc (λx w4 aO=>?_) ?_
 refine WZ ?_
 exact pv (by exact congrArg Value.bool iH)
 refine VA ?_
 refine vk aB (λx w4 aO=>?_) ?_
 refine aA (IX _ w4) ?_
 rintro _ w5 ⟨rfl,aP⟩
 have og:=aP.size
 exact pk aP
 exact VZ
 intro x mI ie
 change OW _ _ _ _ [] (bm (bg _ x _) (zZ 43 [_,_,_,_,_,_,_,_,_,_,_,_,_,_,_,_,_,_,_,_,_,_])) _
 refine W ?_
 exact kE ie
 intro x mI ie
 refine bI ie hK aI λhK aI=>?_
 refine zc rfl (λh7=>?_) (λh7=>?_)
 rw[Ln mq om] at h7
 have hq:=Q1 (b:=k) (i:=gg) om (by simpa using h7)
 refine W ?_
 exact⟨_,rfl,by rw[hq];rfl,hK⟩
 rw[Ln mq om] at h7
 refine W ?_
 exact⟨gg+1,⟨rfl,rfl⟩,⟨hK,aI,om,by intro i hi;rcases Nat.lt_or_ge i gg with h|h;exact cP i h;rw[show i=gg by omega];simpa using h7⟩,om⟩
 have hq:=Q2 hb MH (λi hi=>cP i om)
 refine W ?_
 exact⟨_,rfl,by rw[hq];rfl,hK⟩
theorem SW (bs:List Bk) (hb:ti bs) (v:Value) (L:List Nat) (w:World) (hv:nj L w v bs):
  bz Tryz.prog 33 [v] w λr w'=>r= .bool (gk bs)∧aj [] w w':=by
 obtain⟨a,n,c,rfl,hn⟩:=Ft hv
 have hK:=aj.refl [] w
 have ig:=hb.1
 refine bX [.tmp 2] 45 Tryz.func33 rfl aco rfl rfl ?_
 refine W ?_
 refine eH (λi:Nat=>[(0,.slice a n c),(3,.int .i64 (i:Int))]) (λi w'=>aj [] w w'∧i<=bs.length∧∀j,j<i->lu (bR bs j)=true∧mv bs (bR bs j).aM=(j:Int)) (λi=>bs.length-i) (0) (⟨rfl,rfl⟩) (⟨hK,om,by intro i hi;omega⟩) λgg w1 e1 hI=>?_
 obtain⟨hK,hk,cP⟩:=hI
 have hv:=hv.ext hK
 refine W ?_
 refine zc rfl (λh1=>?_) (λh1=>?_)
 have hg:=py (bs:=bs) (i:=gg) om
 obtain⟨b,off,a1,n1,c1,a2,n2,c2,rfl,hc,fi,eK,dm,dy⟩:=Dv hv hg
 have qM:=hb.2 gg om
 refine W ?_
 refine aA (aeH (bR bs gg) qM.1 qM.2.1 qM.2.2 _ _ w1 (Bv dm dy)) ?_
 rintro _ w2 ⟨rfl,az⟩
 have dy:=az.size
 refine cG az hK hv hc λhK hv hc=>?_
 refine WZ ?_
 apply oP 10 16 26 rfl oQ
 intro h2
 refine zm<|zm<|zm<|zi jD gB rfl rfl om<|zf LM rfl<|zl fA rfl (hc 0 _ rfl)<|aA (aeG bs om _ _ _ _ hv) ?_
 rintro _ _ ⟨rfl,rfl⟩
 exact oQ
 intro xx
 refine aZ<|zc rfl (λh3=>?_) (λh3=>?_)
 have hq:=Q3 (bs:=bs) (i:=gg) om (λhh=>by rw[hh.1,hh.2] at h3;simp at h3)
 refine W ?_
 exact⟨_,rfl,by rw[hq];rfl,hK⟩
 simp only[Bool.or_eq_false_iff,Bool.not_eq_false',decide_eq_false_iff_not,ne_eq,Classical.not_not] at h3
 refine W ?_
 exact⟨gg+1,⟨rfl,rfl⟩,⟨hK,om,by intro i hi;rcases Nat.lt_or_ge i gg with h|h;exact cP i h;rw[show i=gg by omega];exact h3⟩,om⟩
 have hq:=Q4 (λi hi=>cP i om)
 clear cP
 refine W ?_
 refine aA (Ga _ _ _ _) ?_
 rintro _ _ ⟨rfl,rfl⟩
 refine WZ ?_
 apply oB 6 30 36 rfl oQ
 intro h4
 simp at h4
 have h0:=py (bs:=bs) (i:=0) om
 obtain⟨b,off,a1,n1,c1,a2,n2,c2,rfl,hc,fi,eK,dm,dy⟩:=Dv hv h0
 refine zm<|zi (i:=0) jD gB rfl rfl om<|zf LM rfl<|zl fA rfl (hc 0 _ rfl) ?_
 exact oQ
 intro xx
 refine WZ ?_
 apply oB 7 37 44 rfl oQ
 intro h5
 simp at h5
 have h0:=py (bs:=bs) (i:=0) om
 obtain⟨b,off,a1,n1,c1,a2,n2,c2,rfl,hc,fi,eK,dm,dy⟩:=Dv hv h0
 subst fi
 refine zm<|zi (i:=0) jD gB rfl rfl om<|zf LN rfl<|zl tl rfl (hc 1 _ rfl) ?_
 exact oQ
 intro xx
 refine W ?_
 exact⟨_,rfl,show Value.bool _=Value.bool _ from congrArg _ (by rw[hq];exact Zv hn (λ_=>rfl)),hK⟩
def eP.enc (b:eP):List C:=[.val (str b.aM),.sl 2 (cX b.regs),.sl 2 (cX b.code)]
def nJ (L:List Nat) (w:World) (v:Value) (b:eP):Prop:=j1 L w v b.enc
theorem nJ.ext {b:eP} (h:nJ L w v b) (k:aj [] w w'):nJ L w' v b:=j1.ext h k
theorem nJ.grow {b:eP} (h:nJ L w v b):nJ (w.heap.size::L) w v b:=j1.fresh h xq
theorem nJ.aD {b:eP} (h:nJ L w v b) (k:aj L' w w') (hL:∀x,x∈L'->x∈L):nJ L w' v b:=j1.aG h (k.mono hL)
theorem nJ.iF {b:eP} (h:nJ L w v b) (hL:∀x,x∈L'->x∈L):nJ L' w v b:=j1.fresh h λx hx=>.inl (hL x hx)
theorem SX {b:eP} (h:cW L w vs b.enc):∃v1 v2,vs=[str b.aM,v1,v2]∧ek L w v1 b.regs∧ek L w v2 b.code:=by
 rw[eP.enc] at h
 match vs,h with
 |[v0,v1,v2],h=>obtain⟨h0,h1,h2,_⟩:=h;cases h0;exact⟨v1,v2,rfl,h1,h2⟩
 |[],h=>exact h.elim
 |[_],h=>exact h.2.elim
 |[_,_],h=>exact h.2.2.elim
 |_::_::_::_::_,h=>exact h.2.2.2.elim
theorem IY {ts:List au} (h:ek L w v ts):∃a c,v= .slice a ts.length c:=by grind [ek,rh,gZ]
theorem SY {b:eP} (h:nJ L w v b):∃a1 c1 a2 c2,v= .agg #[str b.aM,.slice a1 b.regs.length c1,.slice a2 b.code.length c2]∧
  ek L w (.slice a1 b.regs.length c1) b.regs∧ek L w (.slice a2 b.code.length c2) b.code:=by
 obtain⟨vs,rfl,hr⟩:=h
 obtain⟨v1,v2,rfl,h1,h2⟩:=SX hr
 obtain⟨a1,c1,rfl⟩:=IY h1
 obtain⟨a2,c2,rfl⟩:=IY h2
 exact⟨a1,c1,a2,c2,rfl,h1,h2⟩
theorem MI {l:ai} {r c:List au} {v1 v2:Value} (h1:ek L w v1 r) (h2:ek L w v2 c):nJ L w (.agg #[str l,v1,v2]) ⟨l,r,c⟩:=
 ⟨[str l,v1,v2],rfl,.val _,h1,h2,trivial⟩
theorem nJ.ko {x y:Value} {b:eP} (h:nJ L w (.agg #[x,y,z]) b):cW L w [x,y,z] b.enc:=by
 obtain⟨vs,he,hr⟩:=h
 have hv:vs=[x,y,z]:=by
  have:=congrArg (λv=>match v with|Value.agg x=>x.toList|_=>[]) he
  simpa using this.symm
 rw[<-hv];exact hr
def nK (L:List Nat) (w:World) (v:Value) (ps:List eP):Prop:=bN L w v (.sl 3 (ps.map eP.enc))
theorem nK.ext (h:nK L w v ps) (k:aj [] w w'):nK L w' v ps:=bN.ext h k
theorem nK.iF {b:List eP} (h:nK L w v b) (hL:∀x,x∈L'->x∈L):nK L' w v b:=bN.fresh h λx hx=>.inl (hL x hx)
theorem SZ:nK L w (.slice none 0 0) []:=.nil _ _ _
theorem IZ (h:nK L w v ps):∃a c,v= .slice a ps.length c:=by grind [nK,rh]
theorem I0 {a:Option Addr} {k:eP} (h:nK L w (.slice a n c) ps) (hi:ps[i]?=some k):
  ∃b off a1 c1 a2 c2,a=some ⟨b,off,none⟩∧fQ w b (off+i*3) [str k.aM,.slice a1 k.regs.length c1,.slice a2 k.code.length c2]∧ek L w (.slice a1 k.regs.length c1) k.regs∧ek L w (.slice a2 k.code.length c2) k.code:=by
 obtain⟨b,off,vs,ha,hb,hL,hl,hc,hr⟩:=yR h (show(ps.map eP.enc)[i]?=some k.enc by simp[hi])
 obtain⟨v1,v2,rfl,h1,h2⟩:=SX hr
 obtain⟨a1,c1,rfl⟩:=IY h1
 obtain⟨a2,c2,rfl⟩:=IY h2
 exact⟨b,off,a1,c1,a2,c2,ha,hc,h1,h2⟩
theorem Gr.prog {T:TypeId} (h:Gr B L w T 3 v g (ps.map eP.enc)):nK L w v ps:=h.done
section
variable {P:Program} {n:Nat} {ops:Array Oper} {K:Env->World->Prop} {rest:List Oper} {e:Env} {w:World}
 {dst:Option Nat} {ty:TypeId} {pos:String} {after:Array Edge} {g:Option (Nat×Bool)} {x y:Operand}
theorem aeI {B:Nat} {L:List Nat} {t:Nat} {v u1 u2 u3:Value} {gb:Option Nat} {ts:List eP} {f:eP} {b U:Nat} (hT:P.underlying t=some (.slice E)) (hE:TI P E 3 bytes z) (hg:gate ops e g=true) (hd:cm n dst=true) (hz:Nat.beq z.cells.size 3=true) (gj:Nat.ble bytes 1000=true) 
  (hx:ev e x=v) (hy:ev e y= .slice (some ⟨b,0,none⟩) 1 1) (hO:Gr B L w E 3 v gb (ts.map eP.enc)) (hb:aJ w b [u1,u2,u3].toArray U)
  (hr:nJ (gb.toList++L) w (.agg #[u1,u2,u3]) f) (hn:ts.length<100000000)
  (k:∀a' cap' g' w',Gr B L w' E 3 (.slice a' (ts++[f]).length cap') g' ((ts++[f]).map eP.enc)->aj gb.toList w w'->OW P n ops K rest (bQ e dst (.slice a' (ts++[f]).length cap')) w'):
  OW P n ops K (⟨dst,.call {callee:=.builtin .append,args:=#[x,y],argTypes:=#[t,t]},ty,pos,after,g⟩::rest) e w:=by
 refine Fu hT hE hg hd hz gj hx hy hO hb rfl ?_ hr.ko (by simpa using hn) ?_
 ·rw[List.all_eq_true]
  refine λu hu=>cW.Fq hr.ko (λc hc v hv=>?_) u hu
  rw[eP.enc] at hc
  simp only[mC,List.not_mem_nil,or_false] at hc
  rcases hc with h|h|h
  ·rw[h] at hv;cases hv;rfl
  ·rw[h] at hv;cases hv
  ·rw[h] at hv;cases hv
 ·intro a' cap' g' w' jO hk
  have e1:(ts.map eP.enc).length+1=(ts++[f]).length:=by simp
  have e2:ts.map eP.enc++[f.enc]=(ts++[f]).map eP.enc:=by simp
  rw[e1] at jO⊢
  rw[e2] at jO
  exact k a' cap' g' w' jO hk
end
theorem tG:∀(m:Nat) (t:au),t.size<=m->WF t->t.size<=100000000->t.text.length<=100000000->∀(v:Value) (L:List Nat) (w:World),bC L w v t->
  bz Tryz.prog 106 [v] w λr w'=>r=str t.text∧aj [] w w':=by
 intro m
 induction m with
 |zero=>intro t h cL;have:=Rd cL;omega
 |succ m ih=>
  intro t hm cL mJ fE v L w hv
  obtain⟨a,n,c,rfl,hn,aQ⟩:=dj hv
  subst hn
  have mH:=xz t
  have hK:=aj.refl [] w
  refine bX [.tmp 2] 31 Tryz.func106 rfl aaE rfl rfl ?_
  refine zr<|eu rfl λw1 aI aW db=>?_
  have hK:=hK.ext aI
  refine W ?_
  refine zc rfl (λh1=>?_) (λh1=>?_)
  have ht:=aav cL (by rw[cL.leaf h1];rfl)
  refine W ?_
  exact⟨_,rfl,show str _=str _ from congrArg _ ht.symm,hK⟩
  have ha:t.aw=[]:=Classical.not_not.1 h1
  refine W ?_
  refine eH (λk:Nat=>[(1,.pointer (some ⟨w.heap.size,0,none⟩)),(3,str (uy (t.ak.take k))),(4,.int .i64 (k:Int))]) (λk w'=>aj [] w w'∧aJ w' w.heap.size [str t.aw,.slice a t.ak.length c].toArray 74∧k<=t.ak.length) (λk=>t.ak.length-k) (0) (⟨rfl,rfl,rfl⟩) (⟨hK,aW,om⟩) λgg w2 e2 hI=>?_
  obtain⟨hK,aW,hk⟩:=hI
  refine W ?_
  refine zc rfl (λh2=>?_) (λh2=>?_)
  have fu:=fK (ps:=t.ak) (i:=gg) om
  obtain⟨b1,eR,pa,pn,pc,rfl,j9,eT,fD⟩:=ik aQ fu
  subst eT
  have BV:=cL.nth (i:=gg) om
  have nV:=kX (t:=t) (i:=gg) om
  have oU:=LD cL ha hk
  have rE:=LD cL ha (k:=gg+1) om
  have aS:=Rx (ps:=t.ak) (k:=gg) om
  have hlen:=congrArg List.length aS
  rw[lA] at hlen
  refine W ?_
  refine iD (λ_:Unit=>[(1,.pointer (some ⟨w.heap.size,0,none⟩)),(3,str (uy (t.ak.take gg)++(if gg=0 then[] else[32]))),(4,.int .i64 (gg:Int))]) (λ_ w'=>w'=w2) ?_ ?_
  refine zc rfl (λh3=>?_) (λh3=>?_)
  have MJ:¬gg=0:=by omega
  refine W ?_
  exact⟨(),⟨rfl,by rw[iN MJ];rfl,rfl⟩,rfl⟩
  have MJ:gg=0:=by omega
  refine WZ ?_
  exact⟨(),⟨rfl,by rw[iP MJ,List.append_nil];rfl,rfl⟩,rfl⟩
  intro gu w3 e3 hI
  obtain rfl:=hI
  refine WL ?_
  refine zl iG rfl (aW.at rfl)<|zm<|zi cB aL rfl rfl om<|zL eQ aL rfl (j9.ext hK) rfl<|aA (ih (nth t.ak gg) om BV om om _ L w3 ((lW fD).ext hK)) ?_
  rintro _ w4 ⟨rfl,aO⟩
  have fG:=aO.size
  refine bI aO hK aW λhK aW=>?_
  refine gU rfl rfl rfl rfl om<|W ?_
  exact⟨gg+1,⟨rfl,by rw[aS];rfl,rfl⟩,⟨hK,aW,om⟩,om⟩
  have fM:gg=t.ak.length:=by omega
  have Gg:=Ry cL ha
  have oU:=LD cL ha hk
  subst fM
  refine WS ?_
  refine gU rfl rfl rfl rfl (by simp at oU⊢;omega)<|zA<|aZ<|jJ ?_
  exact⟨_,rfl,show str _=str _ from congrArg _ Gg,hK⟩
theorem xR (h:ai) (ps:List ai) (hl:(dP h ps).length<=1000000000) (v:Value) (L:List Nat) (w:World) (hv:bc L w v ps):bz Tryz.prog 135 [str h,v] w λr w'=>r=str (dP h ps)∧aj [] w w':=by
 obtain⟨a,n,c,rfl,hn⟩:=dI hv
 subst hn
 have hK:=aj.refl [] w
 have hh:=λk=>aaz (h:=h) (ps:=ps) k
 have S1:(uz h ps 0).length=h.length+1:=by simp[uz,p5]
 have h01:=hh 0
 have mH:ps.length<=(dP h ps).length:=by simp only[dP,lC,lA,RB,js];omega
 refine bX [.tmp 4] 24 Tryz.func135 rfl aaX rfl rfl ?_
 refine WS ?_
 refine gU rfl rfl rfl rfl (by simp only[lC,List.length_nil];omega)<|W ?_
 refine eH (λk:Nat=>[(1,.slice a ps.length c),(5,str (uz h ps k)),(6,.int .i64 (k:Int))]) (λk w'=>aj [] w w'∧k<=ps.length) (λk=>ps.length-k) (0) (⟨rfl,show str _=str _ from congrArg _ (by simp[uz,p5]),rfl⟩) (⟨hK,om⟩) λgg w1 e1 hI=>?_
 obtain⟨hK,hk⟩:=hI
 refine W ?_
 refine zc rfl (λh1=>?_) (λh1=>?_)
 have hg:=jN (xs:=ps) (i:=gg) om
 obtain⟨b1,eR,rfl,bF⟩:=mu hv hg
 have aS:=aax (h:=h) (ps:=ps) (k:=gg) om
 have hlen:=congrArg List.length aS
 simp only[lA,lC,List.length_nil] at hlen
 have hle:=hh (gg+1)
 refine WS ?_
 refine gU rfl rfl rfl rfl (by simp only[lC,List.length_nil];omega)<|WL ?_
 refine zl fA rfl (bF.ext hK 0 _ rfl)<|gU rfl rfl rfl rfl (by simp only[lA,lC,List.length_nil];omega)<|W ?_
 exact⟨gg+1,⟨rfl,show str _=str _ from congrArg _ aS.symm,rfl⟩,⟨hK,om⟩,om⟩
 have hle:=hh gg
 refine WS ?_
 refine gU rfl rfl rfl rfl (by simp only[lC,List.length_nil];omega)<|zA<|aZ<|jJ ?_
 exact⟨_,rfl,show str _=str _ from congrArg _ (aay om),hK⟩
def apart:List (Option Nat×Option Nat)->Prop
 |[]=>True
 |g::gs=>(∀x,x∈iX g->x∉gA gs)∧apart gs
theorem I1 (g:Option Nat×Option Nat) (gs:List (Option Nat×Option Nat)):gA (g::gs)=iX g++gA gs:=by simp[gA]
theorem MK (gs:List (Option Nat×Option Nat)) (g:Option Nat×Option Nat):gA (gs++[g])=gA gs++iX g:=by simp[gA]
section
variable {P:Program} {n:Nat} {ops:Array Oper} {K:Env->World->Prop} {rest:List Oper} {e:Env} {w:World}
 {dst:Option Nat} {ty:TypeId} {pos:String} {after:Array Edge} {g:Option (Nat×Bool)} {x y:Operand}
end
/-! ### Operations -/
section
variable {P:Program} {n:Nat} {ops:Array Oper} {K:Env->World->Prop} {rest:List Oper} {e:Env} {w:World}
 {dst:Option Nat} {ty:TypeId} {pos:String} {after:Array Edge} {g:Option (Nat×Bool)} {x y:Operand}
theorem S2 {D b cap:Nat} {z:Int} {c:UInt8} {U:TypeId} (hS:P.underlying S=some (.slice E)) (hE:P.underlying E=some (.int .u8)) (hD:P.underlying D=some .string) (hg:gate ops e g=true) (hd:cm n dst=true) 
  (hx:ev e x= .slice (some ⟨b,0,none⟩) 1 cap) (hb:aJ w b [.int .u8 z].toArray U) (hz:z=(c.toNat:Int)) (k:OW P n ops K rest (bQ e dst (str [c])) w):OW P n ops K (⟨dst,.convert S D x,ty,pos,after,g⟩::rest) e w:=by
 have jK:=run_convert_bytes_back (P:=P) w S D E ⟨b,0,none⟩ cap [c] hS hE hD (by
  intro j hj
  have:j=0:=by simpa using hj
  subst this
  have:=hb.cell 0
  simpa[Addr.add,hz] using this)
 exact eX hg hd (v:=str [c]) (w':=w) (by
  have uJ:ev e x= .slice (some ⟨b,0,none⟩) ([c]:List UInt8).length cap:=hx
  simp only[execOp,uJ,Sem.run_bind,jK,Result.andThen_ok,Sem.run_pure]) k
theorem S3 {T TS:Nat} {gb:Option Nat} {xs:List ai} {s:ai} {nn c:Nat} (jL:TI P T 1 bytes z) (hg:gate ops e g=true) (hx:ev e x= .pointer (some ⟨b,o,none⟩)) (hy:ev e y=str s) (ho:o=i) 
  (hO:cz w TS (.slice (some ⟨b,0,none⟩) nn c) gb xs) (hi:i<xs.length)
  (k:∀w',aj gb.toList w w'->cz w' TS (.slice (some ⟨b,0,none⟩) nn c) gb (xs.set i s)->w'.heap.size=w.heap.size->OW P n ops K rest e w'):OW P n ops K (⟨none,.store T x y,ty,pos,after,g⟩::rest) e w:=by
 subst ho
 obtain⟨hl,h|⟨b',cap,cur,oe,hv,hb,mn,lT,bY,ht⟩⟩:=hO
 ·obtain⟨h,_⟩:=h;cases h
 ·cases hv
  subst oe
  refine Dl jL rfl hg hx hy rfl hb (by rw[bY];omega) λw' hk gO hz=>?_
  refine k w' (by simpa using hk) ⟨by simp,.inr ⟨b,_,_,rfl,sm,gO,by simpa using mn,lT,by simpa using bY,?_⟩⟩ hz
  rw[Array.toList_setIfInBounds,List.length_set,List.take_set,ht,List.map_set]
end
theorem S4 {α:Type}:∀{rows:List (List α)} {i j:Nat} {a:α} {row:List α},(∀row,row∈rows->row.length=sz)->rows[i]?=some row->j<sz->rows.flatten.set (i*sz+j) a=(rows.set i (row.set j a)).flatten
 |r::rows,0,j,a,row,h,hi,hj=>by
  simp only[List.getElem?_cons_zero,Option.some.injEq] at hi
  subst hi
  have hr:r.length=sz:=h r sm
  rw[List.flatten_cons,Nat.zero_mul,Nat.zero_add,List.set_cons_zero,List.flatten_cons,List.set_append_left _ _ om]
 |r::rows,i+1,j,a,row,h,hi,hj=>by
  have hr:r.length=sz:=h r sm
  have:=S4 (rows:=rows) (a:=a) (λrow hr=>h row (by simp[hr])) (by simpa using hi) hj
  rw[List.flatten_cons,List.set_cons_succ,List.flatten_cons,List.set_append_right _ _ (by rw[hr,Nat.add_mul];omega),hr,<-this]
  congr 2
  rw[Nat.add_mul];omega
theorem iR.set {T:TypeId}:∀{gss:List (Option Nat×Option Nat)} {vss:List (List Value)} {bs:List Bk} {i:Nat} {g:Option Nat×Option Nat} {v:List Value} {f:Bk},iR w T gss vss bs->gss[i]?=some g->p4 w' T g v f->
  (∀(j:Nat) (g2:Option Nat×Option Nat) (v2:List Value) (b2:Bk),j≠i->gss[j]?=some g2->p4 w T g2 v2 b2->p4 w' T g2 v2 b2)->iR w' T gss (vss.set i v) (bs.set i f)
 |[],[],[],i,g,v,f,_,hg,_,_=>by simp at hg
 |g0::gs,v0::vs,b0::bs,0,g,v,f,h,hg,hf,hk=>by
  simp only[List.getElem?_cons_zero,Option.some.injEq] at hg
  subst hg
  refine⟨hf,?_⟩
  have key:∀{gs:List (Option Nat×Option Nat)} {vs:List (List Value)} {bs:List Bk},(∀(j:Nat) (g2:Option Nat×Option Nat) (v2:List Value) (b2:Bk),gs[j]?=some g2->p4 w T g2 v2 b2->p4 w' T g2 v2 b2)->iR w T gs vs bs->iR w' T gs vs bs:=by
   intro gs
   induction gs with
   |nil=>intro vs bs _ h;cases vs<;>cases bs<;>first|trivial|exact h.elim
   |cons g gs ih=>
    intro vs bs hk h
    cases vs with
    |nil=>cases bs<;>exact h.elim
    |cons v vs=>
     cases bs with
     |nil=>exact h.elim
     |cons b bs=>exact⟨hk 0 _ _ _ rfl h.1,ih (λj g2 v2 b2 hj=>hk (j+1) g2 v2 b2 (by simpa using hj)) h.2⟩
  exact key (λj g2 v2 b2 hj ho=>hk (j+1) g2 v2 b2 om (by simpa using hj) ho) h.2
 |g0::gs,v0::vs,b0::bs,i+1,g,v,f,h,hg,hf,hk=>
  ⟨hk 0 _ _ _ om rfl h.1,iR.set h.2 (by simpa using hg) hf λj g2 v2 b2 hj iT ho=>hk (j+1) g2 v2 b2 om (by simpa using iT) ho⟩
theorem BW {g:Option Nat×Option Nat} {x:Nat} (hg:gss[i]?=some g) (hx:x∈iX g):x∈gA gss:=by grind [gA]
theorem aeJ:∀{gss:List (Option Nat×Option Nat)} {i j:Nat} {g g2:Option Nat×Option Nat} {x:Nat},(gA gss).Nodup->i≠j->gss[i]?=some g->gss[j]?=some g2->x∈iX g->x∉iX g2:=by intro x;induction x<;>grind [gA,iX]
theorem lX.row {w w':World} {TB TS:TypeId} {v:Value} {g:Option Nat} {gss:List (Option Nat×Option Nat)} {vss:List (List Value)} {bs:List Bk} {i:Nat} {gs:Option Nat×Option Nat} {vs:List Value} {f:Bk} {L:List Nat} 
  (h:lX w TB TS v g gss vss bs) (hg:gss[i]?=some gs) (hv:vss[i]?=some vs) (hk:aj L w w') (hL:∀x,x∈L->x∈iX gs) (hf:p4 w' TS gs vs f):lX w' TB TS v g gss vss (bs.set i f):=by
 have hd:=(List.nodup_append.1 h.nodup)
 have yU:vss.set i vs=vss:=by
  refine List.ext_getElem sm λj h1 h2=>?_
  rw[List.getElem_set]
  split
  ·rename_i kn;subst kn
   rw[gE h2] at hv;simpa using hv.symm
  ·rfl
 have hr:=iR.set (w':=w') h.rows hg hf (λj g2 v2 b2 hj iT ho=>ho.aG hk λx hx kV=>aeJ hd.2.1 hj iT hg hx (hL x kV))
 rw[yU] at hr
 exact⟨by rw[List.length_set];exact h.own.aG hk (λb hb hx=>hd.2.2 b (by simp[hb]) b (BW hg (hL b hx)) rfl),hr,h.nodup,λx hx=>lL (h.lt x hx) hk.size⟩
section
variable {P:Program} {n:Nat} {ops:Array Oper} {K:Env->World->Prop} {rest:List Oper} {e:Env} {w:World}
 {dst:Option Nat} {ty:TypeId} {pos:String} {after:Array Edge} {g:Option (Nat×Bool)} {x y:Operand}
end
theorem S5 (k:Nat):(48:Int)+((k%10:Nat):Int)=((UInt8.ofNat (48+k%10)).toNat:Int):=by simp_all[Nat.mod_eq_of_lt,Nat.reducePow];omega
theorem cz.form {T:TypeId} {a:Option Addr} (h:cz w T (.slice a n c) g xs) (hx:0<xs.length):∃b,a=some ⟨b,0,none⟩∧g=some b:=by cases h.2<;>grind
theorem cz.cases {T:TypeId} (h:cz w T v g xs):∃a c,v= .slice a xs.length c:=iE.len h
theorem lX.get {TB TS:TypeId} {a:Option Addr} {bs:List Bk} (h:lX w TB TS (.slice a n c) g gss vss bs) (hi:i<bs.length):
  ∃b gs a1 c1 a2 c2,a=some ⟨b,0,none⟩∧g=some b∧b<w.heap.size∧b∉iX gs∧gss[i]?=some gs∧vss[i]?=some [str (bR bs i).aM,.slice a1 (bR bs i).ck.length c1,.slice a2 (bR bs i).code.length c2]∧
   fQ w b (0+i*3) [str (bR bs i).aM,.slice a1 (bR bs i).ck.length c1,.slice a2 (bR bs i).code.length c2]∧
   cz w TS (.slice a1 (bR bs i).ck.length c1) gs.1 (bR bs i).ck∧cz w TS (.slice a2 (bR bs i).code.length c2) gs.2 (bR bs i).code∧(∀x,gs.1=some x->gs.2=some x->False):=by
 have hd:=List.nodup_append.1 h.nodup
 obtain⟨fj,iw,wb⟩:=h.rows.lens
 obtain⟨gs,vs,jm,aV,v1,v2,rfl,dm,dy⟩:=h.rows.get (py hi)
 obtain⟨a1,c1,rfl⟩:=cz.cases dm
 obtain⟨a2,c2,rfl⟩:=cz.cases dy
 obtain⟨hl,hz|⟨b,cap,cur,oe,hv,hb,mn,lT,bY,ht⟩⟩:=h.own
 ·obtain⟨_,hz,_⟩:=hz;omega
 ·cases hv
  subst oe
  refine⟨b,gs,a1,c1,a2,c2,rfl,rfl,hb.lt,λhx=>hd.2.2 b sm b (BW jm hx) rfl,jm,aV,λj v hj=>?_,dm,dy,λx h1 h2=>?_⟩
  ·have hf:=E4 wb aV hj
   have dR:i*3+j<vss.flatten.length:=(List.getElem?_eq_some_iff.1 hf).1
   rw[hb.cell,Nat.zero_add]
   have h2:=ht
   have:(cur.toList.take (bs.length*3))[i*3+j]?=some v:=by rw[ht];exact hf
   rw[List.getElem?_take] at this
   split at this
   ·simpa using this
   ·cases this
  ·have hn:(iX gs).Nodup:=by
    have:∀{gss:List (Option Nat×Option Nat)} {i:Nat},(gA gss).Nodup->gss[i]?=some gs->(iX gs).Nodup:=by
     intro gss
     induction gss with
     |nil=>intro i _ h;simp at h
     |cons p q ih=>
      intro i hn hg
      rw[I1,List.nodup_append] at hn
      cases i with
      |zero=>simp at hg;subst hg;exact hn.1
      |succ i=>exact ih hn.2.1 (by simpa using hg)
    exact this hd.2.1 jm
   simp[iX,h1,h2] at hn
theorem aeK (w:World):bz Tryz.prog 72 [str [],.int .i64 0,.int .i64 0] w λr w'=>r= .tuple #[.agg #[str [],.slice none 0 0],.int .i64 (-1)]∧aj [] w w':=by
 have hK:=aj.refl [] w
 refine jr [.cell 6 74,.tmp 7] 87 Tryz.func72 rfl Io rfl rfl rfl ?_
 refine zr<|dk aL rfl rfl rfl λw1 aI bA db=>?_
 have hK:=hK.grow;have hK:=hK.ext aI
 refine zA<|aZ<|zr<|iO (FH _) rfl rfl<|dk aL rfl rfl rfl λw2 az cJ dJ=>?_
 have hK:=hK.grow;have hK:=hK.ext az;have bA:=bA.grow;have bA:=bA.ext az
 refine cw aL rfl rfl rfl cJ rfl λw3 aH cJ gv=>?_
 have hK:=hK.aD aH sx;have bA:=bA.aD aH sx
 refine aZ<|jq<|zr<|zm<|E7 rfl rfl rfl rfl rfl<|zm ?_
 apply Bj 5 15 20 [15,16,17,18,19,20] (λw'=>w3=w') rfl
 intro h1
 replace h1:=jG h1
 refine W ?_
 exact mg rfl rfl
 intro h1
 replace h1:=jG h1
 refine W ?_
 exact mg rfl rfl
 rintro xx _ rfl
 refine aZ<|zc rfl (λh2=>?_) (λh2=>?_)
 refine W ?_
 refine cw aL rfl rfl rfl bA rfl λw4 aO bA gC=>?_
 have hK:=hK.aD aO sx
 refine W ?_
 exact⟨[_,_],⟨fb eQ aL rfl bA rfl,rfl⟩,rfl,hK⟩
 simp at h2
theorem I2 (s:ai) (L:List Nat) (w:World) (hL:∀x,x∈L->x<w.heap.size):
  bz Tryz.prog 42 [str s] w λv w'=>(∃t tv,v= .tuple #[tv,.bool (bB s).isSome]∧bC L w' tv t∧DH s t)∧aj [] w w':=by
 by_cases hs:s=[]
 ·subst hs
  have hK:=aj.refl [] w
  refine jr [.cell 2 74,.tmp 3] 20 Tryz.func42 rfl RF rfl rfl rfl ?_
  refine zr<|dk aL rfl rfl rfl λw1 aI aN db=>?_
  have hK:=hK.grow;have hK:=hK.ext aI
  refine W ?_
  refine zc rfl (λh1=>?_) (λh1=>?_)
  simp at h1
  refine gz<|zr<|zm<|aA (aeK w1) ?_
  rintro _ w2 ⟨rfl,az⟩
  have dy:=az.size
  refine bI az hK aN λhK aN=>?_
  refine W ?_
  refine dk aL rfl rfl rfl λw3 aH aF gv=>?_
  have hK:=hK.grow;have hK:=hK.ext aH;have aN:=aN.grow;have aN:=aN.ext aH
  refine cw aL rfl rfl rfl aF rfl λw4 aO aF gC=>?_
  have hK:=hK.aD aO sx;have aN:=aN.aD aO sx
  refine W ?_
  refine cw aL rfl rfl rfl aN rfl λw5 aP aN iI=>?_
  have hK:=hK.aD aP sx
  refine W ?_
  exact⟨[_,_],⟨fb eQ aL rfl aN rfl,rfl⟩,⟨.mk [] [],_,by rw[RW];rfl,kW oH,λt' h=>(by rw[RW] at h;cases h),λ_=>rfl⟩,hK⟩
 ·obtain⟨h1,h2⟩:=Ak s L w hL
  exact⟨h1,Calls.mono h2 λe w' ⟨v,he,⟨t,tv,hv,ht,hp⟩,hk⟩=>⟨v,he,⟨t,tv,hv,ht,hp,λe=>absurd e hs⟩,hk⟩⟩
theorem Gr.form {T:TypeId} {a:Option Addr} (h:Gr B L w T sz (.slice a n c) g rows) (hp:0<rows.length):∃b,a=some ⟨b,0,none⟩∧g=some b:=by
 obtain⟨xs,hx⟩:=h.own
 rcases hx.own.2 with⟨_,h0,_⟩|⟨b,_,_,e,hv,_⟩
 ·omega
 ·cases hv;exact⟨b,rfl,e⟩
theorem An (ps:List ai) (hl:ps.length<=1000000000) (s:ai) (v:Value) (L:List Nat) (w:World) (hv:bc L w v ps):bz Tryz.prog 82 [v,str s] w λr w'=>r= .bool (decide (s∈ps))∧aj [] w w':=by
 obtain⟨a,n,c,rfl,hn⟩:=dI hv
 subst hn
 have hK:=aj.refl [] w
 refine bX [.tmp 4] 18 Tryz.func82 rfl acO rfl rfl ?_
 refine W ?_
 refine eH (λk:Nat=>[(0,.slice a ps.length c),(1,str s),(5,.int .i64 (k:Int))]) (λk w'=>aj [] w w'∧k<=ps.length∧∀i,i<k->cv ps i≠s) (λk=>ps.length-k) (0) (⟨rfl,rfl,rfl⟩) (⟨hK,om,by intro i hi;omega⟩) λgg w1 e1 hI=>?_
 obtain⟨hK,hk,cP⟩:=hI
 refine W ?_
 refine zc rfl (λh1=>?_) (λh1=>?_)
 have hg:=jN (xs:=ps) (i:=gg) om
 obtain⟨b1,eR,rfl,bF⟩:=mu hv hg
 refine WL ?_
 refine zl fA rfl (bF.ext hK 0 _ rfl)<|zm<|Bh rfl rfl rfl rfl<|aZ<|zc rfl (λh2=>?_) (λh2=>?_)
 have hq:s∈ps:=(by rw[<-h2];exact List.mem_of_getElem? hg)
 refine W ?_
 exact⟨_,rfl,by rw[dT hq];rfl,hK⟩
 have dH:=h2
 refine W ?_
 exact⟨gg+1,⟨rfl,rfl,rfl⟩,⟨hK,om,by intro i hi;rcases Nat.lt_or_ge i gg with h|h;exact cP i h;rw[show i=gg by omega];exact dH⟩,om⟩
 have hq:¬s∈ps:=(λhm=>by obtain⟨i,hi,e⟩:=List.getElem_of_mem hm;exact cP i om (by simp[cv,gE hi,e]))
 refine W ?_
 exact⟨_,rfl,by rw[dF hq];rfl,hK⟩
theorem aeL (h:n<10):(48:Int)+(n:Int)=((UInt8.ofNat (48+n)).toNat:Int):=by
 have:=S5 n
 rwa [Nat.mod_eq_of_lt h] at this
def BX (z:Int) (v:Value) (w:World):Prop:=∃b,v= .slice (some ⟨b,0,none⟩) 1 1∧aJ w b [.int .u8 z].toArray 5
theorem BX.ext {z:Int} (h:BX z v w) (k:aj [] w w'):BX z v w':=by
 obtain⟨b,e,h⟩:=h
 exact⟨b,e,h.ext k⟩
theorem DY:∀(m n:Nat),n<=m->(aT n).length<=n+1
 |m,n,h=>by
  rw[aT]
  by_cases h9:n<10
  ·rw[iP h9];simp
  ·rw[iN h9]
   cases m with
   |zero=>omega
   |succ m=>have:=DY m (n/10) om;simp only[lA,List.length_singleton];omega
theorem iq:∀(m n:Nat),n<m->n<=1000000->∀w:World,bz Tryz.prog 142 [.int .i64 (n:Int)] w λr w'=>r=str (aT n)∧aj [] w w':=by
 intro m
 induction m with
 |zero=>intro n hn;omega
 |succ m ih=>
  intro n hn h9 w
  have hK:=aj.refl [] w
  have hl:=DY _ (n/10) (lR _)
  refine bX [.tmp 2] 28 Tryz.func142 rfl aa2 rfl rfl ?_
  refine W ?_
  refine zc rfl (λh1=>?_) (λh1=>?_)
  omega
  refine W ?_
  refine zc rfl (λh2=>?_) (λh2=>?_)
  omega
  refine W ?_
  refine zc rfl (λh3=>?_) (λh3=>?_)
  refine W ?_
  refine xk vO xB rfl rfl rfl (wrap_u8 _ om om)<|fF BE FI rfl rfl λw1 aI wc db=>?_
  have hK:=hK.ext aI
  refine S2 BE xB ia rfl rfl rfl wc (aeL om)<|zA<|aZ<|jJ ?_
  exact⟨_,rfl,congrArg str (show[UInt8.ofNat (48+n)]=aT n from by rw[aT,iP om]),hK⟩
  have fB:¬n<10:=by omega
  refine WZ ?_
  refine yZ cT lU 10 (rA 18 10) (rA 18 10) [[],[0],[1],[],[3],[4],[5],[6],[7],[2,8]] [λv _=>v=(.int .i64 (n:Int)),λv _=>v=(.int .i64 ((n/10:Nat):Int)),λv _=>v=(str (aT (n/10))),λv _=>v=(.int .i64 (n:Int)),λv _=>v=(.int .i64 ((n%10:Nat):Int)),λv _=>v=(.int .i64 ((48:Int)+((n%10:Nat):Int))),λv _=>v=(.int .u8 ((48:Int)+((n%10:Nat):Int))),fun(v:Value) (ww:World)=>BX ((48:Int)+((n%10:Nat):Int)) v ww,λv _=>v=(str [UInt8.ofNat (48+n%10)]),λv _=>v=(str (aT (n/10)++[UInt8.ofNat (48+n%10)]))] de (fo (fo (fo (fo (fo (fo (fo (YJ (λv w w' h k=>BX.ext h k) (fo (fo trivial)))))))))) (λwd aB=>?_) ?_
  refine dY ?_ ?_
  intro x vs w1 e aI hd he
  replace aI:=lU.trans aB aI
  replace he:e=bm (bg _ x _) []:=he
  subst he
  refine W ?_
  exact dn (lU.refl _) rfl
  refine dY ?_ ?_
  intro x vs w1 e aI hd he
  have d0:vs 0=(.int .i64 (n:Int)):=hd
  replace aI:=lU.trans aB aI
  replace he:e=bm (bg _ x _) [(18,vs 0)]:=he
  rw[d0] at he
  subst he
  refine KP (b:=10) rfl rfl rfl rfl rfl om (wrap_i64 _ om om)<|aZ ?_
  exact dn (lU.refl _) rfl
  refine dY ?_ ?_
  intro x vs w1 e aI hd he
  have d1:vs 1=(.int .i64 ((n/10:Nat):Int)):=hd
  replace aI:=lU.trans aB aI
  replace he:e=bm (bg _ x _) [(19,vs 1)]:=he
  rw[d1] at he
  subst he
  refine aA (ih (n/10) om om w1) ?_
  rintro _ w2 ⟨rfl,az⟩
  have dy:=az.size
  refine W ?_
  exact dn (lU.of az) rfl
  refine dY ?_ ?_
  intro x vs w1 e aI hd he
  replace aI:=lU.trans aB aI
  replace he:e=bm (bg _ x _) []:=he
  subst he
  refine W ?_
  exact dn (lU.refl _) rfl
  refine dY ?_ ?_
  intro x vs w1 e aI hd he
  have d3:vs 3=(.int .i64 (n:Int)):=hd
  replace aI:=lU.trans aB aI
  replace he:e=bm (bg _ x _) [(21,vs 3)]:=he
  rw[d3] at he
  subst he
  refine E9 (b:=10) rfl rfl rfl rfl rfl om<|aZ ?_
  exact dn (lU.refl _) rfl
  refine dY ?_ ?_
  intro x vs w1 e aI hd he
  have d4:vs 4=(.int .i64 ((n%10:Nat):Int)):=hd
  replace aI:=lU.trans aB aI
  replace he:e=bm (bg _ x _) [(22,vs 4)]:=he
  rw[d4] at he
  subst he
  refine W ?_
  exact dn (lU.refl _) rfl
  refine dY ?_ ?_
  intro x vs w1 e aI hd he
  have d5:vs 5=(.int .i64 ((48:Int)+((n%10:Nat):Int))):=hd
  replace aI:=lU.trans aB aI
  replace he:e=bm (bg _ x _) [(23,vs 5)]:=he
  rw[d5] at he
  subst he
  refine xk vO xB rfl rfl rfl (wrap_u8 _ om om)<|aZ ?_
  exact dn (lU.refl _) rfl
  refine dY ?_ ?_
  intro x vs w1 e aI hd he
  have d6:vs 6=(.int .u8 ((48:Int)+((n%10:Nat):Int))):=hd
  replace aI:=lU.trans aB aI
  replace he:e=bm (bg _ x _) [(24,vs 6)]:=he
  rw[d6] at he
  subst he
  refine fF BE FI rfl rfl λw2 az BY dJ=>W ?_
  exact dn (lU.of az) ⟨_,rfl,BY⟩
  refine dY ?_ ?_
  intro x vs w1 e aI hd he
  have d7:(fun(v:Value) (ww:World)=>BX ((48:Int)+((n%10:Nat):Int)) v ww) (vs 7) w1:=hd
  replace aI:=lU.trans aB aI
  replace he:e=bm (bg _ x _) [(25,vs 7)]:=he
  obtain⟨b7,e7,BY⟩:=d7
  rw[e7] at he
  subst he
  refine S2 BE xB ia rfl rfl rfl BY (S5 n)<|aZ ?_
  exact dn (lU.refl _) rfl
  refine dY ?_ ?_
  intro x vs w1 e aI hd he
  have aX:(vs 2=(str (aT (n/10))))∧(vs 8=(str [UInt8.ofNat (48+n%10)])):=hd
  obtain⟨d2,d8⟩:=aX
  replace aI:=lU.trans aB aI
  replace he:e=bm (bg _ x _) [(20,vs 2),(26,vs 8)]:=he
  rw[d2,d8] at he
  subst he
  refine W ?_
  exact dn (lU.refl _) rfl
  exact trivial
  intro x vs I3 ML dO
  have d0:vs 0=(.int .i64 (n:Int)):=dO 0 de
  have d1:vs 1=(.int .i64 ((n/10:Nat):Int)):=dO 1 de
  have d2:vs 2=(str (aT (n/10))):=dO 2 de
  have d3:vs 3=(.int .i64 (n:Int)):=dO 3 de
  have d4:vs 4=(.int .i64 ((n%10:Nat):Int)):=dO 4 de
  have d5:vs 5=(.int .i64 ((48:Int)+((n%10:Nat):Int))):=dO 5 de
  have d6:vs 6=(.int .u8 ((48:Int)+((n%10:Nat):Int))):=dO 6 de
  have d7:(fun(v:Value) (ww:World)=>BX ((48:Int)+((n%10:Nat):Int)) v ww) (vs 7) I3:=dO 7 de
  have d8:vs 8=(str [UInt8.ofNat (48+n%10)]):=dO 8 de
  have d9:vs 9=(str (aT (n/10)++[UInt8.ofNat (48+n%10)])):=dO 9 de
  have hK:=hK.ext ML
  change OW _ _ _ _ _ (bm (bg _ x _) (zZ 18 [vs 0,vs 1,vs 2,vs 3,vs 4,vs 5,vs 6,vs 7,vs 8,vs 9])) _
  rw[d0,d1,d2,d3,d4,d5,d6,d8,d9]
  refine W ?_
  exact⟨_,rfl,congrArg str (show aT (n/10)++[UInt8.ofNat (48+n%10)]=aT n from by conv=>(rhs;rw[aT,iN fB])),hK⟩
theorem Ao (s:ai) (w:World):bz Tryz.prog 220 [str s] w λr w'=>r= .agg #[str s,.slice none 0 0]∧aj [] w w':=by
 have hK:=aj.refl [] w
 refine jr [.cell 2 74] 5 Tryz.func220 rfl abY rfl rfl rfl ?_
 refine zr<|dk aL rfl rfl rfl λw1 aI aN db=>?_
 have hK:=hK.grow;have hK:=hK.ext aI
 refine aZ<|zr<|zm<|iO (ade _ _) rfl rfl<|cw aL rfl rfl rfl aN rfl λw2 az aN dJ=>?_
 have hK:=hK.aD az sx
 refine W ?_
 exact⟨[_],fb eQ aL rfl aN rfl,rfl,hK⟩
end Go.Proofs.YthbhobaiopccaaaGreatDoor
