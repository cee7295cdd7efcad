/- Lemmas for the law FnFrom, no statement of their own: no conditions. -/
import Derived.Test.YthbhobaiopccaaaGreatDoorJc
import Derived.Deep.Strs
import Derived.Laws.MakeOwn
set_option maxHeartbeats 4000000
set_option linter.unusedVariables false
set_option linter.unusedSimpArgs false
namespace Go.Proofs.YthbhobaiopccaaaGreatDoor
open Go
variable {p q:Prop} {c:Operand} {t:Bool} {l:List Oper} {B E N U b bytes i n o off sz:Nat} {a:Int} {v z:Value} {vs xs:List Value} {P:Program} {ops:Array Oper} {e0:Env} {w w' w0:World} {k k':IntKind} {L L' d:List Nat} {r:List (List Nat)} {rows:List (List C)} {bs:List Bk} {ps:List fJ}
class ug (p:Prop) (q:outParam Prop):Prop where
 imp:p->q
instance (priority:=low) {p:Prop}:ug p p:=⟨id⟩
instance {p:Prop} {i:Decidable p}:ug (@decide p i=true) p:=⟨of_decide_eq_true⟩
instance {p:Prop} {i:Decidable p}:ug (@decide p i=false) (¬p):=⟨of_decide_eq_false⟩
instance {b:Bool}:ug ((!b)=true) (b=false):=⟨λh=>by simpa using h⟩
instance {b:Bool}:ug ((!b)=false) (b=true):=⟨λh=>by simpa using h⟩
theorem jy [t:ug p q] (h:p):q:=t.imp h
section
variable {P:Program} {n:Nat} {N R:Env->World->Prop} {X:Nat->Env->World->Prop} {e:Env} {w:World}
theorem zc {x y:Code} (hc:ev e c= .bool t) [hp:ug (t=true) p] [hq:ug (t=false) q] (hx:p->CW P n x N R X e w) (hy:q->CW P n y N R X e w):CW P n (.cond c x y) N R X e w:=
 Y9 hc (λh=>hx (hp.imp h)) (λh=>hy (hq.imp h))
theorem zr {id:Nat} {y:Code} (h:OW P n l.toArray (λe w=>CW P n y N R X e w) l e w):CW P n ((Code.region id l.toArray false).seq y) N R X e w:=jV (lv h)
end
section
variable {P:Program} {n:Nat} {ops:Array Oper} {K:Env->World->Prop} {rest:List Oper} {e:Env} {w:World}
 {dst:Option Nat} {ty:TypeId} {pos:String} {after:Array Edge} {g:Option (Nat×Bool)} {x y:Operand} {T T':TypeId}
theorem zm (k:OW P n ops K rest (bY e dst (ev e x)) w) (hg:gate ops e g=true:=by rfl) (hd:cC n dst=true:=by rfl):OW P n ops K (⟨dst,.move x,ty,pos,after,g⟩::rest) e w:=Zi hg hd k
theorem zA (k:OW P n ops K rest (bY e dst (ev e x)) w) (hg:gate ops e g=true:=by rfl) (hd:cC n dst=true:=by rfl):OW P n ops K (⟨dst,.assign x,ty,pos,after,g⟩::rest) e w:=Zj hg hd k
theorem zs {op:Op} (k:OW P n ops K rest (bY e dst undef) w) (hg:gate ops e g=false:=by rfl) (hd:cC n dst=true:=by rfl):OW P n ops K (⟨dst,op,ty,pos,after,g⟩::rest) e w:=LK hg hd k
theorem zp (hc:ev e c= .bool t) (k:OW P n ops K rest (bY e dst (bif t then ev e x else ev e y)) w) (hg:gate ops e g=true:=by rfl) (hd:cC n dst=true:=by rfl):OW P n ops K (⟨dst,.pick c x y,ty,pos,after,g⟩::rest) e w:=Q0 hg hd hc k
theorem zf {S:Nat} (hS:gY P S i=some off) (hx:ev e x= .pointer (some ⟨b,o,none⟩)) (k:OW P n ops K rest (bY e dst (.pointer (some ⟨b,o+off,none⟩))) w) (hg:gate ops e g=true:=by rfl) (hd:cC n dst=true:=by rfl):
  OW P n ops K (⟨dst,.fieldAddr S x i,ty,pos,after,g⟩::rest) e w:=Q4 hS hg hd hx k
theorem zl {a:Addr} (hT:qy P T=true) (hx:ev e x= .pointer (some a)) (hc:w.cell? a=some v) (k:OW P n ops K rest (bY e dst v) w) (hg:gate ops e g=true:=by rfl) (hd:cC n dst=true:=by rfl):
  OW P n ops K (⟨dst,.load T x,ty,pos,after,g⟩::rest) e w:=Zm hT hg hd hx hc k
theorem zL (hT:sD P T=true) (jX:TI P T sz bytes z) (hx:ev e x= .pointer (some ⟨b,o,none⟩)) (hc:gJ w b o vs) (hl:vs.length=sz) (k:OW P n ops K rest (bY e dst (.agg vs.toArray)) w) (hg:gate ops e g=true:=by rfl) (hd:cC n dst=true:=by rfl):
  OW P n ops K (⟨dst,.load T x,ty,pos,after,g⟩::rest) e w:=Zn hT jX hg hd hx hc hl k
theorem zi {T E:TypeId} {len cap i:Nat} {ki:IntKind} (hT:P.underlying T=some (.slice E)) (hE:TI P E sz bytes z) (hx:ev e x= .slice (some ⟨b,o,none⟩) len cap) (hy:ev e y= .int ki (i:Int)) (hi:i<len) 
  (k:OW P n ops K rest (bY e dst (.pointer (some ⟨b,o+i*sz,none⟩))) w) (hg:gate ops e g=true:=by rfl) (hd:cC n dst=true:=by rfl):OW P n ops K (⟨dst,.indexAddr T x y,ty,pos,after,g⟩::rest) e w:=Q5 hT hE hg hd hx hy hi k
theorem zx (hx:ev e x= .tuple vs.toArray) (hi:vs[i]?=some v) (k:OW P n ops K rest (bY e dst v) w) (hg:gate ops e g=true:=by rfl) (hd:cC n dst=true:=by rfl):
  OW P n ops K (⟨dst,.extract x i,ty,pos,after,g⟩::rest) e w:=Q6 hg hd hx hi k
end
theorem vfm {W ds:List Nat} {its:List Ie} {Js:List (List Nat->List Value->World->Prop)} {G0:List Nat} {k:Nat} {o:Oper} (hr:vz P n ops W ds its Js e0 G0 w0 (k+1) l r) (h:JJ P n ops W ds its e0 G0 w0 k o d:=by exact λ_ _ _ _ _ _=>zm fv) (hk:(its.getD k mm).kr=none:=by rfl):vz P n ops W ds its Js e0 G0 w0 k (o::l) (d::r):=vf h hr hk
theorem vk {W ds:List Nat} {its:List It} {wz:World} {k:Nat} {o:Oper} (aB:ak [] wz w0) (h:∀(x:Env) (w:World),ak [] wz w->dq its ds w d λacc=>OW P n ops (λe' w'=>ak [] w w'∧(its.getD k (.p λ_ _=>True)).F (e' (ds.getD k 0)) w'∧eF [ds.getD k 0] (aS (aR W x e0) acc) e') [o] (aS (aR W x e0) acc) w) (hr:rv P n ops W ds its e0 w0 (k+1) l r):rv P n ops W ds its e0 w0 k (o::l) (d::r):=vc (λx w hk=>h x w (ak.trans aB hk)) hr
theorem AW {W ds:List Nat} {its:List It} {k:Nat} {o:Oper} (hr:rv P n ops W ds its e0 w0 (k+1) l r) (h:GK P n ops W ds its e0 w0 k o d:=by exact λ_ _ _=>zm pv):rv P n ops W ds its e0 w0 k (o::l) (d::r):=⟨h,hr⟩
theorem vcs {W ds:List Nat} {its:List It} {k:Nat} {o:Oper} (hr:rv P n ops W ds its e0 w0 (k+1) l r) (h:GK P n ops W ds its e0 w0 k o d:=by exact λ_ _ _=>LK rfl rfl pv):rv P n ops W ds its e0 w0 k (o::l) (d::r):=⟨h,hr⟩
class FO (P:Program) (S i:Nat) (off:outParam Nat):Prop where h:gY P S i=some off
class O1 (P:Program) (T:Nat):Prop where h:qy P T=true
class OA (P:Program) (T:Nat):Prop where h:sD P T=true
class nU (P:Program) (T:Nat) (sz bytes:outParam Nat) (z:outParam Value):Prop where h:TI P T sz bytes z
class UL (P:Program) (T:Nat) (d:outParam TypeDesc):Prop where h:P.underlying T=some d
instance:OA Tryz.prog 152:=⟨ad8⟩
instance:OA Tryz.prog 166:=⟨SM⟩
instance:OA Tryz.prog 56:=⟨Gw⟩
instance:OA Tryz.prog 58:=⟨wL⟩
instance:OA Tryz.prog 66:=⟨oz⟩
instance:OA Tryz.prog 74:=⟨eK⟩
instance:UL Tryz.prog 4 .bool:=⟨aeh⟩
instance:FO Tryz.prog 102 0 0:=⟨aei⟩
instance:FO Tryz.prog 102 1 1:=⟨SO⟩
instance:FO Tryz.prog 152 0 0:=⟨aej⟩
instance:FO Tryz.prog 152 1 1:=⟨aek⟩
instance:FO Tryz.prog 164 0 0:=⟨ael⟩
instance:FO Tryz.prog 164 1 1:=⟨aem⟩
instance:FO Tryz.prog 164 2 2:=⟨aen⟩
instance:FO Tryz.prog 164 3 3:=⟨aeo⟩
instance:FO Tryz.prog 164 4 4:=⟨aep⟩
instance:FO Tryz.prog 164 5 5:=⟨aeq⟩
instance:FO Tryz.prog 166 0 0:=⟨aer⟩
instance:FO Tryz.prog 166 1 1:=⟨SP⟩
instance:FO Tryz.prog 166 10 11:=⟨aes⟩
instance:FO Tryz.prog 166 2 2:=⟨aet⟩
instance:FO Tryz.prog 166 3 3:=⟨Jo⟩
instance:FO Tryz.prog 166 4 4:=⟨aeu⟩
instance:FO Tryz.prog 166 5 5:=⟨aev⟩
instance:FO Tryz.prog 166 6 6:=⟨aew⟩
instance:FO Tryz.prog 166 7 7:=⟨SQ⟩
instance:FO Tryz.prog 166 8 9:=⟨SR⟩
instance:FO Tryz.prog 166 9 10:=⟨aex⟩
instance:FO Tryz.prog 190 0 0:=⟨aey⟩
instance:FO Tryz.prog 190 1 1:=⟨aez⟩
instance:FO Tryz.prog 190 2 2:=⟨aeA⟩
instance:FO Tryz.prog 190 3 3:=⟨aeB⟩
instance:FO Tryz.prog 228 0 0:=⟨aeC⟩
instance:FO Tryz.prog 228 1 1:=⟨aeD⟩
instance:FO Tryz.prog 56 0 0:=⟨aeE⟩
instance:FO Tryz.prog 56 1 1:=⟨SS⟩
instance:FO Tryz.prog 56 2 2:=⟨SU⟩
instance:FO Tryz.prog 58 0 0:=⟨MT⟩
instance:FO Tryz.prog 58 1 1:=⟨MU⟩
instance:FO Tryz.prog 58 2 2:=⟨Ay⟩
instance:FO Tryz.prog 66 0 0:=⟨aeF⟩
instance:FO Tryz.prog 66 1 1:=⟨Gy⟩
instance:FO Tryz.prog 74 0 0:=⟨lF⟩
instance:FO Tryz.prog 74 1 1:=⟨ja⟩
instance:nU Tryz.prog 113 2 32 (.agg #[.pointer none,.slice none 0 0]):=⟨MV⟩
instance:nU Tryz.prog 152 2 48 (.agg #[.slice none 0 0,.slice none 0 0]):=⟨Cw⟩
instance:nU Tryz.prog 162 1 24 (.slice none 0 0):=⟨Jp⟩
instance:nU Tryz.prog 166 12 216 (.agg #[.string ⟨#[]⟩,.slice none 0 0,.int .i64 0,.slice none 0 0,.slice none 0 0,.slice none 0 0,.slice none 0 0,.string ⟨#[]⟩,.slice none 0 0,.int .i64 0,.string ⟨#[]⟩,.int .i64 0]):=⟨mS⟩
instance:nU Tryz.prog 23 1 24 (.slice none 0 0):=⟨SV⟩
instance:nU Tryz.prog 3 1 8 (.int .i64 0):=⟨sJ⟩
instance:nU Tryz.prog 35 1 24 (.slice none 0 0):=⟨mT⟩
instance:nU Tryz.prog 4 1 1 (.bool false):=⟨SW⟩
instance:nU Tryz.prog 5 1 1 (.int .u8 0):=⟨Gz⟩
instance:nU Tryz.prog 54 1 24 (.slice none 0 0):=⟨GA⟩
instance:nU Tryz.prog 56 3 64 (.agg #[.string ⟨#[]⟩,.slice none 0 0,.slice none 0 0]):=⟨mU⟩
instance:nU Tryz.prog 58 3 64 (.agg #[.string ⟨#[]⟩,.slice none 0 0,.slice none 0 0]):=⟨fD⟩
instance:nU Tryz.prog 66 2 40 (.agg #[.string ⟨#[]⟩,.slice none 0 0]):=⟨dD⟩
instance:nU Tryz.prog 72 1 24 (.slice none 0 0):=⟨Cx⟩
instance:nU Tryz.prog 74 2 40 (.agg #[.string ⟨#[]⟩,.slice none 0 0]):=⟨aK⟩
instance:nU Tryz.prog 9 1 16 (.string ⟨#[]⟩):=⟨bm⟩
instance:nU Tryz.prog 98 1 24 (.slice none 0 0):=⟨SX⟩
instance:UL Tryz.prog 181 (.int .u64):=⟨Jq⟩
instance:UL Tryz.prog 3 (.int .i64):=⟨wO⟩
instance:UL Tryz.prog 5 (.int .u8):=⟨yl⟩
instance:O1 Tryz.prog 162:=⟨aeG⟩
instance:O1 Tryz.prog 22:=⟨aeH⟩
instance:O1 Tryz.prog 23:=⟨aeI⟩
instance:O1 Tryz.prog 3:=⟨SY⟩
instance:O1 Tryz.prog 35:=⟨vu⟩
instance:O1 Tryz.prog 4:=⟨SZ⟩
instance:O1 Tryz.prog 5:=⟨aeJ⟩
instance:O1 Tryz.prog 54:=⟨GB⟩
instance:O1 Tryz.prog 72:=⟨ix⟩
instance:O1 Tryz.prog 9:=⟨gv⟩
instance:O1 Tryz.prog 98:=⟨aeK⟩
instance:UL Tryz.prog 162 (.slice 166):=⟨Az⟩
instance:UL Tryz.prog 22 (.slice 5):=⟨Cy⟩
instance:UL Tryz.prog 23 (.slice 58):=⟨jH⟩
instance:UL Tryz.prog 35 (.slice 9):=⟨bo⟩
instance:UL Tryz.prog 51 (.slice 56):=⟨Em⟩
instance:UL Tryz.prog 54 (.slice 66):=⟨lG⟩
instance:UL Tryz.prog 72 (.slice 74):=⟨cw⟩
instance:UL Tryz.prog 98 (.slice 3):=⟨En⟩
instance:UL Tryz.prog 9 .string:=⟨iG⟩
section
variable {P:Program} {n:Nat} {ops:Array Oper} {K:Env->World->Prop} {rest:List Oper} {e:Env} {w:World}
 {dst:Option Nat} {ty:TypeId} {pos:String} {after:Array Edge} {g:Option (Nat×Bool)} {x y:Operand} {T T' E:TypeId}
theorem wN {a:Addr} (k:OW P n ops K rest (bY e dst (.pointer (some a))) w) (hx:ev e x= .pointer (some a):=by rfl) (hg:gate ops e g=true:=by rfl) (hd:cC n dst=true:=by rfl):OW P n ops K (⟨dst,.nilCheck x,ty,pos,after,g⟩::rest) e w:=FW hg hd hx k
theorem wF {S:Nat} [hS:FO P S i off] (k:OW P n ops K rest (bY e dst (.pointer (some ⟨b,o+off,none⟩))) w) (hx:ev e x= .pointer (some ⟨b,o,none⟩):=by rfl) (hg:gate ops e g=true:=by rfl) (hd:cC n dst=true:=by rfl):
  OW P n ops K (⟨dst,.fieldAddr S x i,ty,pos,after,g⟩::rest) e w:=Q4 hS.h hg hd hx k
theorem wB [hT:O1 P T] (k:OW P n ops K rest (bY e dst v) w) (hx:ev e x= .pointer (some ⟨b,o,none⟩):=by rfl) (hb:aL w b vs.toArray U:=by first|with_reducible assumption|exact dW.iy (by with_reducible assumption)|assumption) (hc:vs[o]?=some v:=by rfl) (hg:gate ops e g=true:=by rfl) (hd:cC n dst=true:=by rfl):
  OW P n ops K (⟨dst,.load T x,ty,pos,after,g⟩::rest) e w:=zl hT.h hx (hb.at hc) k hg hd
theorem wM [hT:OA P T] [jX:nU P T sz bytes z] (k:OW P n ops K rest (bY e dst (.agg vs.toArray)) w) (hx:ev e x= .pointer (some ⟨b,0,none⟩):=by rfl) (hb:aL w b vs.toArray U:=by first|with_reducible assumption|exact dW.iy (by with_reducible assumption)|assumption) (hl:vs.length=sz:=by rfl) (hg:gate ops e g=true:=by rfl) (hd:cC n dst=true:=by rfl):
  OW P n ops K (⟨dst,.load T x,ty,pos,after,g⟩::rest) e w:=zL hT.h jX.h hx hb.all hl k hg hd
theorem wC [hT:O1 P T] (k:OW P n ops K rest (bY e dst v) w) (hx:ev e x= .pointer (some ⟨b,o,none⟩):=by rfl) (hb:gJ w b o vs:=by first|with_reducible assumption|exact fM.cells (by with_reducible assumption)|assumption) (hc:vs[0]?=some v:=by rfl) (hg:gate ops e g=true:=by rfl) (hd:cC n dst=true:=by rfl):
  OW P n ops K (⟨dst,.load T x,ty,pos,after,g⟩::rest) e w:=zl hT.h hx (hb 0 _ hc) k hg hd
theorem wD [hT:O1 P T] (k:OW P n ops K rest (bY e dst v) w) (hx:ev e x= .pointer (some ⟨b,o+1,none⟩):=by rfl) (hb:gJ w b o vs:=by first|with_reducible assumption|exact fM.cells (by with_reducible assumption)|assumption) (hc:vs[1]?=some v:=by rfl) (hg:gate ops e g=true:=by rfl) (hd:cC n dst=true:=by rfl):
  OW P n ops K (⟨dst,.load T x,ty,pos,after,g⟩::rest) e w:=zl hT.h hx (hb 1 _ hc) k hg hd
theorem wE [hT:OA P T] [jX:nU P T sz bytes z] (k:OW P n ops K rest (bY e dst (.agg vs.toArray)) w) (hx:ev e x= .pointer (some ⟨b,o,none⟩):=by rfl) (hb:gJ w b o vs:=by first|with_reducible assumption|exact fM.cells (by with_reducible assumption)|assumption) (hl:vs.length=sz:=by rfl) (hg:gate ops e g=true:=by rfl) (hd:cC n dst=true:=by rfl):
  OW P n ops K (⟨dst,.load T x,ty,pos,after,g⟩::rest) e w:=zL hT.h jX.h hx hb hl k hg hd
theorem wi {len cap:Nat} {ki:IntKind} [hT:UL P T (.slice E)] [hE:nU P E sz bytes z] (k:OW P n ops K rest (bY e dst (.pointer (some ⟨b,o+i*sz,none⟩))) w) (hx:ev e x= .slice (some ⟨b,o,none⟩) len cap:=by rfl) (hy:ev e y= .int ki (i:Int):=by rfl) (hi:i<len:=by omega) 
  (hg:gate ops e g=true:=by rfl) (hd:cC n dst=true:=by rfl):OW P n ops K (⟨dst,.indexAddr T x y,ty,pos,after,g⟩::rest) e w:=Q5 hT.h hE.h hg hd hx hy hi k
theorem wp (k:OW P n ops K rest (bY e dst (bif t then ev e x else ev e y)) w) (hc:ev e c= .bool t:=by rfl) (hg:gate ops e g=true:=by rfl) (hd:cC n dst=true:=by rfl):OW P n ops K (⟨dst,.pick c x y,ty,pos,after,g⟩::rest) e w:=Q0 hg hd hc k
theorem wx (k:OW P n ops K rest (bY e dst v) w) (hx:ev e x= .tuple vs.toArray:=by rfl) (hi:vs[i]?=some v:=by rfl) (hg:gate ops e g=true:=by rfl) (hd:cC n dst=true:=by rfl):
  OW P n ops K (⟨dst,.extract x i,ty,pos,after,g⟩::rest) e w:=Q6 hg hd hx hi k
theorem AX {b:Int} (c:OW P n ops K rest (bY e dst (.bool (decide (a=b)))) w) (hx:ev e x= .int k a:=by rfl) (hy:ev e y= .int k' b:=by rfl) (hk:k=k':=by rfl) (hg:gate ops e g=true:=by rfl) (hd:cC n dst=true:=by rfl):OW P n ops K (⟨dst,.binOp .eql T x y T',ty,pos,after,g⟩::rest) e w:=wv (hg:=hg) (hd:=hd) (hx:=hx) (hy:=hy) (hk:=hk) (c:=c)
theorem AY {b:Int} (c:OW P n ops K rest (bY e dst (.bool (decide (a≠b)))) w) (hx:ev e x= .int k a:=by rfl) (hy:ev e y= .int k' b:=by rfl) (hk:k=k':=by rfl) (hg:gate ops e g=true:=by rfl) (hd:cC n dst=true:=by rfl):OW P n ops K (⟨dst,.binOp .neq T x y T',ty,pos,after,g⟩::rest) e w:=IW (hg:=hg) (hd:=hd) (hx:=hx) (hy:=hy) (hk:=hk) (c:=c)
theorem AZ {b:Int} (c:OW P n ops K rest (bY e dst (.bool (decide (a<b)))) w) (hx:ev e x= .int k a:=by rfl) (hy:ev e y= .int k' b:=by rfl) (hk:k=k':=by rfl) (hg:gate ops e g=true:=by rfl) (hd:cC n dst=true:=by rfl):OW P n ops K (⟨dst,.binOp .lss T x y T',ty,pos,after,g⟩::rest) e w:=IV (hg:=hg) (hd:=hd) (hx:=hx) (hy:=hy) (hk:=hk) (c:=c)
theorem A1 {b:Int} (c:OW P n ops K rest (bY e dst (.bool (decide (a<=b)))) w) (hx:ev e x= .int k a:=by rfl) (hy:ev e y= .int k' b:=by rfl) (hk:k=k':=by rfl) (hg:gate ops e g=true:=by rfl) (hd:cC n dst=true:=by rfl):OW P n ops K (⟨dst,.binOp .leq T x y T',ty,pos,after,g⟩::rest) e w:=Zs (hg:=hg) (hd:=hd) (hx:=hx) (hy:=hy) (hk:=hk) (c:=c)
theorem A2 {b:Int} (c:OW P n ops K rest (bY e dst (.bool (decide (b<a)))) w) (hx:ev e x= .int k a:=by rfl) (hy:ev e y= .int k' b:=by rfl) (hk:k=k':=by rfl) (hg:gate ops e g=true:=by rfl) (hd:cC n dst=true:=by rfl):OW P n ops K (⟨dst,.binOp .gtr T x y T',ty,pos,after,g⟩::rest) e w:=FX (hg:=hg) (hd:=hd) (hx:=hx) (hy:=hy) (hk:=hk) (c:=c)
theorem A3 {b:Int} (c:OW P n ops K rest (bY e dst (.bool (decide (b<=a)))) w) (hx:ev e x= .int k a:=by rfl) (hy:ev e y= .int k' b:=by rfl) (hk:k=k':=by rfl) (hg:gate ops e g=true:=by rfl) (hd:cC n dst=true:=by rfl):OW P n ops K (⟨dst,.binOp .geq T x y T',ty,pos,after,g⟩::rest) e w:=Zt (hg:=hg) (hd:=hd) (hx:=hx) (hy:=hy) (hk:=hk) (c:=c)
theorem A4 {a b:List UInt8} (c:OW P n ops K rest (bY e dst (.bool (decide (a=b)))) w) (hx:ev e x=str a:=by rfl) (hy:ev e y=str b:=by rfl) (hg:gate ops e g=true:=by rfl) (hd:cC n dst=true:=by rfl):OW P n ops K (⟨dst,.binOp .eql T x y T',ty,pos,after,g⟩::rest) e w:=Cc (hg:=hg) (hd:=hd) (hx:=hx) (hy:=hy) (c:=c)
theorem A5 {a b:List UInt8} (c:OW P n ops K rest (bY e dst (.bool (decide (a≠b)))) w) (hx:ev e x=str a:=by rfl) (hy:ev e y=str b:=by rfl) (hg:gate ops e g=true:=by rfl) (hd:cC n dst=true:=by rfl):OW P n ops K (⟨dst,.binOp .neq T x y T',ty,pos,after,g⟩::rest) e w:=LO (hg:=hg) (hd:=hd) (hx:=hx) (hy:=hy) (c:=c)
theorem A6 {b:Bool} (c:OW P n ops K rest (bY e dst (.bool (!b))) w) (hx:ev e x= .bool b:=by rfl) (hg:gate ops e g=true:=by rfl) (hd:cC n dst=true:=by rfl):OW P n ops K (⟨dst,.unOp .not T x,ty,pos,after,g⟩::rest) e w:=jY (hg:=hg) (hd:=hd) (hx:=hx) (c:=c)
theorem A7 {a b:Bool} [hT:UL P T .bool] (c:OW P n ops K rest (bY e dst (.bool (a==b))) w) (hx:ev e x= .bool a:=by rfl) (hy:ev e y= .bool b:=by rfl) (hg:gate ops e g=true:=by rfl) (hd:cC n dst=true:=by rfl):OW P n ops K (⟨dst,.binOp .eql T x y T',ty,pos,after,g⟩::rest) e w:=Zu (hT:=hT.h) (hg:=hg) (hd:=hd) (hx:=hx) (hy:=hy) (c:=c)
theorem A8 {a b:Bool} [hT:UL P T .bool] (c:OW P n ops K rest (bY e dst (.bool (!(a==b)))) w) (hx:ev e x= .bool a:=by rfl) (hy:ev e y= .bool b:=by rfl) (hg:gate ops e g=true:=by rfl) (hd:cC n dst=true:=by rfl):OW P n ops K (⟨dst,.binOp .neq T x y T',ty,pos,after,g⟩::rest) e w:=Zv (hT:=hT.h) (hg:=hg) (hd:=hd) (hx:=hx) (hy:=hy) (c:=c)
theorem A9 {T E:TypeId} {x:Operand} {a:Option Addr} {m cap:Nat} [hT:UL P T (.slice E)] (k:OW P n ops K rest (bY e dst (.int .i64 m)) w) (hx:ev e x= .slice a m cap:=by rfl) (hg:gate ops e g=true:=by rfl) (hd:cC n dst=true:=by rfl):OW P n ops K (⟨dst,.call {callee:=.builtin .len,args:=#[x],argTypes:=#[T]},ty,pos,after,g⟩::rest) e w:=IU (hT:=hT.h) (hg:=hg) (hd:=hd) (hx:=hx) (k:=k)
theorem Ba {a:List UInt8} [hT:UL P T .string] (k:OW P n ops K rest (bY e dst (.int .i64 (a.length:Nat))) w) (hx:ev e x=str a:=by rfl) (hg:gate ops e g=true:=by rfl) (hd:cC n dst=true:=by rfl):OW P n ops K (⟨dst,.call {callee:=.builtin .len,args:=#[x],argTypes:=#[T]},ty,pos,after,g⟩::rest) e w:=Zy (hT:=hT.h) (hg:=hg) (hd:=hd) (hx:=hx) (k:=k)
theorem Bb {b c:Int} (c':OW P n ops K rest (bY e dst (.int k c)) w) (hx:ev e x= .int k a:=by rfl) (hy:ev e y= .int k' b:=by rfl) (hk:k=k':=by rfl) (hc:k.wrap (a+b)=c:=by exact wrap_i64 _ om om) (hg:gate ops e g=true:=by rfl) (hd:cC n dst=true:=by rfl):OW P n ops K (⟨dst,.binOp .add T x y T',ty,pos,after,g⟩::rest) e w:=o3 (hg:=hg) (hd:=hd) (hx:=hx) (hy:=hy) (hk:=hk) (hc:=hc) (c':=c')
theorem CH {b c:Int} (c':OW P n ops K rest (bY e dst (.int k c)) w) (hx:ev e x= .int k a:=by rfl) (hy:ev e y= .int k' b:=by rfl) (hk:k=k':=by rfl) (hc:k.wrap (a-b)=c:=by exact wrap_i64 _ om om) (hg:gate ops e g=true:=by rfl) (hd:cC n dst=true:=by rfl):OW P n ops K (⟨dst,.binOp .sub T x y T',ty,pos,after,g⟩::rest) e w:=xX (hg:=hg) (hd:=hd) (hx:=hx) (hy:=hy) (hk:=hk) (hc:=hc) (c':=c')
theorem CI {b c:Int} (c':OW P n ops K rest (bY e dst (.int k c)) w) (hx:ev e x= .int k a:=by rfl) (hy:ev e y= .int k' b:=by rfl) (hk:k=k':=by rfl) (hc:k.wrap (a*b)=c:=by exact wrap_i64 _ om om) (hg:gate ops e g=true:=by rfl) (hd:cC n dst=true:=by rfl):OW P n ops K (⟨dst,.binOp .mul T x y T',ty,pos,after,g⟩::rest) e w:=IX (hg:=hg) (hd:=hd) (hx:=hx) (hy:=hy) (hk:=hk) (hc:=hc) (c':=c')
theorem CJ {a b:List UInt8} (c:OW P n ops K rest (bY e dst (str (a++b))) w) (hx:ev e x=str a:=by rfl) (hy:ev e y=str b:=by rfl) (hs:a.length+b.length<=9223372036854775807:=by(simp;omega)) (hg:gate ops e g=true:=by rfl) (hd:cC n dst=true:=by rfl):OW P n ops K (⟨dst,.binOp .add T x y T',ty,pos,after,g⟩::rest) e w:=iw (hg:=hg) (hd:=hd) (hx:=hx) (hy:=hy) (hs:=hs) (c:=c)
end
theorem bL {TA TB TA' TB':Prop} (k:ak [] w w') (ta:TA) (tb:TB) (y:TA'->TB'->p) (xta:ak [] w w'->TA->TA':=by intro k h;exact h.ext k) (xtb:ak [] w w'->TB->TB':=by intro k h;exact h.ext k):p:=y (xta k ta) (xtb k tb)
theorem cO {TA TB TC TA' TB' TC':Prop} (k:ak [] w w') (ta:TA) (tb:TB) (tc:TC) (y:TA'->TB'->TC'->p) (xta:ak [] w w'->TA->TA':=by intro k h;exact h.ext k) (xtb:ak [] w w'->TB->TB':=by intro k h;exact h.ext k) (xtc:ak [] w w'->TC->TC':=by intro k h;exact h.ext k):p:=y (xta k ta) (xtb k tb) (xtc k tc)
theorem gH {TA TB TC TD TA' TB' TC' TD':Prop} (k:ak [] w w') (ta:TA) (tb:TB) (tc:TC) (td:TD) (y:TA'->TB'->TC'->TD'->p) (xta:ak [] w w'->TA->TA':=by intro k h;exact h.ext k) (xtb:ak [] w w'->TB->TB':=by intro k h;exact h.ext k) (xtc:ak [] w w'->TC->TC':=by intro k h;exact h.ext k) (xtd:ak [] w w'->TD->TD':=by intro k h;exact h.ext k):p:=y (xta k ta) (xtb k tb) (xtc k tc) (xtd k td)
theorem ld {TA TB TC TD TE TA' TB' TC' TD' TE':Prop} (k:ak [] w w') (ta:TA) (tb:TB) (tc:TC) (td:TD) (te:TE) (y:TA'->TB'->TC'->TD'->TE'->p) (xta:ak [] w w'->TA->TA':=by intro k h;exact h.ext k) (xtb:ak [] w w'->TB->TB':=by intro k h;exact h.ext k) (xtc:ak [] w w'->TC->TC':=by intro k h;exact h.ext k) (xtd:ak [] w w'->TD->TD':=by intro k h;exact h.ext k) (xte:ak [] w w'->TE->TE':=by intro k h;exact h.ext k):p:=y (xta k ta) (xtb k tb) (xtc k tc) (xtd k td) (xte k te)
theorem sV {TA TB TC TD TE TF TA' TB' TC' TD' TE' TF':Prop} (k:ak [] w w') (ta:TA) (tb:TB) (tc:TC) (td:TD) (te:TE) (tf:TF) (y:TA'->TB'->TC'->TD'->TE'->TF'->p) (xta:ak [] w w'->TA->TA':=by intro k h;exact h.ext k) (xtb:ak [] w w'->TB->TB':=by intro k h;exact h.ext k) (xtc:ak [] w w'->TC->TC':=by intro k h;exact h.ext k) (xtd:ak [] w w'->TD->TD':=by intro k h;exact h.ext k) (xte:ak [] w w'->TE->TE':=by intro k h;exact h.ext k) (xtf:ak [] w w'->TF->TF':=by intro k h;exact h.ext k):p:=y (xta k ta) (xtb k tb) (xtc k tc) (xtd k td) (xte k te) (xtf k tf)
theorem JN {TA TB TC TD TE TF TG TA' TB' TC' TD' TE' TF' TG':Prop} (k:ak [] w w') (ta:TA) (tb:TB) (tc:TC) (td:TD) (te:TE) (tf:TF) (tg:TG) (y:TA'->TB'->TC'->TD'->TE'->TF'->TG'->p) (xta:ak [] w w'->TA->TA':=by intro k h;exact h.ext k) (xtb:ak [] w w'->TB->TB':=by intro k h;exact h.ext k) (xtc:ak [] w w'->TC->TC':=by intro k h;exact h.ext k) (xtd:ak [] w w'->TD->TD':=by intro k h;exact h.ext k) (xte:ak [] w w'->TE->TE':=by intro k h;exact h.ext k) (xtf:ak [] w w'->TF->TF':=by intro k h;exact h.ext k) (xtg:ak [] w w'->TG->TG':=by intro k h;exact h.ext k):p:=y (xta k ta) (xtb k tb) (xtc k tc) (xtd k td) (xte k te) (xtf k tf) (xtg k tg)
theorem CK {TA TB TC TD TE TF TG TM TA' TB' TC' TD' TE' TF' TG' TM':Prop} (k:ak [] w w') (ta:TA) (tb:TB) (tc:TC) (td:TD) (te:TE) (tf:TF) (tg:TG) (tm:TM) (y:TA'->TB'->TC'->TD'->TE'->TF'->TG'->TM'->p) (xta:ak [] w w'->TA->TA':=by intro k h;exact h.ext k) (xtb:ak [] w w'->TB->TB':=by intro k h;exact h.ext k) (xtc:ak [] w w'->TC->TC':=by intro k h;exact h.ext k) (xtd:ak [] w w'->TD->TD':=by intro k h;exact h.ext k) (xte:ak [] w w'->TE->TE':=by intro k h;exact h.ext k) (xtf:ak [] w w'->TF->TF':=by intro k h;exact h.ext k) (xtg:ak [] w w'->TG->TG':=by intro k h;exact h.ext k) (xtm:ak [] w w'->TM->TM':=by intro k h;exact h.ext k):p:=y (xta k ta) (xtb k tb) (xtc k tc) (xtd k td) (xte k te) (xtf k tf) (xtg k tg) (xtm k tm)
theorem afk {TA TB TC TD TE TF TG TM TN TA' TB' TC' TD' TE' TF' TG' TM' TN':Prop} (k:ak [] w w') (ta:TA) (tb:TB) (tc:TC) (td:TD) (te:TE) (tf:TF) (tg:TG) (tm:TM) (tn:TN) (y:TA'->TB'->TC'->TD'->TE'->TF'->TG'->TM'->TN'->p) (xta:ak [] w w'->TA->TA':=by intro k h;exact h.ext k) (xtb:ak [] w w'->TB->TB':=by intro k h;exact h.ext k) (xtc:ak [] w w'->TC->TC':=by intro k h;exact h.ext k) (xtd:ak [] w w'->TD->TD':=by intro k h;exact h.ext k) (xte:ak [] w w'->TE->TE':=by intro k h;exact h.ext k) (xtf:ak [] w w'->TF->TF':=by intro k h;exact h.ext k) (xtg:ak [] w w'->TG->TG':=by intro k h;exact h.ext k) (xtm:ak [] w w'->TM->TM':=by intro k h;exact h.ext k) (xtn:ak [] w w'->TN->TN':=by intro k h;exact h.ext k):p:=y (xta k ta) (xtb k tb) (xtc k tc) (xtd k td) (xte k te) (xtf k tf) (xtg k tg) (xtm k tm) (xtn k tn)
structure Hd (q:Prop):Prop where out:q
theorem W (k:q) (h:Hd q->p:=by intro k;(repeat(first|refine zm ?_|refine zA ?_|refine zr ?_|refine aV ?_|refine zs ?_|refine wF ?_|refine wB ?_|refine wC ?_|refine wD ?_|refine wM ?_|refine wE ?_|refine wN ?_|refine wp ?_|refine wx ?_|refine jV ?_|refine gX ?_|refine lv ?_|refine tI ?_|refine AX ?_|refine AY ?_|refine AZ ?_|refine A1 ?_|refine A2 ?_|refine A3 ?_|refine A4 ?_|refine A5 ?_|refine A6 ?_|refine A9 ?_|refine Ba ?_|refine A7 ?_|refine A8 ?_|refine wi ?_|refine Bb ?_|refine CH ?_|refine CI ?_|refine CJ ?_|refine kj ?_|refine zX ?_|refine zY rfl ?_|refine D5 rfl ?_));exact k.out):p:=h ⟨k⟩
theorem WL (k:q) (h:Hd q->p:=by intro k;(repeat(first|refine zm ?_|refine zA ?_|refine zr ?_|refine aV ?_|refine zs ?_|refine wF ?_|refine wN ?_|refine wp ?_|refine wx ?_|refine jV ?_|refine gX ?_|refine lv ?_|refine tI ?_|refine AX ?_|refine AY ?_|refine AZ ?_|refine A1 ?_|refine A2 ?_|refine A3 ?_|refine A4 ?_|refine A5 ?_|refine A6 ?_|refine A9 ?_|refine Ba ?_|refine A7 ?_|refine A8 ?_|refine wi ?_|refine Bb ?_|refine CH ?_|refine CI ?_|refine CJ ?_|refine kj ?_|refine zX ?_|refine zY rfl ?_|refine D5 rfl ?_));exact k.out):p:=h ⟨k⟩
theorem WI (k:q) (h:Hd q->p:=by intro k;(repeat(first|refine zm ?_|refine zA ?_|refine zr ?_|refine aV ?_|refine zs ?_|refine wF ?_|refine wB ?_|refine wC ?_|refine wD ?_|refine wM ?_|refine wE ?_|refine wN ?_|refine wp ?_|refine wx ?_|refine jV ?_|refine gX ?_|refine lv ?_|refine tI ?_|refine AX ?_|refine AY ?_|refine AZ ?_|refine A1 ?_|refine A2 ?_|refine A3 ?_|refine A4 ?_|refine A5 ?_|refine A6 ?_|refine A9 ?_|refine Ba ?_|refine A7 ?_|refine A8 ?_|refine Bb ?_|refine CH ?_|refine CI ?_|refine CJ ?_|refine kj ?_|refine zX ?_|refine zY rfl ?_|refine D5 rfl ?_));exact k.out):p:=h ⟨k⟩
theorem WA (k:q) (h:Hd q->p:=by intro k;(repeat(first|refine zm ?_|refine zA ?_|refine zr ?_|refine aV ?_|refine zs ?_|refine wF ?_|refine wB ?_|refine wC ?_|refine wD ?_|refine wM ?_|refine wE ?_|refine wN ?_|refine wp ?_|refine wx ?_|refine jV ?_|refine gX ?_|refine lv ?_|refine tI ?_|refine AX ?_|refine AY ?_|refine AZ ?_|refine A1 ?_|refine A2 ?_|refine A3 ?_|refine A4 ?_|refine A5 ?_|refine A6 ?_|refine A9 ?_|refine Ba ?_|refine A7 ?_|refine A8 ?_|refine wi ?_|refine CJ ?_|refine kj ?_|refine zX ?_|refine zY rfl ?_|refine D5 rfl ?_));exact k.out):p:=h ⟨k⟩
theorem WS (k:q) (h:Hd q->p:=by intro k;(repeat(first|refine zm ?_|refine zA ?_|refine zr ?_|refine aV ?_|refine zs ?_|refine wF ?_|refine wB ?_|refine wC ?_|refine wD ?_|refine wM ?_|refine wE ?_|refine wN ?_|refine wp ?_|refine wx ?_|refine jV ?_|refine gX ?_|refine lv ?_|refine tI ?_|refine AX ?_|refine AY ?_|refine AZ ?_|refine A1 ?_|refine A2 ?_|refine A3 ?_|refine A4 ?_|refine A5 ?_|refine A6 ?_|refine A9 ?_|refine Ba ?_|refine A7 ?_|refine A8 ?_|refine wi ?_|refine Bb ?_|refine CH ?_|refine CI ?_|refine kj ?_|refine zX ?_|refine zY rfl ?_|refine D5 rfl ?_));exact k.out):p:=h ⟨k⟩
theorem WZ (k:q) (h:Hd q->p:=by intro k;(repeat(first|refine zm ?_|refine zA ?_|refine zr ?_|refine zs ?_|refine wF ?_|refine wB ?_|refine wC ?_|refine wD ?_|refine wM ?_|refine wE ?_|refine wN ?_|refine wp ?_|refine wx ?_|refine jV ?_|refine gX ?_|refine lv ?_|refine tI ?_|refine AX ?_|refine AY ?_|refine AZ ?_|refine A1 ?_|refine A2 ?_|refine A3 ?_|refine A4 ?_|refine A5 ?_|refine A6 ?_|refine A9 ?_|refine Ba ?_|refine A7 ?_|refine A8 ?_|refine wi ?_|refine Bb ?_|refine CH ?_|refine CI ?_|refine CJ ?_|refine kj ?_|refine zX ?_|refine zY rfl ?_|refine D5 rfl ?_));exact k.out):p:=h ⟨k⟩
theorem oM {D:List Nat} {e e':Env} (h2:p) (h3:q) (h:eF D e e':=by repeat(first|with_reducible exact x5|refine IY rfl ?_|refine LR rfl ?_)):eF D e e'∧p∧q:=⟨h,h2,h3⟩
theorem oQ (h:p:=by refine W ?_;exact oM rfl (by first|rfl|exact ak.refl _ _|assumption)):p:=h
section
variable {P:Program} {n:Nat} {ops:Array Oper} {K:Env->World->Prop} {e:Env} {w:World} {l:List Oper} (m tc tp:Nat) (J:World->Prop) {c r:Bool} {p:Prop}
theorem oO (ht:e tc= .bool c) (h1:OW P n ops (λe' w'=>eF (List.range' tc (tp+1-tc)) e e'∧e' tp= .bool true∧J w') (l.take m) (iv e tc (.bool true)) w) [t:ug (c=false) p] 
  (h0:p->OW P n ops (λe' w'=>eF (List.range' tc (tp+1-tc)) e e'∧e' tp= .bool r∧J w') (l.take m) (iv e tc (.bool false)) w)
  (k:∀x w',J w'->OW P n ops K (l.drop m) (iv (aR (List.range' tc (tp+1-tc)) x e) tp (.bool (c||r))) w'):OW P n ops K l e w:=
 Ce m tc tp _ J ht (λ_=>h1) (λh=>h0 (t.imp h)) k
theorem oA (ht:e tc= .bool c) (h0:OW P n ops (λe' w'=>eF (List.range' tc (tp+1-tc)) e e'∧e' tp= .bool false∧J w') (l.take m) (iv e tc (.bool false)) w) [t:ug (c=true) p] 
  (h1:p->OW P n ops (λe' w'=>eF (List.range' tc (tp+1-tc)) e e'∧e' tp= .bool r∧J w') (l.take m) (iv e tc (.bool true)) w)
  (k:∀x w',J w'->OW P n ops K (l.drop m) (iv (aR (List.range' tc (tp+1-tc)) x e) tp (.bool (c&&r))) w'):OW P n ops K l e w:=
 IZ m tc tp _ J ht (λh=>h1 (t.imp h)) (λ_=>h0) k
theorem oP (ht:e tc= .bool c) (h1:OW P n ops (λe' w'=>eF (List.range' tc (tp+1-tc)) e e'∧e' tp= .bool true∧w=w') (l.take m) (iv e tc (.bool true)) w) [t:ug (c=false) p] 
  (h0:p->OW P n ops (λe' w'=>eF (List.range' tc (tp+1-tc)) e e'∧e' tp= .bool r∧w=w') (l.take m) (iv e tc (.bool false)) w)
  (k:∀x,OW P n ops K (l.drop m) (iv (aR (List.range' tc (tp+1-tc)) x e) tp (.bool (c||r))) w):OW P n ops K l e w:=
 Ce m tc tp _ (w=·) ht (λ_=>h1) (λh=>h0 (t.imp h)) λx _ hw=>hw▸k x
theorem oB (ht:e tc= .bool c) (h0:OW P n ops (λe' w'=>eF (List.range' tc (tp+1-tc)) e e'∧e' tp= .bool false∧w=w') (l.take m) (iv e tc (.bool false)) w) [t:ug (c=true) p] 
  (h1:p->OW P n ops (λe' w'=>eF (List.range' tc (tp+1-tc)) e e'∧e' tp= .bool r∧w=w') (l.take m) (iv e tc (.bool true)) w)
  (k:∀x,OW P n ops K (l.drop m) (iv (aR (List.range' tc (tp+1-tc)) x e) tp (.bool (c&&r))) w):OW P n ops K l e w:=
 IZ m tc tp _ (w=·) ht (λh=>h1 (t.imp h)) (λ_=>h0) λx _ hw=>hw▸k x
end
abbrev it (l:List Value):List It:=l.map It.v
theorem dV {n:Nat} {l:List Oper} {N R:Env->World->Prop} {X:Nat->Env->World->Prop} {id:Nat} {e0:Env} {w0:World} (hm:P.follows .mixedOrders=true) (m:Nat) (ds:List Nat) (deps:List (List Nat)) (its:List It) 
  (hB:uR l m ds ds deps=true) (hS:its.all It.GJ=true)
  (hc:∀wd,ak [] w0 wd->rv P n l.toArray ds ds its e0 wd 0 (l.take m) deps)
  (ht:∀(x:Env) (w:World),ak [] w0 w->dq its ds w (List.range m) λacc=>OW P n l.toArray N (l.drop m) (aS (aR ds x e0) acc) w):
  CW P n (.region id l.toArray true) N R X e0 w0:=kU hm m ds ds deps its hB hS hc ht
section
variable {P:Program} {n:Nat} {ops:Array Oper} {W ds:List Nat} {e0:Env} {wz w0:World} {k:Nat} {o:Oper} {l:List Oper} {d:List Nat} {r:List (List Nat)}
theorem V1 {its:List It} (aB:ak [] wz w0) (hr:rv P n ops W ds its e0 w0 (k+1) l r) (h:GK P n ops W ds its e0 w0 k o d:=by intro x w hk;first|exact zm pv|exact zA pv|exact zs pv|exact wF pv|exact wB pv (hb:=aL.ext (by first|with_reducible assumption|assumption) (ak.trans aB hk))|exact wB pv (hb:=dW.iy (dW.ext (by first|with_reducible assumption|assumption) (ak.trans aB hk)))|exact wM pv (hb:=aL.ext (by first|with_reducible assumption|assumption) (ak.trans aB hk))|exact wM pv (hb:=dW.iy (dW.ext (by first|with_reducible assumption|assumption) (ak.trans aB hk)))|exact wC pv (hb:=gJ.ext (by first|with_reducible assumption|assumption) (ak.trans aB hk))|exact wC pv (hb:=fM.cells (fM.ext (by first|with_reducible assumption|assumption) (ak.trans aB hk)))|exact wD pv (hb:=gJ.ext (by first|with_reducible assumption|assumption) (ak.trans aB hk))|exact wD pv (hb:=fM.cells (fM.ext (by first|with_reducible assumption|assumption) (ak.trans aB hk)))|exact wE pv (hb:=gJ.ext (by first|with_reducible assumption|assumption) (ak.trans aB hk))|exact wE pv (hb:=fM.cells (fM.ext (by first|with_reducible assumption|assumption) (ak.trans aB hk)))|exact wN pv|(refine wp ?_;exact pv)|exact wx pv|exact AX pv|exact AY pv|exact AZ pv|exact A1 pv|exact A2 pv|exact A3 pv|exact A4 pv|exact A5 pv|exact A6 pv|exact A9 pv|exact Ba pv|exact A7 pv|exact A8 pv|exact wi pv|exact Bb pv|exact CH pv|exact CI pv|exact CJ pv):rv P n ops W ds its e0 w0 k (o::l) (d::r):=⟨h,hr⟩
theorem F1 {its:List Ie} {Js:List (List Nat->List Value->World->Prop)} {G0:List Nat} (hr:vz P n ops W ds its Js e0 G0 w0 (k+1) l r) (h:JJ P n ops W ds its e0 G0 w0 k o d:=by intro x w G aX bI p5;first|exact zm fv|exact zA fv|exact zs fv|exact wF fv|exact wB fv (hb:=dW.iy (dW.go (by first|with_reducible assumption|assumption) bI))|exact wM fv (hb:=dW.iy (dW.go (by first|with_reducible assumption|assumption) bI))|exact wC fv (hb:=fM.cells (fM.go (by first|with_reducible assumption|assumption) bI))|exact wD fv (hb:=fM.cells (fM.go (by first|with_reducible assumption|assumption) bI))|exact wE fv (hb:=fM.cells (fM.go (by first|with_reducible assumption|assumption) bI))|exact wN fv|(refine wp ?_;exact fv)|exact wx fv|exact AX fv|exact AY fv|exact AZ fv|exact A1 fv|exact A2 fv|exact A3 fv|exact A4 fv|exact A5 fv|exact A6 fv|exact A9 fv|exact Ba fv|exact A7 fv|exact A8 fv|exact wi fv|exact Bb fv|exact CH fv|exact CI fv|exact CJ fv) (hk:(its.getD k mm).kr=none:=by rfl):vz P n ops W ds its Js e0 G0 w0 k (o::l) (d::r):=vf h hr hk
end
theorem VA (k:q) (h:Hd q->p:=by intro k;(repeat(refine V1 aB ?_));exact k.out):p:=h ⟨k⟩
theorem VZ (h:p:=by(repeat(refine V1 aB ?_));exact trivial):p:=h
theorem FZ (h:p:=by(repeat(refine F1 ?_));exact trivial):p:=h
theorem FA (k:q) (h:Hd q->p:=by intro k;(repeat(refine F1 ?_));exact k.out):p:=h ⟨k⟩
section
variable {P:Program} {n:Nat} {ops:Array Oper} {K:Env->World->Prop} {rest:List Oper} {e:Env} {w:World}
 {dst:Option Nat} {ty:TypeId} {pos:String} {after:Array Edge} {g:Option (Nat×Bool)} {x y:Operand}
/-! ### Elements that are stored -/
def setAt (cs:Array Value) (k:Nat):List Value->Array Value
 |[]=>cs
 |v::vs=>setAt (cs.setIfInBounds k v) (k+1) vs
theorem Nu:∀(vs:List Value) (cs:Array Value) (k:Nat),(setAt cs k vs).size=cs.size:=by intro x;induction x<;>grind [setAt]
theorem JO:∀(vs:List Value) (cs:Array Value) (k:Nat),k+vs.length<=cs.size->(setAt cs k vs).toList=cs.toList.take k++(vs++cs.toList.drop (k+vs.length))
 |[],cs,k,_=>by simp[setAt]
 |v::vs,cs,k,h=>by
  unfold setAt
  simp only[lC] at h
  rw[JO vs _ _ so,Array.toList_setIfInBounds]
  have hk:k<cs.toList.length:=by simp;omega
  rw[List.take_add_one,List.getElem?_set_self hk,List.take_set_of_le (lR k)]
  rw[List.drop_set_of_lt om]
  simp only[Option.toList_some,List.append_assoc,List.cons_append,List.nil_append,lC]
  rw[show k+1+vs.length=k+(vs.length+1) from by omega]
theorem Nv:∀(vs:List Value) (i:Nat) (w:World) (b o:Nat) (U:TypeId) (cs:Array Value),aL w b cs U->o+i+vs.length<=cs.size->(∀u∈vs,u.oneCell'=true)->
  ∃w',(storeCells ⟨b,o,none⟩ vs i).run P w= .ok () w'∧ak [b] w w'∧aL w' b (setAt cs (o+i) vs) U∧w'.heap.size=w.heap.size
 |[],i,w,b,o,U,cs,hb,_,_=>⟨w,rfl,ak.refl _ _,hb,rfl⟩
 |v::vs,i,w,b,o,U,cs,hb,hs,h1=>by
  simp only[lC] at hs
  have mG:o+i<cs.size:=by omega
  have aW:(store ((⟨b,o,none⟩:Addr).add i) v).run P w= .ok () (w.setCell ⟨b,o+i,none⟩ v):=by
   rw[wu,run_store P w _ v _ (h1 v sm),hb.cell,Array.getElem?_eq_getElem mG,hb.frozen]
   simp
  obtain⟨w',hr,hk,gC,hz⟩:=Nv vs (i+1) (w.setCell ⟨b,o+i,none⟩ v) b o U (cs.setIfInBounds (o+i) v) (hb.set (o+i) v) so (λu hu=>h1 u (by simp[hu]))
  refine⟨w',?_,(ak.setCell w b (o+i) v).trans hk,gC,by rw[hz];simp[World.setCell]⟩
  simp only[storeCells,Sem.run_bind,aW,Result.andThen_ok]
  exact hr
theorem TZ {α:Type}:∀{rows:List (List α)} {i:Nat} {row:List α},(∀r,r∈rows->r.length=sz)->i<rows.length->row.length=sz->(rows.set i row).flatten=rows.flatten.take (i*sz)++(row++rows.flatten.drop (i*sz+sz))
 |r::rows,0,row,h,_,hr=>by
  have h0:r.length=sz:=h r sm
  simp[<-h0]
 |r::rows,i+1,row,h,hi,hr=>by
  have h0:r.length=sz:=h r sm
  have ih:=TZ (rows:=rows) (i:=i) (row:=row) (λr hr=>h r (by simp[hr])) (by simpa using hi) hr
  rw[List.set_cons_succ,List.flatten_cons,List.flatten_cons,ih]
  have e1:(i+1)*sz=r.length+i*sz:=by rw[h0,Nat.add_mul];omega
  have e2:(i+1)*sz+sz=r.length+(i*sz+sz):=by omega
  rw[e2,e1,List.take_length_add_append,List.drop_length_add_append,List.append_assoc]
theorem dd.take {w:World}:∀{k:Nat} {vs:List Value} {cs:List C},dd L w vs cs->dd L w (vs.take k) (cs.take k)
 |0,_,_,_=>by simp[dd]
 |_+1,[],[],_=>trivial
 |_+1,_::_,_::_,h=>⟨h.1,dd.take h.2⟩
theorem dd.drop {w:World}:∀{k:Nat} {vs:List Value} {cs:List C},dd L w vs cs->dd L w (vs.drop k) (cs.drop k)
 |0,_,_,h=>h
 |_+1,[],[],_=>trivial
 |k+1,_::_,_::_,h=>dd.drop (k:=k) h.2
theorem afl {T:Nat} {v:Value} {vs:List Value} {row:List C} {B:Nat} {L:List Nat} {E gb:Nat} {N c:Nat} {rows:List (List C)} {b o i:Nat} (jX:TI P T sz bytes z) (hg:gate ops e g=true) 
  (hx:ev e x= .pointer (some ⟨b,o,none⟩)) (hy:ev e y=v) (hv:v.cells=vs.toArray) (ho:o=i*sz) (hO:Gr B L w E sz (.slice (some ⟨b,0,none⟩) N c) (some gb) rows) (hi:i<rows.length) (h1:vs.all Value.oneCell'=true)
  (oI:row.length=sz) (hr:dd (gb::L) w vs row)
  (k:∀w',ak [gb] w w'->w'.heap.size=w.heap.size->Gr B L w' E sz (.slice (some ⟨b,0,none⟩) N c) (some gb) (rows.set i row)->OW P n ops K rest e w'):
  OW P n ops K (⟨none,.store T x y,ty,pos,after,g⟩::rest) e w:=by
 subst ho
 obtain⟨xs,⟨⟨mJ,h|⟨b',cap,cur,oJ,Nw,hb,mI,mH,cG,ht⟩⟩,iJ,gR,afm⟩⟩:=hO.own
 ·obtain⟨h,_⟩:=h;cases h
 ·cases Nw;cases oJ
  have gj:vs.length=sz:=by rw[hr.length,oI]
  have hle:(i+1)*sz<=rows.length*sz:=Nat.mul_le_mul_right _ hi
  have T0:rows.length*sz<=c*sz:=Nat.mul_le_mul_right _ mI
  rw[Nat.add_mul,Nat.one_mul] at hle
  obtain⟨w',jG,hk,gC,hz⟩:=Nv (P:=P) vs 0 w gb (i*sz) E cur hb (by rw[cG,gj];omega) (λu hu=>List.all_eq_true.1 h1 u hu)
  rw[Nat.add_zero] at gC
  refine IT hg (w':=w') (by
   simp[execOp,Instr.storeAt,Instr.sureAddr,hx,hy,storeVar,hv,jX.tL,gj,jG]) (k w' hk hz ⟨⟨xs.take (i*sz)++(vs++xs.drop (i*sz+sz)),⟨⟨?_,.inr ⟨gb,c,_,rfl,sm,gC,by simpa using mI,mH,by rw[Nu];exact cG,?_⟩⟩,?_,?_,afm⟩⟩,hO.low,λx hx=>by rw[hz];exact hO.cN x hx,by rw[hz];exact hO.bsz⟩)
  ·rw[lA,lA,List.length_take,List.length_drop,List.length_set,mJ,gj];omega
  ·rw[JO _ _ _ (by rw[cG,gj];omega),List.length_set,<-ht,gj,List.take_append,List.take_append]
   simp only[List.length_take,Array.length_toList,cG,gj,List.take_take,List.drop_take]
   rw[Nat.min_eq_right (show i*sz<=rows.length*sz by omega),Nat.min_eq_left (show i*sz<=rows.length*sz by omega),Nat.min_eq_left (show i*sz<=c*sz by omega),List.take_of_length_le (l:=vs) om]
   rw[show rows.length*sz-i*sz-sz=rows.length*sz-(i*sz+sz) from by omega]
  ·rw[TZ gR hi oI]
   refine dd.append (dd.aG iJ.take (hk.mono sm)) (dd.append (hr.aG (hk.mono sm)) (dd.aG iJ.drop (hk.mono sm)))
  ·intro r rV
   rcases List.mem_or_eq_of_mem_set rV with h|h
   ·exact gR r h
   ·rw[h];exact oI
/-! ### Slices that are built of several ai -/
theorem T1 (off:Nat):∀(us:List Value) (i:Nat) (cs:Array Value),((us.zipIdx i).foldl (fun(cs:Array Value) (p:Value×Nat)=>cs.setIfInBounds (off+p.2) p.1) cs)=setAt cs (off+i) us
 |[],_,_=>rfl
 |u::us,i,cs=>by rw[List.zipIdx_cons,List.foldl_cons,T1 off us];rfl
theorem T2:∀(us:List Value) (vss:List (List Value)) (k:Nat) (cs:Array Value),us.map Value.cells=vss.map List.toArray->(∀vs,vs∈vss->vs.length=sz)->cs.size=(k+us.length)*sz->
  ∃cs',Instr.fill (λi=>some (i*sz,sz)) cs ((us.zipIdx k).map λp=>(p.2,p.1))=some cs'∧cs'.toList=cs.toList.take (k*sz)++vss.flatten
 |[],[],k,cs,_,_,hs=>⟨cs,rfl,by simp only[List.length_nil,Nat.add_zero] at hs;simp only[List.flatten_nil,List.append_nil];rw[List.take_of_length_le (by simp[hs])]⟩
 |[],_::_,_,_,h,_,_=>by simp at h
 |_::_,[],_,_,h,_,_=>by simp at h
 |u::us,vs::vss,k,cs,h,hl,hs=>by
  simp only[List.map_cons,List.cons.injEq] at h
  have gj:vs.length=sz:=hl vs sm
  simp only[lC] at hs
  have e:(k+(us.length+1))*sz=k*sz+sz+us.length*sz:=by rw[Nat.add_mul,Nat.add_mul,Nat.one_mul];omega
  rw[List.zipIdx_cons,List.map_cons]
  obtain⟨cs',h1,h2⟩:=T2 us vss (k+1) (setAt cs (k*sz) vs) h.2 (λv hv=>hl v (by simp[hv])) (by rw[Nu,hs];congr 1;omega)
  refine⟨cs',?_,?_⟩
  ·unfold Instr.fill
   simp only[h.1]
   rw[iN (by simp[gj];omega)]
   have h3:=T1 (k*sz) vs 0 cs
   simp only[Nat.add_zero] at h3
   have h4:Array.foldl (fun(cs:Array Value) (p:Value×Nat)=>cs.setIfInBounds (k*sz+p.2) p.1) cs vs.toArray.zipIdx=setAt cs (k*sz) vs:=by rw[<-h3];simp
   rw[h4];exact h1
  ·have e2:(k+1)*sz=k*sz+sz:=by rw[Nat.add_mul,Nat.one_mul]
   have F8:min (k*sz) cs.size=k*sz:=Nat.min_eq_left om
   rw[h2,JO _ _ _ (by rw[gj];omega),e2,List.flatten_cons,List.take_append,List.take_append]
   simp only[List.length_take,Array.length_toList,F8,gj,List.take_take]
   rw[Nat.min_eq_right (show k*sz<=k*sz+sz by omega),show k*sz+sz-k*sz=sz from by omega,List.take_of_length_le (l:=vs) om,Nat.sub_self,List.take_zero,List.append_nil,List.append_assoc]
theorem afn {T:TypeId} {us:List Value} {vss:List (List Value)} (hT:P.underlying T=some (.slice E)) (hE:TI P E sz bytes z) (ov:0<sz) (Bc:0<us.length) (df:us.length*sz<=16777216) 
  (hv:us.map Value.cells=vss.map List.toArray) (hl:∀vs,vs∈vss->vs.length=sz):(Instr.buildSlice T us.length ((us.zipIdx 0).map λp=>(p.2,p.1)).toArray).run P w= .ok (.slice (some ⟨w.heap.size,0,none⟩) us.length us.length) (w.alloc (.cells vss.flatten.toArray E)):=by
 have h0:¬us.length*sz=0:=by
  have:0<us.length*sz:=Nat.mul_pos Bc ov
  omega
 have hb:¬(16777216<us.length*sz):=by omega
 obtain⟨cs',hf,cG⟩:=T2 us vss 0 ((Array.range (us.length*sz)).map (z.cells[·%z.cells.size]!)) hv hl sm
 have he:cs'=vss.flatten.toArray:=by apply Array.ext';simpa using cG
 subst he
 simp[Instr.buildSlice,Sem.run_bind,run_underlying hT,Result.andThen_ok,hE.tL,hb,h0,hE.LL,hf,newRow]
theorem rz {m:Nat} {T:TypeId} {ai:Array (Nat×Operand)} (qs:List Operand) (vss:List (List Value)) (hT:P.underlying T=some (.slice E)) (hE:TI P E sz bytes z) (hg:gate ops e g=true) (hd:cC n dst=true) 
  (hp:ai=((qs.zipIdx 0).map λp=>(p.2,p.1)).toArray) (hm:m=qs.length) (ov:Nat.blt 0 sz=true) (Bc:Nat.blt 0 qs.length=true) (df:Nat.ble (qs.length*sz) 16777216=true)
  (hv:qs.map (λq=>(ev e q).cells)=vss.map List.toArray) (hl:vss.all (λvs=>Nat.beq vs.length sz)=true)
  (k:∀w',ak [] w w'->aL w' w.heap.size vss.flatten.toArray E->w'.heap.size=w.heap.size+1->OW P n ops K rest (bY e dst (.slice (some ⟨w.heap.size,0,none⟩) m m)) w'):
  OW P n ops K (⟨dst,.buildSlice T m ai,ty,pos,after,g⟩::rest) e w:=by
 subst hp hm
 have T3:(qs.map (ev e)).length=qs.length:=by simp
 have hr:=afn (P:=P) (w:=w) (us:=qs.map (ev e)) (vss:=vss) hT hE (by simpa[Nat.blt_eq] using ov) (by simpa[Nat.blt_eq] using Bc) (by rw[T3];exact Nat.le_of_ble_eq_true df) (by rw[List.map_map];exact hv) (λvs h=>Nat.eq_of_beq_eq_true (List.all_eq_true.1 hl vs h))
 rw[T3] at hr
 have afo:((qs.zipIdx 0).map λp=>(p.2,p.1)).toArray.map (fun(p:Nat×Operand)=>(p.1,ev e p.2))=(((qs.map (ev e)).zipIdx 0).map λp=>(p.2,p.1)).toArray:=by
  rw[List.map_toArray,List.map_map]
  congr 1
  have:∀(qs:List Operand) (i:Nat),(qs.zipIdx i).map ((fun(p:Nat×Operand)=>(p.1,ev e p.2))∘λp=>(p.2,p.1))=((qs.map (ev e)).zipIdx i).map λp=>(p.2,p.1):=by
   intro qs
   induction qs with
   |nil=>intro i;rfl
   |cons q qs ih=>intro i;simp only[List.zipIdx_cons,List.map_cons,List.map,ih];rfl
  exact this qs 0
 exact fA hg hd (w':=w.alloc (.cells vss.flatten.toArray E)) (by
  have rq:(Array.map (λx=>(x.fst,ev e x.snd)) ((qs.zipIdx 0).map λp=>(p.2,p.1)).toArray)=(((qs.map (ev e)).zipIdx 0).map λp=>(p.2,p.1)).toArray:=afo
  simp only[execOp]
  rw[rq,Sem.run_bind,hr];simp) (k _ (ak.alloc _ _ _) (aL.alloc _ _ _) sm)
/-! ### Slices that are appended whole -/
theorem T4 {w:World}:∀{rows:List (List C)} {f:Nat->List Value},(∀i row,rows[i]?=some row->dd L w (f i) row)->dd L w ((List.range rows.length).map f).flatten rows.flatten
 |[],_,_=>trivial
 |r::rows,f,h=>by
  rw[lC,List.range_succ_eq_map,List.map_cons,List.map_map,List.flatten_cons,List.flatten_cons]
  exact(h 0 r rfl).append (T4 (f:=f∘Nat.succ) λi row hi=>h (i+1) row (by simpa using hi))
theorem afp {w:World} {ys:List Value} (h:gJ w b off xs) (k:gJ w b (off+xs.length) ys):gJ w b off (xs++ys):=by grind [gJ]
theorem T5 {w:World} {sz:Nat}:∀{n off:Nat} {f:Nat->List Value},(∀i,i<n->(f i).length=sz∧gJ w b (off+i*sz) (f i))->gJ w b off ((List.range n).map f).flatten
 |0,_,_,_=>λj v hj=>by simp at hj
 |n+1,off,f,h=>by
  rw[List.range_succ_eq_map,List.map_cons,List.map_map,List.flatten_cons]
  obtain⟨h1,h2⟩:=h 0 om
  rw[Nat.zero_mul,Nat.add_zero] at h2
  refine afp h2 (T5 (sz:=sz) λi hi=>?_)
  obtain⟨h3,h4⟩:=h (i+1) om
  refine⟨h3,?_⟩
  rw[h1]
  rwa [show off+(i+1)*sz=off+sz+i*sz from by rw[Nat.add_mul];omega] at h4
theorem T6 {w:World} {a:Option Addr} {len cap size:Nat} (h:ck L w (.slice a len cap) (.sl size rows)) (hp:0<rows.length):
  ∃b off vs,a=some ⟨b,off,none⟩∧b<w.heap.size∧b∉L∧gJ w b off vs∧dd L w vs rows.flatten∧len=rows.length∧∀row,row∈rows->row.length=size:=by
 cases h with
 |nil=>simp at hp
 |sl b off len cap size rows f hl hc hb hL hs kz iJ=>
  refine⟨b,off,((List.range rows.length).map λi=>(List.range size).map (f i)).flatten,rfl,hb,hL,T5 (sz:=size) λi hi=>⟨by simp,λj v hj=>?_⟩,T4 λi row hi=>?_,hl.symm,hs⟩
  ·have xU:j<size:=by have:=(List.getElem?_eq_some_iff.1 hj).1;simpa using this
   have e:f i j=v:=by simpa[List.getElem?_map,xU] using hj
   rw[<-e];exact kz i j om xU
  ·have gR:=hs row (List.mem_of_getElem? hi)
   refine dd.of (by simp[gR]) λj v c hv pM=>?_
   have xU:j<size:=by have:=(List.getElem?_eq_some_iff.1 hv).1;simpa using this
   have e:f i j=v:=by simpa[List.getElem?_map,xU] using hv
   rw[<-e];exact iJ i j row c hi pM
theorem T7 {t ty T:TypeId} {i:TypeInfo} (ht:P.underlying t=some (.slice T)) (hi:P.info? T=some i) 
  {a:Option Addr} {m cap:Nat} (h:m<=cap) {a2:Option Addr} {c2:Nat}:
  (Builtin.append_ #[t,t] ty #[.slice a m cap,.slice a2 0 c2]).run P w= .ok (.slice a m cap) w:=by
 have hf:(Builtin.firstCells i.size 0 (.slice a2 0 c2)).run P w= .ok #[] w:=by
  cases a2 with
  |none=>simp[Builtin.firstCells]
  |some b=>exact run_firstCells_some (P:=P) (w:=w) i.size 0 b 0 c2 [] sm sm
 cases a<;>simp[Builtin.append_,run_underlying ht,sizeOf,typeInfo,hi,Builtin.lenOf,h,hf,storeCells]
theorem xd {B:Nat} {L:List Nat} {t:Nat} {v:Value} {gb:Option Nat} {rows new:List (List C)} {a2:Option Addr} {n2 c2:Nat} (hT:P.underlying t=some (.slice E)) (hE:TI P E sz bytes z) (hg:gate ops e g=true) (hd:cC n dst=true) (hz:Nat.beq z.cells.size sz=true) (gm:Nat.ble bytes 1000=true) 
  (hx:ev e x=v) (hy:ev e y= .slice a2 n2 c2) (hO:Gr B L w E sz v gb rows) (hr:ck (gb.toList++L) w (.slice a2 n2 c2) (.sl sz new)) (h1:∀row,row∈new->∀c,c∈row->∀v,c= .val v->v.oneCell'=true)
  (hn:rows.length+new.length<100000000)
  (k:∀a' cap' g' w',Gr B L w' E sz (.slice a' (rows.length+new.length) cap') g' (rows++new)->ak gb.toList w w'->OW P n ops K rest (bY e dst (.slice a' (rows.length+new.length) cap')) w'):
  OW P n ops K (⟨dst,.call {callee:=.builtin .append,args:=#[x,y],argTypes:=#[t,t]},ty,pos,after,g⟩::rest) e w:=by
 obtain⟨xs,hR⟩:=hO.own
 have Aj:bytes<=1000:=Nat.le_of_ble_eq_true gm
 by_cases hp:0<new.length
 ·obtain⟨b,off,vs,rfl,hb,p6,hc,JP,rfl,gR⟩:=T6 hr hp
  refine Ri hT hE hg hd hz hx hR hy rfl hp gR hc ?_ JP hO.cN (Nat.le_trans (Nat.mul_le_mul (show rows.length+new.length<=100000000 by omega) (show bytes+1<=1001 by omega)) de) ?_
  ·refine dd.Gf JP λc hc v hv=>?_
   obtain⟨row,h2,h3⟩:=List.mem_flatten.1 hc
   exact h1 row h2 c h3 v hv
  ·intro a' cap' g' w' jj hk jZ
   refine k a' cap' g' w' ⟨⟨_,jj⟩,λb hb=>?_,λx hx=>lL (hO.cN x hx) hk.size,Nat.le_trans hO.bsz hk.size⟩ hk
   rcases jZ with h|h
   ·rw[h] at hb;exact hO.low b hb
   ·rw[h] at hb;cases hb;exact hO.bsz
 ·have kT:new=[]:=List.length_eq_zero_iff.1 om
  subst kT
  obtain⟨a,cap,rfl⟩:=hR.len
  have h20:n2=0:=by
   obtain⟨_,_,he,_⟩:=rS hr
   cases he;rfl
  subst h20
  have D9:rows.length<=cap:=by
   rcases hR.own.2 with⟨h,h2,_⟩|⟨_,_,_,_,h,_,h2,_⟩
   ·rw[h2];omega
   ·cases h;exact h2
  obtain⟨i,hi,_,_,_⟩:=hE.get
  have jG:=T7 (P:=P) (w:=w) (t:=t) (ty:=ty) hT hi (a:=a) (m:=rows.length) (cap:=cap) D9 (a2:=a2) (c2:=c2)
  refine fA hg hd (v:=.slice a rows.length cap) (w':=w) (by
   simp only[execOp,resolve,invoke,builtin,Sem.run_bind,Sem.run_pure,Result.andThen_ok,List.map_toArray,List.map_cons,List.map_nil,hx,hy,jG]) ?_
  have:=k a cap gb w (by simpa using hO) (ak.refl _ _)
  simpa using this
end
theorem T8 {T:Nat} (hb:aL w b xs.toArray T) (hl:xs.length=N*sz) (hN:N<=100000000):im w T sz (.slice (some ⟨b,0,none⟩) N N) (some b) N xs:=
 ⟨hl,.inr ⟨b,N,_,rfl,rfl,hb,lR _,by unfold maxLen;omega,by simpa using hl,by rw[<-hl];simp⟩⟩
theorem afr {T:Nat} {xs:List aj} (hb:aL w b (xs.map λx=>str x).toArray T) (hN:xs.length<=100000000) (hL:b∉L):bg L w (.slice (some ⟨b,0,none⟩) xs.length xs.length) xs:=
 cE.rep (T:=T) (g:=some b) (T8 hb sm hN) (λx hx=>by cases hx;exact hL)
theorem afs {T:Nat} (hb:aL w b xs.toArray T) (hr:dd (b::L) w xs rows.flatten) (gR:∀r,r∈rows->r.length=sz) (hN:N=rows.length) (hm:N<=100000000) (hB:B<=b) (p6:b∉L) (hL:∀x,x∈L->x<w.heap.size):
  Gr B L w T sz (.slice (some ⟨b,0,none⟩) N N) (some b) rows:=by
 subst hN
 refine⟨⟨xs,⟨T8 hb (by rw[hr.length,QY gR]) hm,hr,gR,λx hx=>by cases hx;exact p6⟩⟩,λx hx=>by cases hx;exact hB,hL,Nat.le_trans hB (Nat.le_of_lt hb.lt)⟩
theorem aft {ts:List aq}:∀row,row∈cQ ts->∀c,c∈row->∀v,c=C.val v->v.oneCell'=true:=by
 intro row hr c hc v hv
 rw[yb] at hr
 obtain⟨t,_,rfl⟩:=List.mem_map.1 hr
 cases t
 rw[aq.enc] at hc
 simp only[mC,List.not_mem_nil,or_false] at hc
 rcases hc with h|h
 ·rw[h] at hv;cases hv;rfl
 ·rw[h] at hv;cases hv
theorem afu {T:Nat} {u1 u2 u3 u4 u5 u6:Value} {t1 t2 t3:aq} (hb:aL w b [u1,u2,u3,u4,u5,u6].toArray T) (h1:bh L w (.agg #[u1,u2]) t1) (h2:bh L w (.agg #[u3,u4]) t2) (h3:bh L w (.agg #[u5,u6]) t3) (hL:b∉L):
  cX L w (.slice (some ⟨b,0,none⟩) 3 3) [t1,t2,t3]:=by
 have gR:=Me [t1,t2,t3]
 have hr:dd L w [u1,u2,u3,u4,u5,u6] (cQ [t1,t2,t3]).flatten:=by
  have e:(cQ [t1,t2,t3]).flatten=t1.enc++(t2.enc++t3.enc):=by simp[cQ]
  rw[e]
  exact dd.append (vs:=[u1,u2]) h1.ji (dd.append (vs:=[u3,u4]) h2.ji h3.ji)
 refine QX b 0 3 2 (cQ [t1,t2,t3]) [[u1,u2],[u3,u4],[u5,u6]] (by simp[gK]) (by simp[gK]) hb.lt hL gR (λi vs hi=>?_) (λi vs row hi yw=>?_)
 ·intro j v hj
  rw[hb.cell]
  match i,hi with
  |0,hi=>simp at hi;subst hi;match j,hj with
   |0,hj=>simpa using hj
   |1,hj=>simpa using hj
   |j+2,hj=>simp at hj
  |1,hi=>simp at hi;subst hi;match j,hj with
   |0,hj=>simpa using hj
   |1,hj=>simpa using hj
   |j+2,hj=>simp at hj
  |2,hi=>simp at hi;subst hi;match j,hj with
   |0,hj=>simpa using hj
   |1,hj=>simpa using hj
   |j+2,hj=>simp at hj
  |i+3,hi=>simp at hi
 ·match i,hi with
  |0,hi=>simp at hi;subst hi;simp[cQ] at yw;subst yw;exact h1.ji
  |1,hi=>simp at hi;subst hi;simp[cQ] at yw;subst yw;exact h2.ji
  |2,hi=>simp at hi;subst hi;simp[cQ] at yw;subst yw;exact h3.ji
  |i+3,hi=>simp at hi
theorem afv {b:Bk} (h:b∈bs):(lB b).length<=(lD bs).length:=Gp (List.mem_map.2 ⟨b,h,rfl⟩)
theorem afw (b:Bk):(cY [114,101,103,115] b.bW).length<=(lB b).length:=Gp sm
theorem afx (b:Bk):(cY [99,111,100,101] b.code).length<=(lB b).length:=Gp sm
theorem T9 {bs:List Bk} (h:i<bs.length):bN bs i∈bs:=by simp[bN,gE h]
section
open Go Go.ChangeShapes Go.WideShapes
theorem afy {a:Addr} (h:w.cell? a=some v):a=⟨a.block,a.off,none⟩∧a.block<w.heap.size:=by
 obtain⟨b,o,s⟩:=a
 unfold World.cell? at h
 split at h
 ·rename_i c _ _ he
  cases s with
  |some s=>simp at h
  |none=>exact⟨rfl,(Array.getElem?_eq_some_iff.1 he).1⟩
 ·cases h
theorem afz {a:Addr} (h:a=⟨a.block,a.off,none⟩) (i:Nat):a.add i=⟨a.block,a.off+i,none⟩:=by rw[h];exact wu _ _ _
section
variable {H:Type} {enc:TypeId×Value->H} {P:Program} {w:World} {held:Bool}
end
end
theorem GX (a b c:Int) (w:World):bC Tryz.prog 66 [.int .i64 a,.int .i64 b,.int .i64 c] w λv w'=>v= .bool (decide (b<=a)&&decide (a<=c))∧w=w':=by
 refine cj [.tmp 6] 15 Tryz.func66 rfl adK rfl rfl ?_
 refine W ?_
 apply oB 4 10 14 rfl oQ
 intro _
 exact oQ
 intro xx
 refine W ?_
 exact⟨_,rfl,rfl,rfl⟩
theorem afA (c:UInt8) (w:World):bC Tryz.prog 110 [.int .u8 c.toNat] w λv w'=>v= .bool (eV c)∧w=w':=by
 refine cj [.tmp 2] 33 Tryz.func110 rfl abK rfl rfl ?_
 refine W ?_
 apply oB 3 5 8 rfl oQ
 intro _
 exact oQ
 intro xx
 refine WZ ?_
 apply oP 7 9 16 rfl oQ
 intro _
 refine WZ ?_
 apply oB 3 12 15 rfl oQ
 intro _
 exact oQ
 intro xx
 exact oQ
 intro xx
 refine WZ ?_
 apply oP 3 17 20 rfl oQ
 intro _
 exact oQ
 intro xx
 refine WZ ?_
 apply oP 3 21 24 rfl oQ
 intro _
 exact oQ
 intro xx
 refine WZ ?_
 apply oP 3 25 28 rfl oQ
 intro _
 exact oQ
 intro xx
 refine WZ ?_
 apply oP 3 29 32 rfl oQ
 intro _
 exact oQ
 intro xx
 refine W ?_
 exact⟨_,rfl,congrArg Value.bool (Rb c),rfl⟩
def afB (L:List Nat) (s:aj) (d i:Nat) (v:Value) (w:World):Prop:=
 ∃t tv en,v= .tuple #[tv,.int .i64 en]∧bh L w tv t∧Cn s.length (rT d (s.drop i)) t en
theorem afC (s:aj) (hs:s.length<=12000):∀(d i:Nat) (L:List Nat) (w:World),d<=61->i<=s.length->(∀x,x∈L->x<w.heap.size)->
  bC Tryz.prog 72 [str s,.int .i64 (i:Int),.int .i64 ((61:Int)-(d:Int))] w λv w'=>afB L s d i v w'∧ak [] w w':=by
 intro d
 induction d with
 |zero=>
  intro i L w hd hi hL
  have hK:=ak.refl [] w
  refine j1 [.cell 6 74,.tmp 7] 87 Tryz.func72 rfl Jn rfl rfl rfl ?_
  refine zr<|da aK rfl rfl rfl λw1 aI bK di=>?_
  have hK:=hK.grow;have hK:=hK.ext aI
  refine zA<|aV<|zr<|iT (El _) rfl rfl<|da aK rfl rfl rfl λw2 az cz dK=>?_
  have hK:=hK.grow;have hK:=hK.ext az;have bK:=bK.grow;have bK:=bK.ext az
  refine cu aK rfl rfl rfl cz rfl λw3 aH cz fS=>?_
  have hK:=hK.aD aH sx;have bK:=bK.aD aH sx
  refine aV<|jV<|zr<|zm<|FX rfl rfl rfl rfl rfl<|zm ?_
  apply Ce 5 15 20 [15,16,17,18,19,20] (λw'=>w3=w') rfl
  intro h1
  replace h1:=jy h1
  refine W ?_
  exact mg rfl rfl
  intro h1
  replace h1:=jy h1
  refine W ?_
  exact mg rfl rfl
  rintro xx _ rfl
  refine aV<|zc rfl (λh2=>?_) (λh2=>?_)
  refine W ?_
  refine cu aK rfl rfl rfl bK rfl λw4 aN bK ga=>?_
  have hK:=hK.aD aN sx
  refine W ?_
  exact⟨[_,_],⟨fB eK aK rfl bK rfl,rfl⟩,⟨.mk [] [],_,_,rfl,km nM,rfl⟩,hK⟩
  exfalso
  simp at h2
 |succ d ih=>
  intro i L w hd hi hL
  have hK:=ak.refl [] w
  by_cases mG:i<s.length
  ·have CL:=drop_cons (jt mG)
   have Ua:=Gc eV (s.drop i)
   rw[List.length_drop] at Ua
   refine j1 [.cell 6 74,.tmp 7] 87 Tryz.func72 rfl Jn rfl rfl rfl<|zr<|da aK rfl rfl rfl λw1 aI bK di=>?_
   have hK:=hK.grow;have hK:=hK.ext aI
   refine zA<|aV<|zr<|iT (El _) rfl rfl<|da aK rfl rfl rfl λw2 az cz dK=>?_
   have hK:=hK.grow;have hK:=hK.ext az;have bK:=bK.grow;have bK:=bK.ext az
   refine cu aK rfl rfl rfl cz rfl λw3 aH cz fS=>?_
   have hK:=hK.aD aH sx;have bK:=bK.aD aH sx
   refine W ?_
   apply oP 5 15 20 rfl oQ
   intro _
   exact oQ
   intro xx
   refine aV<|zc rfl (λh2=>?_) (λh2=>?_)
   exfalso
   simp at h2
   omega
   refine W ?_
   refine kl iG rfl rfl rfl rfl (jt mG)<|IW rfl rfl rfl rfl rfl<|aV<|zc rfl (λh3=>?_) (λh3=>?_)
   have dY:s.getD i 0≠40:=λh=>h3 (by rw[h];rfl)
   refine W ?_
   refine eO (λk:Nat=>[(0,str s),(1,.int .i64 (k:Int)),(6,.pointer (some ⟨w.heap.size,0,none⟩)),(8,.pointer (some ⟨w1.heap.size,0,none⟩)),(9,.int .i64 (i:Int))]) (λk w'=>w'=w3∧i<=k∧k-i<=((s.drop i).takeWhile eV).length) (λk=>s.length-k) i (⟨rfl,rfl,rfl,rfl,rfl⟩) (⟨rfl,lR _,om⟩) λgg w4 e4 hI=>?_
   obtain⟨rfl,uY,EH⟩:=hI
   have GY:=ZL s uY EH
   refine WZ ?_
   apply oB 5 31 36 rfl oQ
   intro h4
   refine zm<|zm<|kl iG rfl rfl rfl rfl (jt om)<|aA (afA _ _) ?_
   rintro _ _ ⟨rfl,rfl⟩
   exact oQ
   intro xx
   refine aV<|zc rfl (λh5=>?_) (λh5=>?_)
   have et:=GY.2 (by simpa using h5)
   refine W ?_
   exact⟨gg+1,⟨rfl,rfl,rfl,rfl,rfl⟩,⟨rfl,om,om⟩,om⟩
   have GZ:gg-i=((s.drop i).takeWhile eV).length:=Nat.le_antisymm EH (Nat.le_of_not_lt (λhh=>by have hx:=GY.1 hh;rw[hx.2,Bool.and_true,decide_eq_false_iff_not] at h5;omega))
   refine W ?_
   refine Cd iG rfl rfl rfl (.inr ⟨_,rfl⟩) (.inr ⟨_,rfl⟩) om om<|zf lF rfl<|gF bm rfl rfl rfl cz rfl λw5 aJ cz iq=>?_
   have hK:=hK.aD aJ sx;have bK:=bK.aD aJ sx
   refine W ?_
   refine zc rfl (λh6=>?_) (λh6=>?_)
   have hR:rT (d+1) (s.drop i)=none:=by rw[GZ,I4] at h6;show eE d _=none;rw[CL,Ge _ _ _ dY,<-CL,iP h6]
   refine W ?_
   refine cu aK rfl rfl rfl bK rfl λw6 bB bK jR=>?_
   have hK:=hK.aD bB sx
   refine W ?_
   exact⟨[_,_],⟨fB eK aK rfl bK rfl,rfl⟩,⟨.mk _ [],_,_,rfl,km nM,by rw[hR];rfl⟩,hK⟩
   have hR:rT (d+1) (s.drop i)=some (.mk ((s.drop i).takeWhile eV) [],(s.drop i).dropWhile eV):=by rw[GZ,I4] at h6;show eE d _=_;rw[CL,Ge _ _ _ dY,<-CL,iN h6]
   refine W ?_
   refine cu aK rfl rfl rfl bK rfl λw6 bB bK jR=>?_
   have hK:=hK.aD bB sx
   refine zA<|aV<|kj<|⟨[_,_],⟨fB eK aK rfl bK rfl,rfl⟩,⟨.mk _ [],_,_,rfl,km nM,?_⟩,hK⟩
   rw[hR]
   refine⟨by rw[GZ,I4],?_⟩
   rw[Gb,List.length_drop,List.length_drop]
   show(gg:Int)=_
   omega
   have Nx:s.getD i 0=40:=UInt8.toNat_inj.1 (by have CM:(40:UInt8).toNat=40:=rfl;rw[CM];omega)
   refine WZ ?_
   refine eO (λq:List aq×Nat×Option Addr×Nat×Option Nat×List Value=>[(0,str s),(1,.int .i64 (q.2.1:Int)),(2,.int .i64 ((61:Int)-((d+1:Nat):Int))),(6,.pointer (some ⟨w.heap.size,0,none⟩)),(8,.pointer (some ⟨w1.heap.size,0,none⟩))]) (λq w'=>ak [] w w'∧aL w' w.heap.size [str [],.slice none 0 0].toArray 74∧aL w' w1.heap.size [str [],.slice q.2.2.1 q.1.length q.2.2.2.1].toArray 74∧gS (w.heap.size::w1.heap.size::L) w' 74 2 (.slice q.2.2.1 q.1.length q.2.2.2.1) q.2.2.2.2.1 (cQ q.1) q.2.2.2.2.2∧(∀b,q.2.2.2.2.1=some b->w.heap.size<=b)∧q.2.1<s.length∧i<=q.2.1∧q.1.length<=q.2.1∧w1.heap.size<w'.heap.size∧mN d (s.drop (i+1))=(mN d (s.drop (q.2.1+1))).map (λp=>(q.1++p.1,p.2))) (λq=>s.length-q.2.1) (([],i,none,0,none,[])) (⟨rfl,rfl,rfl,rfl,rfl⟩) (⟨hK,bK,cz,gS.nil _ _ _ _,sm,mG,lR _,sm,om,sm⟩) λgg w4 e4 hI=>?_
   obtain⟨acc,k,a,cc,g,xs⟩:=gg
   dsimp only at hI⊢
   obtain⟨hK,bK,cz,hO,hg,hk,uY,hak,yx,sW⟩:=hI
   have hLx:∀x,x∈g.toList++(w.heap.size::w1.heap.size::L)->x<w4.heap.size:=by intro x hx;simp at hx;rcases hx with hx|rfl|rfl|hx;exact hO.own.lt x hx;omega;omega;have h1:=hL x hx;have h2:=hK.size;omega
   refine WA ?_
   refine Bb ?_
   refine zm<|o3 rfl rfl rfl rfl rfl (show IntKind.i64.wrap ((61:Int)-((d+1:Nat):Int)+1)=(61:Int)-(d:Int) by rw[wrap_i64 _ om om];omega)<|aA (ih (k+1) (g.toList++(w.heap.size::w1.heap.size::L)) w4 om om hLx) ?_
   rintro v5 w5 ⟨CN,aJ⟩
   have mn:=aJ.size
   refine gH aJ hK bK cz hO λhK bK cz hO=>?_
   obtain⟨t,tv,en,rfl,ht,hm⟩:=CN
   obtain⟨pa,pn,pc,rfl,dZ,aQ⟩:=cS ht
   subst dZ
   refine W ?_
   refine da aK rfl rfl rfl λw6 bB kD jR=>?_
   have hK:=hK.grow;have hK:=hK.ext bB;have bK:=bK.grow;have bK:=bK.ext bB;have cz:=cz.grow;have cz:=cz.ext bB;have hO:=hO.alloc bB jR;have ht:=ht.grow;have ht:=ht.ext bB
   refine cu aK rfl rfl rfl kD rfl λw7 bJ kD l4=>?_
   have hK:=hK.aD bJ sx;have bK:=bK.aD bJ sx;have cz:=cz.aD bJ sx;have hO:=hO.aD bJ sx;have ht:=ht.aD bJ sx
   refine W ?_
   apply oP 5 61 66 rfl oQ
   intro _
   exact oQ
   intro xx
   refine aV<|zc rfl (λh8=>?_) (λh8=>?_)
   have hR:rT (d+1) (s.drop i)=none:=by show eE d _=none;rw[CL,Nx,Ee,sW,ZM hm (by simpa using h8) om];rfl
   refine W ?_
   refine cu aK rfl rfl rfl bK rfl λw8 aU bK kV=>?_
   have hK:=hK.aD aU sx;have hO:=hO.aD aU sx
   refine W ?_
   exact⟨[_,_],⟨fB eK aK rfl bK rfl,rfl⟩,⟨.mk [] acc,_,_,rfl,km (hO.done.weaken (λx hx=>by simp[hx])),by rw[hR];rfl⟩,hK⟩
   simp at h8
   obtain⟨m,rfl,Ra,Ny,fG⟩:=ZN hm h8.1 om
   refine W ?_
   refine fo cw aK rfl rfl λw8 aU afE kV=>ld aU hK bK cz hO ht λhK bK cz hO ht=>?_
   refine Rj cw aK rfl rfl rfl rfl rfl hO (o5 t) afE.all (by simp[Value.oneCell']) (ht.ji.fresh (λx hx=>.inl (Rg x hx))) ?_ ?_ ?_
   intro x hx;simp at hx;rcases hx with rfl|rfl|rfl|hx;(·omega);(·omega);(·omega);(·have h1:=hL x hx;have h2:=hK.size;omega)
   rw[gK];omega
   intro a2 mo g2 w9 fW aC jc
   have e1:(cQ acc).length+1=(acc++[t]).length:=by simp[gK]
   have e2:cQ acc++[t.enc]=cQ (acc++[t]):=by simp[Mf,cQ]
   rw[e1] at fW⊢
   rw[e2] at fW
   have df:=aC.size
   have hg3:∀b,g2=some b->w.heap.size<=b:=by intro b hb;rcases jc with h|h;(·rw[h] at hb;exact hg b hb);(·rw[h] at hb;cases hb;omega)
   have hK:=hK.aD aC (λx hx=>.inr (hg x (by simpa using hx)));have bK:=bK.aD aC (hO.sep sm);have cz:=cz.aD aC (hO.sep sm)
   refine zf ja rfl<|gF Cx rfl rfl rfl cz rfl λcB cA cz CP=>?_
   have hK:=hK.aD cA sx;have bK:=bK.aD cA sx;have fW:=fW.aD cA sx
   refine W ?_
   refine kl iG rfl rfl rfl rfl (jt Ny)<|wv rfl rfl rfl rfl rfl<|aV<|zc rfl (λh9=>?_) (λh9=>?_)
   have Be:s.getD m 0=41:=UInt8.toNat_inj.1 (by have CM:(41:UInt8).toNat=41:=rfl;rw[CM];omega)
   have hR:rT (d+1) (s.drop i)=some (.mk [] (acc++[t]),s.drop (m+1)):=by show eE d _=_;rw[CL,Nx,Ee,sW,fG,iP Be];rfl
   refine W ?_
   refine cu aK rfl rfl rfl bK rfl λeC dh bK uh=>?_
   have hK:=hK.aD dh sx;have fW:=fW.aD dh sx
   refine W ?_
   exact⟨[_,_],⟨fB eK aK rfl bK rfl,rfl⟩,⟨.mk [] (acc++[t]),_,_,rfl,km (fW.done.weaken (λx hx=>by simp[hx])),by rw[hR];exact⟨rfl,by rw[List.length_drop];omega⟩⟩,hK⟩
   have Be:s.getD m 0≠41:=λh=>h9 (by rw[h];rfl)
   refine W ?_
   refine kl iG rfl rfl rfl rfl (jt Ny)<|IW rfl rfl rfl rfl rfl<|aV<|zc rfl (λgh=>?_) (λgh=>?_)
   have Nz:s.getD m 0≠32:=λh=>gh (by rw[h];rfl)
   have hR:rT (d+1) (s.drop i)=none:=by show eE d _=_;rw[CL,Nx,Ee,sW,fG,iN Be,iN Nz];rfl
   refine W ?_
   refine cu aK rfl rfl rfl bK rfl λeC dh bK uh=>?_
   have hK:=hK.aD dh sx;have fW:=fW.aD dh sx
   refine W ?_
   exact⟨[_,_],⟨fB eK aK rfl bK rfl,rfl⟩,⟨.mk [] (acc++[t]),_,_,rfl,km (fW.done.weaken (λx hx=>by simp[hx])),by rw[hR];rfl⟩,hK⟩
   have Nz:s.getD m 0=32:=UInt8.toNat_inj.1 (by have CM:(32:UInt8).toNat=32:=rfl;rw[CM];omega)
   refine WZ ?_
   exact⟨(acc++[t],m,a2,mo,g2,_),⟨rfl,rfl,rfl,rfl,rfl⟩,⟨hK,bK,cz,fW.more (by intro x hx;exact .inl (by simp at hx⊢;rcases hx with hx|hx|hx<;>simp[hx])),hg3,Ny,by dsimp only;omega,by simp;omega,om,by rw[sW,fG,iN Be,iP Nz,map_append]⟩,by dsimp only;omega⟩
  refine j1 [.cell 6 74,.tmp 7] 87 Tryz.func72 rfl Jn rfl rfl rfl<|zr<|da aK rfl rfl rfl λw1 aI bK di=>?_
  have hK:=hK.grow;have hK:=hK.ext aI
  refine zA<|aV<|zr<|iT (El _) rfl rfl<|da aK rfl rfl rfl λw2 az cz dK=>?_
  have hK:=hK.grow;have hK:=hK.ext az;have bK:=bK.grow;have bK:=bK.ext az
  refine cu aK rfl rfl rfl cz rfl λw3 aH cz fS=>?_
  have hK:=hK.aD aH sx;have bK:=bK.aD aH sx
  refine W ?_
  apply oP 5 15 20 rfl oQ
  intro _
  exact oQ
  intro xx
  refine aV<|zc rfl (λh2=>?_) (λh2=>?_)
  have hR:rT (d+1) (s.drop i)=none:=by rw[List.drop_of_length_le om];exact Re d
  refine W ?_
  refine cu aK rfl rfl rfl bK rfl λw4 aN bK ga=>?_
  have hK:=hK.aD aN sx
  refine W ?_
  exact⟨[_,_],⟨fB eK aK rfl bK rfl,rfl⟩,⟨.mk [] [],_,_,rfl,km nM,by rw[hR];rfl⟩,hK⟩
  exfalso
  simp at h2
  omega
theorem sX (s:aj) (L:List Nat) (w:World) (hL:∀x,x∈L->x<w.heap.size):
  bC Tryz.prog 42 [str s] w λv w'=>(∃t tv,v= .tuple #[tv,.bool (bA s).isSome]∧bh L w' tv t∧∀t',bA s=some t'->t=t')∧ak [] w w':=by
 have hK:=ak.refl [] w
 refine j1 [.cell 2 74,.tmp 3] 20 Tryz.func42 rfl SK rfl rfl rfl ?_
 refine zr<|da aK rfl rfl rfl λw1 aI aO di=>?_
 have hK:=hK.grow;have hK:=hK.ext aI
 refine W ?_
 refine zc rfl (λh1=>?_) (λh1=>?_)
 have hp:bA s=none:=by unfold bA;rw[iP om]
 refine zr<|iT (El _) rfl rfl<|cu aK rfl rfl rfl aO rfl λw2 az aO dK=>?_
 have hK:=hK.aD az sx
 refine W ?_
 exact⟨[_,_],⟨fB eK aK rfl aO rfl,rfl⟩,⟨.mk [] [],_,by rw[hp];rfl,km nM,λt' h=>by rw[hp] at h;cases h⟩,hK⟩
 refine gX<|zr<|zm<|aA (afC s om 61 0 (w.heap.size::L) w1 om om (by intro x hx;rcases mC.1 hx with rfl|hx;(·omega);(·have:=hL x hx;omega))) ?_
 rintro v2 w2 ⟨gP,az⟩
 have dz:=az.size
 refine bL az hK aO λhK aO=>?_
 obtain⟨t,tv,en,rfl,ht,hm⟩:=gP
 obtain⟨pa,pn,pc,rfl,dZ,aQ⟩:=cS ht
 refine W ?_
 refine da aK rfl rfl rfl λw3 aH aF fS=>?_
 have hK:=hK.grow;have hK:=hK.ext aH;have aO:=aO.grow;have aO:=aO.ext aH;have ht:=ht.grow;have ht:=ht.ext aH
 refine cu aK rfl rfl rfl aF rfl λw4 aN aF ga=>?_
 have hK:=hK.aD aN sx;have aO:=aO.aD aN sx;have ht:=ht.aD aN sx
 refine W ?_
 refine cu aK rfl rfl rfl aO rfl λw5 aJ aO iq=>?_
 have hK:=hK.aD aJ sx;have ht:=ht.aD aJ sx
 refine W ?_
 have Es:=ZO om hm
 exact⟨[_,_],⟨fB eK aK rfl aO rfl,rfl⟩,⟨t,_,by rw[<-Es.1];rfl,jW.fresh ht (λx hx=>.inl (by simp[hx])),Es.2⟩,hK⟩
theorem Bf (t:aq) (v:Value) (L:List Nat) (w:World) (hv:bh L w v t):bC Tryz.prog 43 [v] w λr w'=>r=str (cH t)∧ak [] w w':=by
 obtain⟨a,n,c,rfl,hn,aQ⟩:=cS hv
 have hK:=ak.refl [] w
 refine cj [.tmp 2] 17 Tryz.func43 rfl adx rfl rfl ?_
 refine zr<|ey rfl λw1 aI aT di=>bL aI hK aQ λhK aQ=>?_
 refine W ?_
 apply oP 5 6 11 rfl oQ
 intro _
 refine WZ ?_
 exact oQ
 intro xx
 refine aV<|zc rfl (λh2=>?_) (λh2=>?_)
 have hh:cH t=[]:=sF (by simp at h2;rcases h2 with h|h;(·exact .inl h);(·right;subst hn;simpa using h))
 refine W ?_
 exact⟨_,rfl,by rw[hh];rfl,hK⟩
 simp at h2
 have h0:=h2.2
 have aY:∃p0,t.ai[0]?=some p0:=⟨t.ai[0]'om,gE om⟩
 obtain⟨p0,mq⟩:=aY
 obtain⟨b,off,pa,pn,pc,rfl,eR,dZ,fG⟩:=fC aQ mq
 have hh:cH t=p0.av:=Ef h2.1 mq
 refine WI ?_
 refine zi (i:=0) cw aK rfl rfl (by rw[hn];exact(List.getElem?_eq_some_iff.1 mq).1) ?_
 refine W ?_
 exact⟨_,rfl,by rw[hh];rfl,hK⟩
theorem Ub (s:aj) (hs:s.length<9223372036854775807) (w:World):bC Tryz.prog 100 [str s] w λr w'=>r= .bool (mj s)∧w=w':=by
 refine cj [.tmp 2] 39 Tryz.func100 rfl abz rfl rfl ?_
 refine W ?_
 refine eO (λk:Nat=>[(0,str s),(3,.int .i64 (k:Int))]) (λk w'=>w'=w∧k<=s.length∧∀j,j<k->Ak s j=true) (λk=>s.length-k) (0) (⟨rfl,rfl⟩) (⟨rfl,om,by intro j hj;omega⟩) λgg w1 e1 hI=>?_
 obtain⟨rfl,hk,cZ⟩:=hI
 refine W ?_
 refine zc rfl (λh1=>?_) (λh1=>?_)
 refine W ?_
 refine kl iG rfl rfl rfl rfl (jt om)<|WZ ?_
 apply oB 5 14 19 rfl oQ
 intro h2
 refine zm<|zm<|kl iG rfl rfl rfl rfl (jt om) ?_
 exact oQ
 intro xx
 refine WZ ?_
 apply oP 15 20 35 rfl oQ
 intro h3
 refine WZ ?_
 apply oB 5 23 28 rfl oQ
 intro h4
 refine zm<|zm<|kl iG rfl rfl rfl rfl (jt om) ?_
 exact oQ
 intro xx
 refine WZ ?_
 apply oB 5 29 34 rfl oQ
 intro h5
 refine zm<|zm<|kl iG rfl rfl rfl rfl (jt om) ?_
 exact oQ
 intro xx
 exact oQ
 intro xx
 refine jY rfl rfl rfl<|aV<|zc rfl (λh6=>?_) (λh6=>?_)
 rw[Ja] at h6
 refine W ?_
 exact⟨_,rfl,by rw[RA om h6];rfl,rfl⟩
 rw[Ja] at h6
 refine W ?_
 exact⟨gg+1,⟨rfl,rfl⟩,⟨rfl,om,RC cZ h6⟩,om⟩
 refine W ?_
 exact⟨_,rfl,by rw[RB (λj hj=>cZ j om)];rfl,rfl⟩
def Ha (s:aj):Value:=.tuple #[.int .i64 ((numeral s).getD 0),.bool (numeral s).isSome]
theorem JQ (s:aj) (w:World):bC Tryz.prog 170 [str s] w λv w'=>v=Ha s∧w=w':=by
 refine cj [.tmp 2,.tmp 3] 57 Tryz.func170 rfl acz rfl rfl ?_
 refine W ?_
 apply oB 4 12 16 rfl oQ
 intro h1
 refine zm<|kl (i:=0) iG rfl rfl rfl rfl (jt om) ?_
 exact oQ
 intro xx
 refine W ?_
 refine iS (λ_:Unit=>[(0,str s),(4,.int .i64 (rj s)),(5,str (eH s))]) (λ_ w'=>w'=w) ?_ ?_
 refine zc rfl (λh2=>?_) (λh2=>?_)
 have hm:0<s.length∧s.getD 0 0=45:=by have Hb:=Rz 45 (s.getD 0 0);simp only[show((45:UInt8).toNat:Int)=45 from rfl] at Hb;rw[Hb] at h2;simpa using h2
 refine W ?_
 refine Cd (l:=1) iG rfl rfl rfl (.inr ⟨_,rfl⟩) (.inl ⟨rfl,rfl⟩) om om<|zA<|aV ?_
 exact⟨(),⟨rfl,by rw[rj,iP hm];rfl,by have h1:eH s=(s.drop 1).take (s.length-1):=by{rw[eH,iP hm,List.take_of_length_le sm]};rw[h1];exact rfl⟩,rfl⟩
 have hm:¬(0<s.length∧s.getD 0 0=45):=by have Hb:=Rz 45 (s.getD 0 0);simp only[show((45:UInt8).toNat:Int)=45 from rfl] at Hb;rw[Hb] at h2;simpa using h2
 refine WZ ?_
 exact⟨(),⟨rfl,by rw[rj,iN hm];rfl,by rw[eH,iN hm];exact rfl⟩,rfl⟩
 intro gu w1 e1 hI
 obtain rfl:=hI
 refine W ?_
 refine zc rfl (λh3=>?_) (λh3=>?_)
 have hn:numeral s=some 0:=by unfold numeral;rw[iP h3]
 refine W ?_
 exact⟨_,rfl,by unfold Ha;rw[hn];rfl,rfl⟩
 have ov:=h3
 refine W ?_
 refine aA (GX _ _ _ _) ?_
 rintro _ _ ⟨rfl,rfl⟩
 refine WZ ?_
 apply oP 4 25 29 rfl oQ
 intro h4
 simp at h4
 refine zm<|kl (i:=0) iG rfl rfl rfl rfl (jt om) ?_
 exact oQ
 intro xx
 refine aV<|zc rfl (λh5=>?_) (λh5=>?_)
 have hn:numeral s=none:=ZX ov (Z1 h5)
 refine W ?_
 exact⟨_,rfl,by unfold Ha;rw[hn];rfl,rfl⟩
 have hd:=Z2 h5
 refine W ?_
 refine eO (λk:Nat=>[(4,.int .i64 (rj s)),(5,str (eH s)),(6,.int .i64 (val ((eH s).take k):Nat)),(7,.int .i64 (k:Int))]) (λk w'=>w'=w1∧k<=(eH s).length∧((eH s).take k).all gZ=true) (λk=>(eH s).length-k) (0) (⟨rfl,rfl,rfl,rfl⟩) (⟨rfl,om,sm⟩) λgg w2 e2 hI=>?_
 obtain⟨rfl,hk,cZ⟩:=hI
 refine W ?_
 refine zc rfl (λh6=>?_) (λh6=>?_)
 have et:gg<(eH s).length:=by omega
 have hv:=Ry _ cZ
 have gP:val ((eH s).take gg)<100:=lL hv (Nat.le_trans (Nat.pow_le_pow_right om (show((eH s).take gg).length<=2 by simp;omega)) de)
 clear hv
 refine W ?_
 refine kl iG rfl rfl rfl rfl (jt et)<|WZ ?_
 apply oP 5 40 45 rfl oQ
 intro _
 refine zm<|zm<|kl iG rfl rfl rfl rfl (jt et) ?_
 exact oQ
 intro xx
 refine aV<|zc rfl (λh8=>?_) (λh8=>?_)
 have hn:numeral s=none:=ZY ov et (RE h8)
 refine W ?_
 exact⟨_,rfl,by unfold Ha;rw[hn];rfl,rfl⟩
 have hc:=RF h8
 have bM:=hc.1
 have bZ:=hc.2.1
 refine W ?_
 refine kl iG rfl rfl rfl rfl (jt et)<|xX rfl rfl rfl rfl rfl (wrap_u8 _ om om)<|xZ yl wO rfl rfl rfl (wrap_i64 _ om om)<|W ?_
 exact⟨gg+1,⟨rfl,rfl,by rw[Mj et,Rx];show Value.int _ _=Value.int _ _;congr 1;omega,rfl⟩,⟨rfl,om,by rw[Mj et,List.all_append,cZ];simp only[List.all_cons,hc.2.2];rfl⟩,om⟩
 have fH:(eH s).take gg=eH s:=List.take_of_length_le om
 rw[fH] at cZ
 have hv:=Ry _ cZ
 have gP:val (eH s)<1000:=lL hv (Nat.le_trans (Nat.pow_le_pow_right om hd.2.1) de)
 clear hv
 rw[fH]
 have df:=Z0 s
 have hmul: -1000<rj s*(val (eH s):Int)∧rj s*(val (eH s):Int)<1000:=by rcases df with h|h<;>rw[h]<;>omega
 refine W ?_
 exact⟨_,rfl,by unfold Ha;rw[ZZ ov hd cZ];rfl,rfl⟩
theorem afG (t:aq) (v:Value) (L:List Nat) (w:World) (hv:bh L w v t):bC Tryz.prog 203 [v] w λr w'=>r= .int .i64 (Am t.av)∧ak [] w w':=by
 obtain⟨a,n,c,rfl,hn,aQ⟩:=cS hv
 have hK:=ak.refl [] w
 refine cj [.tmp 2] 19 Tryz.func203 rfl ac1 rfl rfl ?_
 refine zr<|ey rfl λw1 aI aT di=>?_
 have hK:=hK.ext aI
 refine W ?_
 refine aA (JQ _ _) ?_
 rintro _ _ ⟨rfl,rfl⟩
 refine W ?_
 apply oP 4 13 17 rfl oQ
 intro _
 refine zm<|aA (GX _ _ _ _) ?_
 rintro _ _ ⟨rfl,rfl⟩
 exact oQ
 intro xx
 refine aV<|zc rfl (λh2=>?_) (λh2=>?_)
 have hr:Am t.av= -1:=by unfold Am;cases hn:numeral t.av with|none=>rfl|some k=>rw[hn] at h2;simp at h2;exact iN om
 refine W ?_
 exact⟨_,rfl,by rw[hr];rfl,hK⟩
 have hr:Am t.av=(numeral t.av).getD 0:=by unfold Am;cases hn:numeral t.av with|none=>rw[hn] at h2;simp at h2|some k=>rw[hn] at h2;simp at h2;exact iP om
 refine W ?_
 exact⟨_,rfl,by rw[hr];rfl,hK⟩
theorem NA:∀(m:Nat) (t:aq),t.size<=m->t.size<=100000->WF t->∀(hidden:Bool) (v:Value) (L:List Nat) (w:World),bh L w v t->
  bC Tryz.prog 138 [v,.bool hidden,.bool false] w λr w'=>r= .bool (fQ hidden t)∧ak [] w w':=by
 intro m
 induction m with
 |zero=>intro t h;cases t;simp[aq.size] at h
 |succ m ih=>
  intro t hm rq cF hidden v L w hv
  obtain⟨a,n,c,rfl,hn,aQ⟩:=cS hv
  have hK:=ak.refl [] w
  have lK:=mP t
  refine cj [.tmp 6] 72 Tryz.func138 rfl ab4 rfl rfl ?_
  refine zr<|ey rfl λw1 aI bU di=>bL aI hK aQ λhK aQ=>?_
  refine W ?_
  refine zc rfl (λh1=>?_) (λh1=>?_)
  refine WZ ?_
  apply oP 7 15 22 rfl oQ
  intro _
  refine WZ ?_
  apply oB 4 17 21 rfl oQ
  intro _
  refine WZ ?_
  exact oQ
  intro xx
  exact oQ
  intro xx
  refine WZ ?_
  apply oP 7 23 30 rfl oQ
  intro _
  refine zm<|zm<|F2 (t:=25) (b:=false) rfl ?_
  exact oQ
  intro xx
  refine W ?_
  exact⟨_,rfl,show Value.bool _=Value.bool _ from congrArg _ (by rw[RJ h1,Bool.or_false]),hK⟩
  have ha:t.av=[]:=Classical.not_not.1 h1
  have jS:=cF.pos ha
  have mq:=ej jS
  obtain⟨b,off,pa,pn,pc,rfl,eR,dZ,fG⟩:=fC aQ mq
  refine WI ?_
  refine zi (i:=0) cw aK rfl rfl (by rw[hn];exact jS)<|W ?_
  refine zc rfl (λh5=>?_) (λh5=>?_)
  refine WZ ?_
  apply oA 7 42 49 (ak [] w1) rfl oQ
  intro h6
  have hlen:t.ai.length=2:=by omega
  have qK:=ej (ps:=t.ai) (i:=1) om
  obtain⟨b1,eh,gT,rB,gU,aT,bM,sY,pw⟩:=fC aQ qK
  cases aT
  refine zf ja rfl<|zl ix rfl (bU.at rfl)<|zi (i:=1) cw aK rfl rfl om<|zL eK aK rfl bM rfl<|zm<|aA (ih (nth t.ai 1) (by have:=kB (t:=t) (i:=1) om;omega) (by have:=kB (t:=t) (i:=1) om;omega) (cF.nth om) true _ L w1 (jh pw)) ?_
  rintro _ w2 ⟨rfl,az⟩
  have dz:=az.size
  exact oQ
  intro xx w2 az
  have hK:=hK.ext az
  refine zA<|aV<|kj<|⟨_,rfl,show Value.bool _=Value.bool _ from congrArg _ ?_,hK⟩
  rw[Mm ha jS h5]
  congr 1
  exact decide_eq_decide.2 om
  have dY:=h5
  refine WZ ?_
  apply oB 3 52 55 rfl oQ
  intro _
  exact oQ
  intro xx
  refine aV<|zc rfl (λh8=>?_) (λh8=>?_)
  have hb:=Mo ha jS dY (Z9 h8)
  refine W ?_
  exact⟨_,rfl,by rw[hb];rfl,hK⟩
  have vC:(nth t.ai 0).av=[116]∨(nth t.ai 0).av=[99]:=Z8 h8
  refine W ?_
  refine eO (λk:Nat=>[(3,.pointer (some ⟨w.heap.size,0,none⟩)),(1,.bool hidden),(2,.bool false),(8,.int .i64 (k:Int))]) (λk w'=>ak [] w w'∧ak [] w1 w'∧1<=k∧k<=t.ai.length∧(t.ai.drop 1).all (fQ hidden)=(t.ai.drop k).all (fQ hidden)) (λk=>t.ai.length-k) (1) (⟨rfl,rfl,rfl,rfl⟩) (⟨hK,ak.refl [] _,om,om,rfl⟩) λgg w2 e2 hI=>?_
  obtain⟨hK,aI,hk,gD,cZ⟩:=hI
  refine bL aI aQ bU λaQ bU=>?_
  refine W ?_
  refine zc rfl (λh9=>?_) (λh9=>?_)
  have hp:=ej (ps:=t.ai) (i:=gg) om
  obtain⟨b1,eh,gT,rB,gU,aT,bM,sY,pw⟩:=fC aQ hp
  cases aT
  refine W ?_
  refine aA (ih (nth t.ai gg) (by have:=kB (t:=t) (i:=gg) om;omega) (by have:=kB (t:=t) (i:=gg) om;omega) (cF.nth om) hidden _ L w2 (jh pw)) ?_
  rintro _ w3 ⟨rfl,aH⟩
  have eM:=aH.size
  refine bL aH hK aI λhK aI=>?_
  refine jY rfl rfl rfl<|aV<|zc rfl (λgh=>?_) (λgh=>?_)
  have hb:fQ hidden t=false:=by rw[Mn ha jS vC,cZ,RK om,gh];rfl
  refine W ?_
  exact⟨_,rfl,by rw[hb];rfl,hK⟩
  refine W ?_
  exact⟨gg+1,⟨rfl,rfl,rfl,rfl⟩,⟨hK,aI,om,om,by rw[cZ,RK om,gh];rfl⟩,om⟩
  have hb:fQ hidden t=true:=by rw[Mn ha jS vC,cZ,List.drop_of_length_le om];rfl
  refine W ?_
  exact⟨_,rfl,by rw[hb];rfl,hK⟩

theorem afH (t:aq) (hs:t.size<=100000) (cF:WF t) (z:Int) (v:Value) (L:List Nat) (w:World) (hv:bh L w v t):
  bC Tryz.prog 169 [v,.int .u8 z] w λr w'=>r= .bool (jk z t)∧ak [] w w':=by
 have cm:=hv
 obtain⟨a,n,c,rfl,hn,aQ⟩:=cS hv
 have hK:=ak.refl [] w
 have CQ:=qB t
 refine cj [.tmp 4] 39 Tryz.func169 rfl acy rfl rfl ?_
 refine zr<|ey rfl λw1 aI aO di=>bL aI hK cm λhK cm=>?_
 refine W ?_
 refine iS (λ_:Unit=>[(2,.pointer (some ⟨w.heap.size,0,none⟩)),(7,.int .u8 z),(8,.bool (decide (z=114)||decide (z=42)))]) (λ_ w'=>w'=w1) ?_ ?_
 refine zc rfl (λh1=>?_) (λh1=>?_)
 refine WZ ?_
 exact⟨(),⟨rfl,rfl,congrArg Value.bool (An h1)⟩,rfl⟩
 refine W ?_
 exact⟨(),⟨rfl,rfl,congrArg Value.bool (Ao h1)⟩,rfl⟩
 intro gu w2 e2 hI
 obtain rfl:=hI
 refine zc rfl (λh2=>?_) (λh2=>?_)
 have hc:=Ap h2
 refine W ?_
 refine aA (afG t _ L w2 cm) ?_
 rintro _ w3 ⟨rfl,aH⟩
 have eM:=aH.size
 have hK:=hK.ext aH
 refine W ?_
 exact⟨_,rfl,show Value.bool _=Value.bool _ from congrArg _ (by rw[jk,iP hc];rfl),hK⟩
 have hc:=Aq h2
 refine W ?_
 refine zc rfl (λh3=>?_) (λh3=>?_)
 have bM:=h3
 refine W ?_
 refine aA (JQ _ _) ?_
 rintro _ _ ⟨rfl,rfl⟩
 refine W ?_
 exact⟨_,rfl,show Value.bool _=Value.bool _ from congrArg _ (by rw[jk,iN hc,iP bM]),hK⟩
 have bM:=h3
 refine W ?_
 refine zc rfl (λh4=>?_) (λh4=>?_)
 have bZ:=h4
 refine W ?_
 refine aA (Ub _ om _) ?_
 rintro _ _ ⟨rfl,rfl⟩
 refine W ?_
 exact⟨_,rfl,show Value.bool _=Value.bool _ from congrArg _ (by rw[jk,iN hc,iN bM,iP bZ]),hK⟩
 have bZ:=h4
 refine W ?_
 refine zc rfl (λh5=>?_) (λh5=>?_)
 have dP:=h5
 refine W ?_
 refine aA (Bf t _ L w2 cm) ?_
 rintro _ w3 ⟨rfl,aH⟩
 have eM:=aH.size
 refine cO aH hK cm aO λhK cm aO=>?_
 refine WZ ?_
 apply oA 3 33 36 (ak [] w3) rfl oQ
 intro _
 refine W ?_
 refine aA (NA t.size t (lR _) hs cF false _ L w3 cm) ?_
 rintro _ w4 ⟨rfl,aN⟩
 have fg:=aN.size
 exact oQ
 intro xx w4 aN
 have hK:=hK.ext aN
 refine W ?_
 exact⟨_,rfl,show Value.bool _=Value.bool _ from congrArg _ (by rw[jk,iN hc,iN bM,iN bZ,iP dP]),hK⟩
 have dP:=h5
 refine W ?_
 refine aA (NA t.size t (lR _) hs cF false _ L w2 cm) ?_
 rintro _ w3 ⟨rfl,aH⟩
 have eM:=aH.size
 have hK:=hK.ext aH
 refine W ?_
 exact⟨_,rfl,show Value.bool _=Value.bool _ from congrArg _ (by rw[jk,iN hc,iN bM,iN bZ,iN dP]),hK⟩
theorem afI (h:aj) (w:World):bC Tryz.prog 168 [str h] w λr w'=>r=str (shapeOf h)∧w=w':=by
 refine cj [.tmp 2] 25 Tryz.func168 rfl acx rfl rfl ?_
 refine W ?_
 refine zc rfl (λh1=>?_) (λh1=>?_)
 have hc:=h1
 refine W ?_
 exact⟨_,rfl,show str _=str _ from congrArg _ (by rw[shapeOf,iP hc]),rfl⟩
 have hc:=h1
 refine W ?_
 refine iS (λ_:Unit=>[(3,str h),(6,.bool (decide (h=[109,111,118])||decide (h=[111,112,101,110])))]) (λ_ w'=>w'=w) ?_ ?_
 refine zc rfl (λh2=>?_) (λh2=>?_)
 refine WZ ?_
 exact⟨(),⟨rfl,congrArg Value.bool (An h2)⟩,rfl⟩
 refine W ?_
 exact⟨(),⟨rfl,congrArg Value.bool (Ao h2)⟩,rfl⟩
 intro gu w1 e1 hI
 obtain rfl:=hI
 refine zc rfl (λh3=>?_) (λh3=>?_)
 have bM:=Ap h3
 refine W ?_
 exact⟨_,rfl,show str _=str _ from congrArg _ (by rw[shapeOf,iN hc,iP bM]),rfl⟩
 have bM:=Aq h3
 refine W ?_
 refine iS (λ_:Unit=>[(3,str h),(9,.bool (decide (h=[97,100,100])||decide (h=[115,117,98])||decide (h=[109,117,108])))]) (λ_ w'=>w'=w1) ?_ ?_
 refine zc rfl (λh4=>?_) (λh4=>?_)
 refine WZ ?_
 exact⟨(),⟨rfl,congrArg Value.bool (RO h4)⟩,rfl⟩
 have fj:=h4
 refine W ?_
 refine zc rfl (λh5=>?_) (λh5=>?_)
 refine WZ ?_
 exact⟨(),⟨rfl,congrArg Value.bool (RP fj h5)⟩,rfl⟩
 refine W ?_
 exact⟨(),⟨rfl,congrArg Value.bool (RQ fj h5)⟩,rfl⟩
 intro gu w2 e2 hI
 obtain rfl:=hI
 refine zc rfl (λh6=>?_) (λh6=>?_)
 have bZ:=RR h6
 refine W ?_
 exact⟨_,rfl,show str _=str _ from congrArg _ (by rw[shapeOf,iN hc,iN bM,iP bZ]),rfl⟩
 have bZ:=RS h6
 refine W ?_
 refine zc rfl (λh7=>?_) (λh7=>?_)
 have dP:=h7
 refine W ?_
 exact⟨_,rfl,show str _=str _ from congrArg _ (by rw[shapeOf,iN hc,iN bM,iN bZ,iP dP]),rfl⟩
 have dP:=h7
 refine W ?_
 refine zc rfl (λh8=>?_) (λh8=>?_)
 have jJ:=h8
 refine W ?_
 exact⟨_,rfl,show str _=str _ from congrArg _ (by rw[shapeOf,iN hc,iN bM,iN bZ,iN dP,iP jJ]),rfl⟩
 have jJ:=h8
 refine W ?_
 refine iS (λ_:Unit=>[(3,str h),(17,.bool (decide (h=[108,97,98])||decide (h=[122,101,114,111])))]) (λ_ w'=>w'=w2) ?_ ?_
 refine zc rfl (λh9=>?_) (λh9=>?_)
 refine WZ ?_
 exact⟨(),⟨rfl,congrArg Value.bool (An h9)⟩,rfl⟩
 refine W ?_
 exact⟨(),⟨rfl,congrArg Value.bool (Ao h9)⟩,rfl⟩
 intro gu w3 e3 hI
 obtain rfl:=hI
 refine zc rfl (λgh=>?_) (λgh=>?_)
 have kt:=Ap gh
 refine W ?_
 exact⟨_,rfl,show str _=str _ from congrArg _ (by rw[shapeOf,iN hc,iN bM,iN bZ,iN dP,iN jJ,iP kt]),rfl⟩
 have kt:=Aq gh
 refine W ?_
 refine zc rfl (λpq=>?_) (λpq=>?_)
 have qL:=pq
 refine W ?_
 exact⟨_,rfl,show str _=str _ from congrArg _ (by rw[shapeOf,iN hc,iN bM,iN bZ,iN dP,iN jJ,iN kt,iP qL]),rfl⟩
 have qL:=pq
 refine W ?_
 refine iS (λ_:Unit=>[(3,str h),(22,.bool (decide (h=[106,117,109,112])||decide (h=[104,97,108,116])))]) (λ_ w'=>w'=w3) ?_ ?_
 refine zc rfl (λkS=>?_) (λkS=>?_)
 refine WZ ?_
 exact⟨(),⟨rfl,congrArg Value.bool (An kS)⟩,rfl⟩
 refine W ?_
 exact⟨(),⟨rfl,congrArg Value.bool (Ao kS)⟩,rfl⟩
 intro gu w4 e4 hI
 obtain rfl:=hI
 refine zc rfl (λpr=>?_) (λpr=>?_)
 have Bg:=Ap pr
 refine W ?_
 exact⟨_,rfl,show str _=str _ from congrArg _ (by rw[shapeOf,iN hc,iN bM,iN bZ,iN dP,iN jJ,iN kt,iN qL,iP Bg]),rfl⟩
 have Bg:=Aq pr
 refine W ?_
 exact⟨_,rfl,show str _=str _ from congrArg _ (by rw[shapeOf,iN hc,iN bM,iN bZ,iN dP,iN jJ,iN kt,iN qL,iN Bg]),rfl⟩
theorem Uc (t:aq) (hs:t.size<=100000) (cF:WF t) (v:Value) (L:List Nat) (w:World) (hv:bh L w v t):
  bC Tryz.prog 139 [v] w λr w'=>r= .bool (lz t)∧ak [] w w':=by
 have cm:=hv
 obtain⟨a,n,c,rfl,hn,aQ⟩:=cS hv
 have hK:=ak.refl [] w
 have CQ:=mP t
 have nV:=aad (cH t)
 refine cj [.tmp 2] 67 Tryz.func139 rfl ab5 rfl rfl ?_
 refine zr<|ey rfl λw1 aI aT di=>cO aI hK aQ cm λhK aQ cm=>?_
 refine W ?_
 refine aA (Bf t _ L w1 cm) ?_
 rintro _ w2 ⟨rfl,az⟩
 have dz:=az.size
 refine cO az hK aQ aT λhK aQ aT=>?_
 refine aA (afI _ _) ?_
 rintro _ _ ⟨rfl,rfl⟩
 refine W ?_
 refine zc rfl (λh1=>?_) (λh1=>?_)
 refine W ?_
 exact⟨_,rfl,by rw[Mr h1];rfl,hK⟩
 have dY:=h1
 refine WZ ?_
 apply oB 8 14 22 rfl oQ
 intro h2
 refine WZ ?_
 exact oQ
 intro xx
 refine WZ ?_
 apply oP 5 23 28 rfl oQ
 intro _
 refine WZ ?_
 exact oQ
 intro xx
 refine aV<|zc rfl (λh4=>?_) (λh4=>?_)
 have hb:=(RT hn).symm.trans h4
 refine W ?_
 exact⟨_,rfl,by rw[Ms hb];rfl,hK⟩
 have hb:=(RT hn).symm.trans h4
 have h2:=aac hb
 have tW:=Mq dY
 refine W ?_
 refine eO (λk:Nat=>[(1,.pointer (some ⟨w.heap.size,0,none⟩)),(3,str (shapeOf (cH t))),(4,.int .i64 (k:Int))]) (λk w'=>ak [] w w'∧ak [] w2 w'∧1<=k∧k<=t.ai.length∧∀i,i<k->1<=i->tT t i=true) (λk=>t.ai.length-k) (1) (⟨rfl,rfl,rfl⟩) (⟨hK,ak.refl [] _,om,om,by intro i hi h1;omega⟩) λgg w3 e3 hI=>?_
 obtain⟨hK,aI,hk,gD,cZ⟩:=hI
 refine bL aI aQ aT λaQ aT=>?_
 refine W ?_
 refine zc rfl (λh5=>?_) (λh5=>?_)
 have hp:=ej (ps:=t.ai) (i:=gg) om
 obtain⟨b,off,pa,pn,pc,rfl,hc,dZ,fG⟩:=fC aQ hp
 have lW:=List.length_pos_iff.2 dY
 refine WZ ?_
 apply kU du 14 (rA 36 14) (rA 36 14) [[],[0],[],[1,2],[3],[],[],[],[7],[6,8],[9],[5,10],[4,11],[12]] [It.v _,It.v _,It.v _,It.v _,It.v _,It.v _,It.v _,It.v _,It.v _,It.v _,It.v _,It.v _,It.v _,It.v (.bool (!tT t gg))] de rfl
 intro wd aB
 refine VA ?_
 refine vk aB (λx w4 aN=>?_) ?_
 refine ZU rfl rfl rfl rfl (show(if((shapeOf (cH t)).length:Int)<(gg:Int) then((shapeOf (cH t)).length:Int) else(gg:Int))=((min gg (shapeOf (cH t)).length:Nat):Int) from by split<;>omega) ?_
 exact pv
 refine vk aB (λx w4 aN=>?_) ?_
 refine xX rfl rfl rfl rfl rfl (show IntKind.i64.wrap (((min gg (shapeOf (cH t)).length:Nat):Int)-1)=((min gg (shapeOf (cH t)).length-1:Nat):Int) from by rw[wrap_i64 _ om om];omega) ?_
 exact pv
 refine vk aB (λx w4 aN=>?_) ?_
 refine kl iG rfl rfl rfl rfl (jt om) ?_
 exact pv
 refine vk aB (λx w4 aN=>?_) ?_
 have fG:=fG.ext aN
 refine aA (afH (nth t.ai gg) (by have:=kB (t:=t) (i:=gg) om;omega) (cF.nth om) _ _ L w4 (jh fG)) ?_
 rintro _ w5 ⟨rfl,aJ⟩
 have mn:=aJ.size
 exact pk aJ
 exact VZ
 intro x p7 j7
 refine bL j7 hK aI λhK aI=>?_
 change OW _ _ _ _ [] (aS (aR _ x _) (zZ 36 [_,_,_,_,_,_,_,_,_,_,_,_,_,_])) _
 refine aV<|zc rfl (λh6=>?_) (λh6=>?_)
 have hq:tT t gg=false:=by simpa using h6
 refine W ?_
 exact⟨_,rfl,by rw[aae om hk hq];rfl,hK⟩
 have hq:tT t gg=true:=by simpa using h6
 refine W ?_
 exact⟨gg+1,⟨rfl,rfl,rfl⟩,⟨hK,aI,om,om,by intro i hi h1;rcases Nat.lt_or_ge i gg with h|h;exact cZ i h h1;rw[show i=gg by omega];exact hq⟩,om⟩
 have aO:=aaf dY hb (λi hi=>cZ i om)
 have mq:=ej tW.2.1
 obtain⟨b,off,pa,pn,pc,rfl,eR,dZ,fG⟩:=fC aQ mq
 refine WI ?_
 refine zi (i:=0) cw aK rfl rfl (by rw[hn];exact tW.2.1)<|W ?_
 refine zc rfl (λh7=>?_) (λh7=>?_)
 have hg:cH t=[103,101,116]:=tW.2.2.trans h7
 have Bh:=aab hb hg
 have ui:=ej (ps:=t.ai) (i:=3) om
 obtain⟨b1,eh,gT,rB,gU,fX,bM,sY,pw⟩:=fC aQ ui
 cases fX
 refine zr<|zf ja rfl<|zl ix rfl (aT.at rfl)<|zi (i:=3) cw aK rfl rfl om<|zf lF rfl<|zl gv rfl (bM 0 _ rfl)<|aA (JQ _ _) ?_
 rintro _ _ ⟨rfl,rfl⟩
 refine W ?_
 exact⟨_,rfl,show Value.bool _=Value.bool _ from congrArg _ (by rw[aO,show decide (cH t≠[103,101,116])=false from dF (λh=>h hg),Bool.false_or]),hK⟩
 have hg:cH t≠[103,101,116]:=λh=>h7 (tW.2.2.symm.trans h)
 refine W ?_
 exact⟨_,rfl,by rw[aO,dT hg];rfl,hK⟩
theorem afJ (s:aj) (w:World):bC Tryz.prog 101 [str s] w λr w'=>r= .bool (sH s)∧ak [] w w':=by
 have hK:=ak.refl [] w
 refine cj [.tmp 2] 15 Tryz.func101 rfl abA rfl rfl ?_
 refine W ?_
 refine aA (sX s [] w sm) ?_
 rintro v1 w1 ⟨fK,aI⟩
 have df:=aI.size
 have hK:=hK.ext aI
 obtain⟨t,tv,rfl,ht,mr⟩:=fK
 obtain⟨pa,pn,pc,rfl,dZ,aQ⟩:=cS ht
 refine W ?_
 refine da aK rfl rfl rfl λw2 az bU dK=>?_
 have hK:=hK.grow;have hK:=hK.ext az;have ht:=ht.grow;have ht:=ht.ext az
 refine cu aK rfl rfl rfl bU rfl λw3 aH bU fS=>?_
 have hK:=hK.aD aH sx;have ht:=ht.aD aH sx
 refine W ?_
 apply oA 3 11 14 (ak [] w3) rfl oQ
 intro h1
 obtain⟨t',ou⟩:=Option.isSome_iff_exists.1 h1
 have yy:=mr t' ou
 have cF:=tS ou
 have fU:=Al ou
 rw[<-yy] at cF fU
 refine W ?_
 refine aA (NA t.size t (lR _) om cF false _ _ w3 ht) ?_
 rintro _ w4 ⟨rfl,aN⟩
 have fg:=aN.size
 exact oQ
 intro xx w4 aN
 have hK:=hK.ext aN
 refine W ?_
 exact⟨_,rfl,show Value.bool _=Value.bool _ from congrArg _ (Jb mr),hK⟩
theorem Hc (s:aj) (w:World):bC Tryz.prog 102 [str s] w λr w'=>r= .bool (sI s)∧ak [] w w':=by
 have hK:=ak.refl [] w
 refine cj [.tmp 2] 15 Tryz.func102 rfl abB rfl rfl ?_
 refine W ?_
 refine aA (sX s [] w sm) ?_
 rintro v1 w1 ⟨fK,aI⟩
 have df:=aI.size
 have hK:=hK.ext aI
 obtain⟨t,tv,rfl,ht,mr⟩:=fK
 obtain⟨pa,pn,pc,rfl,dZ,aQ⟩:=cS ht
 refine W ?_
 refine da aK rfl rfl rfl λw2 az bU dK=>?_
 have hK:=hK.grow;have hK:=hK.ext az;have ht:=ht.grow;have ht:=ht.ext az
 refine cu aK rfl rfl rfl bU rfl λw3 aH bU fS=>?_
 have hK:=hK.aD aH sx;have ht:=ht.aD aH sx
 refine W ?_
 apply oA 3 11 14 (ak [] w3) rfl oQ
 intro h1
 obtain⟨t',ou⟩:=Option.isSome_iff_exists.1 h1
 have yy:=mr t' ou
 have cF:=tS ou
 have fU:=Al ou
 rw[<-yy] at cF fU
 refine W ?_
 refine aA (Uc t om cF _ _ w3 ht) ?_
 rintro _ w4 ⟨rfl,aN⟩
 have fg:=aN.size
 exact oQ
 intro xx w4 aN
 have hK:=hK.ext aN
 refine W ?_
 exact⟨_,rfl,show Value.bool _=Value.bool _ from congrArg _ (Jb mr),hK⟩
theorem JR (s:aj) (w:World):bC Tryz.prog 103 [str s] w λr w'=>r= .bool (Eh s)∧ak [] w w':=by
 have hK:=ak.refl [] w
 refine cj [.tmp 2] 31 Tryz.func103 rfl abC rfl rfl ?_
 refine W ?_
 refine aA (sX s [] w sm) ?_
 rintro v1 w1 ⟨fK,aI⟩
 have df:=aI.size
 have hK:=hK.ext aI
 obtain⟨t,tv,rfl,ht,mr⟩:=fK
 obtain⟨pa,pn,pc,rfl,dZ,aQ⟩:=cS ht
 refine W ?_
 refine da aK rfl rfl rfl λw2 az bU dK=>?_
 have hK:=hK.grow;have hK:=hK.ext az;have ht:=ht.grow;have ht:=ht.ext az;have aQ:=aQ.grow;have aQ:=aQ.ext az
 refine cu aK rfl rfl rfl bU rfl λw3 aH bU fS=>?_
 have hK:=hK.aD aH sx;have ht:=ht.aD aH sx;have aQ:=aQ.aD aH sx
 refine W ?_
 apply oA 3 11 14 (ak [] w3) rfl oQ
 intro h1
 obtain⟨t',ou⟩:=Option.isSome_iff_exists.1 h1
 have yy:=mr t' ou
 have cF:=tS ou
 have fU:=Al ou
 rw[<-yy] at cF fU
 refine W ?_
 refine aA (Uc t om cF _ _ w3 ht) ?_
 rintro _ w4 ⟨rfl,aN⟩
 have fg:=aN.size
 exact oQ
 intro xx w4 aN
 refine cO aN hK aQ bU λhK aQ bU=>?_
 refine WZ ?_
 apply oB 15 15 30 rfl oQ
 intro h2
 simp only[aE] at h2
 have hq:=aag h2.2
 have mq:=ej hq
 obtain⟨b,off,yA,pn0,yB,rfl,eR,apm,fG⟩:=fC aQ mq
 refine WI ?_
 refine zi (i:=0) cw aK rfl rfl (by rw[dZ];exact hq)<|WZ ?_
 apply oP 7 22 29 rfl oQ
 intro _
 refine WI ?_
 refine zi (i:=0) cw aK rfl rfl (by rw[dZ];exact hq)<|WZ ?_
 exact oQ
 intro xx
 exact oQ
 intro xx
 refine W ?_
 exact⟨_,rfl,show Value.bool _=Value.bool _ from congrArg _ (by rw[Bool.and_assoc];exact Jb (f:=Jc) mr),hK⟩
theorem afK (bs:List Bk) (hb:bs.length<9223372036854775807) (l:aj) (v:Value) (L:List Nat) (w:World) (hv:mO L w v bs):
  bC Tryz.prog 65 [v,str l] w λr w'=>r= .int .i64 (o6 bs l)∧w=w':=by
 obtain⟨a,n,c,rfl,hn⟩:=Cp hv
 refine cj [.tmp 4] 20 Tryz.func65 rfl adJ rfl rfl ?_
 refine W ?_
 refine eO (λk:Nat=>[(0,.slice a n c),(1,str l),(5,.int .i64 (k:Int))]) (λk w'=>w'=w∧k<=bs.length∧∀i,i<k->(bN bs i).aM≠l) (λk=>bs.length-k) (0) (⟨rfl,rfl,rfl⟩) (⟨rfl,om,by intro i hi;omega⟩) λgg w1 e1 hI=>?_
 obtain⟨rfl,hk,cZ⟩:=hI
 refine W ?_
 refine zc rfl (λh1=>?_) (λh1=>?_)
 have hg:=rW (bs:=bs) (i:=gg) om
 obtain⟨b,off,a1,n1,c1,a2,n2,c2,rfl,hc,fj,eQ,df,dz⟩:=yg hv hg
 refine W ?_
 refine zc rfl (λh2=>?_) (λh2=>?_)
 have hf:=RU om cZ h2
 refine W ?_
 exact⟨_,rfl,by rw[hf];rfl,rfl⟩
 refine W ?_
 exact⟨gg+1,⟨rfl,rfl,rfl⟩,⟨rfl,om,by intro i hi;rcases Nat.lt_or_ge i gg with h|h;exact cZ i h;rw[show i=gg by omega];exact h2⟩,om⟩
 have hf:=aah (λi hi=>cZ i om)
 refine W ?_
 exact⟨_,rfl,by rw[hf];rfl,rfl⟩
theorem afL (k:Bk) (hl:k.aM.length<1000000000) (fj:k.bW.length<1000000000) (eQ:k.code.length<1000000000) (v:Value) (L:List Nat) (w:World) (hv:nN L w v k):
  bC Tryz.prog 64 [v] w λr w'=>r= .bool (kO k)∧ak [] w w':=by
 obtain⟨a1,n1,c1,a2,n2,c2,rfl,oH,kL,df,dz⟩:=yf hv
 have hK:=ak.refl [] w
 refine cj [.tmp 2] 65 Tryz.func64 rfl adI rfl rfl ?_
 refine zr<|ey rfl λw1 aI aT di=>cO aI hK df dz λhK df dz=>?_
 refine W ?_
 refine aA (Ub _ om _) ?_
 rintro _ _ ⟨rfl,rfl⟩
 refine WZ ?_
 apply oP 5 9 14 rfl oQ
 intro _
 refine WZ ?_
 exact oQ
 intro xx
 refine WZ ?_
 apply oP 6 15 21 rfl oQ
 intro _
 refine W ?_
 refine aA (GX _ _ _ _) ?_
 rintro _ _ ⟨rfl,rfl⟩
 exact oQ
 intro xx
 refine aV<|zc rfl (λh3=>?_) (λh3=>?_)
 rw[Jd oH kL] at h3
 have hb:=RV (b:=k) (RM h3)
 refine W ?_
 exact⟨_,rfl,by rw[hb];rfl,hK⟩
 rw[Jd oH kL] at h3
 have hb:(mj k.aM&&decide (k.bW.length<=40)&&(decide (1<=k.code.length)&&decide (k.code.length<=80)))=true:=RL h3
 refine W ?_
 refine eO (λi:Nat=>[(1,.pointer (some ⟨w.heap.size,0,none⟩)),(3,.int .i64 (i:Int))]) (λi w'=>ak [] w w'∧ak [] w1 w'∧i<=k.bW.length∧∀j,j<i->sH (cJ k.bW j)=true) (λi=>k.bW.length-i) (0) (⟨rfl,rfl⟩) (⟨hK,ak.refl [] _,om,by intro i hi;omega⟩) λgg w2 e2 hI=>?_
 obtain⟨hK,aI,hk,cZ⟩:=hI
 refine cO aI df dz aT λdf dz aT=>?_
 refine W ?_
 refine zc rfl (λh4=>?_) (λh4=>?_)
 have hg:=kM (xs:=k.bW) (i:=gg) om
 obtain⟨b,off,rfl,hc⟩:=pR df hg
 refine W ?_
 refine aA (afJ _ w2) ?_
 rintro _ w3 ⟨rfl,aH⟩
 have eM:=aH.size
 refine bL aH hK aI λhK aI=>?_
 refine jY rfl rfl rfl<|aV<|zc rfl (λh5=>?_) (λh5=>?_)
 have hq:=RW (b:=k) (i:=gg) om (by simpa using h5)
 refine W ?_
 exact⟨_,rfl,by rw[hq];rfl,hK⟩
 refine W ?_
 exact⟨gg+1,⟨rfl,rfl⟩,⟨hK,aI,om,by intro i hi;rcases Nat.lt_or_ge i gg with h|h;exact cZ i h;rw[show i=gg by omega];simpa using h5⟩,om⟩
 have NB:∀i,i<k.bW.length->sH (cJ k.bW i)=true:=λi hi=>cZ i om
 clear cZ aI hk
 refine W ?_
 refine eO (λi:Nat=>[(1,.pointer (some ⟨w.heap.size,0,none⟩)),(4,.int .i64 (i:Int))]) (λi w'=>ak [] w w'∧ak [] w2 w'∧i<=k.code.length∧∀j,j<i->rX k.code j=true) (λi=>k.code.length-i) (0) (⟨rfl,rfl⟩) (⟨hK,ak.refl [] _,om,by intro i hi;omega⟩) λgg w3 e3 hI=>?_
 obtain⟨hK,aI,hk,cZ⟩:=hI
 refine bL aI dz aT λdz aT=>?_
 refine W ?_
 refine zc rfl (λh6=>?_) (λh6=>?_)
 have hg:=kM (xs:=k.code) (i:=gg) om
 obtain⟨b,off,rfl,hc⟩:=pR dz hg
 refine W ?_
 refine Ez [43,44,45,46,47,48,49,50,51,52,53,54,55,56,57,58,59,60,61,62,63,64] [(64,.bool (!sI (cJ k.code gg)||(Eh (cJ k.code gg) !=decide ((gg:Int)=(n2:Int)-1))))] ?_ ?_
 rcases bE (!sI (cJ k.code gg)) with iX|iX
 apply kU du 22 (rA 43 22) (rA 43 22) [[],[0],[],[1,2],[3],[4],[5],[6],[7],[7,8],[7],[7,9,10],[7,11],[7,12],[7],[7],[7,15],[7,16],[7,17],[7,14,18],[7,13,19],[7,20]] [It.v _,It.v _,It.v _,It.v _,It.v _,It.v _,It.v _,It.v (.bool true),It.v _,It.v _,It.v _,It.v _,It.v _,It.v _,It.v _,It.v _,It.v _,It.v _,It.v _,It.v _,It.v _,It.v _] de rfl
 intro wd aB
 refine VA ?_
 refine vk aB (λx w4 aN=>?_) ?_
 refine aA (Hc _ w4) ?_
 rintro _ w5 ⟨rfl,aJ⟩
 have mn:=aJ.size
 exact pk aJ
 refine VA ?_
 refine vc (λx w4 aN=>?_) ?_
 refine WZ ?_
 exact pv (by exact congrArg Value.bool iX)
 exact VZ
 intro x p7 j7
 change OW _ _ _ _ [] (aS (aR _ x _) (zZ 43 [_,_,_,_,_,_,_,_,_,_,_,_,_,_,_,_,_,_,_,_,_,_])) _
 refine W ?_
 exact kE j7
 apply kU du 22 (rA 43 22) (rA 43 22) [[],[0],[],[1,2],[3],[4],[5],[6],[7],[7,8],[7],[7,9,10],[7,11],[7,12],[7],[7],[7,15],[7,16],[7,17],[7,14,18],[7,13,19],[7,20]] [It.v _,It.v _,It.v _,It.v _,It.v _,It.v _,It.v _,It.v (.bool false),It.v _,It.v _,It.v _,It.v _,It.v _,It.v _,It.v _,It.v _,It.v _,It.v _,It.v _,It.v _,It.v _,It.v _] de rfl
 intro wd aB
 refine VA ?_
 refine vk aB (λx w4 aN=>?_) ?_
 refine aA (Hc _ w4) ?_
 rintro _ w5 ⟨rfl,aJ⟩
 have mn:=aJ.size
 exact pk aJ
 refine VA ?_
 refine vc (λx w4 aN=>?_) ?_
 refine WZ ?_
 exact pv (by exact congrArg Value.bool iX)
 refine VA ?_
 refine vk aB (λx w4 aN=>?_) ?_
 refine aA (JR _ w4) ?_
 rintro _ w5 ⟨rfl,aJ⟩
 have mn:=aJ.size
 exact pk aJ
 exact VZ
 intro x p7 j7
 change OW _ _ _ _ [] (aS (aR _ x _) (zZ 43 [_,_,_,_,_,_,_,_,_,_,_,_,_,_,_,_,_,_,_,_,_,_])) _
 refine W ?_
 exact kE j7
 intro x p7 j7
 refine bL j7 hK aI λhK aI=>?_
 refine zc rfl (λh7=>?_) (λh7=>?_)
 rw[Mt kL om] at h7
 have hq:=RX (b:=k) (i:=gg) om (by simpa using h7)
 refine W ?_
 exact⟨_,rfl,by rw[hq];rfl,hK⟩
 rw[Mt kL om] at h7
 refine W ?_
 exact⟨gg+1,⟨rfl,rfl⟩,⟨hK,aI,om,by intro i hi;rcases Nat.lt_or_ge i gg with h|h;exact cZ i h;rw[show i=gg by omega];simpa using h7⟩,om⟩
 have hq:=RY hb NB (λi hi=>cZ i om)
 refine W ?_
 exact⟨_,rfl,by rw[hq];rfl,hK⟩
theorem NC (bs:List Bk) (hb:tU bs) (v:Value) (L:List Nat) (w:World) (hv:mO L w v bs):
  bC Tryz.prog 33 [v] w λr w'=>r= .bool (iB bs)∧ak [] w w':=by
 obtain⟨a,n,c,rfl,hn⟩:=Cp hv
 have hK:=ak.refl [] w
 have ir:=hb.1
 refine cj [.tmp 2] 45 Tryz.func33 rfl adp rfl rfl ?_
 refine W ?_
 refine eO (λi:Nat=>[(0,.slice a n c),(3,.int .i64 (i:Int))]) (λi w'=>ak [] w w'∧i<=bs.length∧∀j,j<i->kO (bN bs j)=true∧o6 bs (bN bs j).aM=(j:Int)) (λi=>bs.length-i) (0) (⟨rfl,rfl⟩) (⟨hK,om,by intro i hi;omega⟩) λgg w1 e1 hI=>?_
 obtain⟨hK,hk,cZ⟩:=hI
 have hv:=hv.ext hK
 refine W ?_
 refine zc rfl (λh1=>?_) (λh1=>?_)
 have hg:=rW (bs:=bs) (i:=gg) om
 obtain⟨b,off,a1,n1,c1,a2,n2,c2,rfl,hc,fj,eQ,df,dz⟩:=yg hv hg
 have mu:=hb.2 gg om
 refine W ?_
 refine aA (afL (bN bs gg) mu.1 mu.2.1 mu.2.2 _ _ w1 (wI df dz)) ?_
 rintro _ w2 ⟨rfl,az⟩
 have dz:=az.size
 refine cO az hK hv hc λhK hv hc=>?_
 refine WZ ?_
 apply oP 10 16 26 rfl oQ
 intro h2
 refine zm<|zm<|zm<|zi jH fD rfl rfl om<|zf MT rfl<|zl gv rfl (hc 0 _ rfl)<|aA (afK bs om _ _ _ _ hv) ?_
 rintro _ _ ⟨rfl,rfl⟩
 exact oQ
 intro xx
 refine aV<|zc rfl (λh3=>?_) (λh3=>?_)
 have hq:=RZ (bs:=bs) (i:=gg) om (λhh=>by rw[hh.1,hh.2] at h3;simp at h3)
 refine W ?_
 exact⟨_,rfl,by rw[hq];rfl,hK⟩
 simp only[Bool.or_eq_false_iff,Bool.not_eq_false',decide_eq_false_iff_not,ne_eq,Classical.not_not] at h3
 refine W ?_
 exact⟨gg+1,⟨rfl,rfl⟩,⟨hK,om,by intro i hi;rcases Nat.lt_or_ge i gg with h|h;exact cZ i h;rw[show i=gg by omega];exact h3⟩,om⟩
 have hq:=R0 (λi hi=>cZ i om)
 clear cZ
 refine W ?_
 refine aA (GX _ _ _ _) ?_
 rintro _ _ ⟨rfl,rfl⟩
 refine WZ ?_
 apply oB 6 30 36 rfl oQ
 intro h4
 simp at h4
 have h0:=rW (bs:=bs) (i:=0) om
 obtain⟨b,off,a1,n1,c1,a2,n2,c2,rfl,hc,fj,eQ,df,dz⟩:=yg hv h0
 refine zm<|zi (i:=0) jH fD rfl rfl om<|zf MT rfl<|zl gv rfl (hc 0 _ rfl) ?_
 exact oQ
 intro xx
 refine WZ ?_
 apply oB 7 37 44 rfl oQ
 intro h5
 simp at h5
 have h0:=rW (bs:=bs) (i:=0) om
 obtain⟨b,off,a1,n1,c1,a2,n2,c2,rfl,hc,fj,eQ,df,dz⟩:=yg hv h0
 subst fj
 refine zm<|zi (i:=0) jH fD rfl rfl om<|zf MU rfl<|zl vu rfl (hc 1 _ rfl) ?_
 exact oQ
 intro xx
 refine W ?_
 exact⟨_,rfl,show Value.bool _=Value.bool _ from congrArg _ (by rw[hq];exact aai hn (λ_=>rfl)),hK⟩
def fJ.enc (b:fJ):List C:=[.val (str b.aM),.sl 2 (cQ b.regs),.sl 2 (cQ b.code)]
def nW (L:List Nat) (w:World) (v:Value) (b:fJ):Prop:=jW L w v b.enc
theorem nW.ext {b:fJ} (h:nW L w v b) (k:ak [] w w'):nW L w' v b:=jW.ext h k
theorem nW.grow {b:fJ} (h:nW L w v b):nW (w.heap.size::L) w v b:=jW.fresh h yd
theorem nW.aD {b:fJ} (h:nW L w v b) (k:ak L' w w') (hL:∀x,x∈L'->x∈L):nW L w' v b:=jW.aG h (k.mono hL)
theorem nW.fV {b:fJ} (h:nW L w v b) (hL:∀x,x∈L'->x∈L):nW L' w v b:=jW.fresh h λx hx=>.inl (hL x hx)
theorem Ud {b:fJ} (h:dd L w vs b.enc):∃v1 v2,vs=[str b.aM,v1,v2]∧cX L w v1 b.regs∧cX L w v2 b.code:=by
 rw[fJ.enc] at h
 match vs,h with
 |[v0,v1,v2],h=>obtain⟨h0,h1,h2,_⟩:=h;cases h0;exact⟨v1,v2,rfl,h1,h2⟩
 |[],h=>exact h.elim
 |[_],h=>exact h.2.elim
 |[_,_],h=>exact h.2.2.elim
 |_::_::_::_::_,h=>exact h.2.2.2.elim
theorem EI {ts:List aq} (h:cX L w v ts):∃a c,v= .slice a ts.length c:=by grind [cX,rS,gK]
theorem Ue {b:fJ} (h:nW L w v b):∃a1 c1 a2 c2,v= .agg #[str b.aM,.slice a1 b.regs.length c1,.slice a2 b.code.length c2]∧
  cX L w (.slice a1 b.regs.length c1) b.regs∧cX L w (.slice a2 b.code.length c2) b.code:=by
 obtain⟨vs,rfl,hr⟩:=h
 obtain⟨v1,v2,rfl,h1,h2⟩:=Ud hr
 obtain⟨a1,c1,rfl⟩:=EI h1
 obtain⟨a2,c2,rfl⟩:=EI h2
 exact⟨a1,c1,a2,c2,rfl,h1,h2⟩
theorem ND {l:aj} {r c:List aq} {v1 v2:Value} (h1:cX L w v1 r) (h2:cX L w v2 c):nW L w (.agg #[str l,v1,v2]) ⟨l,r,c⟩:=
 ⟨[str l,v1,v2],rfl,.val _,h1,h2,trivial⟩
theorem nW.ji {x y:Value} {b:fJ} (h:nW L w (.agg #[x,y,z]) b):dd L w [x,y,z] b.enc:=by
 obtain⟨vs,he,hr⟩:=h
 have hv:vs=[x,y,z]:=by
  have:=congrArg (λv=>match v with|Value.agg x=>x.toList|_=>[]) he
  simpa using this.symm
 rw[<-hv];exact hr
def p8 (L:List Nat) (w:World) (v:Value) (ps:List fJ):Prop:=ck L w v (.sl 3 (ps.map fJ.enc))
theorem p8.ext (h:p8 L w v ps) (k:ak [] w w'):p8 L w' v ps:=ck.ext h k
theorem p8.fV {b:List fJ} (h:p8 L w v b) (hL:∀x,x∈L'->x∈L):p8 L' w v b:=ck.fresh h λx hx=>.inl (hL x hx)
theorem Uf:p8 L w (.slice none 0 0) []:=.nil _ _ _
theorem Ug (h:p8 L w v ps):∃a c,v= .slice a ps.length c:=by grind [p8,rS]
theorem NF {a:Option Addr} {c:Nat} {k:fJ} (h:p8 L w (.slice a n c) ps) (hi:ps[i]?=some k):
  ∃b off a1 c1 a2 c2,a=some ⟨b,off,none⟩∧gJ w b (off+i*3) [str k.aM,.slice a1 k.regs.length c1,.slice a2 k.code.length c2]∧cX L w (.slice a1 k.regs.length c1) k.regs∧cX L w (.slice a2 k.code.length c2) k.code:=by
 obtain⟨b,off,vs,ha,hb,hL,hl,hc,hr⟩:=z8 h (show(ps.map fJ.enc)[i]?=some k.enc by simp[hi])
 obtain⟨v1,v2,rfl,h1,h2⟩:=Ud hr
 obtain⟨a1,c1,rfl⟩:=EI h1
 obtain⟨a2,c2,rfl⟩:=EI h2
 exact⟨b,off,a1,c1,a2,c2,ha,hc,h1,h2⟩
theorem Gr.prog {T:TypeId} {g:Option Nat} (h:Gr B L w T 3 v g (ps.map fJ.enc)):p8 L w v ps:=h.done
section
variable {P:Program} {n:Nat} {ops:Array Oper} {K:Env->World->Prop} {rest:List Oper} {e:Env} {w:World}
 {dst:Option Nat} {ty:TypeId} {pos:String} {after:Array Edge} {g:Option (Nat×Bool)} {x y:Operand}
theorem afM {B:Nat} {L:List Nat} {t:Nat} {v u1 u2 u3:Value} {gb:Option Nat} {ts:List fJ} {f:fJ} {b U:Nat} (hT:P.underlying t=some (.slice E)) (hE:TI P E 3 bytes z) (hg:gate ops e g=true) (hd:cC n dst=true) (hz:Nat.beq z.cells.size 3=true) (gm:Nat.ble bytes 1000=true) 
  (hx:ev e x=v) (hy:ev e y= .slice (some ⟨b,0,none⟩) 1 1) (hO:Gr B L w E 3 v gb (ts.map fJ.enc)) (hb:aL w b [u1,u2,u3].toArray U)
  (hr:nW (gb.toList++L) w (.agg #[u1,u2,u3]) f) (hn:ts.length<100000000)
  (k:∀a' cap' g' w',Gr B L w' E 3 (.slice a' (ts++[f]).length cap') g' ((ts++[f]).map fJ.enc)->ak gb.toList w w'->OW P n ops K rest (bY e dst (.slice a' (ts++[f]).length cap')) w'):
  OW P n ops K (⟨dst,.call {callee:=.builtin .append,args:=#[x,y],argTypes:=#[t,t]},ty,pos,after,g⟩::rest) e w:=by
 refine Gi hT hE hg hd hz gm hx hy hO hb rfl ?_ hr.ji (by simpa using hn) ?_
 ·rw[List.all_eq_true]
  refine λu hu=>dd.Gf hr.ji (λc hc v hv=>?_) u hu
  rw[fJ.enc] at hc
  simp only[mC,List.not_mem_nil,or_false] at hc
  rcases hc with h|h|h
  ·rw[h] at hv;cases hv;rfl
  ·rw[h] at hv;cases hv
  ·rw[h] at hv;cases hv
 ·intro a' cap' g' w' jj hk
  have e1:(ts.map fJ.enc).length+1=(ts++[f]).length:=by simp
  have e2:ts.map fJ.enc++[f.enc]=(ts++[f]).map fJ.enc:=by simp
  rw[e1] at jj⊢
  rw[e2] at jj
  exact k a' cap' g' w' jj hk
end
theorem r6:∀(m:Nat) (t:aq),t.size<=m->WF t->t.size<=100000000->t.text.length<=100000000->∀(v:Value) (L:List Nat) (w:World),bh L w v t->
  bC Tryz.prog 106 [v] w λr w'=>r=str t.text∧ak [] w w':=by
 intro m
 induction m with
 |zero=>intro t h cF;have:=Mv cF;omega
 |succ m ih=>
  intro t hm cF kW fP v L w hv
  obtain⟨a,n,c,rfl,hn,aQ⟩:=cS hv
  subst hn
  have lK:=mP t
  have hK:=ak.refl [] w
  refine cj [.tmp 2] 31 Tryz.func106 rfl abF rfl rfl ?_
  refine zr<|ey rfl λw1 aI aT di=>?_
  have hK:=hK.ext aI
  refine W ?_
  refine zc rfl (λh1=>?_) (λh1=>?_)
  have ht:=Sw cF (by rw[cF.leaf h1];rfl)
  refine W ?_
  exact⟨_,rfl,show str _=str _ from congrArg _ ht.symm,hK⟩
  have ha:t.av=[]:=Classical.not_not.1 h1
  refine W ?_
  refine eO (λk:Nat=>[(1,.pointer (some ⟨w.heap.size,0,none⟩)),(3,str (vm (t.ai.take k))),(4,.int .i64 (k:Int))]) (λk w'=>ak [] w w'∧aL w' w.heap.size [str t.av,.slice a t.ai.length c].toArray 74∧k<=t.ai.length) (λk=>t.ai.length-k) (0) (⟨rfl,rfl,rfl⟩) (⟨hK,aT,om⟩) λgg w2 e2 hI=>?_
  obtain⟨hK,aT,hk⟩:=hI
  refine W ?_
  refine zc rfl (λh2=>?_) (λh2=>?_)
  have dR:=ej (ps:=t.ai) (i:=gg) om
  obtain⟨b1,eh,pa,pn,pc,rfl,gV,dZ,fG⟩:=fC aQ dR
  subst dZ
  have yC:=cF.nth (i:=gg) om
  have lW:=kB (t:=t) (i:=gg) om
  have qK:=MF cF ha hk
  have qM:=MF cF ha (k:=gg+1) om
  have aW:=Sy (ps:=t.ai) (k:=gg) om
  have hlen:=congrArg List.length aW
  rw[lA] at hlen
  refine W ?_
  refine iS (λ_:Unit=>[(1,.pointer (some ⟨w.heap.size,0,none⟩)),(3,str (vm (t.ai.take gg)++(if gg=0 then[] else[32]))),(4,.int .i64 (gg:Int))]) (λ_ w'=>w'=w2) ?_ ?_
  refine zc rfl (λh3=>?_) (λh3=>?_)
  have yD:¬gg=0:=by omega
  refine W ?_
  exact⟨(),⟨rfl,by rw[iN yD];rfl,rfl⟩,rfl⟩
  have yD:gg=0:=by omega
  refine WZ ?_
  exact⟨(),⟨rfl,by rw[iP yD,List.append_nil];rfl,rfl⟩,rfl⟩
  intro gu w3 e3 hI
  obtain rfl:=hI
  refine WL ?_
  refine zl ix rfl (aT.at rfl)<|zm<|zi cw aK rfl rfl om<|zL eK aK rfl (gV.ext hK) rfl<|aA (ih (nth t.ai gg) om yC om om _ L w3 ((jh fG).ext hK)) ?_
  rintro _ w4 ⟨rfl,aN⟩
  have fg:=aN.size
  refine bL aN hK aT λhK aT=>?_
  refine iw rfl rfl rfl rfl om<|W ?_
  exact⟨gg+1,⟨rfl,by rw[aW];rfl,rfl⟩,⟨hK,aT,om⟩,om⟩
  have fH:gg=t.ai.length:=by omega
  have Bi:=Sz cF ha
  have qK:=MF cF ha hk
  subst fH
  refine WS ?_
  refine iw rfl rfl rfl rfl (by simp at qK⊢;omega)<|zA<|aV<|kj ?_
  exact⟨_,rfl,show str _=str _ from congrArg _ Bi,hK⟩
theorem Uh (ts:List aq) (h:MK ts) (v:Value) (L Lr:List Nat) (w:World) (hv:cX L w v ts) (hL:∀x,x∈Lr->x<w.heap.size):
  bC Tryz.prog 73 [v] w λr w'=>(∃a n c,r= .slice a n c∧bg Lr w' (.slice a n c) (ts.map aq.text))∧ak [] w w':=by
 obtain⟨a,c,rfl⟩:=EI hv
 have hK:=ak.refl [] w
 have hl:=h.1
 refine cj [.tmp 2] 21 Tryz.func73 rfl adQ rfl rfl ?_
 refine W ?_
 refine tQ w.heap.size Lr bo bm rfl rfl (lR _) hL λw1 aI di hO=>W ?_
 have hK:=hK.ext aI
 refine eO (λq:Nat×Option Addr×Nat×Option Nat=>[(0,.slice a ts.length c),(3,.slice q.2.1 ((ts.take q.1).map aq.text).length q.2.2.1),(4,.int .i64 (q.1:Int))]) (λq w'=>ak [] w w'∧Gr w.heap.size Lr w' 9 1 (.slice q.2.1 ((ts.take q.1).map aq.text).length q.2.2.1) q.2.2.2 (gL ((ts.take q.1).map aq.text))∧q.1<=ts.length) (λq=>ts.length-q.1) ((0,_,_,_)) (⟨rfl,rfl,rfl⟩) (⟨hK,hO,sm⟩) λgg w2 e2 hI=>?_
 obtain⟨i,a3,cc,g⟩:=gg
 dsimp only at hI⊢
 obtain⟨hK,hO,hk⟩:=hI
 have fU:=hK.size
 refine W ?_
 refine zc rfl (λh1=>?_) (λh1=>?_)
 have dR:=ej (ps:=ts) (i:=i) om
 obtain⟨b1,eh,pa,pn,pc,rfl,gV,dZ,fG⟩:=fC hv dR
 obtain⟨cF,df,dz⟩:=h.2 (nth ts i) (List.mem_of_getElem? dR)
 refine WL ?_
 refine zL eK aK rfl (gV.ext hK) rfl<|aA (r6 (nth ts i).size (nth ts i) (lR _) cF df dz _ L w2 ((jh fG).ext hK)) ?_
 rintro _ w3 ⟨rfl,aH⟩
 have eM:=aH.size
 refine bL aH hK hO λhK hO=>?_
 refine fo bo bm rfl rfl λw4 aN jK ga=>bL aN hK hO λhK hO=>?_
 refine Mh bo bm rfl rfl rfl rfl rfl rfl hO jK (by rw[wK _ hk];omega) λa4 fT g4 w5 gz aJ=>?_
 have hK:=hO.since hK aJ
 rw[yj aq.text dR] at gz⊢
 refine W ?_
 exact⟨(i+1,a4,fT,g4),⟨rfl,rfl,rfl⟩,⟨hK,gz,by dsimp only;omega⟩,by dsimp only;omega⟩
 rw[yk aq.text om] at hO⊢
 refine W ?_
 exact⟨_,rfl,⟨_,_,_,rfl,hO.done⟩,hK⟩
theorem afN (u:aq) (hf:tV u) (hg:Good u) (v:Value) (L Lr:List Nat) (w:World) (hv:bh L w v u) (hL:∀x,x∈Lr->x<w.heap.size):
  bC Tryz.prog 44 [v] w λr w'=>nN Lr w' r (kP u)∧ak [] w w':=by
 have cm:=hv
 obtain⟨a,n,c,rfl,hn,aQ⟩:=cS hv
 have hK:=ak.refl [] w
 refine j1 [.cell 2 58] 49 Tryz.func44 rfl ady rfl rfl rfl ?_
 refine zr<|ey rfl λw1 aI aT di=>bL aI hK cm λhK cm=>?_
 refine da fD rfl rfl rfl λw2 az aO dK=>?_
 have hK:=hK.grow;have hK:=hK.ext az;have cm:=cm.grow;have cm:=cm.ext az;have aT:=aT.grow;have aT:=aT.ext az
 refine W ?_
 refine aA (Bf u _ _ w2 cm) ?_
 rintro _ w3 ⟨rfl,aH⟩
 have eM:=aH.size
 refine cO aH hK aT aO λhK aT aO=>?_
 refine WZ ?_
 apply oP 5 6 11 rfl oQ
 intro _
 refine WZ ?_
 exact oQ
 intro xx
 refine WZ ?_
 apply oO 7 12 19 (ak [] w3) rfl oQ
 intro h2
 have JS:n=4:=by simp at h2;omega
 obtain⟨b,off,q2a,q2n,q2c,rfl,bZ,NH,gi⟩:=fC aQ (ej (ps:=u.ai) (i:=2) om)
 refine zf ja rfl<|zl ix rfl (aT.at rfl)<|zi (i:=2) cw aK rfl rfl om<|zL eK aK rfl (bZ.ext hK) rfl<|aA (Bf (nth u.ai 2) _ L w3 (bh.ext (jh gi) hK)) ?_
 rintro _ w4 ⟨rfl,aN⟩
 have fg:=aN.size
 exact oQ
 intro xx w5 aJ
 refine cO aJ hK aT aO λhK aT aO=>?_
 refine WZ ?_
 apply oO 7 20 27 (ak [] w5) rfl oQ
 intro h3
 have JS:n=4:=by simp at h3;omega
 obtain⟨b,off,q3a,q3n,q3c,rfl,dP,NI,r7⟩:=fC aQ (ej (ps:=u.ai) (i:=3) om)
 refine zf ja rfl<|zl ix rfl (aT.at rfl)<|zi (i:=3) cw aK rfl rfl om<|zL eK aK rfl (dP.ext hK) rfl<|aA (Bf (nth u.ai 3) _ L w5 (bh.ext (jh r7) hK)) ?_
 rintro _ w6 ⟨rfl,bB⟩
 have ku:=bB.size
 exact oQ
 intro xx w7 bJ
 refine cO bJ hK aT aO λhK aT aO=>?_
 refine aV<|zc rfl (λh4=>?_) (λh4=>?_)
 rw[MH hn] at h4
 have hb:oy u=false:=by simpa using h4
 refine zr<|iT (aee _) rfl rfl<|cu fD rfl rfl rfl aO rfl λw8 aU aO kV=>?_
 have hK:=hK.aD aU sx
 refine W ?_
 exact⟨[_],fB wL fD rfl aO rfl,by rw[MG hb];exact wI (b:=Ar) Rq Rq,hK⟩
 rw[MH hn] at h4
 have hb:oy u=true:=by simpa using h4
 have h4:=Gu hb
 subst hn
 obtain⟨b,off,q1a,q1n,q1c,rfl,bM,afO,kX⟩:=fC aQ (ej (ps:=u.ai) (i:=1) om)
 obtain⟨b2,kY,q2a,q2n,q2c,kL,bZ,NH,gi⟩:=fC aQ (ej (ps:=u.ai) (i:=2) om)
 cases kL
 obtain⟨b3,xe,q3a,q3n,q3c,EE,dP,NI,r7⟩:=fC aQ (ej (ps:=u.ai) (i:=3) om)
 cases EE
 have He:cH (nth u.ai 2)=[114,101,103,115]:=by unfold oy at hb;simp only[aE,dE] at hb;exact hb.1.2
 have Hf:cH (nth u.ai 3)=[99,111,100,101]:=by unfold oy at hb;simp only[aE,dE] at hb;exact hb.2
 have qM:0<(nth u.ai 2).ai.length:=Nat.pos_of_ne_zero λh=>by rw[sF (.inr (List.length_eq_zero_iff.1 h))] at He;cases He
 have ui:0<(nth u.ai 3).ai.length:=Nat.pos_of_ne_zero λh=>by rw[sF (.inr (List.length_eq_zero_iff.1 h))] at Hf;cases Hf
 obtain⟨b4,yE,_,_,_,rfl,_,_,_⟩:=fC gi (ej (ps:=(nth u.ai 2).ai) (i:=0) qM)
 obtain⟨b5,yF,_,_,_,rfl,_,_,_⟩:=fC r7 (ej (ps:=(nth u.ai 3).ai) (i:=0) ui)
 have fp:=Jl (hf.nth (i:=2) hg om) (hg.nth (i:=2) om) 1
 have sZ:=Jl (hf.nth (i:=3) hg om) (hg.nth (i:=3) om) 1
 refine WZ ?_
 refine sE du bF 20 (rA 29 20) (rA 29 20) [[],[0],[1],[2],[3],[],[5],[6],[7],[8],[9],[10],[],[12],[13],[14],[15],[16],[17],[4,11,18]] [λv _=>v=(.pointer (some ⟨w.heap.size,0+1,none⟩)),λv _=>v=(.slice (some ⟨b,off,none⟩) u.ai.length c),λv _=>v=(.pointer (some ⟨b,off+1*2,none⟩)),λv _=>v=(.pointer (some ⟨b,off+1*2+0,none⟩)),λv _=>v=(str (nth u.ai 1).av),λv _=>v=(.pointer (some ⟨w.heap.size,0+1,none⟩)),λv _=>v=(.slice (some ⟨b,off,none⟩) u.ai.length c),λv _=>v=(.pointer (some ⟨b,off+2*2,none⟩)),λv _=>v=(.pointer (some ⟨b,off+2*2+1,none⟩)),λv _=>v=(.slice (some ⟨b4,yE,none⟩) q2n q2c),fun(v:Value) (ww:World)=>cX L ww v ((nth u.ai 2).ai.drop 1),fun(v:Value) (ww:World)=>∃a n c,v= .slice a n c∧bg (w1.heap.size::Lr) ww (.slice a n c) (((nth u.ai 2).ai.drop 1).map aq.text),λv _=>v=(.pointer (some ⟨w.heap.size,0+1,none⟩)),λv _=>v=(.slice (some ⟨b,off,none⟩) u.ai.length c),λv _=>v=(.pointer (some ⟨b,off+3*2,none⟩)),λv _=>v=(.pointer (some ⟨b,off+3*2+1,none⟩)),λv _=>v=(.slice (some ⟨b5,yF,none⟩) q3n q3c),fun(v:Value) (ww:World)=>cX L ww v ((nth u.ai 3).ai.drop 1),fun(v:Value) (ww:World)=>∃a n c,v= .slice a n c∧bg (w1.heap.size::Lr) ww (.slice a n c) (((nth u.ai 3).ai.drop 1).map aq.text),fun(v:Value) (ww:World)=>∃a1 n1 c1 a2 n2 c2,v= .agg #[str (nth u.ai 1).av,.slice a1 n1 c1,.slice a2 n2 c2]∧bg (w1.heap.size::Lr) ww (.slice a1 n1 c1) (((nth u.ai 2).ai.drop 1).map aq.text)∧bg (w1.heap.size::Lr) ww (.slice a2 n2 c2) (((nth u.ai 3).ai.drop 1).map aq.text)] de (cR (cR (cR (cR (cR (cR (cR (cR (cR (cR (mL (λv w w' h k=>cX.ext h k) (mL (λv w w' ⟨a,n,c,e,h⟩ k=>⟨a,n,c,e,bg.ext h k⟩) (cR (cR (cR (cR (cR (mL (λv w w' h k=>cX.ext h k) (mL (λv w w' ⟨a,n,c,e,h⟩ k=>⟨a,n,c,e,bg.ext h k⟩) (mL (λv w w' ⟨a1,n1,c1,a2,n2,c2,e,h1,h2⟩ k=>⟨a1,n1,c1,a2,n2,c2,e,bg.ext h1 k,bg.ext h2 k⟩) trivial)))))))))))))))))))) (λwd aB=>?_) ?_
 refine bV ?_ ?_
 intro x vs w8 e aU hd he
 replace aU:=bF.trans aB aU
 replace he:e=aS (aR _ x _) []:=he
 subst he
 refine W ?_
 exact dn (bF.refl _) rfl
 refine bV ?_ ?_
 intro x vs w8 e aU hd he
 have d0:vs 0=(.pointer (some ⟨w.heap.size,0+1,none⟩)):=hd
 replace aU:=bF.trans aB aU
 have aT:=aT.ext aU
 replace he:e=aS (aR _ x _) [(29,vs 0)]:=he
 rw[d0] at he
 subst he
 refine W ?_
 exact dn (bF.refl _) rfl
 refine bV ?_ ?_
 intro x vs w8 e aU hd he
 have d1:vs 1=(.slice (some ⟨b,off,none⟩) u.ai.length c):=hd
 replace aU:=bF.trans aB aU
 replace he:e=aS (aR _ x _) [(30,vs 1)]:=he
 rw[d1] at he
 subst he
 refine zi (i:=1) cw aK rfl rfl om<|aV ?_
 exact dn (bF.refl _) rfl
 refine bV ?_ ?_
 intro x vs w8 e aU hd he
 have d2:vs 2=(.pointer (some ⟨b,off+1*2,none⟩)):=hd
 replace aU:=bF.trans aB aU
 replace he:e=aS (aR _ x _) [(31,vs 2)]:=he
 rw[d2] at he
 subst he
 refine W ?_
 exact dn (bF.refl _) rfl
 refine bV ?_ ?_
 intro x vs w8 e aU hd he
 have d3:vs 3=(.pointer (some ⟨b,off+1*2+0,none⟩)):=hd
 replace aU:=bF.trans aB aU
 have hK:=hK.ext aU
 replace he:e=aS (aR _ x _) [(32,vs 3)]:=he
 rw[d3] at he
 subst he
 refine zl gv rfl (bM.ext hK 0 _ rfl)<|aV ?_
 exact dn (bF.refl _) rfl
 refine bV ?_ ?_
 intro x vs w8 e aU hd he
 replace aU:=bF.trans aB aU
 replace he:e=aS (aR _ x _) []:=he
 subst he
 refine W ?_
 exact dn (bF.refl _) rfl
 refine bV ?_ ?_
 intro x vs w8 e aU hd he
 have d5:vs 5=(.pointer (some ⟨w.heap.size,0+1,none⟩)):=hd
 replace aU:=bF.trans aB aU
 have aT:=aT.ext aU
 replace he:e=aS (aR _ x _) [(34,vs 5)]:=he
 rw[d5] at he
 subst he
 refine W ?_
 exact dn (bF.refl _) rfl
 refine bV ?_ ?_
 intro x vs w8 e aU hd he
 have d6:vs 6=(.slice (some ⟨b,off,none⟩) u.ai.length c):=hd
 replace aU:=bF.trans aB aU
 replace he:e=aS (aR _ x _) [(35,vs 6)]:=he
 rw[d6] at he
 subst he
 refine zi (i:=2) cw aK rfl rfl om<|aV ?_
 exact dn (bF.refl _) rfl
 refine bV ?_ ?_
 intro x vs w8 e aU hd he
 have d7:vs 7=(.pointer (some ⟨b,off+2*2,none⟩)):=hd
 replace aU:=bF.trans aB aU
 replace he:e=aS (aR _ x _) [(36,vs 7)]:=he
 rw[d7] at he
 subst he
 refine W ?_
 exact dn (bF.refl _) rfl
 refine bV ?_ ?_
 intro x vs w8 e aU hd he
 have d8:vs 8=(.pointer (some ⟨b,off+2*2+1,none⟩)):=hd
 replace aU:=bF.trans aB aU
 have hK:=hK.ext aU
 replace he:e=aS (aR _ x _) [(37,vs 8)]:=he
 rw[d8] at he
 subst he
 refine zl ix rfl (bZ.ext hK 1 _ rfl)<|aV ?_
 exact dn (bF.refl _) rfl
 refine bV ?_ ?_
 intro x vs w8 e aU hd he
 have d9:vs 9=(.slice (some ⟨b4,yE,none⟩) q2n q2c):=hd
 replace aU:=bF.trans aB aU
 have hK:=hK.ext aU
 replace he:e=aS (aR _ x _) [(38,vs 9)]:=he
 rw[d9] at he
 subst he
 refine xY (l:=1) cw aK rfl rfl rfl rfl om (cX.ext gi hK) λp9 ba=>W ?_
 exact dn (bF.refl _) (show cX L _ p9 _ from by rw[cX,Co];exact ba)
 refine bV ?_ ?_
 intro x vs w8 e aU hd he
 have d10:(fun(v:Value) (ww:World)=>cX L ww v ((nth u.ai 2).ai.drop 1)) (vs 10) w8:=hd
 replace aU:=bF.trans aB aU
 refine bL aU hK aO λhK aO=>?_
 replace he:e=aS (aR _ x _) [(39,vs 10)]:=he
 subst he
 refine aA (Uh _ fp _ L (w1.heap.size::Lr) w8 d10 (by intro x hx;rcases mC.1 hx with rfl|hx;exact aO.lt;have:=hL x hx;have:=hK.size;omega)) ?_
 rintro v9 w9 ⟨eu,aC⟩
 have lf:=aC.size
 obtain⟨a7,n7,c7,rfl,jd⟩:=eu
 refine W ?_
 exact dn (bF.of aC) ⟨a7,n7,c7,rfl,jd⟩
 refine bV ?_ ?_
 intro x vs w8 e aU hd he
 replace aU:=bF.trans aB aU
 replace he:e=aS (aR _ x _) []:=he
 subst he
 refine W ?_
 exact dn (bF.refl _) rfl
 refine bV ?_ ?_
 intro x vs w8 e aU hd he
 have d12:vs 12=(.pointer (some ⟨w.heap.size,0+1,none⟩)):=hd
 replace aU:=bF.trans aB aU
 have aT:=aT.ext aU
 replace he:e=aS (aR _ x _) [(41,vs 12)]:=he
 rw[d12] at he
 subst he
 refine W ?_
 exact dn (bF.refl _) rfl
 refine bV ?_ ?_
 intro x vs w8 e aU hd he
 have d13:vs 13=(.slice (some ⟨b,off,none⟩) u.ai.length c):=hd
 replace aU:=bF.trans aB aU
 replace he:e=aS (aR _ x _) [(42,vs 13)]:=he
 rw[d13] at he
 subst he
 refine zi (i:=3) cw aK rfl rfl om<|aV ?_
 exact dn (bF.refl _) rfl
 refine bV ?_ ?_
 intro x vs w8 e aU hd he
 have d14:vs 14=(.pointer (some ⟨b,off+3*2,none⟩)):=hd
 replace aU:=bF.trans aB aU
 replace he:e=aS (aR _ x _) [(43,vs 14)]:=he
 rw[d14] at he
 subst he
 refine W ?_
 exact dn (bF.refl _) rfl
 refine bV ?_ ?_
 intro x vs w8 e aU hd he
 have d15:vs 15=(.pointer (some ⟨b,off+3*2+1,none⟩)):=hd
 replace aU:=bF.trans aB aU
 have hK:=hK.ext aU
 replace he:e=aS (aR _ x _) [(44,vs 15)]:=he
 rw[d15] at he
 subst he
 refine zl ix rfl (dP.ext hK 1 _ rfl)<|aV ?_
 exact dn (bF.refl _) rfl
 refine bV ?_ ?_
 intro x vs w8 e aU hd he
 have d16:vs 16=(.slice (some ⟨b5,yF,none⟩) q3n q3c):=hd
 replace aU:=bF.trans aB aU
 have hK:=hK.ext aU
 replace he:e=aS (aR _ x _) [(45,vs 16)]:=he
 rw[d16] at he
 subst he
 refine xY (l:=1) cw aK rfl rfl rfl rfl om (cX.ext r7 hK) λp9 ba=>W ?_
 exact dn (bF.refl _) (show cX L _ p9 _ from by rw[cX,Co];exact ba)
 refine bV ?_ ?_
 intro x vs w8 e aU hd he
 have d17:(fun(v:Value) (ww:World)=>cX L ww v ((nth u.ai 3).ai.drop 1)) (vs 17) w8:=hd
 replace aU:=bF.trans aB aU
 refine bL aU hK aO λhK aO=>?_
 replace he:e=aS (aR _ x _) [(46,vs 17)]:=he
 subst he
 refine aA (Uh _ sZ _ L (w1.heap.size::Lr) w8 d17 (by intro x hx;rcases mC.1 hx with rfl|hx;exact aO.lt;have:=hL x hx;have:=hK.size;omega)) ?_
 rintro v9 w9 ⟨eu,aC⟩
 have lf:=aC.size
 obtain⟨a7,n7,c7,rfl,jd⟩:=eu
 refine W ?_
 exact dn (bF.of aC) ⟨a7,n7,c7,rfl,jd⟩
 refine bV ?_ ?_
 intro x vs w8 e aU hd he
 have aY:(vs 4=(str (nth u.ai 1).av))∧((fun(v:Value) (ww:World)=>∃a n c,v= .slice a n c∧bg (w1.heap.size::Lr) ww (.slice a n c) (((nth u.ai 2).ai.drop 1).map aq.text)) (vs 11) w8)∧((fun(v:Value) (ww:World)=>∃a n c,v= .slice a n c∧bg (w1.heap.size::Lr) ww (.slice a n c) (((nth u.ai 3).ai.drop 1).map aq.text)) (vs 18) w8):=hd
 obtain⟨d4,d11,d18⟩:=aY
 replace aU:=bF.trans aB aU
 replace he:e=aS (aR _ x _) [(33,vs 4),(40,vs 11),(47,vs 18)]:=he
 rw[d4] at he
 obtain⟨a7,n7,c7,e7,jd⟩:=d11
 obtain⟨a8,n8,c8,e8,oK⟩:=d18
 rw[e7,e8] at he
 subst he
 refine iT (Gx _ _ _ _ _ _ _ _) rfl rfl<|aV ?_
 exact dn (bF.refl _) ⟨a7,n7,c7,a8,n8,c8,rfl,jd,oK⟩
 exact trivial
 intro x vs l5 jz bT
 have d0:vs 0=(.pointer (some ⟨w.heap.size,0+1,none⟩)):=bT 0 de
 have d1:vs 1=(.slice (some ⟨b,off,none⟩) u.ai.length c):=bT 1 de
 have d2:vs 2=(.pointer (some ⟨b,off+1*2,none⟩)):=bT 2 de
 have d3:vs 3=(.pointer (some ⟨b,off+1*2+0,none⟩)):=bT 3 de
 have d4:vs 4=(str (nth u.ai 1).av):=bT 4 de
 have d5:vs 5=(.pointer (some ⟨w.heap.size,0+1,none⟩)):=bT 5 de
 have d6:vs 6=(.slice (some ⟨b,off,none⟩) u.ai.length c):=bT 6 de
 have d7:vs 7=(.pointer (some ⟨b,off+2*2,none⟩)):=bT 7 de
 have d8:vs 8=(.pointer (some ⟨b,off+2*2+1,none⟩)):=bT 8 de
 have d9:vs 9=(.slice (some ⟨b4,yE,none⟩) q2n q2c):=bT 9 de
 have d10:(fun(v:Value) (ww:World)=>cX L ww v ((nth u.ai 2).ai.drop 1)) (vs 10) l5:=bT 10 de
 have d11:(fun(v:Value) (ww:World)=>∃a n c,v= .slice a n c∧bg (w1.heap.size::Lr) ww (.slice a n c) (((nth u.ai 2).ai.drop 1).map aq.text)) (vs 11) l5:=bT 11 de
 have d12:vs 12=(.pointer (some ⟨w.heap.size,0+1,none⟩)):=bT 12 de
 have d13:vs 13=(.slice (some ⟨b,off,none⟩) u.ai.length c):=bT 13 de
 have d14:vs 14=(.pointer (some ⟨b,off+3*2,none⟩)):=bT 14 de
 have d15:vs 15=(.pointer (some ⟨b,off+3*2+1,none⟩)):=bT 15 de
 have d16:vs 16=(.slice (some ⟨b5,yF,none⟩) q3n q3c):=bT 16 de
 have d17:(fun(v:Value) (ww:World)=>cX L ww v ((nth u.ai 3).ai.drop 1)) (vs 17) l5:=bT 17 de
 have d18:(fun(v:Value) (ww:World)=>∃a n c,v= .slice a n c∧bg (w1.heap.size::Lr) ww (.slice a n c) (((nth u.ai 3).ai.drop 1).map aq.text)) (vs 18) l5:=bT 18 de
 have d19:(fun(v:Value) (ww:World)=>∃a1 n1 c1 a2 n2 c2,v= .agg #[str (nth u.ai 1).av,.slice a1 n1 c1,.slice a2 n2 c2]∧bg (w1.heap.size::Lr) ww (.slice a1 n1 c1) (((nth u.ai 2).ai.drop 1).map aq.text)∧bg (w1.heap.size::Lr) ww (.slice a2 n2 c2) (((nth u.ai 3).ai.drop 1).map aq.text)) (vs 19) l5:=bT 19 de
 refine bL jz hK aO λhK aO=>?_
 change OW _ _ _ _ _ (aS (aR _ x _) (zZ 29 [vs 0,vs 1,vs 2,vs 3,vs 4,vs 5,vs 6,vs 7,vs 8,vs 9,vs 10,vs 11,vs 12,vs 13,vs 14,vs 15,vs 16,vs 17,vs 18,vs 19])) _
 rw[d0,d1,d2,d3,d4,d5,d6,d7,d8,d9,d12,d13,d14,d15,d16]
 obtain⟨a7,n7,c7,a8,n8,c8,e7,jd,oK⟩:=d19
 rw[e7]
 refine cu fD rfl rfl rfl aO rfl λkZ iO aO afP=>?_
 have hK:=hK.aD iO sx;have jd:=jd.aD iO sx;have oK:=oK.aD iO sx
 refine W ?_
 exact⟨[_],fB wL fD rfl aO rfl,by rw[Jk hb];exact wI (b:=Ej u) (ck.weaken jd (λx hx=>by simp[hx])) (ck.weaken oK (λx hx=>by simp[hx])),hK⟩
theorem s0 (h:aj) (ps:List aj) (hl:(cY h ps).length<=1000000000) (v:Value) (L:List Nat) (w:World) (hv:bg L w v ps):bC Tryz.prog 135 [str h,v] w λr w'=>r=str (cY h ps)∧ak [] w w':=by
 obtain⟨a,n,c,rfl,hn⟩:=dU hv
 subst hn
 have hK:=ak.refl [] w
 have hh:=λk=>aby (h:=h) (ps:=ps) k
 have Ui:(vq h ps 0).length=h.length+1:=by simp[vq,ox]
 have h01:=hh 0
 have lK:ps.length<=(cY h ps).length:=by simp only[cY,lC,lA,Jm,iU];omega
 refine cj [.tmp 4] 24 Tryz.func135 rfl ab1 rfl rfl ?_
 refine WS ?_
 refine iw rfl rfl rfl rfl (by simp only[lC,List.length_nil];omega)<|W ?_
 refine eO (λk:Nat=>[(1,.slice a ps.length c),(5,str (vq h ps k)),(6,.int .i64 (k:Int))]) (λk w'=>ak [] w w'∧k<=ps.length) (λk=>ps.length-k) (0) (⟨rfl,show str _=str _ from congrArg _ (by simp[vq,ox]),rfl⟩) (⟨hK,om⟩) λgg w1 e1 hI=>?_
 obtain⟨hK,hk⟩:=hI
 refine W ?_
 refine zc rfl (λh1=>?_) (λh1=>?_)
 have hg:=kM (xs:=ps) (i:=gg) om
 obtain⟨b1,eh,rfl,bM⟩:=pR hv hg
 have aW:=abw (h:=h) (ps:=ps) (k:=gg) om
 have hlen:=congrArg List.length aW
 simp only[lA,lC,List.length_nil] at hlen
 have hle:=hh (gg+1)
 refine WS ?_
 refine iw rfl rfl rfl rfl (by simp only[lC,List.length_nil];omega)<|WL ?_
 refine zl gv rfl (bM.ext hK 0 _ rfl)<|iw rfl rfl rfl rfl (by simp only[lA,lC,List.length_nil];omega)<|W ?_
 exact⟨gg+1,⟨rfl,show str _=str _ from congrArg _ aW.symm,rfl⟩,⟨hK,om⟩,om⟩
 have hle:=hh gg
 refine WS ?_
 refine iw rfl rfl rfl rfl (by simp only[lC,List.length_nil];omega)<|zA<|aV<|kj ?_
 exact⟨_,rfl,show str _=str _ from congrArg _ (abx om),hK⟩
theorem Uj (bs:List Bk) (hs:tU bs) (hl:(lD bs).length<=100000000) (v:Value) (La:List Nat) (w:World) (hv:mO La w v bs):bC Tryz.prog 105 [v] w λr w'=>r=str (lD bs)∧ak [] w w':=by
 obtain⟨a,n,c,rfl,hn⟩:=Cp hv
 subst hn
 have hK:=ak.refl [] w
 have nV:=hs.1
 have lK:bs.length<=(lD bs).length:=by unfold lD cY;rw[lC,lA,lA,Jm];unfold iU;rw[List.length_map];omega
 refine cj [.tmp 2] 32 Tryz.func105 rfl abE rfl rfl ?_
 refine W ?_
 refine tQ w.heap.size [] bo bm rfl rfl (lR _) sm λw1 aI di hO=>?_
 have hK:=hK.ext aI
 refine W ?_
 refine eO (λq:Nat×Option Addr×Nat×Option Nat=>[(0,.slice a bs.length c),(3,.slice q.2.1 ((bs.take q.1).map lB).length q.2.2.1),(4,.int .i64 (q.1:Int))]) (λq w'=>ak [] w w'∧Gr w.heap.size [] w' 9 1 (.slice q.2.1 ((bs.take q.1).map lB).length q.2.2.1) q.2.2.2 (gL ((bs.take q.1).map lB))∧q.1<=bs.length) (λq=>bs.length-q.1) ((0,_,_,_)) (⟨rfl,rfl,rfl⟩) (⟨hK,hO,sm⟩) λgg w2 e2 hI=>?_
 obtain⟨i,a3,cc,g⟩:=gg
 dsimp only at hI⊢
 obtain⟨hK,hO,hk⟩:=hI
 have fU:=hK.size
 refine W ?_
 refine zc rfl (λh1=>?_) (λh1=>?_)
 have dR:=rW (bs:=bs) (i:=i) om
 obtain⟨b1,eh,r1,JT,yG,r2,JU,yH,rfl,bM,_,_,kX,gi⟩:=yg hv dR
 have hle:=afv (T9 (bs:=bs) (i:=i) om)
 have fF:=afw (bN bs i)
 have iz:=afx (bN bs i)
 refine WL ?_
 refine zL wL fD rfl (bM.ext hK) rfl<|da fD rfl rfl rfl λw3 aH bQ fS=>?_
 have hK:=hK.grow;have hK:=hK.ext aH;have hO:=hO.alloc aH fS
 refine cu fD rfl rfl rfl bQ rfl λw4 aN bQ ga=>?_
 have hK:=hK.aD aN sx;have hO:=hO.aD aN sx
 refine W ?_
 refine sE du bF 12 (rA 17 12) (rA 17 12) [[],[],[1],[],[3],[4],[],[6],[7],[2,5,8],[9],[10]] [λv _=>v=(.slice a3 ((bs.take i).map lB).length cc),λv _=>v=(.pointer (some ⟨w2.heap.size,0+0,none⟩)),λv _=>v=(str (bN bs i).aM),λv _=>v=(.pointer (some ⟨w2.heap.size,0+1,none⟩)),λv _=>v=(.slice r1 JT yG),λv _=>v=(str (cY [114,101,103,115] (bN bs i).bW)),λv _=>v=(.pointer (some ⟨w2.heap.size,0+2,none⟩)),λv _=>v=(.slice r2 JU yH),λv _=>v=(str (cY [99,111,100,101] (bN bs i).code)),fun(v:Value) (ww:World)=>bg [] ww v [(bN bs i).aM,cY [114,101,103,115] (bN bs i).bW,cY [99,111,100,101] (bN bs i).code],λv _=>v=(str (lB (bN bs i))),fun(v:Value) (ww:World)=>∃b,v= .slice (some ⟨b,0,none⟩) 1 1∧aL ww b [str (lB (bN bs i))].toArray 9] de (cR (cR (cR (cR (cR (cR (cR (cR (cR (mL (λv w w' h k=>bg.ext h k) (cR (mL (λv w w' ⟨b,e,h⟩ k=>⟨b,e,h.ext k⟩) trivial)))))))))))) (λwd aB=>?_) ?_
 refine bV ?_ ?_
 intro x vs w5 e aJ hd he
 replace aJ:=bF.trans aB aJ
 replace he:e=aS (aR _ x _) []:=he
 subst he
 refine W ?_
 exact dn (bF.refl _) rfl
 refine bV ?_ ?_
 intro x vs w5 e aJ hd he
 replace aJ:=bF.trans aB aJ
 replace he:e=aS (aR _ x _) []:=he
 subst he
 refine W ?_
 exact dn (bF.refl _) rfl
 refine bV ?_ ?_
 intro x vs w5 e aJ hd he
 have d1:vs 1=(.pointer (some ⟨w2.heap.size,0+0,none⟩)):=hd
 replace aJ:=bF.trans aB aJ
 have bQ:=bQ.ext aJ
 replace he:e=aS (aR _ x _) [(18,vs 1)]:=he
 rw[d1] at he
 subst he
 refine W ?_
 exact dn (bF.refl _) rfl
 refine bV ?_ ?_
 intro x vs w5 e aJ hd he
 replace aJ:=bF.trans aB aJ
 replace he:e=aS (aR _ x _) []:=he
 subst he
 refine W ?_
 exact dn (bF.refl _) rfl
 refine bV ?_ ?_
 intro x vs w5 e aJ hd he
 have d3:vs 3=(.pointer (some ⟨w2.heap.size,0+1,none⟩)):=hd
 replace aJ:=bF.trans aB aJ
 have bQ:=bQ.ext aJ
 replace he:e=aS (aR _ x _) [(20,vs 3)]:=he
 rw[d3] at he
 subst he
 refine W ?_
 exact dn (bF.refl _) rfl
 refine bV ?_ ?_
 intro x vs w5 e aJ hd he
 have d4:vs 4=(.slice r1 JT yG):=hd
 replace aJ:=bF.trans aB aJ
 have hK:=hK.ext aJ
 replace he:e=aS (aR _ x _) [(21,vs 4)]:=he
 rw[d4] at he
 subst he
 refine aA (s0 [114,101,103,115] (bN bs i).bW om _ La w5 (kX.ext hK)) ?_
 rintro _ w6 ⟨rfl,bB⟩
 have ku:=bB.size
 refine W ?_
 exact dn (bF.of bB) rfl
 refine bV ?_ ?_
 intro x vs w5 e aJ hd he
 replace aJ:=bF.trans aB aJ
 replace he:e=aS (aR _ x _) []:=he
 subst he
 refine W ?_
 exact dn (bF.refl _) rfl
 refine bV ?_ ?_
 intro x vs w5 e aJ hd he
 have d6:vs 6=(.pointer (some ⟨w2.heap.size,0+2,none⟩)):=hd
 replace aJ:=bF.trans aB aJ
 have bQ:=bQ.ext aJ
 replace he:e=aS (aR _ x _) [(23,vs 6)]:=he
 rw[d6] at he
 subst he
 refine W ?_
 exact dn (bF.refl _) rfl
 refine bV ?_ ?_
 intro x vs w5 e aJ hd he
 have d7:vs 7=(.slice r2 JU yH):=hd
 replace aJ:=bF.trans aB aJ
 have hK:=hK.ext aJ
 replace he:e=aS (aR _ x _) [(24,vs 7)]:=he
 rw[d7] at he
 subst he
 refine aA (s0 [99,111,100,101] (bN bs i).code om _ La w5 (gi.ext hK)) ?_
 rintro _ w6 ⟨rfl,bB⟩
 have ku:=bB.size
 refine W ?_
 exact dn (bF.of bB) rfl
 refine bV ?_ ?_
 intro x vs w5 e aJ hd he
 have aY:(vs 2=(str (bN bs i).aM))∧(vs 5=(str (cY [114,101,103,115] (bN bs i).bW)))∧(vs 8=(str (cY [99,111,100,101] (bN bs i).code))):=hd
 obtain⟨d2,d5,d8⟩:=aY
 replace aJ:=bF.trans aB aJ
 replace he:e=aS (aR _ x _) [(19,vs 2),(22,vs 5),(25,vs 8)]:=he
 rw[d2,d5,d8] at he
 subst he
 refine rz [.tmp 19,.tmp 22,.tmp 25] [[str (bN bs i).aM],[str (cY [114,101,103,115] (bN bs i).bW)],[str (cY [99,111,100,101] (bN bs i).code)]] bo bm rfl rfl rfl rfl rfl rfl rfl rfl rfl λw6 bB dj dv=>W ?_
 exact dn (bF.of bB) (afr (xs:=[(bN bs i).aM,cY [114,101,103,115] (bN bs i).bW,cY [99,111,100,101] (bN bs i).code]) dj sm sm)
 refine bV ?_ ?_
 intro x vs w5 e aJ hd he
 have d9:(fun(v:Value) (ww:World)=>bg [] ww v [(bN bs i).aM,cY [114,101,103,115] (bN bs i).bW,cY [99,111,100,101] (bN bs i).code]) (vs 9) w5:=hd
 replace aJ:=bF.trans aB aJ
 replace he:e=aS (aR _ x _) [(26,vs 9)]:=he
 subst he
 refine aA (s0 [98,108,111,99,107] [(bN bs i).aM,cY [114,101,103,115] (bN bs i).bW,cY [99,111,100,101] (bN bs i).code] (show(lB (bN bs i)).length<=_ by omega) _ [] w5 d9) ?_
 rintro _ w6 ⟨rfl,bB⟩
 have ku:=bB.size
 refine W ?_
 exact dn (bF.of bB) rfl
 refine bV ?_ ?_
 intro x vs w5 e aJ hd he
 have d10:vs 10=(str (lB (bN bs i))):=hd
 replace aJ:=bF.trans aB aJ
 replace he:e=aS (aR _ x _) [(27,vs 10)]:=he
 rw[d10] at he
 subst he
 refine fo bo bm rfl rfl λw6 bB afQ jR=>W ?_
 exact dn (bF.of bB) ⟨_,rfl,afQ⟩
 exact trivial
 intro x vs nX jm bT
 have d0:vs 0=(.slice a3 ((bs.take i).map lB).length cc):=bT 0 de
 have d1:vs 1=(.pointer (some ⟨w2.heap.size,0+0,none⟩)):=bT 1 de
 have d2:vs 2=(str (bN bs i).aM):=bT 2 de
 have d3:vs 3=(.pointer (some ⟨w2.heap.size,0+1,none⟩)):=bT 3 de
 have d4:vs 4=(.slice r1 JT yG):=bT 4 de
 have d5:vs 5=(str (cY [114,101,103,115] (bN bs i).bW)):=bT 5 de
 have d6:vs 6=(.pointer (some ⟨w2.heap.size,0+2,none⟩)):=bT 6 de
 have d7:vs 7=(.slice r2 JU yH):=bT 7 de
 have d8:vs 8=(str (cY [99,111,100,101] (bN bs i).code)):=bT 8 de
 have d9:(fun(v:Value) (ww:World)=>bg [] ww v [(bN bs i).aM,cY [114,101,103,115] (bN bs i).bW,cY [99,111,100,101] (bN bs i).code]) (vs 9) nX:=bT 9 de
 have d10:vs 10=(str (lB (bN bs i))):=bT 10 de
 have d11:(fun(v:Value) (ww:World)=>∃b,v= .slice (some ⟨b,0,none⟩) 1 1∧aL ww b [str (lB (bN bs i))].toArray 9) (vs 11) nX:=bT 11 de
 refine bL jm hK hO λhK hO=>?_
 change OW _ _ _ _ _ (aS (aR _ x _) (zZ 17 [vs 0,vs 1,vs 2,vs 3,vs 4,vs 5,vs 6,vs 7,vs 8,vs 9,vs 10,vs 11])) _
 rw[d0,d1,d2,d3,d4,d5,d6,d7,d8,d10]
 obtain⟨nb,e7,nY⟩:=d11
 rw[e7]
 refine Mh bo bm rfl rfl rfl rfl rfl rfl hO nY (by rw[wK _ hk];omega) λa4 fT g4 qb gz qN=>?_
 have hK:=hO.since hK qN
 rw[yj lB dR] at gz⊢
 refine W ?_
 exact⟨(i+1,a4,fT,g4),⟨rfl,rfl,rfl⟩,⟨hK,gz.fV sm,by dsimp only;omega⟩,by dsimp only;omega⟩
 rw[yk lB om] at hO⊢
 refine W ?_
 refine aA (s0 [112,114,111,103,114,97,109] (bs.map lB) (Nat.le_trans hl de) _ [] w2 hO.done) ?_
 rintro _ w3 ⟨rfl,aH⟩
 have eM:=aH.size
 have hK:=hK.ext aH
 refine W ?_
 exact⟨_,rfl,rfl,hK⟩
theorem Uk (s:aj) (w:World):bC Tryz.prog 104 [str s] w λr w'=>r= .bool (bA s).isSome∧ak [] w w':=by
 have hK:=ak.refl [] w
 refine cj [.tmp 2] 11 Tryz.func104 rfl abD rfl rfl ?_
 refine W ?_
 refine aA (sX s [] w sm) ?_
 rintro v1 w1 ⟨fK,aI⟩
 have df:=aI.size
 have hK:=hK.ext aI
 obtain⟨t,tv,rfl,ht,hp⟩:=fK
 obtain⟨pa,pn,pc,rfl,dZ,aQ⟩:=cS ht
 subst dZ
 refine W ?_
 refine da aK rfl rfl rfl λw2 az bU dK=>?_
 have hK:=hK.grow;have hK:=hK.ext az
 refine cu aK rfl rfl rfl bU rfl λw3 aH bU fS=>?_
 have hK:=hK.aD aH sx
 refine W ?_
 exact⟨_,rfl,rfl,hK⟩
theorem afR (h:(!iB bs||!(bA (lD bs)).isSome)=true):rl bs=none:=by
 unfold rl
 rw[iN (by intro hh;rw[aE] at hh;rw[hh.1,hh.2] at h;cases h)]
theorem afS (h:(!iB bs||!(bA (lD bs)).isSome)=false):rl bs=some (lD bs):=by
 unfold rl
 rw[Bool.or_eq_false_iff] at h
 rw[iP (by rw[aE];exact⟨by simpa using h.1,by simpa using h.2⟩)]
theorem afT (bs:List Bk) (hs:tU bs) (hl:(lD bs).length<=100000000) (v:Value) (La:List Nat) (w:World) (hv:mO La w v bs):
  bC Tryz.prog 67 [v] w λr w'=>r= .tuple #[str ((rl bs).getD []),.bool (rl bs).isSome]∧ak [] w w':=by
 have hK:=ak.refl [] w
 refine cj [.tmp 2,.tmp 3] 15 Tryz.func67 rfl adL rfl rfl ?_
 refine W ?_
 refine aA (NC bs hs _ La w hv) ?_
 rintro _ w1 ⟨rfl,aI⟩
 have df:=aI.size
 have hK:=hK.ext aI
 refine WZ ?_
 apply oO 5 7 12 (ak [] w1) rfl oQ
 intro _
 have JV:=ak.refl [] w1
 refine zm<|aA (Uj bs hs hl _ La w1 (hv.ext hK)) ?_
 rintro _ w2 ⟨rfl,az⟩
 have dz:=az.size
 have JV:=JV.ext az
 refine aA (Uk (lD bs) w2) ?_
 rintro _ w3 ⟨rfl,aH⟩
 have eM:=aH.size
 have JV:=JV.ext aH
 exact oQ
 intro xx w4 aN
 have hK:=hK.ext aN
 refine aV<|zc rfl (λh2=>?_) (λh2=>?_)
 have hq:=afR h2
 refine W ?_
 exact⟨_,rfl,by rw[hq];rfl,hK⟩
 have hq:=afS h2
 refine gX<|zr<|zm<|aA (Uj bs hs hl _ La w4 (hv.ext hK)) ?_
 rintro _ w5 ⟨rfl,aJ⟩
 have mn:=aJ.size
 have hK:=hK.ext aJ
 refine W ?_
 exact⟨_,rfl,by rw[hq];rfl,hK⟩
end Go.Proofs.YthbhobaiopccaaaGreatDoor
