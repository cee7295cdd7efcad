/- Lemmas for the law FnReach, no statement of their own: no conditions. -/
import Derived.Test.YthbhobaiopccaaaGreatDoorKc
import Derived.Deep.Strs
import Derived.Laws.IdiomStrings
import Derived.Laws.MakeOwn
set_option maxHeartbeats 4000000
set_option linter.unusedVariables false
set_option linter.unusedSimpArgs false
namespace Go.Proofs.YthbhobaiopccaaaGreatDoor
open Go
variable {p q:Prop} {B E S U b bytes c i n o off sz:Nat} {t:Bool} {l:List Oper} {a:Int} {v z:Value} {vs:List Value} {P:Program} {ops:Array Oper} {e0:Env} {w w' w0:World} {k k':IntKind} {L L' d:List Nat} {r:List (List Nat)} {rows:List (List C)} {vss:List (List Value)} {g gb:Option Nat} {ps:List cI} {xs:List ai} {gss:List (Option Nat×Option Nat)}
class uI (p:Prop) (q:outParam Prop):Prop where
 imp:p->q
instance (priority:=low) {p:Prop}:uI p p:=⟨id⟩
instance {p:Prop} {i:Decidable p}:uI (@decide p i=true) p:=⟨of_decide_eq_true⟩
instance {p:Prop} {i:Decidable p}:uI (@decide p i=false) (¬p):=⟨of_decide_eq_false⟩
instance {b:Bool}:uI ((!b)=true) (b=false):=⟨λh=>by simpa using h⟩
instance {b:Bool}:uI ((!b)=false) (b=true):=⟨λh=>by simpa using h⟩
theorem jW [t:uI p q] (h:p):q:=t.imp h
section
variable {P:Program} {n:Nat} {N R:Env->World->Prop} {X:Nat->Env->World->Prop} {e:Env} {w:World}
theorem zc {c:Operand} {x y:Code} (hc:ev e c= .bool t) [hp:uI (t=true) p] [hq:uI (t=false) q] (hx:p->CW P n x N R X e w) (hy:q->CW P n y N R X e w):CW P n (.cond c x y) N R X e w:=
 Ru hc (λh=>hx (hp.imp h)) (λh=>hy (hq.imp h))
theorem zr {id:Nat} {y:Code} (h:OW P n l.toArray (λe w=>CW P n y N R X e w) l e w):CW P n ((Code.region id l.toArray false).seq y) N R X e w:=j3 (jF h)
end
section
variable {P:Program} {n:Nat} {ops:Array Oper} {K:Env->World->Prop} {rest:List Oper} {e:Env} {w:World}
 {dst:Option Nat} {ty:TypeId} {pos:String} {after:Array Edge} {g:Option (Nat×Bool)} {x y:Operand} {T T':TypeId}
theorem zm (k:OW P n ops K rest (bQ e dst (ev e x)) w) (hg:gate ops e g=true:=by rfl) (hd:cj n dst=true:=by rfl):OW P n ops K (⟨dst,.move x,ty,pos,after,g⟩::rest) e w:=Z0 hg hd k
theorem zA (k:OW P n ops K rest (bQ e dst (ev e x)) w) (hg:gate ops e g=true:=by rfl) (hd:cj n dst=true:=by rfl):OW P n ops K (⟨dst,.assign x,ty,pos,after,g⟩::rest) e w:=Z1 hg hd k
theorem zs {op:Op} (k:OW P n ops K rest (bQ e dst undef) w) (hg:gate ops e g=false:=by rfl) (hd:cj n dst=true:=by rfl):OW P n ops K (⟨dst,op,ty,pos,after,g⟩::rest) e w:=Md hg hd k
theorem zp {c:Operand} (hc:ev e c= .bool t) (k:OW P n ops K rest (bQ e dst (bif t then ev e x else ev e y)) w) (hg:gate ops e g=true:=by rfl) (hd:cj n dst=true:=by rfl):OW P n ops K (⟨dst,.pick c x y,ty,pos,after,g⟩::rest) e w:=RB hg hd hc k
theorem zf (hS:gU P S i=some off) (hx:ev e x= .pointer (some ⟨b,o,none⟩)) (k:OW P n ops K rest (bQ e dst (.pointer (some ⟨b,o+off,none⟩))) w) (hg:gate ops e g=true:=by rfl) (hd:cj n dst=true:=by rfl):
  OW P n ops K (⟨dst,.fieldAddr S x i,ty,pos,after,g⟩::rest) e w:=RG hS hg hd hx k
theorem zl {a:Addr} (hT:p3 P T=true) (hx:ev e x= .pointer (some a)) (hc:w.cell? a=some v) (k:OW P n ops K rest (bQ e dst v) w) (hg:gate ops e g=true:=by rfl) (hd:cj n dst=true:=by rfl):
  OW P n ops K (⟨dst,.load T x,ty,pos,after,g⟩::rest) e w:=Z3 hT hg hd hx hc k
theorem zL (hT:sX P T=true) (j6:TI P T sz bytes z) (hx:ev e x= .pointer (some ⟨b,o,none⟩)) (hc:gH w b o vs) (hl:vs.length=sz) (k:OW P n ops K rest (bQ e dst (.agg vs.toArray)) w) (hg:gate ops e g=true:=by rfl) (hd:cj n dst=true:=by rfl):
  OW P n ops K (⟨dst,.load T x,ty,pos,after,g⟩::rest) e w:=Z4 hT j6 hg hd hx hc hl k
theorem zi {T E:TypeId} {len cap i:Nat} {ki:IntKind} (hT:P.underlying T=some (.slice E)) (hE:TI P E sz bytes z) (hx:ev e x= .slice (some ⟨b,o,none⟩) len cap) (hy:ev e y= .int ki (i:Int)) (hi:i<len) 
  (k:OW P n ops K rest (bQ e dst (.pointer (some ⟨b,o+i*sz,none⟩))) w) (hg:gate ops e g=true:=by rfl) (hd:cj n dst=true:=by rfl):OW P n ops K (⟨dst,.indexAddr T x y,ty,pos,after,g⟩::rest) e w:=RH hT hE hg hd hx hy hi k
theorem zx (hx:ev e x= .tuple vs.toArray) (hi:vs[i]?=some v) (k:OW P n ops K rest (bQ e dst v) w) (hg:gate ops e g=true:=by rfl) (hd:cj n dst=true:=by rfl):
  OW P n ops K (⟨dst,.extract x i,ty,pos,after,g⟩::rest) e w:=RI hg hd hx hi k
end
theorem vfm {W ds:List Nat} {its:List Ie} {Js:List (List Nat->List Value->World->Prop)} {G0:List Nat} {k:Nat} {o:Oper} (hr:vU P n ops W ds its Js e0 G0 w0 (k+1) l r) (h:JY P n ops W ds its e0 G0 w0 k o d:=by exact λ_ _ _ _ _ _=>zm fv) (hk:(its.getD k mD).kv=none:=by rfl):vU P n ops W ds its Js e0 G0 w0 k (o::l) (d::r):=vf h hr hk
theorem vk {W ds:List Nat} {its:List It} {wz:World} {k:Nat} {o:Oper} (aC:aj [] wz w0) (h:∀(x:Env) (w:World),aj [] wz w->dq its ds w d λacc=>OW P n ops (λe' w'=>aj [] w w'∧(its.getD k (.p λ_ _=>True)).F (e' (ds.getD k 0)) w'∧eA [ds.getD k 0] (bo (bm W x e0) acc) e') [o] (bo (bm W x e0) acc) w) (hr:rJ P n ops W ds its e0 w0 (k+1) l r):rJ P n ops W ds its e0 w0 k (o::l) (d::r):=vc (λx w hk=>h x w (aj.trans aC hk)) hr
theorem Bg {W ds:List Nat} {its:List It} {k:Nat} {o:Oper} (hr:rJ P n ops W ds its e0 w0 (k+1) l r) (h:Hb P n ops W ds its e0 w0 k o d:=by exact λ_ _ _=>zm pv):rJ P n ops W ds its e0 w0 k (o::l) (d::r):=⟨h,hr⟩
theorem vcs {W ds:List Nat} {its:List It} {k:Nat} {o:Oper} (hr:rJ P n ops W ds its e0 w0 (k+1) l r) (h:Hb P n ops W ds its e0 w0 k o d:=by exact λ_ _ _=>Md rfl rfl pv):rJ P n ops W ds its e0 w0 k (o::l) (d::r):=⟨h,hr⟩
class FO (P:Program) (S i:Nat) (off:outParam Nat):Prop where h:gU P S i=some off
class O1 (P:Program) (T:Nat):Prop where h:p3 P T=true
class OA (P:Program) (T:Nat):Prop where h:sX P T=true
class ni (P:Program) (T:Nat) (sz bytes:outParam Nat) (z:outParam Value):Prop where h:TI P T sz bytes z
class UL (P:Program) (T:Nat) (d:outParam TypeDesc):Prop where h:P.underlying T=some d
instance:OA Tryz.prog 152:=⟨aeF⟩
instance:OA Tryz.prog 166:=⟨Th⟩
instance:OA Tryz.prog 56:=⟨CJ⟩
instance:OA Tryz.prog 58:=⟨CK⟩
instance:OA Tryz.prog 66:=⟨ux⟩
instance:OA Tryz.prog 74:=⟨fc⟩
instance:UL Tryz.prog 4 .bool:=⟨aeN⟩
instance:FO Tryz.prog 102 0 0:=⟨aeO⟩
instance:FO Tryz.prog 102 1 1:=⟨Ti⟩
instance:FO Tryz.prog 152 0 0:=⟨aeP⟩
instance:FO Tryz.prog 152 1 1:=⟨aeQ⟩
instance:FO Tryz.prog 164 0 0:=⟨aeR⟩
instance:FO Tryz.prog 164 1 1:=⟨aeS⟩
instance:FO Tryz.prog 164 2 2:=⟨aeT⟩
instance:FO Tryz.prog 164 3 3:=⟨aeU⟩
instance:FO Tryz.prog 164 4 4:=⟨aeV⟩
instance:FO Tryz.prog 164 5 5:=⟨aeW⟩
instance:FO Tryz.prog 166 0 0:=⟨aeX⟩
instance:FO Tryz.prog 166 1 1:=⟨Tj⟩
instance:FO Tryz.prog 166 10 11:=⟨aeY⟩
instance:FO Tryz.prog 166 2 2:=⟨aeZ⟩
instance:FO Tryz.prog 166 3 3:=⟨JD⟩
instance:FO Tryz.prog 166 4 4:=⟨ae0⟩
instance:FO Tryz.prog 166 5 5:=⟨ae1⟩
instance:FO Tryz.prog 166 6 6:=⟨ae2⟩
instance:FO Tryz.prog 166 7 7:=⟨Tl⟩
instance:FO Tryz.prog 166 8 9:=⟨Tm⟩
instance:FO Tryz.prog 166 9 10:=⟨ae3⟩
instance:FO Tryz.prog 190 0 0:=⟨ae4⟩
instance:FO Tryz.prog 190 1 1:=⟨ae5⟩
instance:FO Tryz.prog 190 2 2:=⟨ae6⟩
instance:FO Tryz.prog 190 3 3:=⟨ae7⟩
instance:FO Tryz.prog 228 0 0:=⟨ae8⟩
instance:FO Tryz.prog 228 1 1:=⟨ae9⟩
instance:FO Tryz.prog 56 0 0:=⟨Tn⟩
instance:FO Tryz.prog 56 1 1:=⟨To⟩
instance:FO Tryz.prog 56 2 2:=⟨Tp⟩
instance:FO Tryz.prog 58 0 0:=⟨EE⟩
instance:FO Tryz.prog 58 1 1:=⟨M4⟩
instance:FO Tryz.prog 58 2 2:=⟨AQ⟩
instance:FO Tryz.prog 66 0 0:=⟨afa⟩
instance:FO Tryz.prog 66 1 1:=⟨Tq⟩
instance:FO Tryz.prog 74 0 0:=⟨lK⟩
instance:FO Tryz.prog 74 1 1:=⟨jI⟩
instance:ni Tryz.prog 113 2 32 (.agg #[.pointer none,.slice none 0 0]):=⟨M6⟩
instance:ni Tryz.prog 152 2 48 (.agg #[.slice none 0 0,.slice none 0 0]):=⟨CL⟩
instance:ni Tryz.prog 162 1 24 (.slice none 0 0):=⟨JE⟩
instance:ni Tryz.prog 166 12 216 (.agg #[.string ⟨#[]⟩,.slice none 0 0,.int .i64 0,.slice none 0 0,.slice none 0 0,.slice none 0 0,.slice none 0 0,.string ⟨#[]⟩,.slice none 0 0,.int .i64 0,.string ⟨#[]⟩,.int .i64 0]):=⟨mV⟩
instance:ni Tryz.prog 23 1 24 (.slice none 0 0):=⟨Tr⟩
instance:ni Tryz.prog 3 1 8 (.int .i64 0):=⟨pq⟩
instance:ni Tryz.prog 35 1 24 (.slice none 0 0):=⟨mW⟩
instance:ni Tryz.prog 4 1 1 (.bool false):=⟨CM⟩
instance:ni Tryz.prog 5 1 1 (.int .u8 0):=⟨GO⟩
instance:ni Tryz.prog 51 1 24 (.slice none 0 0):=⟨M7⟩
instance:ni Tryz.prog 54 1 24 (.slice none 0 0):=⟨JG⟩
instance:ni Tryz.prog 56 3 64 (.agg #[.string ⟨#[]⟩,.slice none 0 0,.slice none 0 0]):=⟨jT⟩
instance:ni Tryz.prog 58 3 64 (.agg #[.string ⟨#[]⟩,.slice none 0 0,.slice none 0 0]):=⟨fm⟩
instance:ni Tryz.prog 66 2 40 (.agg #[.string ⟨#[]⟩,.slice none 0 0]):=⟨fx⟩
instance:ni Tryz.prog 72 1 24 (.slice none 0 0):=⟨EF⟩
instance:ni Tryz.prog 74 2 40 (.agg #[.string ⟨#[]⟩,.slice none 0 0]):=⟨aM⟩
instance:ni Tryz.prog 9 1 16 (.string ⟨#[]⟩):=⟨ba⟩
instance:ni Tryz.prog 98 1 24 (.slice none 0 0):=⟨Tt⟩
instance:UL Tryz.prog 181 (.int .u64):=⟨JH⟩
instance:UL Tryz.prog 3 (.int .i64):=⟨xq⟩
instance:UL Tryz.prog 5 (.int .u8):=⟨yM⟩
instance:O1 Tryz.prog 162:=⟨afb⟩
instance:O1 Tryz.prog 22:=⟨afc⟩
instance:O1 Tryz.prog 23:=⟨afd⟩
instance:O1 Tryz.prog 3:=⟨M8⟩
instance:O1 Tryz.prog 35:=⟨vN⟩
instance:O1 Tryz.prog 4:=⟨GP⟩
instance:O1 Tryz.prog 5:=⟨afe⟩
instance:O1 Tryz.prog 51:=⟨aff⟩
instance:O1 Tryz.prog 54:=⟨afg⟩
instance:O1 Tryz.prog 72:=⟨iW⟩
instance:O1 Tryz.prog 9:=⟨fo⟩
instance:O1 Tryz.prog 98:=⟨afh⟩
instance:UL Tryz.prog 162 (.slice 166):=⟨AR⟩
instance:UL Tryz.prog 22 (.slice 5):=⟨CN⟩
instance:UL Tryz.prog 23 (.slice 58):=⟨iD⟩
instance:UL Tryz.prog 35 (.slice 9):=⟨bg⟩
instance:UL Tryz.prog 51 (.slice 56):=⟨vO⟩
instance:UL Tryz.prog 54 (.slice 66):=⟨s9⟩
instance:UL Tryz.prog 59 (.slice 4):=⟨GQ⟩
instance:UL Tryz.prog 72 (.slice 74):=⟨cD⟩
instance:UL Tryz.prog 98 (.slice 3):=⟨vQ⟩
instance:UL Tryz.prog 9 .string:=⟨iE⟩
section
variable {P:Program} {n:Nat} {ops:Array Oper} {K:Env->World->Prop} {rest:List Oper} {e:Env} {w:World}
 {dst:Option Nat} {ty:TypeId} {pos:String} {after:Array Edge} {g:Option (Nat×Bool)} {x y:Operand} {T T' E:TypeId}
theorem wN {a:Addr} (k:OW P n ops K rest (bQ e dst (.pointer (some a))) w) (hx:ev e x= .pointer (some a):=by rfl) (hg:gate ops e g=true:=by rfl) (hd:cj n dst=true:=by rfl):OW P n ops K (⟨dst,.nilCheck x,ty,pos,after,g⟩::rest) e w:=Gh hg hd hx k
theorem wF [hS:FO P S i off] (k:OW P n ops K rest (bQ e dst (.pointer (some ⟨b,o+off,none⟩))) w) (hx:ev e x= .pointer (some ⟨b,o,none⟩):=by rfl) (hg:gate ops e g=true:=by rfl) (hd:cj n dst=true:=by rfl):
  OW P n ops K (⟨dst,.fieldAddr S x i,ty,pos,after,g⟩::rest) e w:=RG hS.h hg hd hx k
theorem wB [hT:O1 P T] (k:OW P n ops K rest (bQ e dst v) w) (hx:ev e x= .pointer (some ⟨b,o,none⟩):=by rfl) (hb:aK w b vs.toArray U:=by first|with_reducible assumption|exact dP.iw (by with_reducible assumption)|assumption) (hc:vs[o]?=some v:=by rfl) (hg:gate ops e g=true:=by rfl) (hd:cj n dst=true:=by rfl):
  OW P n ops K (⟨dst,.load T x,ty,pos,after,g⟩::rest) e w:=zl hT.h hx (hb.at hc) k hg hd
theorem wM [hT:OA P T] [j6:ni P T sz bytes z] (k:OW P n ops K rest (bQ e dst (.agg vs.toArray)) w) (hx:ev e x= .pointer (some ⟨b,0,none⟩):=by rfl) (hb:aK w b vs.toArray U:=by first|with_reducible assumption|exact dP.iw (by with_reducible assumption)|assumption) (hl:vs.length=sz:=by rfl) (hg:gate ops e g=true:=by rfl) (hd:cj n dst=true:=by rfl):
  OW P n ops K (⟨dst,.load T x,ty,pos,after,g⟩::rest) e w:=zL hT.h j6.h hx hb.all hl k hg hd
theorem wC [hT:O1 P T] (k:OW P n ops K rest (bQ e dst v) w) (hx:ev e x= .pointer (some ⟨b,o,none⟩):=by rfl) (hb:gH w b o vs:=by first|with_reducible assumption|exact fF.cells (by with_reducible assumption)|assumption) (hc:vs[0]?=some v:=by rfl) (hg:gate ops e g=true:=by rfl) (hd:cj n dst=true:=by rfl):
  OW P n ops K (⟨dst,.load T x,ty,pos,after,g⟩::rest) e w:=zl hT.h hx (hb 0 _ hc) k hg hd
theorem wD [hT:O1 P T] (k:OW P n ops K rest (bQ e dst v) w) (hx:ev e x= .pointer (some ⟨b,o+1,none⟩):=by rfl) (hb:gH w b o vs:=by first|with_reducible assumption|exact fF.cells (by with_reducible assumption)|assumption) (hc:vs[1]?=some v:=by rfl) (hg:gate ops e g=true:=by rfl) (hd:cj n dst=true:=by rfl):
  OW P n ops K (⟨dst,.load T x,ty,pos,after,g⟩::rest) e w:=zl hT.h hx (hb 1 _ hc) k hg hd
theorem wE [hT:OA P T] [j6:ni P T sz bytes z] (k:OW P n ops K rest (bQ e dst (.agg vs.toArray)) w) (hx:ev e x= .pointer (some ⟨b,o,none⟩):=by rfl) (hb:gH w b o vs:=by first|with_reducible assumption|exact fF.cells (by with_reducible assumption)|assumption) (hl:vs.length=sz:=by rfl) (hg:gate ops e g=true:=by rfl) (hd:cj n dst=true:=by rfl):
  OW P n ops K (⟨dst,.load T x,ty,pos,after,g⟩::rest) e w:=zL hT.h j6.h hx hb hl k hg hd
theorem wi {len cap:Nat} {ki:IntKind} [hT:UL P T (.slice E)] [hE:ni P E sz bytes z] (k:OW P n ops K rest (bQ e dst (.pointer (some ⟨b,o+i*sz,none⟩))) w) (hx:ev e x= .slice (some ⟨b,o,none⟩) len cap:=by rfl) (hy:ev e y= .int ki (i:Int):=by rfl) (hi:i<len:=by omega) 
  (hg:gate ops e g=true:=by rfl) (hd:cj n dst=true:=by rfl):OW P n ops K (⟨dst,.indexAddr T x y,ty,pos,after,g⟩::rest) e w:=RH hT.h hE.h hg hd hx hy hi k
theorem wp {c:Operand} (k:OW P n ops K rest (bQ e dst (bif t then ev e x else ev e y)) w) (hc:ev e c= .bool t:=by rfl) (hg:gate ops e g=true:=by rfl) (hd:cj n dst=true:=by rfl):OW P n ops K (⟨dst,.pick c x y,ty,pos,after,g⟩::rest) e w:=RB hg hd hc k
theorem wx (k:OW P n ops K rest (bQ e dst v) w) (hx:ev e x= .tuple vs.toArray:=by rfl) (hi:vs[i]?=some v:=by rfl) (hg:gate ops e g=true:=by rfl) (hd:cj n dst=true:=by rfl):
  OW P n ops K (⟨dst,.extract x i,ty,pos,after,g⟩::rest) e w:=RI hg hd hx hi k
theorem Bh {b:Int} (c:OW P n ops K rest (bQ e dst (.bool (decide (a=b)))) w) (hx:ev e x= .int k a:=by rfl) (hy:ev e y= .int k' b:=by rfl) (hk:k=k':=by rfl) (hg:gate ops e g=true:=by rfl) (hd:cj n dst=true:=by rfl):OW P n ops K (⟨dst,.binOp .eql T x y T',ty,pos,after,g⟩::rest) e w:=xf (hg:=hg) (hd:=hd) (hx:=hx) (hy:=hy) (hk:=hk) (c:=c)
theorem Bi {b:Int} (c:OW P n ops K rest (bQ e dst (.bool (decide (a≠b)))) w) (hx:ev e x= .int k a:=by rfl) (hy:ev e y= .int k' b:=by rfl) (hk:k=k':=by rfl) (hg:gate ops e g=true:=by rfl) (hd:cj n dst=true:=by rfl):OW P n ops K (⟨dst,.binOp .neq T x y T',ty,pos,after,g⟩::rest) e w:=Je (hg:=hg) (hd:=hd) (hx:=hx) (hy:=hy) (hk:=hk) (c:=c)
theorem Bj {b:Int} (c:OW P n ops K rest (bQ e dst (.bool (decide (a<b)))) w) (hx:ev e x= .int k a:=by rfl) (hy:ev e y= .int k' b:=by rfl) (hk:k=k':=by rfl) (hg:gate ops e g=true:=by rfl) (hd:cj n dst=true:=by rfl):OW P n ops K (⟨dst,.binOp .lss T x y T',ty,pos,after,g⟩::rest) e w:=Jd (hg:=hg) (hd:=hd) (hx:=hx) (hy:=hy) (hk:=hk) (c:=c)
theorem Bl {b:Int} (c:OW P n ops K rest (bQ e dst (.bool (decide (a<=b)))) w) (hx:ev e x= .int k a:=by rfl) (hy:ev e y= .int k' b:=by rfl) (hk:k=k':=by rfl) (hg:gate ops e g=true:=by rfl) (hd:cj n dst=true:=by rfl):OW P n ops K (⟨dst,.binOp .leq T x y T',ty,pos,after,g⟩::rest) e w:=Z9 (hg:=hg) (hd:=hd) (hx:=hx) (hy:=hy) (hk:=hk) (c:=c)
theorem Bm {b:Int} (c:OW P n ops K rest (bQ e dst (.bool (decide (b<a)))) w) (hx:ev e x= .int k a:=by rfl) (hy:ev e y= .int k' b:=by rfl) (hk:k=k':=by rfl) (hg:gate ops e g=true:=by rfl) (hd:cj n dst=true:=by rfl):OW P n ops K (⟨dst,.binOp .gtr T x y T',ty,pos,after,g⟩::rest) e w:=Gi (hg:=hg) (hd:=hd) (hx:=hx) (hy:=hy) (hk:=hk) (c:=c)
theorem Bn {b:Int} (c:OW P n ops K rest (bQ e dst (.bool (decide (b<=a)))) w) (hx:ev e x= .int k a:=by rfl) (hy:ev e y= .int k' b:=by rfl) (hk:k=k':=by rfl) (hg:gate ops e g=true:=by rfl) (hd:cj n dst=true:=by rfl):OW P n ops K (⟨dst,.binOp .geq T x y T',ty,pos,after,g⟩::rest) e w:=aaa (hg:=hg) (hd:=hd) (hx:=hx) (hy:=hy) (hk:=hk) (c:=c)
theorem Bo {a b:List UInt8} (c:OW P n ops K rest (bQ e dst (.bool (decide (a=b)))) w) (hx:ev e x=str a:=by rfl) (hy:ev e y=str b:=by rfl) (hg:gate ops e g=true:=by rfl) (hd:cj n dst=true:=by rfl):OW P n ops K (⟨dst,.binOp .eql T x y T',ty,pos,after,g⟩::rest) e w:=Ap (hg:=hg) (hd:=hd) (hx:=hx) (hy:=hy) (c:=c)
theorem Bp {a b:List UInt8} (c:OW P n ops K rest (bQ e dst (.bool (decide (a≠b)))) w) (hx:ev e x=str a:=by rfl) (hy:ev e y=str b:=by rfl) (hg:gate ops e g=true:=by rfl) (hd:cj n dst=true:=by rfl):OW P n ops K (⟨dst,.binOp .neq T x y T',ty,pos,after,g⟩::rest) e w:=Mf (hg:=hg) (hd:=hd) (hx:=hx) (hy:=hy) (c:=c)
theorem Bq {b:Bool} (c:OW P n ops K rest (bQ e dst (.bool (!b))) w) (hx:ev e x= .bool b:=by rfl) (hg:gate ops e g=true:=by rfl) (hd:cj n dst=true:=by rfl):OW P n ops K (⟨dst,.unOp .not T x,ty,pos,after,g⟩::rest) e w:=kF (hg:=hg) (hd:=hd) (hx:=hx) (c:=c)
theorem Br {a b:Bool} [hT:UL P T .bool] (c:OW P n ops K rest (bQ e dst (.bool (a==b))) w) (hx:ev e x= .bool a:=by rfl) (hy:ev e y= .bool b:=by rfl) (hg:gate ops e g=true:=by rfl) (hd:cj n dst=true:=by rfl):OW P n ops K (⟨dst,.binOp .eql T x y T',ty,pos,after,g⟩::rest) e w:=aab (hT:=hT.h) (hg:=hg) (hd:=hd) (hx:=hx) (hy:=hy) (c:=c)
theorem Bt {a b:Bool} [hT:UL P T .bool] (c:OW P n ops K rest (bQ e dst (.bool (!(a==b)))) w) (hx:ev e x= .bool a:=by rfl) (hy:ev e y= .bool b:=by rfl) (hg:gate ops e g=true:=by rfl) (hd:cj n dst=true:=by rfl):OW P n ops K (⟨dst,.binOp .neq T x y T',ty,pos,after,g⟩::rest) e w:=aac (hT:=hT.h) (hg:=hg) (hd:=hd) (hx:=hx) (hy:=hy) (c:=c)
theorem Bu {T E:TypeId} {x:Operand} {a:Option Addr} {m cap:Nat} [hT:UL P T (.slice E)] (k:OW P n ops K rest (bQ e dst (.int .i64 m)) w) (hx:ev e x= .slice a m cap:=by rfl) (hg:gate ops e g=true:=by rfl) (hd:cj n dst=true:=by rfl):OW P n ops K (⟨dst,.call {callee:=.builtin .len,args:=#[x],argTypes:=#[T]},ty,pos,after,g⟩::rest) e w:=Jc (hT:=hT.h) (hg:=hg) (hd:=hd) (hx:=hx) (k:=k)
theorem Bv {a:List UInt8} [hT:UL P T .string] (k:OW P n ops K rest (bQ e dst (.int .i64 (a.length:Nat))) w) (hx:ev e x=str a:=by rfl) (hg:gate ops e g=true:=by rfl) (hd:cj n dst=true:=by rfl):OW P n ops K (⟨dst,.call {callee:=.builtin .len,args:=#[x],argTypes:=#[T]},ty,pos,after,g⟩::rest) e w:=aag (hT:=hT.h) (hg:=hg) (hd:=hd) (hx:=hx) (k:=k)
theorem Bw {b c:Int} (c':OW P n ops K rest (bQ e dst (.int k c)) w) (hx:ev e x= .int k a:=by rfl) (hy:ev e y= .int k' b:=by rfl) (hk:k=k':=by rfl) (hc:k.wrap (a+b)=c:=by exact wrap_i64 _ om om) (hg:gate ops e g=true:=by rfl) (hd:cj n dst=true:=by rfl):OW P n ops K (⟨dst,.binOp .add T x y T',ty,pos,after,g⟩::rest) e w:=kR (hg:=hg) (hd:=hd) (hx:=hx) (hy:=hy) (hk:=hk) (hc:=hc) (c':=c')
theorem C1 {b c:Int} (c':OW P n ops K rest (bQ e dst (.int k c)) w) (hx:ev e x= .int k a:=by rfl) (hy:ev e y= .int k' b:=by rfl) (hk:k=k':=by rfl) (hc:k.wrap (a-b)=c:=by exact wrap_i64 _ om om) (hg:gate ops e g=true:=by rfl) (hd:cj n dst=true:=by rfl):OW P n ops K (⟨dst,.binOp .sub T x y T',ty,pos,after,g⟩::rest) e w:=yD (hg:=hg) (hd:=hd) (hx:=hx) (hy:=hy) (hk:=hk) (hc:=hc) (c':=c')
theorem C3 {b c:Int} (c':OW P n ops K rest (bQ e dst (.int k c)) w) (hx:ev e x= .int k a:=by rfl) (hy:ev e y= .int k' b:=by rfl) (hk:k=k':=by rfl) (hc:k.wrap (a*b)=c:=by exact wrap_i64 _ om om) (hg:gate ops e g=true:=by rfl) (hd:cj n dst=true:=by rfl):OW P n ops K (⟨dst,.binOp .mul T x y T',ty,pos,after,g⟩::rest) e w:=Jf (hg:=hg) (hd:=hd) (hx:=hx) (hy:=hy) (hk:=hk) (hc:=hc) (c':=c')
theorem C4 {a b:List UInt8} (c:OW P n ops K rest (bQ e dst (str (a++b))) w) (hx:ev e x=str a:=by rfl) (hy:ev e y=str b:=by rfl) (hs:a.length+b.length<=9223372036854775807:=by(simp;omega)) (hg:gate ops e g=true:=by rfl) (hd:cj n dst=true:=by rfl):OW P n ops K (⟨dst,.binOp .add T x y T',ty,pos,after,g⟩::rest) e w:=iu (hg:=hg) (hd:=hd) (hx:=hx) (hy:=hy) (hs:=hs) (c:=c)
end
theorem bI {TA TB TA' TB':Prop} (k:aj [] w w') (ta:TA) (tb:TB) (y:TA'->TB'->p) (xta:aj [] w w'->TA->TA':=by intro k h;exact h.ext k) (xtb:aj [] w w'->TB->TB':=by intro k h;exact h.ext k):p:=y (xta k ta) (xtb k tb)
theorem cJ {TA TB TC TA' TB' TC':Prop} (k:aj [] w w') (ta:TA) (tb:TB) (tc:TC) (y:TA'->TB'->TC'->p) (xta:aj [] w w'->TA->TA':=by intro k h;exact h.ext k) (xtb:aj [] w w'->TB->TB':=by intro k h;exact h.ext k) (xtc:aj [] w w'->TC->TC':=by intro k h;exact h.ext k):p:=y (xta k ta) (xtb k tb) (xtc k tc)
theorem gY {TA TB TC TD TA' TB' TC' TD':Prop} (k:aj [] w w') (ta:TA) (tb:TB) (tc:TC) (td:TD) (y:TA'->TB'->TC'->TD'->p) (xta:aj [] w w'->TA->TA':=by intro k h;exact h.ext k) (xtb:aj [] w w'->TB->TB':=by intro k h;exact h.ext k) (xtc:aj [] w w'->TC->TC':=by intro k h;exact h.ext k) (xtd:aj [] w w'->TD->TD':=by intro k h;exact h.ext k):p:=y (xta k ta) (xtb k tb) (xtc k tc) (xtd k td)
theorem kJ {TA TB TC TD TE TA' TB' TC' TD' TE':Prop} (k:aj [] w w') (ta:TA) (tb:TB) (tc:TC) (td:TD) (te:TE) (y:TA'->TB'->TC'->TD'->TE'->p) (xta:aj [] w w'->TA->TA':=by intro k h;exact h.ext k) (xtb:aj [] w w'->TB->TB':=by intro k h;exact h.ext k) (xtc:aj [] w w'->TC->TC':=by intro k h;exact h.ext k) (xtd:aj [] w w'->TD->TD':=by intro k h;exact h.ext k) (xte:aj [] w w'->TE->TE':=by intro k h;exact h.ext k):p:=y (xta k ta) (xtb k tb) (xtc k tc) (xtd k td) (xte k te)
theorem tC {TA TB TC TD TE TF TA' TB' TC' TD' TE' TF':Prop} (k:aj [] w w') (ta:TA) (tb:TB) (tc:TC) (td:TD) (te:TE) (tf:TF) (y:TA'->TB'->TC'->TD'->TE'->TF'->p) (xta:aj [] w w'->TA->TA':=by intro k h;exact h.ext k) (xtb:aj [] w w'->TB->TB':=by intro k h;exact h.ext k) (xtc:aj [] w w'->TC->TC':=by intro k h;exact h.ext k) (xtd:aj [] w w'->TD->TD':=by intro k h;exact h.ext k) (xte:aj [] w w'->TE->TE':=by intro k h;exact h.ext k) (xtf:aj [] w w'->TF->TF':=by intro k h;exact h.ext k):p:=y (xta k ta) (xtb k tb) (xtc k tc) (xtd k td) (xte k te) (xtf k tf)
theorem J2 {TA TB TC TD TE TF TG TA' TB' TC' TD' TE' TF' TG':Prop} (k:aj [] w w') (ta:TA) (tb:TB) (tc:TC) (td:TD) (te:TE) (tf:TF) (tg:TG) (y:TA'->TB'->TC'->TD'->TE'->TF'->TG'->p) (xta:aj [] w w'->TA->TA':=by intro k h;exact h.ext k) (xtb:aj [] w w'->TB->TB':=by intro k h;exact h.ext k) (xtc:aj [] w w'->TC->TC':=by intro k h;exact h.ext k) (xtd:aj [] w w'->TD->TD':=by intro k h;exact h.ext k) (xte:aj [] w w'->TE->TE':=by intro k h;exact h.ext k) (xtf:aj [] w w'->TF->TF':=by intro k h;exact h.ext k) (xtg:aj [] w w'->TG->TG':=by intro k h;exact h.ext k):p:=y (xta k ta) (xtb k tb) (xtc k tc) (xtd k td) (xte k te) (xtf k tf) (xtg k tg)
theorem C5 {TA TB TC TD TE TF TG TM TA' TB' TC' TD' TE' TF' TG' TM':Prop} (k:aj [] w w') (ta:TA) (tb:TB) (tc:TC) (td:TD) (te:TE) (tf:TF) (tg:TG) (tm:TM) (y:TA'->TB'->TC'->TD'->TE'->TF'->TG'->TM'->p) (xta:aj [] w w'->TA->TA':=by intro k h;exact h.ext k) (xtb:aj [] w w'->TB->TB':=by intro k h;exact h.ext k) (xtc:aj [] w w'->TC->TC':=by intro k h;exact h.ext k) (xtd:aj [] w w'->TD->TD':=by intro k h;exact h.ext k) (xte:aj [] w w'->TE->TE':=by intro k h;exact h.ext k) (xtf:aj [] w w'->TF->TF':=by intro k h;exact h.ext k) (xtg:aj [] w w'->TG->TG':=by intro k h;exact h.ext k) (xtm:aj [] w w'->TM->TM':=by intro k h;exact h.ext k):p:=y (xta k ta) (xtb k tb) (xtc k tc) (xtd k td) (xte k te) (xtf k tf) (xtg k tg) (xtm k tm)
theorem afV {TA TB TC TD TE TF TG TM TN TA' TB' TC' TD' TE' TF' TG' TM' TN':Prop} (k:aj [] w w') (ta:TA) (tb:TB) (tc:TC) (td:TD) (te:TE) (tf:TF) (tg:TG) (tm:TM) (tn:TN) (y:TA'->TB'->TC'->TD'->TE'->TF'->TG'->TM'->TN'->p) (xta:aj [] w w'->TA->TA':=by intro k h;exact h.ext k) (xtb:aj [] w w'->TB->TB':=by intro k h;exact h.ext k) (xtc:aj [] w w'->TC->TC':=by intro k h;exact h.ext k) (xtd:aj [] w w'->TD->TD':=by intro k h;exact h.ext k) (xte:aj [] w w'->TE->TE':=by intro k h;exact h.ext k) (xtf:aj [] w w'->TF->TF':=by intro k h;exact h.ext k) (xtg:aj [] w w'->TG->TG':=by intro k h;exact h.ext k) (xtm:aj [] w w'->TM->TM':=by intro k h;exact h.ext k) (xtn:aj [] w w'->TN->TN':=by intro k h;exact h.ext k):p:=y (xta k ta) (xtb k tb) (xtc k tc) (xtd k td) (xte k te) (xtf k tf) (xtg k tg) (xtm k tm) (xtn k tn)
structure Hd (q:Prop):Prop where out:q
theorem W (k:q) (h:Hd q->p:=by intro k;(repeat(first|refine zm ?_|refine zA ?_|refine zr ?_|refine aV ?_|refine zs ?_|refine wF ?_|refine wB ?_|refine wC ?_|refine wD ?_|refine wM ?_|refine wE ?_|refine wN ?_|refine wp ?_|refine wx ?_|refine j3 ?_|refine gT ?_|refine jF ?_|refine sV ?_|refine Bh ?_|refine Bi ?_|refine Bj ?_|refine Bl ?_|refine Bm ?_|refine Bn ?_|refine Bo ?_|refine Bp ?_|refine Bq ?_|refine Bu ?_|refine Bv ?_|refine Br ?_|refine Bt ?_|refine wi ?_|refine Bw ?_|refine C1 ?_|refine C3 ?_|refine C4 ?_|refine j4 ?_|refine yx ?_|refine yy rfl ?_|refine Ep rfl ?_));exact k.out):p:=h ⟨k⟩
theorem WL (k:q) (h:Hd q->p:=by intro k;(repeat(first|refine zm ?_|refine zA ?_|refine zr ?_|refine aV ?_|refine zs ?_|refine wF ?_|refine wN ?_|refine wp ?_|refine wx ?_|refine j3 ?_|refine gT ?_|refine jF ?_|refine sV ?_|refine Bh ?_|refine Bi ?_|refine Bj ?_|refine Bl ?_|refine Bm ?_|refine Bn ?_|refine Bo ?_|refine Bp ?_|refine Bq ?_|refine Bu ?_|refine Bv ?_|refine Br ?_|refine Bt ?_|refine wi ?_|refine Bw ?_|refine C1 ?_|refine C3 ?_|refine C4 ?_|refine j4 ?_|refine yx ?_|refine yy rfl ?_|refine Ep rfl ?_));exact k.out):p:=h ⟨k⟩
theorem WI (k:q) (h:Hd q->p:=by intro k;(repeat(first|refine zm ?_|refine zA ?_|refine zr ?_|refine aV ?_|refine zs ?_|refine wF ?_|refine wB ?_|refine wC ?_|refine wD ?_|refine wM ?_|refine wE ?_|refine wN ?_|refine wp ?_|refine wx ?_|refine j3 ?_|refine gT ?_|refine jF ?_|refine sV ?_|refine Bh ?_|refine Bi ?_|refine Bj ?_|refine Bl ?_|refine Bm ?_|refine Bn ?_|refine Bo ?_|refine Bp ?_|refine Bq ?_|refine Bu ?_|refine Bv ?_|refine Br ?_|refine Bt ?_|refine Bw ?_|refine C1 ?_|refine C3 ?_|refine C4 ?_|refine j4 ?_|refine yx ?_|refine yy rfl ?_|refine Ep rfl ?_));exact k.out):p:=h ⟨k⟩
theorem WA (k:q) (h:Hd q->p:=by intro k;(repeat(first|refine zm ?_|refine zA ?_|refine zr ?_|refine aV ?_|refine zs ?_|refine wF ?_|refine wB ?_|refine wC ?_|refine wD ?_|refine wM ?_|refine wE ?_|refine wN ?_|refine wp ?_|refine wx ?_|refine j3 ?_|refine gT ?_|refine jF ?_|refine sV ?_|refine Bh ?_|refine Bi ?_|refine Bj ?_|refine Bl ?_|refine Bm ?_|refine Bn ?_|refine Bo ?_|refine Bp ?_|refine Bq ?_|refine Bu ?_|refine Bv ?_|refine Br ?_|refine Bt ?_|refine wi ?_|refine C4 ?_|refine j4 ?_|refine yx ?_|refine yy rfl ?_|refine Ep rfl ?_));exact k.out):p:=h ⟨k⟩
theorem WS (k:q) (h:Hd q->p:=by intro k;(repeat(first|refine zm ?_|refine zA ?_|refine zr ?_|refine aV ?_|refine zs ?_|refine wF ?_|refine wB ?_|refine wC ?_|refine wD ?_|refine wM ?_|refine wE ?_|refine wN ?_|refine wp ?_|refine wx ?_|refine j3 ?_|refine gT ?_|refine jF ?_|refine sV ?_|refine Bh ?_|refine Bi ?_|refine Bj ?_|refine Bl ?_|refine Bm ?_|refine Bn ?_|refine Bo ?_|refine Bp ?_|refine Bq ?_|refine Bu ?_|refine Bv ?_|refine Br ?_|refine Bt ?_|refine wi ?_|refine Bw ?_|refine C1 ?_|refine C3 ?_|refine j4 ?_|refine yx ?_|refine yy rfl ?_|refine Ep rfl ?_));exact k.out):p:=h ⟨k⟩
theorem WZ (k:q) (h:Hd q->p:=by intro k;(repeat(first|refine zm ?_|refine zA ?_|refine zr ?_|refine zs ?_|refine wF ?_|refine wB ?_|refine wC ?_|refine wD ?_|refine wM ?_|refine wE ?_|refine wN ?_|refine wp ?_|refine wx ?_|refine j3 ?_|refine gT ?_|refine jF ?_|refine sV ?_|refine Bh ?_|refine Bi ?_|refine Bj ?_|refine Bl ?_|refine Bm ?_|refine Bn ?_|refine Bo ?_|refine Bp ?_|refine Bq ?_|refine Bu ?_|refine Bv ?_|refine Br ?_|refine Bt ?_|refine wi ?_|refine Bw ?_|refine C1 ?_|refine C3 ?_|refine C4 ?_|refine j4 ?_|refine yx ?_|refine yy rfl ?_|refine Ep rfl ?_));exact k.out):p:=h ⟨k⟩
theorem oM {D:List Nat} {e e':Env} (h2:p) (h3:q) (h:eA D e e':=by repeat(first|with_reducible exact yI|refine Jh rfl ?_|refine Mh rfl ?_)):eA D e e'∧p∧q:=⟨h,h2,h3⟩
theorem oQ (h:p:=by refine W ?_;exact oM rfl (by first|rfl|exact aj.refl _ _|assumption)):p:=h
section
variable {P:Program} {n:Nat} {ops:Array Oper} {K:Env->World->Prop} {e:Env} {w:World} {l:List Oper} (m tc tp:Nat) (J:World->Prop) {c r:Bool} {p:Prop}
theorem oO (ht:e tc= .bool c) (h1:OW P n ops (λe' w'=>eA (List.range' tc (tp+1-tc)) e e'∧e' tp= .bool true∧J w') (l.take m) (ir e tc (.bool true)) w) [t:uI (c=false) p] 
  (h0:p->OW P n ops (λe' w'=>eA (List.range' tc (tp+1-tc)) e e'∧e' tp= .bool r∧J w') (l.take m) (ir e tc (.bool false)) w)
  (k:∀x w',J w'->OW P n ops K (l.drop m) (ir (bm (List.range' tc (tp+1-tc)) x e) tp (.bool (c||r))) w'):OW P n ops K l e w:=
 Cs m tc tp _ J ht (λ_=>h1) (λh=>h0 (t.imp h)) k
theorem oA (ht:e tc= .bool c) (h0:OW P n ops (λe' w'=>eA (List.range' tc (tp+1-tc)) e e'∧e' tp= .bool false∧J w') (l.take m) (ir e tc (.bool false)) w) [t:uI (c=true) p] 
  (h1:p->OW P n ops (λe' w'=>eA (List.range' tc (tp+1-tc)) e e'∧e' tp= .bool r∧J w') (l.take m) (ir e tc (.bool true)) w)
  (k:∀x w',J w'->OW P n ops K (l.drop m) (ir (bm (List.range' tc (tp+1-tc)) x e) tp (.bool (c&&r))) w'):OW P n ops K l e w:=
 Ml m tc tp _ J ht (λh=>h1 (t.imp h)) (λ_=>h0) k
theorem oP (ht:e tc= .bool c) (h1:OW P n ops (λe' w'=>eA (List.range' tc (tp+1-tc)) e e'∧e' tp= .bool true∧w=w') (l.take m) (ir e tc (.bool true)) w) [t:uI (c=false) p] 
  (h0:p->OW P n ops (λe' w'=>eA (List.range' tc (tp+1-tc)) e e'∧e' tp= .bool r∧w=w') (l.take m) (ir e tc (.bool false)) w)
  (k:∀x,OW P n ops K (l.drop m) (ir (bm (List.range' tc (tp+1-tc)) x e) tp (.bool (c||r))) w):OW P n ops K l e w:=
 Cs m tc tp _ (w=·) ht (λ_=>h1) (λh=>h0 (t.imp h)) λx _ hw=>hw▸k x
theorem oB (ht:e tc= .bool c) (h0:OW P n ops (λe' w'=>eA (List.range' tc (tp+1-tc)) e e'∧e' tp= .bool false∧w=w') (l.take m) (ir e tc (.bool false)) w) [t:uI (c=true) p] 
  (h1:p->OW P n ops (λe' w'=>eA (List.range' tc (tp+1-tc)) e e'∧e' tp= .bool r∧w=w') (l.take m) (ir e tc (.bool true)) w)
  (k:∀x,OW P n ops K (l.drop m) (ir (bm (List.range' tc (tp+1-tc)) x e) tp (.bool (c&&r))) w):OW P n ops K l e w:=
 Ml m tc tp _ (w=·) ht (λh=>h1 (t.imp h)) (λ_=>h0) λx _ hw=>hw▸k x
end
abbrev it (l:List Value):List It:=l.map It.v
theorem dV {n:Nat} {l:List Oper} {N R:Env->World->Prop} {X:Nat->Env->World->Prop} {id:Nat} {e0:Env} {w0:World} (hm:P.follows .mixedOrders=true) (m:Nat) (ds:List Nat) (deps:List (List Nat)) (its:List It) 
  (hB:vA l m ds ds deps=true) (hS:its.all It.Ha=true)
  (hc:∀wd,aj [] w0 wd->rJ P n l.toArray ds ds its e0 wd 0 (l.take m) deps)
  (ht:∀(x:Env) (w:World),aj [] w0 w->dq its ds w (List.range m) λacc=>OW P n l.toArray N (l.drop m) (bo (bm ds x e0) acc) w):
  CW P n (.region id l.toArray true) N R X e0 w0:=lh hm m ds ds deps its hB hS hc ht
section
variable {P:Program} {n:Nat} {ops:Array Oper} {W ds:List Nat} {e0:Env} {wz w0:World} {k:Nat} {o:Oper} {l:List Oper} {d:List Nat} {r:List (List Nat)}
theorem V1 {its:List It} (aC:aj [] wz w0) (hr:rJ P n ops W ds its e0 w0 (k+1) l r) (h:Hb P n ops W ds its e0 w0 k o d:=by intro x w hk;first|exact zm pv|exact zA pv|exact zs pv|exact wF pv|exact wB pv (hb:=aK.ext (by first|with_reducible assumption|assumption) (aj.trans aC hk))|exact wB pv (hb:=dP.iw (dP.ext (by first|with_reducible assumption|assumption) (aj.trans aC hk)))|exact wM pv (hb:=aK.ext (by first|with_reducible assumption|assumption) (aj.trans aC hk))|exact wM pv (hb:=dP.iw (dP.ext (by first|with_reducible assumption|assumption) (aj.trans aC hk)))|exact wC pv (hb:=gH.ext (by first|with_reducible assumption|assumption) (aj.trans aC hk))|exact wC pv (hb:=fF.cells (fF.ext (by first|with_reducible assumption|assumption) (aj.trans aC hk)))|exact wD pv (hb:=gH.ext (by first|with_reducible assumption|assumption) (aj.trans aC hk))|exact wD pv (hb:=fF.cells (fF.ext (by first|with_reducible assumption|assumption) (aj.trans aC hk)))|exact wE pv (hb:=gH.ext (by first|with_reducible assumption|assumption) (aj.trans aC hk))|exact wE pv (hb:=fF.cells (fF.ext (by first|with_reducible assumption|assumption) (aj.trans aC hk)))|exact wN pv|(refine wp ?_;exact pv)|exact wx pv|exact Bh pv|exact Bi pv|exact Bj pv|exact Bl pv|exact Bm pv|exact Bn pv|exact Bo pv|exact Bp pv|exact Bq pv|exact Bu pv|exact Bv pv|exact Br pv|exact Bt pv|exact wi pv|exact Bw pv|exact C1 pv|exact C3 pv|exact C4 pv):rJ P n ops W ds its e0 w0 k (o::l) (d::r):=⟨h,hr⟩
theorem F1 {its:List Ie} {Js:List (List Nat->List Value->World->Prop)} {G0:List Nat} (hr:vU P n ops W ds its Js e0 G0 w0 (k+1) l r) (h:JY P n ops W ds its e0 G0 w0 k o d:=by intro x w G aT bF qg;first|exact zm fv|exact zA fv|exact zs fv|exact wF fv|exact wB fv (hb:=dP.iw (dP.go (by first|with_reducible assumption|assumption) bF))|exact wM fv (hb:=dP.iw (dP.go (by first|with_reducible assumption|assumption) bF))|exact wC fv (hb:=fF.cells (fF.go (by first|with_reducible assumption|assumption) bF))|exact wD fv (hb:=fF.cells (fF.go (by first|with_reducible assumption|assumption) bF))|exact wE fv (hb:=fF.cells (fF.go (by first|with_reducible assumption|assumption) bF))|exact wN fv|(refine wp ?_;exact fv)|exact wx fv|exact Bh fv|exact Bi fv|exact Bj fv|exact Bl fv|exact Bm fv|exact Bn fv|exact Bo fv|exact Bp fv|exact Bq fv|exact Bu fv|exact Bv fv|exact Br fv|exact Bt fv|exact wi fv|exact Bw fv|exact C1 fv|exact C3 fv|exact C4 fv) (hk:(its.getD k mD).kv=none:=by rfl):vU P n ops W ds its Js e0 G0 w0 k (o::l) (d::r):=vf h hr hk
end
theorem VA (k:q) (h:Hd q->p:=by intro k;(repeat(refine V1 aC ?_));exact k.out):p:=h ⟨k⟩
theorem VZ (h:p:=by(repeat(refine V1 aC ?_));exact trivial):p:=h
theorem FZ (h:p:=by(repeat(refine F1 ?_));exact trivial):p:=h
theorem FA (k:q) (h:Hd q->p:=by intro k;(repeat(refine F1 ?_));exact k.out):p:=h ⟨k⟩
/-! ### Rows of zero values -/
theorem Ur (z:Array Value):∀n:Nat,(madeCells z (n*z.size)).toList=(List.replicate n z.toList).flatten
 |0=>by simp[madeCells]
 |n+1=>by
  have ih:=Ur z n
  have e:(madeCells z (n*z.size)).toList=(List.range (n*z.size)).map λi=>z[i%z.size]!:=by simp[madeCells]
  have e2:(madeCells z ((n+1)*z.size)).toList=(List.range ((n+1)*z.size)).map λi=>z[i%z.size]!:=by simp[madeCells]
  rw[e2,Nat.add_mul,Nat.one_mul,Nat.add_comm,List.range_add,List.map_append,List.replicate_succ,List.flatten_cons,<-ih,e]
  congr 1
  ·refine List.ext_getElem sm λi h1 h2=>?_
   have hi:i<z.size:=by simpa using h1
   simp[Nat.mod_eq_of_lt hi,hi]
  ·rw[List.map_map]
   refine List.map_congr_left λi _=>?_
   simp
section
variable {P:Program} {n:Nat} {ops:Array Oper} {K:Env->World->Prop} {rest:List Oper} {e:Env} {w:World}
 {dst:Option Nat} {ty:TypeId} {pos:String} {after:Array Edge} {g:Option (Nat×Bool)} {x y:Operand}
/-! ### Elements that are stored -/
def setAt (cs:Array Value) (k:Nat):List Value->Array Value
 |[]=>cs
 |v::vs=>setAt (cs.setIfInBounds k v) (k+1) vs
theorem NH:∀(vs:List Value) (cs:Array Value) (k:Nat),(setAt cs k vs).size=cs.size:=by intro x;induction x<;>grind [setAt]
theorem J3:∀(vs:List Value) (cs:Array Value) (k:Nat),k+vs.length<=cs.size->(setAt cs k vs).toList=cs.toList.take k++(vs++cs.toList.drop (k+vs.length))
 |[],cs,k,_=>by simp[setAt]
 |v::vs,cs,k,h=>by
  unfold setAt
  simp only[lC] at h
  rw[J3 vs _ _ so,Array.toList_setIfInBounds]
  have hk:k<cs.toList.length:=by simp;omega
  rw[List.take_add_one,List.getElem?_set_self hk,List.take_set_of_le (lR k)]
  rw[List.drop_set_of_lt om]
  simp only[Option.toList_some,List.append_assoc,List.cons_append,List.nil_append,lC]
  rw[show k+1+vs.length=k+(vs.length+1) from by omega]
theorem NI:∀(vs:List Value) (i:Nat) (w:World) (b o:Nat) (U:TypeId) (cs:Array Value),aK w b cs U->o+i+vs.length<=cs.size->(∀u∈vs,u.oneCell'=true)->
  ∃w',(storeCells ⟨b,o,none⟩ vs i).run P w= .ok () w'∧aj [b] w w'∧aK w' b (setAt cs (o+i) vs) U∧w'.heap.size=w.heap.size
 |[],i,w,b,o,U,cs,hb,_,_=>⟨w,rfl,aj.refl _ _,hb,rfl⟩
 |v::vs,i,w,b,o,U,cs,hb,hs,h1=>by
  simp only[lC] at hs
  have fX:o+i<cs.size:=by omega
  have aS:(store ((⟨b,o,none⟩:Addr).add i) v).run P w= .ok () (w.setCell ⟨b,o+i,none⟩ v):=by
   rw[p4,run_store P w _ v _ (h1 v sm),hb.cell,Array.getElem?_eq_getElem fX,hb.frozen]
   simp
  obtain⟨w',hr,hk,gB,hz⟩:=NI vs (i+1) (w.setCell ⟨b,o+i,none⟩ v) b o U (cs.setIfInBounds (o+i) v) (hb.set (o+i) v) so (λu hu=>h1 u (by simp[hu]))
  refine⟨w',?_,(aj.setCell w b (o+i) v).trans hk,gB,by rw[hz];simp[World.setCell]⟩
  simp only[storeCells,Sem.run_bind,aS,Result.andThen_ok]
  exact hr
theorem Us {α:Type}:∀{rows:List (List α)} {i:Nat} {row:List α},(∀r,r∈rows->r.length=sz)->i<rows.length->row.length=sz->(rows.set i row).flatten=rows.flatten.take (i*sz)++(row++rows.flatten.drop (i*sz+sz))
 |r::rows,0,row,h,_,hr=>by
  have h0:r.length=sz:=h r sm
  simp[<-h0]
 |r::rows,i+1,row,h,hi,hr=>by
  have h0:r.length=sz:=h r sm
  have ih:=Us (rows:=rows) (i:=i) (row:=row) (λr hr=>h r (by simp[hr])) (by simpa using hi) hr
  rw[List.set_cons_succ,List.flatten_cons,List.flatten_cons,ih]
  have e1:(i+1)*sz=r.length+i*sz:=by rw[h0,Nat.add_mul];omega
  have e2:(i+1)*sz+sz=r.length+(i*sz+sz):=by omega
  rw[e2,e1,List.take_length_add_append,List.drop_length_add_append,List.append_assoc]
theorem cZ.take {w:World}:∀{k:Nat} {vs:List Value} {cs:List C},cZ L w vs cs->cZ L w (vs.take k) (cs.take k)
 |0,_,_,_=>by simp[cZ]
 |_+1,[],[],_=>trivial
 |_+1,_::_,_::_,h=>⟨h.1,cZ.take h.2⟩
theorem cZ.drop {w:World}:∀{k:Nat} {vs:List Value} {cs:List C},cZ L w vs cs->cZ L w (vs.drop k) (cs.drop k)
 |0,_,_,h=>h
 |_+1,[],[],_=>trivial
 |k+1,_::_,_::_,h=>cZ.drop (k:=k) h.2
theorem afW {T:Nat} {v:Value} {vs:List Value} {row:List C} {B:Nat} {L:List Nat} {E gb:Nat} {N c:Nat} {rows:List (List C)} {b o i:Nat} (j6:TI P T sz bytes z) (hg:gate ops e g=true) 
  (hx:ev e x= .pointer (some ⟨b,o,none⟩)) (hy:ev e y=v) (hv:v.cells=vs.toArray) (ho:o=i*sz) (hO:Gr B L w E sz (.slice (some ⟨b,0,none⟩) N c) (some gb) rows) (hi:i<rows.length) (h1:vs.all Value.oneCell'=true)
  (oN:row.length=sz) (hr:cZ (gb::L) w vs row)
  (k:∀w',aj [gb] w w'->w'.heap.size=w.heap.size->Gr B L w' E sz (.slice (some ⟨b,0,none⟩) N c) (some gb) (rows.set i row)->OW P n ops K rest e w'):
  OW P n ops K (⟨none,.store T x y,ty,pos,after,g⟩::rest) e w:=by
 subst ho
 obtain⟨xs,⟨⟨lB,h|⟨b',cap,cur,mc,NJ,hb,my,l0,bV,ht⟩⟩,iK,iC,xG⟩⟩:=hO.own
 ·obtain⟨h,_⟩:=h;cases h
 ·cases NJ;cases mc
  have gj:vs.length=sz:=by rw[hr.length,oN]
  have hle:(i+1)*sz<=rows.length*sz:=Nat.mul_le_mul_right _ hi
  have Ut:rows.length*sz<=c*sz:=Nat.mul_le_mul_right _ my
  rw[Nat.add_mul,Nat.one_mul] at hle
  obtain⟨w',j5,hk,gB,hz⟩:=NI (P:=P) vs 0 w gb (i*sz) E cur hb (by rw[bV,gj];omega) (λu hu=>List.all_eq_true.1 h1 u hu)
  rw[Nat.add_zero] at gB
  refine I9 hg (w':=w') (by
   simp[execOp,Instr.storeAt,Instr.sureAddr,hx,hy,storeVar,hv,j6.qG,gj,j5]) (k w' hk hz ⟨⟨xs.take (i*sz)++(vs++xs.drop (i*sz+sz)),⟨⟨?_,.inr ⟨gb,c,_,rfl,sm,gB,by simpa using my,l0,by rw[NH];exact bV,?_⟩⟩,?_,?_,xG⟩⟩,hO.low,λx hx=>by rw[hz];exact hO.cF x hx,by rw[hz];exact hO.bsz⟩)
  ·rw[lA,lA,List.length_take,List.length_drop,List.length_set,lB,gj];omega
  ·rw[J3 _ _ _ (by rw[bV,gj];omega),List.length_set,<-ht,gj,List.take_append,List.take_append]
   simp only[List.length_take,Array.length_toList,bV,gj,List.take_take,List.drop_take]
   rw[Nat.min_eq_right (show i*sz<=rows.length*sz by omega),Nat.min_eq_left (show i*sz<=rows.length*sz by omega),Nat.min_eq_left (show i*sz<=c*sz by omega),List.take_of_length_le (l:=vs) om]
   rw[show rows.length*sz-i*sz-sz=rows.length*sz-(i*sz+sz) from by omega]
  ·rw[Us iC hi oN]
   refine cZ.append (cZ.aF iK.take (hk.mono sm)) (cZ.append (hr.aF (hk.mono sm)) (cZ.aF iK.drop (hk.mono sm)))
  ·intro r sk
   rcases List.mem_or_eq_of_mem_set sk with h|h
   ·exact iC r h
   ·rw[h];exact oN
/-! ### Slices that are built of several ak -/
theorem Uu (off:Nat):∀(us:List Value) (i:Nat) (cs:Array Value),((us.zipIdx i).foldl (fun(cs:Array Value) (p:Value×Nat)=>cs.setIfInBounds (off+p.2) p.1) cs)=setAt cs (off+i) us
 |[],_,_=>rfl
 |u::us,i,cs=>by rw[List.zipIdx_cons,List.foldl_cons,Uu off us];rfl
theorem Uv:∀(us:List Value) (vss:List (List Value)) (k:Nat) (cs:Array Value),us.map Value.cells=vss.map List.toArray->(∀vs,vs∈vss->vs.length=sz)->cs.size=(k+us.length)*sz->
  ∃cs',Instr.fill (λi=>some (i*sz,sz)) cs ((us.zipIdx k).map λp=>(p.2,p.1))=some cs'∧cs'.toList=cs.toList.take (k*sz)++vss.flatten
 |[],[],k,cs,_,_,hs=>⟨cs,rfl,by simp only[List.length_nil,Nat.add_zero] at hs;simp only[List.flatten_nil,List.append_nil];rw[List.take_of_length_le (by simp[hs])]⟩
 |[],_::_,_,_,h,_,_=>by simp at h
 |_::_,[],_,_,h,_,_=>by simp at h
 |u::us,vs::vss,k,cs,h,hl,hs=>by
  simp only[List.map_cons,List.cons.injEq] at h
  have gj:vs.length=sz:=hl vs sm
  simp only[lC] at hs
  have e:(k+(us.length+1))*sz=k*sz+sz+us.length*sz:=by rw[Nat.add_mul,Nat.add_mul,Nat.one_mul];omega
  rw[List.zipIdx_cons,List.map_cons]
  obtain⟨cs',h1,h2⟩:=Uv us vss (k+1) (setAt cs (k*sz) vs) h.2 (λv hv=>hl v (by simp[hv])) (by rw[NH,hs];congr 1;omega)
  refine⟨cs',?_,?_⟩
  ·unfold Instr.fill
   simp only[h.1]
   rw[iN (by simp[gj];omega)]
   have h3:=Uu (k*sz) vs 0 cs
   simp only[Nat.add_zero] at h3
   have h4:Array.foldl (fun(cs:Array Value) (p:Value×Nat)=>cs.setIfInBounds (k*sz+p.2) p.1) cs vs.toArray.zipIdx=setAt cs (k*sz) vs:=by rw[<-h3];simp
   rw[h4];exact h1
  ·have e2:(k+1)*sz=k*sz+sz:=by rw[Nat.add_mul,Nat.one_mul]
   have Gq:min (k*sz) cs.size=k*sz:=Nat.min_eq_left om
   rw[h2,J3 _ _ _ (by rw[gj];omega),e2,List.flatten_cons,List.take_append,List.take_append]
   simp only[List.length_take,Array.length_toList,Gq,gj,List.take_take]
   rw[Nat.min_eq_right (show k*sz<=k*sz+sz by omega),show k*sz+sz-k*sz=sz from by omega,List.take_of_length_le (l:=vs) om,Nat.sub_self,List.take_zero,List.append_nil,List.append_assoc]
theorem afX {T:TypeId} {us:List Value} {vss:List (List Value)} (hT:P.underlying T=some (.slice E)) (hE:TI P E sz bytes z) (oC:0<sz) (vX:0<us.length) (dk:us.length*sz<=16777216) 
  (hv:us.map Value.cells=vss.map List.toArray) (hl:∀vs,vs∈vss->vs.length=sz):(Instr.buildSlice T us.length ((us.zipIdx 0).map λp=>(p.2,p.1)).toArray).run P w= .ok (.slice (some ⟨w.heap.size,0,none⟩) us.length us.length) (w.alloc (.cells vss.flatten.toArray E)):=by
 have h0:¬us.length*sz=0:=by
  have:0<us.length*sz:=Nat.mul_pos vX oC
  omega
 have hb:¬(16777216<us.length*sz):=by omega
 obtain⟨cs',hf,bV⟩:=Uv us vss 0 ((Array.range (us.length*sz)).map (z.cells[·%z.cells.size]!)) hv hl sm
 have he:cs'=vss.flatten.toArray:=by apply Array.ext';simpa using bV
 subst he
 simp[Instr.buildSlice,Sem.run_bind,run_underlying hT,Result.andThen_ok,hE.qG,hb,h0,hE.Ja,hf,newRow]
theorem tE {m:Nat} {T:TypeId} {ak:Array (Nat×Operand)} (qs:List Operand) (vss:List (List Value)) (hT:P.underlying T=some (.slice E)) (hE:TI P E sz bytes z) (hg:gate ops e g=true) (hd:cj n dst=true) 
  (hp:ak=((qs.zipIdx 0).map λp=>(p.2,p.1)).toArray) (hm:m=qs.length) (oC:Nat.blt 0 sz=true) (vX:Nat.blt 0 qs.length=true) (dk:Nat.ble (qs.length*sz) 16777216=true)
  (hv:qs.map (λq=>(ev e q).cells)=vss.map List.toArray) (hl:vss.all (λvs=>Nat.beq vs.length sz)=true)
  (k:∀w',aj [] w w'->aK w' w.heap.size vss.flatten.toArray E->w'.heap.size=w.heap.size+1->OW P n ops K rest (bQ e dst (.slice (some ⟨w.heap.size,0,none⟩) m m)) w'):
  OW P n ops K (⟨dst,.buildSlice T m ak,ty,pos,after,g⟩::rest) e w:=by
 subst hp hm
 have Uw:(qs.map (ev e)).length=qs.length:=by simp
 have hr:=afX (P:=P) (w:=w) (us:=qs.map (ev e)) (vss:=vss) hT hE (by simpa[Nat.blt_eq] using oC) (by simpa[Nat.blt_eq] using vX) (by rw[Uw];exact Nat.le_of_ble_eq_true dk) (by rw[List.map_map];exact hv) (λvs h=>Nat.eq_of_beq_eq_true (List.all_eq_true.1 hl vs h))
 rw[Uw] at hr
 have afY:((qs.zipIdx 0).map λp=>(p.2,p.1)).toArray.map (fun(p:Nat×Operand)=>(p.1,ev e p.2))=(((qs.map (ev e)).zipIdx 0).map λp=>(p.2,p.1)).toArray:=by
  rw[List.map_toArray,List.map_map]
  congr 1
  have:∀(qs:List Operand) (i:Nat),(qs.zipIdx i).map ((fun(p:Nat×Operand)=>(p.1,ev e p.2))∘λp=>(p.2,p.1))=((qs.map (ev e)).zipIdx i).map λp=>(p.2,p.1):=by
   intro qs
   induction qs with
   |nil=>intro i;rfl
   |cons q qs ih=>intro i;simp only[List.zipIdx_cons,List.map_cons,List.map,ih];rfl
  exact this qs 0
 exact eJ hg hd (w':=w.alloc (.cells vss.flatten.toArray E)) (by
  have pz:(Array.map (λx=>(x.fst,ev e x.snd)) ((qs.zipIdx 0).map λp=>(p.2,p.1)).toArray)=(((qs.map (ev e)).zipIdx 0).map λp=>(p.2,p.1)).toArray:=afY
  simp only[execOp]
  rw[pz,Sem.run_bind,hr];simp) (k _ (aj.alloc _ _ _) (aK.alloc _ _ _) sm)
/-! ### Slices that are appended whole -/
theorem Ux {w:World}:∀{rows:List (List C)} {f:Nat->List Value},(∀i row,rows[i]?=some row->cZ L w (f i) row)->cZ L w ((List.range rows.length).map f).flatten rows.flatten
 |[],_,_=>trivial
 |r::rows,f,h=>by
  rw[lC,List.range_succ_eq_map,List.map_cons,List.map_map,List.flatten_cons,List.flatten_cons]
  exact(h 0 r rfl).append (Ux (f:=f∘Nat.succ) λi row hi=>h (i+1) row (by simpa using hi))
theorem afZ {w:World} {xs ys:List Value} (h:gH w b off xs) (k:gH w b (off+xs.length) ys):gH w b off (xs++ys):=by grind [gH]
theorem Uy {w:World} {sz:Nat}:∀{n off:Nat} {f:Nat->List Value},(∀i,i<n->(f i).length=sz∧gH w b (off+i*sz) (f i))->gH w b off ((List.range n).map f).flatten
 |0,_,_,_=>λj v hj=>by simp at hj
 |n+1,off,f,h=>by
  rw[List.range_succ_eq_map,List.map_cons,List.map_map,List.flatten_cons]
  obtain⟨h1,h2⟩:=h 0 om
  rw[Nat.zero_mul,Nat.add_zero] at h2
  refine afZ h2 (Uy (sz:=sz) λi hi=>?_)
  obtain⟨h3,h4⟩:=h (i+1) om
  refine⟨h3,?_⟩
  rw[h1]
  rwa [show off+(i+1)*sz=off+sz+i*sz from by rw[Nat.add_mul];omega] at h4
theorem Uz {w:World} {a:Option Addr} {len cap size:Nat} (h:bP L w (.slice a len cap) (.sl size rows)) (hp:0<rows.length):
  ∃b off vs,a=some ⟨b,off,none⟩∧b<w.heap.size∧b∉L∧gH w b off vs∧cZ L w vs rows.flatten∧len=rows.length∧∀row,row∈rows->row.length=size:=by
 cases h with
 |nil=>simp at hp
 |sl b off len cap size rows f hl hc hb hL hs kD iK=>
  refine⟨b,off,((List.range rows.length).map λi=>(List.range size).map (f i)).flatten,rfl,hb,hL,Uy (sz:=size) λi hi=>⟨by simp,λj v hj=>?_⟩,Ux λi row hi=>?_,hl.symm,hs⟩
  ·have yA:j<size:=by have:=(List.getElem?_eq_some_iff.1 hj).1;simpa using this
   have e:f i j=v:=by simpa[List.getElem?_map,yA] using hj
   rw[<-e];exact kD i j om yA
  ·have iC:=hs row (List.mem_of_getElem? hi)
   refine cZ.of (by simp[iC]) λj v c hv pZ=>?_
   have yA:j<size:=by have:=(List.getElem?_eq_some_iff.1 hv).1;simpa using this
   have e:f i j=v:=by simpa[List.getElem?_map,yA] using hv
   rw[<-e];exact iK i j row c hi pZ
theorem UA {t ty T:TypeId} {i:TypeInfo} (ht:P.underlying t=some (.slice T)) (hi:P.info? T=some i) 
  {a:Option Addr} {m cap:Nat} (h:m<=cap) {a2:Option Addr} {c2:Nat}:
  (Builtin.append_ #[t,t] ty #[.slice a m cap,.slice a2 0 c2]).run P w= .ok (.slice a m cap) w:=by
 have hf:(Builtin.firstCells i.size 0 (.slice a2 0 c2)).run P w= .ok #[] w:=by
  cases a2 with
  |none=>simp[Builtin.firstCells]
  |some b=>exact run_firstCells_some (P:=P) (w:=w) i.size 0 b 0 c2 [] sm sm
 cases a<;>simp[Builtin.append_,run_underlying ht,sizeOf,typeInfo,hi,Builtin.lenOf,h,hf,storeCells]
theorem xH {B:Nat} {L:List Nat} {t:Nat} {v:Value} {gb:Option Nat} {rows new:List (List C)} {a2:Option Addr} {n2 c2:Nat} (hT:P.underlying t=some (.slice E)) (hE:TI P E sz bytes z) (hg:gate ops e g=true) (hd:cj n dst=true) (hz:Nat.beq z.cells.size sz=true) (fY:Nat.ble bytes 1000=true) 
  (hx:ev e x=v) (hy:ev e y= .slice a2 n2 c2) (hO:Gr B L w E sz v gb rows) (hr:bP (gb.toList++L) w (.slice a2 n2 c2) (.sl sz new)) (h1:∀row,row∈new->∀c,c∈row->∀v,c= .val v->v.oneCell'=true)
  (hn:rows.length+new.length<100000000)
  (k:∀a' cap' g' w',Gr B L w' E sz (.slice a' (rows.length+new.length) cap') g' (rows++new)->aj gb.toList w w'->OW P n ops K rest (bQ e dst (.slice a' (rows.length+new.length) cap')) w'):
  OW P n ops K (⟨dst,.call {callee:=.builtin .append,args:=#[x,y],argTypes:=#[t,t]},ty,pos,after,g⟩::rest) e w:=by
 obtain⟨xs,hR⟩:=hO.own
 have AE:bytes<=1000:=Nat.le_of_ble_eq_true fY
 by_cases hp:0<new.length
 ·obtain⟨b,off,vs,rfl,hb,rL,hc,J4,rfl,iC⟩:=Uz hr hp
  refine RX hT hE hg hd hz hx hR hy rfl hp iC hc ?_ J4 hO.cF (Nat.le_trans (Nat.mul_le_mul (show rows.length+new.length<=100000000 by omega) (show bytes+1<=1001 by omega)) de) ?_
  ·refine cZ.Gz J4 λc hc v hv=>?_
   obtain⟨row,h2,h3⟩:=List.mem_flatten.1 hc
   exact h1 row h2 c h3 v hv
  ·intro a' cap' g' w' jj hk kT
   refine k a' cap' g' w' ⟨⟨_,jj⟩,λb hb=>?_,λx hx=>lL (hO.cF x hx) hk.size,Nat.le_trans hO.bsz hk.size⟩ hk
   rcases kT with h|h
   ·rw[h] at hb;exact hO.low b hb
   ·rw[h] at hb;cases hb;exact hO.bsz
 ·have od:new=[]:=List.length_eq_zero_iff.1 om
  subst od
  obtain⟨a,cap,rfl⟩:=hR.len
  have h20:n2=0:=by
   obtain⟨_,_,he,_⟩:=sh hr
   cases he;rfl
  subst h20
  have xg:rows.length<=cap:=by
   rcases hR.own.2 with⟨h,h2,_⟩|⟨_,_,_,_,h,_,h2,_⟩
   ·rw[h2];omega
   ·cases h;exact h2
  obtain⟨i,hi,_,_,_⟩:=hE.get
  have j5:=UA (P:=P) (w:=w) (t:=t) (ty:=ty) hT hi (a:=a) (m:=rows.length) (cap:=cap) xg (a2:=a2) (c2:=c2)
  refine eJ hg hd (v:=.slice a rows.length cap) (w':=w) (by
   simp only[execOp,resolve,invoke,builtin,Sem.run_bind,Sem.run_pure,Result.andThen_ok,List.map_toArray,List.map_cons,List.map_nil,hx,hy,j5]) ?_
  have:=k a cap gb w (by simpa using hO) (aj.refl _ _)
  simpa using this
end

section
open Go Go.ChangeShapes Go.WideShapes
theorem af1 {a:Addr} (h:w.cell? a=some v):a=⟨a.block,a.off,none⟩∧a.block<w.heap.size:=by
 obtain⟨b,o,s⟩:=a
 unfold World.cell? at h
 split at h
 ·rename_i c _ _ he
  cases s with
  |some s=>simp at h
  |none=>exact⟨rfl,(Array.getElem?_eq_some_iff.1 he).1⟩
 ·cases h
theorem af2 {a:Addr} (h:a=⟨a.block,a.off,none⟩) (i:Nat):a.add i=⟨a.block,a.off+i,none⟩:=by rw[h];exact p4 _ _ _
section
variable {H:Type} {enc:TypeId×Value->H} {P:Program} {w:World} {held:Bool}
end
end
theorem Ho (a b c:Int) (w:World):bw Tryz.prog 66 [.int .i64 a,.int .i64 b,.int .i64 c] w λv w'=>v= .bool (decide (b<=a)&&decide (a<=c))∧w=w':=by
 refine bU [.tmp 6] 15 Tryz.func66 rfl aek rfl rfl ?_
 refine W ?_
 apply oB 4 10 14 rfl oQ
 intro _
 exact oQ
 intro xx
 refine W ?_
 exact⟨_,rfl,rfl,rfl⟩
theorem af3 (c:UInt8) (w:World):bw Tryz.prog 110 [.int .u8 c.toNat] w λv w'=>v= .bool (fa c)∧w=w':=by
 refine bU [.tmp 2] 33 Tryz.func110 rfl acf rfl rfl ?_
 refine W ?_
 apply oB 3 5 8 rfl oQ
 intro _
 exact oQ
 intro xx
 refine WZ ?_
 apply oP 7 9 16 rfl oQ
 intro _
 refine WZ ?_
 apply oB 3 12 15 rfl oQ
 intro _
 exact oQ
 intro xx
 exact oQ
 intro xx
 refine WZ ?_
 apply oP 3 17 20 rfl oQ
 intro _
 exact oQ
 intro xx
 refine WZ ?_
 apply oP 3 21 24 rfl oQ
 intro _
 exact oQ
 intro xx
 refine WZ ?_
 apply oP 3 25 28 rfl oQ
 intro _
 exact oQ
 intro xx
 refine WZ ?_
 apply oP 3 29 32 rfl oQ
 intro _
 exact oQ
 intro xx
 refine W ?_
 exact⟨_,rfl,congrArg Value.bool (RP c),rfl⟩
def af4 (L:List Nat) (s:ai) (d i:Nat) (v:Value) (w:World):Prop:=
 ∃t tv en,v= .tuple #[tv,.int .i64 en]∧bC L w tv t∧CB s.length (rT d (s.drop i)) t en
theorem af5 (s:ai) (hs:s.length<=12000):∀(d i:Nat) (L:List Nat) (w:World),d<=61->i<=s.length->(∀x,x∈L->x<w.heap.size)->
  bw Tryz.prog 72 [str s,.int .i64 (i:Int),.int .i64 ((61:Int)-(d:Int))] w λv w'=>af4 L s d i v w'∧aj [] w w':=by
 intro d
 induction d with
 |zero=>
  intro i L w hd hi hL
  have hK:=aj.refl [] w
  refine lG [.cell 6 74,.tmp 7] 87 Tryz.func72 rfl JB rfl rfl rfl ?_
  refine zr<|dz aM rfl rfl rfl λw1 aI bO dh=>?_
  have hK:=hK.grow;have hK:=hK.ext aI
  refine zA<|aV<|zr<|jG (GN _) rfl rfl<|dz aM rfl rfl rfl λw2 az db dD=>?_
  have hK:=hK.grow;have hK:=hK.ext az;have bO:=bO.grow;have bO:=bO.ext az
  refine cL aM rfl rfl rfl db rfl λw3 aH db gL=>?_
  have hK:=hK.aD aH sx;have bO:=bO.aD aH sx
  refine aV<|j3<|zr<|zm<|Gi rfl rfl rfl rfl rfl<|zm ?_
  apply Cs 5 15 20 [15,16,17,18,19,20] (λw'=>w3=w') rfl
  intro h1
  replace h1:=jW h1
  refine W ?_
  exact mg rfl rfl
  intro h1
  replace h1:=jW h1
  refine W ?_
  exact mg rfl rfl
  rintro xx _ rfl
  refine aV<|zc rfl (λh2=>?_) (λh2=>?_)
  refine W ?_
  refine cL aM rfl rfl rfl bO rfl λw4 aP bO gQ=>?_
  have hK:=hK.aD aP sx
  refine W ?_
  exact⟨[_,_],⟨gC fc aM rfl bO rfl,rfl⟩,⟨.mk [] [],_,_,rfl,lE pj,rfl⟩,hK⟩
  exfalso
  simp at h2
 |succ d ih=>
  intro i L w hd hi hL
  have hK:=aj.refl [] w
  by_cases fX:i<s.length
  ·have C6:=drop_cons (jv fX)
   have UB:=Gw fa (s.drop i)
   rw[List.length_drop] at UB
   refine lG [.cell 6 74,.tmp 7] 87 Tryz.func72 rfl JB rfl rfl rfl<|zr<|dz aM rfl rfl rfl λw1 aI bO dh=>?_
   have hK:=hK.grow;have hK:=hK.ext aI
   refine zA<|aV<|zr<|jG (GN _) rfl rfl<|dz aM rfl rfl rfl λw2 az db dD=>?_
   have hK:=hK.grow;have hK:=hK.ext az;have bO:=bO.grow;have bO:=bO.ext az
   refine cL aM rfl rfl rfl db rfl λw3 aH db gL=>?_
   have hK:=hK.aD aH sx;have bO:=bO.aD aH sx
   refine W ?_
   apply oP 5 15 20 rfl oQ
   intro _
   exact oQ
   intro xx
   refine aV<|zc rfl (λh2=>?_) (λh2=>?_)
   exfalso
   simp at h2
   omega
   refine W ?_
   refine ko iE rfl rfl rfl rfl (jv fX)<|Je rfl rfl rfl rfl rfl<|aV<|zc rfl (λh3=>?_) (λh3=>?_)
   have dN:s.getD i 0≠40:=λh=>h3 (by rw[h];rfl)
   refine W ?_
   refine dR (λk:Nat=>[(0,str s),(1,.int .i64 (k:Int)),(6,.pointer (some ⟨w.heap.size,0,none⟩)),(8,.pointer (some ⟨w1.heap.size,0,none⟩)),(9,.int .i64 (i:Int))]) (λk w'=>w'=w3∧i<=k∧k-i<=((s.drop i).takeWhile fa).length) (λk=>s.length-k) i (⟨rfl,rfl,rfl,rfl,rfl⟩) (⟨rfl,lR _,om⟩) λgg w4 e4 hI=>?_
   obtain⟨rfl,vE,EY⟩:=hI
   have Hp:=aat s vE EY
   refine WZ ?_
   apply oB 5 31 36 rfl oQ
   intro h4
   refine zm<|zm<|ko iE rfl rfl rfl rfl (jv om)<|aA (af3 _ _) ?_
   rintro _ _ ⟨rfl,rfl⟩
   exact oQ
   intro xx
   refine aV<|zc rfl (λh5=>?_) (λh5=>?_)
   have dY:=Hp.2 (by simpa using h5)
   refine W ?_
   exact⟨gg+1,⟨rfl,rfl,rfl,rfl,rfl⟩,⟨rfl,om,om⟩,om⟩
   have Hq:gg-i=((s.drop i).takeWhile fa).length:=Nat.le_antisymm EY (Nat.le_of_not_lt (λhh=>by have hx:=Hp.1 hh;rw[hx.2,Bool.and_true,decide_eq_false_iff_not] at h5;omega))
   refine W ?_
   refine Cr iE rfl rfl rfl (.inr ⟨_,rfl⟩) (.inr ⟨_,rfl⟩) om om<|zf lK rfl<|gD ba rfl rfl rfl db rfl λw5 aN db gZ=>?_
   have hK:=hK.aD aN sx;have bO:=bO.aD aN sx
   refine W ?_
   refine zc rfl (λh6=>?_) (λh6=>?_)
   have hR:rT (d+1) (s.drop i)=none:=by rw[Hq,Jm] at h6;show eu d _=none;rw[C6,Gy _ _ _ dN,<-C6,iP h6]
   refine W ?_
   refine cL aM rfl rfl rfl bO rfl λw6 bN bO lj=>?_
   have hK:=hK.aD bN sx
   refine W ?_
   exact⟨[_,_],⟨gC fc aM rfl bO rfl,rfl⟩,⟨.mk _ [],_,_,rfl,lE pj,by rw[hR];rfl⟩,hK⟩
   have hR:rT (d+1) (s.drop i)=some (.mk ((s.drop i).takeWhile fa) [],(s.drop i).dropWhile fa):=by rw[Hq,Jm] at h6;show eu d _=_;rw[C6,Gy _ _ _ dN,<-C6,iN h6]
   refine W ?_
   refine cL aM rfl rfl rfl bO rfl λw6 bN bO lj=>?_
   have hK:=hK.aD bN sx
   refine zA<|aV<|j4<|⟨[_,_],⟨gC fc aM rfl bO rfl,rfl⟩,⟨.mk _ [],_,_,rfl,lE pj,?_⟩,hK⟩
   rw[hR]
   refine⟨by rw[Hq,Jm],?_⟩
   rw[Gv,List.length_drop,List.length_drop]
   show(gg:Int)=_
   omega
   have NK:s.getD i 0=40:=UInt8.toNat_inj.1 (by have C7:(40:UInt8).toNat=40:=rfl;rw[C7];omega)
   refine WZ ?_
   refine dR (λq:List aq×Nat×Option Addr×Nat×Option Nat×List Value=>[(0,str s),(1,.int .i64 (q.2.1:Int)),(2,.int .i64 ((61:Int)-((d+1:Nat):Int))),(6,.pointer (some ⟨w.heap.size,0,none⟩)),(8,.pointer (some ⟨w1.heap.size,0,none⟩))]) (λq w'=>aj [] w w'∧aK w' w.heap.size [str [],.slice none 0 0].toArray 74∧aK w' w1.heap.size [str [],.slice q.2.2.1 q.1.length q.2.2.2.1].toArray 74∧ig (w.heap.size::w1.heap.size::L) w' 74 2 (.slice q.2.2.1 q.1.length q.2.2.2.1) q.2.2.2.2.1 (da q.1) q.2.2.2.2.2∧(∀b,q.2.2.2.2.1=some b->w.heap.size<=b)∧q.2.1<s.length∧i<=q.2.1∧q.1.length<=q.2.1∧w1.heap.size<w'.heap.size∧mU d (s.drop (i+1))=(mU d (s.drop (q.2.1+1))).map (λp=>(q.1++p.1,p.2))) (λq=>s.length-q.2.1) (([],i,none,0,none,[])) (⟨rfl,rfl,rfl,rfl,rfl⟩) (⟨hK,bO,db,ig.nil _ _ _ _,sm,fX,lR _,sm,om,sm⟩) λgg w4 e4 hI=>?_
   obtain⟨acc,k,a,cc,g,xs⟩:=gg
   dsimp only at hI⊢
   obtain⟨hK,bO,db,hO,hg,hk,vE,hak,yV,tF⟩:=hI
   have EZ:∀x,x∈g.toList++(w.heap.size::w1.heap.size::L)->x<w4.heap.size:=by intro x hx;simp at hx;rcases hx with hx|rfl|rfl|hx;exact hO.own.lt x hx;omega;omega;have h1:=hL x hx;have h2:=hK.size;omega
   refine WA ?_
   refine Bw ?_
   refine zm<|kR rfl rfl rfl rfl rfl (show IntKind.i64.wrap ((61:Int)-((d+1:Nat):Int)+1)=(61:Int)-(d:Int) by rw[wrap_i64 _ om om];omega)<|aA (ih (k+1) (g.toList++(w.heap.size::w1.heap.size::L)) w4 om om EZ) ?_
   rintro v5 w5 ⟨tG,aN⟩
   have iR:=aN.size
   refine gY aN hK bO db hO λhK bO db hO=>?_
   obtain⟨t,tv,en,rfl,ht,hm⟩:=tG
   obtain⟨pa,pn,pc,rfl,eO,aO⟩:=cY ht
   subst eO
   refine W ?_
   refine dz aM rfl rfl rfl λw6 bN qT lj=>?_
   have hK:=hK.grow;have hK:=hK.ext bN;have bO:=bO.grow;have bO:=bO.ext bN;have db:=db.grow;have db:=db.ext bN;have hO:=hO.alloc bN lj;have ht:=ht.grow;have ht:=ht.ext bN
   refine cL aM rfl rfl rfl qT rfl λw7 bW qT oe=>?_
   have hK:=hK.aD bW sx;have bO:=bO.aD bW sx;have db:=db.aD bW sx;have hO:=hO.aD bW sx;have ht:=ht.aD bW sx
   refine W ?_
   apply oP 5 61 66 rfl oQ
   intro _
   exact oQ
   intro xx
   refine aV<|zc rfl (λh8=>?_) (λh8=>?_)
   have hR:rT (d+1) (s.drop i)=none:=by show eu d _=none;rw[C6,NK,Eu,tF,aau hm (by simpa using h8) om];rfl
   refine W ?_
   refine cL aM rfl rfl rfl bO rfl λw8 cg bO kX=>?_
   have hK:=hK.aD cg sx;have hO:=hO.aD cg sx
   refine W ?_
   exact⟨[_,_],⟨gC fc aM rfl bO rfl,rfl⟩,⟨.mk [] acc,_,_,rfl,lE (hO.done.weaken (λx hx=>by simp[hx])),by rw[hR];rfl⟩,hK⟩
   simp at h8
   obtain⟨m,rfl,RO,NL,ga⟩:=aav hm h8.1 om
   refine W ?_
   refine eR cD aM rfl rfl λw8 cg af6 kX=>kJ cg hK bO db hO ht λhK bO db hO ht=>?_
   refine RY cD aM rfl rfl rfl rfl rfl hO (ph t) af6.all (by simp[Value.oneCell']) (ht.kG.fresh (λx hx=>.inl (RV x hx))) ?_ ?_ ?_
   intro x hx;simp at hx;rcases hx with rfl|rfl|rfl|hx;(·omega);(·omega);(·omega);(·have h1:=hL x hx;have h2:=hK.size;omega)
   rw[iz];omega
   intro a2 og g2 w9 fO aB iT
   have e1:(da acc).length+1=(acc++[t]).length:=by simp[iz]
   have e2:da acc++[t.enc]=da (acc++[t]):=by simp[Mw,da]
   rw[e1] at fO⊢
   rw[e2] at fO
   have dk:=aB.size
   have J6:∀b,g2=some b->w.heap.size<=b:=by intro b hb;rcases iT with h|h;(·rw[h] at hb;exact hg b hb);(·rw[h] at hb;cases hb;omega)
   have hK:=hK.aD aB (λx hx=>.inr (hg x (by simpa using hx)));have bO:=bO.aD aB (hO.sep sm);have db:=db.aD aB (hO.sep sm)
   refine zf jI rfl<|gD EF rfl rfl rfl db rfl λcv cw db Bx=>?_
   have hK:=hK.aD cw sx;have bO:=bO.aD cw sx;have fO:=fO.aD cw sx
   refine W ?_
   refine ko iE rfl rfl rfl rfl (jv NL)<|xf rfl rfl rfl rfl rfl<|aV<|zc rfl (λh9=>?_) (λh9=>?_)
   have By:s.getD m 0=41:=UInt8.toNat_inj.1 (by have C7:(41:UInt8).toNat=41:=rfl;rw[C7];omega)
   have hR:rT (d+1) (s.drop i)=some (.mk [] (acc++[t]),s.drop (m+1)):=by show eu d _=_;rw[C6,NK,Eu,tF,ga,iP By];rfl
   refine W ?_
   refine cL aM rfl rfl rfl bO rfl λew cR bO vY=>?_
   have hK:=hK.aD cR sx;have fO:=fO.aD cR sx
   refine W ?_
   exact⟨[_,_],⟨gC fc aM rfl bO rfl,rfl⟩,⟨.mk [] (acc++[t]),_,_,rfl,lE (fO.done.weaken (λx hx=>by simp[hx])),by rw[hR];exact⟨rfl,by rw[List.length_drop];omega⟩⟩,hK⟩
   have By:s.getD m 0≠41:=λh=>h9 (by rw[h];rfl)
   refine W ?_
   refine ko iE rfl rfl rfl rfl (jv NL)<|Je rfl rfl rfl rfl rfl<|aV<|zc rfl (λgi=>?_) (λgi=>?_)
   have NM:s.getD m 0≠32:=λh=>gi (by rw[h];rfl)
   have hR:rT (d+1) (s.drop i)=none:=by show eu d _=_;rw[C6,NK,Eu,tF,ga,iN By,iN NM];rfl
   refine W ?_
   refine cL aM rfl rfl rfl bO rfl λew cR bO vY=>?_
   have hK:=hK.aD cR sx;have fO:=fO.aD cR sx
   refine W ?_
   exact⟨[_,_],⟨gC fc aM rfl bO rfl,rfl⟩,⟨.mk [] (acc++[t]),_,_,rfl,lE (fO.done.weaken (λx hx=>by simp[hx])),by rw[hR];rfl⟩,hK⟩
   have NM:s.getD m 0=32:=UInt8.toNat_inj.1 (by have C7:(32:UInt8).toNat=32:=rfl;rw[C7];omega)
   refine WZ ?_
   exact⟨(acc++[t],m,a2,og,g2,_),⟨rfl,rfl,rfl,rfl,rfl⟩,⟨hK,bO,db,fO.more (by intro x hx;exact .inl (by simp at hx⊢;rcases hx with hx|hx|hx<;>simp[hx])),J6,NL,by dsimp only;omega,by simp;omega,om,by rw[tF,ga,iN By,iP NM,map_append]⟩,by dsimp only;omega⟩
  refine lG [.cell 6 74,.tmp 7] 87 Tryz.func72 rfl JB rfl rfl rfl<|zr<|dz aM rfl rfl rfl λw1 aI bO dh=>?_
  have hK:=hK.grow;have hK:=hK.ext aI
  refine zA<|aV<|zr<|jG (GN _) rfl rfl<|dz aM rfl rfl rfl λw2 az db dD=>?_
  have hK:=hK.grow;have hK:=hK.ext az;have bO:=bO.grow;have bO:=bO.ext az
  refine cL aM rfl rfl rfl db rfl λw3 aH db gL=>?_
  have hK:=hK.aD aH sx;have bO:=bO.aD aH sx
  refine W ?_
  apply oP 5 15 20 rfl oQ
  intro _
  exact oQ
  intro xx
  refine aV<|zc rfl (λh2=>?_) (λh2=>?_)
  have hR:rT (d+1) (s.drop i)=none:=by rw[List.drop_of_length_le om];exact RS d
  refine W ?_
  refine cL aM rfl rfl rfl bO rfl λw4 aP bO gQ=>?_
  have hK:=hK.aD aP sx
  refine W ?_
  exact⟨[_,_],⟨gC fc aM rfl bO rfl,rfl⟩,⟨.mk [] [],_,_,rfl,lE pj,by rw[hR];rfl⟩,hK⟩
  exfalso
  simp at h2
  omega
theorem yW (s:ai) (L:List Nat) (w:World) (hL:∀x,x∈L->x<w.heap.size):
  bw Tryz.prog 42 [str s] w λv w'=>(∃t tv,v= .tuple #[tv,.bool (bB s).isSome]∧bC L w' tv t∧∀t',bB s=some t'->t=t')∧aj [] w w':=by
 have hK:=aj.refl [] w
 refine lG [.cell 2 74,.tmp 3] 20 Tryz.func42 rfl Tf rfl rfl rfl ?_
 refine zr<|dz aM rfl rfl rfl λw1 aI aR dh=>?_
 have hK:=hK.grow;have hK:=hK.ext aI
 refine W ?_
 refine zc rfl (λh1=>?_) (λh1=>?_)
 have hp:bB s=none:=by unfold bB;rw[iP om]
 refine zr<|jG (GN _) rfl rfl<|cL aM rfl rfl rfl aR rfl λw2 az aR dD=>?_
 have hK:=hK.aD az sx
 refine W ?_
 exact⟨[_,_],⟨gC fc aM rfl aR rfl,rfl⟩,⟨.mk [] [],_,by rw[hp];rfl,lE pj,λt' h=>by rw[hp] at h;cases h⟩,hK⟩
 refine gT<|zr<|zm<|aA (af5 s om 61 0 (w.heap.size::L) w1 om om (by intro x hx;rcases mC.1 hx with rfl|hx;(·omega);(·have:=hL x hx;omega))) ?_
 rintro v2 w2 ⟨gz,az⟩
 have dx:=az.size
 refine bI az hK aR λhK aR=>?_
 obtain⟨t,tv,en,rfl,ht,hm⟩:=gz
 obtain⟨pa,pn,pc,rfl,eO,aO⟩:=cY ht
 refine W ?_
 refine dz aM rfl rfl rfl λw3 aH aG gL=>?_
 have hK:=hK.grow;have hK:=hK.ext aH;have aR:=aR.grow;have aR:=aR.ext aH;have ht:=ht.grow;have ht:=ht.ext aH
 refine cL aM rfl rfl rfl aG rfl λw4 aP aG gQ=>?_
 have hK:=hK.aD aP sx;have aR:=aR.aD aP sx;have ht:=ht.aD aP sx
 refine W ?_
 refine cL aM rfl rfl rfl aR rfl λw5 aN aR gZ=>?_
 have hK:=hK.aD aN sx;have ht:=ht.aD aN sx
 refine W ?_
 have EK:=aaw om hm
 exact⟨[_,_],⟨gC fc aM rfl aR rfl,rfl⟩,⟨t,_,by rw[<-EK.1];rfl,kn.fresh ht (λx hx=>.inl (by simp[hx])),EK.2⟩,hK⟩
theorem J7 (t:aq) (v:Value) (L:List Nat) (w:World) (hv:bC L w v t):bw Tryz.prog 43 [v] w λr w'=>r=str (bX t)∧aj [] w w':=by
 obtain⟨a,n,c,rfl,hn,aO⟩:=cY hv
 have hK:=aj.refl [] w
 refine bU [.tmp 2] 17 Tryz.func43 rfl ad5 rfl rfl ?_
 refine zr<|eK rfl λw1 aI aY dh=>bI aI hK aO λhK aO=>?_
 refine W ?_
 apply oP 5 6 11 rfl oQ
 intro _
 refine WZ ?_
 exact oQ
 intro xx
 refine aV<|zc rfl (λh2=>?_) (λh2=>?_)
 have hh:bX t=[]:=GD (by simp at h2;rcases h2 with h|h;(·exact .inl h);(·right;subst hn;simpa using h))
 refine W ?_
 exact⟨_,rfl,by rw[hh];rfl,hK⟩
 simp at h2
 have h0:=h2.2
 have aQ:∃p0,t.ak[0]?=some p0:=⟨t.ak[0]'om,gE om⟩
 obtain⟨p0,mf⟩:=aQ
 obtain⟨b,off,pa,pn,pc,rfl,eD,eO,ga⟩:=iM aO mf
 have hh:bX t=p0.aw:=GC h2.1 mf
 refine WI ?_
 refine zi (i:=0) cD aM rfl rfl (by rw[hn];exact(List.getElem?_eq_some_iff.1 mf).1) ?_
 refine W ?_
 exact⟨_,rfl,by rw[hh];rfl,hK⟩
theorem UC (s:ai) (hs:s.length<9223372036854775807) (w:World):bw Tryz.prog 100 [str s] w λr w'=>r= .bool (nW s)∧w=w':=by
 refine bU [.tmp 2] 39 Tryz.func100 rfl ab7 rfl rfl ?_
 refine W ?_
 refine dR (λk:Nat=>[(0,str s),(3,.int .i64 (k:Int))]) (λk w'=>w'=w∧k<=s.length∧∀j,j<k->CE s j=true) (λk=>s.length-k) (0) (⟨rfl,rfl⟩) (⟨rfl,om,by intro j hj;omega⟩) λgg w1 e1 hI=>?_
 obtain⟨rfl,hk,cC⟩:=hI
 refine W ?_
 refine zc rfl (λh1=>?_) (λh1=>?_)
 refine W ?_
 refine ko iE rfl rfl rfl rfl (jv om)<|WZ ?_
 apply oB 5 14 19 rfl oQ
 intro h2
 refine zm<|zm<|ko iE rfl rfl rfl rfl (jv om) ?_
 exact oQ
 intro xx
 refine WZ ?_
 apply oP 15 20 35 rfl oQ
 intro h3
 refine WZ ?_
 apply oB 5 23 28 rfl oQ
 intro h4
 refine zm<|zm<|ko iE rfl rfl rfl rfl (jv om) ?_
 exact oQ
 intro xx
 refine WZ ?_
 apply oB 5 29 34 rfl oQ
 intro h5
 refine zm<|zm<|ko iE rfl rfl rfl rfl (jv om) ?_
 exact oQ
 intro xx
 exact oQ
 intro xx
 refine kF rfl rfl rfl<|aV<|zc rfl (λh6=>?_) (λh6=>?_)
 rw[Ju] at h6
 refine W ?_
 exact⟨_,rfl,by rw[Sd om h6];rfl,rfl⟩
 rw[Ju] at h6
 refine W ?_
 exact⟨gg+1,⟨rfl,rfl⟩,⟨rfl,om,Sf cC h6⟩,om⟩
 refine W ?_
 exact⟨_,rfl,by rw[Se (λj hj=>cC j om)];rfl,rfl⟩
def Hr (s:ai):Value:=.tuple #[.int .i64 ((numeral s).getD 0),.bool (numeral s).isSome]
theorem J8 (s:ai) (w:World):bw Tryz.prog 170 [str s] w λv w'=>v=Hr s∧w=w':=by
 refine bU [.tmp 2,.tmp 3] 57 Tryz.func170 rfl ac1 rfl rfl ?_
 refine W ?_
 apply oB 4 12 16 rfl oQ
 intro h1
 refine zm<|ko (i:=0) iE rfl rfl rfl rfl (jv om) ?_
 exact oQ
 intro xx
 refine W ?_
 refine iS (λ_:Unit=>[(0,str s),(4,.int .i64 (rz s)),(5,str (eC s))]) (λ_ w'=>w'=w) ?_ ?_
 refine zc rfl (λh2=>?_) (λh2=>?_)
 have hm:0<s.length∧s.getD 0 0=45:=by have Hs:=Sb 45 (s.getD 0 0);simp only[show((45:UInt8).toNat:Int)=45 from rfl] at Hs;rw[Hs] at h2;simpa using h2
 refine W ?_
 refine Cr (l:=1) iE rfl rfl rfl (.inr ⟨_,rfl⟩) (.inl ⟨rfl,rfl⟩) om om<|zA<|aV ?_
 exact⟨(),⟨rfl,by rw[rz,iP hm];rfl,by have h1:eC s=(s.drop 1).take (s.length-1):=by{rw[eC,iP hm,List.take_of_length_le sm]};rw[h1];exact rfl⟩,rfl⟩
 have hm:¬(0<s.length∧s.getD 0 0=45):=by have Hs:=Sb 45 (s.getD 0 0);simp only[show((45:UInt8).toNat:Int)=45 from rfl] at Hs;rw[Hs] at h2;simpa using h2
 refine WZ ?_
 exact⟨(),⟨rfl,by rw[rz,iN hm];rfl,by rw[eC,iN hm];exact rfl⟩,rfl⟩
 intro gu w1 e1 hI
 obtain rfl:=hI
 refine W ?_
 refine zc rfl (λh3=>?_) (λh3=>?_)
 have hn:numeral s=some 0:=by unfold numeral;rw[iP h3]
 refine W ?_
 exact⟨_,rfl,by unfold Hr;rw[hn];rfl,rfl⟩
 have oC:=h3
 refine W ?_
 refine aA (Ho _ _ _ _) ?_
 rintro _ _ ⟨rfl,rfl⟩
 refine WZ ?_
 apply oP 4 25 29 rfl oQ
 intro h4
 simp at h4
 refine zm<|ko (i:=0) iE rfl rfl rfl rfl (jv om) ?_
 exact oQ
 intro xx
 refine aV<|zc rfl (λh5=>?_) (λh5=>?_)
 have hn:numeral s=none:=aaG oC (aaK h5)
 refine W ?_
 exact⟨_,rfl,by unfold Hr;rw[hn];rfl,rfl⟩
 have hd:=aaL h5
 refine W ?_
 refine dR (λk:Nat=>[(4,.int .i64 (rz s)),(5,str (eC s)),(6,.int .i64 (val ((eC s).take k):Nat)),(7,.int .i64 (k:Int))]) (λk w'=>w'=w1∧k<=(eC s).length∧((eC s).take k).all iv=true) (λk=>(eC s).length-k) (0) (⟨rfl,rfl,rfl,rfl⟩) (⟨rfl,om,sm⟩) λgg w2 e2 hI=>?_
 obtain⟨rfl,hk,cC⟩:=hI
 refine W ?_
 refine zc rfl (λh6=>?_) (λh6=>?_)
 have dY:gg<(eC s).length:=by omega
 have hv:=R9 _ cC
 have gz:val ((eC s).take gg)<100:=lL hv (Nat.le_trans (Nat.pow_le_pow_right om (show((eC s).take gg).length<=2 by simp;omega)) de)
 clear hv
 refine W ?_
 refine ko iE rfl rfl rfl rfl (jv dY)<|WZ ?_
 apply oP 5 40 45 rfl oQ
 intro _
 refine zm<|zm<|ko iE rfl rfl rfl rfl (jv dY) ?_
 exact oQ
 intro xx
 refine aV<|zc rfl (λh8=>?_) (λh8=>?_)
 have hn:numeral s=none:=aaH oC dY (Sh h8)
 refine W ?_
 exact⟨_,rfl,by unfold Hr;rw[hn];rfl,rfl⟩
 have hc:=Si h8
 have bK:=hc.1
 have bY:=hc.2.1
 refine W ?_
 refine ko iE rfl rfl rfl rfl (jv dY)<|yD rfl rfl rfl rfl rfl (wrap_u8 _ om om)<|yF yM xq rfl rfl rfl (wrap_i64 _ om om)<|W ?_
 exact⟨gg+1,⟨rfl,rfl,by rw[MC dY,R8];show Value.int _ _=Value.int _ _;congr 1;omega,rfl⟩,⟨rfl,om,by rw[MC dY,List.all_append,cC];simp only[List.all_cons,hc.2.2];rfl⟩,om⟩
 have fG:(eC s).take gg=eC s:=List.take_of_length_le om
 rw[fG] at cC
 have hv:=R9 _ cC
 have gz:val (eC s)<1000:=lL hv (Nat.le_trans (Nat.pow_le_pow_right om hd.2.1) de)
 clear hv
 rw[fG]
 have dk:=aaJ s
 have hmul: -1000<rz s*(val (eC s):Int)∧rz s*(val (eC s):Int)<1000:=by rcases dk with h|h<;>rw[h]<;>omega
 refine W ?_
 exact⟨_,rfl,by unfold Hr;rw[aaI oC hd cC];rfl,rfl⟩
theorem af7 (t:aq) (v:Value) (L:List Nat) (w:World) (hv:bC L w v t):bw Tryz.prog 203 [v] w λr w'=>r= .int .i64 (AG t.aw)∧aj [] w w':=by
 obtain⟨a,n,c,rfl,hn,aO⟩:=cY hv
 have hK:=aj.refl [] w
 refine bU [.tmp 2] 19 Tryz.func203 rfl adx rfl rfl ?_
 refine zr<|eK rfl λw1 aI aY dh=>?_
 have hK:=hK.ext aI
 refine W ?_
 refine aA (J8 _ _) ?_
 rintro _ _ ⟨rfl,rfl⟩
 refine W ?_
 apply oP 4 13 17 rfl oQ
 intro _
 refine zm<|aA (Ho _ _ _ _) ?_
 rintro _ _ ⟨rfl,rfl⟩
 exact oQ
 intro xx
 refine aV<|zc rfl (λh2=>?_) (λh2=>?_)
 have hr:AG t.aw= -1:=by unfold AG;cases hn:numeral t.aw with|none=>rfl|some k=>rw[hn] at h2;simp at h2;exact iN om
 refine W ?_
 exact⟨_,rfl,by rw[hr];rfl,hK⟩
 have hr:AG t.aw=(numeral t.aw).getD 0:=by unfold AG;cases hn:numeral t.aw with|none=>rw[hn] at h2;simp at h2|some k=>rw[hn] at h2;simp at h2;exact iP om
 refine W ?_
 exact⟨_,rfl,by rw[hr];rfl,hK⟩
theorem NN:∀(m:Nat) (t:aq),t.size<=m->t.size<=100000->WF t->∀(hidden:Bool) (v:Value) (L:List Nat) (w:World),bC L w v t->
  bw Tryz.prog 138 [v,.bool hidden,.bool false] w λr w'=>r= .bool (fl hidden t)∧aj [] w w':=by
 intro m
 induction m with
 |zero=>intro t h;cases t;simp[aq.size] at h
 |succ m ih=>
  intro t hm pz cB hidden v L w hv
  obtain⟨a,n,c,rfl,hn,aO⟩:=cY hv
  have hK:=aj.refl [] w
  have nj:=xo t
  refine bU [.tmp 6] 72 Tryz.func138 rfl acB rfl rfl ?_
  refine zr<|eK rfl λw1 aI cW dh=>bI aI hK aO λhK aO=>?_
  refine W ?_
  refine zc rfl (λh1=>?_) (λh1=>?_)
  refine WZ ?_
  apply oP 7 15 22 rfl oQ
  intro _
  refine WZ ?_
  apply oB 4 17 21 rfl oQ
  intro _
  refine WZ ?_
  exact oQ
  intro xx
  exact oQ
  intro xx
  refine WZ ?_
  apply oP 7 23 30 rfl oQ
  intro _
  refine zm<|zm<|yH (t:=25) (b:=false) rfl ?_
  exact oQ
  intro xx
  refine W ?_
  exact⟨_,rfl,show Value.bool _=Value.bool _ from congrArg _ (by rw[Sm h1,Bool.or_false]),hK⟩
  have ha:t.aw=[]:=Classical.not_not.1 h1
  have kK:=cB.pos ha
  have mf:=gh kK
  obtain⟨b,off,pa,pn,pc,rfl,eD,eO,ga⟩:=iM aO mf
  refine WI ?_
  refine zi (i:=0) cD aM rfl rfl (by rw[hn];exact kK)<|W ?_
  refine zc rfl (λh5=>?_) (λh5=>?_)
  refine WZ ?_
  apply oA 7 42 49 (aj [] w1) rfl oQ
  intro h6
  have hlen:t.ak.length=2:=by omega
  have nk:=gh (ps:=t.ak) (i:=1) om
  obtain⟨b1,eX,gR,rM,gF,aY,bK,tH,pF⟩:=iM aO nk
  cases aY
  refine zf jI rfl<|zl iW rfl (cW.at rfl)<|zi (i:=1) cD aM rfl rfl om<|zL fc aM rfl bK rfl<|zm<|aA (ih (nth t.ak 1) (by have:=lI (t:=t) (i:=1) om;omega) (by have:=lI (t:=t) (i:=1) om;omega) (cB.nth om) true _ L w1 (lF pF)) ?_
  rintro _ w2 ⟨rfl,az⟩
  have dx:=az.size
  exact oQ
  intro xx w2 az
  have hK:=hK.ext az
  refine zA<|aV<|j4<|⟨_,rfl,show Value.bool _=Value.bool _ from congrArg _ ?_,hK⟩
  rw[MF ha kK h5]
  congr 1
  exact decide_eq_decide.2 om
  have dN:=h5
  refine WZ ?_
  apply oB 3 52 55 rfl oQ
  intro _
  exact oQ
  intro xx
  refine aV<|zc rfl (λh8=>?_) (λh8=>?_)
  have hb:=Sn ha kK dN (aaS h8)
  refine W ?_
  exact⟨_,rfl,by rw[hb];rfl,hK⟩
  have uy:(nth t.ak 0).aw=[116]∨(nth t.ak 0).aw=[99]:=aaR h8
  refine W ?_
  refine dR (λk:Nat=>[(3,.pointer (some ⟨w.heap.size,0,none⟩)),(1,.bool hidden),(2,.bool false),(8,.int .i64 (k:Int))]) (λk w'=>aj [] w w'∧aj [] w1 w'∧1<=k∧k<=t.ak.length∧(t.ak.drop 1).all (fl hidden)=(t.ak.drop k).all (fl hidden)) (λk=>t.ak.length-k) (1) (⟨rfl,rfl,rfl,rfl⟩) (⟨hK,aj.refl [] _,om,om,rfl⟩) λgg w2 e2 hI=>?_
  obtain⟨hK,aI,hk,eM,cC⟩:=hI
  refine bI aI aO cW λaO cW=>?_
  refine W ?_
  refine zc rfl (λh9=>?_) (λh9=>?_)
  have hp:=gh (ps:=t.ak) (i:=gg) om
  obtain⟨b1,eX,gR,rM,gF,aY,bK,tH,pF⟩:=iM aO hp
  cases aY
  refine W ?_
  refine aA (ih (nth t.ak gg) (by have:=lI (t:=t) (i:=gg) om;omega) (by have:=lI (t:=t) (i:=gg) om;omega) (cB.nth om) hidden _ L w2 (lF pF)) ?_
  rintro _ w3 ⟨rfl,aH⟩
  have fh:=aH.size
  refine bI aH hK aI λhK aI=>?_
  refine kF rfl rfl rfl<|aV<|zc rfl (λgi=>?_) (λgi=>?_)
  have hb:fl hidden t=false:=by rw[MG ha kK uy,cC,So om,gi];rfl
  refine W ?_
  exact⟨_,rfl,by rw[hb];rfl,hK⟩
  refine W ?_
  exact⟨gg+1,⟨rfl,rfl,rfl,rfl⟩,⟨hK,aI,om,om,by rw[cC,So om,gi];rfl⟩,om⟩
  have hb:fl hidden t=true:=by rw[MG ha kK uy,cC,List.drop_of_length_le om];rfl
  refine W ?_
  exact⟨_,rfl,by rw[hb];rfl,hK⟩

theorem af8 (t:aq) (hs:t.size<=100000) (cB:WF t) (z:Int) (v:Value) (L:List Nat) (w:World) (hv:bC L w v t):
  bw Tryz.prog 169 [v,.int .u8 z] w λr w'=>r= .bool (jl z t)∧aj [] w w':=by
 have cQ:=hv
 obtain⟨a,n,c,rfl,hn,aO⟩:=cY hv
 have hK:=aj.refl [] w
 have C8:=yL t
 refine bU [.tmp 4] 39 Tryz.func169 rfl acZ rfl rfl ?_
 refine zr<|eK rfl λw1 aI aR dh=>bI aI hK cQ λhK cQ=>?_
 refine W ?_
 refine iS (λ_:Unit=>[(2,.pointer (some ⟨w.heap.size,0,none⟩)),(7,.int .u8 z),(8,.bool (decide (z=114)||decide (z=42)))]) (λ_ w'=>w'=w1) ?_ ?_
 refine zc rfl (λh1=>?_) (λh1=>?_)
 refine WZ ?_
 exact⟨(),⟨rfl,rfl,congrArg Value.bool (AH h1)⟩,rfl⟩
 refine W ?_
 exact⟨(),⟨rfl,rfl,congrArg Value.bool (AI h1)⟩,rfl⟩
 intro gu w2 e2 hI
 obtain rfl:=hI
 refine zc rfl (λh2=>?_) (λh2=>?_)
 have hc:=AJ h2
 refine W ?_
 refine aA (af7 t _ L w2 cQ) ?_
 rintro _ w3 ⟨rfl,aH⟩
 have fh:=aH.size
 have hK:=hK.ext aH
 refine W ?_
 exact⟨_,rfl,show Value.bool _=Value.bool _ from congrArg _ (by rw[jl,iP hc];rfl),hK⟩
 have hc:=AK h2
 refine W ?_
 refine zc rfl (λh3=>?_) (λh3=>?_)
 have bK:=h3
 refine W ?_
 refine aA (J8 _ _) ?_
 rintro _ _ ⟨rfl,rfl⟩
 refine W ?_
 exact⟨_,rfl,show Value.bool _=Value.bool _ from congrArg _ (by rw[jl,iN hc,iP bK]),hK⟩
 have bK:=h3
 refine W ?_
 refine zc rfl (λh4=>?_) (λh4=>?_)
 have bY:=h4
 refine W ?_
 refine aA (UC _ om _) ?_
 rintro _ _ ⟨rfl,rfl⟩
 refine W ?_
 exact⟨_,rfl,show Value.bool _=Value.bool _ from congrArg _ (by rw[jl,iN hc,iN bK,iP bY]),hK⟩
 have bY:=h4
 refine W ?_
 refine zc rfl (λh5=>?_) (λh5=>?_)
 have dS:=h5
 refine W ?_
 refine aA (J7 t _ L w2 cQ) ?_
 rintro _ w3 ⟨rfl,aH⟩
 have fh:=aH.size
 refine cJ aH hK cQ aR λhK cQ aR=>?_
 refine WZ ?_
 apply oA 3 33 36 (aj [] w3) rfl oQ
 intro _
 refine W ?_
 refine aA (NN t.size t (lR _) hs cB false _ L w3 cQ) ?_
 rintro _ w4 ⟨rfl,aP⟩
 have fH:=aP.size
 exact oQ
 intro xx w4 aP
 have hK:=hK.ext aP
 refine W ?_
 exact⟨_,rfl,show Value.bool _=Value.bool _ from congrArg _ (by rw[jl,iN hc,iN bK,iN bY,iP dS]),hK⟩
 have dS:=h5
 refine W ?_
 refine aA (NN t.size t (lR _) hs cB false _ L w2 cQ) ?_
 rintro _ w3 ⟨rfl,aH⟩
 have fh:=aH.size
 have hK:=hK.ext aH
 refine W ?_
 exact⟨_,rfl,show Value.bool _=Value.bool _ from congrArg _ (by rw[jl,iN hc,iN bK,iN bY,iN dS]),hK⟩
theorem af9 (h:ai) (w:World):bw Tryz.prog 168 [str h] w λr w'=>r=str (shapeOf h)∧w=w':=by
 refine bU [.tmp 2] 25 Tryz.func168 rfl acY rfl rfl ?_
 refine W ?_
 refine zc rfl (λh1=>?_) (λh1=>?_)
 have hc:=h1
 refine W ?_
 exact⟨_,rfl,show str _=str _ from congrArg _ (by rw[shapeOf,iP hc]),rfl⟩
 have hc:=h1
 refine W ?_
 refine iS (λ_:Unit=>[(3,str h),(6,.bool (decide (h=[109,111,118])||decide (h=[111,112,101,110])))]) (λ_ w'=>w'=w) ?_ ?_
 refine zc rfl (λh2=>?_) (λh2=>?_)
 refine WZ ?_
 exact⟨(),⟨rfl,congrArg Value.bool (AH h2)⟩,rfl⟩
 refine W ?_
 exact⟨(),⟨rfl,congrArg Value.bool (AI h2)⟩,rfl⟩
 intro gu w1 e1 hI
 obtain rfl:=hI
 refine zc rfl (λh3=>?_) (λh3=>?_)
 have bK:=AJ h3
 refine W ?_
 exact⟨_,rfl,show str _=str _ from congrArg _ (by rw[shapeOf,iN hc,iP bK]),rfl⟩
 have bK:=AK h3
 refine W ?_
 refine iS (λ_:Unit=>[(3,str h),(9,.bool (decide (h=[97,100,100])||decide (h=[115,117,98])||decide (h=[109,117,108])))]) (λ_ w'=>w'=w1) ?_ ?_
 refine zc rfl (λh4=>?_) (λh4=>?_)
 refine WZ ?_
 exact⟨(),⟨rfl,congrArg Value.bool (Sr h4)⟩,rfl⟩
 have fu:=h4
 refine W ?_
 refine zc rfl (λh5=>?_) (λh5=>?_)
 refine WZ ?_
 exact⟨(),⟨rfl,congrArg Value.bool (Ss fu h5)⟩,rfl⟩
 refine W ?_
 exact⟨(),⟨rfl,congrArg Value.bool (St fu h5)⟩,rfl⟩
 intro gu w2 e2 hI
 obtain rfl:=hI
 refine zc rfl (λh6=>?_) (λh6=>?_)
 have bY:=Su h6
 refine W ?_
 exact⟨_,rfl,show str _=str _ from congrArg _ (by rw[shapeOf,iN hc,iN bK,iP bY]),rfl⟩
 have bY:=Sv h6
 refine W ?_
 refine zc rfl (λh7=>?_) (λh7=>?_)
 have dS:=h7
 refine W ?_
 exact⟨_,rfl,show str _=str _ from congrArg _ (by rw[shapeOf,iN hc,iN bK,iN bY,iP dS]),rfl⟩
 have dS:=h7
 refine W ?_
 refine zc rfl (λh8=>?_) (λh8=>?_)
 have jK:=h8
 refine W ?_
 exact⟨_,rfl,show str _=str _ from congrArg _ (by rw[shapeOf,iN hc,iN bK,iN bY,iN dS,iP jK]),rfl⟩
 have jK:=h8
 refine W ?_
 refine iS (λ_:Unit=>[(3,str h),(17,.bool (decide (h=[108,97,98])||decide (h=[122,101,114,111])))]) (λ_ w'=>w'=w2) ?_ ?_
 refine zc rfl (λh9=>?_) (λh9=>?_)
 refine WZ ?_
 exact⟨(),⟨rfl,congrArg Value.bool (AH h9)⟩,rfl⟩
 refine W ?_
 exact⟨(),⟨rfl,congrArg Value.bool (AI h9)⟩,rfl⟩
 intro gu w3 e3 hI
 obtain rfl:=hI
 refine zc rfl (λgi=>?_) (λgi=>?_)
 have kx:=AJ gi
 refine W ?_
 exact⟨_,rfl,show str _=str _ from congrArg _ (by rw[shapeOf,iN hc,iN bK,iN bY,iN dS,iN jK,iP kx]),rfl⟩
 have kx:=AK gi
 refine W ?_
 refine zc rfl (λpC=>?_) (λpC=>?_)
 have qU:=pC
 refine W ?_
 exact⟨_,rfl,show str _=str _ from congrArg _ (by rw[shapeOf,iN hc,iN bK,iN bY,iN dS,iN jK,iN kx,iP qU]),rfl⟩
 have qU:=pC
 refine W ?_
 refine iS (λ_:Unit=>[(3,str h),(22,.bool (decide (h=[106,117,109,112])||decide (h=[104,97,108,116])))]) (λ_ w'=>w'=w3) ?_ ?_
 refine zc rfl (λkW=>?_) (λkW=>?_)
 refine WZ ?_
 exact⟨(),⟨rfl,congrArg Value.bool (AH kW)⟩,rfl⟩
 refine W ?_
 exact⟨(),⟨rfl,congrArg Value.bool (AI kW)⟩,rfl⟩
 intro gu w4 e4 hI
 obtain rfl:=hI
 refine zc rfl (λpD=>?_) (λpD=>?_)
 have Bz:=AJ pD
 refine W ?_
 exact⟨_,rfl,show str _=str _ from congrArg _ (by rw[shapeOf,iN hc,iN bK,iN bY,iN dS,iN jK,iN kx,iN qU,iP Bz]),rfl⟩
 have Bz:=AK pD
 refine W ?_
 exact⟨_,rfl,show str _=str _ from congrArg _ (by rw[shapeOf,iN hc,iN bK,iN bY,iN dS,iN jK,iN kx,iN qU,iN Bz]),rfl⟩
theorem UD (t:aq) (hs:t.size<=100000) (cB:WF t) (v:Value) (L:List Nat) (w:World) (hv:bC L w v t):
  bw Tryz.prog 139 [v] w λr w'=>r= .bool (l3 t)∧aj [] w w':=by
 have cQ:=hv
 obtain⟨a,n,c,rfl,hn,aO⟩:=cY hv
 have hK:=aj.refl [] w
 have C8:=xo t
 have oh:=aaW (bX t)
 refine bU [.tmp 2] 67 Tryz.func139 rfl acC rfl rfl ?_
 refine zr<|eK rfl λw1 aI aY dh=>cJ aI hK aO cQ λhK aO cQ=>?_
 refine W ?_
 refine aA (J7 t _ L w1 cQ) ?_
 rintro _ w2 ⟨rfl,az⟩
 have dx:=az.size
 refine cJ az hK aO aY λhK aO aY=>?_
 refine aA (af9 _ _) ?_
 rintro _ _ ⟨rfl,rfl⟩
 refine W ?_
 refine zc rfl (λh1=>?_) (λh1=>?_)
 refine W ?_
 exact⟨_,rfl,by rw[Sx h1];rfl,hK⟩
 have dN:=h1
 refine WZ ?_
 apply oB 8 14 22 rfl oQ
 intro h2
 refine WZ ?_
 exact oQ
 intro xx
 refine WZ ?_
 apply oP 5 23 28 rfl oQ
 intro _
 refine WZ ?_
 exact oQ
 intro xx
 refine aV<|zc rfl (λh4=>?_) (λh4=>?_)
 have hb:=(Sw hn).symm.trans h4
 refine W ?_
 exact⟨_,rfl,by rw[MJ hb];rfl,hK⟩
 have hb:=(Sw hn).symm.trans h4
 have h2:=aaV hb
 have nX:=MI dN
 refine W ?_
 refine dR (λk:Nat=>[(1,.pointer (some ⟨w.heap.size,0,none⟩)),(3,str (shapeOf (bX t))),(4,.int .i64 (k:Int))]) (λk w'=>aj [] w w'∧aj [] w2 w'∧1<=k∧k<=t.ak.length∧∀i,i<k->1<=i->uq t i=true) (λk=>t.ak.length-k) (1) (⟨rfl,rfl,rfl⟩) (⟨hK,aj.refl [] _,om,om,by intro i hi h1;omega⟩) λgg w3 e3 hI=>?_
 obtain⟨hK,aI,hk,eM,cC⟩:=hI
 refine bI aI aO aY λaO aY=>?_
 refine W ?_
 refine zc rfl (λh5=>?_) (λh5=>?_)
 have hp:=gh (ps:=t.ak) (i:=gg) om
 obtain⟨b,off,pa,pn,pc,rfl,hc,eO,ga⟩:=iM aO hp
 have nV:=List.length_pos_iff.2 dN
 refine WZ ?_
 apply lh dv 14 (rA 36 14) (rA 36 14) [[],[0],[],[1,2],[3],[],[],[],[7],[6,8],[9],[5,10],[4,11],[12]] [It.v _,It.v _,It.v _,It.v _,It.v _,It.v _,It.v _,It.v _,It.v _,It.v _,It.v _,It.v _,It.v _,It.v (.bool (!uq t gg))] de rfl
 intro wd aC
 refine VA ?_
 refine vk aC (λx w4 aP=>?_) ?_
 refine aaD rfl rfl rfl rfl (show(if((shapeOf (bX t)).length:Int)<(gg:Int) then((shapeOf (bX t)).length:Int) else(gg:Int))=((min gg (shapeOf (bX t)).length:Nat):Int) from by split<;>omega) ?_
 exact pv
 refine vk aC (λx w4 aP=>?_) ?_
 refine yD rfl rfl rfl rfl rfl (show IntKind.i64.wrap (((min gg (shapeOf (bX t)).length:Nat):Int)-1)=((min gg (shapeOf (bX t)).length-1:Nat):Int) from by rw[wrap_i64 _ om om];omega) ?_
 exact pv
 refine vk aC (λx w4 aP=>?_) ?_
 refine ko iE rfl rfl rfl rfl (jv om) ?_
 exact pv
 refine vk aC (λx w4 aP=>?_) ?_
 have ga:=ga.ext aP
 refine aA (af8 (nth t.ak gg) (by have:=lI (t:=t) (i:=gg) om;omega) (cB.nth om) _ _ L w4 (lF ga)) ?_
 rintro _ w5 ⟨rfl,aN⟩
 have iR:=aN.size
 exact pk aN
 exact VZ
 intro x pG jL
 refine bI jL hK aI λhK aI=>?_
 change OW _ _ _ _ [] (bo (bm _ x _) (zZ 36 [_,_,_,_,_,_,_,_,_,_,_,_,_,_])) _
 refine aV<|zc rfl (λh6=>?_) (λh6=>?_)
 have hq:uq t gg=false:=by simpa using h6
 refine W ?_
 exact⟨_,rfl,by rw[aaX om hk hq];rfl,hK⟩
 have hq:uq t gg=true:=by simpa using h6
 refine W ?_
 exact⟨gg+1,⟨rfl,rfl,rfl⟩,⟨hK,aI,om,om,by intro i hi h1;rcases Nat.lt_or_ge i gg with h|h;exact cC i h h1;rw[show i=gg by omega];exact hq⟩,om⟩
 have aR:=aaY dN hb (λi hi=>cC i om)
 have mf:=gh nX.2.1
 obtain⟨b,off,pa,pn,pc,rfl,eD,eO,ga⟩:=iM aO mf
 refine WI ?_
 refine zi (i:=0) cD aM rfl rfl (by rw[hn];exact nX.2.1)<|W ?_
 refine zc rfl (λh7=>?_) (λh7=>?_)
 have hg:bX t=[103,101,116]:=nX.2.2.trans h7
 have C9:=aaU hb hg
 have BA:=gh (ps:=t.ak) (i:=3) om
 obtain⟨b1,eX,gR,rM,gF,fT,bK,tH,pF⟩:=iM aO BA
 cases fT
 refine zr<|zf jI rfl<|zl iW rfl (aY.at rfl)<|zi (i:=3) cD aM rfl rfl om<|zf lK rfl<|zl fo rfl (bK 0 _ rfl)<|aA (J8 _ _) ?_
 rintro _ _ ⟨rfl,rfl⟩
 refine W ?_
 exact⟨_,rfl,show Value.bool _=Value.bool _ from congrArg _ (by rw[aR,show decide (bX t≠[103,101,116])=false from dF (λh=>h hg),Bool.false_or]),hK⟩
 have hg:bX t≠[103,101,116]:=λh=>h7 (nX.2.2.symm.trans h)
 refine W ?_
 exact⟨_,rfl,by rw[aR,dT hg];rfl,hK⟩
theorem aga (s:ai) (w:World):bw Tryz.prog 101 [str s] w λr w'=>r= .bool (s0 s)∧aj [] w w':=by
 have hK:=aj.refl [] w
 refine bU [.tmp 2] 15 Tryz.func101 rfl ab8 rfl rfl ?_
 refine W ?_
 refine aA (yW s [] w sm) ?_
 rintro v1 w1 ⟨fN,aI⟩
 have dk:=aI.size
 have hK:=hK.ext aI
 obtain⟨t,tv,rfl,ht,qV⟩:=fN
 obtain⟨pa,pn,pc,rfl,eO,aO⟩:=cY ht
 refine W ?_
 refine dz aM rfl rfl rfl λw2 az cW dD=>?_
 have hK:=hK.grow;have hK:=hK.ext az;have ht:=ht.grow;have ht:=ht.ext az
 refine cL aM rfl rfl rfl cW rfl λw3 aH cW gL=>?_
 have hK:=hK.aD aH sx;have ht:=ht.aD aH sx
 refine W ?_
 apply oA 3 11 14 (aj [] w3) rfl oQ
 intro h1
 obtain⟨t',oz⟩:=Option.isSome_iff_exists.1 h1
 have yX:=qV t' oz
 have cB:=uo oz
 have fR:=AF oz
 rw[<-yX] at cB fR
 refine W ?_
 refine aA (NN t.size t (lR _) om cB false _ _ w3 ht) ?_
 rintro _ w4 ⟨rfl,aP⟩
 have fH:=aP.size
 exact oQ
 intro xx w4 aP
 have hK:=hK.ext aP
 refine W ?_
 exact⟨_,rfl,show Value.bool _=Value.bool _ from congrArg _ (Jv qV),hK⟩
theorem Ht (s:ai) (w:World):bw Tryz.prog 102 [str s] w λr w'=>r= .bool (s5 s)∧aj [] w w':=by
 have hK:=aj.refl [] w
 refine bU [.tmp 2] 15 Tryz.func102 rfl ab9 rfl rfl ?_
 refine W ?_
 refine aA (yW s [] w sm) ?_
 rintro v1 w1 ⟨fN,aI⟩
 have dk:=aI.size
 have hK:=hK.ext aI
 obtain⟨t,tv,rfl,ht,qV⟩:=fN
 obtain⟨pa,pn,pc,rfl,eO,aO⟩:=cY ht
 refine W ?_
 refine dz aM rfl rfl rfl λw2 az cW dD=>?_
 have hK:=hK.grow;have hK:=hK.ext az;have ht:=ht.grow;have ht:=ht.ext az
 refine cL aM rfl rfl rfl cW rfl λw3 aH cW gL=>?_
 have hK:=hK.aD aH sx;have ht:=ht.aD aH sx
 refine W ?_
 apply oA 3 11 14 (aj [] w3) rfl oQ
 intro h1
 obtain⟨t',oz⟩:=Option.isSome_iff_exists.1 h1
 have yX:=qV t' oz
 have cB:=uo oz
 have fR:=AF oz
 rw[<-yX] at cB fR
 refine W ?_
 refine aA (UD t om cB _ _ w3 ht) ?_
 rintro _ w4 ⟨rfl,aP⟩
 have fH:=aP.size
 exact oQ
 intro xx w4 aP
 have hK:=hK.ext aP
 refine W ?_
 exact⟨_,rfl,show Value.bool _=Value.bool _ from congrArg _ (Jv qV),hK⟩
theorem J9 (s:ai) (w:World):bw Tryz.prog 103 [str s] w λr w'=>r= .bool (Ez s)∧aj [] w w':=by
 have hK:=aj.refl [] w
 refine bU [.tmp 2] 31 Tryz.func103 rfl aca rfl rfl ?_
 refine W ?_
 refine aA (yW s [] w sm) ?_
 rintro v1 w1 ⟨fN,aI⟩
 have dk:=aI.size
 have hK:=hK.ext aI
 obtain⟨t,tv,rfl,ht,qV⟩:=fN
 obtain⟨pa,pn,pc,rfl,eO,aO⟩:=cY ht
 refine W ?_
 refine dz aM rfl rfl rfl λw2 az cW dD=>?_
 have hK:=hK.grow;have hK:=hK.ext az;have ht:=ht.grow;have ht:=ht.ext az;have aO:=aO.grow;have aO:=aO.ext az
 refine cL aM rfl rfl rfl cW rfl λw3 aH cW gL=>?_
 have hK:=hK.aD aH sx;have ht:=ht.aD aH sx;have aO:=aO.aD aH sx
 refine W ?_
 apply oA 3 11 14 (aj [] w3) rfl oQ
 intro h1
 obtain⟨t',oz⟩:=Option.isSome_iff_exists.1 h1
 have yX:=qV t' oz
 have cB:=uo oz
 have fR:=AF oz
 rw[<-yX] at cB fR
 refine W ?_
 refine aA (UD t om cB _ _ w3 ht) ?_
 rintro _ w4 ⟨rfl,aP⟩
 have fH:=aP.size
 exact oQ
 intro xx w4 aP
 refine cJ aP hK aO cW λhK aO cW=>?_
 refine WZ ?_
 apply oB 15 15 30 rfl oQ
 intro h2
 simp only[aE] at h2
 have hq:=aaZ h2.2
 have mf:=gh hq
 obtain⟨b,off,xI,pn0,xJ,rfl,eD,aqk,ga⟩:=iM aO mf
 refine WI ?_
 refine zi (i:=0) cD aM rfl rfl (by rw[eO];exact hq)<|WZ ?_
 apply oP 7 22 29 rfl oQ
 intro _
 refine WI ?_
 refine zi (i:=0) cD aM rfl rfl (by rw[eO];exact hq)<|WZ ?_
 exact oQ
 intro xx
 exact oQ
 intro xx
 refine W ?_
 exact⟨_,rfl,show Value.bool _=Value.bool _ from congrArg _ (by rw[Bool.and_assoc];exact Jv (f:=Jw) qV),hK⟩
theorem NO (bs:List Bk) (hb:bs.length<9223372036854775807) (l:ai) (v:Value) (L:List Nat) (w:World) (hv:lH L w v bs):
  bw Tryz.prog 65 [v,str l] w λr w'=>r= .int .i64 (lJ bs l)∧w=w':=by
 obtain⟨a,n,c,rfl,hn⟩:=vI hv
 refine bU [.tmp 4] 20 Tryz.func65 rfl aej rfl rfl ?_
 refine W ?_
 refine dR (λk:Nat=>[(0,.slice a n c),(1,str l),(5,.int .i64 (k:Int))]) (λk w'=>w'=w∧k<=bs.length∧∀i,i<k->(bR bs i).aJ≠l) (λk=>bs.length-k) (0) (⟨rfl,rfl,rfl⟩) (⟨rfl,om,by intro i hi;omega⟩) λgg w1 e1 hI=>?_
 obtain⟨rfl,hk,cC⟩:=hI
 refine W ?_
 refine zc rfl (λh1=>?_) (λh1=>?_)
 have hg:=kq (bs:=bs) (i:=gg) om
 obtain⟨b,off,a1,n1,c1,a2,n2,c2,rfl,hc,fu,eS,dk,dx⟩:=xm hv hg
 refine W ?_
 refine zc rfl (λh2=>?_) (λh2=>?_)
 have hf:=MK om cC h2
 refine W ?_
 exact⟨_,rfl,by rw[hf];rfl,rfl⟩
 refine W ?_
 exact⟨gg+1,⟨rfl,rfl,rfl⟩,⟨rfl,om,by intro i hi;rcases Nat.lt_or_ge i gg with h|h;exact cC i h;rw[show i=gg by omega];exact h2⟩,om⟩
 have hf:=aa1 (λi hi=>cC i om)
 refine W ?_
 exact⟨_,rfl,by rw[hf];rfl,rfl⟩
theorem UE (k:Bk) (hl:k.aJ.length<1000000000) (fu:k.ck.length<1000000000) (eS:k.code.length<1000000000) (v:Value) (L:List Nat) (w:World) (hv:qI L w v k):
  bw Tryz.prog 64 [v] w λr w'=>r= .bool (kH k)∧aj [] w w':=by
 obtain⟨a1,n1,c1,a2,n2,c2,rfl,pE,mT,dk,dx⟩:=AB hv
 have hK:=aj.refl [] w
 refine bU [.tmp 2] 65 Tryz.func64 rfl aei rfl rfl ?_
 refine zr<|eK rfl λw1 aI aY dh=>cJ aI hK dk dx λhK dk dx=>?_
 refine W ?_
 refine aA (UC _ om _) ?_
 rintro _ _ ⟨rfl,rfl⟩
 refine WZ ?_
 apply oP 5 9 14 rfl oQ
 intro _
 refine WZ ?_
 exact oQ
 intro xx
 refine WZ ?_
 apply oP 6 15 21 rfl oQ
 intro _
 refine W ?_
 refine aA (Ho _ _ _ _) ?_
 rintro _ _ ⟨rfl,rfl⟩
 exact oQ
 intro xx
 refine aV<|zc rfl (λh3=>?_) (λh3=>?_)
 rw[Jx pE mT] at h3
 have hb:=Sy (b:=k) (Sq h3)
 refine W ?_
 exact⟨_,rfl,by rw[hb];rfl,hK⟩
 rw[Jx pE mT] at h3
 have hb:(nW k.aJ&&decide (k.ck.length<=40)&&(decide (1<=k.code.length)&&decide (k.code.length<=80)))=true:=Sp h3
 refine W ?_
 refine dR (λi:Nat=>[(1,.pointer (some ⟨w.heap.size,0,none⟩)),(3,.int .i64 (i:Int))]) (λi w'=>aj [] w w'∧aj [] w1 w'∧i<=k.ck.length∧∀j,j<i->s0 (bD k.ck j)=true) (λi=>k.ck.length-i) (0) (⟨rfl,rfl⟩) (⟨hK,aj.refl [] _,om,by intro i hi;omega⟩) λgg w2 e2 hI=>?_
 obtain⟨hK,aI,hk,cC⟩:=hI
 refine cJ aI dk dx aY λdk dx aY=>?_
 refine W ?_
 refine zc rfl (λh4=>?_) (λh4=>?_)
 have hg:=ik (xs:=k.ck) (i:=gg) om
 obtain⟨b,off,rfl,hc⟩:=lf dk hg
 refine W ?_
 refine aA (aga _ w2) ?_
 rintro _ w3 ⟨rfl,aH⟩
 have fh:=aH.size
 refine bI aH hK aI λhK aI=>?_
 refine kF rfl rfl rfl<|aV<|zc rfl (λh5=>?_) (λh5=>?_)
 have hq:=Sz (b:=k) (i:=gg) om (by simpa using h5)
 refine W ?_
 exact⟨_,rfl,by rw[hq];rfl,hK⟩
 refine W ?_
 exact⟨gg+1,⟨rfl,rfl⟩,⟨hK,aI,om,by intro i hi;rcases Nat.lt_or_ge i gg with h|h;exact cC i h;rw[show i=gg by omega];simpa using h5⟩,om⟩
 have NP:∀i,i<k.ck.length->s0 (bD k.ck i)=true:=λi hi=>cC i om
 clear cC aI hk
 refine W ?_
 refine dR (λi:Nat=>[(1,.pointer (some ⟨w.heap.size,0,none⟩)),(4,.int .i64 (i:Int))]) (λi w'=>aj [] w w'∧aj [] w2 w'∧i<=k.code.length∧∀j,j<i->sq k.code j=true) (λi=>k.code.length-i) (0) (⟨rfl,rfl⟩) (⟨hK,aj.refl [] _,om,by intro i hi;omega⟩) λgg w3 e3 hI=>?_
 obtain⟨hK,aI,hk,cC⟩:=hI
 refine bI aI dx aY λdx aY=>?_
 refine W ?_
 refine zc rfl (λh6=>?_) (λh6=>?_)
 have hg:=ik (xs:=k.code) (i:=gg) om
 obtain⟨b,off,rfl,hc⟩:=lf dx hg
 refine W ?_
 refine ER [43,44,45,46,47,48,49,50,51,52,53,54,55,56,57,58,59,60,61,62,63,64] [(64,.bool (!s5 (bD k.code gg)||(Ez (bD k.code gg) !=decide ((gg:Int)=(n2:Int)-1))))] ?_ ?_
 rcases bE (!s5 (bD k.code gg)) with iX|iX
 apply lh dv 22 (rA 43 22) (rA 43 22) [[],[0],[],[1,2],[3],[4],[5],[6],[7],[7,8],[7],[7,9,10],[7,11],[7,12],[7],[7],[7,15],[7,16],[7,17],[7,14,18],[7,13,19],[7,20]] [It.v _,It.v _,It.v _,It.v _,It.v _,It.v _,It.v _,It.v (.bool true),It.v _,It.v _,It.v _,It.v _,It.v _,It.v _,It.v _,It.v _,It.v _,It.v _,It.v _,It.v _,It.v _,It.v _] de rfl
 intro wd aC
 refine VA ?_
 refine vk aC (λx w4 aP=>?_) ?_
 refine aA (Ht _ w4) ?_
 rintro _ w5 ⟨rfl,aN⟩
 have iR:=aN.size
 exact pk aN
 refine VA ?_
 refine vc (λx w4 aP=>?_) ?_
 refine WZ ?_
 exact pv (by exact congrArg Value.bool iX)
 exact VZ
 intro x pG jL
 change OW _ _ _ _ [] (bo (bm _ x _) (zZ 43 [_,_,_,_,_,_,_,_,_,_,_,_,_,_,_,_,_,_,_,_,_,_])) _
 refine W ?_
 exact kE jL
 apply lh dv 22 (rA 43 22) (rA 43 22) [[],[0],[],[1,2],[3],[4],[5],[6],[7],[7,8],[7],[7,9,10],[7,11],[7,12],[7],[7],[7,15],[7,16],[7,17],[7,14,18],[7,13,19],[7,20]] [It.v _,It.v _,It.v _,It.v _,It.v _,It.v _,It.v _,It.v (.bool false),It.v _,It.v _,It.v _,It.v _,It.v _,It.v _,It.v _,It.v _,It.v _,It.v _,It.v _,It.v _,It.v _,It.v _] de rfl
 intro wd aC
 refine VA ?_
 refine vk aC (λx w4 aP=>?_) ?_
 refine aA (Ht _ w4) ?_
 rintro _ w5 ⟨rfl,aN⟩
 have iR:=aN.size
 exact pk aN
 refine VA ?_
 refine vc (λx w4 aP=>?_) ?_
 refine WZ ?_
 exact pv (by exact congrArg Value.bool iX)
 refine VA ?_
 refine vk aC (λx w4 aP=>?_) ?_
 refine aA (J9 _ w4) ?_
 rintro _ w5 ⟨rfl,aN⟩
 have iR:=aN.size
 exact pk aN
 exact VZ
 intro x pG jL
 change OW _ _ _ _ [] (bo (bm _ x _) (zZ 43 [_,_,_,_,_,_,_,_,_,_,_,_,_,_,_,_,_,_,_,_,_,_])) _
 refine W ?_
 exact kE jL
 intro x pG jL
 refine bI jL hK aI λhK aI=>?_
 refine zc rfl (λh7=>?_) (λh7=>?_)
 rw[ML mT om] at h7
 have hq:=SA (b:=k) (i:=gg) om (by simpa using h7)
 refine W ?_
 exact⟨_,rfl,by rw[hq];rfl,hK⟩
 rw[ML mT om] at h7
 refine W ?_
 exact⟨gg+1,⟨rfl,rfl⟩,⟨hK,aI,om,by intro i hi;rcases Nat.lt_or_ge i gg with h|h;exact cC i h;rw[show i=gg by omega];simpa using h7⟩,om⟩
 have hq:=SB hb NP (λi hi=>cC i om)
 refine W ?_
 exact⟨_,rfl,by rw[hq];rfl,hK⟩
theorem UF (bs:List Bk) (hb:ur bs) (v:Value) (L:List Nat) (w:World) (hv:lH L w v bs):
  bw Tryz.prog 33 [v] w λr w'=>r= .bool (eN bs)∧aj [] w w':=by
 obtain⟨a,n,c,rfl,hn⟩:=vI hv
 have hK:=aj.refl [] w
 have ix:=hb.1
 refine bU [.tmp 2] 45 Tryz.func33 rfl adX rfl rfl ?_
 refine W ?_
 refine dR (λi:Nat=>[(0,.slice a n c),(3,.int .i64 (i:Int))]) (λi w'=>aj [] w w'∧i<=bs.length∧∀j,j<i->kH (bR bs j)=true∧lJ bs (bR bs j).aJ=(j:Int)) (λi=>bs.length-i) (0) (⟨rfl,rfl⟩) (⟨hK,om,by intro i hi;omega⟩) λgg w1 e1 hI=>?_
 obtain⟨hK,hk,cC⟩:=hI
 have hv:=hv.ext hK
 refine W ?_
 refine zc rfl (λh1=>?_) (λh1=>?_)
 have hg:=kq (bs:=bs) (i:=gg) om
 obtain⟨b,off,a1,n1,c1,a2,n2,c2,rfl,hc,fu,eS,dk,dx⟩:=xm hv hg
 have pH:=hb.2 gg om
 refine W ?_
 refine aA (UE (bR bs gg) pH.1 pH.2.1 pH.2.2 _ _ w1 (vH dk dx)) ?_
 rintro _ w2 ⟨rfl,az⟩
 have dx:=az.size
 refine cJ az hK hv hc λhK hv hc=>?_
 refine WZ ?_
 apply oP 10 16 26 rfl oQ
 intro h2
 refine zm<|zm<|zm<|zi iD fm rfl rfl om<|zf EE rfl<|zl fo rfl (hc 0 _ rfl)<|aA (NO bs om _ _ _ _ hv) ?_
 rintro _ _ ⟨rfl,rfl⟩
 exact oQ
 intro xx
 refine aV<|zc rfl (λh3=>?_) (λh3=>?_)
 have hq:=SC (bs:=bs) (i:=gg) om (λhh=>by rw[hh.1,hh.2] at h3;simp at h3)
 refine W ?_
 exact⟨_,rfl,by rw[hq];rfl,hK⟩
 simp only[Bool.or_eq_false_iff,Bool.not_eq_false',decide_eq_false_iff_not,ne_eq,Classical.not_not] at h3
 refine W ?_
 exact⟨gg+1,⟨rfl,rfl⟩,⟨hK,om,by intro i hi;rcases Nat.lt_or_ge i gg with h|h;exact cC i h;rw[show i=gg by omega];exact h3⟩,om⟩
 have hq:=SD (λi hi=>cC i om)
 clear cC
 refine W ?_
 refine aA (Ho _ _ _ _) ?_
 rintro _ _ ⟨rfl,rfl⟩
 refine WZ ?_
 apply oB 6 30 36 rfl oQ
 intro h4
 simp at h4
 have h0:=kq (bs:=bs) (i:=0) om
 obtain⟨b,off,a1,n1,c1,a2,n2,c2,rfl,hc,fu,eS,dk,dx⟩:=xm hv h0
 refine zm<|zi (i:=0) iD fm rfl rfl om<|zf EE rfl<|zl fo rfl (hc 0 _ rfl) ?_
 exact oQ
 intro xx
 refine WZ ?_
 apply oB 7 37 44 rfl oQ
 intro h5
 simp at h5
 have h0:=kq (bs:=bs) (i:=0) om
 obtain⟨b,off,a1,n1,c1,a2,n2,c2,rfl,hc,fu,eS,dk,dx⟩:=xm hv h0
 subst fu
 refine zm<|zi (i:=0) iD fm rfl rfl om<|zf M4 rfl<|zl vN rfl (hc 1 _ rfl) ?_
 exact oQ
 intro xx
 refine W ?_
 exact⟨_,rfl,show Value.bool _=Value.bool _ from congrArg _ (by rw[hq];exact aa2 hn (λ_=>rfl)),hK⟩
def cI.enc (b:cI):List C:=[.val (str b.aJ),.sl 2 (da b.regs),.sl 2 (da b.code)]
def oo (L:List Nat) (w:World) (v:Value) (b:cI):Prop:=kn L w v b.enc
theorem oo.ext {b:cI} (h:oo L w v b) (k:aj [] w w'):oo L w' v b:=kn.ext h k
theorem oo.grow {b:cI} (h:oo L w v b):oo (w.heap.size::L) w v b:=kn.fresh h xj
theorem oo.aD {b:cI} (h:oo L w v b) (k:aj L' w w') (hL:∀x,x∈L'->x∈L):oo L w' v b:=kn.aF h (k.mono hL)
theorem oo.gm {b:cI} (h:oo L w v b) (hL:∀x,x∈L'->x∈L):oo L' w v b:=kn.fresh h λx hx=>.inl (hL x hx)
theorem UG {b:cI} (h:cZ L w vs b.enc):∃v1 v2,vs=[str b.aJ,v1,v2]∧eU L w v1 b.regs∧eU L w v2 b.code:=by
 rw[cI.enc] at h
 match vs,h with
 |[v0,v1,v2],h=>obtain⟨h0,h1,h2,_⟩:=h;cases h0;exact⟨v1,v2,rfl,h1,h2⟩
 |[],h=>exact h.elim
 |[_],h=>exact h.2.elim
 |[_,_],h=>exact h.2.2.elim
 |_::_::_::_::_,h=>exact h.2.2.2.elim
theorem Ka {ts:List aq} (h:eU L w v ts):∃a c,v= .slice a ts.length c:=by grind [eU,sh,iz]
theorem UH {b:cI} (h:oo L w v b):∃a1 c1 a2 c2,v= .agg #[str b.aJ,.slice a1 b.regs.length c1,.slice a2 b.code.length c2]∧
  eU L w (.slice a1 b.regs.length c1) b.regs∧eU L w (.slice a2 b.code.length c2) b.code:=by
 obtain⟨vs,rfl,hr⟩:=h
 obtain⟨v1,v2,rfl,h1,h2⟩:=UG hr
 obtain⟨a1,c1,rfl⟩:=Ka h1
 obtain⟨a2,c2,rfl⟩:=Ka h2
 exact⟨a1,c1,a2,c2,rfl,h1,h2⟩
theorem NQ {l:ai} {r c:List aq} {v1 v2:Value} (h1:eU L w v1 r) (h2:eU L w v2 c):oo L w (.agg #[str l,v1,v2]) ⟨l,r,c⟩:=
 ⟨[str l,v1,v2],rfl,.val _,h1,h2,trivial⟩
theorem oo.kG {x y:Value} {b:cI} (h:oo L w (.agg #[x,y,z]) b):cZ L w [x,y,z] b.enc:=by
 obtain⟨vs,he,hr⟩:=h
 have hv:vs=[x,y,z]:=by
  have:=congrArg (λv=>match v with|Value.agg x=>x.toList|_=>[]) he
  simpa using this.symm
 rw[<-hv];exact hr
def ky (L:List Nat) (w:World) (v:Value) (ps:List cI):Prop:=bP L w v (.sl 3 (ps.map cI.enc))
theorem ky.ext (h:ky L w v ps) (k:aj [] w w'):ky L w' v ps:=bP.ext h k
theorem ky.grow {b:List cI} (h:ky L w v b):ky (w.heap.size::L) w v b:=bP.fresh h xj
theorem ky.aD {b:List cI} (h:ky L w v b) (k:aj L' w w') (hL:∀x,x∈L'->x∈L):ky L w' v b:=bP.aF h (k.mono hL)
theorem ky.gm {b:List cI} (h:ky L w v b) (hL:∀x,x∈L'->x∈L):ky L' w v b:=bP.fresh h λx hx=>.inl (hL x hx)
theorem UI:ky L w (.slice none 0 0) []:=.nil _ _ _
theorem BB (h:ky L w v ps):∃a c,v= .slice a ps.length c:=by grind [ky,sh]
theorem BC {a:Option Addr} {k:cI} (h:ky L w (.slice a n c) ps) (hi:ps[i]?=some k):
  ∃b off a1 c1 a2 c2,a=some ⟨b,off,none⟩∧gH w b (off+i*3) [str k.aJ,.slice a1 k.regs.length c1,.slice a2 k.code.length c2]∧eU L w (.slice a1 k.regs.length c1) k.regs∧eU L w (.slice a2 k.code.length c2) k.code:=by
 obtain⟨b,off,vs,ha,hb,hL,hl,hc,hr⟩:=An h (show(ps.map cI.enc)[i]?=some k.enc by simp[hi])
 obtain⟨v1,v2,rfl,h1,h2⟩:=UG hr
 obtain⟨a1,c1,rfl⟩:=Ka h1
 obtain⟨a2,c2,rfl⟩:=Ka h2
 exact⟨b,off,a1,c1,a2,c2,ha,hc,h1,h2⟩
theorem Gr.prog {T:TypeId} (h:Gr B L w T 3 v g (ps.map cI.enc)):ky L w v ps:=h.done
section
variable {P:Program} {n:Nat} {ops:Array Oper} {K:Env->World->Prop} {rest:List Oper} {e:Env} {w:World}
 {dst:Option Nat} {ty:TypeId} {pos:String} {after:Array Edge} {g:Option (Nat×Bool)} {x y:Operand}
theorem agc {B:Nat} {L:List Nat} {t:Nat} {v u1 u2 u3:Value} {gb:Option Nat} {ts:List cI} {f:cI} {b U:Nat} (hT:P.underlying t=some (.slice E)) (hE:TI P E 3 bytes z) (hg:gate ops e g=true) (hd:cj n dst=true) (hz:Nat.beq z.cells.size 3=true) (fY:Nat.ble bytes 1000=true) 
  (hx:ev e x=v) (hy:ev e y= .slice (some ⟨b,0,none⟩) 1 1) (hO:Gr B L w E 3 v gb (ts.map cI.enc)) (hb:aK w b [u1,u2,u3].toArray U)
  (hr:oo (gb.toList++L) w (.agg #[u1,u2,u3]) f) (hn:ts.length<100000000)
  (k:∀a' cap' g' w',Gr B L w' E 3 (.slice a' (ts++[f]).length cap') g' ((ts++[f]).map cI.enc)->aj gb.toList w w'->OW P n ops K rest (bQ e dst (.slice a' (ts++[f]).length cap')) w'):
  OW P n ops K (⟨dst,.call {callee:=.builtin .append,args:=#[x,y],argTypes:=#[t,t]},ty,pos,after,g⟩::rest) e w:=by
 refine Ev hT hE hg hd hz fY hx hy hO hb rfl ?_ hr.kG (by simpa using hn) ?_
 ·rw[List.all_eq_true]
  refine λu hu=>cZ.Gz hr.kG (λc hc v hv=>?_) u hu
  rw[cI.enc] at hc
  simp only[mC,List.not_mem_nil,or_false] at hc
  rcases hc with h|h|h
  ·rw[h] at hv;cases hv;rfl
  ·rw[h] at hv;cases hv
  ·rw[h] at hv;cases hv
 ·intro a' cap' g' w' jj hk
  have e1:(ts.map cI.enc).length+1=(ts++[f]).length:=by simp
  have e2:ts.map cI.enc++[f.enc]=(ts++[f]).map cI.enc:=by simp
  rw[e1] at jj⊢
  rw[e2] at jj
  exact k a' cap' g' w' jj hk
end
theorem uJ:∀(m:Nat) (t:aq),t.size<=m->WF t->t.size<=100000000->t.text.length<=100000000->∀(v:Value) (L:List Nat) (w:World),bC L w v t->
  bw Tryz.prog 106 [v] w λr w'=>r=str t.text∧aj [] w w':=by
 intro m
 induction m with
 |zero=>intro t h cB;have:=MN cB;omega
 |succ m ih=>
  intro t hm cB mh fL v L w hv
  obtain⟨a,n,c,rfl,hn,aO⟩:=cY hv
  subst hn
  have nj:=xo t
  have hK:=aj.refl [] w
  refine bU [.tmp 2] 31 Tryz.func106 rfl acb rfl rfl ?_
  refine zr<|eK rfl λw1 aI aY dh=>?_
  have hK:=hK.ext aI
  refine W ?_
  refine zc rfl (λh1=>?_) (λh1=>?_)
  have ht:=S4 cB (by rw[cB.leaf h1];rfl)
  refine W ?_
  exact⟨_,rfl,show str _=str _ from congrArg _ ht.symm,hK⟩
  have ha:t.aw=[]:=Classical.not_not.1 h1
  refine W ?_
  refine dR (λk:Nat=>[(1,.pointer (some ⟨w.heap.size,0,none⟩)),(3,str (vL (t.ak.take k))),(4,.int .i64 (k:Int))]) (λk w'=>aj [] w w'∧aK w' w.heap.size [str t.aw,.slice a t.ak.length c].toArray 74∧k<=t.ak.length) (λk=>t.ak.length-k) (0) (⟨rfl,rfl,rfl⟩) (⟨hK,aY,om⟩) λgg w2 e2 hI=>?_
  obtain⟨hK,aY,hk⟩:=hI
  refine W ?_
  refine zc rfl (λh2=>?_) (λh2=>?_)
  have ej:=gh (ps:=t.ak) (i:=gg) om
  obtain⟨b1,eX,pa,pn,pc,rfl,jz,eO,ga⟩:=iM aO ej
  subst eO
  have yY:=cB.nth (i:=gg) om
  have nV:=lI (t:=t) (i:=gg) om
  have nk:=MX cB ha hk
  have qh:=MX cB ha (k:=gg+1) om
  have aS:=S6 (ps:=t.ak) (k:=gg) om
  have hlen:=congrArg List.length aS
  rw[lA] at hlen
  refine W ?_
  refine iS (λ_:Unit=>[(1,.pointer (some ⟨w.heap.size,0,none⟩)),(3,str (vL (t.ak.take gg)++(if gg=0 then[] else[32]))),(4,.int .i64 (gg:Int))]) (λ_ w'=>w'=w2) ?_ ?_
  refine zc rfl (λh3=>?_) (λh3=>?_)
  have yZ:¬gg=0:=by omega
  refine W ?_
  exact⟨(),⟨rfl,by rw[iN yZ];rfl,rfl⟩,rfl⟩
  have yZ:gg=0:=by omega
  refine WZ ?_
  exact⟨(),⟨rfl,by rw[iP yZ,List.append_nil];rfl,rfl⟩,rfl⟩
  intro gu w3 e3 hI
  obtain rfl:=hI
  refine WL ?_
  refine zl iW rfl (aY.at rfl)<|zm<|zi cD aM rfl rfl om<|zL fc aM rfl (jz.ext hK) rfl<|aA (ih (nth t.ak gg) om yY om om _ L w3 ((lF ga).ext hK)) ?_
  rintro _ w4 ⟨rfl,aP⟩
  have fH:=aP.size
  refine bI aP hK aY λhK aY=>?_
  refine iu rfl rfl rfl rfl om<|W ?_
  exact⟨gg+1,⟨rfl,by rw[aS];rfl,rfl⟩,⟨hK,aY,om⟩,om⟩
  have fG:gg=t.ak.length:=by omega
  have xK:=S7 cB ha
  have nk:=MX cB ha hk
  subst fG
  refine WS ?_
  refine iu rfl rfl rfl rfl (by simp at nk⊢;omega)<|zA<|aV<|j4 ?_
  exact⟨_,rfl,show str _=str _ from congrArg _ xK,hK⟩
theorem y0 (h:ai) (ps:List ai) (hl:(dW h ps).length<=1000000000) (v:Value) (L:List Nat) (w:World) (hv:bf L w v ps):bw Tryz.prog 135 [str h,v] w λr w'=>r=str (dW h ps)∧aj [] w w':=by
 obtain⟨a,n,c,rfl,hn⟩:=dH hv
 subst hn
 have hK:=aj.refl [] w
 have hh:=λk=>ab5 (h:=h) (ps:=ps) k
 have UJ:(vM h ps 0).length=h.length+1:=by simp[vM,qK]
 have h01:=hh 0
 have nj:ps.length<=(dW h ps).length:=by simp only[dW,lC,lA,Ta,jH];omega
 refine bU [.tmp 4] 24 Tryz.func135 rfl acy rfl rfl ?_
 refine WS ?_
 refine iu rfl rfl rfl rfl (by simp only[lC,List.length_nil];omega)<|W ?_
 refine dR (λk:Nat=>[(1,.slice a ps.length c),(5,str (vM h ps k)),(6,.int .i64 (k:Int))]) (λk w'=>aj [] w w'∧k<=ps.length) (λk=>ps.length-k) (0) (⟨rfl,show str _=str _ from congrArg _ (by simp[vM,qK]),rfl⟩) (⟨hK,om⟩) λgg w1 e1 hI=>?_
 obtain⟨hK,hk⟩:=hI
 refine W ?_
 refine zc rfl (λh1=>?_) (λh1=>?_)
 have hg:=ik (xs:=ps) (i:=gg) om
 obtain⟨b1,eX,rfl,bK⟩:=lf hv hg
 have aS:=ab3 (h:=h) (ps:=ps) (k:=gg) om
 have hlen:=congrArg List.length aS
 simp only[lA,lC,List.length_nil] at hlen
 have hle:=hh (gg+1)
 refine WS ?_
 refine iu rfl rfl rfl rfl (by simp only[lC,List.length_nil];omega)<|WL ?_
 refine zl fo rfl (bK.ext hK 0 _ rfl)<|iu rfl rfl rfl rfl (by simp only[lA,lC,List.length_nil];omega)<|W ?_
 exact⟨gg+1,⟨rfl,show str _=str _ from congrArg _ aS.symm,rfl⟩,⟨hK,om⟩,om⟩
 have hle:=hh gg
 refine WS ?_
 refine iu rfl rfl rfl rfl (by simp only[lC,List.length_nil];omega)<|zA<|aV<|j4 ?_
 exact⟨_,rfl,show str _=str _ from congrArg _ (ab4 om),hK⟩
def apart:List (Option Nat×Option Nat)->Prop
 |[]=>True
 |g::gs=>(∀x,x∈jk g->x∉gO gs)∧apart gs
theorem Kb (g:Option Nat×Option Nat) (gs:List (Option Nat×Option Nat)):gO (g::gs)=jk g++gO gs:=by simp[gO]
theorem NR (gs:List (Option Nat×Option Nat)) (g:Option Nat×Option Nat):gO (gs++[g])=gO gs++jk g:=by simp[gO]
section
variable {P:Program} {n:Nat} {ops:Array Oper} {K:Env->World->Prop} {rest:List Oper} {e:Env} {w:World}
 {dst:Option Nat} {ty:TypeId} {pos:String} {after:Array Edge} {g:Option (Nat×Bool)} {x y:Operand}
end
/-! ### Operations -/
section
variable {P:Program} {n:Nat} {ops:Array Oper} {K:Env->World->Prop} {rest:List Oper} {e:Env} {w:World}
 {dst:Option Nat} {ty:TypeId} {pos:String} {after:Array Edge} {g:Option (Nat×Bool)} {x y:Operand}
theorem UK {D b cap:Nat} {z:Int} {c:UInt8} {U:TypeId} (hS:P.underlying S=some (.slice E)) (hE:P.underlying E=some (.int .u8)) (hD:P.underlying D=some .string) (hg:gate ops e g=true) (hd:cj n dst=true) 
  (hx:ev e x= .slice (some ⟨b,0,none⟩) 1 cap) (hb:aK w b [.int .u8 z].toArray U) (hz:z=(c.toNat:Int)) (k:OW P n ops K rest (bQ e dst (str [c])) w):OW P n ops K (⟨dst,.convert S D x,ty,pos,after,g⟩::rest) e w:=by
 have j5:=run_convert_bytes_back (P:=P) w S D E ⟨b,0,none⟩ cap [c] hS hE hD (by
  intro j hj
  have:j=0:=by simpa using hj
  subst this
  have:=hb.cell 0
  simpa[Addr.add,hz] using this)
 exact eJ hg hd (v:=str [c]) (w':=w) (by
  have vZ:ev e x= .slice (some ⟨b,0,none⟩) ([c]:List UInt8).length cap:=hx
  simp only[execOp,vZ,Sem.run_bind,j5,Result.andThen_ok,Sem.run_pure]) k
theorem UM {T TS:Nat} {gb:Option Nat} {xs:List ai} {s:ai} {nn c:Nat} (j6:TI P T 1 bytes z) (hg:gate ops e g=true) (hx:ev e x= .pointer (some ⟨b,o,none⟩)) (hy:ev e y=str s) (ho:o=i) 
  (hO:cG w TS (.slice (some ⟨b,0,none⟩) nn c) gb xs) (hi:i<xs.length)
  (k:∀w',aj gb.toList w w'->cG w' TS (.slice (some ⟨b,0,none⟩) nn c) gb (xs.set i s)->w'.heap.size=w.heap.size->OW P n ops K rest e w'):OW P n ops K (⟨none,.store T x y,ty,pos,after,g⟩::rest) e w:=by
 subst ho
 obtain⟨hl,h|⟨b',cap,cur,mc,hv,hb,my,l0,bV,ht⟩⟩:=hO
 ·obtain⟨h,_⟩:=h;cases h
 ·cases hv
  subst mc
  refine Jb j6 rfl hg hx hy rfl hb (by rw[bV];omega) λw' hk gB hz=>?_
  refine k w' (by simpa using hk) ⟨by simp,.inr ⟨b,_,_,rfl,sm,gB,by simpa using my,l0,by simpa using bV,?_⟩⟩ hz
  rw[Array.toList_setIfInBounds,List.length_set,List.take_set,ht,List.map_set]
end
theorem UN {α:Type}:∀{rows:List (List α)} {i j:Nat} {a:α} {row:List α},(∀row,row∈rows->row.length=sz)->rows[i]?=some row->j<sz->rows.flatten.set (i*sz+j) a=(rows.set i (row.set j a)).flatten
 |r::rows,0,j,a,row,h,hi,hj=>by
  simp only[List.getElem?_cons_zero,Option.some.injEq] at hi
  subst hi
  have hr:r.length=sz:=h r sm
  rw[List.flatten_cons,Nat.zero_mul,Nat.zero_add,List.set_cons_zero,List.flatten_cons,List.set_append_left _ _ om]
 |r::rows,i+1,j,a,row,h,hi,hj=>by
  have hr:r.length=sz:=h r sm
  have:=UN (rows:=rows) (a:=a) (λrow hr=>h row (by simp[hr])) (by simpa using hi) hj
  rw[List.flatten_cons,List.set_cons_succ,List.flatten_cons,List.set_append_right _ _ (by rw[hr,Nat.add_mul];omega),hr,<-this]
  congr 2
  rw[Nat.add_mul];omega
theorem jd.set {T:TypeId}:∀{gss:List (Option Nat×Option Nat)} {vss:List (List Value)} {bs:List Bk} {i:Nat} {g:Option Nat×Option Nat} {v:List Value} {f:Bk},jd w T gss vss bs->gss[i]?=some g->qJ w' T g v f->
  (∀(j:Nat) (g2:Option Nat×Option Nat) (v2:List Value) (b2:Bk),j≠i->gss[j]?=some g2->qJ w T g2 v2 b2->qJ w' T g2 v2 b2)->jd w' T gss (vss.set i v) (bs.set i f)
 |[],[],[],i,g,v,f,_,hg,_,_=>by simp at hg
 |g0::gs,v0::vs,b0::bs,0,g,v,f,h,hg,hf,hk=>by
  simp only[List.getElem?_cons_zero,Option.some.injEq] at hg
  subst hg
  refine⟨hf,?_⟩
  have key:∀{gs:List (Option Nat×Option Nat)} {vs:List (List Value)} {bs:List Bk},(∀(j:Nat) (g2:Option Nat×Option Nat) (v2:List Value) (b2:Bk),gs[j]?=some g2->qJ w T g2 v2 b2->qJ w' T g2 v2 b2)->jd w T gs vs bs->jd w' T gs vs bs:=by
   intro gs
   induction gs with
   |nil=>intro vs bs _ h;cases vs<;>cases bs<;>first|trivial|exact h.elim
   |cons g gs ih=>
    intro vs bs hk h
    cases vs with
    |nil=>cases bs<;>exact h.elim
    |cons v vs=>
     cases bs with
     |nil=>exact h.elim
     |cons b bs=>exact⟨hk 0 _ _ _ rfl h.1,ih (λj g2 v2 b2 hj=>hk (j+1) g2 v2 b2 (by simpa using hj)) h.2⟩
  exact key (λj g2 v2 b2 hj ho=>hk (j+1) g2 v2 b2 om (by simpa using hj) ho) h.2
 |g0::gs,v0::vs,b0::bs,i+1,g,v,f,h,hg,hf,hk=>
  ⟨hk 0 _ _ _ om rfl h.1,jd.set h.2 (by simpa using hg) hf λj g2 v2 b2 hj iT ho=>hk (j+1) g2 v2 b2 om (by simpa using iT) ho⟩
theorem Da {g:Option Nat×Option Nat} {x:Nat} (hg:gss[i]?=some g) (hx:x∈jk g):x∈gO gss:=by grind [gO]
theorem agd:∀{gss:List (Option Nat×Option Nat)} {i j:Nat} {g g2:Option Nat×Option Nat} {x:Nat},(gO gss).Nodup->i≠j->gss[i]?=some g->gss[j]?=some g2->x∈jk g->x∉jk g2:=by intro x;induction x<;>grind [gO,jk]
theorem mB.row {w w':World} {TB TS:TypeId} {v:Value} {g:Option Nat} {gss:List (Option Nat×Option Nat)} {vss:List (List Value)} {bs:List Bk} {i:Nat} {gs:Option Nat×Option Nat} {vs:List Value} {f:Bk} {L:List Nat} 
  (h:mB w TB TS v g gss vss bs) (hg:gss[i]?=some gs) (hv:vss[i]?=some vs) (hk:aj L w w') (hL:∀x,x∈L->x∈jk gs) (hf:qJ w' TS gs vs f):mB w' TB TS v g gss vss (bs.set i f):=by
 have hd:=(List.nodup_append.1 h.nodup)
 have Ar:vss.set i vs=vss:=by
  refine List.ext_getElem sm λj h1 h2=>?_
  rw[List.getElem_set]
  split
  ·rename_i jS;subst jS
   rw[gE h2] at hv;simpa using hv.symm
  ·rfl
 have hr:=jd.set (w':=w') h.rows hg hf (λj g2 v2 b2 hj iT ho=>ho.aF hk λx hx lB=>agd hd.2.1 hj iT hg hx (hL x lB))
 rw[Ar] at hr
 exact⟨by rw[List.length_set];exact h.own.aF hk (λb hb hx=>hd.2.2 b (by simp[hb]) b (Da hg (hL b hx)) rfl),hr,h.nodup,λx hx=>lL (h.lt x hx) hk.size⟩
section
variable {P:Program} {n:Nat} {ops:Array Oper} {K:Env->World->Prop} {rest:List Oper} {e:Env} {w:World}
 {dst:Option Nat} {ty:TypeId} {pos:String} {after:Array Edge} {g:Option (Nat×Bool)} {x y:Operand}
end
theorem UO (k:Nat):(48:Int)+((k%10:Nat):Int)=((UInt8.ofNat (48+k%10)).toNat:Int):=by simp_all[Nat.mod_eq_of_lt,Nat.reducePow];omega
theorem cG.form {T:TypeId} {a:Option Addr} (h:cG w T (.slice a n c) g xs) (hx:0<xs.length):∃b,a=some ⟨b,0,none⟩∧g=some b:=by cases h.2<;>grind
theorem cG.cases {T:TypeId} (h:cG w T v g xs):∃a c,v= .slice a xs.length c:=jb.len h
theorem mB.get {TB TS:TypeId} {a:Option Addr} {bs:List Bk} (h:mB w TB TS (.slice a n c) g gss vss bs) (hi:i<bs.length):
  ∃b gs a1 c1 a2 c2,a=some ⟨b,0,none⟩∧g=some b∧b<w.heap.size∧b∉jk gs∧gss[i]?=some gs∧vss[i]?=some [str (bR bs i).aJ,.slice a1 (bR bs i).ck.length c1,.slice a2 (bR bs i).code.length c2]∧
   gH w b (0+i*3) [str (bR bs i).aJ,.slice a1 (bR bs i).ck.length c1,.slice a2 (bR bs i).code.length c2]∧
   cG w TS (.slice a1 (bR bs i).ck.length c1) gs.1 (bR bs i).ck∧cG w TS (.slice a2 (bR bs i).code.length c2) gs.2 (bR bs i).code∧(∀x,gs.1=some x->gs.2=some x->False):=by
 have hd:=List.nodup_append.1 h.nodup
 obtain⟨fD,iG,xL⟩:=h.rows.lens
 obtain⟨gs,vs,jA,aX,v1,v2,rfl,dk,dx⟩:=h.rows.get (kq hi)
 obtain⟨a1,c1,rfl⟩:=cG.cases dk
 obtain⟨a2,c2,rfl⟩:=cG.cases dx
 obtain⟨hl,hz|⟨b,cap,cur,mc,hv,hb,my,l0,bV,ht⟩⟩:=h.own
 ·obtain⟨_,hz,_⟩:=hz;omega
 ·cases hv
  subst mc
  refine⟨b,gs,a1,c1,a2,c2,rfl,rfl,hb.lt,λhx=>hd.2.2 b sm b (Da jA hx) rfl,jA,aX,λj v hj=>?_,dk,dx,λx h1 h2=>?_⟩
  ·have hf:=Gf xL aX hj
   have dY:i*3+j<vss.flatten.length:=(List.getElem?_eq_some_iff.1 hf).1
   rw[hb.cell,Nat.zero_add]
   have h2:=ht
   have:(cur.toList.take (bs.length*3))[i*3+j]?=some v:=by rw[ht];exact hf
   rw[List.getElem?_take] at this
   split at this
   ·simpa using this
   ·cases this
  ·have hn:(jk gs).Nodup:=by
    have:∀{gss:List (Option Nat×Option Nat)} {i:Nat},(gO gss).Nodup->gss[i]?=some gs->(jk gs).Nodup:=by
     intro gss
     induction gss with
     |nil=>intro i _ h;simp at h
     |cons p q ih=>
      intro i hn hg
      rw[Kb,List.nodup_append] at hn
      cases i with
      |zero=>simp at hg;subst hg;exact hn.1
      |succ i=>exact ih hn.2.1 (by simpa using hg)
    exact this hd.2.1 jA
   simp[jk,h1,h2] at hn
theorem age (w:World):bw Tryz.prog 72 [str [],.int .i64 0,.int .i64 0] w λr w'=>r= .tuple #[.agg #[str [],.slice none 0 0],.int .i64 (-1)]∧aj [] w w':=by
 have hK:=aj.refl [] w
 refine lG [.cell 6 74,.tmp 7] 87 Tryz.func72 rfl JB rfl rfl rfl ?_
 refine zr<|dz aM rfl rfl rfl λw1 aI bO dh=>?_
 have hK:=hK.grow;have hK:=hK.ext aI
 refine zA<|aV<|zr<|jG (GN _) rfl rfl<|dz aM rfl rfl rfl λw2 az db dD=>?_
 have hK:=hK.grow;have hK:=hK.ext az;have bO:=bO.grow;have bO:=bO.ext az
 refine cL aM rfl rfl rfl db rfl λw3 aH db gL=>?_
 have hK:=hK.aD aH sx;have bO:=bO.aD aH sx
 refine aV<|j3<|zr<|zm<|Gi rfl rfl rfl rfl rfl<|zm ?_
 apply Cs 5 15 20 [15,16,17,18,19,20] (λw'=>w3=w') rfl
 intro h1
 replace h1:=jW h1
 refine W ?_
 exact mg rfl rfl
 intro h1
 replace h1:=jW h1
 refine W ?_
 exact mg rfl rfl
 rintro xx _ rfl
 refine aV<|zc rfl (λh2=>?_) (λh2=>?_)
 refine W ?_
 refine cL aM rfl rfl rfl bO rfl λw4 aP bO gQ=>?_
 have hK:=hK.aD aP sx
 refine W ?_
 exact⟨[_,_],⟨gC fc aM rfl bO rfl,rfl⟩,rfl,hK⟩
 simp at h2
theorem Kc (s:ai) (L:List Nat) (w:World) (hL:∀x,x∈L->x<w.heap.size):
  bw Tryz.prog 42 [str s] w λv w'=>(∃t tv,v= .tuple #[tv,.bool (bB s).isSome]∧bC L w' tv t∧EH s t)∧aj [] w w':=by
 by_cases hs:s=[]
 ·subst hs
  have hK:=aj.refl [] w
  refine lG [.cell 2 74,.tmp 3] 20 Tryz.func42 rfl Tf rfl rfl rfl ?_
  refine zr<|dz aM rfl rfl rfl λw1 aI aR dh=>?_
  have hK:=hK.grow;have hK:=hK.ext aI
  refine W ?_
  refine zc rfl (λh1=>?_) (λh1=>?_)
  simp at h1
  refine gT<|zr<|zm<|aA (age w1) ?_
  rintro _ w2 ⟨rfl,az⟩
  have dx:=az.size
  refine bI az hK aR λhK aR=>?_
  refine W ?_
  refine dz aM rfl rfl rfl λw3 aH aG gL=>?_
  have hK:=hK.grow;have hK:=hK.ext aH;have aR:=aR.grow;have aR:=aR.ext aH
  refine cL aM rfl rfl rfl aG rfl λw4 aP aG gQ=>?_
  have hK:=hK.aD aP sx;have aR:=aR.aD aP sx
  refine W ?_
  refine cL aM rfl rfl rfl aR rfl λw5 aN aR gZ=>?_
  have hK:=hK.aD aN sx
  refine W ?_
  exact⟨[_,_],⟨gC fc aM rfl aR rfl,rfl⟩,⟨.mk [] [],_,by rw[Tv];rfl,lE pj,λt' h=>(by rw[Tv] at h;cases h),λ_=>rfl⟩,hK⟩
 ·obtain⟨h1,h2⟩:=yW s L w hL
  exact⟨h1,Calls.mono h2 λe w' ⟨v,he,⟨t,tv,hv,ht,hp⟩,hk⟩=>⟨v,he,⟨t,tv,hv,ht,hp,λe=>absurd e hs⟩,hk⟩⟩
theorem Gr.form {T:TypeId} {a:Option Addr} (h:Gr B L w T sz (.slice a n c) g rows) (hp:0<rows.length):∃b,a=some ⟨b,0,none⟩∧g=some b:=by
 obtain⟨xs,hx⟩:=h.own
 rcases hx.own.2 with⟨_,h0,_⟩|⟨b,_,_,e,hv,_⟩
 ·omega
 ·cases hv;exact⟨b,rfl,e⟩
theorem xM (ps:List ai) (hl:ps.length<=1000000000) (s:ai) (v:Value) (L:List Nat) (w:World) (hv:bf L w v ps):bw Tryz.prog 82 [v,str s] w λr w'=>r= .bool (decide (s∈ps))∧aj [] w w':=by
 obtain⟨a,n,c,rfl,hn⟩:=dH hv
 subst hn
 have hK:=aj.refl [] w
 refine bU [.tmp 4] 18 Tryz.func82 rfl aer rfl rfl ?_
 refine W ?_
 refine dR (λk:Nat=>[(0,.slice a ps.length c),(1,str s),(5,.int .i64 (k:Int))]) (λk w'=>aj [] w w'∧k<=ps.length∧∀i,i<k->bD ps i≠s) (λk=>ps.length-k) (0) (⟨rfl,rfl,rfl⟩) (⟨hK,om,by intro i hi;omega⟩) λgg w1 e1 hI=>?_
 obtain⟨hK,hk,cC⟩:=hI
 refine W ?_
 refine zc rfl (λh1=>?_) (λh1=>?_)
 have hg:=ik (xs:=ps) (i:=gg) om
 obtain⟨b1,eX,rfl,bK⟩:=lf hv hg
 refine WL ?_
 refine zl fo rfl (bK.ext hK 0 _ rfl)<|zm<|Ap rfl rfl rfl rfl<|aV<|zc rfl (λh2=>?_) (λh2=>?_)
 have hq:s∈ps:=(by rw[<-h2];exact List.mem_of_getElem? hg)
 refine W ?_
 exact⟨_,rfl,by rw[dT hq];rfl,hK⟩
 have dN:=h2
 refine W ?_
 exact⟨gg+1,⟨rfl,rfl,rfl⟩,⟨hK,om,by intro i hi;rcases Nat.lt_or_ge i gg with h|h;exact cC i h;rw[show i=gg by omega];exact dN⟩,om⟩
 have hq:¬s∈ps:=(λhm=>by obtain⟨i,hi,e⟩:=List.getElem_of_mem hm;exact cC i om (by simp[bD,gE hi,e]))
 refine W ?_
 exact⟨_,rfl,by rw[dF hq];rfl,hK⟩
theorem agf (h:n<10):(48:Int)+(n:Int)=((UInt8.ofNat (48+n)).toNat:Int):=by
 have:=UO n
 rwa [Nat.mod_eq_of_lt h] at this
def Db (z:Int) (v:Value) (w:World):Prop:=∃b,v= .slice (some ⟨b,0,none⟩) 1 1∧aK w b [.int .u8 z].toArray 5
theorem Db.ext {z:Int} (h:Db z v w) (k:aj [] w w'):Db z v w':=by
 obtain⟨b,e,h⟩:=h
 exact⟨b,e,h.ext k⟩
theorem E0:∀(m n:Nat),n<=m->(aU n).length<=n+1
 |m,n,h=>by
  rw[aU]
  by_cases h9:n<10
  ·rw[iP h9];simp
  ·rw[iN h9]
   cases m with
   |zero=>omega
   |succ m=>have:=E0 m (n/10) om;simp only[lA,List.length_singleton];omega
theorem iH:∀(m n:Nat),n<m->n<=1000000->∀w:World,bw Tryz.prog 142 [.int .i64 (n:Int)] w λr w'=>r=str (aU n)∧aj [] w w':=by
 intro m
 induction m with
 |zero=>intro n hn;omega
 |succ m ih=>
  intro n hn h9 w
  have hK:=aj.refl [] w
  have hl:=E0 _ (n/10) (lR _)
  refine bU [.tmp 2] 28 Tryz.func142 rfl acD rfl rfl ?_
  refine W ?_
  refine zc rfl (λh1=>?_) (λh1=>?_)
  omega
  refine W ?_
  refine zc rfl (λh2=>?_) (λh2=>?_)
  omega
  refine W ?_
  refine zc rfl (λh3=>?_) (λh3=>?_)
  refine W ?_
  refine yF xq yM rfl rfl rfl (wrap_u8 _ om om)<|eR CN GO rfl rfl λw1 aI xN dh=>?_
  have hK:=hK.ext aI
  refine UK CN yM iE rfl rfl rfl xN (agf om)<|zA<|aV<|j4 ?_
  exact⟨_,rfl,congrArg str (show[UInt8.ofNat (48+n)]=aU n from by rw[aU,iP om]),hK⟩
  have gi:¬n<10:=by omega
  refine WZ ?_
  refine Ax dv mz 10 (rA 18 10) (rA 18 10) [[],[0],[1],[],[3],[4],[5],[6],[7],[2,8]] [λv _=>v=(.int .i64 (n:Int)),λv _=>v=(.int .i64 ((n/10:Nat):Int)),λv _=>v=(str (aU (n/10))),λv _=>v=(.int .i64 (n:Int)),λv _=>v=(.int .i64 ((n%10:Nat):Int)),λv _=>v=(.int .i64 ((48:Int)+((n%10:Nat):Int))),λv _=>v=(.int .u8 ((48:Int)+((n%10:Nat):Int))),fun(v:Value) (ww:World)=>Db ((48:Int)+((n%10:Nat):Int)) v ww,λv _=>v=(str [UInt8.ofNat (48+n%10)]),λv _=>v=(str (aU (n/10)++[UInt8.ofNat (48+n%10)]))] de (fE (fE (fE (fE (fE (fE (fE (aai (λv w w' h k=>Db.ext h k) (fE (fE trivial)))))))))) (λwd aC=>?_) ?_
  refine et ?_ ?_
  intro x vs w1 e aI hd he
  replace aI:=mz.trans aC aI
  replace he:e=bo (bm _ x _) []:=he
  subst he
  refine W ?_
  exact dn (mz.refl _) rfl
  refine et ?_ ?_
  intro x vs w1 e aI hd he
  have d0:vs 0=(.int .i64 (n:Int)):=hd
  replace aI:=mz.trans aC aI
  replace he:e=bo (bm _ x _) [(18,vs 0)]:=he
  rw[d0] at he
  subst he
  refine Me (b:=10) rfl rfl rfl rfl rfl om (wrap_i64 _ om om)<|aV ?_
  exact dn (mz.refl _) rfl
  refine et ?_ ?_
  intro x vs w1 e aI hd he
  have d1:vs 1=(.int .i64 ((n/10:Nat):Int)):=hd
  replace aI:=mz.trans aC aI
  replace he:e=bo (bm _ x _) [(19,vs 1)]:=he
  rw[d1] at he
  subst he
  refine aA (ih (n/10) om om w1) ?_
  rintro _ w2 ⟨rfl,az⟩
  have dx:=az.size
  refine W ?_
  exact dn (mz.of az) rfl
  refine et ?_ ?_
  intro x vs w1 e aI hd he
  replace aI:=mz.trans aC aI
  replace he:e=bo (bm _ x _) []:=he
  subst he
  refine W ?_
  exact dn (mz.refl _) rfl
  refine et ?_ ?_
  intro x vs w1 e aI hd he
  have d3:vs 3=(.int .i64 (n:Int)):=hd
  replace aI:=mz.trans aC aI
  replace he:e=bo (bm _ x _) [(21,vs 3)]:=he
  rw[d3] at he
  subst he
  refine Gj (b:=10) rfl rfl rfl rfl rfl om<|aV ?_
  exact dn (mz.refl _) rfl
  refine et ?_ ?_
  intro x vs w1 e aI hd he
  have d4:vs 4=(.int .i64 ((n%10:Nat):Int)):=hd
  replace aI:=mz.trans aC aI
  replace he:e=bo (bm _ x _) [(22,vs 4)]:=he
  rw[d4] at he
  subst he
  refine W ?_
  exact dn (mz.refl _) rfl
  refine et ?_ ?_
  intro x vs w1 e aI hd he
  have d5:vs 5=(.int .i64 ((48:Int)+((n%10:Nat):Int))):=hd
  replace aI:=mz.trans aC aI
  replace he:e=bo (bm _ x _) [(23,vs 5)]:=he
  rw[d5] at he
  subst he
  refine yF xq yM rfl rfl rfl (wrap_u8 _ om om)<|aV ?_
  exact dn (mz.refl _) rfl
  refine et ?_ ?_
  intro x vs w1 e aI hd he
  have d6:vs 6=(.int .u8 ((48:Int)+((n%10:Nat):Int))):=hd
  replace aI:=mz.trans aC aI
  replace he:e=bo (bm _ x _) [(24,vs 6)]:=he
  rw[d6] at he
  subst he
  refine eR CN GO rfl rfl λw2 az Dc dD=>W ?_
  exact dn (mz.of az) ⟨_,rfl,Dc⟩
  refine et ?_ ?_
  intro x vs w1 e aI hd he
  have d7:(fun(v:Value) (ww:World)=>Db ((48:Int)+((n%10:Nat):Int)) v ww) (vs 7) w1:=hd
  replace aI:=mz.trans aC aI
  replace he:e=bo (bm _ x _) [(25,vs 7)]:=he
  obtain⟨b7,e7,Dc⟩:=d7
  rw[e7] at he
  subst he
  refine UK CN yM iE rfl rfl rfl Dc (UO n)<|aV ?_
  exact dn (mz.refl _) rfl
  refine et ?_ ?_
  intro x vs w1 e aI hd he
  have aQ:(vs 2=(str (aU (n/10))))∧(vs 8=(str [UInt8.ofNat (48+n%10)])):=hd
  obtain⟨d2,d8⟩:=aQ
  replace aI:=mz.trans aC aI
  replace he:e=bo (bm _ x _) [(20,vs 2),(26,vs 8)]:=he
  rw[d2,d8] at he
  subst he
  refine W ?_
  exact dn (mz.refl _) rfl
  exact trivial
  intro x vs NS agh dU
  have d0:vs 0=(.int .i64 (n:Int)):=dU 0 de
  have d1:vs 1=(.int .i64 ((n/10:Nat):Int)):=dU 1 de
  have d2:vs 2=(str (aU (n/10))):=dU 2 de
  have d3:vs 3=(.int .i64 (n:Int)):=dU 3 de
  have d4:vs 4=(.int .i64 ((n%10:Nat):Int)):=dU 4 de
  have d5:vs 5=(.int .i64 ((48:Int)+((n%10:Nat):Int))):=dU 5 de
  have d6:vs 6=(.int .u8 ((48:Int)+((n%10:Nat):Int))):=dU 6 de
  have d7:(fun(v:Value) (ww:World)=>Db ((48:Int)+((n%10:Nat):Int)) v ww) (vs 7) NS:=dU 7 de
  have d8:vs 8=(str [UInt8.ofNat (48+n%10)]):=dU 8 de
  have d9:vs 9=(str (aU (n/10)++[UInt8.ofNat (48+n%10)])):=dU 9 de
  have hK:=hK.ext agh
  change OW _ _ _ _ _ (bo (bm _ x _) (zZ 18 [vs 0,vs 1,vs 2,vs 3,vs 4,vs 5,vs 6,vs 7,vs 8,vs 9])) _
  rw[d0,d1,d2,d3,d4,d5,d6,d8,d9]
  refine W ?_
  exact⟨_,rfl,congrArg str (show aU (n/10)++[UInt8.ofNat (48+n%10)]=aU n from by conv=>(rhs;rw[aU,iN gi])),hK⟩
theorem BD (s:ai) (w:World):bw Tryz.prog 220 [str s] w λr w'=>r= .agg #[str s,.slice none 0 0]∧aj [] w w':=by
 have hK:=aj.refl [] w
 refine lG [.cell 2 74] 5 Tryz.func220 rfl adE rfl rfl rfl ?_
 refine zr<|dz aM rfl rfl rfl λw1 aI aR dh=>?_
 have hK:=hK.grow;have hK:=hK.ext aI
 refine aV<|zr<|zm<|jG (aeM _ _) rfl rfl<|cL aM rfl rfl rfl aR rfl λw2 az aR dD=>?_
 have hK:=hK.aD az sx
 refine W ?_
 exact⟨[_],gC fc aM rfl aR rfl,rfl,hK⟩
end Go.Proofs.YthbhobaiopccaaaGreatDoor
