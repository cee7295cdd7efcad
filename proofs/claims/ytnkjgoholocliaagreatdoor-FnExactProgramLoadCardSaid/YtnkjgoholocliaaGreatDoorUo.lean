/-
  Closed facts of the row of ProgramLoad.
-/
import Derived.Test.YtnkjgoholocliaaGreatDoorRows
import Derived.JoinedOf
import Derived.KernelRfl
import Derived.SevenTiedAt
namespace Go.Proofs.YtnkjgoholocliaaGreatDoor
open Go
theorem fnExactProgramLoad_fact13 : (fun (P : Program) (_ : FuncId) (fn : Func) (s : ChangeSpec) (c : OpenClaim) => ((c.maps == (fn.params.toList ++ s.plain.varTypes P).any (P.mapsRec ·)) : Bool)) Tryz.pinned.checked.prog 12 Tryz.f12 Rows.fnExactProgramLoadSpec Rows.fnExactProgramLoadRow = true := by kernel_rfl
theorem fnExactProgramLoad_fact14 : (fun (P : Program) (_ : FuncId) (fn : Func) (s : ChangeSpec) (c : OpenClaim) => ((c.ifaces == (fn.params.toList ++ s.plain.varTypes P).any (P.ifacesRec ·)) : Bool)) Tryz.pinned.checked.prog 12 Tryz.f12 Rows.fnExactProgramLoadSpec Rows.fnExactProgramLoadRow = true := by kernel_rfl
theorem fnExactProgramLoad_fact15 : (fun (P : Program) (_ : FuncId) (fn : Func) (_ : ChangeSpec) (c : OpenClaim) => ((c.mapsOut == P.mapsAmong fn.resultTypes.toList) : Bool)) Tryz.pinned.checked.prog 12 Tryz.f12 Rows.fnExactProgramLoadSpec Rows.fnExactProgramLoadRow = true := by kernel_rfl
theorem fnExactProgramLoad_fact16 : (fun (P : Program) (_ : FuncId) (fn : Func) (s : ChangeSpec) (c : OpenClaim) => ((c.loops == (fn.params.toList ++ s.plain.varTypes P).any (P.loopsFrom ·)) : Bool)) Tryz.pinned.checked.prog 12 Tryz.f12 Rows.fnExactProgramLoadSpec Rows.fnExactProgramLoadRow = true := by kernel_rfl
theorem fnExactProgramLoad_fact17 : (fun (P : Program) (_ : FuncId) (fn : Func) (s : ChangeSpec) (c : OpenClaim) => ((c.wideKeys == (fn.params.toList ++ s.plain.varTypes P ++ fn.resultTypes.toList).any (P.wideKeysFrom ·)) : Bool)) Tryz.pinned.checked.prog 12 Tryz.f12 Rows.fnExactProgramLoadSpec Rows.fnExactProgramLoadRow = true := by kernel_rfl
theorem fnExactProgramLoad_fact18 : (fun (P : Program) (_ : FuncId) (_ : Func) (s : ChangeSpec) (_ : OpenClaim) => (s.vars.all (P.varReadable ·) : Bool)) Tryz.pinned.checked.prog 12 Tryz.f12 Rows.fnExactProgramLoadSpec Rows.fnExactProgramLoadRow = true := by kernel_rfl
theorem fnExactProgramLoad_fact19 : (fun (P : Program) (_ : FuncId) (fn : Func) (_ : ChangeSpec) (_ : OpenClaim) => (fn.resultTypes.all (fun t => P.readableRec t && decide (t < P.types.size)) : Bool)) Tryz.pinned.checked.prog 12 Tryz.f12 Rows.fnExactProgramLoadSpec Rows.fnExactProgramLoadRow = true := by kernel_rfl
theorem fnExactProgramLoad_fact20 : (fun (P : Program) (_ : FuncId) (fn : Func) (_ : ChangeSpec) (c : OpenClaim) => ((c.ifacesOut == fn.resultTypes.toList.any (P.ifacesRec ·)) : Bool)) Tryz.pinned.checked.prog 12 Tryz.f12 Rows.fnExactProgramLoadSpec Rows.fnExactProgramLoadRow = true := by kernel_rfl
theorem fnExactProgramLoad_fact21 : (fun (P : Program) (_ : FuncId) (fn : Func) (_ : ChangeSpec) (c : OpenClaim) => ((c.loopsOut == fn.resultTypes.toList.any (P.loopsFrom ·)) : Bool)) Tryz.pinned.checked.prog 12 Tryz.f12 Rows.fnExactProgramLoadSpec Rows.fnExactProgramLoadRow = true := by kernel_rfl
theorem fnExactProgramLoad_fact22 : (fun (P : Program) (_ : FuncId) (_ : Func) (_ : ChangeSpec) (c : OpenClaim) => ((c.plainKeys == P.plainKeys) : Bool)) Tryz.pinned.checked.prog 12 Tryz.f12 Rows.fnExactProgramLoadSpec Rows.fnExactProgramLoadRow = true := by kernel_rfl
end Go.Proofs.YtnkjgoholocliaaGreatDoor
