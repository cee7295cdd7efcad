/-
  Closed facts of the row of ProgramLoad.
-/
import Derived.Test.YtnkjgoholocliaaGreatDoorRows
import Derived.JoinedOf
import Derived.KernelRfl
import Derived.SevenTiedAt
namespace Go.Proofs.YtnkjgoholocliaaGreatDoor
open Go
theorem fnExactProgramLoad_fact0 : (fun (_ : Program) (_ : FuncId) (_ : Func) (s : ChangeSpec) (c : OpenClaim) => (c.wf (OpenSpec.ofChange s) : Bool)) Tryz.pinned.checked.prog 12 Tryz.f12 Rows.fnExactProgramLoadSpec Rows.fnExactProgramLoadRow = true := by kernel_rfl
theorem fnExactProgramLoad_fact1 : (fun (P : Program) (_ : FuncId) (_ : Func) (_ : ChangeSpec) (_ : OpenClaim) => (laidOutB P : Bool)) Tryz.pinned.checked.prog 12 Tryz.f12 Rows.fnExactProgramLoadSpec Rows.fnExactProgramLoadRow = true := by kernel_rfl
theorem fnExactProgramLoad_fact2 : (fun (P : Program) (_ : FuncId) (_ : Func) (_ : ChangeSpec) (_ : OpenClaim) => (mapsRowed P : Bool)) Tryz.pinned.checked.prog 12 Tryz.f12 Rows.fnExactProgramLoadSpec Rows.fnExactProgramLoadRow = true := by kernel_rfl
theorem fnExactProgramLoad_fact3 : (fun (P : Program) (_ : FuncId) (fn : Func) (_ : ChangeSpec) (_ : OpenClaim) => (fn.params.all (P.readableRec ·) : Bool)) Tryz.pinned.checked.prog 12 Tryz.f12 Rows.fnExactProgramLoadSpec Rows.fnExactProgramLoadRow = true := by kernel_rfl
theorem fnExactProgramLoad_fact4 : (fun (P : Program) (_ : FuncId) (_ : Func) (s : ChangeSpec) (c : OpenClaim) => (namedTie P c.named s.vars : Bool)) Tryz.pinned.checked.prog 12 Tryz.f12 Rows.fnExactProgramLoadSpec Rows.fnExactProgramLoadRow = true := by kernel_rfl
theorem fnExactProgramLoad_fact5 : (fun (_ : Program) (_ : FuncId) (_ : Func) (_ : ChangeSpec) (c : OpenClaim) => ((c.stops == []) : Bool)) Tryz.pinned.checked.prog 12 Tryz.f12 Rows.fnExactProgramLoadSpec Rows.fnExactProgramLoadRow = true := by kernel_rfl
theorem fnExactProgramLoad_fact6 : (fun (P : Program) (_ : FuncId) (_ : Func) (_ : ChangeSpec) (_ : OpenClaim) => ((P.stops == []) : Bool)) Tryz.pinned.checked.prog 12 Tryz.f12 Rows.fnExactProgramLoadSpec Rows.fnExactProgramLoadRow = true := by kernel_rfl
theorem fnExactProgramLoad_fact7 : (fun (_ : Program) (_ : FuncId) (_ : Func) (_ : ChangeSpec) (c : OpenClaim) => ((c.knobs == []) : Bool)) Tryz.pinned.checked.prog 12 Tryz.f12 Rows.fnExactProgramLoadSpec Rows.fnExactProgramLoadRow = true := by kernel_rfl
theorem fnExactProgramLoad_fact8 : (fun (P : Program) (_ : FuncId) (_ : Func) (_ : ChangeSpec) (_ : OpenClaim) => ((P.stopKnobs == []) : Bool)) Tryz.pinned.checked.prog 12 Tryz.f12 Rows.fnExactProgramLoadSpec Rows.fnExactProgramLoadRow = true := by kernel_rfl
theorem fnExactProgramLoad_fact9 : (fun (P : Program) (f : FuncId) (_ : Func) (_ : ChangeSpec) (c : OpenClaim) => ((c.inPlace == P.inPlace f) : Bool)) Tryz.pinned.checked.prog 12 Tryz.f12 Rows.fnExactProgramLoadSpec Rows.fnExactProgramLoadRow = true := by kernel_rfl
theorem fnExactProgramLoad_fact10 : (fun (P : Program) (f : FuncId) (_ : Func) (_ : ChangeSpec) (c : OpenClaim) => ((c.unfollowed == P.unfollowed f) : Bool)) Tryz.pinned.checked.prog 12 Tryz.f12 Rows.fnExactProgramLoadSpec Rows.fnExactProgramLoadRow = true := by kernel_rfl
theorem fnExactProgramLoad_fact11 : (fun (P : Program) (f : FuncId) (_ : Func) (_ : ChangeSpec) (c : OpenClaim) => ((c.recurses == P.recurses f) : Bool)) Tryz.pinned.checked.prog 12 Tryz.f12 Rows.fnExactProgramLoadSpec Rows.fnExactProgramLoadRow = true := by kernel_rfl
theorem fnExactProgramLoad_fact12 : (fun (P : Program) (f : FuncId) (_ : Func) (_ : ChangeSpec) (c : OpenClaim) => ((c.named == P.varsNamed f) : Bool)) Tryz.pinned.checked.prog 12 Tryz.f12 Rows.fnExactProgramLoadSpec Rows.fnExactProgramLoadRow = true := by kernel_rfl
end Go.Proofs.YtnkjgoholocliaaGreatDoor
