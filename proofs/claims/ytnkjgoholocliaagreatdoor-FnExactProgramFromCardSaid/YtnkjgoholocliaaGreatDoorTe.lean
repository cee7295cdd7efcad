/-
  Closed facts of the row of ProgramFrom.
-/
import Derived.Test.YtnkjgoholocliaaGreatDoorRows
import Derived.JoinedOf
import Derived.KernelRfl
import Derived.SevenTiedAt
namespace Go.Proofs.YtnkjgoholocliaaGreatDoor
open Go
theorem fnExactProgramFrom_fact0 : (fun (P : Program) (f : FuncId) (fn : Func) (s : ChangeSpec) (c : OpenClaim) => (c.wf (OpenSpec.ofChange s) : Bool)) Tryz.pinned.checked.prog 4 Tryz.f4 Rows.fnExactProgramFromSpec Rows.fnExactProgramFromRow = true := by kernel_rfl
theorem fnExactProgramFrom_fact1 : (fun (P : Program) (f : FuncId) (fn : Func) (s : ChangeSpec) (c : OpenClaim) => (laidOutB P : Bool)) Tryz.pinned.checked.prog 4 Tryz.f4 Rows.fnExactProgramFromSpec Rows.fnExactProgramFromRow = true := by kernel_rfl
theorem fnExactProgramFrom_fact2 : (fun (P : Program) (f : FuncId) (fn : Func) (s : ChangeSpec) (c : OpenClaim) => (mapsRowed P : Bool)) Tryz.pinned.checked.prog 4 Tryz.f4 Rows.fnExactProgramFromSpec Rows.fnExactProgramFromRow = true := by kernel_rfl
theorem fnExactProgramFrom_fact3 : (fun (P : Program) (f : FuncId) (fn : Func) (s : ChangeSpec) (c : OpenClaim) => (fn.params.all (P.readableRec ·) : Bool)) Tryz.pinned.checked.prog 4 Tryz.f4 Rows.fnExactProgramFromSpec Rows.fnExactProgramFromRow = true := by kernel_rfl
theorem fnExactProgramFrom_fact4 : (fun (P : Program) (f : FuncId) (fn : Func) (s : ChangeSpec) (c : OpenClaim) => (namedTie P c.named s.vars : Bool)) Tryz.pinned.checked.prog 4 Tryz.f4 Rows.fnExactProgramFromSpec Rows.fnExactProgramFromRow = true := by kernel_rfl
theorem fnExactProgramFrom_fact5 : (fun (P : Program) (f : FuncId) (fn : Func) (s : ChangeSpec) (c : OpenClaim) => ((c.stops == []) : Bool)) Tryz.pinned.checked.prog 4 Tryz.f4 Rows.fnExactProgramFromSpec Rows.fnExactProgramFromRow = true := by kernel_rfl
theorem fnExactProgramFrom_fact6 : (fun (P : Program) (f : FuncId) (fn : Func) (s : ChangeSpec) (c : OpenClaim) => ((P.stops == []) : Bool)) Tryz.pinned.checked.prog 4 Tryz.f4 Rows.fnExactProgramFromSpec Rows.fnExactProgramFromRow = true := by kernel_rfl
theorem fnExactProgramFrom_fact7 : (fun (P : Program) (f : FuncId) (fn : Func) (s : ChangeSpec) (c : OpenClaim) => ((c.knobs == []) : Bool)) Tryz.pinned.checked.prog 4 Tryz.f4 Rows.fnExactProgramFromSpec Rows.fnExactProgramFromRow = true := by kernel_rfl
theorem fnExactProgramFrom_fact8 : (fun (P : Program) (f : FuncId) (fn : Func) (s : ChangeSpec) (c : OpenClaim) => ((P.stopKnobs == []) : Bool)) Tryz.pinned.checked.prog 4 Tryz.f4 Rows.fnExactProgramFromSpec Rows.fnExactProgramFromRow = true := by kernel_rfl
theorem fnExactProgramFrom_fact9 : (fun (P : Program) (f : FuncId) (fn : Func) (s : ChangeSpec) (c : OpenClaim) => ((c.inPlace == P.inPlace f) : Bool)) Tryz.pinned.checked.prog 4 Tryz.f4 Rows.fnExactProgramFromSpec Rows.fnExactProgramFromRow = true := by kernel_rfl
theorem fnExactProgramFrom_fact10 : (fun (P : Program) (f : FuncId) (fn : Func) (s : ChangeSpec) (c : OpenClaim) => ((c.unfollowed == P.unfollowed f) : Bool)) Tryz.pinned.checked.prog 4 Tryz.f4 Rows.fnExactProgramFromSpec Rows.fnExactProgramFromRow = true := by kernel_rfl
theorem fnExactProgramFrom_fact11 : (fun (P : Program) (f : FuncId) (fn : Func) (s : ChangeSpec) (c : OpenClaim) => ((c.recurses == P.recurses f) : Bool)) Tryz.pinned.checked.prog 4 Tryz.f4 Rows.fnExactProgramFromSpec Rows.fnExactProgramFromRow = true := by kernel_rfl
theorem fnExactProgramFrom_fact12 : (fun (P : Program) (f : FuncId) (fn : Func) (s : ChangeSpec) (c : OpenClaim) => ((c.named == P.varsNamed f) : Bool)) Tryz.pinned.checked.prog 4 Tryz.f4 Rows.fnExactProgramFromSpec Rows.fnExactProgramFromRow = true := by kernel_rfl
end Go.Proofs.YtnkjgoholocliaaGreatDoor
