/-
  Closed facts of the row of ProgramFrom.
-/
import Derived.Test.YtnkjgoholocliaaGreatDoorRows
import Derived.JoinedOf
import Derived.KernelRfl
import Derived.SevenTiedAt
namespace Go.Proofs.YtnkjgoholocliaaGreatDoor
open Go
theorem fnExactProgramFrom_fact23 : (fun (P : Program) (f : FuncId) (fn : Func) (s : ChangeSpec) (c : OpenClaim) => (c.shortTexts.isNone : Bool)) Tryz.pinned.checked.prog 4 Tryz.f4 Rows.fnExactProgramFromSpec Rows.fnExactProgramFromRow = true := by kernel_rfl
theorem fnExactProgramFrom_fact24 : (fun (P : Program) (f : FuncId) (fn : Func) (s : ChangeSpec) (c : OpenClaim) => (P.stopsHeard : Bool)) Tryz.pinned.checked.prog 4 Tryz.f4 Rows.fnExactProgramFromSpec Rows.fnExactProgramFromRow = true := by kernel_rfl
theorem fnExactProgramFrom_fact25 : (fun (P : Program) (f : FuncId) (fn : Func) (s : ChangeSpec) (c : OpenClaim) => (P.mayEnter : Bool)) Tryz.pinned.checked.prog 4 Tryz.f4 Rows.fnExactProgramFromSpec Rows.fnExactProgramFromRow = true := by kernel_rfl
theorem fnExactProgramFrom_fact26 : (fun (P : Program) (f : FuncId) (fn : Func) (s : ChangeSpec) (c : OpenClaim) => ((c.lifted == P.liftsFinal) : Bool)) Tryz.pinned.checked.prog 4 Tryz.f4 Rows.fnExactProgramFromSpec Rows.fnExactProgramFromRow = true := by kernel_rfl
theorem fnExactProgramFrom_fact27 : (fun (P : Program) (f : FuncId) (fn : Func) (s : ChangeSpec) (c : OpenClaim) => ((P.make == some c.make) : Bool)) Tryz.pinned.checked.prog 4 Tryz.f4 Rows.fnExactProgramFromSpec Rows.fnExactProgramFromRow = true := by kernel_rfl
theorem fnExactProgramFrom_fact28 : (fun (P : Program) (f : FuncId) (fn : Func) (s : ChangeSpec) (c : OpenClaim) => ((c.kinds == (if c.domain.isEmpty then [] else fn.params.toList.map fun t => match P.underlying t with | some (.int k) => some k | _ => none)) : Bool)) Tryz.pinned.checked.prog 4 Tryz.f4 Rows.fnExactProgramFromSpec Rows.fnExactProgramFromRow = true := by kernel_rfl
theorem fnExactProgramFrom_fact29 : (fun (P : Program) (f : FuncId) (fn : Func) (s : ChangeSpec) (c : OpenClaim) => ((c.pinned == c.pinnedBy) : Bool)) Tryz.pinned.checked.prog 4 Tryz.f4 Rows.fnExactProgramFromSpec Rows.fnExactProgramFromRow = true := by kernel_rfl
theorem fnExactProgramFrom_fact30 : (fun (P : Program) (f : FuncId) (fn : Func) (s : ChangeSpec) (c : OpenClaim) => ((c.veiled == (fn.params.toList ++ s.plain.varTypes P ++ fn.resultTypes.toList).any (P.veiledRec ·)) : Bool)) Tryz.pinned.checked.prog 4 Tryz.f4 Rows.fnExactProgramFromSpec Rows.fnExactProgramFromRow = true := by kernel_rfl
theorem fnExactProgramFrom_fact31 : (fun (P : Program) (f : FuncId) (fn : Func) (s : ChangeSpec) (c : OpenClaim) => (c.veiledFits P fn.params.toList (fn.params.toList ++ s.plain.varTypes P ++ fn.resultTypes.toList) : Bool)) Tryz.pinned.checked.prog 4 Tryz.f4 Rows.fnExactProgramFromSpec Rows.fnExactProgramFromRow = true := by kernel_rfl
end Go.Proofs.YtnkjgoholocliaaGreatDoor
