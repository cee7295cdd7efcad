/-
  Closed facts of the row of ProgramLoad.
-/
import Derived.Test.YtnkjgoholocliaaGreatDoorRows
import Derived.JoinedOf
import Derived.KernelRfl
import Derived.SevenTiedAt
namespace Go.Proofs.YtnkjgoholocliaaGreatDoor
open Go
theorem fnExactProgramLoad_fact23 : (fun (_ : Program) (_ : FuncId) (_ : Func) (_ : ChangeSpec) (c : OpenClaim) => (c.shortTexts.isNone : Bool)) Tryz.pinned.checked.prog 12 Tryz.f12 Rows.fnExactProgramLoadSpec Rows.fnExactProgramLoadRow = true := by kernel_rfl
theorem fnExactProgramLoad_fact24 : (fun (P : Program) (_ : FuncId) (_ : Func) (_ : ChangeSpec) (_ : OpenClaim) => (P.stopsHeard : Bool)) Tryz.pinned.checked.prog 12 Tryz.f12 Rows.fnExactProgramLoadSpec Rows.fnExactProgramLoadRow = true := by kernel_rfl
theorem fnExactProgramLoad_fact25 : (fun (P : Program) (_ : FuncId) (_ : Func) (_ : ChangeSpec) (_ : OpenClaim) => (P.mayEnter : Bool)) Tryz.pinned.checked.prog 12 Tryz.f12 Rows.fnExactProgramLoadSpec Rows.fnExactProgramLoadRow = true := by kernel_rfl
theorem fnExactProgramLoad_fact26 : (fun (P : Program) (_ : FuncId) (_ : Func) (_ : ChangeSpec) (c : OpenClaim) => ((c.lifted == P.liftsFinal) : Bool)) Tryz.pinned.checked.prog 12 Tryz.f12 Rows.fnExactProgramLoadSpec Rows.fnExactProgramLoadRow = true := by kernel_rfl
theorem fnExactProgramLoad_fact27 : (fun (P : Program) (_ : FuncId) (_ : Func) (_ : ChangeSpec) (c : OpenClaim) => ((P.make == some c.make) : Bool)) Tryz.pinned.checked.prog 12 Tryz.f12 Rows.fnExactProgramLoadSpec Rows.fnExactProgramLoadRow = true := by kernel_rfl
theorem fnExactProgramLoad_fact28 : (fun (P : Program) (_ : FuncId) (fn : Func) (_ : ChangeSpec) (c : OpenClaim) => ((c.kinds == (if c.domain.isEmpty then [] else fn.params.toList.map fun t => match P.underlying t with | some (.int k) => some k | _ => none)) : Bool)) Tryz.pinned.checked.prog 12 Tryz.f12 Rows.fnExactProgramLoadSpec Rows.fnExactProgramLoadRow = true := by kernel_rfl
theorem fnExactProgramLoad_fact29 : (fun (_ : Program) (_ : FuncId) (_ : Func) (_ : ChangeSpec) (c : OpenClaim) => ((c.pinned == c.pinnedBy) : Bool)) Tryz.pinned.checked.prog 12 Tryz.f12 Rows.fnExactProgramLoadSpec Rows.fnExactProgramLoadRow = true := by kernel_rfl
theorem fnExactProgramLoad_fact30 : (fun (P : Program) (_ : FuncId) (fn : Func) (s : ChangeSpec) (c : OpenClaim) => ((c.veiled == (fn.params.toList ++ s.plain.varTypes P ++ fn.resultTypes.toList).any (P.veiledRec ·)) : Bool)) Tryz.pinned.checked.prog 12 Tryz.f12 Rows.fnExactProgramLoadSpec Rows.fnExactProgramLoadRow = true := by kernel_rfl
theorem fnExactProgramLoad_fact31 : (fun (P : Program) (_ : FuncId) (fn : Func) (s : ChangeSpec) (c : OpenClaim) => (c.veiledFits P fn.params.toList (fn.params.toList ++ s.plain.varTypes P ++ fn.resultTypes.toList) : Bool)) Tryz.pinned.checked.prog 12 Tryz.f12 Rows.fnExactProgramLoadSpec Rows.fnExactProgramLoadRow = true := by kernel_rfl
end Go.Proofs.YtnkjgoholocliaaGreatDoor
