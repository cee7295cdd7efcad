/-
  Closed facts of the row of ProgramLoad.
-/
import Derived.Test.YtnkjgoholocliaaGreatDoorRows
import Derived.JoinedOf
import Derived.KernelRfl
import Derived.SevenTiedAt
namespace Go.Proofs.YtnkjgoholocliaaGreatDoor
open Go
theorem fnExactProgramLoad_main : Tryz.pinned.checked.prog.mainIs = some (true, "b79b93e3c1d0c3aadcb06e404c7e50fe5c05f7da9d2039930bee87740d4b1eda".toList) := by kernel_rfl
theorem fnExactProgramLoad_looks : true = Tryz.pinned.checked.prog.looks [] := by kernel_rfl
theorem fnExactProgramLoad_want0 : Tryz.pinned.checked.prog.wantsStandIn 9 = false := by kernel_rfl
theorem fnExactProgramLoad_goes : false = Rows.fnExactProgramLoadRow.goesBy Tryz.pinned.checked.prog := by kernel_rfl
end Go.Proofs.YtnkjgoholocliaaGreatDoor
