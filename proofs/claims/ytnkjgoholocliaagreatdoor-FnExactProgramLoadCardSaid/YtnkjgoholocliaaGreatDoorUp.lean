/-
  Closed facts of the row of ProgramLoad.
-/
import Derived.Test.YtnkjgoholocliaaGreatDoorRows
import Derived.JoinedOf
import Derived.KernelRfl
import Derived.SevenTiedAt
namespace Go.Proofs.YtnkjgoholocliaaGreatDoor
open Go
theorem fnExactProgramLoad_named : Tryz.pinned.checked.prog.funcNamed "loop.example/typedassembly/laws.FnExactProgramLoad" = some 12 := by kernel_rfl
theorem fnExactProgramLoad_inst : (Tryz.f12).isInstance Tryz.pinned.checked.prog Rows.fnExactProgramLoadRow.origin Rows.fnExactProgramLoadRow.targs := of_decide_eq_true (by kernel_rfl)
theorem fnExactProgramLoad_wrap : (Tryz.f12).isWrapper Tryz.pinned.checked.prog Rows.fnExactProgramLoadRow.wrapper Rows.fnExactProgramLoadRow.mainSum := by unfold Func.isWrapper; first | (rw [if_pos (by decide +kernel)]; kernel_rfl) | (rw [if_neg (by decide +kernel)]; exact ⟨rfl, rfl⟩)
theorem fnExactProgramLoad_wf : Rows.fnExactProgramLoadRow.wfByText (OpenSpec.ofChange Rows.fnExactProgramLoadSpec) = true := by kernel_rfl
end Go.Proofs.YtnkjgoholocliaaGreatDoor
