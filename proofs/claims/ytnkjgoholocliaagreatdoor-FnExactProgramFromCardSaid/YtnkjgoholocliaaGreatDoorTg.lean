/-
  Closed facts of the row of ProgramFrom.
-/
import Derived.Test.YtnkjgoholocliaaGreatDoorRows
import Derived.JoinedOf
import Derived.KernelRfl
import Derived.SevenTiedAt
namespace Go.Proofs.YtnkjgoholocliaaGreatDoor
open Go
theorem fnExactProgramFrom_named : Tryz.pinned.checked.prog.funcNamed "loop.example/typedassembly/laws.FnExactProgramFrom" = some 4 := by kernel_rfl
theorem fnExactProgramFrom_inst : (Tryz.f4).isInstance Tryz.pinned.checked.prog Rows.fnExactProgramFromRow.origin Rows.fnExactProgramFromRow.targs := of_decide_eq_true (by kernel_rfl)
theorem fnExactProgramFrom_wrap : (Tryz.f4).isWrapper Tryz.pinned.checked.prog Rows.fnExactProgramFromRow.wrapper Rows.fnExactProgramFromRow.mainSum := by unfold Func.isWrapper; first | (rw [if_pos (by decide +kernel)]; kernel_rfl) | (rw [if_neg (by decide +kernel)]; exact ⟨rfl, rfl⟩)
theorem fnExactProgramFrom_wf : Rows.fnExactProgramFromRow.wfByText (OpenSpec.ofChange Rows.fnExactProgramFromSpec) = true := by kernel_rfl
end Go.Proofs.YtnkjgoholocliaaGreatDoor
