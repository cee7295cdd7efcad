/-
  Closed facts of the row of ProgramText.
-/
import Derived.Test.YtnkjgoholocliaaGreatDoorRows
import Derived.JoinedOf
import Derived.KernelRfl
import Derived.SevenTiedAt
namespace Go.Proofs.YtnkjgoholocliaaGreatDoor
open Go
theorem fnExactProgramText_named : Tryz.pinned.checked.prog.funcNamed "loop.example/typedassembly/laws.FnExactProgramText" = some 5 := by kernel_rfl
theorem fnExactProgramText_inst : (Tryz.f5).isInstance Tryz.pinned.checked.prog Rows.fnExactProgramTextRow.origin Rows.fnExactProgramTextRow.targs := of_decide_eq_true (by kernel_rfl)
theorem fnExactProgramText_wrap : (Tryz.f5).isWrapper Tryz.pinned.checked.prog Rows.fnExactProgramTextRow.wrapper Rows.fnExactProgramTextRow.mainSum := by unfold Func.isWrapper; first | (rw [if_pos (by decide +kernel)]; kernel_rfl) | (rw [if_neg (by decide +kernel)]; exact ⟨rfl, rfl⟩)
theorem fnExactProgramText_wf : Rows.fnExactProgramTextRow.wfByText (OpenSpec.ofChange Rows.fnExactProgramTextSpec) = true := by kernel_rfl
end Go.Proofs.YtnkjgoholocliaaGreatDoor
