/- The code for tasks; no condition beside those stated. -/
import Derived.Test.YtjaanhnmgipmeaaQB
import Derived.Test.YtjaanhnmgipmeaaX3
namespace Go.Proofs.Ytjaanhnmgipmeaa.X
set_option linter.unusedVariables false
set_option linter.unusedSimpArgs false
open Go.RowKit Go.Proofs.YtjaanhnmgipmeaaW.PrintWords Go.Proofs.YtjaanhnmgipmeaaW.PrintLast
theorem tasksCode_f (t : List Int) (b : Bool) : impl_tasksCode.f t b = some (if isTasksB t = true then (if b = true then 0 else 2) else 1) := by
  unfold impl_tasksCode.f
  rw [impl_IsTasks.f, Option.bind_some]
  by_cases h : isTasksB t = true
  · rw [if_pos h, if_pos h]
    cases b <;> simp
  · rw [if_neg h, if_neg h]
end Go.Proofs.Ytjaanhnmgipmeaa.X
