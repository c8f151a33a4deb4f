/- For every list of gaps: the program's CountStates answers as the reference's does, and leaves its argument as it was. -/
import Derived.Test.YtndbfmbejopkkaaQD
import Derived.Test.YtndbfmbejopkkaaX35
import Derived.Test.YtndbfmbejopkkaaX39
import Derived.Test.YtndbfmbejopkkaaX40
import Derived.Test.YtndbfmbejopkkaaX42
import Derived.Test.YtndbfmbejopkkaaX43
namespace Go.Proofs.Ytndbfmbejopkkaa.Pure
set_option linter.unusedVariables false
set_option linter.unusedSimpArgs false
open Go.RowKit Go.Proofs.Ytndbfmbejopkkaa.X Go.Proofs.YtndbfmbejopkkaaW.PrintWords Go.Proofs.YtndbfmbejopkkaaW.PrintLast
theorem FnExactCountStates : laws_FnExactCountStates.Pure := by
  intro l hm hw
  refine ⟨4000010, ?_⟩
  unfold laws_FnExactCountStates.f
  by_cases hl : l.length ≤ 1048576
  · rw [szTasks_ok l hl, Option.bind_some, if_neg (by omega)]
    have hS : ∀ k, 3000000 < k → spec_CountStates.f k l = some (if isTasksB l = true then (prodW l 1, (0 : Int)) else (0, 1)) := by
      intro k hk
      unfold spec_CountStates.f
      rw [l01Is_eq l (by omega) _ (by omega), Option.bind_some]
      by_cases h : isTasksB l = true
      · rw [if_pos h, if_pos h, l02Count_eq l hl _ (by omega), Option.bind_some]
      · rw [if_neg h, if_neg h]
    have hI : ∀ k, 3000000 < k → impl_CountStates.f k l = some (if isTasksB l = true then (prodW l 1, (0 : Int)) else (0, 1)) := by
      intro k hk
      unfold impl_CountStates.f impl_tasksCode.f
      rw [impl_IsTasks.f, Option.bind_some]
      by_cases h : isTasksB l = true
      · rw [if_pos h, if_pos h, if_pos rfl, Option.bind_some, if_pos rfl, states_eq l hl _ (by omega), Option.bind_some]
      · rw [if_neg h, if_neg h, Option.bind_some, if_neg (by omega)]
    simp (disch := omega) only [toTasks_eq, Option.bind_some, hS, hI, if_true, bne_self_eq_false, laws_FnExactCountStates.j0, Bool.false_eq_true, if_false, eqTasks_self]
  · rw [szTasks_big l (maxLen_le hm) hl, Option.bind_some, if_pos (by omega)]
end Go.Proofs.Ytndbfmbejopkkaa.Pure
