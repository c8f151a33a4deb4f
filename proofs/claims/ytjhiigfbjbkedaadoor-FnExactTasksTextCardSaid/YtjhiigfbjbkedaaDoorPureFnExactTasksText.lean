/- For every list of gaps: the program's TasksText answers as the reference's does, and leaves its argument as it was. -/
import Derived.Test.YtjhiigfbjbkedaaDoorQJn
import Derived.Test.YtjhiigfbjbkedaaDoorX2
import Derived.Test.YtjhiigfbjbkedaaDoorX3
import Derived.Test.YtjhiigfbjbkedaaDoorX4
namespace Go.Proofs.YtjhiigfbjbkedaaDoor.Pure
set_option linter.unusedVariables false
set_option linter.unusedSimpArgs false
open Go.RowKit Go.Proofs.YtjhiigfbjbkedaaDoor.X Go.Proofs.YtjhiigfbjbkedaaDoorW.PrintWords Go.Proofs.YtjhiigfbjbkedaaDoorW.PrintLast
theorem FnExactTasksText : laws_FnExactTasksText.Pure := by
  intro l hm hw
  refine ⟨4000010, ?_⟩
  unfold laws_FnExactTasksText.f
  by_cases hl : l.length ≤ 1048576
  · rw [szTasks_ok l hl, Option.bind_some, if_neg (by omega)]
    have hS : ∀ k, 3000000 < k → spec_TasksText.f k l = some (if isTasksB l = true then (mkB (txtL l), (0 : Int)) else (⟨#[]⟩, 1)) := by
      intro k hk
      unfold spec_TasksText.f
      rw [l01Is_eq l (by omega) _ (by omega), Option.bind_some]
      by_cases h : isTasksB l = true
      · rw [if_pos h, if_pos h, specText_eq l (isTasks_len h).2 (isTasks_mem h) k (by omega), Option.bind_some]
      · rw [if_neg h, if_neg h]
    have hI : ∀ k, 3000000 < k → impl_TasksText.f k l = some (if isTasksB l = true then (mkB (txtL l), (0 : Int)) else (⟨#[]⟩, 1)) := by
      intro k hk
      unfold impl_TasksText.f impl_tasksCode.f
      rw [impl_IsTasks.f, Option.bind_some]
      by_cases h : isTasksB l = true
      · have e := implJoined_eq l (isTasks_len h).2 (isTasks_mem h) k (by omega)
        rw [if_pos h, if_pos h, if_pos rfl, Option.bind_some, if_pos rfl, show (⟨#[44]⟩ : ByteArray) = mkB [44] from rfl, e, Option.bind_some]
      · rw [if_neg h, if_neg h, Option.bind_some, if_neg (by omega)]
    generalize (if isTasksB l = true then (mkB (txtL l), (0 : Int)) else (⟨#[]⟩, 1)) = r at hS hI
    obtain ⟨r0, r1⟩ := r
    simp (disch := omega) only [toTasks_eq, Option.bind_some, hS, hI, if_true, bne_self_eq_false, laws_FnExactTasksText.j0, Bool.false_eq_true, if_false, eqTasks_self]
  · rw [szTasks_big l (maxLen_le hm) hl, Option.bind_some, if_pos (by omega)]
end Go.Proofs.YtjhiigfbjbkedaaDoor.Pure
