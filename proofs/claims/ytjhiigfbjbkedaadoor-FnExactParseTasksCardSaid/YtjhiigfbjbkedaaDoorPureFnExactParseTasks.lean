/- For every text: the program's ParseTasks answers as the reference's does and shares no memory. -/
import Derived.Test.YtjhiigfbjbkedaaDoorQPt
import Derived.Test.YtjhiigfbjbkedaaDoorQM
import Derived.Test.YtjhiigfbjbkedaaDoorQH
import Derived.Test.YtjhiigfbjbkedaaDoorX3
import Derived.Test.YtjhiigfbjbkedaaDoorX5
import Derived.Test.YtjhiigfbjbkedaaDoorX6
namespace Go.Proofs.YtjhiigfbjbkedaaDoor.Pure
set_option linter.unusedVariables false
set_option linter.unusedSimpArgs false
open Go.RowKit Go.Proofs.YtjhiigfbjbkedaaDoor.X Go.Proofs.YtjhiigfbjbkedaaDoorW.PrintWords Go.Proofs.YtjhiigfbjbkedaaDoorW.PrintLast
theorem FnExactParseTasks : laws_FnExactParseTasks.Pure := by
  intro a hwa
  refine ⟨4000010, ?_⟩
  unfold laws_FnExactParseTasks.f
  by_cases hla : a.size ≤ 1048576
  · rw [if_neg (by omega)]
    have hS : ∀ k, 3000000 < k → spec_ParseTasks.f k a = some (specR (splitC (bs a))) := by
      intro k hk
      exact specParse_eq a hla k (by omega)
    have hI : ∀ k, 3000000 < k → impl_ParseTasks.f k a = some (specR (splitC (bs a))) := by
      intro k hk
      rw [implParse_eq a hla k (by omega), parse_both]
    have hr : (specR (splitC (bs a))).1.length ≤ 1048576 := by
      exact specR_len _
    generalize (specR (splitC (bs a))) = r at hS hI hr
    obtain ⟨r0, r1⟩ := r
    simp only at hr
    simp (disch := omega) only [Option.bind_some, hS, hI, if_true, bne_self_eq_false, eqInt64S_self, Bool.false_eq_true, if_false, markInt64S_eq, heldInt64S_eq, not_neg, eqTasks_self, markTasks_eq, heldTasks_eq]
    simp only [laws_FnExactParseTasks.j0]
    simp (disch := omega) only [Option.bind_some, hS, hI, if_true, bne_self_eq_false, eqInt64S_self, Bool.false_eq_true, if_false, markInt64S_eq, heldInt64S_eq, not_neg, eqTasks_self, markTasks_eq, heldTasks_eq]
    simp only [laws_FnExactParseTasks.j1]
    simp (disch := omega) only [Option.bind_some, hS, hI, if_true, bne_self_eq_false, eqInt64S_self, Bool.false_eq_true, if_false, markInt64S_eq, heldInt64S_eq, not_neg, eqTasks_self, markTasks_eq, heldTasks_eq]
  · rw [if_pos (by omega)]
end Go.Proofs.YtjhiigfbjbkedaaDoor.Pure
