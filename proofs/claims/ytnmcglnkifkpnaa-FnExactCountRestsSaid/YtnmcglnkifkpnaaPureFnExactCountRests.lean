/- For every list of gaps: the program's CountRests answers as the reference's does, and leaves its argument as it was. -/
import Derived.Test.YtnmcglnkifkpnaaQD
import Derived.Test.YtnmcglnkifkpnaaQR
import Derived.Test.YtnmcglnkifkpnaaX3
import Derived.Test.YtnmcglnkifkpnaaX4
import Derived.Test.YtnmcglnkifkpnaaX6
import Derived.Test.YtnmcglnkifkpnaaX7
namespace Go.Proofs.Ytnmcglnkifkpnaa.Pure
set_option linter.unusedVariables false
set_option linter.unusedSimpArgs false
open Go.RowKit Go.Proofs.Ytnmcglnkifkpnaa.X Go.Proofs.YtnmcglnkifkpnaaW.PrintWords Go.Proofs.YtnmcglnkifkpnaaW.PrintLast
theorem FnExactCountRests : laws_FnExactCountRests.Pure := by
  intro l hm hw
  refine ⟨4000010, ?_⟩
  unfold laws_FnExactCountRests.f
  by_cases hl : l.length ≤ 1048576
  · rw [szTasks_ok l hl, Option.bind_some, if_neg (by omega)]
    have hS : ∀ k, 3000000 < k → spec_CountRests.f k l = some (if isTasksB l = true then (if prodW l 1 > 20000 then ((0 : Int), (3 : Int)) else (wrap64 (cntF l []), 0)) else (0, 1)) := by
      intro k hk
      unfold spec_CountRests.f
      rw [l01Is_eq l (by omega) _ (by omega), Option.bind_some]
      by_cases h : isTasksB l = true
      · have e := specRests_l0 l (isTasks_len h).2 (isTasks_mem h) l.length 0 k 1 (by omega) (by have := isTasks_len h; omega)
        rw [List.drop_zero] at e
        rw [if_pos h, if_pos h]
        exact e
      · rw [if_neg h, if_neg h]
    have hI : ∀ k, 3000000 < k → impl_CountRests.f k l = some (if isTasksB l = true then (if prodW l 1 > 20000 then ((0 : Int), (3 : Int)) else (wrap64 (cntF l []), 0)) else (0, 1)) := by
      intro k hk
      unfold impl_CountRests.f impl_tasksCode.f
      rw [impl_IsTasks.f, Option.bind_some]
      by_cases h : isTasksB l = true
      · rw [if_pos h, if_pos h, if_pos rfl, Option.bind_some, if_pos rfl, states_eq l hl _ (by omega), Option.bind_some]
        by_cases h2 : prodW l 1 > 20000
        · rw [if_pos h2, if_pos h2]
        · have e := implRests_f l (isTasks_len h).2 (isTasks_mem h) l.length [] k 0 (by simp) (fun x hx => by simp at hx) (by have := isTasks_len h; omega)
          rw [List.length_nil, List.drop_zero, Int.zero_add, show wrap64 0 = 0 from wrap64_id (by omega) (by omega)] at e
          rw [if_neg h2, if_neg h2, e, Option.bind_some]
      · rw [if_neg h, if_neg h, Option.bind_some, if_neg (by omega)]
    generalize (if isTasksB l = true then (if prodW l 1 > 20000 then ((0 : Int), (3 : Int)) else (wrap64 (cntF l []), 0)) else (0, 1)) = r at hS hI
    obtain ⟨r0, r1⟩ := r
    simp (disch := omega) only [toTasks_eq, Option.bind_some, hS, hI, if_true, bne_self_eq_false, laws_FnExactCountRests.j0, Bool.false_eq_true, if_false, eqTasks_self]
  · rw [szTasks_big l (maxLen_le hm) hl, Option.bind_some, if_pos (by omega)]
end Go.Proofs.Ytnmcglnkifkpnaa.Pure
