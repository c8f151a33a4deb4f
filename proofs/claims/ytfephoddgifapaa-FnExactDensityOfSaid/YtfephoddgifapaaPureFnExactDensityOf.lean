/- For every list of gaps: the program's DensityOf answers as the reference's does and leaves its argument as it was. -/
import Derived.Test.YtfephoddgifapaaQN
import Derived.Test.YtfephoddgifapaaX4
import Derived.Test.YtfephoddgifapaaX15
import Derived.Test.YtfephoddgifapaaX16
import Derived.Test.YtfephoddgifapaaX17
namespace Go.Proofs.Ytfephoddgifapaa.Pure
set_option linter.unusedVariables false
set_option linter.unusedSimpArgs false
open Go.RowKit Go.Proofs.Ytfephoddgifapaa.X Go.Proofs.YtfephoddgifapaaW.PrintWords Go.Proofs.YtfephoddgifapaaW.PrintLast
theorem FnExactDensityOf : laws_FnExactDensityOf.Pure := by
  intro t hmt hwt
  refine ⟨9223372036870000000, ?_⟩
  unfold laws_FnExactDensityOf.f
  by_cases hlt : t.length ≤ 1048576
  · rw [szTasks_ok t hlt, Option.bind_some, if_neg (by omega)]
    have hS : ∀ k, 9223372036860000000 < k → spec_DensityOf.f k t = some (if isTasksB t = true then (wrap64 (Int.tdiv (densF t (mulF t 1 : Nat) 0) (gI (densF t (mulF t 1 : Nat) 0) (mulF t 1 : Nat))), wrap64 (Int.tdiv (mulF t 1 : Nat) (gI (densF t (mulF t 1 : Nat) 0) (mulF t 1 : Nat))), (0 : Int)) else (0, 0, 1)) := by
      intro k hk
      unfold spec_DensityOf.f
      rw [l01Is_eq t (by omega) k (by omega), Option.bind_some]
      by_cases h : isTasksB t = true
      · have hlen := isTasks_len h
        rw [if_pos h, if_pos h, specDensity_eq t hlen.2 (isTasks_mem h) k hk, Option.bind_some]
      · rw [if_neg h, if_neg h]
    have hI : ∀ k, 9223372036860000000 < k → impl_DensityOf.f k t = some (if isTasksB t = true then (wrap64 (Int.tdiv (densF t (mulF t 1 : Nat) 0) (gI (densF t (mulF t 1 : Nat) 0) (mulF t 1 : Nat))), wrap64 (Int.tdiv (mulF t 1 : Nat) (gI (densF t (mulF t 1 : Nat) 0) (mulF t 1 : Nat))), (0 : Int)) else (0, 0, 1)) := by
      intro k hk
      unfold impl_DensityOf.f impl_tasksCode.f
      rw [impl_IsTasks.f, Option.bind_some]
      by_cases h : isTasksB t = true
      · have hlen := isTasks_len h
        rw [if_pos h, if_pos h, if_pos rfl, Option.bind_some, if_pos rfl, implDensity_eq t hlen.2 (isTasks_mem h) k hk, Option.bind_some]
      · rw [if_neg h, if_neg h, Option.bind_some, if_neg (by omega)]
    generalize (if isTasksB t = true then (wrap64 (Int.tdiv (densF t (mulF t 1 : Nat) 0) (gI (densF t (mulF t 1 : Nat) 0) (mulF t 1 : Nat))), wrap64 (Int.tdiv (mulF t 1 : Nat) (gI (densF t (mulF t 1 : Nat) 0) (mulF t 1 : Nat))), (0 : Int)) else (0, 0, 1)) = r at hS hI
    obtain ⟨r0, r1, r2⟩ := r
    simp (disch := omega) only [toInt64S_eq, Option.bind_some, hS, hI, if_true, bne_self_eq_false, eqInt64S_self, Bool.false_eq_true, if_false, toTasks_eq, eqTasks_self]
    simp only [laws_FnExactDensityOf.j0]
    simp (disch := omega) only [toInt64S_eq, Option.bind_some, hS, hI, if_true, bne_self_eq_false, eqInt64S_self, Bool.false_eq_true, if_false, toTasks_eq, eqTasks_self]
  · rw [szTasks_big t (maxLen_le hmt) hlt, Option.bind_some, if_pos (by omega)]
end Go.Proofs.Ytfephoddgifapaa.Pure
