/- The codes for tasks and turns; no condition beside those stated. -/
import Derived.Test.YtcjcocffhljggaaQB
import Derived.Test.YtcjcocffhljggaaX4
import Derived.Test.YtcjcocffhljggaaX5
import Derived.Test.YtcjcocffhljggaaX7
import Derived.Test.YtcjcocffhljggaaX8
namespace Go.Proofs.Ytcjcocffhljggaa.X
set_option linter.unusedVariables false
set_option linter.unusedSimpArgs false
open Go.RowKit Go.Proofs.YtcjcocffhljggaaW.PrintWords Go.Proofs.YtcjcocffhljggaaW.PrintLast
def codeB (t l : List Int) : Int := if isTasksB t = true then (if areTurnsB l (t.length : Int) = true then 0 else 2) else 1
theorem l01Code_eq (t l : List Int) (hmt : t.length ≤ 1048576) (hml : l.length ≤ 1048576) (k : Nat) (hk : 1048576 < k) : spec_l01Code.f k t l = some (codeB t l) := by
  unfold spec_l01Code.f codeB
  rw [l01Is_eq t (by omega) k (by omega), Option.bind_some]
  by_cases h : isTasksB t = true
  · rw [if_pos h, if_pos h, spec_l01K.f, Option.bind_some, l01Turns_eq l _ (by omega) k (by omega), Option.bind_some]
    by_cases h2 : areTurnsB l (t.length : Int) = true
    · rw [if_pos h2, if_pos h2]
    · rw [if_neg h2, if_neg h2]
  · rw [if_neg h, if_neg h]
theorem tasksCode_f (t : List Int) (b : Bool) : impl_tasksCode.f t b = some (if isTasksB t = true then (if b = true then 0 else 2) else 1) := by
  unfold impl_tasksCode.f
  rw [impl_IsTasks.f, Option.bind_some]
  by_cases h : isTasksB t = true
  · rw [if_pos h, if_pos h]
    cases b <;> simp
  · rw [if_neg h, if_neg h]
theorem turnsCode_f (t l : List Int) : impl_turnsCode.f t l = some (codeB t l) := by
  unfold impl_turnsCode.f codeB
  rw [impl_Tasks_many.f, impl_length_int64.f, Option.bind_some, Option.bind_some, impl_areTurns.f, Option.bind_some, tasksCode_f, Option.bind_some]
theorem code_zero {t l : List Int} (h : codeB t l = 0) : isTasksB t = true ∧ areTurnsB l (t.length : Int) = true := by
  unfold codeB at h
  by_cases h1 : isTasksB t = true
  · rw [if_pos h1] at h
    by_cases h2 : areTurnsB l (t.length : Int) = true
    · exact ⟨h1, h2⟩
    · rw [if_neg h2] at h
      omega
  · rw [if_neg h1] at h
    omega
theorem turns_range {t l : List Int} (h1 : isTasksB t = true) (h2 : areTurnsB l (t.length : Int) = true) : ∀ x ∈ l, -1 ≤ x ∧ x < (t.length : Int) := by
  intro x hx
  have ht := isTasks_len h1
  have := areTurns_mem h2 x hx
  rw [wrap64_id (by omega) (by omega)] at this
  omega
end Go.Proofs.Ytcjcocffhljggaa.X
