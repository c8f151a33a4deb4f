/- What IsTasks, areTurns, IsGarden and their references answer; no condition beside those stated. -/
import Derived.Test.YtjhiigfbjbkedaaDoorQA
import Derived.Test.YtjhiigfbjbkedaaDoorX1
import Derived.Test.YtjhiigfbjbkedaaDoorX4
namespace Go.Proofs.YtjhiigfbjbkedaaDoor.X
set_option linter.unusedVariables false
set_option linter.unusedSimpArgs false
open Go.RowKit Go.Proofs.YtjhiigfbjbkedaaDoorW.PrintWords Go.Proofs.YtjhiigfbjbkedaaDoorW.PrintLast
theorem l01In_f (a lo hi : Int) : spec_l01In.f a lo hi = some (withinB a lo hi) := by
  unfold spec_l01In.f withinB
  by_cases h : lo ≤ a <;> simp [h]
theorem all_drop (l : List Int) (p : Int → Bool) (i : Nat) (h : i < l.length) : (l.drop i).all p = (p (rd l (i : Int)) && (l.drop (i + 1)).all p) := by
  rw [drop_rd l i h, List.all_cons]
theorem l01Is_l0 (l : List Int) (hm : l.length ≤ 9223372036854775807) : ∀ (d i k : Nat), i + d = l.length → d < k → spec_l01Is.l0 k (i : Int) l = some ((l.drop i).all (fun x => withinB x 1 40) && withinB (l.length : Int) 1 8) := by
  intro d
  induction d with
  | zero =>
    intro i k hi hk
    obtain ⟨k, rfl⟩ : ∃ m, k = m + 1 := ⟨k - 1, by omega⟩
    simp only [spec_l01Is.l0]
    rw [if_neg (by omega), spec_l01K.f, Option.bind_some, l01In_f, Option.bind_some, List.drop_of_length_le (by omega)]
    simp
  | succ d ih =>
    intro i k hi hk
    obtain ⟨k, rfl⟩ : ∃ m, k = m + 1 := ⟨k - 1, by omega⟩
    simp only [spec_l01Is.l0]
    rw [if_pos (by omega), if_pos (by omega), l01In_f, Option.bind_some, wrap_succ (n := l.length) (by omega) hm, ih (i + 1) k (by omega) (by omega), all_drop l _ i (by omega)]
    by_cases h : withinB (rd l (i : Int)) 1 40 = true
    · rw [if_pos h, h, Bool.true_and]
    · rw [if_neg h]
      simp only [Bool.not_eq_true] at h
      rw [h]
      simp
theorem l01Is_eq (l : List Int) (hm : l.length ≤ 9223372036854775807) (k : Nat) (hk : l.length < k) : spec_l01Is.f k l = some (isTasksB l) := by
  unfold spec_l01Is.f isTasksB
  have := l01Is_l0 l hm l.length 0 k (by omega) hk
  rw [Bool.and_comm]
  simpa using this
theorem eqTasks_self (l : List Int) (hm : l.length ≤ 1048576) (k : Nat) (hk : l.length < k) : laws_eqTasks.f k l l = some true := by
  unfold laws_eqTasks.f
  rw [eqInt64S_self l hm k hk, Option.bind_some, if_pos rfl]
theorem isTasks_len {l : List Int} (h : isTasksB l = true) : 1 ≤ l.length ∧ l.length ≤ 8 := by
  unfold isTasksB at h
  rw [Bool.and_eq_true] at h
  have := h.1
  unfold withinB at this
  simp only [Bool.and_eq_true, decide_eq_true_eq] at this
  omega
theorem isTasks_mem {l : List Int} (h : isTasksB l = true) : ∀ x ∈ l, 1 ≤ x ∧ x ≤ 40 := by
  unfold isTasksB at h
  rw [Bool.and_eq_true] at h
  intro x hx
  have := List.all_eq_true.1 h.2 x hx
  unfold withinB at this
  simp only [Bool.and_eq_true, decide_eq_true_eq] at this
  exact this
end Go.Proofs.YtjhiigfbjbkedaaDoor.X
