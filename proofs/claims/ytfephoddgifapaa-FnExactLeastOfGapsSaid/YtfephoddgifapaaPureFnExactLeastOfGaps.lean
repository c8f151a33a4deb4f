/- For every list of gaps: the program's LeastOfGaps answers as the reference's does and leaves its argument as it was. -/
import Derived.Test.YtfephoddgifapaaQN
import Derived.Test.YtfephoddgifapaaX4
import Derived.Test.YtfephoddgifapaaX31
import Derived.Test.YtfephoddgifapaaX32
import Derived.Test.YtfephoddgifapaaX33
namespace Go.Proofs.Ytfephoddgifapaa.Pure
set_option linter.unusedVariables false
set_option linter.unusedSimpArgs false
open Go.RowKit Go.Proofs.Ytfephoddgifapaa.X Go.Proofs.YtfephoddgifapaaW.PrintWords Go.Proofs.YtfephoddgifapaaW.PrintLast
def minF : List Int → Int → Int
  | [], m => m
  | g :: r, m => minF r (mn m g)
theorem specMin_l0 (l : List Int) (hl : l.length ≤ 8) (hg : ∀ g ∈ l, 1 ≤ g ∧ g ≤ 40) : ∀ (d i k : Nat) (m : Int) (x : Nat), i + d = l.length → 9223372036860000000 < k + 10 + i → 1 ≤ x → 40 ^ d * x ≤ 6553600000000 → spec_LeastOfGaps.l0 k m (x : Int) (i : Int) l = some (minF (l.drop i) m, ((mulF (l.drop i) x : Nat) : Int), 0) := by
  intro d
  induction d with
  | zero =>
    intro i k m x hi hk h1 h2
    obtain ⟨k, rfl⟩ : ∃ m, k = m + 1 := ⟨k - 1, by omega⟩
    simp only [spec_LeastOfGaps.l0]
    rw [if_neg (by omega), List.drop_of_length_le (by omega)]
    rfl
  | succ d ih =>
    intro i k m x hi hk h1 h2
    obtain ⟨k, rfl⟩ : ∃ m, k = m + 1 := ⟨k - 1, by omega⟩
    have hgi := hg _ (rd_in l i (by omega))
    have hx : x ≤ 6553600000000 := Nat.le_trans (Nat.le_mul_of_pos_left x (Nat.pow_pos (by omega))) h2
    simp only [spec_LeastOfGaps.l0]
    rw [if_pos (by omega), if_pos (by omega), wrap_succ (n := l.length) (by omega) (by omega), drop_rd l i (by omega)]
    generalize rd l (i : Int) = y at hgi
    obtain ⟨n, rfl⟩ : ∃ n : Nat, y = (n : Int) := ⟨y.toNat, by omega⟩
    have hle := lcmN_le x n (by omega)
    have h3 : 40 ^ d * lcmN x n ≤ 6553600000000 := by
      refine Nat.le_trans (Nat.mul_le_mul_left _ hle) ?_
      rw [← Nat.mul_assoc, ← Nat.pow_succ]
      exact h2
    rw [specLcm_eq x n (by omega) (by omega) (by omega) k (by omega), Option.bind_some, ih (i + 1) k _ _ (by omega) (by omega) (lcmN_pos x n h1 (by omega)) h3]
    simp only [minF, mulF, Int.toNat_natCast]
theorem min_l0 (l : List Int) (hl : l.length ≤ 8) : ∀ (d i k : Nat) (m : Int), i + d = l.length → d < k → slices_Min_int64_int64.l0 k l m (i : Int) = some (minF (l.drop i) m) := by
  intro d
  induction d with
  | zero =>
    intro i k m hi hk
    obtain ⟨k, rfl⟩ : ∃ m, k = m + 1 := ⟨k - 1, by omega⟩
    simp only [slices_Min_int64_int64.l0]
    rw [if_neg (by omega), List.drop_of_length_le (by omega)]
    rfl
  | succ d ih =>
    intro i k m hi hk
    obtain ⟨k, rfl⟩ : ∃ m, k = m + 1 := ⟨k - 1, by omega⟩
    simp only [slices_Min_int64_int64.l0]
    rw [if_pos (by omega), if_pos (by omega), wrap_succ (n := l.length) (by omega) (by omega), ih (i + 1) k _ (by omega) (by omega), drop_rd l i (by omega)]
    rfl
theorem FnExactLeastOfGaps : laws_FnExactLeastOfGaps.Pure := by
  intro t hmt hwt
  refine ⟨9223372036870000000, ?_⟩
  unfold laws_FnExactLeastOfGaps.f
  by_cases hlt : t.length ≤ 1048576
  · rw [szTasks_ok t hlt, Option.bind_some, if_neg (by omega)]
    have hS : ∀ k, 9223372036860000000 < k → spec_LeastOfGaps.f k t = some (if isTasksB t = true then (minF (t.drop 1) (rd t 0), ((mulF t 1 : Nat) : Int), (0 : Int)) else (0, 0, 1)) := by
      intro k hk
      unfold spec_LeastOfGaps.f
      rw [l01Is_eq t (by omega) k (by omega), Option.bind_some]
      by_cases h : isTasksB t = true
      · have hlen := isTasks_len h
        have := specMin_l0 t hlen.2 (isTasks_mem h) t.length 0 k (rd t 0) 1 (by omega) (by omega) (by omega) (by rw [Nat.mul_one]; exact pow40 _ hlen.2)
        simp only [Int.natCast_zero, List.drop_zero, Int.natCast_one] at this
        have hd := drop_rd t 0 (by omega)
        simp only [List.drop_zero, Int.natCast_zero, Nat.zero_add] at hd
        have e : minF t (rd t 0) = minF (t.drop 1) (rd t 0) := by
          conv => lhs; rw [hd]
          simp only [minF]
          congr 1
          unfold mn
          split <;> rfl
        rw [if_pos h, if_pos h, if_pos (by omega), this, e]
      · rw [if_neg h, if_neg h]
    have hI : ∀ k, 9223372036860000000 < k → impl_LeastOfGaps.f k t = some (if isTasksB t = true then (minF (t.drop 1) (rd t 0), ((mulF t 1 : Nat) : Int), (0 : Int)) else (0, 0, 1)) := by
      intro k hk
      unfold impl_LeastOfGaps.f impl_tasksCode.f
      rw [impl_IsTasks.f, Option.bind_some]
      by_cases h : isTasksB t = true
      · have hlen := isTasks_len h
        have := min_l0 t hlen.2 (t.length - 1) 1 k (rd t 0) (by omega) (by omega)
        simp only [Int.natCast_one] at this
        rw [if_pos h, if_pos h, if_pos rfl, Option.bind_some, if_pos rfl, slices_Min_int64_int64.f, if_neg (by omega), if_pos (by omega), this, Option.bind_some, multiple_eq t hlen.2 (isTasks_mem h) k hk, Option.bind_some]
      · rw [if_neg h, if_neg h, Option.bind_some, if_neg (by omega)]
    generalize (if isTasksB t = true then (minF (t.drop 1) (rd t 0), ((mulF t 1 : Nat) : Int), (0 : Int)) else (0, 0, 1)) = r at hS hI
    obtain ⟨r0, r1, r2⟩ := r
    simp (disch := omega) only [toInt64S_eq, Option.bind_some, hS, hI, if_true, bne_self_eq_false, eqInt64S_self, Bool.false_eq_true, if_false, toTasks_eq, eqTasks_self]
    simp only [laws_FnExactLeastOfGaps.j0]
    simp (disch := omega) only [toInt64S_eq, Option.bind_some, hS, hI, if_true, bne_self_eq_false, eqInt64S_self, Bool.false_eq_true, if_false, toTasks_eq, eqTasks_self]
  · rw [szTasks_big t (maxLen_le hmt) hlt, Option.bind_some, if_pos (by omega)]
end Go.Proofs.Ytfephoddgifapaa.Pure
