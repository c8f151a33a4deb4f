/- For every list of whole numbers and every number: the program's RepeatTurns answers as the reference's does, leaves its argument as it was, and shares no memory. -/
import Derived.Test.YtjaanhnmgipmeaaQB
import Derived.Test.YtjaanhnmgipmeaaX1
import Derived.Test.YtjaanhnmgipmeaaX2
import Derived.Test.YtjaanhnmgipmeaaX3
import Derived.Test.YtjaanhnmgipmeaaX4
import Derived.Test.YtjaanhnmgipmeaaX6
namespace Go.Proofs.Ytjaanhnmgipmeaa.Pure
set_option linter.unusedVariables false
set_option linter.unusedSimpArgs false
open Go.RowKit Go.Proofs.Ytjaanhnmgipmeaa.X Go.Proofs.YtjaanhnmgipmeaaW.PrintWords Go.Proofs.YtjaanhnmgipmeaaW.PrintLast
theorem repL_succ (l : List Int) (d : Nat) : repL l (d + 1) = l ++ repL l d := by
  unfold repL
  rw [List.replicate_succ, List.flatten_cons]
theorem specRep_l0 (l : List Int) (hl : l.length ≤ 120) : ∀ (d k : Nat) (out : List Int), d ≤ 120 → d < k → out.length + 120 * d ≤ 14400 → spec_RepeatTurns.l0 k l (d : Int) out = some (out ++ repL l d, 0) := by
  intro d
  induction d with
  | zero =>
    intro k out h1 hk ho
    obtain ⟨k, rfl⟩ : ∃ m, k = m + 1 := ⟨k - 1, by omega⟩
    simp only [spec_RepeatTurns.l0]
    rw [if_neg (by omega)]
    simp [repL]
  | succ d ih =>
    intro k out h1 hk ho
    obtain ⟨k, rfl⟩ : ∃ m, k = m + 1 := ⟨k - 1, by omega⟩
    simp only [spec_RepeatTurns.l0]
    rw [if_pos (by omega), if_pos (by omega), wrap64_id (by omega) (by omega), show ((d + 1 : Nat) : Int) - 1 = (d : Int) by omega, ih k _ (by omega) (by omega) (by rw [List.length_append]; omega), repL_succ, List.append_assoc]
theorem prod_le (a : Nat) (n : Int) (ha : a ≤ 120) (h0 : 0 ≤ n) (h1 : n ≤ 120) : 0 ≤ n * (a : Int) ∧ n * (a : Int) ≤ 14400 := by
  refine ⟨Int.mul_nonneg h0 (by omega), ?_⟩
  have := Int.mul_le_mul h1 (show (a : Int) ≤ 120 by omega) (by omega) (by omega)
  omega
theorem prod_nat (a : Nat) (n : Int) (ha : a ≤ 120) (h0 : 0 ≤ n) (h1 : n ≤ 120) : a * n.toNat ≤ 14400 := by
  have := Nat.mul_le_mul (show n.toNat ≤ 120 by omega) ha
  rw [Nat.mul_comm]
  omega
theorem FnExactRepeatTurns : laws_FnExactRepeatTurns.Pure := by
  intro l n hml hyl hwl hwn
  refine ⟨4000010, ?_⟩
  unfold laws_FnExactRepeatTurns.f
  by_cases hll : l.length ≤ 1048576
  · rw [if_neg (by omega)]
    have hS : ∀ k, 3000000 < k → spec_RepeatTurns.f k l n = some (if areTurnsB l 8 = true then (if withinB n 1 120 = true then (if n * (l.length : Int) > 120 then ([], 3) else (repL l n.toNat, (0 : Int))) else ([], 2)) else ([], 2)) := by
      intro k hk
      unfold spec_RepeatTurns.f
      obtain ⟨k, rfl⟩ : ∃ m, k = m + 1 := ⟨k - 1, by omega⟩
      rw [l01Turns_eq l 8 (by omega) _ (by omega), Option.bind_some]
      by_cases h1 : areTurnsB l 8 = true
      · have h3 := areTurns_len h1
        rw [if_pos h1, if_pos h1, l01In_f, Option.bind_some]
        simp only [spec_RepeatTurns.j0]
        by_cases h2 : withinB n 1 120 = true
        · have hx := h2
          unfold withinB at hx
          simp only [Bool.and_eq_true, decide_eq_true_eq] at hx
          have hp := prod_le l.length n h3.2 (by omega) hx.2
          rw [if_pos h2, h2, if_neg (by simp), Int.mul_comm, wrap64_id (by omega) (by omega)]
          by_cases h4 : n * (l.length : Int) > 120
          · rw [if_pos h4, if_pos h4]
          · have e := specRep_l0 l h3.2 n.toNat k [] (by omega) (by omega) (by simp; omega)
            rw [Int.toNat_of_nonneg (by omega), List.nil_append] at e
            rw [if_neg h4, if_neg h4, e]
        · rw [if_neg h2]
          simp only [Bool.not_eq_true] at h2
          rw [h2, if_pos (by simp)]
      · rw [if_neg h1, if_neg h1]
        simp only [spec_RepeatTurns.j0]
        rw [if_pos trivial]
    have hI : ∀ k, 3000000 < k → impl_RepeatTurns.f k l n = some (if areTurnsB l 8 = true then (if withinB n 1 120 = true then (if n * (l.length : Int) > 120 then ([], 3) else (repL l n.toNat, (0 : Int))) else ([], 2)) else ([], 2)) := by
      intro k hk
      unfold impl_RepeatTurns.f
      obtain ⟨k, rfl⟩ : ∃ m, k = m + 1 := ⟨k - 1, by omega⟩
      rw [impl_areTurns.f, Option.bind_some]
      by_cases h1 : areTurnsB l 8 = true
      · have h3 := areTurns_len h1
        rw [if_pos h1, if_pos h1, within_f, Option.bind_some]
        simp only [impl_RepeatTurns.j0]
        by_cases h2 : withinB n 1 120 = true
        · have hx := h2
          unfold withinB at hx
          simp only [Bool.and_eq_true, decide_eq_true_eq] at hx
          have hp := prod_le l.length n h3.2 (by omega) hx.2
          have hq := prod_nat l.length n h3.2 (by omega) hx.2
          rw [if_pos h2, h2, if_neg (by simp), impl_length_int64.f, Option.bind_some, wrap64_id (by omega) (by omega)]
          by_cases h4 : n * (l.length : Int) > 120
          · rw [if_pos h4, if_pos h4]
          · rw [if_neg h4, if_neg h4, slices_Repeat_int64_int64.f, if_pos ⟨by omega, by omega, by omega, by omega⟩, Option.bind_some]
        · rw [if_neg h2]
          simp only [Bool.not_eq_true] at h2
          rw [h2, if_pos (by simp)]
      · rw [if_neg h1, if_neg h1]
        simp only [impl_RepeatTurns.j0]
        rw [if_pos trivial]
    have hr : (if areTurnsB l 8 = true then (if withinB n 1 120 = true then (if n * (l.length : Int) > 120 then ([], 3) else (repL l n.toNat, (0 : Int))) else ([], 2)) else ([], 2)).1.length ≤ 1048576 := by
      split
      · rename_i h1
        split
        · rename_i h2
          split
          · simp
          · have h3 := areTurns_len h1
            unfold withinB at h2
            simp only [Bool.and_eq_true, decide_eq_true_eq] at h2
            have := prod_nat l.length n h3.2 (by omega) h2.2
            rw [repL_length]
            omega
        · simp
      · simp
    generalize (if areTurnsB l 8 = true then (if withinB n 1 120 = true then (if n * (l.length : Int) > 120 then ([], 3) else (repL l n.toNat, (0 : Int))) else ([], 2)) else ([], 2)) = r at hS hI hr
    obtain ⟨r0, r1⟩ := r
    simp only at hr
    simp (disch := omega) only [toInt64S_eq, Option.bind_some, hS, hI, if_true, bne_self_eq_false, eqInt64S_self, Bool.false_eq_true, if_false, markInt64S_eq, heldInt64S_eq, not_neg]
    simp only [laws_FnExactRepeatTurns.j0]
    simp (disch := omega) only [toInt64S_eq, Option.bind_some, hS, hI, if_true, bne_self_eq_false, eqInt64S_self, Bool.false_eq_true, if_false, markInt64S_eq, heldInt64S_eq, not_neg]
    simp only [laws_FnExactRepeatTurns.j1]
    simp (disch := omega) only [toInt64S_eq, Option.bind_some, hS, hI, if_true, bne_self_eq_false, eqInt64S_self, Bool.false_eq_true, if_false, markInt64S_eq, heldInt64S_eq, not_neg]
    simp only [laws_FnExactRepeatTurns.j2]
    simp (disch := omega) only [toInt64S_eq, Option.bind_some, hS, hI, if_true, bne_self_eq_false, eqInt64S_self, Bool.false_eq_true, if_false, markInt64S_eq, heldInt64S_eq, not_neg]
  · rw [if_pos (by omega)]
end Go.Proofs.Ytjaanhnmgipmeaa.Pure
