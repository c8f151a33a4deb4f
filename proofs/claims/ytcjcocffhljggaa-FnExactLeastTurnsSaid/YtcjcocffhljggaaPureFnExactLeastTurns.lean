/- For every list of turns: the program's LeastTurns answers as the reference's does, leaves its argument as it was, and shares no memory. -/
import Derived.Test.YtcjcocffhljggaaQS
import Derived.Test.YtcjcocffhljggaaQSs
import Derived.Test.YtcjcocffhljggaaX4
import Derived.Test.YtcjcocffhljggaaX22
import Derived.Test.YtcjcocffhljggaaX23
import Derived.Test.YtcjcocffhljggaaX24
import Derived.Test.YtcjcocffhljggaaX25
namespace Go.Proofs.Ytcjcocffhljggaa.Pure
set_option linter.unusedVariables false
set_option linter.unusedSimpArgs false
open Go.RowKit Go.Proofs.Ytcjcocffhljggaa.X Go.Proofs.YtcjcocffhljggaaW.PrintWords Go.Proofs.YtcjcocffhljggaaW.PrintLast
def lessB : List Int → List Int → Bool
  | x :: xs, y :: ys => if x = y then lessB xs ys else decide (x < y)
  | _, _ => false
theorem lessB_self : ∀ l, lessB l l = false
  | [] => rfl
  | x :: xs => by simp [lessB, lessB_self xs]
/-- the best shift so far is b; shifts from n on, d of them -/
def leastF (l : List Int) : Nat → Nat → Nat → Nat
  | 0, _, b => b
  | d + 1, n, b => leastF l d (n + 1) (if lessB (shiftL l n) (shiftL l b) = true then n else b)
theorem less_l0 (a b : List Int) (hl : a.length = b.length) (hm : a.length ≤ 1048576) : ∀ (d i k : Nat), i + d = a.length → d < k → spec_l01Less.l0 k a b (i : Int) = some (lessB (a.drop i) (b.drop i)) := by
  intro d
  induction d with
  | zero =>
    intro i k hi hk
    obtain ⟨k, rfl⟩ : ∃ m, k = m + 1 := ⟨k - 1, by omega⟩
    simp only [spec_l01Less.l0]
    rw [if_neg (by omega), List.drop_of_length_le (by omega), List.drop_of_length_le (by omega)]
    rfl
  | succ d ih =>
    intro i k hi hk
    obtain ⟨k, rfl⟩ : ∃ m, k = m + 1 := ⟨k - 1, by omega⟩
    simp only [spec_l01Less.l0]
    rw [if_pos (by omega), if_pos (by omega), if_pos (by omega), wrap_succ (n := a.length) (by omega) (by omega), ih (i + 1) k (by omega) (by omega), drop_rd a i (by omega), drop_rd b i (by omega)]
    simp only [lessB]
    by_cases h : rd a (i : Int) = rd b (i : Int)
    · rw [if_pos h, if_pos h]
    · rw [if_neg h, if_neg h]
theorem less_eq (a b : List Int) (hl : a.length = b.length) (hm : a.length ≤ 1048576) (k : Nat) (hk : a.length < k) : spec_l01Less.f k a b = some (lessB a b) := by
  unfold spec_l01Less.f
  have := less_l0 a b hl hm a.length 0 k (by omega) hk
  simpa using this
theorem cmp_eq (x y : Int) : cmp_Compare_int64.f x y = some (if x < y then -1 else if x > y then 1 else 0) := by
  unfold cmp_Compare_int64.f cmp_isNaN_int64.f
  simp only [bne_self_eq_false, Option.bind_some, Bool.false_eq_true, if_false]
  by_cases h : x < y
  · rw [if_pos h, if_pos h]
  · rw [if_neg h, if_neg h]
    by_cases h2 : x > y
    · rw [if_pos h2, if_pos h2]
    · rw [if_neg h2, if_neg h2]
theorem compare_l0 (a b : List Int) (hl : a.length = b.length) (hm : a.length ≤ 1048576) : ∀ (d i k : Nat), i + d = a.length → d < k → ∃ r : Int, slices_Compare_int64_int64.l0 k a b a (a.length : Int) (i : Int) = some r ∧ (r < 0 ↔ lessB (a.drop i) (b.drop i) = true) := by
  intro d
  induction d with
  | zero =>
    intro i k hi hk
    obtain ⟨k, rfl⟩ : ∃ m, k = m + 1 := ⟨k - 1, by omega⟩
    refine ⟨0, ?_, ?_⟩
    · simp only [slices_Compare_int64_int64.l0]
      rw [if_neg (by omega), if_neg (by omega)]
    · rw [List.drop_of_length_le (by omega), List.drop_of_length_le (by omega)]
      simp [lessB]
  | succ d ih =>
    intro i k hi hk
    obtain ⟨k, rfl⟩ : ∃ m, k = m + 1 := ⟨k - 1, by omega⟩
    simp only [slices_Compare_int64_int64.l0]
    rw [if_pos (by omega), if_pos (by omega), if_pos (by omega), if_neg (by omega), if_pos (by omega), cmp_eq, Option.bind_some, wrap_succ (n := a.length) (by omega) (by omega), drop_rd a i (by omega), drop_rd b i (by omega)]
    simp only [lessB]
    by_cases h : rd a (i : Int) = rd b (i : Int)
    · rw [if_pos h, if_neg (show ¬ rd a (i : Int) < rd b (i : Int) by omega), if_neg (show ¬ rd a (i : Int) > rd b (i : Int) by omega), if_pos rfl]
      exact ih (i + 1) k (by omega) (by omega)
    · rw [if_neg h]
      by_cases h2 : rd a (i : Int) < rd b (i : Int)
      · rw [if_pos h2, if_neg (by omega)]
        exact ⟨-1, rfl, by simp [h2]⟩
      · rw [if_neg h2, if_pos (show rd a (i : Int) > rd b (i : Int) by omega), if_neg (by omega)]
        exact ⟨1, rfl, by simp [h2]⟩
theorem specL_l0 (l : List Int) (hl : l.length ≤ 120) : ∀ (d n b k : Nat), n + d = l.length → b ≤ l.length → d + 200 < k → spec_l01Least.l0 k l (shiftL l b) (b : Int) (n : Int) = some (shiftL l (leastF l d n b), ((leastF l d n b : Nat) : Int)) := by
  intro d
  induction d with
  | zero =>
    intro n b k hi hb hk
    obtain ⟨k, rfl⟩ : ∃ m, k = m + 1 := ⟨k - 1, by omega⟩
    simp only [spec_l01Least.l0, leastF]
    rw [if_neg (by omega)]
  | succ d ih =>
    intro n b k hi hb hk
    obtain ⟨k, rfl⟩ : ∃ m, k = m + 1 := ⟨k - 1, by omega⟩
    simp only [spec_l01Least.l0, leastF]
    rw [if_pos (by omega), l01Shifted_eq l n (by omega) (by omega), Option.bind_some, wrap_succ (n := l.length) (by omega) (by omega), show l.drop n ++ l.take n = shiftL l n from rfl, less_eq _ _ (by rw [shiftL_length, shiftL_length]) (by rw [shiftL_length]; omega) k (by rw [shiftL_length]; omega), Option.bind_some]
    by_cases h : lessB (shiftL l n) (shiftL l b) = true
    · rw [if_pos h, if_pos h, ih (n + 1) n k (by omega) (by omega) (by omega)]
    · rw [if_neg h, if_neg h, ih (n + 1) b k (by omega) (by omega) (by omega)]
theorem implL_l0 (l : List Int) (hl : l.length ≤ 120) : ∀ (d n b k : Nat), n + d = l.length → b ≤ l.length → d + 200 < k → impl_LeastTurns.l0 k l (b : Int) (l.length : Int) (n : Int) = some (shiftL l (leastF l d n b), ((leastF l d n b : Nat) : Int), 0) := by
  intro d
  induction d with
  | zero =>
    intro n b k hi hb hk
    obtain ⟨k, rfl⟩ : ∃ m, k = m + 1 := ⟨k - 1, by omega⟩
    simp only [impl_LeastTurns.l0, leastF]
    rw [if_neg (by omega), shifted_eq l b (by omega) hb k (by omega), Option.bind_some]
  | succ d ih =>
    intro n b k hi hb hk
    obtain ⟨k, rfl⟩ : ∃ m, k = m + 1 := ⟨k - 1, by omega⟩
    obtain ⟨r, hr, he⟩ := compare_l0 (shiftL l n) (shiftL l b) (by rw [shiftL_length, shiftL_length]) (by rw [shiftL_length]; omega) (shiftL l n).length 0 k (by omega) (by rw [shiftL_length]; omega)
    simp only [Int.natCast_zero, List.drop_zero] at hr he
    simp only [impl_LeastTurns.l0, leastF]
    rw [if_pos (by omega), shifted_eq l n (by omega) (by omega) k (by omega), Option.bind_some, shifted_eq l b (by omega) hb k (by omega), Option.bind_some, wrap_succ (n := l.length) (by omega) (by omega), slices_Compare_int64_int64.f, hr, Option.bind_some]
    by_cases h : lessB (shiftL l n) (shiftL l b) = true
    · rw [if_pos (he.mpr h), if_pos h, ih (n + 1) n k (by omega) (by omega) (by omega)]
    · rw [if_neg (fun z => h (he.mp z)), if_neg h, ih (n + 1) b k (by omega) (by omega) (by omega)]
theorem FnExactLeastTurns : laws_FnExactLeastTurns.Pure := by
  intro l hml hyl hwl
  refine ⟨4000010, ?_⟩
  unfold laws_FnExactLeastTurns.f
  by_cases hll : l.length ≤ 1048576
  · rw [if_neg (by omega)]
    have hS : ∀ k, 3000000 < k → spec_LeastTurns.f k l = some (if areTurnsB l 8 = true then (shiftL l (leastF l l.length 0 0), ((leastF l l.length 0 0 : Nat) : Int), (0 : Int)) else ([], 0, 2)) := by
      intro k hk
      unfold spec_LeastTurns.f
      rw [l01Turns_eq l 8 (by omega) k (by omega), Option.bind_some]
      by_cases h : areTurnsB l 8 = true
      · have hlen := areTurns_len h
        have e : leastF l l.length 0 0 = leastF l (l.length - 1) 1 0 := by
          obtain ⟨m, hm⟩ : ∃ m, l.length = m + 1 := ⟨l.length - 1, by omega⟩
          rw [hm, show m + 1 - 1 = m by omega]
          simp only [leastF]
          rw [lessB_self, if_neg (by simp)]
        have := specL_l0 l (by omega) (l.length - 1) 1 0 k (by omega) (by omega) (by omega)
        simp only [Int.natCast_one, Int.natCast_zero] at this
        rw [show shiftL l 0 = l by unfold shiftL; simp] at this
        rw [if_pos h, if_pos h, spec_l01Least.f, l01Own_eq l (by omega), Option.bind_some, this, Option.bind_some, e]
      · rw [if_neg h, if_neg h]
    have hI : ∀ k, 3000000 < k → impl_LeastTurns.f k l = some (if areTurnsB l 8 = true then (shiftL l (leastF l l.length 0 0), ((leastF l l.length 0 0 : Nat) : Int), (0 : Int)) else ([], 0, 2)) := by
      intro k hk
      unfold impl_LeastTurns.f
      rw [impl_areTurns.f, Option.bind_some]
      by_cases h : areTurnsB l 8 = true
      · have hlen := areTurns_len h
        have := implL_l0 l (by omega) l.length 0 0 k (by omega) (by omega) (by omega)
        simp only [Int.natCast_zero] at this
        rw [if_pos h, if_pos h, impl_length_int64.f, Option.bind_some, this]
      · rw [if_neg h, if_neg h]
    have hr : (if areTurnsB l 8 = true then (shiftL l (leastF l l.length 0 0), ((leastF l l.length 0 0 : Nat) : Int), (0 : Int)) else ([], 0, 2)).1.length ≤ 1048576 := by
      split
      · rw [show (shiftL l (leastF l l.length 0 0), ((leastF l l.length 0 0 : Nat) : Int), (0 : Int)).1 = shiftL l (leastF l l.length 0 0) from rfl, shiftL_length]
        omega
      · simp
    generalize (if areTurnsB l 8 = true then (shiftL l (leastF l l.length 0 0), ((leastF l l.length 0 0 : Nat) : Int), (0 : Int)) else ([], 0, 2)) = r at hS hI hr
    obtain ⟨r0, r1, r2⟩ := r
    simp only at hr
    simp (disch := omega) only [toInt64S_eq, Option.bind_some, hS, hI, if_true, bne_self_eq_false, eqInt64S_self, Bool.false_eq_true, if_false, markInt64S_eq, heldInt64S_eq, not_neg]
    simp only [laws_FnExactLeastTurns.j0]
    simp (disch := omega) only [toInt64S_eq, Option.bind_some, hS, hI, if_true, bne_self_eq_false, eqInt64S_self, Bool.false_eq_true, if_false, markInt64S_eq, heldInt64S_eq, not_neg]
    simp only [laws_FnExactLeastTurns.j1]
    simp (disch := omega) only [toInt64S_eq, Option.bind_some, hS, hI, if_true, bne_self_eq_false, eqInt64S_self, Bool.false_eq_true, if_false, markInt64S_eq, heldInt64S_eq, not_neg]
    simp only [laws_FnExactLeastTurns.j2]
    simp (disch := omega) only [toInt64S_eq, Option.bind_some, hS, hI, if_true, bne_self_eq_false, eqInt64S_self, Bool.false_eq_true, if_false, markInt64S_eq, heldInt64S_eq, not_neg]
  · rw [if_pos (by omega)]
end Go.Proofs.Ytcjcocffhljggaa.Pure
