/- For every list of gaps: the program's DoFit answers as the reference's does and leaves its argument as it was. -/
import Derived.Test.YtfephoddgifapaaQN
import Derived.Test.YtfephoddgifapaaX4
import Derived.Test.YtfephoddgifapaaX13
import Derived.Test.YtfephoddgifapaaX14
import Derived.Test.YtfephoddgifapaaX40
import Derived.Test.YtfephoddgifapaaX41
import Derived.Test.YtfephoddgifapaaX42
namespace Go.Proofs.Ytfephoddgifapaa.Pure
set_option linter.unusedVariables false
set_option linter.unusedSimpArgs false
open Go.RowKit Go.Proofs.Ytfephoddgifapaa.X Go.Proofs.YtfephoddgifapaaW.PrintWords Go.Proofs.YtfephoddgifapaaW.PrintLast
theorem fitG_nat (a b : Nat) (hb : b ≤ 40) : fitG (a : Int) (b : Int) = ((Nat.gcd a b : Nat) : Int) := by
  unfold fitG impl_divisor.f
  rw [implGcd_l0, specGcd_l0 40 100 (a : Int) (b : Int) (by omega) (by omega), gF_nat 40 a b hb]
  rfl
theorem specGcd_nat (a b : Nat) (hb : b ≤ 40) (k : Nat) (hk : 40 < k) : spec_l01Gcd.f k (a : Int) (b : Int) = some ((Nat.gcd a b : Nat) : Int) := by
  unfold spec_l01Gcd.f
  rw [specGcd_l0 40 k (a : Int) (b : Int) (by omega) (by omega), gF_nat 40 a b hb]
def okF (t : List Int) (i : Nat) : Nat → Nat → Bool
  | 0, _ => true
  | d + 1, j => fitP (rd t (i : Int)) (rd t (j : Int)) && okF t i d (j + 1)
theorem rd_take (t : List Int) (i j : Nat) (h : j < i) : rd (t.take i) (j : Int) = rd t (j : Int) := by
  unfold rd
  rw [Int.toNat_natCast, List.getD_eq_getElem?_getD, List.getD_eq_getElem?_getD, List.getElem?_take, if_pos h]
theorem okF_all (t : List Int) (i : Nat) (hi : i ≤ t.length) : ∀ (d j : Nat), j + d = i → ((t.take i).drop j).all (fitP (rd t (i : Int))) = okF t i d j := by
  have hlen : (t.take i).length = i := by rw [List.length_take]; omega
  intro d
  induction d with
  | zero =>
    intro j hj
    rw [List.drop_of_length_le (by omega)]
    rfl
  | succ d ih =>
    intro j hj
    rw [drop_rd (t.take i) j (by omega), List.all_cons, ih (j + 1) (by omega), rd_take t i j (by omega)]
    rfl
theorem specFit_l1 (t : List Int) (ht : ∀ x ∈ t, 1 ≤ x ∧ x ≤ 40) (hl : t.length ≤ 8) (i : Nat) (hi : i < t.length) : ∀ (d j k : Nat), j + d = i → d + 60 < k → ∃ k', k ≤ k' + d + 1 ∧ spec_l05Fit.l1 k (i : Int) (j : Int) t = if okF t i d j = true then spec_l05Fit.l0 k' (wrap64 ((i : Int) + 1)) t else some false := by
  intro d
  induction d with
  | zero =>
    intro j k hj hk
    obtain ⟨k, rfl⟩ : ∃ m, k = m + 1 := ⟨k - 1, by omega⟩
    refine ⟨k, by omega, ?_⟩
    simp only [spec_l05Fit.l1]
    rw [if_neg (by omega), if_pos (show okF t i 0 j = true from rfl)]
  | succ d ih =>
    intro j k hj hk
    obtain ⟨k, rfl⟩ : ∃ m, k = m + 1 := ⟨k - 1, by omega⟩
    obtain ⟨k', h1, h2⟩ := ih (j + 1) k (by omega) (by omega)
    have hni := ht _ (rd_in t i hi)
    have hnj := ht _ (rd_in t j (by omega))
    refine ⟨k', by omega, ?_⟩
    have e0 : okF t i (d + 1) j = (fitP (rd t (i : Int)) (rd t (j : Int)) && okF t i d (j + 1)) := rfl
    simp only [spec_l05Fit.l1]
    rw [if_pos (by omega), if_pos (by omega), if_pos (by omega), if_pos (by omega), if_pos (by omega), e0]
    generalize rd t (i : Int) = x at hni
    generalize rd t (j : Int) = y at hnj
    obtain ⟨a, rfl⟩ : ∃ a : Nat, x = (a : Int) := ⟨x.toNat, by omega⟩
    obtain ⟨b, rfl⟩ : ∃ b : Nat, y = (b : Int) := ⟨y.toNat, by omega⟩
    have hg : 0 < Nat.gcd a b := Nat.gcd_pos_of_pos_left b (by omega)
    rw [specGcd_nat a b (by omega) k (by omega), Option.bind_some]
    have hp : fitP (a : Int) (b : Int) = decide (1 < ((Nat.gcd a b : Nat) : Int)) := by unfold fitP; rw [fitG_nat a b (by omega)]
    by_cases h : ((Nat.gcd a b : Nat) : Int) = 1
    · rw [if_pos h, hp, decide_eq_false (by omega), Bool.false_and, if_neg (by simp)]
    · rw [if_neg h, hp, decide_eq_true (by omega), Bool.true_and, wrap_succ (n := t.length) (by omega) (by omega), h2]
theorem specFit_l0 (t : List Int) (ht : ∀ x ∈ t, 1 ≤ x ∧ x ≤ 40) (hl : t.length ≤ 8) : ∀ (d i k : Nat), i + d = t.length → 20 * d + 100 < k → spec_l05Fit.l0 k (i : Int) t = some (fitB t d i) := by
  intro d
  induction d with
  | zero =>
    intro i k hi hk
    obtain ⟨k, rfl⟩ : ∃ m, k = m + 1 := ⟨k - 1, by omega⟩
    simp only [spec_l05Fit.l0, fitB]
    rw [if_neg (by omega)]
  | succ d ih =>
    intro i k hi hk
    obtain ⟨k, rfl⟩ : ∃ m, k = m + 1 := ⟨k - 1, by omega⟩
    obtain ⟨k', h1, h2⟩ := specFit_l1 t ht hl i (by omega) i 0 k (by omega) (by omega)
    have ho := okF_all t i (by omega) i 0 (by omega)
    simp only [Int.natCast_zero] at h2
    simp only [List.drop_zero] at ho
    simp only [spec_l05Fit.l0, fitB]
    rw [if_pos (by omega), h2, wrap_succ (n := t.length) (by omega) (by omega), ih (i + 1) k' (by omega) (by omega), ho]
    cases okF t i i 0 <;> simp
theorem FnExactDoFit : laws_FnExactDoFit.Pure := by
  intro t hmt hwt
  refine ⟨4000010, ?_⟩
  unfold laws_FnExactDoFit.f
  by_cases hlt : t.length ≤ 1048576
  · rw [szTasks_ok t hlt, Option.bind_some, if_neg (by omega)]
    have hS : ∀ k, 3000000 < k → spec_DoFit.f k t = some (if isTasksB t = true then (fitB t t.length 0, (0 : Int)) else (false, 1)) := by
      intro k hk
      unfold spec_DoFit.f spec_l05Fit.f
      rw [l01Is_eq t (by omega) k (by omega), Option.bind_some]
      by_cases h : isTasksB t = true
      · have hlen := isTasks_len h
        have := specFit_l0 t (isTasks_mem h) hlen.2 t.length 0 k (by omega) (by omega)
        simp only [Int.natCast_zero] at this
        rw [if_pos h, if_pos h, this, Option.bind_some]
      · rw [if_neg h, if_neg h]
    have hI : impl_DoFit.f t = some (if isTasksB t = true then (fitB t t.length 0, (0 : Int)) else (false, 1)) := by
      exact rfl
    generalize (if isTasksB t = true then (fitB t t.length 0, (0 : Int)) else (false, 1)) = r at hS hI
    obtain ⟨r0, r1⟩ := r
    simp (disch := omega) only [toInt64S_eq, Option.bind_some, hS, hI, if_true, bne_self_eq_false, eqInt64S_self, Bool.false_eq_true, if_false, toTasks_eq, eqTasks_self]
    simp only [laws_FnExactDoFit.j0]
    simp (disch := omega) only [toInt64S_eq, Option.bind_some, hS, hI, if_true, bne_self_eq_false, eqInt64S_self, Bool.false_eq_true, if_false, toTasks_eq, eqTasks_self]
  · rw [szTasks_big t (maxLen_le hmt) hlt, Option.bind_some, if_pos (by omega)]
end Go.Proofs.Ytfephoddgifapaa.Pure
