/- For every three lists of whole numbers: the program's AreJobs answers as the reference's does, and leaves its argument as it was. -/
import Derived.Test.YtndbfmbejopkkaaQB
import Derived.Test.YtndbfmbejopkkaaX17
import Derived.Test.YtndbfmbejopkkaaX18
import Derived.Test.YtndbfmbejopkkaaX19
import Derived.Test.YtndbfmbejopkkaaX21
import Derived.Test.YtndbfmbejopkkaaX22
import Derived.Test.YtndbfmbejopkkaaX23
import Derived.Test.YtndbfmbejopkkaaX24
import Derived.Test.YtndbfmbejopkkaaX26
import Derived.Test.YtndbfmbejopkkaaX27
import Derived.Test.YtndbfmbejopkkaaX38
namespace Go.Proofs.Ytndbfmbejopkkaa.Pure
set_option linter.unusedVariables false
set_option linter.unusedSimpArgs false
open Go.RowKit Go.Proofs.Ytndbfmbejopkkaa.X Go.Proofs.YtndbfmbejopkkaaW.PrintWords Go.Proofs.YtndbfmbejopkkaaW.PrintLast
/-- from slot i on: lengths a, periods b, deadlines c, each as long as n -/
def jobsFrom (a b c : List Int) (n : Nat) : Nat → Nat → Bool
  | 0, _ => true
  | d + 1, i => withinB (rd a (i : Int)) 1 20 && withinB (rd b (i : Int)) 1 60 && withinB (rd c (i : Int)) 1 (rd b (i : Int)) && jobsFrom a b c n d (i + 1)
theorem l04Is_l0 (a b c : List Int) (n : Nat) (hn : n ≤ 8) (ha : a.length = n) (hb : b.length = n) (hc : c.length = n) : ∀ (d i k : Nat), i + d = n → d < k → spec_l04Is.l0 k (n : Int) (i : Int) a b c = some (jobsFrom a b c n d i) := by
  intro d
  induction d with
  | zero =>
    intro i k hi hk
    obtain ⟨k, rfl⟩ : ∃ m, k = m + 1 := ⟨k - 1, by omega⟩
    simp only [spec_l04Is.l0]
    rw [if_neg (by omega)]
    rfl
  | succ d ih =>
    intro i k hi hk
    obtain ⟨k, rfl⟩ : ∃ m, k = m + 1 := ⟨k - 1, by omega⟩
    simp only [spec_l04Is.l0]
    rw [if_pos (by omega), if_pos (by omega), if_pos (by omega), l01In_f, Option.bind_some, wrap_succ (n := n) (by omega) (by omega), ih (i + 1) k (by omega) (by omega)]
    simp only [jobsFrom]
    by_cases h1 : withinB (rd a (i : Int)) 1 20 = true
    · rw [if_pos h1, if_pos (by omega), l01In_f, Option.bind_some, h1]
      by_cases h2 : withinB (rd b (i : Int)) 1 60 = true
      · rw [if_pos h2, if_pos (by omega), l01In_f, Option.bind_some, h2]
        by_cases h3 : withinB (rd c (i : Int)) 1 (rd b (i : Int)) = true
        · rw [if_pos h3, h3]
          simp
        · rw [if_neg h3]
          simp only [Bool.not_eq_true] at h3
          rw [h3]
          simp
      · rw [if_neg h2]
        simp only [Bool.not_eq_true] at h2
        rw [h2]
        simp
    · rw [if_neg h1]
      simp only [Bool.not_eq_true] at h1
      rw [h1]
      simp
theorem areJobs_l0 (a b c : List Int) (n : Nat) (hn : n ≤ 8) (ha : a.length = n) (hb : b.length = n) (hc : c.length = n) : ∀ (d i k : Nat), i + d = n → d < k → impl_AreJobs.l0 k b (n : Int) (i : Int) a b c = some (jobsFrom a b c n d i) := by
  intro d
  induction d with
  | zero =>
    intro i k hi hk
    obtain ⟨k, rfl⟩ : ∃ m, k = m + 1 := ⟨k - 1, by omega⟩
    simp only [impl_AreJobs.l0]
    rw [if_neg (by omega)]
    rfl
  | succ d ih =>
    intro i k hi hk
    obtain ⟨k, rfl⟩ : ∃ m, k = m + 1 := ⟨k - 1, by omega⟩
    simp only [impl_AreJobs.l0]
    rw [if_pos (by omega), if_pos (by omega), if_pos (by omega), within_f, Option.bind_some, wrap_succ (n := n) (by omega) (by omega), ih (i + 1) k (by omega) (by omega)]
    simp only [jobsFrom]
    by_cases h2 : withinB (rd b (i : Int)) 1 60 = true
    · rw [if_pos h2, if_pos (by omega), within_f, Option.bind_some, h2]
      by_cases h1 : withinB (rd a (i : Int)) 1 20 = true
      · rw [if_pos h1, if_pos (by omega), within_f, Option.bind_some, h1]
        by_cases h3 : withinB (rd c (i : Int)) 1 (rd b (i : Int)) = true
        · rw [if_pos h3, h3]
          simp
        · rw [if_neg h3]
          simp only [Bool.not_eq_true] at h3
          rw [h3]
          simp
      · rw [if_neg h1]
        simp only [Bool.not_eq_true] at h1
        rw [h1]
        simp
    · rw [if_neg h2]
      simp only [Bool.not_eq_true] at h2
      rw [h2]
      simp
def areJobsB (a b c : List Int) : Bool := withinB (a.length : Int) 1 8 && decide (b.length = a.length) && decide (c.length = a.length) && jobsFrom a b c a.length a.length 0
theorem l04Is_eq (a b c : List Int) (k : Nat) (hk : 100 < k) : spec_l04Is.f k a b c = some (areJobsB a b c) := by
  unfold spec_l04Is.f areJobsB withinB
  obtain ⟨k, rfl⟩ : ∃ m, k = m + 1 := ⟨k - 1, by omega⟩
  by_cases h1 : (a.length : Int) < 1
  · rw [if_pos h1]
    have : ¬ (1 : Int) ≤ (a.length : Int) := by omega
    simp [spec_l04Is.j0, this]
  · rw [if_neg h1]
    have h1' : (1 : Int) ≤ (a.length : Int) := by omega
    by_cases h2 : (a.length : Int) > 8
    · rw [if_pos h2]
      have : ¬ (a.length : Int) ≤ 8 := by omega
      simp [spec_l04Is.j0, this]
    · rw [if_neg h2]
      have h2' : (a.length : Int) ≤ 8 := by omega
      by_cases h3 : (b.length : Int) = (a.length : Int)
      · rw [if_pos h3]
        by_cases h4 : c.length = a.length
        · have h3' : b.length = a.length := by omega
          have := l04Is_l0 a b c a.length (by omega) rfl h3' h4 a.length 0 k (by omega) (by omega)
          simp only [spec_l04Is.j0]
          rw [if_neg (by simp [h4])]
          simp only [Int.natCast_zero] at this
          rw [this]
          simp [h1', h2', h3', h4]
        · have : ¬ ((c.length : Int) = (a.length : Int)) := by omega
          simp [spec_l04Is.j0, this, h4]
      · rw [if_neg h3]
        have : ¬ b.length = a.length := by omega
        simp [spec_l04Is.j0, this]
theorem areJobs_eq (a b c : List Int) (k : Nat) (hk : 100 < k) : impl_AreJobs.f k a b c = some (areJobsB a b c) := by
  unfold impl_AreJobs.f areJobsB
  obtain ⟨k, rfl⟩ : ∃ m, k = m + 1 := ⟨k - 1, by omega⟩
  rw [impl_Jobs_many.f, impl_length_int64.f, Option.bind_some, Option.bind_some, within_f, Option.bind_some]
  by_cases h1 : withinB (a.length : Int) 1 8 = true
  · rw [if_pos h1, h1]
    have hw := h1
    unfold withinB at hw
    simp only [Bool.and_eq_true, decide_eq_true_eq] at hw
    by_cases h3 : (b.length : Int) = (a.length : Int)
    · rw [if_pos h3]
      by_cases h4 : c.length = a.length
      · have h3' : b.length = a.length := by omega
        have := areJobs_l0 a b c a.length (by omega) rfl h3' h4 a.length 0 k (by omega) (by omega)
        simp only [impl_AreJobs.j0]
        rw [if_neg (by simp [h4])]
        simp only [Int.natCast_zero] at this
        rw [h3, this]
        simp [h3', h4]
      · have : ¬ ((c.length : Int) = (a.length : Int)) := by omega
        simp [impl_AreJobs.j0, this, h4]
    · rw [if_neg h3]
      have : ¬ b.length = a.length := by omega
      simp [impl_AreJobs.j0, this]
  · rw [if_neg h1]
    simp only [Bool.not_eq_true] at h1
    rw [h1]
    simp [impl_AreJobs.j0]
theorem FnExactAreJobs : laws_FnExactAreJobs.Pure := by
  intro a b c hma hwa hmb hwb hmc hwc
  refine ⟨4000010, ?_⟩
  have hma := maxLen_le hma
  have hmb := maxLen_le hmb
  have hmc := maxLen_le hmc
  unfold laws_FnExactAreJobs.f laws_szJobs.f
  rw [szInt64S_eq a 1048576 (by omega) (by omega) hma, Option.bind_some]
  by_cases ha : (a.length : Int) ≤ 1048576
  · rw [if_pos ha, if_neg (by omega), szInt64S_eq b _ (by omega) (by omega) hmb, Option.bind_some]
    by_cases hb : (b.length : Int) ≤ 1048576 - (a.length : Int)
    · rw [if_pos hb, if_neg (by omega), szInt64S_eq c _ (by omega) (by omega) hmc, Option.bind_some]
      by_cases hc : (c.length : Int) ≤ 1048576 - (a.length : Int) - (b.length : Int)
      · rw [if_pos hc, if_neg (by omega), Option.bind_some, if_neg (by omega)]
        simp (disch := omega) only [laws_toJobs.f, laws_eqJobs.f, spec_AreJobs.f, toInt64S_eq, Option.bind_some, l04Is_eq, areJobs_eq, bne_self_eq_false, Bool.false_eq_true, if_false, eqInt64S_self, if_true]
      · rw [if_neg hc, if_pos (by omega), Option.bind_some, if_pos (by omega)]
    · rw [if_neg hb, if_pos (by omega), Option.bind_some, if_pos (by omega)]
  · rw [if_neg ha, if_pos (by omega), Option.bind_some, if_pos (by omega)]
end Go.Proofs.Ytndbfmbejopkkaa.Pure
