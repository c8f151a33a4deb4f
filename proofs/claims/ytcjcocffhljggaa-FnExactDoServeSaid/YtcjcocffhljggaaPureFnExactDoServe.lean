/- For every list of gaps and every list of turns: the program's DoServe answers as the reference's does, and leaves its arguments as they were. -/
import Derived.Test.YtcjcocffhljggaaQV
import Derived.Test.YtcjcocffhljggaaQG
import Derived.Test.YtcjcocffhljggaaX4
import Derived.Test.YtcjcocffhljggaaX5
import Derived.Test.YtcjcocffhljggaaX6
import Derived.Test.YtcjcocffhljggaaX9
import Derived.Test.YtcjcocffhljggaaX10
namespace Go.Proofs.Ytcjcocffhljggaa.Pure
set_option linter.unusedVariables false
set_option linter.unusedSimpArgs false
open Go.RowKit Go.Proofs.Ytcjcocffhljggaa.X Go.Proofs.YtcjcocffhljggaaW.PrintWords Go.Proofs.YtcjcocffhljggaaW.PrintLast
/-- tasks from i on, d of them -/
def servesL (l t : List Int) : Nat → Nat → Bool
  | 0, _ => true
  | d + 1, i => withinB (maxL (waitsL l (i : Int)) 0) 1 (rd t (i : Int)) && servesL l t d (i + 1)
theorem l01Serves_l0 (l t : List Int) (hl : l.length ≤ 1048576) (ht : t.length ≤ 1048576) : ∀ (d i k : Nat), i + d = t.length → d + l.length + 1 < k → spec_l01Serves.l0 k l (i : Int) t = some (servesL l t d i) := by
  intro d
  induction d with
  | zero =>
    intro i k hi hk
    obtain ⟨k, rfl⟩ : ∃ m, k = m + 1 := ⟨k - 1, by omega⟩
    simp only [spec_l01Serves.l0]
    rw [spec_l01K.f, Option.bind_some, if_neg (by omega)]
    rfl
  | succ d ih =>
    intro i k hi hk
    obtain ⟨k, rfl⟩ : ∃ m, k = m + 1 := ⟨k - 1, by omega⟩
    simp only [spec_l01Serves.l0]
    rw [spec_l01K.f, Option.bind_some, if_pos (by omega), l01Greatest_eq l _ hl k (by omega), Option.bind_some, if_pos (by omega), if_pos (by omega), l01In_f, Option.bind_some, wrap_succ (n := t.length) (by omega) (by omega), ih (i + 1) k (by omega) (by omega)]
    simp only [servesL]
    cases withinB (maxL (waitsL l (i : Int)) 0) 1 (rd t (i : Int)) <;> simp
theorem serves_l0 (l t : List Int) (hl : l.length ≤ 1048576) (ht : t.length ≤ 1048576) (hg : ∀ x ∈ t, 1 ≤ x) : ∀ (d i k : Nat), i + d = t.length → d + 2 * l.length + 2 < k → impl_Tasks_serves.l0 k l t (t.length : Int) (i : Int) = some (servesL l t d i) := by
  intro d
  induction d with
  | zero =>
    intro i k hi hk
    obtain ⟨k, rfl⟩ : ∃ m, k = m + 1 := ⟨k - 1, by omega⟩
    simp only [impl_Tasks_serves.l0]
    rw [if_neg (by omega)]
    rfl
  | succ d ih =>
    intro i k hi hk
    obtain ⟨k, rfl⟩ : ∃ m, k = m + 1 := ⟨k - 1, by omega⟩
    have hw := waitsL_length l (i : Int)
    have hgi := hg _ (rd_in t i (by omega))
    simp only [impl_Tasks_serves.l0]
    rw [if_pos (by omega), if_pos (by omega), if_pos (by omega), waits_eq l _ hl k (by omega), Option.bind_some, wrap_succ (n := t.length) (by omega) (by omega), greatest_eq _ (by omega) k (by omega), Option.bind_some, ih (i + 1) k (by omega) (by omega)]
    simp only [servesL, withinB]
    rcases waits_pos l (i : Int) with ⟨h1, h2⟩ | ⟨h1, h2⟩
    · rw [h1, if_pos (by simp)]
      rw [h1] at h2
      rw [h2]
      simp
    · have : (waitsL l (i : Int)).length ≠ 0 := fun e => h1 (List.eq_nil_of_length_eq_zero e)
      rw [if_neg (by omega)]
      by_cases h3 : maxL (waitsL l (i : Int)) 0 > rd t (i : Int)
      · rw [if_pos h3]
        have : ¬ maxL (waitsL l (i : Int)) 0 ≤ rd t (i : Int) := by omega
        simp [this]
      · rw [if_neg h3]
        have : maxL (waitsL l (i : Int)) 0 ≤ rd t (i : Int) := by omega
        simp [this, h2]
theorem FnExactDoServe : laws_FnExactDoServe.Pure := by
  intro t l hmt hwt hml hyl hwl
  refine ⟨4000010, ?_⟩
  unfold laws_FnExactDoServe.f
  by_cases hll : l.length ≤ 1048576
  · rw [if_neg (by omega)]
    by_cases hlt : t.length ≤ 1048576
    · rw [szTasks_ok t hlt, Option.bind_some, if_neg (by omega)]
      have hS : ∀ k, 3000000 < k → spec_DoServe.f k t l = some (if codeB t l = 0 then (servesL l t t.length 0, (0 : Int)) else (false, codeB t l)) := by
        intro k hk
        unfold spec_DoServe.f
        rw [l01Code_eq t l hlt hll k (by omega), Option.bind_some]
        by_cases h : codeB t l = 0
        · have := l01Serves_l0 l t hll hlt t.length 0 k (by omega) (by omega)
          simp only [Int.natCast_zero] at this
          rw [if_pos h, if_pos h, spec_l01Serves.f, this, Option.bind_some]
        · rw [if_neg h, if_neg h]
      have hI : ∀ k, 3000000 < k → impl_DoServe.f k t l = some (if codeB t l = 0 then (servesL l t t.length 0, (0 : Int)) else (false, codeB t l)) := by
        intro k hk
        unfold impl_DoServe.f
        rw [turnsCode_f, Option.bind_some]
        by_cases h : codeB t l = 0
        · have hg := isTasks_mem (code_zero h).1
          have h1 := isTasks_len (code_zero h).1
          have h2 := areTurns_len (code_zero h).2
          have := serves_l0 l t hll hlt (fun x hx => (hg x hx).1) t.length 0 k (by omega) (by omega)
          simp only [Int.natCast_zero] at this
          rw [if_pos h, if_pos h, impl_Tasks_serves.f, this, Option.bind_some]
        · rw [if_neg h, if_neg h]
      generalize (if codeB t l = 0 then (servesL l t t.length 0, (0 : Int)) else (false, codeB t l)) = r at hS hI
      obtain ⟨r0, r1⟩ := r
      simp (disch := omega) only [toInt64S_eq, Option.bind_some, hS, hI, if_true, bne_self_eq_false, eqInt64S_self, Bool.false_eq_true, if_false, toTasks_eq, eqTasks_self]
      simp only [laws_FnExactDoServe.j0]
      simp (disch := omega) only [toInt64S_eq, Option.bind_some, hS, hI, if_true, bne_self_eq_false, eqInt64S_self, Bool.false_eq_true, if_false, toTasks_eq, eqTasks_self]
    · rw [szTasks_big t (maxLen_le hmt) hlt, Option.bind_some, if_pos (by omega)]
  · rw [if_pos (by omega)]
end Go.Proofs.Ytcjcocffhljggaa.Pure
