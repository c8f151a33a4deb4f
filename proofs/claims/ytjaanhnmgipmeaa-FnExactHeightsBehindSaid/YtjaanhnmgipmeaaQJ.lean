/- What a garden is, in the reference; no condition beside those stated. -/
import Derived.Test.YtjaanhnmgipmeaaQB
import Derived.Test.YtjaanhnmgipmeaaX1
import Derived.Test.YtjaanhnmgipmeaaX2
import Derived.Test.YtjaanhnmgipmeaaX4
import Derived.Test.YtjaanhnmgipmeaaX5
namespace Go.Proofs.Ytjaanhnmgipmeaa.X
set_option linter.unusedVariables false
set_option linter.unusedSimpArgs false
open Go.RowKit Go.Proofs.YtjaanhnmgipmeaaW.PrintWords Go.Proofs.YtjaanhnmgipmeaaW.PrintLast
theorem l06Is_l0 (l : List Int) (hm : l.length ≤ 9223372036854775807) : ∀ (d i k : Nat), i + d = l.length → d < k → spec_l06Is.l0 k (i : Int) l = some ((l.drop i).all (fun x => withinB x 1 20) && withinB (l.length : Int) 1 8) := by
  intro d
  induction d with
  | zero =>
    intro i k hi hk
    obtain ⟨k, rfl⟩ : ∃ m, k = m + 1 := ⟨k - 1, by omega⟩
    simp only [spec_l06Is.l0]
    rw [if_neg (by omega), List.drop_of_length_le (by omega)]
    unfold withinB
    by_cases h : (l.length : Int) > 0
    · rw [if_pos h]
      have : (1 : Int) ≤ (l.length : Int) := by omega
      simp [this]
    · rw [if_neg h]
      have : ¬ (1 : Int) ≤ (l.length : Int) := by omega
      simp [this]
  | succ d ih =>
    intro i k hi hk
    obtain ⟨k, rfl⟩ : ∃ m, k = m + 1 := ⟨k - 1, by omega⟩
    simp only [spec_l06Is.l0]
    rw [if_pos (by omega), if_pos (by omega), l01In_f, Option.bind_some, wrap_succ (n := l.length) (by omega) hm, ih (i + 1) k (by omega) (by omega), all_drop l _ i (by omega)]
    by_cases h : withinB (rd l (i : Int)) 1 20 = true
    · rw [if_pos h, h, Bool.true_and]
    · rw [if_neg h]
      simp only [Bool.not_eq_true] at h
      rw [h]
      simp
theorem l06Is_eq (l : List Int) (hm : l.length ≤ 9223372036854775807) (k : Nat) (hk : l.length < k) : spec_l06Is.f k l = some (isGardenB l) := by
  unfold spec_l06Is.f isGardenB
  have := l06Is_l0 l hm l.length 0 k (by omega) hk
  rw [Bool.and_comm]
  simpa using this
theorem szI_ok (l : List Int) (h : l.length ≤ 1048576) : laws_szInt64S.f l 1048576 = some (1048576 - (l.length : Int)) := by
  rw [szInt64S_eq l 1048576 (by omega) (by omega) (by omega), if_pos (by omega)]
theorem szI_big (l : List Int) (hm : l.length ≤ 9223372036854775807) (h : ¬ l.length ≤ 1048576) : laws_szInt64S.f l 1048576 = some (-1) := by
  rw [szInt64S_eq l 1048576 (by omega) (by omega) hm, if_neg (by omega)]
end Go.Proofs.Ytjaanhnmgipmeaa.X
