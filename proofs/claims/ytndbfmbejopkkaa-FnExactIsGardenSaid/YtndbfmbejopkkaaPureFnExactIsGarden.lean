/- For every list of rates of any length: the program's IsGarden answers as the reference's does. -/
import Derived.Test.YtndbfmbejopkkaaQB
import Derived.Test.YtndbfmbejopkkaaX38
import Derived.Test.YtndbfmbejopkkaaX44
import Derived.Test.YtndbfmbejopkkaaX45
import Derived.Test.YtndbfmbejopkkaaX46
import Derived.Test.YtndbfmbejopkkaaX47
import Derived.Test.YtndbfmbejopkkaaX48
import Derived.Test.YtndbfmbejopkkaaX49
import Derived.Test.YtndbfmbejopkkaaX50
namespace Go.Proofs.Ytndbfmbejopkkaa.Pure
set_option linter.unusedVariables false
set_option linter.unusedSimpArgs false
open Go.RowKit Go.Proofs.Ytndbfmbejopkkaa.X Go.Proofs.YtndbfmbejopkkaaW.PrintWords Go.Proofs.YtndbfmbejopkkaaW.PrintLast
theorem l06Is_l0 (l : List Int) (hm : l.length ≤ 9223372036854775807) : ∀ (d i k : Nat), i + d = l.length → d < k → spec_l06Is.l0 k (i : Int) l = some ((l.drop i).all (fun x => withinB x 1 20) && withinB (l.length : Int) 1 8) := by
  intro d
  induction d with
  | zero =>
    intro i k hi hk
    obtain ⟨k, rfl⟩ : ∃ m, k = m + 1 := ⟨k - 1, by omega⟩
    simp only [spec_l06Is.l0]
    rw [if_neg (by omega), List.drop_of_length_le (by omega)]
    unfold withinB
    by_cases h : (l.length : Int) > 0
    · rw [if_pos h]
      have : (1 : Int) ≤ (l.length : Int) := by omega
      simp [this]
    · rw [if_neg h]
      have : ¬ (1 : Int) ≤ (l.length : Int) := by omega
      simp [this]
  | succ d ih =>
    intro i k hi hk
    obtain ⟨k, rfl⟩ : ∃ m, k = m + 1 := ⟨k - 1, by omega⟩
    simp only [spec_l06Is.l0]
    rw [if_pos (by omega), if_pos (by omega), l01In_f, Option.bind_some, wrap_succ (n := l.length) (by omega) hm, ih (i + 1) k (by omega) (by omega), all_drop l _ i (by omega)]
    by_cases h : withinB (rd l (i : Int)) 1 20 = true
    · rw [if_pos h, h, Bool.true_and]
    · rw [if_neg h]
      simp only [Bool.not_eq_true] at h
      rw [h]
      simp
theorem l06Is_eq (l : List Int) (hm : l.length ≤ 9223372036854775807) (k : Nat) (hk : l.length < k) : spec_l06Is.f k l = some (isGardenB l) := by
  unfold spec_l06Is.f isGardenB
  have := l06Is_l0 l hm l.length 0 k (by omega) hk
  rw [Bool.and_comm]
  simpa using this
theorem FnExactIsGarden : laws_FnExactIsGarden.Pure := by
  intro l hm hw
  refine ⟨4000000, ?_⟩
  have hm := maxLen_le hm
  unfold laws_FnExactIsGarden.f laws_szGarden.f
  rw [szInt64S_eq l 1048576 (by omega) (by omega) hm, Option.bind_some]
  by_cases hl : (l.length : Int) ≤ 1048576
  · rw [if_pos hl, if_neg (by omega), Option.bind_some, if_neg (by omega)]
    simp (disch := omega) only [laws_toGarden.f, laws_eqGarden.f, toInt64S_eq, Option.bind_some, spec_IsGarden.f, l06Is_eq, impl_IsGarden.f, bne_self_eq_false, Bool.false_eq_true, if_false, eqInt64S_self, if_true]
  · rw [if_neg hl, if_pos (by omega), Option.bind_some, if_pos (by omega)]
end Go.Proofs.Ytndbfmbejopkkaa.Pure
