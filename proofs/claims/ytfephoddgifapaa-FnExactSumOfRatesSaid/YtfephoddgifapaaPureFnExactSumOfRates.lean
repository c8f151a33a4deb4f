/- For every list of rates: the program's SumOfRates answers as the reference's does and leaves its argument as it was. -/
import Derived.Test.YtfephoddgifapaaQL
import Derived.Test.YtfephoddgifapaaQJ
import Derived.Test.YtfephoddgifapaaX7
import Derived.Test.YtfephoddgifapaaX9
import Derived.Test.YtfephoddgifapaaX36
import Derived.Test.YtfephoddgifapaaX37
import Derived.Test.YtfephoddgifapaaX38
namespace Go.Proofs.Ytfephoddgifapaa.Pure
set_option linter.unusedVariables false
set_option linter.unusedSimpArgs false
open Go.RowKit Go.Proofs.Ytfephoddgifapaa.X Go.Proofs.YtfephoddgifapaaW.PrintWords Go.Proofs.YtfephoddgifapaaW.PrintLast
def sumF : List Int → Int → Int
  | [], s => s
  | g :: r, s => sumF r (wrap64 (s + g))
theorem specSum_l0 (l : List Int) (hl : l.length ≤ 1048576) : ∀ (d i k : Nat) (s m : Int), i + d = l.length → d < k → spec_l06Sum.l0 k s m (i : Int) l = some (sumF (l.drop i) s, maxL (l.drop i) m) := by
  intro d
  induction d with
  | zero =>
    intro i k s m hi hk
    obtain ⟨k, rfl⟩ : ∃ m, k = m + 1 := ⟨k - 1, by omega⟩
    simp only [spec_l06Sum.l0]
    rw [if_neg (by omega), List.drop_of_length_le (by omega)]
    rfl
  | succ d ih =>
    intro i k s m hi hk
    obtain ⟨k, rfl⟩ : ∃ m, k = m + 1 := ⟨k - 1, by omega⟩
    simp only [spec_l06Sum.l0]
    rw [if_pos (by omega), if_pos (by omega), wrap_succ (n := l.length) (by omega) (by omega), ih (i + 1) k _ _ (by omega) (by omega), drop_rd l i (by omega)]
    rfl
theorem implSum_l0 (l : List Int) (hl : l.length ≤ 1048576) : ∀ (d i k : Nat) (s : Int), i + d = l.length → d < k → impl_Garden_sum.l0 k s l (l.length : Int) (i : Int) = some (sumF (l.drop i) s) := by
  intro d
  induction d with
  | zero =>
    intro i k s hi hk
    obtain ⟨k, rfl⟩ : ∃ m, k = m + 1 := ⟨k - 1, by omega⟩
    simp only [impl_Garden_sum.l0]
    rw [if_neg (by omega), List.drop_of_length_le (by omega)]
    rfl
  | succ d ih =>
    intro i k s hi hk
    obtain ⟨k, rfl⟩ : ∃ m, k = m + 1 := ⟨k - 1, by omega⟩
    simp only [impl_Garden_sum.l0]
    rw [if_pos (by omega), if_pos (by omega), if_pos (by omega), wrap_succ (n := l.length) (by omega) (by omega), ih (i + 1) k _ (by omega) (by omega), drop_rd l i (by omega)]
    rfl
theorem FnExactSumOfRates : laws_FnExactSumOfRates.Pure := by
  intro g hmg hwg
  refine ⟨4000010, ?_⟩
  unfold laws_FnExactSumOfRates.f laws_szGarden.f
  have hmg := maxLen_le hmg
  by_cases hlg : g.length ≤ 1048576
  · rw [szI_ok g hlg, Option.bind_some, if_neg (by omega), Option.bind_some, if_neg (by omega)]
    have hS : ∀ k, 3000000 < k → spec_SumOfRates.f k g = some (if isGardenB g = true then (sumF g 0, (0 : Int)) else (0, 1)) := by
      intro k hk
      unfold spec_SumOfRates.f spec_l06Sum.f
      rw [l06Is_eq g (by omega) k (by omega), Option.bind_some]
      by_cases h : isGardenB g = true
      · have := specSum_l0 g hlg g.length 0 k 0 0 (by omega) (by omega)
        simp only [Int.natCast_zero, List.drop_zero] at this
        rw [if_pos h, if_pos h, this, Option.bind_some]
      · rw [if_neg h, if_neg h]
    have hI : ∀ k, 3000000 < k → impl_SumOfRates.f k g = some (if isGardenB g = true then (sumF g 0, (0 : Int)) else (0, 1)) := by
      intro k hk
      unfold impl_SumOfRates.f impl_gardenCode.f impl_Garden_sum.f
      rw [impl_IsGarden.f, Option.bind_some]
      by_cases h : isGardenB g = true
      · have := implSum_l0 g hlg g.length 0 k 0 (by omega) (by omega)
        simp only [Int.natCast_zero, List.drop_zero] at this
        rw [if_pos h, if_pos h, if_pos rfl, Option.bind_some, if_pos rfl, this, Option.bind_some]
      · rw [if_neg h, if_neg h, Option.bind_some, if_neg (by omega)]
    generalize (if isGardenB g = true then (sumF g 0, (0 : Int)) else (0, 1)) = r at hS hI
    obtain ⟨r0, r1⟩ := r
    simp (disch := omega) only [toInt64S_eq, Option.bind_some, hS, hI, if_true, bne_self_eq_false, eqInt64S_self, Bool.false_eq_true, if_false, laws_toGarden.f, laws_eqGarden.f]
    simp only [laws_FnExactSumOfRates.j0]
    simp (disch := omega) only [toInt64S_eq, Option.bind_some, hS, hI, if_true, bne_self_eq_false, eqInt64S_self, Bool.false_eq_true, if_false, laws_toGarden.f, laws_eqGarden.f]
  · rw [szI_big g hmg hlg, Option.bind_some, if_pos (by omega), Option.bind_some, if_pos (by omega)]
end Go.Proofs.Ytfephoddgifapaa.Pure
