/- For every list of whole numbers and every number: the program's WaitsOf answers as the reference's does, leaves its argument as it was, and shares no memory. -/
import Derived.Test.YtndbfmbejopkkaaQC
import Derived.Test.YtndbfmbejopkkaaX38
import Derived.Test.YtndbfmbejopkkaaX58
import Derived.Test.YtndbfmbejopkkaaX80
import Derived.Test.YtndbfmbejopkkaaX82
import Derived.Test.YtndbfmbejopkkaaX83
namespace Go.Proofs.Ytndbfmbejopkkaa.Pure
set_option linter.unusedVariables false
set_option linter.unusedSimpArgs false
open Go.RowKit Go.Proofs.Ytndbfmbejopkkaa.X Go.Proofs.YtndbfmbejopkkaaW.PrintWords Go.Proofs.YtndbfmbejopkkaaW.PrintLast
def waitsR (l : List Int) (i : Int) : List Int × Int := if areTurnsB l 8 = true then (if withinB i 0 7 = true then (waitsL l i, 0) else ([], 2)) else ([], 2)
theorem FnExactWaitsOf : laws_FnExactWaitsOf.Pure := by
  intro l i hm hy hw hi
  refine ⟨4000010, ?_⟩
  unfold laws_FnExactWaitsOf.f
  by_cases hl : l.length ≤ 1048576
  · rw [if_neg (by omega)]
    have hS : ∀ k, 3000000 < k → spec_WaitsOf.f k l i = some (waitsR l i) := by
      intro k hk
      unfold spec_WaitsOf.f waitsR
      rw [l01Turns_eq l 8 (by omega) _ (by omega), Option.bind_some]
      by_cases h : areTurnsB l 8 = true
      · rw [if_pos h, if_pos h, l01In_f, Option.bind_some]
        by_cases h2 : withinB i 0 7 = true
        · rw [if_pos h2, if_pos h2, l01Waits_eq l i hl _ (by omega), Option.bind_some]
        · rw [if_neg h2, if_neg h2]
      · rw [if_neg h, if_neg h]
    have hI : ∀ k, 3000000 < k → impl_WaitsOf.f k l i = some (waitsR l i) := by
      intro k hk
      unfold impl_WaitsOf.f waitsR
      rw [impl_areTurns.f, Option.bind_some]
      by_cases h : areTurnsB l 8 = true
      · rw [if_pos h, if_pos h, within_f, Option.bind_some]
        by_cases h2 : withinB i 0 7 = true
        · rw [if_pos h2, if_pos h2, waits_eq l i hl _ (by omega), Option.bind_some]
        · rw [if_neg h2, if_neg h2]
      · rw [if_neg h, if_neg h]
    have hr : (waitsR l i).1.length ≤ 1048576 := by
      unfold waitsR
      have := waitsL_length l i
      split
      · split
        · show (waitsL l i).length ≤ 1048576
          omega
        · simp
      · simp
    generalize waitsR l i = r at hS hI hr
    obtain ⟨r, c⟩ := r
    simp only at hr
    simp (disch := omega) only [toInt64S_eq, Option.bind_some, hS, hI, if_true, bne_self_eq_false, eqInt64S_self, markInt64S_eq, heldInt64S_eq, not_neg, Bool.false_eq_true, if_false]
    simp only [laws_FnExactWaitsOf.j0]
    simp (disch := omega) only [toInt64S_eq, Option.bind_some, hS, hI, if_true, bne_self_eq_false, eqInt64S_self, markInt64S_eq, heldInt64S_eq, not_neg, Bool.false_eq_true, if_false]
    simp only [laws_FnExactWaitsOf.j1]
    simp (disch := omega) only [toInt64S_eq, Option.bind_some, hS, hI, if_true, bne_self_eq_false, eqInt64S_self, markInt64S_eq, heldInt64S_eq, not_neg, Bool.false_eq_true, if_false]
    simp only [laws_FnExactWaitsOf.j2]
    simp (disch := omega) only [toInt64S_eq, Option.bind_some, hS, hI, if_true, bne_self_eq_false, eqInt64S_self, markInt64S_eq, heldInt64S_eq, not_neg, Bool.false_eq_true, if_false]
  · rw [if_pos (by omega)]
end Go.Proofs.Ytndbfmbejopkkaa.Pure
