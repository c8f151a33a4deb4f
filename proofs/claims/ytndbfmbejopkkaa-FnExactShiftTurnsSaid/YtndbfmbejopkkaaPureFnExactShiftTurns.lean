/- For every list of whole numbers and every number: the program's ShiftTurns answers as the reference's does, leaves its argument as it was, and shares no memory. -/
import Derived.Test.YtndbfmbejopkkaaQS
import Derived.Test.YtndbfmbejopkkaaQSs
import Derived.Test.YtndbfmbejopkkaaX1
import Derived.Test.YtndbfmbejopkkaaX3
import Derived.Test.YtndbfmbejopkkaaX16
import Derived.Test.YtndbfmbejopkkaaX22
import Derived.Test.YtndbfmbejopkkaaX24
import Derived.Test.YtndbfmbejopkkaaX25
namespace Go.Proofs.Ytndbfmbejopkkaa.Pure
set_option linter.unusedVariables false
set_option linter.unusedSimpArgs false
open Go.RowKit Go.Proofs.Ytndbfmbejopkkaa.X Go.Proofs.YtndbfmbejopkkaaW.PrintWords Go.Proofs.YtndbfmbejopkkaaW.PrintLast
theorem FnExactShiftTurns : laws_FnExactShiftTurns.Pure := by
  intro l i hml hyl hwl hwi
  refine ⟨4000010, ?_⟩
  unfold laws_FnExactShiftTurns.f
  by_cases hll : l.length ≤ 1048576
  · rw [if_neg (by omega)]
    have hS : ∀ k, 3000000 < k → spec_ShiftTurns.f k l i = some (if areTurnsB l 8 = true then (if withinB i 0 (l.length : Int) = true then (shiftL l i.toNat, (0 : Int)) else ([], 2)) else ([], 2)) := by
      intro k hk
      unfold spec_ShiftTurns.f
      rw [l01Turns_eq l 8 (by omega) _ (by omega), Option.bind_some]
      by_cases h : areTurnsB l 8 = true
      · rw [if_pos h, if_pos h, l01In_f, Option.bind_some]
        by_cases h2 : withinB i 0 (l.length : Int) = true
        · have h3 := h2
          unfold withinB at h3
          simp only [Bool.and_eq_true, decide_eq_true_eq] at h3
          have e := l01Shifted_eq l i.toNat (by omega) (by omega)
          rw [show ((i.toNat : Nat) : Int) = i by omega] at e
          rw [if_pos h2, if_pos h2, e, Option.bind_some]
          rfl
        · rw [if_neg h2, if_neg h2]
      · rw [if_neg h, if_neg h]
    have hI : ∀ k, 3000000 < k → impl_ShiftTurns.f k l i = some (if areTurnsB l 8 = true then (if withinB i 0 (l.length : Int) = true then (shiftL l i.toNat, (0 : Int)) else ([], 2)) else ([], 2)) := by
      intro k hk
      unfold impl_ShiftTurns.f
      rw [impl_areTurns.f, Option.bind_some]
      by_cases h : areTurnsB l 8 = true
      · rw [if_pos h, if_pos h, impl_length_int64.f, Option.bind_some, within_f, Option.bind_some]
        by_cases h2 : withinB i 0 (l.length : Int) = true
        · have h3 := h2
          unfold withinB at h3
          simp only [Bool.and_eq_true, decide_eq_true_eq] at h3
          have e := shifted_eq l i.toNat (by omega) (by omega) k (by omega)
          rw [show ((i.toNat : Nat) : Int) = i by omega] at e
          rw [if_pos h2, if_pos h2, e, Option.bind_some]
        · rw [if_neg h2, if_neg h2]
      · rw [if_neg h, if_neg h]
    have hr : (if areTurnsB l 8 = true then (if withinB i 0 (l.length : Int) = true then (shiftL l i.toNat, (0 : Int)) else ([], 2)) else ([], 2)).1.length ≤ 1048576 := by
      split
      · split
        · rw [show (shiftL l i.toNat, (0 : Int)).1 = shiftL l i.toNat from rfl, shiftL_length]
          omega
        · simp
      · simp
    generalize (if areTurnsB l 8 = true then (if withinB i 0 (l.length : Int) = true then (shiftL l i.toNat, (0 : Int)) else ([], 2)) else ([], 2)) = r at hS hI hr
    obtain ⟨r0, r1⟩ := r
    simp only at hr
    simp (disch := omega) only [toInt64S_eq, Option.bind_some, hS, hI, if_true, bne_self_eq_false, eqInt64S_self, Bool.false_eq_true, if_false, markInt64S_eq, heldInt64S_eq, not_neg]
    simp only [laws_FnExactShiftTurns.j0]
    simp (disch := omega) only [toInt64S_eq, Option.bind_some, hS, hI, if_true, bne_self_eq_false, eqInt64S_self, Bool.false_eq_true, if_false, markInt64S_eq, heldInt64S_eq, not_neg]
    simp only [laws_FnExactShiftTurns.j1]
    simp (disch := omega) only [toInt64S_eq, Option.bind_some, hS, hI, if_true, bne_self_eq_false, eqInt64S_self, Bool.false_eq_true, if_false, markInt64S_eq, heldInt64S_eq, not_neg]
    simp only [laws_FnExactShiftTurns.j2]
    simp (disch := omega) only [toInt64S_eq, Option.bind_some, hS, hI, if_true, bne_self_eq_false, eqInt64S_self, Bool.false_eq_true, if_false, markInt64S_eq, heldInt64S_eq, not_neg]
  · rw [if_pos (by omega)]
end Go.Proofs.Ytndbfmbejopkkaa.Pure
