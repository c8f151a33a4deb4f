/- For every list of classes: the program's DoCover answers as the reference's does and leaves its argument as it was. -/
import Derived.Test.YtnmcglnkifkpnaaQZf
import Derived.Test.YtnmcglnkifkpnaaX0
import Derived.Test.YtnmcglnkifkpnaaX5
import Derived.Test.YtnmcglnkifkpnaaX9
namespace Go.Proofs.Ytnmcglnkifkpnaa.Pure
set_option linter.unusedVariables false
set_option linter.unusedSimpArgs false
open Go.RowKit Go.Proofs.Ytnmcglnkifkpnaa.X Go.Proofs.YtnmcglnkifkpnaaW.PrintWords Go.Proofs.YtnmcglnkifkpnaaW.PrintLast
theorem openR_code (l : List S54) : (openR l).2 = 0 ∨ (openR l).2 = 4 := by
  unfold openR
  cases openF l (spanN l) 0 with
  | none => right; rfl
  | some m => left; rfl
theorem FnExactDoCover : laws_FnExactDoCover.Pure := by
  intro l hml hyl hwl
  refine ⟨9223372036870000000, ?_⟩
  unfold laws_FnExactDoCover.f
  by_cases hll : l.length ≤ 1048576
  · rw [szClassS_ok l hll, Option.bind_some, if_neg (by omega)]
    have hS : ∀ k, 9223372036865000000 < k → spec_DoCover.f k (toS l) = some (if areClassesB (toS l) = true then (if spanN (toS l) > 100000 then (false, (3 : Int)) else (decide ((openR (toS l)).2 = 4), 0)) else (false, 1)) := by
      intro k hk
      unfold spec_DoCover.f
      rw [specCode_eq (toS l) (by rw [toS_length]; omega) k (by omega), Option.bind_some]
      by_cases h : areClassesB (toS l) = true
      · rw [if_pos h, if_pos h]
        by_cases h2 : spanN (toS l) > 100000
        · rw [if_pos h2, if_pos h2, if_neg (by omega)]
        · rw [if_neg h2, if_neg h2, if_pos rfl, specOpen_eq _ (classes_len h).2 (fun x hx => by have := classes_mem h x hx; omega) (by omega) k (by omega), Option.bind_some]
          unfold openR
          cases openF (toS l) (spanN (toS l)) 0 with
          | none => simp
          | some m =>
            simp only
            rw [decide_eq_false (show ¬ (m : Int) < 0 by omega)]
            simp
      · rw [if_neg h, if_neg h, if_neg (by omega)]
    have hI : ∀ k, 9223372036865000000 < k → impl_DoCover.f k (toS l) = some (if areClassesB (toS l) = true then (if spanN (toS l) > 100000 then (false, (3 : Int)) else (decide ((openR (toS l)).2 = 4), 0)) else (false, 1)) := by
      intro k hk
      unfold impl_DoCover.f
      rw [implFirst_eq (toS l) k (by omega), Option.bind_some]
      by_cases h : areClassesB (toS l) = true
      · rw [if_pos h, if_pos h]
        by_cases h2 : spanN (toS l) > 100000
        · rw [if_pos h2, if_pos h2]
          simp
        · rw [if_neg h2, if_neg h2]
          rcases openR_code (toS l) with e | e
          · rw [if_pos e, e]
            simp
          · rw [if_neg (by omega), if_pos e, e]
            simp
      · rw [if_neg h, if_neg h]
        simp
    generalize (if areClassesB (toS l) = true then (if spanN (toS l) > 100000 then (false, (3 : Int)) else (decide ((openR (toS l)).2 = 4), 0)) else (false, 1)) = r at hS hI
    obtain ⟨r0, r1⟩ := r
    simp (disch := omega) only [Option.bind_some, hS, hI, if_true, bne_self_eq_false, eqInt64S_self, Bool.false_eq_true, if_false, toClassS_eq, eqToS_self, toS_length]
    simp only [laws_FnExactDoCover.j0]
    simp (disch := omega) only [Option.bind_some, hS, hI, if_true, bne_self_eq_false, eqInt64S_self, Bool.false_eq_true, if_false, toClassS_eq, eqToS_self, toS_length]
  · rw [szClassS_big l (maxLen_le hml) hll, Option.bind_some, if_pos (by omega)]
end Go.Proofs.Ytnmcglnkifkpnaa.Pure
