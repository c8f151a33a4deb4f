/- For every list of classes: the program's AreExact answers as the reference's does and leaves its argument as it was. -/
import Derived.Test.YtnmcglnkifkpnaaQZa
import Derived.Test.YtnmcglnkifkpnaaQN
import Derived.Test.YtnmcglnkifkpnaaQZe
import Derived.Test.YtnmcglnkifkpnaaX4
import Derived.Test.YtnmcglnkifkpnaaX5
import Derived.Test.YtnmcglnkifkpnaaX7
namespace Go.Proofs.Ytnmcglnkifkpnaa.Pure
set_option linter.unusedVariables false
set_option linter.unusedSimpArgs false
open Go.RowKit Go.Proofs.Ytnmcglnkifkpnaa.X Go.Proofs.YtnmcglnkifkpnaaW.PrintWords Go.Proofs.YtnmcglnkifkpnaaW.PrintLast
theorem FnExactAreExact : laws_FnExactAreExact.Pure := by
  intro l hml hyl hwl
  refine ⟨9223372036870000000, ?_⟩
  unfold laws_FnExactAreExact.f
  by_cases hll : l.length ≤ 1048576
  · rw [szClassS_ok l hll, Option.bind_some, if_neg (by omega)]
    have hS : ∀ k, 9223372036865000000 < k → spec_AreExact.f k (toS l) = some (if areClassesB (toS l) = true then (exactB (toS l), (0 : Int)) else (false, 1)) := by
      intro k hk
      unfold spec_AreExact.f
      rw [l05Are_eq (toS l) (by rw [toS_length]; omega) k (by rw [toS_length]; omega), Option.bind_some]
      by_cases h : areClassesB (toS l) = true
      · rw [if_pos h, if_pos h, specExact_eq _ (classes_len h).2 (fun x hx => by have := classes_mem h x hx; omega) k (by omega), Option.bind_some]
      · rw [if_neg h, if_neg h]
    have hI : ∀ k, 9223372036865000000 < k → impl_AreExact.f k (toS l) = some (if areClassesB (toS l) = true then (exactB (toS l), (0 : Int)) else (false, 1)) := by
      intro k hk
      unfold impl_AreExact.f
      rw [impl_AreClasses.f, Option.bind_some]
      by_cases h : areClassesB (toS l) = true
      · rw [if_pos h, if_pos h, implExact_eq _ (classes_len h).2 (fun x hx => by have := classes_mem h x hx; omega) k (by omega), Option.bind_some]
      · rw [if_neg h, if_neg h]
    generalize (if areClassesB (toS l) = true then (exactB (toS l), (0 : Int)) else (false, 1)) = r at hS hI
    obtain ⟨r0, r1⟩ := r
    simp (disch := omega) only [Option.bind_some, hS, hI, if_true, bne_self_eq_false, eqInt64S_self, Bool.false_eq_true, if_false, toClassS_eq, eqToS_self, toS_length]
    simp only [laws_FnExactAreExact.j0]
    simp (disch := omega) only [Option.bind_some, hS, hI, if_true, bne_self_eq_false, eqInt64S_self, Bool.false_eq_true, if_false, toClassS_eq, eqToS_self, toS_length]
  · rw [szClassS_big l (maxLen_le hml) hll, Option.bind_some, if_pos (by omega)]
end Go.Proofs.Ytnmcglnkifkpnaa.Pure
