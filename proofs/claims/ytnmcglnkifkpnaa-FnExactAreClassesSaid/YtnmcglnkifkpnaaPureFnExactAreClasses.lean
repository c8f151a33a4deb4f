/- For every list of classes: the program's AreClasses answers as the reference's does and leaves its argument as it was. -/
import Derived.Test.YtnmcglnkifkpnaaQZ
import Derived.Test.YtnmcglnkifkpnaaX1
import Derived.Test.YtnmcglnkifkpnaaX2
import Derived.Test.YtnmcglnkifkpnaaX5
namespace Go.Proofs.Ytnmcglnkifkpnaa.Pure
set_option linter.unusedVariables false
set_option linter.unusedSimpArgs false
open Go.RowKit Go.Proofs.Ytnmcglnkifkpnaa.X Go.Proofs.YtnmcglnkifkpnaaW.PrintWords Go.Proofs.YtnmcglnkifkpnaaW.PrintLast
theorem FnExactAreClasses : laws_FnExactAreClasses.Pure := by
  intro l hml hyl hwl
  refine ⟨4000010, ?_⟩
  unfold laws_FnExactAreClasses.f
  by_cases hll : l.length ≤ 1048576
  · rw [szClassS_ok l hll, Option.bind_some, if_neg (by omega)]
    have hS : ∀ k, 3000000 < k → spec_AreClasses.f k (toS l) = some (areClassesB (toS l)) := by
      intro k hk
      unfold spec_AreClasses.f
      rw [l05Are_eq (toS l) (by rw [toS_length]; omega) k (by rw [toS_length]; omega), Option.bind_some]
    have hI : impl_AreClasses.f (toS l) = some (areClassesB (toS l)) := by
      rfl
    generalize (areClassesB (toS l)) = r at hS hI
    simp (disch := omega) only [toInt64S_eq, Option.bind_some, hS, hI, if_true, bne_self_eq_false, eqInt64S_self, Bool.false_eq_true, if_false, toClassS_eq, eqToS_self, toS_length]
  · rw [szClassS_big l (maxLen_le hml) hll, Option.bind_some, if_pos (by omega)]
end Go.Proofs.Ytnmcglnkifkpnaa.Pure
