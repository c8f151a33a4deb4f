/- For every list of classes: the program's AreNatural answers as the reference's does and leaves its argument as it was. -/
import Derived.Test.YtnmcglnkifkpnaaQNc
import Derived.Test.YtnmcglnkifkpnaaX6
import Derived.Test.YtnmcglnkifkpnaaX7
import Derived.Test.YtnmcglnkifkpnaaX8
import Derived.Test.YtnmcglnkifkpnaaX9
namespace Go.Proofs.Ytnmcglnkifkpnaa.Pure
set_option linter.unusedVariables false
set_option linter.unusedSimpArgs false
open Go.RowKit Go.Proofs.Ytnmcglnkifkpnaa.X Go.Proofs.YtnmcglnkifkpnaaW.PrintWords Go.Proofs.YtnmcglnkifkpnaaW.PrintLast
theorem FnExactAreNatural : laws_FnExactAreNatural.Pure := by
  intro l hml hyl hwl
  refine ⟨9223372036870000000, ?_⟩
  unfold laws_FnExactAreNatural.f
  by_cases hll : l.length ≤ 1048576
  · rw [szClassS_ok l hll, Option.bind_some, if_neg (by omega)]
    obtain ⟨b, hb⟩ : ∃ b : Bool, areClassesB (toS l) = true → ∃ c : Bool, (∀ k, 10000 < k → impl_Class_isNatural.f k 0 1 (toS l) = some b) ∧ (∀ k, 10000 < k → spec_l05Natural.f k (toS l) = some c) ∧ b = (exactD (toS l) && c) := by
      by_cases h : areClassesB (toS l) = true
      · obtain ⟨b, c, hh⟩ := natural_both (toS l) h
        exact ⟨b, fun _ => ⟨c, hh⟩⟩
      · exact ⟨false, fun h2 => absurd h2 h⟩
    have hS : ∀ k, 9223372036865000000 < k → spec_AreNatural.f k (toS l) = some (if areClassesB (toS l) = true then (b, (0 : Int)) else (false, 1)) := by
      intro k hk
      unfold spec_AreNatural.f
      rw [l05Are_eq (toS l) (by rw [toS_length]; omega) k (by rw [toS_length]; omega), Option.bind_some]
      by_cases h : areClassesB (toS l) = true
      · obtain ⟨c, _, hc, e⟩ := hb h
        rw [if_pos h, if_pos h, specExactD_eq _ (classes_len h).2 (fun x hx => by have := classes_mem h x hx; omega) k (by omega), Option.bind_some, hc k (by omega)]
        subst e
        cases exactD (toS l) <;> rfl
      · rw [if_neg h, if_neg h]
    have hI : ∀ k, 9223372036865000000 < k → impl_AreNatural.f k (toS l) = some (if areClassesB (toS l) = true then (b, (0 : Int)) else (false, 1)) := by
      intro k hk
      unfold impl_AreNatural.f
      rw [impl_AreClasses.f, Option.bind_some]
      by_cases h : areClassesB (toS l) = true
      · obtain ⟨c, hi, _, _⟩ := hb h
        rw [if_pos h, if_pos h, hi k (by omega), Option.bind_some]
      · rw [if_neg h, if_neg h]
    generalize (if areClassesB (toS l) = true then (b, (0 : Int)) else (false, 1)) = r at hS hI
    obtain ⟨r0, r1⟩ := r
    simp (disch := omega) only [Option.bind_some, hS, hI, if_true, bne_self_eq_false, Bool.false_eq_true, if_false, toClassS_eq, eqToS_self, toS_length]
    simp only [laws_FnExactAreNatural.j0]
    simp (disch := omega) only [Option.bind_some, hS, hI, if_true, bne_self_eq_false, Bool.false_eq_true, if_false, toClassS_eq, eqToS_self, toS_length]
  · rw [szClassS_big l (maxLen_le hml) hll, Option.bind_some, if_pos (by omega)]
end Go.Proofs.Ytnmcglnkifkpnaa.Pure
