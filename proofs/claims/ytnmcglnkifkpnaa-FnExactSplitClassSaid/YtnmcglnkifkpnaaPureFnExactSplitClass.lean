/- For every list of classes and every two numbers: the program's SplitClass answers as the reference's does, leaves its argument as it was, and shares no memory. -/
import Derived.Test.YtnmcglnkifkpnaaQZs
import Derived.Test.YtnmcglnkifkpnaaX0
import Derived.Test.YtnmcglnkifkpnaaX3
import Derived.Test.YtnmcglnkifkpnaaX4
import Derived.Test.YtnmcglnkifkpnaaX6
import Derived.Test.YtnmcglnkifkpnaaX8
namespace Go.Proofs.Ytnmcglnkifkpnaa.Pure
set_option linter.unusedVariables false
set_option linter.unusedSimpArgs false
open Go.RowKit Go.Proofs.Ytnmcglnkifkpnaa.X Go.Proofs.YtnmcglnkifkpnaaW.PrintWords Go.Proofs.YtnmcglnkifkpnaaW.PrintLast
def splitR (l : List S54) (i m : Int) : List S54 × Int :=
  if areClassesB l = true then (if withinB i 0 ((l.length : Int) - 1) = true then (if withinB m 2 8 = true then (if (l.length : Int) + m - 1 > 8 then ([], 3) else if m * (rd_T54 l i).f1 > 40 then ([], 3) else (splitL l i.toNat m.toNat, 0)) else ([], 2)) else ([], 2)) else ([], 1)
theorem prod40 (a b : Int) (h0 : 0 ≤ a) (h1 : a ≤ 8) (h2 : 0 ≤ b) (h3 : b ≤ 40) : 0 ≤ a * b ∧ a * b ≤ 320 := by
  refine ⟨Int.mul_nonneg h0 h2, ?_⟩
  have := Int.mul_le_mul h1 h3 h2 (by omega)
  omega
theorem FnExactSplitClass : laws_FnExactSplitClass.Pure := by
  intro l i m hml hyl hwl hwi hwm
  refine ⟨4000010, ?_⟩
  unfold laws_FnExactSplitClass.f
  by_cases hll : l.length ≤ 1048576
  · rw [szClassS_ok l hll, Option.bind_some, if_neg (by omega)]
    have hS : ∀ k, 3000000 < k → spec_SplitClass.f k (toS l) i m = some (splitR (toS l) i m) := by
      intro k hk
      unfold spec_SplitClass.f splitR
      obtain ⟨k, rfl⟩ : ∃ m, k = m + 1 := ⟨k - 1, by omega⟩
      rw [l05Are_eq (toS l) (by rw [toS_length]; omega) _ (by rw [toS_length]; omega), Option.bind_some]
      generalize toS l = L
      by_cases h : areClassesB L = true
      · have hl := classes_len h
        rw [if_pos h, if_pos h, l01In_f, Option.bind_some, wrap64_id (x := (L.length : Int) - 1) (by omega) (by omega)]
        by_cases h1 : withinB i 0 ((L.length : Int) - 1) = true
        · have hi := h1
          unfold withinB at hi
          simp only [Bool.and_eq_true, decide_eq_true_eq] at hi
          rw [if_pos h1, if_pos h1, l01In_f, Option.bind_some]
          simp only [spec_SplitClass.j0]
          by_cases h2 : withinB m 2 8 = true
          · have hm := h2
            unfold withinB at hm
            simp only [Bool.and_eq_true, decide_eq_true_eq] at hm
            rw [if_pos h2, h2, if_neg (by simp), wrap64_id (x := (L.length : Int) + m) (by omega) (by omega), wrap64_id (x := (L.length : Int) + m - 1) (by omega) (by omega)]
            by_cases h3 : (L.length : Int) + m - 1 > 8
            · rw [if_pos h3, if_pos h3]
            · obtain ⟨a, rfl⟩ : ∃ a : Nat, i = (a : Int) := ⟨i.toNat, by omega⟩
              obtain ⟨b, rfl⟩ : ∃ b : Nat, m = (b : Int) := ⟨m.toNat, by omega⟩
              have hc := classes_mem h _ (rdC_in L a (by omega))
              have hp := prod40 (b : Int) (rd_T54 L (a : Int)).f1 (by omega) (by omega) (by omega) (by omega)
              rw [if_neg h3, if_neg h3, if_pos (by omega), if_pos (by omega), wrap64_id (by omega) (by omega)]
              by_cases h4 : (b : Int) * (rd_T54 L (a : Int)).f1 > 40
              · rw [if_pos h4, if_pos h4]
              · have e := specSplit_l0 L hl.2 a b (by omega) (by omega) b 0 k (L.take a) (by omega) (by omega) (by rw [List.length_take]; omega)
                simp only [Int.natCast_zero] at e
                rw [if_neg h4, if_neg h4, spec_l05Split.f, Option.bind_some, if_pos (by omega), if_pos (by omega), Option.bind_some, toNat_nat, if_pos (by rw [List.length_take]; simp only [List.length_nil]; omega), List.nil_append, e, Option.bind_some, toNat_nat]
                rfl
          · rw [if_neg h2]
            simp only [Bool.not_eq_true] at h2
            rw [h2, if_pos (by simp)]
        · rw [if_neg h1, if_neg h1]
          simp only [spec_SplitClass.j0]
          rw [if_pos trivial]
      · rw [if_neg h, if_neg h]
    have hI : ∀ k, 3000000 < k → impl_SplitClass.f k (toS l) i m = some (splitR (toS l) i m) := by
      intro k hk
      unfold impl_SplitClass.f splitR
      obtain ⟨k, rfl⟩ : ∃ m, k = m + 1 := ⟨k - 1, by omega⟩
      rw [impl_AreClasses.f, Option.bind_some]
      generalize toS l = L
      by_cases h : areClassesB L = true
      · have hl := classes_len h
        rw [if_pos h, if_pos h, impl_Class_48.f, Option.bind_some, within_f, Option.bind_some, wrap64_id (x := (L.length : Int) - 1) (by omega) (by omega)]
        by_cases h1 : withinB i 0 ((L.length : Int) - 1) = true
        · have hi := h1
          unfold withinB at hi
          simp only [Bool.and_eq_true, decide_eq_true_eq] at hi
          rw [if_pos h1, if_pos h1, within_f, Option.bind_some]
          simp only [impl_SplitClass.j0]
          by_cases h2 : withinB m 2 8 = true
          · have hm := h2
            unfold withinB at hm
            simp only [Bool.and_eq_true, decide_eq_true_eq] at hm
            rw [if_pos h2, h2, if_neg (by simp), impl_Class_48.f, Option.bind_some, wrap64_id (x := (L.length : Int) + m) (by omega) (by omega), wrap64_id (x := (L.length : Int) + m - 1) (by omega) (by omega)]
            by_cases h3 : (L.length : Int) + m - 1 > 8
            · rw [if_pos h3, if_pos h3]
            · obtain ⟨a, rfl⟩ : ∃ a : Nat, i = (a : Int) := ⟨i.toNat, by omega⟩
              obtain ⟨b, rfl⟩ : ∃ b : Nat, m = (b : Int) := ⟨m.toNat, by omega⟩
              have hc := classes_mem h _ (rdC_in L a (by omega))
              have hp := prod40 (b : Int) (rd_T54 L (a : Int)).f1 (by omega) (by omega) (by omega) (by omega)
              rw [if_neg h3, if_neg h3, if_pos (by omega), if_pos (by omega), Int.mul_comm, wrap64_id (by omega) (by omega)]
              by_cases h4 : (b : Int) * (rd_T54 L (a : Int)).f1 > 40
              · rw [if_pos h4, if_pos h4]
              · have e := implSplit_l0 L hl.2 a b (by omega) (by omega) b 0 k [] (by omega) (by omega) rfl
                simp only [Int.natCast_zero, List.nil_append] at e
                rw [if_neg h4, if_neg h4, e, toNat_nat, toNat_nat]
                rfl
          · rw [if_neg h2]
            simp only [Bool.not_eq_true] at h2
            rw [h2, if_pos (by simp)]
        · rw [if_neg h1, if_neg h1]
          simp only [impl_SplitClass.j0]
          rw [if_pos trivial]
      · rw [if_neg h, if_neg h]
    have hr : (splitR (toS l) i m).1.length ≤ 1048576 := by
      unfold splitR
      generalize toS l = L
      by_cases h : areClassesB L = true
      · have hl := classes_len h
        rw [if_pos h]
        by_cases h1 : withinB i 0 ((L.length : Int) - 1) = true
        · have hi := h1
          unfold withinB at hi
          simp only [Bool.and_eq_true, decide_eq_true_eq] at hi
          rw [if_pos h1]
          by_cases h2 : withinB m 2 8 = true
          · rw [if_pos h2]
            split
            · simp
            · split
              · simp
              · simp only
                rw [splitL_length _ _ _ (by omega)]
                omega
          · rw [if_neg h2]
            simp
        · rw [if_neg h1]
          simp
      · rw [if_neg h]
        simp
    generalize (splitR (toS l) i m) = r at hS hI hr
    obtain ⟨r0, r1⟩ := r
    simp only at hr
    simp (disch := omega) only [toInt64S_eq, Option.bind_some, hS, hI, if_true, bne_self_eq_false, eqInt64S_self, Bool.false_eq_true, if_false, markInt64S_eq, not_neg, toClassS_eq, eqToS_self, toS_length, eqClassS_self, markToS_eq, markClassS_eq, heldClassS_eq, marksC_length]
    simp only [laws_FnExactSplitClass.j0]
    simp (disch := omega) only [toInt64S_eq, Option.bind_some, hS, hI, if_true, bne_self_eq_false, eqInt64S_self, Bool.false_eq_true, if_false, markInt64S_eq, not_neg, toClassS_eq, eqToS_self, toS_length, eqClassS_self, markToS_eq, markClassS_eq, heldClassS_eq, marksC_length]
    simp only [laws_FnExactSplitClass.j1]
    simp (disch := omega) only [toInt64S_eq, Option.bind_some, hS, hI, if_true, bne_self_eq_false, eqInt64S_self, Bool.false_eq_true, if_false, markInt64S_eq, not_neg, toClassS_eq, eqToS_self, toS_length, eqClassS_self, markToS_eq, markClassS_eq, heldClassS_eq, marksC_length]
    simp only [laws_FnExactSplitClass.j2]
    simp (disch := omega) only [toInt64S_eq, Option.bind_some, hS, hI, if_true, bne_self_eq_false, eqInt64S_self, Bool.false_eq_true, if_false, markInt64S_eq, not_neg, toClassS_eq, eqToS_self, toS_length, eqClassS_self, markToS_eq, markClassS_eq, heldClassS_eq, marksC_length]
  · rw [szClassS_big l (maxLen_le hml) hll, Option.bind_some, if_pos (by omega)]
end Go.Proofs.Ytnmcglnkifkpnaa.Pure
