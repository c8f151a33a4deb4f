/- For every list of classes: the program's TurnsOfClasses answers as the reference's does, leaves its argument as it was, and shares no memory. -/
import Derived.Test.YtnmcglnkifkpnaaQZt
import Derived.Test.YtnmcglnkifkpnaaX0
import Derived.Test.YtnmcglnkifkpnaaX5
import Derived.Test.YtnmcglnkifkpnaaX10
import Derived.Test.YtnmcglnkifkpnaaX11
import Derived.Test.YtnmcglnkifkpnaaX12
namespace Go.Proofs.Ytnmcglnkifkpnaa.Pure
set_option linter.unusedVariables false
set_option linter.unusedSimpArgs false
open Go.RowKit Go.Proofs.Ytnmcglnkifkpnaa.X Go.Proofs.YtnmcglnkifkpnaaW.PrintWords Go.Proofs.YtnmcglnkifkpnaaW.PrintLast
theorem specToC_l0 (l : List S54) (hl : l.length ≤ 8) (hg : ∀ x ∈ l, 1 ≤ x.f1 ∧ x.f1 ≤ 40) (hs : spanN l ≤ 120) : ∀ (d n k : Nat) (o : List Int), n + d = spanN l → 9223372036860000100 + d < k → o.length = n → spec_TurnsOfClasses.l0 k l o (n : Int) = some (o ++ turnsF l d n, 0) := by
  intro d
  induction d with
  | zero =>
    intro n k o hi hk ho
    obtain ⟨k, rfl⟩ : ∃ m, k = m + 1 := ⟨k - 1, by omega⟩
    simp only [spec_TurnsOfClasses.l0, turnsF]
    rw [specSpan_eq l hl hg k (by omega), Option.bind_some, if_neg (by omega), List.append_nil]
  | succ d ih =>
    intro n k o hi hk ho
    obtain ⟨k, rfl⟩ : ∃ m, k = m + 1 := ⟨k - 1, by omega⟩
    simp only [spec_TurnsOfClasses.l0, turnsF]
    rw [specSpan_eq l hl hg k (by omega), Option.bind_some, if_pos (by omega), l05In_eq l hl hg _ k (by omega), Option.bind_some, if_pos (by omega), wrap_succ (n := spanN l) (by omega) (by omega), ih (n + 1) k _ (by omega) (by omega) (by rw [List.length_append, List.length_singleton]; omega), List.append_assoc]
    rfl
theorem implToC_l0 (l : List S54) (hg : gapsIn l = true) (hs : spanN l ≤ 120) : ∀ (d n k : Nat) (o : List Int), n + d = spanN l → d < k → o.length = n → impl_TurnsOfClasses.l0 k l o ((spanN l : Nat) : Int) (n : Int) = some (o ++ turnsF l d n, 0) := by
  intro d
  induction d with
  | zero =>
    intro n k o hi hk ho
    obtain ⟨k, rfl⟩ : ∃ m, k = m + 1 := ⟨k - 1, by omega⟩
    simp only [impl_TurnsOfClasses.l0, turnsF]
    rw [if_neg (by omega), List.append_nil]
  | succ d ih =>
    intro n k o hi hk ho
    obtain ⟨k, rfl⟩ : ∃ m, k = m + 1 := ⟨k - 1, by omega⟩
    simp only [impl_TurnsOfClasses.l0, turnsF]
    rw [if_pos (by omega), impl_TurnsOfClasses_1.f, if_pos hg, Option.bind_some, if_pos (by omega), wrap_succ (n := spanN l) (by omega) (by omega), ih (n + 1) k _ (by omega) (by omega) (by rw [List.length_append, List.length_singleton]; omega), List.append_assoc]
    rfl
theorem FnExactTurnsOfClasses : laws_FnExactTurnsOfClasses.Pure := by
  intro l hml hyl hwl
  refine ⟨9223372036870000000, ?_⟩
  unfold laws_FnExactTurnsOfClasses.f
  by_cases hll : l.length ≤ 1048576
  · rw [szClassS_ok l hll, Option.bind_some, if_neg (by omega)]
    have hS : ∀ k, 9223372036865000000 < k → spec_TurnsOfClasses.f k (toS l) = some (if areClassesB (toS l) = true then (if apartAll (toS l) (toS l).length 0 = true then (if spanN (toS l) > 120 then ([], 3) else (turnsF (toS l) (spanN (toS l)) 0, (0 : Int))) else ([], 5)) else ([], 1)) := by
      intro k hk
      unfold spec_TurnsOfClasses.f
      rw [l05Are_eq (toS l) (by rw [toS_length]; omega) k (by rw [toS_length]; omega), Option.bind_some]
      by_cases h : areClassesB (toS l) = true
      · have h1 := (classes_len h).2
        have h3 : ∀ x ∈ toS l, 1 ≤ x.f1 ∧ x.f1 ≤ 40 := fun x hx => by have := classes_mem h x hx; omega
        rw [if_pos h, if_pos h, specApart_eq _ h1 h3 k (by omega), Option.bind_some]
        by_cases h2 : apartAll (toS l) (toS l).length 0 = true
        · rw [if_pos h2, if_pos h2, specSpan_eq _ h1 h3 k (by omega), Option.bind_some]
          by_cases h4 : spanN (toS l) > 120
          · rw [if_pos h4, if_pos (by omega)]
          · have e := specToC_l0 (toS l) h1 h3 (by omega) (spanN (toS l)) 0 k [] (by omega) (by omega) rfl
            simp only [Int.natCast_zero, List.nil_append] at e
            rw [if_neg h4, if_neg (by omega), e]
        · rw [if_neg h2, if_neg h2]
      · rw [if_neg h, if_neg h]
    have hI : ∀ k, 9223372036865000000 < k → impl_TurnsOfClasses.f k (toS l) = some (if areClassesB (toS l) = true then (if apartAll (toS l) (toS l).length 0 = true then (if spanN (toS l) > 120 then ([], 3) else (turnsF (toS l) (spanN (toS l)) 0, (0 : Int))) else ([], 5)) else ([], 1)) := by
      intro k hk
      unfold impl_TurnsOfClasses.f
      rw [impl_AreClasses.f, Option.bind_some]
      by_cases h : areClassesB (toS l) = true
      · have h1 := (classes_len h).2
        have h3 : ∀ x ∈ toS l, 1 ≤ x.f1 ∧ x.f1 ≤ 40 := fun x hx => by have := classes_mem h x hx; omega
        rw [if_pos h, if_pos h, gapsOf_eq _ h1 k (by omega), Option.bind_some, implSpan_eq _ h1 h3 k (by omega), Option.bind_some, implApart_eq _ h1 h3 k (by omega), Option.bind_some]
        by_cases h2 : apartAll (toS l) (toS l).length 0 = true
        · rw [if_pos h2, if_pos h2]
          by_cases h4 : spanN (toS l) > 120
          · rw [if_pos h4, if_pos (by omega)]
          · have e := implToC_l0 (toS l) (gapsIn_of h3) (by omega) (spanN (toS l)) 0 k [] (by omega) (by omega) rfl
            simp only [Int.natCast_zero, List.nil_append] at e
            rw [if_neg h4, if_neg (by omega), e]
        · rw [if_neg h2, if_neg h2]
      · rw [if_neg h, if_neg h]
    have hr : (if areClassesB (toS l) = true then (if apartAll (toS l) (toS l).length 0 = true then (if spanN (toS l) > 120 then ([], 3) else (turnsF (toS l) (spanN (toS l)) 0, (0 : Int))) else ([], 5)) else ([], 1)).1.length ≤ 1048576 := by
      split
      · split
        · split
          · simp
          · rename_i h4
            rw [turnsF_length]
            omega
        · simp
      · simp
    generalize (if areClassesB (toS l) = true then (if apartAll (toS l) (toS l).length 0 = true then (if spanN (toS l) > 120 then ([], 3) else (turnsF (toS l) (spanN (toS l)) 0, (0 : Int))) else ([], 5)) else ([], 1)) = r at hS hI hr
    obtain ⟨r0, r1⟩ := r
    simp only at hr
    simp (disch := omega) only [Option.bind_some, hS, hI, if_true, bne_self_eq_false, eqInt64S_self, Bool.false_eq_true, if_false, markInt64S_eq, heldInt64S_eq, not_neg, toClassS_eq, eqToS_self, toS_length, markToS_eq]
    simp only [laws_FnExactTurnsOfClasses.j0]
    simp (disch := omega) only [Option.bind_some, hS, hI, if_true, bne_self_eq_false, eqInt64S_self, Bool.false_eq_true, if_false, markInt64S_eq, heldInt64S_eq, not_neg, toClassS_eq, eqToS_self, toS_length, markToS_eq]
    simp only [laws_FnExactTurnsOfClasses.j1]
    simp (disch := omega) only [Option.bind_some, hS, hI, if_true, bne_self_eq_false, eqInt64S_self, Bool.false_eq_true, if_false, markInt64S_eq, heldInt64S_eq, not_neg, toClassS_eq, eqToS_self, toS_length, markToS_eq]
    simp only [laws_FnExactTurnsOfClasses.j2]
    simp (disch := omega) only [Option.bind_some, hS, hI, if_true, bne_self_eq_false, eqInt64S_self, Bool.false_eq_true, if_false, markInt64S_eq, heldInt64S_eq, not_neg, toClassS_eq, eqToS_self, toS_length, markToS_eq]
  · rw [szClassS_big l (maxLen_le hml) hll, Option.bind_some, if_pos (by omega)]
end Go.Proofs.Ytnmcglnkifkpnaa.Pure
