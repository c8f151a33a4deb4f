/- For every list of whole numbers: the program's ReverseTurns answers as the reference's does, leaves its argument as it was, and shares no memory. -/
import Derived.Test.YtndbfmbejopkkaaQB
import Derived.Test.YtndbfmbejopkkaaX16
import Derived.Test.YtndbfmbejopkkaaX19
import Derived.Test.YtndbfmbejopkkaaX20
import Derived.Test.YtndbfmbejopkkaaX21
namespace Go.Proofs.Ytndbfmbejopkkaa.Pure
set_option linter.unusedVariables false
set_option linter.unusedSimpArgs false
open Go.RowKit Go.Proofs.Ytndbfmbejopkkaa.X Go.Proofs.YtndbfmbejopkkaaW.PrintWords Go.Proofs.YtndbfmbejopkkaaW.PrintLast
theorem rd_set (x : List Int) (i p : Nat) (c : Int) (hi : i < x.length) (hp : p < x.length) : rd (x.set i c) (p : Int) = if p = i then c else rd x (p : Int) := by
  rw [rd_get _ p (by rw [List.length_set]; exact hp), rd_get x p hp, List.getElem_set]
  by_cases h : p = i
  · rw [if_pos h, if_pos h.symm]
  · rw [if_neg h, if_neg (fun e => h e.symm)]
theorem ext_rd (x y : List Int) (hl : x.length = y.length) (h : ∀ p : Nat, p < x.length → rd x (p : Int) = rd y (p : Int)) : x = y := by
  refine List.ext_getElem hl fun p h1 h2 => ?_
  have := h p h1
  rw [rd_get x p h1, rd_get y p h2] at this
  exact this
theorem rd_reverse (l : List Int) (p : Nat) (h : p < l.length) : rd l.reverse (p : Int) = rd l ((l.length - 1 - p : Nat) : Int) := by
  rw [rd_get _ p (by rw [List.length_reverse]; exact h), rd_get l _ (by omega), List.getElem_reverse]
theorem reverse_l0 (l : List Int) (hm : l.length ≤ 1048576) : ∀ (d i k : Nat) (x : List Int), 2 * i + d = l.length + 1 → d < k → x.length = l.length →
    (∀ p : Nat, p < l.length → rd x (p : Int) = if p < i ∨ l.length - 1 - p < i then rd l ((l.length - 1 - p : Nat) : Int) else rd l (p : Int)) → slices_Reverse_int64_int64.l0 k x (i : Int) ((l.length : Int) - 1 - (i : Int)) = some l.reverse := by
  intro d
  induction d using Nat.strongRecOn with
  | _ d ih =>
    intro i k x hi hk hx hinv
    obtain ⟨k, rfl⟩ : ∃ m, k = m + 1 := ⟨k - 1, by omega⟩
    simp only [slices_Reverse_int64_int64.l0]
    by_cases hlt : (i : Int) < (l.length : Int) - 1 - (i : Int)
    · have hj : (l.length : Int) - 1 - (i : Int) = ((l.length - 1 - i : Nat) : Int) := by omega
      rw [if_pos hlt, if_pos (by omega), if_pos (by omega), if_pos (by omega), if_pos (by omega), wrap_succ (n := l.length) (by omega) (by omega), wrap64_id (x := (l.length : Int) - 1 - (i : Int) - 1) (by omega) (by omega), hj, toNat_nat, toNat_nat]
      have e := ih (d - 2) (by omega) (i + 1) k ((x.set i (rd x ((l.length - 1 - i : Nat) : Int))).set (l.length - 1 - i) (rd x (i : Int))) (by omega) (by omega) (by rw [List.length_set, List.length_set]; exact hx) (by
        intro p hp
        rw [rd_set _ _ p _ (by rw [List.length_set]; omega) (by rw [List.length_set]; omega), rd_set _ _ p _ (by omega) (by omega)]
        have h1 := hinv p hp
        have h2 := hinv i (by omega)
        have h3 := hinv (l.length - 1 - i) (by omega)
        rw [if_neg (by omega)] at h2 h3
        by_cases e1 : p = l.length - 1 - i
        · rw [if_pos e1, if_pos (by omega), h2, e1]
          rw [show l.length - 1 - (l.length - 1 - i) = i by omega]
        · rw [if_neg e1]
          by_cases e2 : p = i
          · rw [if_pos e2, if_pos (by omega), h3, e2]
          · rw [if_neg e2, h1]
            by_cases e3 : p < i ∨ l.length - 1 - p < i
            · rw [if_pos e3, if_pos (by omega)]
            · rw [if_neg e3, if_neg (by omega)])
      rw [show ((l.length - 1 - i : Nat) : Int) - 1 = (l.length : Int) - 1 - ((i + 1 : Nat) : Int) by omega]
      exact e
    · rw [if_neg hlt]
      congr 1
      refine ext_rd _ _ (by rw [hx, List.length_reverse]) fun p hp => ?_
      rw [hinv p (by omega), rd_reverse l p (by omega)]
      by_cases e3 : p < i ∨ l.length - 1 - p < i
      · rw [if_pos e3]
      · rw [if_neg e3, show l.length - 1 - p = p by omega]
theorem reverse_eq (l : List Int) (hm : l.length ≤ 1048576) (k : Nat) (hk : l.length + 1 < k) : slices_Reverse_int64_int64.f k l = some l.reverse := by
  unfold slices_Reverse_int64_int64.f
  rw [wrap64_id (by omega) (by omega)]
  have := reverse_l0 l hm (l.length + 1) 0 k l (by omega) hk rfl (by
    intro p hp
    rw [if_neg (by omega)])
  simpa using this
theorem specReverse_l0 (l : List Int) (hm : l.length ≤ 1048576) : ∀ (i k : Nat) (acc : List Int), i ≤ l.length → i < k → acc.length + i ≤ l.length → spec_ReverseTurns.l0 k l acc ((i : Int) - 1) = some (acc ++ (l.take i).reverse, 0) := by
  intro i
  induction i with
  | zero =>
    intro k acc hi hk ha
    obtain ⟨k, rfl⟩ : ∃ m, k = m + 1 := ⟨k - 1, by omega⟩
    simp only [spec_ReverseTurns.l0]
    rw [if_neg (by omega)]
    simp
  | succ i ih =>
    intro k acc hi hk ha
    obtain ⟨k, rfl⟩ : ∃ m, k = m + 1 := ⟨k - 1, by omega⟩
    simp only [spec_ReverseTurns.l0]
    rw [show ((i + 1 : Nat) : Int) - 1 = (i : Int) by omega, if_pos (by omega), if_pos (by omega), if_pos (by omega), if_pos (by omega), wrap64_id (by omega) (by omega), ih k _ (by omega) (by omega) (by simp; omega), take_rd l i (by omega)]
    simp
theorem FnExactReverseTurns : laws_FnExactReverseTurns.Pure := by
  intro l hm hy hw
  refine ⟨4000010, ?_⟩
  unfold laws_FnExactReverseTurns.f
  by_cases hl : l.length ≤ 1048576
  · rw [if_neg (by omega)]
    have hS : ∀ k, 3000000 < k → spec_ReverseTurns.f k l = some (if areTurnsB l 8 = true then (l.reverse, (0 : Int)) else ([], 2)) := by
      intro k hk
      unfold spec_ReverseTurns.f
      rw [l01Turns_eq l 8 (by omega) _ (by omega), Option.bind_some]
      by_cases h : areTurnsB l 8 = true
      · rw [if_pos h, if_pos h, wrap64_id (by omega) (by omega), specReverse_l0 l hl l.length k [] (by omega) (by omega) (by simp), List.take_length]
        rfl
      · rw [if_neg h, if_neg h]
    have hI : ∀ k, 3000000 < k → impl_ReverseTurns.f k l = some (if areTurnsB l 8 = true then (l.reverse, (0 : Int)) else ([], 2)) := by
      intro k hk
      unfold impl_ReverseTurns.f
      rw [impl_areTurns.f, Option.bind_some]
      by_cases h : areTurnsB l 8 = true
      · rw [if_pos h, if_pos h, slices_Clone_int64_int64.f, if_pos (by omega), Option.bind_some, reverse_eq l hl _ (by omega), Option.bind_some]
      · rw [if_neg h, if_neg h]
    have hr : (if areTurnsB l 8 = true then (l.reverse, (0 : Int)) else ([], 2)).1.length ≤ 1048576 := by
      split
      · simpa using hl
      · simp
    generalize (if areTurnsB l 8 = true then (l.reverse, (0 : Int)) else ([], 2)) = r at hS hI hr
    obtain ⟨r, c⟩ := r
    simp only at hr
    simp (disch := omega) only [toInt64S_eq, Option.bind_some, hS, hI, if_true, bne_self_eq_false, eqInt64S_self, markInt64S_eq, heldInt64S_eq, not_neg, Bool.false_eq_true, if_false]
    simp only [laws_FnExactReverseTurns.j0]
    simp (disch := omega) only [toInt64S_eq, Option.bind_some, hS, hI, if_true, bne_self_eq_false, eqInt64S_self, markInt64S_eq, heldInt64S_eq, not_neg, Bool.false_eq_true, if_false]
    simp only [laws_FnExactReverseTurns.j1]
    simp (disch := omega) only [toInt64S_eq, Option.bind_some, hS, hI, if_true, bne_self_eq_false, eqInt64S_self, markInt64S_eq, heldInt64S_eq, not_neg, Bool.false_eq_true, if_false]
    simp only [laws_FnExactReverseTurns.j2]
    simp (disch := omega) only [toInt64S_eq, Option.bind_some, hS, hI, if_true, bne_self_eq_false, eqInt64S_self, markInt64S_eq, heldInt64S_eq, not_neg, Bool.false_eq_true, if_false]
  · rw [if_pos (by omega)]
end Go.Proofs.Ytndbfmbejopkkaa.Pure
