/- For every list of turns and every number: the program's GapsServed answers as the reference's does, leaves its argument as it was, and shares no memory. -/
import Derived.Test.YtcjcocffhljggaaQG
import Derived.Test.YtcjcocffhljggaaQH
import Derived.Test.YtcjcocffhljggaaX4
import Derived.Test.YtcjcocffhljggaaX7
import Derived.Test.YtcjcocffhljggaaX17
import Derived.Test.YtcjcocffhljggaaX18
import Derived.Test.YtcjcocffhljggaaX19
namespace Go.Proofs.Ytcjcocffhljggaa.Pure
set_option linter.unusedVariables false
set_option linter.unusedSimpArgs false
open Go.RowKit Go.Proofs.Ytcjcocffhljggaa.X Go.Proofs.YtcjcocffhljggaaW.PrintWords Go.Proofs.YtcjcocffhljggaaW.PrintLast
def gapsL (l : List Int) : Nat → Nat → List Int
  | 0, _ => []
  | d + 1, i => maxL (waitsL l (i : Int)) 0 :: gapsL l d (i + 1)
theorem gapsL_length (l : List Int) : ∀ d i, (gapsL l d i).length = d
  | 0, _ => rfl
  | d + 1, i => by simp [gapsL, gapsL_length l d (i + 1)]
def gsOf (G : List Int) : List Int × Int := if (0 : Int) ∈ G then ([], 4) else if isTasksB G = true then (G, 0) else ([], 3)
def gsR (l : List Int) (n : Nat) : List Int × Int := gsOf (gapsL l n 0)
theorem specGS_l0 (l : List Int) (hl : l.length ≤ 1048576) (n : Nat) (hn : n ≤ 8) : ∀ (d i k : Nat) (out : List Int), i + d = n → d + l.length + 20 < k → out.length = i → (0 : Int) ∉ out → spec_GapsServed.l0 k l (n : Int) (i : Int) out = some (gsOf (out ++ gapsL l d i)) := by
  intro d
  induction d with
  | zero =>
    intro i k out hi hk ho hz
    obtain ⟨k, rfl⟩ : ∃ m, k = m + 1 := ⟨k - 1, by omega⟩
    simp only [spec_GapsServed.l0]
    rw [if_neg (by omega), l01Is_eq out (by omega) k (by omega), Option.bind_some, show gapsL l 0 i = [] from rfl, List.append_nil]
    unfold gsOf
    rw [if_neg hz]
    by_cases h : isTasksB out = true
    · rw [if_pos h, if_pos h]
    · rw [if_neg h, if_neg h]
  | succ d ih =>
    intro i k out hi hk ho hz
    obtain ⟨k, rfl⟩ : ∃ m, k = m + 1 := ⟨k - 1, by omega⟩
    simp only [spec_GapsServed.l0]
    rw [if_pos (by omega), l01Greatest_eq l _ hl k (by omega), Option.bind_some, wrap_succ (n := n) (by omega) (by omega), show gapsL l (d + 1) i = maxL (waitsL l (i : Int)) 0 :: gapsL l d (i + 1) from rfl]
    by_cases h : maxL (waitsL l (i : Int)) 0 = 0
    · rw [if_pos h, h]
      unfold gsOf
      rw [if_pos (by simp)]
    · rw [if_neg h, if_pos (by omega), ih (i + 1) k _ (by omega) (by omega) (by simp [ho]) (by
        intro z
        rcases List.mem_append.1 z with z | z
        · exact hz z
        · simp only [List.mem_singleton] at z
          exact h z.symm), List.append_assoc]
      rfl
theorem index_l0 (l : List Int) (x : Int) (hl : l.length ≤ 1048576) : ∀ (d i k : Nat), i + d = l.length → d < k → ∃ r : Int, slices_Index_int64_int64.l0 k l x (l.length : Int) (i : Int) = some r ∧ (0 ≤ r ↔ x ∈ l.drop i) := by
  intro d
  induction d with
  | zero =>
    intro i k hi hk
    obtain ⟨k, rfl⟩ : ∃ m, k = m + 1 := ⟨k - 1, by omega⟩
    refine ⟨-1, ?_, ?_⟩
    · simp only [slices_Index_int64_int64.l0]
      rw [if_neg (by omega)]
    · rw [List.drop_of_length_le (by omega)]
      simp
  | succ d ih =>
    intro i k hi hk
    obtain ⟨k, rfl⟩ : ∃ m, k = m + 1 := ⟨k - 1, by omega⟩
    simp only [slices_Index_int64_int64.l0]
    rw [if_pos (by omega), if_pos (by omega), if_pos (by omega), wrap_succ (n := l.length) (by omega) (by omega), drop_rd l i (by omega)]
    by_cases h : x = rd l (i : Int)
    · rw [if_pos h]
      exact ⟨(i : Int), rfl, ⟨fun _ => by rw [h]; exact List.mem_cons_self, fun _ => by omega⟩⟩
    · rw [if_neg h]
      obtain ⟨r, e, hr⟩ := ih (i + 1) k (by omega) (by omega)
      refine ⟨r, e, ?_⟩
      rw [hr, List.mem_cons]
      exact ⟨.inr, fun z => z.resolve_left h⟩
theorem contains_eq (l : List Int) (x : Int) (hl : l.length ≤ 1048576) (k : Nat) (hk : l.length < k) : slices_Contains_int64_int64.f k l x = some (decide (x ∈ l)) := by
  unfold slices_Contains_int64_int64.f slices_Index_int64_int64.f
  obtain ⟨r, e, hr⟩ := index_l0 l x hl l.length 0 k (by omega) hk
  simp only [Int.natCast_zero, List.drop_zero] at e hr
  rw [e, Option.bind_some]
  congr 1
  exact decide_eq_decide.mpr hr
theorem implGS_l0 (l : List Int) (hl : l.length ≤ 1048576) (n : Nat) (hn : n ≤ 8) : ∀ (d i k : Nat) (out : List Int), i + d = n → d + 2 * l.length + 20 < k → out.length = i → impl_GapsServed.l0 k l (n : Int) (i : Int) out = some (gsOf (out ++ gapsL l d i)) := by
  intro d
  induction d with
  | zero =>
    intro i k out hi hk ho
    obtain ⟨k, rfl⟩ : ∃ m, k = m + 1 := ⟨k - 1, by omega⟩
    simp only [impl_GapsServed.l0]
    rw [if_neg (by omega), contains_eq out 0 (by omega) k (by omega), Option.bind_some, show gapsL l 0 i = [] from rfl, List.append_nil]
    unfold gsOf
    by_cases h : (0 : Int) ∈ out
    · rw [if_pos (by simpa using h), if_pos h]
    · rw [if_neg (by simpa using h), if_neg h, impl_IsTasks.f, Option.bind_some]
      by_cases h2 : isTasksB out = true
      · rw [if_pos h2, if_pos h2]
      · rw [if_neg h2, if_neg h2]
  | succ d ih =>
    intro i k out hi hk ho
    obtain ⟨k, rfl⟩ : ∃ m, k = m + 1 := ⟨k - 1, by omega⟩
    have hw := waitsL_length l (i : Int)
    simp only [impl_GapsServed.l0]
    rw [show gapsL l (d + 1) i = maxL (waitsL l (i : Int)) 0 :: gapsL l d (i + 1) from rfl]
    rw [if_pos (by omega), waits_eq l _ hl k (by omega), Option.bind_some, greatest_eq _ (by omega) k (by omega), Option.bind_some, if_pos (by omega), wrap_succ (n := n) (by omega) (by omega), ih (i + 1) k _ (by omega) (by omega) (by simp [ho]), List.append_assoc]
    rfl
theorem FnExactGapsServed : laws_FnExactGapsServed.Pure := by
  intro l n hml hyl hwl hwn
  refine ⟨4000010, ?_⟩
  unfold laws_FnExactGapsServed.f
  by_cases hll : l.length ≤ 1048576
  · rw [if_neg (by omega)]
    have hS : ∀ k, 3000000 < k → spec_GapsServed.f k l n = some (if withinB n 1 8 = true then (if areTurnsB l n = true then gsR l n.toNat else ([], 2)) else ([], 2)) := by
      intro k hk
      unfold spec_GapsServed.f
      obtain ⟨k, rfl⟩ : ∃ m, k = m + 1 := ⟨k - 1, by omega⟩
      rw [l01In_f, Option.bind_some]
      by_cases h : withinB n 1 8 = true
      · rw [if_pos h, if_pos h, l01Turns_eq l n (by omega) _ (by omega), Option.bind_some]
        simp only [spec_GapsServed.j0]
        have hn := h
        unfold withinB at hn
        simp only [Bool.and_eq_true, decide_eq_true_eq] at hn
        by_cases h2 : areTurnsB l n = true
        · have := specGS_l0 l hll n.toNat (by omega) n.toNat 0 k [] (by omega) (by omega) rfl (by simp)
          simp only [Int.natCast_zero, List.nil_append] at this
          rw [show ((n.toNat : Nat) : Int) = n by omega] at this
          rw [if_pos h2, h2, if_neg (by simp), this]
          rfl
        · simp only [Bool.not_eq_true] at h2
          rw [h2]
          simp
      · rw [if_neg h, if_neg h]
        simp [spec_GapsServed.j0]
    have hI : ∀ k, 3000000 < k → impl_GapsServed.f k l n = some (if withinB n 1 8 = true then (if areTurnsB l n = true then gsR l n.toNat else ([], 2)) else ([], 2)) := by
      intro k hk
      unfold impl_GapsServed.f
      obtain ⟨k, rfl⟩ : ∃ m, k = m + 1 := ⟨k - 1, by omega⟩
      rw [within_f, Option.bind_some]
      by_cases h : withinB n 1 8 = true
      · rw [if_pos h, if_pos h, impl_areTurns.f, Option.bind_some]
        simp only [impl_GapsServed.j0]
        have hn := h
        unfold withinB at hn
        simp only [Bool.and_eq_true, decide_eq_true_eq] at hn
        by_cases h2 : areTurnsB l n = true
        · have hlen := areTurns_len h2
          have := implGS_l0 l hll n.toNat (by omega) n.toNat 0 k [] (by omega) (by omega) rfl
          simp only [Int.natCast_zero, List.nil_append] at this
          rw [show ((n.toNat : Nat) : Int) = n by omega] at this
          rw [if_pos h2, h2, if_neg (by simp), this]
          rfl
        · simp only [Bool.not_eq_true] at h2
          rw [h2]
          simp
      · rw [if_neg h, if_neg h]
        simp [impl_GapsServed.j0]
    have hr : (if withinB n 1 8 = true then (if areTurnsB l n = true then gsR l n.toNat else ([], 2)) else ([], 2)).1.length ≤ 1048576 := by
      split
      · split
        · unfold gsR gsOf
          split
          · simp
          · split
            · rename_i h _ _ _
              unfold withinB at h
              simp only [Bool.and_eq_true, decide_eq_true_eq] at h
              rw [show (gapsL l n.toNat 0, (0 : Int)).1 = gapsL l n.toNat 0 from rfl, gapsL_length]
              omega
            · simp
        · simp
      · simp
    generalize (if withinB n 1 8 = true then (if areTurnsB l n = true then gsR l n.toNat else ([], 2)) else ([], 2)) = r at hS hI hr
    obtain ⟨r0, r1⟩ := r
    simp only at hr
    simp (disch := omega) only [toInt64S_eq, Option.bind_some, hS, hI, if_true, bne_self_eq_false, eqInt64S_self, Bool.false_eq_true, if_false, markInt64S_eq, heldInt64S_eq, not_neg, toTasks_eq, eqTasks_self, markTasks_eq, heldTasks_eq]
    simp only [laws_FnExactGapsServed.j0]
    simp (disch := omega) only [toInt64S_eq, Option.bind_some, hS, hI, if_true, bne_self_eq_false, eqInt64S_self, Bool.false_eq_true, if_false, markInt64S_eq, heldInt64S_eq, not_neg, toTasks_eq, eqTasks_self, markTasks_eq, heldTasks_eq]
    simp only [laws_FnExactGapsServed.j1]
    simp (disch := omega) only [toInt64S_eq, Option.bind_some, hS, hI, if_true, bne_self_eq_false, eqInt64S_self, Bool.false_eq_true, if_false, markInt64S_eq, heldInt64S_eq, not_neg, toTasks_eq, eqTasks_self, markTasks_eq, heldTasks_eq]
    simp only [laws_FnExactGapsServed.j2]
    simp (disch := omega) only [toInt64S_eq, Option.bind_some, hS, hI, if_true, bne_self_eq_false, eqInt64S_self, Bool.false_eq_true, if_false, markInt64S_eq, heldInt64S_eq, not_neg, toTasks_eq, eqTasks_self, markTasks_eq, heldTasks_eq]
  · rw [if_pos (by omega)]
end Go.Proofs.Ytcjcocffhljggaa.Pure
