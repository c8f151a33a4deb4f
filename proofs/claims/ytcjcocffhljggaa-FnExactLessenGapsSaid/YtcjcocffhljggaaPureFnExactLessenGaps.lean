/- For every list of gaps and every number: the program's LessenGaps answers as the reference's does, leaves its argument as it was, and shares no memory. -/
import Derived.Test.YtcjcocffhljggaaQV
import Derived.Test.YtcjcocffhljggaaQH
import Derived.Test.YtcjcocffhljggaaX4
import Derived.Test.YtcjcocffhljggaaX7
import Derived.Test.YtcjcocffhljggaaX26
import Derived.Test.YtcjcocffhljggaaX27
import Derived.Test.YtcjcocffhljggaaX28
namespace Go.Proofs.Ytcjcocffhljggaa.Pure
set_option linter.unusedVariables false
set_option linter.unusedSimpArgs false
open Go.RowKit Go.Proofs.Ytcjcocffhljggaa.X Go.Proofs.YtcjcocffhljggaaW.PrintWords Go.Proofs.YtcjcocffhljggaaW.PrintLast
/-- n doubled as long as twice it is at most g -/
def dblF : Nat → Int → Int → Int
  | 0, _, n => n
  | d + 1, g, n => if 2 * n ≤ g then dblF d g (2 * n) else n
theorem specLG_l1 (t : List Int) (x : Int) (i : Nat) (ht : t.length ≤ 8) (hi : i < t.length) (hg : rd t (i : Int) ≤ 40) (out : List Int) (ho : out.length ≤ 8) : ∀ (d k : Nat) (n : Int), rd t (i : Int) + 1 - n ≤ (d : Int) → d < k → 1 ≤ n → n ≤ 40 →
    ∃ k', k ≤ k' + d + 1 ∧ spec_l03Lessened.l1 k x (i : Int) n t out = spec_l03Lessened.l0 k' x (wrap64 ((i : Int) + 1)) t (out ++ [dblF d (rd t (i : Int)) n]) := by
  intro d
  induction d with
  | zero =>
    intro k n h hk h1 h2
    obtain ⟨k, rfl⟩ : ∃ m, k = m + 1 := ⟨k - 1, by omega⟩
    refine ⟨k, by omega, ?_⟩
    simp only [spec_l03Lessened.l1, dblF]
    rw [if_pos (by omega), if_pos (by omega), wrap64_id (x := 2 * n) (by omega) (by omega), if_neg (by omega), if_pos (by omega)]
  | succ d ih =>
    intro k n h hk h1 h2
    obtain ⟨k, rfl⟩ : ∃ m, k = m + 1 := ⟨k - 1, by omega⟩
    simp only [spec_l03Lessened.l1, dblF]
    rw [if_pos (by omega), if_pos (by omega), wrap64_id (x := 2 * n) (by omega) (by omega)]
    by_cases e : 2 * n ≤ rd t (i : Int)
    · obtain ⟨k', h3, h4⟩ := ih k (2 * n) (by omega) (by omega) (by omega) (by omega)
      refine ⟨k', by omega, ?_⟩
      rw [if_pos e, if_pos e, h4]
    · refine ⟨k, by omega, ?_⟩
      rw [if_neg e, if_neg e, if_pos (by omega)]
theorem specLG_l0 (t : List Int) (x : Int) (ht : t.length ≤ 8) (hg : ∀ g ∈ t, g ≤ 40) (hx : 1 ≤ x ∧ x ≤ 40) : ∀ (d i k : Nat) (out : List Int), i + d = t.length → 50 * d + 1 < k → out.length = i → spec_l03Lessened.l0 k x (i : Int) t out = some (if (t.drop i).any (fun g => decide (g < x)) = true then ([], false) else (out ++ (t.drop i).map fun g => dblF 41 g x, true)) := by
  intro d
  induction d with
  | zero =>
    intro i k out hi hk ho
    obtain ⟨k, rfl⟩ : ∃ m, k = m + 1 := ⟨k - 1, by omega⟩
    simp only [spec_l03Lessened.l0]
    rw [if_neg (by omega), List.drop_of_length_le (by omega)]
    simp
  | succ d ih =>
    intro i k out hi hk ho
    obtain ⟨k, rfl⟩ : ∃ m, k = m + 1 := ⟨k - 1, by omega⟩
    have hgi := hg _ (rd_in t i (by omega))
    simp only [spec_l03Lessened.l0]
    rw [if_pos (by omega), if_pos (by omega), drop_rd t i (by omega), List.any_cons, List.map_cons]
    by_cases e : rd t (i : Int) < x
    · rw [if_pos e, show (decide (rd t (i : Int) < x)) = true from decide_eq_true e, Bool.true_or, if_pos rfl]
    · obtain ⟨k', h3, h4⟩ := specLG_l1 t x i ht (by omega) hgi out (by omega) 41 k x (by omega) (by omega) hx.1 hx.2
      rw [if_neg e, show (decide (rd t (i : Int) < x)) = false from decide_eq_false e, Bool.false_or, h4, wrap_succ (n := t.length) (by omega) (by omega), ih (i + 1) k' _ (by omega) (by omega) (by simp [ho]), List.append_assoc]
      rfl
theorem implLG_l1 (t : List Int) (x : Int) (i : Nat) (g : Int) (ht : t.length ≤ 8) (hg : g ≤ 40) (out : List Int) (ho : out.length ≤ 8) : ∀ (d k : Nat) (n : Int), g + 1 - n ≤ (d : Int) → d < k → 1 ≤ n → n ≤ 40 →
    ∃ k', k ≤ k' + d + 1 ∧ impl_Tasks_lessened.l1 k x g n t (t.length : Int) (i : Int) out = impl_Tasks_lessened.l0 k' x t (t.length : Int) (wrap64 ((i : Int) + 1)) (out ++ [dblF d g n]) := by
  intro d
  induction d with
  | zero =>
    intro k n h hk h1 h2
    obtain ⟨k, rfl⟩ : ∃ m, k = m + 1 := ⟨k - 1, by omega⟩
    refine ⟨k, by omega, ?_⟩
    simp only [impl_Tasks_lessened.l1, dblF]
    rw [wrap64_id (x := 2 * n) (by omega) (by omega), if_neg (by omega), if_pos (by omega)]
  | succ d ih =>
    intro k n h hk h1 h2
    obtain ⟨k, rfl⟩ : ∃ m, k = m + 1 := ⟨k - 1, by omega⟩
    simp only [impl_Tasks_lessened.l1, dblF]
    rw [wrap64_id (x := 2 * n) (by omega) (by omega), wrap64_id (x := n * 2) (by omega) (by omega), Int.mul_comm n 2]
    by_cases e : 2 * n ≤ g
    · obtain ⟨k', h3, h4⟩ := ih k (2 * n) (by omega) (by omega) (by omega) (by omega)
      refine ⟨k', by omega, ?_⟩
      rw [if_pos e, if_pos e, h4]
    · refine ⟨k, by omega, ?_⟩
      rw [if_neg e, if_neg e, if_pos (by omega)]
theorem implLG_l0 (t : List Int) (x : Int) (ht : t.length ≤ 8) (hg : ∀ g ∈ t, g ≤ 40) (hx : 1 ≤ x ∧ x ≤ 40) : ∀ (d i k : Nat) (out : List Int), i + d = t.length → 50 * d + 1 < k → out.length = i → impl_Tasks_lessened.l0 k x t (t.length : Int) (i : Int) out = some (out ++ (t.drop i).map fun g => dblF 41 g x) := by
  intro d
  induction d with
  | zero =>
    intro i k out hi hk ho
    obtain ⟨k, rfl⟩ : ∃ m, k = m + 1 := ⟨k - 1, by omega⟩
    simp only [impl_Tasks_lessened.l0]
    rw [if_neg (by omega), List.drop_of_length_le (by omega)]
    simp
  | succ d ih =>
    intro i k out hi hk ho
    obtain ⟨k, rfl⟩ : ∃ m, k = m + 1 := ⟨k - 1, by omega⟩
    have hgi := hg _ (rd_in t i (by omega))
    obtain ⟨k', h3, h4⟩ := implLG_l1 t x i _ ht hgi out (by omega) 41 k x (by omega) (by omega) hx.1 hx.2
    simp only [impl_Tasks_lessened.l0]
    rw [if_pos (by omega), if_pos (by omega), if_pos (by omega), h4, wrap_succ (n := t.length) (by omega) (by omega), ih (i + 1) k' _ (by omega) (by omega) (by simp [ho]), drop_rd t i (by omega), List.map_cons, List.append_assoc]
    rfl
def minL (l : List Int) (a : Int) : Int := l.foldl mn a
theorem mn_or (a b : Int) : (mn a b = a ∧ a ≤ b) ∨ (mn a b = b ∧ b ≤ a) := by
  unfold mn
  split <;> omega
theorem minL_lt (x : Int) : ∀ (l : List Int) (a : Int), minL l a < x ↔ a < x ∨ l.any (fun g => decide (g < x)) = true
  | [], a => by simp [minL]
  | y :: l, a => by
    have := minL_lt x l (mn a y)
    rw [show minL (y :: l) a = minL l (mn a y) from rfl, this, List.any_cons, Bool.or_eq_true, decide_eq_true_eq]
    rcases mn_or a y with h | h
    · rw [h.1]
      constructor
      · rintro (e | e)
        · exact .inl e
        · exact .inr (.inr e)
      · rintro (e | e | e)
        · exact .inl e
        · exact .inl (by omega)
        · exact .inr e
    · rw [h.1]
      constructor
      · rintro (e | e)
        · exact .inr (.inl e)
        · exact .inr (.inr e)
      · rintro (e | e | e)
        · exact .inl (by omega)
        · exact .inl e
        · exact .inr e
theorem min_l0 (l : List Int) (hl : l.length ≤ 1048576) : ∀ (d i k : Nat) (a : Int), i + d = l.length → d < k → slices_Min_int64_int64.l0 k l a (i : Int) = some (minL (l.drop i) a) := by
  intro d
  induction d with
  | zero =>
    intro i k a hi hk
    obtain ⟨k, rfl⟩ : ∃ m, k = m + 1 := ⟨k - 1, by omega⟩
    simp only [slices_Min_int64_int64.l0]
    rw [if_neg (by omega), List.drop_of_length_le (by omega)]
    rfl
  | succ d ih =>
    intro i k a hi hk
    obtain ⟨k, rfl⟩ : ∃ m, k = m + 1 := ⟨k - 1, by omega⟩
    simp only [slices_Min_int64_int64.l0]
    rw [if_pos (by omega), if_pos (by omega), wrap_succ (n := l.length) (by omega) (by omega), ih (i + 1) k _ (by omega) (by omega), drop_rd l i (by omega)]
    rfl
theorem min_eq (l : List Int) (hl : l.length ≤ 1048576) (h1 : 1 ≤ l.length) (k : Nat) (hk : l.length < k) : slices_Min_int64_int64.f k l = some (minL (l.drop 1) (rd l 0)) := by
  unfold slices_Min_int64_int64.f
  have e := min_l0 l hl (l.length - 1) 1 k (rd l 0) (by omega) (by omega)
  simp only [Int.natCast_one] at e
  rw [if_neg (by omega), if_pos (by omega), e]
theorem FnExactLessenGaps : laws_FnExactLessenGaps.Pure := by
  intro t x hmt hwt hwx
  refine ⟨4000010, ?_⟩
  unfold laws_FnExactLessenGaps.f
  by_cases hlt : t.length ≤ 1048576
  · rw [szTasks_ok t hlt, Option.bind_some, if_neg (by omega)]
    have hS : ∀ k, 3000000 < k → spec_LessenGaps.f k t x = some (if isTasksB t = true then (if withinB x 1 40 = true then (if t.any (fun g => decide (g < x)) = true then ([], 5) else (t.map fun g => dblF 41 g x, (0 : Int))) else ([], 2)) else ([], 1)) := by
      intro k hk
      unfold spec_LessenGaps.f
      rw [l01Is_eq t (by omega) k (by omega), Option.bind_some]
      by_cases h1 : isTasksB t = true
      · rw [if_pos h1, if_pos h1, l01In_f, Option.bind_some]
        by_cases h2 : withinB x 1 40 = true
        · have hx := h2
          unfold withinB at hx
          simp only [Bool.and_eq_true, decide_eq_true_eq] at hx
          have h3 := isTasks_len h1
          have := specLG_l0 t x (by omega) (fun g hg => (isTasks_mem h1 g hg).2) hx t.length 0 k [] (by omega) (by omega) rfl
          simp only [Int.natCast_zero, List.nil_append, List.drop_zero] at this
          rw [if_pos h2, if_pos h2, spec_l03Lessened.f, this, Option.bind_some]
          by_cases h4 : t.any (fun g => decide (g < x)) = true
          · rw [if_pos h4, if_pos h4, if_neg (by simp)]
          · rw [if_neg h4, if_neg h4, if_pos rfl]
        · rw [if_neg h2, if_neg h2]
      · rw [if_neg h1, if_neg h1]
    have hI : ∀ k, 3000000 < k → impl_LessenGaps.f k t x = some (if isTasksB t = true then (if withinB x 1 40 = true then (if t.any (fun g => decide (g < x)) = true then ([], 5) else (t.map fun g => dblF 41 g x, (0 : Int))) else ([], 2)) else ([], 1)) := by
      intro k hk
      unfold impl_LessenGaps.f
      rw [within_f, Option.bind_some, tasksCode_f, Option.bind_some]
      by_cases h1 : isTasksB t = true
      · rw [if_pos h1, if_pos h1]
        by_cases h2 : withinB x 1 40 = true
        · have hx := h2
          unfold withinB at hx
          simp only [Bool.and_eq_true, decide_eq_true_eq] at hx
          have h3 := isTasks_len h1
          have := implLG_l0 t x (by omega) (fun g hg => (isTasks_mem h1 g hg).2) hx t.length 0 k [] (by omega) (by omega) rfl
          simp only [Int.natCast_zero, List.nil_append, List.drop_zero] at this
          have hm := minL_lt x (t.drop 1) (rd t 0)
          have hd := drop_rd t 0 (by omega)
          simp only [Int.natCast_zero, List.drop_zero, Nat.zero_add] at hd
          have ha : t.any (fun g => decide (g < x)) = (decide (rd t 0 < x) || (t.drop 1).any (fun g => decide (g < x))) := by
            rw [show t.any (fun g => decide (g < x)) = (rd t 0 :: t.drop 1).any (fun g => decide (g < x)) by rw [← hd], List.any_cons]
          rw [if_pos h2, if_pos h2, if_pos rfl, min_eq t hlt (by omega) k (by omega), Option.bind_some]
          by_cases h4 : t.any (fun g => decide (g < x)) = true
          · rw [if_pos h4, if_pos (hm.mpr (by rw [ha, Bool.or_eq_true, decide_eq_true_eq] at h4; exact h4))]
          · rw [if_neg h4, if_neg (fun z => h4 (by rw [ha, Bool.or_eq_true, decide_eq_true_eq]; exact hm.mp z)), impl_Tasks_lessened.f, this, Option.bind_some]
        · rw [if_neg h2, if_neg h2, if_neg (by omega)]
      · rw [if_neg h1, if_neg h1, if_neg (by omega)]
    have hr : (if isTasksB t = true then (if withinB x 1 40 = true then (if t.any (fun g => decide (g < x)) = true then ([], 5) else (t.map fun g => dblF 41 g x, (0 : Int))) else ([], 2)) else ([], 1)).1.length ≤ 1048576 := by
      split
      · split
        · split
          · simp
          · simpa using hlt
        · simp
      · simp
    generalize (if isTasksB t = true then (if withinB x 1 40 = true then (if t.any (fun g => decide (g < x)) = true then ([], 5) else (t.map fun g => dblF 41 g x, (0 : Int))) else ([], 2)) else ([], 1)) = r at hS hI hr
    obtain ⟨r0, r1⟩ := r
    simp only at hr
    simp (disch := omega) only [toInt64S_eq, Option.bind_some, hS, hI, if_true, bne_self_eq_false, eqInt64S_self, Bool.false_eq_true, if_false, markInt64S_eq, heldInt64S_eq, not_neg, toTasks_eq, eqTasks_self, markTasks_eq, heldTasks_eq]
    simp only [laws_FnExactLessenGaps.j0]
    simp (disch := omega) only [toInt64S_eq, Option.bind_some, hS, hI, if_true, bne_self_eq_false, eqInt64S_self, Bool.false_eq_true, if_false, markInt64S_eq, heldInt64S_eq, not_neg, toTasks_eq, eqTasks_self, markTasks_eq, heldTasks_eq]
    simp only [laws_FnExactLessenGaps.j1]
    simp (disch := omega) only [toInt64S_eq, Option.bind_some, hS, hI, if_true, bne_self_eq_false, eqInt64S_self, Bool.false_eq_true, if_false, markInt64S_eq, heldInt64S_eq, not_neg, toTasks_eq, eqTasks_self, markTasks_eq, heldTasks_eq]
    simp only [laws_FnExactLessenGaps.j2]
    simp (disch := omega) only [toInt64S_eq, Option.bind_some, hS, hI, if_true, bne_self_eq_false, eqInt64S_self, Bool.false_eq_true, if_false, markInt64S_eq, heldInt64S_eq, not_neg, toTasks_eq, eqTasks_self, markTasks_eq, heldTasks_eq]
  · rw [szTasks_big t (maxLen_le hmt) hlt, Option.bind_some, if_pos (by omega)]
end Go.Proofs.Ytcjcocffhljggaa.Pure
