/- For every list of gaps and every two numbers: the program's FoldTasks answers as the reference's does, leaves its argument as it was, and shares no memory. -/
import Derived.Test.YtjaanhnmgipmeaaQT
import Derived.Test.YtjaanhnmgipmeaaQV
import Derived.Test.YtjaanhnmgipmeaaQH
import Derived.Test.YtjaanhnmgipmeaaX1
import Derived.Test.YtjaanhnmgipmeaaX2
import Derived.Test.YtjaanhnmgipmeaaX3
import Derived.Test.YtjaanhnmgipmeaaX4
import Derived.Test.YtjaanhnmgipmeaaX5
import Derived.Test.YtjaanhnmgipmeaaX7
namespace Go.Proofs.Ytjaanhnmgipmeaa.Pure
set_option linter.unusedVariables false
set_option linter.unusedSimpArgs false
open Go.RowKit Go.Proofs.Ytjaanhnmgipmeaa.X Go.Proofs.YtjaanhnmgipmeaaW.PrintWords Go.Proofs.YtjaanhnmgipmeaaW.PrintLast
def foldV (t : List Int) (i j : Int) : Int := wrap64 (Int.tdiv (mn (rd t i) (rd t j)) 2)
def foldR (t : List Int) (i j : Int) : List Int × Int :=
  if isTasksB t = true then (if 0 ≤ i ∧ i < j ∧ j < (t.length : Int) then (if rd t i = 1 ∨ rd t j = 1 then ([], 5) else ((t.take j.toNat ++ t.drop (j.toNat + 1)).set i.toNat (foldV t i j), 0)) else ([], 2)) else ([], 1)
theorem own_eq (l : List Int) (h : l.length < 17592186044416) : spec_l01Own.f l = some l := by
  unfold spec_l01Own.f
  rw [Option.bind_some, if_pos (by rw [List.length_nil]; omega), List.nil_append]
theorem within_iff (a lo hi : Int) : withinB a lo hi = true ↔ lo ≤ a ∧ a ≤ hi := by
  unfold withinB
  simp only [Bool.and_eq_true, decide_eq_true_eq]
theorem isTask_eq (t : List Int) (i : Int) (h : t.length ≤ 1048576) : impl_Tasks_isTask.f t i = some (withinB i 0 ((t.length : Int) - 1)) := by
  rw [impl_Tasks_isTask.f, impl_Tasks_many.f, impl_length_int64.f, Option.bind_some, Option.bind_some, within_f, Option.bind_some, wrap64_id (x := (t.length : Int) - 1) (by omega) (by omega)]
theorem set_cut (t : List Int) (a b : Nat) (v : Int) (h : a < b) (hb : b < t.length) : (t.set a v).take b ++ (t.set a v).drop (b + 1) = (t.take b ++ t.drop (b + 1)).set a v := by
  rw [List.set_append_left _ _ (by rw [List.length_take]; omega), List.take_set, List.drop_set_of_lt (by omega)]
theorem FnExactFoldTasks : laws_FnExactFoldTasks.Pure := by
  intro t i j hmt hwt hwi hwj
  refine ⟨4000010, ?_⟩
  unfold laws_FnExactFoldTasks.f
  by_cases hlt : t.length ≤ 1048576
  · rw [szTasks_ok t hlt, Option.bind_some, if_neg (by omega)]
    have hS : ∀ k, 3000000 < k → spec_FoldTasks.f k t i j = some (foldR t i j) := by
      intro k hk
      obtain ⟨k, rfl⟩ : ∃ m, k = m + 1 := ⟨k - 1, by omega⟩
      unfold spec_FoldTasks.f foldR
      rw [l01Is_eq t (by omega) _ (by omega), Option.bind_some]
      by_cases h1 : isTasksB t = true
      · have hl := isTasks_len h1
        have w1 : wrap64 ((t.length : Int) - 1) = (t.length : Int) - 1 := wrap64_id (by omega) (by omega)
        rw [if_pos h1, if_pos h1, spec_l01K.f, Option.bind_some, l01In_f, Option.bind_some, w1]
        by_cases hi : withinB i 0 ((t.length : Int) - 1) = true
        · have hi' := (within_iff _ _ _).mp hi
          have w2 : wrap64 (i + 1) = i + 1 := wrap64_id (by omega) (by omega)
          rw [if_pos hi, Option.bind_some, w2, l01In_f, Option.bind_some, w1]
          simp only [spec_FoldTasks.j0]
          by_cases hj : withinB j (i + 1) ((t.length : Int) - 1) = true
          · have hj' := (within_iff _ _ _).mp hj
            have w3 : wrap64 (j + 1) = j + 1 := wrap64_id (by omega) (by omega)
            rw [hj, if_neg (by simp), if_pos (by omega), if_pos (by omega), if_pos (show 0 ≤ i ∧ i < j ∧ j < (t.length : Int) by omega)]
            by_cases c1 : rd t i = 1
            · rw [if_pos c1, if_pos (show rd t i = 1 ∨ rd t j = 1 from .inl c1)]
            · rw [if_neg c1, if_pos (by omega), if_pos (by omega)]
              by_cases c2 : rd t j = 1
              · rw [if_pos c2, if_pos (show rd t i = 1 ∨ rd t j = 1 from .inr c2)]
              · rw [if_neg c2, if_neg (show ¬ (rd t i = 1 ∨ rd t j = 1) from fun z => z.elim c1 c2), if_pos (by omega), own_eq _ (by rw [List.length_take]; omega), Option.bind_some, w3, if_pos (by omega), if_pos (by omega), if_pos (by rw [List.length_take, List.length_drop]; omega), Option.bind_some, show (j + 1).toNat = j.toNat + 1 by omega, if_pos (by rw [List.length_append, List.length_take, List.length_drop]; omega)]
                rfl
          · have hj' : ¬ (i + 1 ≤ j ∧ j ≤ (t.length : Int) - 1) := fun z => hj ((within_iff _ _ _).mpr z)
            rw [Bool.eq_false_iff.mpr hj, if_pos (by simp), if_neg (by omega)]
        · have hi' : ¬ (0 ≤ i ∧ i ≤ (t.length : Int) - 1) := fun z => hi ((within_iff _ _ _).mpr z)
          rw [if_neg hi]
          simp only [spec_FoldTasks.j0]
          rw [if_pos trivial, if_neg (by omega)]
      · rw [if_neg h1, if_neg h1]
    have hI : ∀ k, 3000000 < k → impl_FoldTasks.f k t i j = some (foldR t i j) := by
      intro k hk
      obtain ⟨k, rfl⟩ : ∃ m, k = m + 2 := ⟨k - 2, by omega⟩
      unfold impl_FoldTasks.f foldR
      rw [isTask_eq t i hlt, Option.bind_some]
      by_cases hi : withinB i 0 ((t.length : Int) - 1) = true
      · have hi' := (within_iff _ _ _).mp hi
        rw [if_pos hi, isTask_eq t j hlt, Option.bind_some]
        by_cases hj : withinB j 0 ((t.length : Int) - 1) = true
        · have hj' := (within_iff _ _ _).mp hj
          rw [if_pos hj, tasksCode_f, Option.bind_some]
          by_cases h1 : isTasksB t = true
          · have hl := isTasks_len h1
            rw [if_pos h1, if_pos h1]
            by_cases hij : i < j
            · have w3 : wrap64 (j + 1) = j + 1 := wrap64_id (by omega) (by omega)
              rw [decide_eq_true hij, if_pos rfl, if_pos (show 0 ≤ i ∧ i < j ∧ j < (t.length : Int) by omega)]
              simp only [impl_FoldTasks.j0]
              rw [if_pos trivial, if_pos (by omega), if_pos (by omega)]
              by_cases c1 : rd t i = 1
              · rw [if_pos c1, if_pos (show rd t i = 1 ∨ rd t j = 1 from .inl c1)]
                simp only [impl_FoldTasks.j1]
                rw [if_pos trivial]
              · rw [if_neg c1, if_pos (by omega), if_pos (by omega)]
                simp only [impl_FoldTasks.j1]
                by_cases c2 : rd t j = 1
                · rw [beq_iff_eq.mpr c2, if_pos rfl, if_pos (show rd t i = 1 ∨ rd t j = 1 from .inr c2)]
                · rw [beq_eq_false_iff_ne.mpr c2, if_neg Bool.false_ne_true, if_neg (show ¬ (rd t i = 1 ∨ rd t j = 1) from fun z => z.elim c1 c2), slices_Clone_int64_int64.f, if_pos (by omega), Option.bind_some, if_pos (by omega), if_pos (by omega), if_pos (by omega), if_pos (by omega), slices_Delete_int64_int64.f, w3, if_pos ⟨by omega, by rw [List.length_set]; omega, rfl⟩, Option.bind_some, set_cut t i.toNat j.toNat _ (by omega) (by omega)]
                  rfl
            · rw [decide_eq_false hij, if_neg Bool.false_ne_true, if_neg (by omega)]
              simp only [impl_FoldTasks.j0]
              rw [if_neg (by omega)]
          · rw [if_neg h1, if_neg h1]
            simp only [impl_FoldTasks.j0]
            rw [if_neg (by omega)]
        · have hj' : ¬ (0 ≤ j ∧ j ≤ (t.length : Int) - 1) := fun z => hj ((within_iff _ _ _).mpr z)
          rw [if_neg hj, tasksCode_f, Option.bind_some, if_neg Bool.false_ne_true, if_neg (show ¬ (0 ≤ i ∧ i < j ∧ j < (t.length : Int)) by omega)]
          by_cases h1 : isTasksB t = true
          · rw [if_pos h1, if_pos h1]
            simp only [impl_FoldTasks.j0]
            rw [if_neg (by omega)]
          · rw [if_neg h1, if_neg h1]
            simp only [impl_FoldTasks.j0]
            rw [if_neg (by omega)]
      · have hi' : ¬ (0 ≤ i ∧ i ≤ (t.length : Int) - 1) := fun z => hi ((within_iff _ _ _).mpr z)
        rw [if_neg hi, tasksCode_f, Option.bind_some, if_neg Bool.false_ne_true, if_neg (show ¬ (0 ≤ i ∧ i < j ∧ j < (t.length : Int)) by omega)]
        by_cases h1 : isTasksB t = true
        · rw [if_pos h1, if_pos h1]
          simp only [impl_FoldTasks.j0]
          rw [if_neg (by omega)]
        · rw [if_neg h1, if_neg h1]
          simp only [impl_FoldTasks.j0]
          rw [if_neg (by omega)]
    have hr : (foldR t i j).1.length ≤ 1048576 := by
      unfold foldR
      split
      · split
        · split
          · simp
          · simp only [List.length_set, List.length_append, List.length_take, List.length_drop]
            omega
        · simp
      · simp
    generalize (foldR t i j) = r at hS hI hr
    obtain ⟨r0, r1⟩ := r
    simp only at hr
    simp (disch := omega) only [toInt64S_eq, Option.bind_some, hS, hI, if_true, bne_self_eq_false, eqInt64S_self, Bool.false_eq_true, if_false, markInt64S_eq, heldInt64S_eq, not_neg, toTasks_eq, eqTasks_self, markTasks_eq, heldTasks_eq]
    simp only [laws_FnExactFoldTasks.j0]
    simp (disch := omega) only [toInt64S_eq, Option.bind_some, hS, hI, if_true, bne_self_eq_false, eqInt64S_self, Bool.false_eq_true, if_false, markInt64S_eq, heldInt64S_eq, not_neg, toTasks_eq, eqTasks_self, markTasks_eq, heldTasks_eq]
    simp only [laws_FnExactFoldTasks.j1]
    simp (disch := omega) only [toInt64S_eq, Option.bind_some, hS, hI, if_true, bne_self_eq_false, eqInt64S_self, Bool.false_eq_true, if_false, markInt64S_eq, heldInt64S_eq, not_neg, toTasks_eq, eqTasks_self, markTasks_eq, heldTasks_eq]
    simp only [laws_FnExactFoldTasks.j2]
    simp (disch := omega) only [toInt64S_eq, Option.bind_some, hS, hI, if_true, bne_self_eq_false, eqInt64S_self, Bool.false_eq_true, if_false, markInt64S_eq, heldInt64S_eq, not_neg, toTasks_eq, eqTasks_self, markTasks_eq, heldTasks_eq]
  · rw [szTasks_big t (maxLen_le hmt) hlt, Option.bind_some, if_pos (by omega)]
end Go.Proofs.Ytjaanhnmgipmeaa.Pure
