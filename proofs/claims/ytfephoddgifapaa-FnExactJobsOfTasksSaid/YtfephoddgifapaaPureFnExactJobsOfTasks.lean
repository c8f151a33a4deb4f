/- For every list of gaps: the program's JobsOfTasks answers as the reference's does, leaves its argument as it was, and shares no memory. -/
import Derived.Test.YtfephoddgifapaaQM
import Derived.Test.YtfephoddgifapaaX4
import Derived.Test.YtfephoddgifapaaX43
import Derived.Test.YtfephoddgifapaaX44
import Derived.Test.YtfephoddgifapaaX45
import Derived.Test.YtfephoddgifapaaX46
namespace Go.Proofs.Ytfephoddgifapaa.Pure
set_option linter.unusedVariables false
set_option linter.unusedSimpArgs false
open Go.RowKit Go.Proofs.Ytfephoddgifapaa.X Go.Proofs.YtfephoddgifapaaW.PrintWords Go.Proofs.YtfephoddgifapaaW.PrintLast
def halfF (g : Int) : Int := wrap64 (Int.tdiv (wrap64 (g + 1)) 2)
theorem snoc1 (l : List Int) (f : Int → Int) (acc : List Int) (i : Nat) (h : i < l.length) : acc ++ [f (rd l (i : Int))] ++ (l.drop (i + 1)).map f = acc ++ (l.drop i).map f := by
  rw [drop_rd l i h, List.map_cons, List.append_assoc]
  rfl
theorem specJ_l0 (t : List Int) (ht : t.length ≤ 8) : ∀ (d i k : Nat) (a b c : List Int), i + d = t.length → d < k → a.length = i → b.length = i → c.length = i → spec_JobsOfTasks.l0 k (i : Int) t a b c = some (a ++ (t.drop i).map (fun _ => (1 : Int)), b ++ (t.drop i).map halfF, c ++ (t.drop i).map halfF, 0) := by
  intro d
  induction d with
  | zero =>
    intro i k a b c hi hk ha hb hc
    obtain ⟨k, rfl⟩ : ∃ m, k = m + 1 := ⟨k - 1, by omega⟩
    simp only [spec_JobsOfTasks.l0]
    rw [if_neg (by omega), List.drop_of_length_le (by omega)]
    simp
  | succ d ih =>
    intro i k a b c hi hk ha hb hc
    obtain ⟨k, rfl⟩ : ∃ m, k = m + 1 := ⟨k - 1, by omega⟩
    simp only [spec_JobsOfTasks.l0]
    rw [if_pos (by omega), if_pos (by omega), if_pos (by omega), if_pos (by omega), if_pos (by omega), wrap_succ (n := t.length) (by omega) (by omega), ih (i + 1) k _ _ _ (by omega) (by omega) (by simp [ha]) (by simp [hb]) (by simp [hc])]
    rw [← snoc1 t (fun _ => (1 : Int)) a i (by omega), ← snoc1 t halfF b i (by omega), ← snoc1 t halfF c i (by omega)]
    rfl
theorem implJ_l0 (t : List Int) (ht : t.length ≤ 8) : ∀ (d i k : Nat) (a b c : List Int), i + d = t.length → d < k → a.length = i → b.length = i → c.length = i → impl_JobsOfTasks.l0 k t (t.length : Int) (i : Int) a b c = some (a ++ (t.drop i).map (fun _ => (1 : Int)), b ++ (t.drop i).map halfF, c ++ (t.drop i).map halfF, 0) := by
  intro d
  induction d with
  | zero =>
    intro i k a b c hi hk ha hb hc
    obtain ⟨k, rfl⟩ : ∃ m, k = m + 1 := ⟨k - 1, by omega⟩
    simp only [impl_JobsOfTasks.l0]
    rw [if_neg (by omega), List.drop_of_length_le (by omega)]
    simp
  | succ d ih =>
    intro i k a b c hi hk ha hb hc
    obtain ⟨k, rfl⟩ : ∃ m, k = m + 1 := ⟨k - 1, by omega⟩
    simp only [impl_JobsOfTasks.l0]
    rw [if_pos (by omega), if_pos (by omega), if_pos (by omega), if_pos (by omega), if_pos (by omega), if_pos (by omega), wrap_succ (n := t.length) (by omega) (by omega), ih (i + 1) k _ _ _ (by omega) (by omega) (by simp [ha]) (by simp [hb]) (by simp [hc])]
    rw [← snoc1 t (fun _ => (1 : Int)) a i (by omega), ← snoc1 t halfF b i (by omega), ← snoc1 t halfF c i (by omega)]
    rfl
theorem FnExactJobsOfTasks : laws_FnExactJobsOfTasks.Pure := by
  intro t hmt hwt
  refine ⟨4000010, ?_⟩
  unfold laws_FnExactJobsOfTasks.f
  by_cases hlt : t.length ≤ 1048576
  · rw [szTasks_ok t hlt, Option.bind_some, if_neg (by omega)]
    have hS : ∀ k, 3000000 < k → spec_JobsOfTasks.f k t = some (if isTasksB t = true then (t.map (fun _ => (1 : Int)), t.map halfF, t.map halfF, (0 : Int)) else ([], [], [], 1)) := by
      intro k hk
      unfold spec_JobsOfTasks.f
      rw [l01Is_eq t (by omega) k (by omega), Option.bind_some]
      by_cases h : isTasksB t = true
      · have hlen := isTasks_len h
        have := specJ_l0 t hlen.2 t.length 0 k [] [] [] (by omega) (by omega) rfl rfl rfl
        simp only [Int.natCast_zero, List.drop_zero, List.nil_append] at this
        rw [if_pos h, if_pos h, this]
      · rw [if_neg h, if_neg h]
    have hI : ∀ k, 3000000 < k → impl_JobsOfTasks.f k t = some (if isTasksB t = true then (t.map (fun _ => (1 : Int)), t.map halfF, t.map halfF, (0 : Int)) else ([], [], [], 1)) := by
      intro k hk
      unfold impl_JobsOfTasks.f
      rw [impl_IsTasks.f, Option.bind_some]
      by_cases h : isTasksB t = true
      · have hlen := isTasks_len h
        have := implJ_l0 t hlen.2 t.length 0 k [] [] [] (by omega) (by omega) rfl rfl rfl
        simp only [Int.natCast_zero, List.drop_zero, List.nil_append] at this
        rw [if_pos h, if_pos h, this]
      · rw [if_neg h, if_neg h]
    have hr : (if isTasksB t = true then (t.map (fun _ => (1 : Int)), t.map halfF, t.map halfF, (0 : Int)) else ([], [], [], 1)).1.length ≤ 1048576 ∧ (if isTasksB t = true then (t.map (fun _ => (1 : Int)), t.map halfF, t.map halfF, (0 : Int)) else ([], [], [], 1)).2.1.length ≤ 1048576 ∧ (if isTasksB t = true then (t.map (fun _ => (1 : Int)), t.map halfF, t.map halfF, (0 : Int)) else ([], [], [], 1)).2.2.1.length ≤ 1048576 := by
      split
      · simp only [List.length_map]
        omega
      · simp
    generalize (if isTasksB t = true then (t.map (fun _ => (1 : Int)), t.map halfF, t.map halfF, (0 : Int)) else ([], [], [], 1)) = r at hS hI hr
    obtain ⟨r0, r1, r2, r3⟩ := r
    simp only at hr
    simp (disch := omega) only [toInt64S_eq, Option.bind_some, hS, hI, if_true, bne_self_eq_false, eqInt64S_self, Bool.false_eq_true, if_false, markInt64S_eq, heldInt64S_eq, not_neg, toTasks_eq, eqTasks_self, markTasks_eq, laws_markJobs.f, laws_heldJobs.f, laws_eqJobs.f]
    simp only [laws_FnExactJobsOfTasks.j0]
    simp (disch := omega) only [toInt64S_eq, Option.bind_some, hS, hI, if_true, bne_self_eq_false, eqInt64S_self, Bool.false_eq_true, if_false, markInt64S_eq, heldInt64S_eq, not_neg, toTasks_eq, eqTasks_self, markTasks_eq, laws_markJobs.f, laws_heldJobs.f, laws_eqJobs.f]
    simp only [laws_FnExactJobsOfTasks.j1]
    simp (disch := omega) only [toInt64S_eq, Option.bind_some, hS, hI, if_true, bne_self_eq_false, eqInt64S_self, Bool.false_eq_true, if_false, markInt64S_eq, heldInt64S_eq, not_neg, toTasks_eq, eqTasks_self, markTasks_eq, laws_markJobs.f, laws_heldJobs.f, laws_eqJobs.f]
    simp only [laws_FnExactJobsOfTasks.j2]
    simp (disch := omega) only [toInt64S_eq, Option.bind_some, hS, hI, if_true, bne_self_eq_false, eqInt64S_self, Bool.false_eq_true, if_false, markInt64S_eq, heldInt64S_eq, not_neg, toTasks_eq, eqTasks_self, markTasks_eq, laws_markJobs.f, laws_heldJobs.f, laws_eqJobs.f]
  · rw [szTasks_big t (maxLen_le hmt) hlt, Option.bind_some, if_pos (by omega)]
end Go.Proofs.Ytfephoddgifapaa.Pure
