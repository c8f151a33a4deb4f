/- For every list of rates and every number: the program's TasksOfGarden answers as the reference's does, leaves its arguments as they were, and shares no memory. -/
import Derived.Test.YtfephoddgifapaaQE
import Derived.Test.YtfephoddgifapaaQJ
import Derived.Test.YtfephoddgifapaaQH
import Derived.Test.YtfephoddgifapaaX3
import Derived.Test.YtfephoddgifapaaX4
import Derived.Test.YtfephoddgifapaaX7
import Derived.Test.YtfephoddgifapaaX9
import Derived.Test.YtfephoddgifapaaX24
import Derived.Test.YtfephoddgifapaaX36
import Derived.Test.YtfephoddgifapaaX39
import Derived.Test.YtfephoddgifapaaX40
import Derived.Test.YtfephoddgifapaaX41
import Derived.Test.YtfephoddgifapaaX42
namespace Go.Proofs.Ytfephoddgifapaa.Pure
set_option linter.unusedVariables false
set_option linter.unusedSimpArgs false
open Go.RowKit Go.Proofs.Ytfephoddgifapaa.X Go.Proofs.YtfephoddgifapaaW.PrintWords Go.Proofs.YtfephoddgifapaaW.PrintLast
theorem specSm_l0 (l : List Int) (hl : l.length ≤ 1048576) : ∀ (d i k : Nat) (s m : Int), i + d = l.length → d < k → ∃ s', spec_l06Sum.l0 k s m (i : Int) l = some (s', maxL (l.drop i) m) := by
  intro d
  induction d with
  | zero =>
    intro i k s m hi hk
    obtain ⟨k, rfl⟩ : ∃ m, k = m + 1 := ⟨k - 1, by omega⟩
    refine ⟨s, ?_⟩
    simp only [spec_l06Sum.l0]
    rw [if_neg (by omega), List.drop_of_length_le (by omega)]
    rfl
  | succ d ih =>
    intro i k s m hi hk
    obtain ⟨k, rfl⟩ : ∃ m, k = m + 1 := ⟨k - 1, by omega⟩
    obtain ⟨s', hs⟩ := ih (i + 1) k (wrap64 (s + rd l (i : Int))) (mx m (rd l (i : Int))) (by omega) (by omega)
    refine ⟨s', ?_⟩
    simp only [spec_l06Sum.l0]
    rw [if_pos (by omega), if_pos (by omega), wrap_succ (n := l.length) (by omega) (by omega), hs, drop_rd l i (by omega)]
    rfl
theorem specTk_l0 (l : List Int) (x : Int) (hl : l.length ≤ 8) (hr : ∀ r ∈ l, 1 ≤ r ∧ 1 ≤ Int.tdiv x r ∧ Int.tdiv x r ≤ 1000) : ∀ (d i k : Nat) (o : List Int), i + d = l.length → d < k → o.length = i → spec_l06Tasks.l0 k x (i : Int) l o = some (if (l.drop i).any (fun r => decide (40 < Int.tdiv x r)) = true then ([], false) else (o ++ (l.drop i).map (fun r => Int.tdiv x r), true)) := by
  intro d
  induction d with
  | zero =>
    intro i k o hi hk ho
    obtain ⟨k, rfl⟩ : ∃ m, k = m + 1 := ⟨k - 1, by omega⟩
    simp only [spec_l06Tasks.l0]
    rw [if_neg (by omega), List.drop_of_length_le (by omega)]
    simp
  | succ d ih =>
    intro i k o hi hk ho
    obtain ⟨k, rfl⟩ : ∃ m, k = m + 1 := ⟨k - 1, by omega⟩
    have h1 := hr _ (rd_in l i (by omega))
    simp only [spec_l06Tasks.l0]
    rw [if_pos (by omega), if_pos (by omega), if_neg (by omega), wrap_succ (n := l.length) (by omega) (by omega), wrap64_id (x := Int.tdiv x _) (by omega) (by omega), drop_rd l i (by omega), List.any_cons, List.map_cons]
    by_cases e : 40 < Int.tdiv x (rd l (i : Int))
    · rw [if_pos e, show (decide (40 < Int.tdiv x (rd l (i : Int)))) = true from decide_eq_true e, Bool.true_or, if_pos rfl]
    · rw [if_neg e, show (decide (40 < Int.tdiv x (rd l (i : Int)))) = false from decide_eq_false e, Bool.false_or, if_pos (by omega), ih (i + 1) k _ (by omega) (by omega) (by simp [ho]), List.append_assoc]
      rfl
theorem implTk_l0 (l : List Int) (x : Int) (hl : l.length ≤ 8) (hr : ∀ r ∈ l, 1 ≤ r ∧ 1 ≤ Int.tdiv x r ∧ Int.tdiv x r ≤ 1000) : ∀ (d i k : Nat) (o : List Int), i + d = l.length → d < k → o.length = i → impl_Garden_tasks.l0 k x l (l.length : Int) (i : Int) o = some (o ++ (l.drop i).map (fun r => Int.tdiv x r)) := by
  intro d
  induction d with
  | zero =>
    intro i k o hi hk ho
    obtain ⟨k, rfl⟩ : ∃ m, k = m + 1 := ⟨k - 1, by omega⟩
    simp only [impl_Garden_tasks.l0]
    rw [if_neg (by omega), List.drop_of_length_le (by omega)]
    simp
  | succ d ih =>
    intro i k o hi hk ho
    obtain ⟨k, rfl⟩ : ∃ m, k = m + 1 := ⟨k - 1, by omega⟩
    have h1 := hr _ (rd_in l i (by omega))
    simp only [impl_Garden_tasks.l0]
    rw [if_pos (by omega), if_pos (by omega), if_pos (by omega), if_neg (by omega), if_pos (by omega), wrap_succ (n := l.length) (by omega) (by omega), wrap64_id (x := Int.tdiv x _) (by omega) (by omega), drop_rd l i (by omega), ih (i + 1) k _ (by omega) (by omega) (by simp [ho]), List.append_assoc]
    rfl
theorem isGarden_ok {l : List Int} (h : isGardenB l = true) : (1 ≤ l.length ∧ l.length ≤ 8) ∧ ∀ r ∈ l, 1 ≤ r ∧ r ≤ 20 := by
  unfold isGardenB at h
  rw [Bool.and_eq_true] at h
  obtain ⟨h1, h2⟩ := h
  unfold withinB at h1
  simp only [Bool.and_eq_true, decide_eq_true_eq] at h1
  refine ⟨by omega, fun r hr => ?_⟩
  have := List.all_eq_true.mp h2 r hr
  unfold withinB at this
  simpa using this
theorem quot_ok {l : List Int} (h : isGardenB l = true) (x : Int) (h2 : withinB x (maxL l 0) 1000 = true) : ∀ r ∈ l, 1 ≤ r ∧ 1 ≤ Int.tdiv x r ∧ Int.tdiv x r ≤ 1000 := by
  intro r hr
  have h3 := (isGarden_ok h).2 r hr
  have h4 := maxL_mem l 0 r hr
  unfold withinB at h2
  simp only [Bool.and_eq_true, decide_eq_true_eq] at h2
  obtain ⟨a, rfl⟩ : ∃ a : Nat, x = (a : Int) := ⟨x.toNat, by omega⟩
  obtain ⟨b, rfl⟩ : ∃ b : Nat, r = (b : Int) := ⟨r.toNat, by omega⟩
  rw [← Int.ofNat_tdiv]
  have h5 : 0 < a / b := Nat.div_pos (by omega) (by omega)
  have h6 : a / b ≤ a := Nat.div_le_self a b
  omega
theorem tasks_any (l : List Int) (hl : 1 ≤ l.length ∧ l.length ≤ 8) (x : Int) (hr : ∀ r ∈ l, 1 ≤ r ∧ 1 ≤ Int.tdiv x r ∧ Int.tdiv x r ≤ 1000) : isTasksB (l.map fun r => Int.tdiv x r) = true ↔ ¬ l.any (fun r => decide (40 < Int.tdiv x r)) = true := by
  unfold isTasksB
  rw [Bool.and_eq_true, List.length_map, List.all_eq_true, List.any_eq_true]
  constructor
  · rintro ⟨-, h⟩ ⟨r, h1, h2⟩
    have := h _ (List.mem_map_of_mem h1)
    unfold withinB at this
    simp only [Bool.and_eq_true, decide_eq_true_eq] at this h2
    omega
  · intro h
    refine ⟨by unfold withinB; simp only [Bool.and_eq_true, decide_eq_true_eq]; omega, fun y hy => ?_⟩
    obtain ⟨r, h1, rfl⟩ := List.mem_map.mp hy
    have h2 := hr r h1
    have h3 : ¬ 40 < Int.tdiv x r := fun z => h ⟨r, h1, decide_eq_true z⟩
    unfold withinB
    simp only [Bool.and_eq_true, decide_eq_true_eq]
    omega
theorem FnExactTasksOfGarden : laws_FnExactTasksOfGarden.Pure := by
  intro g x hmg hwg hwx
  refine ⟨4000010, ?_⟩
  unfold laws_FnExactTasksOfGarden.f laws_szGarden.f
  have hmg := maxLen_le hmg
  by_cases hlg : g.length ≤ 1048576
  · rw [szI_ok g hlg, Option.bind_some, if_neg (by omega), Option.bind_some, if_neg (by omega)]
    have hS : ∀ k, 3000000 < k → spec_TasksOfGarden.f k g x = some (if isGardenB g = true then (if withinB x (maxL g 0) 1000 = true then (if g.any (fun r => decide (40 < Int.tdiv x r)) = true then ([], 4) else (g.map (fun r => Int.tdiv x r), (0 : Int))) else ([], 2)) else ([], 1)) := by
      intro k hk
      unfold spec_TasksOfGarden.f spec_l06Sum.f
      rw [l06Is_eq g (by omega) k (by omega), Option.bind_some]
      by_cases h : isGardenB g = true
      · obtain ⟨s', hs⟩ := specSm_l0 g hlg g.length 0 k 0 0 (by omega) (by omega)
        simp only [Int.natCast_zero, List.drop_zero] at hs
        rw [if_pos h, if_pos h, hs, Option.bind_some, l01In_f, Option.bind_some]
        by_cases h2 : withinB x (maxL g 0) 1000 = true
        · have := specTk_l0 g x (isGarden_ok h).1.2 (quot_ok h x h2) g.length 0 k [] (by omega) (by omega) rfl
          simp only [Int.natCast_zero, List.drop_zero, List.nil_append] at this
          rw [if_pos h2, if_pos h2, spec_l06Tasks.f, this, Option.bind_some]
          by_cases h3 : g.any (fun r => decide (40 < Int.tdiv x r)) = true
          · rw [if_pos h3, if_pos h3, if_neg (by simp)]
          · rw [if_neg h3, if_neg h3, if_pos rfl]
        · rw [if_neg h2, if_neg h2]
      · rw [if_neg h, if_neg h]
    have hI : ∀ k, 3000000 < k → impl_TasksOfGarden.f k g x = some (if isGardenB g = true then (if withinB x (maxL g 0) 1000 = true then (if g.any (fun r => decide (40 < Int.tdiv x r)) = true then ([], 4) else (g.map (fun r => Int.tdiv x r), (0 : Int))) else ([], 2)) else ([], 1)) := by
      intro k hk
      unfold impl_TasksOfGarden.f impl_gardenCode.f
      rw [greatest_eq g (by omega) k (by omega), Option.bind_some, impl_IsGarden.f, Option.bind_some]
      obtain ⟨k, rfl⟩ : ∃ m, k = m + 1 := ⟨k - 1, by omega⟩
      simp only [impl_TasksOfGarden.j0, Option.bind_some]
      by_cases h : isGardenB g = true
      · rw [if_pos h, if_pos h, if_pos h]
        by_cases h2 : withinB x (maxL g 0) 1000 = true
        · have h2' := h2
          unfold withinB at h2'
          simp only [Bool.and_eq_true, decide_eq_true_eq] at h2'
          have hq := quot_ok h x h2
          have := implTk_l0 g x (isGarden_ok h).1.2 hq g.length 0 k [] (by omega) (by omega) rfl
          simp only [Int.natCast_zero, List.drop_zero, List.nil_append] at this
          rw [if_pos h2, if_pos (by omega), if_pos (decide_eq_true h2'.2), Option.bind_some, if_pos rfl, impl_Garden_tasks.f, this, Option.bind_some, impl_IsTasks.f, Option.bind_some]
          by_cases h3 : g.any (fun r => decide (40 < Int.tdiv x r)) = true
          · rw [if_pos h3, if_neg (fun z => (tasks_any g (isGarden_ok h).1 x hq).mp z h3)]
          · rw [if_neg h3, if_pos ((tasks_any g (isGarden_ok h).1 x hq).mpr h3)]
        · rw [if_neg h2]
          unfold withinB at h2
          simp only [Bool.and_eq_true, decide_eq_true_eq] at h2
          by_cases h3 : x ≥ maxL g 0
          · have h4 : decide (x ≤ 1000) = false := decide_eq_false (by omega)
            rw [if_pos h3, h4]
            simp
          · rw [if_neg h3]
            simp
      · rw [if_neg h, if_neg h, if_neg h]
        simp
    have hr : (if isGardenB g = true then (if withinB x (maxL g 0) 1000 = true then (if g.any (fun r => decide (40 < Int.tdiv x r)) = true then ([], 4) else (g.map (fun r => Int.tdiv x r), (0 : Int))) else ([], 2)) else ([], 1)).1.length ≤ 1048576 := by
      split
      · rename_i h
        have := (isGarden_ok h).1
        split
        · split
          · simp
          · show (g.map _).length ≤ 1048576
            rw [List.length_map]
            omega
        · simp
      · simp
    generalize (if isGardenB g = true then (if withinB x (maxL g 0) 1000 = true then (if g.any (fun r => decide (40 < Int.tdiv x r)) = true then ([], 4) else (g.map (fun r => Int.tdiv x r), (0 : Int))) else ([], 2)) else ([], 1)) = r at hS hI hr
    obtain ⟨r0, r1⟩ := r
    simp only at hr
    simp (disch := omega) only [toInt64S_eq, Option.bind_some, hS, hI, if_true, bne_self_eq_false, eqInt64S_self, Bool.false_eq_true, if_false, markInt64S_eq, heldInt64S_eq, not_neg, laws_toGarden.f, laws_eqGarden.f, toTasks_eq, eqTasks_self, markTasks_eq, heldTasks_eq, laws_markGarden.f]
    simp only [laws_FnExactTasksOfGarden.j0]
    simp (disch := omega) only [toInt64S_eq, Option.bind_some, hS, hI, if_true, bne_self_eq_false, eqInt64S_self, Bool.false_eq_true, if_false, markInt64S_eq, heldInt64S_eq, not_neg, laws_toGarden.f, laws_eqGarden.f, toTasks_eq, eqTasks_self, markTasks_eq, heldTasks_eq, laws_markGarden.f]
    simp only [laws_FnExactTasksOfGarden.j1]
    simp (disch := omega) only [toInt64S_eq, Option.bind_some, hS, hI, if_true, bne_self_eq_false, eqInt64S_self, Bool.false_eq_true, if_false, markInt64S_eq, heldInt64S_eq, not_neg, laws_toGarden.f, laws_eqGarden.f, toTasks_eq, eqTasks_self, markTasks_eq, heldTasks_eq, laws_markGarden.f]
    simp only [laws_FnExactTasksOfGarden.j2]
    simp (disch := omega) only [toInt64S_eq, Option.bind_some, hS, hI, if_true, bne_self_eq_false, eqInt64S_self, Bool.false_eq_true, if_false, markInt64S_eq, heldInt64S_eq, not_neg, laws_toGarden.f, laws_eqGarden.f, toTasks_eq, eqTasks_self, markTasks_eq, heldTasks_eq, laws_markGarden.f]
  · rw [szI_big g hmg hlg, Option.bind_some, if_pos (by omega), Option.bind_some, if_pos (by omega)]
end Go.Proofs.Ytfephoddgifapaa.Pure
