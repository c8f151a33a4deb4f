/- For every list of gaps, every state and every choice: the program's StepState answers as the reference's does, leaves its arguments as they were, and shares no memory. -/
import Derived.Test.YtcjcocffhljggaaQV
import Derived.Test.YtcjcocffhljggaaQM
import Derived.Test.YtcjcocffhljggaaX4
import Derived.Test.YtcjcocffhljggaaX5
import Derived.Test.YtcjcocffhljggaaX7
import Derived.Test.YtcjcocffhljggaaX12
import Derived.Test.YtcjcocffhljggaaX20
import Derived.Test.YtcjcocffhljggaaX36
import Derived.Test.YtcjcocffhljggaaX37
import Derived.Test.YtcjcocffhljggaaX38
import Derived.Test.YtcjcocffhljggaaX39
import Derived.Test.YtcjcocffhljggaaX40
namespace Go.Proofs.Ytcjcocffhljggaa.Pure
set_option linter.unusedVariables false
set_option linter.unusedSimpArgs false
open Go.RowKit Go.Proofs.Ytcjcocffhljggaa.X Go.Proofs.YtcjcocffhljggaaW.PrintWords Go.Proofs.YtcjcocffhljggaaW.PrintLast
def stB (t l : List Int) : Nat → Nat → Bool
  | 0, _ => true
  | d + 1, i => withinB (rd l (i : Int)) 1 (rd t (i : Int)) && stB t l d (i + 1)
def stepF (t l : List Int) (c : Int) : Nat → Nat → Option (List Int)
  | 0, _ => some []
  | d + 1, i => if (i : Int) = c then (stepF t l c d (i + 1)).map (fun r => rd t (i : Int) :: r) else if rd l (i : Int) < 2 then none else (stepF t l c d (i + 1)).map (fun r => (rd l (i : Int) - 1) :: r)
def stateB (t l : List Int) : Bool := decide (l.length = t.length) && stB t l l.length 0
def stepR (t l : List Int) (c : Int) : List Int × Int := if isTasksB t = true then (if (stateB t l && withinB c (-1) (wrap64 ((t.length : Int) - 1))) = true then (match stepF t l c l.length 0 with | some r => (r, 0) | none => ([], 4)) else ([], 2)) else ([], 1)
theorem stepF_length (t l : List Int) (c : Int) : ∀ (d i : Nat) (r : List Int), stepF t l c d i = some r → r.length = d := by
  intro d
  induction d with
  | zero =>
    intro i r h
    simp only [stepF, Option.some.injEq] at h
    rw [← h]
    rfl
  | succ d ih =>
    intro i r h
    simp only [stepF] at h
    by_cases e : (i : Int) = c
    · rw [if_pos e] at h
      obtain ⟨q, hq, rfl⟩ := Option.map_eq_some_iff.1 h
      simp [ih _ _ hq]
    · rw [if_neg e] at h
      by_cases e2 : rd l (i : Int) < 2
      · rw [if_pos e2] at h
        cases h
      · rw [if_neg e2] at h
        obtain ⟨q, hq, rfl⟩ := Option.map_eq_some_iff.1 h
        simp [ih _ _ hq]
theorem specSt_l0 (t l : List Int) (hl : l.length ≤ 1048576) (ht : t.length ≤ 8) : ∀ (d i k : Nat), i + d = l.length → 2 * d + 3 < k → ∃ b : Bool, spec_l02State.l0 k l (i : Int) t = some b ∧ (b = true ↔ l.length = t.length ∧ stB t l d i = true) := by
  intro d
  induction d with
  | zero =>
    intro i k hi hk
    obtain ⟨k, rfl⟩ : ∃ m, k = m + 2 := ⟨k - 2, by omega⟩
    refine ⟨((l.length : Int) == (t.length : Int)), ?_, ?_⟩
    · simp only [spec_l02State.l0]
      rw [if_neg (by omega)]
      simp only [spec_l02State.j1]
      rw [if_neg (by simp)]
    · simp only [stB, and_true, beq_iff_eq]
      omega
  | succ d ih =>
    intro i k hi hk
    obtain ⟨k, rfl⟩ : ∃ m, k = m + 2 := ⟨k - 2, by omega⟩
    simp only [spec_l02State.l0]
    rw [if_pos (by omega)]
    simp only [spec_l02State.j1]
    by_cases h : (i : Int) < (t.length : Int)
    · rw [if_pos (by simpa using h), if_pos (by omega), if_pos (by omega), if_pos (by omega), l01In_f, Option.bind_some, wrap_succ (n := l.length) (by omega) (by omega)]
      simp only [stB]
      by_cases h2 : withinB (rd l (i : Int)) 1 (rd t (i : Int)) = true
      · obtain ⟨b, e, hb⟩ := ih (i + 1) k (by omega) (by omega)
        refine ⟨b, by rw [if_pos h2, e], ?_⟩
        rw [hb, h2, Bool.true_and]
      · simp only [Bool.not_eq_true] at h2
        refine ⟨false, by rw [h2, if_neg (by simp)], ?_⟩
        rw [h2]
        simp
    · rw [if_neg (by simpa using h)]
      refine ⟨_, rfl, ?_⟩
      rw [beq_iff_eq]
      constructor
      · intro e
        exfalso
        omega
      · intro e
        omega
theorem specSt_eq (t l : List Int) (hl : l.length ≤ 1048576) (ht : t.length ≤ 8) (k : Nat) (hk : 2500000 < k) : spec_l02State.f k t l = some (stateB t l) := by
  unfold spec_l02State.f stateB
  obtain ⟨b, e, hb⟩ := specSt_l0 t l hl ht l.length 0 k (by omega) (by omega)
  simp only [Int.natCast_zero] at e
  rw [e]
  congr 1
  rw [Bool.eq_iff_iff, hb, Bool.and_eq_true, decide_eq_true_eq]
theorem implSt_l0 (t l : List Int) (hl : l.length ≤ 1048576) (hlt : l.length = t.length) : ∀ (d i k : Nat), i + d = l.length → d < k → impl_Tasks_isState.l0 k l (l.length : Int) (i : Int) t = some (stB t l d i) := by
  intro d
  induction d with
  | zero =>
    intro i k hi hk
    obtain ⟨k, rfl⟩ : ∃ m, k = m + 1 := ⟨k - 1, by omega⟩
    simp only [impl_Tasks_isState.l0, stB]
    rw [if_neg (by omega)]
  | succ d ih =>
    intro i k hi hk
    obtain ⟨k, rfl⟩ : ∃ m, k = m + 1 := ⟨k - 1, by omega⟩
    simp only [impl_Tasks_isState.l0, stB]
    rw [if_pos (by omega), if_pos (by omega), if_pos (by omega), if_pos (by omega), within_f, Option.bind_some, wrap_succ (n := l.length) (by omega) (by omega), ih (i + 1) k (by omega) (by omega)]
    cases withinB (rd l (i : Int)) 1 (rd t (i : Int)) <;> simp
theorem isState_eq (t l : List Int) (hl : l.length ≤ 1048576) (k : Nat) (hk : l.length < k) : impl_Tasks_isState.f k t l = some (stateB t l) := by
  unfold impl_Tasks_isState.f stateB
  rw [impl_length_int64.f, Option.bind_some, impl_Tasks_many.f, impl_length_int64.f, Option.bind_some, Option.bind_some]
  by_cases h : l.length = t.length
  · have := implSt_l0 t l hl h l.length 0 k (by omega) hk
    simp only [Int.natCast_zero] at this
    rw [if_pos (by omega), this, show decide (l.length = t.length) = true from decide_eq_true h, Bool.true_and]
  · rw [if_neg (by omega), show decide (l.length = t.length) = false from decide_eq_false h, Bool.false_and]
theorem isChoice_eq (t : List Int) (c : Int) (h1 : 1 ≤ t.length) (h2 : t.length ≤ 8) : impl_Tasks_isChoice.f t c = some (withinB c (-1) (wrap64 ((t.length : Int) - 1))) := by
  unfold impl_Tasks_isChoice.f impl_Tasks_isTask.f
  rw [impl_Tasks_many.f, impl_length_int64.f, Option.bind_some, Option.bind_some, within_f, Option.bind_some, wrap64_id (by omega) (by omega)]
  unfold withinB
  by_cases h : c = -1
  · rw [if_pos h, h]
    have : (-1 : Int) ≤ (t.length : Int) - 1 := by omega
    simp [this]
  · rw [if_neg h, Option.bind_some]
    congr 2
    exact decide_eq_decide.mpr (by omega)
theorem specStep_l0 (t l : List Int) (c : Int) (hl : l.length ≤ 8) (hlt : l.length = t.length) (hp : ∀ x ∈ l, 1 ≤ x ∧ x ≤ 40) : ∀ (d i k : Nat) (out : List Int), i + d = l.length → d < k → out.length = i → spec_l02Step.l0 k l c out (i : Int) t = some (match stepF t l c d i with | some r => (out ++ r, true) | none => ([], false)) := by
  intro d
  induction d with
  | zero =>
    intro i k out hi hk ho
    obtain ⟨k, rfl⟩ : ∃ m, k = m + 1 := ⟨k - 1, by omega⟩
    simp only [spec_l02Step.l0, stepF]
    rw [if_neg (by omega), List.append_nil]
  | succ d ih =>
    intro i k out hi hk ho
    obtain ⟨k, rfl⟩ : ∃ m, k = m + 1 := ⟨k - 1, by omega⟩
    have hx := hp _ (rd_in l i (by omega))
    simp only [spec_l02Step.l0, stepF]
    rw [if_pos (by omega), wrap_succ (n := l.length) (by omega) (by omega)]
    by_cases e : (i : Int) = c
    · rw [if_pos e, if_pos (by omega), if_pos (by omega), if_pos (by omega), if_pos e, ih (i + 1) k _ (by omega) (by omega) (by simp [ho])]
      cases stepF t l c d (i + 1) <;> simp
    · rw [if_neg e, if_pos (by omega), if_neg e]
      by_cases e2 : rd l (i : Int) < 2
      · rw [if_pos e2, if_pos (by omega)]
      · rw [if_neg e2, if_neg (by omega), if_pos (by omega), wrap64_id (by omega) (by omega), ih (i + 1) k _ (by omega) (by omega) (by simp [ho])]
        cases stepF t l c d (i + 1) <;> simp
theorem implStep_l0 (t l : List Int) (c : Int) (hl : l.length ≤ 8) (hlt : l.length = t.length) (hp : ∀ x ∈ l, 1 ≤ x ∧ x ≤ 40) : ∀ (d i k : Nat) (x : List Int), i + d = l.length → d < k → x.length = l.length → x.drop i = l.drop i → impl_Tasks_step.l0 k c x (l.length : Int) (i : Int) t = some (match stepF t l c d i with | some r => (x.take i ++ r, true) | none => ([], false)) := by
  intro d
  induction d with
  | zero =>
    intro i k x hi hk hx hd
    obtain ⟨k, rfl⟩ : ∃ m, k = m + 1 := ⟨k - 1, by omega⟩
    simp only [impl_Tasks_step.l0, stepF]
    rw [if_neg (by omega), List.append_nil, List.take_of_length_le (by omega)]
  | succ d ih =>
    intro i k x hi hk hx hd
    obtain ⟨k, rfl⟩ : ∃ m, k = m + 1 := ⟨k - 1, by omega⟩
    have hx1 := hp _ (rd_in l i (by omega))
    rw [drop_rd x i (by omega), drop_rd l i (by omega), List.cons.injEq] at hd
    simp only [impl_Tasks_step.l0, stepF]
    rw [if_pos (by omega), wrap_succ (n := l.length) (by omega) (by omega), toNat_nat, hd.1]
    by_cases e : (i : Int) = c
    · rw [if_pos e, if_pos (by omega), if_pos (by omega), if_pos (by omega), if_pos e, ih (i + 1) k _ (by omega) (by omega) (by rw [List.length_set]; exact hx) (by rw [set_drop]; exact hd.2), set_take x i _ (by omega)]
      cases stepF t l c d (i + 1) <;> simp
    · rw [if_neg e, if_pos (by omega), if_pos (by omega), if_neg e]
      by_cases e2 : rd l (i : Int) < 2
      · rw [if_pos e2, if_pos e2]
      · rw [if_neg e2, if_neg e2, wrap64_id (by omega) (by omega), ih (i + 1) k _ (by omega) (by omega) (by rw [List.length_set]; exact hx) (by rw [set_drop]; exact hd.2), set_take x i _ (by omega)]
        cases stepF t l c d (i + 1) <;> simp
theorem stB_mem (t l : List Int) (ht : ∀ x ∈ t, 1 ≤ x ∧ x ≤ 40) (hlt : l.length = t.length) : ∀ (d i : Nat), i + d = l.length → stB t l d i = true → ∀ j, i ≤ j → j < l.length → 1 ≤ rd l (j : Int) ∧ rd l (j : Int) ≤ 40 := by
  intro d
  induction d with
  | zero => intro i hi _ j h1 h2; omega
  | succ d ih =>
    intro i hi h j h1 h2
    simp only [stB, Bool.and_eq_true] at h
    by_cases e : j = i
    · have hb := ht _ (rd_in t i (by omega))
      have hw := h.1
      unfold withinB at hw
      simp only [Bool.and_eq_true, decide_eq_true_eq] at hw
      rw [e]
      omega
    · exact ih (i + 1) (by omega) h.2 j (by omega) h2
theorem state_mem {t l : List Int} (ht : ∀ x ∈ t, 1 ≤ x ∧ x ≤ 40) (h : stateB t l = true) : l.length = t.length ∧ ∀ x ∈ l, 1 ≤ x ∧ x ≤ 40 := by
  unfold stateB at h
  rw [Bool.and_eq_true, decide_eq_true_eq] at h
  refine ⟨h.1, fun x hx => ?_⟩
  obtain ⟨j, hj, rfl⟩ := List.getElem_of_mem hx
  have := stB_mem t l ht h.1 l.length 0 (by omega) h.2 j (by omega) hj
  rw [rd_get l j hj] at this
  exact this
theorem FnExactStepState : laws_FnExactStepState.Pure := by
  intro t l c hmt hwt hml hyl hwl hwc
  refine ⟨4000010, ?_⟩
  unfold laws_FnExactStepState.f
  by_cases hll : l.length ≤ 1048576
  · rw [if_neg (by omega)]
    by_cases hlt : t.length ≤ 1048576
    · rw [szTasks_ok t hlt, Option.bind_some, if_neg (by omega)]
      have hS : ∀ k, 3000000 < k → spec_StepState.f k t l c = some (stepR t l c) := by
        intro k hk
        unfold spec_StepState.f spec_l02Code.f stepR
        obtain ⟨k, rfl⟩ : ∃ m, k = m + 3 := ⟨k - 3, by omega⟩
        rw [l01Is_eq t (by omega) _ (by omega), Option.bind_some]
        by_cases h1 : isTasksB t = true
        · have h3 := isTasks_len h1
          rw [if_pos h1, if_pos h1, specSt_eq t l hll (by omega) _ (by omega), Option.bind_some]
          by_cases h2 : stateB t l = true
          · have h5 := state_mem (isTasks_mem h1) h2
            rw [if_pos h2, Option.bind_some, if_pos rfl, spec_l01K.f, Option.bind_some, l01In_f, Option.bind_some, h2, Bool.true_and]
            simp only [spec_StepState.j0, spec_StepState.j1]
            by_cases h4 : withinB c (-1) (wrap64 ((t.length : Int) - 1)) = true
            · have := specStep_l0 t l c (by omega) h5.1 h5.2 l.length 0 (k + 1) [] (by omega) (by omega) rfl
              simp only [Int.natCast_zero, List.nil_append] at this
              rw [h4, if_neg (by simp), if_pos rfl, if_pos True.intro, spec_l02Step.f, this, Option.bind_some]
              cases stepF t l c l.length 0 <;> simp
            · simp only [Bool.not_eq_true] at h4
              rw [h4, if_pos (by rfl), if_neg (by omega), if_neg (by simp)]
          · simp only [Bool.not_eq_true] at h2
            rw [h2, if_neg (by simp), Option.bind_some, if_neg (by omega), Bool.false_and, if_neg (by simp)]
            simp only [spec_StepState.j0, spec_StepState.j1]
            rw [if_neg (by simp), if_neg (by omega)]
        · rw [if_neg h1, if_neg h1, Option.bind_some, if_neg (by omega)]
          simp only [spec_StepState.j0, spec_StepState.j1]
          rw [if_neg (by simp), if_neg (by omega)]
      have hI : ∀ k, 3000000 < k → impl_StepState.f k t l c = some (stepR t l c) := by
        intro k hk
        unfold impl_StepState.f stepR
        obtain ⟨k, rfl⟩ : ∃ m, k = m + 3 := ⟨k - 3, by omega⟩
        rw [isState_eq t l hll _ (by omega), Option.bind_some]
        by_cases h1 : isTasksB t = true
        · have h3 := isTasks_len h1
          rw [if_pos h1]
          by_cases h2 : stateB t l = true
          · have h5 := state_mem (isTasks_mem h1) h2
            rw [if_pos h2, isChoice_eq t c (by omega) (by omega), Option.bind_some, tasksCode_f, if_pos h1, Option.bind_some, h2, Bool.true_and]
            simp only [impl_StepState.j0]
            by_cases h4 : withinB c (-1) (wrap64 ((t.length : Int) - 1)) = true
            · have := implStep_l0 t l c (by omega) h5.1 h5.2 l.length 0 (k + 2) l (by omega) (by omega) rfl rfl
              simp only [Int.natCast_zero, List.take_zero, List.nil_append] at this
              rw [if_pos h4, if_pos h4, if_pos rfl, impl_Tasks_step.f, slices_Clone_int64_int64.f, if_pos (by omega), Option.bind_some, this, Option.bind_some]
              cases stepF t l c l.length 0 <;> simp
            · rw [if_neg h4, if_neg h4, if_neg (by omega)]
          · rw [if_neg h2, tasksCode_f, if_pos h1, Option.bind_some]
            simp only [Bool.not_eq_true] at h2
            simp only [impl_StepState.j0]
            simp [h2]
        · rw [if_neg h1]
          by_cases h2 : stateB t l = true
          · have e : ∀ b : Bool, impl_tasksCode.f t b = some 1 := fun b => by rw [tasksCode_f, if_neg h1]
            rw [if_pos h2, impl_Tasks_isChoice.f]
            by_cases h4 : c = -1
            · rw [if_pos h4, Option.bind_some, e, Option.bind_some]
              simp only [impl_StepState.j0]
              rw [if_neg (by omega)]
            · rw [if_neg h4, impl_Tasks_isTask.f, impl_Tasks_many.f, impl_length_int64.f, Option.bind_some, Option.bind_some, within_f, Option.bind_some, Option.bind_some, Option.bind_some, e, Option.bind_some]
              simp only [impl_StepState.j0]
              rw [if_neg (by omega)]
          · rw [if_neg h2, tasksCode_f, if_neg h1, Option.bind_some]
            simp only [impl_StepState.j0]
            rw [if_neg (by omega)]
      have hr : (stepR t l c).1.length ≤ 1048576 := by
        unfold stepR
        split
        · split
          · cases h : stepF t l c l.length 0 with
            | none => simp
            | some r =>
              have := stepF_length t l c _ _ _ h
              show r.length ≤ 1048576
              omega
          · simp
        · simp
      generalize (stepR t l c) = r at hS hI hr
      obtain ⟨r0, r1⟩ := r
      simp only at hr
      simp (disch := omega) only [toInt64S_eq, Option.bind_some, hS, hI, if_true, bne_self_eq_false, eqInt64S_self, Bool.false_eq_true, if_false, markInt64S_eq, heldInt64S_eq, not_neg, toTasks_eq, eqTasks_self, markTasks_eq]
      simp only [laws_FnExactStepState.j0]
      simp (disch := omega) only [toInt64S_eq, Option.bind_some, hS, hI, if_true, bne_self_eq_false, eqInt64S_self, Bool.false_eq_true, if_false, markInt64S_eq, heldInt64S_eq, not_neg, toTasks_eq, eqTasks_self, markTasks_eq]
      simp only [laws_FnExactStepState.j1]
      simp (disch := omega) only [toInt64S_eq, Option.bind_some, hS, hI, if_true, bne_self_eq_false, eqInt64S_self, Bool.false_eq_true, if_false, markInt64S_eq, heldInt64S_eq, not_neg, toTasks_eq, eqTasks_self, markTasks_eq]
      simp only [laws_FnExactStepState.j2]
      simp (disch := omega) only [toInt64S_eq, Option.bind_some, hS, hI, if_true, bne_self_eq_false, eqInt64S_self, Bool.false_eq_true, if_false, markInt64S_eq, heldInt64S_eq, not_neg, toTasks_eq, eqTasks_self, markTasks_eq]
    · rw [szTasks_big t (maxLen_le hmt) hlt, Option.bind_some, if_pos (by omega)]
  · rw [if_pos (by omega)]
end Go.Proofs.Ytcjcocffhljggaa.Pure
