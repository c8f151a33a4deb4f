/- For every list of gaps and every list of numbers: the program's RenumberTasks answers as the reference's does, leaves its arguments as they were, and shares no memory. -/
import Derived.Test.YtjaanhnmgipmeaaQT
import Derived.Test.YtjaanhnmgipmeaaQH
import Derived.Test.YtjaanhnmgipmeaaX2
import Derived.Test.YtjaanhnmgipmeaaX7
import Derived.Test.YtjaanhnmgipmeaaX9
import Derived.Test.YtjaanhnmgipmeaaX17
import Derived.Test.YtjaanhnmgipmeaaX18
import Derived.Test.YtjaanhnmgipmeaaX19
import Derived.Test.YtjaanhnmgipmeaaX20
import Derived.Test.YtjaanhnmgipmeaaX21
namespace Go.Proofs.Ytjaanhnmgipmeaa.Pure
set_option linter.unusedVariables false
set_option linter.unusedSimpArgs false
open Go.RowKit Go.Proofs.Ytjaanhnmgipmeaa.X Go.Proofs.YtjaanhnmgipmeaaW.PrintWords Go.Proofs.YtjaanhnmgipmeaaW.PrintLast
def nodF (seen : List Int) : List Int → Bool
  | [] => true
  | x :: r => (!(decide (x ∈ seen))) && nodF (seen ++ [x]) r
def ordF (n : Int) (seen : List Int) : List Int → Bool
  | [] => true
  | x :: r => withinB x 0 (wrap64 (n - 1)) && ((!(decide (x ∈ seen))) && ordF n (seen ++ [x]) r)
theorem ordF_eq (n : Int) : ∀ (r seen : List Int), ordF n seen r = ((r.all fun i => withinB i 0 (wrap64 (n - 1))) && nodF seen r)
  | [], _ => rfl
  | x :: r, seen => by
    simp only [ordF, nodF, List.all_cons]
    rw [ordF_eq n r]
    cases withinB x 0 (wrap64 (n - 1)) <;> cases decide (x ∈ seen) <;> simp
theorem any_key (x : Int) : ∀ l : List Int, (keyL l).any (fun y : Lit => y.sameKey (.int .i64 x)) = decide (x ∈ l)
  | [] => by simp [keyL]
  | a :: r => by
    have ih := any_key x r
    unfold keyL at ih ⊢
    rw [List.map_cons, List.any_cons, ih]
    show (decide (IntKind.i64 = IntKind.i64 ∧ a = x) || decide (x ∈ r)) = _
    by_cases e : a = x
    · subst e; simp
    · have e' : ¬ x = a := fun h => e h.symm
      simp [e, e']
theorem nod_count : ∀ (r seen : List Int), ((keyL r).foldl Go.Maps.addKey (keyL seen)).length ≤ seen.length + r.length ∧ (((keyL r).foldl Go.Maps.addKey (keyL seen)).length = seen.length + r.length ↔ nodF seen r = true)
  | [], seen => by simp [keyL, nodF]
  | x :: r, seen => by
    have e : (keyL (x :: r)).foldl Go.Maps.addKey (keyL seen) = (keyL r).foldl Go.Maps.addKey (Go.Maps.addKey (keyL seen) (.int .i64 x)) := rfl
    rw [e]
    unfold Go.Maps.addKey
    rw [any_key]
    by_cases h : x ∈ seen
    · have ih := nod_count r seen
      rw [if_pos (decide_eq_true h)]
      simp only [nodF, decide_eq_true h, Bool.not_true, Bool.false_and, List.length_cons]
      unfold Go.Maps.addKey at ih
      refine ⟨by omega, ⟨fun z => by omega, fun z => absurd z Bool.false_ne_true⟩⟩
    · have ih := nod_count r (seen ++ [x])
      rw [if_neg (by rw [decide_eq_false h]; exact Bool.false_ne_true)]
      have e2 : keyL seen ++ [Lit.int .i64 x] = keyL (seen ++ [x]) := by unfold keyL; rw [List.map_append]; rfl
      rw [e2]
      unfold Go.Maps.addKey at ih
      simp only [nodF, decide_eq_false h, Bool.not_false, Bool.true_and, List.length_cons]
      rw [List.length_append, List.length_singleton] at ih
      exact ⟨by omega, by rw [← ih.2]; constructor <;> intro z <;> omega⟩
theorem sizeL_nod (l : List Int) : decide (sizeL l = l.length) = nodF [] l := by
  have h := Go.Maps.size_setOf (H := Unit) (.lit (.bool true)) (keyL l) (fun x hx => by unfold keyL at hx; obtain ⟨_, _, rfl⟩ := List.mem_map.1 hx; trivial)
  have e : sizeL l = ((keyL l).foldl Go.Maps.addKey (keyL [])).length := h
  have c := (nod_count l []).2
  rw [← e, List.length_nil, Nat.zero_add] at c
  rw [Bool.eq_iff_iff, decide_eq_true_iff]
  exact c
theorem isOrderB_ord (l : List Int) (n : Int) : isOrderB l n = (ordF n [] l && ((l.length : Int) == n)) := by
  unfold isOrderB
  rw [sizeL_nod, ordF_eq]
  have : decide ((l.length : Int) = n) = ((l.length : Int) == n) := by
    rw [Bool.eq_iff_iff, decide_eq_true_iff, beq_iff_eq]
  rw [this]
  cases (l.all fun i => withinB i 0 (wrap64 (n - 1))) <;> cases nodF [] l <;> cases ((l.length : Int) == n) <;> rfl
theorem rdOf_set (met : List Bool) (a b : Int) (ha : 0 ≤ a) (ha2 : a < (met.length : Int)) (hb : 0 ≤ b) : rdOf false (met.set a.toNat true) b = (decide (b = a) || rdOf false met b) := by
  unfold rdOf
  rw [List.getD_eq_getElem?_getD, List.getD_eq_getElem?_getD, List.getElem?_set]
  by_cases e : b = a
  · subst e
    rw [if_pos rfl, if_pos (by omega)]
    simp
  · rw [if_neg (by omega)]
    simp [e]
theorem l01Order_l0 (p : List Int) (n : Nat) (hn : n ≤ 8) (hp : p.length ≤ 1048576) : ∀ (d i k : Nat) (met : List Bool), i + d = p.length → d < k → met.length = n → (∀ x : Int, 0 ≤ x → x < (n : Int) → rdOf false met x = decide (x ∈ p.take i)) → spec_l01Order.l0 k p (n : Int) met (i : Int) = some (ordF (n : Int) (p.take i) (p.drop i) && ((p.length : Int) == (n : Int))) := by
  intro d
  induction d with
  | zero =>
    intro i k met hi hk hm hx
    obtain ⟨k, rfl⟩ : ∃ m, k = m + 1 := ⟨k - 1, by omega⟩
    simp only [spec_l01Order.l0]
    rw [if_neg (by omega), List.drop_of_length_le (by omega)]
    rfl
  | succ d ih =>
    intro i k met hi hk hm hx
    obtain ⟨k, rfl⟩ : ∃ m, k = m + 1 := ⟨k - 1, by omega⟩
    simp only [spec_l01Order.l0]
    rw [if_pos (by omega), if_pos (by omega), l01In_f, Option.bind_some, drop_rd p i (by omega)]
    simp only [ordF]
    by_cases h : withinB (rd p (i : Int)) 0 (wrap64 ((n : Int) - 1)) = true
    · have hw := h
      unfold withinB at hw
      rw [wrap64_id (by omega) (by omega)] at hw
      simp only [Bool.and_eq_true, decide_eq_true_eq] at hw
      rw [if_pos h, if_pos (by omega), if_pos (by omega), hx _ (by omega) (by omega), h, Bool.true_and]
      by_cases h2 : rd p (i : Int) ∈ p.take i
      · rw [decide_eq_true h2, if_pos rfl]
        rfl
      · rw [decide_eq_false h2, if_neg Bool.false_ne_true, wrap_succ (n := p.length) (by omega) (by omega), ih (i + 1) k _ (by omega) (by omega) (by rw [List.length_set]; exact hm) ?_, take_rd p i (by omega), Bool.not_false, Bool.true_and]
        intro x hx0 hx1
        rw [rdOf_set met _ _ (by omega) (by omega) hx0, hx x hx0 hx1, take_rd p i (by omega), Bool.eq_iff_iff, Bool.or_eq_true, decide_eq_true_iff, decide_eq_true_iff, decide_eq_true_iff, List.mem_append, List.mem_singleton]
        exact Or.comm
    · rw [if_neg h]
      simp only [Bool.not_eq_true] at h
      rw [h]
      rfl
theorem l01Order_eq (p : List Int) (n : Nat) (hn : n ≤ 8) (hp : p.length ≤ 1048576) (k : Nat) (hk : p.length < k) : spec_l01Order.f k p (n : Int) = some (isOrderB p (n : Int)) := by
  unfold spec_l01Order.f
  have := l01Order_l0 p n hn hp p.length 0 k (List.replicate n false) (by omega) hk (by simp) (fun x h0 h1 => by unfold rdOf; rw [List.getD_eq_getElem?_getD, List.getElem?_replicate]; split <;> simp)
  simp only [Int.natCast_zero, List.take_zero, List.drop_zero] at this
  rw [if_pos (by omega), if_pos (by omega), toNat_nat, this, isOrderB_ord]
/-- gaps under their new numbers -/
def rnF (t p : List Int) : Nat → Nat → List Int → List Int
  | 0, _, out => out
  | d + 1, i, out => rnF t p d (i + 1) (out.set (rd p (i : Int)).toNat (rd t (i : Int)))
theorem rnF_length (t p : List Int) : ∀ (d i : Nat) (out : List Int), (rnF t p d i out).length = out.length
  | 0, _, _ => rfl
  | d + 1, i, out => by rw [rnF, rnF_length t p d, List.length_set]
theorem specR_l0 (t p : List Int) (hp : p.length ≤ 8) (hl : p.length = t.length) (hr : ∀ x ∈ p, 0 ≤ x ∧ x < (t.length : Int)) : ∀ (d i k : Nat) (out : List Int), i + d = p.length → d < k → out.length = t.length → spec_RenumberTasks.l0 k p (i : Int) t out = some (rnF t p d i out, 0) := by
  intro d
  induction d with
  | zero =>
    intro i k out hi hk ho
    obtain ⟨k, rfl⟩ : ∃ m, k = m + 1 := ⟨k - 1, by omega⟩
    simp only [spec_RenumberTasks.l0, rnF]
    rw [if_neg (by omega)]
  | succ d ih =>
    intro i k out hi hk ho
    obtain ⟨k, rfl⟩ : ∃ m, k = m + 1 := ⟨k - 1, by omega⟩
    have hx := hr _ (rd_in p i (by omega))
    simp only [spec_RenumberTasks.l0, rnF]
    rw [if_pos (by omega), if_pos (by omega), if_pos (by omega), if_pos (by omega), if_pos (by omega), wrap_succ (n := p.length) (by omega) (by omega), ih (i + 1) k _ (by omega) (by omega) (by rw [List.length_set]; exact ho)]
theorem implR_l0 (t p : List Int) (hp : p.length ≤ 8) (hl : p.length = t.length) (hr : ∀ x ∈ p, 0 ≤ x ∧ x < (t.length : Int)) : ∀ (d i k : Nat) (out : List Int), i + d = p.length → d < k → out.length = t.length → impl_RenumberTasks.l0 k out p (p.length : Int) (i : Int) t = some (rnF t p d i out, 0) := by
  intro d
  induction d with
  | zero =>
    intro i k out hi hk ho
    obtain ⟨k, rfl⟩ : ∃ m, k = m + 1 := ⟨k - 1, by omega⟩
    simp only [impl_RenumberTasks.l0, rnF]
    rw [if_neg (by omega)]
  | succ d ih =>
    intro i k out hi hk ho
    obtain ⟨k, rfl⟩ : ∃ m, k = m + 1 := ⟨k - 1, by omega⟩
    have hx := hr _ (rd_in p i (by omega))
    simp only [impl_RenumberTasks.l0, rnF]
    rw [if_pos (by omega), if_pos (by omega), if_pos (by omega), if_pos (by omega), if_pos (by omega), if_pos (by omega), wrap_succ (n := p.length) (by omega) (by omega), ih (i + 1) k _ (by omega) (by omega) (by rw [List.length_set]; exact ho)]
theorem order_facts {p : List Int} {n : Nat} (hn : n ≤ 8) (h : isOrderB p (n : Int) = true) : p.length = n ∧ ∀ x ∈ p, 0 ≤ x ∧ x < (n : Int) := by
  unfold isOrderB at h
  simp only [Bool.and_eq_true, decide_eq_true_eq, List.all_eq_true] at h
  refine ⟨by omega, fun x hx => ?_⟩
  have := h.1 x hx
  unfold withinB at this
  rw [wrap64_id (by omega) (by omega)] at this
  simp only [Bool.and_eq_true, decide_eq_true_eq] at this
  omega
theorem FnExactRenumberTasks : laws_FnExactRenumberTasks.Pure := by
  intro t p hmt hwt hmp hyp hwp
  refine ⟨4000010, ?_⟩
  unfold laws_FnExactRenumberTasks.f
  by_cases hlp : p.length ≤ 1048576
  · rw [if_neg (by omega)]
    by_cases hlt : t.length ≤ 1048576
    · rw [szTasks_ok t hlt, Option.bind_some, if_neg (by omega)]
      have hS : ∀ k, 3000000 < k → spec_RenumberTasks.f k t p = some (if isTasksB t = true then (if isOrderB p (t.length : Int) = true then (rnF t p p.length 0 (List.replicate t.length 0), (0 : Int)) else ([], 2)) else ([], 1)) := by
        intro k hk
        unfold spec_RenumberTasks.f
        rw [l01Is_eq t (by omega) k (by omega), Option.bind_some]
        by_cases h1 : isTasksB t = true
        · have h3 := isTasks_len h1
          rw [if_pos h1, if_pos h1, spec_l01K.f, Option.bind_some, l01Order_eq p t.length (by omega) hlp k (by omega), Option.bind_some]
          by_cases h2 : isOrderB p (t.length : Int) = true
          · obtain ⟨h4, h5⟩ := order_facts (by omega) h2
            have := specR_l0 t p (by omega) h4 h5 p.length 0 k (List.replicate t.length 0) (by omega) (by omega) (by simp)
            simp only [Int.natCast_zero] at this
            rw [if_pos h2, if_pos h2, if_pos (by omega), if_pos (by omega), toNat_nat, show List.replicate p.length (0 : Int) = List.replicate t.length 0 by rw [h4], this]
          · rw [if_neg h2, if_neg h2]
        · rw [if_neg h1, if_neg h1]
      have hI : ∀ k, 3000000 < k → impl_RenumberTasks.f k t p = some (if isTasksB t = true then (if isOrderB p (t.length : Int) = true then (rnF t p p.length 0 (List.replicate t.length 0), (0 : Int)) else ([], 2)) else ([], 1)) := by
        intro k hk
        unfold impl_RenumberTasks.f
        rw [impl_Tasks_many.f, impl_length_int64.f, Option.bind_some, Option.bind_some, impl_isOrder.f, Option.bind_some, tasksCode_f, Option.bind_some]
        by_cases h1 : isTasksB t = true
        · have h3 := isTasks_len h1
          rw [if_pos h1, if_pos h1]
          by_cases h2 : isOrderB p (t.length : Int) = true
          · obtain ⟨h4, h5⟩ := order_facts (by omega) h2
            have := implR_l0 t p (by omega) h4 h5 p.length 0 k (List.replicate t.length 0) (by omega) (by omega) (by simp)
            simp only [Int.natCast_zero] at this
            rw [if_pos h2, if_pos h2, if_pos rfl, Option.bind_some, if_pos (by omega), if_pos (by omega), toNat_nat, this]
          · rw [if_neg h2, if_neg h2, if_neg (by omega)]
        · rw [if_neg h1, if_neg h1, if_neg (by omega)]
      have hr : (if isTasksB t = true then (if isOrderB p (t.length : Int) = true then (rnF t p p.length 0 (List.replicate t.length 0), (0 : Int)) else ([], 2)) else ([], 1)).1.length ≤ 1048576 := by
        split
        · split
          · simpa [rnF_length] using hlt
          · simp
        · simp
      generalize (if isTasksB t = true then (if isOrderB p (t.length : Int) = true then (rnF t p p.length 0 (List.replicate t.length 0), (0 : Int)) else ([], 2)) else ([], 1)) = r at hS hI hr
      obtain ⟨r0, r1⟩ := r
      simp only at hr
      simp (disch := omega) only [toInt64S_eq, Option.bind_some, hS, hI, if_true, bne_self_eq_false, eqInt64S_self, Bool.false_eq_true, if_false, markInt64S_eq, heldInt64S_eq, not_neg, toTasks_eq, eqTasks_self, markTasks_eq, heldTasks_eq]
      simp only [laws_FnExactRenumberTasks.j0]
      simp (disch := omega) only [toInt64S_eq, Option.bind_some, hS, hI, if_true, bne_self_eq_false, eqInt64S_self, Bool.false_eq_true, if_false, markInt64S_eq, heldInt64S_eq, not_neg, toTasks_eq, eqTasks_self, markTasks_eq, heldTasks_eq]
      simp only [laws_FnExactRenumberTasks.j1]
      simp (disch := omega) only [toInt64S_eq, Option.bind_some, hS, hI, if_true, bne_self_eq_false, eqInt64S_self, Bool.false_eq_true, if_false, markInt64S_eq, heldInt64S_eq, not_neg, toTasks_eq, eqTasks_self, markTasks_eq, heldTasks_eq]
      simp only [laws_FnExactRenumberTasks.j2]
      simp (disch := omega) only [toInt64S_eq, Option.bind_some, hS, hI, if_true, bne_self_eq_false, eqInt64S_self, Bool.false_eq_true, if_false, markInt64S_eq, heldInt64S_eq, not_neg, toTasks_eq, eqTasks_self, markTasks_eq, heldTasks_eq]
    · rw [szTasks_big t (maxLen_le hmt) hlt, Option.bind_some, if_pos (by omega)]
  · rw [if_pos (by omega)]
end Go.Proofs.Ytjaanhnmgipmeaa.Pure
