/- For every list of gaps: the program's AreHarmonic answers as the reference's does and leaves its argument as it was. -/
import Derived.Test.YtfephoddgifapaaQB
import Derived.Test.YtfephoddgifapaaX2
import Derived.Test.YtfephoddgifapaaX4
import Derived.Test.YtfephoddgifapaaX6
namespace Go.Proofs.Ytfephoddgifapaa.Pure
set_option linter.unusedVariables false
set_option linter.unusedSimpArgs false
open Go.RowKit Go.Proofs.Ytfephoddgifapaa.X Go.Proofs.YtfephoddgifapaaW.PrintWords Go.Proofs.YtfephoddgifapaaW.PrintLast
def pairB (x y : Int) : Bool := decide (Int.tmod x y = 0) || decide (Int.tmod y x = 0)
theorem pairB_comm (x y : Int) : pairB x y = pairB y x := by unfold pairB; rw [Bool.or_comm]
theorem tmod_small (a b : Int) (ha : 1 ≤ a) (h : a < b) : Int.tmod a b = a := by
  rw [Int.tmod_eq_emod_of_nonneg (by omega), Int.emod_eq_of_lt (by omega) h]
theorem pair_iff (a b : Int) (ha : 1 ≤ a) (hb : 1 ≤ b) : (decide (Int.tmod (mx a b) (mn a b) = 0)) = pairB a b := by
  unfold pairB
  by_cases h : a < b
  · have e1 : mx a b = b := by unfold mx; omega
    have e2 : mn a b = a := by unfold mn; omega
    rw [e1, e2, tmod_small a b ha h, decide_eq_false (show ¬ a = 0 by omega), Bool.false_or]
  · have e1 : mx a b = a := by unfold mx; omega
    have e2 : mn a b = b := by unfold mn; omega
    rw [e1, e2]
    by_cases h2 : a = b
    · rw [h2, Bool.or_self]
    · rw [tmod_small b a hb (by omega), decide_eq_false (show ¬ b = 0 by omega), Bool.or_false]
def okB (t : List Int) (i : Nat) : Nat → Nat → Bool
  | 0, _ => true
  | d + 1, j => pairB (rd t (i : Int)) (rd t (j : Int)) && okB t i d (j + 1)
def allB (t : List Int) : Nat → Nat → Bool
  | 0, _ => true
  | d + 1, i => okB t i i 0 && allB t d (i + 1)
theorem okB_iff (t : List Int) (i : Nat) : ∀ (d j : Nat), okB t i d j = true ↔ ∀ m : Nat, j ≤ m → m < j + d → pairB (rd t (i : Int)) (rd t (m : Int)) = true := by
  intro d
  induction d with
  | zero => intro j; simp only [okB, true_iff]; intro m h1 h2; omega
  | succ d ih =>
    intro j
    simp only [okB]
    rw [Bool.and_eq_true, ih]
    constructor
    · rintro ⟨a, b⟩ m h1 h2
      by_cases e : m = j
      · rw [e]; exact a
      · exact b m (by omega) (by omega)
    · intro h
      exact ⟨h j (by omega) (by omega), fun m h1 h2 => h m (by omega) (by omega)⟩
theorem allB_iff (t : List Int) : ∀ (d i : Nat), allB t d i = true ↔ ∀ n : Nat, i ≤ n → n < i + d → ∀ m : Nat, m < n → pairB (rd t (n : Int)) (rd t (m : Int)) = true := by
  intro d
  induction d with
  | zero => intro i; simp only [allB, true_iff]; intro n h1 h2; omega
  | succ d ih =>
    intro i
    simp only [allB]
    rw [Bool.and_eq_true, ih, okB_iff]
    constructor
    · rintro ⟨a, b⟩ n h1 h2 m h3
      by_cases e : n = i
      · rw [e]; exact a m (by omega) (by omega)
      · exact b n (by omega) (by omega) m h3
    · intro h
      exact ⟨fun m h1 h2 => h i (by omega) (by omega) m (by omega), fun n h1 h2 m h3 => h n (by omega) (by omega) m h3⟩
theorem mem_rd (l : List Int) (x : Int) (h : x ∈ l) : ∃ j : Nat, j < l.length ∧ x = rd l (j : Int) := by
  obtain ⟨j, hj, rfl⟩ := List.getElem_of_mem h
  refine ⟨j, hj, ?_⟩
  unfold rd
  rw [Int.toNat_natCast, List.getD_eq_getElem?_getD, List.getElem?_eq_getElem hj]
  rfl
theorem harmonic_all (t : List Int) (ht : ∀ x ∈ t, 1 ≤ x ∧ x ≤ 40) : harmonicB t = allB t t.length 0 := by
  rw [Bool.eq_iff_iff, allB_iff]
  unfold harmonicB
  rw [List.all_eq_true]
  constructor
  · intro h n _ h2 m h3
    have hn := rd_in t n (by omega)
    have hm := rd_in t m (by omega)
    have := List.all_eq_true.mp (h _ hn) _ hm
    rw [pair_iff _ _ (ht _ hn).1 (ht _ hm).1] at this
    exact this
  · intro h a ha
    rw [List.all_eq_true]
    intro b hb
    rw [pair_iff _ _ (ht _ ha).1 (ht _ hb).1]
    obtain ⟨n, hn, rfl⟩ := mem_rd t a ha
    obtain ⟨m, hm, rfl⟩ := mem_rd t b hb
    rcases Nat.lt_trichotomy n m with e | e | e
    · rw [pairB_comm]
      exact h m (by omega) (by omega) n e
    · rw [e]
      unfold pairB
      rw [Int.tmod_self]
      rfl
    · exact h n (by omega) (by omega) m e
theorem specHm_l1 (t : List Int) (ht : ∀ x ∈ t, 1 ≤ x ∧ x ≤ 40) (hl : t.length ≤ 8) (i : Nat) (hi : i < t.length) : ∀ (d j k : Nat), j + d = i → d < k → ∃ k', k ≤ k' + d + 1 ∧ spec_l03Harmonic.l1 k (i : Int) (j : Int) t = if okB t i d j = true then spec_l03Harmonic.l0 k' (wrap64 ((i : Int) + 1)) t else some false := by
  intro d
  induction d with
  | zero =>
    intro j k hj hk
    obtain ⟨k, rfl⟩ : ∃ m, k = m + 1 := ⟨k - 1, by omega⟩
    refine ⟨k, by omega, ?_⟩
    simp only [spec_l03Harmonic.l1]
    rw [if_neg (by omega), if_pos (show okB t i 0 j = true from rfl)]
  | succ d ih =>
    intro j k hj hk
    obtain ⟨k, rfl⟩ : ∃ m, k = m + 1 := ⟨k - 1, by omega⟩
    obtain ⟨k', h1, h2⟩ := ih (j + 1) k (by omega) (by omega)
    have hni := ht _ (rd_in t i hi)
    have hnj := ht _ (rd_in t j (by omega))
    refine ⟨k', by omega, ?_⟩
    have e0 : okB t i (d + 1) j = (pairB (rd t (i : Int)) (rd t (j : Int)) && okB t i d (j + 1)) := rfl
    simp only [spec_l03Harmonic.l1]
    rw [if_pos (by omega), if_pos (by omega), if_pos (by omega), if_pos (by omega), if_pos (by omega), if_neg (by omega), wrap_succ (n := t.length) (by omega) (by omega)]
    by_cases a : Int.tmod (rd t (i : Int)) (rd t (j : Int)) = 0
    · rw [if_pos a, h2, e0, show pairB (rd t (i : Int)) (rd t (j : Int)) = true by unfold pairB; rw [decide_eq_true a, Bool.true_or], Bool.true_and]
    · rw [if_neg a, if_neg (by omega)]
      by_cases b : Int.tmod (rd t (j : Int)) (rd t (i : Int)) = 0
      · rw [if_pos b, h2, e0, show pairB (rd t (i : Int)) (rd t (j : Int)) = true by unfold pairB; rw [decide_eq_true b, Bool.or_true], Bool.true_and]
      · rw [if_neg b, e0, show pairB (rd t (i : Int)) (rd t (j : Int)) = false by unfold pairB; rw [decide_eq_false a, decide_eq_false b, Bool.or_self], Bool.false_and, if_neg (by simp)]
theorem specHm_l0 (t : List Int) (ht : ∀ x ∈ t, 1 ≤ x ∧ x ≤ 40) (hl : t.length ≤ 8) : ∀ (d i k : Nat), i + d = t.length → 20 * d + 1 < k → spec_l03Harmonic.l0 k (i : Int) t = some (allB t d i) := by
  intro d
  induction d with
  | zero =>
    intro i k hi hk
    obtain ⟨k, rfl⟩ : ∃ m, k = m + 1 := ⟨k - 1, by omega⟩
    simp only [spec_l03Harmonic.l0, allB]
    rw [if_neg (by omega)]
  | succ d ih =>
    intro i k hi hk
    obtain ⟨k, rfl⟩ : ∃ m, k = m + 1 := ⟨k - 1, by omega⟩
    obtain ⟨k', h1, h2⟩ := specHm_l1 t ht hl i (by omega) i 0 k (by omega) (by omega)
    simp only [Int.natCast_zero] at h2
    simp only [spec_l03Harmonic.l0, allB]
    rw [if_pos (by omega), h2, wrap_succ (n := t.length) (by omega) (by omega), ih (i + 1) k' (by omega) (by omega)]
    cases okB t i i 0 <;> simp
theorem FnExactAreHarmonic : laws_FnExactAreHarmonic.Pure := by
  intro t hmt hwt
  refine ⟨4000010, ?_⟩
  unfold laws_FnExactAreHarmonic.f
  by_cases hlt : t.length ≤ 1048576
  · rw [szTasks_ok t hlt, Option.bind_some, if_neg (by omega)]
    have hS : ∀ k, 3000000 < k → spec_AreHarmonic.f k t = some (if isTasksB t = true then (allB t t.length 0, (0 : Int)) else (false, 1)) := by
      intro k hk
      unfold spec_AreHarmonic.f spec_l03Harmonic.f
      rw [l01Is_eq t (by omega) k (by omega), Option.bind_some]
      by_cases h : isTasksB t = true
      · have hlen := isTasks_len h
        have := specHm_l0 t (isTasks_mem h) hlen.2 t.length 0 k (by omega) (by omega)
        simp only [Int.natCast_zero] at this
        rw [if_pos h, if_pos h, this, Option.bind_some]
      · rw [if_neg h, if_neg h]
    have hI : impl_AreHarmonic.f t = some (if isTasksB t = true then (allB t t.length 0, (0 : Int)) else (false, 1)) := by
      unfold impl_AreHarmonic.f impl_tasksCode.f impl_Tasks_isHarmonic.f
      rw [impl_IsTasks.f, Option.bind_some]
      by_cases h : isTasksB t = true
      · have h2 : (t.all fun x => decide (1 ≤ x)) = true := List.all_eq_true.mpr fun x hx => decide_eq_true (isTasks_mem h x hx).1
        rw [if_pos h, if_pos h, if_pos rfl, Option.bind_some, if_pos rfl, if_pos h2, Option.bind_some, harmonic_all t (isTasks_mem h)]
      · rw [if_neg h, if_neg h, Option.bind_some, if_neg (by omega)]
    generalize (if isTasksB t = true then (allB t t.length 0, (0 : Int)) else (false, 1)) = r at hS hI
    obtain ⟨r0, r1⟩ := r
    simp (disch := omega) only [toInt64S_eq, Option.bind_some, hS, hI, if_true, bne_self_eq_false, eqInt64S_self, Bool.false_eq_true, if_false, toTasks_eq, eqTasks_self]
    simp only [laws_FnExactAreHarmonic.j0]
    simp (disch := omega) only [toInt64S_eq, Option.bind_some, hS, hI, if_true, bne_self_eq_false, eqInt64S_self, Bool.false_eq_true, if_false, toTasks_eq, eqTasks_self]
  · rw [szTasks_big t (maxLen_le hmt) hlt, Option.bind_some, if_pos (by omega)]
end Go.Proofs.Ytfephoddgifapaa.Pure
