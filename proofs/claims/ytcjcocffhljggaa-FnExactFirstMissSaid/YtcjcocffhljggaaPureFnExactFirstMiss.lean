/- For every list of gaps and every list of turns: the program's FirstMiss answers as the reference's does, and leaves its arguments as they were. -/
import Derived.Test.YtcjcocffhljggaaQV
import Derived.Test.YtcjcocffhljggaaX9
import Derived.Test.YtcjcocffhljggaaX28
import Derived.Test.YtcjcocffhljggaaX35
import Derived.Test.YtcjcocffhljggaaX51
import Derived.Test.YtcjcocffhljggaaX52
import Derived.Test.YtcjcocffhljggaaX53
import Derived.Test.YtcjcocffhljggaaX54
namespace Go.Proofs.Ytcjcocffhljggaa.Pure
set_option linter.unusedVariables false
set_option linter.unusedSimpArgs false
open Go.RowKit Go.Proofs.Ytcjcocffhljggaa.X Go.Proofs.YtcjcocffhljggaaW.PrintWords Go.Proofs.YtcjcocffhljggaaW.PrintLast
/-- whether a task i has a turn in n slots, from slot s + j on -/
def hasL (l : List Int) (s i : Nat) : Nat → Nat → Bool
  | 0, _ => false
  | n + 1, j => (rd l (((s + j) % l.length : Nat) : Int) == (i : Int)) || hasL l s i n (j + 1)
def missT (l t : List Int) (s : Nat) : Nat → Nat → Option (Int × Int × Int)
  | 0, _ => none
  | d + 1, i => if hasL l s i (rd t (i : Int)).toNat 0 = true then missT l t s d (i + 1) else some ((s : Int), (i : Int), 0)
def missL (l t : List Int) : Nat → Nat → Int × Int × Int
  | 0, _ => (0, 0, 4)
  | d + 1, s => match missT l t s t.length 0 with | some r => r | none => missL l t d (s + 1)
theorem tmod_nat (s j n : Nat) (hs : s < n) (hn : n ≤ 1048576) (hj : j ≤ 1048576) : Int.tmod (wrap64 ((s : Int) + (j : Int))) (n : Int) = (((s + j) % n : Nat) : Int) := by
  rw [wrap64_id (by omega) (by omega), show (s : Int) + (j : Int) = ((s + j : Nat) : Int) by omega, ← Int.ofNat_tmod]
theorem specMiss_l2 (l t : List Int) (hl : l.length ≤ 120) (s i : Nat) (hs : s < l.length) (hi : i < t.length) (hg : 0 ≤ rd t (i : Int) ∧ rd t (i : Int) ≤ 40) : ∀ (d j k : Nat) (b : Bool), (j : Int) + (d : Int) = rd t (i : Int) → d < k →
    spec_FirstMiss.l2 k l (s : Int) (i : Int) b (j : Int) t = if (b || hasL l s i d j) = true then spec_FirstMiss.l1 (k - 1 - d) l (s : Int) (wrap64 ((i : Int) + 1)) t else some ((s : Int), (i : Int), 0) := by
  intro d
  induction d with
  | zero =>
    intro j k b hj hk
    obtain ⟨k, rfl⟩ : ∃ m, k = m + 1 := ⟨k - 1, by omega⟩
    simp only [spec_FirstMiss.l2]
    rw [if_pos (by omega), if_pos (by omega), if_neg (by omega), show hasL l s i 0 j = false from rfl]
    cases b <;> simp
  | succ d ih =>
    intro j k b hj hk
    obtain ⟨k, rfl⟩ : ∃ m, k = m + 1 := ⟨k - 1, by omega⟩
    have hlt : (s + j) % l.length < l.length := Nat.mod_lt _ (by omega)
    have eh : hasL l s i (d + 1) j = ((rd l (((s + j) % l.length : Nat) : Int) == (i : Int)) || hasL l s i d (j + 1)) := rfl
    simp only [spec_FirstMiss.l2]
    rw [if_pos (by omega), if_pos (by omega), if_pos (by omega), wrap_succ (n := 100) (by omega) (by omega), eh]
    cases b with
    | true =>
      rw [if_pos rfl, ih (j + 1) k true (by omega) (by omega), show k + 1 - 1 - (d + 1) = k - 1 - d by omega]
      rw [Bool.true_or, Bool.true_or]
    | false =>
      rw [if_neg (by simp), if_neg (by omega), tmod_nat s j l.length hs (by omega) (by omega), if_pos (by omega), if_pos (by omega), ih (j + 1) k _ (by omega) (by omega)]
      rw [show k + 1 - 1 - (d + 1) = k - 1 - d by omega, Bool.false_or]
theorem specMiss_l1 (l t : List Int) (hl : l.length ≤ 120) (ht : t.length ≤ 8) (s : Nat) (hs : s < l.length) (hg : ∀ x ∈ t, 1 ≤ x ∧ x ≤ 40) : ∀ (d i k : Nat), i + d = t.length → 50 * d + 1 < k →
    ∃ k', k ≤ k' + 50 * d + 1 ∧ spec_FirstMiss.l1 k l (s : Int) (i : Int) t = match missT l t s d i with | some r => some r | none => spec_FirstMiss.l0 k' l (wrap64 ((s : Int) + 1)) t := by
  intro d
  induction d with
  | zero =>
    intro i k hi hk
    obtain ⟨k, rfl⟩ : ∃ m, k = m + 1 := ⟨k - 1, by omega⟩
    refine ⟨k, by omega, ?_⟩
    simp only [spec_FirstMiss.l1, missT]
    rw [spec_l01K.f, Option.bind_some, if_neg (by omega)]
  | succ d ih =>
    intro i k hi hk
    obtain ⟨k, rfl⟩ : ∃ m, k = m + 1 := ⟨k - 1, by omega⟩
    have hgi := hg _ (rd_in t i (by omega))
    have e := specMiss_l2 l t hl s i hs (by omega) (by omega) (rd t (i : Int)).toNat 0 k false (by omega) (by omega)
    simp only [Int.natCast_zero, Bool.false_or] at e
    simp only [spec_FirstMiss.l1, missT]
    rw [spec_l01K.f, Option.bind_some, if_pos (by omega), e]
    by_cases h : hasL l s i (rd t (i : Int)).toNat 0 = true
    · rw [if_pos h, if_pos h, wrap_succ (n := t.length) (by omega) (by omega)]
      obtain ⟨k', hk', e'⟩ := ih (i + 1) (k - 1 - (rd t (i : Int)).toNat) (by omega) (by omega)
      exact ⟨k', by omega, e'⟩
    · rw [if_neg h, if_neg h]
      exact ⟨k, by omega, rfl⟩
theorem specMiss_l0 (l t : List Int) (hl : l.length ≤ 120) (ht : t.length ≤ 8) (hg : ∀ x ∈ t, 1 ≤ x ∧ x ≤ 40) : ∀ (d s k : Nat), s + d = l.length → 1000 * d + 1 < k → spec_FirstMiss.l0 k l (s : Int) t = some (missL l t d s) := by
  intro d
  induction d with
  | zero =>
    intro s k hi hk
    obtain ⟨k, rfl⟩ : ∃ m, k = m + 1 := ⟨k - 1, by omega⟩
    simp only [spec_FirstMiss.l0]
    rw [if_neg (by omega)]
    rfl
  | succ d ih =>
    intro s k hi hk
    obtain ⟨k, rfl⟩ : ∃ m, k = m + 1 := ⟨k - 1, by omega⟩
    obtain ⟨k', hk', e⟩ := specMiss_l1 l t hl ht s (by omega) hg t.length 0 k (by omega) (by omega)
    simp only [Int.natCast_zero] at e
    simp only [spec_FirstMiss.l0, missL]
    rw [if_pos (by omega), e]
    cases missT l t s t.length 0 with
    | some r => rfl
    | none =>
      simp only
      rw [wrap_succ (n := l.length) (by omega) (by omega)]
      exact ih (s + 1) k' (by omega) (by omega)
theorem misses_l0 (l : List Int) (hl : l.length ≤ 120) (s i : Nat) (hs : s < l.length) (g : Int) (hg : g ≤ 40) : ∀ (d j k : Nat), (j : Int) + (d : Int) = g → d < k → impl_Tasks_misses.l0 k l (s : Int) (i : Int) g (j : Int) = some (!hasL l s i d j) := by
  intro d
  induction d with
  | zero =>
    intro j k hj hk
    obtain ⟨k, rfl⟩ : ∃ m, k = m + 1 := ⟨k - 1, by omega⟩
    simp only [impl_Tasks_misses.l0, hasL]
    rw [if_neg (by omega)]
    rfl
  | succ d ih =>
    intro j k hj hk
    obtain ⟨k, rfl⟩ : ∃ m, k = m + 1 := ⟨k - 1, by omega⟩
    have hlt : (s + j) % l.length < l.length := Nat.mod_lt _ (by omega)
    simp only [impl_Tasks_misses.l0, hasL]
    rw [if_pos (by omega), impl_length_int64.f, Option.bind_some, if_neg (by omega), tmod_nat s j l.length hs (by omega) (by omega), if_pos (by omega), if_pos (by omega), wrap_succ (n := 100) (by omega) (by omega), ih (j + 1) k (by omega) (by omega)]
    by_cases h : rd l (((s + j) % l.length : Nat) : Int) = (i : Int)
    · rw [if_pos h, show (rd l (((s + j) % l.length : Nat) : Int) == (i : Int)) = true from beq_iff_eq.mpr h]
      rfl
    · rw [if_neg h, show (rd l (((s + j) % l.length : Nat) : Int) == (i : Int)) = false from beq_eq_false_iff_ne.mpr h, Bool.false_or]
theorem implMiss_l1 (l t : List Int) (hl : l.length ≤ 120) (ht : t.length ≤ 8) (s : Nat) (hs : s < l.length) (hg : ∀ x ∈ t, 1 ≤ x ∧ x ≤ 40) : ∀ (d i k : Nat), i + d = t.length → d + 50 < k →
    impl_FirstMiss.l1 k l (s : Int) (l.length : Int) (s : Int) (t.length : Int) (i : Int) t = match missT l t s d i with | some r => some r | none => impl_FirstMiss.l0 (k - 1 - d) l (l.length : Int) (wrap64 ((s : Int) + 1)) t := by
  intro d
  induction d with
  | zero =>
    intro i k hi hk
    obtain ⟨k, rfl⟩ : ∃ m, k = m + 1 := ⟨k - 1, by omega⟩
    simp only [impl_FirstMiss.l1, missT]
    rw [if_neg (by omega)]
    rfl
  | succ d ih =>
    intro i k hi hk
    obtain ⟨k, rfl⟩ : ∃ m, k = m + 1 := ⟨k - 1, by omega⟩
    have hgi := hg _ (rd_in t i (by omega))
    have e := misses_l0 l hl s i hs (rd t (i : Int)) (by omega) (rd t (i : Int)).toNat 0 k (by omega) (by omega)
    simp only [Int.natCast_zero] at e
    simp only [impl_FirstMiss.l1, missT]
    rw [if_pos (by omega), impl_Tasks_misses.f, if_pos (by omega), if_pos (by omega), e, Option.bind_some]
    by_cases h : hasL l s i (rd t (i : Int)).toNat 0 = true
    · rw [h, if_neg (by simp), if_pos rfl, wrap_succ (n := t.length) (by omega) (by omega), ih (i + 1) k (by omega) (by omega)]
      rw [show k + 1 - 1 - (d + 1) = k - 1 - d by omega]
    · simp only [Bool.not_eq_true] at h
      rw [h, if_pos (show (!false) = true from rfl), if_neg (by simp)]
theorem implMiss_l0 (l t : List Int) (hl : l.length ≤ 120) (ht : t.length ≤ 8) (hg : ∀ x ∈ t, 1 ≤ x ∧ x ≤ 40) : ∀ (d s k : Nat), s + d = l.length → 100 * d + 100 < k → impl_FirstMiss.l0 k l (l.length : Int) (s : Int) t = some (missL l t d s) := by
  intro d
  induction d with
  | zero =>
    intro s k hi hk
    obtain ⟨k, rfl⟩ : ∃ m, k = m + 1 := ⟨k - 1, by omega⟩
    simp only [impl_FirstMiss.l0]
    rw [if_neg (by omega)]
    rfl
  | succ d ih =>
    intro s k hi hk
    obtain ⟨k, rfl⟩ : ∃ m, k = m + 1 := ⟨k - 1, by omega⟩
    have e := implMiss_l1 l t hl ht s (by omega) hg t.length 0 k (by omega) (by omega)
    simp only [Int.natCast_zero] at e
    simp only [impl_FirstMiss.l0, missL]
    rw [if_pos (by omega), impl_Tasks_many.f, impl_length_int64.f, Option.bind_some, Option.bind_some, e]
    cases missT l t s t.length 0 with
    | some r => rfl
    | none =>
      simp only
      rw [wrap_succ (n := l.length) (by omega) (by omega)]
      exact ih (s + 1) _ (by omega) (by omega)
theorem FnExactFirstMiss : laws_FnExactFirstMiss.Pure := by
  intro t l hmt hwt hml hyl hwl
  refine ⟨4000010, ?_⟩
  unfold laws_FnExactFirstMiss.f
  by_cases hll : l.length ≤ 1048576
  · rw [if_neg (by omega)]
    by_cases hlt : t.length ≤ 1048576
    · rw [szTasks_ok t hlt, Option.bind_some, if_neg (by omega)]
      have hS : ∀ k, 3000000 < k → spec_FirstMiss.f k t l = some (if codeB t l = 0 then missL l t l.length 0 else (0, 0, codeB t l)) := by
        intro k hk
        unfold spec_FirstMiss.f
        rw [l01Code_eq t l hlt hll k (by omega), Option.bind_some]
        by_cases h : codeB t l = 0
        · have hz := code_zero h
          have h1 := isTasks_len hz.1
          have h2 := areTurns_len hz.2
          have := specMiss_l0 l t (by omega) (by omega) (isTasks_mem hz.1) l.length 0 k (by omega) (by omega)
          simp only [Int.natCast_zero] at this
          rw [if_pos h, if_pos h, this]
        · rw [if_neg h, if_neg h]
      have hI : ∀ k, 3000000 < k → impl_FirstMiss.f k t l = some (if codeB t l = 0 then missL l t l.length 0 else (0, 0, codeB t l)) := by
        intro k hk
        unfold impl_FirstMiss.f
        rw [turnsCode_f, Option.bind_some]
        by_cases h : codeB t l = 0
        · have hz := code_zero h
          have h1 := isTasks_len hz.1
          have h2 := areTurns_len hz.2
          have := implMiss_l0 l t (by omega) (by omega) (isTasks_mem hz.1) l.length 0 k (by omega) (by omega)
          simp only [Int.natCast_zero] at this
          rw [if_pos h, if_pos h, impl_length_int64.f, Option.bind_some, this]
        · rw [if_neg h, if_neg h]
      generalize (if codeB t l = 0 then missL l t l.length 0 else (0, 0, codeB t l)) = r at hS hI
      obtain ⟨r0, r1, r2⟩ := r
      simp (disch := omega) only [toInt64S_eq, Option.bind_some, hS, hI, if_true, bne_self_eq_false, eqInt64S_self, Bool.false_eq_true, if_false, toTasks_eq, eqTasks_self]
      simp only [laws_FnExactFirstMiss.j0]
      simp (disch := omega) only [toInt64S_eq, Option.bind_some, hS, hI, if_true, bne_self_eq_false, eqInt64S_self, Bool.false_eq_true, if_false, toTasks_eq, eqTasks_self]
    · rw [szTasks_big t (maxLen_le hmt) hlt, Option.bind_some, if_pos (by omega)]
  · rw [if_pos (by omega)]
end Go.Proofs.Ytcjcocffhljggaa.Pure
