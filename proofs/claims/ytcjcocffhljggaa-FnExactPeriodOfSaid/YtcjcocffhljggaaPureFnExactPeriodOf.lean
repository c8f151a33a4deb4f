/- For every list of turns: the program's PeriodOf answers as the reference's does, and leaves its argument as it was. -/
import Derived.Test.YtcjcocffhljggaaQS
import Derived.Test.YtcjcocffhljggaaX4
import Derived.Test.YtcjcocffhljggaaX29
import Derived.Test.YtcjcocffhljggaaX30
namespace Go.Proofs.Ytcjcocffhljggaa.Pure
set_option linter.unusedVariables false
set_option linter.unusedSimpArgs false
open Go.RowKit Go.Proofs.Ytcjcocffhljggaa.X Go.Proofs.YtcjcocffhljggaaW.PrintWords Go.Proofs.YtcjcocffhljggaaW.PrintLast
theorem ext_rd (x y : List Int) (hl : x.length = y.length) (h : ∀ p : Nat, p < x.length → rd x (p : Int) = rd y (p : Int)) : x = y := by
  refine List.ext_getElem hl fun p h1 h2 => ?_
  have := h p h1
  rw [rd_get x p h1, rd_get y p h2] at this
  exact this
theorem rd_shift (l : List Int) (n j : Nat) (hn : n ≤ l.length) (hj : j < l.length) : rd (shiftL l n) (j : Int) = if j < l.length - n then rd l ((j + n : Nat) : Int) else rd l ((j - (l.length - n) : Nat) : Int) := by
  unfold shiftL
  rw [rd_get _ j (by rw [List.length_append, List.length_drop, List.length_take]; omega), List.getElem_append]
  by_cases h : j < l.length - n
  · rw [dif_pos (by rw [List.length_drop]; exact h), if_pos h, rd_get l _ (by omega), List.getElem_drop]
    congr 1
    omega
  · rw [dif_neg (by rw [List.length_drop]; exact h), if_neg h, rd_get l _ (by omega), List.getElem_take]
    congr 1
    rw [List.length_drop]
theorem period_iter (l : List Int) (p : Nat) (h : ∀ m : Nat, p ≤ m → m < l.length → rd l (m : Int) = rd l ((m - p : Nat) : Int)) : ∀ (q j : Nat), q * p ≤ j → j < l.length → rd l (j : Int) = rd l ((j - q * p : Nat) : Int)
  | 0, j, _, _ => by simp
  | q + 1, j, h1, h2 => by
    rw [Nat.succ_mul] at h1
    rw [h j (by omega) h2, period_iter l p h q (j - p) (by omega) (by omega), Nat.succ_mul]
    rw [show j - p - q * p = j - (q * p + p) by omega]
theorem shift_iff (l : List Int) (p : Nat) (h1 : 1 ≤ p) (h2 : p ≤ l.length) (hd : l.length % p = 0) : shiftL l p = l ↔ ∀ m : Nat, p ≤ m → m < l.length → rd l (m : Int) = rd l ((m - p : Nat) : Int) := by
  constructor
  · intro h m hm1 hm2
    have := rd_shift l p (m - p) h2 (by omega)
    rw [if_pos (by omega), h, show m - p + p = m by omega] at this
    exact this.symm
  · intro h
    refine ext_rd _ _ (shiftL_length l p) fun j hj => ?_
    rw [shiftL_length] at hj
    rw [rd_shift l p j h2 hj]
    by_cases e : j < l.length - p
    · rw [if_pos e, h (j + p) (by omega) (by omega), show j + p - p = j by omega]
    · rw [if_neg e]
      obtain ⟨q, hq⟩ : ∃ q, l.length = p * q := ⟨l.length / p, by rw [Nat.mul_div_cancel' (Nat.dvd_of_mod_eq_zero hd)]⟩
      obtain ⟨q, rfl⟩ : ∃ m, q = m + 1 := ⟨q - 1, by
        rcases Nat.eq_zero_or_pos q with z | z
        · rw [z, Nat.mul_zero] at hq
          omega
        · omega⟩
      have hq2 : l.length - p = q * p := by rw [hq, Nat.mul_succ, Nat.mul_comm]; omega
      rw [hq2, ← period_iter l p h q j (by omega) hj]
def perB (l : List Int) (p : Nat) : Bool := decide (l.length % p = 0) && decide (shiftL l p = l)
/-- the least period from p on, d less than the length -/
def firstP (l : List Int) : Nat → Nat → Nat
  | 0, p => p
  | d + 1, p => if perB l p = true then p else firstP l d (p + 1)
theorem specP_l1 (l : List Int) (p : Nat) (hl : l.length ≤ 120) (h1 : 1 ≤ p) (h2 : p < l.length) : ∀ (d i k : Nat) (g : Bool), i + d = l.length → d < k → p ≤ i →
    ∃ k', k ≤ k' + d + 1 ∧ ∃ b : Bool, (b = true ↔ g = true ∧ ∀ m : Nat, i ≤ m → m < l.length → rd l (m : Int) = rd l ((m - p : Nat) : Int)) ∧ spec_l01Period.l1 k l (p : Int) g (i : Int) = if b = true then some (p : Int) else spec_l01Period.l0 k' l (wrap64 ((p : Int) + 1)) := by
  intro d
  induction d with
  | zero =>
    intro i k g hi hk hp
    obtain ⟨k, rfl⟩ : ∃ m, k = m + 1 := ⟨k - 1, by omega⟩
    refine ⟨k, by omega, g, ⟨fun h => ⟨h, fun m a b => by omega⟩, fun h => h.1⟩, ?_⟩
    simp only [spec_l01Period.l1]
    rw [if_neg (by omega)]
  | succ d ih =>
    intro i k g hi hk hp
    obtain ⟨k, rfl⟩ : ∃ m, k = m + 1 := ⟨k - 1, by omega⟩
    cases g with
    | false =>
      refine ⟨k, by omega, false, by simp, ?_⟩
      simp only [spec_l01Period.l1]
      rw [if_pos (by omega), if_neg (by simp), if_neg (by simp)]
    | true =>
      have e : wrap64 ((i : Int) - (p : Int)) = ((i - p : Nat) : Int) := by rw [wrap64_id (by omega) (by omega)]; omega
      obtain ⟨k', h3, b, hb, h4⟩ := ih (i + 1) k (rd l (i : Int) == rd l ((i - p : Nat) : Int)) (by omega) (by omega) (by omega)
      refine ⟨k', by omega, b, ?_, ?_⟩
      · rw [hb, beq_iff_eq]
        constructor
        · rintro ⟨a, c⟩
          refine ⟨rfl, fun m m1 m2 => ?_⟩
          by_cases em : m = i
          · rw [em]; exact a
          · exact c m (by omega) m2
        · rintro ⟨_, c⟩
          exact ⟨c i (by omega) (by omega), fun m m1 m2 => c m (by omega) m2⟩
      · simp only [spec_l01Period.l1]
        rw [if_pos (by omega), if_pos True.intro, if_pos (by omega), e, if_pos (by omega), if_pos (by omega), wrap_succ (n := l.length) (by omega) (by omega), h4]
theorem specP_l0 (l : List Int) (hl : l.length ≤ 120) : ∀ (d p k : Nat), p + d = l.length → 1 ≤ p → 200 * d + 1 < k → spec_l01Period.l0 k l (p : Int) = some ((firstP l d p : Nat) : Int) := by
  intro d
  induction d with
  | zero =>
    intro p k hi h1 hk
    obtain ⟨k, rfl⟩ : ∃ m, k = m + 1 := ⟨k - 1, by omega⟩
    simp only [spec_l01Period.l0, firstP]
    rw [if_neg (by omega)]
    congr 1
    omega
  | succ d ih =>
    intro p k hi h1 hk
    obtain ⟨k, rfl⟩ : ∃ m, k = m + 1 := ⟨k - 1, by omega⟩
    obtain ⟨k', h3, b, hb, h4⟩ := specP_l1 l p hl h1 (by omega) (l.length - p) p k ((l.length : Int) % (p : Int) == 0) (by omega) (by omega) (by omega)
    have hpb : b = perB l p := by
      rw [Bool.eq_iff_iff, hb, perB, Bool.and_eq_true, decide_eq_true_eq, decide_eq_true_eq, beq_iff_eq]
      have hc : (l.length : Int) % (p : Int) = ((l.length % p : Nat) : Int) := by omega
      rw [hc]
      constructor
      · rintro ⟨a, c⟩
        have a' : l.length % p = 0 := by omega
        exact ⟨a', (shift_iff l p h1 (by omega) a').mpr c⟩
      · rintro ⟨a, c⟩
        exact ⟨by omega, (shift_iff l p h1 (by omega) a).mp c⟩
    simp only [spec_l01Period.l0, firstP]
    rw [if_pos (by omega), if_neg (by omega), h4, hpb, wrap_succ (n := l.length) (by omega) (by omega), ih (p + 1) k' (by omega) (by omega) (by omega)]
    by_cases e : perB l p = true
    · rw [if_pos e, if_pos e]
    · rw [if_neg e, if_neg e]
theorem equal_l0 (a b : List Int) (hl : a.length = b.length) (hm : a.length ≤ 1048576) : ∀ (d i k : Nat), i + d = a.length → d < k → slices_Equal_int64_int64.l0 k a b (a.length : Int) (i : Int) = some (decide (a.drop i = b.drop i)) := by
  intro d
  induction d with
  | zero =>
    intro i k hi hk
    obtain ⟨k, rfl⟩ : ∃ m, k = m + 1 := ⟨k - 1, by omega⟩
    simp only [slices_Equal_int64_int64.l0]
    rw [if_neg (by omega), List.drop_of_length_le (by omega), List.drop_of_length_le (by omega)]
    simp
  | succ d ih =>
    intro i k hi hk
    obtain ⟨k, rfl⟩ : ∃ m, k = m + 1 := ⟨k - 1, by omega⟩
    simp only [slices_Equal_int64_int64.l0]
    rw [if_pos (by omega), if_pos (by omega), if_pos (by omega), if_pos (by omega), wrap_succ (n := a.length) (by omega) (by omega), ih (i + 1) k (by omega) (by omega), drop_rd a i (by omega), drop_rd b i (by omega)]
    by_cases h : rd a (i : Int) = rd b (i : Int)
    · rw [if_pos h, h]
      simp
    · rw [if_neg h]
      simp [h]
theorem equal_eq (a b : List Int) (hl : a.length = b.length) (hm : a.length ≤ 1048576) (k : Nat) (hk : a.length < k) : slices_Equal_int64_int64.f k a b = some (decide (a = b)) := by
  unfold slices_Equal_int64_int64.f
  have := equal_l0 a b hl hm a.length 0 k (by omega) hk
  rw [if_pos (by omega)]
  simpa using this
theorem implP_l0 (l : List Int) (hl : l.length ≤ 120) (h0 : 1 ≤ l.length) : ∀ (d p k : Nat), p + d = l.length → 1 ≤ p → d + 200 < k → impl_PeriodOf.l0 k l (p : Int) = some (((firstP l d p : Nat) : Int), 0) := by
  intro d
  induction d with
  | zero =>
    intro p k hi h1 hk
    obtain ⟨k, rfl⟩ : ∃ m, k = m + 1 := ⟨k - 1, by omega⟩
    have hp : p = l.length := by omega
    have e1 : Int.tmod (l.length : Int) (l.length : Int) = 0 := Int.tmod_self
    have e2 : shiftL l l.length = l := by unfold shiftL; simp
    simp only [impl_PeriodOf.l0, firstP]
    rw [impl_length_int64.f, Option.bind_some, if_neg (by omega), hp, if_pos e1, shifted_eq l l.length (by omega) (by omega) k (by omega), Option.bind_some, equal_eq _ _ (shiftL_length l _) (by rw [shiftL_length]; omega) k (by rw [shiftL_length]; omega), Option.bind_some, if_pos (by rw [e2]; simp)]
  | succ d ih =>
    intro p k hi h1 hk
    obtain ⟨k, rfl⟩ : ∃ m, k = m + 1 := ⟨k - 1, by omega⟩
    have e1 : Int.tmod (l.length : Int) (p : Int) = ((l.length % p : Nat) : Int) := by rw [← Int.ofNat_tmod]
    simp only [impl_PeriodOf.l0, firstP]
    rw [impl_length_int64.f, Option.bind_some, if_neg (by omega), e1, wrap_succ (n := l.length) (by omega) (by omega), ih (p + 1) k (by omega) (by omega) (by omega)]
    by_cases h : l.length % p = 0
    · rw [if_pos (by omega), shifted_eq l p (by omega) (by omega) k (by omega), Option.bind_some, equal_eq _ _ (shiftL_length l _) (by rw [shiftL_length]; omega) k (by rw [shiftL_length]; omega), Option.bind_some]
      by_cases h2 : shiftL l p = l
      · rw [if_pos (decide_eq_true h2), if_pos (by unfold perB; rw [Bool.and_eq_true]; exact ⟨decide_eq_true h, decide_eq_true h2⟩)]
      · rw [if_neg (by simpa using h2), if_neg (by unfold perB; rw [Bool.and_eq_true]; intro z; exact h2 (of_decide_eq_true z.2))]
    · rw [if_neg (by omega), if_neg (by unfold perB; rw [Bool.and_eq_true]; intro z; exact h (of_decide_eq_true z.1))]
theorem FnExactPeriodOf : laws_FnExactPeriodOf.Pure := by
  intro l hml hyl hwl
  refine ⟨4000010, ?_⟩
  unfold laws_FnExactPeriodOf.f
  by_cases hll : l.length ≤ 1048576
  · rw [if_neg (by omega)]
    have hS : ∀ k, 3000000 < k → spec_PeriodOf.f k l = some (if areTurnsB l 8 = true then (((firstP l (l.length - 1) 1 : Nat) : Int), (0 : Int)) else (0, 2)) := by
      intro k hk
      unfold spec_PeriodOf.f
      rw [l01Turns_eq l 8 (by omega) k (by omega), Option.bind_some]
      by_cases h : areTurnsB l 8 = true
      · have hlen := areTurns_len h
        have := specP_l0 l (by omega) (l.length - 1) 1 k (by omega) (by omega) (by omega)
        simp only [Int.natCast_one] at this
        rw [if_pos h, if_pos h, spec_l01Period.f, this, Option.bind_some]
      · rw [if_neg h, if_neg h]
    have hI : ∀ k, 3000000 < k → impl_PeriodOf.f k l = some (if areTurnsB l 8 = true then (((firstP l (l.length - 1) 1 : Nat) : Int), (0 : Int)) else (0, 2)) := by
      intro k hk
      unfold impl_PeriodOf.f
      rw [impl_areTurns.f, Option.bind_some]
      by_cases h : areTurnsB l 8 = true
      · have hlen := areTurns_len h
        have := implP_l0 l (by omega) (by omega) (l.length - 1) 1 k (by omega) (by omega) (by omega)
        simp only [Int.natCast_one] at this
        rw [if_pos h, if_pos h, this]
      · rw [if_neg h, if_neg h]
    generalize (if areTurnsB l 8 = true then (((firstP l (l.length - 1) 1 : Nat) : Int), (0 : Int)) else (0, 2)) = r at hS hI
    obtain ⟨r0, r1⟩ := r
    simp (disch := omega) only [toInt64S_eq, Option.bind_some, hS, hI, if_true, bne_self_eq_false, eqInt64S_self, Bool.false_eq_true, if_false]
    simp only [laws_FnExactPeriodOf.j0]
    simp (disch := omega) only [toInt64S_eq, Option.bind_some, hS, hI, if_true, bne_self_eq_false, eqInt64S_self, Bool.false_eq_true, if_false]
  · rw [if_pos (by omega)]
end Go.Proofs.Ytcjcocffhljggaa.Pure
