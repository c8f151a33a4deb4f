/- For every list of turns: the program's GreatestWaits answers as the reference's does, leaves its argument as it was, and shares no memory. -/
import Derived.Test.YtcjcocffhljggaaQG
import Derived.Test.YtcjcocffhljggaaX4
import Derived.Test.YtcjcocffhljggaaX20
import Derived.Test.YtcjcocffhljggaaX21
namespace Go.Proofs.Ytcjcocffhljggaa.Pure
set_option linter.unusedVariables false
set_option linter.unusedSimpArgs false
open Go.RowKit Go.Proofs.Ytcjcocffhljggaa.X Go.Proofs.YtcjcocffhljggaaW.PrintWords Go.Proofs.YtcjcocffhljggaaW.PrintLast
/-- the greatest waits of d tasks, from i on -/
def gwL (l : List Int) : Nat → Nat → List Int
  | 0, _ => []
  | d + 1, i => maxL (waitsL l (i : Int)) 0 :: gwL l d (i + 1)
theorem gwL_length (l : List Int) : ∀ d i, (gwL l d i).length = d
  | 0, _ => rfl
  | d + 1, i => by simp [gwL, gwL_length l d (i + 1)]
theorem specGW_l1 (l : List Int) (hl : l.length ≤ 120) (m : Int) (hm : -1 ≤ m ∧ m ≤ 7) : ∀ (d i k : Nat) (out : List Int), (i : Int) + (d : Int) = m + 1 → d + 200 < k → out.length = i → spec_GreatestWaits.l1 k l m out (i : Int) = some (out ++ gwL l d i, 0) := by
  intro d
  induction d with
  | zero =>
    intro i k out hi hk ho
    obtain ⟨k, rfl⟩ : ∃ m, k = m + 1 := ⟨k - 1, by omega⟩
    simp only [spec_GreatestWaits.l1, gwL]
    rw [if_neg (by omega)]
    simp
  | succ d ih =>
    intro i k out hi hk ho
    obtain ⟨k, rfl⟩ : ∃ m, k = m + 1 := ⟨k - 1, by omega⟩
    simp only [spec_GreatestWaits.l1, gwL]
    rw [if_pos (by omega), l01Greatest_eq l _ (by omega) k (by omega), Option.bind_some, if_pos (by omega), wrap_succ (n := 100) (by omega) (by omega), ih (i + 1) k _ (by omega) (by omega) (by simp [ho]), List.append_assoc]
    rfl
theorem specGW_l0 (l : List Int) (hl : l.length ≤ 120) (hb : ∀ a, -1 ≤ a → a ≤ 7 → -1 ≤ maxL l a ∧ maxL l a ≤ 7) (hbx : ∀ x ∈ l, -1 ≤ x ∧ x ≤ 7) : ∀ (d i k : Nat) (a : Int), i + d = l.length → d + 300 < k → -1 ≤ a → a ≤ 7 → maxL (l.drop i) a = maxL l (-1) → spec_GreatestWaits.l0 k l a [] (i : Int) = some (gwL l (maxL l (-1) + 1).toNat 0, 0) := by
  intro d
  induction d with
  | zero =>
    intro i k a hi hk h0 h1 he
    obtain ⟨k, rfl⟩ : ∃ m, k = m + 1 := ⟨k - 1, by omega⟩
    simp only [spec_GreatestWaits.l0]
    rw [List.drop_of_length_le (by omega)] at he
    have he : a = maxL l (-1) := he
    have := specGW_l1 l hl a (by omega) (a + 1).toNat 0 k [] (by omega) (by omega) rfl
    simp only [Int.natCast_zero, List.nil_append] at this
    rw [if_neg (by omega), this, he]
  | succ d ih =>
    intro i k a hi hk h0 h1 he
    obtain ⟨k, rfl⟩ : ∃ m, k = m + 1 := ⟨k - 1, by omega⟩
    have hx := hbx _ (rd_in l i (by omega))
    simp only [spec_GreatestWaits.l0]
    rw [if_pos (by omega), if_pos (by omega), wrap_succ (n := l.length) (by omega) (by omega)]
    rw [drop_rd l i (by omega)] at he
    refine ih (i + 1) k _ (by omega) (by omega) ?_ ?_ he
    · have := (mx_ge a (rd l (i : Int))).1
      omega
    · rcases mx_or a (rd l (i : Int)) with e | e <;> omega
theorem max_l0 (l : List Int) (hl : l.length ≤ 1048576) : ∀ (d i k : Nat) (a : Int), i + d = l.length → d < k → slices_Max_int64_int64.l0 k l a (i : Int) = some (maxL (l.drop i) a) := by
  intro d
  induction d with
  | zero =>
    intro i k a hi hk
    obtain ⟨k, rfl⟩ : ∃ m, k = m + 1 := ⟨k - 1, by omega⟩
    simp only [slices_Max_int64_int64.l0]
    rw [if_neg (by omega), List.drop_of_length_le (by omega)]
    rfl
  | succ d ih =>
    intro i k a hi hk
    obtain ⟨k, rfl⟩ : ∃ m, k = m + 1 := ⟨k - 1, by omega⟩
    simp only [slices_Max_int64_int64.l0]
    rw [if_pos (by omega), if_pos (by omega), wrap_succ (n := l.length) (by omega) (by omega), ih (i + 1) k _ (by omega) (by omega), drop_rd l i (by omega)]
    rfl
theorem max_eq (l : List Int) (hl : l.length ≤ 1048576) (h1 : 1 ≤ l.length) (lo : Int) (hlo : ∀ x ∈ l, lo ≤ x) (k : Nat) (hk : l.length < k) : slices_Max_int64_int64.f k l = some (maxL l lo) := by
  unfold slices_Max_int64_int64.f
  have e := max_l0 l hl (l.length - 1) 1 k (rd l 0) (by omega) (by omega)
  simp only [Int.natCast_one] at e
  rw [if_neg (by omega), if_pos (by omega), e]
  have h0 := hlo _ (rd_in l 0 (by omega))
  have hd := drop_rd l 0 (by omega)
  simp only [Int.natCast_zero, List.drop_zero, Nat.zero_add] at h0 hd
  congr 1
  rw [show maxL l lo = maxL (rd l 0 :: l.drop 1) lo by rw [← hd]]
  show maxL (l.drop 1) (rd l 0) = maxL (l.drop 1) (mx lo (rd l 0))
  have : mx lo (rd l 0) = rd l 0 := by
    unfold mx
    split
    · rfl
    · omega
  rw [this]
theorem implGW_l0 (l : List Int) (hl : l.length ≤ 120) (n : Nat) (hn : n ≤ 8) : ∀ (d i k : Nat) (out : List Int), i + d = n → d + 300 < k → out.length = i → impl_GreatestWaits.l0 k l out (n : Int) (i : Int) = some (out ++ gwL l d i, 0) := by
  intro d
  induction d with
  | zero =>
    intro i k out hi hk ho
    obtain ⟨k, rfl⟩ : ∃ m, k = m + 1 := ⟨k - 1, by omega⟩
    simp only [impl_GreatestWaits.l0, gwL]
    rw [if_neg (by omega)]
    simp
  | succ d ih =>
    intro i k out hi hk ho
    obtain ⟨k, rfl⟩ : ∃ m, k = m + 1 := ⟨k - 1, by omega⟩
    have hw := waitsL_length l (i : Int)
    simp only [impl_GreatestWaits.l0, gwL]
    rw [if_pos (by omega), waits_eq l _ (by omega) k (by omega), Option.bind_some, greatest_eq _ (by omega) k (by omega), Option.bind_some, if_pos (by omega), wrap_succ (n := n) (by omega) (by omega), ih (i + 1) k _ (by omega) (by omega) (by simp [ho]), List.append_assoc]
    rfl
theorem bounds (l : List Int) (h : areTurnsB l 8 = true) : (∀ x ∈ l, -1 ≤ x ∧ x ≤ 7) ∧ -1 ≤ maxL l (-1) ∧ maxL l (-1) ≤ 7 := by
  have hx : ∀ x ∈ l, -1 ≤ x ∧ x ≤ 7 := fun x hx => by
    have := areTurns_mem h x hx
    rw [wrap64_id (by omega) (by omega)] at this
    omega
  refine ⟨hx, maxL_ge l (-1), ?_⟩
  rcases maxL_in l (-1) with e | e
  · omega
  · exact (hx _ e).2
theorem FnExactGreatestWaits : laws_FnExactGreatestWaits.Pure := by
  intro l hml hyl hwl
  refine ⟨4000010, ?_⟩
  unfold laws_FnExactGreatestWaits.f
  by_cases hll : l.length ≤ 1048576
  · rw [if_neg (by omega)]
    have hS : ∀ k, 3000000 < k → spec_GreatestWaits.f k l = some (if areTurnsB l 8 = true then (gwL l (maxL l (-1) + 1).toNat 0, (0 : Int)) else ([], 2)) := by
      intro k hk
      unfold spec_GreatestWaits.f
      rw [l01Turns_eq l 8 (by omega) k (by omega), Option.bind_some]
      by_cases h : areTurnsB l 8 = true
      · have hb := bounds l h
        have hlen := areTurns_len h
        have := specGW_l0 l (by omega) (fun a h0 h1 => ⟨by have := maxL_ge l a; omega, by
          rcases maxL_in l a with e | e
          · omega
          · exact (hb.1 _ e).2⟩) hb.1 l.length 0 k (-1) (by omega) (by omega) (by omega) (by omega) rfl
        simp only [Int.natCast_zero] at this
        rw [if_pos h, if_pos h, this]
      · rw [if_neg h, if_neg h]
    have hI : ∀ k, 3000000 < k → impl_GreatestWaits.f k l = some (if areTurnsB l 8 = true then (gwL l (maxL l (-1) + 1).toNat 0, (0 : Int)) else ([], 2)) := by
      intro k hk
      unfold impl_GreatestWaits.f
      rw [impl_areTurns.f, Option.bind_some]
      by_cases h : areTurnsB l 8 = true
      · have hb := bounds l h
        have hlen := areTurns_len h
        have := implGW_l0 l (by omega) (maxL l (-1) + 1).toNat (by omega) (maxL l (-1) + 1).toNat 0 k [] (by omega) (by omega) rfl
        simp only [Int.natCast_zero, List.nil_append] at this
        rw [if_pos h, if_pos h, max_eq l (by omega) (by omega) (-1) (fun x hx => (hb.1 x hx).1) k (by omega), Option.bind_some, wrap64_id (by omega) (by omega), show maxL l (-1) + 1 = (((maxL l (-1) + 1).toNat : Nat) : Int) by omega, this]
        rw [show (((((maxL l (-1) + 1).toNat : Nat) : Int)).toNat) = (maxL l (-1) + 1).toNat by omega]
      · rw [if_neg h, if_neg h]
    have hr : (if areTurnsB l 8 = true then (gwL l (maxL l (-1) + 1).toNat 0, (0 : Int)) else ([], 2)).1.length ≤ 1048576 := by
      split
      · rename_i h
        have hb := bounds l h
        rw [show (gwL l (maxL l (-1) + 1).toNat 0, (0 : Int)).1 = gwL l (maxL l (-1) + 1).toNat 0 from rfl, gwL_length]
        omega
      · simp
    generalize (if areTurnsB l 8 = true then (gwL l (maxL l (-1) + 1).toNat 0, (0 : Int)) else ([], 2)) = r at hS hI hr
    obtain ⟨r0, r1⟩ := r
    simp only at hr
    simp (disch := omega) only [toInt64S_eq, Option.bind_some, hS, hI, if_true, bne_self_eq_false, eqInt64S_self, Bool.false_eq_true, if_false, markInt64S_eq, heldInt64S_eq, not_neg]
    simp only [laws_FnExactGreatestWaits.j0]
    simp (disch := omega) only [toInt64S_eq, Option.bind_some, hS, hI, if_true, bne_self_eq_false, eqInt64S_self, Bool.false_eq_true, if_false, markInt64S_eq, heldInt64S_eq, not_neg]
    simp only [laws_FnExactGreatestWaits.j1]
    simp (disch := omega) only [toInt64S_eq, Option.bind_some, hS, hI, if_true, bne_self_eq_false, eqInt64S_self, Bool.false_eq_true, if_false, markInt64S_eq, heldInt64S_eq, not_neg]
    simp only [laws_FnExactGreatestWaits.j2]
    simp (disch := omega) only [toInt64S_eq, Option.bind_some, hS, hI, if_true, bne_self_eq_false, eqInt64S_self, Bool.false_eq_true, if_false, markInt64S_eq, heldInt64S_eq, not_neg]
  · rw [if_pos (by omega)]
end Go.Proofs.Ytcjcocffhljggaa.Pure
