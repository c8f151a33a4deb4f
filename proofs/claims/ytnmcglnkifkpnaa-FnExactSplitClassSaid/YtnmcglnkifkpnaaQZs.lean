/- A class split; no condition beside those stated. -/
import Derived.Test.YtnmcglnkifkpnaaQZt
import Derived.Test.YtnmcglnkifkpnaaX0
import Derived.Test.YtnmcglnkifkpnaaX3
import Derived.Test.YtnmcglnkifkpnaaX4
import Derived.Test.YtnmcglnkifkpnaaX5
import Derived.Test.YtnmcglnkifkpnaaX6
namespace Go.Proofs.Ytnmcglnkifkpnaa.X
set_option linter.unusedVariables false
set_option linter.unusedSimpArgs false
open Go.RowKit Go.Proofs.YtnmcglnkifkpnaaW.PrintWords Go.Proofs.YtnmcglnkifkpnaaW.PrintLast
theorem rdL_get (xs : List (List S54)) (i : Nat) (h : i < xs.length) : rd_L3 xs (i : Int) = xs[i] := by
  unfold rd_L3
  rw [Int.toNat_natCast, List.getD_eq_getElem?_getD, List.getElem?_eq_getElem h]
  rfl
theorem concatC_l1 (xs : List (List S54)) (hx : ∀ x ∈ xs, x.length ≤ 100) (hl : xs.length ≤ 10) : ∀ (d i k : Nat) (o : List S54), i + d = xs.length → d < k → o.length + 100 * d ≤ 10000 → impl_Class_56.l1 k o xs (xs.length : Int) (i : Int) = some (o ++ (xs.drop i).flatten) := by
  intro d
  induction d with
  | zero =>
    intro i k o hi hk ho
    obtain ⟨k, rfl⟩ : ∃ m, k = m + 1 := ⟨k - 1, by omega⟩
    simp only [impl_Class_56.l1]
    rw [if_neg (by omega), List.drop_of_length_le (by omega)]
    simp
  | succ d ih =>
    intro i k o hi hk ho
    obtain ⟨k, rfl⟩ : ∃ m, k = m + 1 := ⟨k - 1, by omega⟩
    have hxi := hx _ (List.getElem_mem (show i < xs.length by omega))
    simp only [impl_Class_56.l1]
    rw [if_pos (by omega), if_pos (by omega), if_pos (by omega), rdL_get xs i (by omega), if_pos (by omega), wrap_succ (n := xs.length) (by omega) (by omega), ih (i + 1) k _ (by omega) (by omega) (by rw [List.length_append]; omega), List.drop_eq_getElem_cons (show i < xs.length by omega), List.flatten_cons, List.append_assoc]
theorem concatC_l0 (xs : List (List S54)) (hx : ∀ x ∈ xs, x.length ≤ 100) (hl : xs.length ≤ 10) : ∀ (d i k : Nat) (s : Nat), i + d = xs.length → 20 + d < k → s + 100 * d ≤ 10000 → impl_Class_56.l0 k xs (s : Int) xs (xs.length : Int) (i : Int) = some xs.flatten := by
  intro d
  induction d with
  | zero =>
    intro i k s hi hk hs
    obtain ⟨k, rfl⟩ : ∃ m, k = m + 1 := ⟨k - 1, by omega⟩
    have e := concatC_l1 xs hx hl xs.length 0 k [] (by omega) (by omega) (by simp; omega)
    simp only [Int.natCast_zero, List.nil_append, List.drop_zero] at e
    simp only [impl_Class_56.l0]
    rw [if_neg (by omega), impl_Class_90.f, if_pos ⟨by omega, by omega⟩, Option.bind_some, e]
  | succ d ih =>
    intro i k s hi hk hs
    obtain ⟨k, rfl⟩ : ∃ m, k = m + 1 := ⟨k - 1, by omega⟩
    have hxi := hx _ (List.getElem_mem (show i < xs.length by omega))
    simp only [impl_Class_56.l0]
    rw [if_pos (by omega), if_pos (by omega), if_pos (by omega), rdL_get xs i (by omega), wrap64_id (x := (s : Int) + (xs[i].length : Int)) (by omega) (by omega), if_neg (by omega), wrap_succ (n := xs.length) (by omega) (by omega)]
    have e := ih (i + 1) k (s + xs[i].length) (by omega) (by omega) (by omega)
    rw [show ((s + xs[i].length : Nat) : Int) = (s : Int) + (xs[i].length : Int) by omega] at e
    exact e
theorem concatC_eq (a b c : List S54) (ha : a.length ≤ 100) (hb : b.length ≤ 100) (hc : c.length ≤ 100) (k : Nat) (hk : 100 < k) : impl_Class_56.f k [a, b, c] = some (a ++ (b ++ c)) := by
  unfold impl_Class_56.f
  have hx : ∀ x ∈ [a, b, c], x.length ≤ 100 := by
    intro x hx
    simp only [List.mem_cons, List.not_mem_nil, or_false] at hx
    rcases hx with rfl | rfl | rfl <;> assumption
  have e := concatC_l0 [a, b, c] hx (by simp) 3 0 k 0 rfl (by omega) (by omega)
  simp only [Int.natCast_zero] at e
  rw [e]
  simp
def partsF (c : S54) (m : Int) : Nat → Nat → List S54
  | 0, _ => []
  | d + 1, n => ⟨wrap64 (c.f0 + wrap64 ((n : Int) * c.f1)), wrap64 (m * c.f1)⟩ :: partsF c m d (n + 1)
theorem partsF_length (c : S54) (m : Int) : ∀ d n, (partsF c m d n).length = d
  | 0, _ => rfl
  | d + 1, n => by rw [partsF, List.length_cons, partsF_length c m d]
def splitL (l : List S54) (i m : Nat) : List S54 := l.take i ++ (partsF (rd_T54 l (i : Int)) (m : Int) m 0 ++ l.drop (i + 1))
theorem splitL_length (l : List S54) (i m : Nat) (hi : i < l.length) : (splitL l i m).length = l.length + m - 1 := by
  unfold splitL
  rw [List.length_append, List.length_append, List.length_take, List.length_drop, partsF_length]
  omega
theorem specSplit_l0 (l : List S54) (hl : l.length ≤ 8) (i m : Nat) (hi : i < l.length) (hm : m ≤ 8) : ∀ (d n k : Nat) (o : List S54), n + d = m → d < k → o.length + d ≤ 100 → spec_l05Split.l0 k l (i : Int) (m : Int) o (n : Int) = some (o ++ (partsF (rd_T54 l (i : Int)) (m : Int) d n ++ l.drop (i + 1))) := by
  intro d
  induction d with
  | zero =>
    intro n k o hn hk ho
    obtain ⟨k, rfl⟩ : ∃ m, k = m + 1 := ⟨k - 1, by omega⟩
    simp only [spec_l05Split.l0, partsF]
    rw [if_neg (by omega), wrap_succ (n := l.length) hi (by omega), if_pos (by omega), if_pos (by omega), Option.bind_some, toNat_nat, if_pos (by rw [List.length_drop]; omega)]
    rfl
  | succ d ih =>
    intro n k o hn hk ho
    obtain ⟨k, rfl⟩ : ∃ m, k = m + 1 := ⟨k - 1, by omega⟩
    simp only [spec_l05Split.l0, partsF]
    rw [if_pos (by omega), if_pos (by omega), if_pos (by omega), if_pos (by omega), wrap_succ (i := n) (n := m) (by omega) (by omega), ih (n + 1) k _ (by omega) (by omega) (by rw [List.length_append, List.length_singleton]; omega), List.append_assoc]
    rfl
theorem implSplit_l0 (l : List S54) (hl : l.length ≤ 8) (i m : Nat) (hi : i < l.length) (hm : m ≤ 8) : ∀ (d n k : Nat) (o : List S54), n + d = m → 200 + d < k → o.length = n → impl_SplitClass.l0 k l (i : Int) (m : Int) o (m : Int) (n : Int) = some (l.take i ++ ((o ++ partsF (rd_T54 l (i : Int)) (m : Int) d n) ++ l.drop (i + 1)), 0) := by
  intro d
  induction d with
  | zero =>
    intro n k o hn hk ho
    obtain ⟨k, rfl⟩ : ∃ m, k = m + 1 := ⟨k - 1, by omega⟩
    simp only [impl_SplitClass.l0, partsF]
    rw [if_neg (by omega), if_pos (by omega), if_pos (by omega), wrap_succ (n := l.length) hi (by omega), if_pos (by omega), if_pos (by omega), toNat_nat, toNat_nat, concatC_eq _ _ _ (by rw [List.length_take]; omega) (by omega) (by rw [List.length_drop]; omega) k (by omega), Option.bind_some, List.append_nil]
  | succ d ih =>
    intro n k o hn hk ho
    obtain ⟨k, rfl⟩ : ∃ m, k = m + 1 := ⟨k - 1, by omega⟩
    simp only [impl_SplitClass.l0, partsF]
    rw [if_pos (by omega), if_pos (by omega), if_pos (by omega), if_pos (by omega), wrap_succ (i := n) (n := m) (by omega) (by omega), ih (n + 1) k _ (by omega) (by omega) (by rw [List.length_append, List.length_singleton]; omega), List.append_assoc o]
    rfl
end Go.Proofs.Ytnmcglnkifkpnaa.X
