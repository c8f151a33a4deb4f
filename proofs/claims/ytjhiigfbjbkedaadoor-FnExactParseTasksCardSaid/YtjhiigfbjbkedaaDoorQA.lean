/- Plain lemmas on lists and whole numbers, and what the laws' own helpers answer; no condition beside those stated. -/
import Derived.Test.YtjhiigfbjbkedaaDoorX1
import Derived.Test.YtjhiigfbjbkedaaDoorX5
namespace Go.Proofs.YtjhiigfbjbkedaaDoor.X
set_option linter.unusedVariables false
set_option linter.unusedSimpArgs false
open Go.RowKit Go.Proofs.YtjhiigfbjbkedaaDoorW.PrintWords Go.Proofs.YtjhiigfbjbkedaaDoorW.PrintLast
theorem wrap64_id {x : Int} (h1 : -9223372036854775808 ≤ x) (h2 : x ≤ 9223372036854775807) : wrap64 x = x := by
  unfold wrap64
  omega
theorem wrap_succ {i n : Nat} (h : i < n) (hn : n ≤ 9223372036854775807) : wrap64 ((i : Int) + 1) = ((i + 1 : Nat) : Int) := by
  rw [wrap64_id (by omega) (by omega)]
  omega
theorem toNat_nat (i : Nat) : ((i : Int)).toNat = i := Int.toNat_natCast i
theorem rd_get (l : List Int) (i : Nat) (h : i < l.length) : rd l (i : Int) = l[i] := by
  unfold rd
  rw [Int.toNat_natCast, List.getD_eq_getElem?_getD, List.getElem?_eq_getElem h]
  rfl
theorem rd_in (l : List Int) (i : Nat) (h : i < l.length) : rd l (i : Int) ∈ l := by
  rw [rd_get l i h]
  exact List.getElem_mem h
theorem drop_rd (l : List Int) (i : Nat) (h : i < l.length) : l.drop i = rd l (i : Int) :: l.drop (i + 1) := by
  rw [rd_get l i h]
  exact List.drop_eq_getElem_cons h
theorem take_rd (l : List Int) (i : Nat) (h : i < l.length) : l.take (i + 1) = l.take i ++ [rd l (i : Int)] := by
  rw [rd_get l i h]
  exact (List.take_append_getElem h).symm
theorem set_take (l : List Int) (i : Nat) (c : Int) (h : i < l.length) : (l.set i c).take (i + 1) = l.take i ++ [c] := by
  rw [List.set_eq_take_append_cons_drop, if_pos h, List.take_append, List.length_take, List.take_take]
  rw [show min i l.length = i by omega, show min (i + 1) i = i by omega, show i + 1 - i = 1 by omega]
  rfl
theorem set_drop (l : List Int) (i : Nat) (c : Int) : (l.set i c).drop (i + 1) = l.drop (i + 1) := by
  rw [List.drop_set, if_pos (by omega)]

theorem eqInt64S_l0 (a b : List Int) (hl : a.length = b.length) (hm : a.length ≤ 9223372036854775807) : ∀ (d i k : Nat), i + d = a.length → d < k → laws_eqInt64S.l0 k a b (i : Int) = some (decide (a.drop i = b.drop i)) := by
  intro d
  induction d with
  | zero =>
    intro i k hi hk
    obtain ⟨k, rfl⟩ : ∃ m, k = m + 1 := ⟨k - 1, by omega⟩
    simp only [laws_eqInt64S.l0]
    rw [if_neg (by omega), List.drop_of_length_le (by omega), List.drop_of_length_le (by omega)]
    simp
  | succ d ih =>
    intro i k hi hk
    obtain ⟨k, rfl⟩ : ∃ m, k = m + 1 := ⟨k - 1, by omega⟩
    simp only [laws_eqInt64S.l0]
    rw [if_pos (by omega), if_pos (by omega), if_pos (by omega), wrap_succ (n := a.length) (by omega) hm, ih (i + 1) k (by omega) (by omega), drop_rd a i (by omega), drop_rd b i (by omega)]
    by_cases h : rd a (i : Int) = rd b (i : Int)
    · rw [if_pos h, h]
      simp
    · rw [if_neg h]
      simp [h]
theorem eqInt64S_eq (a b : List Int) (hm : a.length ≤ 9223372036854775807) (k : Nat) (hk : a.length < k) : laws_eqInt64S.f k a b = some (decide (a = b)) := by
  unfold laws_eqInt64S.f
  by_cases h : a.length = b.length
  · rw [if_pos (by omega)]
    have := eqInt64S_l0 a b h hm a.length 0 k (by omega) hk
    simpa using this
  · rw [if_neg (by omega)]
    have : ¬ a = b := fun e => h (by rw [e])
    simp [this]
theorem eqInt64S_self (a : List Int) (hm : a.length ≤ 1048576) (k : Nat) (hk : a.length < k) : laws_eqInt64S.f k a a = some true := by
  rw [eqInt64S_eq a a (by omega) k hk]
  simp

def marks (n : Nat) (c : Int) : List Int := (List.range n).map fun (j : Nat) => c + (j : Int)
theorem marks_length (n : Nat) (c : Int) : (marks n c).length = n := by simp [marks]
theorem marks_zero (c : Int) : marks 0 c = [] := rfl
theorem marks_succ (n : Nat) (c : Int) : marks (n + 1) c = c :: marks n (c + 1) := by
  unfold marks
  rw [List.range_succ_eq_map, List.map_cons, List.map_map]
  simp only [Int.ofNat_eq_natCast, Int.natCast_zero, Int.add_zero, List.cons.injEq, true_and]
  refine List.map_congr_left fun j _ => ?_
  simp only [Function.comp]
  omega
theorem rd_marks (n i : Nat) (c : Int) (h : i < n) : rd (marks n c) (i : Int) = c + (i : Int) := by
  rw [rd_get _ i (by rw [marks_length]; exact h)]
  simp [marks]
theorem markInt64S_l0 : ∀ (d i k : Nat) (x : List Int) (c : Int), i + d = x.length → d < k → x.length ≤ 1048576 → 0 ≤ c → c + (d : Int) ≤ 4611686018427387904 → laws_markInt64S.l0 k x c (i : Int) = some (c + (d : Int), x.take i ++ marks d c) := by
  intro d
  induction d with
  | zero =>
    intro i k x c hi hk hm h0 h1
    obtain ⟨k, rfl⟩ : ∃ m, k = m + 1 := ⟨k - 1, by omega⟩
    simp only [laws_markInt64S.l0]
    rw [if_neg (by omega), List.take_of_length_le (by omega), marks_zero]
    simp
  | succ d ih =>
    intro i k x c hi hk hm h0 h1
    obtain ⟨k, rfl⟩ : ∃ m, k = m + 1 := ⟨k - 1, by omega⟩
    simp only [laws_markInt64S.l0]
    rw [if_pos (by omega), if_pos (by omega), wrap_succ (n := x.length) (by omega) (by omega), toNat_nat, wrap64_id (by omega) (by omega)]
    rw [ih (i + 1) k (x.set i c) (c + 1) (by rw [List.length_set]; omega) (by omega) (by rw [List.length_set]; omega) (by omega) (by omega), set_take x i c (by omega), marks_succ, List.append_assoc]
    simp only [List.singleton_append, Option.some.injEq, Prod.mk.injEq, and_true]
    omega
theorem markInt64S_eq (x : List Int) (c : Int) (hm : x.length ≤ 1048576) (h0 : 0 ≤ c) (h1 : c ≤ 1000000000) (k : Nat) (hk : x.length < k) : laws_markInt64S.f k x c = some (c + (x.length : Int), marks x.length c) := by
  unfold laws_markInt64S.f
  have := markInt64S_l0 x.length 0 k x c (by omega) hk hm h0 (by omega)
  simpa using this
theorem heldInt64S_l0 (n : Nat) (c : Int) (hn : n ≤ 1048576) (h0 : 0 ≤ c) (h1 : c ≤ 1000000000) : ∀ (d i k : Nat), i + d = n → d < k → laws_heldInt64S.l0 k (marks n c) (c + (i : Int)) (i : Int) = some (c + (n : Int)) := by
  intro d
  induction d with
  | zero =>
    intro i k hi hk
    obtain ⟨k, rfl⟩ : ∃ m, k = m + 1 := ⟨k - 1, by omega⟩
    simp only [laws_heldInt64S.l0]
    rw [marks_length, if_neg (by omega)]
    rw [show i = n by omega]
  | succ d ih =>
    intro i k hi hk
    obtain ⟨k, rfl⟩ : ∃ m, k = m + 1 := ⟨k - 1, by omega⟩
    simp only [laws_heldInt64S.l0]
    rw [marks_length, if_pos (by omega), if_pos (by omega), rd_marks n i c (by omega), if_pos rfl, wrap_succ (n := n) (by omega) (by omega), wrap64_id (by omega) (by omega)]
    have := ih (i + 1) k (by omega) (by omega)
    rw [show c + ((i + 1 : Nat) : Int) = c + (i : Int) + 1 by omega] at this
    exact this
theorem heldInt64S_eq (n : Nat) (c : Int) (hn : n ≤ 1048576) (h0 : 0 ≤ c) (h1 : c ≤ 1000000000) (k : Nat) (hk : n < k) : laws_heldInt64S.f k (marks n c) c = some (c + (n : Int)) := by
  unfold laws_heldInt64S.f
  have := heldInt64S_l0 n c hn h0 h1 n 0 k (by omega) hk
  simpa using this
theorem not_neg (c : Int) (n : Nat) (h : 0 ≤ c) : (c + (n : Int) < 0) = False := by
  rw [eq_iff_iff, iff_false]
  omega
theorem maxLen_le {n : Nat} (h : n ≤ maxLen) : n ≤ 9223372036854775807 := h
end Go.Proofs.YtjhiigfbjbkedaaDoor.X
