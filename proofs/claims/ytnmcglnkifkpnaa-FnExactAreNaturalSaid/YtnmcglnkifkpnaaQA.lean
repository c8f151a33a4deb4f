/- Plain lemmas on lists and whole numbers, and what the laws' own helpers answer; no condition beside those stated. -/
import Derived.Test.YtnmcglnkifkpnaaX0
namespace Go.Proofs.Ytnmcglnkifkpnaa.X
set_option linter.unusedVariables false
set_option linter.unusedSimpArgs false
open Go.RowKit Go.Proofs.YtnmcglnkifkpnaaW.PrintWords Go.Proofs.YtnmcglnkifkpnaaW.PrintLast
theorem wrap64_id {x : Int} (h1 : -9223372036854775808 ≤ x) (h2 : x ≤ 9223372036854775807) : wrap64 x = x := by
  unfold wrap64
  omega
theorem wrap_succ {i n : Nat} (h : i < n) (hn : n ≤ 9223372036854775807) : wrap64 ((i : Int) + 1) = ((i + 1 : Nat) : Int) := by
  rw [wrap64_id (by omega) (by omega)]
  omega
theorem toNat_nat (i : Nat) : ((i : Int)).toNat = i := Int.toNat_natCast i
theorem rd_get (l : List Int) (i : Nat) (h : i < l.length) : rd l (i : Int) = l[i] := by
  unfold rd
  rw [Int.toNat_natCast, List.getD_eq_getElem?_getD, List.getElem?_eq_getElem h]
  rfl
theorem rd_in (l : List Int) (i : Nat) (h : i < l.length) : rd l (i : Int) ∈ l := by
  rw [rd_get l i h]
  exact List.getElem_mem h
theorem drop_rd (l : List Int) (i : Nat) (h : i < l.length) : l.drop i = rd l (i : Int) :: l.drop (i + 1) := by
  rw [rd_get l i h]
  exact List.drop_eq_getElem_cons h
theorem take_rd (l : List Int) (i : Nat) (h : i < l.length) : l.take (i + 1) = l.take i ++ [rd l (i : Int)] := by
  rw [rd_get l i h]
  exact (List.take_append_getElem h).symm
theorem set_take (l : List Int) (i : Nat) (c : Int) (h : i < l.length) : (l.set i c).take (i + 1) = l.take i ++ [c] := by
  rw [List.set_eq_take_append_cons_drop, if_pos h, List.take_append, List.length_take, List.take_take]
  rw [show min i l.length = i by omega, show min (i + 1) i = i by omega, show i + 1 - i = 1 by omega]
  rfl
theorem set_drop (l : List Int) (i : Nat) (c : Int) : (l.set i c).drop (i + 1) = l.drop (i + 1) := by
  rw [List.drop_set, if_pos (by omega)]

def marks (n : Nat) (c : Int) : List Int := (List.range n).map fun (j : Nat) => c + (j : Int)
theorem marks_length (n : Nat) (c : Int) : (marks n c).length = n := by simp [marks]
theorem marks_zero (c : Int) : marks 0 c = [] := rfl
theorem marks_succ (n : Nat) (c : Int) : marks (n + 1) c = c :: marks n (c + 1) := by
  unfold marks
  rw [List.range_succ_eq_map, List.map_cons, List.map_map]
  simp only [Int.ofNat_eq_natCast, Int.natCast_zero, Int.add_zero, List.cons.injEq, true_and]
  refine List.map_congr_left fun j _ => ?_
  simp only [Function.comp]
  omega
theorem rd_marks (n i : Nat) (c : Int) (h : i < n) : rd (marks n c) (i : Int) = c + (i : Int) := by
  rw [rd_get _ i (by rw [marks_length]; exact h)]
  simp [marks]
theorem not_neg (c : Int) (n : Nat) (h : 0 ≤ c) : (c + (n : Int) < 0) = False := by
  rw [eq_iff_iff, iff_false]
  omega
theorem maxLen_le {n : Nat} (h : n ≤ maxLen) : n ≤ 9223372036854775807 := h
end Go.Proofs.Ytnmcglnkifkpnaa.X
