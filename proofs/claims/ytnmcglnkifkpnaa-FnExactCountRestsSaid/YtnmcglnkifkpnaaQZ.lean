/- What the laws' helpers for lists of classes answer; no condition beside those stated. -/
import Derived.Test.YtnmcglnkifkpnaaQB
import Derived.Test.YtnmcglnkifkpnaaQK
import Derived.Test.YtnmcglnkifkpnaaX0
namespace Go.Proofs.Ytnmcglnkifkpnaa.X
set_option linter.unusedVariables false
set_option linter.unusedSimpArgs false
open Go.RowKit Go.Proofs.YtnmcglnkifkpnaaW.PrintWords Go.Proofs.YtnmcglnkifkpnaaW.PrintLast
theorem rdC_get (l : List S54) (i : Nat) (h : i < l.length) : rd_T54 l (i : Int) = l[i] := by
  unfold rd_T54
  rw [Int.toNat_natCast, List.getD_eq_getElem?_getD, List.getElem?_eq_getElem h]
  rfl
theorem rdC_in (l : List S54) (i : Nat) (h : i < l.length) : rd_T54 l (i : Int) ∈ l := by
  rw [rdC_get l i h]
  exact List.getElem_mem h
theorem dropC_rd (l : List S54) (i : Nat) (h : i < l.length) : l.drop i = rd_T54 l (i : Int) :: l.drop (i + 1) := by
  rw [rdC_get l i h]
  exact List.drop_eq_getElem_cons h
theorem takeC_rd (l : List S54) (i : Nat) (h : i < l.length) : l.take (i + 1) = l.take i ++ [rd_T54 l (i : Int)] := by
  rw [rdC_get l i h]
  exact (List.take_append_getElem h).symm
theorem setC_take (l : List S54) (i : Nat) (c : S54) (h : i < l.length) : (l.set i c).take (i + 1) = l.take i ++ [c] := by
  rw [List.set_eq_take_append_cons_drop, if_pos h, List.take_append, List.length_take, List.take_take]
  rw [show min i l.length = i by omega, show min (i + 1) i = i by omega, show i + 1 - i = 1 by omega]
  rfl
end Go.Proofs.Ytnmcglnkifkpnaa.X
