/- What the laws' helpers for lists of classes answer; no condition beside those stated. -/
import Derived.Test.YtnmcglnkifkpnaaQB
import Derived.Test.YtnmcglnkifkpnaaQK
import Derived.Test.YtnmcglnkifkpnaaX0
import Derived.Test.YtnmcglnkifkpnaaX2
import Derived.Test.YtnmcglnkifkpnaaX3
import Derived.Test.YtnmcglnkifkpnaaX7
namespace Go.Proofs.Ytnmcglnkifkpnaa.X
set_option linter.unusedVariables false
set_option linter.unusedSimpArgs false
open Go.RowKit Go.Proofs.YtnmcglnkifkpnaaW.PrintWords Go.Proofs.YtnmcglnkifkpnaaW.PrintLast
def toC (x : S53) : S54 := ⟨x.f0, x.f1⟩
def toS (l : List S53) : List S54 := l.map toC
theorem toS_length (l : List S53) : (toS l).length = l.length := by simp [toS]
theorem rdZ_get (l : List S53) (i : Nat) (h : i < l.length) : rd_T53 l (i : Int) = l[i] := by
  unfold rd_T53
  rw [Int.toNat_natCast, List.getD_eq_getElem?_getD, List.getElem?_eq_getElem h]
  rfl
theorem rdC_get (l : List S54) (i : Nat) (h : i < l.length) : rd_T54 l (i : Int) = l[i] := by
  unfold rd_T54
  rw [Int.toNat_natCast, List.getD_eq_getElem?_getD, List.getElem?_eq_getElem h]
  rfl
theorem rdC_in (l : List S54) (i : Nat) (h : i < l.length) : rd_T54 l (i : Int) ∈ l := by
  rw [rdC_get l i h]
  exact List.getElem_mem h
theorem dropC_rd (l : List S54) (i : Nat) (h : i < l.length) : l.drop i = rd_T54 l (i : Int) :: l.drop (i + 1) := by
  rw [rdC_get l i h]
  exact List.drop_eq_getElem_cons h
theorem takeC_rd (l : List S54) (i : Nat) (h : i < l.length) : l.take (i + 1) = l.take i ++ [rd_T54 l (i : Int)] := by
  rw [rdC_get l i h]
  exact (List.take_append_getElem h).symm
theorem setC_take (l : List S54) (i : Nat) (c : S54) (h : i < l.length) : (l.set i c).take (i + 1) = l.take i ++ [c] := by
  rw [List.set_eq_take_append_cons_drop, if_pos h, List.take_append, List.length_take, List.take_take]
  rw [show min i l.length = i by omega, show min (i + 1) i = i by omega, show i + 1 - i = 1 by omega]
  rfl
theorem toClassS_l0 (l : List S53) (hm : l.length ≤ 9223372036854775807) : ∀ (d i k : Nat) (x : List S54), i + d = l.length → d < k → x.length = l.length → x.take i = (toS l).take i → laws_toClassS.l0 k l x (i : Int) = some (toS l) := by
  intro d
  induction d with
  | zero =>
    intro i k x hi hk hx ht
    obtain ⟨k, rfl⟩ : ∃ m, k = m + 1 := ⟨k - 1, by omega⟩
    simp only [laws_toClassS.l0]
    rw [if_neg (by omega)]
    rw [List.take_of_length_le (by omega), List.take_of_length_le (by rw [toS_length]; omega)] at ht
    rw [ht]
  | succ d ih =>
    intro i k x hi hk hx ht
    obtain ⟨k, rfl⟩ : ∃ m, k = m + 1 := ⟨k - 1, by omega⟩
    simp only [laws_toClassS.l0]
    rw [if_pos (by omega), if_pos (by omega), laws_toClass.f, Option.bind_some, if_pos (by omega), wrap_succ (n := l.length) (by omega) hm, toNat_nat]
    refine ih (i + 1) k _ (by omega) (by omega) (by rw [List.length_set]; exact hx) ?_
    have e : rd_T54 (toS l) (i : Int) = toC (rd_T53 l (i : Int)) := by
      rw [rdC_get _ i (by rw [toS_length]; omega), rdZ_get l i (by omega)]
      simp [toS]
    rw [setC_take x i _ (by omega), ht, takeC_rd (toS l) i (by rw [toS_length]; omega), e]
    rfl
theorem toClassS_eq (l : List S53) (hm : l.length ≤ 1048576) (k : Nat) (hk : l.length < k) : laws_toClassS.f k l = some (toS l) := by
  unfold laws_toClassS.f
  rw [if_pos (by omega), if_pos (by omega)]
  exact toClassS_l0 l (by omega) l.length 0 k _ (by omega) hk (by simp) (by simp)
theorem eqClassS_l0 (a : List S54) (hm : a.length ≤ 9223372036854775807) : ∀ (d i k : Nat), i + d = a.length → d < k → laws_eqClassS.l0 k a a (i : Int) = some true := by
  intro d
  induction d with
  | zero =>
    intro i k hi hk
    obtain ⟨k, rfl⟩ : ∃ m, k = m + 1 := ⟨k - 1, by omega⟩
    simp only [laws_eqClassS.l0]
    rw [if_neg (by omega)]
  | succ d ih =>
    intro i k hi hk
    obtain ⟨k, rfl⟩ : ∃ m, k = m + 1 := ⟨k - 1, by omega⟩
    simp only [laws_eqClassS.l0]
    rw [if_pos (by omega), if_pos (by omega), if_pos (by omega), laws_eqClass.f, Option.bind_some, wrap_succ (n := a.length) (by omega) hm, ih (i + 1) k (by omega) (by omega)]
    simp
theorem eqClassS_self (a : List S54) (k : Nat) (hm : a.length ≤ 1048576) (hk : a.length < k) : laws_eqClassS.f k a a = some true := by
  unfold laws_eqClassS.f
  have := eqClassS_l0 a (by omega) a.length 0 k (by omega) hk
  simp only [Int.natCast_zero] at this
  rw [if_pos rfl, this]
theorem eqToS_self (l : List S53) (k : Nat) (hm : l.length ≤ 1048576) (hk : l.length < k) : laws_eqClassS.f k (toS l) (toS l) = some true :=
  eqClassS_self _ k (by rw [toS_length]; exact hm) (by rw [toS_length]; exact hk)
theorem szClassS_ok (l : List S53) (h : l.length ≤ 1048576) : laws_szClassS.f l 1048576 = some (1048576 - (l.length : Int)) := by
  unfold laws_szClassS.f
  rw [wrap64_id (by omega) (by omega), if_neg (by omega)]
theorem szClassS_big (l : List S53) (hm : l.length ≤ 9223372036854775807) (h : ¬ l.length ≤ 1048576) : laws_szClassS.f l 1048576 = some (-1) := by
  unfold laws_szClassS.f
  rw [wrap64_id (by omega) (by omega), if_pos (by omega)]
theorem l05Are_l0 (l : List S54) (hm : l.length ≤ 1048576) : ∀ (d i k : Nat), i + d = l.length → d < k → spec_l05Are.l0 k l (i : Int) = some ((l.drop i).all classOk && withinB (l.length : Int) 1 8) := by
  intro d
  induction d with
  | zero =>
    intro i k hi hk
    obtain ⟨k, rfl⟩ : ∃ m, k = m + 1 := ⟨k - 1, by omega⟩
    simp only [spec_l05Are.l0]
    rw [if_neg (by omega), l01In_f, Option.bind_some, List.drop_of_length_le (by omega)]
    simp
  | succ d ih =>
    intro i k hi hk
    obtain ⟨k, rfl⟩ : ∃ m, k = m + 1 := ⟨k - 1, by omega⟩
    simp only [spec_l05Are.l0]
    rw [if_pos (by omega), if_pos (by omega), l01In_f, Option.bind_some, l01In_f, Option.bind_some, wrap_succ (n := l.length) (by omega) (by omega), ih (i + 1) k (by omega) (by omega), dropC_rd l i (by omega), List.all_cons]
    generalize rd_T54 l (i : Int) = x
    unfold classOk
    cases withinB x.f1 1 40 <;> cases withinB x.f0 0 (wrap64 (x.f1 - 1)) <;> simp
theorem l05Are_eq (l : List S54) (hm : l.length ≤ 1048576) (k : Nat) (hk : l.length < k) : spec_l05Are.f k l = some (areClassesB l) := by
  unfold spec_l05Are.f areClassesB
  have := l05Are_l0 l hm l.length 0 k (by omega) hk
  rw [Bool.and_comm]
  simpa using this
theorem classes_len {l : List S54} (h : areClassesB l = true) : 1 ≤ l.length ∧ l.length ≤ 8 := by
  unfold areClassesB at h
  rw [Bool.and_eq_true] at h
  have := h.1
  unfold withinB at this
  simp only [Bool.and_eq_true, decide_eq_true_eq] at this
  omega
theorem classes_mem {l : List S54} (h : areClassesB l = true) (x : S54) (hx : x ∈ l) : 1 ≤ x.f1 ∧ x.f1 ≤ 40 ∧ 0 ≤ x.f0 ∧ x.f0 < x.f1 := by
  unfold areClassesB at h
  rw [Bool.and_eq_true] at h
  have := List.all_eq_true.mp h.2 x hx
  unfold classOk withinB at this
  simp only [Bool.and_eq_true, decide_eq_true_eq] at this
  have h2 := this.2.2
  rw [wrap64_id (by omega) (by omega)] at h2
  omega
end Go.Proofs.Ytnmcglnkifkpnaa.X
