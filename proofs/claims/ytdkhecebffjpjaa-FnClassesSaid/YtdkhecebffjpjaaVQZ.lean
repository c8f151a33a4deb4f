import Derived.Test.YtdkhecebffjpjaaVQB
import Derived.Test.YtdkhecebffjpjaaVQK
import Derived.Test.YtdkhecebffjpjaaY0
import Derived.Test.YtdkhecebffjpjaaY8
import Derived.Test.YtdkhecebffjpjaaY10
namespace Go.Proofs.Ytdkhecebffjpjaa.X
set_option linter.unusedVariables false
set_option linter.unusedSimpArgs false
open Go.RowKit Go.Proofs.YtdkhecebffjpjaaW.PrintWords Go.Proofs.YtdkhecebffjpjaaW.PrintLast
theorem rdC_get (l : List S40) (i : Nat) (h : i < l.length) : rd_T40 l (i : Int) = l[i] := by
 unfold rd_T40
 rw [Int.toNat_natCast, List.getD_eq_getElem?_getD, List.getElem?_eq_getElem h]
 rfl
theorem rdC_in (l : List S40) (i : Nat) (h : i < l.length) : rd_T40 l (i : Int) ∈ l := by
 rw [rdC_get l i h]
 exact List.getElem_mem h
theorem dropC_rd (l : List S40) (i : Nat) (h : i < l.length) : l.drop i = rd_T40 l (i : Int) :: l.drop (i + 1) := by
 rw [rdC_get l i h]
 exact List.drop_eq_getElem_cons h
theorem takeC_rd (l : List S40) (i : Nat) (h : i < l.length) : l.take (i + 1) = l.take i ++ [rd_T40 l (i : Int)] := by
 rw [rdC_get l i h]
 exact (List.take_append_getElem h).symm
theorem l05Are_l0 (l : List S40) (hm : l.length ≤ 1048576) : ∀ (d i k : Nat), i + d = l.length → d < k → spec_l05Are.l0 k l (i : Int) = some ((l.drop i).all classOk && withinB (l.length : Int) 1 8) := by
 intro d
 induction d with
 | zero =>
  intro i k hi hk
  obtain ⟨k, rfl⟩ : ∃ m, k = m + 1 := ⟨k - 1, by omega⟩
  simp only [spec_l05Are.l0]
  rw [if_neg (by omega), l01In_f, Option.bind_some, List.drop_of_length_le (by omega)]
  simp
 | succ d ih =>
  intro i k hi hk
  obtain ⟨k, rfl⟩ : ∃ m, k = m + 1 := ⟨k - 1, by omega⟩
  simp only [spec_l05Are.l0]
  rw [if_pos (by omega), if_pos (by omega), l01In_f, Option.bind_some, l01In_f, Option.bind_some, wrap_succ (n := l.length) (by omega) (by omega), ih (i + 1) k (by omega) (by omega), dropC_rd l i (by omega), List.all_cons]
  generalize rd_T40 l (i : Int) = x
  unfold classOk
  cases withinB x.f1 1 40 <;> cases withinB x.f0 0 (wrap64 (x.f1 - 1)) <;> simp
theorem l05Are_eq (l : List S40) (hm : l.length ≤ 1048576) (k : Nat) (hk : l.length < k) : spec_l05Are.f k l = some (areClassesB l) := by
 unfold spec_l05Are.f areClassesB
 have := l05Are_l0 l hm l.length 0 k (by omega) hk
 rw [Bool.and_comm]
 simpa using this
theorem classes_len {l : List S40} (h : areClassesB l = true) : 1 ≤ l.length ∧ l.length ≤ 8 := by
 unfold areClassesB at h
 rw [Bool.and_eq_true] at h
 have := h.1
 unfold withinB at this
 simp only [Bool.and_eq_true, decide_eq_true_eq] at this
 omega
theorem classes_mem {l : List S40} (h : areClassesB l = true) (x : S40) (hx : x ∈ l) : 1 ≤ x.f1 ∧ x.f1 ≤ 40 ∧ 0 ≤ x.f0 ∧ x.f0 < x.f1 := by
 unfold areClassesB at h
 rw [Bool.and_eq_true] at h
 have := List.all_eq_true.mp h.2 x hx
 unfold classOk withinB at this
 simp only [Bool.and_eq_true, decide_eq_true_eq] at this
 have h2 := this.2.2
 rw [wrap64_id (by omega) (by omega)] at h2
 omega
end Go.Proofs.Ytdkhecebffjpjaa.X
