import Derived.Test.YtdkhecebffjpjaaVQA
import Derived.Test.YtdkhecebffjpjaaY8
import Derived.Test.YtdkhecebffjpjaaY10
import Derived.Test.YtdkhecebffjpjaaY19
import Derived.Test.YtdkhecebffjpjaaY23
namespace Go.Proofs.Ytdkhecebffjpjaa.X
set_option linter.unusedVariables false
set_option linter.unusedSimpArgs false
open Go.RowKit Go.Proofs.YtdkhecebffjpjaaW.PrintWords Go.Proofs.YtdkhecebffjpjaaW.PrintLast
theorem l01In_f (a lo hi : Int) : spec_l01In.f a lo hi = some (withinB a lo hi) := by
 unfold spec_l01In.f withinB
 by_cases h : lo ≤ a <;> simp [h]
theorem all_drop (l : List Int) (p : Int → Bool) (i : Nat) (h : i < l.length) : (l.drop i).all p = (p (rd l (i : Int)) && (l.drop (i + 1)).all p) := by
 rw [drop_rd l i h, List.all_cons]
theorem l01Turns_l0 (l : List Int) (a : Int) (hm : l.length ≤ 9223372036854775807) : ∀ (d i k : Nat), i + d = l.length → d < k → spec_l01Turns.l0 k l a (i : Int) = some ((l.drop i).all (fun x => withinB x (-1) (wrap64 (a - 1))) && withinB (l.length : Int) 1 120) := by
 intro d
 induction d with
 | zero =>
  intro i k hi hk
  obtain ⟨k, rfl⟩ : ∃ m, k = m + 1 := ⟨k - 1, by omega⟩
  simp only [spec_l01Turns.l0]
  rw [if_neg (by omega), l01In_f, Option.bind_some, List.drop_of_length_le (by omega)]
  simp
 | succ d ih =>
  intro i k hi hk
  obtain ⟨k, rfl⟩ : ∃ m, k = m + 1 := ⟨k - 1, by omega⟩
  simp only [spec_l01Turns.l0]
  rw [if_pos (by omega), if_pos (by omega), l01In_f, Option.bind_some, wrap_succ (n := l.length) (by omega) hm, ih (i + 1) k (by omega) (by omega), all_drop l _ i (by omega)]
  by_cases h : withinB (rd l (i : Int)) (-1) (wrap64 (a - 1)) = true
  ·rw [if_pos h, h, Bool.true_and]
  ·rw [if_neg h]
   simp only [Bool.not_eq_true] at h
   rw [h]
   simp
theorem l01Turns_eq (l : List Int) (a : Int) (hm : l.length ≤ 9223372036854775807) (k : Nat) (hk : l.length < k) : spec_l01Turns.f k l a = some (areTurnsB l a) := by
 unfold spec_l01Turns.f areTurnsB
 have := l01Turns_l0 l a hm l.length 0 k (by omega) hk
 rw [Bool.and_comm]
 simpa using this
theorem areTurns_len {l : List Int} {a : Int} (h : areTurnsB l a = true) : 1 ≤ l.length ∧ l.length ≤ 120 := by
 unfold areTurnsB at h
 rw [Bool.and_eq_true] at h
 have := h.1
 unfold withinB at this
 simp only [Bool.and_eq_true, decide_eq_true_eq] at this
 omega
end Go.Proofs.Ytdkhecebffjpjaa.X
