/- The greatest of a list, in the program; no condition beside those stated. -/
import Derived.Test.YtjaanhnmgipmeaaQL
import Derived.Test.YtjaanhnmgipmeaaX5
namespace Go.Proofs.Ytjaanhnmgipmeaa.X
set_option linter.unusedVariables false
set_option linter.unusedSimpArgs false
open Go.RowKit Go.Proofs.YtjaanhnmgipmeaaW.PrintWords Go.Proofs.YtjaanhnmgipmeaaW.PrintLast
theorem greatest_l0 (w : List Int) (hm : w.length ≤ 1048576) : ∀ (d i k : Nat) (a : Int), i + d = w.length → d < k → impl_greatest.l0 k a w (w.length : Int) (i : Int) = some (maxL (w.drop i) a) := by
  intro d
  induction d with
  | zero =>
    intro i k a hi hk
    obtain ⟨k, rfl⟩ : ∃ m, k = m + 1 := ⟨k - 1, by omega⟩
    simp only [impl_greatest.l0]
    rw [if_neg (by omega), List.drop_of_length_le (by omega)]
    rfl
  | succ d ih =>
    intro i k a hi hk
    obtain ⟨k, rfl⟩ : ∃ m, k = m + 1 := ⟨k - 1, by omega⟩
    simp only [impl_greatest.l0]
    rw [if_pos (by omega), if_pos (by omega), if_pos (by omega), wrap_succ (n := w.length) (by omega) (by omega), ih (i + 1) k _ (by omega) (by omega), drop_rd w i (by omega)]
    rfl
theorem greatest_eq (w : List Int) (hm : w.length ≤ 1048576) (k : Nat) (hk : w.length < k) : impl_greatest.f k w = some (maxL w 0) := by
  unfold impl_greatest.f
  have := greatest_l0 w hm w.length 0 k 0 (by omega) hk
  simpa using this
end Go.Proofs.Ytjaanhnmgipmeaa.X
