/- The number of all states, in the program and in its reference; no condition beside those stated. -/
import Derived.Test.YtnmcglnkifkpnaaQB
import Derived.Test.YtnmcglnkifkpnaaX4
namespace Go.Proofs.Ytnmcglnkifkpnaa.X
set_option linter.unusedVariables false
set_option linter.unusedSimpArgs false
open Go.RowKit Go.Proofs.YtnmcglnkifkpnaaW.PrintWords Go.Proofs.YtnmcglnkifkpnaaW.PrintLast
def prodW (l : List Int) (a : Int) : Int := l.foldl (fun a x => wrap64 (a * x)) a
theorem states_l0 (l : List Int) (hm : l.length ≤ 1048576) : ∀ (d i k : Nat) (a : Int), i + d = l.length → d < k → impl_Tasks_states.l0 k a l (l.length : Int) (i : Int) = some (prodW (l.drop i) a) := by
  intro d
  induction d with
  | zero =>
    intro i k a hi hk
    obtain ⟨k, rfl⟩ : ∃ m, k = m + 1 := ⟨k - 1, by omega⟩
    simp only [impl_Tasks_states.l0]
    rw [if_neg (by omega), List.drop_of_length_le (by omega)]
    rfl
  | succ d ih =>
    intro i k a hi hk
    obtain ⟨k, rfl⟩ : ∃ m, k = m + 1 := ⟨k - 1, by omega⟩
    simp only [impl_Tasks_states.l0]
    rw [if_pos (by omega), if_pos (by omega), if_pos (by omega), wrap_succ (n := l.length) (by omega) (by omega), ih (i + 1) k _ (by omega) (by omega), drop_rd l i (by omega)]
    rfl
theorem states_eq (l : List Int) (hm : l.length ≤ 1048576) (k : Nat) (hk : l.length < k) : impl_Tasks_states.f k l = some (prodW l 1) := by
  unfold impl_Tasks_states.f
  have := states_l0 l hm l.length 0 k 1 (by omega) hk
  simpa using this
end Go.Proofs.Ytnmcglnkifkpnaa.X
