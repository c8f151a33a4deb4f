/- Classes that are apart; no condition beside those stated. -/
import Derived.Test.YtnmcglnkifkpnaaQZ
import Derived.Test.YtnmcglnkifkpnaaX0
import Derived.Test.YtnmcglnkifkpnaaX1
import Derived.Test.YtnmcglnkifkpnaaX4
namespace Go.Proofs.Ytnmcglnkifkpnaa.X
set_option linter.unusedVariables false
set_option linter.unusedSimpArgs false
open Go.RowKit Go.Proofs.YtnmcglnkifkpnaaW.PrintWords Go.Proofs.YtnmcglnkifkpnaaW.PrintLast
theorem gapsIn_of {l : List S54} (h : ∀ x ∈ l, 1 ≤ x.f1 ∧ x.f1 ≤ 40) : gapsIn l = true := by
  unfold gapsIn
  rw [List.all_eq_true]
  intro x hx
  have := h x hx
  simp [this]
theorem specMeet_eq (a b c d : Int) (hd : 1 ≤ d ∧ d ≤ 40) (k : Nat) (hk : 100 < k) : spec_l05Meet.f k a b c d = some (meetB a b c d) := by
  have e : spec_l05Meet.f k a b c d = impl_Class_meets.f k a b c d := by
    unfold spec_l05Meet.f impl_Class_meets.f spec_l01Gcd.f impl_divisor.f
    rw [implGcd_l0]
  rw [e]
  exact at_rounds (g := fun k => impl_Class_meets.f k a b c d) (fun k => impl_Class_meets.mono a b c d k) (k := 100) (by omega) (meet_some a b c d hd)
def apartAll (l : List S54) : Nat → Nat → Bool
  | 0, _ => true
  | d + 1, i => apartB (rd_T54 l (i : Int)).f0 (rd_T54 l (i : Int)).f1 (l.take i) && apartAll l d (i + 1)
theorem rdC_take (l : List S54) (i j : Nat) (hj : j < i) (hi : i < l.length) : rd_T54 (l.take i) (j : Int) = rd_T54 l (j : Int) := by
  rw [rdC_get _ j (by rw [List.length_take]; omega), rdC_get l j (by omega), List.getElem_take]
end Go.Proofs.Ytnmcglnkifkpnaa.X
