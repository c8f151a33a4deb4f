/- What IsTasks, areTurns, IsGarden and their references answer; no condition beside those stated. -/
import Derived.Test.YtnmcglnkifkpnaaQA
import Derived.Test.YtnmcglnkifkpnaaX3
import Derived.Test.YtnmcglnkifkpnaaX7
namespace Go.Proofs.Ytnmcglnkifkpnaa.X
set_option linter.unusedVariables false
set_option linter.unusedSimpArgs false
open Go.RowKit Go.Proofs.YtnmcglnkifkpnaaW.PrintWords Go.Proofs.YtnmcglnkifkpnaaW.PrintLast
theorem l01In_f (a lo hi : Int) : spec_l01In.f a lo hi = some (withinB a lo hi) := by
  unfold spec_l01In.f withinB
  by_cases h : lo ≤ a <;> simp [h]
theorem all_drop (l : List Int) (p : Int → Bool) (i : Nat) (h : i < l.length) : (l.drop i).all p = (p (rd l (i : Int)) && (l.drop (i + 1)).all p) := by
  rw [drop_rd l i h, List.all_cons]
end Go.Proofs.Ytnmcglnkifkpnaa.X
