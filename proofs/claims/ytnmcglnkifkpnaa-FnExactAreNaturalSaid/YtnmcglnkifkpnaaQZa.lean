/- Classes that are apart; no condition beside those stated. -/
import Derived.Test.YtnmcglnkifkpnaaQZ
import Derived.Test.YtnmcglnkifkpnaaX0
namespace Go.Proofs.Ytnmcglnkifkpnaa.X
set_option linter.unusedVariables false
set_option linter.unusedSimpArgs false
open Go.RowKit Go.Proofs.YtnmcglnkifkpnaaW.PrintWords Go.Proofs.YtnmcglnkifkpnaaW.PrintLast
theorem rdC_take (l : List S54) (i j : Nat) (hj : j < i) (hi : i < l.length) : rd_T54 (l.take i) (j : Int) = rd_T54 l (j : Int) := by
  rw [rdC_get _ j (by rw [List.length_take]; omega), rdC_get l j (by omega), List.getElem_take]
end Go.Proofs.Ytnmcglnkifkpnaa.X
