/- The span of classes, and slots that are in a class; no condition beside those stated. -/
import Derived.Test.YtnmcglnkifkpnaaQZe
import Derived.Test.YtnmcglnkifkpnaaX0
namespace Go.Proofs.Ytnmcglnkifkpnaa.X
set_option linter.unusedVariables false
set_option linter.unusedSimpArgs false
open Go.RowKit Go.Proofs.YtnmcglnkifkpnaaW.PrintWords Go.Proofs.YtnmcglnkifkpnaaW.PrintLast
def spanN (l : List S54) : Nat := mulF (gapsL l) 1
theorem spanN_range (l : List S54) (hl : l.length ≤ 8) (hg : ∀ x ∈ l, 1 ≤ x.f1 ∧ x.f1 ≤ 40) : 1 ≤ spanN l ∧ spanN l ≤ 6553600000000 := mulF_range (gapsL l) (by rw [gapsL_length]; exact hl) (gapsL_mem hg)
end Go.Proofs.Ytnmcglnkifkpnaa.X
