/- Exact classes; no condition beside those stated. -/
import Derived.Test.YtnmcglnkifkpnaaQZa
import Derived.Test.YtnmcglnkifkpnaaQN
import Derived.Test.YtnmcglnkifkpnaaX0
namespace Go.Proofs.Ytnmcglnkifkpnaa.X
set_option linter.unusedVariables false
set_option linter.unusedSimpArgs false
open Go.RowKit Go.Proofs.YtnmcglnkifkpnaaW.PrintWords Go.Proofs.YtnmcglnkifkpnaaW.PrintLast
def gapsL (l : List S54) : List Int := l.map fun x => x.f1
theorem gapsL_length (l : List S54) : (gapsL l).length = l.length := by simp [gapsL]
theorem gapsL_mem {l : List S54} (hg : ∀ x ∈ l, 1 ≤ x.f1 ∧ x.f1 ≤ 40) : ∀ g ∈ gapsL l, 1 ≤ g ∧ g ≤ 40 := by
  intro g h
  obtain ⟨x, hx, rfl⟩ := List.mem_map.1 h
  exact hg x hx
def densP (l : List S54) : Int × Int := (wrap64 (Int.tdiv (densF (gapsL l) (mulF (gapsL l) 1 : Nat) 0) (gI (densF (gapsL l) (mulF (gapsL l) 1 : Nat) 0) (mulF (gapsL l) 1 : Nat))), wrap64 (Int.tdiv (mulF (gapsL l) 1 : Nat) (gI (densF (gapsL l) (mulF (gapsL l) 1 : Nat) 0) (mulF (gapsL l) 1 : Nat))))
end Go.Proofs.Ytnmcglnkifkpnaa.X
