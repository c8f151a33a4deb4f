/- Turns shifted, in the reference; no condition beside those stated. -/
import Derived.Test.YtcjcocffhljggaaQB
import Derived.Test.YtcjcocffhljggaaX12
import Derived.Test.YtcjcocffhljggaaX25
namespace Go.Proofs.Ytcjcocffhljggaa.X
set_option linter.unusedVariables false
set_option linter.unusedSimpArgs false
open Go.RowKit Go.Proofs.YtcjcocffhljggaaW.PrintWords Go.Proofs.YtcjcocffhljggaaW.PrintLast
theorem l01Own_eq (l : List Int) (hm : l.length ≤ 1048576) : spec_l01Own.f l = some l := by
  unfold spec_l01Own.f
  rw [Option.bind_some, if_pos (by simp; omega)]
  rfl
theorem l01Shifted_eq (l : List Int) (n : Nat) (hm : l.length ≤ 1048576) (hn : n ≤ l.length) : spec_l01Shifted.f l (n : Int) = some (l.drop n ++ l.take n) := by
  unfold spec_l01Shifted.f
  rw [if_pos (by omega), if_pos (by omega), toNat_nat, l01Own_eq _ (by rw [List.length_drop]; omega), Option.bind_some, if_pos (by rw [List.length_drop, List.length_take]; omega)]
end Go.Proofs.Ytcjcocffhljggaa.X
