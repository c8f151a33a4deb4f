/- What the laws' helper that holds tasks answers; no condition beside those stated. -/
import Derived.Test.YtjhiigfbjbkedaaDoorQM
import Derived.Test.YtjhiigfbjbkedaaDoorX5
namespace Go.Proofs.YtjhiigfbjbkedaaDoor.X
set_option linter.unusedVariables false
set_option linter.unusedSimpArgs false
open Go.RowKit Go.Proofs.YtjhiigfbjbkedaaDoorW.PrintWords Go.Proofs.YtjhiigfbjbkedaaDoorW.PrintLast
theorem heldTasks_eq (n : Nat) (c : Int) (hn : n ≤ 1048576) (h0 : 0 ≤ c) (h1 : c ≤ 1000000000) (k : Nat) (hk : n < k) : laws_heldTasks.f k (marks n c) c = some (c + (n : Int)) := by
  unfold laws_heldTasks.f
  rw [heldInt64S_eq n c hn h0 h1 k hk, Option.bind_some, if_neg (by omega)]
end Go.Proofs.YtjhiigfbjbkedaaDoor.X
