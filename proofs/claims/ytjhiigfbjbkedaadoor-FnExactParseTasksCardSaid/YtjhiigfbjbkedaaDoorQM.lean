/- What the laws' helpers that mark and hold tasks answer; no condition beside those stated. -/
import Derived.Test.YtjhiigfbjbkedaaDoorQB
import Derived.Test.YtjhiigfbjbkedaaDoorX5
namespace Go.Proofs.YtjhiigfbjbkedaaDoor.X
set_option linter.unusedVariables false
set_option linter.unusedSimpArgs false
open Go.RowKit Go.Proofs.YtjhiigfbjbkedaaDoorW.PrintWords Go.Proofs.YtjhiigfbjbkedaaDoorW.PrintLast
theorem markTasks_eq (x : List Int) (c : Int) (hm : x.length ≤ 1048576) (h0 : 0 ≤ c) (h1 : c ≤ 1000000000) (k : Nat) (hk : x.length < k) : laws_markTasks.f k x c = some (c + (x.length : Int), marks x.length c) := by
  unfold laws_markTasks.f
  rw [markInt64S_eq x c hm h0 h1 k hk, Option.bind_some]
end Go.Proofs.YtjhiigfbjbkedaaDoor.X
