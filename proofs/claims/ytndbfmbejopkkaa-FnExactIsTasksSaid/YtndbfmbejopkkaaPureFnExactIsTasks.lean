/- For every list of gaps of any length: the program's IsTasks answers as the reference's does. -/
import Derived.Test.YtndbfmbejopkkaaQB
import Derived.Test.YtndbfmbejopkkaaX39
import Derived.Test.YtndbfmbejopkkaaX51
import Derived.Test.YtndbfmbejopkkaaX52
namespace Go.Proofs.Ytndbfmbejopkkaa.Pure
set_option linter.unusedVariables false
set_option linter.unusedSimpArgs false
open Go.RowKit Go.Proofs.Ytndbfmbejopkkaa.X Go.Proofs.YtndbfmbejopkkaaW.PrintWords Go.Proofs.YtndbfmbejopkkaaW.PrintLast
theorem FnExactIsTasks : laws_FnExactIsTasks.Pure := by
  intro l hm hw
  refine ⟨4000000, ?_⟩
  unfold laws_FnExactIsTasks.f
  by_cases hl : l.length ≤ 1048576
  · rw [szTasks_ok l hl, Option.bind_some, if_neg (by omega)]
    simp only [toTasks_eq l hl 4000000 (by omega), Option.bind_some, spec_IsTasks.f, l01Is_eq l (by omega) 4000000 (by omega), impl_IsTasks.f, bne_self_eq_false, Bool.false_eq_true, if_false, eqTasks_self l hl 4000000 (by omega), if_true]
  · rw [szTasks_big l (maxLen_le hm) hl, Option.bind_some, if_pos (by omega)]
end Go.Proofs.Ytndbfmbejopkkaa.Pure
