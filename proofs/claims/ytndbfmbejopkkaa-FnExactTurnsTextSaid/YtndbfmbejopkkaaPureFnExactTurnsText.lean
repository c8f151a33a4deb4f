/- For every list of whole numbers: the program's TurnsText answers as the reference's does, and leaves its argument as it was. -/
import Derived.Test.YtndbfmbejopkkaaQC
import Derived.Test.YtndbfmbejopkkaaX58
import Derived.Test.YtndbfmbejopkkaaX76
import Derived.Test.YtndbfmbejopkkaaX77
import Derived.Test.YtndbfmbejopkkaaX78
namespace Go.Proofs.Ytndbfmbejopkkaa.Pure
set_option linter.unusedVariables false
set_option linter.unusedSimpArgs false
open Go.RowKit Go.Proofs.Ytndbfmbejopkkaa.X Go.Proofs.YtndbfmbejopkkaaW.PrintWords Go.Proofs.YtndbfmbejopkkaaW.PrintLast
theorem FnExactTurnsText : laws_FnExactTurnsText.Pure := by
  intro l hm hy hw
  refine ⟨4000010, ?_⟩
  unfold laws_FnExactTurnsText.f
  by_cases hl : l.length ≤ 1048576
  · rw [if_neg (by omega)]
    have hS : spec_TurnsText.f 4000010 l = some (if areTurnsB l 8 = true then (strOfNums (l.map encS), (0 : Int)) else (⟨#[]⟩, 2)) := by
      unfold spec_TurnsText.f
      rw [l01Turns_eq l 8 (by omega) _ (by omega), Option.bind_some]
      by_cases h : areTurnsB l 8 = true
      · rw [if_pos h, if_pos h, l01Text_eq l hl _ (by omega), Option.bind_some]
      · rw [if_neg h, if_neg h]
    have hI : impl_TurnsText.f 4000010 l = some (if areTurnsB l 8 = true then (strOfNums (l.map encS), (0 : Int)) else (⟨#[]⟩, 2)) := by
      unfold impl_TurnsText.f
      rw [impl_areTurns.f, Option.bind_some]
      by_cases h : areTurnsB l 8 = true
      · rw [if_pos h, if_pos h, turnsText_eq l hl _ (by omega), Option.bind_some, map_enc l (fun x hx => (areTurns_mem h x hx).1)]
      · rw [if_neg h, if_neg h]
    simp (disch := omega) only [toInt64S_eq, Option.bind_some, hS, hI, if_true, bne_self_eq_false, laws_FnExactTurnsText.j0, Bool.false_eq_true, if_false, eqInt64S_self]
  · rw [if_pos (by omega)]
end Go.Proofs.Ytndbfmbejopkkaa.Pure
