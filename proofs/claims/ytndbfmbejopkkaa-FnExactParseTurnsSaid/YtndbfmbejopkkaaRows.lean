/-
  No cell of these rows narrows 'for every input' (looked for: loops, veiled, ifaces, maps, wideKeys, modest, calm, conditions, laid).
  DERIVED. THE GIVEN ROWS OF THIS SEAT. 11 by the template 'for every input the law returns true; each argument reads behind the call as it read before'; 0 by the template 'total and deterministic' (their statements: YtndbfmbejopkkaaTotals.lean).
  GIVEN WITH THE SEED: the statements are not yours to turn. If you find one false, say at which input.
  Laid BY PROGRAM, IN A SANDBOX (cutbox-rows.mjs): the forced cells as the released guide's own fill.sh prints them over the translation 5aef0685e1d20d8b… (all of the seat's roots in one cut). By AI agents, Wed Nov 11 2026. No macro, syntax, notation, axiom, sorry.
-/
import Derived.Test.YtndbfmbejopkkaaChecked
import GoSem.Claim
import GoSem.ClaimJoined
import GoSem.ClaimMapViews
import Derived.JoinedTies
import Derived.KernelRfl
namespace Go.Proofs.Ytndbfmbejopkkaa
/- THE CELL 'sum', in the pinned program and in every row, IS THE sha256 OF THE DUMP (.gsa) THAT YtndbfmbejopkkaaProg.lean LOADS. Nothing in Lean hashes anything: it is a label: what it is worth is what the hold of that sum in a sandbox is worth. -/
noncomputable def Try.pinned : Pinned := { name := "ytndbfmbejopkkaa", sum := "5aef0685e1d20d8bf64f6441f11893955e4fe079ea74155b7b29bf889ead3581", checked := Try.checked }
namespace Rows
def none {H : Type} : Left H := { results := [], args := [] }

/-- 'laws.FnExactConstants': WHATEVER THE INPUT: true; the input reads as it did. -/
def fnExactConstantsSpec : ChangeSpec := { name := "fnExactConstants", fn := fun _ => fun
  | [] => { results := [.lit (.bool true)], args := [] }
  | _ => none }
def fnExactConstantsRow : OpenClaim := { program := "ytndbfmbejopkkaa", sum := "5aef0685e1d20d8bf64f6441f11893955e4fe079ea74155b7b29bf889ead3581", func := "loop.example/g01404/laws.FnExactConstants", spec := "fnExactConstants", apart := false }
def FnExactConstantsSaid : Prop := fnExactConstantsRow.holds Try.pinned (OpenSpec.ofChange fnExactConstantsSpec)

/-- ITS FALSE NEIGHBOUR: 'it returns false'. Refute it at one input. -/
def fnExactConstantsWrong : ChangeSpec := { name := "fnExactConstants", fn := fun _ => fun
  | [] => { results := [.lit (.bool false)], args := [] }
  | _ => none }
def FnExactConstantsWrongFalsely : Prop := fnExactConstantsRow.holds Try.pinned (OpenSpec.ofChange fnExactConstantsWrong)

/-- 'laws.FnExactAreClasses': WHATEVER THE INPUT: true; the input reads as it did. -/
def fnExactAreClassesSpec : ChangeSpec := { name := "fnExactAreClasses", fn := fun _ => fun
  | [d] => { results := [.lit (.bool true)], args := [d] }
  | _ => none }
def fnExactAreClassesRow : OpenClaim := { program := "ytndbfmbejopkkaa", sum := "5aef0685e1d20d8bf64f6441f11893955e4fe079ea74155b7b29bf889ead3581", func := "loop.example/g01404/laws.FnExactAreClasses", spec := "fnExactAreClasses", unfollowed := true, recurses := true, apart := false }
def FnExactAreClassesSaid : Prop := fnExactAreClassesRow.holds Try.pinned (OpenSpec.ofChange fnExactAreClassesSpec)

/-- ITS FALSE NEIGHBOUR: 'it returns false'. Refute it at one input. -/
def fnExactAreClassesWrong : ChangeSpec := { name := "fnExactAreClasses", fn := fun _ => fun
  | [d] => { results := [.lit (.bool false)], args := [d] }
  | _ => none }
def FnExactAreClassesWrongFalsely : Prop := fnExactAreClassesRow.holds Try.pinned (OpenSpec.ofChange fnExactAreClassesWrong)

/-- 'laws.FnExactIsGarden': WHATEVER THE INPUT: true; the input reads as it did. -/
def fnExactIsGardenSpec : ChangeSpec := { name := "fnExactIsGarden", fn := fun _ => fun
  | [d] => { results := [.lit (.bool true)], args := [d] }
  | _ => none }
def fnExactIsGardenRow : OpenClaim := { program := "ytndbfmbejopkkaa", sum := "5aef0685e1d20d8bf64f6441f11893955e4fe079ea74155b7b29bf889ead3581", func := "loop.example/g01404/laws.FnExactIsGarden", spec := "fnExactIsGarden", unfollowed := true, recurses := true, apart := false }
def FnExactIsGardenSaid : Prop := fnExactIsGardenRow.holds Try.pinned (OpenSpec.ofChange fnExactIsGardenSpec)

/-- ITS FALSE NEIGHBOUR: 'it returns false'. Refute it at one input. -/
def fnExactIsGardenWrong : ChangeSpec := { name := "fnExactIsGarden", fn := fun _ => fun
  | [d] => { results := [.lit (.bool false)], args := [d] }
  | _ => none }
def FnExactIsGardenWrongFalsely : Prop := fnExactIsGardenRow.holds Try.pinned (OpenSpec.ofChange fnExactIsGardenWrong)

/-- 'laws.FnExactIsTasks': WHATEVER THE INPUT: true; the input reads as it did. -/
def fnExactIsTasksSpec : ChangeSpec := { name := "fnExactIsTasks", fn := fun _ => fun
  | [d] => { results := [.lit (.bool true)], args := [d] }
  | _ => none }
def fnExactIsTasksRow : OpenClaim := { program := "ytndbfmbejopkkaa", sum := "5aef0685e1d20d8bf64f6441f11893955e4fe079ea74155b7b29bf889ead3581", func := "loop.example/g01404/laws.FnExactIsTasks", spec := "fnExactIsTasks", unfollowed := true, recurses := true, apart := false }
def FnExactIsTasksSaid : Prop := fnExactIsTasksRow.holds Try.pinned (OpenSpec.ofChange fnExactIsTasksSpec)

/-- ITS FALSE NEIGHBOUR: 'it returns false'. Refute it at one input. -/
def fnExactIsTasksWrong : ChangeSpec := { name := "fnExactIsTasks", fn := fun _ => fun
  | [d] => { results := [.lit (.bool false)], args := [d] }
  | _ => none }
def FnExactIsTasksWrongFalsely : Prop := fnExactIsTasksRow.holds Try.pinned (OpenSpec.ofChange fnExactIsTasksWrong)

/-- 'laws.FnExactTurnsText': WHATEVER THE INPUT: true; the input reads as it did. -/
def fnExactTurnsTextSpec : ChangeSpec := { name := "fnExactTurnsText", fn := fun _ => fun
  | [d] => { results := [.lit (.bool true)], args := [d] }
  | _ => none }
def fnExactTurnsTextRow : OpenClaim := { program := "ytndbfmbejopkkaa", sum := "5aef0685e1d20d8bf64f6441f11893955e4fe079ea74155b7b29bf889ead3581", func := "loop.example/g01404/laws.FnExactTurnsText", spec := "fnExactTurnsText", unfollowed := true, recurses := true, apart := false }
def FnExactTurnsTextSaid : Prop := fnExactTurnsTextRow.holds Try.pinned (OpenSpec.ofChange fnExactTurnsTextSpec)

/-- ITS FALSE NEIGHBOUR: 'it returns false'. Refute it at one input. -/
def fnExactTurnsTextWrong : ChangeSpec := { name := "fnExactTurnsText", fn := fun _ => fun
  | [d] => { results := [.lit (.bool false)], args := [d] }
  | _ => none }
def FnExactTurnsTextWrongFalsely : Prop := fnExactTurnsTextRow.holds Try.pinned (OpenSpec.ofChange fnExactTurnsTextWrong)

/-- 'laws.FnExactAreJobs': WHATEVER THE INPUT: true; the input reads as it did. -/
def fnExactAreJobsSpec : ChangeSpec := { name := "fnExactAreJobs", fn := fun _ => fun
  | [d] => { results := [.lit (.bool true)], args := [d] }
  | _ => none }
def fnExactAreJobsRow : OpenClaim := { program := "ytndbfmbejopkkaa", sum := "5aef0685e1d20d8bf64f6441f11893955e4fe079ea74155b7b29bf889ead3581", func := "loop.example/g01404/laws.FnExactAreJobs", spec := "fnExactAreJobs", apart := false }
def FnExactAreJobsSaid : Prop := fnExactAreJobsRow.holds Try.pinned (OpenSpec.ofChange fnExactAreJobsSpec)

/-- ITS FALSE NEIGHBOUR: 'it returns false'. Refute it at one input. -/
def fnExactAreJobsWrong : ChangeSpec := { name := "fnExactAreJobs", fn := fun _ => fun
  | [d] => { results := [.lit (.bool false)], args := [d] }
  | _ => none }
def FnExactAreJobsWrongFalsely : Prop := fnExactAreJobsRow.holds Try.pinned (OpenSpec.ofChange fnExactAreJobsWrong)

/-- 'laws.FnExactReverseTurns': WHATEVER THE INPUT: true; the input reads as it did. -/
def fnExactReverseTurnsSpec : ChangeSpec := { name := "fnExactReverseTurns", fn := fun _ => fun
  | [d] => { results := [.lit (.bool true)], args := [d] }
  | _ => none }
def fnExactReverseTurnsRow : OpenClaim := { program := "ytndbfmbejopkkaa", sum := "5aef0685e1d20d8bf64f6441f11893955e4fe079ea74155b7b29bf889ead3581", func := "loop.example/g01404/laws.FnExactReverseTurns", spec := "fnExactReverseTurns", unfollowed := true, recurses := true, apart := false }
def FnExactReverseTurnsSaid : Prop := fnExactReverseTurnsRow.holds Try.pinned (OpenSpec.ofChange fnExactReverseTurnsSpec)

/-- ITS FALSE NEIGHBOUR: 'it returns false'. Refute it at one input. -/
def fnExactReverseTurnsWrong : ChangeSpec := { name := "fnExactReverseTurns", fn := fun _ => fun
  | [d] => { results := [.lit (.bool false)], args := [d] }
  | _ => none }
def FnExactReverseTurnsWrongFalsely : Prop := fnExactReverseTurnsRow.holds Try.pinned (OpenSpec.ofChange fnExactReverseTurnsWrong)

/-- 'laws.FnExactParseTurns': WHATEVER THE INPUT: true; the input reads as it did. -/
def fnExactParseTurnsSpec : ChangeSpec := { name := "fnExactParseTurns", fn := fun _ => fun
  | [d] => { results := [.lit (.bool true)], args := [d] }
  | _ => none }
def fnExactParseTurnsRow : OpenClaim := { program := "ytndbfmbejopkkaa", sum := "5aef0685e1d20d8bf64f6441f11893955e4fe079ea74155b7b29bf889ead3581", func := "loop.example/g01404/laws.FnExactParseTurns", spec := "fnExactParseTurns", unfollowed := true, recurses := true, apart := false }
def FnExactParseTurnsSaid : Prop := fnExactParseTurnsRow.holds Try.pinned (OpenSpec.ofChange fnExactParseTurnsSpec)

/-- ITS FALSE NEIGHBOUR: 'it returns false'. Refute it at one input. -/
def fnExactParseTurnsWrong : ChangeSpec := { name := "fnExactParseTurns", fn := fun _ => fun
  | [d] => { results := [.lit (.bool false)], args := [d] }
  | _ => none }
def FnExactParseTurnsWrongFalsely : Prop := fnExactParseTurnsRow.holds Try.pinned (OpenSpec.ofChange fnExactParseTurnsWrong)

/-- 'laws.FnExactShiftTurns': WHATEVER THE INPUT: true; the input reads as it did. -/
def fnExactShiftTurnsSpec : ChangeSpec := { name := "fnExactShiftTurns", fn := fun _ => fun
  | [d1, d2] => { results := [.lit (.bool true)], args := [d1, d2] }
  | _ => none }
def fnExactShiftTurnsRow : OpenClaim := { program := "ytndbfmbejopkkaa", sum := "5aef0685e1d20d8bf64f6441f11893955e4fe079ea74155b7b29bf889ead3581", func := "loop.example/g01404/laws.FnExactShiftTurns", spec := "fnExactShiftTurns", unfollowed := true, recurses := true, apart := false }
def FnExactShiftTurnsSaid : Prop := fnExactShiftTurnsRow.holds Try.pinned (OpenSpec.ofChange fnExactShiftTurnsSpec)

/-- ITS FALSE NEIGHBOUR: 'it returns false'. Refute it at one input. -/
def fnExactShiftTurnsWrong : ChangeSpec := { name := "fnExactShiftTurns", fn := fun _ => fun
  | [d1, d2] => { results := [.lit (.bool false)], args := [d1, d2] }
  | _ => none }
def FnExactShiftTurnsWrongFalsely : Prop := fnExactShiftTurnsRow.holds Try.pinned (OpenSpec.ofChange fnExactShiftTurnsWrong)

/-- 'laws.FnExactCountStates': WHATEVER THE INPUT: true; the input reads as it did. -/
def fnExactCountStatesSpec : ChangeSpec := { name := "fnExactCountStates", fn := fun _ => fun
  | [d] => { results := [.lit (.bool true)], args := [d] }
  | _ => none }
def fnExactCountStatesRow : OpenClaim := { program := "ytndbfmbejopkkaa", sum := "5aef0685e1d20d8bf64f6441f11893955e4fe079ea74155b7b29bf889ead3581", func := "loop.example/g01404/laws.FnExactCountStates", spec := "fnExactCountStates", unfollowed := true, recurses := true, apart := false }
def FnExactCountStatesSaid : Prop := fnExactCountStatesRow.holds Try.pinned (OpenSpec.ofChange fnExactCountStatesSpec)

/-- ITS FALSE NEIGHBOUR: 'it returns false'. Refute it at one input. -/
def fnExactCountStatesWrong : ChangeSpec := { name := "fnExactCountStates", fn := fun _ => fun
  | [d] => { results := [.lit (.bool false)], args := [d] }
  | _ => none }
def FnExactCountStatesWrongFalsely : Prop := fnExactCountStatesRow.holds Try.pinned (OpenSpec.ofChange fnExactCountStatesWrong)

/-- 'laws.FnExactWaitsOf': WHATEVER THE INPUT: true; the input reads as it did. -/
def fnExactWaitsOfSpec : ChangeSpec := { name := "fnExactWaitsOf", fn := fun _ => fun
  | [d1, d2] => { results := [.lit (.bool true)], args := [d1, d2] }
  | _ => none }
def fnExactWaitsOfRow : OpenClaim := { program := "ytndbfmbejopkkaa", sum := "5aef0685e1d20d8bf64f6441f11893955e4fe079ea74155b7b29bf889ead3581", func := "loop.example/g01404/laws.FnExactWaitsOf", spec := "fnExactWaitsOf", unfollowed := true, recurses := true, apart := false }
def FnExactWaitsOfSaid : Prop := fnExactWaitsOfRow.holds Try.pinned (OpenSpec.ofChange fnExactWaitsOfSpec)

/-- ITS FALSE NEIGHBOUR: 'it returns false'. Refute it at one input. -/
def fnExactWaitsOfWrong : ChangeSpec := { name := "fnExactWaitsOf", fn := fun _ => fun
  | [d1, d2] => { results := [.lit (.bool false)], args := [d1, d2] }
  | _ => none }
def FnExactWaitsOfWrongFalsely : Prop := fnExactWaitsOfRow.holds Try.pinned (OpenSpec.ofChange fnExactWaitsOfWrong)

/- THE SECOND FORM. 'bulk': how many values and letters a reading holds, each counted each time it is reached (what is shared counts as often as it is met; a slice's spare places count too). A statement '..UptoSaid' is the law's where the arguments, and the package variables that the reading takes, are together of bulk at most 1048576: NARROWER than '..Said'. Prove '..Said' where nothing that the law and all that it calls make is longer than what came in: it says more and counts as full. Else prove '..UptoSaid'. A law counts once. -/
mutual
def uptoBulk {H : Type} : DataW H → Nat
  | .lit (.string bytes) => bytes.length + 1
  | .lit _ => 1
  | .nil => 1
  | .ptr d => uptoBulk d + 1
  | .slice elems spare => uptoBulkAll elems + uptoBulkAll spare + 1
  | .agg parts => uptoBulkAll parts + 1
  | .iface _ d => uptoBulk d + 1
  | .map entries => uptoBulkEntries entries + 1
  | .held _ => 1
def uptoBulkAll {H : Type} : List (DataW H) → Nat
  | [] => 0
  | d :: r => uptoBulk d + uptoBulkAll r
def uptoBulkEntries {H : Type} : List (Lit × DataW H) → Nat
  | [] => 0
  | x :: r => uptoBulkEntry x + uptoBulkEntries r
def uptoBulkEntry {H : Type} : Lit × DataW H → Nat
  | (.string bytes, d) => bytes.length + uptoBulk d + 1
  | (_, d) => uptoBulk d + 1
 end
def uptoSmall : (H : Type) → List (DataW H) → Bool := fun _ ds => decide (uptoBulkAll ds ≤ 1048576)
def OpenSpec.upto (s : _root_.Go.ChangeSpec) : _root_.Go.OpenSpec := { _root_.Go.OpenSpec.ofChange s with cond := some uptoSmall }

/-- 'laws.FnExactConstants', WHERE WHAT IT READS IS OF BULK AT MOST 1048576: true; the input reads as it did. -/
def fnExactConstantsUptoRow : OpenClaim := { program := "ytndbfmbejopkkaa", sum := "5aef0685e1d20d8bf64f6441f11893955e4fe079ea74155b7b29bf889ead3581", func := "loop.example/g01404/laws.FnExactConstants", spec := "fnExactConstants", apart := false, narrowed := true }
def FnExactConstantsUptoSaid : Prop := fnExactConstantsUptoRow.holds Try.pinned (OpenSpec.upto fnExactConstantsSpec)

/-- 'laws.FnExactAreClasses', WHERE WHAT IT READS IS OF BULK AT MOST 1048576: true; the input reads as it did. -/
def fnExactAreClassesUptoRow : OpenClaim := { program := "ytndbfmbejopkkaa", sum := "5aef0685e1d20d8bf64f6441f11893955e4fe079ea74155b7b29bf889ead3581", func := "loop.example/g01404/laws.FnExactAreClasses", spec := "fnExactAreClasses", unfollowed := true, recurses := true, apart := false, narrowed := true }
def FnExactAreClassesUptoSaid : Prop := fnExactAreClassesUptoRow.holds Try.pinned (OpenSpec.upto fnExactAreClassesSpec)

/-- 'laws.FnExactIsGarden', WHERE WHAT IT READS IS OF BULK AT MOST 1048576: true; the input reads as it did. -/
def fnExactIsGardenUptoRow : OpenClaim := { program := "ytndbfmbejopkkaa", sum := "5aef0685e1d20d8bf64f6441f11893955e4fe079ea74155b7b29bf889ead3581", func := "loop.example/g01404/laws.FnExactIsGarden", spec := "fnExactIsGarden", unfollowed := true, recurses := true, apart := false, narrowed := true }
def FnExactIsGardenUptoSaid : Prop := fnExactIsGardenUptoRow.holds Try.pinned (OpenSpec.upto fnExactIsGardenSpec)

/-- 'laws.FnExactIsTasks', WHERE WHAT IT READS IS OF BULK AT MOST 1048576: true; the input reads as it did. -/
def fnExactIsTasksUptoRow : OpenClaim := { program := "ytndbfmbejopkkaa", sum := "5aef0685e1d20d8bf64f6441f11893955e4fe079ea74155b7b29bf889ead3581", func := "loop.example/g01404/laws.FnExactIsTasks", spec := "fnExactIsTasks", unfollowed := true, recurses := true, apart := false, narrowed := true }
def FnExactIsTasksUptoSaid : Prop := fnExactIsTasksUptoRow.holds Try.pinned (OpenSpec.upto fnExactIsTasksSpec)

/-- 'laws.FnExactTurnsText', WHERE WHAT IT READS IS OF BULK AT MOST 1048576: true; the input reads as it did. -/
def fnExactTurnsTextUptoRow : OpenClaim := { program := "ytndbfmbejopkkaa", sum := "5aef0685e1d20d8bf64f6441f11893955e4fe079ea74155b7b29bf889ead3581", func := "loop.example/g01404/laws.FnExactTurnsText", spec := "fnExactTurnsText", unfollowed := true, recurses := true, apart := false, narrowed := true }
def FnExactTurnsTextUptoSaid : Prop := fnExactTurnsTextUptoRow.holds Try.pinned (OpenSpec.upto fnExactTurnsTextSpec)

/-- 'laws.FnExactAreJobs', WHERE WHAT IT READS IS OF BULK AT MOST 1048576: true; the input reads as it did. -/
def fnExactAreJobsUptoRow : OpenClaim := { program := "ytndbfmbejopkkaa", sum := "5aef0685e1d20d8bf64f6441f11893955e4fe079ea74155b7b29bf889ead3581", func := "loop.example/g01404/laws.FnExactAreJobs", spec := "fnExactAreJobs", apart := false, narrowed := true }
def FnExactAreJobsUptoSaid : Prop := fnExactAreJobsUptoRow.holds Try.pinned (OpenSpec.upto fnExactAreJobsSpec)

/-- 'laws.FnExactReverseTurns', WHERE WHAT IT READS IS OF BULK AT MOST 1048576: true; the input reads as it did. -/
def fnExactReverseTurnsUptoRow : OpenClaim := { program := "ytndbfmbejopkkaa", sum := "5aef0685e1d20d8bf64f6441f11893955e4fe079ea74155b7b29bf889ead3581", func := "loop.example/g01404/laws.FnExactReverseTurns", spec := "fnExactReverseTurns", unfollowed := true, recurses := true, apart := false, narrowed := true }
def FnExactReverseTurnsUptoSaid : Prop := fnExactReverseTurnsUptoRow.holds Try.pinned (OpenSpec.upto fnExactReverseTurnsSpec)

/-- 'laws.FnExactParseTurns', WHERE WHAT IT READS IS OF BULK AT MOST 1048576: true; the input reads as it did. -/
def fnExactParseTurnsUptoRow : OpenClaim := { program := "ytndbfmbejopkkaa", sum := "5aef0685e1d20d8bf64f6441f11893955e4fe079ea74155b7b29bf889ead3581", func := "loop.example/g01404/laws.FnExactParseTurns", spec := "fnExactParseTurns", unfollowed := true, recurses := true, apart := false, narrowed := true }
def FnExactParseTurnsUptoSaid : Prop := fnExactParseTurnsUptoRow.holds Try.pinned (OpenSpec.upto fnExactParseTurnsSpec)

/-- 'laws.FnExactShiftTurns', WHERE WHAT IT READS IS OF BULK AT MOST 1048576: true; the input reads as it did. -/
def fnExactShiftTurnsUptoRow : OpenClaim := { program := "ytndbfmbejopkkaa", sum := "5aef0685e1d20d8bf64f6441f11893955e4fe079ea74155b7b29bf889ead3581", func := "loop.example/g01404/laws.FnExactShiftTurns", spec := "fnExactShiftTurns", unfollowed := true, recurses := true, apart := false, narrowed := true }
def FnExactShiftTurnsUptoSaid : Prop := fnExactShiftTurnsUptoRow.holds Try.pinned (OpenSpec.upto fnExactShiftTurnsSpec)

/-- 'laws.FnExactCountStates', WHERE WHAT IT READS IS OF BULK AT MOST 1048576: true; the input reads as it did. -/
def fnExactCountStatesUptoRow : OpenClaim := { program := "ytndbfmbejopkkaa", sum := "5aef0685e1d20d8bf64f6441f11893955e4fe079ea74155b7b29bf889ead3581", func := "loop.example/g01404/laws.FnExactCountStates", spec := "fnExactCountStates", unfollowed := true, recurses := true, apart := false, narrowed := true }
def FnExactCountStatesUptoSaid : Prop := fnExactCountStatesUptoRow.holds Try.pinned (OpenSpec.upto fnExactCountStatesSpec)

/-- 'laws.FnExactWaitsOf', WHERE WHAT IT READS IS OF BULK AT MOST 1048576: true; the input reads as it did. -/
def fnExactWaitsOfUptoRow : OpenClaim := { program := "ytndbfmbejopkkaa", sum := "5aef0685e1d20d8bf64f6441f11893955e4fe079ea74155b7b29bf889ead3581", func := "loop.example/g01404/laws.FnExactWaitsOf", spec := "fnExactWaitsOf", unfollowed := true, recurses := true, apart := false, narrowed := true }
def FnExactWaitsOfUptoSaid : Prop := fnExactWaitsOfUptoRow.holds Try.pinned (OpenSpec.upto fnExactWaitsOfSpec)

end Rows
end Go.Proofs.Ytndbfmbejopkkaa
