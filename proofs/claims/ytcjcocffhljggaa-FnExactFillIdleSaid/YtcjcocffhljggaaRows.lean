/-
  No cell of these rows narrows 'for every input' (looked for: loops, veiled, ifaces, maps, wideKeys, modest, calm, conditions, laid).
  DERIVED. THE GIVEN ROWS OF THIS SEAT. 14 by the template 'for every input the law returns true; each argument reads behind the call as it read before'; 0 by the template 'total and deterministic' (their statements: YtcjcocffhljggaaTotals.lean).
  GIVEN WITH THE SEED: the statements are not yours to turn. If you find one false, say at which input.
  Laid BY PROGRAM, IN A SANDBOX (cutbox-rows.mjs): the forced cells as the released guide's own fill.sh prints them over the translation cc100407faba24ce… (all of the seat's roots in one cut). By AI agents, Wed Nov 11 2026. No macro, syntax, notation, axiom, sorry.
-/
import Derived.Test.YtcjcocffhljggaaChecked
import GoSem.Claim
import GoSem.ClaimJoined
import GoSem.ClaimMapViews
import Derived.JoinedTies
import Derived.KernelRfl
namespace Go.Proofs.Ytcjcocffhljggaa
/- THE CELL 'sum', in the pinned program and in every row, IS THE sha256 OF THE DUMP (.gsa) THAT YtcjcocffhljggaaProg.lean LOADS. Nothing in Lean hashes anything: it is a label: what it is worth is what the hold of that sum in a sandbox is worth. -/
noncomputable def Try.pinned : Pinned := { name := "ytcjcocffhljggaa", sum := "cc100407faba24ceb6a9928334ad36726a3c6a1385236ebb39a559f0ce873fb7", checked := Try.checked }
namespace Rows
def none {H : Type} : Left H := { results := [], args := [] }

/-- 'laws.FnExactFirstMiss': WHATEVER THE INPUT: true; the input reads as it did. -/
def fnExactFirstMissSpec : ChangeSpec := { name := "fnExactFirstMiss", fn := fun _ => fun
  | [d1, d2] => { results := [.lit (.bool true)], args := [d1, d2] }
  | _ => none }
def fnExactFirstMissRow : OpenClaim := { program := "ytcjcocffhljggaa", sum := "cc100407faba24ceb6a9928334ad36726a3c6a1385236ebb39a559f0ce873fb7", func := "loop.example/g01404/laws.FnExactFirstMiss", spec := "fnExactFirstMiss", unfollowed := true, recurses := true, apart := false }
def FnExactFirstMissSaid : Prop := fnExactFirstMissRow.holds Try.pinned (OpenSpec.ofChange fnExactFirstMissSpec)

/-- ITS FALSE NEIGHBOUR: 'it returns false'. Refute it at one input. -/
def fnExactFirstMissWrong : ChangeSpec := { name := "fnExactFirstMiss", fn := fun _ => fun
  | [d1, d2] => { results := [.lit (.bool false)], args := [d1, d2] }
  | _ => none }
def FnExactFirstMissWrongFalsely : Prop := fnExactFirstMissRow.holds Try.pinned (OpenSpec.ofChange fnExactFirstMissWrong)

/-- 'laws.FnExactGreatestWaits': WHATEVER THE INPUT: true; the input reads as it did. -/
def fnExactGreatestWaitsSpec : ChangeSpec := { name := "fnExactGreatestWaits", fn := fun _ => fun
  | [d] => { results := [.lit (.bool true)], args := [d] }
  | _ => none }
def fnExactGreatestWaitsRow : OpenClaim := { program := "ytcjcocffhljggaa", sum := "cc100407faba24ceb6a9928334ad36726a3c6a1385236ebb39a559f0ce873fb7", func := "loop.example/g01404/laws.FnExactGreatestWaits", spec := "fnExactGreatestWaits", unfollowed := true, recurses := true, apart := false }
def FnExactGreatestWaitsSaid : Prop := fnExactGreatestWaitsRow.holds Try.pinned (OpenSpec.ofChange fnExactGreatestWaitsSpec)

/-- ITS FALSE NEIGHBOUR: 'it returns false'. Refute it at one input. -/
def fnExactGreatestWaitsWrong : ChangeSpec := { name := "fnExactGreatestWaits", fn := fun _ => fun
  | [d] => { results := [.lit (.bool false)], args := [d] }
  | _ => none }
def FnExactGreatestWaitsWrongFalsely : Prop := fnExactGreatestWaitsRow.holds Try.pinned (OpenSpec.ofChange fnExactGreatestWaitsWrong)

/-- 'laws.FnExactSharesOf': WHATEVER THE INPUT: true; the input reads as it did. -/
def fnExactSharesOfSpec : ChangeSpec := { name := "fnExactSharesOf", fn := fun _ => fun
  | [d1, d2] => { results := [.lit (.bool true)], args := [d1, d2] }
  | _ => none }
def fnExactSharesOfRow : OpenClaim := { program := "ytcjcocffhljggaa", sum := "cc100407faba24ceb6a9928334ad36726a3c6a1385236ebb39a559f0ce873fb7", func := "loop.example/g01404/laws.FnExactSharesOf", spec := "fnExactSharesOf", unfollowed := true, recurses := true, apart := false }
def FnExactSharesOfSaid : Prop := fnExactSharesOfRow.holds Try.pinned (OpenSpec.ofChange fnExactSharesOfSpec)

/-- ITS FALSE NEIGHBOUR: 'it returns false'. Refute it at one input. -/
def fnExactSharesOfWrong : ChangeSpec := { name := "fnExactSharesOf", fn := fun _ => fun
  | [d1, d2] => { results := [.lit (.bool false)], args := [d1, d2] }
  | _ => none }
def FnExactSharesOfWrongFalsely : Prop := fnExactSharesOfRow.holds Try.pinned (OpenSpec.ofChange fnExactSharesOfWrong)

/-- 'laws.FnExactDoServe': WHATEVER THE INPUT: true; the input reads as it did. -/
def fnExactDoServeSpec : ChangeSpec := { name := "fnExactDoServe", fn := fun _ => fun
  | [d1, d2] => { results := [.lit (.bool true)], args := [d1, d2] }
  | _ => none }
def fnExactDoServeRow : OpenClaim := { program := "ytcjcocffhljggaa", sum := "cc100407faba24ceb6a9928334ad36726a3c6a1385236ebb39a559f0ce873fb7", func := "loop.example/g01404/laws.FnExactDoServe", spec := "fnExactDoServe", unfollowed := true, recurses := true, apart := false }
def FnExactDoServeSaid : Prop := fnExactDoServeRow.holds Try.pinned (OpenSpec.ofChange fnExactDoServeSpec)

/-- ITS FALSE NEIGHBOUR: 'it returns false'. Refute it at one input. -/
def fnExactDoServeWrong : ChangeSpec := { name := "fnExactDoServe", fn := fun _ => fun
  | [d1, d2] => { results := [.lit (.bool false)], args := [d1, d2] }
  | _ => none }
def FnExactDoServeWrongFalsely : Prop := fnExactDoServeRow.holds Try.pinned (OpenSpec.ofChange fnExactDoServeWrong)

/-- 'laws.FnExactFillIdle': WHATEVER THE INPUT: true; the input reads as it did. -/
def fnExactFillIdleSpec : ChangeSpec := { name := "fnExactFillIdle", fn := fun _ => fun
  | [d1, d2] => { results := [.lit (.bool true)], args := [d1, d2] }
  | _ => none }
def fnExactFillIdleRow : OpenClaim := { program := "ytcjcocffhljggaa", sum := "cc100407faba24ceb6a9928334ad36726a3c6a1385236ebb39a559f0ce873fb7", func := "loop.example/g01404/laws.FnExactFillIdle", spec := "fnExactFillIdle", unfollowed := true, recurses := true, apart := false }
def FnExactFillIdleSaid : Prop := fnExactFillIdleRow.holds Try.pinned (OpenSpec.ofChange fnExactFillIdleSpec)

/-- ITS FALSE NEIGHBOUR: 'it returns false'. Refute it at one input. -/
def fnExactFillIdleWrong : ChangeSpec := { name := "fnExactFillIdle", fn := fun _ => fun
  | [d1, d2] => { results := [.lit (.bool false)], args := [d1, d2] }
  | _ => none }
def FnExactFillIdleWrongFalsely : Prop := fnExactFillIdleRow.holds Try.pinned (OpenSpec.ofChange fnExactFillIdleWrong)

/-- 'laws.FnExactPeriodOf': WHATEVER THE INPUT: true; the input reads as it did. -/
def fnExactPeriodOfSpec : ChangeSpec := { name := "fnExactPeriodOf", fn := fun _ => fun
  | [d] => { results := [.lit (.bool true)], args := [d] }
  | _ => none }
def fnExactPeriodOfRow : OpenClaim := { program := "ytcjcocffhljggaa", sum := "cc100407faba24ceb6a9928334ad36726a3c6a1385236ebb39a559f0ce873fb7", func := "loop.example/g01404/laws.FnExactPeriodOf", spec := "fnExactPeriodOf", unfollowed := true, recurses := true, apart := false }
def FnExactPeriodOfSaid : Prop := fnExactPeriodOfRow.holds Try.pinned (OpenSpec.ofChange fnExactPeriodOfSpec)

/-- ITS FALSE NEIGHBOUR: 'it returns false'. Refute it at one input. -/
def fnExactPeriodOfWrong : ChangeSpec := { name := "fnExactPeriodOf", fn := fun _ => fun
  | [d] => { results := [.lit (.bool false)], args := [d] }
  | _ => none }
def FnExactPeriodOfWrongFalsely : Prop := fnExactPeriodOfRow.holds Try.pinned (OpenSpec.ofChange fnExactPeriodOfWrong)

/-- 'laws.FnExactLeastTurns': WHATEVER THE INPUT: true; the input reads as it did. -/
def fnExactLeastTurnsSpec : ChangeSpec := { name := "fnExactLeastTurns", fn := fun _ => fun
  | [d] => { results := [.lit (.bool true)], args := [d] }
  | _ => none }
def fnExactLeastTurnsRow : OpenClaim := { program := "ytcjcocffhljggaa", sum := "cc100407faba24ceb6a9928334ad36726a3c6a1385236ebb39a559f0ce873fb7", func := "loop.example/g01404/laws.FnExactLeastTurns", spec := "fnExactLeastTurns", unfollowed := true, recurses := true, apart := false }
def FnExactLeastTurnsSaid : Prop := fnExactLeastTurnsRow.holds Try.pinned (OpenSpec.ofChange fnExactLeastTurnsSpec)

/-- ITS FALSE NEIGHBOUR: 'it returns false'. Refute it at one input. -/
def fnExactLeastTurnsWrong : ChangeSpec := { name := "fnExactLeastTurns", fn := fun _ => fun
  | [d] => { results := [.lit (.bool false)], args := [d] }
  | _ => none }
def FnExactLeastTurnsWrongFalsely : Prop := fnExactLeastTurnsRow.holds Try.pinned (OpenSpec.ofChange fnExactLeastTurnsWrong)

/-- 'laws.FnExactRepeatTurns': WHATEVER THE INPUT: true; the input reads as it did. -/
def fnExactRepeatTurnsSpec : ChangeSpec := { name := "fnExactRepeatTurns", fn := fun _ => fun
  | [d1, d2] => { results := [.lit (.bool true)], args := [d1, d2] }
  | _ => none }
def fnExactRepeatTurnsRow : OpenClaim := { program := "ytcjcocffhljggaa", sum := "cc100407faba24ceb6a9928334ad36726a3c6a1385236ebb39a559f0ce873fb7", func := "loop.example/g01404/laws.FnExactRepeatTurns", spec := "fnExactRepeatTurns", unfollowed := true, recurses := true, apart := false }
def FnExactRepeatTurnsSaid : Prop := fnExactRepeatTurnsRow.holds Try.pinned (OpenSpec.ofChange fnExactRepeatTurnsSpec)

/-- ITS FALSE NEIGHBOUR: 'it returns false'. Refute it at one input. -/
def fnExactRepeatTurnsWrong : ChangeSpec := { name := "fnExactRepeatTurns", fn := fun _ => fun
  | [d1, d2] => { results := [.lit (.bool false)], args := [d1, d2] }
  | _ => none }
def FnExactRepeatTurnsWrongFalsely : Prop := fnExactRepeatTurnsRow.holds Try.pinned (OpenSpec.ofChange fnExactRepeatTurnsWrong)

/-- 'laws.FnExactGapsServed': WHATEVER THE INPUT: true; the input reads as it did. -/
def fnExactGapsServedSpec : ChangeSpec := { name := "fnExactGapsServed", fn := fun _ => fun
  | [d1, d2] => { results := [.lit (.bool true)], args := [d1, d2] }
  | _ => none }
def fnExactGapsServedRow : OpenClaim := { program := "ytcjcocffhljggaa", sum := "cc100407faba24ceb6a9928334ad36726a3c6a1385236ebb39a559f0ce873fb7", func := "loop.example/g01404/laws.FnExactGapsServed", spec := "fnExactGapsServed", unfollowed := true, recurses := true, apart := false }
def FnExactGapsServedSaid : Prop := fnExactGapsServedRow.holds Try.pinned (OpenSpec.ofChange fnExactGapsServedSpec)

/-- ITS FALSE NEIGHBOUR: 'it returns false'. Refute it at one input. -/
def fnExactGapsServedWrong : ChangeSpec := { name := "fnExactGapsServed", fn := fun _ => fun
  | [d1, d2] => { results := [.lit (.bool false)], args := [d1, d2] }
  | _ => none }
def FnExactGapsServedWrongFalsely : Prop := fnExactGapsServedRow.holds Try.pinned (OpenSpec.ofChange fnExactGapsServedWrong)

/-- 'laws.FnExactDivideTurns': WHATEVER THE INPUT: true; the input reads as it did. -/
def fnExactDivideTurnsSpec : ChangeSpec := { name := "fnExactDivideTurns", fn := fun _ => fun
  | [d1, d2, d3] => { results := [.lit (.bool true)], args := [d1, d2, d3] }
  | _ => none }
def fnExactDivideTurnsRow : OpenClaim := { program := "ytcjcocffhljggaa", sum := "cc100407faba24ceb6a9928334ad36726a3c6a1385236ebb39a559f0ce873fb7", func := "loop.example/g01404/laws.FnExactDivideTurns", spec := "fnExactDivideTurns", unfollowed := true, recurses := true, apart := false }
def FnExactDivideTurnsSaid : Prop := fnExactDivideTurnsRow.holds Try.pinned (OpenSpec.ofChange fnExactDivideTurnsSpec)

/-- ITS FALSE NEIGHBOUR: 'it returns false'. Refute it at one input. -/
def fnExactDivideTurnsWrong : ChangeSpec := { name := "fnExactDivideTurns", fn := fun _ => fun
  | [d1, d2, d3] => { results := [.lit (.bool false)], args := [d1, d2, d3] }
  | _ => none }
def FnExactDivideTurnsWrongFalsely : Prop := fnExactDivideTurnsRow.holds Try.pinned (OpenSpec.ofChange fnExactDivideTurnsWrong)

/-- 'laws.FnExactTowerOf': WHATEVER THE INPUT: true; the input reads as it did. -/
def fnExactTowerOfSpec : ChangeSpec := { name := "fnExactTowerOf", fn := fun _ => fun
  | [d1, d2] => { results := [.lit (.bool true)], args := [d1, d2] }
  | _ => none }
def fnExactTowerOfRow : OpenClaim := { program := "ytcjcocffhljggaa", sum := "cc100407faba24ceb6a9928334ad36726a3c6a1385236ebb39a559f0ce873fb7", func := "loop.example/g01404/laws.FnExactTowerOf", spec := "fnExactTowerOf", unfollowed := true, recurses := true, apart := false }
def FnExactTowerOfSaid : Prop := fnExactTowerOfRow.holds Try.pinned (OpenSpec.ofChange fnExactTowerOfSpec)

/-- ITS FALSE NEIGHBOUR: 'it returns false'. Refute it at one input. -/
def fnExactTowerOfWrong : ChangeSpec := { name := "fnExactTowerOf", fn := fun _ => fun
  | [d1, d2] => { results := [.lit (.bool false)], args := [d1, d2] }
  | _ => none }
def FnExactTowerOfWrongFalsely : Prop := fnExactTowerOfRow.holds Try.pinned (OpenSpec.ofChange fnExactTowerOfWrong)

/-- 'laws.FnExactFoldTasks': WHATEVER THE INPUT: true; the input reads as it did. -/
def fnExactFoldTasksSpec : ChangeSpec := { name := "fnExactFoldTasks", fn := fun _ => fun
  | [d1, d2, d3] => { results := [.lit (.bool true)], args := [d1, d2, d3] }
  | _ => none }
def fnExactFoldTasksRow : OpenClaim := { program := "ytcjcocffhljggaa", sum := "cc100407faba24ceb6a9928334ad36726a3c6a1385236ebb39a559f0ce873fb7", func := "loop.example/g01404/laws.FnExactFoldTasks", spec := "fnExactFoldTasks", unfollowed := true, recurses := true, apart := false }
def FnExactFoldTasksSaid : Prop := fnExactFoldTasksRow.holds Try.pinned (OpenSpec.ofChange fnExactFoldTasksSpec)

/-- ITS FALSE NEIGHBOUR: 'it returns false'. Refute it at one input. -/
def fnExactFoldTasksWrong : ChangeSpec := { name := "fnExactFoldTasks", fn := fun _ => fun
  | [d1, d2, d3] => { results := [.lit (.bool false)], args := [d1, d2, d3] }
  | _ => none }
def FnExactFoldTasksWrongFalsely : Prop := fnExactFoldTasksRow.holds Try.pinned (OpenSpec.ofChange fnExactFoldTasksWrong)

/-- 'laws.FnExactStepState': WHATEVER THE INPUT: true; the input reads as it did. -/
def fnExactStepStateSpec : ChangeSpec := { name := "fnExactStepState", fn := fun _ => fun
  | [d1, d2, d3] => { results := [.lit (.bool true)], args := [d1, d2, d3] }
  | _ => none }
def fnExactStepStateRow : OpenClaim := { program := "ytcjcocffhljggaa", sum := "cc100407faba24ceb6a9928334ad36726a3c6a1385236ebb39a559f0ce873fb7", func := "loop.example/g01404/laws.FnExactStepState", spec := "fnExactStepState", unfollowed := true, recurses := true, apart := false }
def FnExactStepStateSaid : Prop := fnExactStepStateRow.holds Try.pinned (OpenSpec.ofChange fnExactStepStateSpec)

/-- ITS FALSE NEIGHBOUR: 'it returns false'. Refute it at one input. -/
def fnExactStepStateWrong : ChangeSpec := { name := "fnExactStepState", fn := fun _ => fun
  | [d1, d2, d3] => { results := [.lit (.bool false)], args := [d1, d2, d3] }
  | _ => none }
def FnExactStepStateWrongFalsely : Prop := fnExactStepStateRow.holds Try.pinned (OpenSpec.ofChange fnExactStepStateWrong)

/-- 'laws.FnExactLessenGaps': WHATEVER THE INPUT: true; the input reads as it did. -/
def fnExactLessenGapsSpec : ChangeSpec := { name := "fnExactLessenGaps", fn := fun _ => fun
  | [d1, d2] => { results := [.lit (.bool true)], args := [d1, d2] }
  | _ => none }
def fnExactLessenGapsRow : OpenClaim := { program := "ytcjcocffhljggaa", sum := "cc100407faba24ceb6a9928334ad36726a3c6a1385236ebb39a559f0ce873fb7", func := "loop.example/g01404/laws.FnExactLessenGaps", spec := "fnExactLessenGaps", unfollowed := true, recurses := true, apart := false }
def FnExactLessenGapsSaid : Prop := fnExactLessenGapsRow.holds Try.pinned (OpenSpec.ofChange fnExactLessenGapsSpec)

/-- ITS FALSE NEIGHBOUR: 'it returns false'. Refute it at one input. -/
def fnExactLessenGapsWrong : ChangeSpec := { name := "fnExactLessenGaps", fn := fun _ => fun
  | [d1, d2] => { results := [.lit (.bool false)], args := [d1, d2] }
  | _ => none }
def FnExactLessenGapsWrongFalsely : Prop := fnExactLessenGapsRow.holds Try.pinned (OpenSpec.ofChange fnExactLessenGapsWrong)

/- THE SECOND FORM. 'bulk': how many values and letters a reading holds, each counted each time it is reached (what is shared counts as often as it is met; a slice's spare places count too). A statement '..UptoSaid' is the law's where the arguments, and the package variables that the reading takes, are together of bulk at most 1048576: NARROWER than '..Said'. Prove '..Said' where nothing that the law and all that it calls make is longer than what came in: it says more and counts as full. Else prove '..UptoSaid'. A law counts once. -/
mutual
def uptoBulk {H : Type} : DataW H → Nat
  | .lit (.string bytes) => bytes.length + 1
  | .lit _ => 1
  | .nil => 1
  | .ptr d => uptoBulk d + 1
  | .slice elems spare => uptoBulkAll elems + uptoBulkAll spare + 1
  | .agg parts => uptoBulkAll parts + 1
  | .iface _ d => uptoBulk d + 1
  | .map entries => uptoBulkEntries entries + 1
  | .held _ => 1
def uptoBulkAll {H : Type} : List (DataW H) → Nat
  | [] => 0
  | d :: r => uptoBulk d + uptoBulkAll r
def uptoBulkEntries {H : Type} : List (Lit × DataW H) → Nat
  | [] => 0
  | x :: r => uptoBulkEntry x + uptoBulkEntries r
def uptoBulkEntry {H : Type} : Lit × DataW H → Nat
  | (.string bytes, d) => bytes.length + uptoBulk d + 1
  | (_, d) => uptoBulk d + 1
 end
def uptoSmall : (H : Type) → List (DataW H) → Bool := fun _ ds => decide (uptoBulkAll ds ≤ 1048576)
def OpenSpec.upto (s : _root_.Go.ChangeSpec) : _root_.Go.OpenSpec := { _root_.Go.OpenSpec.ofChange s with cond := some uptoSmall }

/-- 'laws.FnExactFirstMiss', WHERE WHAT IT READS IS OF BULK AT MOST 1048576: true; the input reads as it did. -/
def fnExactFirstMissUptoRow : OpenClaim := { program := "ytcjcocffhljggaa", sum := "cc100407faba24ceb6a9928334ad36726a3c6a1385236ebb39a559f0ce873fb7", func := "loop.example/g01404/laws.FnExactFirstMiss", spec := "fnExactFirstMiss", unfollowed := true, recurses := true, apart := false, narrowed := true }
def FnExactFirstMissUptoSaid : Prop := fnExactFirstMissUptoRow.holds Try.pinned (OpenSpec.upto fnExactFirstMissSpec)

/-- 'laws.FnExactGreatestWaits', WHERE WHAT IT READS IS OF BULK AT MOST 1048576: true; the input reads as it did. -/
def fnExactGreatestWaitsUptoRow : OpenClaim := { program := "ytcjcocffhljggaa", sum := "cc100407faba24ceb6a9928334ad36726a3c6a1385236ebb39a559f0ce873fb7", func := "loop.example/g01404/laws.FnExactGreatestWaits", spec := "fnExactGreatestWaits", unfollowed := true, recurses := true, apart := false, narrowed := true }
def FnExactGreatestWaitsUptoSaid : Prop := fnExactGreatestWaitsUptoRow.holds Try.pinned (OpenSpec.upto fnExactGreatestWaitsSpec)

/-- 'laws.FnExactSharesOf', WHERE WHAT IT READS IS OF BULK AT MOST 1048576: true; the input reads as it did. -/
def fnExactSharesOfUptoRow : OpenClaim := { program := "ytcjcocffhljggaa", sum := "cc100407faba24ceb6a9928334ad36726a3c6a1385236ebb39a559f0ce873fb7", func := "loop.example/g01404/laws.FnExactSharesOf", spec := "fnExactSharesOf", unfollowed := true, recurses := true, apart := false, narrowed := true }
def FnExactSharesOfUptoSaid : Prop := fnExactSharesOfUptoRow.holds Try.pinned (OpenSpec.upto fnExactSharesOfSpec)

/-- 'laws.FnExactDoServe', WHERE WHAT IT READS IS OF BULK AT MOST 1048576: true; the input reads as it did. -/
def fnExactDoServeUptoRow : OpenClaim := { program := "ytcjcocffhljggaa", sum := "cc100407faba24ceb6a9928334ad36726a3c6a1385236ebb39a559f0ce873fb7", func := "loop.example/g01404/laws.FnExactDoServe", spec := "fnExactDoServe", unfollowed := true, recurses := true, apart := false, narrowed := true }
def FnExactDoServeUptoSaid : Prop := fnExactDoServeUptoRow.holds Try.pinned (OpenSpec.upto fnExactDoServeSpec)

/-- 'laws.FnExactFillIdle', WHERE WHAT IT READS IS OF BULK AT MOST 1048576: true; the input reads as it did. -/
def fnExactFillIdleUptoRow : OpenClaim := { program := "ytcjcocffhljggaa", sum := "cc100407faba24ceb6a9928334ad36726a3c6a1385236ebb39a559f0ce873fb7", func := "loop.example/g01404/laws.FnExactFillIdle", spec := "fnExactFillIdle", unfollowed := true, recurses := true, apart := false, narrowed := true }
def FnExactFillIdleUptoSaid : Prop := fnExactFillIdleUptoRow.holds Try.pinned (OpenSpec.upto fnExactFillIdleSpec)

/-- 'laws.FnExactPeriodOf', WHERE WHAT IT READS IS OF BULK AT MOST 1048576: true; the input reads as it did. -/
def fnExactPeriodOfUptoRow : OpenClaim := { program := "ytcjcocffhljggaa", sum := "cc100407faba24ceb6a9928334ad36726a3c6a1385236ebb39a559f0ce873fb7", func := "loop.example/g01404/laws.FnExactPeriodOf", spec := "fnExactPeriodOf", unfollowed := true, recurses := true, apart := false, narrowed := true }
def FnExactPeriodOfUptoSaid : Prop := fnExactPeriodOfUptoRow.holds Try.pinned (OpenSpec.upto fnExactPeriodOfSpec)

/-- 'laws.FnExactLeastTurns', WHERE WHAT IT READS IS OF BULK AT MOST 1048576: true; the input reads as it did. -/
def fnExactLeastTurnsUptoRow : OpenClaim := { program := "ytcjcocffhljggaa", sum := "cc100407faba24ceb6a9928334ad36726a3c6a1385236ebb39a559f0ce873fb7", func := "loop.example/g01404/laws.FnExactLeastTurns", spec := "fnExactLeastTurns", unfollowed := true, recurses := true, apart := false, narrowed := true }
def FnExactLeastTurnsUptoSaid : Prop := fnExactLeastTurnsUptoRow.holds Try.pinned (OpenSpec.upto fnExactLeastTurnsSpec)

/-- 'laws.FnExactRepeatTurns', WHERE WHAT IT READS IS OF BULK AT MOST 1048576: true; the input reads as it did. -/
def fnExactRepeatTurnsUptoRow : OpenClaim := { program := "ytcjcocffhljggaa", sum := "cc100407faba24ceb6a9928334ad36726a3c6a1385236ebb39a559f0ce873fb7", func := "loop.example/g01404/laws.FnExactRepeatTurns", spec := "fnExactRepeatTurns", unfollowed := true, recurses := true, apart := false, narrowed := true }
def FnExactRepeatTurnsUptoSaid : Prop := fnExactRepeatTurnsUptoRow.holds Try.pinned (OpenSpec.upto fnExactRepeatTurnsSpec)

/-- 'laws.FnExactGapsServed', WHERE WHAT IT READS IS OF BULK AT MOST 1048576: true; the input reads as it did. -/
def fnExactGapsServedUptoRow : OpenClaim := { program := "ytcjcocffhljggaa", sum := "cc100407faba24ceb6a9928334ad36726a3c6a1385236ebb39a559f0ce873fb7", func := "loop.example/g01404/laws.FnExactGapsServed", spec := "fnExactGapsServed", unfollowed := true, recurses := true, apart := false, narrowed := true }
def FnExactGapsServedUptoSaid : Prop := fnExactGapsServedUptoRow.holds Try.pinned (OpenSpec.upto fnExactGapsServedSpec)

/-- 'laws.FnExactDivideTurns', WHERE WHAT IT READS IS OF BULK AT MOST 1048576: true; the input reads as it did. -/
def fnExactDivideTurnsUptoRow : OpenClaim := { program := "ytcjcocffhljggaa", sum := "cc100407faba24ceb6a9928334ad36726a3c6a1385236ebb39a559f0ce873fb7", func := "loop.example/g01404/laws.FnExactDivideTurns", spec := "fnExactDivideTurns", unfollowed := true, recurses := true, apart := false, narrowed := true }
def FnExactDivideTurnsUptoSaid : Prop := fnExactDivideTurnsUptoRow.holds Try.pinned (OpenSpec.upto fnExactDivideTurnsSpec)

/-- 'laws.FnExactTowerOf', WHERE WHAT IT READS IS OF BULK AT MOST 1048576: true; the input reads as it did. -/
def fnExactTowerOfUptoRow : OpenClaim := { program := "ytcjcocffhljggaa", sum := "cc100407faba24ceb6a9928334ad36726a3c6a1385236ebb39a559f0ce873fb7", func := "loop.example/g01404/laws.FnExactTowerOf", spec := "fnExactTowerOf", unfollowed := true, recurses := true, apart := false, narrowed := true }
def FnExactTowerOfUptoSaid : Prop := fnExactTowerOfUptoRow.holds Try.pinned (OpenSpec.upto fnExactTowerOfSpec)

/-- 'laws.FnExactFoldTasks', WHERE WHAT IT READS IS OF BULK AT MOST 1048576: true; the input reads as it did. -/
def fnExactFoldTasksUptoRow : OpenClaim := { program := "ytcjcocffhljggaa", sum := "cc100407faba24ceb6a9928334ad36726a3c6a1385236ebb39a559f0ce873fb7", func := "loop.example/g01404/laws.FnExactFoldTasks", spec := "fnExactFoldTasks", unfollowed := true, recurses := true, apart := false, narrowed := true }
def FnExactFoldTasksUptoSaid : Prop := fnExactFoldTasksUptoRow.holds Try.pinned (OpenSpec.upto fnExactFoldTasksSpec)

/-- 'laws.FnExactStepState', WHERE WHAT IT READS IS OF BULK AT MOST 1048576: true; the input reads as it did. -/
def fnExactStepStateUptoRow : OpenClaim := { program := "ytcjcocffhljggaa", sum := "cc100407faba24ceb6a9928334ad36726a3c6a1385236ebb39a559f0ce873fb7", func := "loop.example/g01404/laws.FnExactStepState", spec := "fnExactStepState", unfollowed := true, recurses := true, apart := false, narrowed := true }
def FnExactStepStateUptoSaid : Prop := fnExactStepStateUptoRow.holds Try.pinned (OpenSpec.upto fnExactStepStateSpec)

/-- 'laws.FnExactLessenGaps', WHERE WHAT IT READS IS OF BULK AT MOST 1048576: true; the input reads as it did. -/
def fnExactLessenGapsUptoRow : OpenClaim := { program := "ytcjcocffhljggaa", sum := "cc100407faba24ceb6a9928334ad36726a3c6a1385236ebb39a559f0ce873fb7", func := "loop.example/g01404/laws.FnExactLessenGaps", spec := "fnExactLessenGaps", unfollowed := true, recurses := true, apart := false, narrowed := true }
def FnExactLessenGapsUptoSaid : Prop := fnExactLessenGapsUptoRow.holds Try.pinned (OpenSpec.upto fnExactLessenGapsSpec)

end Rows
end Go.Proofs.Ytcjcocffhljggaa
