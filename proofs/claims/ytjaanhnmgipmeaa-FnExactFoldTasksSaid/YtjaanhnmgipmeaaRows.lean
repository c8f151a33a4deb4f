/-
  No cell of these rows narrows 'for every input' (looked for: loops, veiled, ifaces, maps, wideKeys, modest, calm, conditions, laid).
  DERIVED. THE GIVEN ROWS OF THIS SEAT. 7 by the template 'for every input the law returns true; each argument reads behind the call as it read before'; 0 by the template 'total and deterministic' (their statements: YtjaanhnmgipmeaaTotals.lean).
  GIVEN WITH THE SEED: the statements are not yours to turn. If you find one false, say at which input.
  Laid BY PROGRAM, IN A SANDBOX (cutbox-rows.mjs): the forced cells as the released guide's own fill.sh prints them over the translation f05dd8860cc502e4… (all of the seat's roots in one cut). By AI agents, Wed Nov 11 2026. No macro, syntax, notation, axiom, sorry.
-/
import Derived.Test.YtjaanhnmgipmeaaChecked
import GoSem.Claim
import GoSem.ClaimJoined
import GoSem.ClaimMapViews
import Derived.JoinedTies
import Derived.KernelRfl
namespace Go.Proofs.Ytjaanhnmgipmeaa
/- THE CELL 'sum', in the pinned program and in every row, IS THE sha256 OF THE DUMP (.gsa) THAT YtjaanhnmgipmeaaProg.lean LOADS. Nothing in Lean hashes anything: it is a label: what it is worth is what the hold of that sum in a sandbox is worth. -/
noncomputable def Try.pinned : Pinned := { name := "ytjaanhnmgipmeaa", sum := "f05dd8860cc502e4d34652a21284df906fa6df5b26062ac821684867eb773f64", checked := Try.checked }
namespace Rows
def none {H : Type} : Left H := { results := [], args := [] }

/-- 'laws.FnExactRepeatTurns': WHATEVER THE INPUT: true; the input reads as it did. -/
def fnExactRepeatTurnsSpec : ChangeSpec := { name := "fnExactRepeatTurns", fn := fun _ => fun
  | [d1, d2] => { results := [.lit (.bool true)], args := [d1, d2] }
  | _ => none }
def fnExactRepeatTurnsRow : OpenClaim := { program := "ytjaanhnmgipmeaa", sum := "f05dd8860cc502e4d34652a21284df906fa6df5b26062ac821684867eb773f64", func := "loop.example/g01404/laws.FnExactRepeatTurns", spec := "fnExactRepeatTurns", unfollowed := true, recurses := true, apart := false }
def FnExactRepeatTurnsSaid : Prop := fnExactRepeatTurnsRow.holds Try.pinned (OpenSpec.ofChange fnExactRepeatTurnsSpec)

/-- ITS FALSE NEIGHBOUR: 'it returns false'. Refute it at one input. -/
def fnExactRepeatTurnsWrong : ChangeSpec := { name := "fnExactRepeatTurns", fn := fun _ => fun
  | [d1, d2] => { results := [.lit (.bool false)], args := [d1, d2] }
  | _ => none }
def FnExactRepeatTurnsWrongFalsely : Prop := fnExactRepeatTurnsRow.holds Try.pinned (OpenSpec.ofChange fnExactRepeatTurnsWrong)

/-- 'laws.FnExactDivideTurns': WHATEVER THE INPUT: true; the input reads as it did. -/
def fnExactDivideTurnsSpec : ChangeSpec := { name := "fnExactDivideTurns", fn := fun _ => fun
  | [d1, d2, d3] => { results := [.lit (.bool true)], args := [d1, d2, d3] }
  | _ => none }
def fnExactDivideTurnsRow : OpenClaim := { program := "ytjaanhnmgipmeaa", sum := "f05dd8860cc502e4d34652a21284df906fa6df5b26062ac821684867eb773f64", func := "loop.example/g01404/laws.FnExactDivideTurns", spec := "fnExactDivideTurns", unfollowed := true, recurses := true, apart := false }
def FnExactDivideTurnsSaid : Prop := fnExactDivideTurnsRow.holds Try.pinned (OpenSpec.ofChange fnExactDivideTurnsSpec)

/-- ITS FALSE NEIGHBOUR: 'it returns false'. Refute it at one input. -/
def fnExactDivideTurnsWrong : ChangeSpec := { name := "fnExactDivideTurns", fn := fun _ => fun
  | [d1, d2, d3] => { results := [.lit (.bool false)], args := [d1, d2, d3] }
  | _ => none }
def FnExactDivideTurnsWrongFalsely : Prop := fnExactDivideTurnsRow.holds Try.pinned (OpenSpec.ofChange fnExactDivideTurnsWrong)

/-- 'laws.FnExactFoldTasks': WHATEVER THE INPUT: true; the input reads as it did. -/
def fnExactFoldTasksSpec : ChangeSpec := { name := "fnExactFoldTasks", fn := fun _ => fun
  | [d1, d2, d3] => { results := [.lit (.bool true)], args := [d1, d2, d3] }
  | _ => none }
def fnExactFoldTasksRow : OpenClaim := { program := "ytjaanhnmgipmeaa", sum := "f05dd8860cc502e4d34652a21284df906fa6df5b26062ac821684867eb773f64", func := "loop.example/g01404/laws.FnExactFoldTasks", spec := "fnExactFoldTasks", unfollowed := true, recurses := true, apart := false }
def FnExactFoldTasksSaid : Prop := fnExactFoldTasksRow.holds Try.pinned (OpenSpec.ofChange fnExactFoldTasksSpec)

/-- ITS FALSE NEIGHBOUR: 'it returns false'. Refute it at one input. -/
def fnExactFoldTasksWrong : ChangeSpec := { name := "fnExactFoldTasks", fn := fun _ => fun
  | [d1, d2, d3] => { results := [.lit (.bool false)], args := [d1, d2, d3] }
  | _ => none }
def FnExactFoldTasksWrongFalsely : Prop := fnExactFoldTasksRow.holds Try.pinned (OpenSpec.ofChange fnExactFoldTasksWrong)

/-- 'laws.FnExactCutBySpeed': WHATEVER THE INPUT: true; the input reads as it did. -/
def fnExactCutBySpeedSpec : ChangeSpec := { name := "fnExactCutBySpeed", fn := fun _ => fun
  | [d1, d2, d3] => { results := [.lit (.bool true)], args := [d1, d2, d3] }
  | _ => none }
def fnExactCutBySpeedRow : OpenClaim := { program := "ytjaanhnmgipmeaa", sum := "f05dd8860cc502e4d34652a21284df906fa6df5b26062ac821684867eb773f64", func := "loop.example/g01404/laws.FnExactCutBySpeed", spec := "fnExactCutBySpeed", unfollowed := true, recurses := true, apart := false }
def FnExactCutBySpeedSaid : Prop := fnExactCutBySpeedRow.holds Try.pinned (OpenSpec.ofChange fnExactCutBySpeedSpec)

/-- ITS FALSE NEIGHBOUR: 'it returns false'. Refute it at one input. -/
def fnExactCutBySpeedWrong : ChangeSpec := { name := "fnExactCutBySpeed", fn := fun _ => fun
  | [d1, d2, d3] => { results := [.lit (.bool false)], args := [d1, d2, d3] }
  | _ => none }
def FnExactCutBySpeedWrongFalsely : Prop := fnExactCutBySpeedRow.holds Try.pinned (OpenSpec.ofChange fnExactCutBySpeedWrong)

/-- 'laws.FnExactHeightsBehind': WHATEVER THE INPUT: true; the input reads as it did. -/
def fnExactHeightsBehindSpec : ChangeSpec := { name := "fnExactHeightsBehind", fn := fun _ => fun
  | [d1, d2, d3] => { results := [.lit (.bool true)], args := [d1, d2, d3] }
  | _ => none }
def fnExactHeightsBehindRow : OpenClaim := { program := "ytjaanhnmgipmeaa", sum := "f05dd8860cc502e4d34652a21284df906fa6df5b26062ac821684867eb773f64", func := "loop.example/g01404/laws.FnExactHeightsBehind", spec := "fnExactHeightsBehind", unfollowed := true, recurses := true, apart := false }
def FnExactHeightsBehindSaid : Prop := fnExactHeightsBehindRow.holds Try.pinned (OpenSpec.ofChange fnExactHeightsBehindSpec)

/-- ITS FALSE NEIGHBOUR: 'it returns false'. Refute it at one input. -/
def fnExactHeightsBehindWrong : ChangeSpec := { name := "fnExactHeightsBehind", fn := fun _ => fun
  | [d1, d2, d3] => { results := [.lit (.bool false)], args := [d1, d2, d3] }
  | _ => none }
def FnExactHeightsBehindWrongFalsely : Prop := fnExactHeightsBehindRow.holds Try.pinned (OpenSpec.ofChange fnExactHeightsBehindWrong)

/-- 'laws.FnExactHighestByHeight': WHATEVER THE INPUT: true; the input reads as it did. -/
def fnExactHighestByHeightSpec : ChangeSpec := { name := "fnExactHighestByHeight", fn := fun _ => fun
  | [d1, d2] => { results := [.lit (.bool true)], args := [d1, d2] }
  | _ => none }
def fnExactHighestByHeightRow : OpenClaim := { program := "ytjaanhnmgipmeaa", sum := "f05dd8860cc502e4d34652a21284df906fa6df5b26062ac821684867eb773f64", func := "loop.example/g01404/laws.FnExactHighestByHeight", spec := "fnExactHighestByHeight", unfollowed := true, recurses := true, apart := false }
def FnExactHighestByHeightSaid : Prop := fnExactHighestByHeightRow.holds Try.pinned (OpenSpec.ofChange fnExactHighestByHeightSpec)

/-- ITS FALSE NEIGHBOUR: 'it returns false'. Refute it at one input. -/
def fnExactHighestByHeightWrong : ChangeSpec := { name := "fnExactHighestByHeight", fn := fun _ => fun
  | [d1, d2] => { results := [.lit (.bool false)], args := [d1, d2] }
  | _ => none }
def FnExactHighestByHeightWrongFalsely : Prop := fnExactHighestByHeightRow.holds Try.pinned (OpenSpec.ofChange fnExactHighestByHeightWrong)

/-- 'laws.FnExactRenumberTasks': WHATEVER THE INPUT: true; the input reads as it did. -/
def fnExactRenumberTasksSpec : ChangeSpec := { name := "fnExactRenumberTasks", fn := fun _ => fun
  | [d1, d2] => { results := [.lit (.bool true)], args := [d1, d2] }
  | _ => none }
def fnExactRenumberTasksRow : OpenClaim := { program := "ytjaanhnmgipmeaa", sum := "f05dd8860cc502e4d34652a21284df906fa6df5b26062ac821684867eb773f64", func := "loop.example/g01404/laws.FnExactRenumberTasks", spec := "fnExactRenumberTasks", unfollowed := true, recurses := true, apart := false }
def FnExactRenumberTasksSaid : Prop := fnExactRenumberTasksRow.holds Try.pinned (OpenSpec.ofChange fnExactRenumberTasksSpec)

/-- ITS FALSE NEIGHBOUR: 'it returns false'. Refute it at one input. -/
def fnExactRenumberTasksWrong : ChangeSpec := { name := "fnExactRenumberTasks", fn := fun _ => fun
  | [d1, d2] => { results := [.lit (.bool false)], args := [d1, d2] }
  | _ => none }
def FnExactRenumberTasksWrongFalsely : Prop := fnExactRenumberTasksRow.holds Try.pinned (OpenSpec.ofChange fnExactRenumberTasksWrong)

/- THE SECOND FORM. 'bulk': how many values and letters a reading holds, each counted each time it is reached (what is shared counts as often as it is met; a slice's spare places count too). A statement '..UptoSaid' is the law's where the arguments, and the package variables that the reading takes, are together of bulk at most 1048576: NARROWER than '..Said'. Prove '..Said' where nothing that the law and all that it calls make is longer than what came in: it says more and counts as full. Else prove '..UptoSaid'. A law counts once. -/
mutual
def uptoBulk {H : Type} : DataW H → Nat
  | .lit (.string bytes) => bytes.length + 1
  | .lit _ => 1
  | .nil => 1
  | .ptr d => uptoBulk d + 1
  | .slice elems spare => uptoBulkAll elems + uptoBulkAll spare + 1
  | .agg parts => uptoBulkAll parts + 1
  | .iface _ d => uptoBulk d + 1
  | .map entries => uptoBulkEntries entries + 1
  | .held _ => 1
def uptoBulkAll {H : Type} : List (DataW H) → Nat
  | [] => 0
  | d :: r => uptoBulk d + uptoBulkAll r
def uptoBulkEntries {H : Type} : List (Lit × DataW H) → Nat
  | [] => 0
  | x :: r => uptoBulkEntry x + uptoBulkEntries r
def uptoBulkEntry {H : Type} : Lit × DataW H → Nat
  | (.string bytes, d) => bytes.length + uptoBulk d + 1
  | (_, d) => uptoBulk d + 1
 end
def uptoSmall : (H : Type) → List (DataW H) → Bool := fun _ ds => decide (uptoBulkAll ds ≤ 1048576)
def OpenSpec.upto (s : _root_.Go.ChangeSpec) : _root_.Go.OpenSpec := { _root_.Go.OpenSpec.ofChange s with cond := some uptoSmall }

/-- 'laws.FnExactRepeatTurns', WHERE WHAT IT READS IS OF BULK AT MOST 1048576: true; the input reads as it did. -/
def fnExactRepeatTurnsUptoRow : OpenClaim := { program := "ytjaanhnmgipmeaa", sum := "f05dd8860cc502e4d34652a21284df906fa6df5b26062ac821684867eb773f64", func := "loop.example/g01404/laws.FnExactRepeatTurns", spec := "fnExactRepeatTurns", unfollowed := true, recurses := true, apart := false, narrowed := true }
def FnExactRepeatTurnsUptoSaid : Prop := fnExactRepeatTurnsUptoRow.holds Try.pinned (OpenSpec.upto fnExactRepeatTurnsSpec)

/-- 'laws.FnExactDivideTurns', WHERE WHAT IT READS IS OF BULK AT MOST 1048576: true; the input reads as it did. -/
def fnExactDivideTurnsUptoRow : OpenClaim := { program := "ytjaanhnmgipmeaa", sum := "f05dd8860cc502e4d34652a21284df906fa6df5b26062ac821684867eb773f64", func := "loop.example/g01404/laws.FnExactDivideTurns", spec := "fnExactDivideTurns", unfollowed := true, recurses := true, apart := false, narrowed := true }
def FnExactDivideTurnsUptoSaid : Prop := fnExactDivideTurnsUptoRow.holds Try.pinned (OpenSpec.upto fnExactDivideTurnsSpec)

/-- 'laws.FnExactFoldTasks', WHERE WHAT IT READS IS OF BULK AT MOST 1048576: true; the input reads as it did. -/
def fnExactFoldTasksUptoRow : OpenClaim := { program := "ytjaanhnmgipmeaa", sum := "f05dd8860cc502e4d34652a21284df906fa6df5b26062ac821684867eb773f64", func := "loop.example/g01404/laws.FnExactFoldTasks", spec := "fnExactFoldTasks", unfollowed := true, recurses := true, apart := false, narrowed := true }
def FnExactFoldTasksUptoSaid : Prop := fnExactFoldTasksUptoRow.holds Try.pinned (OpenSpec.upto fnExactFoldTasksSpec)

/-- 'laws.FnExactCutBySpeed', WHERE WHAT IT READS IS OF BULK AT MOST 1048576: true; the input reads as it did. -/
def fnExactCutBySpeedUptoRow : OpenClaim := { program := "ytjaanhnmgipmeaa", sum := "f05dd8860cc502e4d34652a21284df906fa6df5b26062ac821684867eb773f64", func := "loop.example/g01404/laws.FnExactCutBySpeed", spec := "fnExactCutBySpeed", unfollowed := true, recurses := true, apart := false, narrowed := true }
def FnExactCutBySpeedUptoSaid : Prop := fnExactCutBySpeedUptoRow.holds Try.pinned (OpenSpec.upto fnExactCutBySpeedSpec)

/-- 'laws.FnExactHeightsBehind', WHERE WHAT IT READS IS OF BULK AT MOST 1048576: true; the input reads as it did. -/
def fnExactHeightsBehindUptoRow : OpenClaim := { program := "ytjaanhnmgipmeaa", sum := "f05dd8860cc502e4d34652a21284df906fa6df5b26062ac821684867eb773f64", func := "loop.example/g01404/laws.FnExactHeightsBehind", spec := "fnExactHeightsBehind", unfollowed := true, recurses := true, apart := false, narrowed := true }
def FnExactHeightsBehindUptoSaid : Prop := fnExactHeightsBehindUptoRow.holds Try.pinned (OpenSpec.upto fnExactHeightsBehindSpec)

/-- 'laws.FnExactHighestByHeight', WHERE WHAT IT READS IS OF BULK AT MOST 1048576: true; the input reads as it did. -/
def fnExactHighestByHeightUptoRow : OpenClaim := { program := "ytjaanhnmgipmeaa", sum := "f05dd8860cc502e4d34652a21284df906fa6df5b26062ac821684867eb773f64", func := "loop.example/g01404/laws.FnExactHighestByHeight", spec := "fnExactHighestByHeight", unfollowed := true, recurses := true, apart := false, narrowed := true }
def FnExactHighestByHeightUptoSaid : Prop := fnExactHighestByHeightUptoRow.holds Try.pinned (OpenSpec.upto fnExactHighestByHeightSpec)

/-- 'laws.FnExactRenumberTasks', WHERE WHAT IT READS IS OF BULK AT MOST 1048576: true; the input reads as it did. -/
def fnExactRenumberTasksUptoRow : OpenClaim := { program := "ytjaanhnmgipmeaa", sum := "f05dd8860cc502e4d34652a21284df906fa6df5b26062ac821684867eb773f64", func := "loop.example/g01404/laws.FnExactRenumberTasks", spec := "fnExactRenumberTasks", unfollowed := true, recurses := true, apart := false, narrowed := true }
def FnExactRenumberTasksUptoSaid : Prop := fnExactRenumberTasksUptoRow.holds Try.pinned (OpenSpec.upto fnExactRenumberTasksSpec)

end Rows
end Go.Proofs.Ytjaanhnmgipmeaa
