/-
  No cell of these rows narrows 'for every input' (looked for: loops, veiled, ifaces, maps, wideKeys, modest, calm, conditions, laid).
  DERIVED. THE GIVEN ROWS OF THIS SEAT. 13 by the template 'for every input the law returns true; each argument reads behind the call as it read before'; 0 by the template 'total and deterministic' (their statements: YtfephoddgifapaaTotals.lean).
  GIVEN WITH THE SEED: the statements are not yours to turn. If you find one false, say at which input.
  Laid BY PROGRAM, IN A SANDBOX (cutbox-rows.mjs): the forced cells as the released guide's own fill.sh prints them over the translation 65ab9f19f6f5daf1… (all of the seat's roots in one cut). By AI agents, Wed Nov 11 2026. No macro, syntax, notation, axiom, sorry.
-/
import Derived.Test.YtfephoddgifapaaChecked
import GoSem.Claim
import GoSem.ClaimJoined
import GoSem.ClaimMapViews
import Derived.JoinedTies
import Derived.KernelRfl
namespace Go.Proofs.Ytfephoddgifapaa
/- THE CELL 'sum', in the pinned program and in every row, IS THE sha256 OF THE DUMP (.gsa) THAT YtfephoddgifapaaProg.lean LOADS. Nothing in Lean hashes anything: it is a label: what it is worth is what the hold of that sum in a sandbox is worth. -/
noncomputable def Try.pinned : Pinned := { name := "ytfephoddgifapaa", sum := "65ab9f19f6f5daf19284d64b957a7967134eea1f29ccb80893600811beb0124c", checked := Try.checked }
namespace Rows
def none {H : Type} : Left H := { results := [], args := [] }

/-- 'laws.FnExactSumOfRates': WHATEVER THE INPUT: true; the input reads as it did. -/
def fnExactSumOfRatesSpec : ChangeSpec := { name := "fnExactSumOfRates", fn := fun _ => fun
  | [d] => { results := [.lit (.bool true)], args := [d] }
  | _ => none }
def fnExactSumOfRatesRow : OpenClaim := { program := "ytfephoddgifapaa", sum := "65ab9f19f6f5daf19284d64b957a7967134eea1f29ccb80893600811beb0124c", func := "loop.example/g01404/laws.FnExactSumOfRates", spec := "fnExactSumOfRates", unfollowed := true, recurses := true, apart := false }
def FnExactSumOfRatesSaid : Prop := fnExactSumOfRatesRow.holds Try.pinned (OpenSpec.ofChange fnExactSumOfRatesSpec)

/-- ITS FALSE NEIGHBOUR: 'it returns false'. Refute it at one input. -/
def fnExactSumOfRatesWrong : ChangeSpec := { name := "fnExactSumOfRates", fn := fun _ => fun
  | [d] => { results := [.lit (.bool false)], args := [d] }
  | _ => none }
def FnExactSumOfRatesWrongFalsely : Prop := fnExactSumOfRatesRow.holds Try.pinned (OpenSpec.ofChange fnExactSumOfRatesWrong)

/-- 'laws.FnExactAreHarmonic': WHATEVER THE INPUT: true; the input reads as it did. -/
def fnExactAreHarmonicSpec : ChangeSpec := { name := "fnExactAreHarmonic", fn := fun _ => fun
  | [d] => { results := [.lit (.bool true)], args := [d] }
  | _ => none }
def fnExactAreHarmonicRow : OpenClaim := { program := "ytfephoddgifapaa", sum := "65ab9f19f6f5daf19284d64b957a7967134eea1f29ccb80893600811beb0124c", func := "loop.example/g01404/laws.FnExactAreHarmonic", spec := "fnExactAreHarmonic", unfollowed := true, recurses := true, apart := false }
def FnExactAreHarmonicSaid : Prop := fnExactAreHarmonicRow.holds Try.pinned (OpenSpec.ofChange fnExactAreHarmonicSpec)

/-- ITS FALSE NEIGHBOUR: 'it returns false'. Refute it at one input. -/
def fnExactAreHarmonicWrong : ChangeSpec := { name := "fnExactAreHarmonic", fn := fun _ => fun
  | [d] => { results := [.lit (.bool false)], args := [d] }
  | _ => none }
def FnExactAreHarmonicWrongFalsely : Prop := fnExactAreHarmonicRow.holds Try.pinned (OpenSpec.ofChange fnExactAreHarmonicWrong)

/-- 'laws.FnExactDoFit': WHATEVER THE INPUT: true; the input reads as it did. -/
def fnExactDoFitSpec : ChangeSpec := { name := "fnExactDoFit", fn := fun _ => fun
  | [d] => { results := [.lit (.bool true)], args := [d] }
  | _ => none }
def fnExactDoFitRow : OpenClaim := { program := "ytfephoddgifapaa", sum := "65ab9f19f6f5daf19284d64b957a7967134eea1f29ccb80893600811beb0124c", func := "loop.example/g01404/laws.FnExactDoFit", spec := "fnExactDoFit", unfollowed := true, recurses := true, apart := false }
def FnExactDoFitSaid : Prop := fnExactDoFitRow.holds Try.pinned (OpenSpec.ofChange fnExactDoFitSpec)

/-- ITS FALSE NEIGHBOUR: 'it returns false'. Refute it at one input. -/
def fnExactDoFitWrong : ChangeSpec := { name := "fnExactDoFit", fn := fun _ => fun
  | [d] => { results := [.lit (.bool false)], args := [d] }
  | _ => none }
def FnExactDoFitWrongFalsely : Prop := fnExactDoFitRow.holds Try.pinned (OpenSpec.ofChange fnExactDoFitWrong)

/-- 'laws.FnExactLeastOfGaps': WHATEVER THE INPUT: true; the input reads as it did. -/
def fnExactLeastOfGapsSpec : ChangeSpec := { name := "fnExactLeastOfGaps", fn := fun _ => fun
  | [d] => { results := [.lit (.bool true)], args := [d] }
  | _ => none }
def fnExactLeastOfGapsRow : OpenClaim := { program := "ytfephoddgifapaa", sum := "65ab9f19f6f5daf19284d64b957a7967134eea1f29ccb80893600811beb0124c", func := "loop.example/g01404/laws.FnExactLeastOfGaps", spec := "fnExactLeastOfGaps", unfollowed := true, recurses := true, apart := false }
def FnExactLeastOfGapsSaid : Prop := fnExactLeastOfGapsRow.holds Try.pinned (OpenSpec.ofChange fnExactLeastOfGapsSpec)

/-- ITS FALSE NEIGHBOUR: 'it returns false'. Refute it at one input. -/
def fnExactLeastOfGapsWrong : ChangeSpec := { name := "fnExactLeastOfGaps", fn := fun _ => fun
  | [d] => { results := [.lit (.bool false)], args := [d] }
  | _ => none }
def FnExactLeastOfGapsWrongFalsely : Prop := fnExactLeastOfGapsRow.holds Try.pinned (OpenSpec.ofChange fnExactLeastOfGapsWrong)

/-- 'laws.FnExactCutBySpeed': WHATEVER THE INPUT: true; the input reads as it did. -/
def fnExactCutBySpeedSpec : ChangeSpec := { name := "fnExactCutBySpeed", fn := fun _ => fun
  | [d1, d2, d3] => { results := [.lit (.bool true)], args := [d1, d2, d3] }
  | _ => none }
def fnExactCutBySpeedRow : OpenClaim := { program := "ytfephoddgifapaa", sum := "65ab9f19f6f5daf19284d64b957a7967134eea1f29ccb80893600811beb0124c", func := "loop.example/g01404/laws.FnExactCutBySpeed", spec := "fnExactCutBySpeed", unfollowed := true, recurses := true, apart := false }
def FnExactCutBySpeedSaid : Prop := fnExactCutBySpeedRow.holds Try.pinned (OpenSpec.ofChange fnExactCutBySpeedSpec)

/-- ITS FALSE NEIGHBOUR: 'it returns false'. Refute it at one input. -/
def fnExactCutBySpeedWrong : ChangeSpec := { name := "fnExactCutBySpeed", fn := fun _ => fun
  | [d1, d2, d3] => { results := [.lit (.bool false)], args := [d1, d2, d3] }
  | _ => none }
def FnExactCutBySpeedWrongFalsely : Prop := fnExactCutBySpeedRow.holds Try.pinned (OpenSpec.ofChange fnExactCutBySpeedWrong)

/-- 'laws.FnExactCutByHeight': WHATEVER THE INPUT: true; the input reads as it did. -/
def fnExactCutByHeightSpec : ChangeSpec := { name := "fnExactCutByHeight", fn := fun _ => fun
  | [d1, d2] => { results := [.lit (.bool true)], args := [d1, d2] }
  | _ => none }
def fnExactCutByHeightRow : OpenClaim := { program := "ytfephoddgifapaa", sum := "65ab9f19f6f5daf19284d64b957a7967134eea1f29ccb80893600811beb0124c", func := "loop.example/g01404/laws.FnExactCutByHeight", spec := "fnExactCutByHeight", unfollowed := true, recurses := true, apart := false }
def FnExactCutByHeightSaid : Prop := fnExactCutByHeightRow.holds Try.pinned (OpenSpec.ofChange fnExactCutByHeightSpec)

/-- ITS FALSE NEIGHBOUR: 'it returns false'. Refute it at one input. -/
def fnExactCutByHeightWrong : ChangeSpec := { name := "fnExactCutByHeight", fn := fun _ => fun
  | [d1, d2] => { results := [.lit (.bool false)], args := [d1, d2] }
  | _ => none }
def FnExactCutByHeightWrongFalsely : Prop := fnExactCutByHeightRow.holds Try.pinned (OpenSpec.ofChange fnExactCutByHeightWrong)

/-- 'laws.FnExactDensityOf': WHATEVER THE INPUT: true; the input reads as it did. -/
def fnExactDensityOfSpec : ChangeSpec := { name := "fnExactDensityOf", fn := fun _ => fun
  | [d] => { results := [.lit (.bool true)], args := [d] }
  | _ => none }
def fnExactDensityOfRow : OpenClaim := { program := "ytfephoddgifapaa", sum := "65ab9f19f6f5daf19284d64b957a7967134eea1f29ccb80893600811beb0124c", func := "loop.example/g01404/laws.FnExactDensityOf", spec := "fnExactDensityOf", unfollowed := true, recurses := true, apart := false }
def FnExactDensityOfSaid : Prop := fnExactDensityOfRow.holds Try.pinned (OpenSpec.ofChange fnExactDensityOfSpec)

/-- ITS FALSE NEIGHBOUR: 'it returns false'. Refute it at one input. -/
def fnExactDensityOfWrong : ChangeSpec := { name := "fnExactDensityOf", fn := fun _ => fun
  | [d] => { results := [.lit (.bool false)], args := [d] }
  | _ => none }
def FnExactDensityOfWrongFalsely : Prop := fnExactDensityOfRow.holds Try.pinned (OpenSpec.ofChange fnExactDensityOfWrong)

/-- 'laws.FnExactJobsOfTasks': WHATEVER THE INPUT: true; the input reads as it did. -/
def fnExactJobsOfTasksSpec : ChangeSpec := { name := "fnExactJobsOfTasks", fn := fun _ => fun
  | [d] => { results := [.lit (.bool true)], args := [d] }
  | _ => none }
def fnExactJobsOfTasksRow : OpenClaim := { program := "ytfephoddgifapaa", sum := "65ab9f19f6f5daf19284d64b957a7967134eea1f29ccb80893600811beb0124c", func := "loop.example/g01404/laws.FnExactJobsOfTasks", spec := "fnExactJobsOfTasks", unfollowed := true, recurses := true, apart := false }
def FnExactJobsOfTasksSaid : Prop := fnExactJobsOfTasksRow.holds Try.pinned (OpenSpec.ofChange fnExactJobsOfTasksSpec)

/-- ITS FALSE NEIGHBOUR: 'it returns false'. Refute it at one input. -/
def fnExactJobsOfTasksWrong : ChangeSpec := { name := "fnExactJobsOfTasks", fn := fun _ => fun
  | [d] => { results := [.lit (.bool false)], args := [d] }
  | _ => none }
def FnExactJobsOfTasksWrongFalsely : Prop := fnExactJobsOfTasksRow.holds Try.pinned (OpenSpec.ofChange fnExactJobsOfTasksWrong)

/-- 'laws.FnExactRenumberTasks': WHATEVER THE INPUT: true; the input reads as it did. -/
def fnExactRenumberTasksSpec : ChangeSpec := { name := "fnExactRenumberTasks", fn := fun _ => fun
  | [d1, d2] => { results := [.lit (.bool true)], args := [d1, d2] }
  | _ => none }
def fnExactRenumberTasksRow : OpenClaim := { program := "ytfephoddgifapaa", sum := "65ab9f19f6f5daf19284d64b957a7967134eea1f29ccb80893600811beb0124c", func := "loop.example/g01404/laws.FnExactRenumberTasks", spec := "fnExactRenumberTasks", unfollowed := true, recurses := true, apart := false }
def FnExactRenumberTasksSaid : Prop := fnExactRenumberTasksRow.holds Try.pinned (OpenSpec.ofChange fnExactRenumberTasksSpec)

/-- ITS FALSE NEIGHBOUR: 'it returns false'. Refute it at one input. -/
def fnExactRenumberTasksWrong : ChangeSpec := { name := "fnExactRenumberTasks", fn := fun _ => fun
  | [d1, d2] => { results := [.lit (.bool false)], args := [d1, d2] }
  | _ => none }
def FnExactRenumberTasksWrongFalsely : Prop := fnExactRenumberTasksRow.holds Try.pinned (OpenSpec.ofChange fnExactRenumberTasksWrong)

/-- 'laws.FnExactGrowDays': WHATEVER THE INPUT: true; the input reads as it did. -/
def fnExactGrowDaysSpec : ChangeSpec := { name := "fnExactGrowDays", fn := fun _ => fun
  | [d1, d2, d3] => { results := [.lit (.bool true)], args := [d1, d2, d3] }
  | _ => none }
def fnExactGrowDaysRow : OpenClaim := { program := "ytfephoddgifapaa", sum := "65ab9f19f6f5daf19284d64b957a7967134eea1f29ccb80893600811beb0124c", func := "loop.example/g01404/laws.FnExactGrowDays", spec := "fnExactGrowDays", unfollowed := true, recurses := true, apart := false }
def FnExactGrowDaysSaid : Prop := fnExactGrowDaysRow.holds Try.pinned (OpenSpec.ofChange fnExactGrowDaysSpec)

/-- ITS FALSE NEIGHBOUR: 'it returns false'. Refute it at one input. -/
def fnExactGrowDaysWrong : ChangeSpec := { name := "fnExactGrowDays", fn := fun _ => fun
  | [d1, d2, d3] => { results := [.lit (.bool false)], args := [d1, d2, d3] }
  | _ => none }
def FnExactGrowDaysWrongFalsely : Prop := fnExactGrowDaysRow.holds Try.pinned (OpenSpec.ofChange fnExactGrowDaysWrong)

/-- 'laws.FnExactTasksOfGarden': WHATEVER THE INPUT: true; the input reads as it did. -/
def fnExactTasksOfGardenSpec : ChangeSpec := { name := "fnExactTasksOfGarden", fn := fun _ => fun
  | [d1, d2] => { results := [.lit (.bool true)], args := [d1, d2] }
  | _ => none }
def fnExactTasksOfGardenRow : OpenClaim := { program := "ytfephoddgifapaa", sum := "65ab9f19f6f5daf19284d64b957a7967134eea1f29ccb80893600811beb0124c", func := "loop.example/g01404/laws.FnExactTasksOfGarden", spec := "fnExactTasksOfGarden", unfollowed := true, recurses := true, apart := false }
def FnExactTasksOfGardenSaid : Prop := fnExactTasksOfGardenRow.holds Try.pinned (OpenSpec.ofChange fnExactTasksOfGardenSpec)

/-- ITS FALSE NEIGHBOUR: 'it returns false'. Refute it at one input. -/
def fnExactTasksOfGardenWrong : ChangeSpec := { name := "fnExactTasksOfGarden", fn := fun _ => fun
  | [d1, d2] => { results := [.lit (.bool false)], args := [d1, d2] }
  | _ => none }
def FnExactTasksOfGardenWrongFalsely : Prop := fnExactTasksOfGardenRow.holds Try.pinned (OpenSpec.ofChange fnExactTasksOfGardenWrong)

/-- 'laws.FnExactHighestByHeight': WHATEVER THE INPUT: true; the input reads as it did. -/
def fnExactHighestByHeightSpec : ChangeSpec := { name := "fnExactHighestByHeight", fn := fun _ => fun
  | [d1, d2] => { results := [.lit (.bool true)], args := [d1, d2] }
  | _ => none }
def fnExactHighestByHeightRow : OpenClaim := { program := "ytfephoddgifapaa", sum := "65ab9f19f6f5daf19284d64b957a7967134eea1f29ccb80893600811beb0124c", func := "loop.example/g01404/laws.FnExactHighestByHeight", spec := "fnExactHighestByHeight", unfollowed := true, recurses := true, apart := false }
def FnExactHighestByHeightSaid : Prop := fnExactHighestByHeightRow.holds Try.pinned (OpenSpec.ofChange fnExactHighestByHeightSpec)

/-- ITS FALSE NEIGHBOUR: 'it returns false'. Refute it at one input. -/
def fnExactHighestByHeightWrong : ChangeSpec := { name := "fnExactHighestByHeight", fn := fun _ => fun
  | [d1, d2] => { results := [.lit (.bool false)], args := [d1, d2] }
  | _ => none }
def FnExactHighestByHeightWrongFalsely : Prop := fnExactHighestByHeightRow.holds Try.pinned (OpenSpec.ofChange fnExactHighestByHeightWrong)

/-- 'laws.FnExactHeightsBehind': WHATEVER THE INPUT: true; the input reads as it did. -/
def fnExactHeightsBehindSpec : ChangeSpec := { name := "fnExactHeightsBehind", fn := fun _ => fun
  | [d1, d2, d3] => { results := [.lit (.bool true)], args := [d1, d2, d3] }
  | _ => none }
def fnExactHeightsBehindRow : OpenClaim := { program := "ytfephoddgifapaa", sum := "65ab9f19f6f5daf19284d64b957a7967134eea1f29ccb80893600811beb0124c", func := "loop.example/g01404/laws.FnExactHeightsBehind", spec := "fnExactHeightsBehind", unfollowed := true, recurses := true, apart := false }
def FnExactHeightsBehindSaid : Prop := fnExactHeightsBehindRow.holds Try.pinned (OpenSpec.ofChange fnExactHeightsBehindSpec)

/-- ITS FALSE NEIGHBOUR: 'it returns false'. Refute it at one input. -/
def fnExactHeightsBehindWrong : ChangeSpec := { name := "fnExactHeightsBehind", fn := fun _ => fun
  | [d1, d2, d3] => { results := [.lit (.bool false)], args := [d1, d2, d3] }
  | _ => none }
def FnExactHeightsBehindWrongFalsely : Prop := fnExactHeightsBehindRow.holds Try.pinned (OpenSpec.ofChange fnExactHeightsBehindWrong)

/- THE SECOND FORM. 'bulk': how many values and letters a reading holds, each counted each time it is reached (what is shared counts as often as it is met; a slice's spare places count too). A statement '..UptoSaid' is the law's where the arguments, and the package variables that the reading takes, are together of bulk at most 1048576: NARROWER than '..Said'. Prove '..Said' where nothing that the law and all that it calls make is longer than what came in: it says more and counts as full. Else prove '..UptoSaid'. A law counts once. -/
mutual
def uptoBulk {H : Type} : DataW H → Nat
  | .lit (.string bytes) => bytes.length + 1
  | .lit _ => 1
  | .nil => 1
  | .ptr d => uptoBulk d + 1
  | .slice elems spare => uptoBulkAll elems + uptoBulkAll spare + 1
  | .agg parts => uptoBulkAll parts + 1
  | .iface _ d => uptoBulk d + 1
  | .map entries => uptoBulkEntries entries + 1
  | .held _ => 1
def uptoBulkAll {H : Type} : List (DataW H) → Nat
  | [] => 0
  | d :: r => uptoBulk d + uptoBulkAll r
def uptoBulkEntries {H : Type} : List (Lit × DataW H) → Nat
  | [] => 0
  | x :: r => uptoBulkEntry x + uptoBulkEntries r
def uptoBulkEntry {H : Type} : Lit × DataW H → Nat
  | (.string bytes, d) => bytes.length + uptoBulk d + 1
  | (_, d) => uptoBulk d + 1
 end
def uptoSmall : (H : Type) → List (DataW H) → Bool := fun _ ds => decide (uptoBulkAll ds ≤ 1048576)
def OpenSpec.upto (s : _root_.Go.ChangeSpec) : _root_.Go.OpenSpec := { _root_.Go.OpenSpec.ofChange s with cond := some uptoSmall }

/-- 'laws.FnExactSumOfRates', WHERE WHAT IT READS IS OF BULK AT MOST 1048576: true; the input reads as it did. -/
def fnExactSumOfRatesUptoRow : OpenClaim := { program := "ytfephoddgifapaa", sum := "65ab9f19f6f5daf19284d64b957a7967134eea1f29ccb80893600811beb0124c", func := "loop.example/g01404/laws.FnExactSumOfRates", spec := "fnExactSumOfRates", unfollowed := true, recurses := true, apart := false, narrowed := true }
def FnExactSumOfRatesUptoSaid : Prop := fnExactSumOfRatesUptoRow.holds Try.pinned (OpenSpec.upto fnExactSumOfRatesSpec)

/-- 'laws.FnExactAreHarmonic', WHERE WHAT IT READS IS OF BULK AT MOST 1048576: true; the input reads as it did. -/
def fnExactAreHarmonicUptoRow : OpenClaim := { program := "ytfephoddgifapaa", sum := "65ab9f19f6f5daf19284d64b957a7967134eea1f29ccb80893600811beb0124c", func := "loop.example/g01404/laws.FnExactAreHarmonic", spec := "fnExactAreHarmonic", unfollowed := true, recurses := true, apart := false, narrowed := true }
def FnExactAreHarmonicUptoSaid : Prop := fnExactAreHarmonicUptoRow.holds Try.pinned (OpenSpec.upto fnExactAreHarmonicSpec)

/-- 'laws.FnExactDoFit', WHERE WHAT IT READS IS OF BULK AT MOST 1048576: true; the input reads as it did. -/
def fnExactDoFitUptoRow : OpenClaim := { program := "ytfephoddgifapaa", sum := "65ab9f19f6f5daf19284d64b957a7967134eea1f29ccb80893600811beb0124c", func := "loop.example/g01404/laws.FnExactDoFit", spec := "fnExactDoFit", unfollowed := true, recurses := true, apart := false, narrowed := true }
def FnExactDoFitUptoSaid : Prop := fnExactDoFitUptoRow.holds Try.pinned (OpenSpec.upto fnExactDoFitSpec)

/-- 'laws.FnExactLeastOfGaps', WHERE WHAT IT READS IS OF BULK AT MOST 1048576: true; the input reads as it did. -/
def fnExactLeastOfGapsUptoRow : OpenClaim := { program := "ytfephoddgifapaa", sum := "65ab9f19f6f5daf19284d64b957a7967134eea1f29ccb80893600811beb0124c", func := "loop.example/g01404/laws.FnExactLeastOfGaps", spec := "fnExactLeastOfGaps", unfollowed := true, recurses := true, apart := false, narrowed := true }
def FnExactLeastOfGapsUptoSaid : Prop := fnExactLeastOfGapsUptoRow.holds Try.pinned (OpenSpec.upto fnExactLeastOfGapsSpec)

/-- 'laws.FnExactCutBySpeed', WHERE WHAT IT READS IS OF BULK AT MOST 1048576: true; the input reads as it did. -/
def fnExactCutBySpeedUptoRow : OpenClaim := { program := "ytfephoddgifapaa", sum := "65ab9f19f6f5daf19284d64b957a7967134eea1f29ccb80893600811beb0124c", func := "loop.example/g01404/laws.FnExactCutBySpeed", spec := "fnExactCutBySpeed", unfollowed := true, recurses := true, apart := false, narrowed := true }
def FnExactCutBySpeedUptoSaid : Prop := fnExactCutBySpeedUptoRow.holds Try.pinned (OpenSpec.upto fnExactCutBySpeedSpec)

/-- 'laws.FnExactCutByHeight', WHERE WHAT IT READS IS OF BULK AT MOST 1048576: true; the input reads as it did. -/
def fnExactCutByHeightUptoRow : OpenClaim := { program := "ytfephoddgifapaa", sum := "65ab9f19f6f5daf19284d64b957a7967134eea1f29ccb80893600811beb0124c", func := "loop.example/g01404/laws.FnExactCutByHeight", spec := "fnExactCutByHeight", unfollowed := true, recurses := true, apart := false, narrowed := true }
def FnExactCutByHeightUptoSaid : Prop := fnExactCutByHeightUptoRow.holds Try.pinned (OpenSpec.upto fnExactCutByHeightSpec)

/-- 'laws.FnExactDensityOf', WHERE WHAT IT READS IS OF BULK AT MOST 1048576: true; the input reads as it did. -/
def fnExactDensityOfUptoRow : OpenClaim := { program := "ytfephoddgifapaa", sum := "65ab9f19f6f5daf19284d64b957a7967134eea1f29ccb80893600811beb0124c", func := "loop.example/g01404/laws.FnExactDensityOf", spec := "fnExactDensityOf", unfollowed := true, recurses := true, apart := false, narrowed := true }
def FnExactDensityOfUptoSaid : Prop := fnExactDensityOfUptoRow.holds Try.pinned (OpenSpec.upto fnExactDensityOfSpec)

/-- 'laws.FnExactJobsOfTasks', WHERE WHAT IT READS IS OF BULK AT MOST 1048576: true; the input reads as it did. -/
def fnExactJobsOfTasksUptoRow : OpenClaim := { program := "ytfephoddgifapaa", sum := "65ab9f19f6f5daf19284d64b957a7967134eea1f29ccb80893600811beb0124c", func := "loop.example/g01404/laws.FnExactJobsOfTasks", spec := "fnExactJobsOfTasks", unfollowed := true, recurses := true, apart := false, narrowed := true }
def FnExactJobsOfTasksUptoSaid : Prop := fnExactJobsOfTasksUptoRow.holds Try.pinned (OpenSpec.upto fnExactJobsOfTasksSpec)

/-- 'laws.FnExactRenumberTasks', WHERE WHAT IT READS IS OF BULK AT MOST 1048576: true; the input reads as it did. -/
def fnExactRenumberTasksUptoRow : OpenClaim := { program := "ytfephoddgifapaa", sum := "65ab9f19f6f5daf19284d64b957a7967134eea1f29ccb80893600811beb0124c", func := "loop.example/g01404/laws.FnExactRenumberTasks", spec := "fnExactRenumberTasks", unfollowed := true, recurses := true, apart := false, narrowed := true }
def FnExactRenumberTasksUptoSaid : Prop := fnExactRenumberTasksUptoRow.holds Try.pinned (OpenSpec.upto fnExactRenumberTasksSpec)

/-- 'laws.FnExactGrowDays', WHERE WHAT IT READS IS OF BULK AT MOST 1048576: true; the input reads as it did. -/
def fnExactGrowDaysUptoRow : OpenClaim := { program := "ytfephoddgifapaa", sum := "65ab9f19f6f5daf19284d64b957a7967134eea1f29ccb80893600811beb0124c", func := "loop.example/g01404/laws.FnExactGrowDays", spec := "fnExactGrowDays", unfollowed := true, recurses := true, apart := false, narrowed := true }
def FnExactGrowDaysUptoSaid : Prop := fnExactGrowDaysUptoRow.holds Try.pinned (OpenSpec.upto fnExactGrowDaysSpec)

/-- 'laws.FnExactTasksOfGarden', WHERE WHAT IT READS IS OF BULK AT MOST 1048576: true; the input reads as it did. -/
def fnExactTasksOfGardenUptoRow : OpenClaim := { program := "ytfephoddgifapaa", sum := "65ab9f19f6f5daf19284d64b957a7967134eea1f29ccb80893600811beb0124c", func := "loop.example/g01404/laws.FnExactTasksOfGarden", spec := "fnExactTasksOfGarden", unfollowed := true, recurses := true, apart := false, narrowed := true }
def FnExactTasksOfGardenUptoSaid : Prop := fnExactTasksOfGardenUptoRow.holds Try.pinned (OpenSpec.upto fnExactTasksOfGardenSpec)

/-- 'laws.FnExactHighestByHeight', WHERE WHAT IT READS IS OF BULK AT MOST 1048576: true; the input reads as it did. -/
def fnExactHighestByHeightUptoRow : OpenClaim := { program := "ytfephoddgifapaa", sum := "65ab9f19f6f5daf19284d64b957a7967134eea1f29ccb80893600811beb0124c", func := "loop.example/g01404/laws.FnExactHighestByHeight", spec := "fnExactHighestByHeight", unfollowed := true, recurses := true, apart := false, narrowed := true }
def FnExactHighestByHeightUptoSaid : Prop := fnExactHighestByHeightUptoRow.holds Try.pinned (OpenSpec.upto fnExactHighestByHeightSpec)

/-- 'laws.FnExactHeightsBehind', WHERE WHAT IT READS IS OF BULK AT MOST 1048576: true; the input reads as it did. -/
def fnExactHeightsBehindUptoRow : OpenClaim := { program := "ytfephoddgifapaa", sum := "65ab9f19f6f5daf19284d64b957a7967134eea1f29ccb80893600811beb0124c", func := "loop.example/g01404/laws.FnExactHeightsBehind", spec := "fnExactHeightsBehind", unfollowed := true, recurses := true, apart := false, narrowed := true }
def FnExactHeightsBehindUptoSaid : Prop := fnExactHeightsBehindUptoRow.holds Try.pinned (OpenSpec.upto fnExactHeightsBehindSpec)

end Rows
end Go.Proofs.Ytfephoddgifapaa
