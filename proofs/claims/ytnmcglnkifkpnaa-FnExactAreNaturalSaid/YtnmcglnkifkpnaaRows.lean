/-
  No cell of these rows narrows 'for every input' (looked for: loops, veiled, ifaces, maps, wideKeys, modest, calm, conditions, laid).
  DERIVED. THE GIVEN ROWS OF THIS SEAT. 10 by the template 'for every input the law returns true; each argument reads behind the call as it read before'; 0 by the template 'total and deterministic' (their statements: YtnmcglnkifkpnaaTotals.lean).
  GIVEN WITH THE SEED: the statements are not yours to turn. If you find one false, say at which input.
  Laid BY PROGRAM, IN A SANDBOX (cutbox-rows.mjs): the forced cells as the released guide's own fill.sh prints them over the translation b49f4362ae2cb054… (all of the seat's roots in one cut). By AI agents, Wed Nov 11 2026. No macro, syntax, notation, axiom, sorry.
-/
import Derived.Test.YtnmcglnkifkpnaaChecked
import GoSem.Claim
import GoSem.ClaimJoined
import GoSem.ClaimMapViews
import Derived.JoinedTies
import Derived.KernelRfl
namespace Go.Proofs.Ytnmcglnkifkpnaa
/- THE CELL 'sum', in the pinned program and in every row, IS THE sha256 OF THE DUMP (.gsa) THAT YtnmcglnkifkpnaaProg.lean LOADS. Nothing in Lean hashes anything: it is a label: what it is worth is what the hold of that sum in a sandbox is worth. -/
noncomputable def Try.pinned : Pinned := { name := "ytnmcglnkifkpnaa", sum := "b49f4362ae2cb0546636f7da1ab70053d3960e1ed6e6eec52c9ff7ce0a1354b9", checked := Try.checked }
namespace Rows
def none {H : Type} : Left H := { results := [], args := [] }

/-- 'laws.FnExactAreClasses': WHATEVER THE INPUT: true; the input reads as it did. -/
def fnExactAreClassesSpec : ChangeSpec := { name := "fnExactAreClasses", fn := fun _ => fun
  | [d] => { results := [.lit (.bool true)], args := [d] }
  | _ => none }
def fnExactAreClassesRow : OpenClaim := { program := "ytnmcglnkifkpnaa", sum := "b49f4362ae2cb0546636f7da1ab70053d3960e1ed6e6eec52c9ff7ce0a1354b9", func := "loop.example/g01404/laws.FnExactAreClasses", spec := "fnExactAreClasses", unfollowed := true, recurses := true, apart := false }
def FnExactAreClassesSaid : Prop := fnExactAreClassesRow.holds Try.pinned (OpenSpec.ofChange fnExactAreClassesSpec)

/-- ITS FALSE NEIGHBOUR: 'it returns false'. Refute it at one input. -/
def fnExactAreClassesWrong : ChangeSpec := { name := "fnExactAreClasses", fn := fun _ => fun
  | [d] => { results := [.lit (.bool false)], args := [d] }
  | _ => none }
def FnExactAreClassesWrongFalsely : Prop := fnExactAreClassesRow.holds Try.pinned (OpenSpec.ofChange fnExactAreClassesWrong)

/-- 'laws.FnExactAreApart': WHATEVER THE INPUT: true; the input reads as it did. -/
def fnExactAreApartSpec : ChangeSpec := { name := "fnExactAreApart", fn := fun _ => fun
  | [d] => { results := [.lit (.bool true)], args := [d] }
  | _ => none }
def fnExactAreApartRow : OpenClaim := { program := "ytnmcglnkifkpnaa", sum := "b49f4362ae2cb0546636f7da1ab70053d3960e1ed6e6eec52c9ff7ce0a1354b9", func := "loop.example/g01404/laws.FnExactAreApart", spec := "fnExactAreApart", unfollowed := true, recurses := true, apart := false }
def FnExactAreApartSaid : Prop := fnExactAreApartRow.holds Try.pinned (OpenSpec.ofChange fnExactAreApartSpec)

/-- ITS FALSE NEIGHBOUR: 'it returns false'. Refute it at one input. -/
def fnExactAreApartWrong : ChangeSpec := { name := "fnExactAreApart", fn := fun _ => fun
  | [d] => { results := [.lit (.bool false)], args := [d] }
  | _ => none }
def FnExactAreApartWrongFalsely : Prop := fnExactAreApartRow.holds Try.pinned (OpenSpec.ofChange fnExactAreApartWrong)

/-- 'laws.FnExactSplitClass': WHATEVER THE INPUT: true; the input reads as it did. -/
def fnExactSplitClassSpec : ChangeSpec := { name := "fnExactSplitClass", fn := fun _ => fun
  | [d1, d2, d3] => { results := [.lit (.bool true)], args := [d1, d2, d3] }
  | _ => none }
def fnExactSplitClassRow : OpenClaim := { program := "ytnmcglnkifkpnaa", sum := "b49f4362ae2cb0546636f7da1ab70053d3960e1ed6e6eec52c9ff7ce0a1354b9", func := "loop.example/g01404/laws.FnExactSplitClass", spec := "fnExactSplitClass", unfollowed := true, recurses := true, apart := false }
def FnExactSplitClassSaid : Prop := fnExactSplitClassRow.holds Try.pinned (OpenSpec.ofChange fnExactSplitClassSpec)

/-- ITS FALSE NEIGHBOUR: 'it returns false'. Refute it at one input. -/
def fnExactSplitClassWrong : ChangeSpec := { name := "fnExactSplitClass", fn := fun _ => fun
  | [d1, d2, d3] => { results := [.lit (.bool false)], args := [d1, d2, d3] }
  | _ => none }
def FnExactSplitClassWrongFalsely : Prop := fnExactSplitClassRow.holds Try.pinned (OpenSpec.ofChange fnExactSplitClassWrong)

/-- 'laws.FnExactFirstUncovered': WHATEVER THE INPUT: true; the input reads as it did. -/
def fnExactFirstUncoveredSpec : ChangeSpec := { name := "fnExactFirstUncovered", fn := fun _ => fun
  | [d] => { results := [.lit (.bool true)], args := [d] }
  | _ => none }
def fnExactFirstUncoveredRow : OpenClaim := { program := "ytnmcglnkifkpnaa", sum := "b49f4362ae2cb0546636f7da1ab70053d3960e1ed6e6eec52c9ff7ce0a1354b9", func := "loop.example/g01404/laws.FnExactFirstUncovered", spec := "fnExactFirstUncovered", unfollowed := true, recurses := true, apart := false }
def FnExactFirstUncoveredSaid : Prop := fnExactFirstUncoveredRow.holds Try.pinned (OpenSpec.ofChange fnExactFirstUncoveredSpec)

/-- ITS FALSE NEIGHBOUR: 'it returns false'. Refute it at one input. -/
def fnExactFirstUncoveredWrong : ChangeSpec := { name := "fnExactFirstUncovered", fn := fun _ => fun
  | [d] => { results := [.lit (.bool false)], args := [d] }
  | _ => none }
def FnExactFirstUncoveredWrongFalsely : Prop := fnExactFirstUncoveredRow.holds Try.pinned (OpenSpec.ofChange fnExactFirstUncoveredWrong)

/-- 'laws.FnExactDoCover': WHATEVER THE INPUT: true; the input reads as it did. -/
def fnExactDoCoverSpec : ChangeSpec := { name := "fnExactDoCover", fn := fun _ => fun
  | [d] => { results := [.lit (.bool true)], args := [d] }
  | _ => none }
def fnExactDoCoverRow : OpenClaim := { program := "ytnmcglnkifkpnaa", sum := "b49f4362ae2cb0546636f7da1ab70053d3960e1ed6e6eec52c9ff7ce0a1354b9", func := "loop.example/g01404/laws.FnExactDoCover", spec := "fnExactDoCover", unfollowed := true, recurses := true, apart := false }
def FnExactDoCoverSaid : Prop := fnExactDoCoverRow.holds Try.pinned (OpenSpec.ofChange fnExactDoCoverSpec)

/-- ITS FALSE NEIGHBOUR: 'it returns false'. Refute it at one input. -/
def fnExactDoCoverWrong : ChangeSpec := { name := "fnExactDoCover", fn := fun _ => fun
  | [d] => { results := [.lit (.bool false)], args := [d] }
  | _ => none }
def FnExactDoCoverWrongFalsely : Prop := fnExactDoCoverRow.holds Try.pinned (OpenSpec.ofChange fnExactDoCoverWrong)

/-- 'laws.FnExactAreExact': WHATEVER THE INPUT: true; the input reads as it did. -/
def fnExactAreExactSpec : ChangeSpec := { name := "fnExactAreExact", fn := fun _ => fun
  | [d] => { results := [.lit (.bool true)], args := [d] }
  | _ => none }
def fnExactAreExactRow : OpenClaim := { program := "ytnmcglnkifkpnaa", sum := "b49f4362ae2cb0546636f7da1ab70053d3960e1ed6e6eec52c9ff7ce0a1354b9", func := "loop.example/g01404/laws.FnExactAreExact", spec := "fnExactAreExact", unfollowed := true, recurses := true, apart := false }
def FnExactAreExactSaid : Prop := fnExactAreExactRow.holds Try.pinned (OpenSpec.ofChange fnExactAreExactSpec)

/-- ITS FALSE NEIGHBOUR: 'it returns false'. Refute it at one input. -/
def fnExactAreExactWrong : ChangeSpec := { name := "fnExactAreExact", fn := fun _ => fun
  | [d] => { results := [.lit (.bool false)], args := [d] }
  | _ => none }
def FnExactAreExactWrongFalsely : Prop := fnExactAreExactRow.holds Try.pinned (OpenSpec.ofChange fnExactAreExactWrong)

/-- 'laws.FnExactAreNatural': WHATEVER THE INPUT: true; the input reads as it did. -/
def fnExactAreNaturalSpec : ChangeSpec := { name := "fnExactAreNatural", fn := fun _ => fun
  | [d] => { results := [.lit (.bool true)], args := [d] }
  | _ => none }
def fnExactAreNaturalRow : OpenClaim := { program := "ytnmcglnkifkpnaa", sum := "b49f4362ae2cb0546636f7da1ab70053d3960e1ed6e6eec52c9ff7ce0a1354b9", func := "loop.example/g01404/laws.FnExactAreNatural", spec := "fnExactAreNatural", unfollowed := true, recurses := true, apart := false }
def FnExactAreNaturalSaid : Prop := fnExactAreNaturalRow.holds Try.pinned (OpenSpec.ofChange fnExactAreNaturalSpec)

/-- ITS FALSE NEIGHBOUR: 'it returns false'. Refute it at one input. -/
def fnExactAreNaturalWrong : ChangeSpec := { name := "fnExactAreNatural", fn := fun _ => fun
  | [d] => { results := [.lit (.bool false)], args := [d] }
  | _ => none }
def FnExactAreNaturalWrongFalsely : Prop := fnExactAreNaturalRow.holds Try.pinned (OpenSpec.ofChange fnExactAreNaturalWrong)

/-- 'laws.FnExactCountRests': WHATEVER THE INPUT: true; the input reads as it did. -/
def fnExactCountRestsSpec : ChangeSpec := { name := "fnExactCountRests", fn := fun _ => fun
  | [d] => { results := [.lit (.bool true)], args := [d] }
  | _ => none }
def fnExactCountRestsRow : OpenClaim := { program := "ytnmcglnkifkpnaa", sum := "b49f4362ae2cb0546636f7da1ab70053d3960e1ed6e6eec52c9ff7ce0a1354b9", func := "loop.example/g01404/laws.FnExactCountRests", spec := "fnExactCountRests", unfollowed := true, recurses := true, apart := false }
def FnExactCountRestsSaid : Prop := fnExactCountRestsRow.holds Try.pinned (OpenSpec.ofChange fnExactCountRestsSpec)

/-- ITS FALSE NEIGHBOUR: 'it returns false'. Refute it at one input. -/
def fnExactCountRestsWrong : ChangeSpec := { name := "fnExactCountRests", fn := fun _ => fun
  | [d] => { results := [.lit (.bool false)], args := [d] }
  | _ => none }
def FnExactCountRestsWrongFalsely : Prop := fnExactCountRestsRow.holds Try.pinned (OpenSpec.ofChange fnExactCountRestsWrong)

/-- 'laws.FnExactClassesOfTurns': WHATEVER THE INPUT: true; the input reads as it did. -/
def fnExactClassesOfTurnsSpec : ChangeSpec := { name := "fnExactClassesOfTurns", fn := fun _ => fun
  | [d1, d2] => { results := [.lit (.bool true)], args := [d1, d2] }
  | _ => none }
def fnExactClassesOfTurnsRow : OpenClaim := { program := "ytnmcglnkifkpnaa", sum := "b49f4362ae2cb0546636f7da1ab70053d3960e1ed6e6eec52c9ff7ce0a1354b9", func := "loop.example/g01404/laws.FnExactClassesOfTurns", spec := "fnExactClassesOfTurns", unfollowed := true, recurses := true, apart := false }
def FnExactClassesOfTurnsSaid : Prop := fnExactClassesOfTurnsRow.holds Try.pinned (OpenSpec.ofChange fnExactClassesOfTurnsSpec)

/-- ITS FALSE NEIGHBOUR: 'it returns false'. Refute it at one input. -/
def fnExactClassesOfTurnsWrong : ChangeSpec := { name := "fnExactClassesOfTurns", fn := fun _ => fun
  | [d1, d2] => { results := [.lit (.bool false)], args := [d1, d2] }
  | _ => none }
def FnExactClassesOfTurnsWrongFalsely : Prop := fnExactClassesOfTurnsRow.holds Try.pinned (OpenSpec.ofChange fnExactClassesOfTurnsWrong)

/-- 'laws.FnExactTurnsOfClasses': WHATEVER THE INPUT: true; the input reads as it did. -/
def fnExactTurnsOfClassesSpec : ChangeSpec := { name := "fnExactTurnsOfClasses", fn := fun _ => fun
  | [d] => { results := [.lit (.bool true)], args := [d] }
  | _ => none }
def fnExactTurnsOfClassesRow : OpenClaim := { program := "ytnmcglnkifkpnaa", sum := "b49f4362ae2cb0546636f7da1ab70053d3960e1ed6e6eec52c9ff7ce0a1354b9", func := "loop.example/g01404/laws.FnExactTurnsOfClasses", spec := "fnExactTurnsOfClasses", unfollowed := true, recurses := true, apart := false }
def FnExactTurnsOfClassesSaid : Prop := fnExactTurnsOfClassesRow.holds Try.pinned (OpenSpec.ofChange fnExactTurnsOfClassesSpec)

/-- ITS FALSE NEIGHBOUR: 'it returns false'. Refute it at one input. -/
def fnExactTurnsOfClassesWrong : ChangeSpec := { name := "fnExactTurnsOfClasses", fn := fun _ => fun
  | [d] => { results := [.lit (.bool false)], args := [d] }
  | _ => none }
def FnExactTurnsOfClassesWrongFalsely : Prop := fnExactTurnsOfClassesRow.holds Try.pinned (OpenSpec.ofChange fnExactTurnsOfClassesWrong)

/- THE SECOND FORM. 'bulk': how many values and letters a reading holds, each counted each time it is reached (what is shared counts as often as it is met; a slice's spare places count too). A statement '..UptoSaid' is the law's where the arguments, and the package variables that the reading takes, are together of bulk at most 1048576: NARROWER than '..Said'. Prove '..Said' where nothing that the law and all that it calls make is longer than what came in: it says more and counts as full. Else prove '..UptoSaid'. A law counts once. -/
mutual
def uptoBulk {H : Type} : DataW H → Nat
  | .lit (.string bytes) => bytes.length + 1
  | .lit _ => 1
  | .nil => 1
  | .ptr d => uptoBulk d + 1
  | .slice elems spare => uptoBulkAll elems + uptoBulkAll spare + 1
  | .agg parts => uptoBulkAll parts + 1
  | .iface _ d => uptoBulk d + 1
  | .map entries => uptoBulkEntries entries + 1
  | .held _ => 1
def uptoBulkAll {H : Type} : List (DataW H) → Nat
  | [] => 0
  | d :: r => uptoBulk d + uptoBulkAll r
def uptoBulkEntries {H : Type} : List (Lit × DataW H) → Nat
  | [] => 0
  | x :: r => uptoBulkEntry x + uptoBulkEntries r
def uptoBulkEntry {H : Type} : Lit × DataW H → Nat
  | (.string bytes, d) => bytes.length + uptoBulk d + 1
  | (_, d) => uptoBulk d + 1
 end
def uptoSmall : (H : Type) → List (DataW H) → Bool := fun _ ds => decide (uptoBulkAll ds ≤ 1048576)
def OpenSpec.upto (s : _root_.Go.ChangeSpec) : _root_.Go.OpenSpec := { _root_.Go.OpenSpec.ofChange s with cond := some uptoSmall }

/-- 'laws.FnExactAreClasses', WHERE WHAT IT READS IS OF BULK AT MOST 1048576: true; the input reads as it did. -/
def fnExactAreClassesUptoRow : OpenClaim := { program := "ytnmcglnkifkpnaa", sum := "b49f4362ae2cb0546636f7da1ab70053d3960e1ed6e6eec52c9ff7ce0a1354b9", func := "loop.example/g01404/laws.FnExactAreClasses", spec := "fnExactAreClasses", unfollowed := true, recurses := true, apart := false, narrowed := true }
def FnExactAreClassesUptoSaid : Prop := fnExactAreClassesUptoRow.holds Try.pinned (OpenSpec.upto fnExactAreClassesSpec)

/-- 'laws.FnExactAreApart', WHERE WHAT IT READS IS OF BULK AT MOST 1048576: true; the input reads as it did. -/
def fnExactAreApartUptoRow : OpenClaim := { program := "ytnmcglnkifkpnaa", sum := "b49f4362ae2cb0546636f7da1ab70053d3960e1ed6e6eec52c9ff7ce0a1354b9", func := "loop.example/g01404/laws.FnExactAreApart", spec := "fnExactAreApart", unfollowed := true, recurses := true, apart := false, narrowed := true }
def FnExactAreApartUptoSaid : Prop := fnExactAreApartUptoRow.holds Try.pinned (OpenSpec.upto fnExactAreApartSpec)

/-- 'laws.FnExactSplitClass', WHERE WHAT IT READS IS OF BULK AT MOST 1048576: true; the input reads as it did. -/
def fnExactSplitClassUptoRow : OpenClaim := { program := "ytnmcglnkifkpnaa", sum := "b49f4362ae2cb0546636f7da1ab70053d3960e1ed6e6eec52c9ff7ce0a1354b9", func := "loop.example/g01404/laws.FnExactSplitClass", spec := "fnExactSplitClass", unfollowed := true, recurses := true, apart := false, narrowed := true }
def FnExactSplitClassUptoSaid : Prop := fnExactSplitClassUptoRow.holds Try.pinned (OpenSpec.upto fnExactSplitClassSpec)

/-- 'laws.FnExactFirstUncovered', WHERE WHAT IT READS IS OF BULK AT MOST 1048576: true; the input reads as it did. -/
def fnExactFirstUncoveredUptoRow : OpenClaim := { program := "ytnmcglnkifkpnaa", sum := "b49f4362ae2cb0546636f7da1ab70053d3960e1ed6e6eec52c9ff7ce0a1354b9", func := "loop.example/g01404/laws.FnExactFirstUncovered", spec := "fnExactFirstUncovered", unfollowed := true, recurses := true, apart := false, narrowed := true }
def FnExactFirstUncoveredUptoSaid : Prop := fnExactFirstUncoveredUptoRow.holds Try.pinned (OpenSpec.upto fnExactFirstUncoveredSpec)

/-- 'laws.FnExactDoCover', WHERE WHAT IT READS IS OF BULK AT MOST 1048576: true; the input reads as it did. -/
def fnExactDoCoverUptoRow : OpenClaim := { program := "ytnmcglnkifkpnaa", sum := "b49f4362ae2cb0546636f7da1ab70053d3960e1ed6e6eec52c9ff7ce0a1354b9", func := "loop.example/g01404/laws.FnExactDoCover", spec := "fnExactDoCover", unfollowed := true, recurses := true, apart := false, narrowed := true }
def FnExactDoCoverUptoSaid : Prop := fnExactDoCoverUptoRow.holds Try.pinned (OpenSpec.upto fnExactDoCoverSpec)

/-- 'laws.FnExactAreExact', WHERE WHAT IT READS IS OF BULK AT MOST 1048576: true; the input reads as it did. -/
def fnExactAreExactUptoRow : OpenClaim := { program := "ytnmcglnkifkpnaa", sum := "b49f4362ae2cb0546636f7da1ab70053d3960e1ed6e6eec52c9ff7ce0a1354b9", func := "loop.example/g01404/laws.FnExactAreExact", spec := "fnExactAreExact", unfollowed := true, recurses := true, apart := false, narrowed := true }
def FnExactAreExactUptoSaid : Prop := fnExactAreExactUptoRow.holds Try.pinned (OpenSpec.upto fnExactAreExactSpec)

/-- 'laws.FnExactAreNatural', WHERE WHAT IT READS IS OF BULK AT MOST 1048576: true; the input reads as it did. -/
def fnExactAreNaturalUptoRow : OpenClaim := { program := "ytnmcglnkifkpnaa", sum := "b49f4362ae2cb0546636f7da1ab70053d3960e1ed6e6eec52c9ff7ce0a1354b9", func := "loop.example/g01404/laws.FnExactAreNatural", spec := "fnExactAreNatural", unfollowed := true, recurses := true, apart := false, narrowed := true }
def FnExactAreNaturalUptoSaid : Prop := fnExactAreNaturalUptoRow.holds Try.pinned (OpenSpec.upto fnExactAreNaturalSpec)

/-- 'laws.FnExactCountRests', WHERE WHAT IT READS IS OF BULK AT MOST 1048576: true; the input reads as it did. -/
def fnExactCountRestsUptoRow : OpenClaim := { program := "ytnmcglnkifkpnaa", sum := "b49f4362ae2cb0546636f7da1ab70053d3960e1ed6e6eec52c9ff7ce0a1354b9", func := "loop.example/g01404/laws.FnExactCountRests", spec := "fnExactCountRests", unfollowed := true, recurses := true, apart := false, narrowed := true }
def FnExactCountRestsUptoSaid : Prop := fnExactCountRestsUptoRow.holds Try.pinned (OpenSpec.upto fnExactCountRestsSpec)

/-- 'laws.FnExactClassesOfTurns', WHERE WHAT IT READS IS OF BULK AT MOST 1048576: true; the input reads as it did. -/
def fnExactClassesOfTurnsUptoRow : OpenClaim := { program := "ytnmcglnkifkpnaa", sum := "b49f4362ae2cb0546636f7da1ab70053d3960e1ed6e6eec52c9ff7ce0a1354b9", func := "loop.example/g01404/laws.FnExactClassesOfTurns", spec := "fnExactClassesOfTurns", unfollowed := true, recurses := true, apart := false, narrowed := true }
def FnExactClassesOfTurnsUptoSaid : Prop := fnExactClassesOfTurnsUptoRow.holds Try.pinned (OpenSpec.upto fnExactClassesOfTurnsSpec)

/-- 'laws.FnExactTurnsOfClasses', WHERE WHAT IT READS IS OF BULK AT MOST 1048576: true; the input reads as it did. -/
def fnExactTurnsOfClassesUptoRow : OpenClaim := { program := "ytnmcglnkifkpnaa", sum := "b49f4362ae2cb0546636f7da1ab70053d3960e1ed6e6eec52c9ff7ce0a1354b9", func := "loop.example/g01404/laws.FnExactTurnsOfClasses", spec := "fnExactTurnsOfClasses", unfollowed := true, recurses := true, apart := false, narrowed := true }
def FnExactTurnsOfClassesUptoSaid : Prop := fnExactTurnsOfClassesUptoRow.holds Try.pinned (OpenSpec.upto fnExactTurnsOfClassesSpec)

end Rows
end Go.Proofs.Ytnmcglnkifkpnaa
