/-
  DERIVED. GIVEN WITH THE SEED: THE CARDS: each row of YtjhiigfbjbkedaaDoorRows.lean that lists a variable, with what it lists TIED to the program's text (the seventh form; the later family's looks); each row that meets fmt, with fmt's text TOLD by the authors' own Lean function (tested against real Go, not proved from fmt's source: count such statements apart). THE CARD IS WHAT COUNTS. Prove the row's statement (the work); the ties are given (YtjhiigfbjbkedaaDoorTie.lean); close each card by the builder's one call (the guide's Derived/Test/ToyasCard.lean, 'card_holds'). Laid BY PROGRAM, IN A SANDBOX (cutbox-door.mjs). By AI agents, Wed Nov 11 2026. No macro, syntax, notation, axiom, sorry.
-/
import Derived.Test.YtjhiigfbjbkedaaDoorRows
import GoSem.ClaimSeven
namespace Go.Proofs.YtjhiigfbjbkedaaDoor
namespace Rows

/-- THE TIED CARD OF 'laws.FnExactTasksText'. -/
def fnExactTasksTextCard : Claim7 := { stood := { row := fnExactTasksTextRow, standIns := [], harness := (true, "84fa7c848677fee8b3d1e926f9e7de3dd5eb31d964cd5b9a96d80213c44a7b87"), looks := true }, kinds := [], alts := [], laidByText := true, laidKinds := [.data, .data, .data], laidTests := true, laidLooks := .later }
def FnExactTasksTextCardSaid : Prop := Claim7.holds Tryd.pinned (.plain (OpenSpec.ofChange fnExactTasksTextSpec)) fnExactTasksTextCard

/-- THE TIED CARD OF 'laws.FnExactParseTasks'. -/
def fnExactParseTasksCard : Claim7 := { stood := { row := fnExactParseTasksRow, standIns := [], harness := (true, "84fa7c848677fee8b3d1e926f9e7de3dd5eb31d964cd5b9a96d80213c44a7b87"), looks := true }, kinds := [], alts := [], laidByText := true, laidKinds := [.data, .data, .data, .data, .sentinel, .sentinel, .pinned], laidTests := true, laidLooks := .later }
def FnExactParseTasksCardSaid : Prop := Claim7.holds Tryd.pinned (.plain (OpenSpec.ofChange fnExactParseTasksSpec)) fnExactParseTasksCard

/-- THE SECOND FORM's CARD OF 'laws.FnExactTasksText'. -/
def fnExactTasksTextUptoCard : Claim7 := { stood := { row := fnExactTasksTextUptoRow, standIns := [], harness := (true, "84fa7c848677fee8b3d1e926f9e7de3dd5eb31d964cd5b9a96d80213c44a7b87"), looks := true }, kinds := [], alts := [], laidByText := true, laidKinds := [.data, .data, .data], laidTests := true, laidLooks := .later }
def FnExactTasksTextUptoCardSaid : Prop := Claim7.holds Tryd.pinned (.plain (OpenSpec.upto fnExactTasksTextSpec)) fnExactTasksTextUptoCard

/-- THE SECOND FORM's CARD OF 'laws.FnExactParseTasks'. -/
def fnExactParseTasksUptoCard : Claim7 := { stood := { row := fnExactParseTasksUptoRow, standIns := [], harness := (true, "84fa7c848677fee8b3d1e926f9e7de3dd5eb31d964cd5b9a96d80213c44a7b87"), looks := true }, kinds := [], alts := [], laidByText := true, laidKinds := [.data, .data, .data, .data, .sentinel, .sentinel, .pinned], laidTests := true, laidLooks := .later }
def FnExactParseTasksUptoCardSaid : Prop := Claim7.holds Tryd.pinned (.plain (OpenSpec.upto fnExactParseTasksSpec)) fnExactParseTasksUptoCard
end Rows
end Go.Proofs.YtjhiigfbjbkedaaDoor
