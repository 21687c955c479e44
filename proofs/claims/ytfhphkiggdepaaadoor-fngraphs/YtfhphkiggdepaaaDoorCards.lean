/-
  DERIVED. GIVEN WITH THE SEED: THE CARDS: each row of YtfhphkiggdepaaaDoorRows.lean that lists a variable, with what it lists TIED to the program's text (the seventh form; the later family's looks); each row that meets fmt, with fmt's text TOLD by the authors' own Lean function (tested against real Go, not proved from fmt's source: count such statements apart). THE CARD IS WHAT COUNTS. Prove the row's statement (the work); the ties are given (YtfhphkiggdepaaaDoorTie.lean); close each card by the builder's one call (the guide's Derived/Test/ToyasCard.lean, 'card_holds'). Laid BY PROGRAM, IN A SANDBOX (cutbox-door.mjs). By AI agents, Wed Nov 11 2026. No macro, syntax, notation, axiom, sorry.
-/
import Derived.Test.YtfhphkiggdepaaaDoorRows
import GoSem.ClaimSeven
namespace Go.Proofs.YtfhphkiggdepaaaDoor
namespace Rows

/-- THE TIED CARD OF 'laws.FnGraphs'. -/
def fnGraphsCard : Claim7 := { stood := { row := fnGraphsRow, standIns := [], harness := (true, "637efb80c6b5ce8c5958b055a409c536fecc2f7473f8769e4932f0dfae17e283"), looks := true }, kinds := [], alts := [], laidByText := true, laidKinds := [.data, .data, .data, .data, .sentinel, .sentinel, .pinned], laidTests := true, laidLooks := .later }
def FnGraphsCardSaid : Prop := Claim7.holds Tryd.pinned (.plain (OpenSpec.ofChange fnGraphsSpec)) fnGraphsCard

/-- THE TIED CARD OF 'laws.FnExactReadGraph'. -/
def fnExactReadGraphCard : Claim7 := { stood := { row := fnExactReadGraphRow, standIns := [], harness := (true, "637efb80c6b5ce8c5958b055a409c536fecc2f7473f8769e4932f0dfae17e283"), looks := true }, kinds := [], alts := [], laidByText := true, laidKinds := [.data, .data, .data, .data, .sentinel, .sentinel, .pinned], laidTests := true, laidLooks := .later }
def FnExactReadGraphCardSaid : Prop := Claim7.holds Tryd.pinned (.plain (OpenSpec.ofChange fnExactReadGraphSpec)) fnExactReadGraphCard

/-- THE SECOND FORM's CARD OF 'laws.FnGraphs'. -/
def fnGraphsUptoCard : Claim7 := { stood := { row := fnGraphsUptoRow, standIns := [], harness := (true, "637efb80c6b5ce8c5958b055a409c536fecc2f7473f8769e4932f0dfae17e283"), looks := true }, kinds := [], alts := [], laidByText := true, laidKinds := [.data, .data, .data, .data, .sentinel, .sentinel, .pinned], laidTests := true, laidLooks := .later }
def FnGraphsUptoCardSaid : Prop := Claim7.holds Tryd.pinned (.plain (OpenSpec.upto fnGraphsSpec)) fnGraphsUptoCard

/-- THE SECOND FORM's CARD OF 'laws.FnExactReadGraph'. -/
def fnExactReadGraphUptoCard : Claim7 := { stood := { row := fnExactReadGraphUptoRow, standIns := [], harness := (true, "637efb80c6b5ce8c5958b055a409c536fecc2f7473f8769e4932f0dfae17e283"), looks := true }, kinds := [], alts := [], laidByText := true, laidKinds := [.data, .data, .data, .data, .sentinel, .sentinel, .pinned], laidTests := true, laidLooks := .later }
def FnExactReadGraphUptoCardSaid : Prop := Claim7.holds Tryd.pinned (.plain (OpenSpec.upto fnExactReadGraphSpec)) fnExactReadGraphUptoCard
end Rows
end Go.Proofs.YtfhphkiggdepaaaDoor
