/-
  No cell of these rows narrows 'for every input' (looked for: loops, veiled, ifaces, maps, wideKeys, modest, calm, conditions, laid).
  DERIVED. THE GIVEN ROWS OF THIS SEAT. 12 by the template 'for every input the law returns true; each argument reads behind the call as it read before'; 0 by the template 'total and deterministic' (their statements: YtmpjjdgfkjompaaTotals.lean).
  GIVEN WITH THE SEED: the statements are not yours to turn. If you find one false, say at which input.
  Laid BY PROGRAM, IN A SANDBOX (cutbox-rows.mjs): the forced cells as the released guide's own fill.sh prints them over the translation f6df1c9042a8cd26… (all of the seat's roots in one cut). By AI agents, Wed Nov 11 2026. No macro, syntax, notation, axiom, sorry.
-/
import Derived.Test.YtmpjjdgfkjompaaChecked
import GoSem.Claim
import GoSem.ClaimJoined
import GoSem.ClaimMapViews
import Derived.JoinedTies
import Derived.KernelRfl
namespace Go.Proofs.Ytmpjjdgfkjompaa
/- THE CELL 'sum', in the pinned program and in every row, IS THE sha256 OF THE DUMP (.gsa) THAT YtmpjjdgfkjompaaProg.lean LOADS. Nothing in Lean hashes anything: it is a label: what it is worth is what the hold of that sum in a sandbox is worth. -/
noncomputable def Try.pinned : Pinned := { name := "ytmpjjdgfkjompaa", sum := "f6df1c9042a8cd264619d3a2a89c728687e60a001b7155d92a2870295b6d2b86", checked := Try.checked }
namespace Rows
def none {H : Type} : Left H := { results := [], args := [] }

/-- 'laws.FnExactGreatestSub': WHATEVER THE INPUT: true; the input reads as it did. -/
def fnExactGreatestSubSpec : ChangeSpec := { name := "fnExactGreatestSub", fn := fun _ => fun
  | [d1, d2] => { results := [.lit (.bool true)], args := [d1, d2] }
  | _ => none }
def fnExactGreatestSubRow : OpenClaim := { program := "ytmpjjdgfkjompaa", sum := "f6df1c9042a8cd264619d3a2a89c728687e60a001b7155d92a2870295b6d2b86", func := "loop.example/g00941/laws.FnExactGreatestSub", spec := "fnExactGreatestSub", unfollowed := true, recurses := true, apart := false }
def FnExactGreatestSubSaid : Prop := fnExactGreatestSubRow.holds Try.pinned (OpenSpec.ofChange fnExactGreatestSubSpec)

/-- ITS FALSE NEIGHBOUR: 'it returns false'. Refute it at one input. -/
def fnExactGreatestSubWrong : ChangeSpec := { name := "fnExactGreatestSub", fn := fun _ => fun
  | [d1, d2] => { results := [.lit (.bool false)], args := [d1, d2] }
  | _ => none }
def FnExactGreatestSubWrongFalsely : Prop := fnExactGreatestSubRow.holds Try.pinned (OpenSpec.ofChange fnExactGreatestSubWrong)

/-- 'laws.FnExactLargestGap': WHATEVER THE INPUT: true; the input reads as it did. -/
def fnExactLargestGapSpec : ChangeSpec := { name := "fnExactLargestGap", fn := fun _ => fun
  | [d1, d2] => { results := [.lit (.bool true)], args := [d1, d2] }
  | _ => none }
def fnExactLargestGapRow : OpenClaim := { program := "ytmpjjdgfkjompaa", sum := "f6df1c9042a8cd264619d3a2a89c728687e60a001b7155d92a2870295b6d2b86", func := "loop.example/g00941/laws.FnExactLargestGap", spec := "fnExactLargestGap", unfollowed := true, recurses := true, apart := false }
def FnExactLargestGapSaid : Prop := fnExactLargestGapRow.holds Try.pinned (OpenSpec.ofChange fnExactLargestGapSpec)

/-- ITS FALSE NEIGHBOUR: 'it returns false'. Refute it at one input. -/
def fnExactLargestGapWrong : ChangeSpec := { name := "fnExactLargestGap", fn := fun _ => fun
  | [d1, d2] => { results := [.lit (.bool false)], args := [d1, d2] }
  | _ => none }
def FnExactLargestGapWrongFalsely : Prop := fnExactLargestGapRow.holds Try.pinned (OpenSpec.ofChange fnExactLargestGapWrong)

/-- 'laws.FnExactBestBelow': WHATEVER THE INPUT: true; the input reads as it did. -/
def fnExactBestBelowSpec : ChangeSpec := { name := "fnExactBestBelow", fn := fun _ => fun
  | [d1, d2] => { results := [.lit (.bool true)], args := [d1, d2] }
  | _ => none }
def fnExactBestBelowRow : OpenClaim := { program := "ytmpjjdgfkjompaa", sum := "f6df1c9042a8cd264619d3a2a89c728687e60a001b7155d92a2870295b6d2b86", func := "loop.example/g00941/laws.FnExactBestBelow", spec := "fnExactBestBelow", unfollowed := true, recurses := true, apart := false }
def FnExactBestBelowSaid : Prop := fnExactBestBelowRow.holds Try.pinned (OpenSpec.ofChange fnExactBestBelowSpec)

/-- ITS FALSE NEIGHBOUR: 'it returns false'. Refute it at one input. -/
def fnExactBestBelowWrong : ChangeSpec := { name := "fnExactBestBelow", fn := fun _ => fun
  | [d1, d2] => { results := [.lit (.bool false)], args := [d1, d2] }
  | _ => none }
def FnExactBestBelowWrongFalsely : Prop := fnExactBestBelowRow.holds Try.pinned (OpenSpec.ofChange fnExactBestBelowWrong)

/-- 'laws.FnExactMissedRows': WHATEVER THE INPUT: true; the input reads as it did. -/
def fnExactMissedRowsSpec : ChangeSpec := { name := "fnExactMissedRows", fn := fun _ => fun
  | [d1, d2] => { results := [.lit (.bool true)], args := [d1, d2] }
  | _ => none }
def fnExactMissedRowsRow : OpenClaim := { program := "ytmpjjdgfkjompaa", sum := "f6df1c9042a8cd264619d3a2a89c728687e60a001b7155d92a2870295b6d2b86", func := "loop.example/g00941/laws.FnExactMissedRows", spec := "fnExactMissedRows", unfollowed := true, recurses := true, apart := false }
def FnExactMissedRowsSaid : Prop := fnExactMissedRowsRow.holds Try.pinned (OpenSpec.ofChange fnExactMissedRowsSpec)

/-- ITS FALSE NEIGHBOUR: 'it returns false'. Refute it at one input. -/
def fnExactMissedRowsWrong : ChangeSpec := { name := "fnExactMissedRows", fn := fun _ => fun
  | [d1, d2] => { results := [.lit (.bool false)], args := [d1, d2] }
  | _ => none }
def FnExactMissedRowsWrongFalsely : Prop := fnExactMissedRowsRow.holds Try.pinned (OpenSpec.ofChange fnExactMissedRowsWrong)

/-- 'laws.FnExactSolveSystem': WHATEVER THE INPUT: true; the input reads as it did. -/
def fnExactSolveSystemSpec : ChangeSpec := { name := "fnExactSolveSystem", fn := fun _ => fun
  | [d1, d2] => { results := [.lit (.bool true)], args := [d1, d2] }
  | _ => none }
def fnExactSolveSystemRow : OpenClaim := { program := "ytmpjjdgfkjompaa", sum := "f6df1c9042a8cd264619d3a2a89c728687e60a001b7155d92a2870295b6d2b86", func := "loop.example/g00941/laws.FnExactSolveSystem", spec := "fnExactSolveSystem", unfollowed := true, recurses := true, apart := false }
def FnExactSolveSystemSaid : Prop := fnExactSolveSystemRow.holds Try.pinned (OpenSpec.ofChange fnExactSolveSystemSpec)

/-- ITS FALSE NEIGHBOUR: 'it returns false'. Refute it at one input. -/
def fnExactSolveSystemWrong : ChangeSpec := { name := "fnExactSolveSystem", fn := fun _ => fun
  | [d1, d2] => { results := [.lit (.bool false)], args := [d1, d2] }
  | _ => none }
def FnExactSolveSystemWrongFalsely : Prop := fnExactSolveSystemRow.holds Try.pinned (OpenSpec.ofChange fnExactSolveSystemWrong)

/-- 'laws.FnExactLeftQuotient': WHATEVER THE INPUT: true; the input reads as it did. -/
def fnExactLeftQuotientSpec : ChangeSpec := { name := "fnExactLeftQuotient", fn := fun _ => fun
  | [d1, d2] => { results := [.lit (.bool true)], args := [d1, d2] }
  | _ => none }
def fnExactLeftQuotientRow : OpenClaim := { program := "ytmpjjdgfkjompaa", sum := "f6df1c9042a8cd264619d3a2a89c728687e60a001b7155d92a2870295b6d2b86", func := "loop.example/g00941/laws.FnExactLeftQuotient", spec := "fnExactLeftQuotient", unfollowed := true, recurses := true, apart := false }
def FnExactLeftQuotientSaid : Prop := fnExactLeftQuotientRow.holds Try.pinned (OpenSpec.ofChange fnExactLeftQuotientSpec)

/-- ITS FALSE NEIGHBOUR: 'it returns false'. Refute it at one input. -/
def fnExactLeftQuotientWrong : ChangeSpec := { name := "fnExactLeftQuotient", fn := fun _ => fun
  | [d1, d2] => { results := [.lit (.bool false)], args := [d1, d2] }
  | _ => none }
def FnExactLeftQuotientWrongFalsely : Prop := fnExactLeftQuotientRow.holds Try.pinned (OpenSpec.ofChange fnExactLeftQuotientWrong)

/-- 'laws.FnExactRightQuotient': WHATEVER THE INPUT: true; the input reads as it did. -/
def fnExactRightQuotientSpec : ChangeSpec := { name := "fnExactRightQuotient", fn := fun _ => fun
  | [d1, d2] => { results := [.lit (.bool true)], args := [d1, d2] }
  | _ => none }
def fnExactRightQuotientRow : OpenClaim := { program := "ytmpjjdgfkjompaa", sum := "f6df1c9042a8cd264619d3a2a89c728687e60a001b7155d92a2870295b6d2b86", func := "loop.example/g00941/laws.FnExactRightQuotient", spec := "fnExactRightQuotient", unfollowed := true, recurses := true, apart := false }
def FnExactRightQuotientSaid : Prop := fnExactRightQuotientRow.holds Try.pinned (OpenSpec.ofChange fnExactRightQuotientSpec)

/-- ITS FALSE NEIGHBOUR: 'it returns false'. Refute it at one input. -/
def fnExactRightQuotientWrong : ChangeSpec := { name := "fnExactRightQuotient", fn := fun _ => fun
  | [d1, d2] => { results := [.lit (.bool false)], args := [d1, d2] }
  | _ => none }
def FnExactRightQuotientWrongFalsely : Prop := fnExactRightQuotientRow.holds Try.pinned (OpenSpec.ofChange fnExactRightQuotientWrong)

/-- 'laws.FnExactLeastCover': WHATEVER THE INPUT: true; the input reads as it did. -/
def fnExactLeastCoverSpec : ChangeSpec := { name := "fnExactLeastCover", fn := fun _ => fun
  | [d1, d2] => { results := [.lit (.bool true)], args := [d1, d2] }
  | _ => none }
def fnExactLeastCoverRow : OpenClaim := { program := "ytmpjjdgfkjompaa", sum := "f6df1c9042a8cd264619d3a2a89c728687e60a001b7155d92a2870295b6d2b86", func := "loop.example/g00941/laws.FnExactLeastCover", spec := "fnExactLeastCover", unfollowed := true, recurses := true, apart := false }
def FnExactLeastCoverSaid : Prop := fnExactLeastCoverRow.holds Try.pinned (OpenSpec.ofChange fnExactLeastCoverSpec)

/-- ITS FALSE NEIGHBOUR: 'it returns false'. Refute it at one input. -/
def fnExactLeastCoverWrong : ChangeSpec := { name := "fnExactLeastCover", fn := fun _ => fun
  | [d1, d2] => { results := [.lit (.bool false)], args := [d1, d2] }
  | _ => none }
def FnExactLeastCoverWrongFalsely : Prop := fnExactLeastCoverRow.holds Try.pinned (OpenSpec.ofChange fnExactLeastCoverWrong)

/-- 'laws.FnDivisions': WHATEVER THE INPUT: true; the input reads as it did. -/
def fnDivisionsSpec : ChangeSpec := { name := "fnDivisions", fn := fun _ => fun
  | [d] => { results := [.lit (.bool true)], args := [d] }
  | _ => none }
def fnDivisionsRow : OpenClaim := { program := "ytmpjjdgfkjompaa", sum := "f6df1c9042a8cd264619d3a2a89c728687e60a001b7155d92a2870295b6d2b86", func := "loop.example/g00941/laws.FnDivisions", spec := "fnDivisions", unfollowed := true, recurses := true, apart := false }
def FnDivisionsSaid : Prop := fnDivisionsRow.holds Try.pinned (OpenSpec.ofChange fnDivisionsSpec)

/-- ITS FALSE NEIGHBOUR: 'it returns false'. Refute it at one input. -/
def fnDivisionsWrong : ChangeSpec := { name := "fnDivisions", fn := fun _ => fun
  | [d] => { results := [.lit (.bool false)], args := [d] }
  | _ => none }
def FnDivisionsWrongFalsely : Prop := fnDivisionsRow.holds Try.pinned (OpenSpec.ofChange fnDivisionsWrong)

/-- 'laws.FnSubsolutions': WHATEVER THE INPUT: true; the input reads as it did. -/
def fnSubsolutionsSpec : ChangeSpec := { name := "fnSubsolutions", fn := fun _ => fun
  | [d] => { results := [.lit (.bool true)], args := [d] }
  | _ => none }
def fnSubsolutionsRow : OpenClaim := { program := "ytmpjjdgfkjompaa", sum := "f6df1c9042a8cd264619d3a2a89c728687e60a001b7155d92a2870295b6d2b86", func := "loop.example/g00941/laws.FnSubsolutions", spec := "fnSubsolutions", unfollowed := true, recurses := true, apart := false }
def FnSubsolutionsSaid : Prop := fnSubsolutionsRow.holds Try.pinned (OpenSpec.ofChange fnSubsolutionsSpec)

/-- ITS FALSE NEIGHBOUR: 'it returns false'. Refute it at one input. -/
def fnSubsolutionsWrong : ChangeSpec := { name := "fnSubsolutions", fn := fun _ => fun
  | [d] => { results := [.lit (.bool false)], args := [d] }
  | _ => none }
def FnSubsolutionsWrongFalsely : Prop := fnSubsolutionsRow.holds Try.pinned (OpenSpec.ofChange fnSubsolutionsWrong)

/-- 'laws.FnSystems': WHATEVER THE INPUT: true; the input reads as it did. -/
def fnSystemsSpec : ChangeSpec := { name := "fnSystems", fn := fun _ => fun
  | [d] => { results := [.lit (.bool true)], args := [d] }
  | _ => none }
def fnSystemsRow : OpenClaim := { program := "ytmpjjdgfkjompaa", sum := "f6df1c9042a8cd264619d3a2a89c728687e60a001b7155d92a2870295b6d2b86", func := "loop.example/g00941/laws.FnSystems", spec := "fnSystems", unfollowed := true, recurses := true, apart := false }
def FnSystemsSaid : Prop := fnSystemsRow.holds Try.pinned (OpenSpec.ofChange fnSystemsSpec)

/-- ITS FALSE NEIGHBOUR: 'it returns false'. Refute it at one input. -/
def fnSystemsWrong : ChangeSpec := { name := "fnSystems", fn := fun _ => fun
  | [d] => { results := [.lit (.bool false)], args := [d] }
  | _ => none }
def FnSystemsWrongFalsely : Prop := fnSystemsRow.holds Try.pinned (OpenSpec.ofChange fnSystemsWrong)

/-- 'laws.FnCornersOfProducts': WHATEVER THE INPUT: true; the input reads as it did. -/
def fnCornersOfProductsSpec : ChangeSpec := { name := "fnCornersOfProducts", fn := fun _ => fun
  | [d] => { results := [.lit (.bool true)], args := [d] }
  | _ => none }
def fnCornersOfProductsRow : OpenClaim := { program := "ytmpjjdgfkjompaa", sum := "f6df1c9042a8cd264619d3a2a89c728687e60a001b7155d92a2870295b6d2b86", func := "loop.example/g00941/laws.FnCornersOfProducts", spec := "fnCornersOfProducts", unfollowed := true, recurses := true, apart := false }
def FnCornersOfProductsSaid : Prop := fnCornersOfProductsRow.holds Try.pinned (OpenSpec.ofChange fnCornersOfProductsSpec)

/-- ITS FALSE NEIGHBOUR: 'it returns false'. Refute it at one input. -/
def fnCornersOfProductsWrong : ChangeSpec := { name := "fnCornersOfProducts", fn := fun _ => fun
  | [d] => { results := [.lit (.bool false)], args := [d] }
  | _ => none }
def FnCornersOfProductsWrongFalsely : Prop := fnCornersOfProductsRow.holds Try.pinned (OpenSpec.ofChange fnCornersOfProductsWrong)

/- THE SECOND FORM. 'bulk': how many values and letters a reading holds, each counted each time it is reached (what is shared counts as often as it is met; a slice's spare places count too). A statement '..UptoSaid' is the law's where the arguments, and the package variables that the reading takes, are together of bulk at most 1048576: NARROWER than '..Said'. Prove '..Said' where nothing that the law and all that it calls make is longer than what came in: it says more and counts as full. Else prove '..UptoSaid'. A law counts once. -/
mutual
def uptoBulk {H : Type} : DataW H → Nat
  | .lit (.string bytes) => bytes.length + 1
  | .lit _ => 1
  | .nil => 1
  | .ptr d => uptoBulk d + 1
  | .slice elems spare => uptoBulkAll elems + uptoBulkAll spare + 1
  | .agg parts => uptoBulkAll parts + 1
  | .iface _ d => uptoBulk d + 1
  | .map entries => uptoBulkEntries entries + 1
  | .held _ => 1
def uptoBulkAll {H : Type} : List (DataW H) → Nat
  | [] => 0
  | d :: r => uptoBulk d + uptoBulkAll r
def uptoBulkEntries {H : Type} : List (Lit × DataW H) → Nat
  | [] => 0
  | x :: r => uptoBulkEntry x + uptoBulkEntries r
def uptoBulkEntry {H : Type} : Lit × DataW H → Nat
  | (.string bytes, d) => bytes.length + uptoBulk d + 1
  | (_, d) => uptoBulk d + 1
 end
def uptoSmall : (H : Type) → List (DataW H) → Bool := fun _ ds => decide (uptoBulkAll ds ≤ 1048576)
def OpenSpec.upto (s : _root_.Go.ChangeSpec) : _root_.Go.OpenSpec := { _root_.Go.OpenSpec.ofChange s with cond := some uptoSmall }

/-- 'laws.FnExactGreatestSub', WHERE WHAT IT READS IS OF BULK AT MOST 1048576: true; the input reads as it did. -/
def fnExactGreatestSubUptoRow : OpenClaim := { program := "ytmpjjdgfkjompaa", sum := "f6df1c9042a8cd264619d3a2a89c728687e60a001b7155d92a2870295b6d2b86", func := "loop.example/g00941/laws.FnExactGreatestSub", spec := "fnExactGreatestSub", unfollowed := true, recurses := true, apart := false, narrowed := true }
def FnExactGreatestSubUptoSaid : Prop := fnExactGreatestSubUptoRow.holds Try.pinned (OpenSpec.upto fnExactGreatestSubSpec)

/-- 'laws.FnExactLargestGap', WHERE WHAT IT READS IS OF BULK AT MOST 1048576: true; the input reads as it did. -/
def fnExactLargestGapUptoRow : OpenClaim := { program := "ytmpjjdgfkjompaa", sum := "f6df1c9042a8cd264619d3a2a89c728687e60a001b7155d92a2870295b6d2b86", func := "loop.example/g00941/laws.FnExactLargestGap", spec := "fnExactLargestGap", unfollowed := true, recurses := true, apart := false, narrowed := true }
def FnExactLargestGapUptoSaid : Prop := fnExactLargestGapUptoRow.holds Try.pinned (OpenSpec.upto fnExactLargestGapSpec)

/-- 'laws.FnExactBestBelow', WHERE WHAT IT READS IS OF BULK AT MOST 1048576: true; the input reads as it did. -/
def fnExactBestBelowUptoRow : OpenClaim := { program := "ytmpjjdgfkjompaa", sum := "f6df1c9042a8cd264619d3a2a89c728687e60a001b7155d92a2870295b6d2b86", func := "loop.example/g00941/laws.FnExactBestBelow", spec := "fnExactBestBelow", unfollowed := true, recurses := true, apart := false, narrowed := true }
def FnExactBestBelowUptoSaid : Prop := fnExactBestBelowUptoRow.holds Try.pinned (OpenSpec.upto fnExactBestBelowSpec)

/-- 'laws.FnExactMissedRows', WHERE WHAT IT READS IS OF BULK AT MOST 1048576: true; the input reads as it did. -/
def fnExactMissedRowsUptoRow : OpenClaim := { program := "ytmpjjdgfkjompaa", sum := "f6df1c9042a8cd264619d3a2a89c728687e60a001b7155d92a2870295b6d2b86", func := "loop.example/g00941/laws.FnExactMissedRows", spec := "fnExactMissedRows", unfollowed := true, recurses := true, apart := false, narrowed := true }
def FnExactMissedRowsUptoSaid : Prop := fnExactMissedRowsUptoRow.holds Try.pinned (OpenSpec.upto fnExactMissedRowsSpec)

/-- 'laws.FnExactSolveSystem', WHERE WHAT IT READS IS OF BULK AT MOST 1048576: true; the input reads as it did. -/
def fnExactSolveSystemUptoRow : OpenClaim := { program := "ytmpjjdgfkjompaa", sum := "f6df1c9042a8cd264619d3a2a89c728687e60a001b7155d92a2870295b6d2b86", func := "loop.example/g00941/laws.FnExactSolveSystem", spec := "fnExactSolveSystem", unfollowed := true, recurses := true, apart := false, narrowed := true }
def FnExactSolveSystemUptoSaid : Prop := fnExactSolveSystemUptoRow.holds Try.pinned (OpenSpec.upto fnExactSolveSystemSpec)

/-- 'laws.FnExactLeftQuotient', WHERE WHAT IT READS IS OF BULK AT MOST 1048576: true; the input reads as it did. -/
def fnExactLeftQuotientUptoRow : OpenClaim := { program := "ytmpjjdgfkjompaa", sum := "f6df1c9042a8cd264619d3a2a89c728687e60a001b7155d92a2870295b6d2b86", func := "loop.example/g00941/laws.FnExactLeftQuotient", spec := "fnExactLeftQuotient", unfollowed := true, recurses := true, apart := false, narrowed := true }
def FnExactLeftQuotientUptoSaid : Prop := fnExactLeftQuotientUptoRow.holds Try.pinned (OpenSpec.upto fnExactLeftQuotientSpec)

/-- 'laws.FnExactRightQuotient', WHERE WHAT IT READS IS OF BULK AT MOST 1048576: true; the input reads as it did. -/
def fnExactRightQuotientUptoRow : OpenClaim := { program := "ytmpjjdgfkjompaa", sum := "f6df1c9042a8cd264619d3a2a89c728687e60a001b7155d92a2870295b6d2b86", func := "loop.example/g00941/laws.FnExactRightQuotient", spec := "fnExactRightQuotient", unfollowed := true, recurses := true, apart := false, narrowed := true }
def FnExactRightQuotientUptoSaid : Prop := fnExactRightQuotientUptoRow.holds Try.pinned (OpenSpec.upto fnExactRightQuotientSpec)

/-- 'laws.FnExactLeastCover', WHERE WHAT IT READS IS OF BULK AT MOST 1048576: true; the input reads as it did. -/
def fnExactLeastCoverUptoRow : OpenClaim := { program := "ytmpjjdgfkjompaa", sum := "f6df1c9042a8cd264619d3a2a89c728687e60a001b7155d92a2870295b6d2b86", func := "loop.example/g00941/laws.FnExactLeastCover", spec := "fnExactLeastCover", unfollowed := true, recurses := true, apart := false, narrowed := true }
def FnExactLeastCoverUptoSaid : Prop := fnExactLeastCoverUptoRow.holds Try.pinned (OpenSpec.upto fnExactLeastCoverSpec)

/-- 'laws.FnDivisions', WHERE WHAT IT READS IS OF BULK AT MOST 1048576: true; the input reads as it did. -/
def fnDivisionsUptoRow : OpenClaim := { program := "ytmpjjdgfkjompaa", sum := "f6df1c9042a8cd264619d3a2a89c728687e60a001b7155d92a2870295b6d2b86", func := "loop.example/g00941/laws.FnDivisions", spec := "fnDivisions", unfollowed := true, recurses := true, apart := false, narrowed := true }
def FnDivisionsUptoSaid : Prop := fnDivisionsUptoRow.holds Try.pinned (OpenSpec.upto fnDivisionsSpec)

/-- 'laws.FnSubsolutions', WHERE WHAT IT READS IS OF BULK AT MOST 1048576: true; the input reads as it did. -/
def fnSubsolutionsUptoRow : OpenClaim := { program := "ytmpjjdgfkjompaa", sum := "f6df1c9042a8cd264619d3a2a89c728687e60a001b7155d92a2870295b6d2b86", func := "loop.example/g00941/laws.FnSubsolutions", spec := "fnSubsolutions", unfollowed := true, recurses := true, apart := false, narrowed := true }
def FnSubsolutionsUptoSaid : Prop := fnSubsolutionsUptoRow.holds Try.pinned (OpenSpec.upto fnSubsolutionsSpec)

/-- 'laws.FnSystems', WHERE WHAT IT READS IS OF BULK AT MOST 1048576: true; the input reads as it did. -/
def fnSystemsUptoRow : OpenClaim := { program := "ytmpjjdgfkjompaa", sum := "f6df1c9042a8cd264619d3a2a89c728687e60a001b7155d92a2870295b6d2b86", func := "loop.example/g00941/laws.FnSystems", spec := "fnSystems", unfollowed := true, recurses := true, apart := false, narrowed := true }
def FnSystemsUptoSaid : Prop := fnSystemsUptoRow.holds Try.pinned (OpenSpec.upto fnSystemsSpec)

/-- 'laws.FnCornersOfProducts', WHERE WHAT IT READS IS OF BULK AT MOST 1048576: true; the input reads as it did. -/
def fnCornersOfProductsUptoRow : OpenClaim := { program := "ytmpjjdgfkjompaa", sum := "f6df1c9042a8cd264619d3a2a89c728687e60a001b7155d92a2870295b6d2b86", func := "loop.example/g00941/laws.FnCornersOfProducts", spec := "fnCornersOfProducts", unfollowed := true, recurses := true, apart := false, narrowed := true }
def FnCornersOfProductsUptoSaid : Prop := fnCornersOfProductsUptoRow.holds Try.pinned (OpenSpec.upto fnCornersOfProductsSpec)

end Rows
end Go.Proofs.Ytmpjjdgfkjompaa
