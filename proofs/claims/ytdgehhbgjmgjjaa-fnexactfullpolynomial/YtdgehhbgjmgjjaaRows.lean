/-
  No cell of these rows narrows 'for every input' (looked for: loops, veiled, ifaces, maps, wideKeys, modest, calm, conditions, laid).
  DERIVED. THE GIVEN ROWS OF THIS SEAT. 11 by the template 'for every input the law returns true; each argument reads behind the call as it read before'; 0 by the template 'total and deterministic' (their statements: YtdgehhbgjmgjjaaTotals.lean).
  GIVEN WITH THE SEED: the statements are not yours to turn. If you find one false, say at which input.
  Laid BY PROGRAM, IN A SANDBOX (cutbox-rows.mjs): the forced cells as the released guide's own fill.sh prints them over the translation bf9a583bbfe78826… (all of the seat's roots in one cut). By AI agents, Wed Nov 11 2026. No macro, syntax, notation, axiom, sorry.
-/
import Derived.Test.YtdgehhbgjmgjjaaChecked
import GoSem.Claim
import GoSem.ClaimJoined
import GoSem.ClaimMapViews
import Derived.JoinedTies
import Derived.KernelRfl
namespace Go.Proofs.Ytdgehhbgjmgjjaa
/- THE CELL 'sum', in the pinned program and in every row, IS THE sha256 OF THE DUMP (.gsa) THAT YtdgehhbgjmgjjaaProg.lean LOADS. Nothing in Lean hashes anything: it is a label: what it is worth is what the hold of that sum in a sandbox is worth. -/
noncomputable def Try.pinned : Pinned := { name := "ytdgehhbgjmgjjaa", sum := "bf9a583bbfe78826370975ebe1a15dc97541fcd131b2b10ed446e37e3a149d47", checked := Try.checked }
namespace Rows
def none {H : Type} : Left H := { results := [], args := [] }

/-- 'laws.FnExactIsPolynomial': WHATEVER THE INPUT: true; the input reads as it did. -/
def fnExactIsPolynomialSpec : ChangeSpec := { name := "fnExactIsPolynomial", fn := fun _ => fun
  | [d] => { results := [.lit (.bool true)], args := [d] }
  | _ => none }
def fnExactIsPolynomialRow : OpenClaim := { program := "ytdgehhbgjmgjjaa", sum := "bf9a583bbfe78826370975ebe1a15dc97541fcd131b2b10ed446e37e3a149d47", func := "loop.example/g00941/laws.FnExactIsPolynomial", spec := "fnExactIsPolynomial", unfollowed := true, recurses := true, apart := false }
def FnExactIsPolynomialSaid : Prop := fnExactIsPolynomialRow.holds Try.pinned (OpenSpec.ofChange fnExactIsPolynomialSpec)

/-- ITS FALSE NEIGHBOUR: 'it returns false'. Refute it at one input. -/
def fnExactIsPolynomialWrong : ChangeSpec := { name := "fnExactIsPolynomial", fn := fun _ => fun
  | [d] => { results := [.lit (.bool false)], args := [d] }
  | _ => none }
def FnExactIsPolynomialWrongFalsely : Prop := fnExactIsPolynomialRow.holds Try.pinned (OpenSpec.ofChange fnExactIsPolynomialWrong)

/-- 'laws.FnExactIsEventGraph': WHATEVER THE INPUT: true; the input reads as it did. -/
def fnExactIsEventGraphSpec : ChangeSpec := { name := "fnExactIsEventGraph", fn := fun _ => fun
  | [d] => { results := [.lit (.bool true)], args := [d] }
  | _ => none }
def fnExactIsEventGraphRow : OpenClaim := { program := "ytdgehhbgjmgjjaa", sum := "bf9a583bbfe78826370975ebe1a15dc97541fcd131b2b10ed446e37e3a149d47", func := "loop.example/g00941/laws.FnExactIsEventGraph", spec := "fnExactIsEventGraph", unfollowed := true, recurses := true, apart := false }
def FnExactIsEventGraphSaid : Prop := fnExactIsEventGraphRow.holds Try.pinned (OpenSpec.ofChange fnExactIsEventGraphSpec)

/-- ITS FALSE NEIGHBOUR: 'it returns false'. Refute it at one input. -/
def fnExactIsEventGraphWrong : ChangeSpec := { name := "fnExactIsEventGraph", fn := fun _ => fun
  | [d] => { results := [.lit (.bool false)], args := [d] }
  | _ => none }
def FnExactIsEventGraphWrongFalsely : Prop := fnExactIsEventGraphRow.holds Try.pinned (OpenSpec.ofChange fnExactIsEventGraphWrong)

/-- 'laws.FnExactAddPolynomials': WHATEVER THE INPUT: true; the input reads as it did. -/
def fnExactAddPolynomialsSpec : ChangeSpec := { name := "fnExactAddPolynomials", fn := fun _ => fun
  | [d1, d2] => { results := [.lit (.bool true)], args := [d1, d2] }
  | _ => none }
def fnExactAddPolynomialsRow : OpenClaim := { program := "ytdgehhbgjmgjjaa", sum := "bf9a583bbfe78826370975ebe1a15dc97541fcd131b2b10ed446e37e3a149d47", func := "loop.example/g00941/laws.FnExactAddPolynomials", spec := "fnExactAddPolynomials", unfollowed := true, recurses := true, apart := false }
def FnExactAddPolynomialsSaid : Prop := fnExactAddPolynomialsRow.holds Try.pinned (OpenSpec.ofChange fnExactAddPolynomialsSpec)

/-- ITS FALSE NEIGHBOUR: 'it returns false'. Refute it at one input. -/
def fnExactAddPolynomialsWrong : ChangeSpec := { name := "fnExactAddPolynomials", fn := fun _ => fun
  | [d1, d2] => { results := [.lit (.bool false)], args := [d1, d2] }
  | _ => none }
def FnExactAddPolynomialsWrongFalsely : Prop := fnExactAddPolynomialsRow.holds Try.pinned (OpenSpec.ofChange fnExactAddPolynomialsWrong)

/-- 'laws.FnExactShiftVector': WHATEVER THE INPUT: true; the input reads as it did. -/
def fnExactShiftVectorSpec : ChangeSpec := { name := "fnExactShiftVector", fn := fun _ => fun
  | [d1, d2] => { results := [.lit (.bool true)], args := [d1, d2] }
  | _ => none }
def fnExactShiftVectorRow : OpenClaim := { program := "ytdgehhbgjmgjjaa", sum := "bf9a583bbfe78826370975ebe1a15dc97541fcd131b2b10ed446e37e3a149d47", func := "loop.example/g00941/laws.FnExactShiftVector", spec := "fnExactShiftVector", unfollowed := true, recurses := true, apart := false }
def FnExactShiftVectorSaid : Prop := fnExactShiftVectorRow.holds Try.pinned (OpenSpec.ofChange fnExactShiftVectorSpec)

/-- ITS FALSE NEIGHBOUR: 'it returns false'. Refute it at one input. -/
def fnExactShiftVectorWrong : ChangeSpec := { name := "fnExactShiftVector", fn := fun _ => fun
  | [d1, d2] => { results := [.lit (.bool false)], args := [d1, d2] }
  | _ => none }
def FnExactShiftVectorWrongFalsely : Prop := fnExactShiftVectorRow.holds Try.pinned (OpenSpec.ofChange fnExactShiftVectorWrong)

/-- 'laws.FnExactEvaluatePolynomial': WHATEVER THE INPUT: true; the input reads as it did. -/
def fnExactEvaluatePolynomialSpec : ChangeSpec := { name := "fnExactEvaluatePolynomial", fn := fun _ => fun
  | [d1, d2] => { results := [.lit (.bool true)], args := [d1, d2] }
  | _ => none }
def fnExactEvaluatePolynomialRow : OpenClaim := { program := "ytdgehhbgjmgjjaa", sum := "bf9a583bbfe78826370975ebe1a15dc97541fcd131b2b10ed446e37e3a149d47", func := "loop.example/g00941/laws.FnExactEvaluatePolynomial", spec := "fnExactEvaluatePolynomial", unfollowed := true, recurses := true, apart := false }
def FnExactEvaluatePolynomialSaid : Prop := fnExactEvaluatePolynomialRow.holds Try.pinned (OpenSpec.ofChange fnExactEvaluatePolynomialSpec)

/-- ITS FALSE NEIGHBOUR: 'it returns false'. Refute it at one input. -/
def fnExactEvaluatePolynomialWrong : ChangeSpec := { name := "fnExactEvaluatePolynomial", fn := fun _ => fun
  | [d1, d2] => { results := [.lit (.bool false)], args := [d1, d2] }
  | _ => none }
def FnExactEvaluatePolynomialWrongFalsely : Prop := fnExactEvaluatePolynomialRow.holds Try.pinned (OpenSpec.ofChange fnExactEvaluatePolynomialWrong)

/-- 'laws.FnExactEssentialTerms': WHATEVER THE INPUT: true; the input reads as it did. -/
def fnExactEssentialTermsSpec : ChangeSpec := { name := "fnExactEssentialTerms", fn := fun _ => fun
  | [d] => { results := [.lit (.bool true)], args := [d] }
  | _ => none }
def fnExactEssentialTermsRow : OpenClaim := { program := "ytdgehhbgjmgjjaa", sum := "bf9a583bbfe78826370975ebe1a15dc97541fcd131b2b10ed446e37e3a149d47", func := "loop.example/g00941/laws.FnExactEssentialTerms", spec := "fnExactEssentialTerms", unfollowed := true, recurses := true, apart := false }
def FnExactEssentialTermsSaid : Prop := fnExactEssentialTermsRow.holds Try.pinned (OpenSpec.ofChange fnExactEssentialTermsSpec)

/-- ITS FALSE NEIGHBOUR: 'it returns false'. Refute it at one input. -/
def fnExactEssentialTermsWrong : ChangeSpec := { name := "fnExactEssentialTerms", fn := fun _ => fun
  | [d] => { results := [.lit (.bool false)], args := [d] }
  | _ => none }
def FnExactEssentialTermsWrongFalsely : Prop := fnExactEssentialTermsRow.holds Try.pinned (OpenSpec.ofChange fnExactEssentialTermsWrong)

/-- 'laws.FnExactIsDual': WHATEVER THE INPUT: true; the input reads as it did. -/
def fnExactIsDualSpec : ChangeSpec := { name := "fnExactIsDual", fn := fun _ => fun
  | [d1, d2, d3] => { results := [.lit (.bool true)], args := [d1, d2, d3] }
  | _ => none }
def fnExactIsDualRow : OpenClaim := { program := "ytdgehhbgjmgjjaa", sum := "bf9a583bbfe78826370975ebe1a15dc97541fcd131b2b10ed446e37e3a149d47", func := "loop.example/g00941/laws.FnExactIsDual", spec := "fnExactIsDual", unfollowed := true, recurses := true, apart := false }
def FnExactIsDualSaid : Prop := fnExactIsDualRow.holds Try.pinned (OpenSpec.ofChange fnExactIsDualSpec)

/-- ITS FALSE NEIGHBOUR: 'it returns false'. Refute it at one input. -/
def fnExactIsDualWrong : ChangeSpec := { name := "fnExactIsDual", fn := fun _ => fun
  | [d1, d2, d3] => { results := [.lit (.bool false)], args := [d1, d2, d3] }
  | _ => none }
def FnExactIsDualWrongFalsely : Prop := fnExactIsDualRow.holds Try.pinned (OpenSpec.ofChange fnExactIsDualWrong)

/-- 'laws.FnExactMultiplyPolynomials': WHATEVER THE INPUT: true; the input reads as it did. -/
def fnExactMultiplyPolynomialsSpec : ChangeSpec := { name := "fnExactMultiplyPolynomials", fn := fun _ => fun
  | [d1, d2] => { results := [.lit (.bool true)], args := [d1, d2] }
  | _ => none }
def fnExactMultiplyPolynomialsRow : OpenClaim := { program := "ytdgehhbgjmgjjaa", sum := "bf9a583bbfe78826370975ebe1a15dc97541fcd131b2b10ed446e37e3a149d47", func := "loop.example/g00941/laws.FnExactMultiplyPolynomials", spec := "fnExactMultiplyPolynomials", unfollowed := true, recurses := true, apart := false }
def FnExactMultiplyPolynomialsSaid : Prop := fnExactMultiplyPolynomialsRow.holds Try.pinned (OpenSpec.ofChange fnExactMultiplyPolynomialsSpec)

/-- ITS FALSE NEIGHBOUR: 'it returns false'. Refute it at one input. -/
def fnExactMultiplyPolynomialsWrong : ChangeSpec := { name := "fnExactMultiplyPolynomials", fn := fun _ => fun
  | [d1, d2] => { results := [.lit (.bool false)], args := [d1, d2] }
  | _ => none }
def FnExactMultiplyPolynomialsWrongFalsely : Prop := fnExactMultiplyPolynomialsRow.holds Try.pinned (OpenSpec.ofChange fnExactMultiplyPolynomialsWrong)

/-- 'laws.FnExactSameFunction': WHATEVER THE INPUT: true; the input reads as it did. -/
def fnExactSameFunctionSpec : ChangeSpec := { name := "fnExactSameFunction", fn := fun _ => fun
  | [d1, d2] => { results := [.lit (.bool true)], args := [d1, d2] }
  | _ => none }
def fnExactSameFunctionRow : OpenClaim := { program := "ytdgehhbgjmgjjaa", sum := "bf9a583bbfe78826370975ebe1a15dc97541fcd131b2b10ed446e37e3a149d47", func := "loop.example/g00941/laws.FnExactSameFunction", spec := "fnExactSameFunction", unfollowed := true, recurses := true, apart := false }
def FnExactSameFunctionSaid : Prop := fnExactSameFunctionRow.holds Try.pinned (OpenSpec.ofChange fnExactSameFunctionSpec)

/-- ITS FALSE NEIGHBOUR: 'it returns false'. Refute it at one input. -/
def fnExactSameFunctionWrong : ChangeSpec := { name := "fnExactSameFunction", fn := fun _ => fun
  | [d1, d2] => { results := [.lit (.bool false)], args := [d1, d2] }
  | _ => none }
def FnExactSameFunctionWrongFalsely : Prop := fnExactSameFunctionRow.holds Try.pinned (OpenSpec.ofChange fnExactSameFunctionWrong)

/-- 'laws.FnExactFullPolynomial': WHATEVER THE INPUT: true; the input reads as it did. -/
def fnExactFullPolynomialSpec : ChangeSpec := { name := "fnExactFullPolynomial", fn := fun _ => fun
  | [d] => { results := [.lit (.bool true)], args := [d] }
  | _ => none }
def fnExactFullPolynomialRow : OpenClaim := { program := "ytdgehhbgjmgjjaa", sum := "bf9a583bbfe78826370975ebe1a15dc97541fcd131b2b10ed446e37e3a149d47", func := "loop.example/g00941/laws.FnExactFullPolynomial", spec := "fnExactFullPolynomial", unfollowed := true, recurses := true, apart := false }
def FnExactFullPolynomialSaid : Prop := fnExactFullPolynomialRow.holds Try.pinned (OpenSpec.ofChange fnExactFullPolynomialSpec)

/-- ITS FALSE NEIGHBOUR: 'it returns false'. Refute it at one input. -/
def fnExactFullPolynomialWrong : ChangeSpec := { name := "fnExactFullPolynomial", fn := fun _ => fun
  | [d] => { results := [.lit (.bool false)], args := [d] }
  | _ => none }
def FnExactFullPolynomialWrongFalsely : Prop := fnExactFullPolynomialRow.holds Try.pinned (OpenSpec.ofChange fnExactFullPolynomialWrong)

/-- 'laws.FnExactSourcesOf': WHATEVER THE INPUT: true; the input reads as it did. -/
def fnExactSourcesOfSpec : ChangeSpec := { name := "fnExactSourcesOf", fn := fun _ => fun
  | [d] => { results := [.lit (.bool true)], args := [d] }
  | _ => none }
def fnExactSourcesOfRow : OpenClaim := { program := "ytdgehhbgjmgjjaa", sum := "bf9a583bbfe78826370975ebe1a15dc97541fcd131b2b10ed446e37e3a149d47", func := "loop.example/g00941/laws.FnExactSourcesOf", spec := "fnExactSourcesOf", unfollowed := true, recurses := true, apart := false }
def FnExactSourcesOfSaid : Prop := fnExactSourcesOfRow.holds Try.pinned (OpenSpec.ofChange fnExactSourcesOfSpec)

/-- ITS FALSE NEIGHBOUR: 'it returns false'. Refute it at one input. -/
def fnExactSourcesOfWrong : ChangeSpec := { name := "fnExactSourcesOf", fn := fun _ => fun
  | [d] => { results := [.lit (.bool false)], args := [d] }
  | _ => none }
def FnExactSourcesOfWrongFalsely : Prop := fnExactSourcesOfRow.holds Try.pinned (OpenSpec.ofChange fnExactSourcesOfWrong)

/- THE SECOND FORM. 'bulk': how many values and letters a reading holds, each counted each time it is reached (what is shared counts as often as it is met; a slice's spare places count too). A statement '..UptoSaid' is the law's where the arguments, and the package variables that the reading takes, are together of bulk at most 1048576: NARROWER than '..Said'. Prove '..Said' where nothing that the law and all that it calls make is longer than what came in: it says more and counts as full. Else prove '..UptoSaid'. A law counts once. -/
mutual
def uptoBulk {H : Type} : DataW H → Nat
  | .lit (.string bytes) => bytes.length + 1
  | .lit _ => 1
  | .nil => 1
  | .ptr d => uptoBulk d + 1
  | .slice elems spare => uptoBulkAll elems + uptoBulkAll spare + 1
  | .agg parts => uptoBulkAll parts + 1
  | .iface _ d => uptoBulk d + 1
  | .map entries => uptoBulkEntries entries + 1
  | .held _ => 1
def uptoBulkAll {H : Type} : List (DataW H) → Nat
  | [] => 0
  | d :: r => uptoBulk d + uptoBulkAll r
def uptoBulkEntries {H : Type} : List (Lit × DataW H) → Nat
  | [] => 0
  | x :: r => uptoBulkEntry x + uptoBulkEntries r
def uptoBulkEntry {H : Type} : Lit × DataW H → Nat
  | (.string bytes, d) => bytes.length + uptoBulk d + 1
  | (_, d) => uptoBulk d + 1
 end
def uptoSmall : (H : Type) → List (DataW H) → Bool := fun _ ds => decide (uptoBulkAll ds ≤ 1048576)
def OpenSpec.upto (s : _root_.Go.ChangeSpec) : _root_.Go.OpenSpec := { _root_.Go.OpenSpec.ofChange s with cond := some uptoSmall }

/-- 'laws.FnExactIsPolynomial', WHERE WHAT IT READS IS OF BULK AT MOST 1048576: true; the input reads as it did. -/
def fnExactIsPolynomialUptoRow : OpenClaim := { program := "ytdgehhbgjmgjjaa", sum := "bf9a583bbfe78826370975ebe1a15dc97541fcd131b2b10ed446e37e3a149d47", func := "loop.example/g00941/laws.FnExactIsPolynomial", spec := "fnExactIsPolynomial", unfollowed := true, recurses := true, apart := false, narrowed := true }
def FnExactIsPolynomialUptoSaid : Prop := fnExactIsPolynomialUptoRow.holds Try.pinned (OpenSpec.upto fnExactIsPolynomialSpec)

/-- 'laws.FnExactIsEventGraph', WHERE WHAT IT READS IS OF BULK AT MOST 1048576: true; the input reads as it did. -/
def fnExactIsEventGraphUptoRow : OpenClaim := { program := "ytdgehhbgjmgjjaa", sum := "bf9a583bbfe78826370975ebe1a15dc97541fcd131b2b10ed446e37e3a149d47", func := "loop.example/g00941/laws.FnExactIsEventGraph", spec := "fnExactIsEventGraph", unfollowed := true, recurses := true, apart := false, narrowed := true }
def FnExactIsEventGraphUptoSaid : Prop := fnExactIsEventGraphUptoRow.holds Try.pinned (OpenSpec.upto fnExactIsEventGraphSpec)

/-- 'laws.FnExactAddPolynomials', WHERE WHAT IT READS IS OF BULK AT MOST 1048576: true; the input reads as it did. -/
def fnExactAddPolynomialsUptoRow : OpenClaim := { program := "ytdgehhbgjmgjjaa", sum := "bf9a583bbfe78826370975ebe1a15dc97541fcd131b2b10ed446e37e3a149d47", func := "loop.example/g00941/laws.FnExactAddPolynomials", spec := "fnExactAddPolynomials", unfollowed := true, recurses := true, apart := false, narrowed := true }
def FnExactAddPolynomialsUptoSaid : Prop := fnExactAddPolynomialsUptoRow.holds Try.pinned (OpenSpec.upto fnExactAddPolynomialsSpec)

/-- 'laws.FnExactShiftVector', WHERE WHAT IT READS IS OF BULK AT MOST 1048576: true; the input reads as it did. -/
def fnExactShiftVectorUptoRow : OpenClaim := { program := "ytdgehhbgjmgjjaa", sum := "bf9a583bbfe78826370975ebe1a15dc97541fcd131b2b10ed446e37e3a149d47", func := "loop.example/g00941/laws.FnExactShiftVector", spec := "fnExactShiftVector", unfollowed := true, recurses := true, apart := false, narrowed := true }
def FnExactShiftVectorUptoSaid : Prop := fnExactShiftVectorUptoRow.holds Try.pinned (OpenSpec.upto fnExactShiftVectorSpec)

/-- 'laws.FnExactEvaluatePolynomial', WHERE WHAT IT READS IS OF BULK AT MOST 1048576: true; the input reads as it did. -/
def fnExactEvaluatePolynomialUptoRow : OpenClaim := { program := "ytdgehhbgjmgjjaa", sum := "bf9a583bbfe78826370975ebe1a15dc97541fcd131b2b10ed446e37e3a149d47", func := "loop.example/g00941/laws.FnExactEvaluatePolynomial", spec := "fnExactEvaluatePolynomial", unfollowed := true, recurses := true, apart := false, narrowed := true }
def FnExactEvaluatePolynomialUptoSaid : Prop := fnExactEvaluatePolynomialUptoRow.holds Try.pinned (OpenSpec.upto fnExactEvaluatePolynomialSpec)

/-- 'laws.FnExactEssentialTerms', WHERE WHAT IT READS IS OF BULK AT MOST 1048576: true; the input reads as it did. -/
def fnExactEssentialTermsUptoRow : OpenClaim := { program := "ytdgehhbgjmgjjaa", sum := "bf9a583bbfe78826370975ebe1a15dc97541fcd131b2b10ed446e37e3a149d47", func := "loop.example/g00941/laws.FnExactEssentialTerms", spec := "fnExactEssentialTerms", unfollowed := true, recurses := true, apart := false, narrowed := true }
def FnExactEssentialTermsUptoSaid : Prop := fnExactEssentialTermsUptoRow.holds Try.pinned (OpenSpec.upto fnExactEssentialTermsSpec)

/-- 'laws.FnExactIsDual', WHERE WHAT IT READS IS OF BULK AT MOST 1048576: true; the input reads as it did. -/
def fnExactIsDualUptoRow : OpenClaim := { program := "ytdgehhbgjmgjjaa", sum := "bf9a583bbfe78826370975ebe1a15dc97541fcd131b2b10ed446e37e3a149d47", func := "loop.example/g00941/laws.FnExactIsDual", spec := "fnExactIsDual", unfollowed := true, recurses := true, apart := false, narrowed := true }
def FnExactIsDualUptoSaid : Prop := fnExactIsDualUptoRow.holds Try.pinned (OpenSpec.upto fnExactIsDualSpec)

/-- 'laws.FnExactMultiplyPolynomials', WHERE WHAT IT READS IS OF BULK AT MOST 1048576: true; the input reads as it did. -/
def fnExactMultiplyPolynomialsUptoRow : OpenClaim := { program := "ytdgehhbgjmgjjaa", sum := "bf9a583bbfe78826370975ebe1a15dc97541fcd131b2b10ed446e37e3a149d47", func := "loop.example/g00941/laws.FnExactMultiplyPolynomials", spec := "fnExactMultiplyPolynomials", unfollowed := true, recurses := true, apart := false, narrowed := true }
def FnExactMultiplyPolynomialsUptoSaid : Prop := fnExactMultiplyPolynomialsUptoRow.holds Try.pinned (OpenSpec.upto fnExactMultiplyPolynomialsSpec)

/-- 'laws.FnExactSameFunction', WHERE WHAT IT READS IS OF BULK AT MOST 1048576: true; the input reads as it did. -/
def fnExactSameFunctionUptoRow : OpenClaim := { program := "ytdgehhbgjmgjjaa", sum := "bf9a583bbfe78826370975ebe1a15dc97541fcd131b2b10ed446e37e3a149d47", func := "loop.example/g00941/laws.FnExactSameFunction", spec := "fnExactSameFunction", unfollowed := true, recurses := true, apart := false, narrowed := true }
def FnExactSameFunctionUptoSaid : Prop := fnExactSameFunctionUptoRow.holds Try.pinned (OpenSpec.upto fnExactSameFunctionSpec)

/-- 'laws.FnExactFullPolynomial', WHERE WHAT IT READS IS OF BULK AT MOST 1048576: true; the input reads as it did. -/
def fnExactFullPolynomialUptoRow : OpenClaim := { program := "ytdgehhbgjmgjjaa", sum := "bf9a583bbfe78826370975ebe1a15dc97541fcd131b2b10ed446e37e3a149d47", func := "loop.example/g00941/laws.FnExactFullPolynomial", spec := "fnExactFullPolynomial", unfollowed := true, recurses := true, apart := false, narrowed := true }
def FnExactFullPolynomialUptoSaid : Prop := fnExactFullPolynomialUptoRow.holds Try.pinned (OpenSpec.upto fnExactFullPolynomialSpec)

/-- 'laws.FnExactSourcesOf', WHERE WHAT IT READS IS OF BULK AT MOST 1048576: true; the input reads as it did. -/
def fnExactSourcesOfUptoRow : OpenClaim := { program := "ytdgehhbgjmgjjaa", sum := "bf9a583bbfe78826370975ebe1a15dc97541fcd131b2b10ed446e37e3a149d47", func := "loop.example/g00941/laws.FnExactSourcesOf", spec := "fnExactSourcesOf", unfollowed := true, recurses := true, apart := false, narrowed := true }
def FnExactSourcesOfUptoSaid : Prop := fnExactSourcesOfUptoRow.holds Try.pinned (OpenSpec.upto fnExactSourcesOfSpec)

end Rows
end Go.Proofs.Ytdgehhbgjmgjjaa
