/-
  No cell of these rows narrows 'for every input' (looked for: loops, veiled, ifaces, maps, wideKeys, modest, calm, conditions, laid).
  DERIVED. THE GIVEN ROWS OF THIS SEAT. 10 by the template 'for every input the law returns true; each argument reads behind the call as it read before'; 0 by the template 'total and deterministic' (their statements: YtfhndofgglohoaaTotals.lean).
  GIVEN WITH THE SEED: the statements are not yours to turn. If you find one false, say at which input.
  Laid BY PROGRAM, IN A SANDBOX (cutbox-rows.mjs): the forced cells as the released guide's own fill.sh prints them over the translation 402b91af7b0e8e5d… (all of the seat's roots in one cut). By AI agents, Wed Nov 11 2026. No macro, syntax, notation, axiom, sorry.
-/
import Derived.Test.YtfhndofgglohoaaChecked
import GoSem.Claim
import GoSem.ClaimJoined
import GoSem.ClaimMapViews
import Derived.JoinedTies
import Derived.KernelRfl
namespace Go.Proofs.Ytfhndofgglohoaa
/- THE CELL 'sum', in the pinned program and in every row, IS THE sha256 OF THE DUMP (.gsa) THAT YtfhndofgglohoaaProg.lean LOADS. Nothing in Lean hashes anything: it is a label: what it is worth is what the hold of that sum in a sandbox is worth. -/
noncomputable def Try.pinned : Pinned := { name := "ytfhndofgglohoaa", sum := "402b91af7b0e8e5d4f5de1fd821730ec51751f393cc05df78203f011c72b68a3", checked := Try.checked }
namespace Rows
def none {H : Type} : Left H := { results := [], args := [] }

/-- 'laws.FnExactIsSingular': WHATEVER THE INPUT: true; the input reads as it did. -/
def fnExactIsSingularSpec : ChangeSpec := { name := "fnExactIsSingular", fn := fun _ => fun
  | [d] => { results := [.lit (.bool true)], args := [d] }
  | _ => none }
def fnExactIsSingularRow : OpenClaim := { program := "ytfhndofgglohoaa", sum := "402b91af7b0e8e5d4f5de1fd821730ec51751f393cc05df78203f011c72b68a3", func := "loop.example/g00941/laws.FnExactIsSingular", spec := "fnExactIsSingular", unfollowed := true, recurses := true, apart := false }
def FnExactIsSingularSaid : Prop := fnExactIsSingularRow.holds Try.pinned (OpenSpec.ofChange fnExactIsSingularSpec)

/-- ITS FALSE NEIGHBOUR: 'it returns false'. Refute it at one input. -/
def fnExactIsSingularWrong : ChangeSpec := { name := "fnExactIsSingular", fn := fun _ => fun
  | [d] => { results := [.lit (.bool false)], args := [d] }
  | _ => none }
def FnExactIsSingularWrongFalsely : Prop := fnExactIsSingularRow.holds Try.pinned (OpenSpec.ofChange fnExactIsSingularWrong)

/-- 'laws.FnExactPermanentOf': WHATEVER THE INPUT: true; the input reads as it did. -/
def fnExactPermanentOfSpec : ChangeSpec := { name := "fnExactPermanentOf", fn := fun _ => fun
  | [d] => { results := [.lit (.bool true)], args := [d] }
  | _ => none }
def fnExactPermanentOfRow : OpenClaim := { program := "ytfhndofgglohoaa", sum := "402b91af7b0e8e5d4f5de1fd821730ec51751f393cc05df78203f011c72b68a3", func := "loop.example/g00941/laws.FnExactPermanentOf", spec := "fnExactPermanentOf", unfollowed := true, recurses := true, apart := false }
def FnExactPermanentOfSaid : Prop := fnExactPermanentOfRow.holds Try.pinned (OpenSpec.ofChange fnExactPermanentOfSpec)

/-- ITS FALSE NEIGHBOUR: 'it returns false'. Refute it at one input. -/
def fnExactPermanentOfWrong : ChangeSpec := { name := "fnExactPermanentOf", fn := fun _ => fun
  | [d] => { results := [.lit (.bool false)], args := [d] }
  | _ => none }
def FnExactPermanentOfWrongFalsely : Prop := fnExactPermanentOfRow.holds Try.pinned (OpenSpec.ofChange fnExactPermanentOfWrong)

/-- 'laws.FnExactCountAssignments': WHATEVER THE INPUT: true; the input reads as it did. -/
def fnExactCountAssignmentsSpec : ChangeSpec := { name := "fnExactCountAssignments", fn := fun _ => fun
  | [d] => { results := [.lit (.bool true)], args := [d] }
  | _ => none }
def fnExactCountAssignmentsRow : OpenClaim := { program := "ytfhndofgglohoaa", sum := "402b91af7b0e8e5d4f5de1fd821730ec51751f393cc05df78203f011c72b68a3", func := "loop.example/g00941/laws.FnExactCountAssignments", spec := "fnExactCountAssignments", unfollowed := true, recurses := true, apart := false }
def FnExactCountAssignmentsSaid : Prop := fnExactCountAssignmentsRow.holds Try.pinned (OpenSpec.ofChange fnExactCountAssignmentsSpec)

/-- ITS FALSE NEIGHBOUR: 'it returns false'. Refute it at one input. -/
def fnExactCountAssignmentsWrong : ChangeSpec := { name := "fnExactCountAssignments", fn := fun _ => fun
  | [d] => { results := [.lit (.bool false)], args := [d] }
  | _ => none }
def FnExactCountAssignmentsWrongFalsely : Prop := fnExactCountAssignmentsRow.holds Try.pinned (OpenSpec.ofChange fnExactCountAssignmentsWrong)

/-- 'laws.FnExactBestAssignment': WHATEVER THE INPUT: true; the input reads as it did. -/
def fnExactBestAssignmentSpec : ChangeSpec := { name := "fnExactBestAssignment", fn := fun _ => fun
  | [d] => { results := [.lit (.bool true)], args := [d] }
  | _ => none }
def fnExactBestAssignmentRow : OpenClaim := { program := "ytfhndofgglohoaa", sum := "402b91af7b0e8e5d4f5de1fd821730ec51751f393cc05df78203f011c72b68a3", func := "loop.example/g00941/laws.FnExactBestAssignment", spec := "fnExactBestAssignment", unfollowed := true, recurses := true, apart := false }
def FnExactBestAssignmentSaid : Prop := fnExactBestAssignmentRow.holds Try.pinned (OpenSpec.ofChange fnExactBestAssignmentSpec)

/-- ITS FALSE NEIGHBOUR: 'it returns false'. Refute it at one input. -/
def fnExactBestAssignmentWrong : ChangeSpec := { name := "fnExactBestAssignment", fn := fun _ => fun
  | [d] => { results := [.lit (.bool false)], args := [d] }
  | _ => none }
def FnExactBestAssignmentWrongFalsely : Prop := fnExactBestAssignmentRow.holds Try.pinned (OpenSpec.ofChange fnExactBestAssignmentWrong)

/-- 'laws.FnExactPrincipalPermanent': WHATEVER THE INPUT: true; the input reads as it did. -/
def fnExactPrincipalPermanentSpec : ChangeSpec := { name := "fnExactPrincipalPermanent", fn := fun _ => fun
  | [d1, d2] => { results := [.lit (.bool true)], args := [d1, d2] }
  | _ => none }
def fnExactPrincipalPermanentRow : OpenClaim := { program := "ytfhndofgglohoaa", sum := "402b91af7b0e8e5d4f5de1fd821730ec51751f393cc05df78203f011c72b68a3", func := "loop.example/g00941/laws.FnExactPrincipalPermanent", spec := "fnExactPrincipalPermanent", unfollowed := true, recurses := true, apart := false }
def FnExactPrincipalPermanentSaid : Prop := fnExactPrincipalPermanentRow.holds Try.pinned (OpenSpec.ofChange fnExactPrincipalPermanentSpec)

/-- ITS FALSE NEIGHBOUR: 'it returns false'. Refute it at one input. -/
def fnExactPrincipalPermanentWrong : ChangeSpec := { name := "fnExactPrincipalPermanent", fn := fun _ => fun
  | [d1, d2] => { results := [.lit (.bool false)], args := [d1, d2] }
  | _ => none }
def FnExactPrincipalPermanentWrongFalsely : Prop := fnExactPrincipalPermanentRow.holds Try.pinned (OpenSpec.ofChange fnExactPrincipalPermanentWrong)

/-- 'laws.FnExactCharPolynomial': WHATEVER THE INPUT: true; the input reads as it did. -/
def fnExactCharPolynomialSpec : ChangeSpec := { name := "fnExactCharPolynomial", fn := fun _ => fun
  | [d] => { results := [.lit (.bool true)], args := [d] }
  | _ => none }
def fnExactCharPolynomialRow : OpenClaim := { program := "ytfhndofgglohoaa", sum := "402b91af7b0e8e5d4f5de1fd821730ec51751f393cc05df78203f011c72b68a3", func := "loop.example/g00941/laws.FnExactCharPolynomial", spec := "fnExactCharPolynomial", unfollowed := true, recurses := true, apart := false }
def FnExactCharPolynomialSaid : Prop := fnExactCharPolynomialRow.holds Try.pinned (OpenSpec.ofChange fnExactCharPolynomialSpec)

/-- ITS FALSE NEIGHBOUR: 'it returns false'. Refute it at one input. -/
def fnExactCharPolynomialWrong : ChangeSpec := { name := "fnExactCharPolynomial", fn := fun _ => fun
  | [d] => { results := [.lit (.bool false)], args := [d] }
  | _ => none }
def FnExactCharPolynomialWrongFalsely : Prop := fnExactCharPolynomialRow.holds Try.pinned (OpenSpec.ofChange fnExactCharPolynomialWrong)

/-- 'laws.FnExactDualOf': WHATEVER THE INPUT: true; the input reads as it did. -/
def fnExactDualOfSpec : ChangeSpec := { name := "fnExactDualOf", fn := fun _ => fun
  | [d] => { results := [.lit (.bool true)], args := [d] }
  | _ => none }
def fnExactDualOfRow : OpenClaim := { program := "ytfhndofgglohoaa", sum := "402b91af7b0e8e5d4f5de1fd821730ec51751f393cc05df78203f011c72b68a3", func := "loop.example/g00941/laws.FnExactDualOf", spec := "fnExactDualOf", unfollowed := true, recurses := true, apart := false }
def FnExactDualOfSaid : Prop := fnExactDualOfRow.holds Try.pinned (OpenSpec.ofChange fnExactDualOfSpec)

/-- ITS FALSE NEIGHBOUR: 'it returns false'. Refute it at one input. -/
def fnExactDualOfWrong : ChangeSpec := { name := "fnExactDualOf", fn := fun _ => fun
  | [d] => { results := [.lit (.bool false)], args := [d] }
  | _ => none }
def FnExactDualOfWrongFalsely : Prop := fnExactDualOfRow.holds Try.pinned (OpenSpec.ofChange fnExactDualOfWrong)

/-- 'laws.FnAssignments': WHATEVER THE INPUT: true; the input reads as it did. -/
def fnAssignmentsSpec : ChangeSpec := { name := "fnAssignments", fn := fun _ => fun
  | [d] => { results := [.lit (.bool true)], args := [d] }
  | _ => none }
def fnAssignmentsRow : OpenClaim := { program := "ytfhndofgglohoaa", sum := "402b91af7b0e8e5d4f5de1fd821730ec51751f393cc05df78203f011c72b68a3", func := "loop.example/g00941/laws.FnAssignments", spec := "fnAssignments", unfollowed := true, recurses := true, apart := false }
def FnAssignmentsSaid : Prop := fnAssignmentsRow.holds Try.pinned (OpenSpec.ofChange fnAssignmentsSpec)

/-- ITS FALSE NEIGHBOUR: 'it returns false'. Refute it at one input. -/
def fnAssignmentsWrong : ChangeSpec := { name := "fnAssignments", fn := fun _ => fun
  | [d] => { results := [.lit (.bool false)], args := [d] }
  | _ => none }
def FnAssignmentsWrongFalsely : Prop := fnAssignmentsRow.holds Try.pinned (OpenSpec.ofChange fnAssignmentsWrong)

/-- 'laws.FnCharacteristic': WHATEVER THE INPUT: true; the input reads as it did. -/
def fnCharacteristicSpec : ChangeSpec := { name := "fnCharacteristic", fn := fun _ => fun
  | [d] => { results := [.lit (.bool true)], args := [d] }
  | _ => none }
def fnCharacteristicRow : OpenClaim := { program := "ytfhndofgglohoaa", sum := "402b91af7b0e8e5d4f5de1fd821730ec51751f393cc05df78203f011c72b68a3", func := "loop.example/g00941/laws.FnCharacteristic", spec := "fnCharacteristic", unfollowed := true, recurses := true, apart := false }
def FnCharacteristicSaid : Prop := fnCharacteristicRow.holds Try.pinned (OpenSpec.ofChange fnCharacteristicSpec)

/-- ITS FALSE NEIGHBOUR: 'it returns false'. Refute it at one input. -/
def fnCharacteristicWrong : ChangeSpec := { name := "fnCharacteristic", fn := fun _ => fun
  | [d] => { results := [.lit (.bool false)], args := [d] }
  | _ => none }
def FnCharacteristicWrongFalsely : Prop := fnCharacteristicRow.holds Try.pinned (OpenSpec.ofChange fnCharacteristicWrong)

/-- 'laws.FnDuals': WHATEVER THE INPUT: true; the input reads as it did. -/
def fnDualsSpec : ChangeSpec := { name := "fnDuals", fn := fun _ => fun
  | [d] => { results := [.lit (.bool true)], args := [d] }
  | _ => none }
def fnDualsRow : OpenClaim := { program := "ytfhndofgglohoaa", sum := "402b91af7b0e8e5d4f5de1fd821730ec51751f393cc05df78203f011c72b68a3", func := "loop.example/g00941/laws.FnDuals", spec := "fnDuals", unfollowed := true, recurses := true, apart := false }
def FnDualsSaid : Prop := fnDualsRow.holds Try.pinned (OpenSpec.ofChange fnDualsSpec)

/-- ITS FALSE NEIGHBOUR: 'it returns false'. Refute it at one input. -/
def fnDualsWrong : ChangeSpec := { name := "fnDuals", fn := fun _ => fun
  | [d] => { results := [.lit (.bool false)], args := [d] }
  | _ => none }
def FnDualsWrongFalsely : Prop := fnDualsRow.holds Try.pinned (OpenSpec.ofChange fnDualsWrong)

/- THE SECOND FORM. 'bulk': how many values and letters a reading holds, each counted each time it is reached (what is shared counts as often as it is met; a slice's spare places count too). A statement '..UptoSaid' is the law's where the arguments, and the package variables that the reading takes, are together of bulk at most 1048576: NARROWER than '..Said'. Prove '..Said' where nothing that the law and all that it calls make is longer than what came in: it says more and counts as full. Else prove '..UptoSaid'. A law counts once. -/
mutual
def uptoBulk {H : Type} : DataW H → Nat
  | .lit (.string bytes) => bytes.length + 1
  | .lit _ => 1
  | .nil => 1
  | .ptr d => uptoBulk d + 1
  | .slice elems spare => uptoBulkAll elems + uptoBulkAll spare + 1
  | .agg parts => uptoBulkAll parts + 1
  | .iface _ d => uptoBulk d + 1
  | .map entries => uptoBulkEntries entries + 1
  | .held _ => 1
def uptoBulkAll {H : Type} : List (DataW H) → Nat
  | [] => 0
  | d :: r => uptoBulk d + uptoBulkAll r
def uptoBulkEntries {H : Type} : List (Lit × DataW H) → Nat
  | [] => 0
  | x :: r => uptoBulkEntry x + uptoBulkEntries r
def uptoBulkEntry {H : Type} : Lit × DataW H → Nat
  | (.string bytes, d) => bytes.length + uptoBulk d + 1
  | (_, d) => uptoBulk d + 1
 end
def uptoSmall : (H : Type) → List (DataW H) → Bool := fun _ ds => decide (uptoBulkAll ds ≤ 1048576)
def OpenSpec.upto (s : _root_.Go.ChangeSpec) : _root_.Go.OpenSpec := { _root_.Go.OpenSpec.ofChange s with cond := some uptoSmall }

/-- 'laws.FnExactIsSingular', WHERE WHAT IT READS IS OF BULK AT MOST 1048576: true; the input reads as it did. -/
def fnExactIsSingularUptoRow : OpenClaim := { program := "ytfhndofgglohoaa", sum := "402b91af7b0e8e5d4f5de1fd821730ec51751f393cc05df78203f011c72b68a3", func := "loop.example/g00941/laws.FnExactIsSingular", spec := "fnExactIsSingular", unfollowed := true, recurses := true, apart := false, narrowed := true }
def FnExactIsSingularUptoSaid : Prop := fnExactIsSingularUptoRow.holds Try.pinned (OpenSpec.upto fnExactIsSingularSpec)

/-- 'laws.FnExactPermanentOf', WHERE WHAT IT READS IS OF BULK AT MOST 1048576: true; the input reads as it did. -/
def fnExactPermanentOfUptoRow : OpenClaim := { program := "ytfhndofgglohoaa", sum := "402b91af7b0e8e5d4f5de1fd821730ec51751f393cc05df78203f011c72b68a3", func := "loop.example/g00941/laws.FnExactPermanentOf", spec := "fnExactPermanentOf", unfollowed := true, recurses := true, apart := false, narrowed := true }
def FnExactPermanentOfUptoSaid : Prop := fnExactPermanentOfUptoRow.holds Try.pinned (OpenSpec.upto fnExactPermanentOfSpec)

/-- 'laws.FnExactCountAssignments', WHERE WHAT IT READS IS OF BULK AT MOST 1048576: true; the input reads as it did. -/
def fnExactCountAssignmentsUptoRow : OpenClaim := { program := "ytfhndofgglohoaa", sum := "402b91af7b0e8e5d4f5de1fd821730ec51751f393cc05df78203f011c72b68a3", func := "loop.example/g00941/laws.FnExactCountAssignments", spec := "fnExactCountAssignments", unfollowed := true, recurses := true, apart := false, narrowed := true }
def FnExactCountAssignmentsUptoSaid : Prop := fnExactCountAssignmentsUptoRow.holds Try.pinned (OpenSpec.upto fnExactCountAssignmentsSpec)

/-- 'laws.FnExactBestAssignment', WHERE WHAT IT READS IS OF BULK AT MOST 1048576: true; the input reads as it did. -/
def fnExactBestAssignmentUptoRow : OpenClaim := { program := "ytfhndofgglohoaa", sum := "402b91af7b0e8e5d4f5de1fd821730ec51751f393cc05df78203f011c72b68a3", func := "loop.example/g00941/laws.FnExactBestAssignment", spec := "fnExactBestAssignment", unfollowed := true, recurses := true, apart := false, narrowed := true }
def FnExactBestAssignmentUptoSaid : Prop := fnExactBestAssignmentUptoRow.holds Try.pinned (OpenSpec.upto fnExactBestAssignmentSpec)

/-- 'laws.FnExactPrincipalPermanent', WHERE WHAT IT READS IS OF BULK AT MOST 1048576: true; the input reads as it did. -/
def fnExactPrincipalPermanentUptoRow : OpenClaim := { program := "ytfhndofgglohoaa", sum := "402b91af7b0e8e5d4f5de1fd821730ec51751f393cc05df78203f011c72b68a3", func := "loop.example/g00941/laws.FnExactPrincipalPermanent", spec := "fnExactPrincipalPermanent", unfollowed := true, recurses := true, apart := false, narrowed := true }
def FnExactPrincipalPermanentUptoSaid : Prop := fnExactPrincipalPermanentUptoRow.holds Try.pinned (OpenSpec.upto fnExactPrincipalPermanentSpec)

/-- 'laws.FnExactCharPolynomial', WHERE WHAT IT READS IS OF BULK AT MOST 1048576: true; the input reads as it did. -/
def fnExactCharPolynomialUptoRow : OpenClaim := { program := "ytfhndofgglohoaa", sum := "402b91af7b0e8e5d4f5de1fd821730ec51751f393cc05df78203f011c72b68a3", func := "loop.example/g00941/laws.FnExactCharPolynomial", spec := "fnExactCharPolynomial", unfollowed := true, recurses := true, apart := false, narrowed := true }
def FnExactCharPolynomialUptoSaid : Prop := fnExactCharPolynomialUptoRow.holds Try.pinned (OpenSpec.upto fnExactCharPolynomialSpec)

/-- 'laws.FnExactDualOf', WHERE WHAT IT READS IS OF BULK AT MOST 1048576: true; the input reads as it did. -/
def fnExactDualOfUptoRow : OpenClaim := { program := "ytfhndofgglohoaa", sum := "402b91af7b0e8e5d4f5de1fd821730ec51751f393cc05df78203f011c72b68a3", func := "loop.example/g00941/laws.FnExactDualOf", spec := "fnExactDualOf", unfollowed := true, recurses := true, apart := false, narrowed := true }
def FnExactDualOfUptoSaid : Prop := fnExactDualOfUptoRow.holds Try.pinned (OpenSpec.upto fnExactDualOfSpec)

/-- 'laws.FnAssignments', WHERE WHAT IT READS IS OF BULK AT MOST 1048576: true; the input reads as it did. -/
def fnAssignmentsUptoRow : OpenClaim := { program := "ytfhndofgglohoaa", sum := "402b91af7b0e8e5d4f5de1fd821730ec51751f393cc05df78203f011c72b68a3", func := "loop.example/g00941/laws.FnAssignments", spec := "fnAssignments", unfollowed := true, recurses := true, apart := false, narrowed := true }
def FnAssignmentsUptoSaid : Prop := fnAssignmentsUptoRow.holds Try.pinned (OpenSpec.upto fnAssignmentsSpec)

/-- 'laws.FnCharacteristic', WHERE WHAT IT READS IS OF BULK AT MOST 1048576: true; the input reads as it did. -/
def fnCharacteristicUptoRow : OpenClaim := { program := "ytfhndofgglohoaa", sum := "402b91af7b0e8e5d4f5de1fd821730ec51751f393cc05df78203f011c72b68a3", func := "loop.example/g00941/laws.FnCharacteristic", spec := "fnCharacteristic", unfollowed := true, recurses := true, apart := false, narrowed := true }
def FnCharacteristicUptoSaid : Prop := fnCharacteristicUptoRow.holds Try.pinned (OpenSpec.upto fnCharacteristicSpec)

/-- 'laws.FnDuals', WHERE WHAT IT READS IS OF BULK AT MOST 1048576: true; the input reads as it did. -/
def fnDualsUptoRow : OpenClaim := { program := "ytfhndofgglohoaa", sum := "402b91af7b0e8e5d4f5de1fd821730ec51751f393cc05df78203f011c72b68a3", func := "loop.example/g00941/laws.FnDuals", spec := "fnDuals", unfollowed := true, recurses := true, apart := false, narrowed := true }
def FnDualsUptoSaid : Prop := fnDualsUptoRow.holds Try.pinned (OpenSpec.upto fnDualsSpec)

end Rows
end Go.Proofs.Ytfhndofgglohoaa
