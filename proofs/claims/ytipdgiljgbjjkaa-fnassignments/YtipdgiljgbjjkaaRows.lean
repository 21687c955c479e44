/-
  No cell of these rows narrows 'for every input' (looked for: loops, veiled, ifaces, maps, wideKeys, modest, calm, conditions, laid).
  DERIVED. THE GIVEN ROWS OF THIS SEAT. 8 by the template 'for every input the law returns true; each argument reads behind the call as it read before'; 0 by the template 'total and deterministic' (their statements: YtipdgiljgbjjkaaTotals.lean).
  GIVEN WITH THE SEED: the statements are not yours to turn. If you find one false, say at which input.
  Laid BY PROGRAM, IN A SANDBOX (cutbox-rows.mjs): the forced cells as the released guide's own fill.sh prints them over the translation 18a93cfcaf40fbc9… (all of the seat's roots in one cut). By AI agents, Wed Nov 11 2026. No macro, syntax, notation, axiom, sorry.
-/
import Derived.Test.YtipdgiljgbjjkaaChecked
import GoSem.Claim
import GoSem.ClaimJoined
import GoSem.ClaimMapViews
import Derived.JoinedTies
import Derived.KernelRfl
namespace Go.Proofs.Ytipdgiljgbjjkaa
/- THE CELL 'sum', in the pinned program and in every row, IS THE sha256 OF THE DUMP (.gsa) THAT YtipdgiljgbjjkaaProg.lean LOADS. Nothing in Lean hashes anything: it is a label: what it is worth is what the hold of that sum in a sandbox is worth. -/
noncomputable def Try.pinned : Pinned := { name := "ytipdgiljgbjjkaa", sum := "18a93cfcaf40fbc94e1b46340f11d1bca24f0e0998cf0d69811f4fa7565996d8", checked := Try.checked }
namespace Rows
def none {H : Type} : Left H := { results := [], args := [] }

/-- 'laws.FnExactIsStrong': WHATEVER THE INPUT: true; the input reads as it did. -/
def fnExactIsStrongSpec : ChangeSpec := { name := "fnExactIsStrong", fn := fun _ => fun
  | [d] => { results := [.lit (.bool true)], args := [d] }
  | _ => none }
def fnExactIsStrongRow : OpenClaim := { program := "ytipdgiljgbjjkaa", sum := "18a93cfcaf40fbc94e1b46340f11d1bca24f0e0998cf0d69811f4fa7565996d8", func := "loop.example/g00941/laws.FnExactIsStrong", spec := "fnExactIsStrong", unfollowed := true, recurses := true, apart := false }
def FnExactIsStrongSaid : Prop := fnExactIsStrongRow.holds Try.pinned (OpenSpec.ofChange fnExactIsStrongSpec)

/-- ITS FALSE NEIGHBOUR: 'it returns false'. Refute it at one input. -/
def fnExactIsStrongWrong : ChangeSpec := { name := "fnExactIsStrong", fn := fun _ => fun
  | [d] => { results := [.lit (.bool false)], args := [d] }
  | _ => none }
def FnExactIsStrongWrongFalsely : Prop := fnExactIsStrongRow.holds Try.pinned (OpenSpec.ofChange fnExactIsStrongWrong)

/-- 'laws.FnExactTokenDistance': WHATEVER THE INPUT: true; the input reads as it did. -/
def fnExactTokenDistanceSpec : ChangeSpec := { name := "fnExactTokenDistance", fn := fun _ => fun
  | [d1, d2, d3] => { results := [.lit (.bool true)], args := [d1, d2, d3] }
  | _ => none }
def fnExactTokenDistanceRow : OpenClaim := { program := "ytipdgiljgbjjkaa", sum := "18a93cfcaf40fbc94e1b46340f11d1bca24f0e0998cf0d69811f4fa7565996d8", func := "loop.example/g00941/laws.FnExactTokenDistance", spec := "fnExactTokenDistance", unfollowed := true, recurses := true, apart := false }
def FnExactTokenDistanceSaid : Prop := fnExactTokenDistanceRow.holds Try.pinned (OpenSpec.ofChange fnExactTokenDistanceSpec)

/-- ITS FALSE NEIGHBOUR: 'it returns false'. Refute it at one input. -/
def fnExactTokenDistanceWrong : ChangeSpec := { name := "fnExactTokenDistance", fn := fun _ => fun
  | [d1, d2, d3] => { results := [.lit (.bool false)], args := [d1, d2, d3] }
  | _ => none }
def FnExactTokenDistanceWrongFalsely : Prop := fnExactTokenDistanceRow.holds Try.pinned (OpenSpec.ofChange fnExactTokenDistanceWrong)

/-- 'laws.FnExactDualOf': WHATEVER THE INPUT: true; the input reads as it did. -/
def fnExactDualOfSpec : ChangeSpec := { name := "fnExactDualOf", fn := fun _ => fun
  | [d] => { results := [.lit (.bool true)], args := [d] }
  | _ => none }
def fnExactDualOfRow : OpenClaim := { program := "ytipdgiljgbjjkaa", sum := "18a93cfcaf40fbc94e1b46340f11d1bca24f0e0998cf0d69811f4fa7565996d8", func := "loop.example/g00941/laws.FnExactDualOf", spec := "fnExactDualOf", unfollowed := true, recurses := true, apart := false }
def FnExactDualOfSaid : Prop := fnExactDualOfRow.holds Try.pinned (OpenSpec.ofChange fnExactDualOfSpec)

/-- ITS FALSE NEIGHBOUR: 'it returns false'. Refute it at one input. -/
def fnExactDualOfWrong : ChangeSpec := { name := "fnExactDualOf", fn := fun _ => fun
  | [d] => { results := [.lit (.bool false)], args := [d] }
  | _ => none }
def FnExactDualOfWrongFalsely : Prop := fnExactDualOfRow.holds Try.pinned (OpenSpec.ofChange fnExactDualOfWrong)

/-- 'laws.FnPlaces': WHATEVER THE INPUT: true; the input reads as it did. -/
def fnPlacesSpec : ChangeSpec := { name := "fnPlaces", fn := fun _ => fun
  | [d] => { results := [.lit (.bool true)], args := [d] }
  | _ => none }
def fnPlacesRow : OpenClaim := { program := "ytipdgiljgbjjkaa", sum := "18a93cfcaf40fbc94e1b46340f11d1bca24f0e0998cf0d69811f4fa7565996d8", func := "loop.example/g00941/laws.FnPlaces", spec := "fnPlaces", unfollowed := true, recurses := true, apart := false }
def FnPlacesSaid : Prop := fnPlacesRow.holds Try.pinned (OpenSpec.ofChange fnPlacesSpec)

/-- ITS FALSE NEIGHBOUR: 'it returns false'. Refute it at one input. -/
def fnPlacesWrong : ChangeSpec := { name := "fnPlaces", fn := fun _ => fun
  | [d] => { results := [.lit (.bool false)], args := [d] }
  | _ => none }
def FnPlacesWrongFalsely : Prop := fnPlacesRow.holds Try.pinned (OpenSpec.ofChange fnPlacesWrong)

/-- 'laws.FnCornersOfProducts': WHATEVER THE INPUT: true; the input reads as it did. -/
def fnCornersOfProductsSpec : ChangeSpec := { name := "fnCornersOfProducts", fn := fun _ => fun
  | [d] => { results := [.lit (.bool true)], args := [d] }
  | _ => none }
def fnCornersOfProductsRow : OpenClaim := { program := "ytipdgiljgbjjkaa", sum := "18a93cfcaf40fbc94e1b46340f11d1bca24f0e0998cf0d69811f4fa7565996d8", func := "loop.example/g00941/laws.FnCornersOfProducts", spec := "fnCornersOfProducts", unfollowed := true, recurses := true, apart := false }
def FnCornersOfProductsSaid : Prop := fnCornersOfProductsRow.holds Try.pinned (OpenSpec.ofChange fnCornersOfProductsSpec)

/-- ITS FALSE NEIGHBOUR: 'it returns false'. Refute it at one input. -/
def fnCornersOfProductsWrong : ChangeSpec := { name := "fnCornersOfProducts", fn := fun _ => fun
  | [d] => { results := [.lit (.bool false)], args := [d] }
  | _ => none }
def FnCornersOfProductsWrongFalsely : Prop := fnCornersOfProductsRow.holds Try.pinned (OpenSpec.ofChange fnCornersOfProductsWrong)

/-- 'laws.FnDuals': WHATEVER THE INPUT: true; the input reads as it did. -/
def fnDualsSpec : ChangeSpec := { name := "fnDuals", fn := fun _ => fun
  | [d] => { results := [.lit (.bool true)], args := [d] }
  | _ => none }
def fnDualsRow : OpenClaim := { program := "ytipdgiljgbjjkaa", sum := "18a93cfcaf40fbc94e1b46340f11d1bca24f0e0998cf0d69811f4fa7565996d8", func := "loop.example/g00941/laws.FnDuals", spec := "fnDuals", unfollowed := true, recurses := true, apart := false }
def FnDualsSaid : Prop := fnDualsRow.holds Try.pinned (OpenSpec.ofChange fnDualsSpec)

/-- ITS FALSE NEIGHBOUR: 'it returns false'. Refute it at one input. -/
def fnDualsWrong : ChangeSpec := { name := "fnDuals", fn := fun _ => fun
  | [d] => { results := [.lit (.bool false)], args := [d] }
  | _ => none }
def FnDualsWrongFalsely : Prop := fnDualsRow.holds Try.pinned (OpenSpec.ofChange fnDualsWrong)

/-- 'laws.FnAssignments': WHATEVER THE INPUT: true; the input reads as it did. -/
def fnAssignmentsSpec : ChangeSpec := { name := "fnAssignments", fn := fun _ => fun
  | [d] => { results := [.lit (.bool true)], args := [d] }
  | _ => none }
def fnAssignmentsRow : OpenClaim := { program := "ytipdgiljgbjjkaa", sum := "18a93cfcaf40fbc94e1b46340f11d1bca24f0e0998cf0d69811f4fa7565996d8", func := "loop.example/g00941/laws.FnAssignments", spec := "fnAssignments", unfollowed := true, recurses := true, apart := false }
def FnAssignmentsSaid : Prop := fnAssignmentsRow.holds Try.pinned (OpenSpec.ofChange fnAssignmentsSpec)

/-- ITS FALSE NEIGHBOUR: 'it returns false'. Refute it at one input. -/
def fnAssignmentsWrong : ChangeSpec := { name := "fnAssignments", fn := fun _ => fun
  | [d] => { results := [.lit (.bool false)], args := [d] }
  | _ => none }
def FnAssignmentsWrongFalsely : Prop := fnAssignmentsRow.holds Try.pinned (OpenSpec.ofChange fnAssignmentsWrong)

/-- 'laws.FnCharacteristic': WHATEVER THE INPUT: true; the input reads as it did. -/
def fnCharacteristicSpec : ChangeSpec := { name := "fnCharacteristic", fn := fun _ => fun
  | [d] => { results := [.lit (.bool true)], args := [d] }
  | _ => none }
def fnCharacteristicRow : OpenClaim := { program := "ytipdgiljgbjjkaa", sum := "18a93cfcaf40fbc94e1b46340f11d1bca24f0e0998cf0d69811f4fa7565996d8", func := "loop.example/g00941/laws.FnCharacteristic", spec := "fnCharacteristic", unfollowed := true, recurses := true, apart := false }
def FnCharacteristicSaid : Prop := fnCharacteristicRow.holds Try.pinned (OpenSpec.ofChange fnCharacteristicSpec)

/-- ITS FALSE NEIGHBOUR: 'it returns false'. Refute it at one input. -/
def fnCharacteristicWrong : ChangeSpec := { name := "fnCharacteristic", fn := fun _ => fun
  | [d] => { results := [.lit (.bool false)], args := [d] }
  | _ => none }
def FnCharacteristicWrongFalsely : Prop := fnCharacteristicRow.holds Try.pinned (OpenSpec.ofChange fnCharacteristicWrong)

/- THE SECOND FORM. 'bulk': how many values and letters a reading holds, each counted each time it is reached (what is shared counts as often as it is met; a slice's spare places count too). A statement '..UptoSaid' is the law's where the arguments, and the package variables that the reading takes, are together of bulk at most 1048576: NARROWER than '..Said'. Prove '..Said' where nothing that the law and all that it calls make is longer than what came in: it says more and counts as full. Else prove '..UptoSaid'. A law counts once. -/
mutual
def uptoBulk {H : Type} : DataW H → Nat
  | .lit (.string bytes) => bytes.length + 1
  | .lit _ => 1
  | .nil => 1
  | .ptr d => uptoBulk d + 1
  | .slice elems spare => uptoBulkAll elems + uptoBulkAll spare + 1
  | .agg parts => uptoBulkAll parts + 1
  | .iface _ d => uptoBulk d + 1
  | .map entries => uptoBulkEntries entries + 1
  | .held _ => 1
def uptoBulkAll {H : Type} : List (DataW H) → Nat
  | [] => 0
  | d :: r => uptoBulk d + uptoBulkAll r
def uptoBulkEntries {H : Type} : List (Lit × DataW H) → Nat
  | [] => 0
  | x :: r => uptoBulkEntry x + uptoBulkEntries r
def uptoBulkEntry {H : Type} : Lit × DataW H → Nat
  | (.string bytes, d) => bytes.length + uptoBulk d + 1
  | (_, d) => uptoBulk d + 1
 end
def uptoSmall : (H : Type) → List (DataW H) → Bool := fun _ ds => decide (uptoBulkAll ds ≤ 1048576)
def OpenSpec.upto (s : _root_.Go.ChangeSpec) : _root_.Go.OpenSpec := { _root_.Go.OpenSpec.ofChange s with cond := some uptoSmall }

/-- 'laws.FnExactIsStrong', WHERE WHAT IT READS IS OF BULK AT MOST 1048576: true; the input reads as it did. -/
def fnExactIsStrongUptoRow : OpenClaim := { program := "ytipdgiljgbjjkaa", sum := "18a93cfcaf40fbc94e1b46340f11d1bca24f0e0998cf0d69811f4fa7565996d8", func := "loop.example/g00941/laws.FnExactIsStrong", spec := "fnExactIsStrong", unfollowed := true, recurses := true, apart := false, narrowed := true }
def FnExactIsStrongUptoSaid : Prop := fnExactIsStrongUptoRow.holds Try.pinned (OpenSpec.upto fnExactIsStrongSpec)

/-- 'laws.FnExactTokenDistance', WHERE WHAT IT READS IS OF BULK AT MOST 1048576: true; the input reads as it did. -/
def fnExactTokenDistanceUptoRow : OpenClaim := { program := "ytipdgiljgbjjkaa", sum := "18a93cfcaf40fbc94e1b46340f11d1bca24f0e0998cf0d69811f4fa7565996d8", func := "loop.example/g00941/laws.FnExactTokenDistance", spec := "fnExactTokenDistance", unfollowed := true, recurses := true, apart := false, narrowed := true }
def FnExactTokenDistanceUptoSaid : Prop := fnExactTokenDistanceUptoRow.holds Try.pinned (OpenSpec.upto fnExactTokenDistanceSpec)

/-- 'laws.FnExactDualOf', WHERE WHAT IT READS IS OF BULK AT MOST 1048576: true; the input reads as it did. -/
def fnExactDualOfUptoRow : OpenClaim := { program := "ytipdgiljgbjjkaa", sum := "18a93cfcaf40fbc94e1b46340f11d1bca24f0e0998cf0d69811f4fa7565996d8", func := "loop.example/g00941/laws.FnExactDualOf", spec := "fnExactDualOf", unfollowed := true, recurses := true, apart := false, narrowed := true }
def FnExactDualOfUptoSaid : Prop := fnExactDualOfUptoRow.holds Try.pinned (OpenSpec.upto fnExactDualOfSpec)

/-- 'laws.FnPlaces', WHERE WHAT IT READS IS OF BULK AT MOST 1048576: true; the input reads as it did. -/
def fnPlacesUptoRow : OpenClaim := { program := "ytipdgiljgbjjkaa", sum := "18a93cfcaf40fbc94e1b46340f11d1bca24f0e0998cf0d69811f4fa7565996d8", func := "loop.example/g00941/laws.FnPlaces", spec := "fnPlaces", unfollowed := true, recurses := true, apart := false, narrowed := true }
def FnPlacesUptoSaid : Prop := fnPlacesUptoRow.holds Try.pinned (OpenSpec.upto fnPlacesSpec)

/-- 'laws.FnCornersOfProducts', WHERE WHAT IT READS IS OF BULK AT MOST 1048576: true; the input reads as it did. -/
def fnCornersOfProductsUptoRow : OpenClaim := { program := "ytipdgiljgbjjkaa", sum := "18a93cfcaf40fbc94e1b46340f11d1bca24f0e0998cf0d69811f4fa7565996d8", func := "loop.example/g00941/laws.FnCornersOfProducts", spec := "fnCornersOfProducts", unfollowed := true, recurses := true, apart := false, narrowed := true }
def FnCornersOfProductsUptoSaid : Prop := fnCornersOfProductsUptoRow.holds Try.pinned (OpenSpec.upto fnCornersOfProductsSpec)

/-- 'laws.FnDuals', WHERE WHAT IT READS IS OF BULK AT MOST 1048576: true; the input reads as it did. -/
def fnDualsUptoRow : OpenClaim := { program := "ytipdgiljgbjjkaa", sum := "18a93cfcaf40fbc94e1b46340f11d1bca24f0e0998cf0d69811f4fa7565996d8", func := "loop.example/g00941/laws.FnDuals", spec := "fnDuals", unfollowed := true, recurses := true, apart := false, narrowed := true }
def FnDualsUptoSaid : Prop := fnDualsUptoRow.holds Try.pinned (OpenSpec.upto fnDualsSpec)

/-- 'laws.FnAssignments', WHERE WHAT IT READS IS OF BULK AT MOST 1048576: true; the input reads as it did. -/
def fnAssignmentsUptoRow : OpenClaim := { program := "ytipdgiljgbjjkaa", sum := "18a93cfcaf40fbc94e1b46340f11d1bca24f0e0998cf0d69811f4fa7565996d8", func := "loop.example/g00941/laws.FnAssignments", spec := "fnAssignments", unfollowed := true, recurses := true, apart := false, narrowed := true }
def FnAssignmentsUptoSaid : Prop := fnAssignmentsUptoRow.holds Try.pinned (OpenSpec.upto fnAssignmentsSpec)

/-- 'laws.FnCharacteristic', WHERE WHAT IT READS IS OF BULK AT MOST 1048576: true; the input reads as it did. -/
def fnCharacteristicUptoRow : OpenClaim := { program := "ytipdgiljgbjjkaa", sum := "18a93cfcaf40fbc94e1b46340f11d1bca24f0e0998cf0d69811f4fa7565996d8", func := "loop.example/g00941/laws.FnCharacteristic", spec := "fnCharacteristic", unfollowed := true, recurses := true, apart := false, narrowed := true }
def FnCharacteristicUptoSaid : Prop := fnCharacteristicUptoRow.holds Try.pinned (OpenSpec.upto fnCharacteristicSpec)

end Rows
end Go.Proofs.Ytipdgiljgbjjkaa
