/-
  No cell of these rows narrows 'for every input' (looked for: loops, veiled, ifaces, maps, wideKeys, modest, calm, conditions, laid).
  DERIVED. THE GIVEN ROWS OF THIS SEAT. 12 by the template 'for every input the law returns true; each argument reads behind the call as it read before'; 0 by the template 'total and deterministic' (their statements: YtniaobcahkjfjaaTotals.lean).
  GIVEN WITH THE SEED: the statements are not yours to turn. If you find one false, say at which input.
  Laid BY PROGRAM, IN A SANDBOX (cutbox-rows.mjs): the forced cells as the released guide's own fill.sh prints them over the translation b5e66b55e8ed93b5… (all of the seat's roots in one cut). By AI agents, Wed Nov 11 2026. No macro, syntax, notation, axiom, sorry.
-/
import Derived.Test.YtniaobcahkjfjaaChecked
import GoSem.Claim
import GoSem.ClaimJoined
import GoSem.ClaimMapViews
import Derived.JoinedTies
import Derived.KernelRfl
namespace Go.Proofs.Ytniaobcahkjfjaa
/- THE CELL 'sum', in the pinned program and in every row, IS THE sha256 OF THE DUMP (.gsa) THAT YtniaobcahkjfjaaProg.lean LOADS. Nothing in Lean hashes anything: it is a label: what it is worth is what the hold of that sum in a sandbox is worth. -/
noncomputable def Try.pinned : Pinned := { name := "ytniaobcahkjfjaa", sum := "b5e66b55e8ed93b51ce79adc1f1047fe1430dfdd5f25ff66cea65341f5941137", checked := Try.checked }
namespace Rows
def none {H : Type} : Left H := { results := [], args := [] }

/-- 'laws.FnExactAddPlace': WHATEVER THE INPUT: true; the input reads as it did. -/
def fnExactAddPlaceSpec : ChangeSpec := { name := "fnExactAddPlace", fn := fun _ => fun
  | [d1, d2] => { results := [.lit (.bool true)], args := [d1, d2] }
  | _ => none }
def fnExactAddPlaceRow : OpenClaim := { program := "ytniaobcahkjfjaa", sum := "b5e66b55e8ed93b51ce79adc1f1047fe1430dfdd5f25ff66cea65341f5941137", func := "loop.example/g00941/laws.FnExactAddPlace", spec := "fnExactAddPlace", unfollowed := true, recurses := true, apart := false }
def FnExactAddPlaceSaid : Prop := fnExactAddPlaceRow.holds Try.pinned (OpenSpec.ofChange fnExactAddPlaceSpec)

/-- ITS FALSE NEIGHBOUR: 'it returns false'. Refute it at one input. -/
def fnExactAddPlaceWrong : ChangeSpec := { name := "fnExactAddPlace", fn := fun _ => fun
  | [d1, d2] => { results := [.lit (.bool false)], args := [d1, d2] }
  | _ => none }
def FnExactAddPlaceWrongFalsely : Prop := fnExactAddPlaceRow.holds Try.pinned (OpenSpec.ofChange fnExactAddPlaceWrong)

/-- 'laws.FnExactChangePlace': WHATEVER THE INPUT: true; the input reads as it did. -/
def fnExactChangePlaceSpec : ChangeSpec := { name := "fnExactChangePlace", fn := fun _ => fun
  | [d1, d2, d3, d4] => { results := [.lit (.bool true)], args := [d1, d2, d3, d4] }
  | _ => none }
def fnExactChangePlaceRow : OpenClaim := { program := "ytniaobcahkjfjaa", sum := "b5e66b55e8ed93b51ce79adc1f1047fe1430dfdd5f25ff66cea65341f5941137", func := "loop.example/g00941/laws.FnExactChangePlace", spec := "fnExactChangePlace", unfollowed := true, recurses := true, apart := false }
def FnExactChangePlaceSaid : Prop := fnExactChangePlaceRow.holds Try.pinned (OpenSpec.ofChange fnExactChangePlaceSpec)

/-- ITS FALSE NEIGHBOUR: 'it returns false'. Refute it at one input. -/
def fnExactChangePlaceWrong : ChangeSpec := { name := "fnExactChangePlace", fn := fun _ => fun
  | [d1, d2, d3, d4] => { results := [.lit (.bool false)], args := [d1, d2, d3, d4] }
  | _ => none }
def FnExactChangePlaceWrongFalsely : Prop := fnExactChangePlaceRow.holds Try.pinned (OpenSpec.ofChange fnExactChangePlaceWrong)

/-- 'laws.FnExactPlacesFrom': WHATEVER THE INPUT: true; the input reads as it did. -/
def fnExactPlacesFromSpec : ChangeSpec := { name := "fnExactPlacesFrom", fn := fun _ => fun
  | [d1, d2] => { results := [.lit (.bool true)], args := [d1, d2] }
  | _ => none }
def fnExactPlacesFromRow : OpenClaim := { program := "ytniaobcahkjfjaa", sum := "b5e66b55e8ed93b51ce79adc1f1047fe1430dfdd5f25ff66cea65341f5941137", func := "loop.example/g00941/laws.FnExactPlacesFrom", spec := "fnExactPlacesFrom", unfollowed := true, recurses := true, apart := false }
def FnExactPlacesFromSaid : Prop := fnExactPlacesFromRow.holds Try.pinned (OpenSpec.ofChange fnExactPlacesFromSpec)

/-- ITS FALSE NEIGHBOUR: 'it returns false'. Refute it at one input. -/
def fnExactPlacesFromWrong : ChangeSpec := { name := "fnExactPlacesFrom", fn := fun _ => fun
  | [d1, d2] => { results := [.lit (.bool false)], args := [d1, d2] }
  | _ => none }
def FnExactPlacesFromWrongFalsely : Prop := fnExactPlacesFromRow.holds Try.pinned (OpenSpec.ofChange fnExactPlacesFromWrong)

/-- 'laws.FnExactPlacesInto': WHATEVER THE INPUT: true; the input reads as it did. -/
def fnExactPlacesIntoSpec : ChangeSpec := { name := "fnExactPlacesInto", fn := fun _ => fun
  | [d1, d2] => { results := [.lit (.bool true)], args := [d1, d2] }
  | _ => none }
def fnExactPlacesIntoRow : OpenClaim := { program := "ytniaobcahkjfjaa", sum := "b5e66b55e8ed93b51ce79adc1f1047fe1430dfdd5f25ff66cea65341f5941137", func := "loop.example/g00941/laws.FnExactPlacesInto", spec := "fnExactPlacesInto", unfollowed := true, recurses := true, apart := false }
def FnExactPlacesIntoSaid : Prop := fnExactPlacesIntoRow.holds Try.pinned (OpenSpec.ofChange fnExactPlacesIntoSpec)

/-- ITS FALSE NEIGHBOUR: 'it returns false'. Refute it at one input. -/
def fnExactPlacesIntoWrong : ChangeSpec := { name := "fnExactPlacesInto", fn := fun _ => fun
  | [d1, d2] => { results := [.lit (.bool false)], args := [d1, d2] }
  | _ => none }
def FnExactPlacesIntoWrongFalsely : Prop := fnExactPlacesIntoRow.holds Try.pinned (OpenSpec.ofChange fnExactPlacesIntoWrong)

/-- 'laws.FnExactDropPlace': WHATEVER THE INPUT: true; the input reads as it did. -/
def fnExactDropPlaceSpec : ChangeSpec := { name := "fnExactDropPlace", fn := fun _ => fun
  | [d1, d2] => { results := [.lit (.bool true)], args := [d1, d2] }
  | _ => none }
def fnExactDropPlaceRow : OpenClaim := { program := "ytniaobcahkjfjaa", sum := "b5e66b55e8ed93b51ce79adc1f1047fe1430dfdd5f25ff66cea65341f5941137", func := "loop.example/g00941/laws.FnExactDropPlace", spec := "fnExactDropPlace", unfollowed := true, recurses := true, apart := false }
def FnExactDropPlaceSaid : Prop := fnExactDropPlaceRow.holds Try.pinned (OpenSpec.ofChange fnExactDropPlaceSpec)

/-- ITS FALSE NEIGHBOUR: 'it returns false'. Refute it at one input. -/
def fnExactDropPlaceWrong : ChangeSpec := { name := "fnExactDropPlace", fn := fun _ => fun
  | [d1, d2] => { results := [.lit (.bool false)], args := [d1, d2] }
  | _ => none }
def FnExactDropPlaceWrongFalsely : Prop := fnExactDropPlaceRow.holds Try.pinned (OpenSpec.ofChange fnExactDropPlaceWrong)

/-- 'laws.FnExactIsStrong': WHATEVER THE INPUT: true; the input reads as it did. -/
def fnExactIsStrongSpec : ChangeSpec := { name := "fnExactIsStrong", fn := fun _ => fun
  | [d] => { results := [.lit (.bool true)], args := [d] }
  | _ => none }
def fnExactIsStrongRow : OpenClaim := { program := "ytniaobcahkjfjaa", sum := "b5e66b55e8ed93b51ce79adc1f1047fe1430dfdd5f25ff66cea65341f5941137", func := "loop.example/g00941/laws.FnExactIsStrong", spec := "fnExactIsStrong", unfollowed := true, recurses := true, apart := false }
def FnExactIsStrongSaid : Prop := fnExactIsStrongRow.holds Try.pinned (OpenSpec.ofChange fnExactIsStrongSpec)

/-- ITS FALSE NEIGHBOUR: 'it returns false'. Refute it at one input. -/
def fnExactIsStrongWrong : ChangeSpec := { name := "fnExactIsStrong", fn := fun _ => fun
  | [d] => { results := [.lit (.bool false)], args := [d] }
  | _ => none }
def FnExactIsStrongWrongFalsely : Prop := fnExactIsStrongRow.holds Try.pinned (OpenSpec.ofChange fnExactIsStrongWrong)

/-- 'laws.FnExactIsLive': WHATEVER THE INPUT: true; the input reads as it did. -/
def fnExactIsLiveSpec : ChangeSpec := { name := "fnExactIsLive", fn := fun _ => fun
  | [d] => { results := [.lit (.bool true)], args := [d] }
  | _ => none }
def fnExactIsLiveRow : OpenClaim := { program := "ytniaobcahkjfjaa", sum := "b5e66b55e8ed93b51ce79adc1f1047fe1430dfdd5f25ff66cea65341f5941137", func := "loop.example/g00941/laws.FnExactIsLive", spec := "fnExactIsLive", unfollowed := true, recurses := true, apart := false }
def FnExactIsLiveSaid : Prop := fnExactIsLiveRow.holds Try.pinned (OpenSpec.ofChange fnExactIsLiveSpec)

/-- ITS FALSE NEIGHBOUR: 'it returns false'. Refute it at one input. -/
def fnExactIsLiveWrong : ChangeSpec := { name := "fnExactIsLive", fn := fun _ => fun
  | [d] => { results := [.lit (.bool false)], args := [d] }
  | _ => none }
def FnExactIsLiveWrongFalsely : Prop := fnExactIsLiveRow.holds Try.pinned (OpenSpec.ofChange fnExactIsLiveWrong)

/-- 'laws.FnExactTokenDistance': WHATEVER THE INPUT: true; the input reads as it did. -/
def fnExactTokenDistanceSpec : ChangeSpec := { name := "fnExactTokenDistance", fn := fun _ => fun
  | [d1, d2, d3] => { results := [.lit (.bool true)], args := [d1, d2, d3] }
  | _ => none }
def fnExactTokenDistanceRow : OpenClaim := { program := "ytniaobcahkjfjaa", sum := "b5e66b55e8ed93b51ce79adc1f1047fe1430dfdd5f25ff66cea65341f5941137", func := "loop.example/g00941/laws.FnExactTokenDistance", spec := "fnExactTokenDistance", unfollowed := true, recurses := true, apart := false }
def FnExactTokenDistanceSaid : Prop := fnExactTokenDistanceRow.holds Try.pinned (OpenSpec.ofChange fnExactTokenDistanceSpec)

/-- ITS FALSE NEIGHBOUR: 'it returns false'. Refute it at one input. -/
def fnExactTokenDistanceWrong : ChangeSpec := { name := "fnExactTokenDistance", fn := fun _ => fun
  | [d1, d2, d3] => { results := [.lit (.bool false)], args := [d1, d2, d3] }
  | _ => none }
def FnExactTokenDistanceWrongFalsely : Prop := fnExactTokenDistanceRow.holds Try.pinned (OpenSpec.ofChange fnExactTokenDistanceWrong)

/-- 'laws.FnExactSimplifyGraph': WHATEVER THE INPUT: true; the input reads as it did. -/
def fnExactSimplifyGraphSpec : ChangeSpec := { name := "fnExactSimplifyGraph", fn := fun _ => fun
  | [d] => { results := [.lit (.bool true)], args := [d] }
  | _ => none }
def fnExactSimplifyGraphRow : OpenClaim := { program := "ytniaobcahkjfjaa", sum := "b5e66b55e8ed93b51ce79adc1f1047fe1430dfdd5f25ff66cea65341f5941137", func := "loop.example/g00941/laws.FnExactSimplifyGraph", spec := "fnExactSimplifyGraph", unfollowed := true, recurses := true, apart := false }
def FnExactSimplifyGraphSaid : Prop := fnExactSimplifyGraphRow.holds Try.pinned (OpenSpec.ofChange fnExactSimplifyGraphSpec)

/-- ITS FALSE NEIGHBOUR: 'it returns false'. Refute it at one input. -/
def fnExactSimplifyGraphWrong : ChangeSpec := { name := "fnExactSimplifyGraph", fn := fun _ => fun
  | [d] => { results := [.lit (.bool false)], args := [d] }
  | _ => none }
def FnExactSimplifyGraphWrongFalsely : Prop := fnExactSimplifyGraphRow.holds Try.pinned (OpenSpec.ofChange fnExactSimplifyGraphWrong)

/-- 'laws.FnPlaces': WHATEVER THE INPUT: true; the input reads as it did. -/
def fnPlacesSpec : ChangeSpec := { name := "fnPlaces", fn := fun _ => fun
  | [d] => { results := [.lit (.bool true)], args := [d] }
  | _ => none }
def fnPlacesRow : OpenClaim := { program := "ytniaobcahkjfjaa", sum := "b5e66b55e8ed93b51ce79adc1f1047fe1430dfdd5f25ff66cea65341f5941137", func := "loop.example/g00941/laws.FnPlaces", spec := "fnPlaces", unfollowed := true, recurses := true, apart := false }
def FnPlacesSaid : Prop := fnPlacesRow.holds Try.pinned (OpenSpec.ofChange fnPlacesSpec)

/-- ITS FALSE NEIGHBOUR: 'it returns false'. Refute it at one input. -/
def fnPlacesWrong : ChangeSpec := { name := "fnPlaces", fn := fun _ => fun
  | [d] => { results := [.lit (.bool false)], args := [d] }
  | _ => none }
def FnPlacesWrongFalsely : Prop := fnPlacesRow.holds Try.pinned (OpenSpec.ofChange fnPlacesWrong)

/-- 'laws.FnExactCornersOf': WHATEVER THE INPUT: true; the input reads as it did. -/
def fnExactCornersOfSpec : ChangeSpec := { name := "fnExactCornersOf", fn := fun _ => fun
  | [d] => { results := [.lit (.bool true)], args := [d] }
  | _ => none }
def fnExactCornersOfRow : OpenClaim := { program := "ytniaobcahkjfjaa", sum := "b5e66b55e8ed93b51ce79adc1f1047fe1430dfdd5f25ff66cea65341f5941137", func := "loop.example/g00941/laws.FnExactCornersOf", spec := "fnExactCornersOf", unfollowed := true, recurses := true, apart := false }
def FnExactCornersOfSaid : Prop := fnExactCornersOfRow.holds Try.pinned (OpenSpec.ofChange fnExactCornersOfSpec)

/-- ITS FALSE NEIGHBOUR: 'it returns false'. Refute it at one input. -/
def fnExactCornersOfWrong : ChangeSpec := { name := "fnExactCornersOf", fn := fun _ => fun
  | [d] => { results := [.lit (.bool false)], args := [d] }
  | _ => none }
def FnExactCornersOfWrongFalsely : Prop := fnExactCornersOfRow.holds Try.pinned (OpenSpec.ofChange fnExactCornersOfWrong)

/-- 'laws.FnPolynomialValues': WHATEVER THE INPUT: true; the input reads as it did. -/
def fnPolynomialValuesSpec : ChangeSpec := { name := "fnPolynomialValues", fn := fun _ => fun
  | [d] => { results := [.lit (.bool true)], args := [d] }
  | _ => none }
def fnPolynomialValuesRow : OpenClaim := { program := "ytniaobcahkjfjaa", sum := "b5e66b55e8ed93b51ce79adc1f1047fe1430dfdd5f25ff66cea65341f5941137", func := "loop.example/g00941/laws.FnPolynomialValues", spec := "fnPolynomialValues", unfollowed := true, recurses := true, apart := false }
def FnPolynomialValuesSaid : Prop := fnPolynomialValuesRow.holds Try.pinned (OpenSpec.ofChange fnPolynomialValuesSpec)

/-- ITS FALSE NEIGHBOUR: 'it returns false'. Refute it at one input. -/
def fnPolynomialValuesWrong : ChangeSpec := { name := "fnPolynomialValues", fn := fun _ => fun
  | [d] => { results := [.lit (.bool false)], args := [d] }
  | _ => none }
def FnPolynomialValuesWrongFalsely : Prop := fnPolynomialValuesRow.holds Try.pinned (OpenSpec.ofChange fnPolynomialValuesWrong)

/- THE SECOND FORM. 'bulk': how many values and letters a reading holds, each counted each time it is reached (what is shared counts as often as it is met; a slice's spare places count too). A statement '..UptoSaid' is the law's where the arguments, and the package variables that the reading takes, are together of bulk at most 1048576: NARROWER than '..Said'. Prove '..Said' where nothing that the law and all that it calls make is longer than what came in: it says more and counts as full. Else prove '..UptoSaid'. A law counts once. -/
mutual
def uptoBulk {H : Type} : DataW H → Nat
  | .lit (.string bytes) => bytes.length + 1
  | .lit _ => 1
  | .nil => 1
  | .ptr d => uptoBulk d + 1
  | .slice elems spare => uptoBulkAll elems + uptoBulkAll spare + 1
  | .agg parts => uptoBulkAll parts + 1
  | .iface _ d => uptoBulk d + 1
  | .map entries => uptoBulkEntries entries + 1
  | .held _ => 1
def uptoBulkAll {H : Type} : List (DataW H) → Nat
  | [] => 0
  | d :: r => uptoBulk d + uptoBulkAll r
def uptoBulkEntries {H : Type} : List (Lit × DataW H) → Nat
  | [] => 0
  | x :: r => uptoBulkEntry x + uptoBulkEntries r
def uptoBulkEntry {H : Type} : Lit × DataW H → Nat
  | (.string bytes, d) => bytes.length + uptoBulk d + 1
  | (_, d) => uptoBulk d + 1
 end
def uptoSmall : (H : Type) → List (DataW H) → Bool := fun _ ds => decide (uptoBulkAll ds ≤ 1048576)
def OpenSpec.upto (s : _root_.Go.ChangeSpec) : _root_.Go.OpenSpec := { _root_.Go.OpenSpec.ofChange s with cond := some uptoSmall }

/-- 'laws.FnExactAddPlace', WHERE WHAT IT READS IS OF BULK AT MOST 1048576: true; the input reads as it did. -/
def fnExactAddPlaceUptoRow : OpenClaim := { program := "ytniaobcahkjfjaa", sum := "b5e66b55e8ed93b51ce79adc1f1047fe1430dfdd5f25ff66cea65341f5941137", func := "loop.example/g00941/laws.FnExactAddPlace", spec := "fnExactAddPlace", unfollowed := true, recurses := true, apart := false, narrowed := true }
def FnExactAddPlaceUptoSaid : Prop := fnExactAddPlaceUptoRow.holds Try.pinned (OpenSpec.upto fnExactAddPlaceSpec)

/-- 'laws.FnExactChangePlace', WHERE WHAT IT READS IS OF BULK AT MOST 1048576: true; the input reads as it did. -/
def fnExactChangePlaceUptoRow : OpenClaim := { program := "ytniaobcahkjfjaa", sum := "b5e66b55e8ed93b51ce79adc1f1047fe1430dfdd5f25ff66cea65341f5941137", func := "loop.example/g00941/laws.FnExactChangePlace", spec := "fnExactChangePlace", unfollowed := true, recurses := true, apart := false, narrowed := true }
def FnExactChangePlaceUptoSaid : Prop := fnExactChangePlaceUptoRow.holds Try.pinned (OpenSpec.upto fnExactChangePlaceSpec)

/-- 'laws.FnExactPlacesFrom', WHERE WHAT IT READS IS OF BULK AT MOST 1048576: true; the input reads as it did. -/
def fnExactPlacesFromUptoRow : OpenClaim := { program := "ytniaobcahkjfjaa", sum := "b5e66b55e8ed93b51ce79adc1f1047fe1430dfdd5f25ff66cea65341f5941137", func := "loop.example/g00941/laws.FnExactPlacesFrom", spec := "fnExactPlacesFrom", unfollowed := true, recurses := true, apart := false, narrowed := true }
def FnExactPlacesFromUptoSaid : Prop := fnExactPlacesFromUptoRow.holds Try.pinned (OpenSpec.upto fnExactPlacesFromSpec)

/-- 'laws.FnExactPlacesInto', WHERE WHAT IT READS IS OF BULK AT MOST 1048576: true; the input reads as it did. -/
def fnExactPlacesIntoUptoRow : OpenClaim := { program := "ytniaobcahkjfjaa", sum := "b5e66b55e8ed93b51ce79adc1f1047fe1430dfdd5f25ff66cea65341f5941137", func := "loop.example/g00941/laws.FnExactPlacesInto", spec := "fnExactPlacesInto", unfollowed := true, recurses := true, apart := false, narrowed := true }
def FnExactPlacesIntoUptoSaid : Prop := fnExactPlacesIntoUptoRow.holds Try.pinned (OpenSpec.upto fnExactPlacesIntoSpec)

/-- 'laws.FnExactDropPlace', WHERE WHAT IT READS IS OF BULK AT MOST 1048576: true; the input reads as it did. -/
def fnExactDropPlaceUptoRow : OpenClaim := { program := "ytniaobcahkjfjaa", sum := "b5e66b55e8ed93b51ce79adc1f1047fe1430dfdd5f25ff66cea65341f5941137", func := "loop.example/g00941/laws.FnExactDropPlace", spec := "fnExactDropPlace", unfollowed := true, recurses := true, apart := false, narrowed := true }
def FnExactDropPlaceUptoSaid : Prop := fnExactDropPlaceUptoRow.holds Try.pinned (OpenSpec.upto fnExactDropPlaceSpec)

/-- 'laws.FnExactIsStrong', WHERE WHAT IT READS IS OF BULK AT MOST 1048576: true; the input reads as it did. -/
def fnExactIsStrongUptoRow : OpenClaim := { program := "ytniaobcahkjfjaa", sum := "b5e66b55e8ed93b51ce79adc1f1047fe1430dfdd5f25ff66cea65341f5941137", func := "loop.example/g00941/laws.FnExactIsStrong", spec := "fnExactIsStrong", unfollowed := true, recurses := true, apart := false, narrowed := true }
def FnExactIsStrongUptoSaid : Prop := fnExactIsStrongUptoRow.holds Try.pinned (OpenSpec.upto fnExactIsStrongSpec)

/-- 'laws.FnExactIsLive', WHERE WHAT IT READS IS OF BULK AT MOST 1048576: true; the input reads as it did. -/
def fnExactIsLiveUptoRow : OpenClaim := { program := "ytniaobcahkjfjaa", sum := "b5e66b55e8ed93b51ce79adc1f1047fe1430dfdd5f25ff66cea65341f5941137", func := "loop.example/g00941/laws.FnExactIsLive", spec := "fnExactIsLive", unfollowed := true, recurses := true, apart := false, narrowed := true }
def FnExactIsLiveUptoSaid : Prop := fnExactIsLiveUptoRow.holds Try.pinned (OpenSpec.upto fnExactIsLiveSpec)

/-- 'laws.FnExactTokenDistance', WHERE WHAT IT READS IS OF BULK AT MOST 1048576: true; the input reads as it did. -/
def fnExactTokenDistanceUptoRow : OpenClaim := { program := "ytniaobcahkjfjaa", sum := "b5e66b55e8ed93b51ce79adc1f1047fe1430dfdd5f25ff66cea65341f5941137", func := "loop.example/g00941/laws.FnExactTokenDistance", spec := "fnExactTokenDistance", unfollowed := true, recurses := true, apart := false, narrowed := true }
def FnExactTokenDistanceUptoSaid : Prop := fnExactTokenDistanceUptoRow.holds Try.pinned (OpenSpec.upto fnExactTokenDistanceSpec)

/-- 'laws.FnExactSimplifyGraph', WHERE WHAT IT READS IS OF BULK AT MOST 1048576: true; the input reads as it did. -/
def fnExactSimplifyGraphUptoRow : OpenClaim := { program := "ytniaobcahkjfjaa", sum := "b5e66b55e8ed93b51ce79adc1f1047fe1430dfdd5f25ff66cea65341f5941137", func := "loop.example/g00941/laws.FnExactSimplifyGraph", spec := "fnExactSimplifyGraph", unfollowed := true, recurses := true, apart := false, narrowed := true }
def FnExactSimplifyGraphUptoSaid : Prop := fnExactSimplifyGraphUptoRow.holds Try.pinned (OpenSpec.upto fnExactSimplifyGraphSpec)

/-- 'laws.FnPlaces', WHERE WHAT IT READS IS OF BULK AT MOST 1048576: true; the input reads as it did. -/
def fnPlacesUptoRow : OpenClaim := { program := "ytniaobcahkjfjaa", sum := "b5e66b55e8ed93b51ce79adc1f1047fe1430dfdd5f25ff66cea65341f5941137", func := "loop.example/g00941/laws.FnPlaces", spec := "fnPlaces", unfollowed := true, recurses := true, apart := false, narrowed := true }
def FnPlacesUptoSaid : Prop := fnPlacesUptoRow.holds Try.pinned (OpenSpec.upto fnPlacesSpec)

/-- 'laws.FnExactCornersOf', WHERE WHAT IT READS IS OF BULK AT MOST 1048576: true; the input reads as it did. -/
def fnExactCornersOfUptoRow : OpenClaim := { program := "ytniaobcahkjfjaa", sum := "b5e66b55e8ed93b51ce79adc1f1047fe1430dfdd5f25ff66cea65341f5941137", func := "loop.example/g00941/laws.FnExactCornersOf", spec := "fnExactCornersOf", unfollowed := true, recurses := true, apart := false, narrowed := true }
def FnExactCornersOfUptoSaid : Prop := fnExactCornersOfUptoRow.holds Try.pinned (OpenSpec.upto fnExactCornersOfSpec)

/-- 'laws.FnPolynomialValues', WHERE WHAT IT READS IS OF BULK AT MOST 1048576: true; the input reads as it did. -/
def fnPolynomialValuesUptoRow : OpenClaim := { program := "ytniaobcahkjfjaa", sum := "b5e66b55e8ed93b51ce79adc1f1047fe1430dfdd5f25ff66cea65341f5941137", func := "loop.example/g00941/laws.FnPolynomialValues", spec := "fnPolynomialValues", unfollowed := true, recurses := true, apart := false, narrowed := true }
def FnPolynomialValuesUptoSaid : Prop := fnPolynomialValuesUptoRow.holds Try.pinned (OpenSpec.upto fnPolynomialValuesSpec)

end Rows
end Go.Proofs.Ytniaobcahkjfjaa
