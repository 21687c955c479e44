/-
  No cell of these rows narrows 'for every input' (looked for: loops, veiled, ifaces, maps, wideKeys, modest, calm, conditions, laid).
  DERIVED. THE GIVEN ROWS OF THIS SEAT. 12 by the template 'for every input the law returns true; each argument reads behind the call as it read before'; 0 by the template 'total and deterministic' (their statements: YtjdilhpekknejaaTotals.lean).
  GIVEN WITH THE SEED: the statements are not yours to turn. If you find one false, say at which input.
  Laid BY PROGRAM, IN A SANDBOX (cutbox-rows.mjs): the forced cells as the released guide's own fill.sh prints them over the translation c2aa99c6b11b3fd7… (all of the seat's roots in one cut). By AI agents, Wed Nov 11 2026. No macro, syntax, notation, axiom, sorry.
-/
import Derived.Test.YtjdilhpekknejaaChecked
import GoSem.Claim
import GoSem.ClaimJoined
import GoSem.ClaimMapViews
import Derived.JoinedTies
import Derived.KernelRfl
namespace Go.Proofs.Ytjdilhpekknejaa
/- THE CELL 'sum', in the pinned program and in every row, IS THE sha256 OF THE DUMP (.gsa) THAT YtjdilhpekknejaaProg.lean LOADS. Nothing in Lean hashes anything: it is a label: what it is worth is what the hold of that sum in a sandbox is worth. -/
noncomputable def Try.pinned : Pinned := { name := "ytjdilhpekknejaa", sum := "c2aa99c6b11b3fd770ef4537fff9c28edc9e2571e08204ae6a46d99806e38e2b", checked := Try.checked }
namespace Rows
def none {H : Type} : Left H := { results := [], args := [] }

/-- 'laws.FnExactIsRepeat': WHATEVER THE INPUT: true; the input reads as it did. -/
def fnExactIsRepeatSpec : ChangeSpec := { name := "fnExactIsRepeat", fn := fun _ => fun
  | [d1, d2, d3, d4] => { results := [.lit (.bool true)], args := [d1, d2, d3, d4] }
  | _ => none }
def fnExactIsRepeatRow : OpenClaim := { program := "ytjdilhpekknejaa", sum := "c2aa99c6b11b3fd770ef4537fff9c28edc9e2571e08204ae6a46d99806e38e2b", func := "loop.example/g00941/laws.FnExactIsRepeat", spec := "fnExactIsRepeat", unfollowed := true, recurses := true, apart := false }
def FnExactIsRepeatSaid : Prop := fnExactIsRepeatRow.holds Try.pinned (OpenSpec.ofChange fnExactIsRepeatSpec)

/-- ITS FALSE NEIGHBOUR: 'it returns false'. Refute it at one input. -/
def fnExactIsRepeatWrong : ChangeSpec := { name := "fnExactIsRepeat", fn := fun _ => fun
  | [d1, d2, d3, d4] => { results := [.lit (.bool false)], args := [d1, d2, d3, d4] }
  | _ => none }
def FnExactIsRepeatWrongFalsely : Prop := fnExactIsRepeatRow.holds Try.pinned (OpenSpec.ofChange fnExactIsRepeatWrong)

/-- 'laws.FnExactOrbitOf': WHATEVER THE INPUT: true; the input reads as it did. -/
def fnExactOrbitOfSpec : ChangeSpec := { name := "fnExactOrbitOf", fn := fun _ => fun
  | [d1, d2, d3] => { results := [.lit (.bool true)], args := [d1, d2, d3] }
  | _ => none }
def fnExactOrbitOfRow : OpenClaim := { program := "ytjdilhpekknejaa", sum := "c2aa99c6b11b3fd770ef4537fff9c28edc9e2571e08204ae6a46d99806e38e2b", func := "loop.example/g00941/laws.FnExactOrbitOf", spec := "fnExactOrbitOf", unfollowed := true, recurses := true, apart := false }
def FnExactOrbitOfSaid : Prop := fnExactOrbitOfRow.holds Try.pinned (OpenSpec.ofChange fnExactOrbitOfSpec)

/-- ITS FALSE NEIGHBOUR: 'it returns false'. Refute it at one input. -/
def fnExactOrbitOfWrong : ChangeSpec := { name := "fnExactOrbitOf", fn := fun _ => fun
  | [d1, d2, d3] => { results := [.lit (.bool false)], args := [d1, d2, d3] }
  | _ => none }
def FnExactOrbitOfWrongFalsely : Prop := fnExactOrbitOfRow.holds Try.pinned (OpenSpec.ofChange fnExactOrbitOfWrong)

/-- 'laws.FnExactPowersRepeat': WHATEVER THE INPUT: true; the input reads as it did. -/
def fnExactPowersRepeatSpec : ChangeSpec := { name := "fnExactPowersRepeat", fn := fun _ => fun
  | [d] => { results := [.lit (.bool true)], args := [d] }
  | _ => none }
def fnExactPowersRepeatRow : OpenClaim := { program := "ytjdilhpekknejaa", sum := "c2aa99c6b11b3fd770ef4537fff9c28edc9e2571e08204ae6a46d99806e38e2b", func := "loop.example/g00941/laws.FnExactPowersRepeat", spec := "fnExactPowersRepeat", unfollowed := true, recurses := true, apart := false }
def FnExactPowersRepeatSaid : Prop := fnExactPowersRepeatRow.holds Try.pinned (OpenSpec.ofChange fnExactPowersRepeatSpec)

/-- ITS FALSE NEIGHBOUR: 'it returns false'. Refute it at one input. -/
def fnExactPowersRepeatWrong : ChangeSpec := { name := "fnExactPowersRepeat", fn := fun _ => fun
  | [d] => { results := [.lit (.bool false)], args := [d] }
  | _ => none }
def FnExactPowersRepeatWrongFalsely : Prop := fnExactPowersRepeatRow.holds Try.pinned (OpenSpec.ofChange fnExactPowersRepeatWrong)

/-- 'laws.FnExactOrbitRepeats': WHATEVER THE INPUT: true; the input reads as it did. -/
def fnExactOrbitRepeatsSpec : ChangeSpec := { name := "fnExactOrbitRepeats", fn := fun _ => fun
  | [d1, d2] => { results := [.lit (.bool true)], args := [d1, d2] }
  | _ => none }
def fnExactOrbitRepeatsRow : OpenClaim := { program := "ytjdilhpekknejaa", sum := "c2aa99c6b11b3fd770ef4537fff9c28edc9e2571e08204ae6a46d99806e38e2b", func := "loop.example/g00941/laws.FnExactOrbitRepeats", spec := "fnExactOrbitRepeats", unfollowed := true, recurses := true, apart := false }
def FnExactOrbitRepeatsSaid : Prop := fnExactOrbitRepeatsRow.holds Try.pinned (OpenSpec.ofChange fnExactOrbitRepeatsSpec)

/-- ITS FALSE NEIGHBOUR: 'it returns false'. Refute it at one input. -/
def fnExactOrbitRepeatsWrong : ChangeSpec := { name := "fnExactOrbitRepeats", fn := fun _ => fun
  | [d1, d2] => { results := [.lit (.bool false)], args := [d1, d2] }
  | _ => none }
def FnExactOrbitRepeatsWrongFalsely : Prop := fnExactOrbitRepeatsRow.holds Try.pinned (OpenSpec.ofChange fnExactOrbitRepeatsWrong)

/-- 'laws.FnExactPowerEntry': WHATEVER THE INPUT: true; the input reads as it did. -/
def fnExactPowerEntrySpec : ChangeSpec := { name := "fnExactPowerEntry", fn := fun _ => fun
  | [d1, d2, d3, d4] => { results := [.lit (.bool true)], args := [d1, d2, d3, d4] }
  | _ => none }
def fnExactPowerEntryRow : OpenClaim := { program := "ytjdilhpekknejaa", sum := "c2aa99c6b11b3fd770ef4537fff9c28edc9e2571e08204ae6a46d99806e38e2b", func := "loop.example/g00941/laws.FnExactPowerEntry", spec := "fnExactPowerEntry", unfollowed := true, recurses := true, apart := false }
def FnExactPowerEntrySaid : Prop := fnExactPowerEntryRow.holds Try.pinned (OpenSpec.ofChange fnExactPowerEntrySpec)

/-- ITS FALSE NEIGHBOUR: 'it returns false'. Refute it at one input. -/
def fnExactPowerEntryWrong : ChangeSpec := { name := "fnExactPowerEntry", fn := fun _ => fun
  | [d1, d2, d3, d4] => { results := [.lit (.bool false)], args := [d1, d2, d3, d4] }
  | _ => none }
def FnExactPowerEntryWrongFalsely : Prop := fnExactPowerEntryRow.holds Try.pinned (OpenSpec.ofChange fnExactPowerEntryWrong)

/-- 'laws.FnExactSteadyState': WHATEVER THE INPUT: true; the input reads as it did. -/
def fnExactSteadyStateSpec : ChangeSpec := { name := "fnExactSteadyState", fn := fun _ => fun
  | [d1, d2] => { results := [.lit (.bool true)], args := [d1, d2] }
  | _ => none }
def fnExactSteadyStateRow : OpenClaim := { program := "ytjdilhpekknejaa", sum := "c2aa99c6b11b3fd770ef4537fff9c28edc9e2571e08204ae6a46d99806e38e2b", func := "loop.example/g00941/laws.FnExactSteadyState", spec := "fnExactSteadyState", unfollowed := true, recurses := true, apart := false }
def FnExactSteadyStateSaid : Prop := fnExactSteadyStateRow.holds Try.pinned (OpenSpec.ofChange fnExactSteadyStateSpec)

/-- ITS FALSE NEIGHBOUR: 'it returns false'. Refute it at one input. -/
def fnExactSteadyStateWrong : ChangeSpec := { name := "fnExactSteadyState", fn := fun _ => fun
  | [d1, d2] => { results := [.lit (.bool false)], args := [d1, d2] }
  | _ => none }
def FnExactSteadyStateWrongFalsely : Prop := fnExactSteadyStateRow.holds Try.pinned (OpenSpec.ofChange fnExactSteadyStateWrong)

/-- 'laws.FnExactOrbitRate': WHATEVER THE INPUT: true; the input reads as it did. -/
def fnExactOrbitRateSpec : ChangeSpec := { name := "fnExactOrbitRate", fn := fun _ => fun
  | [d1, d2] => { results := [.lit (.bool true)], args := [d1, d2] }
  | _ => none }
def fnExactOrbitRateRow : OpenClaim := { program := "ytjdilhpekknejaa", sum := "c2aa99c6b11b3fd770ef4537fff9c28edc9e2571e08204ae6a46d99806e38e2b", func := "loop.example/g00941/laws.FnExactOrbitRate", spec := "fnExactOrbitRate", unfollowed := true, recurses := true, apart := false }
def FnExactOrbitRateSaid : Prop := fnExactOrbitRateRow.holds Try.pinned (OpenSpec.ofChange fnExactOrbitRateSpec)

/-- ITS FALSE NEIGHBOUR: 'it returns false'. Refute it at one input. -/
def fnExactOrbitRateWrong : ChangeSpec := { name := "fnExactOrbitRate", fn := fun _ => fun
  | [d1, d2] => { results := [.lit (.bool false)], args := [d1, d2] }
  | _ => none }
def FnExactOrbitRateWrongFalsely : Prop := fnExactOrbitRateRow.holds Try.pinned (OpenSpec.ofChange fnExactOrbitRateWrong)

/-- 'laws.FnGreatPowers': WHATEVER THE INPUT: true; the input reads as it did. -/
def fnGreatPowersSpec : ChangeSpec := { name := "fnGreatPowers", fn := fun _ => fun
  | [d] => { results := [.lit (.bool true)], args := [d] }
  | _ => none }
def fnGreatPowersRow : OpenClaim := { program := "ytjdilhpekknejaa", sum := "c2aa99c6b11b3fd770ef4537fff9c28edc9e2571e08204ae6a46d99806e38e2b", func := "loop.example/g00941/laws.FnGreatPowers", spec := "fnGreatPowers", unfollowed := true, recurses := true, apart := false }
def FnGreatPowersSaid : Prop := fnGreatPowersRow.holds Try.pinned (OpenSpec.ofChange fnGreatPowersSpec)

/-- ITS FALSE NEIGHBOUR: 'it returns false'. Refute it at one input. -/
def fnGreatPowersWrong : ChangeSpec := { name := "fnGreatPowers", fn := fun _ => fun
  | [d] => { results := [.lit (.bool false)], args := [d] }
  | _ => none }
def FnGreatPowersWrongFalsely : Prop := fnGreatPowersRow.holds Try.pinned (OpenSpec.ofChange fnGreatPowersWrong)

/-- 'laws.FnOrbitRates': WHATEVER THE INPUT: true; the input reads as it did. -/
def fnOrbitRatesSpec : ChangeSpec := { name := "fnOrbitRates", fn := fun _ => fun
  | [d] => { results := [.lit (.bool true)], args := [d] }
  | _ => none }
def fnOrbitRatesRow : OpenClaim := { program := "ytjdilhpekknejaa", sum := "c2aa99c6b11b3fd770ef4537fff9c28edc9e2571e08204ae6a46d99806e38e2b", func := "loop.example/g00941/laws.FnOrbitRates", spec := "fnOrbitRates", unfollowed := true, recurses := true, apart := false }
def FnOrbitRatesSaid : Prop := fnOrbitRatesRow.holds Try.pinned (OpenSpec.ofChange fnOrbitRatesSpec)

/-- ITS FALSE NEIGHBOUR: 'it returns false'. Refute it at one input. -/
def fnOrbitRatesWrong : ChangeSpec := { name := "fnOrbitRates", fn := fun _ => fun
  | [d] => { results := [.lit (.bool false)], args := [d] }
  | _ => none }
def FnOrbitRatesWrongFalsely : Prop := fnOrbitRatesRow.holds Try.pinned (OpenSpec.ofChange fnOrbitRatesWrong)

/-- 'laws.FnOrbits': WHATEVER THE INPUT: true; the input reads as it did. -/
def fnOrbitsSpec : ChangeSpec := { name := "fnOrbits", fn := fun _ => fun
  | [d] => { results := [.lit (.bool true)], args := [d] }
  | _ => none }
def fnOrbitsRow : OpenClaim := { program := "ytjdilhpekknejaa", sum := "c2aa99c6b11b3fd770ef4537fff9c28edc9e2571e08204ae6a46d99806e38e2b", func := "loop.example/g00941/laws.FnOrbits", spec := "fnOrbits", unfollowed := true, recurses := true, apart := false }
def FnOrbitsSaid : Prop := fnOrbitsRow.holds Try.pinned (OpenSpec.ofChange fnOrbitsSpec)

/-- ITS FALSE NEIGHBOUR: 'it returns false'. Refute it at one input. -/
def fnOrbitsWrong : ChangeSpec := { name := "fnOrbits", fn := fun _ => fun
  | [d] => { results := [.lit (.bool false)], args := [d] }
  | _ => none }
def FnOrbitsWrongFalsely : Prop := fnOrbitsRow.holds Try.pinned (OpenSpec.ofChange fnOrbitsWrong)

/-- 'laws.FnRepeats': WHATEVER THE INPUT: true; the input reads as it did. -/
def fnRepeatsSpec : ChangeSpec := { name := "fnRepeats", fn := fun _ => fun
  | [d] => { results := [.lit (.bool true)], args := [d] }
  | _ => none }
def fnRepeatsRow : OpenClaim := { program := "ytjdilhpekknejaa", sum := "c2aa99c6b11b3fd770ef4537fff9c28edc9e2571e08204ae6a46d99806e38e2b", func := "loop.example/g00941/laws.FnRepeats", spec := "fnRepeats", unfollowed := true, recurses := true, apart := false }
def FnRepeatsSaid : Prop := fnRepeatsRow.holds Try.pinned (OpenSpec.ofChange fnRepeatsSpec)

/-- ITS FALSE NEIGHBOUR: 'it returns false'. Refute it at one input. -/
def fnRepeatsWrong : ChangeSpec := { name := "fnRepeats", fn := fun _ => fun
  | [d] => { results := [.lit (.bool false)], args := [d] }
  | _ => none }
def FnRepeatsWrongFalsely : Prop := fnRepeatsRow.holds Try.pinned (OpenSpec.ofChange fnRepeatsWrong)

/-- 'laws.FnFullPolynomials': WHATEVER THE INPUT: true; the input reads as it did. -/
def fnFullPolynomialsSpec : ChangeSpec := { name := "fnFullPolynomials", fn := fun _ => fun
  | [d] => { results := [.lit (.bool true)], args := [d] }
  | _ => none }
def fnFullPolynomialsRow : OpenClaim := { program := "ytjdilhpekknejaa", sum := "c2aa99c6b11b3fd770ef4537fff9c28edc9e2571e08204ae6a46d99806e38e2b", func := "loop.example/g00941/laws.FnFullPolynomials", spec := "fnFullPolynomials", unfollowed := true, recurses := true, apart := false }
def FnFullPolynomialsSaid : Prop := fnFullPolynomialsRow.holds Try.pinned (OpenSpec.ofChange fnFullPolynomialsSpec)

/-- ITS FALSE NEIGHBOUR: 'it returns false'. Refute it at one input. -/
def fnFullPolynomialsWrong : ChangeSpec := { name := "fnFullPolynomials", fn := fun _ => fun
  | [d] => { results := [.lit (.bool false)], args := [d] }
  | _ => none }
def FnFullPolynomialsWrongFalsely : Prop := fnFullPolynomialsRow.holds Try.pinned (OpenSpec.ofChange fnFullPolynomialsWrong)

/- THE SECOND FORM. 'bulk': how many values and letters a reading holds, each counted each time it is reached (what is shared counts as often as it is met; a slice's spare places count too). A statement '..UptoSaid' is the law's where the arguments, and the package variables that the reading takes, are together of bulk at most 1048576: NARROWER than '..Said'. Prove '..Said' where nothing that the law and all that it calls make is longer than what came in: it says more and counts as full. Else prove '..UptoSaid'. A law counts once. -/
mutual
def uptoBulk {H : Type} : DataW H → Nat
  | .lit (.string bytes) => bytes.length + 1
  | .lit _ => 1
  | .nil => 1
  | .ptr d => uptoBulk d + 1
  | .slice elems spare => uptoBulkAll elems + uptoBulkAll spare + 1
  | .agg parts => uptoBulkAll parts + 1
  | .iface _ d => uptoBulk d + 1
  | .map entries => uptoBulkEntries entries + 1
  | .held _ => 1
def uptoBulkAll {H : Type} : List (DataW H) → Nat
  | [] => 0
  | d :: r => uptoBulk d + uptoBulkAll r
def uptoBulkEntries {H : Type} : List (Lit × DataW H) → Nat
  | [] => 0
  | x :: r => uptoBulkEntry x + uptoBulkEntries r
def uptoBulkEntry {H : Type} : Lit × DataW H → Nat
  | (.string bytes, d) => bytes.length + uptoBulk d + 1
  | (_, d) => uptoBulk d + 1
 end
def uptoSmall : (H : Type) → List (DataW H) → Bool := fun _ ds => decide (uptoBulkAll ds ≤ 1048576)
def OpenSpec.upto (s : _root_.Go.ChangeSpec) : _root_.Go.OpenSpec := { _root_.Go.OpenSpec.ofChange s with cond := some uptoSmall }

/-- 'laws.FnExactIsRepeat', WHERE WHAT IT READS IS OF BULK AT MOST 1048576: true; the input reads as it did. -/
def fnExactIsRepeatUptoRow : OpenClaim := { program := "ytjdilhpekknejaa", sum := "c2aa99c6b11b3fd770ef4537fff9c28edc9e2571e08204ae6a46d99806e38e2b", func := "loop.example/g00941/laws.FnExactIsRepeat", spec := "fnExactIsRepeat", unfollowed := true, recurses := true, apart := false, narrowed := true }
def FnExactIsRepeatUptoSaid : Prop := fnExactIsRepeatUptoRow.holds Try.pinned (OpenSpec.upto fnExactIsRepeatSpec)

/-- 'laws.FnExactOrbitOf', WHERE WHAT IT READS IS OF BULK AT MOST 1048576: true; the input reads as it did. -/
def fnExactOrbitOfUptoRow : OpenClaim := { program := "ytjdilhpekknejaa", sum := "c2aa99c6b11b3fd770ef4537fff9c28edc9e2571e08204ae6a46d99806e38e2b", func := "loop.example/g00941/laws.FnExactOrbitOf", spec := "fnExactOrbitOf", unfollowed := true, recurses := true, apart := false, narrowed := true }
def FnExactOrbitOfUptoSaid : Prop := fnExactOrbitOfUptoRow.holds Try.pinned (OpenSpec.upto fnExactOrbitOfSpec)

/-- 'laws.FnExactPowersRepeat', WHERE WHAT IT READS IS OF BULK AT MOST 1048576: true; the input reads as it did. -/
def fnExactPowersRepeatUptoRow : OpenClaim := { program := "ytjdilhpekknejaa", sum := "c2aa99c6b11b3fd770ef4537fff9c28edc9e2571e08204ae6a46d99806e38e2b", func := "loop.example/g00941/laws.FnExactPowersRepeat", spec := "fnExactPowersRepeat", unfollowed := true, recurses := true, apart := false, narrowed := true }
def FnExactPowersRepeatUptoSaid : Prop := fnExactPowersRepeatUptoRow.holds Try.pinned (OpenSpec.upto fnExactPowersRepeatSpec)

/-- 'laws.FnExactOrbitRepeats', WHERE WHAT IT READS IS OF BULK AT MOST 1048576: true; the input reads as it did. -/
def fnExactOrbitRepeatsUptoRow : OpenClaim := { program := "ytjdilhpekknejaa", sum := "c2aa99c6b11b3fd770ef4537fff9c28edc9e2571e08204ae6a46d99806e38e2b", func := "loop.example/g00941/laws.FnExactOrbitRepeats", spec := "fnExactOrbitRepeats", unfollowed := true, recurses := true, apart := false, narrowed := true }
def FnExactOrbitRepeatsUptoSaid : Prop := fnExactOrbitRepeatsUptoRow.holds Try.pinned (OpenSpec.upto fnExactOrbitRepeatsSpec)

/-- 'laws.FnExactPowerEntry', WHERE WHAT IT READS IS OF BULK AT MOST 1048576: true; the input reads as it did. -/
def fnExactPowerEntryUptoRow : OpenClaim := { program := "ytjdilhpekknejaa", sum := "c2aa99c6b11b3fd770ef4537fff9c28edc9e2571e08204ae6a46d99806e38e2b", func := "loop.example/g00941/laws.FnExactPowerEntry", spec := "fnExactPowerEntry", unfollowed := true, recurses := true, apart := false, narrowed := true }
def FnExactPowerEntryUptoSaid : Prop := fnExactPowerEntryUptoRow.holds Try.pinned (OpenSpec.upto fnExactPowerEntrySpec)

/-- 'laws.FnExactSteadyState', WHERE WHAT IT READS IS OF BULK AT MOST 1048576: true; the input reads as it did. -/
def fnExactSteadyStateUptoRow : OpenClaim := { program := "ytjdilhpekknejaa", sum := "c2aa99c6b11b3fd770ef4537fff9c28edc9e2571e08204ae6a46d99806e38e2b", func := "loop.example/g00941/laws.FnExactSteadyState", spec := "fnExactSteadyState", unfollowed := true, recurses := true, apart := false, narrowed := true }
def FnExactSteadyStateUptoSaid : Prop := fnExactSteadyStateUptoRow.holds Try.pinned (OpenSpec.upto fnExactSteadyStateSpec)

/-- 'laws.FnExactOrbitRate', WHERE WHAT IT READS IS OF BULK AT MOST 1048576: true; the input reads as it did. -/
def fnExactOrbitRateUptoRow : OpenClaim := { program := "ytjdilhpekknejaa", sum := "c2aa99c6b11b3fd770ef4537fff9c28edc9e2571e08204ae6a46d99806e38e2b", func := "loop.example/g00941/laws.FnExactOrbitRate", spec := "fnExactOrbitRate", unfollowed := true, recurses := true, apart := false, narrowed := true }
def FnExactOrbitRateUptoSaid : Prop := fnExactOrbitRateUptoRow.holds Try.pinned (OpenSpec.upto fnExactOrbitRateSpec)

/-- 'laws.FnGreatPowers', WHERE WHAT IT READS IS OF BULK AT MOST 1048576: true; the input reads as it did. -/
def fnGreatPowersUptoRow : OpenClaim := { program := "ytjdilhpekknejaa", sum := "c2aa99c6b11b3fd770ef4537fff9c28edc9e2571e08204ae6a46d99806e38e2b", func := "loop.example/g00941/laws.FnGreatPowers", spec := "fnGreatPowers", unfollowed := true, recurses := true, apart := false, narrowed := true }
def FnGreatPowersUptoSaid : Prop := fnGreatPowersUptoRow.holds Try.pinned (OpenSpec.upto fnGreatPowersSpec)

/-- 'laws.FnOrbitRates', WHERE WHAT IT READS IS OF BULK AT MOST 1048576: true; the input reads as it did. -/
def fnOrbitRatesUptoRow : OpenClaim := { program := "ytjdilhpekknejaa", sum := "c2aa99c6b11b3fd770ef4537fff9c28edc9e2571e08204ae6a46d99806e38e2b", func := "loop.example/g00941/laws.FnOrbitRates", spec := "fnOrbitRates", unfollowed := true, recurses := true, apart := false, narrowed := true }
def FnOrbitRatesUptoSaid : Prop := fnOrbitRatesUptoRow.holds Try.pinned (OpenSpec.upto fnOrbitRatesSpec)

/-- 'laws.FnOrbits', WHERE WHAT IT READS IS OF BULK AT MOST 1048576: true; the input reads as it did. -/
def fnOrbitsUptoRow : OpenClaim := { program := "ytjdilhpekknejaa", sum := "c2aa99c6b11b3fd770ef4537fff9c28edc9e2571e08204ae6a46d99806e38e2b", func := "loop.example/g00941/laws.FnOrbits", spec := "fnOrbits", unfollowed := true, recurses := true, apart := false, narrowed := true }
def FnOrbitsUptoSaid : Prop := fnOrbitsUptoRow.holds Try.pinned (OpenSpec.upto fnOrbitsSpec)

/-- 'laws.FnRepeats', WHERE WHAT IT READS IS OF BULK AT MOST 1048576: true; the input reads as it did. -/
def fnRepeatsUptoRow : OpenClaim := { program := "ytjdilhpekknejaa", sum := "c2aa99c6b11b3fd770ef4537fff9c28edc9e2571e08204ae6a46d99806e38e2b", func := "loop.example/g00941/laws.FnRepeats", spec := "fnRepeats", unfollowed := true, recurses := true, apart := false, narrowed := true }
def FnRepeatsUptoSaid : Prop := fnRepeatsUptoRow.holds Try.pinned (OpenSpec.upto fnRepeatsSpec)

/-- 'laws.FnFullPolynomials', WHERE WHAT IT READS IS OF BULK AT MOST 1048576: true; the input reads as it did. -/
def fnFullPolynomialsUptoRow : OpenClaim := { program := "ytjdilhpekknejaa", sum := "c2aa99c6b11b3fd770ef4537fff9c28edc9e2571e08204ae6a46d99806e38e2b", func := "loop.example/g00941/laws.FnFullPolynomials", spec := "fnFullPolynomials", unfollowed := true, recurses := true, apart := false, narrowed := true }
def FnFullPolynomialsUptoSaid : Prop := fnFullPolynomialsUptoRow.holds Try.pinned (OpenSpec.upto fnFullPolynomialsSpec)

end Rows
end Go.Proofs.Ytjdilhpekknejaa
