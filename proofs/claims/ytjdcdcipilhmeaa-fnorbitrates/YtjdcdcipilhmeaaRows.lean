/-
  No cell of these rows narrows 'for every input' (looked for: loops, veiled, ifaces, maps, wideKeys, modest, calm, conditions, laid).
  DERIVED. THE GIVEN ROWS OF THIS SEAT. 6 by the template 'for every input the law returns true; each argument reads behind the call as it read before'; 0 by the template 'total and deterministic' (their statements: YtjdcdcipilhmeaaTotals.lean).
  GIVEN WITH THE SEED: the statements are not yours to turn. If you find one false, say at which input.
  Laid BY PROGRAM, IN A SANDBOX (cutbox-rows.mjs): the forced cells as the released guide's own fill.sh prints them over the translation 511f1e59add45cab… (all of the seat's roots in one cut). By AI agents, Wed Nov 11 2026. No macro, syntax, notation, axiom, sorry.
-/
import Derived.Test.YtjdcdcipilhmeaaChecked
import GoSem.Claim
import GoSem.ClaimJoined
import GoSem.ClaimMapViews
import Derived.JoinedTies
import Derived.KernelRfl
namespace Go.Proofs.Ytjdcdcipilhmeaa
/- THE CELL 'sum', in the pinned program and in every row, IS THE sha256 OF THE DUMP (.gsa) THAT YtjdcdcipilhmeaaProg.lean LOADS. Nothing in Lean hashes anything: it is a label: what it is worth is what the hold of that sum in a sandbox is worth. -/
noncomputable def Try.pinned : Pinned := { name := "ytjdcdcipilhmeaa", sum := "511f1e59add45caba72c07810aabb47965cd8fd307fbd2fe7005d5766611072b", checked := Try.checked }
namespace Rows
def none {H : Type} : Left H := { results := [], args := [] }

/-- 'laws.FnExactOrbitRate': WHATEVER THE INPUT: true; the input reads as it did. -/
def fnExactOrbitRateSpec : ChangeSpec := { name := "fnExactOrbitRate", fn := fun _ => fun
  | [d1, d2] => { results := [.lit (.bool true)], args := [d1, d2] }
  | _ => none }
def fnExactOrbitRateRow : OpenClaim := { program := "ytjdcdcipilhmeaa", sum := "511f1e59add45caba72c07810aabb47965cd8fd307fbd2fe7005d5766611072b", func := "loop.example/g00941/laws.FnExactOrbitRate", spec := "fnExactOrbitRate", unfollowed := true, recurses := true, apart := false }
def FnExactOrbitRateSaid : Prop := fnExactOrbitRateRow.holds Try.pinned (OpenSpec.ofChange fnExactOrbitRateSpec)

/-- ITS FALSE NEIGHBOUR: 'it returns false'. Refute it at one input. -/
def fnExactOrbitRateWrong : ChangeSpec := { name := "fnExactOrbitRate", fn := fun _ => fun
  | [d1, d2] => { results := [.lit (.bool false)], args := [d1, d2] }
  | _ => none }
def FnExactOrbitRateWrongFalsely : Prop := fnExactOrbitRateRow.holds Try.pinned (OpenSpec.ofChange fnExactOrbitRateWrong)

/-- 'laws.FnGreatPowers': WHATEVER THE INPUT: true; the input reads as it did. -/
def fnGreatPowersSpec : ChangeSpec := { name := "fnGreatPowers", fn := fun _ => fun
  | [d] => { results := [.lit (.bool true)], args := [d] }
  | _ => none }
def fnGreatPowersRow : OpenClaim := { program := "ytjdcdcipilhmeaa", sum := "511f1e59add45caba72c07810aabb47965cd8fd307fbd2fe7005d5766611072b", func := "loop.example/g00941/laws.FnGreatPowers", spec := "fnGreatPowers", unfollowed := true, recurses := true, apart := false }
def FnGreatPowersSaid : Prop := fnGreatPowersRow.holds Try.pinned (OpenSpec.ofChange fnGreatPowersSpec)

/-- ITS FALSE NEIGHBOUR: 'it returns false'. Refute it at one input. -/
def fnGreatPowersWrong : ChangeSpec := { name := "fnGreatPowers", fn := fun _ => fun
  | [d] => { results := [.lit (.bool false)], args := [d] }
  | _ => none }
def FnGreatPowersWrongFalsely : Prop := fnGreatPowersRow.holds Try.pinned (OpenSpec.ofChange fnGreatPowersWrong)

/-- 'laws.FnOrbitRates': WHATEVER THE INPUT: true; the input reads as it did. -/
def fnOrbitRatesSpec : ChangeSpec := { name := "fnOrbitRates", fn := fun _ => fun
  | [d] => { results := [.lit (.bool true)], args := [d] }
  | _ => none }
def fnOrbitRatesRow : OpenClaim := { program := "ytjdcdcipilhmeaa", sum := "511f1e59add45caba72c07810aabb47965cd8fd307fbd2fe7005d5766611072b", func := "loop.example/g00941/laws.FnOrbitRates", spec := "fnOrbitRates", unfollowed := true, recurses := true, apart := false }
def FnOrbitRatesSaid : Prop := fnOrbitRatesRow.holds Try.pinned (OpenSpec.ofChange fnOrbitRatesSpec)

/-- ITS FALSE NEIGHBOUR: 'it returns false'. Refute it at one input. -/
def fnOrbitRatesWrong : ChangeSpec := { name := "fnOrbitRates", fn := fun _ => fun
  | [d] => { results := [.lit (.bool false)], args := [d] }
  | _ => none }
def FnOrbitRatesWrongFalsely : Prop := fnOrbitRatesRow.holds Try.pinned (OpenSpec.ofChange fnOrbitRatesWrong)

/-- 'laws.FnOrbits': WHATEVER THE INPUT: true; the input reads as it did. -/
def fnOrbitsSpec : ChangeSpec := { name := "fnOrbits", fn := fun _ => fun
  | [d] => { results := [.lit (.bool true)], args := [d] }
  | _ => none }
def fnOrbitsRow : OpenClaim := { program := "ytjdcdcipilhmeaa", sum := "511f1e59add45caba72c07810aabb47965cd8fd307fbd2fe7005d5766611072b", func := "loop.example/g00941/laws.FnOrbits", spec := "fnOrbits", unfollowed := true, recurses := true, apart := false }
def FnOrbitsSaid : Prop := fnOrbitsRow.holds Try.pinned (OpenSpec.ofChange fnOrbitsSpec)

/-- ITS FALSE NEIGHBOUR: 'it returns false'. Refute it at one input. -/
def fnOrbitsWrong : ChangeSpec := { name := "fnOrbits", fn := fun _ => fun
  | [d] => { results := [.lit (.bool false)], args := [d] }
  | _ => none }
def FnOrbitsWrongFalsely : Prop := fnOrbitsRow.holds Try.pinned (OpenSpec.ofChange fnOrbitsWrong)

/-- 'laws.FnRepeats': WHATEVER THE INPUT: true; the input reads as it did. -/
def fnRepeatsSpec : ChangeSpec := { name := "fnRepeats", fn := fun _ => fun
  | [d] => { results := [.lit (.bool true)], args := [d] }
  | _ => none }
def fnRepeatsRow : OpenClaim := { program := "ytjdcdcipilhmeaa", sum := "511f1e59add45caba72c07810aabb47965cd8fd307fbd2fe7005d5766611072b", func := "loop.example/g00941/laws.FnRepeats", spec := "fnRepeats", unfollowed := true, recurses := true, apart := false }
def FnRepeatsSaid : Prop := fnRepeatsRow.holds Try.pinned (OpenSpec.ofChange fnRepeatsSpec)

/-- ITS FALSE NEIGHBOUR: 'it returns false'. Refute it at one input. -/
def fnRepeatsWrong : ChangeSpec := { name := "fnRepeats", fn := fun _ => fun
  | [d] => { results := [.lit (.bool false)], args := [d] }
  | _ => none }
def FnRepeatsWrongFalsely : Prop := fnRepeatsRow.holds Try.pinned (OpenSpec.ofChange fnRepeatsWrong)

/-- 'laws.FnFullPolynomials': WHATEVER THE INPUT: true; the input reads as it did. -/
def fnFullPolynomialsSpec : ChangeSpec := { name := "fnFullPolynomials", fn := fun _ => fun
  | [d] => { results := [.lit (.bool true)], args := [d] }
  | _ => none }
def fnFullPolynomialsRow : OpenClaim := { program := "ytjdcdcipilhmeaa", sum := "511f1e59add45caba72c07810aabb47965cd8fd307fbd2fe7005d5766611072b", func := "loop.example/g00941/laws.FnFullPolynomials", spec := "fnFullPolynomials", unfollowed := true, recurses := true, apart := false }
def FnFullPolynomialsSaid : Prop := fnFullPolynomialsRow.holds Try.pinned (OpenSpec.ofChange fnFullPolynomialsSpec)

/-- ITS FALSE NEIGHBOUR: 'it returns false'. Refute it at one input. -/
def fnFullPolynomialsWrong : ChangeSpec := { name := "fnFullPolynomials", fn := fun _ => fun
  | [d] => { results := [.lit (.bool false)], args := [d] }
  | _ => none }
def FnFullPolynomialsWrongFalsely : Prop := fnFullPolynomialsRow.holds Try.pinned (OpenSpec.ofChange fnFullPolynomialsWrong)

/- THE SECOND FORM. 'bulk': how many values and letters a reading holds, each counted each time it is reached (what is shared counts as often as it is met; a slice's spare places count too). A statement '..UptoSaid' is the law's where the arguments, and the package variables that the reading takes, are together of bulk at most 1048576: NARROWER than '..Said'. Prove '..Said' where nothing that the law and all that it calls make is longer than what came in: it says more and counts as full. Else prove '..UptoSaid'. A law counts once. -/
mutual
def uptoBulk {H : Type} : DataW H → Nat
  | .lit (.string bytes) => bytes.length + 1
  | .lit _ => 1
  | .nil => 1
  | .ptr d => uptoBulk d + 1
  | .slice elems spare => uptoBulkAll elems + uptoBulkAll spare + 1
  | .agg parts => uptoBulkAll parts + 1
  | .iface _ d => uptoBulk d + 1
  | .map entries => uptoBulkEntries entries + 1
  | .held _ => 1
def uptoBulkAll {H : Type} : List (DataW H) → Nat
  | [] => 0
  | d :: r => uptoBulk d + uptoBulkAll r
def uptoBulkEntries {H : Type} : List (Lit × DataW H) → Nat
  | [] => 0
  | x :: r => uptoBulkEntry x + uptoBulkEntries r
def uptoBulkEntry {H : Type} : Lit × DataW H → Nat
  | (.string bytes, d) => bytes.length + uptoBulk d + 1
  | (_, d) => uptoBulk d + 1
 end
def uptoSmall : (H : Type) → List (DataW H) → Bool := fun _ ds => decide (uptoBulkAll ds ≤ 1048576)
def OpenSpec.upto (s : _root_.Go.ChangeSpec) : _root_.Go.OpenSpec := { _root_.Go.OpenSpec.ofChange s with cond := some uptoSmall }

/-- 'laws.FnExactOrbitRate', WHERE WHAT IT READS IS OF BULK AT MOST 1048576: true; the input reads as it did. -/
def fnExactOrbitRateUptoRow : OpenClaim := { program := "ytjdcdcipilhmeaa", sum := "511f1e59add45caba72c07810aabb47965cd8fd307fbd2fe7005d5766611072b", func := "loop.example/g00941/laws.FnExactOrbitRate", spec := "fnExactOrbitRate", unfollowed := true, recurses := true, apart := false, narrowed := true }
def FnExactOrbitRateUptoSaid : Prop := fnExactOrbitRateUptoRow.holds Try.pinned (OpenSpec.upto fnExactOrbitRateSpec)

/-- 'laws.FnGreatPowers', WHERE WHAT IT READS IS OF BULK AT MOST 1048576: true; the input reads as it did. -/
def fnGreatPowersUptoRow : OpenClaim := { program := "ytjdcdcipilhmeaa", sum := "511f1e59add45caba72c07810aabb47965cd8fd307fbd2fe7005d5766611072b", func := "loop.example/g00941/laws.FnGreatPowers", spec := "fnGreatPowers", unfollowed := true, recurses := true, apart := false, narrowed := true }
def FnGreatPowersUptoSaid : Prop := fnGreatPowersUptoRow.holds Try.pinned (OpenSpec.upto fnGreatPowersSpec)

/-- 'laws.FnOrbitRates', WHERE WHAT IT READS IS OF BULK AT MOST 1048576: true; the input reads as it did. -/
def fnOrbitRatesUptoRow : OpenClaim := { program := "ytjdcdcipilhmeaa", sum := "511f1e59add45caba72c07810aabb47965cd8fd307fbd2fe7005d5766611072b", func := "loop.example/g00941/laws.FnOrbitRates", spec := "fnOrbitRates", unfollowed := true, recurses := true, apart := false, narrowed := true }
def FnOrbitRatesUptoSaid : Prop := fnOrbitRatesUptoRow.holds Try.pinned (OpenSpec.upto fnOrbitRatesSpec)

/-- 'laws.FnOrbits', WHERE WHAT IT READS IS OF BULK AT MOST 1048576: true; the input reads as it did. -/
def fnOrbitsUptoRow : OpenClaim := { program := "ytjdcdcipilhmeaa", sum := "511f1e59add45caba72c07810aabb47965cd8fd307fbd2fe7005d5766611072b", func := "loop.example/g00941/laws.FnOrbits", spec := "fnOrbits", unfollowed := true, recurses := true, apart := false, narrowed := true }
def FnOrbitsUptoSaid : Prop := fnOrbitsUptoRow.holds Try.pinned (OpenSpec.upto fnOrbitsSpec)

/-- 'laws.FnRepeats', WHERE WHAT IT READS IS OF BULK AT MOST 1048576: true; the input reads as it did. -/
def fnRepeatsUptoRow : OpenClaim := { program := "ytjdcdcipilhmeaa", sum := "511f1e59add45caba72c07810aabb47965cd8fd307fbd2fe7005d5766611072b", func := "loop.example/g00941/laws.FnRepeats", spec := "fnRepeats", unfollowed := true, recurses := true, apart := false, narrowed := true }
def FnRepeatsUptoSaid : Prop := fnRepeatsUptoRow.holds Try.pinned (OpenSpec.upto fnRepeatsSpec)

/-- 'laws.FnFullPolynomials', WHERE WHAT IT READS IS OF BULK AT MOST 1048576: true; the input reads as it did. -/
def fnFullPolynomialsUptoRow : OpenClaim := { program := "ytjdcdcipilhmeaa", sum := "511f1e59add45caba72c07810aabb47965cd8fd307fbd2fe7005d5766611072b", func := "loop.example/g00941/laws.FnFullPolynomials", spec := "fnFullPolynomials", unfollowed := true, recurses := true, apart := false, narrowed := true }
def FnFullPolynomialsUptoSaid : Prop := fnFullPolynomialsUptoRow.holds Try.pinned (OpenSpec.upto fnFullPolynomialsSpec)

end Rows
end Go.Proofs.Ytjdcdcipilhmeaa
