/-
  No cell of these rows narrows 'for every input' (looked for: loops, veiled, ifaces, maps, wideKeys, modest, calm, conditions, laid).
  DERIVED. THE GIVEN ROWS OF THIS SEAT. 3 by the template 'for every input the law returns true; each argument reads behind the call as it read before'; 0 by the template 'total and deterministic' (their statements: YtbemhgddkkggmaaTotals.lean).
  GIVEN WITH THE SEED: the statements are not yours to turn. If you find one false, say at which input.
  Laid BY PROGRAM, IN A SANDBOX (cutbox-rows.mjs): the forced cells as the released guide's own fill.sh prints them over the translation 70238ae3806d9699… (all of the seat's roots in one cut). By AI agents, Wed Nov 11 2026. No macro, syntax, notation, axiom, sorry.
-/
import Derived.Test.YtbemhgddkkggmaaChecked
import GoSem.Claim
import GoSem.ClaimJoined
import GoSem.ClaimMapViews
import Derived.JoinedTies
import Derived.KernelRfl
namespace Go.Proofs.Ytbemhgddkkggmaa
/- THE CELL 'sum', in the pinned program and in every row, IS THE sha256 OF THE DUMP (.gsa) THAT YtbemhgddkkggmaaProg.lean LOADS. Nothing in Lean hashes anything: it is a label: what it is worth is what the hold of that sum in a sandbox is worth. -/
noncomputable def Try.pinned : Pinned := { name := "ytbemhgddkkggmaa", sum := "70238ae3806d9699a98c2160df610de8ac0cd6ae81f045ddc2a0dd65ec589005", checked := Try.checked }
namespace Rows
def none {H : Type} : Left H := { results := [], args := [] }

/-- 'laws.FnExactIsLive': WHATEVER THE INPUT: true; the input reads as it did. -/
def fnExactIsLiveSpec : ChangeSpec := { name := "fnExactIsLive", fn := fun _ => fun
  | [d] => { results := [.lit (.bool true)], args := [d] }
  | _ => none }
def fnExactIsLiveRow : OpenClaim := { program := "ytbemhgddkkggmaa", sum := "70238ae3806d9699a98c2160df610de8ac0cd6ae81f045ddc2a0dd65ec589005", func := "loop.example/g00941/laws.FnExactIsLive", spec := "fnExactIsLive", unfollowed := true, recurses := true, apart := false }
def FnExactIsLiveSaid : Prop := fnExactIsLiveRow.holds Try.pinned (OpenSpec.ofChange fnExactIsLiveSpec)

/-- ITS FALSE NEIGHBOUR: 'it returns false'. Refute it at one input. -/
def fnExactIsLiveWrong : ChangeSpec := { name := "fnExactIsLive", fn := fun _ => fun
  | [d] => { results := [.lit (.bool false)], args := [d] }
  | _ => none }
def FnExactIsLiveWrongFalsely : Prop := fnExactIsLiveRow.holds Try.pinned (OpenSpec.ofChange fnExactIsLiveWrong)

/-- 'laws.FnExactDropPlace': WHATEVER THE INPUT: true; the input reads as it did. -/
def fnExactDropPlaceSpec : ChangeSpec := { name := "fnExactDropPlace", fn := fun _ => fun
  | [d1, d2] => { results := [.lit (.bool true)], args := [d1, d2] }
  | _ => none }
def fnExactDropPlaceRow : OpenClaim := { program := "ytbemhgddkkggmaa", sum := "70238ae3806d9699a98c2160df610de8ac0cd6ae81f045ddc2a0dd65ec589005", func := "loop.example/g00941/laws.FnExactDropPlace", spec := "fnExactDropPlace", unfollowed := true, recurses := true, apart := false }
def FnExactDropPlaceSaid : Prop := fnExactDropPlaceRow.holds Try.pinned (OpenSpec.ofChange fnExactDropPlaceSpec)

/-- ITS FALSE NEIGHBOUR: 'it returns false'. Refute it at one input. -/
def fnExactDropPlaceWrong : ChangeSpec := { name := "fnExactDropPlace", fn := fun _ => fun
  | [d1, d2] => { results := [.lit (.bool false)], args := [d1, d2] }
  | _ => none }
def FnExactDropPlaceWrongFalsely : Prop := fnExactDropPlaceRow.holds Try.pinned (OpenSpec.ofChange fnExactDropPlaceWrong)

/-- 'laws.FnExactSimplifyGraph': WHATEVER THE INPUT: true; the input reads as it did. -/
def fnExactSimplifyGraphSpec : ChangeSpec := { name := "fnExactSimplifyGraph", fn := fun _ => fun
  | [d] => { results := [.lit (.bool true)], args := [d] }
  | _ => none }
def fnExactSimplifyGraphRow : OpenClaim := { program := "ytbemhgddkkggmaa", sum := "70238ae3806d9699a98c2160df610de8ac0cd6ae81f045ddc2a0dd65ec589005", func := "loop.example/g00941/laws.FnExactSimplifyGraph", spec := "fnExactSimplifyGraph", unfollowed := true, recurses := true, apart := false }
def FnExactSimplifyGraphSaid : Prop := fnExactSimplifyGraphRow.holds Try.pinned (OpenSpec.ofChange fnExactSimplifyGraphSpec)

/-- ITS FALSE NEIGHBOUR: 'it returns false'. Refute it at one input. -/
def fnExactSimplifyGraphWrong : ChangeSpec := { name := "fnExactSimplifyGraph", fn := fun _ => fun
  | [d] => { results := [.lit (.bool false)], args := [d] }
  | _ => none }
def FnExactSimplifyGraphWrongFalsely : Prop := fnExactSimplifyGraphRow.holds Try.pinned (OpenSpec.ofChange fnExactSimplifyGraphWrong)

/- THE SECOND FORM. 'bulk': how many values and letters a reading holds, each counted each time it is reached (what is shared counts as often as it is met; a slice's spare places count too). A statement '..UptoSaid' is the law's where the arguments, and the package variables that the reading takes, are together of bulk at most 1048576: NARROWER than '..Said'. Prove '..Said' where nothing that the law and all that it calls make is longer than what came in: it says more and counts as full. Else prove '..UptoSaid'. A law counts once. -/
mutual
def uptoBulk {H : Type} : DataW H → Nat
  | .lit (.string bytes) => bytes.length + 1
  | .lit _ => 1
  | .nil => 1
  | .ptr d => uptoBulk d + 1
  | .slice elems spare => uptoBulkAll elems + uptoBulkAll spare + 1
  | .agg parts => uptoBulkAll parts + 1
  | .iface _ d => uptoBulk d + 1
  | .map entries => uptoBulkEntries entries + 1
  | .held _ => 1
def uptoBulkAll {H : Type} : List (DataW H) → Nat
  | [] => 0
  | d :: r => uptoBulk d + uptoBulkAll r
def uptoBulkEntries {H : Type} : List (Lit × DataW H) → Nat
  | [] => 0
  | x :: r => uptoBulkEntry x + uptoBulkEntries r
def uptoBulkEntry {H : Type} : Lit × DataW H → Nat
  | (.string bytes, d) => bytes.length + uptoBulk d + 1
  | (_, d) => uptoBulk d + 1
 end
def uptoSmall : (H : Type) → List (DataW H) → Bool := fun _ ds => decide (uptoBulkAll ds ≤ 1048576)
def OpenSpec.upto (s : _root_.Go.ChangeSpec) : _root_.Go.OpenSpec := { _root_.Go.OpenSpec.ofChange s with cond := some uptoSmall }

/-- 'laws.FnExactIsLive', WHERE WHAT IT READS IS OF BULK AT MOST 1048576: true; the input reads as it did. -/
def fnExactIsLiveUptoRow : OpenClaim := { program := "ytbemhgddkkggmaa", sum := "70238ae3806d9699a98c2160df610de8ac0cd6ae81f045ddc2a0dd65ec589005", func := "loop.example/g00941/laws.FnExactIsLive", spec := "fnExactIsLive", unfollowed := true, recurses := true, apart := false, narrowed := true }
def FnExactIsLiveUptoSaid : Prop := fnExactIsLiveUptoRow.holds Try.pinned (OpenSpec.upto fnExactIsLiveSpec)

/-- 'laws.FnExactDropPlace', WHERE WHAT IT READS IS OF BULK AT MOST 1048576: true; the input reads as it did. -/
def fnExactDropPlaceUptoRow : OpenClaim := { program := "ytbemhgddkkggmaa", sum := "70238ae3806d9699a98c2160df610de8ac0cd6ae81f045ddc2a0dd65ec589005", func := "loop.example/g00941/laws.FnExactDropPlace", spec := "fnExactDropPlace", unfollowed := true, recurses := true, apart := false, narrowed := true }
def FnExactDropPlaceUptoSaid : Prop := fnExactDropPlaceUptoRow.holds Try.pinned (OpenSpec.upto fnExactDropPlaceSpec)

/-- 'laws.FnExactSimplifyGraph', WHERE WHAT IT READS IS OF BULK AT MOST 1048576: true; the input reads as it did. -/
def fnExactSimplifyGraphUptoRow : OpenClaim := { program := "ytbemhgddkkggmaa", sum := "70238ae3806d9699a98c2160df610de8ac0cd6ae81f045ddc2a0dd65ec589005", func := "loop.example/g00941/laws.FnExactSimplifyGraph", spec := "fnExactSimplifyGraph", unfollowed := true, recurses := true, apart := false, narrowed := true }
def FnExactSimplifyGraphUptoSaid : Prop := fnExactSimplifyGraphUptoRow.holds Try.pinned (OpenSpec.upto fnExactSimplifyGraphSpec)

end Rows
end Go.Proofs.Ytbemhgddkkggmaa
