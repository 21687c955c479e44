/-
  No cell of these rows narrows 'for every input' (looked for: loops, veiled, ifaces, maps, wideKeys, modest, calm, conditions, laid).
  DERIVED. THE GIVEN ROWS OF THIS SEAT. 3 by the template 'for every input the law returns true; each argument reads behind the call as it read before'; 0 by the template 'total and deterministic' (their statements: YtelopfgolahlpaaTotals.lean).
  GIVEN WITH THE SEED: the statements are not yours to turn. If you find one false, say at which input.
  Laid BY PROGRAM, IN A SANDBOX (cutbox-rows.mjs): the forced cells as the released guide's own fill.sh prints them over the translation 807376b2cd0b3014… (all of the seat's roots in one cut). By AI agents, Wed Nov 11 2026. No macro, syntax, notation, axiom, sorry.
-/
import Derived.Test.YtelopfgolahlpaaChecked
import GoSem.Claim
import GoSem.ClaimJoined
import GoSem.ClaimMapViews
import Derived.JoinedTies
import Derived.KernelRfl
namespace Go.Proofs.Ytelopfgolahlpaa
/- THE CELL 'sum', in the pinned program and in every row, IS THE sha256 OF THE DUMP (.gsa) THAT YtelopfgolahlpaaProg.lean LOADS. Nothing in Lean hashes anything: it is a label: what it is worth is what the hold of that sum in a sandbox is worth. -/
noncomputable def Try.pinned : Pinned := { name := "ytelopfgolahlpaa", sum := "807376b2cd0b30143d1e52dd8f496475c7c380ae49f68b20ec2512b4a72bef5e", checked := Try.checked }
namespace Rows
def none {H : Type} : Left H := { results := [], args := [] }

/-- 'laws.FnExactSimplifyGraph': WHATEVER THE INPUT: true; the input reads as it did. -/
def fnExactSimplifyGraphSpec : ChangeSpec := { name := "fnExactSimplifyGraph", fn := fun _ => fun
  | [d] => { results := [.lit (.bool true)], args := [d] }
  | _ => none }
def fnExactSimplifyGraphRow : OpenClaim := { program := "ytelopfgolahlpaa", sum := "807376b2cd0b30143d1e52dd8f496475c7c380ae49f68b20ec2512b4a72bef5e", func := "loop.example/g00941/laws.FnExactSimplifyGraph", spec := "fnExactSimplifyGraph", unfollowed := true, recurses := true, apart := false }
def FnExactSimplifyGraphSaid : Prop := fnExactSimplifyGraphRow.holds Try.pinned (OpenSpec.ofChange fnExactSimplifyGraphSpec)

/-- ITS FALSE NEIGHBOUR: 'it returns false'. Refute it at one input. -/
def fnExactSimplifyGraphWrong : ChangeSpec := { name := "fnExactSimplifyGraph", fn := fun _ => fun
  | [d] => { results := [.lit (.bool false)], args := [d] }
  | _ => none }
def FnExactSimplifyGraphWrongFalsely : Prop := fnExactSimplifyGraphRow.holds Try.pinned (OpenSpec.ofChange fnExactSimplifyGraphWrong)

/-- 'laws.FnRepeats': WHATEVER THE INPUT: true; the input reads as it did. -/
def fnRepeatsSpec : ChangeSpec := { name := "fnRepeats", fn := fun _ => fun
  | [d] => { results := [.lit (.bool true)], args := [d] }
  | _ => none }
def fnRepeatsRow : OpenClaim := { program := "ytelopfgolahlpaa", sum := "807376b2cd0b30143d1e52dd8f496475c7c380ae49f68b20ec2512b4a72bef5e", func := "loop.example/g00941/laws.FnRepeats", spec := "fnRepeats", unfollowed := true, recurses := true, apart := false }
def FnRepeatsSaid : Prop := fnRepeatsRow.holds Try.pinned (OpenSpec.ofChange fnRepeatsSpec)

/-- ITS FALSE NEIGHBOUR: 'it returns false'. Refute it at one input. -/
def fnRepeatsWrong : ChangeSpec := { name := "fnRepeats", fn := fun _ => fun
  | [d] => { results := [.lit (.bool false)], args := [d] }
  | _ => none }
def FnRepeatsWrongFalsely : Prop := fnRepeatsRow.holds Try.pinned (OpenSpec.ofChange fnRepeatsWrong)

/-- 'laws.FnExactPeriodAt': WHATEVER THE INPUT: true; the input reads as it did. -/
def fnExactPeriodAtSpec : ChangeSpec := { name := "fnExactPeriodAt", fn := fun _ => fun
  | [d1, d2] => { results := [.lit (.bool true)], args := [d1, d2] }
  | _ => none }
def fnExactPeriodAtRow : OpenClaim := { program := "ytelopfgolahlpaa", sum := "807376b2cd0b30143d1e52dd8f496475c7c380ae49f68b20ec2512b4a72bef5e", func := "loop.example/g00941/laws.FnExactPeriodAt", spec := "fnExactPeriodAt", unfollowed := true, recurses := true, apart := false }
def FnExactPeriodAtSaid : Prop := fnExactPeriodAtRow.holds Try.pinned (OpenSpec.ofChange fnExactPeriodAtSpec)

/-- ITS FALSE NEIGHBOUR: 'it returns false'. Refute it at one input. -/
def fnExactPeriodAtWrong : ChangeSpec := { name := "fnExactPeriodAt", fn := fun _ => fun
  | [d1, d2] => { results := [.lit (.bool false)], args := [d1, d2] }
  | _ => none }
def FnExactPeriodAtWrongFalsely : Prop := fnExactPeriodAtRow.holds Try.pinned (OpenSpec.ofChange fnExactPeriodAtWrong)

/- THE SECOND FORM. 'bulk': how many values and letters a reading holds, each counted each time it is reached (what is shared counts as often as it is met; a slice's spare places count too). A statement '..UptoSaid' is the law's where the arguments, and the package variables that the reading takes, are together of bulk at most 1048576: NARROWER than '..Said'. Prove '..Said' where nothing that the law and all that it calls make is longer than what came in: it says more and counts as full. Else prove '..UptoSaid'. A law counts once. -/
mutual
def uptoBulk {H : Type} : DataW H → Nat
  | .lit (.string bytes) => bytes.length + 1
  | .lit _ => 1
  | .nil => 1
  | .ptr d => uptoBulk d + 1
  | .slice elems spare => uptoBulkAll elems + uptoBulkAll spare + 1
  | .agg parts => uptoBulkAll parts + 1
  | .iface _ d => uptoBulk d + 1
  | .map entries => uptoBulkEntries entries + 1
  | .held _ => 1
def uptoBulkAll {H : Type} : List (DataW H) → Nat
  | [] => 0
  | d :: r => uptoBulk d + uptoBulkAll r
def uptoBulkEntries {H : Type} : List (Lit × DataW H) → Nat
  | [] => 0
  | x :: r => uptoBulkEntry x + uptoBulkEntries r
def uptoBulkEntry {H : Type} : Lit × DataW H → Nat
  | (.string bytes, d) => bytes.length + uptoBulk d + 1
  | (_, d) => uptoBulk d + 1
 end
def uptoSmall : (H : Type) → List (DataW H) → Bool := fun _ ds => decide (uptoBulkAll ds ≤ 1048576)
def OpenSpec.upto (s : _root_.Go.ChangeSpec) : _root_.Go.OpenSpec := { _root_.Go.OpenSpec.ofChange s with cond := some uptoSmall }

/-- 'laws.FnExactSimplifyGraph', WHERE WHAT IT READS IS OF BULK AT MOST 1048576: true; the input reads as it did. -/
def fnExactSimplifyGraphUptoRow : OpenClaim := { program := "ytelopfgolahlpaa", sum := "807376b2cd0b30143d1e52dd8f496475c7c380ae49f68b20ec2512b4a72bef5e", func := "loop.example/g00941/laws.FnExactSimplifyGraph", spec := "fnExactSimplifyGraph", unfollowed := true, recurses := true, apart := false, narrowed := true }
def FnExactSimplifyGraphUptoSaid : Prop := fnExactSimplifyGraphUptoRow.holds Try.pinned (OpenSpec.upto fnExactSimplifyGraphSpec)

/-- 'laws.FnRepeats', WHERE WHAT IT READS IS OF BULK AT MOST 1048576: true; the input reads as it did. -/
def fnRepeatsUptoRow : OpenClaim := { program := "ytelopfgolahlpaa", sum := "807376b2cd0b30143d1e52dd8f496475c7c380ae49f68b20ec2512b4a72bef5e", func := "loop.example/g00941/laws.FnRepeats", spec := "fnRepeats", unfollowed := true, recurses := true, apart := false, narrowed := true }
def FnRepeatsUptoSaid : Prop := fnRepeatsUptoRow.holds Try.pinned (OpenSpec.upto fnRepeatsSpec)

/-- 'laws.FnExactPeriodAt', WHERE WHAT IT READS IS OF BULK AT MOST 1048576: true; the input reads as it did. -/
def fnExactPeriodAtUptoRow : OpenClaim := { program := "ytelopfgolahlpaa", sum := "807376b2cd0b30143d1e52dd8f496475c7c380ae49f68b20ec2512b4a72bef5e", func := "loop.example/g00941/laws.FnExactPeriodAt", spec := "fnExactPeriodAt", unfollowed := true, recurses := true, apart := false, narrowed := true }
def FnExactPeriodAtUptoSaid : Prop := fnExactPeriodAtUptoRow.holds Try.pinned (OpenSpec.upto fnExactPeriodAtSpec)

end Rows
end Go.Proofs.Ytelopfgolahlpaa
