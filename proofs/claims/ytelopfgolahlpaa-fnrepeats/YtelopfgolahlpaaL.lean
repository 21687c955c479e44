/-
  Proved: for every input the law FnRepeats of the given program returns true, and its arguments read behind the call as they read before.
  Conditions: None beyond the given statement.
-/
import Derived.Test.YtelopfgolahlpaaW3
import Derived.Test.YtelopfgolahlpaaB1
import Derived.Test.YtelopfgolahlpaaArg
namespace Go.Proofs.Ytelopfgolahlpaa
open Go
open Go.ChangeShapes Go.WideShapes Go.ChangeAt Go.RowKit
theorem ownk : ownKnob Try.prog.godebug = none := by kernel_rfl
theorem laidOut_ : laidOutB Try.prog = true := by kernel_rfl
theorem dec5 (w : World) : Dec Try.prog w cd5 5 inU8 := fun _ _ _ _ _ _ _ h => trod_u8 Try.underlying5 h
theorem cells5_ : Try.prog.cellsOf 5 = 1 := by kernel_rfl
set_option maxRecDepth 100000 in
set_option maxHeartbeats 4000000 in
theorem lifted (os : Os) (started : os.Started) (H : Type) (enc : TypeId × Value → H) :
    ReturnsInHanded {} Try.checked os 4 .any (Rows.fnRepeatsSpec.pre6 enc Try.prog Try.f4 Rows.fnRepeatsRow.domain false) (Rows.fnRepeatsSpec.post enc Try.prog Try.f4 false true false false) := by
  refine returnsInHanded_of_change (C := Try.checked) ownk started (by kernel_rfl) Try.func4
    (ChangeSpec.witness6 (enc := enc) (C := Try.checked) false ⟨#[], #[.slice none 0 0], []⟩ 8 (by kernel_rfl) (by kernel_rfl) (by kernel_rfl) (by kernel_rfl)) ?_
  intro W base args ds gs before hval0 hW _ _
  have hval : ∀ (j : Nat) t v, Try.f4.params[j]? = some t → args[j]? = some v → Value.okWide Try.prog W .any base t v := hval0
  have hW' := hW
  obtain ⟨p, q, hA0, hV, rfl, _, _⟩ := hW
  have hA : DataW.TrodAll enc Try.prog W 0 (fun _ => true) true Try.f4.params.toList args.toList ds p := hA0
  clear hA0 hval0
  rw [Try.params4] at hA hval
  obtain ⟨v0, vs0, d0, ds0, p0, q0, eargs, rfl, rfl, h0, hA⟩ := trodAll_cons hA
  obtain ⟨rfl, rfl, rfl⟩ := trodAll_nil hA
  obtain rfl : args = #[v0] := by cases args; simp_all
  obtain ⟨a0, c0, x0, rfl, r0, g0⟩ := arg_slice (C := cd5) Try.underlying35 cells5_ (dec5 W) (hval 0 35 v0 rfl rfl) h0
  obtain ⟨n, hn⟩ := FnRepeats_ok x0 g0
  refine ((w_laws_FnRepeats W.heap x0 a0 c0 r0 n true (hn n (Nat.le_refl _))).2 W rfl).mono ?_
  rintro e W2 ⟨v, h2, rfl, hat, rfl, hH⟩
  exact ⟨_, rfl, law_post laidOut_ (by kernel_rfl) rfl (tb := 4) rfl Try.underlying4 hW' (fun _ => rfl) hat hH.ext⟩
theorem fnRepeats_holds : Rows.FnRepeatsSaid :=
  OpenClaim.holds_of_wide 4 Try.f4 rfl rfl rfl rfl rfl rfl rfl ⟨rfl, rfl, rfl, rfl, rfl⟩ rfl rfl rfl rfl rfl (by kernel_rfl) Try.func4 (by kernel_rfl)
    (of_decide_eq_true (by kernel_rfl)) (by unfold Func.isWrapper; first | (rw [if_pos (by decide +kernel)]; kernel_rfl) | (rw [if_neg (by decide +kernel)]; exact ⟨rfl, rfl⟩))
    (fun os started H enc _ => lifted os started H enc)

end Go.Proofs.Ytelopfgolahlpaa
