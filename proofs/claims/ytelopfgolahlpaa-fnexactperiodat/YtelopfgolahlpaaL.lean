/-
  Proved: for every input the law FnExactPeriodAt of the given program returns true, and its arguments read behind the call as they read before.
  Conditions: None beyond the given statement.
-/
import Derived.Test.YtelopfgolahlpaaW3
import Derived.Test.YtelopfgolahlpaaB1
import Derived.Test.YtelopfgolahlpaaArg
namespace Go.Proofs.Ytelopfgolahlpaa
open Go
open Go.ChangeShapes Go.WideShapes Go.ChangeAt Go.RowKit
theorem ownk : ownKnob Try.prog.godebug = none := by kernel_rfl
theorem laidOut_ : laidOutB Try.prog = true := by kernel_rfl
theorem dec2 (w : World) : Dec Try.prog w cd2 2 inI64 := fun _ _ _ _ _ _ _ h => trod_i64 Try.underlying2 h
theorem cells2_ : Try.prog.cellsOf 2 = 1 := by kernel_rfl
theorem dec90 (w : World) : Dec Try.prog w cd90 90 (fitL inI64) := dec_rows Try.underlying90 cells2_ (dec2 w)
theorem cells90_ : Try.prog.cellsOf 90 = 1 := by kernel_rfl
set_option maxRecDepth 100000 in
set_option maxHeartbeats 4000000 in
theorem lifted (os : Os) (started : os.Started) (H : Type) (enc : TypeId × Value → H) :
    ReturnsInHanded {} Try.checked os 5 .any (Rows.fnExactPeriodAtSpec.pre6 enc Try.prog Try.f5 Rows.fnExactPeriodAtRow.domain false) (Rows.fnExactPeriodAtSpec.post enc Try.prog Try.f5 false true false false) := by
  refine returnsInHanded_of_change (C := Try.checked) ownk started (by kernel_rfl) Try.func5
    (ChangeSpec.witness6 (enc := enc) (C := Try.checked) false ⟨#[], #[.slice none 0 0, .int .i64 0], []⟩ 8 (by kernel_rfl) (by kernel_rfl) (by kernel_rfl) (by kernel_rfl)) ?_
  intro W base args ds gs before hval0 hW _ _
  have hval : ∀ (j : Nat) t v, Try.f5.params[j]? = some t → args[j]? = some v → Value.okWide Try.prog W .any base t v := hval0
  have hW' := hW
  obtain ⟨p, q, hA0, hV, rfl, _, _⟩ := hW
  have hA : DataW.TrodAll enc Try.prog W 0 (fun _ => true) true Try.f5.params.toList args.toList ds p := hA0
  clear hA0 hval0
  rw [Try.params5] at hA hval
  obtain ⟨v0, vs0, d0, ds0, p0, q0, eargs, rfl, rfl, h0, hA⟩ := trodAll_cons hA
  obtain ⟨v1, vs1, d1, ds1, p1, q1, rfl, rfl, rfl, h1, hA⟩ := trodAll_cons hA
  obtain ⟨rfl, rfl, rfl⟩ := trodAll_nil hA
  obtain rfl : args = #[v0, v1] := by cases args; simp_all
  obtain ⟨a0, c0, x0, rfl, r0, g0⟩ := arg_slice (C := cd90) Try.underlying37 cells90_ (dec90 W) (hval 0 37 v0 rfl rfl) h0
  obtain ⟨x1, rfl, _, _, w1⟩ := open_int Try.underlying2 (hval 1 2 v1 rfl rfl) h1
  have g1 := bounds_i64 w1
  obtain ⟨n, hn⟩ := FnExactPeriodAt_ok x0 g0 x1 g1
  refine ((w_laws_FnExactPeriodAt W.heap x0 a0 c0 r0 x1 n true (hn n (Nat.le_refl _))).2 W rfl).mono ?_
  rintro e W2 ⟨v, h2, rfl, hat, rfl, hH⟩
  exact ⟨_, rfl, law_post laidOut_ (by kernel_rfl) rfl (tb := 4) rfl Try.underlying4 hW' (fun _ => rfl) hat hH.ext⟩
theorem fnExactPeriodAt_holds : Rows.FnExactPeriodAtSaid :=
  OpenClaim.holds_of_wide 5 Try.f5 rfl rfl rfl rfl rfl rfl rfl ⟨rfl, rfl, rfl, rfl, rfl⟩ rfl rfl rfl rfl rfl (by kernel_rfl) Try.func5 (by kernel_rfl)
    (of_decide_eq_true (by kernel_rfl)) (by unfold Func.isWrapper; first | (rw [if_pos (by decide +kernel)]; kernel_rfl) | (rw [if_neg (by decide +kernel)]; exact ⟨rfl, rfl⟩))
    (fun os started H enc _ => lifted os started H enc)

end Go.Proofs.Ytelopfgolahlpaa
