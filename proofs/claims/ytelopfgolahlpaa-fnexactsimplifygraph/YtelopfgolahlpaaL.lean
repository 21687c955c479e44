/-
  Proved: for every input the law FnExactSimplifyGraph of the given program returns true, and its arguments read behind the call as they read before.
  Conditions: None beyond the given statement.
-/
import Derived.Test.YtelopfgolahlpaaW1
import Derived.Test.YtelopfgolahlpaaB
import Derived.Test.YtelopfgolahlpaaArg
namespace Go.Proofs.Ytelopfgolahlpaa
open Go
open Go.ChangeShapes Go.WideShapes Go.ChangeAt Go.RowKit
theorem ownk : ownKnob Try.prog.godebug = none := by kernel_rfl
theorem laidOut_ : laidOutB Try.prog = true := by kernel_rfl
theorem cells24_ : Try.prog.cellsOf 24 = 2 := by kernel_rfl
theorem cells110_ : Try.prog.cellsOf 110 = 4 := by kernel_rfl
theorem cells2_ : Try.prog.cellsOf 2 = 1 := by kernel_rfl
set_option maxRecDepth 100000 in
theorem dec110 (w : World) : Dec Try.prog w cd110 110 okTPlace := by
  intro H enc spare held n cs x h
  obtain ⟨xs, m, rfl, rfl, hl, hx, hf⟩ := DataW.trod_struct Try.underlying110 h
  rw [cells110_] at hl
  obtain ⟨c0, c1, c2, c3, rfl⟩ : ∃ c0 c1 c2 c3, cs = [c0, c1, c2, c3] := by
    match cs, hl with
    | [c0, c1, c2, c3], _ => exact ⟨c0, c1, c2, c3, rfl⟩
  have h0 : DataW.trod enc Try.prog w 0 spare held m 2 (([c0, c1, c2, c3].drop 0).take (Try.prog.cellsOf 2)) = xs[0]? := hf 0 _ rfl
  rw [List.getElem?_eq_getElem (by rw [hx]; decide), cells2_] at h0
  obtain ⟨y0, e0, g0⟩ := trod_i64 Try.underlying2 h0
  have ec0 : c0 = .int .i64 y0 := (List.cons.inj (show [c0] = _ from e0)).1
  have h1 : DataW.trod enc Try.prog w 0 spare held m 2 (([c0, c1, c2, c3].drop 1).take (Try.prog.cellsOf 2)) = xs[1]? := hf 1 _ rfl
  rw [List.getElem?_eq_getElem (by rw [hx]; decide), cells2_] at h1
  obtain ⟨y1, e1, g1⟩ := trod_i64 Try.underlying2 h1
  have ec1 : c1 = .int .i64 y1 := (List.cons.inj (show [c1] = _ from e1)).1
  have h2 : DataW.trod enc Try.prog w 0 spare held m 2 (([c0, c1, c2, c3].drop 2).take (Try.prog.cellsOf 2)) = xs[2]? := hf 2 _ rfl
  rw [List.getElem?_eq_getElem (by rw [hx]; decide), cells2_] at h2
  obtain ⟨y2, e2, g2⟩ := trod_i64 Try.underlying2 h2
  have ec2 : c2 = .int .i64 y2 := (List.cons.inj (show [c2] = _ from e2)).1
  have h3 : DataW.trod enc Try.prog w 0 spare held m 2 (([c0, c1, c2, c3].drop 3).take (Try.prog.cellsOf 2)) = xs[3]? := hf 3 _ rfl
  rw [List.getElem?_eq_getElem (by rw [hx]; decide), cells2_] at h3
  obtain ⟨y3, e3, g3⟩ := trod_i64 Try.underlying2 h3
  have ec3 : c3 = .int .i64 y3 := (List.cons.inj (show [c3] = _ from e3)).1
  subst ec0
  subst ec1
  subst ec2
  subst ec3
  exact ⟨⟨y0, y1, y2, y3⟩, rfl, ⟨g0, g1, g2, g3⟩⟩
theorem cells22_ : Try.prog.cellsOf 22 = 1 := by kernel_rfl
set_option maxRecDepth 100000 in
theorem arg24 {H : Type} {enc : TypeId × Value → H} {w : World} {base : Nat} {sp : Nat → Bool} {held : Bool} {v : Value} {d : DataW H} {ps : List MemPlace} (hval : Value.okWide Try.prog w .any base 24 v) (h : DataW.Trod enc Try.prog w 0 sp held 24 v d ps) :
    ∃ (y : TGraph) (a1 : Option Addr) (k1 : Nat), v = .agg #[.int .i64 y.Events, .slice a1 y.Places.length k1] ∧ Rd cd110 w.heap (Lt w.heap) a1 k1 y.Places ∧ okTGraph y := by
  obtain ⟨cells, rfl, _⟩ := okWide_struct Try.underlying24 hval
  obtain ⟨fuel, h⟩ := h
  obtain ⟨cs⟩ := cells
  have h : DataW.trod enc Try.prog w 0 sp held fuel 24 cs = some (d, ps) := h
  generalize (d, ps) = x at h
  obtain ⟨xs, m, rfl, rfl, hl, hx, hf⟩ := DataW.trod_struct Try.underlying24 h
  rw [cells24_] at hl
  obtain ⟨c0, c1, rfl⟩ : ∃ c0 c1, cs = [c0, c1] := by
    match cs, hl with
    | [c0, c1], _ => exact ⟨c0, c1, rfl⟩
  have h0 : DataW.trod enc Try.prog w 0 sp held m 2 (([c0, c1].drop 0).take (Try.prog.cellsOf 2)) = xs[0]? := hf 0 _ rfl
  rw [List.getElem?_eq_getElem (by rw [hx]; decide), cells2_] at h0
  obtain ⟨y0, e0, g0⟩ := trod_i64 Try.underlying2 h0
  have ec0 : c0 = .int .i64 y0 := (List.cons.inj (show [c0] = _ from e0)).1
  have h1 : DataW.trod enc Try.prog w 0 sp held m 22 (([c0, c1].drop 1).take (Try.prog.cellsOf 22)) = xs[1]? := hf 1 _ rfl
  rw [List.getElem?_eq_getElem (by rw [hx]; decide), cells22_] at h1
  obtain ⟨a1, k1, y1, e1, r1, g1⟩ := dec_slice (C := cd110) Try.underlying22 cells110_ (dec110 _) h1
  have ec1 : c1 = .slice a1 y1.length k1 := (List.cons.inj (show [c1] = _ from e1)).1
  subst ec0
  subst ec1
  exact ⟨⟨y0, y1⟩, a1, k1, rfl, r1, ⟨g0, g1⟩⟩
set_option maxRecDepth 100000 in
set_option maxHeartbeats 4000000 in
theorem lifted (os : Os) (started : os.Started) (H : Type) (enc : TypeId × Value → H) :
    ReturnsInHanded {} Try.checked os 3 .any (Rows.fnExactSimplifyGraphSpec.pre6 enc Try.prog Try.f3 Rows.fnExactSimplifyGraphRow.domain false) (Rows.fnExactSimplifyGraphSpec.post enc Try.prog Try.f3 false true false false) := by
  refine returnsInHanded_of_change (C := Try.checked) ownk started (by kernel_rfl) Try.func3
    (ChangeSpec.witness6 (enc := enc) (C := Try.checked) false ⟨#[], #[.agg #[.int .i64 0, .slice none 0 0]], []⟩ 8 (by kernel_rfl) (by kernel_rfl) (by kernel_rfl) (by kernel_rfl)) ?_
  intro W base args ds gs before hval0 hW _ _
  have hval : ∀ (j : Nat) t v, Try.f3.params[j]? = some t → args[j]? = some v → Value.okWide Try.prog W .any base t v := hval0
  have hW' := hW
  obtain ⟨p, q, hA0, hV, rfl, _, _⟩ := hW
  have hA : DataW.TrodAll enc Try.prog W 0 (fun _ => true) true Try.f3.params.toList args.toList ds p := hA0
  clear hA0 hval0
  rw [Try.params3] at hA hval
  obtain ⟨v0, vs0, d0, ds0, p0, q0, eargs, rfl, rfl, h0, hA⟩ := trodAll_cons hA
  obtain ⟨rfl, rfl, rfl⟩ := trodAll_nil hA
  obtain rfl : args = #[v0] := by cases args; simp_all
  obtain ⟨x0, a01, k01, rfl, r01, g0⟩ := arg24 (hval 0 24 v0 rfl rfl) h0
  obtain ⟨n, hn⟩ := FnExactSimplifyGraph_ok x0 g0
  refine ((w_laws_FnExactSimplifyGraph W.heap x0 a01 k01 r01 n true (hn n (Nat.le_refl _))).2 W rfl).mono ?_
  rintro e W2 ⟨v, h2, rfl, hat, rfl, hH⟩
  exact ⟨_, rfl, law_post laidOut_ (by kernel_rfl) rfl (tb := 4) rfl Try.underlying4 hW' (fun _ => rfl) hat hH.ext⟩
theorem fnExactSimplifyGraph_holds : Rows.FnExactSimplifyGraphSaid :=
  OpenClaim.holds_of_wide 3 Try.f3 rfl rfl rfl rfl rfl rfl rfl ⟨rfl, rfl, rfl, rfl, rfl⟩ rfl rfl rfl rfl rfl (by kernel_rfl) Try.func3 (by kernel_rfl)
    (of_decide_eq_true (by kernel_rfl)) (by unfold Func.isWrapper; first | (rw [if_pos (by decide +kernel)]; kernel_rfl) | (rw [if_neg (by decide +kernel)]; exact ⟨rfl, rfl⟩))
    (fun os started H enc _ => lifted os started H enc)

end Go.Proofs.Ytelopfgolahlpaa
