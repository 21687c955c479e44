/-
  Proved: for every input the law FnExactGraphText of the given program returns true, and its arguments read behind the call as they read before.
  Conditions: None beyond the given statement.
-/
import Derived.Test.YtelopfgolahlpaaDoorW0
import Derived.Test.YtelopfgolahlpaaDoorB
import Derived.Test.YtelopfgolahlpaaDoorArg
import Derived.Test.YtelopfgolahlpaaDoorCards
import Derived.Test.YtelopfgolahlpaaDoorTie
import Derived.ProofKit
import Derived.LaidMore
import Derived.OpenShut
import Derived.Lib.LaidTab
import Derived.Stop.LaidErr
import Derived.SevenTiedAt
namespace Go.Proofs.YtelopfgolahlpaaDoor
open Go
open Go.ChangeShapes Go.WideShapes Go.ChangeAt Go.RowKit
theorem ownk : ownKnob Tryd.prog.godebug = none := by kernel_rfl
theorem laidOut_ : laidOutB Tryd.prog = true := by kernel_rfl
theorem cells42_ : Tryd.prog.cellsOf 42 = 2 := by kernel_rfl
theorem cells93_ : Tryd.prog.cellsOf 93 = 4 := by kernel_rfl
theorem cells2_ : Tryd.prog.cellsOf 2 = 1 := by kernel_rfl
set_option maxRecDepth 100000 in
theorem dec93 (w : World) : Dec Tryd.prog w cd93 93 okTPlace := by
  intro H enc spare held n cs x h
  obtain ⟨xs, m, rfl, rfl, hl, hx, hf⟩ := DataW.trod_struct Tryd.underlying93 h
  rw [cells93_] at hl
  obtain ⟨c0, c1, c2, c3, rfl⟩ : ∃ c0 c1 c2 c3, cs = [c0, c1, c2, c3] := by
    match cs, hl with
    | [c0, c1, c2, c3], _ => exact ⟨c0, c1, c2, c3, rfl⟩
  have h0 : DataW.trod enc Tryd.prog w 0 spare held m 2 (([c0, c1, c2, c3].drop 0).take (Tryd.prog.cellsOf 2)) = xs[0]? := hf 0 _ rfl
  rw [List.getElem?_eq_getElem (by rw [hx]; decide), cells2_] at h0
  obtain ⟨y0, e0, g0⟩ := trod_i64 Tryd.underlying2 h0
  have ec0 : c0 = .int .i64 y0 := (List.cons.inj (show [c0] = _ from e0)).1
  have h1 : DataW.trod enc Tryd.prog w 0 spare held m 2 (([c0, c1, c2, c3].drop 1).take (Tryd.prog.cellsOf 2)) = xs[1]? := hf 1 _ rfl
  rw [List.getElem?_eq_getElem (by rw [hx]; decide), cells2_] at h1
  obtain ⟨y1, e1, g1⟩ := trod_i64 Tryd.underlying2 h1
  have ec1 : c1 = .int .i64 y1 := (List.cons.inj (show [c1] = _ from e1)).1
  have h2 : DataW.trod enc Tryd.prog w 0 spare held m 2 (([c0, c1, c2, c3].drop 2).take (Tryd.prog.cellsOf 2)) = xs[2]? := hf 2 _ rfl
  rw [List.getElem?_eq_getElem (by rw [hx]; decide), cells2_] at h2
  obtain ⟨y2, e2, g2⟩ := trod_i64 Tryd.underlying2 h2
  have ec2 : c2 = .int .i64 y2 := (List.cons.inj (show [c2] = _ from e2)).1
  have h3 : DataW.trod enc Tryd.prog w 0 spare held m 2 (([c0, c1, c2, c3].drop 3).take (Tryd.prog.cellsOf 2)) = xs[3]? := hf 3 _ rfl
  rw [List.getElem?_eq_getElem (by rw [hx]; decide), cells2_] at h3
  obtain ⟨y3, e3, g3⟩ := trod_i64 Tryd.underlying2 h3
  have ec3 : c3 = .int .i64 y3 := (List.cons.inj (show [c3] = _ from e3)).1
  subst ec0
  subst ec1
  subst ec2
  subst ec3
  exact ⟨⟨y0, y1, y2, y3⟩, rfl, ⟨g0, g1, g2, g3⟩⟩
theorem cells40_ : Tryd.prog.cellsOf 40 = 1 := by kernel_rfl
set_option maxRecDepth 100000 in
theorem arg42 {H : Type} {enc : TypeId × Value → H} {w : World} {base : Nat} {sp : Nat → Bool} {held : Bool} {v : Value} {d : DataW H} {ps : List MemPlace} (hval : Value.okWide Tryd.prog w .any base 42 v) (h : DataW.Trod enc Tryd.prog w 0 sp held 42 v d ps) :
    ∃ (y : TGraph) (a1 : Option Addr) (k1 : Nat), v = .agg #[.int .i64 y.Events, .slice a1 y.Places.length k1] ∧ Rd cd93 w.heap (Lt w.heap) a1 k1 y.Places ∧ okTGraph y := by
  obtain ⟨cells, rfl, _⟩ := okWide_struct Tryd.underlying42 hval
  obtain ⟨fuel, h⟩ := h
  obtain ⟨cs⟩ := cells
  have h : DataW.trod enc Tryd.prog w 0 sp held fuel 42 cs = some (d, ps) := h
  generalize (d, ps) = x at h
  obtain ⟨xs, m, rfl, rfl, hl, hx, hf⟩ := DataW.trod_struct Tryd.underlying42 h
  rw [cells42_] at hl
  obtain ⟨c0, c1, rfl⟩ : ∃ c0 c1, cs = [c0, c1] := by
    match cs, hl with
    | [c0, c1], _ => exact ⟨c0, c1, rfl⟩
  have h0 : DataW.trod enc Tryd.prog w 0 sp held m 2 (([c0, c1].drop 0).take (Tryd.prog.cellsOf 2)) = xs[0]? := hf 0 _ rfl
  rw [List.getElem?_eq_getElem (by rw [hx]; decide), cells2_] at h0
  obtain ⟨y0, e0, g0⟩ := trod_i64 Tryd.underlying2 h0
  have ec0 : c0 = .int .i64 y0 := (List.cons.inj (show [c0] = _ from e0)).1
  have h1 : DataW.trod enc Tryd.prog w 0 sp held m 40 (([c0, c1].drop 1).take (Tryd.prog.cellsOf 40)) = xs[1]? := hf 1 _ rfl
  rw [List.getElem?_eq_getElem (by rw [hx]; decide), cells40_] at h1
  obtain ⟨a1, k1, y1, e1, r1, g1⟩ := dec_slice (C := cd93) Tryd.underlying40 cells93_ (dec93 _) h1
  have ec1 : c1 = .slice a1 y1.length k1 := (List.cons.inj (show [c1] = _ from e1)).1
  subst ec0
  subst ec1
  exact ⟨⟨y0, y1⟩, a1, k1, rfl, r1, ⟨g0, g1⟩⟩
theorem gTab : Tryd.prog.globalNamed "internal/strconv.uint64pow10" = some 0 := by kernel_rfl
theorem gTabType : (Tryd.prog.globals[0]?).map (·.type) = some 118 := by kernel_rfl
theorem cellsT_ : Tryd.prog.cellsOf 118 = 20 := by kernel_rfl
theorem cellsE_ : Tryd.prog.cellsOf 100 = 1 := by kernel_rfl
theorem pow_tab : (Rows.laid_internal_strconv_uint64pow10 : DataW Unit) = Lib.tabData .u64 Lib.pow10Tab := by kernel_rfl
theorem table {W : World} (h : laidMetH Tryd.prog Rows.fnExactGraphTextRow.laid W) : Tab Tryd.prog W.heap := by
  rw [MakeChecks.laidMetH_plain _ _ _ (by kernel_rfl)] at h
  change laidMet Tryd.prog [("math/bits.deBruijn32tab", Rows.laid_math_bits_deBruijn32tab), ("math/bits.deBruijn64tab", Rows.laid_math_bits_deBruijn64tab), ("internal/strconv.uint64pow10", Rows.laid_internal_strconv_uint64pow10)] W at h
  have h := laidMet.tail (laidMet.tail (h))
  rw [pow_tab] at h
  have := Lib.tabIs_of_head (rest := []) gTab gTabType Tryd.underlying118 Tryd.underlying100 cellsE_ cellsT_ h
  intro w hw
  unfold Lib.TabIs at *
  rw [World.var?_heap hw]
  exact this
theorem door_met (os : Os) (args : Array Value) : laidMetH Tryd.prog Rows.fnExactGraphTextRow.laid ((World.doorLaid Tryd.prog 72 os).forCall (fun _ _ => 0) ⟨#[], args, []⟩).memory :=
  laidMetH_of_parts3 (fuel := 8) (laidMet_of_run' 8 (by kernel_rfl) (by kernel_rfl)) (by kernel_rfl) (by kernel_rfl)
set_option maxRecDepth 100000 in
set_option maxHeartbeats 4000000 in
theorem lifted (os : Os) (started : os.Started) (H : Type) (enc : TypeId × Value → H) :
    ReturnsInHanded {} Tryd.checked os 4 .any (fun w args => (Rows.fnExactGraphTextSpec.pre enc Tryd.prog Tryd.f4 Rows.fnExactGraphTextRow.domain false w args ∧ laidMetH Tryd.prog Rows.fnExactGraphTextRow.laid w) ∧ sizedMet enc Tryd.prog Tryd.f4 (OpenSpec.ofChange Rows.fnExactGraphTextSpec) false w args) (Rows.fnExactGraphTextSpec.post enc Tryd.prog Tryd.f4 false true false false) := by
  refine returnsInHanded_of_change_and (C := Tryd.checked) (X := fun w _ => laidMetH Tryd.prog Rows.fnExactGraphTextRow.laid w) (fun _ _ _ hh h => h.of_heap hh) ownk started (by kernel_rfl) Tryd.func4
    (ChangeSpec.witness_shaped (enc := enc) (C := Tryd.checked) (os := os) (X := fun w _ => laidMetH Tryd.prog Rows.fnExactGraphTextRow.laid w) false (World.doorLaid Tryd.prog 72 os) #[.agg #[.int .i64 0, .slice none 0 0]] 8 rfl (World.shaped_of_RefB (by kernel_rfl) (by kernel_rfl)) (by kernel_rfl) (by kernel_rfl) (by kernel_rfl) (door_met os _)) ?_
  intro W base args ds gs before hval0 hW _ _ hL _
  have hval : ∀ (j : Nat) t v, Tryd.f4.params[j]? = some t → args[j]? = some v → Value.okWide Tryd.prog W .any base t v := hval0
  have hW' := hW
  obtain ⟨p, q, hA0, hV, rfl, _, _⟩ := hW
  have hA : DataW.TrodAll enc Tryd.prog W 0 (fun _ => true) true Tryd.f4.params.toList args.toList ds p := hA0
  clear hA0 hval0
  rw [Tryd.params4] at hA hval
  obtain ⟨v0, vs0, d0, ds0, p0, q0, eargs, rfl, rfl, h0, hA⟩ := trodAll_cons hA
  obtain ⟨rfl, rfl, rfl⟩ := trodAll_nil hA
  obtain rfl : args = #[v0] := by cases args; simp_all
  obtain ⟨x0, a01, k01, rfl, r01, g0⟩ := arg42 (hval 0 42 v0 rfl rfl) h0
  obtain ⟨n, hn⟩ := FnExactGraphText_ok x0 g0
  refine ((w_laws_FnExactGraphText W.heap (table hL) x0 a01 k01 r01 n true (hn n (Nat.le_refl _))).2 W rfl).mono ?_
  rintro e W2 ⟨v, h2, rfl, hat, rfl, hH⟩
  exact ⟨_, rfl, law_post laidOut_ (by kernel_rfl) rfl (tb := 4) rfl Tryd.underlying4 hW' (fun _ => rfl) hat hH.ext⟩
theorem fnExactGraphText_holds : Rows.FnExactGraphTextSaid :=
  OpenClaim.holds_of_wide 4 Tryd.f4 rfl rfl rfl rfl rfl rfl rfl ⟨rfl, rfl, rfl, rfl, rfl⟩ rfl rfl rfl rfl rfl (by kernel_rfl) Tryd.func4 (by kernel_rfl)
    (of_decide_eq_true (by kernel_rfl)) (by unfold Func.isWrapper; first | (rw [if_pos (by decide +kernel)]; kernel_rfl) | (rw [if_neg (by decide +kernel)]; exact ⟨rfl, rfl⟩))
    (fun os started H enc _ => lifted os started H enc)
theorem plain_ (f : FuncId) (fn : Func) (hf : Tryd.pinned.checked.prog.funcNamed "loop.example/g00941/laws.FnExactGraphText" = some f) (hfn : Tryd.pinned.checked.prog.funcs[f]? = some fn) :
    true = Tryd.pinned.checked.prog.looks [] ∧ ∀ (j : Nat) t, fn.params[j]? = some t → Tryd.pinned.checked.prog.wantsStandIn t = false := by
  obtain rfl : f = 4 := Option.some.inj ((show Tryd.prog.funcNamed "loop.example/g00941/laws.FnExactGraphText" = some 4 by kernel_rfl).symm.trans hf) |>.symm
  obtain rfl : fn = Tryd.f4 := (Option.some.inj (Tryd.func4.symm.trans hfn)).symm
  refine ⟨by kernel_rfl, fun j t ht => ?_⟩
  rw [Tryd.params4] at ht
  obtain rfl : t = 42 := by simpa using Array.mem_of_getElem? ht
  exact (show Tryd.prog.wantsStandIn 42 = false by kernel_rfl)
theorem fnExactGraphTextCard_holds : Rows.FnExactGraphTextCardSaid :=
  Claim7.holds_tied_plain_at .later [] _ _ _ _ fnExactGraphText_holds (fun _ h => by cases h) (by kernel_rfl) (fun _ h => by cases h) fnExactGraphText_row_tie rfl ⟨rfl, rfl⟩ (by kernel_rfl) rfl plain_ (by kernel_rfl)

end Go.Proofs.YtelopfgolahlpaaDoor
