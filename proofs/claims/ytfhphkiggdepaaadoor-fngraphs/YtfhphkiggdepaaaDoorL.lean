/-
  Proved: for every input the law FnGraphs of the given program returns true, and its arguments read behind the call as they read before.
  Conditions: None beyond the given statement.
-/
import Derived.Test.YtfhphkiggdepaaaDoorW3
import Derived.Test.YtfhphkiggdepaaaDoorB
import Derived.Test.YtfhphkiggdepaaaDoorArg
import Derived.Test.YtfhphkiggdepaaaDoorCards
import Derived.Test.YtfhphkiggdepaaaDoorTie
import Derived.ProofKit
import Derived.LaidMore
import Derived.OpenShut
import Derived.Lib.LaidTab
import Derived.Stop.LaidErr
import Derived.SevenTiedAt
import Derived.Deep.DeepHandedRow
import Derived.Deep.DeepWitnessRowRef
import Derived.Shelf.Vars
namespace Go.Proofs.YtfhphkiggdepaaaDoor
open Go
open Go.ChangeShapes Go.WideShapes Go.ChangeAt Go.RowKit
theorem ownk : ownKnob Tryd.prog.godebug = none := by kernel_rfl
theorem laidOut_ : laidOutB Tryd.prog = true := by kernel_rfl
theorem dec5 (w : World) : Dec Tryd.prog w cd5 5 inU8 := fun _ _ _ _ _ _ _ h => trod_u8 Tryd.underlying5 h
theorem cells5_ : Tryd.prog.cellsOf 5 = 1 := by kernel_rfl
theorem gTab : Tryd.prog.globalNamed "internal/strconv.uint64pow10" = some 0 := by kernel_rfl
theorem gTabType : (Tryd.prog.globals[0]?).map (·.type) = some 108 := by kernel_rfl
theorem cellsT_ : Tryd.prog.cellsOf 108 = 20 := by kernel_rfl
theorem cellsE_ : Tryd.prog.cellsOf 90 = 1 := by kernel_rfl
theorem pow_tab : (Rows.laid_internal_strconv_uint64pow10 : DataW Unit) = Lib.tabData .u64 Lib.pow10Tab := by kernel_rfl
theorem table {W : World} (h : laidMetH Tryd.prog Rows.fnGraphsRow.laid W) : Tab Tryd.prog W.heap := by
  rw [MakeChecks.laidMetH_plain _ _ _ (by kernel_rfl)] at h
  change laidMet Tryd.prog [("math/bits.deBruijn32tab", Rows.laid_math_bits_deBruijn32tab), ("math/bits.deBruijn64tab", Rows.laid_math_bits_deBruijn64tab), ("internal/strconv.uint64pow10", Rows.laid_internal_strconv_uint64pow10), ("unicode/utf8.acceptRanges", Rows.laid_unicode_utf8_acceptRanges), ("strconv.ErrRange", Rows.laid_strconv_ErrRange), ("strconv.ErrSyntax", Rows.laid_strconv_ErrSyntax), ("unicode/utf8.first", Rows.laid_unicode_utf8_first)] W at h
  have h := laidMet.tail (laidMet.tail (h))
  rw [pow_tab] at h
  have := Lib.tabIs_of_head (rest := [("unicode/utf8.acceptRanges", Rows.laid_unicode_utf8_acceptRanges), ("strconv.ErrRange", Rows.laid_strconv_ErrRange), ("strconv.ErrSyntax", Rows.laid_strconv_ErrSyntax), ("unicode/utf8.first", Rows.laid_unicode_utf8_first)]) gTab gTabType Tryd.underlying108 Tryd.underlying90 cellsE_ cellsT_ h
  intro w hw
  unfold Lib.TabIs at *
  rw [World.var?_heap hw]
  exact this
def putFirst (h : Heap) : Heap := h.modify 4 fun | .cells _ t fr => .cells (Go.Pinned.utf8FirstZ.map fun z : Nat => Value.int .u8 (z : Int)).toArray t fr | o => o
theorem door_met (os : Os) (args : Array Value) : laidMetH Tryd.prog Rows.fnGraphsRow.laid (({ World.doorLaid Tryd.prog 72 os with heap := putFirst (World.doorLaid Tryd.prog 72 os).heap } : World).forCall (fun _ _ => 0) ⟨#[], args, []⟩).memory :=
  laidMetH_of_parts3 (fuel := 8) (laidMet_of_run' 8 (by kernel_rfl) (by kernel_rfl)) (by kernel_rfl) (by kernel_rfl)
theorem rowE (u : TypeId) (h : Tryd.prog.typeName? 3 u = some "*errors.errorString") : u = 126 :=
  typeName_ptr_named (nm := "errors.errorString") (by rw [show "*" ++ "errors.errorString" = "*errors.errorString" by decide]; kernel_rfl) (by kernel_rfl) (by decide) u (by rw [show "*" ++ "errors.errorString" = "*errors.errorString" by decide]; exact h)
theorem cellsP_ : Tryd.prog.cellsOf 128 = 1 := by kernel_rfl
theorem cellsS_ : Tryd.prog.cellsOf 9 = 1 := by kernel_rfl
theorem atErrRange {W : World} (h : laidMetH Tryd.prog Rows.fnGraphsRow.laid W) : ∃ ev, cellH W.heap ⟨3, 0, none⟩ = some ev ∧ IfV ev := by
  rw [MakeChecks.laidMetH_plain _ _ _ (by kernel_rfl)] at h
  change laidMet Tryd.prog [("math/bits.deBruijn32tab", Rows.laid_math_bits_deBruijn32tab), ("math/bits.deBruijn64tab", Rows.laid_math_bits_deBruijn64tab), ("internal/strconv.uint64pow10", Rows.laid_internal_strconv_uint64pow10), ("unicode/utf8.acceptRanges", Rows.laid_unicode_utf8_acceptRanges), ("strconv.ErrRange", Rows.laid_strconv_ErrRange), ("strconv.ErrSyntax", Rows.laid_strconv_ErrSyntax), ("unicode/utf8.first", Rows.laid_unicode_utf8_first)] W at h
  have h := laidMet.tail (laidMet.tail (laidMet.tail (laidMet.tail (h))))
  have hg : Tryd.prog.globalNamed "strconv.ErrRange" = some 3 := by kernel_rfl
  obtain ⟨a, s, hv, _⟩ := laid_sentinel (r := [("strconv.ErrSyntax", Rows.laid_strconv_ErrSyntax), ("unicode/utf8.first", Rows.laid_unicode_utf8_first)]) h hg (ti := 74) (by kernel_rfl) Tryd.underlying74 rowE Tryd.underlying126 Tryd.underlying128 rfl rfl Tryd.underlying9 cellsP_ cellsS_
  exact ⟨_, World.var?_cell hg hv 0, .inr ⟨_, _, rfl⟩⟩
theorem atErrSyntax {W : World} (h : laidMetH Tryd.prog Rows.fnGraphsRow.laid W) : ∃ ev, cellH W.heap ⟨2, 0, none⟩ = some ev ∧ IfV ev := by
  rw [MakeChecks.laidMetH_plain _ _ _ (by kernel_rfl)] at h
  change laidMet Tryd.prog [("math/bits.deBruijn32tab", Rows.laid_math_bits_deBruijn32tab), ("math/bits.deBruijn64tab", Rows.laid_math_bits_deBruijn64tab), ("internal/strconv.uint64pow10", Rows.laid_internal_strconv_uint64pow10), ("unicode/utf8.acceptRanges", Rows.laid_unicode_utf8_acceptRanges), ("strconv.ErrRange", Rows.laid_strconv_ErrRange), ("strconv.ErrSyntax", Rows.laid_strconv_ErrSyntax), ("unicode/utf8.first", Rows.laid_unicode_utf8_first)] W at h
  have h := laidMet.tail (laidMet.tail (laidMet.tail (laidMet.tail (laidMet.tail (h)))))
  have hg : Tryd.prog.globalNamed "strconv.ErrSyntax" = some 2 := by kernel_rfl
  obtain ⟨a, s, hv, _⟩ := laid_sentinel (r := [("unicode/utf8.first", Rows.laid_unicode_utf8_first)]) h hg (ti := 74) (by kernel_rfl) Tryd.underlying74 rowE Tryd.underlying126 Tryd.underlying128 rfl rfl Tryd.underlying9 cellsP_ cellsS_
  exact ⟨_, World.var?_cell hg hv 0, .inr ⟨_, _, rfl⟩⟩
theorem globs {W : World} (h : laidMetH Tryd.prog Rows.fnGraphsRow.laid W) (hs : W.ShapedOpen Tryd.prog) : Gl Tryd.prog W.heap := by
  refine ⟨table h, fun g hg => ?_, fun g hg => ?_, fun g hg => ?_⟩
  · obtain rfl : g = 1 := Option.some.inj (hg.symm.trans (show Tryd.prog.globalNamed "internal/bytealg.MaxLen" = some 1 by kernel_rfl))
    exact cell_of_shapedOpen_int (P := Tryd.prog) (g := 1) (t := 3) (zero := #[.int .i64 0]) hs (of_decide_eq_true (by kernel_rfl)) (by kernel_rfl) rfl (by kernel_rfl) (by kernel_rfl) Tryd.underlying3
  · obtain rfl : g = 2 := Option.some.inj (hg.symm.trans (show Tryd.prog.globalNamed "strconv.ErrSyntax" = some 2 by kernel_rfl))
    exact atErrSyntax h
  · obtain rfl : g = 3 := Option.some.inj (hg.symm.trans (show Tryd.prog.globalNamed "strconv.ErrRange" = some 3 by kernel_rfl))
    exact atErrRange h
set_option maxRecDepth 100000 in
set_option maxHeartbeats 4000000 in
theorem reads (os : Os) {H : Type} (enc : TypeId × Value → H) : ∃ places, DataW.whole enc Tryd.prog (({ World.doorLaid Tryd.prog 72 os with heap := putFirst (World.doorLaid Tryd.prog 72 os).heap } : World).forCall (fun _ _ => 0) ⟨#[], #[.slice none 0 0], []⟩).memory Tryd.f3.params.toList Rows.fnGraphsSpec.vars false #[.slice none 0 0].toList 8 = some ([.nil], [], places) :=
  ⟨[], by kernel_rfl⟩
set_option maxRecDepth 100000 in
set_option maxHeartbeats 4000000 in
theorem lifted (os : Os) (started : os.Started) (H : Type) (enc : TypeId × Value → H) (F : Stop.Interp) :
    ReturnsInHanded {} Tryd.checked os 3 .any ((OpenSpec.ofChange Rows.fnGraphsSpec).preRow enc Tryd.prog Tryd.f3 Rows.fnGraphsRow.domain false Rows.fnGraphsRow.laid) (((OpenSpec.ofChange Rows.fnGraphsSpec).at F).post enc Tryd.prog Tryd.f3 false true false false) := by
  obtain ⟨places, hx⟩ := reads os enc
  refine returnsInHanded_of_row (C := Tryd.checked) (s := OpenSpec.ofChange Rows.fnGraphsSpec) ownk started (by kernel_rfl) Tryd.func3
    (witness_row_atRef (enc := enc) (C := Tryd.checked) false ({ World.doorLaid Tryd.prog 72 os with heap := putFirst (World.doorLaid Tryd.prog 72 os).heap } : World) #[.slice none 0 0] rfl (by kernel_rfl) (by kernel_rfl) (by kernel_rfl)
      (OpenSpec.preRow_of_cond 8 hx (by kernel_rfl) (fun k hk => by cases hk) (by kernel_rfl) (door_met os _))) ?_
  intro W base args ds gs before hval0 hW _ _ _ hL hS _
  show Calls Tryd.prog 3 args W fun e W' => ∃ v, e = .returned v ∧ Rows.fnGraphsSpec.post enc Tryd.prog Tryd.f3 false true false false W args v W'
  have hval : ∀ (j : Nat) t v, Tryd.f3.params[j]? = some t → args[j]? = some v → Value.okWide Tryd.prog W .any base t v := hval0
  have hW' := hW
  obtain ⟨p, q, hA0, hV, rfl, _, _⟩ := hW
  have hA : DataW.TrodAll enc Tryd.prog W 0 (fun _ => true) true Tryd.f3.params.toList args.toList ds p := hA0
  clear hA0 hval0
  rw [Tryd.params3] at hA hval
  obtain ⟨v0, vs0, d0, ds0, p0, q0, eargs, rfl, rfl, h0, hA⟩ := trodAll_cons hA
  obtain ⟨rfl, rfl, rfl⟩ := trodAll_nil hA
  obtain rfl : args = #[v0] := by cases args; simp_all
  obtain ⟨a0, c0, x0, rfl, r0, g0⟩ := arg_slice (C := cd5) Tryd.underlying22 cells5_ (dec5 W) (hval 0 22 v0 rfl rfl) h0
  obtain ⟨n, hn⟩ := FnGraphs_ok x0 g0
  refine ((w_laws_FnGraphs W.heap (globs hL hS) (table hL) x0 a0 c0 r0 n true (hn n (Nat.le_refl _))).2 W rfl).mono ?_
  rintro e W2 ⟨v, h2, rfl, hat, rfl, hH⟩
  exact ⟨_, rfl, law_post laidOut_ (by kernel_rfl) rfl (tb := 4) rfl Tryd.underlying4 hW' (fun _ => rfl) hat hH.ext⟩
theorem fnGraphs_holds : Rows.FnGraphsSaid :=
  OpenClaim.holds_of_cond 3 Tryd.f3 rfl rfl rfl rfl rfl rfl rfl ⟨rfl, rfl, rfl, rfl, rfl⟩ rfl rfl rfl rfl rfl (by kernel_rfl) Tryd.func3 (by kernel_rfl)
    (of_decide_eq_true (by kernel_rfl)) (by unfold Func.isWrapper; first | (rw [if_pos (by decide +kernel)]; kernel_rfl) | (rw [if_neg (by decide +kernel)]; exact ⟨rfl, rfl⟩))
    (fun os started H enc _ F => by rw [OpenClaim.pre_eq_preRow]; exact lifted os started H enc F)
theorem plain_ (f : FuncId) (fn : Func) (hf : Tryd.pinned.checked.prog.funcNamed "loop.example/g00941/laws.FnGraphs" = some f) (hfn : Tryd.pinned.checked.prog.funcs[f]? = some fn) :
    true = Tryd.pinned.checked.prog.looks [] ∧ ∀ (j : Nat) t, fn.params[j]? = some t → Tryd.pinned.checked.prog.wantsStandIn t = false := by
  obtain rfl : f = 3 := Option.some.inj ((show Tryd.prog.funcNamed "loop.example/g00941/laws.FnGraphs" = some 3 by kernel_rfl).symm.trans hf) |>.symm
  obtain rfl : fn = Tryd.f3 := (Option.some.inj (Tryd.func3.symm.trans hfn)).symm
  refine ⟨by kernel_rfl, fun j t ht => ?_⟩
  rw [Tryd.params3] at ht
  obtain rfl : t = 22 := by simpa using Array.mem_of_getElem? ht
  exact (show Tryd.prog.wantsStandIn 22 = false by kernel_rfl)
theorem fnGraphsCard_holds : Rows.FnGraphsCardSaid :=
  Claim7.holds_tied_plain_at .later [] _ _ _ _ fnGraphs_holds (fun _ h => by cases h) (by kernel_rfl) (fun _ h => by cases h) fnGraphs_row_tie rfl ⟨rfl, rfl⟩ (by kernel_rfl) rfl plain_ (by kernel_rfl)

end Go.Proofs.YtfhphkiggdepaaaDoor
