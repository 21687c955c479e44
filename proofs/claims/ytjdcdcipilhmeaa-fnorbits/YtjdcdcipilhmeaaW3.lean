/-
  Walks: each Go function, called with what reads as plain data, returns what its plain program computes.
  Conditions: None beyond the given statement.
-/
import Derived.Test.YtjdcdcipilhmeaaW2
namespace Go.Proofs.Ytjdcdcipilhmeaa
open Go
attribute [local irreducible] setL setB opA fineI idleI fineB evB okB markB markBs readyB readyBs chainB lk rho pickL dropSlot tailOK
set_option maxRecDepth 100000 in
set_option maxHeartbeats 4000000 in
theorem w_impl_TimesVector (h : Heap) (a_ : List (List Int)) (aa_ : Option Addr) (ca_ : Nat) (ra_ : Rd cd23 h (Lt h) aa_ ca_ a_) (x_ : List Int) (ax_ : Option Addr) (cx_ : Nat) (rx_ : Rd cd2 h (Lt h) ax_ cx_ x_) (n : Nat) (r : (List Int) × Int) (hF : impl_TimesVector a_ x_ n = some r) :
    Fn Try.prog 37 #[.slice aa_ a_.length ca_, .slice ax_ x_.length cx_] h fun v h' => ∃ (a0 : Option Addr) (c0 : Nat), v = .tuple #[.slice a0 r.1.length c0, .int .i64 r.2] ∧ Hold h h' [own cd2 a0 r.1.length c0 r.1] := by
  unfold impl_TimesVector at hF
  refine Fn_enter (args := [.slice aa_ a_.length ca_, .slice ax_ x_.length cx_]) Try.func37 rfl (by kernel_rfl) (by kernel_rfl) (fun w0 _ => ?_)
  have H0 := Hold.init h
  refine Run_seq ?_
  refine Run_reg 2 (by kernel_rfl) (L' := [(0, .slice aa_ a_.length ca_), (1, .slice ax_ x_.length cx_)]) ?_ ?_
  · refine QRun_b [.slice none 0 0, .int .i64 0] 0 _ (by kernel_rfl) (fun w => by kernel_rfl) ?_
    exact QRun_done [0, 1] (by kernel_rfl) (by kernel_rfl)
  refine Run_seq ?_
  refine Run_seq ?_
  obtain ⟨x1, hx1, hF⟩ := M.bind_some hF
  obtain ⟨x2, gx2, hF⟩ := M.bind_some hF
  refine Run_regC (j := 8) (C := fun x => Hold h x []) (by kernel_rfl) H0 (L' := [(0, .slice aa_ a_.length ca_), (1, .slice ax_ x_.length cx_), (13, .bool x2)]) ?_ (fun h1 H1 => ?_)
  · refine QRun_b [.slice aa_ a_.length ca_] 0 _ (by kernel_rfl) (fun w => by kernel_rfl) ?_
    refine QRun_y (.bool x1) (by kernel_rfl) (Y_call (f := 82) (args := #[.slice aa_ a_.length ca_]) (v := .bool x1) (by kernel_rfl) fun hx Hx => (w_impl_IsMatrix hx a_ aa_ ca_ (ra_.at Hx.ext) _ _ hx1).mono fun _ _ ⟨e, H'⟩ => ⟨e, Hx.call H' rfl⟩) ?_
    refine QRun_b [.bool (!x1)] 2 _ (by kernel_rfl) (fun w => by kernel_rfl) ?_
    refine QRun_seq 8 [(0, .slice aa_ a_.length ca_), (1, .slice ax_ x_.length cx_), (13, .bool x2)] ?_ ?_
    · rcases Bool.eq_false_or_eq_true (!x1) with hb1 | hb1
      · refine QRun_bool (!x1) true (by kernel_rfl) (fun w => by kernel_rfl) hb1 ?_
        have gx2 := M.ret_some ((M.ite_some gx2).1 hb1)
        refine QRun_n (by kernel_rfl) ?_
        refine QRun_n (by kernel_rfl) ?_
        refine QRun_n (by kernel_rfl) ?_
        refine QRun_bool true x2 (by kernel_rfl) (fun w => by kernel_rfl) gx2 ?_
        exact QRun_done [0, 1, 13] (by kernel_rfl) (by kernel_rfl)
      · refine QRun_bool (!x1) false (by kernel_rfl) (fun w => by kernel_rfl) hb1 ?_
        have gx2 := (M.ite_some gx2).2 hb1
        obtain ⟨x3, hx2, gx2⟩ := M.bind_some gx2
        have gx2 := M.ret_some gx2
        refine QRun_b [.slice ax_ x_.length cx_] 4 _ (by kernel_rfl) (fun w => by kernel_rfl) ?_
        refine QRun_y (.bool x3) (by kernel_rfl) (Y_cls fun hx Hx => (Y_callq (f := 91) (args := #[.slice ax_ x_.length cx_]) (v := .bool x3) (by kernel_rfl) (w_impl_isVector hx x_ ax_ cx_ (rx_.at Hx.ext) _ _ hx2))) ?_
        refine QRun_b [.bool (!x3)] 6 _ (by kernel_rfl) (fun w => by kernel_rfl) ?_
        refine QRun_bool (!x3) x2 (by kernel_rfl) (fun w => by kernel_rfl) gx2 ?_
        exact QRun_done [0, 1, 13] (by kernel_rfl) (by kernel_rfl)
    exact QRun_done [0, 1, 13] (by kernel_rfl) (by kernel_rfl)
  have H2 : Hold h h1 [] := H1
  refine Run_cond (b := x2) (by kernel_rfl) (fun hb2 => ?_) (fun hb2 => ?_)
  · have hF := (M.ite_some hF).1 hb2
    refine Run_seq ?_
    refine Run_reg 2 (by kernel_rfl) (L' := [(4, .slice none 0 0), (5, .int .i64 1)]) ?_ ?_
    · refine QRun_b [.slice none 0 0, .int .i64 1] 0 _ (by kernel_rfl) (fun w => by kernel_rfl) ?_
      exact QRun_done [4, 5] (by kernel_rfl) (by kernel_rfl)
    have hF := M.ret_some hF
    subst hF
    have H3 := H2.empty cd2
    exact Run_ret2 rfl (ResV_tmp (v := .slice none 0 0) (by kernel_rfl)) (ResV_tmp (v := .int .i64 1) (by kernel_rfl)) ⟨none, 0, rfl, H3⟩
  · have hF := (M.ite_some hF).2 hb2
    refine Run_skip ?_
    refine Run_seq ?_
    refine Run_seq ?_
    obtain ⟨x4, hx3, hF⟩ := M.bind_some hF
    obtain ⟨hx3l, hx3u, hx3⟩ := M.idx_some hx3
    obtain ⟨a1, c1, hc1, r1⟩ := ra_.row hx3
    refine Run_reg 7 (by kernel_rfl) (L' := [(0, .slice aa_ a_.length ca_), (1, .slice ax_ x_.length cx_), (20, .bool ((x4.length : Int) != (x_.length : Int)))]) ?_ ?_
    · refine QRun_b [.slice aa_ a_.length ca_] 0 _ (by kernel_rfl) (fun w => by kernel_rfl) ?_
      refine QRun_y (.pointer (some (adr aa_ (0 * 1)))) (by kernel_rfl) (Y_idx (t := 22) (e := 23) (sz := 1) (a := aa_) (n := a_.length) (cap := ca_) (kk := .i64) (i := 0) (by kernel_rfl) Try.underlying22 (by kernel_rfl) ((ra_.at H2.ext).cell hx3).1 hx3l hx3u) ?_
      refine QRun_y (.slice a1 x4.length c1) (by kernel_rfl) (Y_load1 (t := 23) (p := adr aa_ (0 * 1)) (v := .slice a1 x4.length c1) (by kernel_rfl) (fun w => by kernel_rfl) (cell_at H2.ext hc1)) ?_
      refine QRun_b [.int .i64 (x4.length : Int), .slice ax_ x_.length cx_, .int .i64 (x_.length : Int), .bool ((x4.length : Int) != (x_.length : Int))] 3 _ (by kernel_rfl) (fun w => by kernel_rfl) ?_
      exact QRun_done [0, 1, 20] (by kernel_rfl) (by kernel_rfl)
    refine Run_cond (b := (x4.length : Int) != (x_.length : Int)) (by kernel_rfl) (fun hb3 => ?_) (fun hb3 => ?_)
    · have hF := (M.ite_some hF).1 hb3
      refine Run_seq ?_
      refine Run_reg 2 (by kernel_rfl) (L' := [(4, .slice none 0 0), (5, .int .i64 5)]) ?_ ?_
      · refine QRun_b [.slice none 0 0, .int .i64 5] 0 _ (by kernel_rfl) (fun w => by kernel_rfl) ?_
        exact QRun_done [4, 5] (by kernel_rfl) (by kernel_rfl)
      have hF := M.ret_some hF
      subst hF
      have H4 := H2.empty cd2
      exact Run_ret2 rfl (ResV_tmp (v := .slice none 0 0) (by kernel_rfl)) (ResV_tmp (v := .int .i64 5) (by kernel_rfl)) ⟨none, 0, rfl, H4⟩
    · have hF := (M.ite_some hF).2 hb3
      refine Run_skip ?_
      refine Run_seq ?_
      refine Run_ops ?_
      refine Run_b [.slice aa_ a_.length ca_, .slice ax_ x_.length cx_] 0 _ (by kernel_rfl) (fun w => by kernel_rfl) ?_
      obtain ⟨x5, hx4, hF⟩ := M.bind_some hF
      refine Run_E (by kernel_rfl) ?_
      refine E_call (f := 103) (args := #[.slice aa_ a_.length ca_, .slice ax_ x_.length cx_]) (w_impl_timesVector h1 a_ aa_ ca_ (ra_.at H2.ext) x_ ax_ cx_ (rx_.at H2.ext) _ _ hx4) (by kernel_rfl) (fun v1 h2 hp1 => ?_)
      obtain ⟨a2, c2, rfl, H5⟩ := hp1
      have H6 : Hold h h2 [own cd2 a2 x5.length c2 x5] := H2.call H5 rfl
      obtain ⟨x6, hx5, hF⟩ := M.bind_some hF
      refine Run_E (by kernel_rfl) ?_
      refine E_call (f := 93) (args := #[.slice a2 x5.length c2]) (w_impl_checkedVector h2 x5 a2 c2 (H6.rd 0 rfl) _ _ hx5) (by kernel_rfl) (fun v2 h3 hp2 => ?_)
      obtain ⟨a3, c3, rfl, hd1, H7⟩ := hp2
      have H8 : Hold h h3 [own cd2 a2 x5.length c2 x5] := H6.call H7 rfl
      have H9 := H8.alias hd1
      refine Run_b [.slice a3 x6.1.length c3, .int .i64 x6.2, .slice a3 x6.1.length c3, .int .i64 x6.2] 4 _ (by kernel_rfl) (fun w => by kernel_rfl) ?_
      refine Run_nil (by kernel_rfl) ?_
      refine Run_keep [4, 5] (L' := [(4, .slice a3 x6.1.length c3), (5, .int .i64 x6.2)]) (by kernel_rfl) ?_
      have hF := M.ret_some hF
      subst hF
      exact Run_ret2 rfl (ResV_tmp (v := .slice a3 x6.1.length c3) (by kernel_rfl)) (ResV_tmp (v := .int .i64 x6.2) (by kernel_rfl)) ⟨a3, c3, rfl, H9⟩

set_option maxRecDepth 100000 in
set_option maxHeartbeats 4000000 in
theorem w_laws_FnOrbits (h : Heap) (code : List Int) (acode : Option Addr) (ccode : Nat) (rcode : Rd cd5 h (Lt h) acode ccode code) (n : Nat) (r : Bool) (hF : laws_FnOrbits code n = some r) :
    Fn Try.prog 6 #[.slice acode code.length ccode] h fun v h' => v = .bool r ∧ Hold h h' [] := by
  unfold laws_FnOrbits at hF
  refine Fn_enter (args := [.slice acode code.length ccode]) Try.func6 rfl (by kernel_rfl) (by kernel_rfl) (fun w0 _ => ?_)
  have H0 := Hold.init h
  refine Run_seq ?_
  refine Run_reg 1 (by kernel_rfl) (L' := [(0, .slice acode code.length ccode)]) ?_ ?_
  · refine QRun_b [.bool false] 0 _ (by kernel_rfl) (fun w => by kernel_rfl) ?_
    exact QRun_done [0] (by kernel_rfl) (by kernel_rfl)
  refine Run_seq ?_
  refine Run_seq ?_
  obtain ⟨x1, hx1, hF⟩ := M.bind_some hF
  refine Run_reg 2 (by kernel_rfl) (L' := [(0, .slice acode code.length ccode), (28, .bool x1)]) ?_ ?_
  · refine QRun_b [.slice acode code.length ccode] 0 _ (by kernel_rfl) (fun w => by kernel_rfl) ?_
    refine QRun_y (.bool x1) (by kernel_rfl) (Y_callq (f := 17) (args := #[.slice acode code.length ccode]) (v := .bool x1) (by kernel_rfl) (w_laws_big h code acode ccode rcode _ _ hx1)) ?_
    exact QRun_done [0, 28] (by kernel_rfl) (by kernel_rfl)
  refine Run_cond (b := x1) (by kernel_rfl) (fun hb1 => ?_) (fun hb1 => ?_)
  · have hF := (M.ite_some hF).1 hb1
    refine Run_seq ?_
    refine Run_reg 1 (by kernel_rfl) (L' := [(2, .bool true)]) ?_ ?_
    · refine QRun_b [.bool true] 0 _ (by kernel_rfl) (fun w => by kernel_rfl) ?_
      exact QRun_done [2] (by kernel_rfl) (by kernel_rfl)
    have hF := M.ret_some hF
    subst hF
    exact Run_ret1 rfl (ResV_tmp (v := .bool true) (by kernel_rfl)) ⟨rfl, H0⟩
  · have hF := (M.ite_some hF).2 hb1
    refine Run_skip ?_
    refine Run_seq ?_
    refine Run_ops ?_
    refine Run_b [.slice acode code.length ccode] 0 _ (by kernel_rfl) (fun w => by kernel_rfl) ?_
    obtain ⟨x2, hx2, hF⟩ := M.bind_some hF
    refine Run_E (by kernel_rfl) ?_
    refine E_call (f := 28) (args := #[.slice acode code.length ccode]) (w_spec_DrawOrbitOf h code acode ccode rcode _ _ hx2) (by kernel_rfl) (fun v1 h1 hp1 => ?_)
    obtain ⟨a1, c1, a2, c2, rfl, H1⟩ := hp1
    have H2 : Hold h h1 [own cd23 a1 x2.1.length c1 x2.1, own cd2 a2 x2.2.1.length c2 x2.2.1] := H0.call H1 rfl
    refine Run_b [.tuple #[.slice a1 x2.1.length c1, .slice a2 x2.2.1.length c2, .int .i64 x2.2.2], .slice a1 x2.1.length c1, .slice a2 x2.2.1.length c2, .int .i64 x2.2.2, .slice a1 x2.1.length c1, .slice a2 x2.2.1.length c2, .int .i64 x2.2.2] 2 _ (by kernel_rfl) (fun w => by kernel_rfl) ?_
    refine Run_nil (by kernel_rfl) ?_
    refine Run_keep [0, 3, 4, 5] (L' := [(0, .slice acode code.length ccode), (3, .slice a1 x2.1.length c1), (4, .slice a2 x2.2.1.length c2), (5, .int .i64 x2.2.2)]) (by kernel_rfl) ?_
    refine Run_seq ?_
    refine Run_ops ?_
    refine Run_b [.slice a1 x2.1.length c1, .slice a2 x2.2.1.length c2, .int .i64 x2.2.2] 0 _ (by kernel_rfl) (fun w => by kernel_rfl) ?_
    obtain ⟨x3, hx3, hF⟩ := M.bind_some hF
    refine Run_E (by kernel_rfl) ?_
    refine E_call (f := 25) (args := #[.slice a1 x2.1.length c1, .slice a2 x2.2.1.length c2, .int .i64 x2.2.2]) (w_impl_OrbitOf h1 x2.1 a1 c1 (H2.rd 0 rfl) x2.2.1 a2 c2 (H2.rd 1 rfl) x2.2.2 _ _ hx3) (by kernel_rfl) (fun v2 h2 hp2 => ?_)
    obtain ⟨a3, c3, rfl, H3⟩ := hp2
    have H4 : Hold h h2 [own cd23 a3 x3.1.length c3 x3.1, own cd23 a1 x2.1.length c1 x2.1, own cd2 a2 x2.2.1.length c2 x2.2.1] := H2.call H3 rfl
    refine Run_b [.tuple #[.slice a3 x3.1.length c3, .int .i64 x3.2], .slice a3 x3.1.length c3, .int .i64 x3.2, .slice a3 x3.1.length c3, .int .i64 x3.2] 4 _ (by kernel_rfl) (fun w => by kernel_rfl) ?_
    refine Run_nil (by kernel_rfl) ?_
    refine Run_keep [0, 3, 4, 5, 6, 7] (L' := [(0, .slice acode code.length ccode), (3, .slice a1 x2.1.length c1), (4, .slice a2 x2.2.1.length c2), (5, .int .i64 x2.2.2), (6, .slice a3 x3.1.length c3), (7, .int .i64 x3.2)]) (by kernel_rfl) ?_
    refine Run_seq ?_
    refine Run_ops ?_
    refine Run_b [.slice a1 x2.1.length c1, .slice a2 x2.2.1.length c2, .int .i64 x2.2.2] 0 _ (by kernel_rfl) (fun w => by kernel_rfl) ?_
    obtain ⟨x4, hx4, hF⟩ := M.bind_some hF
    refine Run_E (by kernel_rfl) ?_
    refine E_call (f := 29) (args := #[.slice a1 x2.1.length c1, .slice a2 x2.2.1.length c2, .int .i64 x2.2.2]) (w_spec_OrbitOf h2 x2.1 a1 c1 (H4.rd 1 rfl) x2.2.1 a2 c2 (H4.rd 2 rfl) x2.2.2 _ _ hx4) (by kernel_rfl) (fun v3 h3 hp3 => ?_)
    obtain ⟨a4, c4, rfl, H5⟩ := hp3
    have H6 : Hold h h3 [own cd23 a4 x4.1.length c4 x4.1, own cd23 a3 x3.1.length c3 x3.1, own cd23 a1 x2.1.length c1 x2.1, own cd2 a2 x2.2.1.length c2 x2.2.1] := H4.call H5 rfl
    refine Run_b [.tuple #[.slice a4 x4.1.length c4, .int .i64 x4.2], .slice a4 x4.1.length c4, .int .i64 x4.2, .slice a4 x4.1.length c4, .int .i64 x4.2] 4 _ (by kernel_rfl) (fun w => by kernel_rfl) ?_
    refine Run_nil (by kernel_rfl) ?_
    refine Run_keep [0, 3, 4, 5, 6, 7, 8, 9] (L' := [(0, .slice acode code.length ccode), (3, .slice a1 x2.1.length c1), (4, .slice a2 x2.2.1.length c2), (5, .int .i64 x2.2.2), (6, .slice a3 x3.1.length c3), (7, .int .i64 x3.2), (8, .slice a4 x4.1.length c4), (9, .int .i64 x4.2)]) (by kernel_rfl) ?_
    refine Run_seq ?_
    refine Run_ops ?_
    refine Run_b [.slice acode code.length ccode] 0 _ (by kernel_rfl) (fun w => by kernel_rfl) ?_
    obtain ⟨x5, hx5, hF⟩ := M.bind_some hF
    refine Run_E (by kernel_rfl) ?_
    refine E_call (f := 30) (args := #[.slice acode code.length ccode]) (w_spec_DrawSteadyState h3 code acode ccode (rcode.at H6.ext) _ _ hx5) (by kernel_rfl) (fun v4 h4 hp4 => ?_)
    obtain ⟨a5, c5, a6, c6, rfl, H7⟩ := hp4
    have H8 : Hold h h4 [own cd23 a5 x5.1.length c5 x5.1, own cd2 a6 x5.2.length c6 x5.2, own cd23 a4 x4.1.length c4 x4.1, own cd23 a3 x3.1.length c3 x3.1, own cd23 a1 x2.1.length c1 x2.1, own cd2 a2 x2.2.1.length c2 x2.2.1] := H6.call H7 rfl
    refine Run_b [.tuple #[.slice a5 x5.1.length c5, .slice a6 x5.2.length c6], .slice a5 x5.1.length c5, .slice a6 x5.2.length c6, .slice a5 x5.1.length c5, .slice a6 x5.2.length c6] 2 _ (by kernel_rfl) (fun w => by kernel_rfl) ?_
    refine Run_nil (by kernel_rfl) ?_
    refine Run_keep [0, 3, 4, 5, 6, 7, 8, 9, 10, 11] (L' := [(0, .slice acode code.length ccode), (3, .slice a1 x2.1.length c1), (4, .slice a2 x2.2.1.length c2), (5, .int .i64 x2.2.2), (6, .slice a3 x3.1.length c3), (7, .int .i64 x3.2), (8, .slice a4 x4.1.length c4), (9, .int .i64 x4.2), (10, .slice a5 x5.1.length c5), (11, .slice a6 x5.2.length c6)]) (by kernel_rfl) ?_
    refine Run_seq ?_
    refine Run_ops ?_
    refine Run_b [.slice a5 x5.1.length c5, .slice a6 x5.2.length c6] 0 _ (by kernel_rfl) (fun w => by kernel_rfl) ?_
    obtain ⟨x6, hx6, hF⟩ := M.bind_some hF
    refine Run_E (by kernel_rfl) ?_
    refine E_call (f := 31) (args := #[.slice a5 x5.1.length c5, .slice a6 x5.2.length c6]) (w_impl_SteadyState h4 x5.1 a5 c5 (H8.rd 0 rfl) x5.2 a6 c6 (H8.rd 1 rfl) _ _ hx6) (by kernel_rfl) (fun v5 h5 hp5 => ?_)
    obtain ⟨a7, c7, rfl, H9⟩ := hp5
    have H10 : Hold h h5 [own cd2 a7 x6.1.length c7 x6.1, own cd23 a5 x5.1.length c5 x5.1, own cd2 a6 x5.2.length c6 x5.2, own cd23 a4 x4.1.length c4 x4.1, own cd23 a3 x3.1.length c3 x3.1, own cd23 a1 x2.1.length c1 x2.1, own cd2 a2 x2.2.1.length c2 x2.2.1] := H8.call H9 rfl
    refine Run_b [.tuple #[.slice a7 x6.1.length c7, .int .i64 x6.2], .slice a7 x6.1.length c7, .int .i64 x6.2, .slice a7 x6.1.length c7, .int .i64 x6.2] 3 _ (by kernel_rfl) (fun w => by kernel_rfl) ?_
    refine Run_nil (by kernel_rfl) ?_
    refine Run_keep [0, 3, 4, 5, 6, 7, 8, 9, 10, 11, 12, 13] (L' := [(0, .slice acode code.length ccode), (3, .slice a1 x2.1.length c1), (4, .slice a2 x2.2.1.length c2), (5, .int .i64 x2.2.2), (6, .slice a3 x3.1.length c3), (7, .int .i64 x3.2), (8, .slice a4 x4.1.length c4), (9, .int .i64 x4.2), (10, .slice a5 x5.1.length c5), (11, .slice a6 x5.2.length c6), (12, .slice a7 x6.1.length c7), (13, .int .i64 x6.2)]) (by kernel_rfl) ?_
    refine Run_seq ?_
    refine Run_ops ?_
    refine Run_b [.slice a5 x5.1.length c5, .slice a6 x5.2.length c6] 0 _ (by kernel_rfl) (fun w => by kernel_rfl) ?_
    obtain ⟨x7, hx7, hF⟩ := M.bind_some hF
    refine Run_E (by kernel_rfl) ?_
    refine E_call (f := 32) (args := #[.slice a5 x5.1.length c5, .slice a6 x5.2.length c6]) (w_spec_SteadyState h5 x5.1 a5 c5 (H10.rd 1 rfl) x5.2 a6 c6 (H10.rd 2 rfl) _ _ hx7) (by kernel_rfl) (fun v6 h6 hp6 => ?_)
    obtain ⟨a8, c8, rfl, H11⟩ := hp6
    have H12 : Hold h h6 [own cd2 a8 x7.1.length c8 x7.1, own cd2 a7 x6.1.length c7 x6.1, own cd23 a5 x5.1.length c5 x5.1, own cd2 a6 x5.2.length c6 x5.2, own cd23 a4 x4.1.length c4 x4.1, own cd23 a3 x3.1.length c3 x3.1, own cd23 a1 x2.1.length c1 x2.1, own cd2 a2 x2.2.1.length c2 x2.2.1] := H10.call H11 rfl
    refine Run_b [.tuple #[.slice a8 x7.1.length c8, .int .i64 x7.2], .slice a8 x7.1.length c8, .int .i64 x7.2, .slice a8 x7.1.length c8, .int .i64 x7.2] 3 _ (by kernel_rfl) (fun w => by kernel_rfl) ?_
    refine Run_nil (by kernel_rfl) ?_
    refine Run_keep [0, 3, 4, 5, 6, 7, 8, 9, 12, 13, 14, 15] (L' := [(0, .slice acode code.length ccode), (3, .slice a1 x2.1.length c1), (4, .slice a2 x2.2.1.length c2), (5, .int .i64 x2.2.2), (6, .slice a3 x3.1.length c3), (7, .int .i64 x3.2), (8, .slice a4 x4.1.length c4), (9, .int .i64 x4.2), (12, .slice a7 x6.1.length c7), (13, .int .i64 x6.2), (14, .slice a8 x7.1.length c8), (15, .int .i64 x7.2)]) (by kernel_rfl) ?_
    refine Run_seq ?_
    refine Run_ops ?_
    refine Run_b [.slice acode code.length ccode] 0 _ (by kernel_rfl) (fun w => by kernel_rfl) ?_
    obtain ⟨x8, hx8, hF⟩ := M.bind_some hF
    refine Run_E (by kernel_rfl) ?_
    refine E_call (f := 33) (args := #[.slice acode code.length ccode]) (w_spec_DrawShiftVector h6 code acode ccode (rcode.at H12.ext) _ _ hx8) (by kernel_rfl) (fun v7 h7 hp7 => ?_)
    obtain ⟨a9, c9, rfl, H13⟩ := hp7
    have H14 : Hold h h7 [own cd2 a9 x8.1.length c9 x8.1, own cd2 a8 x7.1.length c8 x7.1, own cd2 a7 x6.1.length c7 x6.1, own cd23 a5 x5.1.length c5 x5.1, own cd2 a6 x5.2.length c6 x5.2, own cd23 a4 x4.1.length c4 x4.1, own cd23 a3 x3.1.length c3 x3.1, own cd23 a1 x2.1.length c1 x2.1, own cd2 a2 x2.2.1.length c2 x2.2.1] := H12.call H13 rfl
    refine Run_b [.tuple #[.slice a9 x8.1.length c9, .int .i64 x8.2], .slice a9 x8.1.length c9, .int .i64 x8.2, .slice a9 x8.1.length c9, .int .i64 x8.2] 2 _ (by kernel_rfl) (fun w => by kernel_rfl) ?_
    refine Run_nil (by kernel_rfl) ?_
    refine Run_keep [3, 4, 5, 6, 7, 8, 9, 12, 13, 14, 15, 16, 17] (L' := [(3, .slice a1 x2.1.length c1), (4, .slice a2 x2.2.1.length c2), (5, .int .i64 x2.2.2), (6, .slice a3 x3.1.length c3), (7, .int .i64 x3.2), (8, .slice a4 x4.1.length c4), (9, .int .i64 x4.2), (12, .slice a7 x6.1.length c7), (13, .int .i64 x6.2), (14, .slice a8 x7.1.length c8), (15, .int .i64 x7.2), (16, .slice a9 x8.1.length c9), (17, .int .i64 x8.2)]) (by kernel_rfl) ?_
    refine Run_seq ?_
    refine Run_ops ?_
    refine Run_b [.slice a9 x8.1.length c9, .int .i64 x8.2] 0 _ (by kernel_rfl) (fun w => by kernel_rfl) ?_
    obtain ⟨x9, hx9, hF⟩ := M.bind_some hF
    refine Run_E (by kernel_rfl) ?_
    refine E_call (f := 26) (args := #[.slice a9 x8.1.length c9, .int .i64 x8.2]) (w_impl_ShiftVector h7 x8.1 a9 c9 (H14.rd 0 rfl) x8.2 _ _ hx9) (by kernel_rfl) (fun v8 h8 hp8 => ?_)
    obtain ⟨a10, c10, rfl, H15⟩ := hp8
    have H16 : Hold h h8 [own cd2 a10 x9.1.length c10 x9.1, own cd2 a9 x8.1.length c9 x8.1, own cd2 a8 x7.1.length c8 x7.1, own cd2 a7 x6.1.length c7 x6.1, own cd23 a5 x5.1.length c5 x5.1, own cd2 a6 x5.2.length c6 x5.2, own cd23 a4 x4.1.length c4 x4.1, own cd23 a3 x3.1.length c3 x3.1, own cd23 a1 x2.1.length c1 x2.1, own cd2 a2 x2.2.1.length c2 x2.2.1] := H14.call H15 rfl
    refine Run_b [.tuple #[.slice a10 x9.1.length c10, .int .i64 x9.2], .slice a10 x9.1.length c10, .int .i64 x9.2, .slice a10 x9.1.length c10, .int .i64 x9.2] 3 _ (by kernel_rfl) (fun w => by kernel_rfl) ?_
    refine Run_nil (by kernel_rfl) ?_
    refine Run_keep [3, 4, 5, 6, 7, 8, 9, 12, 13, 14, 15, 16, 17, 18, 19] (L' := [(3, .slice a1 x2.1.length c1), (4, .slice a2 x2.2.1.length c2), (5, .int .i64 x2.2.2), (6, .slice a3 x3.1.length c3), (7, .int .i64 x3.2), (8, .slice a4 x4.1.length c4), (9, .int .i64 x4.2), (12, .slice a7 x6.1.length c7), (13, .int .i64 x6.2), (14, .slice a8 x7.1.length c8), (15, .int .i64 x7.2), (16, .slice a9 x8.1.length c9), (17, .int .i64 x8.2), (18, .slice a10 x9.1.length c10), (19, .int .i64 x9.2)]) (by kernel_rfl) ?_
    refine Run_seq ?_
    refine Run_ops ?_
    refine Run_b [.slice a9 x8.1.length c9, .int .i64 x8.2] 0 _ (by kernel_rfl) (fun w => by kernel_rfl) ?_
    obtain ⟨x10, hx10, hF⟩ := M.bind_some hF
    refine Run_E (by kernel_rfl) ?_
    refine E_call (f := 34) (args := #[.slice a9 x8.1.length c9, .int .i64 x8.2]) (w_spec_ShiftVector h8 x8.1 a9 c9 (H16.rd 1 rfl) x8.2 _ _ hx10) (by kernel_rfl) (fun v9 h9 hp9 => ?_)
    obtain ⟨a11, c11, rfl, H17⟩ := hp9
    have H18 : Hold h h9 [own cd2 a11 x10.1.length c11 x10.1, own cd2 a10 x9.1.length c10 x9.1, own cd2 a9 x8.1.length c9 x8.1, own cd2 a8 x7.1.length c8 x7.1, own cd2 a7 x6.1.length c7 x6.1, own cd23 a5 x5.1.length c5 x5.1, own cd2 a6 x5.2.length c6 x5.2, own cd23 a4 x4.1.length c4 x4.1, own cd23 a3 x3.1.length c3 x3.1, own cd23 a1 x2.1.length c1 x2.1, own cd2 a2 x2.2.1.length c2 x2.2.1] := H16.call H17 rfl
    refine Run_b [.tuple #[.slice a11 x10.1.length c11, .int .i64 x10.2], .slice a11 x10.1.length c11, .int .i64 x10.2, .slice a11 x10.1.length c11, .int .i64 x10.2] 3 _ (by kernel_rfl) (fun w => by kernel_rfl) ?_
    refine Run_nil (by kernel_rfl) ?_
    refine Run_keep [3, 4, 5, 6, 7, 8, 9, 12, 13, 14, 15, 18, 19, 20, 21] (L' := [(3, .slice a1 x2.1.length c1), (4, .slice a2 x2.2.1.length c2), (5, .int .i64 x2.2.2), (6, .slice a3 x3.1.length c3), (7, .int .i64 x3.2), (8, .slice a4 x4.1.length c4), (9, .int .i64 x4.2), (12, .slice a7 x6.1.length c7), (13, .int .i64 x6.2), (14, .slice a8 x7.1.length c8), (15, .int .i64 x7.2), (18, .slice a10 x9.1.length c10), (19, .int .i64 x9.2), (20, .slice a11 x10.1.length c11), (21, .int .i64 x10.2)]) (by kernel_rfl) ?_
    refine Run_seq ?_
    refine Run_seq ?_
    obtain ⟨x11, gx11, hF⟩ := M.bind_some hF
    obtain ⟨x14, gx14, hF⟩ := M.bind_some hF
    obtain ⟨x17, gx17, hF⟩ := M.bind_some hF
    refine Run_reg 31 (by kernel_rfl) (L' := [(3, .slice a1 x2.1.length c1), (4, .slice a2 x2.2.1.length c2), (5, .int .i64 x2.2.2), (6, .slice a3 x3.1.length c3), (7, .int .i64 x3.2), (12, .slice a7 x6.1.length c7), (13, .int .i64 x6.2), (113, .bool x17)]) ?_ ?_
    · refine QRun_b [.int .i64 x3.2, .int .i64 x4.2, .bool (x3.2 != x4.2)] 0 _ (by kernel_rfl) (fun w => by kernel_rfl) ?_
      refine QRun_seq 9 [(3, .slice a1 x2.1.length c1), (4, .slice a2 x2.2.1.length c2), (5, .int .i64 x2.2.2), (6, .slice a3 x3.1.length c3), (7, .int .i64 x3.2), (12, .slice a7 x6.1.length c7), (13, .int .i64 x6.2), (14, .slice a8 x7.1.length c8), (15, .int .i64 x7.2), (18, .slice a10 x9.1.length c10), (19, .int .i64 x9.2), (20, .slice a11 x10.1.length c11), (21, .int .i64 x10.2), (91, .bool x11)] ?_ ?_
      · rcases Bool.eq_false_or_eq_true (x3.2 != x4.2) with hb2 | hb2
        · refine QRun_bool (x3.2 != x4.2) true (by kernel_rfl) (fun w => by kernel_rfl) hb2 ?_
          have gx11 := M.ret_some ((M.ite_some gx11).1 hb2)
          refine QRun_n (by kernel_rfl) ?_
          refine QRun_n (by kernel_rfl) ?_
          refine QRun_n (by kernel_rfl) ?_
          refine QRun_n (by kernel_rfl) ?_
          refine QRun_bool true x11 (by kernel_rfl) (fun w => by kernel_rfl) gx11 ?_
          exact QRun_done [3, 4, 5, 6, 7, 12, 13, 14, 15, 18, 19, 20, 21, 91] (by kernel_rfl) (by kernel_rfl)
        · refine QRun_bool (x3.2 != x4.2) false (by kernel_rfl) (fun w => by kernel_rfl) hb2 ?_
          have gx11 := (M.ite_some gx11).2 hb2
          obtain ⟨x12, hx11, gx11⟩ := M.bind_some gx11
          have gx11 := M.ret_some gx11
          refine QRun_b [.slice a3 x3.1.length c3, .slice a4 x4.1.length c4] 4 _ (by kernel_rfl) (fun w => by kernel_rfl) ?_
          refine QRun_y (.bool x12) (by kernel_rfl) (Y_callq (f := 35) (args := #[.slice a3 x3.1.length c3, .slice a4 x4.1.length c4]) (v := .bool x12) (by kernel_rfl) (w_laws_likeTables9 h9 x3.1 a3 c3 (H18.rd 8 rfl) x4.1 a4 c4 (H18.rd 7 rfl) _ _ hx11)) ?_
          refine QRun_b [.bool (!x12)] 7 _ (by kernel_rfl) (fun w => by kernel_rfl) ?_
          refine QRun_bool (!x12) x11 (by kernel_rfl) (fun w => by kernel_rfl) gx11 ?_
          exact QRun_done [3, 4, 5, 6, 7, 12, 13, 14, 15, 18, 19, 20, 21, 91] (by kernel_rfl) (by kernel_rfl)
      refine QRun_seq 14 [(3, .slice a1 x2.1.length c1), (4, .slice a2 x2.2.1.length c2), (5, .int .i64 x2.2.2), (6, .slice a3 x3.1.length c3), (7, .int .i64 x3.2), (12, .slice a7 x6.1.length c7), (13, .int .i64 x6.2), (14, .slice a8 x7.1.length c8), (18, .slice a10 x9.1.length c10), (19, .int .i64 x9.2), (20, .slice a11 x10.1.length c11), (21, .int .i64 x10.2), (96, .bool (x11 || (x6.2 != x7.2)))] ?_ ?_
      · rcases Bool.eq_false_or_eq_true x11 with hb3 | hb3
        · refine QRun_bool x11 true (by kernel_rfl) (fun w => by kernel_rfl) hb3 ?_
          refine QRun_n (by kernel_rfl) ?_
          refine QRun_n (by kernel_rfl) ?_
          refine QRun_n (by kernel_rfl) ?_
          refine QRun_bool true (x11 || (x6.2 != x7.2)) (by kernel_rfl) (fun w => by kernel_rfl) (by rw [hb3]; rfl) ?_
          exact QRun_done [3, 4, 5, 6, 7, 12, 13, 14, 18, 19, 20, 21, 96] (by kernel_rfl) (by kernel_rfl)
        · refine QRun_bool x11 false (by kernel_rfl) (fun w => by kernel_rfl) hb3 ?_
          refine QRun_b [.int .i64 x6.2, .int .i64 x7.2, .bool (x6.2 != x7.2)] 10 _ (by kernel_rfl) (fun w => by kernel_rfl) ?_
          refine QRun_bool (x6.2 != x7.2) (x11 || (x6.2 != x7.2)) (by kernel_rfl) (fun w => by kernel_rfl) (by rw [hb3]; rfl) ?_
          exact QRun_done [3, 4, 5, 6, 7, 12, 13, 14, 18, 19, 20, 21, 96] (by kernel_rfl) (by kernel_rfl)
      refine QRun_seq 20 [(3, .slice a1 x2.1.length c1), (4, .slice a2 x2.2.1.length c2), (5, .int .i64 x2.2.2), (6, .slice a3 x3.1.length c3), (7, .int .i64 x3.2), (12, .slice a7 x6.1.length c7), (13, .int .i64 x6.2), (18, .slice a10 x9.1.length c10), (19, .int .i64 x9.2), (20, .slice a11 x10.1.length c11), (21, .int .i64 x10.2), (102, .bool x14)] ?_ ?_
      · rcases Bool.eq_false_or_eq_true (x11 || (x6.2 != x7.2)) with hb4 | hb4
        · refine QRun_bool (x11 || (x6.2 != x7.2)) true (by kernel_rfl) (fun w => by kernel_rfl) hb4 ?_
          have gx14 := M.ret_some ((M.ite_some gx14).1 hb4)
          refine QRun_n (by kernel_rfl) ?_
          refine QRun_n (by kernel_rfl) ?_
          refine QRun_n (by kernel_rfl) ?_
          refine QRun_n (by kernel_rfl) ?_
          refine QRun_bool true x14 (by kernel_rfl) (fun w => by kernel_rfl) gx14 ?_
          exact QRun_done [3, 4, 5, 6, 7, 12, 13, 18, 19, 20, 21, 102] (by kernel_rfl) (by kernel_rfl)
        · refine QRun_bool (x11 || (x6.2 != x7.2)) false (by kernel_rfl) (fun w => by kernel_rfl) hb4 ?_
          have gx14 := (M.ite_some gx14).2 hb4
          obtain ⟨x15, hx12, gx14⟩ := M.bind_some gx14
          have gx14 := M.ret_some gx14
          refine QRun_b [.slice a7 x6.1.length c7, .slice a8 x7.1.length c8] 15 _ (by kernel_rfl) (fun w => by kernel_rfl) ?_
          refine QRun_y (.bool x15) (by kernel_rfl) (Y_callq (f := 27) (args := #[.slice a7 x6.1.length c7, .slice a8 x7.1.length c8]) (v := .bool x15) (by kernel_rfl) (w_laws_likeInts h9 x6.1 a7 c7 (H18.rd 4 rfl) x7.1 a8 c8 (H18.rd 3 rfl) _ _ hx12)) ?_
          refine QRun_b [.bool (!x15)] 18 _ (by kernel_rfl) (fun w => by kernel_rfl) ?_
          refine QRun_bool (!x15) x14 (by kernel_rfl) (fun w => by kernel_rfl) gx14 ?_
          exact QRun_done [3, 4, 5, 6, 7, 12, 13, 18, 19, 20, 21, 102] (by kernel_rfl) (by kernel_rfl)
      refine QRun_seq 25 [(3, .slice a1 x2.1.length c1), (4, .slice a2 x2.2.1.length c2), (5, .int .i64 x2.2.2), (6, .slice a3 x3.1.length c3), (7, .int .i64 x3.2), (12, .slice a7 x6.1.length c7), (13, .int .i64 x6.2), (18, .slice a10 x9.1.length c10), (20, .slice a11 x10.1.length c11), (107, .bool (x14 || (x9.2 != x10.2)))] ?_ ?_
      · rcases Bool.eq_false_or_eq_true x14 with hb5 | hb5
        · refine QRun_bool x14 true (by kernel_rfl) (fun w => by kernel_rfl) hb5 ?_
          refine QRun_n (by kernel_rfl) ?_
          refine QRun_n (by kernel_rfl) ?_
          refine QRun_n (by kernel_rfl) ?_
          refine QRun_bool true (x14 || (x9.2 != x10.2)) (by kernel_rfl) (fun w => by kernel_rfl) (by rw [hb5]; rfl) ?_
          exact QRun_done [3, 4, 5, 6, 7, 12, 13, 18, 20, 107] (by kernel_rfl) (by kernel_rfl)
        · refine QRun_bool x14 false (by kernel_rfl) (fun w => by kernel_rfl) hb5 ?_
          refine QRun_b [.int .i64 x9.2, .int .i64 x10.2, .bool (x9.2 != x10.2)] 21 _ (by kernel_rfl) (fun w => by kernel_rfl) ?_
          refine QRun_bool (x9.2 != x10.2) (x14 || (x9.2 != x10.2)) (by kernel_rfl) (fun w => by kernel_rfl) (by rw [hb5]; rfl) ?_
          exact QRun_done [3, 4, 5, 6, 7, 12, 13, 18, 20, 107] (by kernel_rfl) (by kernel_rfl)
      refine QRun_seq 31 [(3, .slice a1 x2.1.length c1), (4, .slice a2 x2.2.1.length c2), (5, .int .i64 x2.2.2), (6, .slice a3 x3.1.length c3), (7, .int .i64 x3.2), (12, .slice a7 x6.1.length c7), (13, .int .i64 x6.2), (113, .bool x17)] ?_ ?_
      · rcases Bool.eq_false_or_eq_true (x14 || (x9.2 != x10.2)) with hb6 | hb6
        · refine QRun_bool (x14 || (x9.2 != x10.2)) true (by kernel_rfl) (fun w => by kernel_rfl) hb6 ?_
          have gx17 := M.ret_some ((M.ite_some gx17).1 hb6)
          refine QRun_n (by kernel_rfl) ?_
          refine QRun_n (by kernel_rfl) ?_
          refine QRun_n (by kernel_rfl) ?_
          refine QRun_n (by kernel_rfl) ?_
          refine QRun_bool true x17 (by kernel_rfl) (fun w => by kernel_rfl) gx17 ?_
          exact QRun_done [3, 4, 5, 6, 7, 12, 13, 113] (by kernel_rfl) (by kernel_rfl)
        · refine QRun_bool (x14 || (x9.2 != x10.2)) false (by kernel_rfl) (fun w => by kernel_rfl) hb6 ?_
          have gx17 := (M.ite_some gx17).2 hb6
          obtain ⟨x18, hx13, gx17⟩ := M.bind_some gx17
          have gx17 := M.ret_some gx17
          refine QRun_b [.slice a10 x9.1.length c10, .slice a11 x10.1.length c11] 26 _ (by kernel_rfl) (fun w => by kernel_rfl) ?_
          refine QRun_y (.bool x18) (by kernel_rfl) (Y_callq (f := 27) (args := #[.slice a10 x9.1.length c10, .slice a11 x10.1.length c11]) (v := .bool x18) (by kernel_rfl) (w_laws_likeInts h9 x9.1 a10 c10 (H18.rd 1 rfl) x10.1 a11 c11 (H18.rd 0 rfl) _ _ hx13)) ?_
          refine QRun_b [.bool (!x18)] 29 _ (by kernel_rfl) (fun w => by kernel_rfl) ?_
          refine QRun_bool (!x18) x17 (by kernel_rfl) (fun w => by kernel_rfl) gx17 ?_
          exact QRun_done [3, 4, 5, 6, 7, 12, 13, 113] (by kernel_rfl) (by kernel_rfl)
      exact QRun_done [3, 4, 5, 6, 7, 12, 13, 113] (by kernel_rfl) (by kernel_rfl)
    refine Run_cond (b := x17) (by kernel_rfl) (fun hb7 => ?_) (fun hb7 => ?_)
    · have hF := (M.ite_some hF).1 hb7
      refine Run_seq ?_
      refine Run_reg 1 (by kernel_rfl) (L' := [(2, .bool false)]) ?_ ?_
      · refine QRun_b [.bool false] 0 _ (by kernel_rfl) (fun w => by kernel_rfl) ?_
        exact QRun_done [2] (by kernel_rfl) (by kernel_rfl)
      have hF := M.ret_some hF
      subst hF
      have H19 : Hold h h9 [] := H18.pick [] (by kernel_rfl)
      exact Run_ret1 rfl (ResV_tmp (v := .bool false) (by kernel_rfl)) ⟨rfl, H19⟩
    · have hF := (M.ite_some hF).2 hb7
      refine Run_skip ?_
      refine Run_seq ?_
      refine Run_seq ?_
      refine Run_reg 2 (by kernel_rfl) (L' := [(3, .slice a1 x2.1.length c1), (4, .slice a2 x2.2.1.length c2), (5, .int .i64 x2.2.2), (6, .slice a3 x3.1.length c3), (7, .int .i64 x3.2), (12, .slice a7 x6.1.length c7), (115, .bool (x6.2 == 0))]) ?_ ?_
      · refine QRun_b [.int .i64 x6.2, .bool (x6.2 == 0)] 0 _ (by kernel_rfl) (fun w => by kernel_rfl) ?_
        exact QRun_done [3, 4, 5, 6, 7, 12, 115] (by kernel_rfl) (by kernel_rfl)
      refine Run_cond (b := x6.2 == 0) (by kernel_rfl) (fun hb8 => ?_) (fun hb8 => ?_)
      · have hF := (M.ite_some hF).1 hb8
        refine Run_seq ?_
        obtain ⟨x19, hx14, hF⟩ := M.bind_some hF
        refine Run_reg 7 (by kernel_rfl) (L' := [(3, .slice a1 x2.1.length c1), (4, .slice a2 x2.2.1.length c2), (5, .int .i64 x2.2.2), (6, .slice a3 x3.1.length c3), (7, .int .i64 x3.2), (22, .int .i64 x19.1), (23, .int .i64 x19.2)]) ?_ ?_
        · refine QRun_b [.slice a7 x6.1.length c7] 0 _ (by kernel_rfl) (fun w => by kernel_rfl) ?_
          refine QRun_y (.tuple #[.int .i64 x19.1, .int .i64 x19.2]) (by kernel_rfl) (Y_callq (f := 36) (args := #[.slice a7 x6.1.length c7]) (v := .tuple #[.int .i64 x19.1, .int .i64 x19.2]) (by kernel_rfl) (w_impl_SumOf h9 x6.1 a7 c7 (H18.rd 4 rfl) _ _ hx14)) ?_
          refine QRun_b [.tuple #[.int .i64 x19.1, .int .i64 x19.2], .int .i64 x19.1, .int .i64 x19.2, .int .i64 x19.1, .int .i64 x19.2] 2 _ (by kernel_rfl) (fun w => by kernel_rfl) ?_
          exact QRun_done [3, 4, 5, 6, 7, 22, 23] (by kernel_rfl) (by kernel_rfl)
        refine Run_seq ?_
        refine Run_reg 10 (by kernel_rfl) (L' := [(3, .slice a1 x2.1.length c1), (4, .slice a2 x2.2.1.length c2), (5, .int .i64 x2.2.2), (6, .slice a3 x3.1.length c3), (7, .int .i64 x3.2), (130, .bool ((x19.2 != 0) || ((x19.1 != 0) && (x19.1 != (-1000000000000000)))))]) ?_ ?_
        · refine QRun_b [.int .i64 x19.2, .bool (x19.2 != 0)] 0 _ (by kernel_rfl) (fun w => by kernel_rfl) ?_
          refine QRun_seq 10 [(3, .slice a1 x2.1.length c1), (4, .slice a2 x2.2.1.length c2), (5, .int .i64 x2.2.2), (6, .slice a3 x3.1.length c3), (7, .int .i64 x3.2), (130, .bool ((x19.2 != 0) || ((x19.1 != 0) && (x19.1 != (-1000000000000000)))))] ?_ ?_
          · rcases Bool.eq_false_or_eq_true (x19.2 != 0) with hb9 | hb9
            · refine QRun_bool (x19.2 != 0) true (by kernel_rfl) (fun w => by kernel_rfl) hb9 ?_
              refine QRun_n (by kernel_rfl) ?_
              refine QRun_n (by kernel_rfl) ?_
              refine QRun_n (by kernel_rfl) ?_
              refine QRun_n (by kernel_rfl) ?_
              refine QRun_n (by kernel_rfl) ?_
              refine QRun_n (by kernel_rfl) ?_
              refine QRun_bool true ((x19.2 != 0) || ((x19.1 != 0) && (x19.1 != (-1000000000000000)))) (by kernel_rfl) (fun w => by kernel_rfl) (by rw [hb9]; rfl) ?_
              exact QRun_done [3, 4, 5, 6, 7, 130] (by kernel_rfl) (by kernel_rfl)
            · refine QRun_bool (x19.2 != 0) false (by kernel_rfl) (fun w => by kernel_rfl) hb9 ?_
              refine QRun_b [.int .i64 x19.1, .bool (x19.1 != 0)] 3 _ (by kernel_rfl) (fun w => by kernel_rfl) ?_
              refine QRun_seq 9 [(3, .slice a1 x2.1.length c1), (4, .slice a2 x2.2.1.length c2), (5, .int .i64 x2.2.2), (6, .slice a3 x3.1.length c3), (7, .int .i64 x3.2), (123, .bool false), (129, .bool ((x19.1 != 0) && (x19.1 != (-1000000000000000))))] ?_ ?_
              · rcases Bool.eq_false_or_eq_true (x19.1 != 0) with hb10 | hb10
                · refine QRun_bool (x19.1 != 0) true (by kernel_rfl) (fun w => by kernel_rfl) hb10 ?_
                  refine QRun_b [.int .i64 x19.1, .bool (x19.1 != (-1000000000000000))] 6 _ (by kernel_rfl) (fun w => by kernel_rfl) ?_
                  refine QRun_bool (x19.1 != (-1000000000000000)) ((x19.1 != 0) && (x19.1 != (-1000000000000000))) (by kernel_rfl) (fun w => by kernel_rfl) (by rw [hb10]; rfl) ?_
                  exact QRun_done [3, 4, 5, 6, 7, 123, 129] (by kernel_rfl) (by kernel_rfl)
                · refine QRun_bool (x19.1 != 0) false (by kernel_rfl) (fun w => by kernel_rfl) hb10 ?_
                  refine QRun_n (by kernel_rfl) ?_
                  refine QRun_n (by kernel_rfl) ?_
                  refine QRun_bool false ((x19.1 != 0) && (x19.1 != (-1000000000000000))) (by kernel_rfl) (fun w => by kernel_rfl) (by rw [hb10]; rfl) ?_
                  exact QRun_done [3, 4, 5, 6, 7, 123, 129] (by kernel_rfl) (by kernel_rfl)
              refine QRun_bool ((x19.1 != 0) && (x19.1 != (-1000000000000000))) ((x19.2 != 0) || ((x19.1 != 0) && (x19.1 != (-1000000000000000)))) (by kernel_rfl) (fun w => by kernel_rfl) (by rw [hb9]; rfl) ?_
              exact QRun_done [3, 4, 5, 6, 7, 130] (by kernel_rfl) (by kernel_rfl)
          exact QRun_done [3, 4, 5, 6, 7, 130] (by kernel_rfl) (by kernel_rfl)
        refine Run_cond (b := (x19.2 != 0) || ((x19.1 != 0) && (x19.1 != (-1000000000000000)))) (by kernel_rfl) (fun hb11 => ?_) (fun hb11 => ?_)
        · have hF := (M.ite_some hF).1 hb11
          refine Run_seq ?_
          refine Run_reg 1 (by kernel_rfl) (L' := [(2, .bool false)]) ?_ ?_
          · refine QRun_b [.bool false] 0 _ (by kernel_rfl) (fun w => by kernel_rfl) ?_
            exact QRun_done [2] (by kernel_rfl) (by kernel_rfl)
          have hF := M.ret_some hF
          subst hF
          have H20 : Hold h h9 [] := H18.pick [] (by kernel_rfl)
          exact Run_ret1 rfl (ResV_tmp (v := .bool false) (by kernel_rfl)) ⟨rfl, H20⟩
        · have hF := (M.ite_some hF).2 hb11
          refine Run_skip ?_
          refine Run_seq ?_
          refine Run_seq ?_
          refine Run_reg 2 (by kernel_rfl) (L' := [(3, .slice a1 x2.1.length c1), (4, .slice a2 x2.2.1.length c2), (5, .int .i64 x2.2.2), (6, .slice a3 x3.1.length c3), (132, .bool (x3.2 != 0))]) ?_ ?_
          · refine QRun_b [.int .i64 x3.2, .bool (x3.2 != 0)] 0 _ (by kernel_rfl) (fun w => by kernel_rfl) ?_
            exact QRun_done [3, 4, 5, 6, 132] (by kernel_rfl) (by kernel_rfl)
          refine Run_cond (b := x3.2 != 0) (by kernel_rfl) (fun hb12 => ?_) (fun hb12 => ?_)
          · have hF := (M.ite_some hF).1 hb12
            refine Run_seq ?_
            refine Run_reg 1 (by kernel_rfl) (L' := [(2, .bool true)]) ?_ ?_
            · refine QRun_b [.bool true] 0 _ (by kernel_rfl) (fun w => by kernel_rfl) ?_
              exact QRun_done [2] (by kernel_rfl) (by kernel_rfl)
            have hF := M.ret_some hF
            subst hF
            have H21 : Hold h h9 [] := H18.pick [] (by kernel_rfl)
            exact Run_ret1 rfl (ResV_tmp (v := .bool true) (by kernel_rfl)) ⟨rfl, H21⟩
          · have hF := (M.ite_some hF).2 hb12
            refine Run_skip ?_
            refine Run_seq ?_
            refine Run_seq ?_
            refine Run_reg 1 (by kernel_rfl) (L' := [(3, .slice a1 x2.1.length c1), (4, .slice a2 x2.2.1.length c2), (5, .int .i64 x2.2.2), (6, .slice a3 x3.1.length c3), (24, .int .i64 1)]) ?_ ?_
            · refine QRun_b [.int .i64 1] 0 _ (by kernel_rfl) (fun w => by kernel_rfl) ?_
              exact QRun_done [3, 4, 5, 6, 24] (by kernel_rfl) (by kernel_rfl)
            obtain ⟨x22, gx22, hF⟩ := M.bind_some hF
            obtain ⟨hloy1, hhiy1, gx22⟩ := M.for_start gx22
            refine Run_join (fun L' h' => ∃ (s2 : Unit), x22 = .inl s2 ∧ L' = [(4, .slice a2 x2.2.1.length c2), (5, .int .i64 x2.2.2), (6, .slice a3 x3.1.length c3)] ∧ Hold h h' [own cd2 a2 x2.2.1.length c2 x2.2.1, own cd23 a3 x3.1.length c3 x3.1]) ?_ ?_
            · rintro _ h11 ⟨s2, es2, rfl, H23⟩
              have hF := M.cont_inl' hF es2
              refine Run_seq ?_
              obtain ⟨x28, gx28, hF⟩ := M.bind_some hF
              refine Run_reg 13 (by kernel_rfl) (L' := [(2, .bool x28)]) ?_ ?_
              · refine QRun_b [.slice a3 x3.1.length c3, .int .i64 (x3.1.length : Int), .int .i64 x2.2.2, .int .i64 (w64 (x2.2.2 + 1)), .bool ((x3.1.length : Int) == (w64 (x2.2.2 + 1)))] 0 _ (by kernel_rfl) (fun w => by kernel_rfl) ?_
                refine QRun_seq 12 [(171, .bool x28)] ?_ ?_
                · rcases Bool.eq_false_or_eq_true ((x3.1.length : Int) == (w64 (x2.2.2 + 1))) with hb16 | hb16
                  · refine QRun_bool ((x3.1.length : Int) == (w64 (x2.2.2 + 1))) true (by kernel_rfl) (fun w => by kernel_rfl) hb16 ?_
                    have gx28 := (M.ite_some gx28).1 hb16
                    obtain ⟨x29, hx19, gx28⟩ := M.bind_some gx28
                    obtain ⟨hx19l, hx19u, hx19⟩ := M.idx_some hx19
                    have H38 : Hold h h11 [own cd23 a3 x3.1.length c3 x3.1, own cd2 a2 x2.2.1.length c2 x2.2.1] := H23.pick [1, 0] (by kernel_rfl)
                    obtain ⟨a15, c15, hc1, H39⟩ := H38.takeRow hx19
                    obtain ⟨x30, hx20, gx28⟩ := M.bind_some gx28
                    have gx28 := M.ret_some gx28
                    refine QRun_b [.slice a3 x3.1.length c3] 6 _ (by kernel_rfl) (fun w => by kernel_rfl) ?_
                    refine QRun_y (.pointer (some (adr a3 (0 * 1)))) (by kernel_rfl) (Y_idx (t := 22) (e := 23) (sz := 1) (a := a3) (n := x3.1.length) (cap := c3) (kk := .i64) (i := 0) (by kernel_rfl) Try.underlying22 (by kernel_rfl) ((H23.rd 1 rfl).cell hx19).1 hx19l hx19u) ?_
                    refine QRun_y (.slice a15 x29.length c15) (by kernel_rfl) (Y_load1 (t := 23) (p := adr a3 (0 * 1)) (v := .slice a15 x29.length c15) (by kernel_rfl) (fun w => by kernel_rfl) hc1) ?_
                    refine QRun_b [.slice a2 x2.2.1.length c2] 9 _ (by kernel_rfl) (fun w => by kernel_rfl) ?_
                    refine QRun_y (.bool x30) (by kernel_rfl) (Y_callq (f := 27) (args := #[.slice a15 x29.length c15, .slice a2 x2.2.1.length c2]) (v := .bool x30) (by kernel_rfl) (w_laws_likeInts h11 x29 a15 c15 (H39.rd 0 rfl) x2.2.1 a2 c2 (H39.rd 2 rfl) _ _ hx20)) ?_
                    refine QRun_bool x30 x28 (by kernel_rfl) (fun w => by kernel_rfl) gx28 ?_
                    exact QRun_done [171] (by kernel_rfl) (by kernel_rfl)
                  · refine QRun_bool ((x3.1.length : Int) == (w64 (x2.2.2 + 1))) false (by kernel_rfl) (fun w => by kernel_rfl) hb16 ?_
                    have gx28 := M.ret_some ((M.ite_some gx28).2 hb16)
                    refine QRun_n (by kernel_rfl) ?_
                    refine QRun_n (by kernel_rfl) ?_
                    refine QRun_n (by kernel_rfl) ?_
                    refine QRun_n (by kernel_rfl) ?_
                    refine QRun_n (by kernel_rfl) ?_
                    refine QRun_bool false x28 (by kernel_rfl) (fun w => by kernel_rfl) gx28 ?_
                    exact QRun_done [171] (by kernel_rfl) (by kernel_rfl)
                refine QRun_b [.bool x28] 12 _ (by kernel_rfl) (fun w => by kernel_rfl) ?_
                exact QRun_done [2] (by kernel_rfl) (by kernel_rfl)
              have hF := M.ret_some hF
              subst hF
              have H40 : Hold h h11 [] := H23.pick [] (by kernel_rfl)
              exact Run_ret1 rfl (ResV_tmp (v := .bool x28) (by kernel_rfl)) ⟨rfl, H40⟩
            · refine Run_block ?_
              have H41 : Hold h h9 [own cd23 a1 x2.1.length c1 x2.1, own cd2 a2 x2.2.1.length c2 x2.2.1, own cd23 a3 x3.1.length c3 x3.1] := H18.pick [9, 10, 8] (by kernel_rfl)
              refine Run_keep [3, 4, 5, 6, 24] (L' := [(3, .slice a1 x2.1.length c1), (4, .slice a2 x2.2.1.length c2), (5, .int .i64 x2.2.2), (6, .slice a3 x3.1.length c3), (24, .int .i64 1)]) (by kernel_rfl) ?_
              refine Run_loop (fun m L' h' => ∃ (i1 : Int) (s1 : Unit), 1 ≤ i1 ∧ M.forN (x3.1.length : Int) _ _ n m i1 s1 = some x22 ∧ L' = [(3, .slice a1 x2.1.length c1), (4, .slice a2 x2.2.1.length c2), (5, .int .i64 x2.2.2), (6, .slice a3 x3.1.length c3), (24, .int .i64 i1)] ∧ Hold h h' [own cd23 a1 x2.1.length c1 x2.1, own cd2 a2 x2.2.1.length c2 x2.2.1, own cd23 a3 x3.1.length c3 x3.1]) ((x3.1.length : Int) - 1 : Int).toNat ⟨1, (), Int.le_refl _, gx22, rfl, H41⟩ ?_
              rintro my1 _ h10 ⟨i1, s1, hloy1', gx22, rfl, H22⟩
              refine Run_seq ?_
              refine Run_seq ?_
              refine Run_reg 4 (by kernel_rfl) (L' := [(3, .slice a1 x2.1.length c1), (4, .slice a2 x2.2.1.length c2), (5, .int .i64 x2.2.2), (6, .slice a3 x3.1.length c3), (24, .int .i64 i1), (136, .bool (decide (i1 < (x3.1.length : Int))))]) ?_ ?_
              · refine QRun_b [.int .i64 i1, .slice a3 x3.1.length c3, .int .i64 (x3.1.length : Int), .bool (decide (i1 < (x3.1.length : Int)))] 0 _ (by kernel_rfl) (fun w => by kernel_rfl) ?_
                exact QRun_done [3, 4, 5, 6, 24, 136] (by kernel_rfl) (by kernel_rfl)
              refine Run_cond (b := decide (i1 < (x3.1.length : Int))) (by kernel_rfl) (fun hb13 => ?_) (fun hb13 => ?_)
              · obtain ⟨my1, y1, rfl, hB1, hgoy1, houty1⟩ := M.for_go gx22 hb13
                have hlty1 := of_decide_eq_true hb13
                refine Run_skip ?_
                refine Run_seq ?_
                refine Run_block ?_
                refine Run_seq ?_
                refine Run_ops ?_
                obtain ⟨x23, hx15, hB1⟩ := M.bind_some hB1
                obtain ⟨hx15l, hx15u, hx15⟩ := M.idx_some hx15
                have H24 : Hold h h10 [own cd23 a3 x3.1.length c3 x3.1, own cd23 a1 x2.1.length c1 x2.1, own cd2 a2 x2.2.1.length c2 x2.2.1] := H22.pick [2, 0, 1] (by kernel_rfl)
                have H25 := H24.toRows
                obtain ⟨a12, c12, H26⟩ := H25.pinRow hx15
                have H27 : Hold h h10 [own cd23 a1 x2.1.length c1 x2.1, own cd2 a2 x2.2.1.length c2 x2.2.1, rowsP cd2 23 a3 x3.1.length c3 x3.1 [((w64 (i1 - 1)).toNat, a12, x23.length, c12, x23)]] := H26.pick [1, 2, 0] (by kernel_rfl)
                refine Run_b [.slice a1 x2.1.length c1, .slice a3 x3.1.length c3, .int .i64 i1, .int .i64 (w64 (i1 - 1))] 0 _ (by kernel_rfl) (fun w => by kernel_rfl) ?_
                refine Run_y (.pointer (some (adr a3 ((w64 (i1 - 1)).toNat * 1)))) (by kernel_rfl) (Y_idx (t := 22) (e := 23) (sz := 1) (a := a3) (n := x3.1.length) (cap := c3) (kk := .i64) (i := w64 (i1 - 1)) (by kernel_rfl) Try.underlying22 (by kernel_rfl) ((H22.rd 2 rfl).cell hx15).1 hx15l hx15u) ?_
                refine Run_y (.slice a12 x23.length c12) (by kernel_rfl) (Y_load1 (t := 23) (p := adr a3 ((w64 (i1 - 1)).toNat * 1)) (v := .slice a12 x23.length c12) (by kernel_rfl) (fun w => by kernel_rfl) (H27.cellPin 2 rfl 0 rfl)) ?_
                obtain ⟨x24, hx16, hB1⟩ := M.bind_some hB1
                refine Run_E (by kernel_rfl) ?_
                refine E_call (f := 37) (args := #[.slice a1 x2.1.length c1, .slice a12 x23.length c12]) (w_impl_TimesVector h10 x2.1 a1 c1 (H27.rd 0 rfl) x23 a12 c12 (H27.rdPin 2 rfl 0 rfl) _ _ hx16) (by kernel_rfl) (fun v10 h12 hp10 => ?_)
                obtain ⟨a13, c13, rfl, H28⟩ := hp10
                have H29 : Hold h h12 [own cd2 a13 x24.1.length c13 x24.1, own cd23 a1 x2.1.length c1 x2.1, own cd2 a2 x2.2.1.length c2 x2.2.1, rowsP cd2 23 a3 x3.1.length c3 x3.1 [((w64 (i1 - 1)).toNat, a12, x23.length, c12, x23)]] := H27.call H28 rfl
                refine Run_b [.tuple #[.slice a13 x24.1.length c13, .int .i64 x24.2], .slice a13 x24.1.length c13, .int .i64 x24.2, .slice a13 x24.1.length c13, .int .i64 x24.2] 7 _ (by kernel_rfl) (fun w => by kernel_rfl) ?_
                refine Run_nil (by kernel_rfl) ?_
                refine Run_keep [3, 4, 5, 6, 24, 25, 26] (L' := [(3, .slice a1 x2.1.length c1), (4, .slice a2 x2.2.1.length c2), (5, .int .i64 x2.2.2), (6, .slice a3 x3.1.length c3), (24, .int .i64 i1), (25, .slice a13 x24.1.length c13), (26, .int .i64 x24.2)]) (by kernel_rfl) ?_
                refine Run_seq ?_
                obtain ⟨x25, gx25, hB1⟩ := M.bind_some hB1
                refine Run_reg 11 (by kernel_rfl) (L' := [(3, .slice a1 x2.1.length c1), (4, .slice a2 x2.2.1.length c2), (5, .int .i64 x2.2.2), (6, .slice a3 x3.1.length c3), (24, .int .i64 i1), (159, .bool x25)]) ?_ ?_
                · refine QRun_b [.int .i64 x24.2, .bool (x24.2 != 0)] 0 _ (by kernel_rfl) (fun w => by kernel_rfl) ?_
                  refine QRun_seq 11 [(3, .slice a1 x2.1.length c1), (4, .slice a2 x2.2.1.length c2), (5, .int .i64 x2.2.2), (6, .slice a3 x3.1.length c3), (24, .int .i64 i1), (159, .bool x25)] ?_ ?_
                  · rcases Bool.eq_false_or_eq_true (x24.2 != 0) with hb14 | hb14
                    · refine QRun_bool (x24.2 != 0) true (by kernel_rfl) (fun w => by kernel_rfl) hb14 ?_
                      have gx25 := M.ret_some ((M.ite_some gx25).1 hb14)
                      refine QRun_n (by kernel_rfl) ?_
                      refine QRun_n (by kernel_rfl) ?_
                      refine QRun_n (by kernel_rfl) ?_
                      refine QRun_n (by kernel_rfl) ?_
                      refine QRun_n (by kernel_rfl) ?_
                      refine QRun_n (by kernel_rfl) ?_
                      refine QRun_n (by kernel_rfl) ?_
                      refine QRun_bool true x25 (by kernel_rfl) (fun w => by kernel_rfl) gx25 ?_
                      exact QRun_done [3, 4, 5, 6, 24, 159] (by kernel_rfl) (by kernel_rfl)
                    · refine QRun_bool (x24.2 != 0) false (by kernel_rfl) (fun w => by kernel_rfl) hb14 ?_
                      have gx25 := (M.ite_some gx25).2 hb14
                      obtain ⟨x26, hx17, gx25⟩ := M.bind_some gx25
                      obtain ⟨hx17l, hx17u, hx17⟩ := M.idx_some hx17
                      have H30 : Hold h h12 [rowsP cd2 23 a3 x3.1.length c3 x3.1 [((w64 (i1 - 1)).toNat, a12, x23.length, c12, x23)], own cd2 a13 x24.1.length c13 x24.1, own cd23 a1 x2.1.length c1 x2.1, own cd2 a2 x2.2.1.length c2 x2.2.1] := H29.pick [3, 0, 1, 2] (by kernel_rfl)
                      obtain ⟨a14, c14, H31⟩ := H30.pinRow hx17
                      have H32 : Hold h h12 [own cd2 a13 x24.1.length c13 x24.1, own cd23 a1 x2.1.length c1 x2.1, own cd2 a2 x2.2.1.length c2 x2.2.1, rowsP cd2 23 a3 x3.1.length c3 x3.1 [(i1.toNat, a14, x26.length, c14, x26), ((w64 (i1 - 1)).toNat, a12, x23.length, c12, x23)]] := H31.pick [1, 2, 3, 0] (by kernel_rfl)
                      obtain ⟨x27, hx18, gx25⟩ := M.bind_some gx25
                      have gx25 := M.ret_some gx25
                      refine QRun_b [.slice a13 x24.1.length c13, .slice a3 x3.1.length c3, .int .i64 i1] 3 _ (by kernel_rfl) (fun w => by kernel_rfl) ?_
                      refine QRun_y (.pointer (some (adr a3 (i1.toNat * 1)))) (by kernel_rfl) (Y_idx (t := 22) (e := 23) (sz := 1) (a := a3) (n := x3.1.length) (cap := c3) (kk := .i64) (i := i1) (by kernel_rfl) Try.underlying22 (by kernel_rfl) ((H29.rdRows 3 rfl).cell hx17).1 hx17l hx17u) ?_
                      refine QRun_y (.slice a14 x26.length c14) (by kernel_rfl) (Y_load1 (t := 23) (p := adr a3 (i1.toNat * 1)) (v := .slice a14 x26.length c14) (by kernel_rfl) (fun w => by kernel_rfl) (H32.cellPin 3 rfl 0 rfl)) ?_
                      refine QRun_y (.bool x27) (by kernel_rfl) (Y_callq (f := 27) (args := #[.slice a13 x24.1.length c13, .slice a14 x26.length c14]) (v := .bool x27) (by kernel_rfl) (w_laws_likeInts h12 x24.1 a13 c13 (H32.rd 0 rfl) x26 a14 c14 (H32.rdPin 3 rfl 0 rfl) _ _ hx18)) ?_
                      refine QRun_b [.bool (!x27)] 9 _ (by kernel_rfl) (fun w => by kernel_rfl) ?_
                      refine QRun_bool (!x27) x25 (by kernel_rfl) (fun w => by kernel_rfl) gx25 ?_
                      exact QRun_done [3, 4, 5, 6, 24, 159] (by kernel_rfl) (by kernel_rfl)
                  exact QRun_done [3, 4, 5, 6, 24, 159] (by kernel_rfl) (by kernel_rfl)
                refine Run_cond (b := x25) (by kernel_rfl) (fun hb15 => ?_) (fun hb15 => ?_)
                · have hB1 := (M.ite_some hB1).1 hb15
                  refine Run_seq ?_
                  refine Run_reg 1 (by kernel_rfl) (L' := [(2, .bool false)]) ?_ ?_
                  · refine QRun_b [.bool false] 0 _ (by kernel_rfl) (fun w => by kernel_rfl) ?_
                    exact QRun_done [2] (by kernel_rfl) (by kernel_rfl)
                  have hB1 := M.ret_some hB1
                  have gx22 := houty1 _ hB1.symm
                  have hF := M.cont_inr' hF gx22
                  have hF := M.ret_some hF
                  subst hF
                  have H33 : Hold h h12 [] := H29.pick [] (by kernel_rfl)
                  exact Run_ret1 rfl (ResV_tmp (v := .bool false) (by kernel_rfl)) ⟨rfl, H33⟩
                · have hB1 := (M.ite_some hB1).2 hb15
                  refine Run_skip ?_
                  refine Run_blk ?_
                  refine Run_reg 3 (by kernel_rfl) (L' := [(3, .slice a1 x2.1.length c1), (4, .slice a2 x2.2.1.length c2), (5, .int .i64 x2.2.2), (6, .slice a3 x3.1.length c3), (24, .int .i64 (i1 + 1))]) ?_ ?_
                  · refine QRun_b [.int .i64 i1] 0 _ (by kernel_rfl) (fun w => by kernel_rfl) ?_
                    refine QRun_y (.int .i64 (i1 + 1)) (by kernel_rfl) (Y_eq (v := .int .i64 (w64 (i1 + 1))) (Y_pure (fun w => by kernel_rfl)) (by rw [w64_eq _ (by omega)])) ?_
                    refine QRun_b [.int .i64 (i1 + 1)] 2 _ (by kernel_rfl) (fun w => by kernel_rfl) ?_
                    exact QRun_done [3, 4, 5, 6, 24] (by kernel_rfl) (by kernel_rfl)
                  have H34 : Hold h h12 [rowsP cd2 23 a3 x3.1.length c3 x3.1 [((w64 (i1 - 1)).toNat, a12, x23.length, c12, x23)], own cd2 a13 x24.1.length c13 x24.1, own cd23 a1 x2.1.length c1 x2.1, own cd2 a2 x2.2.1.length c2 x2.2.1] := H29.pick [3, 0, 1, 2] (by kernel_rfl)
                  have H35 := H34.ofRows
                  have H36 : Hold h h12 [own cd23 a1 x2.1.length c1 x2.1, own cd2 a2 x2.2.1.length c2 x2.2.1, own cd23 a3 x3.1.length c3 x3.1] := H35.pick [2, 3, 0] (by kernel_rfl)
                  have hB1 := M.ret_some hB1
                  have gx22 := hgoy1 _ hB1.symm
                  exact Run_again [3, 4, 5, 6, 24] (by kernel_rfl) my1 (Nat.lt_succ_self _) ⟨i1 + 1, (), by omega, gx22, rfl, H36⟩
              · have gx22 := M.for_end gx22 hb13
                subst gx22
                refine Run_exit (k' := _) rfl ?_
                have H37 : Hold h h10 [own cd2 a2 x2.2.1.length c2 x2.2.1, own cd23 a3 x3.1.length c3 x3.1] := H22.pick [1, 2] (by kernel_rfl)
                exact Run_fall [4, 5, 6] (by kernel_rfl) ⟨(), rfl, rfl, H37⟩
      · have hF := (M.ite_some hF).2 hb8
        refine Run_skip ?_
        refine Run_seq ?_
        refine Run_seq ?_
        refine Run_reg 2 (by kernel_rfl) (L' := [(3, .slice a1 x2.1.length c1), (4, .slice a2 x2.2.1.length c2), (5, .int .i64 x2.2.2), (6, .slice a3 x3.1.length c3), (132, .bool (x3.2 != 0))]) ?_ ?_
        · refine QRun_b [.int .i64 x3.2, .bool (x3.2 != 0)] 0 _ (by kernel_rfl) (fun w => by kernel_rfl) ?_
          exact QRun_done [3, 4, 5, 6, 132] (by kernel_rfl) (by kernel_rfl)
        refine Run_cond (b := x3.2 != 0) (by kernel_rfl) (fun hb17 => ?_) (fun hb17 => ?_)
        · have hF := (M.ite_some hF).1 hb17
          refine Run_seq ?_
          refine Run_reg 1 (by kernel_rfl) (L' := [(2, .bool true)]) ?_ ?_
          · refine QRun_b [.bool true] 0 _ (by kernel_rfl) (fun w => by kernel_rfl) ?_
            exact QRun_done [2] (by kernel_rfl) (by kernel_rfl)
          have hF := M.ret_some hF
          subst hF
          have H42 : Hold h h9 [] := H18.pick [] (by kernel_rfl)
          exact Run_ret1 rfl (ResV_tmp (v := .bool true) (by kernel_rfl)) ⟨rfl, H42⟩
        · have hF := (M.ite_some hF).2 hb17
          refine Run_skip ?_
          refine Run_seq ?_
          refine Run_seq ?_
          refine Run_reg 1 (by kernel_rfl) (L' := [(3, .slice a1 x2.1.length c1), (4, .slice a2 x2.2.1.length c2), (5, .int .i64 x2.2.2), (6, .slice a3 x3.1.length c3), (24, .int .i64 1)]) ?_ ?_
          · refine QRun_b [.int .i64 1] 0 _ (by kernel_rfl) (fun w => by kernel_rfl) ?_
            exact QRun_done [3, 4, 5, 6, 24] (by kernel_rfl) (by kernel_rfl)
          obtain ⟨x31, gx31, hF⟩ := M.bind_some hF
          obtain ⟨hloy2, hhiy2, gx31⟩ := M.for_start gx31
          refine Run_join (fun L' h' => ∃ (s4 : Unit), x31 = .inl s4 ∧ L' = [(4, .slice a2 x2.2.1.length c2), (5, .int .i64 x2.2.2), (6, .slice a3 x3.1.length c3)] ∧ Hold h h' [own cd2 a2 x2.2.1.length c2 x2.2.1, own cd23 a3 x3.1.length c3 x3.1]) ?_ ?_
          · rintro _ h14 ⟨s4, es4, rfl, H44⟩
            have hF := M.cont_inl' hF es4
            refine Run_seq ?_
            obtain ⟨x37, gx37, hF⟩ := M.bind_some hF
            refine Run_reg 13 (by kernel_rfl) (L' := [(2, .bool x37)]) ?_ ?_
            · refine QRun_b [.slice a3 x3.1.length c3, .int .i64 (x3.1.length : Int), .int .i64 x2.2.2, .int .i64 (w64 (x2.2.2 + 1)), .bool ((x3.1.length : Int) == (w64 (x2.2.2 + 1)))] 0 _ (by kernel_rfl) (fun w => by kernel_rfl) ?_
              refine QRun_seq 12 [(171, .bool x37)] ?_ ?_
              · rcases Bool.eq_false_or_eq_true ((x3.1.length : Int) == (w64 (x2.2.2 + 1))) with hb21 | hb21
                · refine QRun_bool ((x3.1.length : Int) == (w64 (x2.2.2 + 1))) true (by kernel_rfl) (fun w => by kernel_rfl) hb21 ?_
                  have gx37 := (M.ite_some gx37).1 hb21
                  obtain ⟨x38, hx25, gx37⟩ := M.bind_some gx37
                  obtain ⟨hx25l, hx25u, hx25⟩ := M.idx_some hx25
                  have H59 : Hold h h14 [own cd23 a3 x3.1.length c3 x3.1, own cd2 a2 x2.2.1.length c2 x2.2.1] := H44.pick [1, 0] (by kernel_rfl)
                  obtain ⟨a19, c19, hc2, H60⟩ := H59.takeRow hx25
                  obtain ⟨x39, hx26, gx37⟩ := M.bind_some gx37
                  have gx37 := M.ret_some gx37
                  refine QRun_b [.slice a3 x3.1.length c3] 6 _ (by kernel_rfl) (fun w => by kernel_rfl) ?_
                  refine QRun_y (.pointer (some (adr a3 (0 * 1)))) (by kernel_rfl) (Y_idx (t := 22) (e := 23) (sz := 1) (a := a3) (n := x3.1.length) (cap := c3) (kk := .i64) (i := 0) (by kernel_rfl) Try.underlying22 (by kernel_rfl) ((H44.rd 1 rfl).cell hx25).1 hx25l hx25u) ?_
                  refine QRun_y (.slice a19 x38.length c19) (by kernel_rfl) (Y_load1 (t := 23) (p := adr a3 (0 * 1)) (v := .slice a19 x38.length c19) (by kernel_rfl) (fun w => by kernel_rfl) hc2) ?_
                  refine QRun_b [.slice a2 x2.2.1.length c2] 9 _ (by kernel_rfl) (fun w => by kernel_rfl) ?_
                  refine QRun_y (.bool x39) (by kernel_rfl) (Y_callq (f := 27) (args := #[.slice a19 x38.length c19, .slice a2 x2.2.1.length c2]) (v := .bool x39) (by kernel_rfl) (w_laws_likeInts h14 x38 a19 c19 (H60.rd 0 rfl) x2.2.1 a2 c2 (H60.rd 2 rfl) _ _ hx26)) ?_
                  refine QRun_bool x39 x37 (by kernel_rfl) (fun w => by kernel_rfl) gx37 ?_
                  exact QRun_done [171] (by kernel_rfl) (by kernel_rfl)
                · refine QRun_bool ((x3.1.length : Int) == (w64 (x2.2.2 + 1))) false (by kernel_rfl) (fun w => by kernel_rfl) hb21 ?_
                  have gx37 := M.ret_some ((M.ite_some gx37).2 hb21)
                  refine QRun_n (by kernel_rfl) ?_
                  refine QRun_n (by kernel_rfl) ?_
                  refine QRun_n (by kernel_rfl) ?_
                  refine QRun_n (by kernel_rfl) ?_
                  refine QRun_n (by kernel_rfl) ?_
                  refine QRun_bool false x37 (by kernel_rfl) (fun w => by kernel_rfl) gx37 ?_
                  exact QRun_done [171] (by kernel_rfl) (by kernel_rfl)
              refine QRun_b [.bool x37] 12 _ (by kernel_rfl) (fun w => by kernel_rfl) ?_
              exact QRun_done [2] (by kernel_rfl) (by kernel_rfl)
            have hF := M.ret_some hF
            subst hF
            have H61 : Hold h h14 [] := H44.pick [] (by kernel_rfl)
            exact Run_ret1 rfl (ResV_tmp (v := .bool x37) (by kernel_rfl)) ⟨rfl, H61⟩
          · refine Run_block ?_
            have H62 : Hold h h9 [own cd23 a1 x2.1.length c1 x2.1, own cd2 a2 x2.2.1.length c2 x2.2.1, own cd23 a3 x3.1.length c3 x3.1] := H18.pick [9, 10, 8] (by kernel_rfl)
            refine Run_keep [3, 4, 5, 6, 24] (L' := [(3, .slice a1 x2.1.length c1), (4, .slice a2 x2.2.1.length c2), (5, .int .i64 x2.2.2), (6, .slice a3 x3.1.length c3), (24, .int .i64 1)]) (by kernel_rfl) ?_
            refine Run_loop (fun m L' h' => ∃ (i2 : Int) (s3 : Unit), 1 ≤ i2 ∧ M.forN (x3.1.length : Int) _ _ n m i2 s3 = some x31 ∧ L' = [(3, .slice a1 x2.1.length c1), (4, .slice a2 x2.2.1.length c2), (5, .int .i64 x2.2.2), (6, .slice a3 x3.1.length c3), (24, .int .i64 i2)] ∧ Hold h h' [own cd23 a1 x2.1.length c1 x2.1, own cd2 a2 x2.2.1.length c2 x2.2.1, own cd23 a3 x3.1.length c3 x3.1]) ((x3.1.length : Int) - 1 : Int).toNat ⟨1, (), Int.le_refl _, gx31, rfl, H62⟩ ?_
            rintro my2 _ h13 ⟨i2, s3, hloy2', gx31, rfl, H43⟩
            refine Run_seq ?_
            refine Run_seq ?_
            refine Run_reg 4 (by kernel_rfl) (L' := [(3, .slice a1 x2.1.length c1), (4, .slice a2 x2.2.1.length c2), (5, .int .i64 x2.2.2), (6, .slice a3 x3.1.length c3), (24, .int .i64 i2), (136, .bool (decide (i2 < (x3.1.length : Int))))]) ?_ ?_
            · refine QRun_b [.int .i64 i2, .slice a3 x3.1.length c3, .int .i64 (x3.1.length : Int), .bool (decide (i2 < (x3.1.length : Int)))] 0 _ (by kernel_rfl) (fun w => by kernel_rfl) ?_
              exact QRun_done [3, 4, 5, 6, 24, 136] (by kernel_rfl) (by kernel_rfl)
            refine Run_cond (b := decide (i2 < (x3.1.length : Int))) (by kernel_rfl) (fun hb18 => ?_) (fun hb18 => ?_)
            · obtain ⟨my2, y2, rfl, hB2, hgoy2, houty2⟩ := M.for_go gx31 hb18
              have hlty2 := of_decide_eq_true hb18
              refine Run_skip ?_
              refine Run_seq ?_
              refine Run_block ?_
              refine Run_seq ?_
              refine Run_ops ?_
              obtain ⟨x32, hx21, hB2⟩ := M.bind_some hB2
              obtain ⟨hx21l, hx21u, hx21⟩ := M.idx_some hx21
              have H45 : Hold h h13 [own cd23 a3 x3.1.length c3 x3.1, own cd23 a1 x2.1.length c1 x2.1, own cd2 a2 x2.2.1.length c2 x2.2.1] := H43.pick [2, 0, 1] (by kernel_rfl)
              have H46 := H45.toRows
              obtain ⟨a16, c16, H47⟩ := H46.pinRow hx21
              have H48 : Hold h h13 [own cd23 a1 x2.1.length c1 x2.1, own cd2 a2 x2.2.1.length c2 x2.2.1, rowsP cd2 23 a3 x3.1.length c3 x3.1 [((w64 (i2 - 1)).toNat, a16, x32.length, c16, x32)]] := H47.pick [1, 2, 0] (by kernel_rfl)
              refine Run_b [.slice a1 x2.1.length c1, .slice a3 x3.1.length c3, .int .i64 i2, .int .i64 (w64 (i2 - 1))] 0 _ (by kernel_rfl) (fun w => by kernel_rfl) ?_
              refine Run_y (.pointer (some (adr a3 ((w64 (i2 - 1)).toNat * 1)))) (by kernel_rfl) (Y_idx (t := 22) (e := 23) (sz := 1) (a := a3) (n := x3.1.length) (cap := c3) (kk := .i64) (i := w64 (i2 - 1)) (by kernel_rfl) Try.underlying22 (by kernel_rfl) ((H43.rd 2 rfl).cell hx21).1 hx21l hx21u) ?_
              refine Run_y (.slice a16 x32.length c16) (by kernel_rfl) (Y_load1 (t := 23) (p := adr a3 ((w64 (i2 - 1)).toNat * 1)) (v := .slice a16 x32.length c16) (by kernel_rfl) (fun w => by kernel_rfl) (H48.cellPin 2 rfl 0 rfl)) ?_
              obtain ⟨x33, hx22, hB2⟩ := M.bind_some hB2
              refine Run_E (by kernel_rfl) ?_
              refine E_call (f := 37) (args := #[.slice a1 x2.1.length c1, .slice a16 x32.length c16]) (w_impl_TimesVector h13 x2.1 a1 c1 (H48.rd 0 rfl) x32 a16 c16 (H48.rdPin 2 rfl 0 rfl) _ _ hx22) (by kernel_rfl) (fun v11 h15 hp11 => ?_)
              obtain ⟨a17, c17, rfl, H49⟩ := hp11
              have H50 : Hold h h15 [own cd2 a17 x33.1.length c17 x33.1, own cd23 a1 x2.1.length c1 x2.1, own cd2 a2 x2.2.1.length c2 x2.2.1, rowsP cd2 23 a3 x3.1.length c3 x3.1 [((w64 (i2 - 1)).toNat, a16, x32.length, c16, x32)]] := H48.call H49 rfl
              refine Run_b [.tuple #[.slice a17 x33.1.length c17, .int .i64 x33.2], .slice a17 x33.1.length c17, .int .i64 x33.2, .slice a17 x33.1.length c17, .int .i64 x33.2] 7 _ (by kernel_rfl) (fun w => by kernel_rfl) ?_
              refine Run_nil (by kernel_rfl) ?_
              refine Run_keep [3, 4, 5, 6, 24, 25, 26] (L' := [(3, .slice a1 x2.1.length c1), (4, .slice a2 x2.2.1.length c2), (5, .int .i64 x2.2.2), (6, .slice a3 x3.1.length c3), (24, .int .i64 i2), (25, .slice a17 x33.1.length c17), (26, .int .i64 x33.2)]) (by kernel_rfl) ?_
              refine Run_seq ?_
              obtain ⟨x34, gx34, hB2⟩ := M.bind_some hB2
              refine Run_reg 11 (by kernel_rfl) (L' := [(3, .slice a1 x2.1.length c1), (4, .slice a2 x2.2.1.length c2), (5, .int .i64 x2.2.2), (6, .slice a3 x3.1.length c3), (24, .int .i64 i2), (159, .bool x34)]) ?_ ?_
              · refine QRun_b [.int .i64 x33.2, .bool (x33.2 != 0)] 0 _ (by kernel_rfl) (fun w => by kernel_rfl) ?_
                refine QRun_seq 11 [(3, .slice a1 x2.1.length c1), (4, .slice a2 x2.2.1.length c2), (5, .int .i64 x2.2.2), (6, .slice a3 x3.1.length c3), (24, .int .i64 i2), (159, .bool x34)] ?_ ?_
                · rcases Bool.eq_false_or_eq_true (x33.2 != 0) with hb19 | hb19
                  · refine QRun_bool (x33.2 != 0) true (by kernel_rfl) (fun w => by kernel_rfl) hb19 ?_
                    have gx34 := M.ret_some ((M.ite_some gx34).1 hb19)
                    refine QRun_n (by kernel_rfl) ?_
                    refine QRun_n (by kernel_rfl) ?_
                    refine QRun_n (by kernel_rfl) ?_
                    refine QRun_n (by kernel_rfl) ?_
                    refine QRun_n (by kernel_rfl) ?_
                    refine QRun_n (by kernel_rfl) ?_
                    refine QRun_n (by kernel_rfl) ?_
                    refine QRun_bool true x34 (by kernel_rfl) (fun w => by kernel_rfl) gx34 ?_
                    exact QRun_done [3, 4, 5, 6, 24, 159] (by kernel_rfl) (by kernel_rfl)
                  · refine QRun_bool (x33.2 != 0) false (by kernel_rfl) (fun w => by kernel_rfl) hb19 ?_
                    have gx34 := (M.ite_some gx34).2 hb19
                    obtain ⟨x35, hx23, gx34⟩ := M.bind_some gx34
                    obtain ⟨hx23l, hx23u, hx23⟩ := M.idx_some hx23
                    have H51 : Hold h h15 [rowsP cd2 23 a3 x3.1.length c3 x3.1 [((w64 (i2 - 1)).toNat, a16, x32.length, c16, x32)], own cd2 a17 x33.1.length c17 x33.1, own cd23 a1 x2.1.length c1 x2.1, own cd2 a2 x2.2.1.length c2 x2.2.1] := H50.pick [3, 0, 1, 2] (by kernel_rfl)
                    obtain ⟨a18, c18, H52⟩ := H51.pinRow hx23
                    have H53 : Hold h h15 [own cd2 a17 x33.1.length c17 x33.1, own cd23 a1 x2.1.length c1 x2.1, own cd2 a2 x2.2.1.length c2 x2.2.1, rowsP cd2 23 a3 x3.1.length c3 x3.1 [(i2.toNat, a18, x35.length, c18, x35), ((w64 (i2 - 1)).toNat, a16, x32.length, c16, x32)]] := H52.pick [1, 2, 3, 0] (by kernel_rfl)
                    obtain ⟨x36, hx24, gx34⟩ := M.bind_some gx34
                    have gx34 := M.ret_some gx34
                    refine QRun_b [.slice a17 x33.1.length c17, .slice a3 x3.1.length c3, .int .i64 i2] 3 _ (by kernel_rfl) (fun w => by kernel_rfl) ?_
                    refine QRun_y (.pointer (some (adr a3 (i2.toNat * 1)))) (by kernel_rfl) (Y_idx (t := 22) (e := 23) (sz := 1) (a := a3) (n := x3.1.length) (cap := c3) (kk := .i64) (i := i2) (by kernel_rfl) Try.underlying22 (by kernel_rfl) ((H50.rdRows 3 rfl).cell hx23).1 hx23l hx23u) ?_
                    refine QRun_y (.slice a18 x35.length c18) (by kernel_rfl) (Y_load1 (t := 23) (p := adr a3 (i2.toNat * 1)) (v := .slice a18 x35.length c18) (by kernel_rfl) (fun w => by kernel_rfl) (H53.cellPin 3 rfl 0 rfl)) ?_
                    refine QRun_y (.bool x36) (by kernel_rfl) (Y_callq (f := 27) (args := #[.slice a17 x33.1.length c17, .slice a18 x35.length c18]) (v := .bool x36) (by kernel_rfl) (w_laws_likeInts h15 x33.1 a17 c17 (H53.rd 0 rfl) x35 a18 c18 (H53.rdPin 3 rfl 0 rfl) _ _ hx24)) ?_
                    refine QRun_b [.bool (!x36)] 9 _ (by kernel_rfl) (fun w => by kernel_rfl) ?_
                    refine QRun_bool (!x36) x34 (by kernel_rfl) (fun w => by kernel_rfl) gx34 ?_
                    exact QRun_done [3, 4, 5, 6, 24, 159] (by kernel_rfl) (by kernel_rfl)
                exact QRun_done [3, 4, 5, 6, 24, 159] (by kernel_rfl) (by kernel_rfl)
              refine Run_cond (b := x34) (by kernel_rfl) (fun hb20 => ?_) (fun hb20 => ?_)
              · have hB2 := (M.ite_some hB2).1 hb20
                refine Run_seq ?_
                refine Run_reg 1 (by kernel_rfl) (L' := [(2, .bool false)]) ?_ ?_
                · refine QRun_b [.bool false] 0 _ (by kernel_rfl) (fun w => by kernel_rfl) ?_
                  exact QRun_done [2] (by kernel_rfl) (by kernel_rfl)
                have hB2 := M.ret_some hB2
                have gx31 := houty2 _ hB2.symm
                have hF := M.cont_inr' hF gx31
                have hF := M.ret_some hF
                subst hF
                have H54 : Hold h h15 [] := H50.pick [] (by kernel_rfl)
                exact Run_ret1 rfl (ResV_tmp (v := .bool false) (by kernel_rfl)) ⟨rfl, H54⟩
              · have hB2 := (M.ite_some hB2).2 hb20
                refine Run_skip ?_
                refine Run_blk ?_
                refine Run_reg 3 (by kernel_rfl) (L' := [(3, .slice a1 x2.1.length c1), (4, .slice a2 x2.2.1.length c2), (5, .int .i64 x2.2.2), (6, .slice a3 x3.1.length c3), (24, .int .i64 (i2 + 1))]) ?_ ?_
                · refine QRun_b [.int .i64 i2] 0 _ (by kernel_rfl) (fun w => by kernel_rfl) ?_
                  refine QRun_y (.int .i64 (i2 + 1)) (by kernel_rfl) (Y_eq (v := .int .i64 (w64 (i2 + 1))) (Y_pure (fun w => by kernel_rfl)) (by rw [w64_eq _ (by omega)])) ?_
                  refine QRun_b [.int .i64 (i2 + 1)] 2 _ (by kernel_rfl) (fun w => by kernel_rfl) ?_
                  exact QRun_done [3, 4, 5, 6, 24] (by kernel_rfl) (by kernel_rfl)
                have H55 : Hold h h15 [rowsP cd2 23 a3 x3.1.length c3 x3.1 [((w64 (i2 - 1)).toNat, a16, x32.length, c16, x32)], own cd2 a17 x33.1.length c17 x33.1, own cd23 a1 x2.1.length c1 x2.1, own cd2 a2 x2.2.1.length c2 x2.2.1] := H50.pick [3, 0, 1, 2] (by kernel_rfl)
                have H56 := H55.ofRows
                have H57 : Hold h h15 [own cd23 a1 x2.1.length c1 x2.1, own cd2 a2 x2.2.1.length c2 x2.2.1, own cd23 a3 x3.1.length c3 x3.1] := H56.pick [2, 3, 0] (by kernel_rfl)
                have hB2 := M.ret_some hB2
                have gx31 := hgoy2 _ hB2.symm
                exact Run_again [3, 4, 5, 6, 24] (by kernel_rfl) my2 (Nat.lt_succ_self _) ⟨i2 + 1, (), by omega, gx31, rfl, H57⟩
            · have gx31 := M.for_end gx31 hb18
              subst gx31
              refine Run_exit (k' := _) rfl ?_
              have H58 : Hold h h13 [own cd2 a2 x2.2.1.length c2 x2.2.1, own cd23 a3 x3.1.length c3 x3.1] := H43.pick [1, 2] (by kernel_rfl)
              exact Run_fall [4, 5, 6] (by kernel_rfl) ⟨(), rfl, rfl, H58⟩

end Go.Proofs.Ytjdcdcipilhmeaa
