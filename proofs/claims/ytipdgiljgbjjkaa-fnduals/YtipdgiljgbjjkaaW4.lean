/-
  Walks: each Go function, called with what reads as plain data, returns what its plain program computes.
  Conditions: None beyond the given statement.
-/
import Derived.Test.YtipdgiljgbjjkaaW3
namespace Go.Proofs.Ytipdgiljgbjjkaa
open Go
attribute [local irreducible] setL setB opA fineI idleI fineB evB okB markB markBs readyB readyBs chainB lk rho pickL dropSlot tailOK
set_option maxRecDepth 100000 in
set_option maxHeartbeats 4000000 in
theorem w_laws_FnDuals (h : Heap) (code : List Int) (acode : Option Addr) (ccode : Nat) (rcode : Rd cd5 h (Lt h) acode ccode code) (n : Nat) (r : Bool) (hF : laws_FnDuals code n = some r) :
    Fn Try.prog 8 #[.slice acode code.length ccode] h fun v h' => v = .bool r ∧ Hold h h' [] := by
  unfold laws_FnDuals at hF
  refine Fn_enter (args := [.slice acode code.length ccode]) Try.func8 rfl (by kernel_rfl) (by kernel_rfl) (fun w0 _ => ?_)
  have H0 := Hold.init h
  refine Run_seq ?_
  refine Run_reg 1 (by kernel_rfl) (L' := [(0, .slice acode code.length ccode)]) ?_ ?_
  · refine QRun_b [.bool false] 0 _ (by kernel_rfl) (fun w => by kernel_rfl) ?_
    exact QRun_done [0] (by kernel_rfl) (by kernel_rfl)
  refine Run_seq ?_
  refine Run_seq ?_
  obtain ⟨x1, hx1, hF⟩ := M.bind_some hF
  refine Run_reg 2 (by kernel_rfl) (L' := [(0, .slice acode code.length ccode), (19, .bool x1)]) ?_ ?_
  · refine QRun_b [.slice acode code.length ccode] 0 _ (by kernel_rfl) (fun w => by kernel_rfl) ?_
    refine QRun_y (.bool x1) (by kernel_rfl) (Y_callq (f := 27) (args := #[.slice acode code.length ccode]) (v := .bool x1) (by kernel_rfl) (w_laws_big h code acode ccode rcode _ _ hx1)) ?_
    exact QRun_done [0, 19] (by kernel_rfl) (by kernel_rfl)
  refine Run_cond (b := x1) (by kernel_rfl) (fun hb1 => ?_) (fun hb1 => ?_)
  · have hF := (M.ite_some hF).1 hb1
    refine Run_seq ?_
    refine Run_reg 1 (by kernel_rfl) (L' := [(2, .bool true)]) ?_ ?_
    · refine QRun_b [.bool true] 0 _ (by kernel_rfl) (fun w => by kernel_rfl) ?_
      exact QRun_done [2] (by kernel_rfl) (by kernel_rfl)
    have hF := M.ret_some hF
    subst hF
    exact Run_ret1 rfl (ResV_tmp (v := .bool true) (by kernel_rfl)) ⟨rfl, H0⟩
  · have hF := (M.ite_some hF).2 hb1
    refine Run_skip ?_
    refine Run_seq ?_
    refine Run_ops ?_
    refine Run_b [.slice acode code.length ccode] 0 _ (by kernel_rfl) (fun w => by kernel_rfl) ?_
    obtain ⟨x2, hx2, hF⟩ := M.bind_some hF
    refine Run_E (by kernel_rfl) ?_
    refine E_call (f := 47) (args := #[.slice acode code.length ccode]) (w_spec_DrawDualOf h code acode ccode rcode _ _ hx2) (by kernel_rfl) (fun v1 h1 hp1 => ?_)
    obtain ⟨a1, c1, rfl, H1⟩ := hp1
    have H2 : Hold h h1 [own cd39 a1 x2.length c1 x2] := H0.call H1 rfl
    refine Run_b [.slice a1 x2.length c1] 2 _ (by kernel_rfl) (fun w => by kernel_rfl) ?_
    refine Run_nil (by kernel_rfl) ?_
    refine Run_keep [0, 3] (L' := [(0, .slice acode code.length ccode), (3, .slice a1 x2.length c1)]) (by kernel_rfl) ?_
    refine Run_seq ?_
    refine Run_ops ?_
    refine Run_b [.slice a1 x2.length c1] 0 _ (by kernel_rfl) (fun w => by kernel_rfl) ?_
    obtain ⟨x3, hx3, hF⟩ := M.bind_some hF
    refine Run_E (by kernel_rfl) ?_
    refine E_call (f := 21) (args := #[.slice a1 x2.length c1]) (w_impl_DualOf h1 x2 a1 c1 (H2.rd 0 rfl) _ _ hx3) (by kernel_rfl) (fun v2 h2 hp2 => ?_)
    obtain ⟨a2, c2, a3, c3, rfl, H3⟩ := hp2
    have H4 : Hold h h2 [own cd2 a2 x3.1.length c2 x3.1, own cd2 a3 x3.2.1.length c3 x3.2.1, own cd39 a1 x2.length c1 x2] := H2.call H3 rfl
    refine Run_b [.tuple #[.slice a2 x3.1.length c2, .slice a3 x3.2.1.length c3, .int .i64 x3.2.2], .slice a2 x3.1.length c2, .slice a3 x3.2.1.length c3, .int .i64 x3.2.2, .slice a2 x3.1.length c2, .slice a3 x3.2.1.length c3, .int .i64 x3.2.2] 2 _ (by kernel_rfl) (fun w => by kernel_rfl) ?_
    refine Run_nil (by kernel_rfl) ?_
    refine Run_keep [0, 3, 4, 5, 6] (L' := [(0, .slice acode code.length ccode), (3, .slice a1 x2.length c1), (4, .slice a2 x3.1.length c2), (5, .slice a3 x3.2.1.length c3), (6, .int .i64 x3.2.2)]) (by kernel_rfl) ?_
    refine Run_seq ?_
    refine Run_ops ?_
    refine Run_b [.slice a1 x2.length c1] 0 _ (by kernel_rfl) (fun w => by kernel_rfl) ?_
    obtain ⟨x4, hx4, hF⟩ := M.bind_some hF
    refine Run_E (by kernel_rfl) ?_
    refine E_call (f := 19) (args := #[.slice a1 x2.length c1]) (w_spec_DualOf h2 x2 a1 c1 (H4.rd 2 rfl) _ _ hx4) (by kernel_rfl) (fun v3 h3 hp3 => ?_)
    obtain ⟨a4, c4, a5, c5, rfl, H5⟩ := hp3
    have H6 : Hold h h3 [own cd2 a4 x4.1.length c4 x4.1, own cd2 a5 x4.2.1.length c5 x4.2.1, own cd2 a2 x3.1.length c2 x3.1, own cd2 a3 x3.2.1.length c3 x3.2.1, own cd39 a1 x2.length c1 x2] := H4.call H5 rfl
    refine Run_b [.tuple #[.slice a4 x4.1.length c4, .slice a5 x4.2.1.length c5, .int .i64 x4.2.2], .slice a4 x4.1.length c4, .slice a5 x4.2.1.length c5, .int .i64 x4.2.2, .slice a4 x4.1.length c4, .slice a5 x4.2.1.length c5, .int .i64 x4.2.2] 2 _ (by kernel_rfl) (fun w => by kernel_rfl) ?_
    refine Run_nil (by kernel_rfl) ?_
    refine Run_keep [0, 3, 4, 5, 6, 7, 8, 9] (L' := [(0, .slice acode code.length ccode), (3, .slice a1 x2.length c1), (4, .slice a2 x3.1.length c2), (5, .slice a3 x3.2.1.length c3), (6, .int .i64 x3.2.2), (7, .slice a4 x4.1.length c4), (8, .slice a5 x4.2.1.length c5), (9, .int .i64 x4.2.2)]) (by kernel_rfl) ?_
    refine Run_seq ?_
    refine Run_ops ?_
    refine Run_b [.slice acode code.length ccode] 0 _ (by kernel_rfl) (fun w => by kernel_rfl) ?_
    obtain ⟨x5, hx5, hF⟩ := M.bind_some hF
    refine Run_E (by kernel_rfl) ?_
    refine E_call (f := 48) (args := #[.slice acode code.length ccode]) (w_spec_DrawIsDual h3 code acode ccode (rcode.at H6.ext) _ _ hx5) (by kernel_rfl) (fun v4 h4 hp4 => ?_)
    obtain ⟨a6, c6, a7, c7, a8, c8, rfl, H7⟩ := hp4
    have H8 : Hold h h4 [own cd39 a6 x5.1.length c6 x5.1, own cd2 a7 x5.2.1.length c7 x5.2.1, own cd2 a8 x5.2.2.length c8 x5.2.2, own cd2 a4 x4.1.length c4 x4.1, own cd2 a5 x4.2.1.length c5 x4.2.1, own cd2 a2 x3.1.length c2 x3.1, own cd2 a3 x3.2.1.length c3 x3.2.1, own cd39 a1 x2.length c1 x2] := H6.call H7 rfl
    refine Run_b [.tuple #[.slice a6 x5.1.length c6, .slice a7 x5.2.1.length c7, .slice a8 x5.2.2.length c8], .slice a6 x5.1.length c6, .slice a7 x5.2.1.length c7, .slice a8 x5.2.2.length c8, .slice a6 x5.1.length c6, .slice a7 x5.2.1.length c7, .slice a8 x5.2.2.length c8] 2 _ (by kernel_rfl) (fun w => by kernel_rfl) ?_
    refine Run_nil (by kernel_rfl) ?_
    refine Run_keep [3, 4, 5, 6, 7, 8, 9, 10, 11, 12] (L' := [(3, .slice a1 x2.length c1), (4, .slice a2 x3.1.length c2), (5, .slice a3 x3.2.1.length c3), (6, .int .i64 x3.2.2), (7, .slice a4 x4.1.length c4), (8, .slice a5 x4.2.1.length c5), (9, .int .i64 x4.2.2), (10, .slice a6 x5.1.length c6), (11, .slice a7 x5.2.1.length c7), (12, .slice a8 x5.2.2.length c8)]) (by kernel_rfl) ?_
    refine Run_seq ?_
    obtain ⟨x6, hx6, hF⟩ := M.bind_some hF
    refine Run_regC (j := 5) (C := fun x => Hold h x [own cd39 a6 x5.1.length c6 x5.1, own cd2 a7 x5.2.1.length c7 x5.2.1, own cd2 a8 x5.2.2.length c8 x5.2.2, own cd2 a4 x4.1.length c4 x4.1, own cd2 a5 x4.2.1.length c5 x4.2.1, own cd2 a2 x3.1.length c2 x3.1, own cd2 a3 x3.2.1.length c3 x3.2.1, own cd39 a1 x2.length c1 x2]) (by kernel_rfl) H8 (L' := [(3, .slice a1 x2.length c1), (4, .slice a2 x3.1.length c2), (5, .slice a3 x3.2.1.length c3), (6, .int .i64 x3.2.2), (7, .slice a4 x4.1.length c4), (8, .slice a5 x4.2.1.length c5), (9, .int .i64 x4.2.2), (10, .slice a6 x5.1.length c6), (11, .slice a7 x5.2.1.length c7), (12, .slice a8 x5.2.2.length c8), (13, .bool x6)]) ?_ (fun h5 H9 => ?_)
    · refine QRun_b [.slice a6 x5.1.length c6, .slice a7 x5.2.1.length c7, .slice a8 x5.2.2.length c8] 0 _ (by kernel_rfl) (fun w => by kernel_rfl) ?_
      refine QRun_y (.bool x6) (by kernel_rfl) (Y_call (f := 49) (args := #[.slice a6 x5.1.length c6, .slice a7 x5.2.1.length c7, .slice a8 x5.2.2.length c8]) (v := .bool x6) (by kernel_rfl) fun hx Hx => (w_impl_IsDual hx x5.1 a6 c6 (Hx.rd 0 rfl) x5.2.1 a7 c7 (Hx.rd 1 rfl) x5.2.2 a8 c8 (Hx.rd 2 rfl) _ _ hx6).mono fun _ _ ⟨e, H'⟩ => ⟨e, Hx.call H' rfl⟩) ?_
      refine QRun_b [.bool x6] 4 _ (by kernel_rfl) (fun w => by kernel_rfl) ?_
      exact QRun_done [3, 4, 5, 6, 7, 8, 9, 10, 11, 12, 13] (by kernel_rfl) (by kernel_rfl)
    have H10 : Hold h h5 [own cd39 a6 x5.1.length c6 x5.1, own cd2 a7 x5.2.1.length c7 x5.2.1, own cd2 a8 x5.2.2.length c8 x5.2.2, own cd2 a4 x4.1.length c4 x4.1, own cd2 a5 x4.2.1.length c5 x4.2.1, own cd2 a2 x3.1.length c2 x3.1, own cd2 a3 x3.2.1.length c3 x3.2.1, own cd39 a1 x2.length c1 x2] := H9
    refine Run_seq ?_
    refine Run_seq ?_
    obtain ⟨x7, gx7, hF⟩ := M.bind_some hF
    obtain ⟨x9, gx9, hF⟩ := M.bind_some hF
    obtain ⟨x11, gx11, hF⟩ := M.bind_some hF
    refine Run_reg 23 (by kernel_rfl) (L' := [(3, .slice a1 x2.length c1), (4, .slice a2 x3.1.length c2), (5, .slice a3 x3.2.1.length c3), (6, .int .i64 x3.2.2), (10, .slice a6 x5.1.length c6), (11, .slice a7 x5.2.1.length c7), (12, .slice a8 x5.2.2.length c8), (13, .bool x6), (66, .bool x11)]) ?_ ?_
    · refine QRun_b [.int .i64 x3.2.2, .int .i64 x4.2.2, .bool (x3.2.2 != x4.2.2)] 0 _ (by kernel_rfl) (fun w => by kernel_rfl) ?_
      refine QRun_seq 9 [(3, .slice a1 x2.length c1), (4, .slice a2 x3.1.length c2), (5, .slice a3 x3.2.1.length c3), (6, .int .i64 x3.2.2), (8, .slice a5 x4.2.1.length c5), (10, .slice a6 x5.1.length c6), (11, .slice a7 x5.2.1.length c7), (12, .slice a8 x5.2.2.length c8), (13, .bool x6), (52, .bool x7)] ?_ ?_
      · rcases Bool.eq_false_or_eq_true (x3.2.2 != x4.2.2) with hb2 | hb2
        · refine QRun_bool (x3.2.2 != x4.2.2) true (by kernel_rfl) (fun w => by kernel_rfl) hb2 ?_
          have gx7 := M.ret_some ((M.ite_some gx7).1 hb2)
          refine QRun_n (by kernel_rfl) ?_
          refine QRun_n (by kernel_rfl) ?_
          refine QRun_n (by kernel_rfl) ?_
          refine QRun_n (by kernel_rfl) ?_
          refine QRun_bool true x7 (by kernel_rfl) (fun w => by kernel_rfl) gx7 ?_
          exact QRun_done [3, 4, 5, 6, 8, 10, 11, 12, 13, 52] (by kernel_rfl) (by kernel_rfl)
        · refine QRun_bool (x3.2.2 != x4.2.2) false (by kernel_rfl) (fun w => by kernel_rfl) hb2 ?_
          have gx7 := (M.ite_some gx7).2 hb2
          obtain ⟨x8, hx7, gx7⟩ := M.bind_some gx7
          have gx7 := M.ret_some gx7
          refine QRun_b [.slice a2 x3.1.length c2, .slice a4 x4.1.length c4] 4 _ (by kernel_rfl) (fun w => by kernel_rfl) ?_
          refine QRun_y (.bool x8) (by kernel_rfl) (Y_callq (f := 39) (args := #[.slice a2 x3.1.length c2, .slice a4 x4.1.length c4]) (v := .bool x8) (by kernel_rfl) (w_laws_likeInts h5 x3.1 a2 c2 (H10.rd 5 rfl) x4.1 a4 c4 (H10.rd 3 rfl) _ _ hx7)) ?_
          refine QRun_b [.bool (!x8)] 7 _ (by kernel_rfl) (fun w => by kernel_rfl) ?_
          refine QRun_bool (!x8) x7 (by kernel_rfl) (fun w => by kernel_rfl) gx7 ?_
          exact QRun_done [3, 4, 5, 6, 8, 10, 11, 12, 13, 52] (by kernel_rfl) (by kernel_rfl)
      refine QRun_seq 15 [(3, .slice a1 x2.length c1), (4, .slice a2 x3.1.length c2), (5, .slice a3 x3.2.1.length c3), (6, .int .i64 x3.2.2), (10, .slice a6 x5.1.length c6), (11, .slice a7 x5.2.1.length c7), (12, .slice a8 x5.2.2.length c8), (13, .bool x6), (58, .bool x9)] ?_ ?_
      · rcases Bool.eq_false_or_eq_true x7 with hb3 | hb3
        · refine QRun_bool x7 true (by kernel_rfl) (fun w => by kernel_rfl) hb3 ?_
          have gx9 := M.ret_some ((M.ite_some gx9).1 hb3)
          refine QRun_n (by kernel_rfl) ?_
          refine QRun_n (by kernel_rfl) ?_
          refine QRun_n (by kernel_rfl) ?_
          refine QRun_n (by kernel_rfl) ?_
          refine QRun_bool true x9 (by kernel_rfl) (fun w => by kernel_rfl) gx9 ?_
          exact QRun_done [3, 4, 5, 6, 10, 11, 12, 13, 58] (by kernel_rfl) (by kernel_rfl)
        · refine QRun_bool x7 false (by kernel_rfl) (fun w => by kernel_rfl) hb3 ?_
          have gx9 := (M.ite_some gx9).2 hb3
          obtain ⟨x10, hx8, gx9⟩ := M.bind_some gx9
          have gx9 := M.ret_some gx9
          refine QRun_b [.slice a3 x3.2.1.length c3, .slice a5 x4.2.1.length c5] 10 _ (by kernel_rfl) (fun w => by kernel_rfl) ?_
          refine QRun_y (.bool x10) (by kernel_rfl) (Y_callq (f := 39) (args := #[.slice a3 x3.2.1.length c3, .slice a5 x4.2.1.length c5]) (v := .bool x10) (by kernel_rfl) (w_laws_likeInts h5 x3.2.1 a3 c3 (H10.rd 6 rfl) x4.2.1 a5 c5 (H10.rd 4 rfl) _ _ hx8)) ?_
          refine QRun_b [.bool (!x10)] 13 _ (by kernel_rfl) (fun w => by kernel_rfl) ?_
          refine QRun_bool (!x10) x9 (by kernel_rfl) (fun w => by kernel_rfl) gx9 ?_
          exact QRun_done [3, 4, 5, 6, 10, 11, 12, 13, 58] (by kernel_rfl) (by kernel_rfl)
      refine QRun_seq 23 [(3, .slice a1 x2.length c1), (4, .slice a2 x3.1.length c2), (5, .slice a3 x3.2.1.length c3), (6, .int .i64 x3.2.2), (10, .slice a6 x5.1.length c6), (11, .slice a7 x5.2.1.length c7), (12, .slice a8 x5.2.2.length c8), (13, .bool x6), (66, .bool x11)] ?_ ?_
      · rcases Bool.eq_false_or_eq_true x9 with hb4 | hb4
        · refine QRun_bool x9 true (by kernel_rfl) (fun w => by kernel_rfl) hb4 ?_
          have gx11 := M.ret_some ((M.ite_some gx11).1 hb4)
          refine QRun_n (by kernel_rfl) ?_
          refine QRun_n (by kernel_rfl) ?_
          refine QRun_n (by kernel_rfl) ?_
          refine QRun_n (by kernel_rfl) ?_
          refine QRun_n (by kernel_rfl) ?_
          refine QRun_n (by kernel_rfl) ?_
          refine QRun_bool true x11 (by kernel_rfl) (fun w => by kernel_rfl) gx11 ?_
          exact QRun_done [3, 4, 5, 6, 10, 11, 12, 13, 66] (by kernel_rfl) (by kernel_rfl)
        · refine QRun_bool x9 false (by kernel_rfl) (fun w => by kernel_rfl) hb4 ?_
          have gx11 := (M.ite_some gx11).2 hb4
          obtain ⟨x12, hx9, gx11⟩ := M.bind_some gx11
          have gx11 := M.ret_some gx11
          refine QRun_b [.bool x6, .slice a6 x5.1.length c6, .slice a7 x5.2.1.length c7, .slice a8 x5.2.2.length c8] 16 _ (by kernel_rfl) (fun w => by kernel_rfl) ?_
          refine QRun_y (.bool x12) (by kernel_rfl) (Y_callq (f := 50) (args := #[.slice a6 x5.1.length c6, .slice a7 x5.2.1.length c7, .slice a8 x5.2.2.length c8]) (v := .bool x12) (by kernel_rfl) (w_spec_IsDual h5 x5.1 a6 c6 (H10.rd 0 rfl) x5.2.1 a7 c7 (H10.rd 1 rfl) x5.2.2 a8 c8 (H10.rd 2 rfl) _ _ hx9)) ?_
          refine QRun_b [.bool (!(x6 == x12))] 21 _ (by kernel_rfl) (fun w => by kernel_rfl) ?_
          refine QRun_bool (!(x6 == x12)) x11 (by kernel_rfl) (fun w => by kernel_rfl) gx11 ?_
          exact QRun_done [3, 4, 5, 6, 10, 11, 12, 13, 66] (by kernel_rfl) (by kernel_rfl)
      exact QRun_done [3, 4, 5, 6, 10, 11, 12, 13, 66] (by kernel_rfl) (by kernel_rfl)
    refine Run_cond (b := x11) (by kernel_rfl) (fun hb5 => ?_) (fun hb5 => ?_)
    · have hF := (M.ite_some hF).1 hb5
      refine Run_seq ?_
      refine Run_reg 1 (by kernel_rfl) (L' := [(2, .bool false)]) ?_ ?_
      · refine QRun_b [.bool false] 0 _ (by kernel_rfl) (fun w => by kernel_rfl) ?_
        exact QRun_done [2] (by kernel_rfl) (by kernel_rfl)
      have hF := M.ret_some hF
      subst hF
      have H11 : Hold h h5 [] := H10.pick [] (by kernel_rfl)
      exact Run_ret1 rfl (ResV_tmp (v := .bool false) (by kernel_rfl)) ⟨rfl, H11⟩
    · have hF := (M.ite_some hF).2 hb5
      refine Run_skip ?_
      refine Run_seq ?_
      refine Run_seq ?_
      refine Run_reg 1 (by kernel_rfl) (L' := [(3, .slice a1 x2.length c1), (4, .slice a2 x3.1.length c2), (5, .slice a3 x3.2.1.length c3), (6, .int .i64 x3.2.2), (10, .slice a6 x5.1.length c6), (11, .slice a7 x5.2.1.length c7), (12, .slice a8 x5.2.2.length c8), (67, .bool x6)]) ?_ ?_
      · refine QRun_b [.bool x6] 0 _ (by kernel_rfl) (fun w => by kernel_rfl) ?_
        exact QRun_done [3, 4, 5, 6, 10, 11, 12, 67] (by kernel_rfl) (by kernel_rfl)
      refine Run_cond (b := x6) (by kernel_rfl) (fun hb6 => ?_) (fun hb6 => ?_)
      · have hF := (M.ite_some hF).1 hb6
        refine Run_seq ?_
        obtain ⟨x13, hx10, hF⟩ := M.bind_some hF
        refine Run_regC (j := 7) (C := fun x => Hold h x [own cd39 a6 x5.1.length c6 x5.1, own cd2 a7 x5.2.1.length c7 x5.2.1, own cd2 a8 x5.2.2.length c8 x5.2.2, own cd2 a4 x4.1.length c4 x4.1, own cd2 a5 x4.2.1.length c5 x4.2.1, own cd2 a2 x3.1.length c2 x3.1, own cd2 a3 x3.2.1.length c3 x3.2.1, own cd39 a1 x2.length c1 x2]) (by kernel_rfl) H10 (L' := [(3, .slice a1 x2.length c1), (4, .slice a2 x3.1.length c2), (5, .slice a3 x3.2.1.length c3), (6, .int .i64 x3.2.2), (11, .slice a7 x5.2.1.length c7), (12, .slice a8 x5.2.2.length c8), (14, .int .i64 x13.1), (15, .int .i64 x13.2)]) ?_ (fun h6 H12 => ?_)
        · refine QRun_b [.slice a6 x5.1.length c6] 0 _ (by kernel_rfl) (fun w => by kernel_rfl) ?_
          refine QRun_y (.tuple #[.int .i64 x13.1, .int .i64 x13.2]) (by kernel_rfl) (Y_call (f := 51) (args := #[.slice a6 x5.1.length c6]) (v := .tuple #[.int .i64 x13.1, .int .i64 x13.2]) (by kernel_rfl) fun hx Hx => (w_impl_PermanentOf hx x5.1 a6 c6 (Hx.rd 0 rfl) _ _ hx10).mono fun _ _ ⟨e, H'⟩ => ⟨e, Hx.call H' rfl⟩) ?_
          refine QRun_b [.tuple #[.int .i64 x13.1, .int .i64 x13.2], .int .i64 x13.1, .int .i64 x13.2, .int .i64 x13.1, .int .i64 x13.2] 2 _ (by kernel_rfl) (fun w => by kernel_rfl) ?_
          exact QRun_done [3, 4, 5, 6, 11, 12, 14, 15] (by kernel_rfl) (by kernel_rfl)
        have H13 : Hold h h6 [own cd39 a6 x5.1.length c6 x5.1, own cd2 a7 x5.2.1.length c7 x5.2.1, own cd2 a8 x5.2.2.length c8 x5.2.2, own cd2 a4 x4.1.length c4 x4.1, own cd2 a5 x4.2.1.length c5 x4.2.1, own cd2 a2 x3.1.length c2 x3.1, own cd2 a3 x3.2.1.length c3 x3.2.1, own cd39 a1 x2.length c1 x2] := H12
        refine Run_seq ?_
        obtain ⟨x14, gx14, hF⟩ := M.bind_some hF
        refine Run_reg 11 (by kernel_rfl) (L' := [(3, .slice a1 x2.length c1), (4, .slice a2 x3.1.length c2), (5, .slice a3 x3.2.1.length c3), (6, .int .i64 x3.2.2), (83, .bool x14)]) ?_ ?_
        · refine QRun_b [.int .i64 x13.2, .bool (x13.2 == 0)] 0 _ (by kernel_rfl) (fun w => by kernel_rfl) ?_
          refine QRun_seq 11 [(3, .slice a1 x2.length c1), (4, .slice a2 x3.1.length c2), (5, .slice a3 x3.2.1.length c3), (6, .int .i64 x3.2.2), (83, .bool x14)] ?_ ?_
          · rcases Bool.eq_false_or_eq_true (x13.2 == 0) with hb7 | hb7
            · refine QRun_bool (x13.2 == 0) true (by kernel_rfl) (fun w => by kernel_rfl) hb7 ?_
              have gx14 := (M.ite_some gx14).1 hb7
              obtain ⟨x15, hx11, gx14⟩ := M.bind_some gx14
              obtain ⟨x16, hx12, gx14⟩ := M.bind_some gx14
              have gx14 := M.ret_some gx14
              refine QRun_b [.slice a7 x5.2.1.length c7] 3 _ (by kernel_rfl) (fun w => by kernel_rfl) ?_
              refine QRun_y (.int .i64 x15) (by kernel_rfl) (Y_callq (f := 52) (args := #[.slice a7 x5.2.1.length c7]) (v := .int .i64 x15) (by kernel_rfl) (w_laws_sum h6 x5.2.1 a7 c7 (H13.rd 1 rfl) _ _ hx11)) ?_
              refine QRun_b [.slice a8 x5.2.2.length c8] 5 _ (by kernel_rfl) (fun w => by kernel_rfl) ?_
              refine QRun_y (.int .i64 x16) (by kernel_rfl) (Y_callq (f := 52) (args := #[.slice a8 x5.2.2.length c8]) (v := .int .i64 x16) (by kernel_rfl) (w_laws_sum h6 x5.2.2 a8 c8 (H13.rd 2 rfl) _ _ hx12)) ?_
              refine QRun_b [.int .i64 (w64 (x15 + x16)), .int .i64 x13.1, .bool (decide ((w64 (x15 + x16)) < x13.1))] 7 _ (by kernel_rfl) (fun w => by kernel_rfl) ?_
              refine QRun_bool (decide ((w64 (x15 + x16)) < x13.1)) x14 (by kernel_rfl) (fun w => by kernel_rfl) gx14 ?_
              exact QRun_done [3, 4, 5, 6, 83] (by kernel_rfl) (by kernel_rfl)
            · refine QRun_bool (x13.2 == 0) false (by kernel_rfl) (fun w => by kernel_rfl) hb7 ?_
              have gx14 := M.ret_some ((M.ite_some gx14).2 hb7)
              refine QRun_n (by kernel_rfl) ?_
              refine QRun_n (by kernel_rfl) ?_
              refine QRun_n (by kernel_rfl) ?_
              refine QRun_n (by kernel_rfl) ?_
              refine QRun_n (by kernel_rfl) ?_
              refine QRun_n (by kernel_rfl) ?_
              refine QRun_n (by kernel_rfl) ?_
              refine QRun_bool false x14 (by kernel_rfl) (fun w => by kernel_rfl) gx14 ?_
              exact QRun_done [3, 4, 5, 6, 83] (by kernel_rfl) (by kernel_rfl)
          exact QRun_done [3, 4, 5, 6, 83] (by kernel_rfl) (by kernel_rfl)
        refine Run_cond (b := x14) (by kernel_rfl) (fun hb8 => ?_) (fun hb8 => ?_)
        · have hF := (M.ite_some hF).1 hb8
          refine Run_seq ?_
          refine Run_reg 1 (by kernel_rfl) (L' := [(2, .bool false)]) ?_ ?_
          · refine QRun_b [.bool false] 0 _ (by kernel_rfl) (fun w => by kernel_rfl) ?_
            exact QRun_done [2] (by kernel_rfl) (by kernel_rfl)
          have hF := M.ret_some hF
          subst hF
          have H14 : Hold h h6 [] := H13.pick [] (by kernel_rfl)
          exact Run_ret1 rfl (ResV_tmp (v := .bool false) (by kernel_rfl)) ⟨rfl, H14⟩
        · have hF := (M.ite_some hF).2 hb8
          refine Run_skip ?_
          refine Run_seq ?_
          refine Run_seq ?_
          refine Run_reg 2 (by kernel_rfl) (L' := [(3, .slice a1 x2.length c1), (4, .slice a2 x3.1.length c2), (5, .slice a3 x3.2.1.length c3), (85, .bool (x3.2.2 != 0))]) ?_ ?_
          · refine QRun_b [.int .i64 x3.2.2, .bool (x3.2.2 != 0)] 0 _ (by kernel_rfl) (fun w => by kernel_rfl) ?_
            exact QRun_done [3, 4, 5, 85] (by kernel_rfl) (by kernel_rfl)
          refine Run_cond (b := x3.2.2 != 0) (by kernel_rfl) (fun hb9 => ?_) (fun hb9 => ?_)
          · have hF := (M.ite_some hF).1 hb9
            refine Run_seq ?_
            refine Run_reg 1 (by kernel_rfl) (L' := [(2, .bool true)]) ?_ ?_
            · refine QRun_b [.bool true] 0 _ (by kernel_rfl) (fun w => by kernel_rfl) ?_
              exact QRun_done [2] (by kernel_rfl) (by kernel_rfl)
            have hF := M.ret_some hF
            subst hF
            have H15 : Hold h h6 [] := H13.pick [] (by kernel_rfl)
            exact Run_ret1 rfl (ResV_tmp (v := .bool true) (by kernel_rfl)) ⟨rfl, H15⟩
          · have hF := (M.ite_some hF).2 hb9
            refine Run_skip ?_
            refine Run_seq ?_
            obtain ⟨x17, hx13, hF⟩ := M.bind_some hF
            refine Run_regC (j := 7) (C := fun x => Hold h x [own cd39 a6 x5.1.length c6 x5.1, own cd2 a7 x5.2.1.length c7 x5.2.1, own cd2 a8 x5.2.2.length c8 x5.2.2, own cd2 a4 x4.1.length c4 x4.1, own cd2 a5 x4.2.1.length c5 x4.2.1, own cd2 a2 x3.1.length c2 x3.1, own cd2 a3 x3.2.1.length c3 x3.2.1, own cd39 a1 x2.length c1 x2]) (by kernel_rfl) H13 (L' := [(3, .slice a1 x2.length c1), (4, .slice a2 x3.1.length c2), (5, .slice a3 x3.2.1.length c3), (16, .int .i64 x17.1), (17, .int .i64 x17.2)]) ?_ (fun h7 H16 => ?_)
            · refine QRun_b [.slice a1 x2.length c1] 0 _ (by kernel_rfl) (fun w => by kernel_rfl) ?_
              refine QRun_y (.tuple #[.int .i64 x17.1, .int .i64 x17.2]) (by kernel_rfl) (Y_call (f := 51) (args := #[.slice a1 x2.length c1]) (v := .tuple #[.int .i64 x17.1, .int .i64 x17.2]) (by kernel_rfl) fun hx Hx => (w_impl_PermanentOf hx x2 a1 c1 (Hx.rd 7 rfl) _ _ hx13).mono fun _ _ ⟨e, H'⟩ => ⟨e, Hx.call H' rfl⟩) ?_
              refine QRun_b [.tuple #[.int .i64 x17.1, .int .i64 x17.2], .int .i64 x17.1, .int .i64 x17.2, .int .i64 x17.1, .int .i64 x17.2] 2 _ (by kernel_rfl) (fun w => by kernel_rfl) ?_
              exact QRun_done [3, 4, 5, 16, 17] (by kernel_rfl) (by kernel_rfl)
            have H17 : Hold h h7 [own cd39 a6 x5.1.length c6 x5.1, own cd2 a7 x5.2.1.length c7 x5.2.1, own cd2 a8 x5.2.2.length c8 x5.2.2, own cd2 a4 x4.1.length c4 x4.1, own cd2 a5 x4.2.1.length c5 x4.2.1, own cd2 a2 x3.1.length c2 x3.1, own cd2 a3 x3.2.1.length c3 x3.2.1, own cd39 a1 x2.length c1 x2] := H16
            refine Run_seq ?_
            obtain ⟨x18, hx14, hF⟩ := M.bind_some hF
            obtain ⟨x19, gx19, hF⟩ := M.bind_some hF
            refine Run_regC (j := 22) (C := fun x => Hold h x [own cd39 a6 x5.1.length c6 x5.1, own cd2 a7 x5.2.1.length c7 x5.2.1, own cd2 a8 x5.2.2.length c8 x5.2.2, own cd2 a4 x4.1.length c4 x4.1, own cd2 a5 x4.2.1.length c5 x4.2.1, own cd2 a2 x3.1.length c2 x3.1, own cd2 a3 x3.2.1.length c3 x3.2.1, own cd39 a1 x2.length c1 x2]) (by kernel_rfl) H17 (L' := [(2, .bool x19)]) ?_ (fun h8 H18 => ?_)
            · refine QRun_b [.slice a1 x2.length c1, .slice a2 x3.1.length c2, .slice a3 x3.2.1.length c3] 0 _ (by kernel_rfl) (fun w => by kernel_rfl) ?_
              refine QRun_y (.bool x18) (by kernel_rfl) (Y_call (f := 49) (args := #[.slice a1 x2.length c1, .slice a2 x3.1.length c2, .slice a3 x3.2.1.length c3]) (v := .bool x18) (by kernel_rfl) fun hx Hx => (w_impl_IsDual hx x2 a1 c1 (Hx.rd 7 rfl) x3.1 a2 c2 (Hx.rd 5 rfl) x3.2.1 a3 c3 (Hx.rd 6 rfl) _ _ hx14).mono fun _ _ ⟨e, H'⟩ => ⟨e, Hx.call H' rfl⟩) ?_
              refine QRun_seq 21 [(111, .bool x19)] ?_ ?_
              · rcases Bool.eq_false_or_eq_true x18 with hb10 | hb10
                · refine QRun_bool x18 true (by kernel_rfl) (fun w => by kernel_rfl) hb10 ?_
                  have gx19 := (M.ite_some gx19).1 hb10
                  obtain ⟨x20, gx20, gx19⟩ := M.bind_some gx19
                  have gx19 := M.ret_some gx19
                  refine QRun_b [.int .i64 x17.2, .bool (x17.2 == 3)] 5 _ (by kernel_rfl) (fun w => by kernel_rfl) ?_
                  refine QRun_seq 20 [(95, .bool true), (110, .bool x20)] ?_ ?_
                  · rcases Bool.eq_false_or_eq_true (x17.2 == 3) with hb11 | hb11
                    · refine QRun_bool (x17.2 == 3) true (by kernel_rfl) (fun w => by kernel_rfl) hb11 ?_
                      have gx20 := M.ret_some ((M.ite_some gx20).1 hb11)
                      refine QRun_n (by kernel_rfl) ?_
                      refine QRun_n (by kernel_rfl) ?_
                      refine QRun_n (by kernel_rfl) ?_
                      refine QRun_n (by kernel_rfl) ?_
                      refine QRun_n (by kernel_rfl) ?_
                      refine QRun_n (by kernel_rfl) ?_
                      refine QRun_n (by kernel_rfl) ?_
                      refine QRun_n (by kernel_rfl) ?_
                      refine QRun_n (by kernel_rfl) ?_
                      refine QRun_n (by kernel_rfl) ?_
                      refine QRun_n (by kernel_rfl) ?_
                      refine QRun_bool true x20 (by kernel_rfl) (fun w => by kernel_rfl) gx20 ?_
                      exact QRun_done [95, 110] (by kernel_rfl) (by kernel_rfl)
                    · refine QRun_bool (x17.2 == 3) false (by kernel_rfl) (fun w => by kernel_rfl) hb11 ?_
                      have gx20 := (M.ite_some gx20).2 hb11
                      obtain ⟨x21, gx21, gx20⟩ := M.bind_some gx20
                      have gx20 := M.ret_some gx20
                      refine QRun_b [.int .i64 x17.2, .bool (x17.2 == 0)] 8 _ (by kernel_rfl) (fun w => by kernel_rfl) ?_
                      refine QRun_seq 19 [(95, .bool true), (98, .bool false), (109, .bool x21)] ?_ ?_
                      · rcases Bool.eq_false_or_eq_true (x17.2 == 0) with hb12 | hb12
                        · refine QRun_bool (x17.2 == 0) true (by kernel_rfl) (fun w => by kernel_rfl) hb12 ?_
                          have gx21 := (M.ite_some gx21).1 hb12
                          obtain ⟨x22, hx15, gx21⟩ := M.bind_some gx21
                          obtain ⟨x23, hx16, gx21⟩ := M.bind_some gx21
                          have gx21 := M.ret_some gx21
                          refine QRun_b [.slice a2 x3.1.length c2] 11 _ (by kernel_rfl) (fun w => by kernel_rfl) ?_
                          refine QRun_y (.int .i64 x22) (by kernel_rfl) (Y_cls fun hx Hx => (Y_callq (f := 52) (args := #[.slice a2 x3.1.length c2]) (v := .int .i64 x22) (by kernel_rfl) (w_laws_sum hx x3.1 a2 c2 (Hx.rd 5 rfl) _ _ hx15))) ?_
                          refine QRun_b [.slice a3 x3.2.1.length c3] 13 _ (by kernel_rfl) (fun w => by kernel_rfl) ?_
                          refine QRun_y (.int .i64 x23) (by kernel_rfl) (Y_cls fun hx Hx => (Y_callq (f := 52) (args := #[.slice a3 x3.2.1.length c3]) (v := .int .i64 x23) (by kernel_rfl) (w_laws_sum hx x3.2.1 a3 c3 (Hx.rd 6 rfl) _ _ hx16))) ?_
                          refine QRun_b [.int .i64 (w64 (x22 + x23)), .int .i64 x17.1, .bool ((w64 (x22 + x23)) == x17.1)] 15 _ (by kernel_rfl) (fun w => by kernel_rfl) ?_
                          refine QRun_bool ((w64 (x22 + x23)) == x17.1) x21 (by kernel_rfl) (fun w => by kernel_rfl) gx21 ?_
                          exact QRun_done [95, 98, 109] (by kernel_rfl) (by kernel_rfl)
                        · refine QRun_bool (x17.2 == 0) false (by kernel_rfl) (fun w => by kernel_rfl) hb12 ?_
                          have gx21 := M.ret_some ((M.ite_some gx21).2 hb12)
                          refine QRun_n (by kernel_rfl) ?_
                          refine QRun_n (by kernel_rfl) ?_
                          refine QRun_n (by kernel_rfl) ?_
                          refine QRun_n (by kernel_rfl) ?_
                          refine QRun_n (by kernel_rfl) ?_
                          refine QRun_n (by kernel_rfl) ?_
                          refine QRun_n (by kernel_rfl) ?_
                          refine QRun_bool false x21 (by kernel_rfl) (fun w => by kernel_rfl) gx21 ?_
                          exact QRun_done [95, 98, 109] (by kernel_rfl) (by kernel_rfl)
                      refine QRun_bool x21 x20 (by kernel_rfl) (fun w => by kernel_rfl) gx20 ?_
                      exact QRun_done [95, 110] (by kernel_rfl) (by kernel_rfl)
                  refine QRun_bool x20 x19 (by kernel_rfl) (fun w => by kernel_rfl) gx19 ?_
                  exact QRun_done [111] (by kernel_rfl) (by kernel_rfl)
                · refine QRun_bool x18 false (by kernel_rfl) (fun w => by kernel_rfl) hb10 ?_
                  have gx19 := M.ret_some ((M.ite_some gx19).2 hb10)
                  refine QRun_n (by kernel_rfl) ?_
                  refine QRun_n (by kernel_rfl) ?_
                  refine QRun_n (by kernel_rfl) ?_
                  refine QRun_n (by kernel_rfl) ?_
                  refine QRun_n (by kernel_rfl) ?_
                  refine QRun_n (by kernel_rfl) ?_
                  refine QRun_n (by kernel_rfl) ?_
                  refine QRun_n (by kernel_rfl) ?_
                  refine QRun_n (by kernel_rfl) ?_
                  refine QRun_n (by kernel_rfl) ?_
                  refine QRun_n (by kernel_rfl) ?_
                  refine QRun_n (by kernel_rfl) ?_
                  refine QRun_n (by kernel_rfl) ?_
                  refine QRun_n (by kernel_rfl) ?_
                  refine QRun_n (by kernel_rfl) ?_
                  refine QRun_bool false x19 (by kernel_rfl) (fun w => by kernel_rfl) gx19 ?_
                  exact QRun_done [111] (by kernel_rfl) (by kernel_rfl)
              refine QRun_b [.bool x19] 21 _ (by kernel_rfl) (fun w => by kernel_rfl) ?_
              exact QRun_done [2] (by kernel_rfl) (by kernel_rfl)
            have H19 : Hold h h8 [own cd39 a6 x5.1.length c6 x5.1, own cd2 a7 x5.2.1.length c7 x5.2.1, own cd2 a8 x5.2.2.length c8 x5.2.2, own cd2 a4 x4.1.length c4 x4.1, own cd2 a5 x4.2.1.length c5 x4.2.1, own cd2 a2 x3.1.length c2 x3.1, own cd2 a3 x3.2.1.length c3 x3.2.1, own cd39 a1 x2.length c1 x2] := H18
            have hF := M.ret_some hF
            subst hF
            have H20 : Hold h h8 [] := H19.pick [] (by kernel_rfl)
            exact Run_ret1 rfl (ResV_tmp (v := .bool x19) (by kernel_rfl)) ⟨rfl, H20⟩
      · have hF := (M.ite_some hF).2 hb6
        refine Run_skip ?_
        refine Run_seq ?_
        refine Run_seq ?_
        refine Run_reg 2 (by kernel_rfl) (L' := [(3, .slice a1 x2.length c1), (4, .slice a2 x3.1.length c2), (5, .slice a3 x3.2.1.length c3), (85, .bool (x3.2.2 != 0))]) ?_ ?_
        · refine QRun_b [.int .i64 x3.2.2, .bool (x3.2.2 != 0)] 0 _ (by kernel_rfl) (fun w => by kernel_rfl) ?_
          exact QRun_done [3, 4, 5, 85] (by kernel_rfl) (by kernel_rfl)
        refine Run_cond (b := x3.2.2 != 0) (by kernel_rfl) (fun hb13 => ?_) (fun hb13 => ?_)
        · have hF := (M.ite_some hF).1 hb13
          refine Run_seq ?_
          refine Run_reg 1 (by kernel_rfl) (L' := [(2, .bool true)]) ?_ ?_
          · refine QRun_b [.bool true] 0 _ (by kernel_rfl) (fun w => by kernel_rfl) ?_
            exact QRun_done [2] (by kernel_rfl) (by kernel_rfl)
          have hF := M.ret_some hF
          subst hF
          have H21 : Hold h h5 [] := H10.pick [] (by kernel_rfl)
          exact Run_ret1 rfl (ResV_tmp (v := .bool true) (by kernel_rfl)) ⟨rfl, H21⟩
        · have hF := (M.ite_some hF).2 hb13
          refine Run_skip ?_
          refine Run_seq ?_
          obtain ⟨x24, hx17, hF⟩ := M.bind_some hF
          refine Run_regC (j := 7) (C := fun x => Hold h x [own cd39 a6 x5.1.length c6 x5.1, own cd2 a7 x5.2.1.length c7 x5.2.1, own cd2 a8 x5.2.2.length c8 x5.2.2, own cd2 a4 x4.1.length c4 x4.1, own cd2 a5 x4.2.1.length c5 x4.2.1, own cd2 a2 x3.1.length c2 x3.1, own cd2 a3 x3.2.1.length c3 x3.2.1, own cd39 a1 x2.length c1 x2]) (by kernel_rfl) H10 (L' := [(3, .slice a1 x2.length c1), (4, .slice a2 x3.1.length c2), (5, .slice a3 x3.2.1.length c3), (16, .int .i64 x24.1), (17, .int .i64 x24.2)]) ?_ (fun h9 H22 => ?_)
          · refine QRun_b [.slice a1 x2.length c1] 0 _ (by kernel_rfl) (fun w => by kernel_rfl) ?_
            refine QRun_y (.tuple #[.int .i64 x24.1, .int .i64 x24.2]) (by kernel_rfl) (Y_call (f := 51) (args := #[.slice a1 x2.length c1]) (v := .tuple #[.int .i64 x24.1, .int .i64 x24.2]) (by kernel_rfl) fun hx Hx => (w_impl_PermanentOf hx x2 a1 c1 (Hx.rd 7 rfl) _ _ hx17).mono fun _ _ ⟨e, H'⟩ => ⟨e, Hx.call H' rfl⟩) ?_
            refine QRun_b [.tuple #[.int .i64 x24.1, .int .i64 x24.2], .int .i64 x24.1, .int .i64 x24.2, .int .i64 x24.1, .int .i64 x24.2] 2 _ (by kernel_rfl) (fun w => by kernel_rfl) ?_
            exact QRun_done [3, 4, 5, 16, 17] (by kernel_rfl) (by kernel_rfl)
          have H23 : Hold h h9 [own cd39 a6 x5.1.length c6 x5.1, own cd2 a7 x5.2.1.length c7 x5.2.1, own cd2 a8 x5.2.2.length c8 x5.2.2, own cd2 a4 x4.1.length c4 x4.1, own cd2 a5 x4.2.1.length c5 x4.2.1, own cd2 a2 x3.1.length c2 x3.1, own cd2 a3 x3.2.1.length c3 x3.2.1, own cd39 a1 x2.length c1 x2] := H22
          refine Run_seq ?_
          obtain ⟨x25, hx18, hF⟩ := M.bind_some hF
          obtain ⟨x26, gx26, hF⟩ := M.bind_some hF
          refine Run_regC (j := 22) (C := fun x => Hold h x [own cd39 a6 x5.1.length c6 x5.1, own cd2 a7 x5.2.1.length c7 x5.2.1, own cd2 a8 x5.2.2.length c8 x5.2.2, own cd2 a4 x4.1.length c4 x4.1, own cd2 a5 x4.2.1.length c5 x4.2.1, own cd2 a2 x3.1.length c2 x3.1, own cd2 a3 x3.2.1.length c3 x3.2.1, own cd39 a1 x2.length c1 x2]) (by kernel_rfl) H23 (L' := [(2, .bool x26)]) ?_ (fun h10 H24 => ?_)
          · refine QRun_b [.slice a1 x2.length c1, .slice a2 x3.1.length c2, .slice a3 x3.2.1.length c3] 0 _ (by kernel_rfl) (fun w => by kernel_rfl) ?_
            refine QRun_y (.bool x25) (by kernel_rfl) (Y_call (f := 49) (args := #[.slice a1 x2.length c1, .slice a2 x3.1.length c2, .slice a3 x3.2.1.length c3]) (v := .bool x25) (by kernel_rfl) fun hx Hx => (w_impl_IsDual hx x2 a1 c1 (Hx.rd 7 rfl) x3.1 a2 c2 (Hx.rd 5 rfl) x3.2.1 a3 c3 (Hx.rd 6 rfl) _ _ hx18).mono fun _ _ ⟨e, H'⟩ => ⟨e, Hx.call H' rfl⟩) ?_
            refine QRun_seq 21 [(111, .bool x26)] ?_ ?_
            · rcases Bool.eq_false_or_eq_true x25 with hb14 | hb14
              · refine QRun_bool x25 true (by kernel_rfl) (fun w => by kernel_rfl) hb14 ?_
                have gx26 := (M.ite_some gx26).1 hb14
                obtain ⟨x27, gx27, gx26⟩ := M.bind_some gx26
                have gx26 := M.ret_some gx26
                refine QRun_b [.int .i64 x24.2, .bool (x24.2 == 3)] 5 _ (by kernel_rfl) (fun w => by kernel_rfl) ?_
                refine QRun_seq 20 [(95, .bool true), (110, .bool x27)] ?_ ?_
                · rcases Bool.eq_false_or_eq_true (x24.2 == 3) with hb15 | hb15
                  · refine QRun_bool (x24.2 == 3) true (by kernel_rfl) (fun w => by kernel_rfl) hb15 ?_
                    have gx27 := M.ret_some ((M.ite_some gx27).1 hb15)
                    refine QRun_n (by kernel_rfl) ?_
                    refine QRun_n (by kernel_rfl) ?_
                    refine QRun_n (by kernel_rfl) ?_
                    refine QRun_n (by kernel_rfl) ?_
                    refine QRun_n (by kernel_rfl) ?_
                    refine QRun_n (by kernel_rfl) ?_
                    refine QRun_n (by kernel_rfl) ?_
                    refine QRun_n (by kernel_rfl) ?_
                    refine QRun_n (by kernel_rfl) ?_
                    refine QRun_n (by kernel_rfl) ?_
                    refine QRun_n (by kernel_rfl) ?_
                    refine QRun_bool true x27 (by kernel_rfl) (fun w => by kernel_rfl) gx27 ?_
                    exact QRun_done [95, 110] (by kernel_rfl) (by kernel_rfl)
                  · refine QRun_bool (x24.2 == 3) false (by kernel_rfl) (fun w => by kernel_rfl) hb15 ?_
                    have gx27 := (M.ite_some gx27).2 hb15
                    obtain ⟨x28, gx28, gx27⟩ := M.bind_some gx27
                    have gx27 := M.ret_some gx27
                    refine QRun_b [.int .i64 x24.2, .bool (x24.2 == 0)] 8 _ (by kernel_rfl) (fun w => by kernel_rfl) ?_
                    refine QRun_seq 19 [(95, .bool true), (98, .bool false), (109, .bool x28)] ?_ ?_
                    · rcases Bool.eq_false_or_eq_true (x24.2 == 0) with hb16 | hb16
                      · refine QRun_bool (x24.2 == 0) true (by kernel_rfl) (fun w => by kernel_rfl) hb16 ?_
                        have gx28 := (M.ite_some gx28).1 hb16
                        obtain ⟨x29, hx19, gx28⟩ := M.bind_some gx28
                        obtain ⟨x30, hx20, gx28⟩ := M.bind_some gx28
                        have gx28 := M.ret_some gx28
                        refine QRun_b [.slice a2 x3.1.length c2] 11 _ (by kernel_rfl) (fun w => by kernel_rfl) ?_
                        refine QRun_y (.int .i64 x29) (by kernel_rfl) (Y_cls fun hx Hx => (Y_callq (f := 52) (args := #[.slice a2 x3.1.length c2]) (v := .int .i64 x29) (by kernel_rfl) (w_laws_sum hx x3.1 a2 c2 (Hx.rd 5 rfl) _ _ hx19))) ?_
                        refine QRun_b [.slice a3 x3.2.1.length c3] 13 _ (by kernel_rfl) (fun w => by kernel_rfl) ?_
                        refine QRun_y (.int .i64 x30) (by kernel_rfl) (Y_cls fun hx Hx => (Y_callq (f := 52) (args := #[.slice a3 x3.2.1.length c3]) (v := .int .i64 x30) (by kernel_rfl) (w_laws_sum hx x3.2.1 a3 c3 (Hx.rd 6 rfl) _ _ hx20))) ?_
                        refine QRun_b [.int .i64 (w64 (x29 + x30)), .int .i64 x24.1, .bool ((w64 (x29 + x30)) == x24.1)] 15 _ (by kernel_rfl) (fun w => by kernel_rfl) ?_
                        refine QRun_bool ((w64 (x29 + x30)) == x24.1) x28 (by kernel_rfl) (fun w => by kernel_rfl) gx28 ?_
                        exact QRun_done [95, 98, 109] (by kernel_rfl) (by kernel_rfl)
                      · refine QRun_bool (x24.2 == 0) false (by kernel_rfl) (fun w => by kernel_rfl) hb16 ?_
                        have gx28 := M.ret_some ((M.ite_some gx28).2 hb16)
                        refine QRun_n (by kernel_rfl) ?_
                        refine QRun_n (by kernel_rfl) ?_
                        refine QRun_n (by kernel_rfl) ?_
                        refine QRun_n (by kernel_rfl) ?_
                        refine QRun_n (by kernel_rfl) ?_
                        refine QRun_n (by kernel_rfl) ?_
                        refine QRun_n (by kernel_rfl) ?_
                        refine QRun_bool false x28 (by kernel_rfl) (fun w => by kernel_rfl) gx28 ?_
                        exact QRun_done [95, 98, 109] (by kernel_rfl) (by kernel_rfl)
                    refine QRun_bool x28 x27 (by kernel_rfl) (fun w => by kernel_rfl) gx27 ?_
                    exact QRun_done [95, 110] (by kernel_rfl) (by kernel_rfl)
                refine QRun_bool x27 x26 (by kernel_rfl) (fun w => by kernel_rfl) gx26 ?_
                exact QRun_done [111] (by kernel_rfl) (by kernel_rfl)
              · refine QRun_bool x25 false (by kernel_rfl) (fun w => by kernel_rfl) hb14 ?_
                have gx26 := M.ret_some ((M.ite_some gx26).2 hb14)
                refine QRun_n (by kernel_rfl) ?_
                refine QRun_n (by kernel_rfl) ?_
                refine QRun_n (by kernel_rfl) ?_
                refine QRun_n (by kernel_rfl) ?_
                refine QRun_n (by kernel_rfl) ?_
                refine QRun_n (by kernel_rfl) ?_
                refine QRun_n (by kernel_rfl) ?_
                refine QRun_n (by kernel_rfl) ?_
                refine QRun_n (by kernel_rfl) ?_
                refine QRun_n (by kernel_rfl) ?_
                refine QRun_n (by kernel_rfl) ?_
                refine QRun_n (by kernel_rfl) ?_
                refine QRun_n (by kernel_rfl) ?_
                refine QRun_n (by kernel_rfl) ?_
                refine QRun_n (by kernel_rfl) ?_
                refine QRun_bool false x26 (by kernel_rfl) (fun w => by kernel_rfl) gx26 ?_
                exact QRun_done [111] (by kernel_rfl) (by kernel_rfl)
            refine QRun_b [.bool x26] 21 _ (by kernel_rfl) (fun w => by kernel_rfl) ?_
            exact QRun_done [2] (by kernel_rfl) (by kernel_rfl)
          have H25 : Hold h h10 [own cd39 a6 x5.1.length c6 x5.1, own cd2 a7 x5.2.1.length c7 x5.2.1, own cd2 a8 x5.2.2.length c8 x5.2.2, own cd2 a4 x4.1.length c4 x4.1, own cd2 a5 x4.2.1.length c5 x4.2.1, own cd2 a2 x3.1.length c2 x3.1, own cd2 a3 x3.2.1.length c3 x3.2.1, own cd39 a1 x2.length c1 x2] := H24
          have hF := M.ret_some hF
          subst hF
          have H26 : Hold h h10 [] := H25.pick [] (by kernel_rfl)
          exact Run_ret1 rfl (ResV_tmp (v := .bool x26) (by kernel_rfl)) ⟨rfl, H26⟩

end Go.Proofs.Ytipdgiljgbjjkaa
