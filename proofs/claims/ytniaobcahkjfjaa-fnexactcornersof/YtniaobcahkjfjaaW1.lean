/-
  Walks: each Go function, called with what reads as plain data, returns what its plain program computes.
  Conditions: None beyond the given statement.
-/
import Derived.Test.YtniaobcahkjfjaaW0
namespace Go.Proofs.Ytniaobcahkjfjaa
open Go
attribute [local irreducible] setL setB opA fineI idleI fineB evB okB markB markBs readyB readyBs chainB lk rho pickL dropSlot tailOK
set_option maxRecDepth 100000 in
set_option maxHeartbeats 4000000 in
theorem w_laws_FnExactCornersOf (h : Heap) (aC : List Int) (aaC : Option Addr) (caC : Nat) (raC : Rd cd2 h (Lt h) aaC caC aC) (n : Nat) (r : Bool) (hF : laws_FnExactCornersOf aC n = some r) :
    Fn Try.prog 13 #[.slice aaC aC.length caC] h fun v h' => v = .bool r ∧ Hold h h' [] := by
  unfold laws_FnExactCornersOf at hF
  refine Fn_enter (args := [.slice aaC aC.length caC]) Try.func13 rfl (by kernel_rfl) (by kernel_rfl) (fun w0 _ => ?_)
  have H0 := Hold.init h
  refine Run_seq ?_
  refine Run_reg 1 (by kernel_rfl) (L' := [(0, .slice aaC aC.length caC)]) ?_ ?_
  · refine QRun_b [.bool false] 0 _ (by kernel_rfl) (fun w => by kernel_rfl) ?_
    exact QRun_done [0] (by kernel_rfl) (by kernel_rfl)
  refine Run_seq ?_
  refine Run_seq ?_
  refine Run_reg 3 (by kernel_rfl) (L' := [(0, .slice aaC aC.length caC), (15, .bool (decide (1048576 < (aC.length : Int))))]) ?_ ?_
  · refine QRun_b [.slice aaC aC.length caC, .int .i64 (aC.length : Int), .bool (decide (1048576 < (aC.length : Int)))] 0 _ (by kernel_rfl) (fun w => by kernel_rfl) ?_
    exact QRun_done [0, 15] (by kernel_rfl) (by kernel_rfl)
  refine Run_cond (b := decide (1048576 < (aC.length : Int))) (by kernel_rfl) (fun hb1 => ?_) (fun hb1 => ?_)
  · have hF := (M.ite_some hF).1 hb1
    refine Run_seq ?_
    refine Run_reg 1 (by kernel_rfl) (L' := [(2, .bool true)]) ?_ ?_
    · refine QRun_b [.bool true] 0 _ (by kernel_rfl) (fun w => by kernel_rfl) ?_
      exact QRun_done [2] (by kernel_rfl) (by kernel_rfl)
    have hF := M.ret_some hF
    subst hF
    exact Run_ret1 rfl (ResV_tmp (v := .bool true) (by kernel_rfl)) ⟨rfl, H0⟩
  · have hF := (M.ite_some hF).2 hb1
    refine Run_skip ?_
    refine Run_seq ?_
    refine Run_ops ?_
    refine Run_b [.slice aaC aC.length caC] 0 _ (by kernel_rfl) (fun w => by kernel_rfl) ?_
    obtain ⟨x1, hx1, hF⟩ := M.bind_some hF
    refine Run_E (by kernel_rfl) ?_
    refine E_call (f := 49) (args := #[.slice aaC aC.length caC]) (w_laws_toInt64S h aC aaC caC raC _ _ hx1) (by kernel_rfl) (fun v1 h1 hp1 => ?_)
    obtain ⟨a1, c1, rfl, H1⟩ := hp1
    have H2 : Hold h h1 [own cd2 a1 x1.length c1 x1] := H0.call H1 rfl
    obtain ⟨x2, hx2, hF⟩ := M.bind_some hF
    refine Run_E (by kernel_rfl) ?_
    refine E_call (f := 48) (args := #[.slice a1 x1.length c1]) (w_spec_CornersOf h1 x1 a1 c1 (H2.rd 0 rfl) _ _ hx2) (by kernel_rfl) (fun v2 h2 hp2 => ?_)
    obtain ⟨a2, c2, rfl, H3⟩ := hp2
    have H4 : Hold h h2 [own cd110 a2 x2.1.length c2 x2.1, own cd2 a1 x1.length c1 x1] := H2.call H3 rfl
    refine Run_b [.tuple #[.slice a2 x2.1.length c2, .int .i64 x2.2], .slice a2 x2.1.length c2, .int .i64 x2.2, .slice a2 x2.1.length c2, .int .i64 x2.2] 3 _ (by kernel_rfl) (fun w => by kernel_rfl) ?_
    refine Run_nil (by kernel_rfl) ?_
    refine Run_keep [0, 3, 4] (L' := [(0, .slice aaC aC.length caC), (3, .slice a2 x2.1.length c2), (4, .int .i64 x2.2)]) (by kernel_rfl) ?_
    refine Run_seq ?_
    refine Run_ops ?_
    refine Run_b [.slice aaC aC.length caC] 0 _ (by kernel_rfl) (fun w => by kernel_rfl) ?_
    obtain ⟨x3, hx3, hF⟩ := M.bind_some hF
    refine Run_E (by kernel_rfl) ?_
    refine E_call (f := 49) (args := #[.slice aaC aC.length caC]) (w_laws_toInt64S h2 aC aaC caC (raC.at H4.ext) _ _ hx3) (by kernel_rfl) (fun v3 h3 hp3 => ?_)
    obtain ⟨a3, c3, rfl, H5⟩ := hp3
    have H6 : Hold h h3 [own cd2 a3 x3.length c3 x3, own cd110 a2 x2.1.length c2 x2.1, own cd2 a1 x1.length c1 x1] := H4.call H5 rfl
    refine Run_b [.slice a3 x3.length c3] 2 _ (by kernel_rfl) (fun w => by kernel_rfl) ?_
    refine Run_nil (by kernel_rfl) ?_
    refine Run_keep [0, 3, 4, 5] (L' := [(0, .slice aaC aC.length caC), (3, .slice a2 x2.1.length c2), (4, .int .i64 x2.2), (5, .slice a3 x3.length c3)]) (by kernel_rfl) ?_
    refine Run_seq ?_
    refine Run_ops ?_
    refine Run_b [.slice a3 x3.length c3] 0 _ (by kernel_rfl) (fun w => by kernel_rfl) ?_
    obtain ⟨x4, hx4, hF⟩ := M.bind_some hF
    refine Run_E (by kernel_rfl) ?_
    refine E_call (f := 50) (args := #[.slice a3 x3.length c3]) (w_impl_CornersOf h3 x3 a3 c3 (H6.rd 0 rfl) _ _ hx4) (by kernel_rfl) (fun v4 h4 hp4 => ?_)
    obtain ⟨a4, c4, rfl, H7⟩ := hp4
    have H8 : Hold h h4 [own cd110 a4 x4.1.length c4 x4.1, own cd2 a3 x3.length c3 x3, own cd110 a2 x2.1.length c2 x2.1, own cd2 a1 x1.length c1 x1] := H6.call H7 rfl
    refine Run_b [.tuple #[.slice a4 x4.1.length c4, .int .i64 x4.2], .slice a4 x4.1.length c4, .int .i64 x4.2, .slice a4 x4.1.length c4, .int .i64 x4.2] 2 _ (by kernel_rfl) (fun w => by kernel_rfl) ?_
    refine Run_nil (by kernel_rfl) ?_
    refine Run_keep [0, 3, 4, 5, 6, 7] (L' := [(0, .slice aaC aC.length caC), (3, .slice a2 x2.1.length c2), (4, .int .i64 x2.2), (5, .slice a3 x3.length c3), (6, .slice a4 x4.1.length c4), (7, .int .i64 x4.2)]) (by kernel_rfl) ?_
    refine Run_seq ?_
    refine Run_seq ?_
    obtain ⟨x5, hx5, hF⟩ := M.bind_some hF
    refine Run_regC (j := 9) (C := fun x => Hold h x [own cd110 a4 x4.1.length c4 x4.1, own cd2 a3 x3.length c3 x3, own cd110 a2 x2.1.length c2 x2.1, own cd2 a1 x1.length c1 x1]) (by kernel_rfl) H8 (L' := [(0, .slice aaC aC.length caC), (3, .slice a2 x2.1.length c2), (4, .int .i64 x2.2), (5, .slice a3 x3.length c3), (6, .slice a4 x4.1.length c4), (7, .int .i64 x4.2), (37, .bool ((!x5) || (x4.2 != x2.2)))]) ?_ (fun h5 H9 => ?_)
    · refine QRun_b [.slice a4 x4.1.length c4, .slice a2 x2.1.length c2] 0 _ (by kernel_rfl) (fun w => by kernel_rfl) ?_
      refine QRun_y (.bool x5) (by kernel_rfl) (Y_call (f := 51) (args := #[.slice a4 x4.1.length c4, .slice a2 x2.1.length c2]) (v := .bool x5) (by kernel_rfl) fun hx Hx => (w_laws_eqCornerS hx x4.1 a4 c4 (Hx.rd 0 rfl) x2.1 a2 c2 (Hx.rd 2 rfl) _ _ hx5).mono fun _ _ ⟨e, H'⟩ => ⟨e, Hx.call H' rfl⟩) ?_
      refine QRun_b [.bool (!x5)] 3 _ (by kernel_rfl) (fun w => by kernel_rfl) ?_
      refine QRun_seq 9 [(0, .slice aaC aC.length caC), (3, .slice a2 x2.1.length c2), (4, .int .i64 x2.2), (5, .slice a3 x3.length c3), (6, .slice a4 x4.1.length c4), (7, .int .i64 x4.2), (37, .bool ((!x5) || (x4.2 != x2.2)))] ?_ ?_
      · rcases Bool.eq_false_or_eq_true (!x5) with hb2 | hb2
        · refine QRun_bool (!x5) true (by kernel_rfl) (fun w => by kernel_rfl) hb2 ?_
          refine QRun_n (by kernel_rfl) ?_
          refine QRun_n (by kernel_rfl) ?_
          refine QRun_n (by kernel_rfl) ?_
          refine QRun_bool true ((!x5) || (x4.2 != x2.2)) (by kernel_rfl) (fun w => by kernel_rfl) (by rw [hb2]; rfl) ?_
          exact QRun_done [0, 3, 4, 5, 6, 7, 37] (by kernel_rfl) (by kernel_rfl)
        · refine QRun_bool (!x5) false (by kernel_rfl) (fun w => by kernel_rfl) hb2 ?_
          refine QRun_b [.int .i64 x4.2, .int .i64 x2.2, .bool (x4.2 != x2.2)] 5 _ (by kernel_rfl) (fun w => by kernel_rfl) ?_
          refine QRun_bool (x4.2 != x2.2) ((!x5) || (x4.2 != x2.2)) (by kernel_rfl) (fun w => by kernel_rfl) (by rw [hb2]; rfl) ?_
          exact QRun_done [0, 3, 4, 5, 6, 7, 37] (by kernel_rfl) (by kernel_rfl)
      exact QRun_done [0, 3, 4, 5, 6, 7, 37] (by kernel_rfl) (by kernel_rfl)
    have H10 : Hold h h5 [own cd110 a4 x4.1.length c4 x4.1, own cd2 a3 x3.length c3 x3, own cd110 a2 x2.1.length c2 x2.1, own cd2 a1 x1.length c1 x1] := H9
    refine Run_cond (b := (!x5) || (x4.2 != x2.2)) (by kernel_rfl) (fun hb3 => ?_) (fun hb3 => ?_)
    · have hF := (M.ite_some hF).1 hb3
      refine Run_seq ?_
      refine Run_reg 1 (by kernel_rfl) (L' := [(2, .bool false)]) ?_ ?_
      · refine QRun_b [.bool false] 0 _ (by kernel_rfl) (fun w => by kernel_rfl) ?_
        exact QRun_done [2] (by kernel_rfl) (by kernel_rfl)
      have hF := M.ret_some hF
      subst hF
      have H11 : Hold h h5 [] := H10.pick [] (by kernel_rfl)
      exact Run_ret1 rfl (ResV_tmp (v := .bool false) (by kernel_rfl)) ⟨rfl, H11⟩
    · have hF := (M.ite_some hF).2 hb3
      refine Run_skip ?_
      refine Run_seq ?_
      refine Run_seq ?_
      refine Run_ops ?_
      refine Run_b [.slice a3 x3.length c3, .slice aaC aC.length caC] 0 _ (by kernel_rfl) (fun w => by kernel_rfl) ?_
      obtain ⟨x7, hx6, hF⟩ := M.bind_some hF
      refine Run_E (by kernel_rfl) ?_
      refine E_call (f := 49) (args := #[.slice aaC aC.length caC]) (w_laws_toInt64S h5 aC aaC caC (raC.at H10.ext) _ _ hx6) (by kernel_rfl) (fun v5 h6 hp5 => ?_)
      obtain ⟨a5, c5, rfl, H12⟩ := hp5
      have H13 : Hold h h6 [own cd2 a5 x7.length c5 x7, own cd110 a4 x4.1.length c4 x4.1, own cd2 a3 x3.length c3 x3, own cd110 a2 x2.1.length c2 x2.1, own cd2 a1 x1.length c1 x1] := H10.call H12 rfl
      obtain ⟨x8, hx7, hF⟩ := M.bind_some hF
      refine Run_y (.bool x8) (by kernel_rfl) (Y_callq (f := 27) (args := #[.slice a3 x3.length c3, .slice a5 x7.length c5]) (v := .bool x8) (by kernel_rfl) (w_laws_eqInt64S h6 x3 a3 c3 (H13.rd 2 rfl) x7 a5 c5 (H13.rd 0 rfl) _ _ hx7)) ?_
      refine Run_b [.bool (!x8)] 4 _ (by kernel_rfl) (fun w => by kernel_rfl) ?_
      refine Run_nil (by kernel_rfl) ?_
      refine Run_keep [0, 3, 4, 5, 6, 7, 42] (L' := [(0, .slice aaC aC.length caC), (3, .slice a2 x2.1.length c2), (4, .int .i64 x2.2), (5, .slice a3 x3.length c3), (6, .slice a4 x4.1.length c4), (7, .int .i64 x4.2), (42, .bool (!x8))]) (by kernel_rfl) ?_
      refine Run_cond (b := !x8) (by kernel_rfl) (fun hb4 => ?_) (fun hb4 => ?_)
      · have hF := (M.ite_some hF).1 hb4
        refine Run_seq ?_
        refine Run_reg 1 (by kernel_rfl) (L' := [(2, .bool false)]) ?_ ?_
        · refine QRun_b [.bool false] 0 _ (by kernel_rfl) (fun w => by kernel_rfl) ?_
          exact QRun_done [2] (by kernel_rfl) (by kernel_rfl)
        have hF := M.ret_some hF
        subst hF
        have H14 : Hold h h6 [] := H13.pick [] (by kernel_rfl)
        exact Run_ret1 rfl (ResV_tmp (v := .bool false) (by kernel_rfl)) ⟨rfl, H14⟩
      · have hF := (M.ite_some hF).2 hb4
        refine Run_skip ?_
        refine Run_seq ?_
        refine Run_reg 1 (by kernel_rfl) (L' := [(0, .slice aaC aC.length caC), (3, .slice a2 x2.1.length c2), (4, .int .i64 x2.2), (5, .slice a3 x3.length c3), (6, .slice a4 x4.1.length c4), (7, .int .i64 x4.2), (8, .int .i64 1)]) ?_ ?_
        · refine QRun_b [.int .i64 1] 0 _ (by kernel_rfl) (fun w => by kernel_rfl) ?_
          exact QRun_done [0, 3, 4, 5, 6, 7, 8] (by kernel_rfl) (by kernel_rfl)
        refine Run_seq ?_
        refine Run_ops ?_
        refine Run_b [.slice a3 x3.length c3, .int .i64 1] 0 _ (by kernel_rfl) (fun w => by kernel_rfl) ?_
        obtain ⟨x9, hx8, hF⟩ := M.bind_some hF
        have H15 : Hold h h6 [own cd2 a3 x3.length c3 x3, own cd2 a5 x7.length c5 x7, own cd110 a4 x4.1.length c4 x4.1, own cd110 a2 x2.1.length c2 x2.1, own cd2 a1 x1.length c1 x1] := H13.pick [2, 0, 1, 3, 4] (by kernel_rfl)
        have H16 : Hold h h6 [own cd2 a3 x3.length c3 x3, bun [own cd2 a5 x7.length c5 x7, own cd110 a4 x4.1.length c4 x4.1, own cd110 a2 x2.1.length c2 x2.1, own cd2 a1 x1.length c1 x1]] := Hold.bundle (S := [own cd2 a3 x3.length c3 x3]) (R := [own cd2 a5 x7.length c5 x7, own cd110 a4 x4.1.length c4 x4.1, own cd110 a2 x2.1.length c2 x2.1, own cd2 a1 x1.length c1 x1]) H15
        refine Run_E (by kernel_rfl) ?_
        refine E_call (f := 28) (args := #[.slice a3 x3.length c3, .int .i64 1]) (w_laws_markInt64S h h6 _ x3 a3 c3 1 H16 _ _ hx8) (by kernel_rfl) (fun v6 h7 hp6 => ?_)
        obtain ⟨rfl, H17⟩ := hp6
        have H18 : Hold h h7 [own cd2 a3 x3.length c3 x9.2, own cd2 a5 x7.length c5 x7, own cd110 a4 x4.1.length c4 x4.1, own cd110 a2 x2.1.length c2 x2.1, own cd2 a1 x1.length c1 x1] := Hold.unbundle (S := [own cd2 a3 x3.length c3 x9.2]) (R := [own cd2 a5 x7.length c5 x7, own cd110 a4 x4.1.length c4 x4.1, own cd110 a2 x2.1.length c2 x2.1, own cd2 a1 x1.length c1 x1]) H17 (Hold.tailBase (S := [own cd2 a3 x3.length c3 x3]) (R := [own cd2 a5 x7.length c5 x7, own cd110 a4 x4.1.length c4 x4.1, own cd110 a2 x2.1.length c2 x2.1, own cd2 a1 x1.length c1 x1]) H15)
        refine Run_b [.int .i64 x9.1] 3 _ (by kernel_rfl) (fun w => by kernel_rfl) ?_
        refine Run_nil (by kernel_rfl) ?_
        refine Run_keep [0, 3, 4, 6, 7, 8] (L' := [(0, .slice aaC aC.length caC), (3, .slice a2 x2.1.length c2), (4, .int .i64 x2.2), (6, .slice a4 x4.1.length c4), (7, .int .i64 x4.2), (8, .int .i64 x9.1)]) (by kernel_rfl) ?_
        refine Run_seq ?_
        refine Run_seq ?_
        obtain ⟨x10, gx10, hF⟩ := M.bind_some hF
        refine Run_regC (j := 13) (C := fun x => Hold h x [own cd2 a3 x3.length c3 x9.2, own cd2 a5 x7.length c5 x7, own cd110 a4 x4.1.length c4 x4.1, own cd110 a2 x2.1.length c2 x2.1, own cd2 a1 x1.length c1 x1]) (by kernel_rfl) H18 (L' := [(0, .slice aaC aC.length caC), (3, .slice a2 x2.1.length c2), (4, .int .i64 x2.2), (6, .slice a4 x4.1.length c4), (58, .bool (x10 || (x4.2 != x2.2)))]) ?_ (fun h8 H19 => ?_)
        · refine QRun_b [.int .i64 x9.1, .bool (decide (x9.1 < 0))] 0 _ (by kernel_rfl) (fun w => by kernel_rfl) ?_
          refine QRun_seq 8 [(0, .slice aaC aC.length caC), (3, .slice a2 x2.1.length c2), (4, .int .i64 x2.2), (6, .slice a4 x4.1.length c4), (7, .int .i64 x4.2), (53, .bool x10)] ?_ ?_
          · rcases Bool.eq_false_or_eq_true (decide (x9.1 < 0)) with hb5 | hb5
            · refine QRun_bool (decide (x9.1 < 0)) true (by kernel_rfl) (fun w => by kernel_rfl) hb5 ?_
              have gx10 := M.ret_some ((M.ite_some gx10).1 hb5)
              refine QRun_n (by kernel_rfl) ?_
              refine QRun_n (by kernel_rfl) ?_
              refine QRun_n (by kernel_rfl) ?_
              refine QRun_n (by kernel_rfl) ?_
              refine QRun_bool true x10 (by kernel_rfl) (fun w => by kernel_rfl) gx10 ?_
              exact QRun_done [0, 3, 4, 6, 7, 53] (by kernel_rfl) (by kernel_rfl)
            · refine QRun_bool (decide (x9.1 < 0)) false (by kernel_rfl) (fun w => by kernel_rfl) hb5 ?_
              have gx10 := (M.ite_some gx10).2 hb5
              obtain ⟨x11, hx9, gx10⟩ := M.bind_some gx10
              have gx10 := M.ret_some gx10
              refine QRun_b [.slice a4 x4.1.length c4, .slice a2 x2.1.length c2] 3 _ (by kernel_rfl) (fun w => by kernel_rfl) ?_
              refine QRun_y (.bool x11) (by kernel_rfl) (Y_call (f := 51) (args := #[.slice a4 x4.1.length c4, .slice a2 x2.1.length c2]) (v := .bool x11) (by kernel_rfl) fun hx Hx => (w_laws_eqCornerS hx x4.1 a4 c4 (Hx.rd 2 rfl) x2.1 a2 c2 (Hx.rd 3 rfl) _ _ hx9).mono fun _ _ ⟨e, H'⟩ => ⟨e, Hx.call H' rfl⟩) ?_
              refine QRun_b [.bool (!x11)] 6 _ (by kernel_rfl) (fun w => by kernel_rfl) ?_
              refine QRun_bool (!x11) x10 (by kernel_rfl) (fun w => by kernel_rfl) gx10 ?_
              exact QRun_done [0, 3, 4, 6, 7, 53] (by kernel_rfl) (by kernel_rfl)
          refine QRun_seq 13 [(0, .slice aaC aC.length caC), (3, .slice a2 x2.1.length c2), (4, .int .i64 x2.2), (6, .slice a4 x4.1.length c4), (58, .bool (x10 || (x4.2 != x2.2)))] ?_ ?_
          · rcases Bool.eq_false_or_eq_true x10 with hb6 | hb6
            · refine QRun_bool x10 true (by kernel_rfl) (fun w => by kernel_rfl) hb6 ?_
              refine QRun_n (by kernel_rfl) ?_
              refine QRun_n (by kernel_rfl) ?_
              refine QRun_n (by kernel_rfl) ?_
              refine QRun_bool true (x10 || (x4.2 != x2.2)) (by kernel_rfl) (fun w => by kernel_rfl) (by rw [hb6]; rfl) ?_
              exact QRun_done [0, 3, 4, 6, 58] (by kernel_rfl) (by kernel_rfl)
            · refine QRun_bool x10 false (by kernel_rfl) (fun w => by kernel_rfl) hb6 ?_
              refine QRun_b [.int .i64 x4.2, .int .i64 x2.2, .bool (x4.2 != x2.2)] 9 _ (by kernel_rfl) (fun w => by kernel_rfl) ?_
              refine QRun_bool (x4.2 != x2.2) (x10 || (x4.2 != x2.2)) (by kernel_rfl) (fun w => by kernel_rfl) (by rw [hb6]; rfl) ?_
              exact QRun_done [0, 3, 4, 6, 58] (by kernel_rfl) (by kernel_rfl)
          exact QRun_done [0, 3, 4, 6, 58] (by kernel_rfl) (by kernel_rfl)
        have H20 : Hold h h8 [own cd2 a3 x3.length c3 x9.2, own cd2 a5 x7.length c5 x7, own cd110 a4 x4.1.length c4 x4.1, own cd110 a2 x2.1.length c2 x2.1, own cd2 a1 x1.length c1 x1] := H19
        refine Run_cond (b := x10 || (x4.2 != x2.2)) (by kernel_rfl) (fun hb7 => ?_) (fun hb7 => ?_)
        · have hF := (M.ite_some hF).1 hb7
          refine Run_seq ?_
          refine Run_reg 1 (by kernel_rfl) (L' := [(2, .bool false)]) ?_ ?_
          · refine QRun_b [.bool false] 0 _ (by kernel_rfl) (fun w => by kernel_rfl) ?_
            exact QRun_done [2] (by kernel_rfl) (by kernel_rfl)
          have hF := M.ret_some hF
          subst hF
          have H21 : Hold h h8 [] := H20.pick [] (by kernel_rfl)
          exact Run_ret1 rfl (ResV_tmp (v := .bool false) (by kernel_rfl)) ⟨rfl, H21⟩
        · have hF := (M.ite_some hF).2 hb7
          refine Run_skip ?_
          refine Run_seq ?_
          refine Run_reg 1 (by kernel_rfl) (L' := [(0, .slice aaC aC.length caC), (3, .slice a2 x2.1.length c2), (4, .int .i64 x2.2), (6, .slice a4 x4.1.length c4), (9, .int .i64 1)]) ?_ ?_
          · refine QRun_b [.int .i64 1] 0 _ (by kernel_rfl) (fun w => by kernel_rfl) ?_
            exact QRun_done [0, 3, 4, 6, 9] (by kernel_rfl) (by kernel_rfl)
          refine Run_seq ?_
          refine Run_ops ?_
          refine Run_b [.slice a4 x4.1.length c4, .int .i64 1] 0 _ (by kernel_rfl) (fun w => by kernel_rfl) ?_
          obtain ⟨x13, hx10, hF⟩ := M.bind_some hF
          have H22 : Hold h h8 [own cd110 a4 x4.1.length c4 x4.1, own cd2 a3 x3.length c3 x9.2, own cd2 a5 x7.length c5 x7, own cd110 a2 x2.1.length c2 x2.1, own cd2 a1 x1.length c1 x1] := H20.pick [2, 0, 1, 3, 4] (by kernel_rfl)
          have H23 : Hold h h8 [own cd110 a4 x4.1.length c4 x4.1, bun [own cd2 a3 x3.length c3 x9.2, own cd2 a5 x7.length c5 x7, own cd110 a2 x2.1.length c2 x2.1, own cd2 a1 x1.length c1 x1]] := Hold.bundle (S := [own cd110 a4 x4.1.length c4 x4.1]) (R := [own cd2 a3 x3.length c3 x9.2, own cd2 a5 x7.length c5 x7, own cd110 a2 x2.1.length c2 x2.1, own cd2 a1 x1.length c1 x1]) H22
          refine Run_E (by kernel_rfl) ?_
          refine E_call (f := 52) (args := #[.slice a4 x4.1.length c4, .int .i64 1]) (w_laws_markCornerS h h8 _ x4.1 a4 c4 1 H23 _ _ hx10) (by kernel_rfl) (fun v7 h9 hp7 => ?_)
          obtain ⟨rfl, H24⟩ := hp7
          have H25 : Hold h h9 [own cd110 a4 x4.1.length c4 x13.2, own cd2 a3 x3.length c3 x9.2, own cd2 a5 x7.length c5 x7, own cd110 a2 x2.1.length c2 x2.1, own cd2 a1 x1.length c1 x1] := Hold.unbundle (S := [own cd110 a4 x4.1.length c4 x13.2]) (R := [own cd2 a3 x3.length c3 x9.2, own cd2 a5 x7.length c5 x7, own cd110 a2 x2.1.length c2 x2.1, own cd2 a1 x1.length c1 x1]) H24 (Hold.tailBase (S := [own cd110 a4 x4.1.length c4 x4.1]) (R := [own cd2 a3 x3.length c3 x9.2, own cd2 a5 x7.length c5 x7, own cd110 a2 x2.1.length c2 x2.1, own cd2 a1 x1.length c1 x1]) H22)
          refine Run_b [.int .i64 x13.1] 3 _ (by kernel_rfl) (fun w => by kernel_rfl) ?_
          refine Run_nil (by kernel_rfl) ?_
          refine Run_keep [0, 3, 4, 6, 9] (L' := [(0, .slice aaC aC.length caC), (3, .slice a2 x2.1.length c2), (4, .int .i64 x2.2), (6, .slice a4 x4.1.length c4), (9, .int .i64 x13.1)]) (by kernel_rfl) ?_
          refine Run_seq ?_
          refine Run_reg 1 (by kernel_rfl) (L' := [(0, .slice aaC aC.length caC), (3, .slice a2 x2.1.length c2), (4, .int .i64 x2.2), (6, .slice a4 x4.1.length c4), (9, .int .i64 x13.1), (10, .int .i64 1)]) ?_ ?_
          · refine QRun_b [.int .i64 1] 0 _ (by kernel_rfl) (fun w => by kernel_rfl) ?_
            exact QRun_done [0, 3, 4, 6, 9, 10] (by kernel_rfl) (by kernel_rfl)
          refine Run_seq ?_
          obtain ⟨x14, hx11, hF⟩ := M.bind_some hF
          refine Run_reg 4 (by kernel_rfl) (L' := [(0, .slice aaC aC.length caC), (3, .slice a2 x2.1.length c2), (4, .int .i64 x2.2), (6, .slice a4 x4.1.length c4), (9, .int .i64 x13.1), (10, .int .i64 x14)]) ?_ ?_
          · refine QRun_b [.slice a4 x4.1.length c4, .int .i64 1] 0 _ (by kernel_rfl) (fun w => by kernel_rfl) ?_
            refine QRun_y (.int .i64 x14) (by kernel_rfl) (Y_callq (f := 53) (args := #[.slice a4 x4.1.length c4, .int .i64 1]) (v := .int .i64 x14) (by kernel_rfl) (Fn.arg (w_laws_heldCornerS h9 x13.2 a4 c4 (H25.rd 0 rfl) 1 _ _ hx11) (by simp only [(H25.len 0 rfl)]))) ?_
            refine QRun_b [.int .i64 x14] 3 _ (by kernel_rfl) (fun w => by kernel_rfl) ?_
            exact QRun_done [0, 3, 4, 6, 9, 10] (by kernel_rfl) (by kernel_rfl)
          refine Run_seq ?_
          refine Run_seq ?_
          refine Run_reg 2 (by kernel_rfl) (L' := [(0, .slice aaC aC.length caC), (3, .slice a2 x2.1.length c2), (4, .int .i64 x2.2), (6, .slice a4 x4.1.length c4), (9, .int .i64 x13.1), (10, .int .i64 x14), (66, .bool (decide (x14 < 0)))]) ?_ ?_
          · refine QRun_b [.int .i64 x14, .bool (decide (x14 < 0))] 0 _ (by kernel_rfl) (fun w => by kernel_rfl) ?_
            exact QRun_done [0, 3, 4, 6, 9, 10, 66] (by kernel_rfl) (by kernel_rfl)
          refine Run_cond (b := decide (x14 < 0)) (by kernel_rfl) (fun hb8 => ?_) (fun hb8 => ?_)
          · have hF := (M.ite_some hF).1 hb8
            refine Run_seq ?_
            refine Run_reg 1 (by kernel_rfl) (L' := [(2, .bool false)]) ?_ ?_
            · refine QRun_b [.bool false] 0 _ (by kernel_rfl) (fun w => by kernel_rfl) ?_
              exact QRun_done [2] (by kernel_rfl) (by kernel_rfl)
            have hF := M.ret_some hF
            subst hF
            have H26 : Hold h h9 [] := H25.pick [] (by kernel_rfl)
            exact Run_ret1 rfl (ResV_tmp (v := .bool false) (by kernel_rfl)) ⟨rfl, H26⟩
          · have hF := (M.ite_some hF).2 hb8
            refine Run_skip ?_
            refine Run_seq ?_
            refine Run_seq ?_
            refine Run_reg 3 (by kernel_rfl) (L' := [(0, .slice aaC aC.length caC), (3, .slice a2 x2.1.length c2), (4, .int .i64 x2.2), (6, .slice a4 x4.1.length c4), (9, .int .i64 x13.1), (69, .bool (x14 != x13.1))]) ?_ ?_
            · refine QRun_b [.int .i64 x14, .int .i64 x13.1, .bool (x14 != x13.1)] 0 _ (by kernel_rfl) (fun w => by kernel_rfl) ?_
              exact QRun_done [0, 3, 4, 6, 9, 69] (by kernel_rfl) (by kernel_rfl)
            refine Run_cond (b := x14 != x13.1) (by kernel_rfl) (fun hb9 => ?_) (fun hb9 => ?_)
            · have hF := (M.ite_some hF).1 hb9
              refine Run_seq ?_
              refine Run_reg 1 (by kernel_rfl) (L' := [(2, .bool false)]) ?_ ?_
              · refine QRun_b [.bool false] 0 _ (by kernel_rfl) (fun w => by kernel_rfl) ?_
                exact QRun_done [2] (by kernel_rfl) (by kernel_rfl)
              have hF := M.ret_some hF
              subst hF
              have H27 : Hold h h9 [] := H25.pick [] (by kernel_rfl)
              exact Run_ret1 rfl (ResV_tmp (v := .bool false) (by kernel_rfl)) ⟨rfl, H27⟩
            · have hF := (M.ite_some hF).2 hb9
              refine Run_skip ?_
              refine Run_seq ?_
              refine Run_ops ?_
              refine Run_b [.slice aaC aC.length caC] 0 _ (by kernel_rfl) (fun w => by kernel_rfl) ?_
              obtain ⟨x15, hx12, hF⟩ := M.bind_some hF
              refine Run_E (by kernel_rfl) ?_
              refine E_call (f := 49) (args := #[.slice aaC aC.length caC]) (w_laws_toInt64S h9 aC aaC caC (raC.at H25.ext) _ _ hx12) (by kernel_rfl) (fun v8 h10 hp8 => ?_)
              obtain ⟨a6, c6, rfl, H28⟩ := hp8
              have H29 : Hold h h10 [own cd2 a6 x15.length c6 x15, own cd110 a4 x4.1.length c4 x13.2, own cd2 a3 x3.length c3 x9.2, own cd2 a5 x7.length c5 x7, own cd110 a2 x2.1.length c2 x2.1, own cd2 a1 x1.length c1 x1] := H25.call H28 rfl
              obtain ⟨x16, hx13, hF⟩ := M.bind_some hF
              refine Run_E (by kernel_rfl) ?_
              refine E_call (f := 50) (args := #[.slice a6 x15.length c6]) (w_impl_CornersOf h10 x15 a6 c6 (H29.rd 0 rfl) _ _ hx13) (by kernel_rfl) (fun v9 h11 hp9 => ?_)
              obtain ⟨a7, c7, rfl, H30⟩ := hp9
              have H31 : Hold h h11 [own cd110 a7 x16.1.length c7 x16.1, own cd2 a6 x15.length c6 x15, own cd110 a4 x4.1.length c4 x13.2, own cd2 a3 x3.length c3 x9.2, own cd2 a5 x7.length c5 x7, own cd110 a2 x2.1.length c2 x2.1, own cd2 a1 x1.length c1 x1] := H29.call H30 rfl
              refine Run_b [.tuple #[.slice a7 x16.1.length c7, .int .i64 x16.2], .slice a7 x16.1.length c7, .int .i64 x16.2, .slice a7 x16.1.length c7, .int .i64 x16.2] 3 _ (by kernel_rfl) (fun w => by kernel_rfl) ?_
              refine Run_nil (by kernel_rfl) ?_
              refine Run_keep [3, 4, 6, 9, 11, 12] (L' := [(3, .slice a2 x2.1.length c2), (4, .int .i64 x2.2), (6, .slice a4 x4.1.length c4), (9, .int .i64 x13.1), (11, .slice a7 x16.1.length c7), (12, .int .i64 x16.2)]) (by kernel_rfl) ?_
              refine Run_seq ?_
              refine Run_seq ?_
              obtain ⟨x17, hx14, hF⟩ := M.bind_some hF
              refine Run_regC (j := 9) (C := fun x => Hold h x [own cd110 a7 x16.1.length c7 x16.1, own cd2 a6 x15.length c6 x15, own cd110 a4 x4.1.length c4 x13.2, own cd2 a3 x3.length c3 x9.2, own cd2 a5 x7.length c5 x7, own cd110 a2 x2.1.length c2 x2.1, own cd2 a1 x1.length c1 x1]) (by kernel_rfl) H31 (L' := [(6, .slice a4 x4.1.length c4), (9, .int .i64 x13.1), (84, .bool ((!x17) || (x16.2 != x2.2)))]) ?_ (fun h12 H32 => ?_)
              · refine QRun_b [.slice a7 x16.1.length c7, .slice a2 x2.1.length c2] 0 _ (by kernel_rfl) (fun w => by kernel_rfl) ?_
                refine QRun_y (.bool x17) (by kernel_rfl) (Y_call (f := 51) (args := #[.slice a7 x16.1.length c7, .slice a2 x2.1.length c2]) (v := .bool x17) (by kernel_rfl) fun hx Hx => (w_laws_eqCornerS hx x16.1 a7 c7 (Hx.rd 0 rfl) x2.1 a2 c2 (Hx.rd 5 rfl) _ _ hx14).mono fun _ _ ⟨e, H'⟩ => ⟨e, Hx.call H' rfl⟩) ?_
                refine QRun_b [.bool (!x17)] 3 _ (by kernel_rfl) (fun w => by kernel_rfl) ?_
                refine QRun_seq 9 [(6, .slice a4 x4.1.length c4), (9, .int .i64 x13.1), (84, .bool ((!x17) || (x16.2 != x2.2)))] ?_ ?_
                · rcases Bool.eq_false_or_eq_true (!x17) with hb10 | hb10
                  · refine QRun_bool (!x17) true (by kernel_rfl) (fun w => by kernel_rfl) hb10 ?_
                    refine QRun_n (by kernel_rfl) ?_
                    refine QRun_n (by kernel_rfl) ?_
                    refine QRun_n (by kernel_rfl) ?_
                    refine QRun_bool true ((!x17) || (x16.2 != x2.2)) (by kernel_rfl) (fun w => by kernel_rfl) (by rw [hb10]; rfl) ?_
                    exact QRun_done [6, 9, 84] (by kernel_rfl) (by kernel_rfl)
                  · refine QRun_bool (!x17) false (by kernel_rfl) (fun w => by kernel_rfl) hb10 ?_
                    refine QRun_b [.int .i64 x16.2, .int .i64 x2.2, .bool (x16.2 != x2.2)] 5 _ (by kernel_rfl) (fun w => by kernel_rfl) ?_
                    refine QRun_bool (x16.2 != x2.2) ((!x17) || (x16.2 != x2.2)) (by kernel_rfl) (fun w => by kernel_rfl) (by rw [hb10]; rfl) ?_
                    exact QRun_done [6, 9, 84] (by kernel_rfl) (by kernel_rfl)
                exact QRun_done [6, 9, 84] (by kernel_rfl) (by kernel_rfl)
              have H33 : Hold h h12 [own cd110 a7 x16.1.length c7 x16.1, own cd2 a6 x15.length c6 x15, own cd110 a4 x4.1.length c4 x13.2, own cd2 a3 x3.length c3 x9.2, own cd2 a5 x7.length c5 x7, own cd110 a2 x2.1.length c2 x2.1, own cd2 a1 x1.length c1 x1] := H32
              refine Run_cond (b := (!x17) || (x16.2 != x2.2)) (by kernel_rfl) (fun hb11 => ?_) (fun hb11 => ?_)
              · have hF := (M.ite_some hF).1 hb11
                refine Run_seq ?_
                refine Run_reg 1 (by kernel_rfl) (L' := [(2, .bool false)]) ?_ ?_
                · refine QRun_b [.bool false] 0 _ (by kernel_rfl) (fun w => by kernel_rfl) ?_
                  exact QRun_done [2] (by kernel_rfl) (by kernel_rfl)
                have hF := M.ret_some hF
                subst hF
                have H34 : Hold h h12 [] := H33.pick [] (by kernel_rfl)
                exact Run_ret1 rfl (ResV_tmp (v := .bool false) (by kernel_rfl)) ⟨rfl, H34⟩
              · have hF := (M.ite_some hF).2 hb11
                refine Run_skip ?_
                refine Run_seq ?_
                refine Run_reg 1 (by kernel_rfl) (L' := [(6, .slice a4 x4.1.length c4), (9, .int .i64 x13.1), (10, .int .i64 1)]) ?_ ?_
                · refine QRun_b [.int .i64 1] 0 _ (by kernel_rfl) (fun w => by kernel_rfl) ?_
                  exact QRun_done [6, 9, 10] (by kernel_rfl) (by kernel_rfl)
                refine Run_seq ?_
                obtain ⟨x19, hx15, hF⟩ := M.bind_some hF
                refine Run_reg 4 (by kernel_rfl) (L' := [(9, .int .i64 x13.1), (10, .int .i64 x19)]) ?_ ?_
                · refine QRun_b [.slice a4 x4.1.length c4, .int .i64 1] 0 _ (by kernel_rfl) (fun w => by kernel_rfl) ?_
                  refine QRun_y (.int .i64 x19) (by kernel_rfl) (Y_callq (f := 53) (args := #[.slice a4 x4.1.length c4, .int .i64 1]) (v := .int .i64 x19) (by kernel_rfl) (Fn.arg (w_laws_heldCornerS h12 x13.2 a4 c4 (H33.rd 2 rfl) 1 _ _ hx15) (by simp only [(H33.len 2 rfl)]))) ?_
                  refine QRun_b [.int .i64 x19] 3 _ (by kernel_rfl) (fun w => by kernel_rfl) ?_
                  exact QRun_done [9, 10] (by kernel_rfl) (by kernel_rfl)
                refine Run_seq ?_
                refine Run_seq ?_
                refine Run_reg 2 (by kernel_rfl) (L' := [(9, .int .i64 x13.1), (10, .int .i64 x19), (89, .bool (decide (x19 < 0)))]) ?_ ?_
                · refine QRun_b [.int .i64 x19, .bool (decide (x19 < 0))] 0 _ (by kernel_rfl) (fun w => by kernel_rfl) ?_
                  exact QRun_done [9, 10, 89] (by kernel_rfl) (by kernel_rfl)
                refine Run_cond (b := decide (x19 < 0)) (by kernel_rfl) (fun hb12 => ?_) (fun hb12 => ?_)
                · have hF := (M.ite_some hF).1 hb12
                  refine Run_seq ?_
                  refine Run_reg 1 (by kernel_rfl) (L' := [(2, .bool false)]) ?_ ?_
                  · refine QRun_b [.bool false] 0 _ (by kernel_rfl) (fun w => by kernel_rfl) ?_
                    exact QRun_done [2] (by kernel_rfl) (by kernel_rfl)
                  have hF := M.ret_some hF
                  subst hF
                  have H35 : Hold h h12 [] := H33.pick [] (by kernel_rfl)
                  exact Run_ret1 rfl (ResV_tmp (v := .bool false) (by kernel_rfl)) ⟨rfl, H35⟩
                · have hF := (M.ite_some hF).2 hb12
                  refine Run_skip ?_
                  refine Run_seq ?_
                  refine Run_seq ?_
                  refine Run_reg 3 (by kernel_rfl) (L' := [(92, .bool (x19 != x13.1))]) ?_ ?_
                  · refine QRun_b [.int .i64 x19, .int .i64 x13.1, .bool (x19 != x13.1)] 0 _ (by kernel_rfl) (fun w => by kernel_rfl) ?_
                    exact QRun_done [92] (by kernel_rfl) (by kernel_rfl)
                  refine Run_cond (b := x19 != x13.1) (by kernel_rfl) (fun hb13 => ?_) (fun hb13 => ?_)
                  · have hF := (M.ite_some hF).1 hb13
                    refine Run_seq ?_
                    refine Run_reg 1 (by kernel_rfl) (L' := [(2, .bool false)]) ?_ ?_
                    · refine QRun_b [.bool false] 0 _ (by kernel_rfl) (fun w => by kernel_rfl) ?_
                      exact QRun_done [2] (by kernel_rfl) (by kernel_rfl)
                    have hF := M.ret_some hF
                    subst hF
                    have H36 : Hold h h12 [] := H33.pick [] (by kernel_rfl)
                    exact Run_ret1 rfl (ResV_tmp (v := .bool false) (by kernel_rfl)) ⟨rfl, H36⟩
                  · have hF := (M.ite_some hF).2 hb13
                    refine Run_skip ?_
                    refine Run_seq ?_
                    refine Run_reg 1 (by kernel_rfl) (L' := [(2, .bool true)]) ?_ ?_
                    · refine QRun_b [.bool true] 0 _ (by kernel_rfl) (fun w => by kernel_rfl) ?_
                      exact QRun_done [2] (by kernel_rfl) (by kernel_rfl)
                    have hF := M.ret_some hF
                    subst hF
                    have H37 : Hold h h12 [] := H33.pick [] (by kernel_rfl)
                    exact Run_ret1 rfl (ResV_tmp (v := .bool true) (by kernel_rfl)) ⟨rfl, H37⟩

end Go.Proofs.Ytniaobcahkjfjaa
