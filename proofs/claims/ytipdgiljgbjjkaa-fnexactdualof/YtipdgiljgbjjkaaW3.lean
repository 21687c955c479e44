/-
  Walks: each Go function, called with what reads as plain data, returns what its plain program computes.
  Conditions: None beyond the given statement.
-/
import Derived.Test.YtipdgiljgbjjkaaW2
namespace Go.Proofs.Ytipdgiljgbjjkaa
open Go
attribute [local irreducible] setL setB opA fineI idleI fineB evB okB markB markBs readyB readyBs chainB lk rho pickL dropSlot tailOK
set_option maxRecDepth 100000 in
set_option maxHeartbeats 4000000 in
theorem w_laws_FnExactDualOf (h : Heap) (aA : List (List Int)) (aaA : Option Addr) (caA : Nat) (raA : Rd cd39 h (Lt h) aaA caA aA) (n : Nat) (r : Bool) (hF : laws_FnExactDualOf aA n = some r) :
    Fn Try.prog 5 #[.slice aaA aA.length caA] h fun v h' => v = .bool r ∧ Hold h h' [] := by
  unfold laws_FnExactDualOf at hF
  refine Fn_enter (args := [.slice aaA aA.length caA]) Try.func5 rfl (by kernel_rfl) (by kernel_rfl) (fun w0 _ => ?_)
  have H0 := Hold.init h
  refine Run_seq ?_
  refine Run_reg 1 (by kernel_rfl) (L' := [(0, .slice aaA aA.length caA)]) ?_ ?_
  · refine QRun_b [.bool false] 0 _ (by kernel_rfl) (fun w => by kernel_rfl) ?_
    exact QRun_done [0] (by kernel_rfl) (by kernel_rfl)
  refine Run_seq ?_
  refine Run_reg 1 (by kernel_rfl) (L' := [(0, .slice aaA aA.length caA), (3, .int .i64 1048576)]) ?_ ?_
  · refine QRun_b [.int .i64 1048576] 0 _ (by kernel_rfl) (fun w => by kernel_rfl) ?_
    exact QRun_done [0, 3] (by kernel_rfl) (by kernel_rfl)
  refine Run_seq ?_
  obtain ⟨x1, hx1, hF⟩ := M.bind_some hF
  refine Run_reg 4 (by kernel_rfl) (L' := [(0, .slice aaA aA.length caA), (3, .int .i64 x1)]) ?_ ?_
  · refine QRun_b [.slice aaA aA.length caA, .int .i64 1048576] 0 _ (by kernel_rfl) (fun w => by kernel_rfl) ?_
    refine QRun_y (.int .i64 x1) (by kernel_rfl) (Y_callq (f := 18) (args := #[.slice aaA aA.length caA, .int .i64 1048576]) (v := .int .i64 x1) (by kernel_rfl) (w_laws_szInt64SS h aA aaA caA raA 1048576 _ _ hx1)) ?_
    refine QRun_b [.int .i64 x1] 3 _ (by kernel_rfl) (fun w => by kernel_rfl) ?_
    exact QRun_done [0, 3] (by kernel_rfl) (by kernel_rfl)
  refine Run_seq ?_
  refine Run_seq ?_
  refine Run_reg 2 (by kernel_rfl) (L' := [(0, .slice aaA aA.length caA), (21, .bool (decide (x1 < 0)))]) ?_ ?_
  · refine QRun_b [.int .i64 x1, .bool (decide (x1 < 0))] 0 _ (by kernel_rfl) (fun w => by kernel_rfl) ?_
    exact QRun_done [0, 21] (by kernel_rfl) (by kernel_rfl)
  refine Run_cond (b := decide (x1 < 0)) (by kernel_rfl) (fun hb1 => ?_) (fun hb1 => ?_)
  · have hF := (M.ite_some hF).1 hb1
    refine Run_seq ?_
    refine Run_reg 1 (by kernel_rfl) (L' := [(2, .bool true)]) ?_ ?_
    · refine QRun_b [.bool true] 0 _ (by kernel_rfl) (fun w => by kernel_rfl) ?_
      exact QRun_done [2] (by kernel_rfl) (by kernel_rfl)
    have hF := M.ret_some hF
    subst hF
    exact Run_ret1 rfl (ResV_tmp (v := .bool true) (by kernel_rfl)) ⟨rfl, H0⟩
  · have hF := (M.ite_some hF).2 hb1
    refine Run_skip ?_
    refine Run_seq ?_
    refine Run_ops ?_
    refine Run_b [.slice aaA aA.length caA] 0 _ (by kernel_rfl) (fun w => by kernel_rfl) ?_
    obtain ⟨x2, hx2, hF⟩ := M.bind_some hF
    refine Run_E (by kernel_rfl) ?_
    refine E_call (f := 20) (args := #[.slice aaA aA.length caA]) (w_laws_toInt64SS h aA aaA caA raA _ _ hx2) (by kernel_rfl) (fun v1 h1 hp1 => ?_)
    obtain ⟨a1, c1, rfl, H1⟩ := hp1
    have H2 : Hold h h1 [own cd39 a1 x2.length c1 x2] := H0.call H1 rfl
    obtain ⟨x3, hx3, hF⟩ := M.bind_some hF
    refine Run_E (by kernel_rfl) ?_
    refine E_call (f := 19) (args := #[.slice a1 x2.length c1]) (w_spec_DualOf h1 x2 a1 c1 (H2.rd 0 rfl) _ _ hx3) (by kernel_rfl) (fun v2 h2 hp2 => ?_)
    obtain ⟨a2, c2, a3, c3, rfl, H3⟩ := hp2
    have H4 : Hold h h2 [own cd2 a2 x3.1.length c2 x3.1, own cd2 a3 x3.2.1.length c3 x3.2.1, own cd39 a1 x2.length c1 x2] := H2.call H3 rfl
    refine Run_b [.tuple #[.slice a2 x3.1.length c2, .slice a3 x3.2.1.length c3, .int .i64 x3.2.2], .slice a2 x3.1.length c2, .slice a3 x3.2.1.length c3, .int .i64 x3.2.2, .slice a2 x3.1.length c2, .slice a3 x3.2.1.length c3, .int .i64 x3.2.2] 3 _ (by kernel_rfl) (fun w => by kernel_rfl) ?_
    refine Run_nil (by kernel_rfl) ?_
    refine Run_keep [0, 4, 5, 6] (L' := [(0, .slice aaA aA.length caA), (4, .slice a2 x3.1.length c2), (5, .slice a3 x3.2.1.length c3), (6, .int .i64 x3.2.2)]) (by kernel_rfl) ?_
    refine Run_seq ?_
    refine Run_ops ?_
    refine Run_b [.slice aaA aA.length caA] 0 _ (by kernel_rfl) (fun w => by kernel_rfl) ?_
    obtain ⟨x4, hx4, hF⟩ := M.bind_some hF
    refine Run_E (by kernel_rfl) ?_
    refine E_call (f := 20) (args := #[.slice aaA aA.length caA]) (w_laws_toInt64SS h2 aA aaA caA (raA.at H4.ext) _ _ hx4) (by kernel_rfl) (fun v3 h3 hp3 => ?_)
    obtain ⟨a4, c4, rfl, H5⟩ := hp3
    have H6 : Hold h h3 [own cd39 a4 x4.length c4 x4, own cd2 a2 x3.1.length c2 x3.1, own cd2 a3 x3.2.1.length c3 x3.2.1, own cd39 a1 x2.length c1 x2] := H4.call H5 rfl
    refine Run_b [.slice a4 x4.length c4] 2 _ (by kernel_rfl) (fun w => by kernel_rfl) ?_
    refine Run_nil (by kernel_rfl) ?_
    refine Run_keep [0, 4, 5, 6, 7] (L' := [(0, .slice aaA aA.length caA), (4, .slice a2 x3.1.length c2), (5, .slice a3 x3.2.1.length c3), (6, .int .i64 x3.2.2), (7, .slice a4 x4.length c4)]) (by kernel_rfl) ?_
    refine Run_seq ?_
    refine Run_ops ?_
    refine Run_b [.slice a4 x4.length c4] 0 _ (by kernel_rfl) (fun w => by kernel_rfl) ?_
    obtain ⟨x5, hx5, hF⟩ := M.bind_some hF
    refine Run_E (by kernel_rfl) ?_
    refine E_call (f := 21) (args := #[.slice a4 x4.length c4]) (w_impl_DualOf h3 x4 a4 c4 (H6.rd 0 rfl) _ _ hx5) (by kernel_rfl) (fun v4 h4 hp4 => ?_)
    obtain ⟨a5, c5, a6, c6, rfl, H7⟩ := hp4
    have H8 : Hold h h4 [own cd2 a5 x5.1.length c5 x5.1, own cd2 a6 x5.2.1.length c6 x5.2.1, own cd39 a4 x4.length c4 x4, own cd2 a2 x3.1.length c2 x3.1, own cd2 a3 x3.2.1.length c3 x3.2.1, own cd39 a1 x2.length c1 x2] := H6.call H7 rfl
    refine Run_b [.tuple #[.slice a5 x5.1.length c5, .slice a6 x5.2.1.length c6, .int .i64 x5.2.2], .slice a5 x5.1.length c5, .slice a6 x5.2.1.length c6, .int .i64 x5.2.2, .slice a5 x5.1.length c5, .slice a6 x5.2.1.length c6, .int .i64 x5.2.2] 2 _ (by kernel_rfl) (fun w => by kernel_rfl) ?_
    refine Run_nil (by kernel_rfl) ?_
    refine Run_keep [0, 4, 5, 6, 7, 8, 9, 10] (L' := [(0, .slice aaA aA.length caA), (4, .slice a2 x3.1.length c2), (5, .slice a3 x3.2.1.length c3), (6, .int .i64 x3.2.2), (7, .slice a4 x4.length c4), (8, .slice a5 x5.1.length c5), (9, .slice a6 x5.2.1.length c6), (10, .int .i64 x5.2.2)]) (by kernel_rfl) ?_
    refine Run_seq ?_
    refine Run_seq ?_
    obtain ⟨x6, hx6, hF⟩ := M.bind_some hF
    obtain ⟨x7, gx7, hF⟩ := M.bind_some hF
    refine Run_reg 15 (by kernel_rfl) (L' := [(0, .slice aaA aA.length caA), (4, .slice a2 x3.1.length c2), (5, .slice a3 x3.2.1.length c3), (6, .int .i64 x3.2.2), (7, .slice a4 x4.length c4), (8, .slice a5 x5.1.length c5), (9, .slice a6 x5.2.1.length c6), (10, .int .i64 x5.2.2), (51, .bool (x7 || (x5.2.2 != x3.2.2)))]) ?_ ?_
    · refine QRun_b [.slice a5 x5.1.length c5, .slice a2 x3.1.length c2] 0 _ (by kernel_rfl) (fun w => by kernel_rfl) ?_
      refine QRun_y (.bool x6) (by kernel_rfl) (Y_callq (f := 22) (args := #[.slice a5 x5.1.length c5, .slice a2 x3.1.length c2]) (v := .bool x6) (by kernel_rfl) (w_laws_eqInt64S h4 x5.1 a5 c5 (H8.rd 0 rfl) x3.1 a2 c2 (H8.rd 3 rfl) _ _ hx6)) ?_
      refine QRun_b [.bool (!x6)] 3 _ (by kernel_rfl) (fun w => by kernel_rfl) ?_
      refine QRun_seq 10 [(0, .slice aaA aA.length caA), (4, .slice a2 x3.1.length c2), (5, .slice a3 x3.2.1.length c3), (6, .int .i64 x3.2.2), (7, .slice a4 x4.length c4), (8, .slice a5 x5.1.length c5), (9, .slice a6 x5.2.1.length c6), (10, .int .i64 x5.2.2), (46, .bool x7)] ?_ ?_
      · rcases Bool.eq_false_or_eq_true (!x6) with hb2 | hb2
        · refine QRun_bool (!x6) true (by kernel_rfl) (fun w => by kernel_rfl) hb2 ?_
          have gx7 := M.ret_some ((M.ite_some gx7).1 hb2)
          refine QRun_n (by kernel_rfl) ?_
          refine QRun_n (by kernel_rfl) ?_
          refine QRun_n (by kernel_rfl) ?_
          refine QRun_n (by kernel_rfl) ?_
          refine QRun_bool true x7 (by kernel_rfl) (fun w => by kernel_rfl) gx7 ?_
          exact QRun_done [0, 4, 5, 6, 7, 8, 9, 10, 46] (by kernel_rfl) (by kernel_rfl)
        · refine QRun_bool (!x6) false (by kernel_rfl) (fun w => by kernel_rfl) hb2 ?_
          have gx7 := (M.ite_some gx7).2 hb2
          obtain ⟨x8, hx7, gx7⟩ := M.bind_some gx7
          have gx7 := M.ret_some gx7
          refine QRun_b [.slice a6 x5.2.1.length c6, .slice a3 x3.2.1.length c3] 5 _ (by kernel_rfl) (fun w => by kernel_rfl) ?_
          refine QRun_y (.bool x8) (by kernel_rfl) (Y_callq (f := 22) (args := #[.slice a6 x5.2.1.length c6, .slice a3 x3.2.1.length c3]) (v := .bool x8) (by kernel_rfl) (w_laws_eqInt64S h4 x5.2.1 a6 c6 (H8.rd 1 rfl) x3.2.1 a3 c3 (H8.rd 4 rfl) _ _ hx7)) ?_
          refine QRun_b [.bool (!x8)] 8 _ (by kernel_rfl) (fun w => by kernel_rfl) ?_
          refine QRun_bool (!x8) x7 (by kernel_rfl) (fun w => by kernel_rfl) gx7 ?_
          exact QRun_done [0, 4, 5, 6, 7, 8, 9, 10, 46] (by kernel_rfl) (by kernel_rfl)
      refine QRun_seq 15 [(0, .slice aaA aA.length caA), (4, .slice a2 x3.1.length c2), (5, .slice a3 x3.2.1.length c3), (6, .int .i64 x3.2.2), (7, .slice a4 x4.length c4), (8, .slice a5 x5.1.length c5), (9, .slice a6 x5.2.1.length c6), (10, .int .i64 x5.2.2), (51, .bool (x7 || (x5.2.2 != x3.2.2)))] ?_ ?_
      · rcases Bool.eq_false_or_eq_true x7 with hb3 | hb3
        · refine QRun_bool x7 true (by kernel_rfl) (fun w => by kernel_rfl) hb3 ?_
          refine QRun_n (by kernel_rfl) ?_
          refine QRun_n (by kernel_rfl) ?_
          refine QRun_n (by kernel_rfl) ?_
          refine QRun_bool true (x7 || (x5.2.2 != x3.2.2)) (by kernel_rfl) (fun w => by kernel_rfl) (by rw [hb3]; rfl) ?_
          exact QRun_done [0, 4, 5, 6, 7, 8, 9, 10, 51] (by kernel_rfl) (by kernel_rfl)
        · refine QRun_bool x7 false (by kernel_rfl) (fun w => by kernel_rfl) hb3 ?_
          refine QRun_b [.int .i64 x5.2.2, .int .i64 x3.2.2, .bool (x5.2.2 != x3.2.2)] 11 _ (by kernel_rfl) (fun w => by kernel_rfl) ?_
          refine QRun_bool (x5.2.2 != x3.2.2) (x7 || (x5.2.2 != x3.2.2)) (by kernel_rfl) (fun w => by kernel_rfl) (by rw [hb3]; rfl) ?_
          exact QRun_done [0, 4, 5, 6, 7, 8, 9, 10, 51] (by kernel_rfl) (by kernel_rfl)
      exact QRun_done [0, 4, 5, 6, 7, 8, 9, 10, 51] (by kernel_rfl) (by kernel_rfl)
    refine Run_cond (b := x7 || (x5.2.2 != x3.2.2)) (by kernel_rfl) (fun hb4 => ?_) (fun hb4 => ?_)
    · have hF := (M.ite_some hF).1 hb4
      refine Run_seq ?_
      refine Run_reg 1 (by kernel_rfl) (L' := [(2, .bool false)]) ?_ ?_
      · refine QRun_b [.bool false] 0 _ (by kernel_rfl) (fun w => by kernel_rfl) ?_
        exact QRun_done [2] (by kernel_rfl) (by kernel_rfl)
      have hF := M.ret_some hF
      subst hF
      have H9 : Hold h h4 [] := H8.pick [] (by kernel_rfl)
      exact Run_ret1 rfl (ResV_tmp (v := .bool false) (by kernel_rfl)) ⟨rfl, H9⟩
    · have hF := (M.ite_some hF).2 hb4
      refine Run_skip ?_
      refine Run_seq ?_
      refine Run_seq ?_
      refine Run_ops ?_
      refine Run_b [.slice a4 x4.length c4, .slice aaA aA.length caA] 0 _ (by kernel_rfl) (fun w => by kernel_rfl) ?_
      obtain ⟨x10, hx8, hF⟩ := M.bind_some hF
      refine Run_E (by kernel_rfl) ?_
      refine E_call (f := 20) (args := #[.slice aaA aA.length caA]) (w_laws_toInt64SS h4 aA aaA caA (raA.at H8.ext) _ _ hx8) (by kernel_rfl) (fun v5 h5 hp5 => ?_)
      obtain ⟨a7, c7, rfl, H10⟩ := hp5
      have H11 : Hold h h5 [own cd39 a7 x10.length c7 x10, own cd2 a5 x5.1.length c5 x5.1, own cd2 a6 x5.2.1.length c6 x5.2.1, own cd39 a4 x4.length c4 x4, own cd2 a2 x3.1.length c2 x3.1, own cd2 a3 x3.2.1.length c3 x3.2.1, own cd39 a1 x2.length c1 x2] := H8.call H10 rfl
      obtain ⟨x11, hx9, hF⟩ := M.bind_some hF
      refine Run_y (.bool x11) (by kernel_rfl) (Y_callq (f := 23) (args := #[.slice a4 x4.length c4, .slice a7 x10.length c7]) (v := .bool x11) (by kernel_rfl) (w_laws_eqInt64SS h5 x4 a4 c4 (H11.rd 3 rfl) x10 a7 c7 (H11.rd 0 rfl) _ _ hx9)) ?_
      refine Run_b [.bool (!x11)] 4 _ (by kernel_rfl) (fun w => by kernel_rfl) ?_
      refine Run_nil (by kernel_rfl) ?_
      refine Run_keep [0, 4, 5, 6, 7, 8, 9, 10, 56] (L' := [(0, .slice aaA aA.length caA), (4, .slice a2 x3.1.length c2), (5, .slice a3 x3.2.1.length c3), (6, .int .i64 x3.2.2), (7, .slice a4 x4.length c4), (8, .slice a5 x5.1.length c5), (9, .slice a6 x5.2.1.length c6), (10, .int .i64 x5.2.2), (56, .bool (!x11))]) (by kernel_rfl) ?_
      refine Run_cond (b := !x11) (by kernel_rfl) (fun hb5 => ?_) (fun hb5 => ?_)
      · have hF := (M.ite_some hF).1 hb5
        refine Run_seq ?_
        refine Run_reg 1 (by kernel_rfl) (L' := [(2, .bool false)]) ?_ ?_
        · refine QRun_b [.bool false] 0 _ (by kernel_rfl) (fun w => by kernel_rfl) ?_
          exact QRun_done [2] (by kernel_rfl) (by kernel_rfl)
        have hF := M.ret_some hF
        subst hF
        have H12 : Hold h h5 [] := H11.pick [] (by kernel_rfl)
        exact Run_ret1 rfl (ResV_tmp (v := .bool false) (by kernel_rfl)) ⟨rfl, H12⟩
      · have hF := (M.ite_some hF).2 hb5
        refine Run_skip ?_
        refine Run_seq ?_
        refine Run_reg 1 (by kernel_rfl) (L' := [(0, .slice aaA aA.length caA), (4, .slice a2 x3.1.length c2), (5, .slice a3 x3.2.1.length c3), (6, .int .i64 x3.2.2), (7, .slice a4 x4.length c4), (8, .slice a5 x5.1.length c5), (9, .slice a6 x5.2.1.length c6), (10, .int .i64 x5.2.2), (11, .int .i64 1)]) ?_ ?_
        · refine QRun_b [.int .i64 1] 0 _ (by kernel_rfl) (fun w => by kernel_rfl) ?_
          exact QRun_done [0, 4, 5, 6, 7, 8, 9, 10, 11] (by kernel_rfl) (by kernel_rfl)
        refine Run_seq ?_
        refine Run_ops ?_
        refine Run_b [.slice a4 x4.length c4, .int .i64 1] 0 _ (by kernel_rfl) (fun w => by kernel_rfl) ?_
        obtain ⟨x12, hx10, hF⟩ := M.bind_some hF
        have H13 : Hold h h5 [own cd39 a4 x4.length c4 x4, own cd39 a7 x10.length c7 x10, own cd2 a5 x5.1.length c5 x5.1, own cd2 a6 x5.2.1.length c6 x5.2.1, own cd2 a2 x3.1.length c2 x3.1, own cd2 a3 x3.2.1.length c3 x3.2.1, own cd39 a1 x2.length c1 x2] := H11.pick [3, 0, 1, 2, 4, 5, 6] (by kernel_rfl)
        have H14 : Hold h h5 [own cd39 a4 x4.length c4 x4, bun [own cd39 a7 x10.length c7 x10, own cd2 a5 x5.1.length c5 x5.1, own cd2 a6 x5.2.1.length c6 x5.2.1, own cd2 a2 x3.1.length c2 x3.1, own cd2 a3 x3.2.1.length c3 x3.2.1, own cd39 a1 x2.length c1 x2]] := Hold.bundle (S := [own cd39 a4 x4.length c4 x4]) (R := [own cd39 a7 x10.length c7 x10, own cd2 a5 x5.1.length c5 x5.1, own cd2 a6 x5.2.1.length c6 x5.2.1, own cd2 a2 x3.1.length c2 x3.1, own cd2 a3 x3.2.1.length c3 x3.2.1, own cd39 a1 x2.length c1 x2]) H13
        refine Run_E (by kernel_rfl) ?_
        refine E_call (f := 24) (args := #[.slice a4 x4.length c4, .int .i64 1]) (w_laws_markInt64SS h h5 _ x4 a4 c4 1 H14 _ _ hx10) (by kernel_rfl) (fun v6 h6 hp6 => ?_)
        obtain ⟨rfl, H15⟩ := hp6
        have H16 : Hold h h6 [own cd39 a4 x4.length c4 x12.2, own cd39 a7 x10.length c7 x10, own cd2 a5 x5.1.length c5 x5.1, own cd2 a6 x5.2.1.length c6 x5.2.1, own cd2 a2 x3.1.length c2 x3.1, own cd2 a3 x3.2.1.length c3 x3.2.1, own cd39 a1 x2.length c1 x2] := Hold.unbundle (S := [own cd39 a4 x4.length c4 x12.2]) (R := [own cd39 a7 x10.length c7 x10, own cd2 a5 x5.1.length c5 x5.1, own cd2 a6 x5.2.1.length c6 x5.2.1, own cd2 a2 x3.1.length c2 x3.1, own cd2 a3 x3.2.1.length c3 x3.2.1, own cd39 a1 x2.length c1 x2]) H15 (Hold.tailBase (S := [own cd39 a4 x4.length c4 x4]) (R := [own cd39 a7 x10.length c7 x10, own cd2 a5 x5.1.length c5 x5.1, own cd2 a6 x5.2.1.length c6 x5.2.1, own cd2 a2 x3.1.length c2 x3.1, own cd2 a3 x3.2.1.length c3 x3.2.1, own cd39 a1 x2.length c1 x2]) H13)
        refine Run_b [.int .i64 x12.1] 3 _ (by kernel_rfl) (fun w => by kernel_rfl) ?_
        refine Run_nil (by kernel_rfl) ?_
        refine Run_keep [0, 4, 5, 6, 8, 9, 10, 11] (L' := [(0, .slice aaA aA.length caA), (4, .slice a2 x3.1.length c2), (5, .slice a3 x3.2.1.length c3), (6, .int .i64 x3.2.2), (8, .slice a5 x5.1.length c5), (9, .slice a6 x5.2.1.length c6), (10, .int .i64 x5.2.2), (11, .int .i64 x12.1)]) (by kernel_rfl) ?_
        refine Run_seq ?_
        refine Run_seq ?_
        obtain ⟨x13, gx13, hF⟩ := M.bind_some hF
        obtain ⟨x15, gx15, hF⟩ := M.bind_some hF
        refine Run_reg 19 (by kernel_rfl) (L' := [(0, .slice aaA aA.length caA), (4, .slice a2 x3.1.length c2), (5, .slice a3 x3.2.1.length c3), (6, .int .i64 x3.2.2), (8, .slice a5 x5.1.length c5), (9, .slice a6 x5.2.1.length c6), (78, .bool (x15 || (x5.2.2 != x3.2.2)))]) ?_ ?_
        · refine QRun_b [.int .i64 x12.1, .bool (decide (x12.1 < 0))] 0 _ (by kernel_rfl) (fun w => by kernel_rfl) ?_
          refine QRun_seq 8 [(0, .slice aaA aA.length caA), (4, .slice a2 x3.1.length c2), (5, .slice a3 x3.2.1.length c3), (6, .int .i64 x3.2.2), (8, .slice a5 x5.1.length c5), (9, .slice a6 x5.2.1.length c6), (10, .int .i64 x5.2.2), (67, .bool x13)] ?_ ?_
          · rcases Bool.eq_false_or_eq_true (decide (x12.1 < 0)) with hb6 | hb6
            · refine QRun_bool (decide (x12.1 < 0)) true (by kernel_rfl) (fun w => by kernel_rfl) hb6 ?_
              have gx13 := M.ret_some ((M.ite_some gx13).1 hb6)
              refine QRun_n (by kernel_rfl) ?_
              refine QRun_n (by kernel_rfl) ?_
              refine QRun_n (by kernel_rfl) ?_
              refine QRun_n (by kernel_rfl) ?_
              refine QRun_bool true x13 (by kernel_rfl) (fun w => by kernel_rfl) gx13 ?_
              exact QRun_done [0, 4, 5, 6, 8, 9, 10, 67] (by kernel_rfl) (by kernel_rfl)
            · refine QRun_bool (decide (x12.1 < 0)) false (by kernel_rfl) (fun w => by kernel_rfl) hb6 ?_
              have gx13 := (M.ite_some gx13).2 hb6
              obtain ⟨x14, hx11, gx13⟩ := M.bind_some gx13
              have gx13 := M.ret_some gx13
              refine QRun_b [.slice a5 x5.1.length c5, .slice a2 x3.1.length c2] 3 _ (by kernel_rfl) (fun w => by kernel_rfl) ?_
              refine QRun_y (.bool x14) (by kernel_rfl) (Y_callq (f := 22) (args := #[.slice a5 x5.1.length c5, .slice a2 x3.1.length c2]) (v := .bool x14) (by kernel_rfl) (w_laws_eqInt64S h6 x5.1 a5 c5 (H16.rd 2 rfl) x3.1 a2 c2 (H16.rd 4 rfl) _ _ hx11)) ?_
              refine QRun_b [.bool (!x14)] 6 _ (by kernel_rfl) (fun w => by kernel_rfl) ?_
              refine QRun_bool (!x14) x13 (by kernel_rfl) (fun w => by kernel_rfl) gx13 ?_
              exact QRun_done [0, 4, 5, 6, 8, 9, 10, 67] (by kernel_rfl) (by kernel_rfl)
          refine QRun_seq 14 [(0, .slice aaA aA.length caA), (4, .slice a2 x3.1.length c2), (5, .slice a3 x3.2.1.length c3), (6, .int .i64 x3.2.2), (8, .slice a5 x5.1.length c5), (9, .slice a6 x5.2.1.length c6), (10, .int .i64 x5.2.2), (73, .bool x15)] ?_ ?_
          · rcases Bool.eq_false_or_eq_true x13 with hb7 | hb7
            · refine QRun_bool x13 true (by kernel_rfl) (fun w => by kernel_rfl) hb7 ?_
              have gx15 := M.ret_some ((M.ite_some gx15).1 hb7)
              refine QRun_n (by kernel_rfl) ?_
              refine QRun_n (by kernel_rfl) ?_
              refine QRun_n (by kernel_rfl) ?_
              refine QRun_n (by kernel_rfl) ?_
              refine QRun_bool true x15 (by kernel_rfl) (fun w => by kernel_rfl) gx15 ?_
              exact QRun_done [0, 4, 5, 6, 8, 9, 10, 73] (by kernel_rfl) (by kernel_rfl)
            · refine QRun_bool x13 false (by kernel_rfl) (fun w => by kernel_rfl) hb7 ?_
              have gx15 := (M.ite_some gx15).2 hb7
              obtain ⟨x16, hx12, gx15⟩ := M.bind_some gx15
              have gx15 := M.ret_some gx15
              refine QRun_b [.slice a6 x5.2.1.length c6, .slice a3 x3.2.1.length c3] 9 _ (by kernel_rfl) (fun w => by kernel_rfl) ?_
              refine QRun_y (.bool x16) (by kernel_rfl) (Y_callq (f := 22) (args := #[.slice a6 x5.2.1.length c6, .slice a3 x3.2.1.length c3]) (v := .bool x16) (by kernel_rfl) (w_laws_eqInt64S h6 x5.2.1 a6 c6 (H16.rd 3 rfl) x3.2.1 a3 c3 (H16.rd 5 rfl) _ _ hx12)) ?_
              refine QRun_b [.bool (!x16)] 12 _ (by kernel_rfl) (fun w => by kernel_rfl) ?_
              refine QRun_bool (!x16) x15 (by kernel_rfl) (fun w => by kernel_rfl) gx15 ?_
              exact QRun_done [0, 4, 5, 6, 8, 9, 10, 73] (by kernel_rfl) (by kernel_rfl)
          refine QRun_seq 19 [(0, .slice aaA aA.length caA), (4, .slice a2 x3.1.length c2), (5, .slice a3 x3.2.1.length c3), (6, .int .i64 x3.2.2), (8, .slice a5 x5.1.length c5), (9, .slice a6 x5.2.1.length c6), (78, .bool (x15 || (x5.2.2 != x3.2.2)))] ?_ ?_
          · rcases Bool.eq_false_or_eq_true x15 with hb8 | hb8
            · refine QRun_bool x15 true (by kernel_rfl) (fun w => by kernel_rfl) hb8 ?_
              refine QRun_n (by kernel_rfl) ?_
              refine QRun_n (by kernel_rfl) ?_
              refine QRun_n (by kernel_rfl) ?_
              refine QRun_bool true (x15 || (x5.2.2 != x3.2.2)) (by kernel_rfl) (fun w => by kernel_rfl) (by rw [hb8]; rfl) ?_
              exact QRun_done [0, 4, 5, 6, 8, 9, 78] (by kernel_rfl) (by kernel_rfl)
            · refine QRun_bool x15 false (by kernel_rfl) (fun w => by kernel_rfl) hb8 ?_
              refine QRun_b [.int .i64 x5.2.2, .int .i64 x3.2.2, .bool (x5.2.2 != x3.2.2)] 15 _ (by kernel_rfl) (fun w => by kernel_rfl) ?_
              refine QRun_bool (x5.2.2 != x3.2.2) (x15 || (x5.2.2 != x3.2.2)) (by kernel_rfl) (fun w => by kernel_rfl) (by rw [hb8]; rfl) ?_
              exact QRun_done [0, 4, 5, 6, 8, 9, 78] (by kernel_rfl) (by kernel_rfl)
          exact QRun_done [0, 4, 5, 6, 8, 9, 78] (by kernel_rfl) (by kernel_rfl)
        refine Run_cond (b := x15 || (x5.2.2 != x3.2.2)) (by kernel_rfl) (fun hb9 => ?_) (fun hb9 => ?_)
        · have hF := (M.ite_some hF).1 hb9
          refine Run_seq ?_
          refine Run_reg 1 (by kernel_rfl) (L' := [(2, .bool false)]) ?_ ?_
          · refine QRun_b [.bool false] 0 _ (by kernel_rfl) (fun w => by kernel_rfl) ?_
            exact QRun_done [2] (by kernel_rfl) (by kernel_rfl)
          have hF := M.ret_some hF
          subst hF
          have H17 : Hold h h6 [] := H16.pick [] (by kernel_rfl)
          exact Run_ret1 rfl (ResV_tmp (v := .bool false) (by kernel_rfl)) ⟨rfl, H17⟩
        · have hF := (M.ite_some hF).2 hb9
          refine Run_skip ?_
          refine Run_seq ?_
          refine Run_reg 1 (by kernel_rfl) (L' := [(0, .slice aaA aA.length caA), (4, .slice a2 x3.1.length c2), (5, .slice a3 x3.2.1.length c3), (6, .int .i64 x3.2.2), (8, .slice a5 x5.1.length c5), (9, .slice a6 x5.2.1.length c6), (12, .int .i64 1)]) ?_ ?_
          · refine QRun_b [.int .i64 1] 0 _ (by kernel_rfl) (fun w => by kernel_rfl) ?_
            exact QRun_done [0, 4, 5, 6, 8, 9, 12] (by kernel_rfl) (by kernel_rfl)
          refine Run_seq ?_
          refine Run_ops ?_
          refine Run_b [.slice a5 x5.1.length c5, .int .i64 1] 0 _ (by kernel_rfl) (fun w => by kernel_rfl) ?_
          obtain ⟨x18, hx13, hF⟩ := M.bind_some hF
          have H18 : Hold h h6 [own cd2 a5 x5.1.length c5 x5.1, own cd39 a4 x4.length c4 x12.2, own cd39 a7 x10.length c7 x10, own cd2 a6 x5.2.1.length c6 x5.2.1, own cd2 a2 x3.1.length c2 x3.1, own cd2 a3 x3.2.1.length c3 x3.2.1, own cd39 a1 x2.length c1 x2] := H16.pick [2, 0, 1, 3, 4, 5, 6] (by kernel_rfl)
          have H19 : Hold h h6 [own cd2 a5 x5.1.length c5 x5.1, bun [own cd39 a4 x4.length c4 x12.2, own cd39 a7 x10.length c7 x10, own cd2 a6 x5.2.1.length c6 x5.2.1, own cd2 a2 x3.1.length c2 x3.1, own cd2 a3 x3.2.1.length c3 x3.2.1, own cd39 a1 x2.length c1 x2]] := Hold.bundle (S := [own cd2 a5 x5.1.length c5 x5.1]) (R := [own cd39 a4 x4.length c4 x12.2, own cd39 a7 x10.length c7 x10, own cd2 a6 x5.2.1.length c6 x5.2.1, own cd2 a2 x3.1.length c2 x3.1, own cd2 a3 x3.2.1.length c3 x3.2.1, own cd39 a1 x2.length c1 x2]) H18
          refine Run_E (by kernel_rfl) ?_
          refine E_call (f := 25) (args := #[.slice a5 x5.1.length c5, .int .i64 1]) (w_laws_markInt64S h h6 _ x5.1 a5 c5 1 H19 _ _ hx13) (by kernel_rfl) (fun v7 h7 hp7 => ?_)
          obtain ⟨rfl, H20⟩ := hp7
          have H21 : Hold h h7 [own cd2 a5 x5.1.length c5 x18.2, own cd39 a4 x4.length c4 x12.2, own cd39 a7 x10.length c7 x10, own cd2 a6 x5.2.1.length c6 x5.2.1, own cd2 a2 x3.1.length c2 x3.1, own cd2 a3 x3.2.1.length c3 x3.2.1, own cd39 a1 x2.length c1 x2] := Hold.unbundle (S := [own cd2 a5 x5.1.length c5 x18.2]) (R := [own cd39 a4 x4.length c4 x12.2, own cd39 a7 x10.length c7 x10, own cd2 a6 x5.2.1.length c6 x5.2.1, own cd2 a2 x3.1.length c2 x3.1, own cd2 a3 x3.2.1.length c3 x3.2.1, own cd39 a1 x2.length c1 x2]) H20 (Hold.tailBase (S := [own cd2 a5 x5.1.length c5 x5.1]) (R := [own cd39 a4 x4.length c4 x12.2, own cd39 a7 x10.length c7 x10, own cd2 a6 x5.2.1.length c6 x5.2.1, own cd2 a2 x3.1.length c2 x3.1, own cd2 a3 x3.2.1.length c3 x3.2.1, own cd39 a1 x2.length c1 x2]) H18)
          refine Run_b [.int .i64 x18.1] 3 _ (by kernel_rfl) (fun w => by kernel_rfl) ?_
          refine Run_nil (by kernel_rfl) ?_
          refine Run_keep [0, 4, 5, 6, 8, 9, 12] (L' := [(0, .slice aaA aA.length caA), (4, .slice a2 x3.1.length c2), (5, .slice a3 x3.2.1.length c3), (6, .int .i64 x3.2.2), (8, .slice a5 x5.1.length c5), (9, .slice a6 x5.2.1.length c6), (12, .int .i64 x18.1)]) (by kernel_rfl) ?_
          refine Run_seq ?_
          refine Run_ops ?_
          refine Run_b [.slice a6 x5.2.1.length c6, .int .i64 x18.1] 0 _ (by kernel_rfl) (fun w => by kernel_rfl) ?_
          obtain ⟨x19, hx14, hF⟩ := M.bind_some hF
          have H22 : Hold h h7 [own cd2 a6 x5.2.1.length c6 x5.2.1, own cd2 a5 x5.1.length c5 x18.2, own cd39 a4 x4.length c4 x12.2, own cd39 a7 x10.length c7 x10, own cd2 a2 x3.1.length c2 x3.1, own cd2 a3 x3.2.1.length c3 x3.2.1, own cd39 a1 x2.length c1 x2] := H21.pick [3, 0, 1, 2, 4, 5, 6] (by kernel_rfl)
          have H23 : Hold h h7 [own cd2 a6 x5.2.1.length c6 x5.2.1, bun [own cd2 a5 x5.1.length c5 x18.2, own cd39 a4 x4.length c4 x12.2, own cd39 a7 x10.length c7 x10, own cd2 a2 x3.1.length c2 x3.1, own cd2 a3 x3.2.1.length c3 x3.2.1, own cd39 a1 x2.length c1 x2]] := Hold.bundle (S := [own cd2 a6 x5.2.1.length c6 x5.2.1]) (R := [own cd2 a5 x5.1.length c5 x18.2, own cd39 a4 x4.length c4 x12.2, own cd39 a7 x10.length c7 x10, own cd2 a2 x3.1.length c2 x3.1, own cd2 a3 x3.2.1.length c3 x3.2.1, own cd39 a1 x2.length c1 x2]) H22
          refine Run_E (by kernel_rfl) ?_
          refine E_call (f := 25) (args := #[.slice a6 x5.2.1.length c6, .int .i64 x18.1]) (w_laws_markInt64S h h7 _ x5.2.1 a6 c6 x18.1 H23 _ _ hx14) (by kernel_rfl) (fun v8 h8 hp8 => ?_)
          obtain ⟨rfl, H24⟩ := hp8
          have H25 : Hold h h8 [own cd2 a6 x5.2.1.length c6 x19.2, own cd2 a5 x5.1.length c5 x18.2, own cd39 a4 x4.length c4 x12.2, own cd39 a7 x10.length c7 x10, own cd2 a2 x3.1.length c2 x3.1, own cd2 a3 x3.2.1.length c3 x3.2.1, own cd39 a1 x2.length c1 x2] := Hold.unbundle (S := [own cd2 a6 x5.2.1.length c6 x19.2]) (R := [own cd2 a5 x5.1.length c5 x18.2, own cd39 a4 x4.length c4 x12.2, own cd39 a7 x10.length c7 x10, own cd2 a2 x3.1.length c2 x3.1, own cd2 a3 x3.2.1.length c3 x3.2.1, own cd39 a1 x2.length c1 x2]) H24 (Hold.tailBase (S := [own cd2 a6 x5.2.1.length c6 x5.2.1]) (R := [own cd2 a5 x5.1.length c5 x18.2, own cd39 a4 x4.length c4 x12.2, own cd39 a7 x10.length c7 x10, own cd2 a2 x3.1.length c2 x3.1, own cd2 a3 x3.2.1.length c3 x3.2.1, own cd39 a1 x2.length c1 x2]) H22)
          refine Run_b [.int .i64 x19.1] 3 _ (by kernel_rfl) (fun w => by kernel_rfl) ?_
          refine Run_nil (by kernel_rfl) ?_
          refine Run_keep [0, 4, 5, 6, 8, 9, 12] (L' := [(0, .slice aaA aA.length caA), (4, .slice a2 x3.1.length c2), (5, .slice a3 x3.2.1.length c3), (6, .int .i64 x3.2.2), (8, .slice a5 x5.1.length c5), (9, .slice a6 x5.2.1.length c6), (12, .int .i64 x19.1)]) (by kernel_rfl) ?_
          refine Run_seq ?_
          refine Run_reg 1 (by kernel_rfl) (L' := [(0, .slice aaA aA.length caA), (4, .slice a2 x3.1.length c2), (5, .slice a3 x3.2.1.length c3), (6, .int .i64 x3.2.2), (8, .slice a5 x5.1.length c5), (9, .slice a6 x5.2.1.length c6), (12, .int .i64 x19.1), (13, .int .i64 1)]) ?_ ?_
          · refine QRun_b [.int .i64 1] 0 _ (by kernel_rfl) (fun w => by kernel_rfl) ?_
            exact QRun_done [0, 4, 5, 6, 8, 9, 12, 13] (by kernel_rfl) (by kernel_rfl)
          refine Run_seq ?_
          obtain ⟨x20, hx15, hF⟩ := M.bind_some hF
          refine Run_reg 4 (by kernel_rfl) (L' := [(0, .slice aaA aA.length caA), (4, .slice a2 x3.1.length c2), (5, .slice a3 x3.2.1.length c3), (6, .int .i64 x3.2.2), (8, .slice a5 x5.1.length c5), (9, .slice a6 x5.2.1.length c6), (12, .int .i64 x19.1), (13, .int .i64 x20)]) ?_ ?_
          · refine QRun_b [.slice a5 x5.1.length c5, .int .i64 1] 0 _ (by kernel_rfl) (fun w => by kernel_rfl) ?_
            refine QRun_y (.int .i64 x20) (by kernel_rfl) (Y_callq (f := 26) (args := #[.slice a5 x5.1.length c5, .int .i64 1]) (v := .int .i64 x20) (by kernel_rfl) (Fn.arg (w_laws_heldInt64S h8 x18.2 a5 c5 (H25.rd 1 rfl) 1 _ _ hx15) (by simp only [(H25.len 1 rfl)]))) ?_
            refine QRun_b [.int .i64 x20] 3 _ (by kernel_rfl) (fun w => by kernel_rfl) ?_
            exact QRun_done [0, 4, 5, 6, 8, 9, 12, 13] (by kernel_rfl) (by kernel_rfl)
          refine Run_seq ?_
          refine Run_seq ?_
          refine Run_reg 2 (by kernel_rfl) (L' := [(0, .slice aaA aA.length caA), (4, .slice a2 x3.1.length c2), (5, .slice a3 x3.2.1.length c3), (6, .int .i64 x3.2.2), (8, .slice a5 x5.1.length c5), (9, .slice a6 x5.2.1.length c6), (12, .int .i64 x19.1), (13, .int .i64 x20), (89, .bool (decide (x20 < 0)))]) ?_ ?_
          · refine QRun_b [.int .i64 x20, .bool (decide (x20 < 0))] 0 _ (by kernel_rfl) (fun w => by kernel_rfl) ?_
            exact QRun_done [0, 4, 5, 6, 8, 9, 12, 13, 89] (by kernel_rfl) (by kernel_rfl)
          refine Run_cond (b := decide (x20 < 0)) (by kernel_rfl) (fun hb10 => ?_) (fun hb10 => ?_)
          · have hF := (M.ite_some hF).1 hb10
            refine Run_seq ?_
            refine Run_reg 1 (by kernel_rfl) (L' := [(2, .bool false)]) ?_ ?_
            · refine QRun_b [.bool false] 0 _ (by kernel_rfl) (fun w => by kernel_rfl) ?_
              exact QRun_done [2] (by kernel_rfl) (by kernel_rfl)
            have hF := M.ret_some hF
            subst hF
            have H26 : Hold h h8 [] := H25.pick [] (by kernel_rfl)
            exact Run_ret1 rfl (ResV_tmp (v := .bool false) (by kernel_rfl)) ⟨rfl, H26⟩
          · have hF := (M.ite_some hF).2 hb10
            refine Run_skip ?_
            refine Run_seq ?_
            obtain ⟨x21, hx16, hF⟩ := M.bind_some hF
            refine Run_reg 4 (by kernel_rfl) (L' := [(0, .slice aaA aA.length caA), (4, .slice a2 x3.1.length c2), (5, .slice a3 x3.2.1.length c3), (6, .int .i64 x3.2.2), (8, .slice a5 x5.1.length c5), (9, .slice a6 x5.2.1.length c6), (12, .int .i64 x19.1), (13, .int .i64 x21)]) ?_ ?_
            · refine QRun_b [.slice a6 x5.2.1.length c6, .int .i64 x20] 0 _ (by kernel_rfl) (fun w => by kernel_rfl) ?_
              refine QRun_y (.int .i64 x21) (by kernel_rfl) (Y_callq (f := 26) (args := #[.slice a6 x5.2.1.length c6, .int .i64 x20]) (v := .int .i64 x21) (by kernel_rfl) (Fn.arg (w_laws_heldInt64S h8 x19.2 a6 c6 (H25.rd 0 rfl) x20 _ _ hx16) (by simp only [(H25.len 0 rfl)]))) ?_
              refine QRun_b [.int .i64 x21] 3 _ (by kernel_rfl) (fun w => by kernel_rfl) ?_
              exact QRun_done [0, 4, 5, 6, 8, 9, 12, 13] (by kernel_rfl) (by kernel_rfl)
            refine Run_seq ?_
            refine Run_seq ?_
            refine Run_reg 2 (by kernel_rfl) (L' := [(0, .slice aaA aA.length caA), (4, .slice a2 x3.1.length c2), (5, .slice a3 x3.2.1.length c3), (6, .int .i64 x3.2.2), (8, .slice a5 x5.1.length c5), (9, .slice a6 x5.2.1.length c6), (12, .int .i64 x19.1), (13, .int .i64 x21), (94, .bool (decide (x21 < 0)))]) ?_ ?_
            · refine QRun_b [.int .i64 x21, .bool (decide (x21 < 0))] 0 _ (by kernel_rfl) (fun w => by kernel_rfl) ?_
              exact QRun_done [0, 4, 5, 6, 8, 9, 12, 13, 94] (by kernel_rfl) (by kernel_rfl)
            refine Run_cond (b := decide (x21 < 0)) (by kernel_rfl) (fun hb11 => ?_) (fun hb11 => ?_)
            · have hF := (M.ite_some hF).1 hb11
              refine Run_seq ?_
              refine Run_reg 1 (by kernel_rfl) (L' := [(2, .bool false)]) ?_ ?_
              · refine QRun_b [.bool false] 0 _ (by kernel_rfl) (fun w => by kernel_rfl) ?_
                exact QRun_done [2] (by kernel_rfl) (by kernel_rfl)
              have hF := M.ret_some hF
              subst hF
              have H27 : Hold h h8 [] := H25.pick [] (by kernel_rfl)
              exact Run_ret1 rfl (ResV_tmp (v := .bool false) (by kernel_rfl)) ⟨rfl, H27⟩
            · have hF := (M.ite_some hF).2 hb11
              refine Run_skip ?_
              refine Run_seq ?_
              refine Run_seq ?_
              refine Run_reg 3 (by kernel_rfl) (L' := [(0, .slice aaA aA.length caA), (4, .slice a2 x3.1.length c2), (5, .slice a3 x3.2.1.length c3), (6, .int .i64 x3.2.2), (8, .slice a5 x5.1.length c5), (9, .slice a6 x5.2.1.length c6), (12, .int .i64 x19.1), (97, .bool (x21 != x19.1))]) ?_ ?_
              · refine QRun_b [.int .i64 x21, .int .i64 x19.1, .bool (x21 != x19.1)] 0 _ (by kernel_rfl) (fun w => by kernel_rfl) ?_
                exact QRun_done [0, 4, 5, 6, 8, 9, 12, 97] (by kernel_rfl) (by kernel_rfl)
              refine Run_cond (b := x21 != x19.1) (by kernel_rfl) (fun hb12 => ?_) (fun hb12 => ?_)
              · have hF := (M.ite_some hF).1 hb12
                refine Run_seq ?_
                refine Run_reg 1 (by kernel_rfl) (L' := [(2, .bool false)]) ?_ ?_
                · refine QRun_b [.bool false] 0 _ (by kernel_rfl) (fun w => by kernel_rfl) ?_
                  exact QRun_done [2] (by kernel_rfl) (by kernel_rfl)
                have hF := M.ret_some hF
                subst hF
                have H28 : Hold h h8 [] := H25.pick [] (by kernel_rfl)
                exact Run_ret1 rfl (ResV_tmp (v := .bool false) (by kernel_rfl)) ⟨rfl, H28⟩
              · have hF := (M.ite_some hF).2 hb12
                refine Run_skip ?_
                refine Run_seq ?_
                refine Run_ops ?_
                refine Run_b [.slice aaA aA.length caA] 0 _ (by kernel_rfl) (fun w => by kernel_rfl) ?_
                obtain ⟨x22, hx17, hF⟩ := M.bind_some hF
                refine Run_E (by kernel_rfl) ?_
                refine E_call (f := 20) (args := #[.slice aaA aA.length caA]) (w_laws_toInt64SS h8 aA aaA caA (raA.at H25.ext) _ _ hx17) (by kernel_rfl) (fun v9 h9 hp9 => ?_)
                obtain ⟨a8, c8, rfl, H29⟩ := hp9
                have H30 : Hold h h9 [own cd39 a8 x22.length c8 x22, own cd2 a6 x5.2.1.length c6 x19.2, own cd2 a5 x5.1.length c5 x18.2, own cd39 a4 x4.length c4 x12.2, own cd39 a7 x10.length c7 x10, own cd2 a2 x3.1.length c2 x3.1, own cd2 a3 x3.2.1.length c3 x3.2.1, own cd39 a1 x2.length c1 x2] := H25.call H29 rfl
                obtain ⟨x23, hx18, hF⟩ := M.bind_some hF
                refine Run_E (by kernel_rfl) ?_
                refine E_call (f := 21) (args := #[.slice a8 x22.length c8]) (w_impl_DualOf h9 x22 a8 c8 (H30.rd 0 rfl) _ _ hx18) (by kernel_rfl) (fun v10 h10 hp10 => ?_)
                obtain ⟨a9, c9, a10, c10, rfl, H31⟩ := hp10
                have H32 : Hold h h10 [own cd2 a9 x23.1.length c9 x23.1, own cd2 a10 x23.2.1.length c10 x23.2.1, own cd39 a8 x22.length c8 x22, own cd2 a6 x5.2.1.length c6 x19.2, own cd2 a5 x5.1.length c5 x18.2, own cd39 a4 x4.length c4 x12.2, own cd39 a7 x10.length c7 x10, own cd2 a2 x3.1.length c2 x3.1, own cd2 a3 x3.2.1.length c3 x3.2.1, own cd39 a1 x2.length c1 x2] := H30.call H31 rfl
                refine Run_b [.tuple #[.slice a9 x23.1.length c9, .slice a10 x23.2.1.length c10, .int .i64 x23.2.2], .slice a9 x23.1.length c9, .slice a10 x23.2.1.length c10, .int .i64 x23.2.2, .slice a9 x23.1.length c9, .slice a10 x23.2.1.length c10, .int .i64 x23.2.2] 3 _ (by kernel_rfl) (fun w => by kernel_rfl) ?_
                refine Run_nil (by kernel_rfl) ?_
                refine Run_keep [4, 5, 6, 8, 9, 12, 14, 15, 16] (L' := [(4, .slice a2 x3.1.length c2), (5, .slice a3 x3.2.1.length c3), (6, .int .i64 x3.2.2), (8, .slice a5 x5.1.length c5), (9, .slice a6 x5.2.1.length c6), (12, .int .i64 x19.1), (14, .slice a9 x23.1.length c9), (15, .slice a10 x23.2.1.length c10), (16, .int .i64 x23.2.2)]) (by kernel_rfl) ?_
                refine Run_seq ?_
                refine Run_seq ?_
                obtain ⟨x24, hx19, hF⟩ := M.bind_some hF
                obtain ⟨x25, gx25, hF⟩ := M.bind_some hF
                refine Run_reg 15 (by kernel_rfl) (L' := [(8, .slice a5 x5.1.length c5), (9, .slice a6 x5.2.1.length c6), (12, .int .i64 x19.1), (119, .bool (x25 || (x23.2.2 != x3.2.2)))]) ?_ ?_
                · refine QRun_b [.slice a9 x23.1.length c9, .slice a2 x3.1.length c2] 0 _ (by kernel_rfl) (fun w => by kernel_rfl) ?_
                  refine QRun_y (.bool x24) (by kernel_rfl) (Y_callq (f := 22) (args := #[.slice a9 x23.1.length c9, .slice a2 x3.1.length c2]) (v := .bool x24) (by kernel_rfl) (w_laws_eqInt64S h10 x23.1 a9 c9 (H32.rd 0 rfl) x3.1 a2 c2 (H32.rd 7 rfl) _ _ hx19)) ?_
                  refine QRun_b [.bool (!x24)] 3 _ (by kernel_rfl) (fun w => by kernel_rfl) ?_
                  refine QRun_seq 10 [(6, .int .i64 x3.2.2), (8, .slice a5 x5.1.length c5), (9, .slice a6 x5.2.1.length c6), (12, .int .i64 x19.1), (16, .int .i64 x23.2.2), (114, .bool x25)] ?_ ?_
                  · rcases Bool.eq_false_or_eq_true (!x24) with hb13 | hb13
                    · refine QRun_bool (!x24) true (by kernel_rfl) (fun w => by kernel_rfl) hb13 ?_
                      have gx25 := M.ret_some ((M.ite_some gx25).1 hb13)
                      refine QRun_n (by kernel_rfl) ?_
                      refine QRun_n (by kernel_rfl) ?_
                      refine QRun_n (by kernel_rfl) ?_
                      refine QRun_n (by kernel_rfl) ?_
                      refine QRun_bool true x25 (by kernel_rfl) (fun w => by kernel_rfl) gx25 ?_
                      exact QRun_done [6, 8, 9, 12, 16, 114] (by kernel_rfl) (by kernel_rfl)
                    · refine QRun_bool (!x24) false (by kernel_rfl) (fun w => by kernel_rfl) hb13 ?_
                      have gx25 := (M.ite_some gx25).2 hb13
                      obtain ⟨x26, hx20, gx25⟩ := M.bind_some gx25
                      have gx25 := M.ret_some gx25
                      refine QRun_b [.slice a10 x23.2.1.length c10, .slice a3 x3.2.1.length c3] 5 _ (by kernel_rfl) (fun w => by kernel_rfl) ?_
                      refine QRun_y (.bool x26) (by kernel_rfl) (Y_callq (f := 22) (args := #[.slice a10 x23.2.1.length c10, .slice a3 x3.2.1.length c3]) (v := .bool x26) (by kernel_rfl) (w_laws_eqInt64S h10 x23.2.1 a10 c10 (H32.rd 1 rfl) x3.2.1 a3 c3 (H32.rd 8 rfl) _ _ hx20)) ?_
                      refine QRun_b [.bool (!x26)] 8 _ (by kernel_rfl) (fun w => by kernel_rfl) ?_
                      refine QRun_bool (!x26) x25 (by kernel_rfl) (fun w => by kernel_rfl) gx25 ?_
                      exact QRun_done [6, 8, 9, 12, 16, 114] (by kernel_rfl) (by kernel_rfl)
                  refine QRun_seq 15 [(8, .slice a5 x5.1.length c5), (9, .slice a6 x5.2.1.length c6), (12, .int .i64 x19.1), (119, .bool (x25 || (x23.2.2 != x3.2.2)))] ?_ ?_
                  · rcases Bool.eq_false_or_eq_true x25 with hb14 | hb14
                    · refine QRun_bool x25 true (by kernel_rfl) (fun w => by kernel_rfl) hb14 ?_
                      refine QRun_n (by kernel_rfl) ?_
                      refine QRun_n (by kernel_rfl) ?_
                      refine QRun_n (by kernel_rfl) ?_
                      refine QRun_bool true (x25 || (x23.2.2 != x3.2.2)) (by kernel_rfl) (fun w => by kernel_rfl) (by rw [hb14]; rfl) ?_
                      exact QRun_done [8, 9, 12, 119] (by kernel_rfl) (by kernel_rfl)
                    · refine QRun_bool x25 false (by kernel_rfl) (fun w => by kernel_rfl) hb14 ?_
                      refine QRun_b [.int .i64 x23.2.2, .int .i64 x3.2.2, .bool (x23.2.2 != x3.2.2)] 11 _ (by kernel_rfl) (fun w => by kernel_rfl) ?_
                      refine QRun_bool (x23.2.2 != x3.2.2) (x25 || (x23.2.2 != x3.2.2)) (by kernel_rfl) (fun w => by kernel_rfl) (by rw [hb14]; rfl) ?_
                      exact QRun_done [8, 9, 12, 119] (by kernel_rfl) (by kernel_rfl)
                  exact QRun_done [8, 9, 12, 119] (by kernel_rfl) (by kernel_rfl)
                refine Run_cond (b := x25 || (x23.2.2 != x3.2.2)) (by kernel_rfl) (fun hb15 => ?_) (fun hb15 => ?_)
                · have hF := (M.ite_some hF).1 hb15
                  refine Run_seq ?_
                  refine Run_reg 1 (by kernel_rfl) (L' := [(2, .bool false)]) ?_ ?_
                  · refine QRun_b [.bool false] 0 _ (by kernel_rfl) (fun w => by kernel_rfl) ?_
                    exact QRun_done [2] (by kernel_rfl) (by kernel_rfl)
                  have hF := M.ret_some hF
                  subst hF
                  have H33 : Hold h h10 [] := H32.pick [] (by kernel_rfl)
                  exact Run_ret1 rfl (ResV_tmp (v := .bool false) (by kernel_rfl)) ⟨rfl, H33⟩
                · have hF := (M.ite_some hF).2 hb15
                  refine Run_skip ?_
                  refine Run_seq ?_
                  refine Run_reg 1 (by kernel_rfl) (L' := [(8, .slice a5 x5.1.length c5), (9, .slice a6 x5.2.1.length c6), (12, .int .i64 x19.1), (13, .int .i64 1)]) ?_ ?_
                  · refine QRun_b [.int .i64 1] 0 _ (by kernel_rfl) (fun w => by kernel_rfl) ?_
                    exact QRun_done [8, 9, 12, 13] (by kernel_rfl) (by kernel_rfl)
                  refine Run_seq ?_
                  obtain ⟨x28, hx21, hF⟩ := M.bind_some hF
                  refine Run_reg 4 (by kernel_rfl) (L' := [(9, .slice a6 x5.2.1.length c6), (12, .int .i64 x19.1), (13, .int .i64 x28)]) ?_ ?_
                  · refine QRun_b [.slice a5 x5.1.length c5, .int .i64 1] 0 _ (by kernel_rfl) (fun w => by kernel_rfl) ?_
                    refine QRun_y (.int .i64 x28) (by kernel_rfl) (Y_callq (f := 26) (args := #[.slice a5 x5.1.length c5, .int .i64 1]) (v := .int .i64 x28) (by kernel_rfl) (Fn.arg (w_laws_heldInt64S h10 x18.2 a5 c5 (H32.rd 4 rfl) 1 _ _ hx21) (by simp only [(H32.len 4 rfl)]))) ?_
                    refine QRun_b [.int .i64 x28] 3 _ (by kernel_rfl) (fun w => by kernel_rfl) ?_
                    exact QRun_done [9, 12, 13] (by kernel_rfl) (by kernel_rfl)
                  refine Run_seq ?_
                  refine Run_seq ?_
                  refine Run_reg 2 (by kernel_rfl) (L' := [(9, .slice a6 x5.2.1.length c6), (12, .int .i64 x19.1), (13, .int .i64 x28), (124, .bool (decide (x28 < 0)))]) ?_ ?_
                  · refine QRun_b [.int .i64 x28, .bool (decide (x28 < 0))] 0 _ (by kernel_rfl) (fun w => by kernel_rfl) ?_
                    exact QRun_done [9, 12, 13, 124] (by kernel_rfl) (by kernel_rfl)
                  refine Run_cond (b := decide (x28 < 0)) (by kernel_rfl) (fun hb16 => ?_) (fun hb16 => ?_)
                  · have hF := (M.ite_some hF).1 hb16
                    refine Run_seq ?_
                    refine Run_reg 1 (by kernel_rfl) (L' := [(2, .bool false)]) ?_ ?_
                    · refine QRun_b [.bool false] 0 _ (by kernel_rfl) (fun w => by kernel_rfl) ?_
                      exact QRun_done [2] (by kernel_rfl) (by kernel_rfl)
                    have hF := M.ret_some hF
                    subst hF
                    have H34 : Hold h h10 [] := H32.pick [] (by kernel_rfl)
                    exact Run_ret1 rfl (ResV_tmp (v := .bool false) (by kernel_rfl)) ⟨rfl, H34⟩
                  · have hF := (M.ite_some hF).2 hb16
                    refine Run_skip ?_
                    refine Run_seq ?_
                    obtain ⟨x29, hx22, hF⟩ := M.bind_some hF
                    refine Run_reg 4 (by kernel_rfl) (L' := [(12, .int .i64 x19.1), (13, .int .i64 x29)]) ?_ ?_
                    · refine QRun_b [.slice a6 x5.2.1.length c6, .int .i64 x28] 0 _ (by kernel_rfl) (fun w => by kernel_rfl) ?_
                      refine QRun_y (.int .i64 x29) (by kernel_rfl) (Y_callq (f := 26) (args := #[.slice a6 x5.2.1.length c6, .int .i64 x28]) (v := .int .i64 x29) (by kernel_rfl) (Fn.arg (w_laws_heldInt64S h10 x19.2 a6 c6 (H32.rd 3 rfl) x28 _ _ hx22) (by simp only [(H32.len 3 rfl)]))) ?_
                      refine QRun_b [.int .i64 x29] 3 _ (by kernel_rfl) (fun w => by kernel_rfl) ?_
                      exact QRun_done [12, 13] (by kernel_rfl) (by kernel_rfl)
                    refine Run_seq ?_
                    refine Run_seq ?_
                    refine Run_reg 2 (by kernel_rfl) (L' := [(12, .int .i64 x19.1), (13, .int .i64 x29), (129, .bool (decide (x29 < 0)))]) ?_ ?_
                    · refine QRun_b [.int .i64 x29, .bool (decide (x29 < 0))] 0 _ (by kernel_rfl) (fun w => by kernel_rfl) ?_
                      exact QRun_done [12, 13, 129] (by kernel_rfl) (by kernel_rfl)
                    refine Run_cond (b := decide (x29 < 0)) (by kernel_rfl) (fun hb17 => ?_) (fun hb17 => ?_)
                    · have hF := (M.ite_some hF).1 hb17
                      refine Run_seq ?_
                      refine Run_reg 1 (by kernel_rfl) (L' := [(2, .bool false)]) ?_ ?_
                      · refine QRun_b [.bool false] 0 _ (by kernel_rfl) (fun w => by kernel_rfl) ?_
                        exact QRun_done [2] (by kernel_rfl) (by kernel_rfl)
                      have hF := M.ret_some hF
                      subst hF
                      have H35 : Hold h h10 [] := H32.pick [] (by kernel_rfl)
                      exact Run_ret1 rfl (ResV_tmp (v := .bool false) (by kernel_rfl)) ⟨rfl, H35⟩
                    · have hF := (M.ite_some hF).2 hb17
                      refine Run_skip ?_
                      refine Run_seq ?_
                      refine Run_seq ?_
                      refine Run_reg 3 (by kernel_rfl) (L' := [(132, .bool (x29 != x19.1))]) ?_ ?_
                      · refine QRun_b [.int .i64 x29, .int .i64 x19.1, .bool (x29 != x19.1)] 0 _ (by kernel_rfl) (fun w => by kernel_rfl) ?_
                        exact QRun_done [132] (by kernel_rfl) (by kernel_rfl)
                      refine Run_cond (b := x29 != x19.1) (by kernel_rfl) (fun hb18 => ?_) (fun hb18 => ?_)
                      · have hF := (M.ite_some hF).1 hb18
                        refine Run_seq ?_
                        refine Run_reg 1 (by kernel_rfl) (L' := [(2, .bool false)]) ?_ ?_
                        · refine QRun_b [.bool false] 0 _ (by kernel_rfl) (fun w => by kernel_rfl) ?_
                          exact QRun_done [2] (by kernel_rfl) (by kernel_rfl)
                        have hF := M.ret_some hF
                        subst hF
                        have H36 : Hold h h10 [] := H32.pick [] (by kernel_rfl)
                        exact Run_ret1 rfl (ResV_tmp (v := .bool false) (by kernel_rfl)) ⟨rfl, H36⟩
                      · have hF := (M.ite_some hF).2 hb18
                        refine Run_skip ?_
                        refine Run_seq ?_
                        refine Run_reg 1 (by kernel_rfl) (L' := [(2, .bool true)]) ?_ ?_
                        · refine QRun_b [.bool true] 0 _ (by kernel_rfl) (fun w => by kernel_rfl) ?_
                          exact QRun_done [2] (by kernel_rfl) (by kernel_rfl)
                        have hF := M.ret_some hF
                        subst hF
                        have H37 : Hold h h10 [] := H32.pick [] (by kernel_rfl)
                        exact Run_ret1 rfl (ResV_tmp (v := .bool true) (by kernel_rfl)) ⟨rfl, H37⟩

end Go.Proofs.Ytipdgiljgbjjkaa
