/-
  Walks: each Go function, called with what reads as plain data, returns what its plain program computes.
  Conditions: None beyond the given statement.
-/
import Derived.Test.YtmpjjdgfkjompaaW1
namespace Go.Proofs.Ytmpjjdgfkjompaa
open Go
attribute [local irreducible] setL setB opA fineI idleI fineB evB okB markB markBs readyB readyBs chainB lk rho pickL dropSlot tailOK
set_option maxRecDepth 100000 in
set_option maxHeartbeats 4000000 in
theorem w_laws_FnSubsolutions (h : Heap) (code : List Int) (acode : Option Addr) (ccode : Nat) (rcode : Rd cd5 h (Lt h) acode ccode code) (n : Nat) (r : Bool) (hF : laws_FnSubsolutions code n = some r) :
    Fn Try.prog 12 #[.slice acode code.length ccode] h fun v h' => v = .bool r ∧ Hold h h' [] := by
  unfold laws_FnSubsolutions at hF
  refine Fn_enter (args := [.slice acode code.length ccode]) Try.func12 rfl (by kernel_rfl) (by kernel_rfl) (fun w0 _ => ?_)
  have H0 := Hold.init h
  refine Run_seq ?_
  refine Run_reg 1 (by kernel_rfl) (L' := [(0, .slice acode code.length ccode)]) ?_ ?_
  · refine QRun_b [.bool false] 0 _ (by kernel_rfl) (fun w => by kernel_rfl) ?_
    exact QRun_done [0] (by kernel_rfl) (by kernel_rfl)
  refine Run_seq ?_
  refine Run_seq ?_
  obtain ⟨x1, hx1, hF⟩ := M.bind_some hF
  refine Run_reg 2 (by kernel_rfl) (L' := [(0, .slice acode code.length ccode), (25, .bool x1)]) ?_ ?_
  · refine QRun_b [.slice acode code.length ccode] 0 _ (by kernel_rfl) (fun w => by kernel_rfl) ?_
    refine QRun_y (.bool x1) (by kernel_rfl) (Y_callq (f := 40) (args := #[.slice acode code.length ccode]) (v := .bool x1) (by kernel_rfl) (w_laws_big h code acode ccode rcode _ _ hx1)) ?_
    exact QRun_done [0, 25] (by kernel_rfl) (by kernel_rfl)
  refine Run_cond (b := x1) (by kernel_rfl) (fun hb1 => ?_) (fun hb1 => ?_)
  · have hF := (M.ite_some hF).1 hb1
    refine Run_seq ?_
    refine Run_reg 1 (by kernel_rfl) (L' := [(2, .bool true)]) ?_ ?_
    · refine QRun_b [.bool true] 0 _ (by kernel_rfl) (fun w => by kernel_rfl) ?_
      exact QRun_done [2] (by kernel_rfl) (by kernel_rfl)
    have hF := M.ret_some hF
    subst hF
    exact Run_ret1 rfl (ResV_tmp (v := .bool true) (by kernel_rfl)) ⟨rfl, H0⟩
  · have hF := (M.ite_some hF).2 hb1
    refine Run_skip ?_
    refine Run_seq ?_
    refine Run_ops ?_
    refine Run_b [.slice acode code.length ccode] 0 _ (by kernel_rfl) (fun w => by kernel_rfl) ?_
    obtain ⟨x2, hx2, hF⟩ := M.bind_some hF
    refine Run_E (by kernel_rfl) ?_
    refine E_call (f := 46) (args := #[.slice acode code.length ccode]) (w_spec_DrawGreatestSub h code acode ccode rcode _ _ hx2) (by kernel_rfl) (fun v1 h1 hp1 => ?_)
    obtain ⟨a1, c1, a2, c2, rfl, H1⟩ := hp1
    have H2 : Hold h h1 [own cd23 a1 x2.1.length c1 x2.1, own cd2 a2 x2.2.length c2 x2.2] := H0.call H1 rfl
    refine Run_b [.tuple #[.slice a1 x2.1.length c1, .slice a2 x2.2.length c2], .slice a1 x2.1.length c1, .slice a2 x2.2.length c2, .slice a1 x2.1.length c1, .slice a2 x2.2.length c2] 2 _ (by kernel_rfl) (fun w => by kernel_rfl) ?_
    refine Run_nil (by kernel_rfl) ?_
    refine Run_keep [3, 4] (L' := [(3, .slice a1 x2.1.length c1), (4, .slice a2 x2.2.length c2)]) (by kernel_rfl) ?_
    refine Run_seq ?_
    refine Run_ops ?_
    refine Run_b [.slice a1 x2.1.length c1, .slice a2 x2.2.length c2] 0 _ (by kernel_rfl) (fun w => by kernel_rfl) ?_
    obtain ⟨x3, hx3, hF⟩ := M.bind_some hF
    refine Run_E (by kernel_rfl) ?_
    refine E_call (f := 19) (args := #[.slice a1 x2.1.length c1, .slice a2 x2.2.length c2]) (w_impl_GreatestSub h1 x2.1 a1 c1 (H2.rd 0 rfl) x2.2 a2 c2 (H2.rd 1 rfl) _ _ hx3) (by kernel_rfl) (fun v2 h2 hp2 => ?_)
    obtain ⟨a3, c3, rfl, H3⟩ := hp2
    have H4 : Hold h h2 [own cd2 a3 x3.1.length c3 x3.1, own cd23 a1 x2.1.length c1 x2.1, own cd2 a2 x2.2.length c2 x2.2] := H2.call H3 rfl
    refine Run_b [.tuple #[.slice a3 x3.1.length c3, .int .i64 x3.2], .slice a3 x3.1.length c3, .int .i64 x3.2, .slice a3 x3.1.length c3, .int .i64 x3.2] 3 _ (by kernel_rfl) (fun w => by kernel_rfl) ?_
    refine Run_nil (by kernel_rfl) ?_
    refine Run_keep [3, 4, 5, 6] (L' := [(3, .slice a1 x2.1.length c1), (4, .slice a2 x2.2.length c2), (5, .slice a3 x3.1.length c3), (6, .int .i64 x3.2)]) (by kernel_rfl) ?_
    refine Run_seq ?_
    refine Run_ops ?_
    refine Run_b [.slice a1 x2.1.length c1, .slice a2 x2.2.length c2] 0 _ (by kernel_rfl) (fun w => by kernel_rfl) ?_
    obtain ⟨x4, hx4, hF⟩ := M.bind_some hF
    refine Run_E (by kernel_rfl) ?_
    refine E_call (f := 16) (args := #[.slice a1 x2.1.length c1, .slice a2 x2.2.length c2]) (w_spec_GreatestSub h2 x2.1 a1 c1 (H4.rd 1 rfl) x2.2 a2 c2 (H4.rd 2 rfl) _ _ hx4) (by kernel_rfl) (fun v3 h3 hp3 => ?_)
    obtain ⟨a4, c4, rfl, H5⟩ := hp3
    have H6 : Hold h h3 [own cd2 a4 x4.1.length c4 x4.1, own cd2 a3 x3.1.length c3 x3.1, own cd23 a1 x2.1.length c1 x2.1, own cd2 a2 x2.2.length c2 x2.2] := H4.call H5 rfl
    refine Run_b [.tuple #[.slice a4 x4.1.length c4, .int .i64 x4.2], .slice a4 x4.1.length c4, .int .i64 x4.2, .slice a4 x4.1.length c4, .int .i64 x4.2] 3 _ (by kernel_rfl) (fun w => by kernel_rfl) ?_
    refine Run_nil (by kernel_rfl) ?_
    refine Run_keep [3, 4, 5, 6, 7, 8] (L' := [(3, .slice a1 x2.1.length c1), (4, .slice a2 x2.2.length c2), (5, .slice a3 x3.1.length c3), (6, .int .i64 x3.2), (7, .slice a4 x4.1.length c4), (8, .int .i64 x4.2)]) (by kernel_rfl) ?_
    refine Run_seq ?_
    refine Run_ops ?_
    refine Run_b [.slice a1 x2.1.length c1, .slice a2 x2.2.length c2] 0 _ (by kernel_rfl) (fun w => by kernel_rfl) ?_
    obtain ⟨x5, hx5, hF⟩ := M.bind_some hF
    refine Run_E (by kernel_rfl) ?_
    refine E_call (f := 28) (args := #[.slice a1 x2.1.length c1, .slice a2 x2.2.length c2]) (w_impl_BestBelow h3 x2.1 a1 c1 (H6.rd 2 rfl) x2.2 a2 c2 (H6.rd 3 rfl) _ _ hx5) (by kernel_rfl) (fun v4 h4 hp4 => ?_)
    obtain ⟨a5, c5, rfl, H7⟩ := hp4
    have H8 : Hold h h4 [own cd2 a5 x5.1.length c5 x5.1, own cd2 a4 x4.1.length c4 x4.1, own cd2 a3 x3.1.length c3 x3.1, own cd23 a1 x2.1.length c1 x2.1, own cd2 a2 x2.2.length c2 x2.2] := H6.call H7 rfl
    refine Run_b [.tuple #[.slice a5 x5.1.length c5, .int .i64 x5.2], .slice a5 x5.1.length c5, .int .i64 x5.2, .slice a5 x5.1.length c5, .int .i64 x5.2] 3 _ (by kernel_rfl) (fun w => by kernel_rfl) ?_
    refine Run_nil (by kernel_rfl) ?_
    refine Run_keep [3, 4, 5, 6, 7, 8, 9, 10] (L' := [(3, .slice a1 x2.1.length c1), (4, .slice a2 x2.2.length c2), (5, .slice a3 x3.1.length c3), (6, .int .i64 x3.2), (7, .slice a4 x4.1.length c4), (8, .int .i64 x4.2), (9, .slice a5 x5.1.length c5), (10, .int .i64 x5.2)]) (by kernel_rfl) ?_
    refine Run_seq ?_
    refine Run_ops ?_
    refine Run_b [.slice a1 x2.1.length c1, .slice a2 x2.2.length c2] 0 _ (by kernel_rfl) (fun w => by kernel_rfl) ?_
    obtain ⟨x6, hx6, hF⟩ := M.bind_some hF
    refine Run_E (by kernel_rfl) ?_
    refine E_call (f := 27) (args := #[.slice a1 x2.1.length c1, .slice a2 x2.2.length c2]) (w_spec_BestBelow h4 x2.1 a1 c1 (H8.rd 3 rfl) x2.2 a2 c2 (H8.rd 4 rfl) _ _ hx6) (by kernel_rfl) (fun v5 h5 hp5 => ?_)
    obtain ⟨a6, c6, rfl, H9⟩ := hp5
    have H10 : Hold h h5 [own cd2 a6 x6.1.length c6 x6.1, own cd2 a5 x5.1.length c5 x5.1, own cd2 a4 x4.1.length c4 x4.1, own cd2 a3 x3.1.length c3 x3.1, own cd23 a1 x2.1.length c1 x2.1, own cd2 a2 x2.2.length c2 x2.2] := H8.call H9 rfl
    refine Run_b [.tuple #[.slice a6 x6.1.length c6, .int .i64 x6.2], .slice a6 x6.1.length c6, .int .i64 x6.2, .slice a6 x6.1.length c6, .int .i64 x6.2] 3 _ (by kernel_rfl) (fun w => by kernel_rfl) ?_
    refine Run_nil (by kernel_rfl) ?_
    refine Run_keep [3, 4, 5, 6, 7, 8, 9, 10, 11, 12] (L' := [(3, .slice a1 x2.1.length c1), (4, .slice a2 x2.2.length c2), (5, .slice a3 x3.1.length c3), (6, .int .i64 x3.2), (7, .slice a4 x4.1.length c4), (8, .int .i64 x4.2), (9, .slice a5 x5.1.length c5), (10, .int .i64 x5.2), (11, .slice a6 x6.1.length c6), (12, .int .i64 x6.2)]) (by kernel_rfl) ?_
    refine Run_seq ?_
    refine Run_ops ?_
    refine Run_b [.slice a1 x2.1.length c1, .slice a2 x2.2.length c2] 0 _ (by kernel_rfl) (fun w => by kernel_rfl) ?_
    obtain ⟨x7, hx7, hF⟩ := M.bind_some hF
    refine Run_E (by kernel_rfl) ?_
    refine E_call (f := 30) (args := #[.slice a1 x2.1.length c1, .slice a2 x2.2.length c2]) (w_impl_MissedRows h5 x2.1 a1 c1 (H10.rd 4 rfl) x2.2 a2 c2 (H10.rd 5 rfl) _ _ hx7) (by kernel_rfl) (fun v6 h6 hp6 => ?_)
    obtain ⟨a7, c7, rfl, H11⟩ := hp6
    have H12 : Hold h h6 [own cd2 a7 x7.1.length c7 x7.1, own cd2 a6 x6.1.length c6 x6.1, own cd2 a5 x5.1.length c5 x5.1, own cd2 a4 x4.1.length c4 x4.1, own cd2 a3 x3.1.length c3 x3.1, own cd23 a1 x2.1.length c1 x2.1, own cd2 a2 x2.2.length c2 x2.2] := H10.call H11 rfl
    refine Run_b [.tuple #[.slice a7 x7.1.length c7, .int .i64 x7.2], .slice a7 x7.1.length c7, .int .i64 x7.2, .slice a7 x7.1.length c7, .int .i64 x7.2] 3 _ (by kernel_rfl) (fun w => by kernel_rfl) ?_
    refine Run_nil (by kernel_rfl) ?_
    refine Run_keep [3, 4, 5, 6, 7, 8, 9, 10, 11, 12, 13, 14] (L' := [(3, .slice a1 x2.1.length c1), (4, .slice a2 x2.2.length c2), (5, .slice a3 x3.1.length c3), (6, .int .i64 x3.2), (7, .slice a4 x4.1.length c4), (8, .int .i64 x4.2), (9, .slice a5 x5.1.length c5), (10, .int .i64 x5.2), (11, .slice a6 x6.1.length c6), (12, .int .i64 x6.2), (13, .slice a7 x7.1.length c7), (14, .int .i64 x7.2)]) (by kernel_rfl) ?_
    refine Run_seq ?_
    refine Run_ops ?_
    refine Run_b [.slice a1 x2.1.length c1, .slice a2 x2.2.length c2] 0 _ (by kernel_rfl) (fun w => by kernel_rfl) ?_
    obtain ⟨x8, hx8, hF⟩ := M.bind_some hF
    refine Run_E (by kernel_rfl) ?_
    refine E_call (f := 29) (args := #[.slice a1 x2.1.length c1, .slice a2 x2.2.length c2]) (w_spec_MissedRows h6 x2.1 a1 c1 (H12.rd 5 rfl) x2.2 a2 c2 (H12.rd 6 rfl) _ _ hx8) (by kernel_rfl) (fun v7 h7 hp7 => ?_)
    obtain ⟨a8, c8, rfl, H13⟩ := hp7
    have H14 : Hold h h7 [own cd2 a8 x8.1.length c8 x8.1, own cd2 a7 x7.1.length c7 x7.1, own cd2 a6 x6.1.length c6 x6.1, own cd2 a5 x5.1.length c5 x5.1, own cd2 a4 x4.1.length c4 x4.1, own cd2 a3 x3.1.length c3 x3.1, own cd23 a1 x2.1.length c1 x2.1, own cd2 a2 x2.2.length c2 x2.2] := H12.call H13 rfl
    refine Run_b [.tuple #[.slice a8 x8.1.length c8, .int .i64 x8.2], .slice a8 x8.1.length c8, .int .i64 x8.2, .slice a8 x8.1.length c8, .int .i64 x8.2] 3 _ (by kernel_rfl) (fun w => by kernel_rfl) ?_
    refine Run_nil (by kernel_rfl) ?_
    refine Run_keep [3, 4, 5, 6, 7, 8, 9, 10, 11, 12, 13, 14, 15, 16] (L' := [(3, .slice a1 x2.1.length c1), (4, .slice a2 x2.2.length c2), (5, .slice a3 x3.1.length c3), (6, .int .i64 x3.2), (7, .slice a4 x4.1.length c4), (8, .int .i64 x4.2), (9, .slice a5 x5.1.length c5), (10, .int .i64 x5.2), (11, .slice a6 x6.1.length c6), (12, .int .i64 x6.2), (13, .slice a7 x7.1.length c7), (14, .int .i64 x7.2), (15, .slice a8 x8.1.length c8), (16, .int .i64 x8.2)]) (by kernel_rfl) ?_
    refine Run_seq ?_
    obtain ⟨x9, hx9, hF⟩ := M.bind_some hF
    refine Run_regC (j := 8) (C := fun x => Hold h x [own cd2 a8 x8.1.length c8 x8.1, own cd2 a7 x7.1.length c7 x7.1, own cd2 a6 x6.1.length c6 x6.1, own cd2 a5 x5.1.length c5 x5.1, own cd2 a4 x4.1.length c4 x4.1, own cd2 a3 x3.1.length c3 x3.1, own cd23 a1 x2.1.length c1 x2.1, own cd2 a2 x2.2.length c2 x2.2]) (by kernel_rfl) H14 (L' := [(3, .slice a1 x2.1.length c1), (4, .slice a2 x2.2.length c2), (5, .slice a3 x3.1.length c3), (6, .int .i64 x3.2), (7, .slice a4 x4.1.length c4), (8, .int .i64 x4.2), (9, .slice a5 x5.1.length c5), (10, .int .i64 x5.2), (11, .slice a6 x6.1.length c6), (12, .int .i64 x6.2), (13, .slice a7 x7.1.length c7), (14, .int .i64 x7.2), (15, .slice a8 x8.1.length c8), (16, .int .i64 x8.2), (17, .int .i64 x9.1), (18, .int .i64 x9.2)]) ?_ (fun h8 H15 => ?_)
    · refine QRun_b [.slice a1 x2.1.length c1, .slice a2 x2.2.length c2] 0 _ (by kernel_rfl) (fun w => by kernel_rfl) ?_
      refine QRun_y (.tuple #[.int .i64 x9.1, .int .i64 x9.2]) (by kernel_rfl) (Y_call (f := 26) (args := #[.slice a1 x2.1.length c1, .slice a2 x2.2.length c2]) (v := .tuple #[.int .i64 x9.1, .int .i64 x9.2]) (by kernel_rfl) fun hx Hx => (w_impl_LargestGap hx x2.1 a1 c1 (Hx.rd 6 rfl) x2.2 a2 c2 (Hx.rd 7 rfl) _ _ hx9).mono fun _ _ ⟨e, H'⟩ => ⟨e, Hx.call H' rfl⟩) ?_
      refine QRun_b [.tuple #[.int .i64 x9.1, .int .i64 x9.2], .int .i64 x9.1, .int .i64 x9.2, .int .i64 x9.1, .int .i64 x9.2] 3 _ (by kernel_rfl) (fun w => by kernel_rfl) ?_
      exact QRun_done [3, 4, 5, 6, 7, 8, 9, 10, 11, 12, 13, 14, 15, 16, 17, 18] (by kernel_rfl) (by kernel_rfl)
    have H16 : Hold h h8 [own cd2 a8 x8.1.length c8 x8.1, own cd2 a7 x7.1.length c7 x7.1, own cd2 a6 x6.1.length c6 x6.1, own cd2 a5 x5.1.length c5 x5.1, own cd2 a4 x4.1.length c4 x4.1, own cd2 a3 x3.1.length c3 x3.1, own cd23 a1 x2.1.length c1 x2.1, own cd2 a2 x2.2.length c2 x2.2] := H15
    refine Run_seq ?_
    obtain ⟨x10, hx10, hF⟩ := M.bind_some hF
    refine Run_regC (j := 8) (C := fun x => Hold h x [own cd2 a8 x8.1.length c8 x8.1, own cd2 a7 x7.1.length c7 x7.1, own cd2 a6 x6.1.length c6 x6.1, own cd2 a5 x5.1.length c5 x5.1, own cd2 a4 x4.1.length c4 x4.1, own cd2 a3 x3.1.length c3 x3.1, own cd23 a1 x2.1.length c1 x2.1, own cd2 a2 x2.2.length c2 x2.2]) (by kernel_rfl) H16 (L' := [(3, .slice a1 x2.1.length c1), (4, .slice a2 x2.2.length c2), (5, .slice a3 x3.1.length c3), (6, .int .i64 x3.2), (7, .slice a4 x4.1.length c4), (8, .int .i64 x4.2), (9, .slice a5 x5.1.length c5), (10, .int .i64 x5.2), (11, .slice a6 x6.1.length c6), (12, .int .i64 x6.2), (13, .slice a7 x7.1.length c7), (14, .int .i64 x7.2), (15, .slice a8 x8.1.length c8), (16, .int .i64 x8.2), (17, .int .i64 x9.1), (18, .int .i64 x9.2), (19, .int .i64 x10.1), (20, .int .i64 x10.2)]) ?_ (fun h9 H17 => ?_)
    · refine QRun_b [.slice a1 x2.1.length c1, .slice a2 x2.2.length c2] 0 _ (by kernel_rfl) (fun w => by kernel_rfl) ?_
      refine QRun_y (.tuple #[.int .i64 x10.1, .int .i64 x10.2]) (by kernel_rfl) (Y_call (f := 25) (args := #[.slice a1 x2.1.length c1, .slice a2 x2.2.length c2]) (v := .tuple #[.int .i64 x10.1, .int .i64 x10.2]) (by kernel_rfl) fun hx Hx => (w_spec_LargestGap hx x2.1 a1 c1 (Hx.rd 6 rfl) x2.2 a2 c2 (Hx.rd 7 rfl) _ _ hx10).mono fun _ _ ⟨e, H'⟩ => ⟨e, Hx.call H' rfl⟩) ?_
      refine QRun_b [.tuple #[.int .i64 x10.1, .int .i64 x10.2], .int .i64 x10.1, .int .i64 x10.2, .int .i64 x10.1, .int .i64 x10.2] 3 _ (by kernel_rfl) (fun w => by kernel_rfl) ?_
      exact QRun_done [3, 4, 5, 6, 7, 8, 9, 10, 11, 12, 13, 14, 15, 16, 17, 18, 19, 20] (by kernel_rfl) (by kernel_rfl)
    have H18 : Hold h h9 [own cd2 a8 x8.1.length c8 x8.1, own cd2 a7 x7.1.length c7 x7.1, own cd2 a6 x6.1.length c6 x6.1, own cd2 a5 x5.1.length c5 x5.1, own cd2 a4 x4.1.length c4 x4.1, own cd2 a3 x3.1.length c3 x3.1, own cd23 a1 x2.1.length c1 x2.1, own cd2 a2 x2.2.length c2 x2.2] := H17
    refine Run_seq ?_
    refine Run_seq ?_
    obtain ⟨x11, gx11, hF⟩ := M.bind_some hF
    obtain ⟨x14, gx14, hF⟩ := M.bind_some hF
    obtain ⟨x17, gx17, hF⟩ := M.bind_some hF
    refine Run_reg 41 (by kernel_rfl) (L' := [(3, .slice a1 x2.1.length c1), (4, .slice a2 x2.2.length c2), (5, .slice a3 x3.1.length c3), (6, .int .i64 x3.2), (9, .slice a5 x5.1.length c5), (10, .int .i64 x5.2), (17, .int .i64 x9.1), (18, .int .i64 x9.2), (119, .bool ((x17 || (x9.2 != x10.2)) || (x9.1 != x10.1)))]) ?_ ?_
    · refine QRun_b [.int .i64 x3.2, .int .i64 x4.2, .bool (x3.2 != x4.2)] 0 _ (by kernel_rfl) (fun w => by kernel_rfl) ?_
      refine QRun_seq 9 [(3, .slice a1 x2.1.length c1), (4, .slice a2 x2.2.length c2), (5, .slice a3 x3.1.length c3), (6, .int .i64 x3.2), (9, .slice a5 x5.1.length c5), (10, .int .i64 x5.2), (11, .slice a6 x6.1.length c6), (12, .int .i64 x6.2), (13, .slice a7 x7.1.length c7), (14, .int .i64 x7.2), (15, .slice a8 x8.1.length c8), (16, .int .i64 x8.2), (17, .int .i64 x9.1), (18, .int .i64 x9.2), (19, .int .i64 x10.1), (20, .int .i64 x10.2), (87, .bool x11)] ?_ ?_
      · rcases Bool.eq_false_or_eq_true (x3.2 != x4.2) with hb2 | hb2
        · refine QRun_bool (x3.2 != x4.2) true (by kernel_rfl) (fun w => by kernel_rfl) hb2 ?_
          have gx11 := M.ret_some ((M.ite_some gx11).1 hb2)
          refine QRun_n (by kernel_rfl) ?_
          refine QRun_n (by kernel_rfl) ?_
          refine QRun_n (by kernel_rfl) ?_
          refine QRun_n (by kernel_rfl) ?_
          refine QRun_bool true x11 (by kernel_rfl) (fun w => by kernel_rfl) gx11 ?_
          exact QRun_done [3, 4, 5, 6, 9, 10, 11, 12, 13, 14, 15, 16, 17, 18, 19, 20, 87] (by kernel_rfl) (by kernel_rfl)
        · refine QRun_bool (x3.2 != x4.2) false (by kernel_rfl) (fun w => by kernel_rfl) hb2 ?_
          have gx11 := (M.ite_some gx11).2 hb2
          obtain ⟨x12, hx11, gx11⟩ := M.bind_some gx11
          have gx11 := M.ret_some gx11
          refine QRun_b [.slice a3 x3.1.length c3, .slice a4 x4.1.length c4] 4 _ (by kernel_rfl) (fun w => by kernel_rfl) ?_
          refine QRun_y (.bool x12) (by kernel_rfl) (Y_callq (f := 47) (args := #[.slice a3 x3.1.length c3, .slice a4 x4.1.length c4]) (v := .bool x12) (by kernel_rfl) (w_laws_likeInts h9 x3.1 a3 c3 (H18.rd 5 rfl) x4.1 a4 c4 (H18.rd 4 rfl) _ _ hx11)) ?_
          refine QRun_b [.bool (!x12)] 7 _ (by kernel_rfl) (fun w => by kernel_rfl) ?_
          refine QRun_bool (!x12) x11 (by kernel_rfl) (fun w => by kernel_rfl) gx11 ?_
          exact QRun_done [3, 4, 5, 6, 9, 10, 11, 12, 13, 14, 15, 16, 17, 18, 19, 20, 87] (by kernel_rfl) (by kernel_rfl)
      refine QRun_seq 14 [(3, .slice a1 x2.1.length c1), (4, .slice a2 x2.2.length c2), (5, .slice a3 x3.1.length c3), (6, .int .i64 x3.2), (9, .slice a5 x5.1.length c5), (10, .int .i64 x5.2), (11, .slice a6 x6.1.length c6), (13, .slice a7 x7.1.length c7), (14, .int .i64 x7.2), (15, .slice a8 x8.1.length c8), (16, .int .i64 x8.2), (17, .int .i64 x9.1), (18, .int .i64 x9.2), (19, .int .i64 x10.1), (20, .int .i64 x10.2), (92, .bool (x11 || (x5.2 != x6.2)))] ?_ ?_
      · rcases Bool.eq_false_or_eq_true x11 with hb3 | hb3
        · refine QRun_bool x11 true (by kernel_rfl) (fun w => by kernel_rfl) hb3 ?_
          refine QRun_n (by kernel_rfl) ?_
          refine QRun_n (by kernel_rfl) ?_
          refine QRun_n (by kernel_rfl) ?_
          refine QRun_bool true (x11 || (x5.2 != x6.2)) (by kernel_rfl) (fun w => by kernel_rfl) (by rw [hb3]; rfl) ?_
          exact QRun_done [3, 4, 5, 6, 9, 10, 11, 13, 14, 15, 16, 17, 18, 19, 20, 92] (by kernel_rfl) (by kernel_rfl)
        · refine QRun_bool x11 false (by kernel_rfl) (fun w => by kernel_rfl) hb3 ?_
          refine QRun_b [.int .i64 x5.2, .int .i64 x6.2, .bool (x5.2 != x6.2)] 10 _ (by kernel_rfl) (fun w => by kernel_rfl) ?_
          refine QRun_bool (x5.2 != x6.2) (x11 || (x5.2 != x6.2)) (by kernel_rfl) (fun w => by kernel_rfl) (by rw [hb3]; rfl) ?_
          exact QRun_done [3, 4, 5, 6, 9, 10, 11, 13, 14, 15, 16, 17, 18, 19, 20, 92] (by kernel_rfl) (by kernel_rfl)
      refine QRun_seq 20 [(3, .slice a1 x2.1.length c1), (4, .slice a2 x2.2.length c2), (5, .slice a3 x3.1.length c3), (6, .int .i64 x3.2), (9, .slice a5 x5.1.length c5), (10, .int .i64 x5.2), (13, .slice a7 x7.1.length c7), (14, .int .i64 x7.2), (15, .slice a8 x8.1.length c8), (16, .int .i64 x8.2), (17, .int .i64 x9.1), (18, .int .i64 x9.2), (19, .int .i64 x10.1), (20, .int .i64 x10.2), (98, .bool x14)] ?_ ?_
      · rcases Bool.eq_false_or_eq_true (x11 || (x5.2 != x6.2)) with hb4 | hb4
        · refine QRun_bool (x11 || (x5.2 != x6.2)) true (by kernel_rfl) (fun w => by kernel_rfl) hb4 ?_
          have gx14 := M.ret_some ((M.ite_some gx14).1 hb4)
          refine QRun_n (by kernel_rfl) ?_
          refine QRun_n (by kernel_rfl) ?_
          refine QRun_n (by kernel_rfl) ?_
          refine QRun_n (by kernel_rfl) ?_
          refine QRun_bool true x14 (by kernel_rfl) (fun w => by kernel_rfl) gx14 ?_
          exact QRun_done [3, 4, 5, 6, 9, 10, 13, 14, 15, 16, 17, 18, 19, 20, 98] (by kernel_rfl) (by kernel_rfl)
        · refine QRun_bool (x11 || (x5.2 != x6.2)) false (by kernel_rfl) (fun w => by kernel_rfl) hb4 ?_
          have gx14 := (M.ite_some gx14).2 hb4
          obtain ⟨x15, hx12, gx14⟩ := M.bind_some gx14
          have gx14 := M.ret_some gx14
          refine QRun_b [.slice a5 x5.1.length c5, .slice a6 x6.1.length c6] 15 _ (by kernel_rfl) (fun w => by kernel_rfl) ?_
          refine QRun_y (.bool x15) (by kernel_rfl) (Y_callq (f := 47) (args := #[.slice a5 x5.1.length c5, .slice a6 x6.1.length c6]) (v := .bool x15) (by kernel_rfl) (w_laws_likeInts h9 x5.1 a5 c5 (H18.rd 3 rfl) x6.1 a6 c6 (H18.rd 2 rfl) _ _ hx12)) ?_
          refine QRun_b [.bool (!x15)] 18 _ (by kernel_rfl) (fun w => by kernel_rfl) ?_
          refine QRun_bool (!x15) x14 (by kernel_rfl) (fun w => by kernel_rfl) gx14 ?_
          exact QRun_done [3, 4, 5, 6, 9, 10, 13, 14, 15, 16, 17, 18, 19, 20, 98] (by kernel_rfl) (by kernel_rfl)
      refine QRun_seq 25 [(3, .slice a1 x2.1.length c1), (4, .slice a2 x2.2.length c2), (5, .slice a3 x3.1.length c3), (6, .int .i64 x3.2), (9, .slice a5 x5.1.length c5), (10, .int .i64 x5.2), (13, .slice a7 x7.1.length c7), (15, .slice a8 x8.1.length c8), (17, .int .i64 x9.1), (18, .int .i64 x9.2), (19, .int .i64 x10.1), (20, .int .i64 x10.2), (103, .bool (x14 || (x7.2 != x8.2)))] ?_ ?_
      · rcases Bool.eq_false_or_eq_true x14 with hb5 | hb5
        · refine QRun_bool x14 true (by kernel_rfl) (fun w => by kernel_rfl) hb5 ?_
          refine QRun_n (by kernel_rfl) ?_
          refine QRun_n (by kernel_rfl) ?_
          refine QRun_n (by kernel_rfl) ?_
          refine QRun_bool true (x14 || (x7.2 != x8.2)) (by kernel_rfl) (fun w => by kernel_rfl) (by rw [hb5]; rfl) ?_
          exact QRun_done [3, 4, 5, 6, 9, 10, 13, 15, 17, 18, 19, 20, 103] (by kernel_rfl) (by kernel_rfl)
        · refine QRun_bool x14 false (by kernel_rfl) (fun w => by kernel_rfl) hb5 ?_
          refine QRun_b [.int .i64 x7.2, .int .i64 x8.2, .bool (x7.2 != x8.2)] 21 _ (by kernel_rfl) (fun w => by kernel_rfl) ?_
          refine QRun_bool (x7.2 != x8.2) (x14 || (x7.2 != x8.2)) (by kernel_rfl) (fun w => by kernel_rfl) (by rw [hb5]; rfl) ?_
          exact QRun_done [3, 4, 5, 6, 9, 10, 13, 15, 17, 18, 19, 20, 103] (by kernel_rfl) (by kernel_rfl)
      refine QRun_seq 31 [(3, .slice a1 x2.1.length c1), (4, .slice a2 x2.2.length c2), (5, .slice a3 x3.1.length c3), (6, .int .i64 x3.2), (9, .slice a5 x5.1.length c5), (10, .int .i64 x5.2), (17, .int .i64 x9.1), (18, .int .i64 x9.2), (19, .int .i64 x10.1), (20, .int .i64 x10.2), (109, .bool x17)] ?_ ?_
      · rcases Bool.eq_false_or_eq_true (x14 || (x7.2 != x8.2)) with hb6 | hb6
        · refine QRun_bool (x14 || (x7.2 != x8.2)) true (by kernel_rfl) (fun w => by kernel_rfl) hb6 ?_
          have gx17 := M.ret_some ((M.ite_some gx17).1 hb6)
          refine QRun_n (by kernel_rfl) ?_
          refine QRun_n (by kernel_rfl) ?_
          refine QRun_n (by kernel_rfl) ?_
          refine QRun_n (by kernel_rfl) ?_
          refine QRun_bool true x17 (by kernel_rfl) (fun w => by kernel_rfl) gx17 ?_
          exact QRun_done [3, 4, 5, 6, 9, 10, 17, 18, 19, 20, 109] (by kernel_rfl) (by kernel_rfl)
        · refine QRun_bool (x14 || (x7.2 != x8.2)) false (by kernel_rfl) (fun w => by kernel_rfl) hb6 ?_
          have gx17 := (M.ite_some gx17).2 hb6
          obtain ⟨x18, hx13, gx17⟩ := M.bind_some gx17
          have gx17 := M.ret_some gx17
          refine QRun_b [.slice a7 x7.1.length c7, .slice a8 x8.1.length c8] 26 _ (by kernel_rfl) (fun w => by kernel_rfl) ?_
          refine QRun_y (.bool x18) (by kernel_rfl) (Y_callq (f := 47) (args := #[.slice a7 x7.1.length c7, .slice a8 x8.1.length c8]) (v := .bool x18) (by kernel_rfl) (w_laws_likeInts h9 x7.1 a7 c7 (H18.rd 1 rfl) x8.1 a8 c8 (H18.rd 0 rfl) _ _ hx13)) ?_
          refine QRun_b [.bool (!x18)] 29 _ (by kernel_rfl) (fun w => by kernel_rfl) ?_
          refine QRun_bool (!x18) x17 (by kernel_rfl) (fun w => by kernel_rfl) gx17 ?_
          exact QRun_done [3, 4, 5, 6, 9, 10, 17, 18, 19, 20, 109] (by kernel_rfl) (by kernel_rfl)
      refine QRun_seq 36 [(3, .slice a1 x2.1.length c1), (4, .slice a2 x2.2.length c2), (5, .slice a3 x3.1.length c3), (6, .int .i64 x3.2), (9, .slice a5 x5.1.length c5), (10, .int .i64 x5.2), (17, .int .i64 x9.1), (18, .int .i64 x9.2), (19, .int .i64 x10.1), (114, .bool (x17 || (x9.2 != x10.2)))] ?_ ?_
      · rcases Bool.eq_false_or_eq_true x17 with hb7 | hb7
        · refine QRun_bool x17 true (by kernel_rfl) (fun w => by kernel_rfl) hb7 ?_
          refine QRun_n (by kernel_rfl) ?_
          refine QRun_n (by kernel_rfl) ?_
          refine QRun_n (by kernel_rfl) ?_
          refine QRun_bool true (x17 || (x9.2 != x10.2)) (by kernel_rfl) (fun w => by kernel_rfl) (by rw [hb7]; rfl) ?_
          exact QRun_done [3, 4, 5, 6, 9, 10, 17, 18, 19, 114] (by kernel_rfl) (by kernel_rfl)
        · refine QRun_bool x17 false (by kernel_rfl) (fun w => by kernel_rfl) hb7 ?_
          refine QRun_b [.int .i64 x9.2, .int .i64 x10.2, .bool (x9.2 != x10.2)] 32 _ (by kernel_rfl) (fun w => by kernel_rfl) ?_
          refine QRun_bool (x9.2 != x10.2) (x17 || (x9.2 != x10.2)) (by kernel_rfl) (fun w => by kernel_rfl) (by rw [hb7]; rfl) ?_
          exact QRun_done [3, 4, 5, 6, 9, 10, 17, 18, 19, 114] (by kernel_rfl) (by kernel_rfl)
      refine QRun_seq 41 [(3, .slice a1 x2.1.length c1), (4, .slice a2 x2.2.length c2), (5, .slice a3 x3.1.length c3), (6, .int .i64 x3.2), (9, .slice a5 x5.1.length c5), (10, .int .i64 x5.2), (17, .int .i64 x9.1), (18, .int .i64 x9.2), (119, .bool ((x17 || (x9.2 != x10.2)) || (x9.1 != x10.1)))] ?_ ?_
      · rcases Bool.eq_false_or_eq_true (x17 || (x9.2 != x10.2)) with hb8 | hb8
        · refine QRun_bool (x17 || (x9.2 != x10.2)) true (by kernel_rfl) (fun w => by kernel_rfl) hb8 ?_
          refine QRun_n (by kernel_rfl) ?_
          refine QRun_n (by kernel_rfl) ?_
          refine QRun_n (by kernel_rfl) ?_
          refine QRun_bool true ((x17 || (x9.2 != x10.2)) || (x9.1 != x10.1)) (by kernel_rfl) (fun w => by kernel_rfl) (by rw [hb8]; rfl) ?_
          exact QRun_done [3, 4, 5, 6, 9, 10, 17, 18, 119] (by kernel_rfl) (by kernel_rfl)
        · refine QRun_bool (x17 || (x9.2 != x10.2)) false (by kernel_rfl) (fun w => by kernel_rfl) hb8 ?_
          refine QRun_b [.int .i64 x9.1, .int .i64 x10.1, .bool (x9.1 != x10.1)] 37 _ (by kernel_rfl) (fun w => by kernel_rfl) ?_
          refine QRun_bool (x9.1 != x10.1) ((x17 || (x9.2 != x10.2)) || (x9.1 != x10.1)) (by kernel_rfl) (fun w => by kernel_rfl) (by rw [hb8]; rfl) ?_
          exact QRun_done [3, 4, 5, 6, 9, 10, 17, 18, 119] (by kernel_rfl) (by kernel_rfl)
      exact QRun_done [3, 4, 5, 6, 9, 10, 17, 18, 119] (by kernel_rfl) (by kernel_rfl)
    refine Run_cond (b := (x17 || (x9.2 != x10.2)) || (x9.1 != x10.1)) (by kernel_rfl) (fun hb9 => ?_) (fun hb9 => ?_)
    · have hF := (M.ite_some hF).1 hb9
      refine Run_seq ?_
      refine Run_reg 1 (by kernel_rfl) (L' := [(2, .bool false)]) ?_ ?_
      · refine QRun_b [.bool false] 0 _ (by kernel_rfl) (fun w => by kernel_rfl) ?_
        exact QRun_done [2] (by kernel_rfl) (by kernel_rfl)
      have hF := M.ret_some hF
      subst hF
      have H19 : Hold h h9 [] := H18.pick [] (by kernel_rfl)
      exact Run_ret1 rfl (ResV_tmp (v := .bool false) (by kernel_rfl)) ⟨rfl, H19⟩
    · have hF := (M.ite_some hF).2 hb9
      refine Run_skip ?_
      refine Run_seq ?_
      refine Run_seq ?_
      obtain ⟨x22, gx22, hF⟩ := M.bind_some hF
      refine Run_reg 16 (by kernel_rfl) (L' := [(3, .slice a1 x2.1.length c1), (4, .slice a2 x2.2.length c2), (5, .slice a3 x3.1.length c3), (6, .int .i64 x3.2), (135, .bool x22)]) ?_ ?_
      · refine QRun_b [.int .i64 x9.2, .bool (x9.2 == 0)] 0 _ (by kernel_rfl) (fun w => by kernel_rfl) ?_
        refine QRun_seq 6 [(3, .slice a1 x2.1.length c1), (4, .slice a2 x2.2.length c2), (5, .slice a3 x3.1.length c3), (6, .int .i64 x3.2), (9, .slice a5 x5.1.length c5), (10, .int .i64 x5.2), (125, .bool ((x9.2 == 0) && (decide (x9.1 < 0))))] ?_ ?_
        · rcases Bool.eq_false_or_eq_true (x9.2 == 0) with hb10 | hb10
          · refine QRun_bool (x9.2 == 0) true (by kernel_rfl) (fun w => by kernel_rfl) hb10 ?_
            refine QRun_b [.int .i64 x9.1, .bool (decide (x9.1 < 0))] 3 _ (by kernel_rfl) (fun w => by kernel_rfl) ?_
            refine QRun_bool (decide (x9.1 < 0)) ((x9.2 == 0) && (decide (x9.1 < 0))) (by kernel_rfl) (fun w => by kernel_rfl) (by rw [hb10]; rfl) ?_
            exact QRun_done [3, 4, 5, 6, 9, 10, 125] (by kernel_rfl) (by kernel_rfl)
          · refine QRun_bool (x9.2 == 0) false (by kernel_rfl) (fun w => by kernel_rfl) hb10 ?_
            refine QRun_n (by kernel_rfl) ?_
            refine QRun_n (by kernel_rfl) ?_
            refine QRun_bool false ((x9.2 == 0) && (decide (x9.1 < 0))) (by kernel_rfl) (fun w => by kernel_rfl) (by rw [hb10]; rfl) ?_
            exact QRun_done [3, 4, 5, 6, 9, 10, 125] (by kernel_rfl) (by kernel_rfl)
        refine QRun_seq 16 [(3, .slice a1 x2.1.length c1), (4, .slice a2 x2.2.length c2), (5, .slice a3 x3.1.length c3), (6, .int .i64 x3.2), (135, .bool x22)] ?_ ?_
        · rcases Bool.eq_false_or_eq_true ((x9.2 == 0) && (decide (x9.1 < 0))) with hb11 | hb11
          · refine QRun_bool ((x9.2 == 0) && (decide (x9.1 < 0))) true (by kernel_rfl) (fun w => by kernel_rfl) hb11 ?_
            have gx22 := M.ret_some ((M.ite_some gx22).1 hb11)
            refine QRun_n (by kernel_rfl) ?_
            refine QRun_n (by kernel_rfl) ?_
            refine QRun_n (by kernel_rfl) ?_
            refine QRun_n (by kernel_rfl) ?_
            refine QRun_n (by kernel_rfl) ?_
            refine QRun_n (by kernel_rfl) ?_
            refine QRun_n (by kernel_rfl) ?_
            refine QRun_n (by kernel_rfl) ?_
            refine QRun_bool true x22 (by kernel_rfl) (fun w => by kernel_rfl) gx22 ?_
            exact QRun_done [3, 4, 5, 6, 135] (by kernel_rfl) (by kernel_rfl)
          · refine QRun_bool ((x9.2 == 0) && (decide (x9.1 < 0))) false (by kernel_rfl) (fun w => by kernel_rfl) hb11 ?_
            have gx22 := (M.ite_some gx22).2 hb11
            obtain ⟨x23, gx23, gx22⟩ := M.bind_some gx22
            have gx22 := M.ret_some gx22
            refine QRun_b [.int .i64 x5.2, .bool (x5.2 == 0)] 7 _ (by kernel_rfl) (fun w => by kernel_rfl) ?_
            refine QRun_seq 15 [(3, .slice a1 x2.1.length c1), (4, .slice a2 x2.2.length c2), (5, .slice a3 x3.1.length c3), (6, .int .i64 x3.2), (126, .bool false), (134, .bool x23)] ?_ ?_
            · rcases Bool.eq_false_or_eq_true (x5.2 == 0) with hb12 | hb12
              · refine QRun_bool (x5.2 == 0) true (by kernel_rfl) (fun w => by kernel_rfl) hb12 ?_
                have gx23 := (M.ite_some gx23).1 hb12
                obtain ⟨x24, hx14, gx23⟩ := M.bind_some gx23
                have gx23 := M.ret_some gx23
                refine QRun_b [.slice a5 x5.1.length c5, .slice a2 x2.2.length c2] 10 _ (by kernel_rfl) (fun w => by kernel_rfl) ?_
                refine QRun_y (.bool x24) (by kernel_rfl) (Y_callq (f := 45) (args := #[.slice a5 x5.1.length c5, .slice a2 x2.2.length c2]) (v := .bool x24) (by kernel_rfl) (w_laws_below9 h9 x5.1 a5 c5 (H18.rd 3 rfl) x2.2 a2 c2 (H18.rd 7 rfl) _ _ hx14)) ?_
                refine QRun_b [.bool (!x24)] 13 _ (by kernel_rfl) (fun w => by kernel_rfl) ?_
                refine QRun_bool (!x24) x23 (by kernel_rfl) (fun w => by kernel_rfl) gx23 ?_
                exact QRun_done [3, 4, 5, 6, 126, 134] (by kernel_rfl) (by kernel_rfl)
              · refine QRun_bool (x5.2 == 0) false (by kernel_rfl) (fun w => by kernel_rfl) hb12 ?_
                have gx23 := M.ret_some ((M.ite_some gx23).2 hb12)
                refine QRun_n (by kernel_rfl) ?_
                refine QRun_n (by kernel_rfl) ?_
                refine QRun_n (by kernel_rfl) ?_
                refine QRun_n (by kernel_rfl) ?_
                refine QRun_bool false x23 (by kernel_rfl) (fun w => by kernel_rfl) gx23 ?_
                exact QRun_done [3, 4, 5, 6, 126, 134] (by kernel_rfl) (by kernel_rfl)
            refine QRun_bool x23 x22 (by kernel_rfl) (fun w => by kernel_rfl) gx22 ?_
            exact QRun_done [3, 4, 5, 6, 135] (by kernel_rfl) (by kernel_rfl)
        exact QRun_done [3, 4, 5, 6, 135] (by kernel_rfl) (by kernel_rfl)
      refine Run_cond (b := x22) (by kernel_rfl) (fun hb13 => ?_) (fun hb13 => ?_)
      · have hF := (M.ite_some hF).1 hb13
        refine Run_seq ?_
        refine Run_reg 1 (by kernel_rfl) (L' := [(2, .bool false)]) ?_ ?_
        · refine QRun_b [.bool false] 0 _ (by kernel_rfl) (fun w => by kernel_rfl) ?_
          exact QRun_done [2] (by kernel_rfl) (by kernel_rfl)
        have hF := M.ret_some hF
        subst hF
        have H20 : Hold h h9 [] := H18.pick [] (by kernel_rfl)
        exact Run_ret1 rfl (ResV_tmp (v := .bool false) (by kernel_rfl)) ⟨rfl, H20⟩
      · have hF := (M.ite_some hF).2 hb13
        refine Run_skip ?_
        refine Run_seq ?_
        refine Run_seq ?_
        refine Run_reg 2 (by kernel_rfl) (L' := [(3, .slice a1 x2.1.length c1), (4, .slice a2 x2.2.length c2), (5, .slice a3 x3.1.length c3), (137, .bool (x3.2 != 0))]) ?_ ?_
        · refine QRun_b [.int .i64 x3.2, .bool (x3.2 != 0)] 0 _ (by kernel_rfl) (fun w => by kernel_rfl) ?_
          exact QRun_done [3, 4, 5, 137] (by kernel_rfl) (by kernel_rfl)
        refine Run_cond (b := x3.2 != 0) (by kernel_rfl) (fun hb14 => ?_) (fun hb14 => ?_)
        · have hF := (M.ite_some hF).1 hb14
          refine Run_seq ?_
          refine Run_reg 1 (by kernel_rfl) (L' := [(2, .bool true)]) ?_ ?_
          · refine QRun_b [.bool true] 0 _ (by kernel_rfl) (fun w => by kernel_rfl) ?_
            exact QRun_done [2] (by kernel_rfl) (by kernel_rfl)
          have hF := M.ret_some hF
          subst hF
          have H21 : Hold h h9 [] := H18.pick [] (by kernel_rfl)
          exact Run_ret1 rfl (ResV_tmp (v := .bool true) (by kernel_rfl)) ⟨rfl, H21⟩
        · have hF := (M.ite_some hF).2 hb14
          refine Run_skip ?_
          refine Run_seq ?_
          refine Run_seq ?_
          refine Run_reg 1 (by kernel_rfl) (L' := [(3, .slice a1 x2.1.length c1), (4, .slice a2 x2.2.length c2), (5, .slice a3 x3.1.length c3), (21, .int .i64 0)]) ?_ ?_
          · refine QRun_b [.int .i64 0] 0 _ (by kernel_rfl) (fun w => by kernel_rfl) ?_
            exact QRun_done [3, 4, 5, 21] (by kernel_rfl) (by kernel_rfl)
          obtain ⟨x25, gx25, hF⟩ := M.bind_some hF
          obtain ⟨hloy1, hhiy1, gx25⟩ := M.for_start gx25
          refine Run_join (fun L' h' => ∃ (s2 : Unit), x25 = .inl s2 ∧ L' = [] ∧ Hold h h' []) ?_ ?_
          · rintro _ h11 ⟨s2, es2, rfl, H23⟩
            have hF := M.cont_inl' hF es2
            refine Run_seq ?_
            refine Run_reg 1 (by kernel_rfl) (L' := [(2, .bool true)]) ?_ ?_
            · refine QRun_b [.bool true] 0 _ (by kernel_rfl) (fun w => by kernel_rfl) ?_
              exact QRun_done [2] (by kernel_rfl) (by kernel_rfl)
            have hF := M.ret_some hF
            subst hF
            exact Run_ret1 rfl (ResV_tmp (v := .bool true) (by kernel_rfl)) ⟨rfl, H23⟩
          · refine Run_block ?_
            have H35 : Hold h h9 [own cd23 a1 x2.1.length c1 x2.1, own cd2 a2 x2.2.length c2 x2.2, own cd2 a3 x3.1.length c3 x3.1] := H18.pick [6, 7, 5] (by kernel_rfl)
            refine Run_keep [3, 4, 5, 21] (L' := [(3, .slice a1 x2.1.length c1), (4, .slice a2 x2.2.length c2), (5, .slice a3 x3.1.length c3), (21, .int .i64 0)]) (by kernel_rfl) ?_
            refine Run_loop (fun m L' h' => ∃ (i1 : Int) (s1 : Unit), 0 ≤ i1 ∧ M.forN (x3.1.length : Int) _ _ n m i1 s1 = some x25 ∧ L' = [(3, .slice a1 x2.1.length c1), (4, .slice a2 x2.2.length c2), (5, .slice a3 x3.1.length c3), (21, .int .i64 i1)] ∧ Hold h h' [own cd23 a1 x2.1.length c1 x2.1, own cd2 a2 x2.2.length c2 x2.2, own cd2 a3 x3.1.length c3 x3.1]) ((x3.1.length : Int) - 0).toNat ⟨0, (), Int.le_refl _, gx25, rfl, H35⟩ ?_
            rintro my1 _ h10 ⟨i1, s1, hloy1', gx25, rfl, H22⟩
            refine Run_seq ?_
            refine Run_seq ?_
            refine Run_reg 4 (by kernel_rfl) (L' := [(3, .slice a1 x2.1.length c1), (4, .slice a2 x2.2.length c2), (5, .slice a3 x3.1.length c3), (21, .int .i64 i1), (141, .bool (decide (i1 < (x3.1.length : Int))))]) ?_ ?_
            · refine QRun_b [.int .i64 i1, .slice a3 x3.1.length c3, .int .i64 (x3.1.length : Int), .bool (decide (i1 < (x3.1.length : Int)))] 0 _ (by kernel_rfl) (fun w => by kernel_rfl) ?_
              exact QRun_done [3, 4, 5, 21, 141] (by kernel_rfl) (by kernel_rfl)
            refine Run_cond (b := decide (i1 < (x3.1.length : Int))) (by kernel_rfl) (fun hb15 => ?_) (fun hb15 => ?_)
            · obtain ⟨my1, y1, rfl, hB1, hgoy1, houty1⟩ := M.for_go gx25 hb15
              have hlty1 := of_decide_eq_true hb15
              refine Run_skip ?_
              refine Run_seq ?_
              refine Run_block ?_
              refine Run_seq ?_
              refine Run_reg 1 (by kernel_rfl) (L' := [(3, .slice a1 x2.1.length c1), (4, .slice a2 x2.2.length c2), (5, .slice a3 x3.1.length c3), (21, .int .i64 i1), (22, .bool false)]) ?_ ?_
              · refine QRun_b [.bool false] 0 _ (by kernel_rfl) (fun w => by kernel_rfl) ?_
                exact QRun_done [3, 4, 5, 21, 22] (by kernel_rfl) (by kernel_rfl)
              refine Run_seq ?_
              refine Run_seq ?_
              refine Run_reg 1 (by kernel_rfl) (L' := [(3, .slice a1 x2.1.length c1), (4, .slice a2 x2.2.length c2), (5, .slice a3 x3.1.length c3), (21, .int .i64 i1), (22, .bool false), (23, .int .i64 0)]) ?_ ?_
              · refine QRun_b [.int .i64 0] 0 _ (by kernel_rfl) (fun w => by kernel_rfl) ?_
                exact QRun_done [3, 4, 5, 21, 22, 23] (by kernel_rfl) (by kernel_rfl)
              obtain ⟨x26, gx26, hB1⟩ := M.bind_some hB1
              obtain ⟨hloy2, hhiy2, gx26⟩ := M.for_start gx26
              refine Run_join (fun L' h' => ∃ (s4 : Bool), x26 = .inl s4 ∧ L' = [(3, .slice a1 x2.1.length c1), (4, .slice a2 x2.2.length c2), (5, .slice a3 x3.1.length c3), (21, .int .i64 i1), (22, .bool s4)] ∧ Hold h h' [own cd23 a1 x2.1.length c1 x2.1, own cd2 a2 x2.2.length c2 x2.2, own cd2 a3 x3.1.length c3 x3.1]) ?_ ?_
              · rintro _ h13 ⟨s4, es4, rfl, H25⟩
                have hB1 := M.cont_inl' hB1 es4
                refine Run_seq ?_
                refine Run_reg 2 (by kernel_rfl) (L' := [(3, .slice a1 x2.1.length c1), (4, .slice a2 x2.2.length c2), (5, .slice a3 x3.1.length c3), (21, .int .i64 i1), (224, .bool (!s4))]) ?_ ?_
                · refine QRun_b [.bool s4, .bool (!s4)] 0 _ (by kernel_rfl) (fun w => by kernel_rfl) ?_
                  exact QRun_done [3, 4, 5, 21, 224] (by kernel_rfl) (by kernel_rfl)
                refine Run_cond (b := !s4) (by kernel_rfl) (fun hb24 => ?_) (fun hb24 => ?_)
                · have hB1 := (M.ite_some hB1).1 hb24
                  refine Run_seq ?_
                  refine Run_reg 1 (by kernel_rfl) (L' := [(2, .bool false)]) ?_ ?_
                  · refine QRun_b [.bool false] 0 _ (by kernel_rfl) (fun w => by kernel_rfl) ?_
                    exact QRun_done [2] (by kernel_rfl) (by kernel_rfl)
                  have hB1 := M.ret_some hB1
                  have gx25 := houty1 _ hB1.symm
                  have hF := M.cont_inr' hF gx25
                  have hF := M.ret_some hF
                  subst hF
                  have H33 : Hold h h13 [] := H25.pick [] (by kernel_rfl)
                  exact Run_ret1 rfl (ResV_tmp (v := .bool false) (by kernel_rfl)) ⟨rfl, H33⟩
                · have hB1 := (M.ite_some hB1).2 hb24
                  refine Run_skip ?_
                  refine Run_blk ?_
                  refine Run_reg 3 (by kernel_rfl) (L' := [(3, .slice a1 x2.1.length c1), (4, .slice a2 x2.2.length c2), (5, .slice a3 x3.1.length c3), (21, .int .i64 (i1 + 1))]) ?_ ?_
                  · refine QRun_b [.int .i64 i1] 0 _ (by kernel_rfl) (fun w => by kernel_rfl) ?_
                    refine QRun_y (.int .i64 (i1 + 1)) (by kernel_rfl) (Y_eq (v := .int .i64 (w64 (i1 + 1))) (Y_pure (fun w => by kernel_rfl)) (by rw [w64_eq _ (by omega)])) ?_
                    refine QRun_b [.int .i64 (i1 + 1)] 2 _ (by kernel_rfl) (fun w => by kernel_rfl) ?_
                    exact QRun_done [3, 4, 5, 21] (by kernel_rfl) (by kernel_rfl)
                  have hB1 := M.ret_some hB1
                  have gx25 := hgoy1 _ hB1.symm
                  exact Run_again [3, 4, 5, 21] (by kernel_rfl) my1 (Nat.lt_succ_self _) ⟨i1 + 1, (), by omega, gx25, rfl, H25⟩
              · refine Run_block ?_
                refine Run_keep [3, 4, 5, 21, 22, 23] (L' := [(3, .slice a1 x2.1.length c1), (4, .slice a2 x2.2.length c2), (5, .slice a3 x3.1.length c3), (21, .int .i64 i1), (22, .bool false), (23, .int .i64 0)]) (by kernel_rfl) ?_
                refine Run_loop (fun m L' h' => ∃ (i2 : Int) (s3 : Bool), 0 ≤ i2 ∧ M.forN (x2.2.length : Int) _ _ n m i2 s3 = some x26 ∧ L' = [(3, .slice a1 x2.1.length c1), (4, .slice a2 x2.2.length c2), (5, .slice a3 x3.1.length c3), (21, .int .i64 i1), (22, .bool s3), (23, .int .i64 i2)] ∧ Hold h h' [own cd23 a1 x2.1.length c1 x2.1, own cd2 a2 x2.2.length c2 x2.2, own cd2 a3 x3.1.length c3 x3.1]) ((x2.2.length : Int) - 0).toNat ⟨0, false, Int.le_refl _, gx26, rfl, H22⟩ ?_
                rintro my2 _ h12 ⟨i2, s3, hloy2', gx26, rfl, H24⟩
                refine Run_seq ?_
                refine Run_seq ?_
                refine Run_reg 4 (by kernel_rfl) (L' := [(3, .slice a1 x2.1.length c1), (4, .slice a2 x2.2.length c2), (5, .slice a3 x3.1.length c3), (21, .int .i64 i1), (22, .bool s3), (23, .int .i64 i2), (147, .bool (decide (i2 < (x2.2.length : Int))))]) ?_ ?_
                · refine QRun_b [.int .i64 i2, .slice a2 x2.2.length c2, .int .i64 (x2.2.length : Int), .bool (decide (i2 < (x2.2.length : Int)))] 0 _ (by kernel_rfl) (fun w => by kernel_rfl) ?_
                  exact QRun_done [3, 4, 5, 21, 22, 23, 147] (by kernel_rfl) (by kernel_rfl)
                refine Run_cond (b := decide (i2 < (x2.2.length : Int))) (by kernel_rfl) (fun hb16 => ?_) (fun hb16 => ?_)
                · obtain ⟨my2, y2, rfl, hB2, hgoy2, houty2⟩ := M.for_go gx26 hb16
                  have hlty2 := of_decide_eq_true hb16
                  refine Run_skip ?_
                  refine Run_seq ?_
                  refine Run_block ?_
                  refine Run_seq ?_
                  refine Run_seq ?_
                  obtain ⟨x27, hx15, hB2⟩ := M.bind_some hB2
                  obtain ⟨hx15l, hx15u, hx15⟩ := M.idx_some hx15
                  have H26 := H24.toRows
                  obtain ⟨a9, c9, H27⟩ := H26.pinRow hx15
                  obtain ⟨x28, hx16, hB2⟩ := M.bind_some hB2
                  obtain ⟨hx16l, hx16u, hx16⟩ := M.idx_some hx16
                  refine Run_reg 8 (by kernel_rfl) (L' := [(3, .slice a1 x2.1.length c1), (4, .slice a2 x2.2.length c2), (5, .slice a3 x3.1.length c3), (21, .int .i64 i1), (22, .bool s3), (23, .int .i64 i2), (157, .bool (x28 == (-1000000000000000)))]) ?_ ?_
                  · refine QRun_b [.slice a1 x2.1.length c1, .int .i64 i2] 0 _ (by kernel_rfl) (fun w => by kernel_rfl) ?_
                    refine QRun_y (.pointer (some (adr a1 (i2.toNat * 1)))) (by kernel_rfl) (Y_idx (t := 22) (e := 23) (sz := 1) (a := a1) (n := x2.1.length) (cap := c1) (kk := .i64) (i := i2) (by kernel_rfl) Try.underlying22 (by kernel_rfl) ((H24.rd 0 rfl).cell hx15).1 hx15l hx15u) ?_
                    refine QRun_y (.slice a9 x27.length c9) (by kernel_rfl) (Y_load1 (t := 23) (p := adr a1 (i2.toNat * 1)) (v := .slice a9 x27.length c9) (by kernel_rfl) (fun w => by kernel_rfl) (H27.cellPin 0 rfl 0 rfl)) ?_
                    refine QRun_b [.int .i64 i1] 4 _ (by kernel_rfl) (fun w => by kernel_rfl) ?_
                    refine QRun_y (.pointer (some (adr a9 (i1.toNat * 1)))) (by kernel_rfl) (Y_idx (t := 23) (e := 2) (sz := 1) (a := a9) (n := x27.length) (cap := c9) (kk := .i64) (i := i1) (by kernel_rfl) Try.underlying23 (by kernel_rfl) ((H27.rdPin 0 rfl 0 rfl).cell hx16).1 hx16l hx16u) ?_
                    refine QRun_y (.int .i64 x28) (by kernel_rfl) (Y_load1 (t := 2) (p := adr a9 (i1.toNat * 1)) (v := .int .i64 x28) (by kernel_rfl) (fun w => by kernel_rfl) (cd2_cell (H27.rdPin 0 rfl 0 rfl) hx16)) ?_
                    refine QRun_b [.bool (x28 == (-1000000000000000))] 7 _ (by kernel_rfl) (fun w => by kernel_rfl) ?_
                    exact QRun_done [3, 4, 5, 21, 22, 23, 157] (by kernel_rfl) (by kernel_rfl)
                  refine Run_cond (b := x28 == (-1000000000000000)) (by kernel_rfl) (fun hb17 => ?_) (fun hb17 => ?_)
                  · have hB2 := (M.ite_some hB2).1 hb17
                    refine Run_exit (k' := _) rfl ?_
                    refine Run_reg 3 (by kernel_rfl) (L' := [(3, .slice a1 x2.1.length c1), (4, .slice a2 x2.2.length c2), (5, .slice a3 x3.1.length c3), (21, .int .i64 i1), (22, .bool s3), (23, .int .i64 (i2 + 1))]) ?_ ?_
                    · refine QRun_b [.int .i64 i2] 0 _ (by kernel_rfl) (fun w => by kernel_rfl) ?_
                      refine QRun_y (.int .i64 (i2 + 1)) (by kernel_rfl) (Y_eq (v := .int .i64 (w64 (i2 + 1))) (Y_pure (fun w => by kernel_rfl)) (by rw [w64_eq _ (by omega)])) ?_
                      refine QRun_b [.int .i64 (i2 + 1)] 2 _ (by kernel_rfl) (fun w => by kernel_rfl) ?_
                      exact QRun_done [3, 4, 5, 21, 22, 23] (by kernel_rfl) (by kernel_rfl)
                    have H28 := H27.ofRows
                    have hB2 := M.ret_some hB2
                    have gx26 := hgoy2 _ hB2.symm
                    exact Run_again [3, 4, 5, 21, 22, 23] (by kernel_rfl) my2 (Nat.lt_succ_self _) ⟨i2 + 1, s3, by omega, gx26, rfl, H28⟩
                  · have hB2 := (M.ite_some hB2).2 hb17
                    refine Run_skip ?_
                    refine Run_seq ?_
                    refine Run_seq ?_
                    obtain ⟨x29, hx17, hB2⟩ := M.bind_some hB2
                    obtain ⟨hx17l, hx17u, hx17⟩ := M.idx_some hx17
                    obtain ⟨x30, gx30, hB2⟩ := M.bind_some hB2
                    refine Run_draw 31 mixed (by kernel_rfl) (by kernel_rfl) (L' := [(3, .slice a1 x2.1.length c1), (4, .slice a2 x2.2.length c2), (5, .slice a3 x3.1.length c3), (21, .int .i64 i1), (22, .bool s3), (23, .int .i64 i2), (188, .bool x30)]) ?_ ?_
                    · refine QRun_b [.slice a3 x3.1.length c3, .int .i64 i1] 0 _ (by kernel_rfl) (fun w => by kernel_rfl) ?_
                      refine QRun_y (.pointer (some (adr a3 (i1.toNat * 1)))) (by kernel_rfl) (Y_idx (t := 23) (e := 2) (sz := 1) (a := a3) (n := x3.1.length) (cap := c3) (kk := .i64) (i := i1) (by kernel_rfl) Try.underlying23 (by kernel_rfl) ((H27.rd 2 rfl).cell hx17).1 hx17l hx17u) ?_
                      refine QRun_y (.int .i64 x29) (by kernel_rfl) (Y_load1 (t := 2) (p := adr a3 (i1.toNat * 1)) (v := .int .i64 x29) (by kernel_rfl) (fun w => by kernel_rfl) (cd2_cell (H27.rd 2 rfl) hx17)) ?_
                      refine QRun_b [.bool (x29 != (-1000000000000000))] 4 _ (by kernel_rfl) (fun w => by kernel_rfl) ?_
                      refine QRun_seq 31 [(3, .slice a1 x2.1.length c1), (4, .slice a2 x2.2.length c2), (5, .slice a3 x3.1.length c3), (21, .int .i64 i1), (22, .bool s3), (23, .int .i64 i2), (188, .bool x30)] ?_ ?_
                      · rcases Bool.eq_false_or_eq_true (x29 != (-1000000000000000)) with hb18 | hb18
                        · refine QRun_bool (x29 != (-1000000000000000)) true (by kernel_rfl) (fun w => by kernel_rfl) hb18 ?_
                          have gx30 := (M.ite_some gx30).1 hb18
                          obtain ⟨x31, hx18, gx30⟩ := M.bind_some gx30
                          obtain ⟨hx18l, hx18u, hx18⟩ := M.idx_some hx18
                          obtain ⟨x32, gx32, gx30⟩ := M.bind_some gx30
                          have gx30 := M.ret_some gx30
                          refine QRun_b [.slice a2 x2.2.length c2, .int .i64 i2] 6 _ (by kernel_rfl) (fun w => by kernel_rfl) ?_
                          refine QRun_y (.pointer (some (adr a2 (i2.toNat * 1)))) (by kernel_rfl) (Y_idx (t := 23) (e := 2) (sz := 1) (a := a2) (n := x2.2.length) (cap := c2) (kk := .i64) (i := i2) (by kernel_rfl) Try.underlying23 (by kernel_rfl) ((H27.rd 1 rfl).cell hx18).1 hx18l hx18u) ?_
                          refine QRun_y (.int .i64 x31) (by kernel_rfl) (Y_load1 (t := 2) (p := adr a2 (i2.toNat * 1)) (v := .int .i64 x31) (by kernel_rfl) (fun w => by kernel_rfl) (cd2_cell (H27.rd 1 rfl) hx18)) ?_
                          refine QRun_b [.bool (x31 == (-1000000000000000))] 10 _ (by kernel_rfl) (fun w => by kernel_rfl) ?_
                          refine QRun_seq 30 [(3, .slice a1 x2.1.length c1), (4, .slice a2 x2.2.length c2), (5, .slice a3 x3.1.length c3), (21, .int .i64 i1), (22, .bool s3), (23, .int .i64 i2), (163, .bool true), (187, .bool x32)] ?_ ?_
                          · rcases Bool.eq_false_or_eq_true (x31 == (-1000000000000000)) with hb19 | hb19
                            · refine QRun_bool (x31 == (-1000000000000000)) true (by kernel_rfl) (fun w => by kernel_rfl) hb19 ?_
                              have gx32 := M.ret_some ((M.ite_some gx32).1 hb19)
                              refine QRun_n (by kernel_rfl) ?_
                              refine QRun_n (by kernel_rfl) ?_
                              refine QRun_n (by kernel_rfl) ?_
                              refine QRun_n (by kernel_rfl) ?_
                              refine QRun_n (by kernel_rfl) ?_
                              refine QRun_n (by kernel_rfl) ?_
                              refine QRun_n (by kernel_rfl) ?_
                              refine QRun_n (by kernel_rfl) ?_
                              refine QRun_n (by kernel_rfl) ?_
                              refine QRun_n (by kernel_rfl) ?_
                              refine QRun_n (by kernel_rfl) ?_
                              refine QRun_n (by kernel_rfl) ?_
                              refine QRun_n (by kernel_rfl) ?_
                              refine QRun_n (by kernel_rfl) ?_
                              refine QRun_n (by kernel_rfl) ?_
                              refine QRun_n (by kernel_rfl) ?_
                              refine QRun_n (by kernel_rfl) ?_
                              refine QRun_bool true x32 (by kernel_rfl) (fun w => by kernel_rfl) gx32 ?_
                              exact QRun_done [3, 4, 5, 21, 22, 23, 163, 187] (by kernel_rfl) (by kernel_rfl)
                            · refine QRun_bool (x31 == (-1000000000000000)) false (by kernel_rfl) (fun w => by kernel_rfl) hb19 ?_
                              have gx32 := (M.ite_some gx32).2 hb19
                              obtain ⟨x33, hx19, gx32⟩ := M.bind_some gx32
                              obtain ⟨hx19l, hx19u, hx19⟩ := M.idx_some hx19
                              obtain ⟨a10, c10, H29⟩ := H27.pinRow hx19
                              obtain ⟨x34, hx20, gx32⟩ := M.bind_some gx32
                              obtain ⟨hx20l, hx20u, hx20⟩ := M.idx_some hx20
                              obtain ⟨x35, hx21, gx32⟩ := M.bind_some gx32
                              obtain ⟨hx21l, hx21u, hx21⟩ := M.idx_some hx21
                              obtain ⟨x36, hx22, gx32⟩ := M.bind_some gx32
                              obtain ⟨hx22l, hx22u, hx22⟩ := M.idx_some hx22
                              have gx32 := M.ret_some gx32
                              refine QRun_b [.slice a1 x2.1.length c1, .int .i64 i2] 12 _ (by kernel_rfl) (fun w => by kernel_rfl) ?_
                              refine QRun_y (.pointer (some (adr a1 (i2.toNat * 1)))) (by kernel_rfl) (Y_idx (t := 22) (e := 23) (sz := 1) (a := a1) (n := x2.1.length) (cap := c1) (kk := .i64) (i := i2) (by kernel_rfl) Try.underlying22 (by kernel_rfl) ((H27.rdRows 0 rfl).cell hx19).1 hx19l hx19u) ?_
                              refine QRun_y (.slice a10 x33.length c10) (by kernel_rfl) (Y_load1 (t := 23) (p := adr a1 (i2.toNat * 1)) (v := .slice a10 x33.length c10) (by kernel_rfl) (fun w => by kernel_rfl) (H29.cellPin 0 rfl 0 rfl)) ?_
                              refine QRun_b [.int .i64 i1] 16 _ (by kernel_rfl) (fun w => by kernel_rfl) ?_
                              refine QRun_y (.pointer (some (adr a10 (i1.toNat * 1)))) (by kernel_rfl) (Y_idx (t := 23) (e := 2) (sz := 1) (a := a10) (n := x33.length) (cap := c10) (kk := .i64) (i := i1) (by kernel_rfl) Try.underlying23 (by kernel_rfl) ((H29.rdPin 0 rfl 0 rfl).cell hx20).1 hx20l hx20u) ?_
                              refine QRun_y (.int .i64 x34) (by kernel_rfl) (Y_load1 (t := 2) (p := adr a10 (i1.toNat * 1)) (v := .int .i64 x34) (by kernel_rfl) (fun w => by kernel_rfl) (cd2_cell (H29.rdPin 0 rfl 0 rfl) hx20)) ?_
                              refine QRun_b [.slice a3 x3.1.length c3, .int .i64 i1] 19 _ (by kernel_rfl) (fun w => by kernel_rfl) ?_
                              refine QRun_y (.pointer (some (adr a3 (i1.toNat * 1)))) (by kernel_rfl) (Y_idx (t := 23) (e := 2) (sz := 1) (a := a3) (n := x3.1.length) (cap := c3) (kk := .i64) (i := i1) (by kernel_rfl) Try.underlying23 (by kernel_rfl) ((H29.rd 2 rfl).cell hx21).1 hx21l hx21u) ?_
                              refine QRun_y (.int .i64 x35) (by kernel_rfl) (Y_load1 (t := 2) (p := adr a3 (i1.toNat * 1)) (v := .int .i64 x35) (by kernel_rfl) (fun w => by kernel_rfl) (cd2_cell (H29.rd 2 rfl) hx21)) ?_
                              refine QRun_b [.int .i64 (w64 (x34 + x35)), .slice a2 x2.2.length c2, .int .i64 i2] 23 _ (by kernel_rfl) (fun w => by kernel_rfl) ?_
                              refine QRun_y (.pointer (some (adr a2 (i2.toNat * 1)))) (by kernel_rfl) (Y_idx (t := 23) (e := 2) (sz := 1) (a := a2) (n := x2.2.length) (cap := c2) (kk := .i64) (i := i2) (by kernel_rfl) Try.underlying23 (by kernel_rfl) ((H29.rd 1 rfl).cell hx22).1 hx22l hx22u) ?_
                              refine QRun_y (.int .i64 x36) (by kernel_rfl) (Y_load1 (t := 2) (p := adr a2 (i2.toNat * 1)) (v := .int .i64 x36) (by kernel_rfl) (fun w => by kernel_rfl) (cd2_cell (H29.rd 1 rfl) hx22)) ?_
                              refine QRun_b [.bool (decide (x36 < (w64 (x34 + x35))))] 28 _ (by kernel_rfl) (fun w => by kernel_rfl) ?_
                              refine QRun_bool (decide (x36 < (w64 (x34 + x35)))) x32 (by kernel_rfl) (fun w => by kernel_rfl) gx32 ?_
                              exact QRun_done [3, 4, 5, 21, 22, 23, 163, 187] (by kernel_rfl) (by kernel_rfl)
                          refine QRun_bool x32 x30 (by kernel_rfl) (fun w => by kernel_rfl) gx30 ?_
                          exact QRun_done [3, 4, 5, 21, 22, 23, 188] (by kernel_rfl) (by kernel_rfl)
                        · refine QRun_bool (x29 != (-1000000000000000)) false (by kernel_rfl) (fun w => by kernel_rfl) hb18 ?_
                          have gx30 := M.ret_some ((M.ite_some gx30).2 hb18)
                          refine QRun_n (by kernel_rfl) ?_
                          refine QRun_n (by kernel_rfl) ?_
                          refine QRun_n (by kernel_rfl) ?_
                          refine QRun_n (by kernel_rfl) ?_
                          refine QRun_n (by kernel_rfl) ?_
                          refine QRun_n (by kernel_rfl) ?_
                          refine QRun_n (by kernel_rfl) ?_
                          refine QRun_n (by kernel_rfl) ?_
                          refine QRun_n (by kernel_rfl) ?_
                          refine QRun_n (by kernel_rfl) ?_
                          refine QRun_n (by kernel_rfl) ?_
                          refine QRun_n (by kernel_rfl) ?_
                          refine QRun_n (by kernel_rfl) ?_
                          refine QRun_n (by kernel_rfl) ?_
                          refine QRun_n (by kernel_rfl) ?_
                          refine QRun_n (by kernel_rfl) ?_
                          refine QRun_n (by kernel_rfl) ?_
                          refine QRun_n (by kernel_rfl) ?_
                          refine QRun_n (by kernel_rfl) ?_
                          refine QRun_n (by kernel_rfl) ?_
                          refine QRun_n (by kernel_rfl) ?_
                          refine QRun_n (by kernel_rfl) ?_
                          refine QRun_n (by kernel_rfl) ?_
                          refine QRun_n (by kernel_rfl) ?_
                          refine QRun_bool false x30 (by kernel_rfl) (fun w => by kernel_rfl) gx30 ?_
                          exact QRun_done [3, 4, 5, 21, 22, 23, 188] (by kernel_rfl) (by kernel_rfl)
                      exact QRun_done [3, 4, 5, 21, 22, 23, 188] (by kernel_rfl) (by kernel_rfl)
                    refine Run_cond (b := x30) (by kernel_rfl) (fun hb20 => ?_) (fun hb20 => ?_)
                    · have hB2 := (M.ite_some hB2).1 hb20
                      refine Run_seq ?_
                      refine Run_reg 1 (by kernel_rfl) (L' := [(2, .bool false)]) ?_ ?_
                      · refine QRun_b [.bool false] 0 _ (by kernel_rfl) (fun w => by kernel_rfl) ?_
                        exact QRun_done [2] (by kernel_rfl) (by kernel_rfl)
                      have hB2 := M.ret_some hB2
                      have gx26 := houty2 _ hB2.symm
                      have hB1 := M.cont_inr' hB1 gx26
                      have hB1 := M.ret_some hB1
                      have gx25 := houty1 _ hB1.symm
                      have hF := M.cont_inr' hF gx25
                      have hF := M.ret_some hF
                      subst hF
                      have H30 : Hold h h12 [] := H27.pick [] (by kernel_rfl)
                      exact Run_ret1 rfl (ResV_tmp (v := .bool false) (by kernel_rfl)) ⟨rfl, H30⟩
                    · have hB2 := (M.ite_some hB2).2 hb20
                      refine Run_skip ?_
                      obtain ⟨x37, gx37, hB2⟩ := M.bind_some hB2
                      obtain ⟨x39, gx39, hB2⟩ := M.bind_some hB2
                      refine Run_draw 35 mixed (by kernel_rfl) (by kernel_rfl) (L' := [(3, .slice a1 x2.1.length c1), (4, .slice a2 x2.2.length c2), (5, .slice a3 x3.1.length c3), (21, .int .i64 i1), (22, .bool x39), (23, .int .i64 i2)]) ?_ ?_
                      · refine QRun_b [.bool s3] 0 _ (by kernel_rfl) (fun w => by kernel_rfl) ?_
                        refine QRun_seq 8 [(3, .slice a1 x2.1.length c1), (4, .slice a2 x2.2.length c2), (5, .slice a3 x3.1.length c3), (21, .int .i64 i1), (22, .bool s3), (23, .int .i64 i2), (196, .bool x37)] ?_ ?_
                        · rcases Bool.eq_false_or_eq_true s3 with hb21 | hb21
                          · refine QRun_bool s3 true (by kernel_rfl) (fun w => by kernel_rfl) hb21 ?_
                            have gx37 := M.ret_some ((M.ite_some gx37).1 hb21)
                            refine QRun_n (by kernel_rfl) ?_
                            refine QRun_n (by kernel_rfl) ?_
                            refine QRun_n (by kernel_rfl) ?_
                            refine QRun_n (by kernel_rfl) ?_
                            refine QRun_n (by kernel_rfl) ?_
                            refine QRun_bool true x37 (by kernel_rfl) (fun w => by kernel_rfl) gx37 ?_
                            exact QRun_done [3, 4, 5, 21, 22, 23, 196] (by kernel_rfl) (by kernel_rfl)
                          · refine QRun_bool s3 false (by kernel_rfl) (fun w => by kernel_rfl) hb21 ?_
                            have gx37 := (M.ite_some gx37).2 hb21
                            obtain ⟨x38, hx23, gx37⟩ := M.bind_some gx37
                            obtain ⟨hx23l, hx23u, hx23⟩ := M.idx_some hx23
                            have gx37 := M.ret_some gx37
                            refine QRun_b [.slice a2 x2.2.length c2, .int .i64 i2] 2 _ (by kernel_rfl) (fun w => by kernel_rfl) ?_
                            refine QRun_y (.pointer (some (adr a2 (i2.toNat * 1)))) (by kernel_rfl) (Y_idx (t := 23) (e := 2) (sz := 1) (a := a2) (n := x2.2.length) (cap := c2) (kk := .i64) (i := i2) (by kernel_rfl) Try.underlying23 (by kernel_rfl) ((H27.rd 1 rfl).cell hx23).1 hx23l hx23u) ?_
                            refine QRun_y (.int .i64 x38) (by kernel_rfl) (Y_load1 (t := 2) (p := adr a2 (i2.toNat * 1)) (v := .int .i64 x38) (by kernel_rfl) (fun w => by kernel_rfl) (cd2_cell (H27.rd 1 rfl) hx23)) ?_
                            refine QRun_b [.bool (x38 == (-1000000000000000))] 6 _ (by kernel_rfl) (fun w => by kernel_rfl) ?_
                            refine QRun_bool (x38 == (-1000000000000000)) x37 (by kernel_rfl) (fun w => by kernel_rfl) gx37 ?_
                            exact QRun_done [3, 4, 5, 21, 22, 23, 196] (by kernel_rfl) (by kernel_rfl)
                        refine QRun_seq 34 [(3, .slice a1 x2.1.length c1), (4, .slice a2 x2.2.length c2), (5, .slice a3 x3.1.length c3), (21, .int .i64 i1), (22, .bool s3), (23, .int .i64 i2), (222, .bool x39)] ?_ ?_
                        · rcases Bool.eq_false_or_eq_true x37 with hb22 | hb22
                          · refine QRun_bool x37 true (by kernel_rfl) (fun w => by kernel_rfl) hb22 ?_
                            have gx39 := M.ret_some ((M.ite_some gx39).1 hb22)
                            refine QRun_n (by kernel_rfl) ?_
                            refine QRun_n (by kernel_rfl) ?_
                            refine QRun_n (by kernel_rfl) ?_
                            refine QRun_n (by kernel_rfl) ?_
                            refine QRun_n (by kernel_rfl) ?_
                            refine QRun_n (by kernel_rfl) ?_
                            refine QRun_n (by kernel_rfl) ?_
                            refine QRun_n (by kernel_rfl) ?_
                            refine QRun_n (by kernel_rfl) ?_
                            refine QRun_n (by kernel_rfl) ?_
                            refine QRun_n (by kernel_rfl) ?_
                            refine QRun_n (by kernel_rfl) ?_
                            refine QRun_n (by kernel_rfl) ?_
                            refine QRun_n (by kernel_rfl) ?_
                            refine QRun_n (by kernel_rfl) ?_
                            refine QRun_n (by kernel_rfl) ?_
                            refine QRun_n (by kernel_rfl) ?_
                            refine QRun_n (by kernel_rfl) ?_
                            refine QRun_n (by kernel_rfl) ?_
                            refine QRun_n (by kernel_rfl) ?_
                            refine QRun_n (by kernel_rfl) ?_
                            refine QRun_n (by kernel_rfl) ?_
                            refine QRun_n (by kernel_rfl) ?_
                            refine QRun_n (by kernel_rfl) ?_
                            refine QRun_bool true x39 (by kernel_rfl) (fun w => by kernel_rfl) gx39 ?_
                            exact QRun_done [3, 4, 5, 21, 22, 23, 222] (by kernel_rfl) (by kernel_rfl)
                          · refine QRun_bool x37 false (by kernel_rfl) (fun w => by kernel_rfl) hb22 ?_
                            have gx39 := (M.ite_some gx39).2 hb22
                            obtain ⟨x40, hx24, gx39⟩ := M.bind_some gx39
                            obtain ⟨hx24l, hx24u, hx24⟩ := M.idx_some hx24
                            obtain ⟨x41, gx41, gx39⟩ := M.bind_some gx39
                            have gx39 := M.ret_some gx39
                            refine QRun_b [.slice a3 x3.1.length c3, .int .i64 i1] 9 _ (by kernel_rfl) (fun w => by kernel_rfl) ?_
                            refine QRun_y (.pointer (some (adr a3 (i1.toNat * 1)))) (by kernel_rfl) (Y_idx (t := 23) (e := 2) (sz := 1) (a := a3) (n := x3.1.length) (cap := c3) (kk := .i64) (i := i1) (by kernel_rfl) Try.underlying23 (by kernel_rfl) ((H27.rd 2 rfl).cell hx24).1 hx24l hx24u) ?_
                            refine QRun_y (.int .i64 x40) (by kernel_rfl) (Y_load1 (t := 2) (p := adr a3 (i1.toNat * 1)) (v := .int .i64 x40) (by kernel_rfl) (fun w => by kernel_rfl) (cd2_cell (H27.rd 2 rfl) hx24)) ?_
                            refine QRun_b [.bool (x40 != (-1000000000000000))] 13 _ (by kernel_rfl) (fun w => by kernel_rfl) ?_
                            refine QRun_seq 33 [(3, .slice a1 x2.1.length c1), (4, .slice a2 x2.2.length c2), (5, .slice a3 x3.1.length c3), (21, .int .i64 i1), (22, .bool s3), (23, .int .i64 i2), (197, .bool false), (221, .bool x41)] ?_ ?_
                            · rcases Bool.eq_false_or_eq_true (x40 != (-1000000000000000)) with hb23 | hb23
                              · refine QRun_bool (x40 != (-1000000000000000)) true (by kernel_rfl) (fun w => by kernel_rfl) hb23 ?_
                                have gx41 := (M.ite_some gx41).1 hb23
                                obtain ⟨x42, hx25, gx41⟩ := M.bind_some gx41
                                obtain ⟨hx25l, hx25u, hx25⟩ := M.idx_some hx25
                                obtain ⟨a11, c11, H31⟩ := H27.pinRow hx25
                                obtain ⟨x43, hx26, gx41⟩ := M.bind_some gx41
                                obtain ⟨hx26l, hx26u, hx26⟩ := M.idx_some hx26
                                obtain ⟨x44, hx27, gx41⟩ := M.bind_some gx41
                                obtain ⟨hx27l, hx27u, hx27⟩ := M.idx_some hx27
                                obtain ⟨x45, hx28, gx41⟩ := M.bind_some gx41
                                obtain ⟨hx28l, hx28u, hx28⟩ := M.idx_some hx28
                                have gx41 := M.ret_some gx41
                                refine QRun_b [.slice a1 x2.1.length c1, .int .i64 i2] 15 _ (by kernel_rfl) (fun w => by kernel_rfl) ?_
                                refine QRun_y (.pointer (some (adr a1 (i2.toNat * 1)))) (by kernel_rfl) (Y_idx (t := 22) (e := 23) (sz := 1) (a := a1) (n := x2.1.length) (cap := c1) (kk := .i64) (i := i2) (by kernel_rfl) Try.underlying22 (by kernel_rfl) ((H27.rdRows 0 rfl).cell hx25).1 hx25l hx25u) ?_
                                refine QRun_y (.slice a11 x42.length c11) (by kernel_rfl) (Y_load1 (t := 23) (p := adr a1 (i2.toNat * 1)) (v := .slice a11 x42.length c11) (by kernel_rfl) (fun w => by kernel_rfl) (H31.cellPin 0 rfl 0 rfl)) ?_
                                refine QRun_b [.int .i64 i1] 19 _ (by kernel_rfl) (fun w => by kernel_rfl) ?_
                                refine QRun_y (.pointer (some (adr a11 (i1.toNat * 1)))) (by kernel_rfl) (Y_idx (t := 23) (e := 2) (sz := 1) (a := a11) (n := x42.length) (cap := c11) (kk := .i64) (i := i1) (by kernel_rfl) Try.underlying23 (by kernel_rfl) ((H31.rdPin 0 rfl 0 rfl).cell hx26).1 hx26l hx26u) ?_
                                refine QRun_y (.int .i64 x43) (by kernel_rfl) (Y_load1 (t := 2) (p := adr a11 (i1.toNat * 1)) (v := .int .i64 x43) (by kernel_rfl) (fun w => by kernel_rfl) (cd2_cell (H31.rdPin 0 rfl 0 rfl) hx26)) ?_
                                refine QRun_b [.slice a3 x3.1.length c3, .int .i64 i1] 22 _ (by kernel_rfl) (fun w => by kernel_rfl) ?_
                                refine QRun_y (.pointer (some (adr a3 (i1.toNat * 1)))) (by kernel_rfl) (Y_idx (t := 23) (e := 2) (sz := 1) (a := a3) (n := x3.1.length) (cap := c3) (kk := .i64) (i := i1) (by kernel_rfl) Try.underlying23 (by kernel_rfl) ((H31.rd 2 rfl).cell hx27).1 hx27l hx27u) ?_
                                refine QRun_y (.int .i64 x44) (by kernel_rfl) (Y_load1 (t := 2) (p := adr a3 (i1.toNat * 1)) (v := .int .i64 x44) (by kernel_rfl) (fun w => by kernel_rfl) (cd2_cell (H31.rd 2 rfl) hx27)) ?_
                                refine QRun_b [.int .i64 (w64 (x43 + x44)), .slice a2 x2.2.length c2, .int .i64 i2] 26 _ (by kernel_rfl) (fun w => by kernel_rfl) ?_
                                refine QRun_y (.pointer (some (adr a2 (i2.toNat * 1)))) (by kernel_rfl) (Y_idx (t := 23) (e := 2) (sz := 1) (a := a2) (n := x2.2.length) (cap := c2) (kk := .i64) (i := i2) (by kernel_rfl) Try.underlying23 (by kernel_rfl) ((H31.rd 1 rfl).cell hx28).1 hx28l hx28u) ?_
                                refine QRun_y (.int .i64 x45) (by kernel_rfl) (Y_load1 (t := 2) (p := adr a2 (i2.toNat * 1)) (v := .int .i64 x45) (by kernel_rfl) (fun w => by kernel_rfl) (cd2_cell (H31.rd 1 rfl) hx28)) ?_
                                refine QRun_b [.bool ((w64 (x43 + x44)) == x45)] 31 _ (by kernel_rfl) (fun w => by kernel_rfl) ?_
                                refine QRun_bool ((w64 (x43 + x44)) == x45) x41 (by kernel_rfl) (fun w => by kernel_rfl) gx41 ?_
                                exact QRun_done [3, 4, 5, 21, 22, 23, 197, 221] (by kernel_rfl) (by kernel_rfl)
                              · refine QRun_bool (x40 != (-1000000000000000)) false (by kernel_rfl) (fun w => by kernel_rfl) hb23 ?_
                                have gx41 := M.ret_some ((M.ite_some gx41).2 hb23)
                                refine QRun_n (by kernel_rfl) ?_
                                refine QRun_n (by kernel_rfl) ?_
                                refine QRun_n (by kernel_rfl) ?_
                                refine QRun_n (by kernel_rfl) ?_
                                refine QRun_n (by kernel_rfl) ?_
                                refine QRun_n (by kernel_rfl) ?_
                                refine QRun_n (by kernel_rfl) ?_
                                refine QRun_n (by kernel_rfl) ?_
                                refine QRun_n (by kernel_rfl) ?_
                                refine QRun_n (by kernel_rfl) ?_
                                refine QRun_n (by kernel_rfl) ?_
                                refine QRun_n (by kernel_rfl) ?_
                                refine QRun_n (by kernel_rfl) ?_
                                refine QRun_n (by kernel_rfl) ?_
                                refine QRun_n (by kernel_rfl) ?_
                                refine QRun_n (by kernel_rfl) ?_
                                refine QRun_n (by kernel_rfl) ?_
                                refine QRun_bool false x41 (by kernel_rfl) (fun w => by kernel_rfl) gx41 ?_
                                exact QRun_done [3, 4, 5, 21, 22, 23, 197, 221] (by kernel_rfl) (by kernel_rfl)
                            refine QRun_bool x41 x39 (by kernel_rfl) (fun w => by kernel_rfl) gx39 ?_
                            exact QRun_done [3, 4, 5, 21, 22, 23, 222] (by kernel_rfl) (by kernel_rfl)
                        refine QRun_b [.bool x39] 34 _ (by kernel_rfl) (fun w => by kernel_rfl) ?_
                        exact QRun_done [3, 4, 5, 21, 22, 23] (by kernel_rfl) (by kernel_rfl)
                      refine Run_blk ?_
                      refine Run_reg 3 (by kernel_rfl) (L' := [(3, .slice a1 x2.1.length c1), (4, .slice a2 x2.2.length c2), (5, .slice a3 x3.1.length c3), (21, .int .i64 i1), (22, .bool x39), (23, .int .i64 (i2 + 1))]) ?_ ?_
                      · refine QRun_b [.int .i64 i2] 0 _ (by kernel_rfl) (fun w => by kernel_rfl) ?_
                        refine QRun_y (.int .i64 (i2 + 1)) (by kernel_rfl) (Y_eq (v := .int .i64 (w64 (i2 + 1))) (Y_pure (fun w => by kernel_rfl)) (by rw [w64_eq _ (by omega)])) ?_
                        refine QRun_b [.int .i64 (i2 + 1)] 2 _ (by kernel_rfl) (fun w => by kernel_rfl) ?_
                        exact QRun_done [3, 4, 5, 21, 22, 23] (by kernel_rfl) (by kernel_rfl)
                      have H32 := H27.ofRows
                      have hB2 := M.ret_some hB2
                      have gx26 := hgoy2 _ hB2.symm
                      exact Run_again [3, 4, 5, 21, 22, 23] (by kernel_rfl) my2 (Nat.lt_succ_self _) ⟨i2 + 1, x39, by omega, gx26, rfl, H32⟩
                · have gx26 := M.for_end gx26 hb16
                  subst gx26
                  refine Run_exit (k' := _) rfl ?_
                  exact Run_fall [3, 4, 5, 21, 22] (by kernel_rfl) ⟨s3, rfl, rfl, H24⟩
            · have gx25 := M.for_end gx25 hb15
              subst gx25
              refine Run_exit (k' := _) rfl ?_
              have H34 : Hold h h10 [] := H22.pick [] (by kernel_rfl)
              exact Run_fall [] (by kernel_rfl) ⟨(), rfl, rfl, H34⟩

end Go.Proofs.Ytmpjjdgfkjompaa
