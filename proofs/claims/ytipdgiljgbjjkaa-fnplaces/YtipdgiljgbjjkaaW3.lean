/-
  Walks: each Go function, called with what reads as plain data, returns what its plain program computes.
  Conditions: None beyond the given statement.
-/
import Derived.Test.YtipdgiljgbjjkaaW2
namespace Go.Proofs.Ytipdgiljgbjjkaa
open Go
attribute [local irreducible] setL setB opA fineI idleI fineB evB okB markB markBs readyB readyBs chainB lk rho pickL dropSlot tailOK
set_option maxRecDepth 100000 in
set_option maxHeartbeats 4000000 in
theorem w_laws_FnPlaces (h : Heap) (code : List Int) (acode : Option Addr) (ccode : Nat) (rcode : Rd cd5 h (Lt h) acode ccode code) (n : Nat) (r : Bool) (hF : laws_FnPlaces code n = some r) :
    Fn Try.prog 6 #[.slice acode code.length ccode] h fun v h' => v = .bool r ∧ Hold h h' [] := by
  unfold laws_FnPlaces at hF
  refine Fn_enter (args := [.slice acode code.length ccode]) Try.func6 rfl (by kernel_rfl) (by kernel_rfl) (fun w0 _ => ?_)
  have H0 := Hold.init h
  refine Run_seq ?_
  refine Run_reg 1 (by kernel_rfl) (L' := [(0, .slice acode code.length ccode)]) ?_ ?_
  · refine QRun_b [.bool false] 0 _ (by kernel_rfl) (fun w => by kernel_rfl) ?_
    exact QRun_done [0] (by kernel_rfl) (by kernel_rfl)
  refine Run_seq ?_
  refine Run_seq ?_
  obtain ⟨x1, hx1, hF⟩ := M.bind_some hF
  refine Run_reg 2 (by kernel_rfl) (L' := [(0, .slice acode code.length ccode), (36, .bool x1)]) ?_ ?_
  · refine QRun_b [.slice acode code.length ccode] 0 _ (by kernel_rfl) (fun w => by kernel_rfl) ?_
    refine QRun_y (.bool x1) (by kernel_rfl) (Y_callq (f := 27) (args := #[.slice acode code.length ccode]) (v := .bool x1) (by kernel_rfl) (w_laws_big h code acode ccode rcode _ _ hx1)) ?_
    exact QRun_done [0, 36] (by kernel_rfl) (by kernel_rfl)
  refine Run_cond (b := x1) (by kernel_rfl) (fun hb1 => ?_) (fun hb1 => ?_)
  · have hF := (M.ite_some hF).1 hb1
    refine Run_seq ?_
    refine Run_reg 1 (by kernel_rfl) (L' := [(2, .bool true)]) ?_ ?_
    · refine QRun_b [.bool true] 0 _ (by kernel_rfl) (fun w => by kernel_rfl) ?_
      exact QRun_done [2] (by kernel_rfl) (by kernel_rfl)
    have hF := M.ret_some hF
    subst hF
    exact Run_ret1 rfl (ResV_tmp (v := .bool true) (by kernel_rfl)) ⟨rfl, H0⟩
  · have hF := (M.ite_some hF).2 hb1
    refine Run_skip ?_
    refine Run_seq ?_
    refine Run_ops ?_
    refine Run_b [.slice acode code.length ccode] 0 _ (by kernel_rfl) (fun w => by kernel_rfl) ?_
    obtain ⟨x2, hx2, hF⟩ := M.bind_some hF
    refine Run_E (by kernel_rfl) ?_
    refine E_call (f := 28) (args := #[.slice acode code.length ccode]) (w_spec_DrawPlacesInto h code acode ccode rcode _ _ hx2) (by kernel_rfl) (fun v1 h1 hp1 => ?_)
    obtain ⟨a1, c1, rfl, H1⟩ := hp1
    have H2 : Hold h h1 [own cd58 a1 x2.1.Places.length c1 x2.1.Places] := H0.call H1 rfl
    refine Run_b [.tuple #[.agg #[.int .i64 x2.1.Events, .slice a1 x2.1.Places.length c1], .int .i64 x2.2], .agg #[.int .i64 x2.1.Events, .slice a1 x2.1.Places.length c1], .int .i64 x2.2] 2 _ (by kernel_rfl) (fun w => by kernel_rfl) ?_
    refine Run_E (by kernel_rfl) ?_
    refine E_box (ty := 30) (cs := [.int .i64 0, .slice none 0 0]) H2 (fun w => by kernel_rfl) (fun b1 h2 H3 => ?_)
    refine Run_E (by kernel_rfl) ?_
    refine E_bput (t := 30) (off := 0) (us := [.int .i64 x2.1.Events, .slice a1 x2.1.Places.length c1]) (v := .agg #[.int .i64 x2.1.Events, .slice a1 x2.1.Places.length c1]) H3 (by kernel_rfl) (by kernel_rfl) rfl (by kernel_rfl) rfl (fun h3 H4 => ?_)
    refine Run_b [.int .i64 x2.2] 7 _ (by kernel_rfl) (fun w => by kernel_rfl) ?_
    refine Run_nil (by kernel_rfl) ?_
    refine Run_keep [0, 3, 4] (L' := [(0, .slice acode code.length ccode), (3, .pointer (some ⟨b1, 0, none⟩)), (4, .int .i64 x2.2)]) (by kernel_rfl) ?_
    refine Run_seq ?_
    refine Run_ops ?_
    refine Run_y (.agg #[.int .i64 x2.1.Events, .slice a1 x2.1.Places.length c1]) (by kernel_rfl) (Y_loadA (t := 30) (n := 2) (p := ⟨b1, 0, none⟩) (cs := [.int .i64 x2.1.Events, .slice a1 x2.1.Places.length c1]) (by kernel_rfl) (fun w => by kernel_rfl) (by kernel_rfl) rfl (H4.cells (n := 2) (off := 0) 0 rfl rfl)) ?_
    refine Run_b [.int .i64 x2.2] 1 _ (by kernel_rfl) (fun w => by kernel_rfl) ?_
    obtain ⟨x3, hx3, hF⟩ := M.bind_some hF
    refine Run_E (by kernel_rfl) ?_
    refine E_call (f := 29) (args := #[.agg #[.int .i64 x2.1.Events, .slice a1 x2.1.Places.length c1], .int .i64 x2.2]) (w_impl_PlacesInto h3 x2.1 a1 c1 (H4.rd 1 rfl) x2.2 _ _ hx3) (by kernel_rfl) (fun v2 h4 hp2 => ?_)
    obtain ⟨a2, c2, rfl, H5⟩ := hp2
    have H6 : Hold h h4 [own cd2 a2 x3.1.length c2 x3.1, box b1 30 [.int .i64 x2.1.Events, .slice a1 x2.1.Places.length c1], own cd58 a1 x2.1.Places.length c1 x2.1.Places] := H4.call H5 rfl
    refine Run_b [.tuple #[.slice a2 x3.1.length c2, .int .i64 x3.2], .slice a2 x3.1.length c2, .int .i64 x3.2, .slice a2 x3.1.length c2, .int .i64 x3.2] 3 _ (by kernel_rfl) (fun w => by kernel_rfl) ?_
    refine Run_nil (by kernel_rfl) ?_
    refine Run_keep [0, 3, 4, 5, 6] (L' := [(0, .slice acode code.length ccode), (3, .pointer (some ⟨b1, 0, none⟩)), (4, .int .i64 x2.2), (5, .slice a2 x3.1.length c2), (6, .int .i64 x3.2)]) (by kernel_rfl) ?_
    refine Run_seq ?_
    refine Run_ops ?_
    refine Run_y (.agg #[.int .i64 x2.1.Events, .slice a1 x2.1.Places.length c1]) (by kernel_rfl) (Y_loadA (t := 30) (n := 2) (p := ⟨b1, 0, none⟩) (cs := [.int .i64 x2.1.Events, .slice a1 x2.1.Places.length c1]) (by kernel_rfl) (fun w => by kernel_rfl) (by kernel_rfl) rfl (H6.cells (n := 2) (off := 0) 1 rfl rfl)) ?_
    refine Run_b [.int .i64 x2.2] 1 _ (by kernel_rfl) (fun w => by kernel_rfl) ?_
    obtain ⟨x4, hx4, hF⟩ := M.bind_some hF
    refine Run_E (by kernel_rfl) ?_
    refine E_call (f := 30) (args := #[.agg #[.int .i64 x2.1.Events, .slice a1 x2.1.Places.length c1], .int .i64 x2.2]) (w_spec_PlacesInto h4 x2.1 a1 c1 (H6.rd 2 rfl) x2.2 _ _ hx4) (by kernel_rfl) (fun v3 h5 hp3 => ?_)
    obtain ⟨a3, c3, rfl, H7⟩ := hp3
    have H8 : Hold h h5 [own cd2 a3 x4.1.length c3 x4.1, own cd2 a2 x3.1.length c2 x3.1, box b1 30 [.int .i64 x2.1.Events, .slice a1 x2.1.Places.length c1], own cd58 a1 x2.1.Places.length c1 x2.1.Places] := H6.call H7 rfl
    refine Run_b [.tuple #[.slice a3 x4.1.length c3, .int .i64 x4.2], .slice a3 x4.1.length c3, .int .i64 x4.2, .slice a3 x4.1.length c3, .int .i64 x4.2] 3 _ (by kernel_rfl) (fun w => by kernel_rfl) ?_
    refine Run_nil (by kernel_rfl) ?_
    refine Run_keep [0, 3, 4, 5, 6, 7, 8] (L' := [(0, .slice acode code.length ccode), (3, .pointer (some ⟨b1, 0, none⟩)), (4, .int .i64 x2.2), (5, .slice a2 x3.1.length c2), (6, .int .i64 x3.2), (7, .slice a3 x4.1.length c3), (8, .int .i64 x4.2)]) (by kernel_rfl) ?_
    refine Run_seq ?_
    refine Run_ops ?_
    refine Run_y (.agg #[.int .i64 x2.1.Events, .slice a1 x2.1.Places.length c1]) (by kernel_rfl) (Y_loadA (t := 30) (n := 2) (p := ⟨b1, 0, none⟩) (cs := [.int .i64 x2.1.Events, .slice a1 x2.1.Places.length c1]) (by kernel_rfl) (fun w => by kernel_rfl) (by kernel_rfl) rfl (H8.cells (n := 2) (off := 0) 2 rfl rfl)) ?_
    refine Run_b [.int .i64 x2.2] 1 _ (by kernel_rfl) (fun w => by kernel_rfl) ?_
    obtain ⟨x5, hx5, hF⟩ := M.bind_some hF
    refine Run_E (by kernel_rfl) ?_
    refine E_call (f := 31) (args := #[.agg #[.int .i64 x2.1.Events, .slice a1 x2.1.Places.length c1], .int .i64 x2.2]) (w_impl_PlacesFrom h5 x2.1 a1 c1 (H8.rd 3 rfl) x2.2 _ _ hx5) (by kernel_rfl) (fun v4 h6 hp4 => ?_)
    obtain ⟨a4, c4, rfl, H9⟩ := hp4
    have H10 : Hold h h6 [own cd2 a4 x5.1.length c4 x5.1, own cd2 a3 x4.1.length c3 x4.1, own cd2 a2 x3.1.length c2 x3.1, box b1 30 [.int .i64 x2.1.Events, .slice a1 x2.1.Places.length c1], own cd58 a1 x2.1.Places.length c1 x2.1.Places] := H8.call H9 rfl
    refine Run_b [.tuple #[.slice a4 x5.1.length c4, .int .i64 x5.2], .slice a4 x5.1.length c4, .int .i64 x5.2, .slice a4 x5.1.length c4, .int .i64 x5.2] 3 _ (by kernel_rfl) (fun w => by kernel_rfl) ?_
    refine Run_nil (by kernel_rfl) ?_
    refine Run_keep [0, 3, 4, 5, 6, 7, 8, 9, 10] (L' := [(0, .slice acode code.length ccode), (3, .pointer (some ⟨b1, 0, none⟩)), (4, .int .i64 x2.2), (5, .slice a2 x3.1.length c2), (6, .int .i64 x3.2), (7, .slice a3 x4.1.length c3), (8, .int .i64 x4.2), (9, .slice a4 x5.1.length c4), (10, .int .i64 x5.2)]) (by kernel_rfl) ?_
    refine Run_seq ?_
    refine Run_ops ?_
    refine Run_y (.agg #[.int .i64 x2.1.Events, .slice a1 x2.1.Places.length c1]) (by kernel_rfl) (Y_loadA (t := 30) (n := 2) (p := ⟨b1, 0, none⟩) (cs := [.int .i64 x2.1.Events, .slice a1 x2.1.Places.length c1]) (by kernel_rfl) (fun w => by kernel_rfl) (by kernel_rfl) rfl (H10.cells (n := 2) (off := 0) 3 rfl rfl)) ?_
    refine Run_b [.int .i64 x2.2] 1 _ (by kernel_rfl) (fun w => by kernel_rfl) ?_
    obtain ⟨x6, hx6, hF⟩ := M.bind_some hF
    refine Run_E (by kernel_rfl) ?_
    refine E_call (f := 32) (args := #[.agg #[.int .i64 x2.1.Events, .slice a1 x2.1.Places.length c1], .int .i64 x2.2]) (w_spec_PlacesFrom h6 x2.1 a1 c1 (H10.rd 4 rfl) x2.2 _ _ hx6) (by kernel_rfl) (fun v5 h7 hp5 => ?_)
    obtain ⟨a5, c5, rfl, H11⟩ := hp5
    have H12 : Hold h h7 [own cd2 a5 x6.1.length c5 x6.1, own cd2 a4 x5.1.length c4 x5.1, own cd2 a3 x4.1.length c3 x4.1, own cd2 a2 x3.1.length c2 x3.1, box b1 30 [.int .i64 x2.1.Events, .slice a1 x2.1.Places.length c1], own cd58 a1 x2.1.Places.length c1 x2.1.Places] := H10.call H11 rfl
    refine Run_b [.tuple #[.slice a5 x6.1.length c5, .int .i64 x6.2], .slice a5 x6.1.length c5, .int .i64 x6.2, .slice a5 x6.1.length c5, .int .i64 x6.2] 3 _ (by kernel_rfl) (fun w => by kernel_rfl) ?_
    refine Run_nil (by kernel_rfl) ?_
    refine Run_keep [0, 3, 5, 6, 7, 8, 9, 10, 11, 12] (L' := [(0, .slice acode code.length ccode), (3, .pointer (some ⟨b1, 0, none⟩)), (5, .slice a2 x3.1.length c2), (6, .int .i64 x3.2), (7, .slice a3 x4.1.length c3), (8, .int .i64 x4.2), (9, .slice a4 x5.1.length c4), (10, .int .i64 x5.2), (11, .slice a5 x6.1.length c5), (12, .int .i64 x6.2)]) (by kernel_rfl) ?_
    refine Run_seq ?_
    refine Run_ops ?_
    refine Run_b [.slice acode code.length ccode] 0 _ (by kernel_rfl) (fun w => by kernel_rfl) ?_
    obtain ⟨x7, hx7, hF⟩ := M.bind_some hF
    refine Run_E (by kernel_rfl) ?_
    refine E_call (f := 33) (args := #[.slice acode code.length ccode]) (w_spec_DrawChangePlace h7 code acode ccode (rcode.at H12.ext) _ _ hx7) (by kernel_rfl) (fun v6 h8 hp6 => ?_)
    obtain ⟨a6, c6, rfl, H13⟩ := hp6
    have H14 : Hold h h8 [own cd58 a6 x7.1.Places.length c6 x7.1.Places, own cd2 a5 x6.1.length c5 x6.1, own cd2 a4 x5.1.length c4 x5.1, own cd2 a3 x4.1.length c3 x4.1, own cd2 a2 x3.1.length c2 x3.1, box b1 30 [.int .i64 x2.1.Events, .slice a1 x2.1.Places.length c1], own cd58 a1 x2.1.Places.length c1 x2.1.Places] := H12.call H13 rfl
    refine Run_b [.tuple #[.agg #[.int .i64 x7.1.Events, .slice a6 x7.1.Places.length c6], .int .i64 x7.2.1, .int .i64 x7.2.2.1, .int .i64 x7.2.2.2], .agg #[.int .i64 x7.1.Events, .slice a6 x7.1.Places.length c6], .int .i64 x7.2.1, .int .i64 x7.2.2.1, .int .i64 x7.2.2.2] 2 _ (by kernel_rfl) (fun w => by kernel_rfl) ?_
    refine Run_E (by kernel_rfl) ?_
    refine E_box (ty := 30) (cs := [.int .i64 0, .slice none 0 0]) H14 (fun w => by kernel_rfl) (fun b2 h9 H15 => ?_)
    refine Run_E (by kernel_rfl) ?_
    refine E_bput (t := 30) (off := 0) (us := [.int .i64 x7.1.Events, .slice a6 x7.1.Places.length c6]) (v := .agg #[.int .i64 x7.1.Events, .slice a6 x7.1.Places.length c6]) H15 (by kernel_rfl) (by kernel_rfl) rfl (by kernel_rfl) rfl (fun h10 H16 => ?_)
    refine Run_b [.int .i64 x7.2.1, .int .i64 x7.2.2.1, .int .i64 x7.2.2.2] 9 _ (by kernel_rfl) (fun w => by kernel_rfl) ?_
    refine Run_nil (by kernel_rfl) ?_
    refine Run_keep [0, 3, 5, 6, 7, 8, 9, 10, 11, 12, 13, 14, 15, 16] (L' := [(0, .slice acode code.length ccode), (3, .pointer (some ⟨b1, 0, none⟩)), (5, .slice a2 x3.1.length c2), (6, .int .i64 x3.2), (7, .slice a3 x4.1.length c3), (8, .int .i64 x4.2), (9, .slice a4 x5.1.length c4), (10, .int .i64 x5.2), (11, .slice a5 x6.1.length c5), (12, .int .i64 x6.2), (13, .pointer (some ⟨b2, 0, none⟩)), (14, .int .i64 x7.2.1), (15, .int .i64 x7.2.2.1), (16, .int .i64 x7.2.2.2)]) (by kernel_rfl) ?_
    refine Run_seq ?_
    refine Run_ops ?_
    refine Run_y (.agg #[.int .i64 x7.1.Events, .slice a6 x7.1.Places.length c6]) (by kernel_rfl) (Y_loadA (t := 30) (n := 2) (p := ⟨b2, 0, none⟩) (cs := [.int .i64 x7.1.Events, .slice a6 x7.1.Places.length c6]) (by kernel_rfl) (fun w => by kernel_rfl) (by kernel_rfl) rfl (H16.cells (n := 2) (off := 0) 0 rfl rfl)) ?_
    refine Run_b [.int .i64 x7.2.1, .int .i64 x7.2.2.1, .int .i64 x7.2.2.2] 1 _ (by kernel_rfl) (fun w => by kernel_rfl) ?_
    obtain ⟨x8, hx8, hF⟩ := M.bind_some hF
    refine Run_E (by kernel_rfl) ?_
    refine E_call (f := 34) (args := #[.agg #[.int .i64 x7.1.Events, .slice a6 x7.1.Places.length c6], .int .i64 x7.2.1, .int .i64 x7.2.2.1, .int .i64 x7.2.2.2]) (w_impl_ChangePlace h10 x7.1 a6 c6 (H16.rd 1 rfl) x7.2.1 x7.2.2.1 x7.2.2.2 _ _ hx8) (by kernel_rfl) (fun v7 h11 hp7 => ?_)
    obtain ⟨a7, c7, rfl, H17⟩ := hp7
    have H18 : Hold h h11 [own cd58 a7 x8.1.Places.length c7 x8.1.Places, box b2 30 [.int .i64 x7.1.Events, .slice a6 x7.1.Places.length c6], own cd58 a6 x7.1.Places.length c6 x7.1.Places, own cd2 a5 x6.1.length c5 x6.1, own cd2 a4 x5.1.length c4 x5.1, own cd2 a3 x4.1.length c3 x4.1, own cd2 a2 x3.1.length c2 x3.1, box b1 30 [.int .i64 x2.1.Events, .slice a1 x2.1.Places.length c1], own cd58 a1 x2.1.Places.length c1 x2.1.Places] := H16.call H17 rfl
    refine Run_b [.tuple #[.agg #[.int .i64 x8.1.Events, .slice a7 x8.1.Places.length c7], .int .i64 x8.2], .agg #[.int .i64 x8.1.Events, .slice a7 x8.1.Places.length c7], .int .i64 x8.2] 5 _ (by kernel_rfl) (fun w => by kernel_rfl) ?_
    refine Run_E (by kernel_rfl) ?_
    refine E_box (ty := 30) (cs := [.int .i64 0, .slice none 0 0]) H18 (fun w => by kernel_rfl) (fun b3 h12 H19 => ?_)
    refine Run_E (by kernel_rfl) ?_
    refine E_bput (t := 30) (off := 0) (us := [.int .i64 x8.1.Events, .slice a7 x8.1.Places.length c7]) (v := .agg #[.int .i64 x8.1.Events, .slice a7 x8.1.Places.length c7]) H19 (by kernel_rfl) (by kernel_rfl) rfl (by kernel_rfl) rfl (fun h13 H20 => ?_)
    refine Run_b [.int .i64 x8.2] 10 _ (by kernel_rfl) (fun w => by kernel_rfl) ?_
    refine Run_nil (by kernel_rfl) ?_
    refine Run_keep [0, 3, 5, 6, 7, 8, 9, 10, 11, 12, 13, 14, 15, 16, 17, 18] (L' := [(0, .slice acode code.length ccode), (3, .pointer (some ⟨b1, 0, none⟩)), (5, .slice a2 x3.1.length c2), (6, .int .i64 x3.2), (7, .slice a3 x4.1.length c3), (8, .int .i64 x4.2), (9, .slice a4 x5.1.length c4), (10, .int .i64 x5.2), (11, .slice a5 x6.1.length c5), (12, .int .i64 x6.2), (13, .pointer (some ⟨b2, 0, none⟩)), (14, .int .i64 x7.2.1), (15, .int .i64 x7.2.2.1), (16, .int .i64 x7.2.2.2), (17, .pointer (some ⟨b3, 0, none⟩)), (18, .int .i64 x8.2)]) (by kernel_rfl) ?_
    refine Run_seq ?_
    refine Run_ops ?_
    refine Run_y (.agg #[.int .i64 x7.1.Events, .slice a6 x7.1.Places.length c6]) (by kernel_rfl) (Y_loadA (t := 30) (n := 2) (p := ⟨b2, 0, none⟩) (cs := [.int .i64 x7.1.Events, .slice a6 x7.1.Places.length c6]) (by kernel_rfl) (fun w => by kernel_rfl) (by kernel_rfl) rfl (H20.cells (n := 2) (off := 0) 2 rfl rfl)) ?_
    refine Run_b [.int .i64 x7.2.1, .int .i64 x7.2.2.1, .int .i64 x7.2.2.2] 1 _ (by kernel_rfl) (fun w => by kernel_rfl) ?_
    obtain ⟨x9, hx9, hF⟩ := M.bind_some hF
    refine Run_E (by kernel_rfl) ?_
    refine E_call (f := 35) (args := #[.agg #[.int .i64 x7.1.Events, .slice a6 x7.1.Places.length c6], .int .i64 x7.2.1, .int .i64 x7.2.2.1, .int .i64 x7.2.2.2]) (w_spec_ChangePlace h13 x7.1 a6 c6 (H20.rd 3 rfl) x7.2.1 x7.2.2.1 x7.2.2.2 _ _ hx9) (by kernel_rfl) (fun v8 h14 hp8 => ?_)
    obtain ⟨a8, c8, rfl, H21⟩ := hp8
    have H22 : Hold h h14 [own cd58 a8 x9.1.Places.length c8 x9.1.Places, box b3 30 [.int .i64 x8.1.Events, .slice a7 x8.1.Places.length c7], own cd58 a7 x8.1.Places.length c7 x8.1.Places, box b2 30 [.int .i64 x7.1.Events, .slice a6 x7.1.Places.length c6], own cd58 a6 x7.1.Places.length c6 x7.1.Places, own cd2 a5 x6.1.length c5 x6.1, own cd2 a4 x5.1.length c4 x5.1, own cd2 a3 x4.1.length c3 x4.1, own cd2 a2 x3.1.length c2 x3.1, box b1 30 [.int .i64 x2.1.Events, .slice a1 x2.1.Places.length c1], own cd58 a1 x2.1.Places.length c1 x2.1.Places] := H20.call H21 rfl
    refine Run_b [.tuple #[.agg #[.int .i64 x9.1.Events, .slice a8 x9.1.Places.length c8], .int .i64 x9.2], .agg #[.int .i64 x9.1.Events, .slice a8 x9.1.Places.length c8], .int .i64 x9.2] 5 _ (by kernel_rfl) (fun w => by kernel_rfl) ?_
    refine Run_E (by kernel_rfl) ?_
    refine E_box (ty := 30) (cs := [.int .i64 0, .slice none 0 0]) H22 (fun w => by kernel_rfl) (fun b4 h15 H23 => ?_)
    refine Run_E (by kernel_rfl) ?_
    refine E_bput (t := 30) (off := 0) (us := [.int .i64 x9.1.Events, .slice a8 x9.1.Places.length c8]) (v := .agg #[.int .i64 x9.1.Events, .slice a8 x9.1.Places.length c8]) H23 (by kernel_rfl) (by kernel_rfl) rfl (by kernel_rfl) rfl (fun h16 H24 => ?_)
    refine Run_b [.int .i64 x9.2] 10 _ (by kernel_rfl) (fun w => by kernel_rfl) ?_
    refine Run_nil (by kernel_rfl) ?_
    refine Run_keep [0, 3, 5, 6, 7, 8, 9, 10, 11, 12, 13, 14, 17, 18, 19, 20] (L' := [(0, .slice acode code.length ccode), (3, .pointer (some ⟨b1, 0, none⟩)), (5, .slice a2 x3.1.length c2), (6, .int .i64 x3.2), (7, .slice a3 x4.1.length c3), (8, .int .i64 x4.2), (9, .slice a4 x5.1.length c4), (10, .int .i64 x5.2), (11, .slice a5 x6.1.length c5), (12, .int .i64 x6.2), (13, .pointer (some ⟨b2, 0, none⟩)), (14, .int .i64 x7.2.1), (17, .pointer (some ⟨b3, 0, none⟩)), (18, .int .i64 x8.2), (19, .pointer (some ⟨b4, 0, none⟩)), (20, .int .i64 x9.2)]) (by kernel_rfl) ?_
    refine Run_seq ?_
    refine Run_ops ?_
    refine Run_b [.slice acode code.length ccode] 0 _ (by kernel_rfl) (fun w => by kernel_rfl) ?_
    obtain ⟨x10, hx10, hF⟩ := M.bind_some hF
    refine Run_E (by kernel_rfl) ?_
    refine E_call (f := 36) (args := #[.slice acode code.length ccode]) (w_spec_DrawDropPlace h16 code acode ccode (rcode.at H24.ext) _ _ hx10) (by kernel_rfl) (fun v9 h17 hp9 => ?_)
    obtain ⟨a9, c9, rfl, H25⟩ := hp9
    have H26 : Hold h h17 [own cd58 a9 x10.1.Places.length c9 x10.1.Places, box b4 30 [.int .i64 x9.1.Events, .slice a8 x9.1.Places.length c8], own cd58 a8 x9.1.Places.length c8 x9.1.Places, box b3 30 [.int .i64 x8.1.Events, .slice a7 x8.1.Places.length c7], own cd58 a7 x8.1.Places.length c7 x8.1.Places, box b2 30 [.int .i64 x7.1.Events, .slice a6 x7.1.Places.length c6], own cd58 a6 x7.1.Places.length c6 x7.1.Places, own cd2 a5 x6.1.length c5 x6.1, own cd2 a4 x5.1.length c4 x5.1, own cd2 a3 x4.1.length c3 x4.1, own cd2 a2 x3.1.length c2 x3.1, box b1 30 [.int .i64 x2.1.Events, .slice a1 x2.1.Places.length c1], own cd58 a1 x2.1.Places.length c1 x2.1.Places] := H24.call H25 rfl
    refine Run_b [.tuple #[.agg #[.int .i64 x10.1.Events, .slice a9 x10.1.Places.length c9], .int .i64 x10.2], .agg #[.int .i64 x10.1.Events, .slice a9 x10.1.Places.length c9], .int .i64 x10.2] 2 _ (by kernel_rfl) (fun w => by kernel_rfl) ?_
    refine Run_E (by kernel_rfl) ?_
    refine E_box (ty := 30) (cs := [.int .i64 0, .slice none 0 0]) H26 (fun w => by kernel_rfl) (fun b5 h18 H27 => ?_)
    refine Run_E (by kernel_rfl) ?_
    refine E_bput (t := 30) (off := 0) (us := [.int .i64 x10.1.Events, .slice a9 x10.1.Places.length c9]) (v := .agg #[.int .i64 x10.1.Events, .slice a9 x10.1.Places.length c9]) H27 (by kernel_rfl) (by kernel_rfl) rfl (by kernel_rfl) rfl (fun h19 H28 => ?_)
    refine Run_b [.int .i64 x10.2] 7 _ (by kernel_rfl) (fun w => by kernel_rfl) ?_
    refine Run_nil (by kernel_rfl) ?_
    refine Run_keep [3, 5, 6, 7, 8, 9, 10, 11, 12, 13, 14, 17, 18, 19, 20, 21, 22] (L' := [(3, .pointer (some ⟨b1, 0, none⟩)), (5, .slice a2 x3.1.length c2), (6, .int .i64 x3.2), (7, .slice a3 x4.1.length c3), (8, .int .i64 x4.2), (9, .slice a4 x5.1.length c4), (10, .int .i64 x5.2), (11, .slice a5 x6.1.length c5), (12, .int .i64 x6.2), (13, .pointer (some ⟨b2, 0, none⟩)), (14, .int .i64 x7.2.1), (17, .pointer (some ⟨b3, 0, none⟩)), (18, .int .i64 x8.2), (19, .pointer (some ⟨b4, 0, none⟩)), (20, .int .i64 x9.2), (21, .pointer (some ⟨b5, 0, none⟩)), (22, .int .i64 x10.2)]) (by kernel_rfl) ?_
    refine Run_seq ?_
    refine Run_ops ?_
    refine Run_y (.agg #[.int .i64 x10.1.Events, .slice a9 x10.1.Places.length c9]) (by kernel_rfl) (Y_loadA (t := 30) (n := 2) (p := ⟨b5, 0, none⟩) (cs := [.int .i64 x10.1.Events, .slice a9 x10.1.Places.length c9]) (by kernel_rfl) (fun w => by kernel_rfl) (by kernel_rfl) rfl (H28.cells (n := 2) (off := 0) 0 rfl rfl)) ?_
    refine Run_b [.int .i64 x10.2] 1 _ (by kernel_rfl) (fun w => by kernel_rfl) ?_
    obtain ⟨x11, hx11, hF⟩ := M.bind_some hF
    refine Run_E (by kernel_rfl) ?_
    refine E_call (f := 37) (args := #[.agg #[.int .i64 x10.1.Events, .slice a9 x10.1.Places.length c9], .int .i64 x10.2]) (w_impl_DropPlace h19 x10.1 a9 c9 (H28.rd 1 rfl) x10.2 _ _ hx11) (by kernel_rfl) (fun v10 h20 hp10 => ?_)
    obtain ⟨a10, c10, rfl, H29⟩ := hp10
    have H30 : Hold h h20 [own cd58 a10 x11.1.Places.length c10 x11.1.Places, box b5 30 [.int .i64 x10.1.Events, .slice a9 x10.1.Places.length c9], own cd58 a9 x10.1.Places.length c9 x10.1.Places, box b4 30 [.int .i64 x9.1.Events, .slice a8 x9.1.Places.length c8], own cd58 a8 x9.1.Places.length c8 x9.1.Places, box b3 30 [.int .i64 x8.1.Events, .slice a7 x8.1.Places.length c7], own cd58 a7 x8.1.Places.length c7 x8.1.Places, box b2 30 [.int .i64 x7.1.Events, .slice a6 x7.1.Places.length c6], own cd58 a6 x7.1.Places.length c6 x7.1.Places, own cd2 a5 x6.1.length c5 x6.1, own cd2 a4 x5.1.length c4 x5.1, own cd2 a3 x4.1.length c3 x4.1, own cd2 a2 x3.1.length c2 x3.1, box b1 30 [.int .i64 x2.1.Events, .slice a1 x2.1.Places.length c1], own cd58 a1 x2.1.Places.length c1 x2.1.Places] := H28.call H29 rfl
    refine Run_b [.tuple #[.agg #[.int .i64 x11.1.Events, .slice a10 x11.1.Places.length c10], .int .i64 x11.2], .agg #[.int .i64 x11.1.Events, .slice a10 x11.1.Places.length c10], .int .i64 x11.2] 3 _ (by kernel_rfl) (fun w => by kernel_rfl) ?_
    refine Run_E (by kernel_rfl) ?_
    refine E_box (ty := 30) (cs := [.int .i64 0, .slice none 0 0]) H30 (fun w => by kernel_rfl) (fun b6 h21 H31 => ?_)
    refine Run_E (by kernel_rfl) ?_
    refine E_bput (t := 30) (off := 0) (us := [.int .i64 x11.1.Events, .slice a10 x11.1.Places.length c10]) (v := .agg #[.int .i64 x11.1.Events, .slice a10 x11.1.Places.length c10]) H31 (by kernel_rfl) (by kernel_rfl) rfl (by kernel_rfl) rfl (fun h22 H32 => ?_)
    refine Run_b [.int .i64 x11.2] 8 _ (by kernel_rfl) (fun w => by kernel_rfl) ?_
    refine Run_nil (by kernel_rfl) ?_
    refine Run_keep [3, 5, 6, 7, 8, 9, 10, 11, 12, 13, 14, 17, 18, 19, 20, 21, 22, 23, 24] (L' := [(3, .pointer (some ⟨b1, 0, none⟩)), (5, .slice a2 x3.1.length c2), (6, .int .i64 x3.2), (7, .slice a3 x4.1.length c3), (8, .int .i64 x4.2), (9, .slice a4 x5.1.length c4), (10, .int .i64 x5.2), (11, .slice a5 x6.1.length c5), (12, .int .i64 x6.2), (13, .pointer (some ⟨b2, 0, none⟩)), (14, .int .i64 x7.2.1), (17, .pointer (some ⟨b3, 0, none⟩)), (18, .int .i64 x8.2), (19, .pointer (some ⟨b4, 0, none⟩)), (20, .int .i64 x9.2), (21, .pointer (some ⟨b5, 0, none⟩)), (22, .int .i64 x10.2), (23, .pointer (some ⟨b6, 0, none⟩)), (24, .int .i64 x11.2)]) (by kernel_rfl) ?_
    refine Run_seq ?_
    refine Run_ops ?_
    refine Run_y (.agg #[.int .i64 x10.1.Events, .slice a9 x10.1.Places.length c9]) (by kernel_rfl) (Y_loadA (t := 30) (n := 2) (p := ⟨b5, 0, none⟩) (cs := [.int .i64 x10.1.Events, .slice a9 x10.1.Places.length c9]) (by kernel_rfl) (fun w => by kernel_rfl) (by kernel_rfl) rfl (H32.cells (n := 2) (off := 0) 2 rfl rfl)) ?_
    refine Run_b [.int .i64 x10.2] 1 _ (by kernel_rfl) (fun w => by kernel_rfl) ?_
    obtain ⟨x12, hx12, hF⟩ := M.bind_some hF
    refine Run_E (by kernel_rfl) ?_
    refine E_call (f := 38) (args := #[.agg #[.int .i64 x10.1.Events, .slice a9 x10.1.Places.length c9], .int .i64 x10.2]) (w_spec_DropPlace h22 x10.1 a9 c9 (H32.rd 3 rfl) x10.2 _ _ hx12) (by kernel_rfl) (fun v11 h23 hp11 => ?_)
    obtain ⟨a11, c11, rfl, H33⟩ := hp11
    have H34 : Hold h h23 [own cd58 a11 x12.1.Places.length c11 x12.1.Places, box b6 30 [.int .i64 x11.1.Events, .slice a10 x11.1.Places.length c10], own cd58 a10 x11.1.Places.length c10 x11.1.Places, box b5 30 [.int .i64 x10.1.Events, .slice a9 x10.1.Places.length c9], own cd58 a9 x10.1.Places.length c9 x10.1.Places, box b4 30 [.int .i64 x9.1.Events, .slice a8 x9.1.Places.length c8], own cd58 a8 x9.1.Places.length c8 x9.1.Places, box b3 30 [.int .i64 x8.1.Events, .slice a7 x8.1.Places.length c7], own cd58 a7 x8.1.Places.length c7 x8.1.Places, box b2 30 [.int .i64 x7.1.Events, .slice a6 x7.1.Places.length c6], own cd58 a6 x7.1.Places.length c6 x7.1.Places, own cd2 a5 x6.1.length c5 x6.1, own cd2 a4 x5.1.length c4 x5.1, own cd2 a3 x4.1.length c3 x4.1, own cd2 a2 x3.1.length c2 x3.1, box b1 30 [.int .i64 x2.1.Events, .slice a1 x2.1.Places.length c1], own cd58 a1 x2.1.Places.length c1 x2.1.Places] := H32.call H33 rfl
    refine Run_b [.tuple #[.agg #[.int .i64 x12.1.Events, .slice a11 x12.1.Places.length c11], .int .i64 x12.2], .agg #[.int .i64 x12.1.Events, .slice a11 x12.1.Places.length c11], .int .i64 x12.2] 3 _ (by kernel_rfl) (fun w => by kernel_rfl) ?_
    refine Run_E (by kernel_rfl) ?_
    refine E_box (ty := 30) (cs := [.int .i64 0, .slice none 0 0]) H34 (fun w => by kernel_rfl) (fun b7 h24 H35 => ?_)
    refine Run_E (by kernel_rfl) ?_
    refine E_bput (t := 30) (off := 0) (us := [.int .i64 x12.1.Events, .slice a11 x12.1.Places.length c11]) (v := .agg #[.int .i64 x12.1.Events, .slice a11 x12.1.Places.length c11]) H35 (by kernel_rfl) (by kernel_rfl) rfl (by kernel_rfl) rfl (fun h25 H36 => ?_)
    refine Run_b [.int .i64 x12.2] 8 _ (by kernel_rfl) (fun w => by kernel_rfl) ?_
    refine Run_nil (by kernel_rfl) ?_
    refine Run_keep [3, 5, 6, 7, 8, 9, 10, 11, 12, 13, 14, 17, 18, 19, 20, 23, 24, 25, 26] (L' := [(3, .pointer (some ⟨b1, 0, none⟩)), (5, .slice a2 x3.1.length c2), (6, .int .i64 x3.2), (7, .slice a3 x4.1.length c3), (8, .int .i64 x4.2), (9, .slice a4 x5.1.length c4), (10, .int .i64 x5.2), (11, .slice a5 x6.1.length c5), (12, .int .i64 x6.2), (13, .pointer (some ⟨b2, 0, none⟩)), (14, .int .i64 x7.2.1), (17, .pointer (some ⟨b3, 0, none⟩)), (18, .int .i64 x8.2), (19, .pointer (some ⟨b4, 0, none⟩)), (20, .int .i64 x9.2), (23, .pointer (some ⟨b6, 0, none⟩)), (24, .int .i64 x11.2), (25, .pointer (some ⟨b7, 0, none⟩)), (26, .int .i64 x12.2)]) (by kernel_rfl) ?_
    refine Run_seq ?_
    refine Run_seq ?_
    obtain ⟨x13, gx13, hF⟩ := M.bind_some hF
    obtain ⟨x16, gx16, hF⟩ := M.bind_some hF
    obtain ⟨x19, gx19, hF⟩ := M.bind_some hF
    obtain ⟨x22, gx22, hF⟩ := M.bind_some hF
    refine Run_regC (j := 42) (C := fun x => Hold h x [box b7 30 [.int .i64 x12.1.Events, .slice a11 x12.1.Places.length c11], own cd58 a11 x12.1.Places.length c11 x12.1.Places, box b6 30 [.int .i64 x11.1.Events, .slice a10 x11.1.Places.length c10], own cd58 a10 x11.1.Places.length c10 x11.1.Places, box b5 30 [.int .i64 x10.1.Events, .slice a9 x10.1.Places.length c9], own cd58 a9 x10.1.Places.length c9 x10.1.Places, box b4 30 [.int .i64 x9.1.Events, .slice a8 x9.1.Places.length c8], own cd58 a8 x9.1.Places.length c8 x9.1.Places, box b3 30 [.int .i64 x8.1.Events, .slice a7 x8.1.Places.length c7], own cd58 a7 x8.1.Places.length c7 x8.1.Places, box b2 30 [.int .i64 x7.1.Events, .slice a6 x7.1.Places.length c6], own cd58 a6 x7.1.Places.length c6 x7.1.Places, own cd2 a5 x6.1.length c5 x6.1, own cd2 a4 x5.1.length c4 x5.1, own cd2 a3 x4.1.length c3 x4.1, own cd2 a2 x3.1.length c2 x3.1, box b1 30 [.int .i64 x2.1.Events, .slice a1 x2.1.Places.length c1], own cd58 a1 x2.1.Places.length c1 x2.1.Places]) (by kernel_rfl) H36 (L' := [(3, .pointer (some ⟨b1, 0, none⟩)), (6, .int .i64 x3.2), (13, .pointer (some ⟨b2, 0, none⟩)), (14, .int .i64 x7.2.1), (17, .pointer (some ⟨b3, 0, none⟩)), (18, .int .i64 x8.2), (147, .bool x22)]) ?_ (fun h26 H37 => ?_)
    · refine QRun_b [.int .i64 x3.2, .int .i64 x4.2, .bool (x3.2 != x4.2)] 0 _ (by kernel_rfl) (fun w => by kernel_rfl) ?_
      refine QRun_seq 9 [(3, .pointer (some ⟨b1, 0, none⟩)), (6, .int .i64 x3.2), (9, .slice a4 x5.1.length c4), (10, .int .i64 x5.2), (11, .slice a5 x6.1.length c5), (12, .int .i64 x6.2), (13, .pointer (some ⟨b2, 0, none⟩)), (14, .int .i64 x7.2.1), (17, .pointer (some ⟨b3, 0, none⟩)), (18, .int .i64 x8.2), (19, .pointer (some ⟨b4, 0, none⟩)), (20, .int .i64 x9.2), (23, .pointer (some ⟨b6, 0, none⟩)), (24, .int .i64 x11.2), (25, .pointer (some ⟨b7, 0, none⟩)), (26, .int .i64 x12.2), (114, .bool x13)] ?_ ?_
      · rcases Bool.eq_false_or_eq_true (x3.2 != x4.2) with hb2 | hb2
        · refine QRun_bool (x3.2 != x4.2) true (by kernel_rfl) (fun w => by kernel_rfl) hb2 ?_
          have gx13 := M.ret_some ((M.ite_some gx13).1 hb2)
          refine QRun_n (by kernel_rfl) ?_
          refine QRun_n (by kernel_rfl) ?_
          refine QRun_n (by kernel_rfl) ?_
          refine QRun_n (by kernel_rfl) ?_
          refine QRun_bool true x13 (by kernel_rfl) (fun w => by kernel_rfl) gx13 ?_
          exact QRun_done [3, 6, 9, 10, 11, 12, 13, 14, 17, 18, 19, 20, 23, 24, 25, 26, 114] (by kernel_rfl) (by kernel_rfl)
        · refine QRun_bool (x3.2 != x4.2) false (by kernel_rfl) (fun w => by kernel_rfl) hb2 ?_
          have gx13 := (M.ite_some gx13).2 hb2
          obtain ⟨x14, hx13, gx13⟩ := M.bind_some gx13
          have gx13 := M.ret_some gx13
          refine QRun_b [.slice a2 x3.1.length c2, .slice a3 x4.1.length c3] 4 _ (by kernel_rfl) (fun w => by kernel_rfl) ?_
          refine QRun_y (.bool x14) (by kernel_rfl) (Y_cls fun hx Hx => (Y_callq (f := 39) (args := #[.slice a2 x3.1.length c2, .slice a3 x4.1.length c3]) (v := .bool x14) (by kernel_rfl) (w_laws_likeInts hx x3.1 a2 c2 (Hx.rd 15 rfl) x4.1 a3 c3 (Hx.rd 14 rfl) _ _ hx13))) ?_
          refine QRun_b [.bool (!x14)] 7 _ (by kernel_rfl) (fun w => by kernel_rfl) ?_
          refine QRun_bool (!x14) x13 (by kernel_rfl) (fun w => by kernel_rfl) gx13 ?_
          exact QRun_done [3, 6, 9, 10, 11, 12, 13, 14, 17, 18, 19, 20, 23, 24, 25, 26, 114] (by kernel_rfl) (by kernel_rfl)
      refine QRun_seq 14 [(3, .pointer (some ⟨b1, 0, none⟩)), (6, .int .i64 x3.2), (9, .slice a4 x5.1.length c4), (11, .slice a5 x6.1.length c5), (13, .pointer (some ⟨b2, 0, none⟩)), (14, .int .i64 x7.2.1), (17, .pointer (some ⟨b3, 0, none⟩)), (18, .int .i64 x8.2), (19, .pointer (some ⟨b4, 0, none⟩)), (20, .int .i64 x9.2), (23, .pointer (some ⟨b6, 0, none⟩)), (24, .int .i64 x11.2), (25, .pointer (some ⟨b7, 0, none⟩)), (26, .int .i64 x12.2), (119, .bool (x13 || (x5.2 != x6.2)))] ?_ ?_
      · rcases Bool.eq_false_or_eq_true x13 with hb3 | hb3
        · refine QRun_bool x13 true (by kernel_rfl) (fun w => by kernel_rfl) hb3 ?_
          refine QRun_n (by kernel_rfl) ?_
          refine QRun_n (by kernel_rfl) ?_
          refine QRun_n (by kernel_rfl) ?_
          refine QRun_bool true (x13 || (x5.2 != x6.2)) (by kernel_rfl) (fun w => by kernel_rfl) (by rw [hb3]; rfl) ?_
          exact QRun_done [3, 6, 9, 11, 13, 14, 17, 18, 19, 20, 23, 24, 25, 26, 119] (by kernel_rfl) (by kernel_rfl)
        · refine QRun_bool x13 false (by kernel_rfl) (fun w => by kernel_rfl) hb3 ?_
          refine QRun_b [.int .i64 x5.2, .int .i64 x6.2, .bool (x5.2 != x6.2)] 10 _ (by kernel_rfl) (fun w => by kernel_rfl) ?_
          refine QRun_bool (x5.2 != x6.2) (x13 || (x5.2 != x6.2)) (by kernel_rfl) (fun w => by kernel_rfl) (by rw [hb3]; rfl) ?_
          exact QRun_done [3, 6, 9, 11, 13, 14, 17, 18, 19, 20, 23, 24, 25, 26, 119] (by kernel_rfl) (by kernel_rfl)
      refine QRun_seq 20 [(3, .pointer (some ⟨b1, 0, none⟩)), (6, .int .i64 x3.2), (13, .pointer (some ⟨b2, 0, none⟩)), (14, .int .i64 x7.2.1), (17, .pointer (some ⟨b3, 0, none⟩)), (18, .int .i64 x8.2), (19, .pointer (some ⟨b4, 0, none⟩)), (20, .int .i64 x9.2), (23, .pointer (some ⟨b6, 0, none⟩)), (24, .int .i64 x11.2), (25, .pointer (some ⟨b7, 0, none⟩)), (26, .int .i64 x12.2), (125, .bool x16)] ?_ ?_
      · rcases Bool.eq_false_or_eq_true (x13 || (x5.2 != x6.2)) with hb4 | hb4
        · refine QRun_bool (x13 || (x5.2 != x6.2)) true (by kernel_rfl) (fun w => by kernel_rfl) hb4 ?_
          have gx16 := M.ret_some ((M.ite_some gx16).1 hb4)
          refine QRun_n (by kernel_rfl) ?_
          refine QRun_n (by kernel_rfl) ?_
          refine QRun_n (by kernel_rfl) ?_
          refine QRun_n (by kernel_rfl) ?_
          refine QRun_bool true x16 (by kernel_rfl) (fun w => by kernel_rfl) gx16 ?_
          exact QRun_done [3, 6, 13, 14, 17, 18, 19, 20, 23, 24, 25, 26, 125] (by kernel_rfl) (by kernel_rfl)
        · refine QRun_bool (x13 || (x5.2 != x6.2)) false (by kernel_rfl) (fun w => by kernel_rfl) hb4 ?_
          have gx16 := (M.ite_some gx16).2 hb4
          obtain ⟨x17, hx14, gx16⟩ := M.bind_some gx16
          have gx16 := M.ret_some gx16
          refine QRun_b [.slice a4 x5.1.length c4, .slice a5 x6.1.length c5] 15 _ (by kernel_rfl) (fun w => by kernel_rfl) ?_
          refine QRun_y (.bool x17) (by kernel_rfl) (Y_cls fun hx Hx => (Y_callq (f := 39) (args := #[.slice a4 x5.1.length c4, .slice a5 x6.1.length c5]) (v := .bool x17) (by kernel_rfl) (w_laws_likeInts hx x5.1 a4 c4 (Hx.rd 13 rfl) x6.1 a5 c5 (Hx.rd 12 rfl) _ _ hx14))) ?_
          refine QRun_b [.bool (!x17)] 18 _ (by kernel_rfl) (fun w => by kernel_rfl) ?_
          refine QRun_bool (!x17) x16 (by kernel_rfl) (fun w => by kernel_rfl) gx16 ?_
          exact QRun_done [3, 6, 13, 14, 17, 18, 19, 20, 23, 24, 25, 26, 125] (by kernel_rfl) (by kernel_rfl)
      refine QRun_seq 25 [(3, .pointer (some ⟨b1, 0, none⟩)), (6, .int .i64 x3.2), (13, .pointer (some ⟨b2, 0, none⟩)), (14, .int .i64 x7.2.1), (17, .pointer (some ⟨b3, 0, none⟩)), (18, .int .i64 x8.2), (19, .pointer (some ⟨b4, 0, none⟩)), (23, .pointer (some ⟨b6, 0, none⟩)), (24, .int .i64 x11.2), (25, .pointer (some ⟨b7, 0, none⟩)), (26, .int .i64 x12.2), (130, .bool (x16 || (x8.2 != x9.2)))] ?_ ?_
      · rcases Bool.eq_false_or_eq_true x16 with hb5 | hb5
        · refine QRun_bool x16 true (by kernel_rfl) (fun w => by kernel_rfl) hb5 ?_
          refine QRun_n (by kernel_rfl) ?_
          refine QRun_n (by kernel_rfl) ?_
          refine QRun_n (by kernel_rfl) ?_
          refine QRun_bool true (x16 || (x8.2 != x9.2)) (by kernel_rfl) (fun w => by kernel_rfl) (by rw [hb5]; rfl) ?_
          exact QRun_done [3, 6, 13, 14, 17, 18, 19, 23, 24, 25, 26, 130] (by kernel_rfl) (by kernel_rfl)
        · refine QRun_bool x16 false (by kernel_rfl) (fun w => by kernel_rfl) hb5 ?_
          refine QRun_b [.int .i64 x8.2, .int .i64 x9.2, .bool (x8.2 != x9.2)] 21 _ (by kernel_rfl) (fun w => by kernel_rfl) ?_
          refine QRun_bool (x8.2 != x9.2) (x16 || (x8.2 != x9.2)) (by kernel_rfl) (fun w => by kernel_rfl) (by rw [hb5]; rfl) ?_
          exact QRun_done [3, 6, 13, 14, 17, 18, 19, 23, 24, 25, 26, 130] (by kernel_rfl) (by kernel_rfl)
      refine QRun_seq 31 [(3, .pointer (some ⟨b1, 0, none⟩)), (6, .int .i64 x3.2), (13, .pointer (some ⟨b2, 0, none⟩)), (14, .int .i64 x7.2.1), (17, .pointer (some ⟨b3, 0, none⟩)), (18, .int .i64 x8.2), (23, .pointer (some ⟨b6, 0, none⟩)), (24, .int .i64 x11.2), (25, .pointer (some ⟨b7, 0, none⟩)), (26, .int .i64 x12.2), (136, .bool x19)] ?_ ?_
      · rcases Bool.eq_false_or_eq_true (x16 || (x8.2 != x9.2)) with hb6 | hb6
        · refine QRun_bool (x16 || (x8.2 != x9.2)) true (by kernel_rfl) (fun w => by kernel_rfl) hb6 ?_
          have gx19 := M.ret_some ((M.ite_some gx19).1 hb6)
          refine QRun_n (by kernel_rfl) ?_
          refine QRun_n (by kernel_rfl) ?_
          refine QRun_n (by kernel_rfl) ?_
          refine QRun_n (by kernel_rfl) ?_
          refine QRun_bool true x19 (by kernel_rfl) (fun w => by kernel_rfl) gx19 ?_
          exact QRun_done [3, 6, 13, 14, 17, 18, 23, 24, 25, 26, 136] (by kernel_rfl) (by kernel_rfl)
        · refine QRun_bool (x16 || (x8.2 != x9.2)) false (by kernel_rfl) (fun w => by kernel_rfl) hb6 ?_
          have gx19 := (M.ite_some gx19).2 hb6
          obtain ⟨x20, hx15, gx19⟩ := M.bind_some gx19
          have gx19 := M.ret_some gx19
          refine QRun_y (.agg #[.int .i64 x8.1.Events, .slice a7 x8.1.Places.length c7]) (by kernel_rfl) (Y_cls fun hx Hx => (Y_loadA (t := 30) (n := 2) (p := ⟨b3, 0, none⟩) (cs := [.int .i64 x8.1.Events, .slice a7 x8.1.Places.length c7]) (by kernel_rfl) (fun w => by kernel_rfl) (by kernel_rfl) rfl (Hx.cells (n := 2) (off := 0) 8 rfl rfl))) ?_
          refine QRun_y (.agg #[.int .i64 x9.1.Events, .slice a8 x9.1.Places.length c8]) (by kernel_rfl) (Y_cls fun hx Hx => (Y_loadA (t := 30) (n := 2) (p := ⟨b4, 0, none⟩) (cs := [.int .i64 x9.1.Events, .slice a8 x9.1.Places.length c8]) (by kernel_rfl) (fun w => by kernel_rfl) (by kernel_rfl) rfl (Hx.cells (n := 2) (off := 0) 6 rfl rfl))) ?_
          refine QRun_y (.bool x20) (by kernel_rfl) (Y_call (f := 40) (args := #[.agg #[.int .i64 x8.1.Events, .slice a7 x8.1.Places.length c7], .agg #[.int .i64 x9.1.Events, .slice a8 x9.1.Places.length c8]]) (v := .bool x20) (by kernel_rfl) fun hx Hx => (w_laws_likeGraphs9 hx x8.1 a7 c7 (Hx.rd 9 rfl) x9.1 a8 c8 (Hx.rd 7 rfl) _ _ hx15).mono fun _ _ ⟨e, H'⟩ => ⟨e, Hx.call H' rfl⟩) ?_
          refine QRun_b [.bool (!x20)] 29 _ (by kernel_rfl) (fun w => by kernel_rfl) ?_
          refine QRun_bool (!x20) x19 (by kernel_rfl) (fun w => by kernel_rfl) gx19 ?_
          exact QRun_done [3, 6, 13, 14, 17, 18, 23, 24, 25, 26, 136] (by kernel_rfl) (by kernel_rfl)
      refine QRun_seq 36 [(3, .pointer (some ⟨b1, 0, none⟩)), (6, .int .i64 x3.2), (13, .pointer (some ⟨b2, 0, none⟩)), (14, .int .i64 x7.2.1), (17, .pointer (some ⟨b3, 0, none⟩)), (18, .int .i64 x8.2), (23, .pointer (some ⟨b6, 0, none⟩)), (25, .pointer (some ⟨b7, 0, none⟩)), (141, .bool (x19 || (x11.2 != x12.2)))] ?_ ?_
      · rcases Bool.eq_false_or_eq_true x19 with hb7 | hb7
        · refine QRun_bool x19 true (by kernel_rfl) (fun w => by kernel_rfl) hb7 ?_
          refine QRun_n (by kernel_rfl) ?_
          refine QRun_n (by kernel_rfl) ?_
          refine QRun_n (by kernel_rfl) ?_
          refine QRun_bool true (x19 || (x11.2 != x12.2)) (by kernel_rfl) (fun w => by kernel_rfl) (by rw [hb7]; rfl) ?_
          exact QRun_done [3, 6, 13, 14, 17, 18, 23, 25, 141] (by kernel_rfl) (by kernel_rfl)
        · refine QRun_bool x19 false (by kernel_rfl) (fun w => by kernel_rfl) hb7 ?_
          refine QRun_b [.int .i64 x11.2, .int .i64 x12.2, .bool (x11.2 != x12.2)] 32 _ (by kernel_rfl) (fun w => by kernel_rfl) ?_
          refine QRun_bool (x11.2 != x12.2) (x19 || (x11.2 != x12.2)) (by kernel_rfl) (fun w => by kernel_rfl) (by rw [hb7]; rfl) ?_
          exact QRun_done [3, 6, 13, 14, 17, 18, 23, 25, 141] (by kernel_rfl) (by kernel_rfl)
      refine QRun_seq 42 [(3, .pointer (some ⟨b1, 0, none⟩)), (6, .int .i64 x3.2), (13, .pointer (some ⟨b2, 0, none⟩)), (14, .int .i64 x7.2.1), (17, .pointer (some ⟨b3, 0, none⟩)), (18, .int .i64 x8.2), (147, .bool x22)] ?_ ?_
      · rcases Bool.eq_false_or_eq_true (x19 || (x11.2 != x12.2)) with hb8 | hb8
        · refine QRun_bool (x19 || (x11.2 != x12.2)) true (by kernel_rfl) (fun w => by kernel_rfl) hb8 ?_
          have gx22 := M.ret_some ((M.ite_some gx22).1 hb8)
          refine QRun_n (by kernel_rfl) ?_
          refine QRun_n (by kernel_rfl) ?_
          refine QRun_n (by kernel_rfl) ?_
          refine QRun_n (by kernel_rfl) ?_
          refine QRun_bool true x22 (by kernel_rfl) (fun w => by kernel_rfl) gx22 ?_
          exact QRun_done [3, 6, 13, 14, 17, 18, 147] (by kernel_rfl) (by kernel_rfl)
        · refine QRun_bool (x19 || (x11.2 != x12.2)) false (by kernel_rfl) (fun w => by kernel_rfl) hb8 ?_
          have gx22 := (M.ite_some gx22).2 hb8
          obtain ⟨x23, hx16, gx22⟩ := M.bind_some gx22
          have gx22 := M.ret_some gx22
          refine QRun_y (.agg #[.int .i64 x11.1.Events, .slice a10 x11.1.Places.length c10]) (by kernel_rfl) (Y_cls fun hx Hx => (Y_loadA (t := 30) (n := 2) (p := ⟨b6, 0, none⟩) (cs := [.int .i64 x11.1.Events, .slice a10 x11.1.Places.length c10]) (by kernel_rfl) (fun w => by kernel_rfl) (by kernel_rfl) rfl (Hx.cells (n := 2) (off := 0) 2 rfl rfl))) ?_
          refine QRun_y (.agg #[.int .i64 x12.1.Events, .slice a11 x12.1.Places.length c11]) (by kernel_rfl) (Y_cls fun hx Hx => (Y_loadA (t := 30) (n := 2) (p := ⟨b7, 0, none⟩) (cs := [.int .i64 x12.1.Events, .slice a11 x12.1.Places.length c11]) (by kernel_rfl) (fun w => by kernel_rfl) (by kernel_rfl) rfl (Hx.cells (n := 2) (off := 0) 0 rfl rfl))) ?_
          refine QRun_y (.bool x23) (by kernel_rfl) (Y_call (f := 40) (args := #[.agg #[.int .i64 x11.1.Events, .slice a10 x11.1.Places.length c10], .agg #[.int .i64 x12.1.Events, .slice a11 x12.1.Places.length c11]]) (v := .bool x23) (by kernel_rfl) fun hx Hx => (w_laws_likeGraphs9 hx x11.1 a10 c10 (Hx.rd 3 rfl) x12.1 a11 c11 (Hx.rd 1 rfl) _ _ hx16).mono fun _ _ ⟨e, H'⟩ => ⟨e, Hx.call H' rfl⟩) ?_
          refine QRun_b [.bool (!x23)] 40 _ (by kernel_rfl) (fun w => by kernel_rfl) ?_
          refine QRun_bool (!x23) x22 (by kernel_rfl) (fun w => by kernel_rfl) gx22 ?_
          exact QRun_done [3, 6, 13, 14, 17, 18, 147] (by kernel_rfl) (by kernel_rfl)
      exact QRun_done [3, 6, 13, 14, 17, 18, 147] (by kernel_rfl) (by kernel_rfl)
    have H38 : Hold h h26 [box b7 30 [.int .i64 x12.1.Events, .slice a11 x12.1.Places.length c11], own cd58 a11 x12.1.Places.length c11 x12.1.Places, box b6 30 [.int .i64 x11.1.Events, .slice a10 x11.1.Places.length c10], own cd58 a10 x11.1.Places.length c10 x11.1.Places, box b5 30 [.int .i64 x10.1.Events, .slice a9 x10.1.Places.length c9], own cd58 a9 x10.1.Places.length c9 x10.1.Places, box b4 30 [.int .i64 x9.1.Events, .slice a8 x9.1.Places.length c8], own cd58 a8 x9.1.Places.length c8 x9.1.Places, box b3 30 [.int .i64 x8.1.Events, .slice a7 x8.1.Places.length c7], own cd58 a7 x8.1.Places.length c7 x8.1.Places, box b2 30 [.int .i64 x7.1.Events, .slice a6 x7.1.Places.length c6], own cd58 a6 x7.1.Places.length c6 x7.1.Places, own cd2 a5 x6.1.length c5 x6.1, own cd2 a4 x5.1.length c4 x5.1, own cd2 a3 x4.1.length c3 x4.1, own cd2 a2 x3.1.length c2 x3.1, box b1 30 [.int .i64 x2.1.Events, .slice a1 x2.1.Places.length c1], own cd58 a1 x2.1.Places.length c1 x2.1.Places] := H37
    refine Run_cond (b := x22) (by kernel_rfl) (fun hb9 => ?_) (fun hb9 => ?_)
    · have hF := (M.ite_some hF).1 hb9
      refine Run_seq ?_
      refine Run_reg 1 (by kernel_rfl) (L' := [(2, .bool false)]) ?_ ?_
      · refine QRun_b [.bool false] 0 _ (by kernel_rfl) (fun w => by kernel_rfl) ?_
        exact QRun_done [2] (by kernel_rfl) (by kernel_rfl)
      have hF := M.ret_some hF
      subst hF
      have H39 : Hold h h26 [] := H38.pick [] (by kernel_rfl)
      exact Run_ret1 rfl (ResV_tmp (v := .bool false) (by kernel_rfl)) ⟨rfl, H39⟩
    · have hF := (M.ite_some hF).2 hb9
      refine Run_skip ?_
      refine Run_seq ?_
      refine Run_seq ?_
      refine Run_reg 2 (by kernel_rfl) (L' := [(3, .pointer (some ⟨b1, 0, none⟩)), (6, .int .i64 x3.2), (13, .pointer (some ⟨b2, 0, none⟩)), (14, .int .i64 x7.2.1), (17, .pointer (some ⟨b3, 0, none⟩)), (149, .bool (x8.2 == 0))]) ?_ ?_
      · refine QRun_b [.int .i64 x8.2, .bool (x8.2 == 0)] 0 _ (by kernel_rfl) (fun w => by kernel_rfl) ?_
        exact QRun_done [3, 6, 13, 14, 17, 149] (by kernel_rfl) (by kernel_rfl)
      refine Run_cond (b := x8.2 == 0) (by kernel_rfl) (fun hb10 => ?_) (fun hb10 => ?_)
      · have hF := (M.ite_some hF).1 hb10
        refine Run_seq ?_
        obtain ⟨s1, gs1, hF⟩ := M.bind_some hF
        refine Run_join (fun L' h' => ∃ (b10 : Nat), ∃ (a14 : Option Addr), ∃ (c14 : Nat), L' = [(3, .pointer (some ⟨b1, 0, none⟩)), (6, .int .i64 x3.2), (13, .pointer (some ⟨b2, 0, none⟩)), (27, .pointer (some ⟨b10, 0, none⟩)), (28, .int .i64 s1.2.2)] ∧ Hold h h' [box b1 30 [.int .i64 x2.1.Events, .slice a1 x2.1.Places.length c1], own cd58 a1 x2.1.Places.length c1 x2.1.Places, box b2 30 [.int .i64 x7.1.Events, .slice a6 x7.1.Places.length c6], own cd58 a6 x7.1.Places.length c6 x7.1.Places, box b10 30 [.int .i64 s1.1, .slice a14 s1.2.1.length c14], own cd58 a14 s1.2.1.length c14 s1.2.1]) ?_ ?_
        · rintro _ h41 ⟨b10, a14, c14, rfl, H65⟩
          refine Run_seq ?_
          obtain ⟨x30, gx30, hF⟩ := M.bind_some hF
          refine Run_regC (j := 8) (C := fun x => Hold h x [box b1 30 [.int .i64 x2.1.Events, .slice a1 x2.1.Places.length c1], own cd58 a1 x2.1.Places.length c1 x2.1.Places, box b2 30 [.int .i64 x7.1.Events, .slice a6 x7.1.Places.length c6], own cd58 a6 x7.1.Places.length c6 x7.1.Places, box b10 30 [.int .i64 s1.1, .slice a14 s1.2.1.length c14], own cd58 a14 s1.2.1.length c14 s1.2.1]) (by kernel_rfl) H65 (L' := [(3, .pointer (some ⟨b1, 0, none⟩)), (6, .int .i64 x3.2), (175, .bool x30)]) ?_ (fun h42 H74 => ?_)
          · refine QRun_b [.int .i64 s1.2.2, .bool (s1.2.2 != 0)] 0 _ (by kernel_rfl) (fun w => by kernel_rfl) ?_
            refine QRun_seq 8 [(3, .pointer (some ⟨b1, 0, none⟩)), (6, .int .i64 x3.2), (175, .bool x30)] ?_ ?_
            · rcases Bool.eq_false_or_eq_true (s1.2.2 != 0) with hb11 | hb11
              · refine QRun_bool (s1.2.2 != 0) true (by kernel_rfl) (fun w => by kernel_rfl) hb11 ?_
                have gx30 := M.ret_some ((M.ite_some gx30).1 hb11)
                refine QRun_n (by kernel_rfl) ?_
                refine QRun_n (by kernel_rfl) ?_
                refine QRun_n (by kernel_rfl) ?_
                refine QRun_n (by kernel_rfl) ?_
                refine QRun_bool true x30 (by kernel_rfl) (fun w => by kernel_rfl) gx30 ?_
                exact QRun_done [3, 6, 175] (by kernel_rfl) (by kernel_rfl)
              · refine QRun_bool (s1.2.2 != 0) false (by kernel_rfl) (fun w => by kernel_rfl) hb11 ?_
                have gx30 := (M.ite_some gx30).2 hb11
                obtain ⟨x31, hx23, gx30⟩ := M.bind_some gx30
                have gx30 := M.ret_some gx30
                refine QRun_y (.agg #[.int .i64 s1.1, .slice a14 s1.2.1.length c14]) (by kernel_rfl) (Y_cls fun hx Hx => (Y_loadA (t := 30) (n := 2) (p := ⟨b10, 0, none⟩) (cs := [.int .i64 s1.1, .slice a14 s1.2.1.length c14]) (by kernel_rfl) (fun w => by kernel_rfl) (by kernel_rfl) rfl (Hx.cells (n := 2) (off := 0) 4 rfl rfl))) ?_
                refine QRun_y (.agg #[.int .i64 x7.1.Events, .slice a6 x7.1.Places.length c6]) (by kernel_rfl) (Y_cls fun hx Hx => (Y_loadA (t := 30) (n := 2) (p := ⟨b2, 0, none⟩) (cs := [.int .i64 x7.1.Events, .slice a6 x7.1.Places.length c6]) (by kernel_rfl) (fun w => by kernel_rfl) (by kernel_rfl) rfl (Hx.cells (n := 2) (off := 0) 2 rfl rfl))) ?_
                refine QRun_y (.bool x31) (by kernel_rfl) (Y_call (f := 40) (args := #[.agg #[.int .i64 s1.1, .slice a14 s1.2.1.length c14], .agg #[.int .i64 x7.1.Events, .slice a6 x7.1.Places.length c6]]) (v := .bool x31) (by kernel_rfl) fun hx Hx => (w_laws_likeGraphs9 hx (⟨s1.1, s1.2.1⟩ : TGraph) a14 c14 (Hx.rd 5 rfl) x7.1 a6 c6 (Hx.rd 3 rfl) _ _ hx23).mono fun _ _ ⟨e, H'⟩ => ⟨e, Hx.call H' rfl⟩) ?_
                refine QRun_b [.bool (!x31)] 6 _ (by kernel_rfl) (fun w => by kernel_rfl) ?_
                refine QRun_bool (!x31) x30 (by kernel_rfl) (fun w => by kernel_rfl) gx30 ?_
                exact QRun_done [3, 6, 175] (by kernel_rfl) (by kernel_rfl)
            exact QRun_done [3, 6, 175] (by kernel_rfl) (by kernel_rfl)
          have H75 : Hold h h42 [box b1 30 [.int .i64 x2.1.Events, .slice a1 x2.1.Places.length c1], own cd58 a1 x2.1.Places.length c1 x2.1.Places, box b2 30 [.int .i64 x7.1.Events, .slice a6 x7.1.Places.length c6], own cd58 a6 x7.1.Places.length c6 x7.1.Places, box b10 30 [.int .i64 s1.1, .slice a14 s1.2.1.length c14], own cd58 a14 s1.2.1.length c14 s1.2.1] := H74
          refine Run_cond (b := x30) (by kernel_rfl) (fun hb12 => ?_) (fun hb12 => ?_)
          · have hF := (M.ite_some hF).1 hb12
            refine Run_seq ?_
            refine Run_reg 1 (by kernel_rfl) (L' := [(2, .bool false)]) ?_ ?_
            · refine QRun_b [.bool false] 0 _ (by kernel_rfl) (fun w => by kernel_rfl) ?_
              exact QRun_done [2] (by kernel_rfl) (by kernel_rfl)
            have hF := M.ret_some hF
            subst hF
            have H76 : Hold h h42 [] := H75.pick [] (by kernel_rfl)
            exact Run_ret1 rfl (ResV_tmp (v := .bool false) (by kernel_rfl)) ⟨rfl, H76⟩
          · have hF := (M.ite_some hF).2 hb12
            refine Run_skip ?_
            refine Run_seq ?_
            refine Run_seq ?_
            refine Run_reg 2 (by kernel_rfl) (L' := [(3, .pointer (some ⟨b1, 0, none⟩)), (177, .bool (x3.2 != 0))]) ?_ ?_
            · refine QRun_b [.int .i64 x3.2, .bool (x3.2 != 0)] 0 _ (by kernel_rfl) (fun w => by kernel_rfl) ?_
              exact QRun_done [3, 177] (by kernel_rfl) (by kernel_rfl)
            refine Run_cond (b := x3.2 != 0) (by kernel_rfl) (fun hb13 => ?_) (fun hb13 => ?_)
            · have hF := (M.ite_some hF).1 hb13
              refine Run_seq ?_
              refine Run_reg 1 (by kernel_rfl) (L' := [(2, .bool true)]) ?_ ?_
              · refine QRun_b [.bool true] 0 _ (by kernel_rfl) (fun w => by kernel_rfl) ?_
                exact QRun_done [2] (by kernel_rfl) (by kernel_rfl)
              have hF := M.ret_some hF
              subst hF
              have H77 : Hold h h42 [] := H75.pick [] (by kernel_rfl)
              exact Run_ret1 rfl (ResV_tmp (v := .bool true) (by kernel_rfl)) ⟨rfl, H77⟩
            · have hF := (M.ite_some hF).2 hb13
              refine Run_skip ?_
              refine Run_seq ?_
              refine Run_reg 1 (by kernel_rfl) (L' := [(3, .pointer (some ⟨b1, 0, none⟩)), (29, .int .i64 0)]) ?_ ?_
              · refine QRun_b [.int .i64 0] 0 _ (by kernel_rfl) (fun w => by kernel_rfl) ?_
                exact QRun_done [3, 29] (by kernel_rfl) (by kernel_rfl)
              refine Run_seq ?_
              refine Run_seq ?_
              refine Run_reg 1 (by kernel_rfl) (L' := [(3, .pointer (some ⟨b1, 0, none⟩)), (29, .int .i64 0), (30, .int .i64 0)]) ?_ ?_
              · refine QRun_b [.int .i64 0] 0 _ (by kernel_rfl) (fun w => by kernel_rfl) ?_
                exact QRun_done [3, 29, 30] (by kernel_rfl) (by kernel_rfl)
              obtain ⟨x32, gx32, hF⟩ := M.bind_some hF
              refine Run_join (fun L' h' => ∃ (s3 : Int × Int), x32 = .inl s3 ∧ L' = [(3, .pointer (some ⟨b1, 0, none⟩)), (29, .int .i64 s3.1)] ∧ Hold h h' [box b1 30 [.int .i64 x2.1.Events, .slice a1 x2.1.Places.length c1], own cd58 a1 x2.1.Places.length c1 x2.1.Places]) ?_ ?_
              · rintro _ h44 ⟨s3, es3, rfl, H79⟩
                have hF := M.cont_inl' hF es3
                refine Run_seq ?_
                refine Run_reg 7 (by kernel_rfl) (L' := [(2, .bool (s3.1 == (w64 (2 * (x2.1.Places.length : Int)))))]) ?_ ?_
                · refine QRun_b [.int .i64 s3.1, .pointer (some ⟨b1, 1, none⟩)] 0 _ (by kernel_rfl) (fun w => by kernel_rfl) ?_
                  refine QRun_y (.slice a1 x2.1.Places.length c1) (by kernel_rfl) (Y_load1 (t := 28) (p := ⟨b1, 1, none⟩) (v := .slice a1 x2.1.Places.length c1) (by kernel_rfl) (fun w => by kernel_rfl) (H79.cell 0 rfl rfl)) ?_
                  refine QRun_b [.int .i64 (x2.1.Places.length : Int), .int .i64 (w64 (2 * (x2.1.Places.length : Int))), .bool (s3.1 == (w64 (2 * (x2.1.Places.length : Int)))), .bool (s3.1 == (w64 (2 * (x2.1.Places.length : Int))))] 3 _ (by kernel_rfl) (fun w => by kernel_rfl) ?_
                  exact QRun_done [2] (by kernel_rfl) (by kernel_rfl)
                have hF := M.ret_some hF
                subst hF
                have H86 : Hold h h44 [] := H79.pick [] (by kernel_rfl)
                exact Run_ret1 rfl (ResV_tmp (v := .bool (s3.1 == (w64 (2 * (x2.1.Places.length : Int))))) (by kernel_rfl)) ⟨rfl, H86⟩
              · refine Run_block ?_
                have H87 : Hold h h42 [box b1 30 [.int .i64 x2.1.Events, .slice a1 x2.1.Places.length c1], own cd58 a1 x2.1.Places.length c1 x2.1.Places] := H75.pick [0, 1] (by kernel_rfl)
                refine Run_keep [3, 29, 30] (L' := [(3, .pointer (some ⟨b1, 0, none⟩)), (29, .int .i64 0), (30, .int .i64 0)]) (by kernel_rfl) ?_
                refine Run_loop (fun m L' h' => ∃ (s2 : Int × Int), M.loopN _ n m s2 = some x32 ∧ L' = [(3, .pointer (some ⟨b1, 0, none⟩)), (29, .int .i64 s2.1), (30, .int .i64 s2.2)] ∧ Hold h h' [box b1 30 [.int .i64 x2.1.Events, .slice a1 x2.1.Places.length c1], own cd58 a1 x2.1.Places.length c1 x2.1.Places]) n ⟨(0, 0), gx32, rfl, H87⟩ ?_
                rintro my1 _ h43 ⟨s2, gx32, rfl, H78⟩
                obtain ⟨my1, y1, rfl, hB1, hgoy1, houty1⟩ := M.loop_some gx32
                refine Run_seq ?_
                refine Run_seq ?_
                refine Run_reg 4 (by kernel_rfl) (L' := [(3, .pointer (some ⟨b1, 0, none⟩)), (29, .int .i64 s2.1), (30, .int .i64 s2.2), (181, .bool (decide (s2.2 < x2.1.Events)))]) ?_ ?_
                · refine QRun_b [.int .i64 s2.2, .pointer (some ⟨b1, 0, none⟩)] 0 _ (by kernel_rfl) (fun w => by kernel_rfl) ?_
                  refine QRun_y (.int .i64 x2.1.Events) (by kernel_rfl) (Y_load1 (t := 2) (p := ⟨b1, 0, none⟩) (v := .int .i64 x2.1.Events) (by kernel_rfl) (fun w => by kernel_rfl) (H78.cell 0 rfl rfl)) ?_
                  refine QRun_b [.bool (decide (s2.2 < x2.1.Events))] 3 _ (by kernel_rfl) (fun w => by kernel_rfl) ?_
                  exact QRun_done [3, 29, 30, 181] (by kernel_rfl) (by kernel_rfl)
                refine Run_cond (b := decide (s2.2 < x2.1.Events)) (by kernel_rfl) (fun hb14 => ?_) (fun hb14 => ?_)
                · have hB1 := (M.ite_some hB1).1 hb14
                  refine Run_skip ?_
                  refine Run_seq ?_
                  refine Run_block ?_
                  refine Run_seq ?_
                  refine Run_ops ?_
                  refine Run_y (.agg #[.int .i64 x2.1.Events, .slice a1 x2.1.Places.length c1]) (by kernel_rfl) (Y_loadA (t := 30) (n := 2) (p := ⟨b1, 0, none⟩) (cs := [.int .i64 x2.1.Events, .slice a1 x2.1.Places.length c1]) (by kernel_rfl) (fun w => by kernel_rfl) (by kernel_rfl) rfl (H78.cells (n := 2) (off := 0) 0 rfl rfl)) ?_
                  refine Run_b [.int .i64 s2.2] 1 _ (by kernel_rfl) (fun w => by kernel_rfl) ?_
                  obtain ⟨x33, hx24, hB1⟩ := M.bind_some hB1
                  refine Run_E (by kernel_rfl) ?_
                  refine E_call (f := 29) (args := #[.agg #[.int .i64 x2.1.Events, .slice a1 x2.1.Places.length c1], .int .i64 s2.2]) (w_impl_PlacesInto h43 x2.1 a1 c1 (H78.rd 1 rfl) s2.2 _ _ hx24) (by kernel_rfl) (fun v14 h45 hp14 => ?_)
                  obtain ⟨a15, c15, rfl, H80⟩ := hp14
                  have H81 : Hold h h45 [own cd2 a15 x33.1.length c15 x33.1, box b1 30 [.int .i64 x2.1.Events, .slice a1 x2.1.Places.length c1], own cd58 a1 x2.1.Places.length c1 x2.1.Places] := H78.call H80 rfl
                  refine Run_b [.tuple #[.slice a15 x33.1.length c15, .int .i64 x33.2], .slice a15 x33.1.length c15, .int .i64 x33.2, .slice a15 x33.1.length c15, .int .i64 x33.2] 3 _ (by kernel_rfl) (fun w => by kernel_rfl) ?_
                  refine Run_nil (by kernel_rfl) ?_
                  refine Run_keep [3, 29, 30, 31, 32] (L' := [(3, .pointer (some ⟨b1, 0, none⟩)), (29, .int .i64 s2.1), (30, .int .i64 s2.2), (31, .slice a15 x33.1.length c15), (32, .int .i64 x33.2)]) (by kernel_rfl) ?_
                  refine Run_seq ?_
                  refine Run_ops ?_
                  refine Run_y (.agg #[.int .i64 x2.1.Events, .slice a1 x2.1.Places.length c1]) (by kernel_rfl) (Y_loadA (t := 30) (n := 2) (p := ⟨b1, 0, none⟩) (cs := [.int .i64 x2.1.Events, .slice a1 x2.1.Places.length c1]) (by kernel_rfl) (fun w => by kernel_rfl) (by kernel_rfl) rfl (H81.cells (n := 2) (off := 0) 1 rfl rfl)) ?_
                  refine Run_b [.int .i64 s2.2] 1 _ (by kernel_rfl) (fun w => by kernel_rfl) ?_
                  obtain ⟨x34, hx25, hB1⟩ := M.bind_some hB1
                  refine Run_E (by kernel_rfl) ?_
                  refine E_call (f := 31) (args := #[.agg #[.int .i64 x2.1.Events, .slice a1 x2.1.Places.length c1], .int .i64 s2.2]) (w_impl_PlacesFrom h45 x2.1 a1 c1 (H81.rd 2 rfl) s2.2 _ _ hx25) (by kernel_rfl) (fun v15 h46 hp15 => ?_)
                  obtain ⟨a16, c16, rfl, H82⟩ := hp15
                  have H83 : Hold h h46 [own cd2 a16 x34.1.length c16 x34.1, own cd2 a15 x33.1.length c15 x33.1, box b1 30 [.int .i64 x2.1.Events, .slice a1 x2.1.Places.length c1], own cd58 a1 x2.1.Places.length c1 x2.1.Places] := H81.call H82 rfl
                  refine Run_b [.tuple #[.slice a16 x34.1.length c16, .int .i64 x34.2], .slice a16 x34.1.length c16, .int .i64 x34.2, .slice a16 x34.1.length c16, .int .i64 x34.2] 3 _ (by kernel_rfl) (fun w => by kernel_rfl) ?_
                  refine Run_nil (by kernel_rfl) ?_
                  refine Run_keep [3, 29, 30, 31, 32, 33, 34] (L' := [(3, .pointer (some ⟨b1, 0, none⟩)), (29, .int .i64 s2.1), (30, .int .i64 s2.2), (31, .slice a15 x33.1.length c15), (32, .int .i64 x33.2), (33, .slice a16 x34.1.length c16), (34, .int .i64 x34.2)]) (by kernel_rfl) ?_
                  refine Run_seq ?_
                  refine Run_seq ?_
                  refine Run_reg 6 (by kernel_rfl) (L' := [(3, .pointer (some ⟨b1, 0, none⟩)), (29, .int .i64 s2.1), (30, .int .i64 s2.2), (31, .slice a15 x33.1.length c15), (33, .slice a16 x34.1.length c16), (201, .bool ((x33.2 != 0) || (x34.2 != 0)))]) ?_ ?_
                  · refine QRun_b [.int .i64 x33.2, .bool (x33.2 != 0)] 0 _ (by kernel_rfl) (fun w => by kernel_rfl) ?_
                    refine QRun_seq 6 [(3, .pointer (some ⟨b1, 0, none⟩)), (29, .int .i64 s2.1), (30, .int .i64 s2.2), (31, .slice a15 x33.1.length c15), (33, .slice a16 x34.1.length c16), (201, .bool ((x33.2 != 0) || (x34.2 != 0)))] ?_ ?_
                    · rcases Bool.eq_false_or_eq_true (x33.2 != 0) with hb15 | hb15
                      · refine QRun_bool (x33.2 != 0) true (by kernel_rfl) (fun w => by kernel_rfl) hb15 ?_
                        refine QRun_n (by kernel_rfl) ?_
                        refine QRun_n (by kernel_rfl) ?_
                        refine QRun_bool true ((x33.2 != 0) || (x34.2 != 0)) (by kernel_rfl) (fun w => by kernel_rfl) (by rw [hb15]; rfl) ?_
                        exact QRun_done [3, 29, 30, 31, 33, 201] (by kernel_rfl) (by kernel_rfl)
                      · refine QRun_bool (x33.2 != 0) false (by kernel_rfl) (fun w => by kernel_rfl) hb15 ?_
                        refine QRun_b [.int .i64 x34.2, .bool (x34.2 != 0)] 3 _ (by kernel_rfl) (fun w => by kernel_rfl) ?_
                        refine QRun_bool (x34.2 != 0) ((x33.2 != 0) || (x34.2 != 0)) (by kernel_rfl) (fun w => by kernel_rfl) (by rw [hb15]; rfl) ?_
                        exact QRun_done [3, 29, 30, 31, 33, 201] (by kernel_rfl) (by kernel_rfl)
                    exact QRun_done [3, 29, 30, 31, 33, 201] (by kernel_rfl) (by kernel_rfl)
                  refine Run_cond (b := (x33.2 != 0) || (x34.2 != 0)) (by kernel_rfl) (fun hb16 => ?_) (fun hb16 => ?_)
                  · have hB1 := (M.ite_some hB1).1 hb16
                    refine Run_seq ?_
                    refine Run_reg 1 (by kernel_rfl) (L' := [(2, .bool false)]) ?_ ?_
                    · refine QRun_b [.bool false] 0 _ (by kernel_rfl) (fun w => by kernel_rfl) ?_
                      exact QRun_done [2] (by kernel_rfl) (by kernel_rfl)
                    have hB1 := M.ret_some hB1
                    have gx32 := houty1 _ hB1.symm
                    have hF := M.cont_inr' hF gx32
                    have hF := M.ret_some hF
                    subst hF
                    have H84 : Hold h h46 [] := H83.pick [] (by kernel_rfl)
                    exact Run_ret1 rfl (ResV_tmp (v := .bool false) (by kernel_rfl)) ⟨rfl, H84⟩
                  · have hB1 := (M.ite_some hB1).2 hb16
                    refine Run_skip ?_
                    refine Run_reg 8 (by kernel_rfl) (L' := [(3, .pointer (some ⟨b1, 0, none⟩)), (29, .int .i64 (w64 ((w64 (s2.1 + (x33.1.length : Int))) + (x34.1.length : Int)))), (30, .int .i64 s2.2)]) ?_ ?_
                    · refine QRun_b [.int .i64 s2.1, .slice a15 x33.1.length c15, .int .i64 (x33.1.length : Int), .int .i64 (w64 (s2.1 + (x33.1.length : Int))), .slice a16 x34.1.length c16, .int .i64 (x34.1.length : Int), .int .i64 (w64 ((w64 (s2.1 + (x33.1.length : Int))) + (x34.1.length : Int))), .int .i64 (w64 ((w64 (s2.1 + (x33.1.length : Int))) + (x34.1.length : Int)))] 0 _ (by kernel_rfl) (fun w => by kernel_rfl) ?_
                      exact QRun_done [3, 29, 30] (by kernel_rfl) (by kernel_rfl)
                    refine Run_blk ?_
                    refine Run_reg 3 (by kernel_rfl) (L' := [(3, .pointer (some ⟨b1, 0, none⟩)), (29, .int .i64 (w64 ((w64 (s2.1 + (x33.1.length : Int))) + (x34.1.length : Int)))), (30, .int .i64 (w64 (s2.2 + 1)))]) ?_ ?_
                    · refine QRun_b [.int .i64 s2.2, .int .i64 (w64 (s2.2 + 1)), .int .i64 (w64 (s2.2 + 1))] 0 _ (by kernel_rfl) (fun w => by kernel_rfl) ?_
                      exact QRun_done [3, 29, 30] (by kernel_rfl) (by kernel_rfl)
                    have H85 : Hold h h46 [box b1 30 [.int .i64 x2.1.Events, .slice a1 x2.1.Places.length c1], own cd58 a1 x2.1.Places.length c1 x2.1.Places] := H83.pick [2, 3] (by kernel_rfl)
                    have hB1 := M.ret_some hB1
                    have gx32 := hgoy1 _ hB1.symm
                    exact Run_again [3, 29, 30] (by kernel_rfl) my1 (Nat.lt_succ_self _) ⟨((w64 ((w64 (s2.1 + (x33.1.length : Int))) + (x34.1.length : Int))), (w64 (s2.2 + 1))), gx32, rfl, H85⟩
                · have hB1 := (M.ite_some hB1).2 hb14
                  refine Run_exit (k' := _) rfl ?_
                  have hB1 := M.ret_some hB1
                  have gx32 := houty1 _ hB1.symm
                  subst gx32
                  exact Run_fall [3, 29] (by kernel_rfl) ⟨(s2.1, s2.2), rfl, rfl, H78⟩
        · obtain ⟨x26, hx19, gs1⟩ := M.bind_some gs1
          obtain ⟨hx19l, hx19u, hx19⟩ := M.idx_some hx19
          obtain ⟨x27, hx20, gs1⟩ := M.bind_some gs1
          obtain ⟨hx20l, hx20u, hx20⟩ := M.idx_some hx20
          refine Run_D (fun x => Hold h x [box b7 30 [.int .i64 x12.1.Events, .slice a11 x12.1.Places.length c11], own cd58 a11 x12.1.Places.length c11 x12.1.Places, box b6 30 [.int .i64 x11.1.Events, .slice a10 x11.1.Places.length c10], own cd58 a10 x11.1.Places.length c10 x11.1.Places, box b5 30 [.int .i64 x10.1.Events, .slice a9 x10.1.Places.length c9], own cd58 a9 x10.1.Places.length c9 x10.1.Places, box b4 30 [.int .i64 x9.1.Events, .slice a8 x9.1.Places.length c8], own cd58 a8 x9.1.Places.length c8 x9.1.Places, box b3 30 [.int .i64 x8.1.Events, .slice a7 x8.1.Places.length c7], own cd58 a7 x8.1.Places.length c7 x8.1.Places, box b2 30 [.int .i64 x7.1.Events, .slice a6 x7.1.Places.length c6], own cd58 a6 x7.1.Places.length c6 x7.1.Places, own cd2 a5 x6.1.length c5 x6.1, own cd2 a4 x5.1.length c4 x5.1, own cd2 a3 x4.1.length c3 x4.1, own cd2 a2 x3.1.length c2 x3.1, box b1 30 [.int .i64 x2.1.Events, .slice a1 x2.1.Places.length c1], own cd58 a1 x2.1.Places.length c1 x2.1.Places]) (fun x => Hold h x [box b7 30 [.int .i64 x12.1.Events, .slice a11 x12.1.Places.length c11], own cd58 a11 x12.1.Places.length c11 x12.1.Places, box b6 30 [.int .i64 x11.1.Events, .slice a10 x11.1.Places.length c10], own cd58 a10 x11.1.Places.length c10 x11.1.Places, box b5 30 [.int .i64 x10.1.Events, .slice a9 x10.1.Places.length c9], own cd58 a9 x10.1.Places.length c9 x10.1.Places, box b4 30 [.int .i64 x9.1.Events, .slice a8 x9.1.Places.length c8], own cd58 a8 x9.1.Places.length c8 x9.1.Places, box b3 30 [.int .i64 x8.1.Events, .slice a7 x8.1.Places.length c7], own cd58 a7 x8.1.Places.length c7 x8.1.Places, box b2 30 [.int .i64 x7.1.Events, .slice a6 x7.1.Places.length c6], own cd58 a6 x7.1.Places.length c6 x7.1.Places, own cd2 a5 x6.1.length c5 x6.1, own cd2 a4 x5.1.length c4 x5.1, own cd2 a3 x4.1.length c3 x4.1, own cd2 a2 x3.1.length c2 x3.1, box b1 30 [.int .i64 x2.1.Events, .slice a1 x2.1.Places.length c1], own cd58 a1 x2.1.Places.length c1 x2.1.Places]) mixed (by kernel_rfl) H38 Hold.stable (fun x Hy => (show Hold h x [box b7 30 [.int .i64 x12.1.Events, .slice a11 x12.1.Places.length c11], own cd58 a11 x12.1.Places.length c11 x12.1.Places, box b6 30 [.int .i64 x11.1.Events, .slice a10 x11.1.Places.length c10], own cd58 a10 x11.1.Places.length c10 x11.1.Places, box b5 30 [.int .i64 x10.1.Events, .slice a9 x10.1.Places.length c9], own cd58 a9 x10.1.Places.length c9 x10.1.Places, box b4 30 [.int .i64 x9.1.Events, .slice a8 x9.1.Places.length c8], own cd58 a8 x9.1.Places.length c8 x9.1.Places, box b3 30 [.int .i64 x8.1.Events, .slice a7 x8.1.Places.length c7], own cd58 a7 x8.1.Places.length c7 x8.1.Places, box b2 30 [.int .i64 x7.1.Events, .slice a6 x7.1.Places.length c6], own cd58 a6 x7.1.Places.length c6 x7.1.Places, own cd2 a5 x6.1.length c5 x6.1, own cd2 a4 x5.1.length c4 x5.1, own cd2 a3 x4.1.length c3 x4.1, own cd2 a2 x3.1.length c2 x3.1, box b1 30 [.int .i64 x2.1.Events, .slice a1 x2.1.Places.length c1], own cd58 a1 x2.1.Places.length c1 x2.1.Places] from Hy).pick [0, 1, 2, 3, 4, 5, 6, 7, 8, 9, 10, 11, 12, 13, 14, 15, 16, 17] (by kernel_rfl)) ?_
          refine DR_y 20 (i := 0) (.agg #[.int .i64 x8.1.Events, .slice a7 x8.1.Places.length c7]) (by kernel_rfl) (by kernel_rfl) (by kernel_rfl) (fun hx Hx => (YE.of (Y_loadA (t := 30) (n := 2) (p := ⟨b3, 0, none⟩) (cs := [.int .i64 x8.1.Events, .slice a7 x8.1.Places.length c7]) (by kernel_rfl) (fun w => by kernel_rfl) (by kernel_rfl) rfl (Hx.cells (n := 2) (off := 0) 8 rfl rfl)))) ?_
          refine DR_b 18 [.int .i64 x7.2.1, .pointer (some ⟨b2, 1, none⟩)] 1 (by kernel_rfl) (by kernel_rfl) (by kernel_rfl) (fun w => by kernel_rfl) ?_
          refine DR_y 17 (i := 3) (.slice a6 x7.1.Places.length c6) (by kernel_rfl) (by kernel_rfl) (by kernel_rfl) (fun hx Hx => (YE.of (Y_load1 (t := 28) (p := ⟨b2, 1, none⟩) (v := .slice a6 x7.1.Places.length c6) (by kernel_rfl) (fun w => by kernel_rfl) (Hx.cell 10 rfl rfl)))) ?_
          refine DR_b 16 [.int .i64 x7.2.1] 4 (by kernel_rfl) (by kernel_rfl) (by kernel_rfl) (fun w => by kernel_rfl) ?_
          refine DR_y 15 (i := 5) (.pointer (some (adr a6 (x7.2.1.toNat * 4)))) (by kernel_rfl) (by kernel_rfl) (by kernel_rfl) (fun hx Hx => (YE.of (Y_idx (t := 28) (e := 58) (sz := 4) (a := a6) (n := x7.1.Places.length) (cap := c6) (kk := .i64) (i := x7.2.1) (by kernel_rfl) Try.underlying28 (by kernel_rfl) ((H38.rd 11 rfl).cell hx19).1 hx19l hx19u))) ?_
          refine DR_b 14 [.pointer (some ((adr a6 (x7.2.1.toNat * 4)).add 2))] 6 (by kernel_rfl) (by kernel_rfl) (by kernel_rfl) (fun w => by kernel_rfl) ?_
          refine DR_y 13 (i := 7) (.int .i64 x26.Delay) (by kernel_rfl) (by kernel_rfl) (by kernel_rfl) (fun hx Hx => (YE.of (Y_load1 (t := 2) (p := (adr a6 (x7.2.1.toNat * 4)).add 2) (v := .int .i64 x26.Delay) (by kernel_rfl) (fun w => by kernel_rfl) (cd58_f2 (Hx.rd 11 rfl) hx19)))) ?_
          refine DR_b 12 [.pointer (some ⟨b2, 1, none⟩)] 8 (by kernel_rfl) (by kernel_rfl) (by kernel_rfl) (fun w => by kernel_rfl) ?_
          refine DR_y 11 (i := 9) (.slice a6 x7.1.Places.length c6) (by kernel_rfl) (by kernel_rfl) (by kernel_rfl) (fun hx Hx => (YE.of (Y_load1 (t := 28) (p := ⟨b2, 1, none⟩) (v := .slice a6 x7.1.Places.length c6) (by kernel_rfl) (fun w => by kernel_rfl) (Hx.cell 10 rfl rfl)))) ?_
          refine DR_b 10 [.int .i64 x7.2.1] 10 (by kernel_rfl) (by kernel_rfl) (by kernel_rfl) (fun w => by kernel_rfl) ?_
          refine DR_y 9 (i := 11) (.pointer (some (adr a6 (x7.2.1.toNat * 4)))) (by kernel_rfl) (by kernel_rfl) (by kernel_rfl) (fun hx Hx => (YE.of (Y_idx (t := 28) (e := 58) (sz := 4) (a := a6) (n := x7.1.Places.length) (cap := c6) (kk := .i64) (i := x7.2.1) (by kernel_rfl) Try.underlying28 (by kernel_rfl) ((H38.rd 11 rfl).cell hx20).1 hx20l hx20u))) ?_
          refine DR_b 8 [.pointer (some ((adr a6 (x7.2.1.toNat * 4)).add 3))] 12 (by kernel_rfl) (by kernel_rfl) (by kernel_rfl) (fun w => by kernel_rfl) ?_
          refine DR_y 7 (i := 13) (.int .i64 x27.Tokens) (by kernel_rfl) (by kernel_rfl) (by kernel_rfl) (fun hx Hx => (YE.of (Y_load1 (t := 2) (p := (adr a6 (x7.2.1.toNat * 4)).add 3) (v := .int .i64 x27.Tokens) (by kernel_rfl) (fun w => by kernel_rfl) (cd58_f3 (Hx.rd 11 rfl) hx20)))) ?_
          refine DR_e2 6 14 18 (by kernel_rfl) (by kernel_rfl) (by kernel_rfl) (by kernel_rfl) ?_ ?_
          · intro h27 H40
            have H41 : Hold h h27 [box b7 30 [.int .i64 x12.1.Events, .slice a11 x12.1.Places.length c11], own cd58 a11 x12.1.Places.length c11 x12.1.Places, box b6 30 [.int .i64 x11.1.Events, .slice a10 x11.1.Places.length c10], own cd58 a10 x11.1.Places.length c10 x11.1.Places, box b5 30 [.int .i64 x10.1.Events, .slice a9 x10.1.Places.length c9], own cd58 a9 x10.1.Places.length c9 x10.1.Places, box b4 30 [.int .i64 x9.1.Events, .slice a8 x9.1.Places.length c8], own cd58 a8 x9.1.Places.length c8 x9.1.Places, box b3 30 [.int .i64 x8.1.Events, .slice a7 x8.1.Places.length c7], own cd58 a7 x8.1.Places.length c7 x8.1.Places, box b2 30 [.int .i64 x7.1.Events, .slice a6 x7.1.Places.length c6], own cd58 a6 x7.1.Places.length c6 x7.1.Places, own cd2 a5 x6.1.length c5 x6.1, own cd2 a4 x5.1.length c4 x5.1, own cd2 a3 x4.1.length c3 x4.1, own cd2 a2 x3.1.length c2 x3.1, box b1 30 [.int .i64 x2.1.Events, .slice a1 x2.1.Places.length c1], own cd58 a1 x2.1.Places.length c1 x2.1.Places] := H40
            obtain ⟨x28, hx21, gs1⟩ := M.bind_some gs1
            refine E_call (f := 34) (args := #[.agg #[.int .i64 x8.1.Events, .slice a7 x8.1.Places.length c7], .int .i64 x7.2.1, .int .i64 x26.Delay, .int .i64 x27.Tokens]) (w_impl_ChangePlace h27 x8.1 a7 c7 (H41.rd 9 rfl) x7.2.1 x26.Delay x27.Tokens _ _ hx21) (by kernel_rfl) (fun v12 h28 hp12 => ?_)
            obtain ⟨a12, c12, rfl, H42⟩ := hp12
            have H43 : Hold h h28 [own cd58 a12 x28.1.Places.length c12 x28.1.Places, box b7 30 [.int .i64 x12.1.Events, .slice a11 x12.1.Places.length c11], own cd58 a11 x12.1.Places.length c11 x12.1.Places, box b6 30 [.int .i64 x11.1.Events, .slice a10 x11.1.Places.length c10], own cd58 a10 x11.1.Places.length c10 x11.1.Places, box b5 30 [.int .i64 x10.1.Events, .slice a9 x10.1.Places.length c9], own cd58 a9 x10.1.Places.length c9 x10.1.Places, box b4 30 [.int .i64 x9.1.Events, .slice a8 x9.1.Places.length c8], own cd58 a8 x9.1.Places.length c8 x9.1.Places, box b3 30 [.int .i64 x8.1.Events, .slice a7 x8.1.Places.length c7], own cd58 a7 x8.1.Places.length c7 x8.1.Places, box b2 30 [.int .i64 x7.1.Events, .slice a6 x7.1.Places.length c6], own cd58 a6 x7.1.Places.length c6 x7.1.Places, own cd2 a5 x6.1.length c5 x6.1, own cd2 a4 x5.1.length c4 x5.1, own cd2 a3 x4.1.length c3 x4.1, own cd2 a2 x3.1.length c2 x3.1, box b1 30 [.int .i64 x2.1.Events, .slice a1 x2.1.Places.length c1], own cd58 a1 x2.1.Places.length c1 x2.1.Places] := H41.call H42 rfl
            refine ⟨fun x => Hold h x [box b7 30 [.int .i64 x12.1.Events, .slice a11 x12.1.Places.length c11], own cd58 a11 x12.1.Places.length c11 x12.1.Places, box b6 30 [.int .i64 x11.1.Events, .slice a10 x11.1.Places.length c10], own cd58 a10 x11.1.Places.length c10 x11.1.Places, box b5 30 [.int .i64 x10.1.Events, .slice a9 x10.1.Places.length c9], own cd58 a9 x10.1.Places.length c9 x10.1.Places, box b4 30 [.int .i64 x9.1.Events, .slice a8 x9.1.Places.length c8], own cd58 a8 x9.1.Places.length c8 x9.1.Places, box b3 30 [.int .i64 x8.1.Events, .slice a7 x8.1.Places.length c7], own cd58 a7 x8.1.Places.length c7 x8.1.Places, box b2 30 [.int .i64 x7.1.Events, .slice a6 x7.1.Places.length c6], own cd58 a6 x7.1.Places.length c6 x7.1.Places, own cd2 a5 x6.1.length c5 x6.1, own cd2 a4 x5.1.length c4 x5.1, own cd2 a3 x4.1.length c3 x4.1, own cd2 a2 x3.1.length c2 x3.1, box b1 30 [.int .i64 x2.1.Events, .slice a1 x2.1.Places.length c1], own cd58 a1 x2.1.Places.length c1 x2.1.Places, own cd58 a12 x28.1.Places.length c12 x28.1.Places], fun x => Hold h x [own cd58 a12 x28.1.Places.length c12 x28.1.Places, box b7 30 [.int .i64 x12.1.Events, .slice a11 x12.1.Places.length c11], own cd58 a11 x12.1.Places.length c11 x12.1.Places, box b6 30 [.int .i64 x11.1.Events, .slice a10 x11.1.Places.length c10], own cd58 a10 x11.1.Places.length c10 x11.1.Places, box b5 30 [.int .i64 x10.1.Events, .slice a9 x10.1.Places.length c9], own cd58 a9 x10.1.Places.length c9 x10.1.Places, box b4 30 [.int .i64 x9.1.Events, .slice a8 x9.1.Places.length c8], own cd58 a8 x9.1.Places.length c8 x9.1.Places, box b3 30 [.int .i64 x8.1.Events, .slice a7 x8.1.Places.length c7], own cd58 a7 x8.1.Places.length c7 x8.1.Places, box b2 30 [.int .i64 x7.1.Events, .slice a6 x7.1.Places.length c6], own cd58 a6 x7.1.Places.length c6 x7.1.Places, own cd2 a5 x6.1.length c5 x6.1, own cd2 a4 x5.1.length c4 x5.1, own cd2 a3 x4.1.length c3 x4.1, own cd2 a2 x3.1.length c2 x3.1, box b1 30 [.int .i64 x2.1.Events, .slice a1 x2.1.Places.length c1], own cd58 a1 x2.1.Places.length c1 x2.1.Places], H43, Hold.stable, fun x Hy => (show Hold h x [own cd58 a12 x28.1.Places.length c12 x28.1.Places, box b7 30 [.int .i64 x12.1.Events, .slice a11 x12.1.Places.length c11], own cd58 a11 x12.1.Places.length c11 x12.1.Places, box b6 30 [.int .i64 x11.1.Events, .slice a10 x11.1.Places.length c10], own cd58 a10 x11.1.Places.length c10 x11.1.Places, box b5 30 [.int .i64 x10.1.Events, .slice a9 x10.1.Places.length c9], own cd58 a9 x10.1.Places.length c9 x10.1.Places, box b4 30 [.int .i64 x9.1.Events, .slice a8 x9.1.Places.length c8], own cd58 a8 x9.1.Places.length c8 x9.1.Places, box b3 30 [.int .i64 x8.1.Events, .slice a7 x8.1.Places.length c7], own cd58 a7 x8.1.Places.length c7 x8.1.Places, box b2 30 [.int .i64 x7.1.Events, .slice a6 x7.1.Places.length c6], own cd58 a6 x7.1.Places.length c6 x7.1.Places, own cd2 a5 x6.1.length c5 x6.1, own cd2 a4 x5.1.length c4 x5.1, own cd2 a3 x4.1.length c3 x4.1, own cd2 a2 x3.1.length c2 x3.1, box b1 30 [.int .i64 x2.1.Events, .slice a1 x2.1.Places.length c1], own cd58 a1 x2.1.Places.length c1 x2.1.Places] from Hy).pick [1, 2, 3, 4, 5, 6, 7, 8, 9, 10, 11, 12, 13, 14, 15, 16, 17, 18, 0] (by kernel_rfl), fun x Hy => (show Hold h x [box b7 30 [.int .i64 x12.1.Events, .slice a11 x12.1.Places.length c11], own cd58 a11 x12.1.Places.length c11 x12.1.Places, box b6 30 [.int .i64 x11.1.Events, .slice a10 x11.1.Places.length c10], own cd58 a10 x11.1.Places.length c10 x11.1.Places, box b5 30 [.int .i64 x10.1.Events, .slice a9 x10.1.Places.length c9], own cd58 a9 x10.1.Places.length c9 x10.1.Places, box b4 30 [.int .i64 x9.1.Events, .slice a8 x9.1.Places.length c8], own cd58 a8 x9.1.Places.length c8 x9.1.Places, box b3 30 [.int .i64 x8.1.Events, .slice a7 x8.1.Places.length c7], own cd58 a7 x8.1.Places.length c7 x8.1.Places, box b2 30 [.int .i64 x7.1.Events, .slice a6 x7.1.Places.length c6], own cd58 a6 x7.1.Places.length c6 x7.1.Places, own cd2 a5 x6.1.length c5 x6.1, own cd2 a4 x5.1.length c4 x5.1, own cd2 a3 x4.1.length c3 x4.1, own cd2 a2 x3.1.length c2 x3.1, box b1 30 [.int .i64 x2.1.Events, .slice a1 x2.1.Places.length c1], own cd58 a1 x2.1.Places.length c1 x2.1.Places, own cd58 a12 x28.1.Places.length c12 x28.1.Places] from Hy).pick [0, 1, 2, 3, 4, 5, 6, 7, 8, 9, 10, 11, 12, 13, 14, 15, 16, 17] (by kernel_rfl), ?_⟩
            refine DR_b 3 [.tuple #[.agg #[.int .i64 x28.1.Events, .slice a12 x28.1.Places.length c12], .int .i64 x28.2], .agg #[.int .i64 x28.1.Events, .slice a12 x28.1.Places.length c12], .int .i64 x28.2] 15 (by kernel_rfl) (by kernel_rfl) (by kernel_rfl) (fun w => by kernel_rfl) ?_
            refine DR_e 2 18 (by kernel_rfl) (by kernel_rfl) (by kernel_rfl) (fun h29 H44 => ?_)
            have H45 : Hold h h29 [own cd58 a12 x28.1.Places.length c12 x28.1.Places, box b7 30 [.int .i64 x12.1.Events, .slice a11 x12.1.Places.length c11], own cd58 a11 x12.1.Places.length c11 x12.1.Places, box b6 30 [.int .i64 x11.1.Events, .slice a10 x11.1.Places.length c10], own cd58 a10 x11.1.Places.length c10 x11.1.Places, box b5 30 [.int .i64 x10.1.Events, .slice a9 x10.1.Places.length c9], own cd58 a9 x10.1.Places.length c9 x10.1.Places, box b4 30 [.int .i64 x9.1.Events, .slice a8 x9.1.Places.length c8], own cd58 a8 x9.1.Places.length c8 x9.1.Places, box b3 30 [.int .i64 x8.1.Events, .slice a7 x8.1.Places.length c7], own cd58 a7 x8.1.Places.length c7 x8.1.Places, box b2 30 [.int .i64 x7.1.Events, .slice a6 x7.1.Places.length c6], own cd58 a6 x7.1.Places.length c6 x7.1.Places, own cd2 a5 x6.1.length c5 x6.1, own cd2 a4 x5.1.length c4 x5.1, own cd2 a3 x4.1.length c3 x4.1, own cd2 a2 x3.1.length c2 x3.1, box b1 30 [.int .i64 x2.1.Events, .slice a1 x2.1.Places.length c1], own cd58 a1 x2.1.Places.length c1 x2.1.Places] := H44
            refine E_box (ty := 30) (cs := [.int .i64 0, .slice none 0 0]) H45 (fun w => by kernel_rfl) (fun b8 h30 H46 => ?_)
            refine ⟨fun x => Hold h x [box b7 30 [.int .i64 x12.1.Events, .slice a11 x12.1.Places.length c11], own cd58 a11 x12.1.Places.length c11 x12.1.Places, box b6 30 [.int .i64 x11.1.Events, .slice a10 x11.1.Places.length c10], own cd58 a10 x11.1.Places.length c10 x11.1.Places, box b5 30 [.int .i64 x10.1.Events, .slice a9 x10.1.Places.length c9], own cd58 a9 x10.1.Places.length c9 x10.1.Places, box b4 30 [.int .i64 x9.1.Events, .slice a8 x9.1.Places.length c8], own cd58 a8 x9.1.Places.length c8 x9.1.Places, box b3 30 [.int .i64 x8.1.Events, .slice a7 x8.1.Places.length c7], own cd58 a7 x8.1.Places.length c7 x8.1.Places, box b2 30 [.int .i64 x7.1.Events, .slice a6 x7.1.Places.length c6], own cd58 a6 x7.1.Places.length c6 x7.1.Places, own cd2 a5 x6.1.length c5 x6.1, own cd2 a4 x5.1.length c4 x5.1, own cd2 a3 x4.1.length c3 x4.1, own cd2 a2 x3.1.length c2 x3.1, box b1 30 [.int .i64 x2.1.Events, .slice a1 x2.1.Places.length c1], own cd58 a1 x2.1.Places.length c1 x2.1.Places, own cd58 a12 x28.1.Places.length c12 x28.1.Places], fun x => Hold h x [box b8 30 [.int .i64 0, .slice none 0 0], own cd58 a12 x28.1.Places.length c12 x28.1.Places, box b7 30 [.int .i64 x12.1.Events, .slice a11 x12.1.Places.length c11], own cd58 a11 x12.1.Places.length c11 x12.1.Places, box b6 30 [.int .i64 x11.1.Events, .slice a10 x11.1.Places.length c10], own cd58 a10 x11.1.Places.length c10 x11.1.Places, box b5 30 [.int .i64 x10.1.Events, .slice a9 x10.1.Places.length c9], own cd58 a9 x10.1.Places.length c9 x10.1.Places, box b4 30 [.int .i64 x9.1.Events, .slice a8 x9.1.Places.length c8], own cd58 a8 x9.1.Places.length c8 x9.1.Places, box b3 30 [.int .i64 x8.1.Events, .slice a7 x8.1.Places.length c7], own cd58 a7 x8.1.Places.length c7 x8.1.Places, box b2 30 [.int .i64 x7.1.Events, .slice a6 x7.1.Places.length c6], own cd58 a6 x7.1.Places.length c6 x7.1.Places, own cd2 a5 x6.1.length c5 x6.1, own cd2 a4 x5.1.length c4 x5.1, own cd2 a3 x4.1.length c3 x4.1, own cd2 a2 x3.1.length c2 x3.1, box b1 30 [.int .i64 x2.1.Events, .slice a1 x2.1.Places.length c1], own cd58 a1 x2.1.Places.length c1 x2.1.Places], H46, Hold.stable, fun x Hy => (show Hold h x [box b8 30 [.int .i64 0, .slice none 0 0], own cd58 a12 x28.1.Places.length c12 x28.1.Places, box b7 30 [.int .i64 x12.1.Events, .slice a11 x12.1.Places.length c11], own cd58 a11 x12.1.Places.length c11 x12.1.Places, box b6 30 [.int .i64 x11.1.Events, .slice a10 x11.1.Places.length c10], own cd58 a10 x11.1.Places.length c10 x11.1.Places, box b5 30 [.int .i64 x10.1.Events, .slice a9 x10.1.Places.length c9], own cd58 a9 x10.1.Places.length c9 x10.1.Places, box b4 30 [.int .i64 x9.1.Events, .slice a8 x9.1.Places.length c8], own cd58 a8 x9.1.Places.length c8 x9.1.Places, box b3 30 [.int .i64 x8.1.Events, .slice a7 x8.1.Places.length c7], own cd58 a7 x8.1.Places.length c7 x8.1.Places, box b2 30 [.int .i64 x7.1.Events, .slice a6 x7.1.Places.length c6], own cd58 a6 x7.1.Places.length c6 x7.1.Places, own cd2 a5 x6.1.length c5 x6.1, own cd2 a4 x5.1.length c4 x5.1, own cd2 a3 x4.1.length c3 x4.1, own cd2 a2 x3.1.length c2 x3.1, box b1 30 [.int .i64 x2.1.Events, .slice a1 x2.1.Places.length c1], own cd58 a1 x2.1.Places.length c1 x2.1.Places] from Hy).pick [2, 3, 4, 5, 6, 7, 8, 9, 10, 11, 12, 13, 14, 15, 16, 17, 18, 19, 1] (by kernel_rfl), fun x Hy => (show Hold h x [box b7 30 [.int .i64 x12.1.Events, .slice a11 x12.1.Places.length c11], own cd58 a11 x12.1.Places.length c11 x12.1.Places, box b6 30 [.int .i64 x11.1.Events, .slice a10 x11.1.Places.length c10], own cd58 a10 x11.1.Places.length c10 x11.1.Places, box b5 30 [.int .i64 x10.1.Events, .slice a9 x10.1.Places.length c9], own cd58 a9 x10.1.Places.length c9 x10.1.Places, box b4 30 [.int .i64 x9.1.Events, .slice a8 x9.1.Places.length c8], own cd58 a8 x9.1.Places.length c8 x9.1.Places, box b3 30 [.int .i64 x8.1.Events, .slice a7 x8.1.Places.length c7], own cd58 a7 x8.1.Places.length c7 x8.1.Places, box b2 30 [.int .i64 x7.1.Events, .slice a6 x7.1.Places.length c6], own cd58 a6 x7.1.Places.length c6 x7.1.Places, own cd2 a5 x6.1.length c5 x6.1, own cd2 a4 x5.1.length c4 x5.1, own cd2 a3 x4.1.length c3 x4.1, own cd2 a2 x3.1.length c2 x3.1, box b1 30 [.int .i64 x2.1.Events, .slice a1 x2.1.Places.length c1], own cd58 a1 x2.1.Places.length c1 x2.1.Places, own cd58 a12 x28.1.Places.length c12 x28.1.Places] from Hy).pick [0, 1, 2, 3, 4, 5, 6, 7, 8, 9, 10, 11, 12, 13, 14, 15, 16, 17, 18] (by kernel_rfl), ?_⟩
            refine DR_e 1 19 (by kernel_rfl) (by kernel_rfl) (by kernel_rfl) (fun h31 H47 => ?_)
            have H48 : Hold h h31 [box b8 30 [.int .i64 0, .slice none 0 0], own cd58 a12 x28.1.Places.length c12 x28.1.Places, box b7 30 [.int .i64 x12.1.Events, .slice a11 x12.1.Places.length c11], own cd58 a11 x12.1.Places.length c11 x12.1.Places, box b6 30 [.int .i64 x11.1.Events, .slice a10 x11.1.Places.length c10], own cd58 a10 x11.1.Places.length c10 x11.1.Places, box b5 30 [.int .i64 x10.1.Events, .slice a9 x10.1.Places.length c9], own cd58 a9 x10.1.Places.length c9 x10.1.Places, box b4 30 [.int .i64 x9.1.Events, .slice a8 x9.1.Places.length c8], own cd58 a8 x9.1.Places.length c8 x9.1.Places, box b3 30 [.int .i64 x8.1.Events, .slice a7 x8.1.Places.length c7], own cd58 a7 x8.1.Places.length c7 x8.1.Places, box b2 30 [.int .i64 x7.1.Events, .slice a6 x7.1.Places.length c6], own cd58 a6 x7.1.Places.length c6 x7.1.Places, own cd2 a5 x6.1.length c5 x6.1, own cd2 a4 x5.1.length c4 x5.1, own cd2 a3 x4.1.length c3 x4.1, own cd2 a2 x3.1.length c2 x3.1, box b1 30 [.int .i64 x2.1.Events, .slice a1 x2.1.Places.length c1], own cd58 a1 x2.1.Places.length c1 x2.1.Places] := H47
            refine E_bput (t := 30) (off := 0) (us := [.int .i64 x28.1.Events, .slice a12 x28.1.Places.length c12]) (v := .agg #[.int .i64 x28.1.Events, .slice a12 x28.1.Places.length c12]) H48 (by kernel_rfl) (by kernel_rfl) rfl (by kernel_rfl) rfl (fun h32 H49 => ?_)
            refine ⟨fun x => Hold h x [box b7 30 [.int .i64 x12.1.Events, .slice a11 x12.1.Places.length c11], own cd58 a11 x12.1.Places.length c11 x12.1.Places, box b6 30 [.int .i64 x11.1.Events, .slice a10 x11.1.Places.length c10], own cd58 a10 x11.1.Places.length c10 x11.1.Places, box b5 30 [.int .i64 x10.1.Events, .slice a9 x10.1.Places.length c9], own cd58 a9 x10.1.Places.length c9 x10.1.Places, box b4 30 [.int .i64 x9.1.Events, .slice a8 x9.1.Places.length c8], own cd58 a8 x9.1.Places.length c8 x9.1.Places, box b3 30 [.int .i64 x8.1.Events, .slice a7 x8.1.Places.length c7], own cd58 a7 x8.1.Places.length c7 x8.1.Places, box b2 30 [.int .i64 x7.1.Events, .slice a6 x7.1.Places.length c6], own cd58 a6 x7.1.Places.length c6 x7.1.Places, own cd2 a5 x6.1.length c5 x6.1, own cd2 a4 x5.1.length c4 x5.1, own cd2 a3 x4.1.length c3 x4.1, own cd2 a2 x3.1.length c2 x3.1, box b1 30 [.int .i64 x2.1.Events, .slice a1 x2.1.Places.length c1], own cd58 a1 x2.1.Places.length c1 x2.1.Places, own cd58 a12 x28.1.Places.length c12 x28.1.Places], fun x => Hold h x [box b8 30 [.int .i64 x28.1.Events, .slice a12 x28.1.Places.length c12], own cd58 a12 x28.1.Places.length c12 x28.1.Places, box b7 30 [.int .i64 x12.1.Events, .slice a11 x12.1.Places.length c11], own cd58 a11 x12.1.Places.length c11 x12.1.Places, box b6 30 [.int .i64 x11.1.Events, .slice a10 x11.1.Places.length c10], own cd58 a10 x11.1.Places.length c10 x11.1.Places, box b5 30 [.int .i64 x10.1.Events, .slice a9 x10.1.Places.length c9], own cd58 a9 x10.1.Places.length c9 x10.1.Places, box b4 30 [.int .i64 x9.1.Events, .slice a8 x9.1.Places.length c8], own cd58 a8 x9.1.Places.length c8 x9.1.Places, box b3 30 [.int .i64 x8.1.Events, .slice a7 x8.1.Places.length c7], own cd58 a7 x8.1.Places.length c7 x8.1.Places, box b2 30 [.int .i64 x7.1.Events, .slice a6 x7.1.Places.length c6], own cd58 a6 x7.1.Places.length c6 x7.1.Places, own cd2 a5 x6.1.length c5 x6.1, own cd2 a4 x5.1.length c4 x5.1, own cd2 a3 x4.1.length c3 x4.1, own cd2 a2 x3.1.length c2 x3.1, box b1 30 [.int .i64 x2.1.Events, .slice a1 x2.1.Places.length c1], own cd58 a1 x2.1.Places.length c1 x2.1.Places], H49, Hold.stable, fun x Hy => (show Hold h x [box b8 30 [.int .i64 x28.1.Events, .slice a12 x28.1.Places.length c12], own cd58 a12 x28.1.Places.length c12 x28.1.Places, box b7 30 [.int .i64 x12.1.Events, .slice a11 x12.1.Places.length c11], own cd58 a11 x12.1.Places.length c11 x12.1.Places, box b6 30 [.int .i64 x11.1.Events, .slice a10 x11.1.Places.length c10], own cd58 a10 x11.1.Places.length c10 x11.1.Places, box b5 30 [.int .i64 x10.1.Events, .slice a9 x10.1.Places.length c9], own cd58 a9 x10.1.Places.length c9 x10.1.Places, box b4 30 [.int .i64 x9.1.Events, .slice a8 x9.1.Places.length c8], own cd58 a8 x9.1.Places.length c8 x9.1.Places, box b3 30 [.int .i64 x8.1.Events, .slice a7 x8.1.Places.length c7], own cd58 a7 x8.1.Places.length c7 x8.1.Places, box b2 30 [.int .i64 x7.1.Events, .slice a6 x7.1.Places.length c6], own cd58 a6 x7.1.Places.length c6 x7.1.Places, own cd2 a5 x6.1.length c5 x6.1, own cd2 a4 x5.1.length c4 x5.1, own cd2 a3 x4.1.length c3 x4.1, own cd2 a2 x3.1.length c2 x3.1, box b1 30 [.int .i64 x2.1.Events, .slice a1 x2.1.Places.length c1], own cd58 a1 x2.1.Places.length c1 x2.1.Places] from Hy).pick [2, 3, 4, 5, 6, 7, 8, 9, 10, 11, 12, 13, 14, 15, 16, 17, 18, 19, 1] (by kernel_rfl), fun x Hy => (show Hold h x [box b7 30 [.int .i64 x12.1.Events, .slice a11 x12.1.Places.length c11], own cd58 a11 x12.1.Places.length c11 x12.1.Places, box b6 30 [.int .i64 x11.1.Events, .slice a10 x11.1.Places.length c10], own cd58 a10 x11.1.Places.length c10 x11.1.Places, box b5 30 [.int .i64 x10.1.Events, .slice a9 x10.1.Places.length c9], own cd58 a9 x10.1.Places.length c9 x10.1.Places, box b4 30 [.int .i64 x9.1.Events, .slice a8 x9.1.Places.length c8], own cd58 a8 x9.1.Places.length c8 x9.1.Places, box b3 30 [.int .i64 x8.1.Events, .slice a7 x8.1.Places.length c7], own cd58 a7 x8.1.Places.length c7 x8.1.Places, box b2 30 [.int .i64 x7.1.Events, .slice a6 x7.1.Places.length c6], own cd58 a6 x7.1.Places.length c6 x7.1.Places, own cd2 a5 x6.1.length c5 x6.1, own cd2 a4 x5.1.length c4 x5.1, own cd2 a3 x4.1.length c3 x4.1, own cd2 a2 x3.1.length c2 x3.1, box b1 30 [.int .i64 x2.1.Events, .slice a1 x2.1.Places.length c1], own cd58 a1 x2.1.Places.length c1 x2.1.Places, own cd58 a12 x28.1.Places.length c12 x28.1.Places] from Hy).pick [0, 1, 2, 3, 4, 5, 6, 7, 8, 9, 10, 11, 12, 13, 14, 15, 16, 17, 18] (by kernel_rfl), ?_⟩
            refine DR_b 0 [.int .i64 x28.2] 20 (by kernel_rfl) (by kernel_rfl) (by kernel_rfl) (fun w => by kernel_rfl) ?_
            refine DR_tail (i := 21) (by kernel_rfl) (by kernel_rfl) (by kernel_rfl) (fun h33 H50 => ?_)
            have H51 : Hold h h33 [box b8 30 [.int .i64 x28.1.Events, .slice a12 x28.1.Places.length c12], own cd58 a12 x28.1.Places.length c12 x28.1.Places, box b7 30 [.int .i64 x12.1.Events, .slice a11 x12.1.Places.length c11], own cd58 a11 x12.1.Places.length c11 x12.1.Places, box b6 30 [.int .i64 x11.1.Events, .slice a10 x11.1.Places.length c10], own cd58 a10 x11.1.Places.length c10 x11.1.Places, box b5 30 [.int .i64 x10.1.Events, .slice a9 x10.1.Places.length c9], own cd58 a9 x10.1.Places.length c9 x10.1.Places, box b4 30 [.int .i64 x9.1.Events, .slice a8 x9.1.Places.length c8], own cd58 a8 x9.1.Places.length c8 x9.1.Places, box b3 30 [.int .i64 x8.1.Events, .slice a7 x8.1.Places.length c7], own cd58 a7 x8.1.Places.length c7 x8.1.Places, box b2 30 [.int .i64 x7.1.Events, .slice a6 x7.1.Places.length c6], own cd58 a6 x7.1.Places.length c6 x7.1.Places, own cd2 a5 x6.1.length c5 x6.1, own cd2 a4 x5.1.length c4 x5.1, own cd2 a3 x4.1.length c3 x4.1, own cd2 a2 x3.1.length c2 x3.1, box b1 30 [.int .i64 x2.1.Events, .slice a1 x2.1.Places.length c1], own cd58 a1 x2.1.Places.length c1 x2.1.Places] := H50
            refine Run_nil (by kernel_rfl) ?_
            refine Run_keep [3, 6, 13, 27, 28] (L' := [(3, .pointer (some ⟨b1, 0, none⟩)), (6, .int .i64 x3.2), (13, .pointer (some ⟨b2, 0, none⟩)), (27, .pointer (some ⟨b8, 0, none⟩)), (28, .int .i64 x28.2)]) (by kernel_rfl) ?_
            have H70 : Hold h h33 [own cd58 a12 x28.1.Places.length c12 x28.1.Places, box b8 30 [.int .i64 x28.1.Events, .slice a12 x28.1.Places.length c12], box b7 30 [.int .i64 x12.1.Events, .slice a11 x12.1.Places.length c11], own cd58 a11 x12.1.Places.length c11 x12.1.Places, box b6 30 [.int .i64 x11.1.Events, .slice a10 x11.1.Places.length c10], own cd58 a10 x11.1.Places.length c10 x11.1.Places, box b5 30 [.int .i64 x10.1.Events, .slice a9 x10.1.Places.length c9], own cd58 a9 x10.1.Places.length c9 x10.1.Places, box b4 30 [.int .i64 x9.1.Events, .slice a8 x9.1.Places.length c8], own cd58 a8 x9.1.Places.length c8 x9.1.Places, box b3 30 [.int .i64 x8.1.Events, .slice a7 x8.1.Places.length c7], own cd58 a7 x8.1.Places.length c7 x8.1.Places, box b2 30 [.int .i64 x7.1.Events, .slice a6 x7.1.Places.length c6], own cd58 a6 x7.1.Places.length c6 x7.1.Places, own cd2 a5 x6.1.length c5 x6.1, own cd2 a4 x5.1.length c4 x5.1, own cd2 a3 x4.1.length c3 x4.1, own cd2 a2 x3.1.length c2 x3.1, box b1 30 [.int .i64 x2.1.Events, .slice a1 x2.1.Places.length c1], own cd58 a1 x2.1.Places.length c1 x2.1.Places] := H51.pick [1, 0, 2, 3, 4, 5, 6, 7, 8, 9, 10, 11, 12, 13, 14, 15, 16, 17, 18, 19] (by kernel_rfl)
            have H71 : Hold h h33 [box b1 30 [.int .i64 x2.1.Events, .slice a1 x2.1.Places.length c1], own cd58 a1 x2.1.Places.length c1 x2.1.Places, box b2 30 [.int .i64 x7.1.Events, .slice a6 x7.1.Places.length c6], own cd58 a6 x7.1.Places.length c6 x7.1.Places, box b8 30 [.int .i64 x28.1.Events, .slice a12 x28.1.Places.length c12], own cd58 a12 x28.1.Places.length c12 x28.1.Places] := H70.pick [18, 19, 12, 13, 1, 0] (by kernel_rfl)
            have gs1 := M.ret_some gs1
            subst gs1
            exact Run_fall [3, 6, 13, 27, 28] (by kernel_rfl) ⟨b8, a12, c12, rfl, H71⟩
          · intro h34 H52
            have H53 : Hold h h34 [box b7 30 [.int .i64 x12.1.Events, .slice a11 x12.1.Places.length c11], own cd58 a11 x12.1.Places.length c11 x12.1.Places, box b6 30 [.int .i64 x11.1.Events, .slice a10 x11.1.Places.length c10], own cd58 a10 x11.1.Places.length c10 x11.1.Places, box b5 30 [.int .i64 x10.1.Events, .slice a9 x10.1.Places.length c9], own cd58 a9 x10.1.Places.length c9 x10.1.Places, box b4 30 [.int .i64 x9.1.Events, .slice a8 x9.1.Places.length c8], own cd58 a8 x9.1.Places.length c8 x9.1.Places, box b3 30 [.int .i64 x8.1.Events, .slice a7 x8.1.Places.length c7], own cd58 a7 x8.1.Places.length c7 x8.1.Places, box b2 30 [.int .i64 x7.1.Events, .slice a6 x7.1.Places.length c6], own cd58 a6 x7.1.Places.length c6 x7.1.Places, own cd2 a5 x6.1.length c5 x6.1, own cd2 a4 x5.1.length c4 x5.1, own cd2 a3 x4.1.length c3 x4.1, own cd2 a2 x3.1.length c2 x3.1, box b1 30 [.int .i64 x2.1.Events, .slice a1 x2.1.Places.length c1], own cd58 a1 x2.1.Places.length c1 x2.1.Places] := H52
            refine E_box (ty := 30) (cs := [.int .i64 0, .slice none 0 0]) H53 (fun w => by kernel_rfl) (fun b9 h35 H54 => ?_)
            refine ⟨fun x => Hold h x [box b7 30 [.int .i64 x12.1.Events, .slice a11 x12.1.Places.length c11], own cd58 a11 x12.1.Places.length c11 x12.1.Places, box b6 30 [.int .i64 x11.1.Events, .slice a10 x11.1.Places.length c10], own cd58 a10 x11.1.Places.length c10 x11.1.Places, box b5 30 [.int .i64 x10.1.Events, .slice a9 x10.1.Places.length c9], own cd58 a9 x10.1.Places.length c9 x10.1.Places, box b4 30 [.int .i64 x9.1.Events, .slice a8 x9.1.Places.length c8], own cd58 a8 x9.1.Places.length c8 x9.1.Places, box b3 30 [.int .i64 x8.1.Events, .slice a7 x8.1.Places.length c7], own cd58 a7 x8.1.Places.length c7 x8.1.Places, box b2 30 [.int .i64 x7.1.Events, .slice a6 x7.1.Places.length c6], own cd58 a6 x7.1.Places.length c6 x7.1.Places, own cd2 a5 x6.1.length c5 x6.1, own cd2 a4 x5.1.length c4 x5.1, own cd2 a3 x4.1.length c3 x4.1, own cd2 a2 x3.1.length c2 x3.1, box b1 30 [.int .i64 x2.1.Events, .slice a1 x2.1.Places.length c1], own cd58 a1 x2.1.Places.length c1 x2.1.Places], fun x => Hold h x [box b9 30 [.int .i64 0, .slice none 0 0], box b7 30 [.int .i64 x12.1.Events, .slice a11 x12.1.Places.length c11], own cd58 a11 x12.1.Places.length c11 x12.1.Places, box b6 30 [.int .i64 x11.1.Events, .slice a10 x11.1.Places.length c10], own cd58 a10 x11.1.Places.length c10 x11.1.Places, box b5 30 [.int .i64 x10.1.Events, .slice a9 x10.1.Places.length c9], own cd58 a9 x10.1.Places.length c9 x10.1.Places, box b4 30 [.int .i64 x9.1.Events, .slice a8 x9.1.Places.length c8], own cd58 a8 x9.1.Places.length c8 x9.1.Places, box b3 30 [.int .i64 x8.1.Events, .slice a7 x8.1.Places.length c7], own cd58 a7 x8.1.Places.length c7 x8.1.Places, box b2 30 [.int .i64 x7.1.Events, .slice a6 x7.1.Places.length c6], own cd58 a6 x7.1.Places.length c6 x7.1.Places, own cd2 a5 x6.1.length c5 x6.1, own cd2 a4 x5.1.length c4 x5.1, own cd2 a3 x4.1.length c3 x4.1, own cd2 a2 x3.1.length c2 x3.1, box b1 30 [.int .i64 x2.1.Events, .slice a1 x2.1.Places.length c1], own cd58 a1 x2.1.Places.length c1 x2.1.Places], H54, Hold.stable, fun x Hy => (show Hold h x [box b9 30 [.int .i64 0, .slice none 0 0], box b7 30 [.int .i64 x12.1.Events, .slice a11 x12.1.Places.length c11], own cd58 a11 x12.1.Places.length c11 x12.1.Places, box b6 30 [.int .i64 x11.1.Events, .slice a10 x11.1.Places.length c10], own cd58 a10 x11.1.Places.length c10 x11.1.Places, box b5 30 [.int .i64 x10.1.Events, .slice a9 x10.1.Places.length c9], own cd58 a9 x10.1.Places.length c9 x10.1.Places, box b4 30 [.int .i64 x9.1.Events, .slice a8 x9.1.Places.length c8], own cd58 a8 x9.1.Places.length c8 x9.1.Places, box b3 30 [.int .i64 x8.1.Events, .slice a7 x8.1.Places.length c7], own cd58 a7 x8.1.Places.length c7 x8.1.Places, box b2 30 [.int .i64 x7.1.Events, .slice a6 x7.1.Places.length c6], own cd58 a6 x7.1.Places.length c6 x7.1.Places, own cd2 a5 x6.1.length c5 x6.1, own cd2 a4 x5.1.length c4 x5.1, own cd2 a3 x4.1.length c3 x4.1, own cd2 a2 x3.1.length c2 x3.1, box b1 30 [.int .i64 x2.1.Events, .slice a1 x2.1.Places.length c1], own cd58 a1 x2.1.Places.length c1 x2.1.Places] from Hy).pick [1, 2, 3, 4, 5, 6, 7, 8, 9, 10, 11, 12, 13, 14, 15, 16, 17, 18] (by kernel_rfl), fun x Hy => (show Hold h x [box b7 30 [.int .i64 x12.1.Events, .slice a11 x12.1.Places.length c11], own cd58 a11 x12.1.Places.length c11 x12.1.Places, box b6 30 [.int .i64 x11.1.Events, .slice a10 x11.1.Places.length c10], own cd58 a10 x11.1.Places.length c10 x11.1.Places, box b5 30 [.int .i64 x10.1.Events, .slice a9 x10.1.Places.length c9], own cd58 a9 x10.1.Places.length c9 x10.1.Places, box b4 30 [.int .i64 x9.1.Events, .slice a8 x9.1.Places.length c8], own cd58 a8 x9.1.Places.length c8 x9.1.Places, box b3 30 [.int .i64 x8.1.Events, .slice a7 x8.1.Places.length c7], own cd58 a7 x8.1.Places.length c7 x8.1.Places, box b2 30 [.int .i64 x7.1.Events, .slice a6 x7.1.Places.length c6], own cd58 a6 x7.1.Places.length c6 x7.1.Places, own cd2 a5 x6.1.length c5 x6.1, own cd2 a4 x5.1.length c4 x5.1, own cd2 a3 x4.1.length c3 x4.1, own cd2 a2 x3.1.length c2 x3.1, box b1 30 [.int .i64 x2.1.Events, .slice a1 x2.1.Places.length c1], own cd58 a1 x2.1.Places.length c1 x2.1.Places] from Hy).pick [0, 1, 2, 3, 4, 5, 6, 7, 8, 9, 10, 11, 12, 13, 14, 15, 16, 17] (by kernel_rfl), ?_⟩
            refine DR_e 5 14 (by kernel_rfl) (by kernel_rfl) (by kernel_rfl) (fun h36 H55 => ?_)
            have H56 : Hold h h36 [box b9 30 [.int .i64 0, .slice none 0 0], box b7 30 [.int .i64 x12.1.Events, .slice a11 x12.1.Places.length c11], own cd58 a11 x12.1.Places.length c11 x12.1.Places, box b6 30 [.int .i64 x11.1.Events, .slice a10 x11.1.Places.length c10], own cd58 a10 x11.1.Places.length c10 x11.1.Places, box b5 30 [.int .i64 x10.1.Events, .slice a9 x10.1.Places.length c9], own cd58 a9 x10.1.Places.length c9 x10.1.Places, box b4 30 [.int .i64 x9.1.Events, .slice a8 x9.1.Places.length c8], own cd58 a8 x9.1.Places.length c8 x9.1.Places, box b3 30 [.int .i64 x8.1.Events, .slice a7 x8.1.Places.length c7], own cd58 a7 x8.1.Places.length c7 x8.1.Places, box b2 30 [.int .i64 x7.1.Events, .slice a6 x7.1.Places.length c6], own cd58 a6 x7.1.Places.length c6 x7.1.Places, own cd2 a5 x6.1.length c5 x6.1, own cd2 a4 x5.1.length c4 x5.1, own cd2 a3 x4.1.length c3 x4.1, own cd2 a2 x3.1.length c2 x3.1, box b1 30 [.int .i64 x2.1.Events, .slice a1 x2.1.Places.length c1], own cd58 a1 x2.1.Places.length c1 x2.1.Places] := H55
            obtain ⟨x29, hx22, gs1⟩ := M.bind_some gs1
            refine E_call (f := 34) (args := #[.agg #[.int .i64 x8.1.Events, .slice a7 x8.1.Places.length c7], .int .i64 x7.2.1, .int .i64 x26.Delay, .int .i64 x27.Tokens]) (w_impl_ChangePlace h36 x8.1 a7 c7 (H56.rd 10 rfl) x7.2.1 x26.Delay x27.Tokens _ _ hx22) (by kernel_rfl) (fun v13 h37 hp13 => ?_)
            obtain ⟨a13, c13, rfl, H57⟩ := hp13
            have H58 : Hold h h37 [own cd58 a13 x29.1.Places.length c13 x29.1.Places, box b9 30 [.int .i64 0, .slice none 0 0], box b7 30 [.int .i64 x12.1.Events, .slice a11 x12.1.Places.length c11], own cd58 a11 x12.1.Places.length c11 x12.1.Places, box b6 30 [.int .i64 x11.1.Events, .slice a10 x11.1.Places.length c10], own cd58 a10 x11.1.Places.length c10 x11.1.Places, box b5 30 [.int .i64 x10.1.Events, .slice a9 x10.1.Places.length c9], own cd58 a9 x10.1.Places.length c9 x10.1.Places, box b4 30 [.int .i64 x9.1.Events, .slice a8 x9.1.Places.length c8], own cd58 a8 x9.1.Places.length c8 x9.1.Places, box b3 30 [.int .i64 x8.1.Events, .slice a7 x8.1.Places.length c7], own cd58 a7 x8.1.Places.length c7 x8.1.Places, box b2 30 [.int .i64 x7.1.Events, .slice a6 x7.1.Places.length c6], own cd58 a6 x7.1.Places.length c6 x7.1.Places, own cd2 a5 x6.1.length c5 x6.1, own cd2 a4 x5.1.length c4 x5.1, own cd2 a3 x4.1.length c3 x4.1, own cd2 a2 x3.1.length c2 x3.1, box b1 30 [.int .i64 x2.1.Events, .slice a1 x2.1.Places.length c1], own cd58 a1 x2.1.Places.length c1 x2.1.Places] := H56.call H57 rfl
            refine ⟨fun x => Hold h x [box b7 30 [.int .i64 x12.1.Events, .slice a11 x12.1.Places.length c11], own cd58 a11 x12.1.Places.length c11 x12.1.Places, box b6 30 [.int .i64 x11.1.Events, .slice a10 x11.1.Places.length c10], own cd58 a10 x11.1.Places.length c10 x11.1.Places, box b5 30 [.int .i64 x10.1.Events, .slice a9 x10.1.Places.length c9], own cd58 a9 x10.1.Places.length c9 x10.1.Places, box b4 30 [.int .i64 x9.1.Events, .slice a8 x9.1.Places.length c8], own cd58 a8 x9.1.Places.length c8 x9.1.Places, box b3 30 [.int .i64 x8.1.Events, .slice a7 x8.1.Places.length c7], own cd58 a7 x8.1.Places.length c7 x8.1.Places, box b2 30 [.int .i64 x7.1.Events, .slice a6 x7.1.Places.length c6], own cd58 a6 x7.1.Places.length c6 x7.1.Places, own cd2 a5 x6.1.length c5 x6.1, own cd2 a4 x5.1.length c4 x5.1, own cd2 a3 x4.1.length c3 x4.1, own cd2 a2 x3.1.length c2 x3.1, box b1 30 [.int .i64 x2.1.Events, .slice a1 x2.1.Places.length c1], own cd58 a1 x2.1.Places.length c1 x2.1.Places, own cd58 a13 x29.1.Places.length c13 x29.1.Places], fun x => Hold h x [own cd58 a13 x29.1.Places.length c13 x29.1.Places, box b9 30 [.int .i64 0, .slice none 0 0], box b7 30 [.int .i64 x12.1.Events, .slice a11 x12.1.Places.length c11], own cd58 a11 x12.1.Places.length c11 x12.1.Places, box b6 30 [.int .i64 x11.1.Events, .slice a10 x11.1.Places.length c10], own cd58 a10 x11.1.Places.length c10 x11.1.Places, box b5 30 [.int .i64 x10.1.Events, .slice a9 x10.1.Places.length c9], own cd58 a9 x10.1.Places.length c9 x10.1.Places, box b4 30 [.int .i64 x9.1.Events, .slice a8 x9.1.Places.length c8], own cd58 a8 x9.1.Places.length c8 x9.1.Places, box b3 30 [.int .i64 x8.1.Events, .slice a7 x8.1.Places.length c7], own cd58 a7 x8.1.Places.length c7 x8.1.Places, box b2 30 [.int .i64 x7.1.Events, .slice a6 x7.1.Places.length c6], own cd58 a6 x7.1.Places.length c6 x7.1.Places, own cd2 a5 x6.1.length c5 x6.1, own cd2 a4 x5.1.length c4 x5.1, own cd2 a3 x4.1.length c3 x4.1, own cd2 a2 x3.1.length c2 x3.1, box b1 30 [.int .i64 x2.1.Events, .slice a1 x2.1.Places.length c1], own cd58 a1 x2.1.Places.length c1 x2.1.Places], H58, Hold.stable, fun x Hy => (show Hold h x [own cd58 a13 x29.1.Places.length c13 x29.1.Places, box b9 30 [.int .i64 0, .slice none 0 0], box b7 30 [.int .i64 x12.1.Events, .slice a11 x12.1.Places.length c11], own cd58 a11 x12.1.Places.length c11 x12.1.Places, box b6 30 [.int .i64 x11.1.Events, .slice a10 x11.1.Places.length c10], own cd58 a10 x11.1.Places.length c10 x11.1.Places, box b5 30 [.int .i64 x10.1.Events, .slice a9 x10.1.Places.length c9], own cd58 a9 x10.1.Places.length c9 x10.1.Places, box b4 30 [.int .i64 x9.1.Events, .slice a8 x9.1.Places.length c8], own cd58 a8 x9.1.Places.length c8 x9.1.Places, box b3 30 [.int .i64 x8.1.Events, .slice a7 x8.1.Places.length c7], own cd58 a7 x8.1.Places.length c7 x8.1.Places, box b2 30 [.int .i64 x7.1.Events, .slice a6 x7.1.Places.length c6], own cd58 a6 x7.1.Places.length c6 x7.1.Places, own cd2 a5 x6.1.length c5 x6.1, own cd2 a4 x5.1.length c4 x5.1, own cd2 a3 x4.1.length c3 x4.1, own cd2 a2 x3.1.length c2 x3.1, box b1 30 [.int .i64 x2.1.Events, .slice a1 x2.1.Places.length c1], own cd58 a1 x2.1.Places.length c1 x2.1.Places] from Hy).pick [2, 3, 4, 5, 6, 7, 8, 9, 10, 11, 12, 13, 14, 15, 16, 17, 18, 19, 0] (by kernel_rfl), fun x Hy => (show Hold h x [box b7 30 [.int .i64 x12.1.Events, .slice a11 x12.1.Places.length c11], own cd58 a11 x12.1.Places.length c11 x12.1.Places, box b6 30 [.int .i64 x11.1.Events, .slice a10 x11.1.Places.length c10], own cd58 a10 x11.1.Places.length c10 x11.1.Places, box b5 30 [.int .i64 x10.1.Events, .slice a9 x10.1.Places.length c9], own cd58 a9 x10.1.Places.length c9 x10.1.Places, box b4 30 [.int .i64 x9.1.Events, .slice a8 x9.1.Places.length c8], own cd58 a8 x9.1.Places.length c8 x9.1.Places, box b3 30 [.int .i64 x8.1.Events, .slice a7 x8.1.Places.length c7], own cd58 a7 x8.1.Places.length c7 x8.1.Places, box b2 30 [.int .i64 x7.1.Events, .slice a6 x7.1.Places.length c6], own cd58 a6 x7.1.Places.length c6 x7.1.Places, own cd2 a5 x6.1.length c5 x6.1, own cd2 a4 x5.1.length c4 x5.1, own cd2 a3 x4.1.length c3 x4.1, own cd2 a2 x3.1.length c2 x3.1, box b1 30 [.int .i64 x2.1.Events, .slice a1 x2.1.Places.length c1], own cd58 a1 x2.1.Places.length c1 x2.1.Places, own cd58 a13 x29.1.Places.length c13 x29.1.Places] from Hy).pick [0, 1, 2, 3, 4, 5, 6, 7, 8, 9, 10, 11, 12, 13, 14, 15, 16, 17] (by kernel_rfl), ?_⟩
            refine DR_b 2 [.tuple #[.agg #[.int .i64 x29.1.Events, .slice a13 x29.1.Places.length c13], .int .i64 x29.2], .agg #[.int .i64 x29.1.Events, .slice a13 x29.1.Places.length c13], .int .i64 x29.2] 15 (by kernel_rfl) (by kernel_rfl) (by kernel_rfl) (fun w => by kernel_rfl) ?_
            refine DR_e 1 19 (by kernel_rfl) (by kernel_rfl) (by kernel_rfl) (fun h38 H59 => ?_)
            have H60 : Hold h h38 [own cd58 a13 x29.1.Places.length c13 x29.1.Places, box b9 30 [.int .i64 0, .slice none 0 0], box b7 30 [.int .i64 x12.1.Events, .slice a11 x12.1.Places.length c11], own cd58 a11 x12.1.Places.length c11 x12.1.Places, box b6 30 [.int .i64 x11.1.Events, .slice a10 x11.1.Places.length c10], own cd58 a10 x11.1.Places.length c10 x11.1.Places, box b5 30 [.int .i64 x10.1.Events, .slice a9 x10.1.Places.length c9], own cd58 a9 x10.1.Places.length c9 x10.1.Places, box b4 30 [.int .i64 x9.1.Events, .slice a8 x9.1.Places.length c8], own cd58 a8 x9.1.Places.length c8 x9.1.Places, box b3 30 [.int .i64 x8.1.Events, .slice a7 x8.1.Places.length c7], own cd58 a7 x8.1.Places.length c7 x8.1.Places, box b2 30 [.int .i64 x7.1.Events, .slice a6 x7.1.Places.length c6], own cd58 a6 x7.1.Places.length c6 x7.1.Places, own cd2 a5 x6.1.length c5 x6.1, own cd2 a4 x5.1.length c4 x5.1, own cd2 a3 x4.1.length c3 x4.1, own cd2 a2 x3.1.length c2 x3.1, box b1 30 [.int .i64 x2.1.Events, .slice a1 x2.1.Places.length c1], own cd58 a1 x2.1.Places.length c1 x2.1.Places] := H59
            have H62 : Hold h h38 [box b9 30 [.int .i64 0, .slice none 0 0], own cd58 a13 x29.1.Places.length c13 x29.1.Places, box b7 30 [.int .i64 x12.1.Events, .slice a11 x12.1.Places.length c11], own cd58 a11 x12.1.Places.length c11 x12.1.Places, box b6 30 [.int .i64 x11.1.Events, .slice a10 x11.1.Places.length c10], own cd58 a10 x11.1.Places.length c10 x11.1.Places, box b5 30 [.int .i64 x10.1.Events, .slice a9 x10.1.Places.length c9], own cd58 a9 x10.1.Places.length c9 x10.1.Places, box b4 30 [.int .i64 x9.1.Events, .slice a8 x9.1.Places.length c8], own cd58 a8 x9.1.Places.length c8 x9.1.Places, box b3 30 [.int .i64 x8.1.Events, .slice a7 x8.1.Places.length c7], own cd58 a7 x8.1.Places.length c7 x8.1.Places, box b2 30 [.int .i64 x7.1.Events, .slice a6 x7.1.Places.length c6], own cd58 a6 x7.1.Places.length c6 x7.1.Places, own cd2 a5 x6.1.length c5 x6.1, own cd2 a4 x5.1.length c4 x5.1, own cd2 a3 x4.1.length c3 x4.1, own cd2 a2 x3.1.length c2 x3.1, box b1 30 [.int .i64 x2.1.Events, .slice a1 x2.1.Places.length c1], own cd58 a1 x2.1.Places.length c1 x2.1.Places] := H60.pick [1, 0, 2, 3, 4, 5, 6, 7, 8, 9, 10, 11, 12, 13, 14, 15, 16, 17, 18, 19] (by kernel_rfl)
            refine E_bput (t := 30) (off := 0) (us := [.int .i64 x29.1.Events, .slice a13 x29.1.Places.length c13]) (v := .agg #[.int .i64 x29.1.Events, .slice a13 x29.1.Places.length c13]) H62 (by kernel_rfl) (by kernel_rfl) rfl (by kernel_rfl) rfl (fun h39 H61 => ?_)
            refine ⟨fun x => Hold h x [box b7 30 [.int .i64 x12.1.Events, .slice a11 x12.1.Places.length c11], own cd58 a11 x12.1.Places.length c11 x12.1.Places, box b6 30 [.int .i64 x11.1.Events, .slice a10 x11.1.Places.length c10], own cd58 a10 x11.1.Places.length c10 x11.1.Places, box b5 30 [.int .i64 x10.1.Events, .slice a9 x10.1.Places.length c9], own cd58 a9 x10.1.Places.length c9 x10.1.Places, box b4 30 [.int .i64 x9.1.Events, .slice a8 x9.1.Places.length c8], own cd58 a8 x9.1.Places.length c8 x9.1.Places, box b3 30 [.int .i64 x8.1.Events, .slice a7 x8.1.Places.length c7], own cd58 a7 x8.1.Places.length c7 x8.1.Places, box b2 30 [.int .i64 x7.1.Events, .slice a6 x7.1.Places.length c6], own cd58 a6 x7.1.Places.length c6 x7.1.Places, own cd2 a5 x6.1.length c5 x6.1, own cd2 a4 x5.1.length c4 x5.1, own cd2 a3 x4.1.length c3 x4.1, own cd2 a2 x3.1.length c2 x3.1, box b1 30 [.int .i64 x2.1.Events, .slice a1 x2.1.Places.length c1], own cd58 a1 x2.1.Places.length c1 x2.1.Places, own cd58 a13 x29.1.Places.length c13 x29.1.Places], fun x => Hold h x [box b9 30 [.int .i64 x29.1.Events, .slice a13 x29.1.Places.length c13], own cd58 a13 x29.1.Places.length c13 x29.1.Places, box b7 30 [.int .i64 x12.1.Events, .slice a11 x12.1.Places.length c11], own cd58 a11 x12.1.Places.length c11 x12.1.Places, box b6 30 [.int .i64 x11.1.Events, .slice a10 x11.1.Places.length c10], own cd58 a10 x11.1.Places.length c10 x11.1.Places, box b5 30 [.int .i64 x10.1.Events, .slice a9 x10.1.Places.length c9], own cd58 a9 x10.1.Places.length c9 x10.1.Places, box b4 30 [.int .i64 x9.1.Events, .slice a8 x9.1.Places.length c8], own cd58 a8 x9.1.Places.length c8 x9.1.Places, box b3 30 [.int .i64 x8.1.Events, .slice a7 x8.1.Places.length c7], own cd58 a7 x8.1.Places.length c7 x8.1.Places, box b2 30 [.int .i64 x7.1.Events, .slice a6 x7.1.Places.length c6], own cd58 a6 x7.1.Places.length c6 x7.1.Places, own cd2 a5 x6.1.length c5 x6.1, own cd2 a4 x5.1.length c4 x5.1, own cd2 a3 x4.1.length c3 x4.1, own cd2 a2 x3.1.length c2 x3.1, box b1 30 [.int .i64 x2.1.Events, .slice a1 x2.1.Places.length c1], own cd58 a1 x2.1.Places.length c1 x2.1.Places], H61, Hold.stable, fun x Hy => (show Hold h x [box b9 30 [.int .i64 x29.1.Events, .slice a13 x29.1.Places.length c13], own cd58 a13 x29.1.Places.length c13 x29.1.Places, box b7 30 [.int .i64 x12.1.Events, .slice a11 x12.1.Places.length c11], own cd58 a11 x12.1.Places.length c11 x12.1.Places, box b6 30 [.int .i64 x11.1.Events, .slice a10 x11.1.Places.length c10], own cd58 a10 x11.1.Places.length c10 x11.1.Places, box b5 30 [.int .i64 x10.1.Events, .slice a9 x10.1.Places.length c9], own cd58 a9 x10.1.Places.length c9 x10.1.Places, box b4 30 [.int .i64 x9.1.Events, .slice a8 x9.1.Places.length c8], own cd58 a8 x9.1.Places.length c8 x9.1.Places, box b3 30 [.int .i64 x8.1.Events, .slice a7 x8.1.Places.length c7], own cd58 a7 x8.1.Places.length c7 x8.1.Places, box b2 30 [.int .i64 x7.1.Events, .slice a6 x7.1.Places.length c6], own cd58 a6 x7.1.Places.length c6 x7.1.Places, own cd2 a5 x6.1.length c5 x6.1, own cd2 a4 x5.1.length c4 x5.1, own cd2 a3 x4.1.length c3 x4.1, own cd2 a2 x3.1.length c2 x3.1, box b1 30 [.int .i64 x2.1.Events, .slice a1 x2.1.Places.length c1], own cd58 a1 x2.1.Places.length c1 x2.1.Places] from Hy).pick [2, 3, 4, 5, 6, 7, 8, 9, 10, 11, 12, 13, 14, 15, 16, 17, 18, 19, 1] (by kernel_rfl), fun x Hy => (show Hold h x [box b7 30 [.int .i64 x12.1.Events, .slice a11 x12.1.Places.length c11], own cd58 a11 x12.1.Places.length c11 x12.1.Places, box b6 30 [.int .i64 x11.1.Events, .slice a10 x11.1.Places.length c10], own cd58 a10 x11.1.Places.length c10 x11.1.Places, box b5 30 [.int .i64 x10.1.Events, .slice a9 x10.1.Places.length c9], own cd58 a9 x10.1.Places.length c9 x10.1.Places, box b4 30 [.int .i64 x9.1.Events, .slice a8 x9.1.Places.length c8], own cd58 a8 x9.1.Places.length c8 x9.1.Places, box b3 30 [.int .i64 x8.1.Events, .slice a7 x8.1.Places.length c7], own cd58 a7 x8.1.Places.length c7 x8.1.Places, box b2 30 [.int .i64 x7.1.Events, .slice a6 x7.1.Places.length c6], own cd58 a6 x7.1.Places.length c6 x7.1.Places, own cd2 a5 x6.1.length c5 x6.1, own cd2 a4 x5.1.length c4 x5.1, own cd2 a3 x4.1.length c3 x4.1, own cd2 a2 x3.1.length c2 x3.1, box b1 30 [.int .i64 x2.1.Events, .slice a1 x2.1.Places.length c1], own cd58 a1 x2.1.Places.length c1 x2.1.Places, own cd58 a13 x29.1.Places.length c13 x29.1.Places] from Hy).pick [0, 1, 2, 3, 4, 5, 6, 7, 8, 9, 10, 11, 12, 13, 14, 15, 16, 17, 18] (by kernel_rfl), ?_⟩
            refine DR_b 0 [.int .i64 x29.2] 20 (by kernel_rfl) (by kernel_rfl) (by kernel_rfl) (fun w => by kernel_rfl) ?_
            refine DR_tail (i := 21) (by kernel_rfl) (by kernel_rfl) (by kernel_rfl) (fun h40 H63 => ?_)
            have H64 : Hold h h40 [box b9 30 [.int .i64 x29.1.Events, .slice a13 x29.1.Places.length c13], own cd58 a13 x29.1.Places.length c13 x29.1.Places, box b7 30 [.int .i64 x12.1.Events, .slice a11 x12.1.Places.length c11], own cd58 a11 x12.1.Places.length c11 x12.1.Places, box b6 30 [.int .i64 x11.1.Events, .slice a10 x11.1.Places.length c10], own cd58 a10 x11.1.Places.length c10 x11.1.Places, box b5 30 [.int .i64 x10.1.Events, .slice a9 x10.1.Places.length c9], own cd58 a9 x10.1.Places.length c9 x10.1.Places, box b4 30 [.int .i64 x9.1.Events, .slice a8 x9.1.Places.length c8], own cd58 a8 x9.1.Places.length c8 x9.1.Places, box b3 30 [.int .i64 x8.1.Events, .slice a7 x8.1.Places.length c7], own cd58 a7 x8.1.Places.length c7 x8.1.Places, box b2 30 [.int .i64 x7.1.Events, .slice a6 x7.1.Places.length c6], own cd58 a6 x7.1.Places.length c6 x7.1.Places, own cd2 a5 x6.1.length c5 x6.1, own cd2 a4 x5.1.length c4 x5.1, own cd2 a3 x4.1.length c3 x4.1, own cd2 a2 x3.1.length c2 x3.1, box b1 30 [.int .i64 x2.1.Events, .slice a1 x2.1.Places.length c1], own cd58 a1 x2.1.Places.length c1 x2.1.Places] := H63
            refine Run_nil (by kernel_rfl) ?_
            refine Run_keep [3, 6, 13, 27, 28] (L' := [(3, .pointer (some ⟨b1, 0, none⟩)), (6, .int .i64 x3.2), (13, .pointer (some ⟨b2, 0, none⟩)), (27, .pointer (some ⟨b9, 0, none⟩)), (28, .int .i64 x29.2)]) (by kernel_rfl) ?_
            have H72 : Hold h h40 [own cd58 a13 x29.1.Places.length c13 x29.1.Places, box b9 30 [.int .i64 x29.1.Events, .slice a13 x29.1.Places.length c13], box b7 30 [.int .i64 x12.1.Events, .slice a11 x12.1.Places.length c11], own cd58 a11 x12.1.Places.length c11 x12.1.Places, box b6 30 [.int .i64 x11.1.Events, .slice a10 x11.1.Places.length c10], own cd58 a10 x11.1.Places.length c10 x11.1.Places, box b5 30 [.int .i64 x10.1.Events, .slice a9 x10.1.Places.length c9], own cd58 a9 x10.1.Places.length c9 x10.1.Places, box b4 30 [.int .i64 x9.1.Events, .slice a8 x9.1.Places.length c8], own cd58 a8 x9.1.Places.length c8 x9.1.Places, box b3 30 [.int .i64 x8.1.Events, .slice a7 x8.1.Places.length c7], own cd58 a7 x8.1.Places.length c7 x8.1.Places, box b2 30 [.int .i64 x7.1.Events, .slice a6 x7.1.Places.length c6], own cd58 a6 x7.1.Places.length c6 x7.1.Places, own cd2 a5 x6.1.length c5 x6.1, own cd2 a4 x5.1.length c4 x5.1, own cd2 a3 x4.1.length c3 x4.1, own cd2 a2 x3.1.length c2 x3.1, box b1 30 [.int .i64 x2.1.Events, .slice a1 x2.1.Places.length c1], own cd58 a1 x2.1.Places.length c1 x2.1.Places] := H64.pick [1, 0, 2, 3, 4, 5, 6, 7, 8, 9, 10, 11, 12, 13, 14, 15, 16, 17, 18, 19] (by kernel_rfl)
            have H73 : Hold h h40 [box b1 30 [.int .i64 x2.1.Events, .slice a1 x2.1.Places.length c1], own cd58 a1 x2.1.Places.length c1 x2.1.Places, box b2 30 [.int .i64 x7.1.Events, .slice a6 x7.1.Places.length c6], own cd58 a6 x7.1.Places.length c6 x7.1.Places, box b9 30 [.int .i64 x29.1.Events, .slice a13 x29.1.Places.length c13], own cd58 a13 x29.1.Places.length c13 x29.1.Places] := H72.pick [18, 19, 12, 13, 1, 0] (by kernel_rfl)
            have gs1 := M.ret_some gs1
            subst gs1
            exact Run_fall [3, 6, 13, 27, 28] (by kernel_rfl) ⟨b9, a13, c13, rfl, H73⟩
      · have hF := (M.ite_some hF).2 hb10
        refine Run_skip ?_
        refine Run_seq ?_
        refine Run_seq ?_
        refine Run_reg 2 (by kernel_rfl) (L' := [(3, .pointer (some ⟨b1, 0, none⟩)), (177, .bool (x3.2 != 0))]) ?_ ?_
        · refine QRun_b [.int .i64 x3.2, .bool (x3.2 != 0)] 0 _ (by kernel_rfl) (fun w => by kernel_rfl) ?_
          exact QRun_done [3, 177] (by kernel_rfl) (by kernel_rfl)
        refine Run_cond (b := x3.2 != 0) (by kernel_rfl) (fun hb17 => ?_) (fun hb17 => ?_)
        · have hF := (M.ite_some hF).1 hb17
          refine Run_seq ?_
          refine Run_reg 1 (by kernel_rfl) (L' := [(2, .bool true)]) ?_ ?_
          · refine QRun_b [.bool true] 0 _ (by kernel_rfl) (fun w => by kernel_rfl) ?_
            exact QRun_done [2] (by kernel_rfl) (by kernel_rfl)
          have hF := M.ret_some hF
          subst hF
          have H88 : Hold h h26 [] := H38.pick [] (by kernel_rfl)
          exact Run_ret1 rfl (ResV_tmp (v := .bool true) (by kernel_rfl)) ⟨rfl, H88⟩
        · have hF := (M.ite_some hF).2 hb17
          refine Run_skip ?_
          refine Run_seq ?_
          refine Run_reg 1 (by kernel_rfl) (L' := [(3, .pointer (some ⟨b1, 0, none⟩)), (29, .int .i64 0)]) ?_ ?_
          · refine QRun_b [.int .i64 0] 0 _ (by kernel_rfl) (fun w => by kernel_rfl) ?_
            exact QRun_done [3, 29] (by kernel_rfl) (by kernel_rfl)
          refine Run_seq ?_
          refine Run_seq ?_
          refine Run_reg 1 (by kernel_rfl) (L' := [(3, .pointer (some ⟨b1, 0, none⟩)), (29, .int .i64 0), (30, .int .i64 0)]) ?_ ?_
          · refine QRun_b [.int .i64 0] 0 _ (by kernel_rfl) (fun w => by kernel_rfl) ?_
            exact QRun_done [3, 29, 30] (by kernel_rfl) (by kernel_rfl)
          obtain ⟨x36, gx36, hF⟩ := M.bind_some hF
          refine Run_join (fun L' h' => ∃ (s5 : Int × Int), x36 = .inl s5 ∧ L' = [(3, .pointer (some ⟨b1, 0, none⟩)), (29, .int .i64 s5.1)] ∧ Hold h h' [box b1 30 [.int .i64 x2.1.Events, .slice a1 x2.1.Places.length c1], own cd58 a1 x2.1.Places.length c1 x2.1.Places]) ?_ ?_
          · rintro _ h48 ⟨s5, es5, rfl, H90⟩
            have hF := M.cont_inl' hF es5
            refine Run_seq ?_
            refine Run_reg 7 (by kernel_rfl) (L' := [(2, .bool (s5.1 == (w64 (2 * (x2.1.Places.length : Int)))))]) ?_ ?_
            · refine QRun_b [.int .i64 s5.1, .pointer (some ⟨b1, 1, none⟩)] 0 _ (by kernel_rfl) (fun w => by kernel_rfl) ?_
              refine QRun_y (.slice a1 x2.1.Places.length c1) (by kernel_rfl) (Y_load1 (t := 28) (p := ⟨b1, 1, none⟩) (v := .slice a1 x2.1.Places.length c1) (by kernel_rfl) (fun w => by kernel_rfl) (H90.cell 0 rfl rfl)) ?_
              refine QRun_b [.int .i64 (x2.1.Places.length : Int), .int .i64 (w64 (2 * (x2.1.Places.length : Int))), .bool (s5.1 == (w64 (2 * (x2.1.Places.length : Int)))), .bool (s5.1 == (w64 (2 * (x2.1.Places.length : Int))))] 3 _ (by kernel_rfl) (fun w => by kernel_rfl) ?_
              exact QRun_done [2] (by kernel_rfl) (by kernel_rfl)
            have hF := M.ret_some hF
            subst hF
            have H97 : Hold h h48 [] := H90.pick [] (by kernel_rfl)
            exact Run_ret1 rfl (ResV_tmp (v := .bool (s5.1 == (w64 (2 * (x2.1.Places.length : Int))))) (by kernel_rfl)) ⟨rfl, H97⟩
          · refine Run_block ?_
            have H98 : Hold h h26 [box b1 30 [.int .i64 x2.1.Events, .slice a1 x2.1.Places.length c1], own cd58 a1 x2.1.Places.length c1 x2.1.Places] := H38.pick [16, 17] (by kernel_rfl)
            refine Run_keep [3, 29, 30] (L' := [(3, .pointer (some ⟨b1, 0, none⟩)), (29, .int .i64 0), (30, .int .i64 0)]) (by kernel_rfl) ?_
            refine Run_loop (fun m L' h' => ∃ (s4 : Int × Int), M.loopN _ n m s4 = some x36 ∧ L' = [(3, .pointer (some ⟨b1, 0, none⟩)), (29, .int .i64 s4.1), (30, .int .i64 s4.2)] ∧ Hold h h' [box b1 30 [.int .i64 x2.1.Events, .slice a1 x2.1.Places.length c1], own cd58 a1 x2.1.Places.length c1 x2.1.Places]) n ⟨(0, 0), gx36, rfl, H98⟩ ?_
            rintro my2 _ h47 ⟨s4, gx36, rfl, H89⟩
            obtain ⟨my2, y2, rfl, hB2, hgoy2, houty2⟩ := M.loop_some gx36
            refine Run_seq ?_
            refine Run_seq ?_
            refine Run_reg 4 (by kernel_rfl) (L' := [(3, .pointer (some ⟨b1, 0, none⟩)), (29, .int .i64 s4.1), (30, .int .i64 s4.2), (181, .bool (decide (s4.2 < x2.1.Events)))]) ?_ ?_
            · refine QRun_b [.int .i64 s4.2, .pointer (some ⟨b1, 0, none⟩)] 0 _ (by kernel_rfl) (fun w => by kernel_rfl) ?_
              refine QRun_y (.int .i64 x2.1.Events) (by kernel_rfl) (Y_load1 (t := 2) (p := ⟨b1, 0, none⟩) (v := .int .i64 x2.1.Events) (by kernel_rfl) (fun w => by kernel_rfl) (H89.cell 0 rfl rfl)) ?_
              refine QRun_b [.bool (decide (s4.2 < x2.1.Events))] 3 _ (by kernel_rfl) (fun w => by kernel_rfl) ?_
              exact QRun_done [3, 29, 30, 181] (by kernel_rfl) (by kernel_rfl)
            refine Run_cond (b := decide (s4.2 < x2.1.Events)) (by kernel_rfl) (fun hb18 => ?_) (fun hb18 => ?_)
            · have hB2 := (M.ite_some hB2).1 hb18
              refine Run_skip ?_
              refine Run_seq ?_
              refine Run_block ?_
              refine Run_seq ?_
              refine Run_ops ?_
              refine Run_y (.agg #[.int .i64 x2.1.Events, .slice a1 x2.1.Places.length c1]) (by kernel_rfl) (Y_loadA (t := 30) (n := 2) (p := ⟨b1, 0, none⟩) (cs := [.int .i64 x2.1.Events, .slice a1 x2.1.Places.length c1]) (by kernel_rfl) (fun w => by kernel_rfl) (by kernel_rfl) rfl (H89.cells (n := 2) (off := 0) 0 rfl rfl)) ?_
              refine Run_b [.int .i64 s4.2] 1 _ (by kernel_rfl) (fun w => by kernel_rfl) ?_
              obtain ⟨x37, hx26, hB2⟩ := M.bind_some hB2
              refine Run_E (by kernel_rfl) ?_
              refine E_call (f := 29) (args := #[.agg #[.int .i64 x2.1.Events, .slice a1 x2.1.Places.length c1], .int .i64 s4.2]) (w_impl_PlacesInto h47 x2.1 a1 c1 (H89.rd 1 rfl) s4.2 _ _ hx26) (by kernel_rfl) (fun v16 h49 hp16 => ?_)
              obtain ⟨a17, c17, rfl, H91⟩ := hp16
              have H92 : Hold h h49 [own cd2 a17 x37.1.length c17 x37.1, box b1 30 [.int .i64 x2.1.Events, .slice a1 x2.1.Places.length c1], own cd58 a1 x2.1.Places.length c1 x2.1.Places] := H89.call H91 rfl
              refine Run_b [.tuple #[.slice a17 x37.1.length c17, .int .i64 x37.2], .slice a17 x37.1.length c17, .int .i64 x37.2, .slice a17 x37.1.length c17, .int .i64 x37.2] 3 _ (by kernel_rfl) (fun w => by kernel_rfl) ?_
              refine Run_nil (by kernel_rfl) ?_
              refine Run_keep [3, 29, 30, 31, 32] (L' := [(3, .pointer (some ⟨b1, 0, none⟩)), (29, .int .i64 s4.1), (30, .int .i64 s4.2), (31, .slice a17 x37.1.length c17), (32, .int .i64 x37.2)]) (by kernel_rfl) ?_
              refine Run_seq ?_
              refine Run_ops ?_
              refine Run_y (.agg #[.int .i64 x2.1.Events, .slice a1 x2.1.Places.length c1]) (by kernel_rfl) (Y_loadA (t := 30) (n := 2) (p := ⟨b1, 0, none⟩) (cs := [.int .i64 x2.1.Events, .slice a1 x2.1.Places.length c1]) (by kernel_rfl) (fun w => by kernel_rfl) (by kernel_rfl) rfl (H92.cells (n := 2) (off := 0) 1 rfl rfl)) ?_
              refine Run_b [.int .i64 s4.2] 1 _ (by kernel_rfl) (fun w => by kernel_rfl) ?_
              obtain ⟨x38, hx27, hB2⟩ := M.bind_some hB2
              refine Run_E (by kernel_rfl) ?_
              refine E_call (f := 31) (args := #[.agg #[.int .i64 x2.1.Events, .slice a1 x2.1.Places.length c1], .int .i64 s4.2]) (w_impl_PlacesFrom h49 x2.1 a1 c1 (H92.rd 2 rfl) s4.2 _ _ hx27) (by kernel_rfl) (fun v17 h50 hp17 => ?_)
              obtain ⟨a18, c18, rfl, H93⟩ := hp17
              have H94 : Hold h h50 [own cd2 a18 x38.1.length c18 x38.1, own cd2 a17 x37.1.length c17 x37.1, box b1 30 [.int .i64 x2.1.Events, .slice a1 x2.1.Places.length c1], own cd58 a1 x2.1.Places.length c1 x2.1.Places] := H92.call H93 rfl
              refine Run_b [.tuple #[.slice a18 x38.1.length c18, .int .i64 x38.2], .slice a18 x38.1.length c18, .int .i64 x38.2, .slice a18 x38.1.length c18, .int .i64 x38.2] 3 _ (by kernel_rfl) (fun w => by kernel_rfl) ?_
              refine Run_nil (by kernel_rfl) ?_
              refine Run_keep [3, 29, 30, 31, 32, 33, 34] (L' := [(3, .pointer (some ⟨b1, 0, none⟩)), (29, .int .i64 s4.1), (30, .int .i64 s4.2), (31, .slice a17 x37.1.length c17), (32, .int .i64 x37.2), (33, .slice a18 x38.1.length c18), (34, .int .i64 x38.2)]) (by kernel_rfl) ?_
              refine Run_seq ?_
              refine Run_seq ?_
              refine Run_reg 6 (by kernel_rfl) (L' := [(3, .pointer (some ⟨b1, 0, none⟩)), (29, .int .i64 s4.1), (30, .int .i64 s4.2), (31, .slice a17 x37.1.length c17), (33, .slice a18 x38.1.length c18), (201, .bool ((x37.2 != 0) || (x38.2 != 0)))]) ?_ ?_
              · refine QRun_b [.int .i64 x37.2, .bool (x37.2 != 0)] 0 _ (by kernel_rfl) (fun w => by kernel_rfl) ?_
                refine QRun_seq 6 [(3, .pointer (some ⟨b1, 0, none⟩)), (29, .int .i64 s4.1), (30, .int .i64 s4.2), (31, .slice a17 x37.1.length c17), (33, .slice a18 x38.1.length c18), (201, .bool ((x37.2 != 0) || (x38.2 != 0)))] ?_ ?_
                · rcases Bool.eq_false_or_eq_true (x37.2 != 0) with hb19 | hb19
                  · refine QRun_bool (x37.2 != 0) true (by kernel_rfl) (fun w => by kernel_rfl) hb19 ?_
                    refine QRun_n (by kernel_rfl) ?_
                    refine QRun_n (by kernel_rfl) ?_
                    refine QRun_bool true ((x37.2 != 0) || (x38.2 != 0)) (by kernel_rfl) (fun w => by kernel_rfl) (by rw [hb19]; rfl) ?_
                    exact QRun_done [3, 29, 30, 31, 33, 201] (by kernel_rfl) (by kernel_rfl)
                  · refine QRun_bool (x37.2 != 0) false (by kernel_rfl) (fun w => by kernel_rfl) hb19 ?_
                    refine QRun_b [.int .i64 x38.2, .bool (x38.2 != 0)] 3 _ (by kernel_rfl) (fun w => by kernel_rfl) ?_
                    refine QRun_bool (x38.2 != 0) ((x37.2 != 0) || (x38.2 != 0)) (by kernel_rfl) (fun w => by kernel_rfl) (by rw [hb19]; rfl) ?_
                    exact QRun_done [3, 29, 30, 31, 33, 201] (by kernel_rfl) (by kernel_rfl)
                exact QRun_done [3, 29, 30, 31, 33, 201] (by kernel_rfl) (by kernel_rfl)
              refine Run_cond (b := (x37.2 != 0) || (x38.2 != 0)) (by kernel_rfl) (fun hb20 => ?_) (fun hb20 => ?_)
              · have hB2 := (M.ite_some hB2).1 hb20
                refine Run_seq ?_
                refine Run_reg 1 (by kernel_rfl) (L' := [(2, .bool false)]) ?_ ?_
                · refine QRun_b [.bool false] 0 _ (by kernel_rfl) (fun w => by kernel_rfl) ?_
                  exact QRun_done [2] (by kernel_rfl) (by kernel_rfl)
                have hB2 := M.ret_some hB2
                have gx36 := houty2 _ hB2.symm
                have hF := M.cont_inr' hF gx36
                have hF := M.ret_some hF
                subst hF
                have H95 : Hold h h50 [] := H94.pick [] (by kernel_rfl)
                exact Run_ret1 rfl (ResV_tmp (v := .bool false) (by kernel_rfl)) ⟨rfl, H95⟩
              · have hB2 := (M.ite_some hB2).2 hb20
                refine Run_skip ?_
                refine Run_reg 8 (by kernel_rfl) (L' := [(3, .pointer (some ⟨b1, 0, none⟩)), (29, .int .i64 (w64 ((w64 (s4.1 + (x37.1.length : Int))) + (x38.1.length : Int)))), (30, .int .i64 s4.2)]) ?_ ?_
                · refine QRun_b [.int .i64 s4.1, .slice a17 x37.1.length c17, .int .i64 (x37.1.length : Int), .int .i64 (w64 (s4.1 + (x37.1.length : Int))), .slice a18 x38.1.length c18, .int .i64 (x38.1.length : Int), .int .i64 (w64 ((w64 (s4.1 + (x37.1.length : Int))) + (x38.1.length : Int))), .int .i64 (w64 ((w64 (s4.1 + (x37.1.length : Int))) + (x38.1.length : Int)))] 0 _ (by kernel_rfl) (fun w => by kernel_rfl) ?_
                  exact QRun_done [3, 29, 30] (by kernel_rfl) (by kernel_rfl)
                refine Run_blk ?_
                refine Run_reg 3 (by kernel_rfl) (L' := [(3, .pointer (some ⟨b1, 0, none⟩)), (29, .int .i64 (w64 ((w64 (s4.1 + (x37.1.length : Int))) + (x38.1.length : Int)))), (30, .int .i64 (w64 (s4.2 + 1)))]) ?_ ?_
                · refine QRun_b [.int .i64 s4.2, .int .i64 (w64 (s4.2 + 1)), .int .i64 (w64 (s4.2 + 1))] 0 _ (by kernel_rfl) (fun w => by kernel_rfl) ?_
                  exact QRun_done [3, 29, 30] (by kernel_rfl) (by kernel_rfl)
                have H96 : Hold h h50 [box b1 30 [.int .i64 x2.1.Events, .slice a1 x2.1.Places.length c1], own cd58 a1 x2.1.Places.length c1 x2.1.Places] := H94.pick [2, 3] (by kernel_rfl)
                have hB2 := M.ret_some hB2
                have gx36 := hgoy2 _ hB2.symm
                exact Run_again [3, 29, 30] (by kernel_rfl) my2 (Nat.lt_succ_self _) ⟨((w64 ((w64 (s4.1 + (x37.1.length : Int))) + (x38.1.length : Int))), (w64 (s4.2 + 1))), gx36, rfl, H96⟩
            · have hB2 := (M.ite_some hB2).2 hb18
              refine Run_exit (k' := _) rfl ?_
              have hB2 := M.ret_some hB2
              have gx36 := houty2 _ hB2.symm
              subst gx36
              exact Run_fall [3, 29] (by kernel_rfl) ⟨(s4.1, s4.2), rfl, rfl, H89⟩

end Go.Proofs.Ytipdgiljgbjjkaa
