/-
  Walks: each Go function, called with what reads as plain data, returns what its plain program computes.
  Conditions: None beyond the given statement.
-/
import Derived.Test.YtniaobcahkjfjaaW0
namespace Go.Proofs.Ytniaobcahkjfjaa
open Go
attribute [local irreducible] setL setB opA fineI idleI fineB evB okB markB markBs readyB readyBs chainB lk rho pickL dropSlot tailOK
set_option maxRecDepth 100000 in
set_option maxHeartbeats 4000000 in
theorem w_laws_FnExactPlacesInto (h : Heap) (aG : TGraph) (aaGPlaces : Option Addr) (caGPlaces : Nat) (raGPlaces : Rd cd26 h (Lt h) aaGPlaces caGPlaces aG.Places) (aEvent : Int) (n : Nat) (r : Bool) (hF : laws_FnExactPlacesInto aG aEvent n = some r) :
    Fn Try.prog 6 #[.agg #[.int .i64 aG.Events, .slice aaGPlaces aG.Places.length caGPlaces], .int .i64 aEvent] h fun v h' => v = .bool r ∧ Hold h h' [] := by
  unfold laws_FnExactPlacesInto at hF
  refine Fn_enter (args := [.agg #[.int .i64 aG.Events, .slice aaGPlaces aG.Places.length caGPlaces], .int .i64 aEvent]) Try.func6 rfl (by kernel_rfl) (by kernel_rfl) (fun w0 _ => ?_)
  have H0 := Hold.init h
  refine Run_seq ?_
  refine Run_ops ?_
  refine Run_E (by kernel_rfl) ?_
  refine E_box (ty := 24) (cs := [.int .i64 aG.Events, .slice aaGPlaces aG.Places.length caGPlaces]) H0 (fun w => by kernel_rfl) (fun b1 h1 H1 => ?_)
  refine Run_b [.bool false] 1 _ (by kernel_rfl) (fun w => by kernel_rfl) ?_
  refine Run_nil (by kernel_rfl) ?_
  refine Run_keep [1, 2] (L' := [(1, .int .i64 aEvent), (2, .pointer (some ⟨b1, 0, none⟩))]) (by kernel_rfl) ?_
  refine Run_seq ?_
  refine Run_reg 1 (by kernel_rfl) (L' := [(1, .int .i64 aEvent), (2, .pointer (some ⟨b1, 0, none⟩)), (5, .int .i64 1048576)]) ?_ ?_
  · refine QRun_b [.int .i64 1048576] 0 _ (by kernel_rfl) (fun w => by kernel_rfl) ?_
    exact QRun_done [1, 2, 5] (by kernel_rfl) (by kernel_rfl)
  refine Run_seq ?_
  obtain ⟨x1, hx1, hF⟩ := M.bind_some hF
  refine Run_regC (j := 4) (C := fun x => Hold h x [box b1 24 [.int .i64 aG.Events, .slice aaGPlaces aG.Places.length caGPlaces]]) (by kernel_rfl) H1 (L' := [(1, .int .i64 aEvent), (2, .pointer (some ⟨b1, 0, none⟩)), (5, .int .i64 x1)]) ?_ (fun h2 H2 => ?_)
  · refine QRun_y (.agg #[.int .i64 aG.Events, .slice aaGPlaces aG.Places.length caGPlaces]) (by kernel_rfl) (Y_cls fun hx Hx => (Y_loadA (t := 24) (n := 2) (p := ⟨b1, 0, none⟩) (cs := [.int .i64 aG.Events, .slice aaGPlaces aG.Places.length caGPlaces]) (by kernel_rfl) (fun w => by kernel_rfl) (by kernel_rfl) rfl (Hx.cells (n := 2) (off := 0) 0 rfl rfl))) ?_
    refine QRun_b [.int .i64 1048576] 1 _ (by kernel_rfl) (fun w => by kernel_rfl) ?_
    refine QRun_y (.int .i64 x1) (by kernel_rfl) (Y_call (f := 15) (args := #[.agg #[.int .i64 aG.Events, .slice aaGPlaces aG.Places.length caGPlaces], .int .i64 1048576]) (v := .int .i64 x1) (by kernel_rfl) fun hx Hx => (w_laws_szEventGraph hx aG aaGPlaces caGPlaces (raGPlaces.at Hx.ext) 1048576 _ _ hx1).mono fun _ _ ⟨e, H'⟩ => ⟨e, Hx.call H' rfl⟩) ?_
    refine QRun_b [.int .i64 x1] 3 _ (by kernel_rfl) (fun w => by kernel_rfl) ?_
    exact QRun_done [1, 2, 5] (by kernel_rfl) (by kernel_rfl)
  have H3 : Hold h h2 [box b1 24 [.int .i64 aG.Events, .slice aaGPlaces aG.Places.length caGPlaces]] := H2
  refine Run_seq ?_
  refine Run_seq ?_
  refine Run_reg 2 (by kernel_rfl) (L' := [(1, .int .i64 aEvent), (2, .pointer (some ⟨b1, 0, none⟩)), (20, .bool (decide (x1 < 0)))]) ?_ ?_
  · refine QRun_b [.int .i64 x1, .bool (decide (x1 < 0))] 0 _ (by kernel_rfl) (fun w => by kernel_rfl) ?_
    exact QRun_done [1, 2, 20] (by kernel_rfl) (by kernel_rfl)
  refine Run_cond (b := decide (x1 < 0)) (by kernel_rfl) (fun hb1 => ?_) (fun hb1 => ?_)
  · have hF := (M.ite_some hF).1 hb1
    refine Run_seq ?_
    refine Run_reg 1 (by kernel_rfl) (L' := [(4, .bool true)]) ?_ ?_
    · refine QRun_b [.bool true] 0 _ (by kernel_rfl) (fun w => by kernel_rfl) ?_
      exact QRun_done [4] (by kernel_rfl) (by kernel_rfl)
    have hF := M.ret_some hF
    subst hF
    have H4 : Hold h h2 [] := H3.pick [] (by kernel_rfl)
    exact Run_ret1 rfl (ResV_tmp (v := .bool true) (by kernel_rfl)) ⟨rfl, H4⟩
  · have hF := (M.ite_some hF).2 hb1
    refine Run_skip ?_
    refine Run_seq ?_
    refine Run_ops ?_
    refine Run_y (.agg #[.int .i64 aG.Events, .slice aaGPlaces aG.Places.length caGPlaces]) (by kernel_rfl) (Y_loadA (t := 24) (n := 2) (p := ⟨b1, 0, none⟩) (cs := [.int .i64 aG.Events, .slice aaGPlaces aG.Places.length caGPlaces]) (by kernel_rfl) (fun w => by kernel_rfl) (by kernel_rfl) rfl (H3.cells (n := 2) (off := 0) 0 rfl rfl)) ?_
    obtain ⟨x2, hx2, hF⟩ := M.bind_some hF
    refine Run_E (by kernel_rfl) ?_
    refine E_call (f := 17) (args := #[.agg #[.int .i64 aG.Events, .slice aaGPlaces aG.Places.length caGPlaces]]) (w_laws_toEventGraph h2 aG aaGPlaces caGPlaces (raGPlaces.at H3.ext) _ _ hx2) (by kernel_rfl) (fun v1 h3 hp1 => ?_)
    obtain ⟨a1, c1, rfl, H5⟩ := hp1
    have H6 : Hold h h3 [own cd34 a1 x2.Places.length c1 x2.Places, box b1 24 [.int .i64 aG.Events, .slice aaGPlaces aG.Places.length caGPlaces]] := H3.call H5 rfl
    refine Run_b [.int .i64 aEvent] 2 _ (by kernel_rfl) (fun w => by kernel_rfl) ?_
    obtain ⟨x3, hx3, hF⟩ := M.bind_some hF
    refine Run_E (by kernel_rfl) ?_
    refine E_call (f := 30) (args := #[.agg #[.int .i64 x2.Events, .slice a1 x2.Places.length c1], .int .i64 aEvent]) (w_spec_PlacesInto h3 x2 a1 c1 (H6.rd 0 rfl) aEvent _ _ hx3) (by kernel_rfl) (fun v2 h4 hp2 => ?_)
    obtain ⟨a2, c2, rfl, H7⟩ := hp2
    have H8 : Hold h h4 [own cd2 a2 x3.1.length c2 x3.1, own cd34 a1 x2.Places.length c1 x2.Places, box b1 24 [.int .i64 aG.Events, .slice aaGPlaces aG.Places.length caGPlaces]] := H6.call H7 rfl
    refine Run_b [.tuple #[.slice a2 x3.1.length c2, .int .i64 x3.2], .slice a2 x3.1.length c2, .int .i64 x3.2, .slice a2 x3.1.length c2, .int .i64 x3.2] 4 _ (by kernel_rfl) (fun w => by kernel_rfl) ?_
    refine Run_nil (by kernel_rfl) ?_
    refine Run_keep [1, 2, 6, 7] (L' := [(1, .int .i64 aEvent), (2, .pointer (some ⟨b1, 0, none⟩)), (6, .slice a2 x3.1.length c2), (7, .int .i64 x3.2)]) (by kernel_rfl) ?_
    refine Run_seq ?_
    refine Run_ops ?_
    refine Run_y (.agg #[.int .i64 aG.Events, .slice aaGPlaces aG.Places.length caGPlaces]) (by kernel_rfl) (Y_loadA (t := 24) (n := 2) (p := ⟨b1, 0, none⟩) (cs := [.int .i64 aG.Events, .slice aaGPlaces aG.Places.length caGPlaces]) (by kernel_rfl) (fun w => by kernel_rfl) (by kernel_rfl) rfl (H8.cells (n := 2) (off := 0) 2 rfl rfl)) ?_
    obtain ⟨x4, hx4, hF⟩ := M.bind_some hF
    refine Run_E (by kernel_rfl) ?_
    refine E_call (f := 17) (args := #[.agg #[.int .i64 aG.Events, .slice aaGPlaces aG.Places.length caGPlaces]]) (w_laws_toEventGraph h4 aG aaGPlaces caGPlaces (raGPlaces.at H8.ext) _ _ hx4) (by kernel_rfl) (fun v3 h5 hp3 => ?_)
    obtain ⟨a3, c3, rfl, H9⟩ := hp3
    have H10 : Hold h h5 [own cd34 a3 x4.Places.length c3 x4.Places, own cd2 a2 x3.1.length c2 x3.1, own cd34 a1 x2.Places.length c1 x2.Places, box b1 24 [.int .i64 aG.Events, .slice aaGPlaces aG.Places.length caGPlaces]] := H8.call H9 rfl
    refine Run_E (by kernel_rfl) ?_
    refine E_box (ty := 30) (cs := [.int .i64 0, .slice none 0 0]) H10 (fun w => by kernel_rfl) (fun b2 h6 H11 => ?_)
    refine Run_E (by kernel_rfl) ?_
    refine E_bput (t := 30) (off := 0) (us := [.int .i64 x4.Events, .slice a3 x4.Places.length c3]) (v := .agg #[.int .i64 x4.Events, .slice a3 x4.Places.length c3]) H11 (by kernel_rfl) (by kernel_rfl) rfl (by kernel_rfl) rfl (fun h7 H12 => ?_)
    refine Run_nil (by kernel_rfl) ?_
    refine Run_keep [1, 2, 6, 7, 8] (L' := [(1, .int .i64 aEvent), (2, .pointer (some ⟨b1, 0, none⟩)), (6, .slice a2 x3.1.length c2), (7, .int .i64 x3.2), (8, .pointer (some ⟨b2, 0, none⟩))]) (by kernel_rfl) ?_
    refine Run_seq ?_
    refine Run_ops ?_
    refine Run_y (.agg #[.int .i64 x4.Events, .slice a3 x4.Places.length c3]) (by kernel_rfl) (Y_loadA (t := 30) (n := 2) (p := ⟨b2, 0, none⟩) (cs := [.int .i64 x4.Events, .slice a3 x4.Places.length c3]) (by kernel_rfl) (fun w => by kernel_rfl) (by kernel_rfl) rfl (H12.cells (n := 2) (off := 0) 0 rfl rfl)) ?_
    refine Run_b [.int .i64 aEvent] 1 _ (by kernel_rfl) (fun w => by kernel_rfl) ?_
    obtain ⟨x5, hx5, hF⟩ := M.bind_some hF
    refine Run_E (by kernel_rfl) ?_
    refine E_call (f := 31) (args := #[.agg #[.int .i64 x4.Events, .slice a3 x4.Places.length c3], .int .i64 aEvent]) (w_impl_PlacesInto h7 x4 a3 c3 (H12.rd 1 rfl) aEvent _ _ hx5) (by kernel_rfl) (fun v4 h8 hp4 => ?_)
    obtain ⟨a4, c4, rfl, H13⟩ := hp4
    have H14 : Hold h h8 [own cd2 a4 x5.1.length c4 x5.1, box b2 30 [.int .i64 x4.Events, .slice a3 x4.Places.length c3], own cd34 a3 x4.Places.length c3 x4.Places, own cd2 a2 x3.1.length c2 x3.1, own cd34 a1 x2.Places.length c1 x2.Places, box b1 24 [.int .i64 aG.Events, .slice aaGPlaces aG.Places.length caGPlaces]] := H12.call H13 rfl
    refine Run_b [.tuple #[.slice a4 x5.1.length c4, .int .i64 x5.2], .slice a4 x5.1.length c4, .int .i64 x5.2, .slice a4 x5.1.length c4, .int .i64 x5.2] 3 _ (by kernel_rfl) (fun w => by kernel_rfl) ?_
    refine Run_nil (by kernel_rfl) ?_
    refine Run_keep [1, 2, 6, 7, 8, 9, 10] (L' := [(1, .int .i64 aEvent), (2, .pointer (some ⟨b1, 0, none⟩)), (6, .slice a2 x3.1.length c2), (7, .int .i64 x3.2), (8, .pointer (some ⟨b2, 0, none⟩)), (9, .slice a4 x5.1.length c4), (10, .int .i64 x5.2)]) (by kernel_rfl) ?_
    refine Run_seq ?_
    refine Run_seq ?_
    obtain ⟨x6, hx6, hF⟩ := M.bind_some hF
    refine Run_reg 9 (by kernel_rfl) (L' := [(1, .int .i64 aEvent), (2, .pointer (some ⟨b1, 0, none⟩)), (6, .slice a2 x3.1.length c2), (7, .int .i64 x3.2), (8, .pointer (some ⟨b2, 0, none⟩)), (9, .slice a4 x5.1.length c4), (10, .int .i64 x5.2), (44, .bool ((!x6) || (x5.2 != x3.2)))]) ?_ ?_
    · refine QRun_b [.slice a4 x5.1.length c4, .slice a2 x3.1.length c2] 0 _ (by kernel_rfl) (fun w => by kernel_rfl) ?_
      refine QRun_y (.bool x6) (by kernel_rfl) (Y_callq (f := 27) (args := #[.slice a4 x5.1.length c4, .slice a2 x3.1.length c2]) (v := .bool x6) (by kernel_rfl) (w_laws_eqInt64S h8 x5.1 a4 c4 (H14.rd 0 rfl) x3.1 a2 c2 (H14.rd 3 rfl) _ _ hx6)) ?_
      refine QRun_b [.bool (!x6)] 3 _ (by kernel_rfl) (fun w => by kernel_rfl) ?_
      refine QRun_seq 9 [(1, .int .i64 aEvent), (2, .pointer (some ⟨b1, 0, none⟩)), (6, .slice a2 x3.1.length c2), (7, .int .i64 x3.2), (8, .pointer (some ⟨b2, 0, none⟩)), (9, .slice a4 x5.1.length c4), (10, .int .i64 x5.2), (44, .bool ((!x6) || (x5.2 != x3.2)))] ?_ ?_
      · rcases Bool.eq_false_or_eq_true (!x6) with hb2 | hb2
        · refine QRun_bool (!x6) true (by kernel_rfl) (fun w => by kernel_rfl) hb2 ?_
          refine QRun_n (by kernel_rfl) ?_
          refine QRun_n (by kernel_rfl) ?_
          refine QRun_n (by kernel_rfl) ?_
          refine QRun_bool true ((!x6) || (x5.2 != x3.2)) (by kernel_rfl) (fun w => by kernel_rfl) (by rw [hb2]; rfl) ?_
          exact QRun_done [1, 2, 6, 7, 8, 9, 10, 44] (by kernel_rfl) (by kernel_rfl)
        · refine QRun_bool (!x6) false (by kernel_rfl) (fun w => by kernel_rfl) hb2 ?_
          refine QRun_b [.int .i64 x5.2, .int .i64 x3.2, .bool (x5.2 != x3.2)] 5 _ (by kernel_rfl) (fun w => by kernel_rfl) ?_
          refine QRun_bool (x5.2 != x3.2) ((!x6) || (x5.2 != x3.2)) (by kernel_rfl) (fun w => by kernel_rfl) (by rw [hb2]; rfl) ?_
          exact QRun_done [1, 2, 6, 7, 8, 9, 10, 44] (by kernel_rfl) (by kernel_rfl)
      exact QRun_done [1, 2, 6, 7, 8, 9, 10, 44] (by kernel_rfl) (by kernel_rfl)
    refine Run_cond (b := (!x6) || (x5.2 != x3.2)) (by kernel_rfl) (fun hb3 => ?_) (fun hb3 => ?_)
    · have hF := (M.ite_some hF).1 hb3
      refine Run_seq ?_
      refine Run_reg 1 (by kernel_rfl) (L' := [(4, .bool false)]) ?_ ?_
      · refine QRun_b [.bool false] 0 _ (by kernel_rfl) (fun w => by kernel_rfl) ?_
        exact QRun_done [4] (by kernel_rfl) (by kernel_rfl)
      have hF := M.ret_some hF
      subst hF
      have H15 : Hold h h8 [] := H14.pick [] (by kernel_rfl)
      exact Run_ret1 rfl (ResV_tmp (v := .bool false) (by kernel_rfl)) ⟨rfl, H15⟩
    · have hF := (M.ite_some hF).2 hb3
      refine Run_skip ?_
      refine Run_seq ?_
      refine Run_seq ?_
      refine Run_D (fun x => Hold h x [own cd2 a4 x5.1.length c4 x5.1, box b2 30 [.int .i64 x4.Events, .slice a3 x4.Places.length c3], own cd34 a3 x4.Places.length c3 x4.Places, own cd2 a2 x3.1.length c2 x3.1, own cd34 a1 x2.Places.length c1 x2.Places, box b1 24 [.int .i64 aG.Events, .slice aaGPlaces aG.Places.length caGPlaces]]) (fun x => Hold h x [own cd2 a4 x5.1.length c4 x5.1, box b2 30 [.int .i64 x4.Events, .slice a3 x4.Places.length c3], own cd34 a3 x4.Places.length c3 x4.Places, own cd2 a2 x3.1.length c2 x3.1, own cd34 a1 x2.Places.length c1 x2.Places, box b1 24 [.int .i64 aG.Events, .slice aaGPlaces aG.Places.length caGPlaces]]) mixed (by kernel_rfl) H14 Hold.stable (fun x Hy => (show Hold h x [own cd2 a4 x5.1.length c4 x5.1, box b2 30 [.int .i64 x4.Events, .slice a3 x4.Places.length c3], own cd34 a3 x4.Places.length c3 x4.Places, own cd2 a2 x3.1.length c2 x3.1, own cd34 a1 x2.Places.length c1 x2.Places, box b1 24 [.int .i64 aG.Events, .slice aaGPlaces aG.Places.length caGPlaces]] from Hy).pick [0, 1, 2, 3, 4, 5] (by kernel_rfl)) ?_
      refine DR_y 4 (i := 0) (.agg #[.int .i64 x4.Events, .slice a3 x4.Places.length c3]) (by kernel_rfl) (by kernel_rfl) (by kernel_rfl) (fun hx Hx => (YE.of (Y_loadA (t := 30) (n := 2) (p := ⟨b2, 0, none⟩) (cs := [.int .i64 x4.Events, .slice a3 x4.Places.length c3]) (by kernel_rfl) (fun w => by kernel_rfl) (by kernel_rfl) rfl (Hx.cells (n := 2) (off := 0) 1 rfl rfl)))) ?_
      refine DR_y 3 (i := 1) (.agg #[.int .i64 aG.Events, .slice aaGPlaces aG.Places.length caGPlaces]) (by kernel_rfl) (by kernel_rfl) (by kernel_rfl) (fun hx Hx => (YE.of (Y_loadA (t := 24) (n := 2) (p := ⟨b1, 0, none⟩) (cs := [.int .i64 aG.Events, .slice aaGPlaces aG.Places.length caGPlaces]) (by kernel_rfl) (fun w => by kernel_rfl) (by kernel_rfl) rfl (Hx.cells (n := 2) (off := 0) 5 rfl rfl)))) ?_
      refine DR_e 2 2 (by kernel_rfl) (by kernel_rfl) (by kernel_rfl) (fun h9 H16 => ?_)
      have H17 : Hold h h9 [own cd2 a4 x5.1.length c4 x5.1, box b2 30 [.int .i64 x4.Events, .slice a3 x4.Places.length c3], own cd34 a3 x4.Places.length c3 x4.Places, own cd2 a2 x3.1.length c2 x3.1, own cd34 a1 x2.Places.length c1 x2.Places, box b1 24 [.int .i64 aG.Events, .slice aaGPlaces aG.Places.length caGPlaces]] := H16
      obtain ⟨x8, hx7, hF⟩ := M.bind_some hF
      refine E_call (f := 17) (args := #[.agg #[.int .i64 aG.Events, .slice aaGPlaces aG.Places.length caGPlaces]]) (w_laws_toEventGraph h9 aG aaGPlaces caGPlaces (raGPlaces.at H17.ext) _ _ hx7) (by kernel_rfl) (fun v5 h10 hp5 => ?_)
      obtain ⟨a5, c5, rfl, H18⟩ := hp5
      have H19 : Hold h h10 [own cd34 a5 x8.Places.length c5 x8.Places, own cd2 a4 x5.1.length c4 x5.1, box b2 30 [.int .i64 x4.Events, .slice a3 x4.Places.length c3], own cd34 a3 x4.Places.length c3 x4.Places, own cd2 a2 x3.1.length c2 x3.1, own cd34 a1 x2.Places.length c1 x2.Places, box b1 24 [.int .i64 aG.Events, .slice aaGPlaces aG.Places.length caGPlaces]] := H17.call H18 rfl
      refine ⟨fun x => Hold h x [own cd2 a4 x5.1.length c4 x5.1, box b2 30 [.int .i64 x4.Events, .slice a3 x4.Places.length c3], own cd34 a3 x4.Places.length c3 x4.Places, own cd2 a2 x3.1.length c2 x3.1, own cd34 a1 x2.Places.length c1 x2.Places, box b1 24 [.int .i64 aG.Events, .slice aaGPlaces aG.Places.length caGPlaces], own cd34 a5 x8.Places.length c5 x8.Places], fun x => Hold h x [own cd34 a5 x8.Places.length c5 x8.Places, own cd2 a4 x5.1.length c4 x5.1, box b2 30 [.int .i64 x4.Events, .slice a3 x4.Places.length c3], own cd34 a3 x4.Places.length c3 x4.Places, own cd2 a2 x3.1.length c2 x3.1, own cd34 a1 x2.Places.length c1 x2.Places, box b1 24 [.int .i64 aG.Events, .slice aaGPlaces aG.Places.length caGPlaces]], H19, Hold.stable, fun x Hy => (show Hold h x [own cd34 a5 x8.Places.length c5 x8.Places, own cd2 a4 x5.1.length c4 x5.1, box b2 30 [.int .i64 x4.Events, .slice a3 x4.Places.length c3], own cd34 a3 x4.Places.length c3 x4.Places, own cd2 a2 x3.1.length c2 x3.1, own cd34 a1 x2.Places.length c1 x2.Places, box b1 24 [.int .i64 aG.Events, .slice aaGPlaces aG.Places.length caGPlaces]] from Hy).pick [1, 2, 3, 4, 5, 6, 0] (by kernel_rfl), fun x Hy => (show Hold h x [own cd2 a4 x5.1.length c4 x5.1, box b2 30 [.int .i64 x4.Events, .slice a3 x4.Places.length c3], own cd34 a3 x4.Places.length c3 x4.Places, own cd2 a2 x3.1.length c2 x3.1, own cd34 a1 x2.Places.length c1 x2.Places, box b1 24 [.int .i64 aG.Events, .slice aaGPlaces aG.Places.length caGPlaces], own cd34 a5 x8.Places.length c5 x8.Places] from Hy).pick [0, 1, 2, 3, 4, 5] (by kernel_rfl), ?_⟩
      obtain ⟨x9, hx8, hF⟩ := M.bind_some hF
      refine DR_y 1 (i := 3) (.bool x9) (by kernel_rfl) (by kernel_rfl) (by kernel_rfl) (fun hx Hx => (YE_call (f := 20) (args := #[.agg #[.int .i64 x4.Events, .slice a3 x4.Places.length c3], .agg #[.int .i64 x8.Events, .slice a5 x8.Places.length c5]]) (v := .bool x9) (by kernel_rfl) ((w_laws_eqEventGraph hx x4 a3 c3 (Hx.rd 2 rfl) x8 a5 c5 (Hx.rd 6 rfl) _ _ hx8).mono fun _ _ ⟨e, H'⟩ => ⟨e, H'.ext⟩))) ?_
      refine DR_b 0 [.bool (!x9)] 4 (by kernel_rfl) (by kernel_rfl) (by kernel_rfl) (fun w => by kernel_rfl) ?_
      refine DR_tail (i := 5) (by kernel_rfl) (by kernel_rfl) (by kernel_rfl) (fun h11 H20 => ?_)
      have H21 : Hold h h11 [own cd34 a5 x8.Places.length c5 x8.Places, own cd2 a4 x5.1.length c4 x5.1, box b2 30 [.int .i64 x4.Events, .slice a3 x4.Places.length c3], own cd34 a3 x4.Places.length c3 x4.Places, own cd2 a2 x3.1.length c2 x3.1, own cd34 a1 x2.Places.length c1 x2.Places, box b1 24 [.int .i64 aG.Events, .slice aaGPlaces aG.Places.length caGPlaces]] := H20
      refine Run_nil (by kernel_rfl) ?_
      refine Run_keep [1, 2, 6, 7, 8, 9, 10, 49] (L' := [(1, .int .i64 aEvent), (2, .pointer (some ⟨b1, 0, none⟩)), (6, .slice a2 x3.1.length c2), (7, .int .i64 x3.2), (8, .pointer (some ⟨b2, 0, none⟩)), (9, .slice a4 x5.1.length c4), (10, .int .i64 x5.2), (49, .bool (!x9))]) (by kernel_rfl) ?_
      refine Run_cond (b := !x9) (by kernel_rfl) (fun hb4 => ?_) (fun hb4 => ?_)
      · have hF := (M.ite_some hF).1 hb4
        refine Run_seq ?_
        refine Run_reg 1 (by kernel_rfl) (L' := [(4, .bool false)]) ?_ ?_
        · refine QRun_b [.bool false] 0 _ (by kernel_rfl) (fun w => by kernel_rfl) ?_
          exact QRun_done [4] (by kernel_rfl) (by kernel_rfl)
        have hF := M.ret_some hF
        subst hF
        have H22 : Hold h h11 [] := H21.pick [] (by kernel_rfl)
        exact Run_ret1 rfl (ResV_tmp (v := .bool false) (by kernel_rfl)) ⟨rfl, H22⟩
      · have hF := (M.ite_some hF).2 hb4
        refine Run_skip ?_
        refine Run_seq ?_
        refine Run_reg 1 (by kernel_rfl) (L' := [(1, .int .i64 aEvent), (2, .pointer (some ⟨b1, 0, none⟩)), (6, .slice a2 x3.1.length c2), (7, .int .i64 x3.2), (8, .pointer (some ⟨b2, 0, none⟩)), (9, .slice a4 x5.1.length c4), (10, .int .i64 x5.2), (11, .int .i64 1)]) ?_ ?_
        · refine QRun_b [.int .i64 1] 0 _ (by kernel_rfl) (fun w => by kernel_rfl) ?_
          exact QRun_done [1, 2, 6, 7, 8, 9, 10, 11] (by kernel_rfl) (by kernel_rfl)
        refine Run_seq ?_
        refine Run_ops ?_
        refine Run_y (.agg #[.int .i64 x4.Events, .slice a3 x4.Places.length c3]) (by kernel_rfl) (Y_loadA (t := 30) (n := 2) (p := ⟨b2, 0, none⟩) (cs := [.int .i64 x4.Events, .slice a3 x4.Places.length c3]) (by kernel_rfl) (fun w => by kernel_rfl) (by kernel_rfl) rfl (H21.cells (n := 2) (off := 0) 2 rfl rfl)) ?_
        refine Run_b [.int .i64 1] 1 _ (by kernel_rfl) (fun w => by kernel_rfl) ?_
        obtain ⟨x10, hx9, hF⟩ := M.bind_some hF
        have H23 : Hold h h11 [own cd34 a3 x4.Places.length c3 x4.Places, own cd34 a5 x8.Places.length c5 x8.Places, own cd2 a4 x5.1.length c4 x5.1, box b2 30 [.int .i64 x4.Events, .slice a3 x4.Places.length c3], own cd2 a2 x3.1.length c2 x3.1, own cd34 a1 x2.Places.length c1 x2.Places, box b1 24 [.int .i64 aG.Events, .slice aaGPlaces aG.Places.length caGPlaces]] := H21.pick [3, 0, 1, 2, 4, 5, 6] (by kernel_rfl)
        have H24 : Hold h h11 [own cd34 a3 x4.Places.length c3 x4.Places, bun [own cd34 a5 x8.Places.length c5 x8.Places, own cd2 a4 x5.1.length c4 x5.1, box b2 30 [.int .i64 x4.Events, .slice a3 x4.Places.length c3], own cd2 a2 x3.1.length c2 x3.1, own cd34 a1 x2.Places.length c1 x2.Places, box b1 24 [.int .i64 aG.Events, .slice aaGPlaces aG.Places.length caGPlaces]]] := Hold.bundle (S := [own cd34 a3 x4.Places.length c3 x4.Places]) (R := [own cd34 a5 x8.Places.length c5 x8.Places, own cd2 a4 x5.1.length c4 x5.1, box b2 30 [.int .i64 x4.Events, .slice a3 x4.Places.length c3], own cd2 a2 x3.1.length c2 x3.1, own cd34 a1 x2.Places.length c1 x2.Places, box b1 24 [.int .i64 aG.Events, .slice aaGPlaces aG.Places.length caGPlaces]]) H23
        refine Run_E (by kernel_rfl) ?_
        refine E_call (f := 21) (args := #[.agg #[.int .i64 x4.Events, .slice a3 x4.Places.length c3], .int .i64 1]) (w_laws_markEventGraph h h11 _ x4 a3 c3 1 H24 _ _ hx9) (by kernel_rfl) (fun v6 h12 hp6 => ?_)
        obtain ⟨rfl, H25⟩ := hp6
        have H26 : Hold h h12 [own cd34 a3 x4.Places.length c3 x10.2, own cd34 a5 x8.Places.length c5 x8.Places, own cd2 a4 x5.1.length c4 x5.1, box b2 30 [.int .i64 x4.Events, .slice a3 x4.Places.length c3], own cd2 a2 x3.1.length c2 x3.1, own cd34 a1 x2.Places.length c1 x2.Places, box b1 24 [.int .i64 aG.Events, .slice aaGPlaces aG.Places.length caGPlaces]] := Hold.unbundle (S := [own cd34 a3 x4.Places.length c3 x10.2]) (R := [own cd34 a5 x8.Places.length c5 x8.Places, own cd2 a4 x5.1.length c4 x5.1, box b2 30 [.int .i64 x4.Events, .slice a3 x4.Places.length c3], own cd2 a2 x3.1.length c2 x3.1, own cd34 a1 x2.Places.length c1 x2.Places, box b1 24 [.int .i64 aG.Events, .slice aaGPlaces aG.Places.length caGPlaces]]) H25 (Hold.tailBase (S := [own cd34 a3 x4.Places.length c3 x4.Places]) (R := [own cd34 a5 x8.Places.length c5 x8.Places, own cd2 a4 x5.1.length c4 x5.1, box b2 30 [.int .i64 x4.Events, .slice a3 x4.Places.length c3], own cd2 a2 x3.1.length c2 x3.1, own cd34 a1 x2.Places.length c1 x2.Places, box b1 24 [.int .i64 aG.Events, .slice aaGPlaces aG.Places.length caGPlaces]]) H23)
        refine Run_b [.int .i64 x10.1] 3 _ (by kernel_rfl) (fun w => by kernel_rfl) ?_
        refine Run_nil (by kernel_rfl) ?_
        refine Run_keep [1, 2, 6, 7, 9, 10, 11] (L' := [(1, .int .i64 aEvent), (2, .pointer (some ⟨b1, 0, none⟩)), (6, .slice a2 x3.1.length c2), (7, .int .i64 x3.2), (9, .slice a4 x5.1.length c4), (10, .int .i64 x5.2), (11, .int .i64 x10.1)]) (by kernel_rfl) ?_
        refine Run_seq ?_
        refine Run_seq ?_
        obtain ⟨x11, gx11, hF⟩ := M.bind_some hF
        refine Run_reg 13 (by kernel_rfl) (L' := [(1, .int .i64 aEvent), (2, .pointer (some ⟨b1, 0, none⟩)), (6, .slice a2 x3.1.length c2), (7, .int .i64 x3.2), (9, .slice a4 x5.1.length c4), (65, .bool (x11 || (x5.2 != x3.2)))]) ?_ ?_
        · refine QRun_b [.int .i64 x10.1, .bool (decide (x10.1 < 0))] 0 _ (by kernel_rfl) (fun w => by kernel_rfl) ?_
          refine QRun_seq 8 [(1, .int .i64 aEvent), (2, .pointer (some ⟨b1, 0, none⟩)), (6, .slice a2 x3.1.length c2), (7, .int .i64 x3.2), (9, .slice a4 x5.1.length c4), (10, .int .i64 x5.2), (60, .bool x11)] ?_ ?_
          · rcases Bool.eq_false_or_eq_true (decide (x10.1 < 0)) with hb5 | hb5
            · refine QRun_bool (decide (x10.1 < 0)) true (by kernel_rfl) (fun w => by kernel_rfl) hb5 ?_
              have gx11 := M.ret_some ((M.ite_some gx11).1 hb5)
              refine QRun_n (by kernel_rfl) ?_
              refine QRun_n (by kernel_rfl) ?_
              refine QRun_n (by kernel_rfl) ?_
              refine QRun_n (by kernel_rfl) ?_
              refine QRun_bool true x11 (by kernel_rfl) (fun w => by kernel_rfl) gx11 ?_
              exact QRun_done [1, 2, 6, 7, 9, 10, 60] (by kernel_rfl) (by kernel_rfl)
            · refine QRun_bool (decide (x10.1 < 0)) false (by kernel_rfl) (fun w => by kernel_rfl) hb5 ?_
              have gx11 := (M.ite_some gx11).2 hb5
              obtain ⟨x12, hx10, gx11⟩ := M.bind_some gx11
              have gx11 := M.ret_some gx11
              refine QRun_b [.slice a4 x5.1.length c4, .slice a2 x3.1.length c2] 3 _ (by kernel_rfl) (fun w => by kernel_rfl) ?_
              refine QRun_y (.bool x12) (by kernel_rfl) (Y_callq (f := 27) (args := #[.slice a4 x5.1.length c4, .slice a2 x3.1.length c2]) (v := .bool x12) (by kernel_rfl) (w_laws_eqInt64S h12 x5.1 a4 c4 (H26.rd 2 rfl) x3.1 a2 c2 (H26.rd 4 rfl) _ _ hx10)) ?_
              refine QRun_b [.bool (!x12)] 6 _ (by kernel_rfl) (fun w => by kernel_rfl) ?_
              refine QRun_bool (!x12) x11 (by kernel_rfl) (fun w => by kernel_rfl) gx11 ?_
              exact QRun_done [1, 2, 6, 7, 9, 10, 60] (by kernel_rfl) (by kernel_rfl)
          refine QRun_seq 13 [(1, .int .i64 aEvent), (2, .pointer (some ⟨b1, 0, none⟩)), (6, .slice a2 x3.1.length c2), (7, .int .i64 x3.2), (9, .slice a4 x5.1.length c4), (65, .bool (x11 || (x5.2 != x3.2)))] ?_ ?_
          · rcases Bool.eq_false_or_eq_true x11 with hb6 | hb6
            · refine QRun_bool x11 true (by kernel_rfl) (fun w => by kernel_rfl) hb6 ?_
              refine QRun_n (by kernel_rfl) ?_
              refine QRun_n (by kernel_rfl) ?_
              refine QRun_n (by kernel_rfl) ?_
              refine QRun_bool true (x11 || (x5.2 != x3.2)) (by kernel_rfl) (fun w => by kernel_rfl) (by rw [hb6]; rfl) ?_
              exact QRun_done [1, 2, 6, 7, 9, 65] (by kernel_rfl) (by kernel_rfl)
            · refine QRun_bool x11 false (by kernel_rfl) (fun w => by kernel_rfl) hb6 ?_
              refine QRun_b [.int .i64 x5.2, .int .i64 x3.2, .bool (x5.2 != x3.2)] 9 _ (by kernel_rfl) (fun w => by kernel_rfl) ?_
              refine QRun_bool (x5.2 != x3.2) (x11 || (x5.2 != x3.2)) (by kernel_rfl) (fun w => by kernel_rfl) (by rw [hb6]; rfl) ?_
              exact QRun_done [1, 2, 6, 7, 9, 65] (by kernel_rfl) (by kernel_rfl)
          exact QRun_done [1, 2, 6, 7, 9, 65] (by kernel_rfl) (by kernel_rfl)
        refine Run_cond (b := x11 || (x5.2 != x3.2)) (by kernel_rfl) (fun hb7 => ?_) (fun hb7 => ?_)
        · have hF := (M.ite_some hF).1 hb7
          refine Run_seq ?_
          refine Run_reg 1 (by kernel_rfl) (L' := [(4, .bool false)]) ?_ ?_
          · refine QRun_b [.bool false] 0 _ (by kernel_rfl) (fun w => by kernel_rfl) ?_
            exact QRun_done [4] (by kernel_rfl) (by kernel_rfl)
          have hF := M.ret_some hF
          subst hF
          have H27 : Hold h h12 [] := H26.pick [] (by kernel_rfl)
          exact Run_ret1 rfl (ResV_tmp (v := .bool false) (by kernel_rfl)) ⟨rfl, H27⟩
        · have hF := (M.ite_some hF).2 hb7
          refine Run_skip ?_
          refine Run_seq ?_
          refine Run_reg 1 (by kernel_rfl) (L' := [(1, .int .i64 aEvent), (2, .pointer (some ⟨b1, 0, none⟩)), (6, .slice a2 x3.1.length c2), (7, .int .i64 x3.2), (9, .slice a4 x5.1.length c4), (12, .int .i64 1)]) ?_ ?_
          · refine QRun_b [.int .i64 1] 0 _ (by kernel_rfl) (fun w => by kernel_rfl) ?_
            exact QRun_done [1, 2, 6, 7, 9, 12] (by kernel_rfl) (by kernel_rfl)
          refine Run_seq ?_
          refine Run_ops ?_
          refine Run_b [.slice a4 x5.1.length c4, .int .i64 1] 0 _ (by kernel_rfl) (fun w => by kernel_rfl) ?_
          obtain ⟨x14, hx11, hF⟩ := M.bind_some hF
          have H28 : Hold h h12 [own cd2 a4 x5.1.length c4 x5.1, own cd34 a3 x4.Places.length c3 x10.2, own cd34 a5 x8.Places.length c5 x8.Places, box b2 30 [.int .i64 x4.Events, .slice a3 x4.Places.length c3], own cd2 a2 x3.1.length c2 x3.1, own cd34 a1 x2.Places.length c1 x2.Places, box b1 24 [.int .i64 aG.Events, .slice aaGPlaces aG.Places.length caGPlaces]] := H26.pick [2, 0, 1, 3, 4, 5, 6] (by kernel_rfl)
          have H29 : Hold h h12 [own cd2 a4 x5.1.length c4 x5.1, bun [own cd34 a3 x4.Places.length c3 x10.2, own cd34 a5 x8.Places.length c5 x8.Places, box b2 30 [.int .i64 x4.Events, .slice a3 x4.Places.length c3], own cd2 a2 x3.1.length c2 x3.1, own cd34 a1 x2.Places.length c1 x2.Places, box b1 24 [.int .i64 aG.Events, .slice aaGPlaces aG.Places.length caGPlaces]]] := Hold.bundle (S := [own cd2 a4 x5.1.length c4 x5.1]) (R := [own cd34 a3 x4.Places.length c3 x10.2, own cd34 a5 x8.Places.length c5 x8.Places, box b2 30 [.int .i64 x4.Events, .slice a3 x4.Places.length c3], own cd2 a2 x3.1.length c2 x3.1, own cd34 a1 x2.Places.length c1 x2.Places, box b1 24 [.int .i64 aG.Events, .slice aaGPlaces aG.Places.length caGPlaces]]) H28
          refine Run_E (by kernel_rfl) ?_
          refine E_call (f := 28) (args := #[.slice a4 x5.1.length c4, .int .i64 1]) (w_laws_markInt64S h h12 _ x5.1 a4 c4 1 H29 _ _ hx11) (by kernel_rfl) (fun v7 h13 hp7 => ?_)
          obtain ⟨rfl, H30⟩ := hp7
          have H31 : Hold h h13 [own cd2 a4 x5.1.length c4 x14.2, own cd34 a3 x4.Places.length c3 x10.2, own cd34 a5 x8.Places.length c5 x8.Places, box b2 30 [.int .i64 x4.Events, .slice a3 x4.Places.length c3], own cd2 a2 x3.1.length c2 x3.1, own cd34 a1 x2.Places.length c1 x2.Places, box b1 24 [.int .i64 aG.Events, .slice aaGPlaces aG.Places.length caGPlaces]] := Hold.unbundle (S := [own cd2 a4 x5.1.length c4 x14.2]) (R := [own cd34 a3 x4.Places.length c3 x10.2, own cd34 a5 x8.Places.length c5 x8.Places, box b2 30 [.int .i64 x4.Events, .slice a3 x4.Places.length c3], own cd2 a2 x3.1.length c2 x3.1, own cd34 a1 x2.Places.length c1 x2.Places, box b1 24 [.int .i64 aG.Events, .slice aaGPlaces aG.Places.length caGPlaces]]) H30 (Hold.tailBase (S := [own cd2 a4 x5.1.length c4 x5.1]) (R := [own cd34 a3 x4.Places.length c3 x10.2, own cd34 a5 x8.Places.length c5 x8.Places, box b2 30 [.int .i64 x4.Events, .slice a3 x4.Places.length c3], own cd2 a2 x3.1.length c2 x3.1, own cd34 a1 x2.Places.length c1 x2.Places, box b1 24 [.int .i64 aG.Events, .slice aaGPlaces aG.Places.length caGPlaces]]) H28)
          refine Run_b [.int .i64 x14.1] 3 _ (by kernel_rfl) (fun w => by kernel_rfl) ?_
          refine Run_nil (by kernel_rfl) ?_
          refine Run_keep [1, 2, 6, 7, 9, 12] (L' := [(1, .int .i64 aEvent), (2, .pointer (some ⟨b1, 0, none⟩)), (6, .slice a2 x3.1.length c2), (7, .int .i64 x3.2), (9, .slice a4 x5.1.length c4), (12, .int .i64 x14.1)]) (by kernel_rfl) ?_
          refine Run_seq ?_
          refine Run_reg 1 (by kernel_rfl) (L' := [(1, .int .i64 aEvent), (2, .pointer (some ⟨b1, 0, none⟩)), (6, .slice a2 x3.1.length c2), (7, .int .i64 x3.2), (9, .slice a4 x5.1.length c4), (12, .int .i64 x14.1), (13, .int .i64 1)]) ?_ ?_
          · refine QRun_b [.int .i64 1] 0 _ (by kernel_rfl) (fun w => by kernel_rfl) ?_
            exact QRun_done [1, 2, 6, 7, 9, 12, 13] (by kernel_rfl) (by kernel_rfl)
          refine Run_seq ?_
          obtain ⟨x15, hx12, hF⟩ := M.bind_some hF
          refine Run_reg 4 (by kernel_rfl) (L' := [(1, .int .i64 aEvent), (2, .pointer (some ⟨b1, 0, none⟩)), (6, .slice a2 x3.1.length c2), (7, .int .i64 x3.2), (9, .slice a4 x5.1.length c4), (12, .int .i64 x14.1), (13, .int .i64 x15)]) ?_ ?_
          · refine QRun_b [.slice a4 x5.1.length c4, .int .i64 1] 0 _ (by kernel_rfl) (fun w => by kernel_rfl) ?_
            refine QRun_y (.int .i64 x15) (by kernel_rfl) (Y_callq (f := 29) (args := #[.slice a4 x5.1.length c4, .int .i64 1]) (v := .int .i64 x15) (by kernel_rfl) (Fn.arg (w_laws_heldInt64S h13 x14.2 a4 c4 (H31.rd 0 rfl) 1 _ _ hx12) (by simp only [(H31.len 0 rfl)]))) ?_
            refine QRun_b [.int .i64 x15] 3 _ (by kernel_rfl) (fun w => by kernel_rfl) ?_
            exact QRun_done [1, 2, 6, 7, 9, 12, 13] (by kernel_rfl) (by kernel_rfl)
          refine Run_seq ?_
          refine Run_seq ?_
          refine Run_reg 2 (by kernel_rfl) (L' := [(1, .int .i64 aEvent), (2, .pointer (some ⟨b1, 0, none⟩)), (6, .slice a2 x3.1.length c2), (7, .int .i64 x3.2), (9, .slice a4 x5.1.length c4), (12, .int .i64 x14.1), (13, .int .i64 x15), (73, .bool (decide (x15 < 0)))]) ?_ ?_
          · refine QRun_b [.int .i64 x15, .bool (decide (x15 < 0))] 0 _ (by kernel_rfl) (fun w => by kernel_rfl) ?_
            exact QRun_done [1, 2, 6, 7, 9, 12, 13, 73] (by kernel_rfl) (by kernel_rfl)
          refine Run_cond (b := decide (x15 < 0)) (by kernel_rfl) (fun hb8 => ?_) (fun hb8 => ?_)
          · have hF := (M.ite_some hF).1 hb8
            refine Run_seq ?_
            refine Run_reg 1 (by kernel_rfl) (L' := [(4, .bool false)]) ?_ ?_
            · refine QRun_b [.bool false] 0 _ (by kernel_rfl) (fun w => by kernel_rfl) ?_
              exact QRun_done [4] (by kernel_rfl) (by kernel_rfl)
            have hF := M.ret_some hF
            subst hF
            have H32 : Hold h h13 [] := H31.pick [] (by kernel_rfl)
            exact Run_ret1 rfl (ResV_tmp (v := .bool false) (by kernel_rfl)) ⟨rfl, H32⟩
          · have hF := (M.ite_some hF).2 hb8
            refine Run_skip ?_
            refine Run_seq ?_
            refine Run_seq ?_
            refine Run_reg 3 (by kernel_rfl) (L' := [(1, .int .i64 aEvent), (2, .pointer (some ⟨b1, 0, none⟩)), (6, .slice a2 x3.1.length c2), (7, .int .i64 x3.2), (9, .slice a4 x5.1.length c4), (12, .int .i64 x14.1), (76, .bool (x15 != x14.1))]) ?_ ?_
            · refine QRun_b [.int .i64 x15, .int .i64 x14.1, .bool (x15 != x14.1)] 0 _ (by kernel_rfl) (fun w => by kernel_rfl) ?_
              exact QRun_done [1, 2, 6, 7, 9, 12, 76] (by kernel_rfl) (by kernel_rfl)
            refine Run_cond (b := x15 != x14.1) (by kernel_rfl) (fun hb9 => ?_) (fun hb9 => ?_)
            · have hF := (M.ite_some hF).1 hb9
              refine Run_seq ?_
              refine Run_reg 1 (by kernel_rfl) (L' := [(4, .bool false)]) ?_ ?_
              · refine QRun_b [.bool false] 0 _ (by kernel_rfl) (fun w => by kernel_rfl) ?_
                exact QRun_done [4] (by kernel_rfl) (by kernel_rfl)
              have hF := M.ret_some hF
              subst hF
              have H33 : Hold h h13 [] := H31.pick [] (by kernel_rfl)
              exact Run_ret1 rfl (ResV_tmp (v := .bool false) (by kernel_rfl)) ⟨rfl, H33⟩
            · have hF := (M.ite_some hF).2 hb9
              refine Run_skip ?_
              refine Run_seq ?_
              refine Run_ops ?_
              refine Run_y (.agg #[.int .i64 aG.Events, .slice aaGPlaces aG.Places.length caGPlaces]) (by kernel_rfl) (Y_loadA (t := 24) (n := 2) (p := ⟨b1, 0, none⟩) (cs := [.int .i64 aG.Events, .slice aaGPlaces aG.Places.length caGPlaces]) (by kernel_rfl) (fun w => by kernel_rfl) (by kernel_rfl) rfl (H31.cells (n := 2) (off := 0) 6 rfl rfl)) ?_
              obtain ⟨x16, hx13, hF⟩ := M.bind_some hF
              refine Run_E (by kernel_rfl) ?_
              refine E_call (f := 17) (args := #[.agg #[.int .i64 aG.Events, .slice aaGPlaces aG.Places.length caGPlaces]]) (w_laws_toEventGraph h13 aG aaGPlaces caGPlaces (raGPlaces.at H31.ext) _ _ hx13) (by kernel_rfl) (fun v8 h14 hp8 => ?_)
              obtain ⟨a6, c6, rfl, H34⟩ := hp8
              have H35 : Hold h h14 [own cd34 a6 x16.Places.length c6 x16.Places, own cd2 a4 x5.1.length c4 x14.2, own cd34 a3 x4.Places.length c3 x10.2, own cd34 a5 x8.Places.length c5 x8.Places, box b2 30 [.int .i64 x4.Events, .slice a3 x4.Places.length c3], own cd2 a2 x3.1.length c2 x3.1, own cd34 a1 x2.Places.length c1 x2.Places, box b1 24 [.int .i64 aG.Events, .slice aaGPlaces aG.Places.length caGPlaces]] := H31.call H34 rfl
              refine Run_b [.int .i64 aEvent] 2 _ (by kernel_rfl) (fun w => by kernel_rfl) ?_
              obtain ⟨x17, hx14, hF⟩ := M.bind_some hF
              refine Run_E (by kernel_rfl) ?_
              refine E_call (f := 31) (args := #[.agg #[.int .i64 x16.Events, .slice a6 x16.Places.length c6], .int .i64 aEvent]) (w_impl_PlacesInto h14 x16 a6 c6 (H35.rd 0 rfl) aEvent _ _ hx14) (by kernel_rfl) (fun v9 h15 hp9 => ?_)
              obtain ⟨a7, c7, rfl, H36⟩ := hp9
              have H37 : Hold h h15 [own cd2 a7 x17.1.length c7 x17.1, own cd34 a6 x16.Places.length c6 x16.Places, own cd2 a4 x5.1.length c4 x14.2, own cd34 a3 x4.Places.length c3 x10.2, own cd34 a5 x8.Places.length c5 x8.Places, box b2 30 [.int .i64 x4.Events, .slice a3 x4.Places.length c3], own cd2 a2 x3.1.length c2 x3.1, own cd34 a1 x2.Places.length c1 x2.Places, box b1 24 [.int .i64 aG.Events, .slice aaGPlaces aG.Places.length caGPlaces]] := H35.call H36 rfl
              refine Run_b [.tuple #[.slice a7 x17.1.length c7, .int .i64 x17.2], .slice a7 x17.1.length c7, .int .i64 x17.2, .slice a7 x17.1.length c7, .int .i64 x17.2] 4 _ (by kernel_rfl) (fun w => by kernel_rfl) ?_
              refine Run_nil (by kernel_rfl) ?_
              refine Run_keep [6, 7, 9, 12, 14, 15] (L' := [(6, .slice a2 x3.1.length c2), (7, .int .i64 x3.2), (9, .slice a4 x5.1.length c4), (12, .int .i64 x14.1), (14, .slice a7 x17.1.length c7), (15, .int .i64 x17.2)]) (by kernel_rfl) ?_
              refine Run_seq ?_
              refine Run_seq ?_
              obtain ⟨x18, hx15, hF⟩ := M.bind_some hF
              refine Run_reg 9 (by kernel_rfl) (L' := [(9, .slice a4 x5.1.length c4), (12, .int .i64 x14.1), (92, .bool ((!x18) || (x17.2 != x3.2)))]) ?_ ?_
              · refine QRun_b [.slice a7 x17.1.length c7, .slice a2 x3.1.length c2] 0 _ (by kernel_rfl) (fun w => by kernel_rfl) ?_
                refine QRun_y (.bool x18) (by kernel_rfl) (Y_callq (f := 27) (args := #[.slice a7 x17.1.length c7, .slice a2 x3.1.length c2]) (v := .bool x18) (by kernel_rfl) (w_laws_eqInt64S h15 x17.1 a7 c7 (H37.rd 0 rfl) x3.1 a2 c2 (H37.rd 6 rfl) _ _ hx15)) ?_
                refine QRun_b [.bool (!x18)] 3 _ (by kernel_rfl) (fun w => by kernel_rfl) ?_
                refine QRun_seq 9 [(9, .slice a4 x5.1.length c4), (12, .int .i64 x14.1), (92, .bool ((!x18) || (x17.2 != x3.2)))] ?_ ?_
                · rcases Bool.eq_false_or_eq_true (!x18) with hb10 | hb10
                  · refine QRun_bool (!x18) true (by kernel_rfl) (fun w => by kernel_rfl) hb10 ?_
                    refine QRun_n (by kernel_rfl) ?_
                    refine QRun_n (by kernel_rfl) ?_
                    refine QRun_n (by kernel_rfl) ?_
                    refine QRun_bool true ((!x18) || (x17.2 != x3.2)) (by kernel_rfl) (fun w => by kernel_rfl) (by rw [hb10]; rfl) ?_
                    exact QRun_done [9, 12, 92] (by kernel_rfl) (by kernel_rfl)
                  · refine QRun_bool (!x18) false (by kernel_rfl) (fun w => by kernel_rfl) hb10 ?_
                    refine QRun_b [.int .i64 x17.2, .int .i64 x3.2, .bool (x17.2 != x3.2)] 5 _ (by kernel_rfl) (fun w => by kernel_rfl) ?_
                    refine QRun_bool (x17.2 != x3.2) ((!x18) || (x17.2 != x3.2)) (by kernel_rfl) (fun w => by kernel_rfl) (by rw [hb10]; rfl) ?_
                    exact QRun_done [9, 12, 92] (by kernel_rfl) (by kernel_rfl)
                exact QRun_done [9, 12, 92] (by kernel_rfl) (by kernel_rfl)
              refine Run_cond (b := (!x18) || (x17.2 != x3.2)) (by kernel_rfl) (fun hb11 => ?_) (fun hb11 => ?_)
              · have hF := (M.ite_some hF).1 hb11
                refine Run_seq ?_
                refine Run_reg 1 (by kernel_rfl) (L' := [(4, .bool false)]) ?_ ?_
                · refine QRun_b [.bool false] 0 _ (by kernel_rfl) (fun w => by kernel_rfl) ?_
                  exact QRun_done [4] (by kernel_rfl) (by kernel_rfl)
                have hF := M.ret_some hF
                subst hF
                have H38 : Hold h h15 [] := H37.pick [] (by kernel_rfl)
                exact Run_ret1 rfl (ResV_tmp (v := .bool false) (by kernel_rfl)) ⟨rfl, H38⟩
              · have hF := (M.ite_some hF).2 hb11
                refine Run_skip ?_
                refine Run_seq ?_
                refine Run_reg 1 (by kernel_rfl) (L' := [(9, .slice a4 x5.1.length c4), (12, .int .i64 x14.1), (13, .int .i64 1)]) ?_ ?_
                · refine QRun_b [.int .i64 1] 0 _ (by kernel_rfl) (fun w => by kernel_rfl) ?_
                  exact QRun_done [9, 12, 13] (by kernel_rfl) (by kernel_rfl)
                refine Run_seq ?_
                obtain ⟨x20, hx16, hF⟩ := M.bind_some hF
                refine Run_reg 4 (by kernel_rfl) (L' := [(12, .int .i64 x14.1), (13, .int .i64 x20)]) ?_ ?_
                · refine QRun_b [.slice a4 x5.1.length c4, .int .i64 1] 0 _ (by kernel_rfl) (fun w => by kernel_rfl) ?_
                  refine QRun_y (.int .i64 x20) (by kernel_rfl) (Y_callq (f := 29) (args := #[.slice a4 x5.1.length c4, .int .i64 1]) (v := .int .i64 x20) (by kernel_rfl) (Fn.arg (w_laws_heldInt64S h15 x14.2 a4 c4 (H37.rd 2 rfl) 1 _ _ hx16) (by simp only [(H37.len 2 rfl)]))) ?_
                  refine QRun_b [.int .i64 x20] 3 _ (by kernel_rfl) (fun w => by kernel_rfl) ?_
                  exact QRun_done [12, 13] (by kernel_rfl) (by kernel_rfl)
                refine Run_seq ?_
                refine Run_seq ?_
                refine Run_reg 2 (by kernel_rfl) (L' := [(12, .int .i64 x14.1), (13, .int .i64 x20), (97, .bool (decide (x20 < 0)))]) ?_ ?_
                · refine QRun_b [.int .i64 x20, .bool (decide (x20 < 0))] 0 _ (by kernel_rfl) (fun w => by kernel_rfl) ?_
                  exact QRun_done [12, 13, 97] (by kernel_rfl) (by kernel_rfl)
                refine Run_cond (b := decide (x20 < 0)) (by kernel_rfl) (fun hb12 => ?_) (fun hb12 => ?_)
                · have hF := (M.ite_some hF).1 hb12
                  refine Run_seq ?_
                  refine Run_reg 1 (by kernel_rfl) (L' := [(4, .bool false)]) ?_ ?_
                  · refine QRun_b [.bool false] 0 _ (by kernel_rfl) (fun w => by kernel_rfl) ?_
                    exact QRun_done [4] (by kernel_rfl) (by kernel_rfl)
                  have hF := M.ret_some hF
                  subst hF
                  have H39 : Hold h h15 [] := H37.pick [] (by kernel_rfl)
                  exact Run_ret1 rfl (ResV_tmp (v := .bool false) (by kernel_rfl)) ⟨rfl, H39⟩
                · have hF := (M.ite_some hF).2 hb12
                  refine Run_skip ?_
                  refine Run_seq ?_
                  refine Run_seq ?_
                  refine Run_reg 3 (by kernel_rfl) (L' := [(100, .bool (x20 != x14.1))]) ?_ ?_
                  · refine QRun_b [.int .i64 x20, .int .i64 x14.1, .bool (x20 != x14.1)] 0 _ (by kernel_rfl) (fun w => by kernel_rfl) ?_
                    exact QRun_done [100] (by kernel_rfl) (by kernel_rfl)
                  refine Run_cond (b := x20 != x14.1) (by kernel_rfl) (fun hb13 => ?_) (fun hb13 => ?_)
                  · have hF := (M.ite_some hF).1 hb13
                    refine Run_seq ?_
                    refine Run_reg 1 (by kernel_rfl) (L' := [(4, .bool false)]) ?_ ?_
                    · refine QRun_b [.bool false] 0 _ (by kernel_rfl) (fun w => by kernel_rfl) ?_
                      exact QRun_done [4] (by kernel_rfl) (by kernel_rfl)
                    have hF := M.ret_some hF
                    subst hF
                    have H40 : Hold h h15 [] := H37.pick [] (by kernel_rfl)
                    exact Run_ret1 rfl (ResV_tmp (v := .bool false) (by kernel_rfl)) ⟨rfl, H40⟩
                  · have hF := (M.ite_some hF).2 hb13
                    refine Run_skip ?_
                    refine Run_seq ?_
                    refine Run_reg 1 (by kernel_rfl) (L' := [(4, .bool true)]) ?_ ?_
                    · refine QRun_b [.bool true] 0 _ (by kernel_rfl) (fun w => by kernel_rfl) ?_
                      exact QRun_done [4] (by kernel_rfl) (by kernel_rfl)
                    have hF := M.ret_some hF
                    subst hF
                    have H41 : Hold h h15 [] := H37.pick [] (by kernel_rfl)
                    exact Run_ret1 rfl (ResV_tmp (v := .bool true) (by kernel_rfl)) ⟨rfl, H41⟩

end Go.Proofs.Ytniaobcahkjfjaa
