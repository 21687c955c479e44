/-
  Walks: each Go function, called with what reads as plain data, returns what its plain program computes.
  Conditions: None beyond the given statement.
-/
import Derived.Test.YtipdgiljgbjjkaaW0
namespace Go.Proofs.Ytipdgiljgbjjkaa
open Go
attribute [local irreducible] setL setB opA fineI idleI fineB evB okB markB markBs readyB readyBs chainB lk rho pickL dropSlot tailOK
set_option maxRecDepth 100000 in
set_option maxHeartbeats 4000000 in
theorem w_impl_tokenDistances (h : Heap) (g : TGraph) (agPlaces : Option Addr) (cgPlaces : Nat) (rgPlaces : Rd cd58 h (Lt h) agPlaces cgPlaces g.Places) (from_ : Int) (n : Nat) (r : (List Int)) (hF : impl_tokenDistances g from_ n = some r) :
    Fn Try.prog 76 #[.agg #[.int .i64 g.Events, .slice agPlaces g.Places.length cgPlaces], .int .i64 from_] h fun v h' => ∃ (a0 : Option Addr) (c0 : Nat), v = .slice a0 r.length c0 ∧ Hold h h' [own cd2 a0 r.length c0 r] := by
  unfold impl_tokenDistances at hF
  refine Fn_enter (args := [.agg #[.int .i64 g.Events, .slice agPlaces g.Places.length cgPlaces], .int .i64 from_]) Try.func76 rfl (by kernel_rfl) (by kernel_rfl) (fun w0 _ => ?_)
  have H0 := Hold.init h
  refine Run_seq ?_
  refine Run_ops ?_
  refine Run_E (by kernel_rfl) ?_
  refine E_box (ty := 30) (cs := [.int .i64 g.Events, .slice agPlaces g.Places.length cgPlaces]) H0 (fun w => by kernel_rfl) (fun b1 h1 H1 => ?_)
  refine Run_b [.slice none 0 0] 1 _ (by kernel_rfl) (fun w => by kernel_rfl) ?_
  refine Run_nil (by kernel_rfl) ?_
  refine Run_keep [1, 2] (L' := [(1, .int .i64 from_), (2, .pointer (some ⟨b1, 0, none⟩))]) (by kernel_rfl) ?_
  refine Run_seq ?_
  refine Run_ops ?_
  refine Run_b [.pointer (some ⟨b1, 0, none⟩)] 0 _ (by kernel_rfl) (fun w => by kernel_rfl) ?_
  refine Run_y (.int .i64 g.Events) (by kernel_rfl) (Y_load1 (t := 2) (p := ⟨b1, 0, none⟩) (v := .int .i64 g.Events) (by kernel_rfl) (fun w => by kernel_rfl) (H1.cell 0 rfl rfl)) ?_
  obtain ⟨l1, hl1, hF⟩ := M.bind_some hF
  have hl1 := M.make_some hl1
  refine Run_E (by kernel_rfl) ?_
  refine E_make cd2 0 (kl := .i64) (kc := .i64) H1 cd2_ti Try.underlying39 (by decide) cd2_zero (by kernel_rfl) hl1 (fun a1 h2 H2 => ?_)
  refine Run_b [.slice a1 l1.length l1.length] 3 _ (by kernel_rfl) (fun w => by kernel_rfl) ?_
  refine Run_nil (by kernel_rfl) ?_
  refine Run_keep [1, 2, 5] (L' := [(1, .int .i64 from_), (2, .pointer (some ⟨b1, 0, none⟩)), (5, .slice a1 l1.length l1.length)]) (by kernel_rfl) ?_
  refine Run_seq ?_
  refine Run_seq ?_
  refine Run_reg 3 (by kernel_rfl) (L' := [(1, .int .i64 from_), (2, .pointer (some ⟨b1, 0, none⟩)), (5, .slice a1 l1.length l1.length), (15, .int .i64 (l1.length : Int)), (16, .int .i64 0)]) ?_ ?_
  · refine QRun_b [.slice a1 l1.length l1.length, .int .i64 (l1.length : Int), .int .i64 0] 0 _ (by kernel_rfl) (fun w => by kernel_rfl) ?_
    exact QRun_done [1, 2, 5, 15, 16] (by kernel_rfl) (by kernel_rfl)
  obtain ⟨x1, gx1, hF⟩ := M.bind_some hF
  obtain ⟨hloy1, hhiy1, gx1⟩ := M.for_start gx1
  refine Run_join (fun L' h' => L' = [(1, .int .i64 from_), (2, .pointer (some ⟨b1, 0, none⟩)), (5, .slice a1 l1.length l1.length)] ∧ Hold h h' [box b1 30 [.int .i64 g.Events, .slice agPlaces g.Places.length cgPlaces], own cd2 a1 l1.length l1.length x1]) ?_ ?_
  · rintro _ h4 ⟨rfl, H4⟩
    refine Run_seq ?_
    refine Run_ops ?_
    obtain ⟨x3, hx2, hF⟩ := M.bind_some hF
    obtain ⟨hx2l, hx2u, hx2⟩ := M.idx_some hx2
    refine Run_b [.slice a1 l1.length l1.length, .int .i64 from_] 0 _ (by kernel_rfl) (fun w => by kernel_rfl) ?_
    refine Run_y (.pointer (some (adr a1 (from_.toNat * 1)))) (by kernel_rfl) (Y_idx (t := 39) (e := 2) (sz := 1) (a := a1) (n := l1.length) (cap := l1.length) (kk := .i64) (i := from_) (by kernel_rfl) Try.underlying39 (by kernel_rfl) ((H4.rd 1 rfl).cell hx2).1 hx2l (by rw [← (H4.len 1 rfl)]; exact hx2u)) ?_
    obtain ⟨l3, hu2, hF⟩ := M.bind_some hF
    have hu2 := M.upd_some hu2
    have H9 : Hold h h4 [own cd2 a1 l1.length l1.length x1, box b1 30 [.int .i64 g.Events, .slice agPlaces g.Places.length cgPlaces]] := H4.pick [1, 0] (by kernel_rfl)
    refine Run_E (by kernel_rfl) ?_
    refine E_put (C := cd2) (t := 2) (sz := 1) (j := from_) (x := 0) (v := .int .i64 0) H9 cd2_flat (by kernel_rfl) rfl (cd2_own _) (by kernel_rfl) hu2 (fun h6 H8 => ?_)
    refine Run_nil (by kernel_rfl) ?_
    refine Run_keep [2, 5] (L' := [(2, .pointer (some ⟨b1, 0, none⟩)), (5, .slice a1 l1.length l1.length)]) (by kernel_rfl) ?_
    refine Run_seq ?_
    refine Run_seq ?_
    refine Run_reg 1 (by kernel_rfl) (L' := [(2, .pointer (some ⟨b1, 0, none⟩)), (5, .slice a1 l1.length l1.length), (7, .bool true)]) ?_ ?_
    · refine QRun_b [.bool true] 0 _ (by kernel_rfl) (fun w => by kernel_rfl) ?_
      exact QRun_done [2, 5, 7] (by kernel_rfl) (by kernel_rfl)
    obtain ⟨x4, gx4, hF⟩ := M.bind_some hF
    refine Run_join (fun L' h' => L' = [(5, .slice a1 l1.length l1.length)] ∧ Hold h h' [own cd2 a1 l1.length l1.length x4.1]) ?_ ?_
    · rintro _ h8 ⟨rfl, H11⟩
      refine Run_seq ?_
      refine Run_reg 2 (by kernel_rfl) (L' := [(4, .slice a1 l1.length l1.length)]) ?_ ?_
      · refine QRun_b [.slice a1 l1.length l1.length, .slice a1 l1.length l1.length] 0 _ (by kernel_rfl) (fun w => by kernel_rfl) ?_
        exact QRun_done [4] (by kernel_rfl) (by kernel_rfl)
      have hF := M.ret_some hF
      subst hF
      have H23 := H11.norm
      exact Run_ret1 rfl (ResV_tmp (v := .slice a1 l1.length l1.length) (by kernel_rfl)) ⟨a1, l1.length, (by simp only [(H11.len 0 rfl)]), H23⟩
    · refine Run_block ?_
      have H24 : Hold h h6 [box b1 30 [.int .i64 g.Events, .slice agPlaces g.Places.length cgPlaces], own cd2 a1 l1.length l1.length l3] := H8.pick [1, 0] (by kernel_rfl)
      refine Run_keep [2, 5, 7] (L' := [(2, .pointer (some ⟨b1, 0, none⟩)), (5, .slice a1 l1.length l1.length), (7, .bool true)]) (by kernel_rfl) ?_
      refine Run_loop (fun m L' h' => ∃ (s2 : (List Int) × Bool), M.loopN _ n m s2 = some x4 ∧ L' = [(2, .pointer (some ⟨b1, 0, none⟩)), (5, .slice a1 l1.length l1.length), (7, .bool s2.2)] ∧ Hold h h' [box b1 30 [.int .i64 g.Events, .slice agPlaces g.Places.length cgPlaces], own cd2 a1 l1.length l1.length s2.1]) n ⟨(l3, true), gx4, rfl, H24⟩ ?_
      rintro my2 _ h7 ⟨s2, gx4, rfl, H10⟩
      obtain ⟨my2, y2, rfl, hB2, hgoy2, houty2⟩ := M.loop_some gx4
      refine Run_seq ?_
      refine Run_seq ?_
      refine Run_reg 1 (by kernel_rfl) (L' := [(2, .pointer (some ⟨b1, 0, none⟩)), (5, .slice a1 l1.length l1.length), (26, .bool s2.2)]) ?_ ?_
      · refine QRun_b [.bool s2.2] 0 _ (by kernel_rfl) (fun w => by kernel_rfl) ?_
        exact QRun_done [2, 5, 26] (by kernel_rfl) (by kernel_rfl)
      refine Run_cond (b := s2.2) (by kernel_rfl) (fun hb2 => ?_) (fun hb2 => ?_)
      · have hB2 := (M.ite_some hB2).1 hb2
        refine Run_skip ?_
        refine Run_block ?_
        refine Run_seq ?_
        refine Run_reg 1 (by kernel_rfl) (L' := [(2, .pointer (some ⟨b1, 0, none⟩)), (5, .slice a1 l1.length l1.length), (7, .bool false)]) ?_ ?_
        · refine QRun_b [.bool false] 0 _ (by kernel_rfl) (fun w => by kernel_rfl) ?_
          exact QRun_done [2, 5, 7] (by kernel_rfl) (by kernel_rfl)
        refine Run_seq ?_
        refine Run_reg 4 (by kernel_rfl) (L' := [(2, .pointer (some ⟨b1, 0, none⟩)), (5, .slice a1 l1.length l1.length), (7, .bool false), (28, .slice agPlaces g.Places.length cgPlaces), (29, .int .i64 (g.Places.length : Int)), (30, .int .i64 0)]) ?_ ?_
        · refine QRun_b [.pointer (some ⟨b1, 1, none⟩)] 0 _ (by kernel_rfl) (fun w => by kernel_rfl) ?_
          refine QRun_y (.slice agPlaces g.Places.length cgPlaces) (by kernel_rfl) (Y_load1 (t := 28) (p := ⟨b1, 1, none⟩) (v := .slice agPlaces g.Places.length cgPlaces) (by kernel_rfl) (fun w => by kernel_rfl) (H10.cell 0 rfl rfl)) ?_
          refine QRun_b [.int .i64 (g.Places.length : Int), .int .i64 0] 2 _ (by kernel_rfl) (fun w => by kernel_rfl) ?_
          exact QRun_done [2, 5, 7, 28, 29, 30] (by kernel_rfl) (by kernel_rfl)
        obtain ⟨x5, gx5, hB2⟩ := M.bind_some hB2
        obtain ⟨hloy3, hhiy3, gx5⟩ := M.for_start gx5
        refine Run_join (fun L' h' => L' = [(2, .pointer (some ⟨b1, 0, none⟩)), (5, .slice a1 l1.length l1.length), (7, .bool x5.2)] ∧ Hold h h' [box b1 30 [.int .i64 g.Events, .slice agPlaces g.Places.length cgPlaces], own cd2 a1 l1.length l1.length x5.1]) ?_ ?_
        · rintro _ h10 ⟨rfl, H13⟩
          refine Run_blk ?_
          have hB2 := M.ret_some hB2
          have gx4 := hgoy2 _ hB2.symm
          exact Run_again [2, 5, 7] (by kernel_rfl) my2 (Nat.lt_succ_self _) ⟨(x5.1, x5.2), gx4, rfl, H13⟩
        · refine Run_block ?_
          refine Run_keep [2, 5, 7, 28, 29, 30] (L' := [(2, .pointer (some ⟨b1, 0, none⟩)), (5, .slice a1 l1.length l1.length), (7, .bool false), (28, .slice agPlaces g.Places.length cgPlaces), (29, .int .i64 (g.Places.length : Int)), (30, .int .i64 0)]) (by kernel_rfl) ?_
          refine Run_loop (fun m L' h' => ∃ (i2 : Int) (s3 : (List Int) × Bool), 0 ≤ i2 ∧ M.forN (g.Places.length : Int) _ _ n m i2 s3 = some x5 ∧ L' = [(2, .pointer (some ⟨b1, 0, none⟩)), (5, .slice a1 l1.length l1.length), (7, .bool s3.2), (28, .slice agPlaces g.Places.length cgPlaces), (29, .int .i64 (g.Places.length : Int)), (30, .int .i64 i2)] ∧ Hold h h' [box b1 30 [.int .i64 g.Events, .slice agPlaces g.Places.length cgPlaces], own cd2 a1 l1.length l1.length s3.1]) ((g.Places.length : Int) - 0 : Int).toNat ⟨0, (s2.1, false), Int.le_refl _, gx5, rfl, H10⟩ ?_
          rintro my3 _ h9 ⟨i2, s3, hloy3', gx5, rfl, H12⟩
          refine Run_seq ?_
          refine Run_reg 1 (by kernel_rfl) (L' := [(2, .pointer (some ⟨b1, 0, none⟩)), (5, .slice a1 l1.length l1.length), (7, .bool s3.2), (28, .slice agPlaces g.Places.length cgPlaces), (29, .int .i64 (g.Places.length : Int)), (30, .int .i64 i2), (31, .bool (decide (i2 < (g.Places.length : Int))))]) ?_ ?_
          · refine QRun_b [.bool (decide (i2 < (g.Places.length : Int)))] 0 _ (by kernel_rfl) (fun w => by kernel_rfl) ?_
            exact QRun_done [2, 5, 7, 28, 29, 30, 31] (by kernel_rfl) (by kernel_rfl)
          refine Run_seq ?_
          refine Run_cond (b := decide (i2 < (g.Places.length : Int))) (by kernel_rfl) (fun hb3 => ?_) (fun hb3 => ?_)
          · obtain ⟨my3, y3, rfl, hB3, hgoy3, houty3⟩ := M.for_go gx5 hb3
            have hlty3 := of_decide_eq_true hb3
            refine Run_skip ?_
            refine Run_seq ?_
            obtain ⟨s4, gs4, hB3⟩ := M.bind_some hB3
            refine Run_join (fun L' h' => L' = [(2, .pointer (some ⟨b1, 0, none⟩)), (5, .slice a1 l1.length l1.length), (7, .bool s4.2), (28, .slice agPlaces g.Places.length cgPlaces), (29, .int .i64 (g.Places.length : Int)), (30, .int .i64 i2)] ∧ Hold h h' [box b1 30 [.int .i64 g.Events, .slice agPlaces g.Places.length cgPlaces], own cd2 a1 l1.length l1.length s4.1]) ?_ ?_
            · rintro _ h14 ⟨rfl, H18⟩
              refine Run_reg 2 (by kernel_rfl) (L' := [(2, .pointer (some ⟨b1, 0, none⟩)), (5, .slice a1 l1.length l1.length), (7, .bool s4.2), (28, .slice agPlaces g.Places.length cgPlaces), (29, .int .i64 (g.Places.length : Int)), (30, .int .i64 (i2 + 1))]) ?_ ?_
              · refine QRun_y (.int .i64 (i2 + 1)) (by kernel_rfl) (Y_eq (v := .int .i64 (w64 (i2 + 1))) (Y_pure (fun w => by kernel_rfl)) (by rw [w64_eq _ (by omega)])) ?_
                refine QRun_b [.int .i64 (i2 + 1)] 1 _ (by kernel_rfl) (fun w => by kernel_rfl) ?_
                exact QRun_done [2, 5, 7, 28, 29, 30] (by kernel_rfl) (by kernel_rfl)
              have hB3 := M.ret_some hB3
              have gx5 := hgoy3 _ hB3.symm
              exact Run_again [2, 5, 7, 28, 29, 30] (by kernel_rfl) my3 (Nat.lt_succ_self _) ⟨i2 + 1, (s4.1, s4.2), by omega, gx5, rfl, H18⟩
            · refine Run_block ?_
              refine Run_seq ?_
              refine Run_ops ?_
              obtain ⟨x6, hx3, gs4⟩ := M.bind_some gs4
              obtain ⟨hx3l, hx3u, hx3⟩ := M.idx_some hx3
              refine Run_y (.pointer (some (adr agPlaces (i2.toNat * 4)))) (by kernel_rfl) (Y_idx (t := 28) (e := 58) (sz := 4) (a := agPlaces) (n := g.Places.length) (cap := cgPlaces) (kk := .i64) (i := i2) (by kernel_rfl) Try.underlying28 (by kernel_rfl) ((rgPlaces.at H12.ext).cell hx3).1 hx3l hx3u) ?_
              refine Run_y (.agg #[.int .i64 x6.From, .int .i64 x6.To, .int .i64 x6.Delay, .int .i64 x6.Tokens]) (by kernel_rfl) (Y_loadA (t := 58) (n := 4) (p := adr agPlaces (i2.toNat * 4)) (cs := [.int .i64 x6.From, .int .i64 x6.To, .int .i64 x6.Delay, .int .i64 x6.Tokens]) (by kernel_rfl) (fun w => by kernel_rfl) (by kernel_rfl) rfl (cd58_elem (rgPlaces.at H12.ext) hx3)) ?_
              refine Run_E (by kernel_rfl) ?_
              refine E_box (ty := 58) (cs := [.int .i64 0, .int .i64 0, .int .i64 0, .int .i64 0]) H12 (fun w => by kernel_rfl) (fun b2 h11 H14 => ?_)
              refine Run_E (by kernel_rfl) ?_
              refine E_bput (t := 58) (off := 0) (us := [.int .i64 x6.From, .int .i64 x6.To, .int .i64 x6.Delay, .int .i64 x6.Tokens]) (v := .agg #[.int .i64 x6.From, .int .i64 x6.To, .int .i64 x6.Delay, .int .i64 x6.Tokens]) H14 (by kernel_rfl) (by kernel_rfl) rfl (by kernel_rfl) rfl (fun h12 H15 => ?_)
              refine Run_nil (by kernel_rfl) ?_
              refine Run_keep [2, 5, 7, 9, 28, 29, 30] (L' := [(2, .pointer (some ⟨b1, 0, none⟩)), (5, .slice a1 l1.length l1.length), (7, .bool s3.2), (9, .pointer (some ⟨b2, 0, none⟩)), (28, .slice agPlaces g.Places.length cgPlaces), (29, .int .i64 (g.Places.length : Int)), (30, .int .i64 i2)]) (by kernel_rfl) ?_
              refine Run_seq ?_
              refine Run_seq ?_
              obtain ⟨x7, hx4, gs4⟩ := M.bind_some gs4
              obtain ⟨hx4l, hx4u, hx4⟩ := M.idx_some hx4
              refine Run_reg 6 (by kernel_rfl) (L' := [(2, .pointer (some ⟨b1, 0, none⟩)), (5, .slice a1 l1.length l1.length), (7, .bool s3.2), (9, .pointer (some ⟨b2, 0, none⟩)), (28, .slice agPlaces g.Places.length cgPlaces), (29, .int .i64 (g.Places.length : Int)), (30, .int .i64 i2), (39, .bool (decide (x7 < 0)))]) ?_ ?_
              · refine QRun_b [.slice a1 l1.length l1.length, .pointer (some ⟨b2, 0, none⟩)] 0 _ (by kernel_rfl) (fun w => by kernel_rfl) ?_
                refine QRun_y (.int .i64 x6.From) (by kernel_rfl) (Y_load1 (t := 2) (p := ⟨b2, 0, none⟩) (v := .int .i64 x6.From) (by kernel_rfl) (fun w => by kernel_rfl) (H15.cell 0 rfl rfl)) ?_
                refine QRun_y (.pointer (some (adr a1 (x6.From.toNat * 1)))) (by kernel_rfl) (Y_idx (t := 39) (e := 2) (sz := 1) (a := a1) (n := l1.length) (cap := l1.length) (kk := .i64) (i := x6.From) (by kernel_rfl) Try.underlying39 (by kernel_rfl) ((H15.rd 2 rfl).cell hx4).1 hx4l (by rw [← (H15.len 2 rfl)]; exact hx4u)) ?_
                refine QRun_y (.int .i64 x7) (by kernel_rfl) (Y_load1 (t := 2) (p := adr a1 (x6.From.toNat * 1)) (v := .int .i64 x7) (by kernel_rfl) (fun w => by kernel_rfl) (cd2_cell (H15.rd 2 rfl) hx4)) ?_
                refine QRun_b [.bool (decide (x7 < 0))] 5 _ (by kernel_rfl) (fun w => by kernel_rfl) ?_
                exact QRun_done [2, 5, 7, 9, 28, 29, 30, 39] (by kernel_rfl) (by kernel_rfl)
              refine Run_cond (b := decide (x7 < 0)) (by kernel_rfl) (fun hb4 => ?_) (fun hb4 => ?_)
              · have gs4 := (M.ite_some gs4).1 hb4
                refine Run_exit (k' := _) rfl ?_
                have H19 : Hold h h12 [box b1 30 [.int .i64 g.Events, .slice agPlaces g.Places.length cgPlaces], own cd2 a1 l1.length l1.length s3.1] := H15.pick [1, 2] (by kernel_rfl)
                have gs4 := M.ret_some gs4
                subst gs4
                exact Run_fall [2, 5, 7, 28, 29, 30] (by kernel_rfl) ⟨rfl, H19⟩
              · have gs4 := (M.ite_some gs4).2 hb4
                refine Run_skip ?_
                refine Run_seq ?_
                obtain ⟨x8, hx5, gs4⟩ := M.bind_some gs4
                obtain ⟨hx5l, hx5u, hx5⟩ := M.idx_some hx5
                refine Run_draw 9 mixed (by kernel_rfl) (by kernel_rfl) (L' := [(2, .pointer (some ⟨b1, 0, none⟩)), (5, .slice a1 l1.length l1.length), (7, .bool s3.2), (9, .pointer (some ⟨b2, 0, none⟩)), (10, .int .i64 (w64 (x8 + x6.Tokens))), (28, .slice agPlaces g.Places.length cgPlaces), (29, .int .i64 (g.Places.length : Int)), (30, .int .i64 i2)]) ?_ ?_
                · refine QRun_b [.slice a1 l1.length l1.length, .pointer (some ⟨b2, 0, none⟩)] 0 _ (by kernel_rfl) (fun w => by kernel_rfl) ?_
                  refine QRun_y (.int .i64 x6.From) (by kernel_rfl) (Y_load1 (t := 2) (p := ⟨b2, 0, none⟩) (v := .int .i64 x6.From) (by kernel_rfl) (fun w => by kernel_rfl) (H15.cell 0 rfl rfl)) ?_
                  refine QRun_y (.pointer (some (adr a1 (x6.From.toNat * 1)))) (by kernel_rfl) (Y_idx (t := 39) (e := 2) (sz := 1) (a := a1) (n := l1.length) (cap := l1.length) (kk := .i64) (i := x6.From) (by kernel_rfl) Try.underlying39 (by kernel_rfl) ((H15.rd 2 rfl).cell hx5).1 hx5l (by rw [← (H15.len 2 rfl)]; exact hx5u)) ?_
                  refine QRun_y (.int .i64 x8) (by kernel_rfl) (Y_load1 (t := 2) (p := adr a1 (x6.From.toNat * 1)) (v := .int .i64 x8) (by kernel_rfl) (fun w => by kernel_rfl) (cd2_cell (H15.rd 2 rfl) hx5)) ?_
                  refine QRun_b [.pointer (some ⟨b2, 3, none⟩)] 5 _ (by kernel_rfl) (fun w => by kernel_rfl) ?_
                  refine QRun_y (.int .i64 x6.Tokens) (by kernel_rfl) (Y_load1 (t := 2) (p := ⟨b2, 3, none⟩) (v := .int .i64 x6.Tokens) (by kernel_rfl) (fun w => by kernel_rfl) (H15.cell 0 rfl rfl)) ?_
                  refine QRun_b [.int .i64 (w64 (x8 + x6.Tokens)), .int .i64 (w64 (x8 + x6.Tokens))] 7 _ (by kernel_rfl) (fun w => by kernel_rfl) ?_
                  exact QRun_done [2, 5, 7, 9, 10, 28, 29, 30] (by kernel_rfl) (by kernel_rfl)
                refine Run_seq ?_
                obtain ⟨x9, hx6, gs4⟩ := M.bind_some gs4
                obtain ⟨hx6l, hx6u, hx6⟩ := M.idx_some hx6
                obtain ⟨x10, gx10, gs4⟩ := M.bind_some gs4
                refine Run_reg 15 (by kernel_rfl) (L' := [(2, .pointer (some ⟨b1, 0, none⟩)), (5, .slice a1 l1.length l1.length), (7, .bool s3.2), (9, .pointer (some ⟨b2, 0, none⟩)), (10, .int .i64 (w64 (x8 + x6.Tokens))), (28, .slice agPlaces g.Places.length cgPlaces), (29, .int .i64 (g.Places.length : Int)), (30, .int .i64 i2), (62, .bool x10)]) ?_ ?_
                · refine QRun_b [.slice a1 l1.length l1.length, .pointer (some ⟨b2, 1, none⟩)] 0 _ (by kernel_rfl) (fun w => by kernel_rfl) ?_
                  refine QRun_y (.int .i64 x6.To) (by kernel_rfl) (Y_load1 (t := 2) (p := ⟨b2, 1, none⟩) (v := .int .i64 x6.To) (by kernel_rfl) (fun w => by kernel_rfl) (H15.cell 0 rfl rfl)) ?_
                  refine QRun_y (.pointer (some (adr a1 (x6.To.toNat * 1)))) (by kernel_rfl) (Y_idx (t := 39) (e := 2) (sz := 1) (a := a1) (n := l1.length) (cap := l1.length) (kk := .i64) (i := x6.To) (by kernel_rfl) Try.underlying39 (by kernel_rfl) ((H15.rd 2 rfl).cell hx6).1 hx6l (by rw [← (H15.len 2 rfl)]; exact hx6u)) ?_
                  refine QRun_y (.int .i64 x9) (by kernel_rfl) (Y_load1 (t := 2) (p := adr a1 (x6.To.toNat * 1)) (v := .int .i64 x9) (by kernel_rfl) (fun w => by kernel_rfl) (cd2_cell (H15.rd 2 rfl) hx6)) ?_
                  refine QRun_b [.bool (decide (x9 < 0))] 5 _ (by kernel_rfl) (fun w => by kernel_rfl) ?_
                  refine QRun_seq 15 [(2, .pointer (some ⟨b1, 0, none⟩)), (5, .slice a1 l1.length l1.length), (7, .bool s3.2), (9, .pointer (some ⟨b2, 0, none⟩)), (10, .int .i64 (w64 (x8 + x6.Tokens))), (28, .slice agPlaces g.Places.length cgPlaces), (29, .int .i64 (g.Places.length : Int)), (30, .int .i64 i2), (62, .bool x10)] ?_ ?_
                  · rcases Bool.eq_false_or_eq_true (decide (x9 < 0)) with hb5 | hb5
                    · refine QRun_bool (decide (x9 < 0)) true (by kernel_rfl) (fun w => by kernel_rfl) hb5 ?_
                      have gx10 := M.ret_some ((M.ite_some gx10).1 hb5)
                      refine QRun_n (by kernel_rfl) ?_
                      refine QRun_n (by kernel_rfl) ?_
                      refine QRun_n (by kernel_rfl) ?_
                      refine QRun_n (by kernel_rfl) ?_
                      refine QRun_n (by kernel_rfl) ?_
                      refine QRun_n (by kernel_rfl) ?_
                      refine QRun_n (by kernel_rfl) ?_
                      refine QRun_bool true x10 (by kernel_rfl) (fun w => by kernel_rfl) gx10 ?_
                      exact QRun_done [2, 5, 7, 9, 10, 28, 29, 30, 62] (by kernel_rfl) (by kernel_rfl)
                    · refine QRun_bool (decide (x9 < 0)) false (by kernel_rfl) (fun w => by kernel_rfl) hb5 ?_
                      have gx10 := (M.ite_some gx10).2 hb5
                      obtain ⟨x11, hx7, gx10⟩ := M.bind_some gx10
                      obtain ⟨hx7l, hx7u, hx7⟩ := M.idx_some hx7
                      have gx10 := M.ret_some gx10
                      refine QRun_b [.int .i64 (w64 (x8 + x6.Tokens)), .slice a1 l1.length l1.length, .pointer (some ⟨b2, 1, none⟩)] 7 _ (by kernel_rfl) (fun w => by kernel_rfl) ?_
                      refine QRun_y (.int .i64 x6.To) (by kernel_rfl) (Y_load1 (t := 2) (p := ⟨b2, 1, none⟩) (v := .int .i64 x6.To) (by kernel_rfl) (fun w => by kernel_rfl) (H15.cell 0 rfl rfl)) ?_
                      refine QRun_y (.pointer (some (adr a1 (x6.To.toNat * 1)))) (by kernel_rfl) (Y_idx (t := 39) (e := 2) (sz := 1) (a := a1) (n := l1.length) (cap := l1.length) (kk := .i64) (i := x6.To) (by kernel_rfl) Try.underlying39 (by kernel_rfl) ((H15.rd 2 rfl).cell hx7).1 hx7l (by rw [← (H15.len 2 rfl)]; exact hx7u)) ?_
                      refine QRun_y (.int .i64 x11) (by kernel_rfl) (Y_load1 (t := 2) (p := adr a1 (x6.To.toNat * 1)) (v := .int .i64 x11) (by kernel_rfl) (fun w => by kernel_rfl) (cd2_cell (H15.rd 2 rfl) hx7)) ?_
                      refine QRun_b [.bool (decide ((w64 (x8 + x6.Tokens)) < x11))] 13 _ (by kernel_rfl) (fun w => by kernel_rfl) ?_
                      refine QRun_bool (decide ((w64 (x8 + x6.Tokens)) < x11)) x10 (by kernel_rfl) (fun w => by kernel_rfl) gx10 ?_
                      exact QRun_done [2, 5, 7, 9, 10, 28, 29, 30, 62] (by kernel_rfl) (by kernel_rfl)
                  exact QRun_done [2, 5, 7, 9, 10, 28, 29, 30, 62] (by kernel_rfl) (by kernel_rfl)
                refine Run_cond (b := x10) (by kernel_rfl) (fun hb6 => ?_) (fun hb6 => ?_)
                · have gs4 := (M.ite_some gs4).1 hb6
                  refine Run_ops ?_
                  obtain ⟨x12, hx8, gs4⟩ := M.bind_some gs4
                  obtain ⟨hx8l, hx8u, hx8⟩ := M.idx_some hx8
                  refine Run_b [.slice a1 l1.length l1.length, .pointer (some ⟨b2, 1, none⟩)] 0 _ (by kernel_rfl) (fun w => by kernel_rfl) ?_
                  refine Run_y (.int .i64 x6.To) (by kernel_rfl) (Y_load1 (t := 2) (p := ⟨b2, 1, none⟩) (v := .int .i64 x6.To) (by kernel_rfl) (fun w => by kernel_rfl) (H15.cell 0 rfl rfl)) ?_
                  refine Run_b [.int .i64 (w64 (x8 + x6.Tokens))] 3 _ (by kernel_rfl) (fun w => by kernel_rfl) ?_
                  refine Run_y (.pointer (some (adr a1 (x6.To.toNat * 1)))) (by kernel_rfl) (Y_idx (t := 39) (e := 2) (sz := 1) (a := a1) (n := l1.length) (cap := l1.length) (kk := .i64) (i := x6.To) (by kernel_rfl) Try.underlying39 (by kernel_rfl) ((H15.rd 2 rfl).cell hx8).1 hx8l (by rw [← (H15.len 2 rfl)]; exact hx8u)) ?_
                  obtain ⟨l4, hu3, gs4⟩ := M.bind_some gs4
                  have hu3 := M.upd_some hu3
                  have H17 : Hold h h12 [own cd2 a1 l1.length l1.length s3.1, box b2 58 [.int .i64 x6.From, .int .i64 x6.To, .int .i64 x6.Delay, .int .i64 x6.Tokens], box b1 30 [.int .i64 g.Events, .slice agPlaces g.Places.length cgPlaces]] := H15.pick [2, 0, 1] (by kernel_rfl)
                  refine Run_E (by kernel_rfl) ?_
                  refine E_put (C := cd2) (t := 2) (sz := 1) (j := x6.To) (x := (w64 (x8 + x6.Tokens))) (v := .int .i64 (w64 (x8 + x6.Tokens))) H17 cd2_flat (by kernel_rfl) rfl (cd2_own _) (by kernel_rfl) hu3 (fun h13 H16 => ?_)
                  refine Run_b [.bool true] 6 _ (by kernel_rfl) (fun w => by kernel_rfl) ?_
                  refine Run_nil (by kernel_rfl) ?_
                  refine Run_keep [2, 5, 7, 28, 29, 30] (L' := [(2, .pointer (some ⟨b1, 0, none⟩)), (5, .slice a1 l1.length l1.length), (7, .bool true), (28, .slice agPlaces g.Places.length cgPlaces), (29, .int .i64 (g.Places.length : Int)), (30, .int .i64 i2)]) (by kernel_rfl) ?_
                  refine Run_blk ?_
                  have H20 : Hold h h13 [box b1 30 [.int .i64 g.Events, .slice agPlaces g.Places.length cgPlaces], own cd2 a1 l1.length l1.length l4] := H16.pick [2, 0] (by kernel_rfl)
                  have gs4 := M.ret_some gs4
                  subst gs4
                  exact Run_fall [2, 5, 7, 28, 29, 30] (by kernel_rfl) ⟨rfl, H20⟩
                · have gs4 := (M.ite_some gs4).2 hb6
                  refine Run_skip ?_
                  refine Run_blk ?_
                  have H21 : Hold h h12 [box b1 30 [.int .i64 g.Events, .slice agPlaces g.Places.length cgPlaces], own cd2 a1 l1.length l1.length s3.1] := H15.pick [1, 2] (by kernel_rfl)
                  have gs4 := M.ret_some gs4
                  subst gs4
                  exact Run_fall [2, 5, 7, 28, 29, 30] (by kernel_rfl) ⟨rfl, H21⟩
          · have gx5 := M.for_end gx5 hb3
            subst gx5
            refine Run_exit (k' := _) rfl ?_
            exact Run_fall [2, 5, 7] (by kernel_rfl) ⟨rfl, H12⟩
      · have hB2 := (M.ite_some hB2).2 hb2
        refine Run_exit (k' := _) rfl ?_
        have H22 : Hold h h7 [own cd2 a1 l1.length l1.length s2.1] := H10.pick [1] (by kernel_rfl)
        have hB2 := M.ret_some hB2
        have gx4 := houty2 _ hB2.symm
        subst gx4
        exact Run_fall [5] (by kernel_rfl) ⟨rfl, H22⟩
  · refine Run_block ?_
    have H25 : Hold h h2 [box b1 30 [.int .i64 g.Events, .slice agPlaces g.Places.length cgPlaces], own cd2 a1 l1.length l1.length l1] := H2.pick [1, 0] (by kernel_rfl)
    refine Run_keep [1, 2, 5, 15, 16] (L' := [(1, .int .i64 from_), (2, .pointer (some ⟨b1, 0, none⟩)), (5, .slice a1 l1.length l1.length), (15, .int .i64 (l1.length : Int)), (16, .int .i64 0)]) (by kernel_rfl) ?_
    refine Run_loop (fun m L' h' => ∃ (i1 : Int) (s1 : (List Int)), 0 ≤ i1 ∧ M.forN (l1.length : Int) _ _ n m i1 s1 = some x1 ∧ L' = [(1, .int .i64 from_), (2, .pointer (some ⟨b1, 0, none⟩)), (5, .slice a1 l1.length l1.length), (15, .int .i64 (l1.length : Int)), (16, .int .i64 i1)] ∧ Hold h h' [box b1 30 [.int .i64 g.Events, .slice agPlaces g.Places.length cgPlaces], own cd2 a1 l1.length l1.length s1]) ((l1.length : Int) - 0 : Int).toNat ⟨0, l1, Int.le_refl _, gx1, rfl, H25⟩ ?_
    rintro my1 _ h3 ⟨i1, s1, hloy1', gx1, rfl, H3⟩
    refine Run_seq ?_
    refine Run_reg 1 (by kernel_rfl) (L' := [(1, .int .i64 from_), (2, .pointer (some ⟨b1, 0, none⟩)), (5, .slice a1 l1.length l1.length), (15, .int .i64 (l1.length : Int)), (16, .int .i64 i1), (17, .bool (decide (i1 < (l1.length : Int))))]) ?_ ?_
    · refine QRun_b [.bool (decide (i1 < (l1.length : Int)))] 0 _ (by kernel_rfl) (fun w => by kernel_rfl) ?_
      exact QRun_done [1, 2, 5, 15, 16, 17] (by kernel_rfl) (by kernel_rfl)
    refine Run_seq ?_
    refine Run_cond (b := decide (i1 < (l1.length : Int))) (by kernel_rfl) (fun hb1 => ?_) (fun hb1 => ?_)
    · obtain ⟨my1, y1, rfl, hB1, hgoy1, houty1⟩ := M.for_go gx1 hb1
      have hlty1 := of_decide_eq_true hb1
      refine Run_skip ?_
      refine Run_seq ?_
      refine Run_block ?_
      refine Run_seq ?_
      refine Run_reg 2 (by kernel_rfl) (L' := [(1, .int .i64 from_), (2, .pointer (some ⟨b1, 0, none⟩)), (5, .slice a1 l1.length l1.length), (6, .int .i64 i1), (15, .int .i64 (l1.length : Int)), (16, .int .i64 i1)]) ?_ ?_
      · refine QRun_b [.int .i64 i1, .int .i64 i1] 0 _ (by kernel_rfl) (fun w => by kernel_rfl) ?_
        exact QRun_done [1, 2, 5, 6, 15, 16] (by kernel_rfl) (by kernel_rfl)
      refine Run_ops ?_
      obtain ⟨x2, hx1, hB1⟩ := M.bind_some hB1
      obtain ⟨hx1l, hx1u, hx1⟩ := M.idx_some hx1
      refine Run_b [.slice a1 l1.length l1.length, .int .i64 i1] 0 _ (by kernel_rfl) (fun w => by kernel_rfl) ?_
      refine Run_y (.pointer (some (adr a1 (i1.toNat * 1)))) (by kernel_rfl) (Y_idx (t := 39) (e := 2) (sz := 1) (a := a1) (n := l1.length) (cap := l1.length) (kk := .i64) (i := i1) (by kernel_rfl) Try.underlying39 (by kernel_rfl) ((H3.rd 1 rfl).cell hx1).1 hx1l (by rw [← (H3.len 1 rfl)]; exact hx1u)) ?_
      obtain ⟨l2, hu1, hB1⟩ := M.bind_some hB1
      have hu1 := M.upd_some hu1
      have H6 : Hold h h3 [own cd2 a1 l1.length l1.length s1, box b1 30 [.int .i64 g.Events, .slice agPlaces g.Places.length cgPlaces]] := H3.pick [1, 0] (by kernel_rfl)
      refine Run_E (by kernel_rfl) ?_
      refine E_put (C := cd2) (t := 2) (sz := 1) (j := i1) (x := (-1)) (v := .int .i64 (-1)) H6 cd2_flat (by kernel_rfl) rfl (cd2_own _) (by kernel_rfl) hu1 (fun h5 H5 => ?_)
      refine Run_nil (by kernel_rfl) ?_
      refine Run_keep [1, 2, 5, 15, 16] (L' := [(1, .int .i64 from_), (2, .pointer (some ⟨b1, 0, none⟩)), (5, .slice a1 l1.length l1.length), (15, .int .i64 (l1.length : Int)), (16, .int .i64 i1)]) (by kernel_rfl) ?_
      refine Run_blk ?_
      refine Run_reg 2 (by kernel_rfl) (L' := [(1, .int .i64 from_), (2, .pointer (some ⟨b1, 0, none⟩)), (5, .slice a1 l1.length l1.length), (15, .int .i64 (l1.length : Int)), (16, .int .i64 (i1 + 1))]) ?_ ?_
      · refine QRun_y (.int .i64 (i1 + 1)) (by kernel_rfl) (Y_eq (v := .int .i64 (w64 (i1 + 1))) (Y_pure (fun w => by kernel_rfl)) (by rw [w64_eq _ (by omega)])) ?_
        refine QRun_b [.int .i64 (i1 + 1)] 1 _ (by kernel_rfl) (fun w => by kernel_rfl) ?_
        exact QRun_done [1, 2, 5, 15, 16] (by kernel_rfl) (by kernel_rfl)
      have H7 : Hold h h5 [box b1 30 [.int .i64 g.Events, .slice agPlaces g.Places.length cgPlaces], own cd2 a1 l1.length l1.length l2] := H5.pick [1, 0] (by kernel_rfl)
      have hB1 := M.ret_some hB1
      have gx1 := hgoy1 _ hB1.symm
      exact Run_again [1, 2, 5, 15, 16] (by kernel_rfl) my1 (Nat.lt_succ_self _) ⟨i1 + 1, l2, by omega, gx1, rfl, H7⟩
    · have gx1 := M.for_end gx1 hb1
      subst gx1
      refine Run_exit (k' := _) rfl ?_
      exact Run_fall [1, 2, 5] (by kernel_rfl) ⟨rfl, H3⟩

set_option maxRecDepth 100000 in
set_option maxHeartbeats 4000000 in
theorem w_impl_TokenDistance (h : Heap) (g : TGraph) (agPlaces : Option Addr) (cgPlaces : Nat) (rgPlaces : Rd cd58 h (Lt h) agPlaces cgPlaces g.Places) (from_ : Int) (to : Int) (n : Nat) (r : Int × Int) (hF : impl_TokenDistance g from_ to n = some r) :
    Fn Try.prog 17 #[.agg #[.int .i64 g.Events, .slice agPlaces g.Places.length cgPlaces], .int .i64 from_, .int .i64 to] h fun v h' => v = .tuple #[.int .i64 r.1, .int .i64 r.2] ∧ Hold h h' [] := by
  unfold impl_TokenDistance at hF
  refine Fn_enter (args := [.agg #[.int .i64 g.Events, .slice agPlaces g.Places.length cgPlaces], .int .i64 from_, .int .i64 to]) Try.func17 rfl (by kernel_rfl) (by kernel_rfl) (fun w0 _ => ?_)
  have H0 := Hold.init h
  refine Run_seq ?_
  refine Run_ops ?_
  refine Run_E (by kernel_rfl) ?_
  refine E_box (ty := 30) (cs := [.int .i64 g.Events, .slice agPlaces g.Places.length cgPlaces]) H0 (fun w => by kernel_rfl) (fun b1 h1 H1 => ?_)
  refine Run_b [.int .i64 0, .int .i64 0] 1 _ (by kernel_rfl) (fun w => by kernel_rfl) ?_
  refine Run_nil (by kernel_rfl) ?_
  refine Run_keep [1, 2, 3] (L' := [(1, .int .i64 from_), (2, .int .i64 to), (3, .pointer (some ⟨b1, 0, none⟩))]) (by kernel_rfl) ?_
  refine Run_seq ?_
  refine Run_seq ?_
  obtain ⟨x1, hx1, hF⟩ := M.bind_some hF
  refine Run_regC (j := 3) (C := fun x => Hold h x [box b1 30 [.int .i64 g.Events, .slice agPlaces g.Places.length cgPlaces]]) (by kernel_rfl) H1 (L' := [(1, .int .i64 from_), (2, .int .i64 to), (3, .pointer (some ⟨b1, 0, none⟩)), (11, .bool (!x1))]) ?_ (fun h2 H2 => ?_)
  · refine QRun_y (.agg #[.int .i64 g.Events, .slice agPlaces g.Places.length cgPlaces]) (by kernel_rfl) (Y_cls fun hx Hx => (Y_loadA (t := 30) (n := 2) (p := ⟨b1, 0, none⟩) (cs := [.int .i64 g.Events, .slice agPlaces g.Places.length cgPlaces]) (by kernel_rfl) (fun w => by kernel_rfl) (by kernel_rfl) rfl (Hx.cells (n := 2) (off := 0) 0 rfl rfl))) ?_
    refine QRun_y (.bool x1) (by kernel_rfl) (Y_call (f := 74) (args := #[.agg #[.int .i64 g.Events, .slice agPlaces g.Places.length cgPlaces]]) (v := .bool x1) (by kernel_rfl) fun hx Hx => (w_impl_IsEventGraph hx g agPlaces cgPlaces (rgPlaces.at Hx.ext) _ _ hx1).mono fun _ _ ⟨e, H'⟩ => ⟨e, Hx.call H' rfl⟩) ?_
    refine QRun_b [.bool (!x1)] 2 _ (by kernel_rfl) (fun w => by kernel_rfl) ?_
    exact QRun_done [1, 2, 3, 11] (by kernel_rfl) (by kernel_rfl)
  have H3 : Hold h h2 [box b1 30 [.int .i64 g.Events, .slice agPlaces g.Places.length cgPlaces]] := H2
  refine Run_cond (b := !x1) (by kernel_rfl) (fun hb1 => ?_) (fun hb1 => ?_)
  · have hF := (M.ite_some hF).1 hb1
    refine Run_seq ?_
    refine Run_reg 2 (by kernel_rfl) (L' := [(6, .int .i64 0), (7, .int .i64 1)]) ?_ ?_
    · refine QRun_b [.int .i64 0, .int .i64 1] 0 _ (by kernel_rfl) (fun w => by kernel_rfl) ?_
      exact QRun_done [6, 7] (by kernel_rfl) (by kernel_rfl)
    have hF := M.ret_some hF
    subst hF
    have H4 : Hold h h2 [] := H3.pick [] (by kernel_rfl)
    exact Run_ret2 rfl (ResV_tmp (v := .int .i64 0) (by kernel_rfl)) (ResV_tmp (v := .int .i64 1) (by kernel_rfl)) ⟨rfl, H4⟩
  · have hF := (M.ite_some hF).2 hb1
    refine Run_skip ?_
    refine Run_seq ?_
    refine Run_seq ?_
    obtain ⟨x2, hx2, hF⟩ := M.bind_some hF
    obtain ⟨x3, gx3, hF⟩ := M.bind_some hF
    refine Run_regC (j := 10) (C := fun x => Hold h x [box b1 30 [.int .i64 g.Events, .slice agPlaces g.Places.length cgPlaces]]) (by kernel_rfl) H3 (L' := [(1, .int .i64 from_), (2, .int .i64 to), (3, .pointer (some ⟨b1, 0, none⟩)), (21, .bool x3)]) ?_ (fun h3 H5 => ?_)
    · refine QRun_y (.agg #[.int .i64 g.Events, .slice agPlaces g.Places.length cgPlaces]) (by kernel_rfl) (Y_cls fun hx Hx => (Y_loadA (t := 30) (n := 2) (p := ⟨b1, 0, none⟩) (cs := [.int .i64 g.Events, .slice agPlaces g.Places.length cgPlaces]) (by kernel_rfl) (fun w => by kernel_rfl) (by kernel_rfl) rfl (Hx.cells (n := 2) (off := 0) 0 rfl rfl))) ?_
      refine QRun_b [.int .i64 from_] 1 _ (by kernel_rfl) (fun w => by kernel_rfl) ?_
      refine QRun_y (.bool x2) (by kernel_rfl) (Y_call (f := 80) (args := #[.agg #[.int .i64 g.Events, .slice agPlaces g.Places.length cgPlaces], .int .i64 from_]) (v := .bool x2) (by kernel_rfl) fun hx Hx => (w_impl_isEvent hx g agPlaces cgPlaces (rgPlaces.at Hx.ext) from_ _ _ hx2).mono fun _ _ ⟨e, H'⟩ => ⟨e, Hx.call H' rfl⟩) ?_
      refine QRun_b [.bool (!x2)] 3 _ (by kernel_rfl) (fun w => by kernel_rfl) ?_
      refine QRun_seq 10 [(1, .int .i64 from_), (2, .int .i64 to), (3, .pointer (some ⟨b1, 0, none⟩)), (21, .bool x3)] ?_ ?_
      · rcases Bool.eq_false_or_eq_true (!x2) with hb2 | hb2
        · refine QRun_bool (!x2) true (by kernel_rfl) (fun w => by kernel_rfl) hb2 ?_
          have gx3 := M.ret_some ((M.ite_some gx3).1 hb2)
          refine QRun_n (by kernel_rfl) ?_
          refine QRun_n (by kernel_rfl) ?_
          refine QRun_n (by kernel_rfl) ?_
          refine QRun_n (by kernel_rfl) ?_
          refine QRun_bool true x3 (by kernel_rfl) (fun w => by kernel_rfl) gx3 ?_
          exact QRun_done [1, 2, 3, 21] (by kernel_rfl) (by kernel_rfl)
        · refine QRun_bool (!x2) false (by kernel_rfl) (fun w => by kernel_rfl) hb2 ?_
          have gx3 := (M.ite_some gx3).2 hb2
          obtain ⟨x4, hx3, gx3⟩ := M.bind_some gx3
          have gx3 := M.ret_some gx3
          refine QRun_y (.agg #[.int .i64 g.Events, .slice agPlaces g.Places.length cgPlaces]) (by kernel_rfl) (Y_cls fun hx Hx => (Y_loadA (t := 30) (n := 2) (p := ⟨b1, 0, none⟩) (cs := [.int .i64 g.Events, .slice agPlaces g.Places.length cgPlaces]) (by kernel_rfl) (fun w => by kernel_rfl) (by kernel_rfl) rfl (Hx.cells (n := 2) (off := 0) 0 rfl rfl))) ?_
          refine QRun_b [.int .i64 to] 6 _ (by kernel_rfl) (fun w => by kernel_rfl) ?_
          refine QRun_y (.bool x4) (by kernel_rfl) (Y_call (f := 80) (args := #[.agg #[.int .i64 g.Events, .slice agPlaces g.Places.length cgPlaces], .int .i64 to]) (v := .bool x4) (by kernel_rfl) fun hx Hx => (w_impl_isEvent hx g agPlaces cgPlaces (rgPlaces.at Hx.ext) to _ _ hx3).mono fun _ _ ⟨e, H'⟩ => ⟨e, Hx.call H' rfl⟩) ?_
          refine QRun_b [.bool (!x4)] 8 _ (by kernel_rfl) (fun w => by kernel_rfl) ?_
          refine QRun_bool (!x4) x3 (by kernel_rfl) (fun w => by kernel_rfl) gx3 ?_
          exact QRun_done [1, 2, 3, 21] (by kernel_rfl) (by kernel_rfl)
      exact QRun_done [1, 2, 3, 21] (by kernel_rfl) (by kernel_rfl)
    have H6 : Hold h h3 [box b1 30 [.int .i64 g.Events, .slice agPlaces g.Places.length cgPlaces]] := H5
    refine Run_cond (b := x3) (by kernel_rfl) (fun hb3 => ?_) (fun hb3 => ?_)
    · have hF := (M.ite_some hF).1 hb3
      refine Run_seq ?_
      refine Run_reg 2 (by kernel_rfl) (L' := [(6, .int .i64 0), (7, .int .i64 2)]) ?_ ?_
      · refine QRun_b [.int .i64 0, .int .i64 2] 0 _ (by kernel_rfl) (fun w => by kernel_rfl) ?_
        exact QRun_done [6, 7] (by kernel_rfl) (by kernel_rfl)
      have hF := M.ret_some hF
      subst hF
      have H7 : Hold h h3 [] := H6.pick [] (by kernel_rfl)
      exact Run_ret2 rfl (ResV_tmp (v := .int .i64 0) (by kernel_rfl)) (ResV_tmp (v := .int .i64 2) (by kernel_rfl)) ⟨rfl, H7⟩
    · have hF := (M.ite_some hF).2 hb3
      refine Run_skip ?_
      refine Run_seq ?_
      refine Run_ops ?_
      refine Run_y (.agg #[.int .i64 g.Events, .slice agPlaces g.Places.length cgPlaces]) (by kernel_rfl) (Y_loadA (t := 30) (n := 2) (p := ⟨b1, 0, none⟩) (cs := [.int .i64 g.Events, .slice agPlaces g.Places.length cgPlaces]) (by kernel_rfl) (fun w => by kernel_rfl) (by kernel_rfl) rfl (H6.cells (n := 2) (off := 0) 0 rfl rfl)) ?_
      refine Run_b [.int .i64 from_] 1 _ (by kernel_rfl) (fun w => by kernel_rfl) ?_
      obtain ⟨x5, hx4, hF⟩ := M.bind_some hF
      refine Run_E (by kernel_rfl) ?_
      refine E_call (f := 76) (args := #[.agg #[.int .i64 g.Events, .slice agPlaces g.Places.length cgPlaces], .int .i64 from_]) (w_impl_tokenDistances h3 g agPlaces cgPlaces (rgPlaces.at H6.ext) from_ _ _ hx4) (by kernel_rfl) (fun v1 h4 hp1 => ?_)
      obtain ⟨a1, c1, rfl, H8⟩ := hp1
      have H9 : Hold h h4 [own cd2 a1 x5.length c1 x5, box b1 30 [.int .i64 g.Events, .slice agPlaces g.Places.length cgPlaces]] := H6.call H8 rfl
      obtain ⟨x6, hx5, hF⟩ := M.bind_some hF
      obtain ⟨hx5l, hx5u, hx5⟩ := M.idx_some hx5
      refine Run_b [.int .i64 to] 3 _ (by kernel_rfl) (fun w => by kernel_rfl) ?_
      refine Run_y (.pointer (some (adr a1 (to.toNat * 1)))) (by kernel_rfl) (Y_idx (t := 39) (e := 2) (sz := 1) (a := a1) (n := x5.length) (cap := c1) (kk := .i64) (i := to) (by kernel_rfl) Try.underlying39 (by kernel_rfl) ((H9.rd 0 rfl).cell hx5).1 hx5l hx5u) ?_
      refine Run_y (.int .i64 x6) (by kernel_rfl) (Y_load1 (t := 2) (p := adr a1 (to.toNat * 1)) (v := .int .i64 x6) (by kernel_rfl) (fun w => by kernel_rfl) (cd2_cell (H9.rd 0 rfl) hx5)) ?_
      refine Run_b [.int .i64 x6] 6 _ (by kernel_rfl) (fun w => by kernel_rfl) ?_
      refine Run_nil (by kernel_rfl) ?_
      refine Run_keep [8] (L' := [(8, .int .i64 x6)]) (by kernel_rfl) ?_
      refine Run_seq ?_
      refine Run_seq ?_
      refine Run_reg 2 (by kernel_rfl) (L' := [(8, .int .i64 x6), (29, .bool (decide (x6 < 0)))]) ?_ ?_
      · refine QRun_b [.int .i64 x6, .bool (decide (x6 < 0))] 0 _ (by kernel_rfl) (fun w => by kernel_rfl) ?_
        exact QRun_done [8, 29] (by kernel_rfl) (by kernel_rfl)
      refine Run_cond (b := decide (x6 < 0)) (by kernel_rfl) (fun hb4 => ?_) (fun hb4 => ?_)
      · have hF := (M.ite_some hF).1 hb4
        refine Run_seq ?_
        refine Run_reg 2 (by kernel_rfl) (L' := [(6, .int .i64 0), (7, .int .i64 4)]) ?_ ?_
        · refine QRun_b [.int .i64 0, .int .i64 4] 0 _ (by kernel_rfl) (fun w => by kernel_rfl) ?_
          exact QRun_done [6, 7] (by kernel_rfl) (by kernel_rfl)
        have hF := M.ret_some hF
        subst hF
        have H10 : Hold h h4 [] := H9.pick [] (by kernel_rfl)
        exact Run_ret2 rfl (ResV_tmp (v := .int .i64 0) (by kernel_rfl)) (ResV_tmp (v := .int .i64 4) (by kernel_rfl)) ⟨rfl, H10⟩
      · have hF := (M.ite_some hF).2 hb4
        refine Run_skip ?_
        refine Run_seq ?_
        refine Run_reg 3 (by kernel_rfl) (L' := [(6, .int .i64 x6), (7, .int .i64 0)]) ?_ ?_
        · refine QRun_b [.int .i64 x6, .int .i64 x6, .int .i64 0] 0 _ (by kernel_rfl) (fun w => by kernel_rfl) ?_
          exact QRun_done [6, 7] (by kernel_rfl) (by kernel_rfl)
        have hF := M.ret_some hF
        subst hF
        have H11 : Hold h h4 [] := H9.pick [] (by kernel_rfl)
        exact Run_ret2 rfl (ResV_tmp (v := .int .i64 x6) (by kernel_rfl)) (ResV_tmp (v := .int .i64 0) (by kernel_rfl)) ⟨rfl, H11⟩

set_option maxRecDepth 100000 in
set_option maxHeartbeats 4000000 in
theorem w_laws_eqPlace (h : Heap) (a_ : TPlace) (b : TPlace) (n : Nat) (r : Bool) (hF : laws_eqPlace a_ b n = some r) :
    Fn Try.prog 147 #[.agg #[.int .i64 a_.From, .int .i64 a_.To, .int .i64 a_.Delay, .int .i64 a_.Tokens], .agg #[.int .i64 b.From, .int .i64 b.To, .int .i64 b.Delay, .int .i64 b.Tokens]] h fun v h' => v = .bool r ∧ Hold h h' [] := by
  unfold laws_eqPlace at hF
  refine Fn_enter (args := [.agg #[.int .i64 a_.From, .int .i64 a_.To, .int .i64 a_.Delay, .int .i64 a_.Tokens], .agg #[.int .i64 b.From, .int .i64 b.To, .int .i64 b.Delay, .int .i64 b.Tokens]]) Try.func147 rfl (by kernel_rfl) (by kernel_rfl) (fun w0 _ => ?_)
  have H0 := Hold.init h
  refine Run_seq ?_
  refine Run_ops ?_
  refine Run_E (by kernel_rfl) ?_
  refine E_box (ty := 58) (cs := [.int .i64 a_.From, .int .i64 a_.To, .int .i64 a_.Delay, .int .i64 a_.Tokens]) H0 (fun w => by kernel_rfl) (fun b1 h1 H1 => ?_)
  refine Run_E (by kernel_rfl) ?_
  refine E_box (ty := 58) (cs := [.int .i64 b.From, .int .i64 b.To, .int .i64 b.Delay, .int .i64 b.Tokens]) H1 (fun w => by kernel_rfl) (fun b2 h2 H2 => ?_)
  refine Run_b [.bool false] 2 _ (by kernel_rfl) (fun w => by kernel_rfl) ?_
  refine Run_nil (by kernel_rfl) ?_
  refine Run_keep [2, 3] (L' := [(2, .pointer (some ⟨b1, 0, none⟩)), (3, .pointer (some ⟨b2, 0, none⟩))]) (by kernel_rfl) ?_
  refine Run_seq ?_
  refine Run_seq ?_
  refine Run_reg 5 (by kernel_rfl) (L' := [(2, .pointer (some ⟨b1, 0, none⟩)), (3, .pointer (some ⟨b2, 0, none⟩)), (9, .bool (a_.From != b.From))]) ?_ ?_
  · refine QRun_b [.pointer (some ⟨b1, 0, none⟩)] 0 _ (by kernel_rfl) (fun w => by kernel_rfl) ?_
    refine QRun_y (.int .i64 a_.From) (by kernel_rfl) (Y_load1 (t := 2) (p := ⟨b1, 0, none⟩) (v := .int .i64 a_.From) (by kernel_rfl) (fun w => by kernel_rfl) (H2.cell 1 rfl rfl)) ?_
    refine QRun_b [.pointer (some ⟨b2, 0, none⟩)] 2 _ (by kernel_rfl) (fun w => by kernel_rfl) ?_
    refine QRun_y (.int .i64 b.From) (by kernel_rfl) (Y_load1 (t := 2) (p := ⟨b2, 0, none⟩) (v := .int .i64 b.From) (by kernel_rfl) (fun w => by kernel_rfl) (H2.cell 0 rfl rfl)) ?_
    refine QRun_b [.bool (a_.From != b.From)] 4 _ (by kernel_rfl) (fun w => by kernel_rfl) ?_
    exact QRun_done [2, 3, 9] (by kernel_rfl) (by kernel_rfl)
  refine Run_cond (b := a_.From != b.From) (by kernel_rfl) (fun hb1 => ?_) (fun hb1 => ?_)
  · have hF := (M.ite_some hF).1 hb1
    refine Run_seq ?_
    refine Run_reg 1 (by kernel_rfl) (L' := [(4, .bool false)]) ?_ ?_
    · refine QRun_b [.bool false] 0 _ (by kernel_rfl) (fun w => by kernel_rfl) ?_
      exact QRun_done [4] (by kernel_rfl) (by kernel_rfl)
    have hF := M.ret_some hF
    subst hF
    have H3 : Hold h h2 [] := H2.pick [] (by kernel_rfl)
    exact Run_ret1 rfl (ResV_tmp (v := .bool false) (by kernel_rfl)) ⟨rfl, H3⟩
  · have hF := (M.ite_some hF).2 hb1
    refine Run_skip ?_
    refine Run_seq ?_
    refine Run_seq ?_
    refine Run_reg 5 (by kernel_rfl) (L' := [(2, .pointer (some ⟨b1, 0, none⟩)), (3, .pointer (some ⟨b2, 0, none⟩)), (14, .bool (a_.To != b.To))]) ?_ ?_
    · refine QRun_b [.pointer (some ⟨b1, 1, none⟩)] 0 _ (by kernel_rfl) (fun w => by kernel_rfl) ?_
      refine QRun_y (.int .i64 a_.To) (by kernel_rfl) (Y_load1 (t := 2) (p := ⟨b1, 1, none⟩) (v := .int .i64 a_.To) (by kernel_rfl) (fun w => by kernel_rfl) (H2.cell 1 rfl rfl)) ?_
      refine QRun_b [.pointer (some ⟨b2, 1, none⟩)] 2 _ (by kernel_rfl) (fun w => by kernel_rfl) ?_
      refine QRun_y (.int .i64 b.To) (by kernel_rfl) (Y_load1 (t := 2) (p := ⟨b2, 1, none⟩) (v := .int .i64 b.To) (by kernel_rfl) (fun w => by kernel_rfl) (H2.cell 0 rfl rfl)) ?_
      refine QRun_b [.bool (a_.To != b.To)] 4 _ (by kernel_rfl) (fun w => by kernel_rfl) ?_
      exact QRun_done [2, 3, 14] (by kernel_rfl) (by kernel_rfl)
    refine Run_cond (b := a_.To != b.To) (by kernel_rfl) (fun hb2 => ?_) (fun hb2 => ?_)
    · have hF := (M.ite_some hF).1 hb2
      refine Run_seq ?_
      refine Run_reg 1 (by kernel_rfl) (L' := [(4, .bool false)]) ?_ ?_
      · refine QRun_b [.bool false] 0 _ (by kernel_rfl) (fun w => by kernel_rfl) ?_
        exact QRun_done [4] (by kernel_rfl) (by kernel_rfl)
      have hF := M.ret_some hF
      subst hF
      have H4 : Hold h h2 [] := H2.pick [] (by kernel_rfl)
      exact Run_ret1 rfl (ResV_tmp (v := .bool false) (by kernel_rfl)) ⟨rfl, H4⟩
    · have hF := (M.ite_some hF).2 hb2
      refine Run_skip ?_
      refine Run_seq ?_
      refine Run_seq ?_
      refine Run_reg 5 (by kernel_rfl) (L' := [(2, .pointer (some ⟨b1, 0, none⟩)), (3, .pointer (some ⟨b2, 0, none⟩)), (19, .bool (a_.Delay != b.Delay))]) ?_ ?_
      · refine QRun_b [.pointer (some ⟨b1, 2, none⟩)] 0 _ (by kernel_rfl) (fun w => by kernel_rfl) ?_
        refine QRun_y (.int .i64 a_.Delay) (by kernel_rfl) (Y_load1 (t := 2) (p := ⟨b1, 2, none⟩) (v := .int .i64 a_.Delay) (by kernel_rfl) (fun w => by kernel_rfl) (H2.cell 1 rfl rfl)) ?_
        refine QRun_b [.pointer (some ⟨b2, 2, none⟩)] 2 _ (by kernel_rfl) (fun w => by kernel_rfl) ?_
        refine QRun_y (.int .i64 b.Delay) (by kernel_rfl) (Y_load1 (t := 2) (p := ⟨b2, 2, none⟩) (v := .int .i64 b.Delay) (by kernel_rfl) (fun w => by kernel_rfl) (H2.cell 0 rfl rfl)) ?_
        refine QRun_b [.bool (a_.Delay != b.Delay)] 4 _ (by kernel_rfl) (fun w => by kernel_rfl) ?_
        exact QRun_done [2, 3, 19] (by kernel_rfl) (by kernel_rfl)
      refine Run_cond (b := a_.Delay != b.Delay) (by kernel_rfl) (fun hb3 => ?_) (fun hb3 => ?_)
      · have hF := (M.ite_some hF).1 hb3
        refine Run_seq ?_
        refine Run_reg 1 (by kernel_rfl) (L' := [(4, .bool false)]) ?_ ?_
        · refine QRun_b [.bool false] 0 _ (by kernel_rfl) (fun w => by kernel_rfl) ?_
          exact QRun_done [4] (by kernel_rfl) (by kernel_rfl)
        have hF := M.ret_some hF
        subst hF
        have H5 : Hold h h2 [] := H2.pick [] (by kernel_rfl)
        exact Run_ret1 rfl (ResV_tmp (v := .bool false) (by kernel_rfl)) ⟨rfl, H5⟩
      · have hF := (M.ite_some hF).2 hb3
        refine Run_skip ?_
        refine Run_seq ?_
        refine Run_seq ?_
        refine Run_reg 5 (by kernel_rfl) (L' := [(24, .bool (a_.Tokens != b.Tokens))]) ?_ ?_
        · refine QRun_b [.pointer (some ⟨b1, 3, none⟩)] 0 _ (by kernel_rfl) (fun w => by kernel_rfl) ?_
          refine QRun_y (.int .i64 a_.Tokens) (by kernel_rfl) (Y_load1 (t := 2) (p := ⟨b1, 3, none⟩) (v := .int .i64 a_.Tokens) (by kernel_rfl) (fun w => by kernel_rfl) (H2.cell 1 rfl rfl)) ?_
          refine QRun_b [.pointer (some ⟨b2, 3, none⟩)] 2 _ (by kernel_rfl) (fun w => by kernel_rfl) ?_
          refine QRun_y (.int .i64 b.Tokens) (by kernel_rfl) (Y_load1 (t := 2) (p := ⟨b2, 3, none⟩) (v := .int .i64 b.Tokens) (by kernel_rfl) (fun w => by kernel_rfl) (H2.cell 0 rfl rfl)) ?_
          refine QRun_b [.bool (a_.Tokens != b.Tokens)] 4 _ (by kernel_rfl) (fun w => by kernel_rfl) ?_
          exact QRun_done [24] (by kernel_rfl) (by kernel_rfl)
        refine Run_cond (b := a_.Tokens != b.Tokens) (by kernel_rfl) (fun hb4 => ?_) (fun hb4 => ?_)
        · have hF := (M.ite_some hF).1 hb4
          refine Run_seq ?_
          refine Run_reg 1 (by kernel_rfl) (L' := [(4, .bool false)]) ?_ ?_
          · refine QRun_b [.bool false] 0 _ (by kernel_rfl) (fun w => by kernel_rfl) ?_
            exact QRun_done [4] (by kernel_rfl) (by kernel_rfl)
          have hF := M.ret_some hF
          subst hF
          have H6 : Hold h h2 [] := H2.pick [] (by kernel_rfl)
          exact Run_ret1 rfl (ResV_tmp (v := .bool false) (by kernel_rfl)) ⟨rfl, H6⟩
        · have hF := (M.ite_some hF).2 hb4
          refine Run_skip ?_
          refine Run_seq ?_
          refine Run_reg 1 (by kernel_rfl) (L' := [(4, .bool true)]) ?_ ?_
          · refine QRun_b [.bool true] 0 _ (by kernel_rfl) (fun w => by kernel_rfl) ?_
            exact QRun_done [4] (by kernel_rfl) (by kernel_rfl)
          have hF := M.ret_some hF
          subst hF
          have H7 : Hold h h2 [] := H2.pick [] (by kernel_rfl)
          exact Run_ret1 rfl (ResV_tmp (v := .bool true) (by kernel_rfl)) ⟨rfl, H7⟩

set_option maxRecDepth 100000 in
set_option maxHeartbeats 4000000 in
theorem w_laws_eqPlaceS (h : Heap) (a_ : List TPlace) (aa_ : Option Addr) (ca_ : Nat) (ra_ : Rd cd58 h (Lt h) aa_ ca_ a_) (b : List TPlace) (ab : Option Addr) (cb : Nat) (rb : Rd cd58 h (Lt h) ab cb b) (n : Nat) (r : Bool) (hF : laws_eqPlaceS a_ b n = some r) :
    Fn Try.prog 77 #[.slice aa_ a_.length ca_, .slice ab b.length cb] h fun v h' => v = .bool r ∧ Hold h h' [] := by
  unfold laws_eqPlaceS at hF
  refine Fn_enter (args := [.slice aa_ a_.length ca_, .slice ab b.length cb]) Try.func77 rfl (by kernel_rfl) (by kernel_rfl) (fun w0 _ => ?_)
  have H0 := Hold.init h
  refine Run_seq ?_
  refine Run_reg 1 (by kernel_rfl) (L' := [(0, .slice aa_ a_.length ca_), (1, .slice ab b.length cb)]) ?_ ?_
  · refine QRun_b [.bool false] 0 _ (by kernel_rfl) (fun w => by kernel_rfl) ?_
    exact QRun_done [0, 1] (by kernel_rfl) (by kernel_rfl)
  refine Run_seq ?_
  refine Run_seq ?_
  refine Run_reg 5 (by kernel_rfl) (L' := [(0, .slice aa_ a_.length ca_), (1, .slice ab b.length cb), (10, .bool ((a_.length : Int) != (b.length : Int)))]) ?_ ?_
  · refine QRun_b [.slice aa_ a_.length ca_, .int .i64 (a_.length : Int), .slice ab b.length cb, .int .i64 (b.length : Int), .bool ((a_.length : Int) != (b.length : Int))] 0 _ (by kernel_rfl) (fun w => by kernel_rfl) ?_
    exact QRun_done [0, 1, 10] (by kernel_rfl) (by kernel_rfl)
  refine Run_cond (b := (a_.length : Int) != (b.length : Int)) (by kernel_rfl) (fun hb1 => ?_) (fun hb1 => ?_)
  · have hF := (M.ite_some hF).1 hb1
    refine Run_seq ?_
    refine Run_reg 1 (by kernel_rfl) (L' := [(4, .bool false)]) ?_ ?_
    · refine QRun_b [.bool false] 0 _ (by kernel_rfl) (fun w => by kernel_rfl) ?_
      exact QRun_done [4] (by kernel_rfl) (by kernel_rfl)
    have hF := M.ret_some hF
    subst hF
    exact Run_ret1 rfl (ResV_tmp (v := .bool false) (by kernel_rfl)) ⟨rfl, H0⟩
  · have hF := (M.ite_some hF).2 hb1
    refine Run_skip ?_
    refine Run_seq ?_
    refine Run_seq ?_
    refine Run_reg 1 (by kernel_rfl) (L' := [(0, .slice aa_ a_.length ca_), (1, .slice ab b.length cb), (5, .int .i64 0)]) ?_ ?_
    · refine QRun_b [.int .i64 0] 0 _ (by kernel_rfl) (fun w => by kernel_rfl) ?_
      exact QRun_done [0, 1, 5] (by kernel_rfl) (by kernel_rfl)
    obtain ⟨x1, gx1, hF⟩ := M.bind_some hF
    obtain ⟨hloy1, hhiy1, gx1⟩ := M.for_start gx1
    refine Run_join (fun L' h' => ∃ (s2 : Unit), x1 = .inl s2 ∧ L' = [] ∧ Hold h h' []) ?_ ?_
    · rintro _ h2 ⟨s2, es2, rfl, H2⟩
      have hF := M.cont_inl' hF es2
      refine Run_seq ?_
      refine Run_reg 1 (by kernel_rfl) (L' := [(4, .bool true)]) ?_ ?_
      · refine QRun_b [.bool true] 0 _ (by kernel_rfl) (fun w => by kernel_rfl) ?_
        exact QRun_done [4] (by kernel_rfl) (by kernel_rfl)
      have hF := M.ret_some hF
      subst hF
      exact Run_ret1 rfl (ResV_tmp (v := .bool true) (by kernel_rfl)) ⟨rfl, H2⟩
    · refine Run_block ?_
      refine Run_keep [0, 1, 5] (L' := [(0, .slice aa_ a_.length ca_), (1, .slice ab b.length cb), (5, .int .i64 0)]) (by kernel_rfl) ?_
      refine Run_loop (fun m L' h' => ∃ (i1 : Int) (s1 : Unit), 0 ≤ i1 ∧ M.forN (a_.length : Int) _ _ n m i1 s1 = some x1 ∧ L' = [(0, .slice aa_ a_.length ca_), (1, .slice ab b.length cb), (5, .int .i64 i1)] ∧ Hold h h' []) ((a_.length : Int) - 0 : Int).toNat ⟨0, (), Int.le_refl _, gx1, rfl, H0⟩ ?_
      rintro my1 _ h1 ⟨i1, s1, hloy1', gx1, rfl, H1⟩
      refine Run_seq ?_
      refine Run_seq ?_
      refine Run_reg 4 (by kernel_rfl) (L' := [(0, .slice aa_ a_.length ca_), (1, .slice ab b.length cb), (5, .int .i64 i1), (14, .bool (decide (i1 < (a_.length : Int))))]) ?_ ?_
      · refine QRun_b [.int .i64 i1, .slice aa_ a_.length ca_, .int .i64 (a_.length : Int), .bool (decide (i1 < (a_.length : Int)))] 0 _ (by kernel_rfl) (fun w => by kernel_rfl) ?_
        exact QRun_done [0, 1, 5, 14] (by kernel_rfl) (by kernel_rfl)
      refine Run_cond (b := decide (i1 < (a_.length : Int))) (by kernel_rfl) (fun hb2 => ?_) (fun hb2 => ?_)
      · obtain ⟨my1, y1, rfl, hB1, hgoy1, houty1⟩ := M.for_go gx1 hb2
        have hlty1 := of_decide_eq_true hb2
        refine Run_skip ?_
        refine Run_seq ?_
        refine Run_block ?_
        refine Run_seq ?_
        obtain ⟨x2, hx1, hB1⟩ := M.bind_some hB1
        obtain ⟨hx1l, hx1u, hx1⟩ := M.idx_some hx1
        obtain ⟨x3, hx2, hB1⟩ := M.bind_some hB1
        obtain ⟨hx2l, hx2u, hx2⟩ := M.idx_some hx2
        obtain ⟨x4, hx3, hB1⟩ := M.bind_some hB1
        refine Run_drawC (j := 10) (C := fun x => Hold h x []) mixed (by kernel_rfl) (by kernel_rfl) H1 (L' := [(0, .slice aa_ a_.length ca_), (1, .slice ab b.length cb), (5, .int .i64 i1), (26, .bool (!x4))]) ?_ (fun h3 H3 => ?_)
        · refine QRun_b [.slice aa_ a_.length ca_, .int .i64 i1] 0 _ (by kernel_rfl) (fun w => by kernel_rfl) ?_
          refine QRun_y (.pointer (some (adr aa_ (i1.toNat * 4)))) (by kernel_rfl) (Y_cls fun hx Hx => (Y_idx (t := 28) (e := 58) (sz := 4) (a := aa_) (n := a_.length) (cap := ca_) (kk := .i64) (i := i1) (by kernel_rfl) Try.underlying28 (by kernel_rfl) ((ra_.at H1.ext).cell hx1).1 hx1l hx1u)) ?_
          refine QRun_y (.agg #[.int .i64 x2.From, .int .i64 x2.To, .int .i64 x2.Delay, .int .i64 x2.Tokens]) (by kernel_rfl) (Y_cls fun hx Hx => (Y_loadA (t := 58) (n := 4) (p := adr aa_ (i1.toNat * 4)) (cs := [.int .i64 x2.From, .int .i64 x2.To, .int .i64 x2.Delay, .int .i64 x2.Tokens]) (by kernel_rfl) (fun w => by kernel_rfl) (by kernel_rfl) rfl (cd58_elem (ra_.at Hx.ext) hx1))) ?_
          refine QRun_b [.slice ab b.length cb, .int .i64 i1] 4 _ (by kernel_rfl) (fun w => by kernel_rfl) ?_
          refine QRun_y (.pointer (some (adr ab (i1.toNat * 4)))) (by kernel_rfl) (Y_cls fun hx Hx => (Y_idx (t := 28) (e := 58) (sz := 4) (a := ab) (n := b.length) (cap := cb) (kk := .i64) (i := i1) (by kernel_rfl) Try.underlying28 (by kernel_rfl) ((rb.at H1.ext).cell hx2).1 hx2l hx2u)) ?_
          refine QRun_y (.agg #[.int .i64 x3.From, .int .i64 x3.To, .int .i64 x3.Delay, .int .i64 x3.Tokens]) (by kernel_rfl) (Y_cls fun hx Hx => (Y_loadA (t := 58) (n := 4) (p := adr ab (i1.toNat * 4)) (cs := [.int .i64 x3.From, .int .i64 x3.To, .int .i64 x3.Delay, .int .i64 x3.Tokens]) (by kernel_rfl) (fun w => by kernel_rfl) (by kernel_rfl) rfl (cd58_elem (rb.at Hx.ext) hx2))) ?_
          refine QRun_y (.bool x4) (by kernel_rfl) (Y_call (f := 147) (args := #[.agg #[.int .i64 x2.From, .int .i64 x2.To, .int .i64 x2.Delay, .int .i64 x2.Tokens], .agg #[.int .i64 x3.From, .int .i64 x3.To, .int .i64 x3.Delay, .int .i64 x3.Tokens]]) (v := .bool x4) (by kernel_rfl) fun hx Hx => (w_laws_eqPlace hx x2 x3 _ _ hx3).mono fun _ _ ⟨e, H'⟩ => ⟨e, Hx.call H' rfl⟩) ?_
          refine QRun_b [.bool (!x4)] 9 _ (by kernel_rfl) (fun w => by kernel_rfl) ?_
          exact QRun_done [0, 1, 5, 26] (by kernel_rfl) (by kernel_rfl)
        have H4 : Hold h h3 [] := H3
        refine Run_cond (b := !x4) (by kernel_rfl) (fun hb3 => ?_) (fun hb3 => ?_)
        · have hB1 := (M.ite_some hB1).1 hb3
          refine Run_seq ?_
          refine Run_reg 1 (by kernel_rfl) (L' := [(4, .bool false)]) ?_ ?_
          · refine QRun_b [.bool false] 0 _ (by kernel_rfl) (fun w => by kernel_rfl) ?_
            exact QRun_done [4] (by kernel_rfl) (by kernel_rfl)
          have hB1 := M.ret_some hB1
          have gx1 := houty1 _ hB1.symm
          have hF := M.cont_inr' hF gx1
          have hF := M.ret_some hF
          subst hF
          exact Run_ret1 rfl (ResV_tmp (v := .bool false) (by kernel_rfl)) ⟨rfl, H4⟩
        · have hB1 := (M.ite_some hB1).2 hb3
          refine Run_skip ?_
          refine Run_blk ?_
          refine Run_reg 3 (by kernel_rfl) (L' := [(0, .slice aa_ a_.length ca_), (1, .slice ab b.length cb), (5, .int .i64 (i1 + 1))]) ?_ ?_
          · refine QRun_b [.int .i64 i1] 0 _ (by kernel_rfl) (fun w => by kernel_rfl) ?_
            refine QRun_y (.int .i64 (i1 + 1)) (by kernel_rfl) (Y_eq (v := .int .i64 (w64 (i1 + 1))) (Y_pure (fun w => by kernel_rfl)) (by rw [w64_eq _ (by omega)])) ?_
            refine QRun_b [.int .i64 (i1 + 1)] 2 _ (by kernel_rfl) (fun w => by kernel_rfl) ?_
            exact QRun_done [0, 1, 5] (by kernel_rfl) (by kernel_rfl)
          have hB1 := M.ret_some hB1
          have gx1 := hgoy1 _ hB1.symm
          exact Run_again [0, 1, 5] (by kernel_rfl) my1 (Nat.lt_succ_self _) ⟨i1 + 1, (), by omega, gx1, rfl, H4⟩
      · have gx1 := M.for_end gx1 hb2
        subst gx1
        refine Run_exit (k' := _) rfl ?_
        exact Run_fall [] (by kernel_rfl) ⟨(), rfl, rfl, H1⟩

set_option maxRecDepth 100000 in
set_option maxHeartbeats 4000000 in
theorem w_laws_eqEventGraph (h : Heap) (a_ : TGraph) (aa_Places : Option Addr) (ca_Places : Nat) (ra_Places : Rd cd58 h (Lt h) aa_Places ca_Places a_.Places) (b : TGraph) (abPlaces : Option Addr) (cbPlaces : Nat) (rbPlaces : Rd cd58 h (Lt h) abPlaces cbPlaces b.Places) (n : Nat) (r : Bool) (hF : laws_eqEventGraph a_ b n = some r) :
    Fn Try.prog 15 #[.agg #[.int .i64 a_.Events, .slice aa_Places a_.Places.length ca_Places], .agg #[.int .i64 b.Events, .slice abPlaces b.Places.length cbPlaces]] h fun v h' => v = .bool r ∧ Hold h h' [] := by
  unfold laws_eqEventGraph at hF
  refine Fn_enter (args := [.agg #[.int .i64 a_.Events, .slice aa_Places a_.Places.length ca_Places], .agg #[.int .i64 b.Events, .slice abPlaces b.Places.length cbPlaces]]) Try.func15 rfl (by kernel_rfl) (by kernel_rfl) (fun w0 _ => ?_)
  have H0 := Hold.init h
  refine Run_seq ?_
  refine Run_ops ?_
  refine Run_E (by kernel_rfl) ?_
  refine E_box (ty := 30) (cs := [.int .i64 a_.Events, .slice aa_Places a_.Places.length ca_Places]) H0 (fun w => by kernel_rfl) (fun b1 h1 H1 => ?_)
  refine Run_E (by kernel_rfl) ?_
  refine E_box (ty := 30) (cs := [.int .i64 b.Events, .slice abPlaces b.Places.length cbPlaces]) H1 (fun w => by kernel_rfl) (fun b2 h2 H2 => ?_)
  refine Run_b [.bool false] 2 _ (by kernel_rfl) (fun w => by kernel_rfl) ?_
  refine Run_nil (by kernel_rfl) ?_
  refine Run_keep [2, 3] (L' := [(2, .pointer (some ⟨b1, 0, none⟩)), (3, .pointer (some ⟨b2, 0, none⟩))]) (by kernel_rfl) ?_
  refine Run_seq ?_
  refine Run_seq ?_
  refine Run_reg 5 (by kernel_rfl) (L' := [(2, .pointer (some ⟨b1, 0, none⟩)), (3, .pointer (some ⟨b2, 0, none⟩)), (9, .bool (a_.Events != b.Events))]) ?_ ?_
  · refine QRun_b [.pointer (some ⟨b1, 0, none⟩)] 0 _ (by kernel_rfl) (fun w => by kernel_rfl) ?_
    refine QRun_y (.int .i64 a_.Events) (by kernel_rfl) (Y_load1 (t := 2) (p := ⟨b1, 0, none⟩) (v := .int .i64 a_.Events) (by kernel_rfl) (fun w => by kernel_rfl) (H2.cell 1 rfl rfl)) ?_
    refine QRun_b [.pointer (some ⟨b2, 0, none⟩)] 2 _ (by kernel_rfl) (fun w => by kernel_rfl) ?_
    refine QRun_y (.int .i64 b.Events) (by kernel_rfl) (Y_load1 (t := 2) (p := ⟨b2, 0, none⟩) (v := .int .i64 b.Events) (by kernel_rfl) (fun w => by kernel_rfl) (H2.cell 0 rfl rfl)) ?_
    refine QRun_b [.bool (a_.Events != b.Events)] 4 _ (by kernel_rfl) (fun w => by kernel_rfl) ?_
    exact QRun_done [2, 3, 9] (by kernel_rfl) (by kernel_rfl)
  refine Run_cond (b := a_.Events != b.Events) (by kernel_rfl) (fun hb1 => ?_) (fun hb1 => ?_)
  · have hF := (M.ite_some hF).1 hb1
    refine Run_seq ?_
    refine Run_reg 1 (by kernel_rfl) (L' := [(4, .bool false)]) ?_ ?_
    · refine QRun_b [.bool false] 0 _ (by kernel_rfl) (fun w => by kernel_rfl) ?_
      exact QRun_done [4] (by kernel_rfl) (by kernel_rfl)
    have hF := M.ret_some hF
    subst hF
    have H3 : Hold h h2 [] := H2.pick [] (by kernel_rfl)
    exact Run_ret1 rfl (ResV_tmp (v := .bool false) (by kernel_rfl)) ⟨rfl, H3⟩
  · have hF := (M.ite_some hF).2 hb1
    refine Run_skip ?_
    refine Run_seq ?_
    refine Run_seq ?_
    obtain ⟨x1, hx1, hF⟩ := M.bind_some hF
    refine Run_regC (j := 6) (C := fun x => Hold h x [box b2 30 [.int .i64 b.Events, .slice abPlaces b.Places.length cbPlaces], box b1 30 [.int .i64 a_.Events, .slice aa_Places a_.Places.length ca_Places]]) (by kernel_rfl) H2 (L' := [(15, .bool (!x1))]) ?_ (fun h3 H4 => ?_)
    · refine QRun_b [.pointer (some ⟨b1, 1, none⟩)] 0 _ (by kernel_rfl) (fun w => by kernel_rfl) ?_
      refine QRun_y (.slice aa_Places a_.Places.length ca_Places) (by kernel_rfl) (Y_cls fun hx Hx => (Y_load1 (t := 28) (p := ⟨b1, 1, none⟩) (v := .slice aa_Places a_.Places.length ca_Places) (by kernel_rfl) (fun w => by kernel_rfl) (Hx.cell 1 rfl rfl))) ?_
      refine QRun_b [.pointer (some ⟨b2, 1, none⟩)] 2 _ (by kernel_rfl) (fun w => by kernel_rfl) ?_
      refine QRun_y (.slice abPlaces b.Places.length cbPlaces) (by kernel_rfl) (Y_cls fun hx Hx => (Y_load1 (t := 28) (p := ⟨b2, 1, none⟩) (v := .slice abPlaces b.Places.length cbPlaces) (by kernel_rfl) (fun w => by kernel_rfl) (Hx.cell 0 rfl rfl))) ?_
      refine QRun_y (.bool x1) (by kernel_rfl) (Y_call (f := 77) (args := #[.slice aa_Places a_.Places.length ca_Places, .slice abPlaces b.Places.length cbPlaces]) (v := .bool x1) (by kernel_rfl) fun hx Hx => (w_laws_eqPlaceS hx a_.Places aa_Places ca_Places (ra_Places.at Hx.ext) b.Places abPlaces cbPlaces (rbPlaces.at Hx.ext) _ _ hx1).mono fun _ _ ⟨e, H'⟩ => ⟨e, Hx.call H' rfl⟩) ?_
      refine QRun_b [.bool (!x1)] 5 _ (by kernel_rfl) (fun w => by kernel_rfl) ?_
      exact QRun_done [15] (by kernel_rfl) (by kernel_rfl)
    have H5 : Hold h h3 [box b2 30 [.int .i64 b.Events, .slice abPlaces b.Places.length cbPlaces], box b1 30 [.int .i64 a_.Events, .slice aa_Places a_.Places.length ca_Places]] := H4
    refine Run_cond (b := !x1) (by kernel_rfl) (fun hb2 => ?_) (fun hb2 => ?_)
    · have hF := (M.ite_some hF).1 hb2
      refine Run_seq ?_
      refine Run_reg 1 (by kernel_rfl) (L' := [(4, .bool false)]) ?_ ?_
      · refine QRun_b [.bool false] 0 _ (by kernel_rfl) (fun w => by kernel_rfl) ?_
        exact QRun_done [4] (by kernel_rfl) (by kernel_rfl)
      have hF := M.ret_some hF
      subst hF
      have H6 : Hold h h3 [] := H5.pick [] (by kernel_rfl)
      exact Run_ret1 rfl (ResV_tmp (v := .bool false) (by kernel_rfl)) ⟨rfl, H6⟩
    · have hF := (M.ite_some hF).2 hb2
      refine Run_skip ?_
      refine Run_seq ?_
      refine Run_reg 1 (by kernel_rfl) (L' := [(4, .bool true)]) ?_ ?_
      · refine QRun_b [.bool true] 0 _ (by kernel_rfl) (fun w => by kernel_rfl) ?_
        exact QRun_done [4] (by kernel_rfl) (by kernel_rfl)
      have hF := M.ret_some hF
      subst hF
      have H7 : Hold h h3 [] := H5.pick [] (by kernel_rfl)
      exact Run_ret1 rfl (ResV_tmp (v := .bool true) (by kernel_rfl)) ⟨rfl, H7⟩

set_option maxRecDepth 100000 in
set_option maxHeartbeats 4000000 in
theorem w_laws_FnExactTokenDistance (h : Heap) (aG : TGraph) (aaGPlaces : Option Addr) (caGPlaces : Nat) (raGPlaces : Rd cd143 h (Lt h) aaGPlaces caGPlaces aG.Places) (aFrom : Int) (aTo : Int) (n : Nat) (r : Bool) (hF : laws_FnExactTokenDistance aG aFrom aTo n = some r) :
    Fn Try.prog 4 #[.agg #[.int .i64 aG.Events, .slice aaGPlaces aG.Places.length caGPlaces], .int .i64 aFrom, .int .i64 aTo] h fun v h' => v = .bool r ∧ Hold h h' [] := by
  unfold laws_FnExactTokenDistance at hF
  refine Fn_enter (args := [.agg #[.int .i64 aG.Events, .slice aaGPlaces aG.Places.length caGPlaces], .int .i64 aFrom, .int .i64 aTo]) Try.func4 rfl (by kernel_rfl) (by kernel_rfl) (fun w0 _ => ?_)
  have H0 := Hold.init h
  refine Run_seq ?_
  refine Run_ops ?_
  refine Run_E (by kernel_rfl) ?_
  refine E_box (ty := 24) (cs := [.int .i64 aG.Events, .slice aaGPlaces aG.Places.length caGPlaces]) H0 (fun w => by kernel_rfl) (fun b1 h1 H1 => ?_)
  refine Run_b [.bool false] 1 _ (by kernel_rfl) (fun w => by kernel_rfl) ?_
  refine Run_nil (by kernel_rfl) ?_
  refine Run_keep [1, 2, 3] (L' := [(1, .int .i64 aFrom), (2, .int .i64 aTo), (3, .pointer (some ⟨b1, 0, none⟩))]) (by kernel_rfl) ?_
  refine Run_seq ?_
  refine Run_reg 1 (by kernel_rfl) (L' := [(1, .int .i64 aFrom), (2, .int .i64 aTo), (3, .pointer (some ⟨b1, 0, none⟩)), (7, .int .i64 1048576)]) ?_ ?_
  · refine QRun_b [.int .i64 1048576] 0 _ (by kernel_rfl) (fun w => by kernel_rfl) ?_
    exact QRun_done [1, 2, 3, 7] (by kernel_rfl) (by kernel_rfl)
  refine Run_seq ?_
  obtain ⟨x1, hx1, hF⟩ := M.bind_some hF
  refine Run_regC (j := 4) (C := fun x => Hold h x [box b1 24 [.int .i64 aG.Events, .slice aaGPlaces aG.Places.length caGPlaces]]) (by kernel_rfl) H1 (L' := [(1, .int .i64 aFrom), (2, .int .i64 aTo), (3, .pointer (some ⟨b1, 0, none⟩)), (7, .int .i64 x1)]) ?_ (fun h2 H2 => ?_)
  · refine QRun_y (.agg #[.int .i64 aG.Events, .slice aaGPlaces aG.Places.length caGPlaces]) (by kernel_rfl) (Y_cls fun hx Hx => (Y_loadA (t := 24) (n := 2) (p := ⟨b1, 0, none⟩) (cs := [.int .i64 aG.Events, .slice aaGPlaces aG.Places.length caGPlaces]) (by kernel_rfl) (fun w => by kernel_rfl) (by kernel_rfl) rfl (Hx.cells (n := 2) (off := 0) 0 rfl rfl))) ?_
    refine QRun_b [.int .i64 1048576] 1 _ (by kernel_rfl) (fun w => by kernel_rfl) ?_
    refine QRun_y (.int .i64 x1) (by kernel_rfl) (Y_call (f := 11) (args := #[.agg #[.int .i64 aG.Events, .slice aaGPlaces aG.Places.length caGPlaces], .int .i64 1048576]) (v := .int .i64 x1) (by kernel_rfl) fun hx Hx => (w_laws_szEventGraph hx aG aaGPlaces caGPlaces (raGPlaces.at Hx.ext) 1048576 _ _ hx1).mono fun _ _ ⟨e, H'⟩ => ⟨e, Hx.call H' rfl⟩) ?_
    refine QRun_b [.int .i64 x1] 3 _ (by kernel_rfl) (fun w => by kernel_rfl) ?_
    exact QRun_done [1, 2, 3, 7] (by kernel_rfl) (by kernel_rfl)
  have H3 : Hold h h2 [box b1 24 [.int .i64 aG.Events, .slice aaGPlaces aG.Places.length caGPlaces]] := H2
  refine Run_seq ?_
  refine Run_seq ?_
  refine Run_reg 2 (by kernel_rfl) (L' := [(1, .int .i64 aFrom), (2, .int .i64 aTo), (3, .pointer (some ⟨b1, 0, none⟩)), (17, .bool (decide (x1 < 0)))]) ?_ ?_
  · refine QRun_b [.int .i64 x1, .bool (decide (x1 < 0))] 0 _ (by kernel_rfl) (fun w => by kernel_rfl) ?_
    exact QRun_done [1, 2, 3, 17] (by kernel_rfl) (by kernel_rfl)
  refine Run_cond (b := decide (x1 < 0)) (by kernel_rfl) (fun hb1 => ?_) (fun hb1 => ?_)
  · have hF := (M.ite_some hF).1 hb1
    refine Run_seq ?_
    refine Run_reg 1 (by kernel_rfl) (L' := [(6, .bool true)]) ?_ ?_
    · refine QRun_b [.bool true] 0 _ (by kernel_rfl) (fun w => by kernel_rfl) ?_
      exact QRun_done [6] (by kernel_rfl) (by kernel_rfl)
    have hF := M.ret_some hF
    subst hF
    have H4 : Hold h h2 [] := H3.pick [] (by kernel_rfl)
    exact Run_ret1 rfl (ResV_tmp (v := .bool true) (by kernel_rfl)) ⟨rfl, H4⟩
  · have hF := (M.ite_some hF).2 hb1
    refine Run_skip ?_
    refine Run_seq ?_
    refine Run_ops ?_
    refine Run_y (.agg #[.int .i64 aG.Events, .slice aaGPlaces aG.Places.length caGPlaces]) (by kernel_rfl) (Y_loadA (t := 24) (n := 2) (p := ⟨b1, 0, none⟩) (cs := [.int .i64 aG.Events, .slice aaGPlaces aG.Places.length caGPlaces]) (by kernel_rfl) (fun w => by kernel_rfl) (by kernel_rfl) rfl (H3.cells (n := 2) (off := 0) 0 rfl rfl)) ?_
    obtain ⟨x2, hx2, hF⟩ := M.bind_some hF
    refine Run_E (by kernel_rfl) ?_
    refine E_call (f := 13) (args := #[.agg #[.int .i64 aG.Events, .slice aaGPlaces aG.Places.length caGPlaces]]) (w_laws_toEventGraph h2 aG aaGPlaces caGPlaces (raGPlaces.at H3.ext) _ _ hx2) (by kernel_rfl) (fun v1 h3 hp1 => ?_)
    obtain ⟨a1, c1, rfl, H5⟩ := hp1
    have H6 : Hold h h3 [own cd58 a1 x2.Places.length c1 x2.Places, box b1 24 [.int .i64 aG.Events, .slice aaGPlaces aG.Places.length caGPlaces]] := H3.call H5 rfl
    refine Run_b [.int .i64 aFrom, .int .i64 aTo] 2 _ (by kernel_rfl) (fun w => by kernel_rfl) ?_
    obtain ⟨x3, hx3, hF⟩ := M.bind_some hF
    refine Run_E (by kernel_rfl) ?_
    refine E_call (f := 16) (args := #[.agg #[.int .i64 x2.Events, .slice a1 x2.Places.length c1], .int .i64 aFrom, .int .i64 aTo]) (w_spec_TokenDistance h3 x2 a1 c1 (H6.rd 0 rfl) aFrom aTo _ _ hx3) (by kernel_rfl) (fun v2 h4 hp2 => ?_)
    obtain ⟨rfl, H7⟩ := hp2
    have H8 : Hold h h4 [own cd58 a1 x2.Places.length c1 x2.Places, box b1 24 [.int .i64 aG.Events, .slice aaGPlaces aG.Places.length caGPlaces]] := H6.call H7 rfl
    refine Run_b [.tuple #[.int .i64 x3.1, .int .i64 x3.2], .int .i64 x3.1, .int .i64 x3.2, .int .i64 x3.1, .int .i64 x3.2] 5 _ (by kernel_rfl) (fun w => by kernel_rfl) ?_
    refine Run_nil (by kernel_rfl) ?_
    refine Run_keep [1, 2, 3, 8, 9] (L' := [(1, .int .i64 aFrom), (2, .int .i64 aTo), (3, .pointer (some ⟨b1, 0, none⟩)), (8, .int .i64 x3.1), (9, .int .i64 x3.2)]) (by kernel_rfl) ?_
    refine Run_seq ?_
    refine Run_ops ?_
    refine Run_y (.agg #[.int .i64 aG.Events, .slice aaGPlaces aG.Places.length caGPlaces]) (by kernel_rfl) (Y_loadA (t := 24) (n := 2) (p := ⟨b1, 0, none⟩) (cs := [.int .i64 aG.Events, .slice aaGPlaces aG.Places.length caGPlaces]) (by kernel_rfl) (fun w => by kernel_rfl) (by kernel_rfl) rfl (H8.cells (n := 2) (off := 0) 1 rfl rfl)) ?_
    obtain ⟨x4, hx4, hF⟩ := M.bind_some hF
    refine Run_E (by kernel_rfl) ?_
    refine E_call (f := 13) (args := #[.agg #[.int .i64 aG.Events, .slice aaGPlaces aG.Places.length caGPlaces]]) (w_laws_toEventGraph h4 aG aaGPlaces caGPlaces (raGPlaces.at H8.ext) _ _ hx4) (by kernel_rfl) (fun v3 h5 hp3 => ?_)
    obtain ⟨a2, c2, rfl, H9⟩ := hp3
    have H10 : Hold h h5 [own cd58 a2 x4.Places.length c2 x4.Places, own cd58 a1 x2.Places.length c1 x2.Places, box b1 24 [.int .i64 aG.Events, .slice aaGPlaces aG.Places.length caGPlaces]] := H8.call H9 rfl
    refine Run_E (by kernel_rfl) ?_
    refine E_box (ty := 30) (cs := [.int .i64 0, .slice none 0 0]) H10 (fun w => by kernel_rfl) (fun b2 h6 H11 => ?_)
    refine Run_E (by kernel_rfl) ?_
    refine E_bput (t := 30) (off := 0) (us := [.int .i64 x4.Events, .slice a2 x4.Places.length c2]) (v := .agg #[.int .i64 x4.Events, .slice a2 x4.Places.length c2]) H11 (by kernel_rfl) (by kernel_rfl) rfl (by kernel_rfl) rfl (fun h7 H12 => ?_)
    refine Run_nil (by kernel_rfl) ?_
    refine Run_keep [1, 2, 3, 8, 9, 10] (L' := [(1, .int .i64 aFrom), (2, .int .i64 aTo), (3, .pointer (some ⟨b1, 0, none⟩)), (8, .int .i64 x3.1), (9, .int .i64 x3.2), (10, .pointer (some ⟨b2, 0, none⟩))]) (by kernel_rfl) ?_
    refine Run_seq ?_
    obtain ⟨x5, hx5, hF⟩ := M.bind_some hF
    refine Run_regC (j := 9) (C := fun x => Hold h x [box b2 30 [.int .i64 x4.Events, .slice a2 x4.Places.length c2], own cd58 a2 x4.Places.length c2 x4.Places, own cd58 a1 x2.Places.length c1 x2.Places, box b1 24 [.int .i64 aG.Events, .slice aaGPlaces aG.Places.length caGPlaces]]) (by kernel_rfl) H12 (L' := [(3, .pointer (some ⟨b1, 0, none⟩)), (8, .int .i64 x3.1), (9, .int .i64 x3.2), (10, .pointer (some ⟨b2, 0, none⟩)), (11, .int .i64 x5.1), (12, .int .i64 x5.2)]) ?_ (fun h8 H13 => ?_)
    · refine QRun_y (.agg #[.int .i64 x4.Events, .slice a2 x4.Places.length c2]) (by kernel_rfl) (Y_cls fun hx Hx => (Y_loadA (t := 30) (n := 2) (p := ⟨b2, 0, none⟩) (cs := [.int .i64 x4.Events, .slice a2 x4.Places.length c2]) (by kernel_rfl) (fun w => by kernel_rfl) (by kernel_rfl) rfl (Hx.cells (n := 2) (off := 0) 0 rfl rfl))) ?_
      refine QRun_b [.int .i64 aFrom, .int .i64 aTo] 1 _ (by kernel_rfl) (fun w => by kernel_rfl) ?_
      refine QRun_y (.tuple #[.int .i64 x5.1, .int .i64 x5.2]) (by kernel_rfl) (Y_call (f := 17) (args := #[.agg #[.int .i64 x4.Events, .slice a2 x4.Places.length c2], .int .i64 aFrom, .int .i64 aTo]) (v := .tuple #[.int .i64 x5.1, .int .i64 x5.2]) (by kernel_rfl) fun hx Hx => (w_impl_TokenDistance hx x4 a2 c2 (Hx.rd 1 rfl) aFrom aTo _ _ hx5).mono fun _ _ ⟨e, H'⟩ => ⟨e, Hx.call H' rfl⟩) ?_
      refine QRun_b [.tuple #[.int .i64 x5.1, .int .i64 x5.2], .int .i64 x5.1, .int .i64 x5.2, .int .i64 x5.1, .int .i64 x5.2] 4 _ (by kernel_rfl) (fun w => by kernel_rfl) ?_
      exact QRun_done [3, 8, 9, 10, 11, 12] (by kernel_rfl) (by kernel_rfl)
    have H14 : Hold h h8 [box b2 30 [.int .i64 x4.Events, .slice a2 x4.Places.length c2], own cd58 a2 x4.Places.length c2 x4.Places, own cd58 a1 x2.Places.length c1 x2.Places, box b1 24 [.int .i64 aG.Events, .slice aaGPlaces aG.Places.length caGPlaces]] := H13
    refine Run_seq ?_
    refine Run_seq ?_
    refine Run_reg 8 (by kernel_rfl) (L' := [(3, .pointer (some ⟨b1, 0, none⟩)), (10, .pointer (some ⟨b2, 0, none⟩)), (42, .bool ((x5.1 != x3.1) || (x5.2 != x3.2)))]) ?_ ?_
    · refine QRun_b [.int .i64 x5.1, .int .i64 x3.1, .bool (x5.1 != x3.1)] 0 _ (by kernel_rfl) (fun w => by kernel_rfl) ?_
      refine QRun_seq 8 [(3, .pointer (some ⟨b1, 0, none⟩)), (10, .pointer (some ⟨b2, 0, none⟩)), (42, .bool ((x5.1 != x3.1) || (x5.2 != x3.2)))] ?_ ?_
      · rcases Bool.eq_false_or_eq_true (x5.1 != x3.1) with hb2 | hb2
        · refine QRun_bool (x5.1 != x3.1) true (by kernel_rfl) (fun w => by kernel_rfl) hb2 ?_
          refine QRun_n (by kernel_rfl) ?_
          refine QRun_n (by kernel_rfl) ?_
          refine QRun_n (by kernel_rfl) ?_
          refine QRun_bool true ((x5.1 != x3.1) || (x5.2 != x3.2)) (by kernel_rfl) (fun w => by kernel_rfl) (by rw [hb2]; rfl) ?_
          exact QRun_done [3, 10, 42] (by kernel_rfl) (by kernel_rfl)
        · refine QRun_bool (x5.1 != x3.1) false (by kernel_rfl) (fun w => by kernel_rfl) hb2 ?_
          refine QRun_b [.int .i64 x5.2, .int .i64 x3.2, .bool (x5.2 != x3.2)] 4 _ (by kernel_rfl) (fun w => by kernel_rfl) ?_
          refine QRun_bool (x5.2 != x3.2) ((x5.1 != x3.1) || (x5.2 != x3.2)) (by kernel_rfl) (fun w => by kernel_rfl) (by rw [hb2]; rfl) ?_
          exact QRun_done [3, 10, 42] (by kernel_rfl) (by kernel_rfl)
      exact QRun_done [3, 10, 42] (by kernel_rfl) (by kernel_rfl)
    refine Run_cond (b := (x5.1 != x3.1) || (x5.2 != x3.2)) (by kernel_rfl) (fun hb3 => ?_) (fun hb3 => ?_)
    · have hF := (M.ite_some hF).1 hb3
      refine Run_seq ?_
      refine Run_reg 1 (by kernel_rfl) (L' := [(6, .bool false)]) ?_ ?_
      · refine QRun_b [.bool false] 0 _ (by kernel_rfl) (fun w => by kernel_rfl) ?_
        exact QRun_done [6] (by kernel_rfl) (by kernel_rfl)
      have hF := M.ret_some hF
      subst hF
      have H15 : Hold h h8 [] := H14.pick [] (by kernel_rfl)
      exact Run_ret1 rfl (ResV_tmp (v := .bool false) (by kernel_rfl)) ⟨rfl, H15⟩
    · have hF := (M.ite_some hF).2 hb3
      refine Run_skip ?_
      refine Run_seq ?_
      refine Run_seq ?_
      refine Run_D (fun x => Hold h x [box b2 30 [.int .i64 x4.Events, .slice a2 x4.Places.length c2], own cd58 a2 x4.Places.length c2 x4.Places, own cd58 a1 x2.Places.length c1 x2.Places, box b1 24 [.int .i64 aG.Events, .slice aaGPlaces aG.Places.length caGPlaces]]) (fun x => Hold h x [box b2 30 [.int .i64 x4.Events, .slice a2 x4.Places.length c2], own cd58 a2 x4.Places.length c2 x4.Places, own cd58 a1 x2.Places.length c1 x2.Places, box b1 24 [.int .i64 aG.Events, .slice aaGPlaces aG.Places.length caGPlaces]]) mixed (by kernel_rfl) H14 Hold.stable (fun x Hy => (show Hold h x [box b2 30 [.int .i64 x4.Events, .slice a2 x4.Places.length c2], own cd58 a2 x4.Places.length c2 x4.Places, own cd58 a1 x2.Places.length c1 x2.Places, box b1 24 [.int .i64 aG.Events, .slice aaGPlaces aG.Places.length caGPlaces]] from Hy).pick [0, 1, 2, 3] (by kernel_rfl)) ?_
      refine DR_y 4 (i := 0) (.agg #[.int .i64 x4.Events, .slice a2 x4.Places.length c2]) (by kernel_rfl) (by kernel_rfl) (by kernel_rfl) (fun hx Hx => (YE.of (Y_loadA (t := 30) (n := 2) (p := ⟨b2, 0, none⟩) (cs := [.int .i64 x4.Events, .slice a2 x4.Places.length c2]) (by kernel_rfl) (fun w => by kernel_rfl) (by kernel_rfl) rfl (Hx.cells (n := 2) (off := 0) 0 rfl rfl)))) ?_
      refine DR_y 3 (i := 1) (.agg #[.int .i64 aG.Events, .slice aaGPlaces aG.Places.length caGPlaces]) (by kernel_rfl) (by kernel_rfl) (by kernel_rfl) (fun hx Hx => (YE.of (Y_loadA (t := 24) (n := 2) (p := ⟨b1, 0, none⟩) (cs := [.int .i64 aG.Events, .slice aaGPlaces aG.Places.length caGPlaces]) (by kernel_rfl) (fun w => by kernel_rfl) (by kernel_rfl) rfl (Hx.cells (n := 2) (off := 0) 3 rfl rfl)))) ?_
      refine DR_e 2 2 (by kernel_rfl) (by kernel_rfl) (by kernel_rfl) (fun h9 H16 => ?_)
      have H17 : Hold h h9 [box b2 30 [.int .i64 x4.Events, .slice a2 x4.Places.length c2], own cd58 a2 x4.Places.length c2 x4.Places, own cd58 a1 x2.Places.length c1 x2.Places, box b1 24 [.int .i64 aG.Events, .slice aaGPlaces aG.Places.length caGPlaces]] := H16
      obtain ⟨x7, hx6, hF⟩ := M.bind_some hF
      refine E_call (f := 13) (args := #[.agg #[.int .i64 aG.Events, .slice aaGPlaces aG.Places.length caGPlaces]]) (w_laws_toEventGraph h9 aG aaGPlaces caGPlaces (raGPlaces.at H17.ext) _ _ hx6) (by kernel_rfl) (fun v4 h10 hp4 => ?_)
      obtain ⟨a3, c3, rfl, H18⟩ := hp4
      have H19 : Hold h h10 [own cd58 a3 x7.Places.length c3 x7.Places, box b2 30 [.int .i64 x4.Events, .slice a2 x4.Places.length c2], own cd58 a2 x4.Places.length c2 x4.Places, own cd58 a1 x2.Places.length c1 x2.Places, box b1 24 [.int .i64 aG.Events, .slice aaGPlaces aG.Places.length caGPlaces]] := H17.call H18 rfl
      refine ⟨fun x => Hold h x [box b2 30 [.int .i64 x4.Events, .slice a2 x4.Places.length c2], own cd58 a2 x4.Places.length c2 x4.Places, own cd58 a1 x2.Places.length c1 x2.Places, box b1 24 [.int .i64 aG.Events, .slice aaGPlaces aG.Places.length caGPlaces], own cd58 a3 x7.Places.length c3 x7.Places], fun x => Hold h x [own cd58 a3 x7.Places.length c3 x7.Places, box b2 30 [.int .i64 x4.Events, .slice a2 x4.Places.length c2], own cd58 a2 x4.Places.length c2 x4.Places, own cd58 a1 x2.Places.length c1 x2.Places, box b1 24 [.int .i64 aG.Events, .slice aaGPlaces aG.Places.length caGPlaces]], H19, Hold.stable, fun x Hy => (show Hold h x [own cd58 a3 x7.Places.length c3 x7.Places, box b2 30 [.int .i64 x4.Events, .slice a2 x4.Places.length c2], own cd58 a2 x4.Places.length c2 x4.Places, own cd58 a1 x2.Places.length c1 x2.Places, box b1 24 [.int .i64 aG.Events, .slice aaGPlaces aG.Places.length caGPlaces]] from Hy).pick [1, 2, 3, 4, 0] (by kernel_rfl), fun x Hy => (show Hold h x [box b2 30 [.int .i64 x4.Events, .slice a2 x4.Places.length c2], own cd58 a2 x4.Places.length c2 x4.Places, own cd58 a1 x2.Places.length c1 x2.Places, box b1 24 [.int .i64 aG.Events, .slice aaGPlaces aG.Places.length caGPlaces], own cd58 a3 x7.Places.length c3 x7.Places] from Hy).pick [0, 1, 2, 3] (by kernel_rfl), ?_⟩
      obtain ⟨x8, hx7, hF⟩ := M.bind_some hF
      refine DR_y 1 (i := 3) (.bool x8) (by kernel_rfl) (by kernel_rfl) (by kernel_rfl) (fun hx Hx => (YE_call (f := 15) (args := #[.agg #[.int .i64 x4.Events, .slice a2 x4.Places.length c2], .agg #[.int .i64 x7.Events, .slice a3 x7.Places.length c3]]) (v := .bool x8) (by kernel_rfl) ((w_laws_eqEventGraph hx x4 a2 c2 (Hx.rd 1 rfl) x7 a3 c3 (Hx.rd 4 rfl) _ _ hx7).mono fun _ _ ⟨e, H'⟩ => ⟨e, H'.ext⟩))) ?_
      refine DR_b 0 [.bool (!x8)] 4 (by kernel_rfl) (by kernel_rfl) (by kernel_rfl) (fun w => by kernel_rfl) ?_
      refine DR_tail (i := 5) (by kernel_rfl) (by kernel_rfl) (by kernel_rfl) (fun h11 H20 => ?_)
      have H21 : Hold h h11 [own cd58 a3 x7.Places.length c3 x7.Places, box b2 30 [.int .i64 x4.Events, .slice a2 x4.Places.length c2], own cd58 a2 x4.Places.length c2 x4.Places, own cd58 a1 x2.Places.length c1 x2.Places, box b1 24 [.int .i64 aG.Events, .slice aaGPlaces aG.Places.length caGPlaces]] := H20
      refine Run_nil (by kernel_rfl) ?_
      refine Run_keep [47] (L' := [(47, .bool (!x8))]) (by kernel_rfl) ?_
      refine Run_cond (b := !x8) (by kernel_rfl) (fun hb4 => ?_) (fun hb4 => ?_)
      · have hF := (M.ite_some hF).1 hb4
        refine Run_seq ?_
        refine Run_reg 1 (by kernel_rfl) (L' := [(6, .bool false)]) ?_ ?_
        · refine QRun_b [.bool false] 0 _ (by kernel_rfl) (fun w => by kernel_rfl) ?_
          exact QRun_done [6] (by kernel_rfl) (by kernel_rfl)
        have hF := M.ret_some hF
        subst hF
        have H22 : Hold h h11 [] := H21.pick [] (by kernel_rfl)
        exact Run_ret1 rfl (ResV_tmp (v := .bool false) (by kernel_rfl)) ⟨rfl, H22⟩
      · have hF := (M.ite_some hF).2 hb4
        refine Run_skip ?_
        refine Run_seq ?_
        refine Run_reg 1 (by kernel_rfl) (L' := [(6, .bool true)]) ?_ ?_
        · refine QRun_b [.bool true] 0 _ (by kernel_rfl) (fun w => by kernel_rfl) ?_
          exact QRun_done [6] (by kernel_rfl) (by kernel_rfl)
        have hF := M.ret_some hF
        subst hF
        have H23 : Hold h h11 [] := H21.pick [] (by kernel_rfl)
        exact Run_ret1 rfl (ResV_tmp (v := .bool true) (by kernel_rfl)) ⟨rfl, H23⟩

end Go.Proofs.Ytipdgiljgbjjkaa
