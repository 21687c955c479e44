/-
  Walks: each Go function, called with what reads as plain data, returns what its plain program computes.
  Conditions: None beyond the given statement.
-/
import Derived.Test.YtipdgiljgbjjkaaW2
namespace Go.Proofs.Ytipdgiljgbjjkaa
open Go
attribute [local irreducible] setL setB opA fineI idleI fineB evB okB markB markBs readyB readyBs chainB lk rho pickL dropSlot tailOK
set_option maxRecDepth 100000 in
set_option maxHeartbeats 4000000 in
theorem w_impl_CornersOf (h : Heap) (c_ : List Int) (ac_ : Option Addr) (cc_ : Nat) (rc_ : Rd cd2 h (Lt h) ac_ cc_ c_) (n : Nat) (r : (List TCorner) × Int) (hF : impl_CornersOf c_ n = some r) :
    Fn Try.prog 45 #[.slice ac_ c_.length cc_] h fun v h' => ∃ (a0 : Option Addr) (c0 : Nat), v = .tuple #[.slice a0 r.1.length c0, .int .i64 r.2] ∧ Hold h h' [own cd69 a0 r.1.length c0 r.1] := by
  unfold impl_CornersOf at hF
  refine Fn_enter (args := [.slice ac_ c_.length cc_]) Try.func45 rfl (by kernel_rfl) (by kernel_rfl) (fun w0 _ => ?_)
  have H0 := Hold.init h
  refine Run_seq ?_
  refine Run_reg 2 (by kernel_rfl) (L' := [(0, .slice ac_ c_.length cc_)]) ?_ ?_
  · refine QRun_b [.slice none 0 0, .int .i64 0] 0 _ (by kernel_rfl) (fun w => by kernel_rfl) ?_
    exact QRun_done [0] (by kernel_rfl) (by kernel_rfl)
  refine Run_seq ?_
  refine Run_seq ?_
  obtain ⟨x1, hx1, hF⟩ := M.bind_some hF
  refine Run_reg 3 (by kernel_rfl) (L' := [(0, .slice ac_ c_.length cc_), (12, .bool (!x1))]) ?_ ?_
  · refine QRun_b [.slice ac_ c_.length cc_] 0 _ (by kernel_rfl) (fun w => by kernel_rfl) ?_
    refine QRun_y (.bool x1) (by kernel_rfl) (Y_callq (f := 114) (args := #[.slice ac_ c_.length cc_]) (v := .bool x1) (by kernel_rfl) (w_impl_IsPolynomial h c_ ac_ cc_ rc_ _ _ hx1)) ?_
    refine QRun_b [.bool (!x1)] 2 _ (by kernel_rfl) (fun w => by kernel_rfl) ?_
    exact QRun_done [0, 12] (by kernel_rfl) (by kernel_rfl)
  refine Run_cond (b := !x1) (by kernel_rfl) (fun hb1 => ?_) (fun hb1 => ?_)
  · have hF := (M.ite_some hF).1 hb1
    refine Run_seq ?_
    refine Run_reg 2 (by kernel_rfl) (L' := [(2, .slice none 0 0), (3, .int .i64 1)]) ?_ ?_
    · refine QRun_b [.slice none 0 0, .int .i64 1] 0 _ (by kernel_rfl) (fun w => by kernel_rfl) ?_
      exact QRun_done [2, 3] (by kernel_rfl) (by kernel_rfl)
    have hF := M.ret_some hF
    subst hF
    have H1 := H0.empty cd69
    exact Run_ret2 rfl (ResV_tmp (v := .slice none 0 0) (by kernel_rfl)) (ResV_tmp (v := .int .i64 1) (by kernel_rfl)) ⟨none, 0, rfl, H1⟩
  · have hF := (M.ite_some hF).2 hb1
    refine Run_skip ?_
    refine Run_seq ?_
    refine Run_ops ?_
    refine Run_b [.slice ac_ c_.length cc_] 0 _ (by kernel_rfl) (fun w => by kernel_rfl) ?_
    obtain ⟨x2, hx2, hF⟩ := M.bind_some hF
    refine Run_E (by kernel_rfl) ?_
    refine E_call (f := 119) (args := #[.slice ac_ c_.length cc_]) (w_impl_essentialTerms h c_ ac_ cc_ rc_ _ _ hx2) (by kernel_rfl) (fun v1 h1 hp1 => ?_)
    obtain ⟨a1, c1, rfl, H2⟩ := hp1
    have H3 : Hold h h1 [own cd2 a1 x2.length c1 x2] := H0.call H2 rfl
    refine Run_b [.slice a1 x2.length c1] 2 _ (by kernel_rfl) (fun w => by kernel_rfl) ?_
    refine Run_nil (by kernel_rfl) ?_
    refine Run_keep [0, 4] (L' := [(0, .slice ac_ c_.length cc_), (4, .slice a1 x2.length c1)]) (by kernel_rfl) ?_
    refine Run_seq ?_
    refine Run_reg 1 (by kernel_rfl) (L' := [(0, .slice ac_ c_.length cc_), (4, .slice a1 x2.length c1), (5, .slice none 0 0)]) ?_ ?_
    · refine QRun_b [.slice none 0 0] 0 _ (by kernel_rfl) (fun w => by kernel_rfl) ?_
      exact QRun_done [0, 4, 5] (by kernel_rfl) (by kernel_rfl)
    refine Run_seq ?_
    refine Run_seq ?_
    refine Run_reg 1 (by kernel_rfl) (L' := [(0, .slice ac_ c_.length cc_), (4, .slice a1 x2.length c1), (5, .slice none 0 0), (6, .int .i64 1)]) ?_ ?_
    · refine QRun_b [.int .i64 1] 0 _ (by kernel_rfl) (fun w => by kernel_rfl) ?_
      exact QRun_done [0, 4, 5, 6] (by kernel_rfl) (by kernel_rfl)
    obtain ⟨x3, gx3, hF⟩ := M.bind_some hF
    obtain ⟨hloy1, hhiy1, gx3⟩ := M.for_start gx3
    refine Run_join (fun L' h' => ∃ (s2 : (List TCorner)) (a3 : Option Addr) (c3 : Nat), x3 = .inl s2 ∧ L' = [(5, .slice a3 s2.length c3)] ∧ Hold h h' [own cd69 a3 s2.length c3 s2]) ?_ ?_
    · rintro _ h3 ⟨s2, a3, c3, es2, rfl, H5⟩
      have hF := M.cont_inl' hF es2
      refine Run_seq ?_
      refine Run_reg 3 (by kernel_rfl) (L' := [(2, .slice a3 s2.length c3), (3, .int .i64 0)]) ?_ ?_
      · refine QRun_b [.slice a3 s2.length c3, .slice a3 s2.length c3, .int .i64 0] 0 _ (by kernel_rfl) (fun w => by kernel_rfl) ?_
        exact QRun_done [2, 3] (by kernel_rfl) (by kernel_rfl)
      have hF := M.ret_some hF
      subst hF
      exact Run_ret2 rfl (ResV_tmp (v := .slice a3 s2.length c3) (by kernel_rfl)) (ResV_tmp (v := .int .i64 0) (by kernel_rfl)) ⟨a3, c3, rfl, H5⟩
    · refine Run_block ?_
      have H24 := H3.empty cd69
      have H25 : Hold h h1 [own cd2 a1 x2.length c1 x2, own cd69 none 0 0 []] := H24.pick [1, 0] (by kernel_rfl)
      refine Run_keep [0, 4, 5, 6] (L' := [(0, .slice ac_ c_.length cc_), (4, .slice a1 x2.length c1), (5, .slice none 0 0), (6, .int .i64 1)]) (by kernel_rfl) ?_
      refine Run_loop (fun m L' h' => ∃ (i1 : Int) (s1 : (List TCorner)) (a2 : Option Addr) (c2 : Nat), 1 ≤ i1 ∧ M.forN (x2.length : Int) _ _ n m i1 s1 = some x3 ∧ L' = [(0, .slice ac_ c_.length cc_), (4, .slice a1 x2.length c1), (5, .slice a2 s1.length c2), (6, .int .i64 i1)] ∧ Hold h h' [own cd2 a1 x2.length c1 x2, own cd69 a2 s1.length c2 s1]) ((x2.length : Int) - 1 : Int).toNat ⟨1, [], none, 0, Int.le_refl _, gx3, rfl, H25⟩ ?_
      rintro my1 _ h2 ⟨i1, s1, a2, c2, hloy1', gx3, rfl, H4⟩
      refine Run_seq ?_
      refine Run_seq ?_
      refine Run_reg 4 (by kernel_rfl) (L' := [(0, .slice ac_ c_.length cc_), (4, .slice a1 x2.length c1), (5, .slice a2 s1.length c2), (6, .int .i64 i1), (18, .bool (decide (i1 < (x2.length : Int))))]) ?_ ?_
      · refine QRun_b [.int .i64 i1, .slice a1 x2.length c1, .int .i64 (x2.length : Int), .bool (decide (i1 < (x2.length : Int)))] 0 _ (by kernel_rfl) (fun w => by kernel_rfl) ?_
        exact QRun_done [0, 4, 5, 6, 18] (by kernel_rfl) (by kernel_rfl)
      refine Run_cond (b := decide (i1 < (x2.length : Int))) (by kernel_rfl) (fun hb2 => ?_) (fun hb2 => ?_)
      · obtain ⟨my1, y1, rfl, hB1, hgoy1, houty1⟩ := M.for_go gx3 hb2
        have hlty1 := of_decide_eq_true hb2
        refine Run_skip ?_
        refine Run_seq ?_
        refine Run_block ?_
        refine Run_seq ?_
        obtain ⟨x4, hx3, hB1⟩ := M.bind_some hB1
        obtain ⟨hx3l, hx3u, hx3⟩ := M.idx_some hx3
        obtain ⟨x5, hx4, hB1⟩ := M.bind_some hB1
        obtain ⟨hx4l, hx4u, hx4⟩ := M.idx_some hx4
        refine Run_draw 11 mixed (by kernel_rfl) (by kernel_rfl) (L' := [(0, .slice ac_ c_.length cc_), (4, .slice a1 x2.length c1), (5, .slice a2 s1.length c2), (6, .int .i64 i1), (7, .int .i64 x4), (8, .int .i64 x5)]) ?_ ?_
        · refine QRun_b [.slice a1 x2.length c1, .int .i64 i1, .int .i64 (w64 (i1 - 1))] 0 _ (by kernel_rfl) (fun w => by kernel_rfl) ?_
          refine QRun_y (.pointer (some (adr a1 ((w64 (i1 - 1)).toNat * 1)))) (by kernel_rfl) (Y_idx (t := 39) (e := 2) (sz := 1) (a := a1) (n := x2.length) (cap := c1) (kk := .i64) (i := w64 (i1 - 1)) (by kernel_rfl) Try.underlying39 (by kernel_rfl) ((H4.rd 0 rfl).cell hx3).1 hx3l hx3u) ?_
          refine QRun_y (.int .i64 x4) (by kernel_rfl) (Y_load1 (t := 2) (p := adr a1 ((w64 (i1 - 1)).toNat * 1)) (v := .int .i64 x4) (by kernel_rfl) (fun w => by kernel_rfl) (cd2_cell (H4.rd 0 rfl) hx3)) ?_
          refine QRun_b [.slice a1 x2.length c1, .int .i64 i1] 5 _ (by kernel_rfl) (fun w => by kernel_rfl) ?_
          refine QRun_y (.pointer (some (adr a1 (i1.toNat * 1)))) (by kernel_rfl) (Y_idx (t := 39) (e := 2) (sz := 1) (a := a1) (n := x2.length) (cap := c1) (kk := .i64) (i := i1) (by kernel_rfl) Try.underlying39 (by kernel_rfl) ((H4.rd 0 rfl).cell hx4).1 hx4l hx4u) ?_
          refine QRun_y (.int .i64 x5) (by kernel_rfl) (Y_load1 (t := 2) (p := adr a1 (i1.toNat * 1)) (v := .int .i64 x5) (by kernel_rfl) (fun w => by kernel_rfl) (cd2_cell (H4.rd 0 rfl) hx4)) ?_
          refine QRun_b [.int .i64 x4, .int .i64 x5] 9 _ (by kernel_rfl) (fun w => by kernel_rfl) ?_
          exact QRun_done [0, 4, 5, 6, 7, 8] (by kernel_rfl) (by kernel_rfl)
        refine Run_seq ?_
        obtain ⟨x6, hx5, hB1⟩ := M.bind_some hB1
        obtain ⟨hx5l, hx5u, hx5⟩ := M.idx_some hx5
        obtain ⟨x7, hx6, hB1⟩ := M.bind_some hB1
        obtain ⟨hx6l, hx6u, hx6⟩ := M.idx_some hx6
        obtain ⟨x8, hx7, hB1⟩ := M.bind_some hB1
        refine Run_D (fun x => Hold h x [own cd2 a1 x2.length c1 x2, own cd69 a2 s1.length c2 s1]) (fun x => Hold h x [own cd2 a1 x2.length c1 x2, own cd69 a2 s1.length c2 s1]) mixed (by kernel_rfl) H4 Hold.stable (fun x Hy => (show Hold h x [own cd2 a1 x2.length c1 x2, own cd69 a2 s1.length c2 s1] from Hy).pick [0, 1] (by kernel_rfl)) ?_
        refine DR_b 13 [.slice ac_ c_.length cc_, .int .i64 x4] 0 (by kernel_rfl) (by kernel_rfl) (by kernel_rfl) (fun w => by kernel_rfl) ?_
        refine DR_y 12 (i := 2) (.pointer (some (adr ac_ (x4.toNat * 1)))) (by kernel_rfl) (by kernel_rfl) (by kernel_rfl) (fun hx Hx => (YE.of (Y_idx (t := 39) (e := 2) (sz := 1) (a := ac_) (n := c_.length) (cap := cc_) (kk := .i64) (i := x4) (by kernel_rfl) Try.underlying39 (by kernel_rfl) ((rc_.at H4.ext).cell hx5).1 hx5l hx5u))) ?_
        refine DR_y 11 (i := 3) (.int .i64 x6) (by kernel_rfl) (by kernel_rfl) (by kernel_rfl) (fun hx Hx => (YE.of (Y_load1 (t := 2) (p := adr ac_ (x4.toNat * 1)) (v := .int .i64 x6) (by kernel_rfl) (fun w => by kernel_rfl) (cd2_cell (rc_.at Hx.ext) hx5)))) ?_
        refine DR_b 9 [.slice ac_ c_.length cc_, .int .i64 x5] 4 (by kernel_rfl) (by kernel_rfl) (by kernel_rfl) (fun w => by kernel_rfl) ?_
        refine DR_y 8 (i := 6) (.pointer (some (adr ac_ (x5.toNat * 1)))) (by kernel_rfl) (by kernel_rfl) (by kernel_rfl) (fun hx Hx => (YE.of (Y_idx (t := 39) (e := 2) (sz := 1) (a := ac_) (n := c_.length) (cap := cc_) (kk := .i64) (i := x5) (by kernel_rfl) Try.underlying39 (by kernel_rfl) ((rc_.at H4.ext).cell hx6).1 hx6l hx6u))) ?_
        refine DR_y 7 (i := 7) (.int .i64 x7) (by kernel_rfl) (by kernel_rfl) (by kernel_rfl) (fun hx Hx => (YE.of (Y_load1 (t := 2) (p := adr ac_ (x5.toNat * 1)) (v := .int .i64 x7) (by kernel_rfl) (fun w => by kernel_rfl) (cd2_cell (rc_.at Hx.ext) hx6)))) ?_
        refine DR_b 3 [.int .i64 (w64 (x6 - x7)), .int .i64 x5, .int .i64 x4, .int .i64 (w64 (x5 - x4))] 8 (by kernel_rfl) (by kernel_rfl) (by kernel_rfl) (fun w => by kernel_rfl) ?_
        refine DR_y 2 (i := 12) (.agg #[.int .i64 x8.Num, .int .i64 x8.Den]) (by kernel_rfl) (by kernel_rfl) (by kernel_rfl) (fun hx Hx => (YE_call (f := 120) (args := #[.int .i64 (w64 (x6 - x7)), .int .i64 (w64 (x5 - x4))]) (v := .agg #[.int .i64 x8.Num, .int .i64 x8.Den]) (by kernel_rfl) ((w_impl_ratioOf hx (w64 (x6 - x7)) (w64 (x5 - x4)) _ _ hx7).mono fun _ _ ⟨e, H'⟩ => ⟨e, H'.ext⟩))) ?_
        refine DR_e 1 13 (by kernel_rfl) (by kernel_rfl) (by kernel_rfl) (fun h4 H6 => ?_)
        have H7 : Hold h h4 [own cd2 a1 x2.length c1 x2, own cd69 a2 s1.length c2 s1] := H6
        refine E_box (ty := 67) (cs := [.int .i64 0, .int .i64 0]) H7 (fun w => by kernel_rfl) (fun b1 h5 H8 => ?_)
        refine ⟨fun x => Hold h x [own cd2 a1 x2.length c1 x2, own cd69 a2 s1.length c2 s1, box b1 67 [.int .i64 0, .int .i64 0]], fun x => Hold h x [box b1 67 [.int .i64 0, .int .i64 0], own cd2 a1 x2.length c1 x2, own cd69 a2 s1.length c2 s1], H8, Hold.stable, fun x Hy => (show Hold h x [box b1 67 [.int .i64 0, .int .i64 0], own cd2 a1 x2.length c1 x2, own cd69 a2 s1.length c2 s1] from Hy).pick [1, 2, 0] (by kernel_rfl), fun x Hy => (show Hold h x [own cd2 a1 x2.length c1 x2, own cd69 a2 s1.length c2 s1, box b1 67 [.int .i64 0, .int .i64 0]] from Hy).pick [0, 1] (by kernel_rfl), ?_⟩
        refine DR_tail (i := 14) (by kernel_rfl) (by kernel_rfl) (by kernel_rfl) (fun h6 H9 => ?_)
        have H10 : Hold h h6 [box b1 67 [.int .i64 0, .int .i64 0], own cd2 a1 x2.length c1 x2, own cd69 a2 s1.length c2 s1] := H9
        refine Run_E (by kernel_rfl) ?_
        refine E_bput (t := 67) (off := 0) (us := [.int .i64 x8.Num, .int .i64 x8.Den]) (v := .agg #[.int .i64 x8.Num, .int .i64 x8.Den]) H10 (by kernel_rfl) (by kernel_rfl) rfl (by kernel_rfl) rfl (fun h7 H11 => ?_)
        refine Run_nil (by kernel_rfl) ?_
        refine Run_keep [0, 4, 5, 6, 7, 8, 9] (L' := [(0, .slice ac_ c_.length cc_), (4, .slice a1 x2.length c1), (5, .slice a2 s1.length c2), (6, .int .i64 i1), (7, .int .i64 x4), (8, .int .i64 x5), (9, .pointer (some ⟨b1, 0, none⟩))]) (by kernel_rfl) ?_
        refine Run_seq ?_
        refine Run_seq ?_
        obtain ⟨x9, hx8, hB1⟩ := M.bind_some hB1
        refine Run_regC (j := 3) (C := fun x => Hold h x [box b1 67 [.int .i64 x8.Num, .int .i64 x8.Den], own cd2 a1 x2.length c1 x2, own cd69 a2 s1.length c2 s1]) (by kernel_rfl) H11 (L' := [(0, .slice ac_ c_.length cc_), (4, .slice a1 x2.length c1), (5, .slice a2 s1.length c2), (6, .int .i64 i1), (7, .int .i64 x4), (8, .int .i64 x5), (9, .pointer (some ⟨b1, 0, none⟩)), (45, .bool (!x9))]) ?_ (fun h8 H12 => ?_)
        · refine QRun_y (.agg #[.int .i64 x8.Num, .int .i64 x8.Den]) (by kernel_rfl) (Y_cls fun hx Hx => (Y_loadA (t := 67) (n := 2) (p := ⟨b1, 0, none⟩) (cs := [.int .i64 x8.Num, .int .i64 x8.Den]) (by kernel_rfl) (fun w => by kernel_rfl) (by kernel_rfl) rfl (Hx.cells (n := 2) (off := 0) 0 rfl rfl))) ?_
          refine QRun_y (.bool x9) (by kernel_rfl) (Y_call (f := 121) (args := #[.agg #[.int .i64 x8.Num, .int .i64 x8.Den]]) (v := .bool x9) (by kernel_rfl) fun hx Hx => (w_impl_IsRatio hx x8 _ _ hx8).mono fun _ _ ⟨e, H'⟩ => ⟨e, Hx.call H' rfl⟩) ?_
          refine QRun_b [.bool (!x9)] 2 _ (by kernel_rfl) (fun w => by kernel_rfl) ?_
          exact QRun_done [0, 4, 5, 6, 7, 8, 9, 45] (by kernel_rfl) (by kernel_rfl)
        have H13 : Hold h h8 [box b1 67 [.int .i64 x8.Num, .int .i64 x8.Den], own cd2 a1 x2.length c1 x2, own cd69 a2 s1.length c2 s1] := H12
        refine Run_cond (b := !x9) (by kernel_rfl) (fun hb3 => ?_) (fun hb3 => ?_)
        · have hB1 := (M.ite_some hB1).1 hb3
          refine Run_seq ?_
          refine Run_reg 2 (by kernel_rfl) (L' := [(2, .slice none 0 0), (3, .int .i64 3)]) ?_ ?_
          · refine QRun_b [.slice none 0 0, .int .i64 3] 0 _ (by kernel_rfl) (fun w => by kernel_rfl) ?_
            exact QRun_done [2, 3] (by kernel_rfl) (by kernel_rfl)
          have hB1 := M.ret_some hB1
          have gx3 := houty1 _ hB1.symm
          have hF := M.cont_inr' hF gx3
          have hF := M.ret_some hF
          subst hF
          have H14 := H13.empty cd69
          have H15 : Hold h h8 [own cd69 none 0 0 []] := H14.pick [0] (by kernel_rfl)
          exact Run_ret2 rfl (ResV_tmp (v := .slice none 0 0) (by kernel_rfl)) (ResV_tmp (v := .int .i64 3) (by kernel_rfl)) ⟨none, 0, rfl, H15⟩
        · have hB1 := (M.ite_some hB1).2 hb3
          refine Run_skip ?_
          refine Run_ops ?_
          refine Run_b [.slice a2 s1.length c2] 0 _ (by kernel_rfl) (fun w => by kernel_rfl) ?_
          refine Run_y (.agg #[.int .i64 x8.Num, .int .i64 x8.Den]) (by kernel_rfl) (Y_loadA (t := 67) (n := 2) (p := ⟨b1, 0, none⟩) (cs := [.int .i64 x8.Num, .int .i64 x8.Den]) (by kernel_rfl) (fun w => by kernel_rfl) (by kernel_rfl) rfl (H13.cells (n := 2) (off := 0) 0 rfl rfl)) ?_
          refine Run_b [.int .i64 x5, .int .i64 x4, .int .i64 (w64 (x5 - x4)), .agg #[.int .i64 x8.Num, .int .i64 x8.Den, .int .i64 (w64 (x5 - x4))]] 2 _ (by kernel_rfl) (fun w => by kernel_rfl) ?_
          refine Run_E (by kernel_rfl) ?_
          refine E_lit (C := cd69) (n := 1) (l := ([⟨x8, (w64 (x5 - x4))⟩] : List TCorner)) (cs := [.int .i64 x8.Num, .int .i64 x8.Den, .int .i64 (w64 (x5 - x4))]) H13 (fun w => by kernel_rfl) (Enc.consE (cd69_own (⟨x8, (w64 (x5 - x4))⟩ : TCorner) _) (Enc.nil _ _) rfl) rfl (by decide) (fun a4 h9 H16 => ?_)
          obtain ⟨l1, hl1, hB1⟩ := M.bind_some hB1
          have hl1 := M.app_some hl1
          have H17 : Hold h h9 [own cd69 a2 s1.length c2 s1, own cd69 a4 1 1 ([⟨x8, (w64 (x5 - x4))⟩] : List TCorner), box b1 67 [.int .i64 x8.Num, .int .i64 x8.Den], own cd2 a1 x2.length c1 x2] := H16.pick [3, 0, 1, 2] (by kernel_rfl)
          have H18 : Hold h h9 [own cd69 a4 1 1 ([⟨x8, (w64 (x5 - x4))⟩] : List TCorner), own cd69 a2 s1.length c2 s1, box b1 67 [.int .i64 x8.Num, .int .i64 x8.Den], own cd2 a1 x2.length c1 x2] := H17.pick [1, 0, 2, 3] (by kernel_rfl)
          have H19 : Hold h h9 [own cd69 a2 s1.length c2 s1, own cd69 a4 1 1 ([⟨x8, (w64 (x5 - x4))⟩] : List TCorner), box b1 67 [.int .i64 x8.Num, .int .i64 x8.Den], own cd2 a1 x2.length c1 x2] := H18.pick [1, 0, 2, 3] (by kernel_rfl)
          refine Run_E (by kernel_rfl) ?_
          refine E_app (C := cd69) (t := 63) (ty := 63) (n := s1.length) (m := 1) H19 cd69_ti rfl Try.underlying63 (by decide) (by kernel_rfl) hl1 (fun a5 c4 h10 H20 => ?_)
          refine Run_b [.slice a5 l1.length c4] 8 _ (by kernel_rfl) (fun w => by kernel_rfl) ?_
          refine Run_nil (by kernel_rfl) ?_
          refine Run_keep [0, 4, 5, 6] (L' := [(0, .slice ac_ c_.length cc_), (4, .slice a1 x2.length c1), (5, .slice a5 l1.length c4), (6, .int .i64 i1)]) (by kernel_rfl) ?_
          refine Run_blk ?_
          refine Run_reg 3 (by kernel_rfl) (L' := [(0, .slice ac_ c_.length cc_), (4, .slice a1 x2.length c1), (5, .slice a5 l1.length c4), (6, .int .i64 (i1 + 1))]) ?_ ?_
          · refine QRun_b [.int .i64 i1] 0 _ (by kernel_rfl) (fun w => by kernel_rfl) ?_
            refine QRun_y (.int .i64 (i1 + 1)) (by kernel_rfl) (Y_eq (v := .int .i64 (w64 (i1 + 1))) (Y_pure (fun w => by kernel_rfl)) (by rw [w64_eq _ (by omega)])) ?_
            refine QRun_b [.int .i64 (i1 + 1)] 2 _ (by kernel_rfl) (fun w => by kernel_rfl) ?_
            exact QRun_done [0, 4, 5, 6] (by kernel_rfl) (by kernel_rfl)
          have H21 : Hold h h10 [own cd2 a1 x2.length c1 x2, own cd69 a5 l1.length c4 l1] := H20.pick [2, 0] (by kernel_rfl)
          have hB1 := M.ret_some hB1
          have gx3 := hgoy1 _ hB1.symm
          exact Run_again [0, 4, 5, 6] (by kernel_rfl) my1 (Nat.lt_succ_self _) ⟨i1 + 1, l1, a5, c4, by omega, gx3, rfl, H21⟩
      · have gx3 := M.for_end gx3 hb2
        subst gx3
        refine Run_exit (k' := _) rfl ?_
        have H22 : Hold h h2 [own cd69 a2 s1.length c2 s1, own cd2 a1 x2.length c1 x2] := H4.pick [1, 0] (by kernel_rfl)
        have H23 : Hold h h2 [own cd69 a2 s1.length c2 s1] := H22.pick [0] (by kernel_rfl)
        exact Run_fall [5] (by kernel_rfl) ⟨s1, a2, c2, rfl, rfl, H23⟩

set_option maxRecDepth 100000 in
set_option maxHeartbeats 4000000 in
theorem w_impl_times (h : Heap) (a_ : Int) (b : Int) (n : Nat) (r : Int) (hF : impl_times a_ b n = some r) :
    Fn Try.prog 94 #[.int .i64 a_, .int .i64 b] h fun v h' => v = .int .i64 r ∧ h' = h := by
  unfold impl_times at hF
  refine Fn_enter (args := [.int .i64 a_, .int .i64 b]) Try.func94 rfl (by kernel_rfl) (by kernel_rfl) (fun w0 _ => ?_)
  refine Run_seq ?_
  refine Run_reg 1 (by kernel_rfl) (L' := [(0, .int .i64 a_), (1, .int .i64 b)]) ?_ ?_
  · refine QRun_b [.int .i64 0] 0 _ (by kernel_rfl) (fun w => by kernel_rfl) ?_
    exact QRun_done [0, 1] (by kernel_rfl) (by kernel_rfl)
  refine Run_seq ?_
  refine Run_seq ?_
  refine Run_reg 6 (by kernel_rfl) (L' := [(0, .int .i64 a_), (1, .int .i64 b), (10, .bool ((a_ == (-1000000000000000)) || (b == (-1000000000000000))))]) ?_ ?_
  · refine QRun_b [.int .i64 a_, .bool (a_ == (-1000000000000000))] 0 _ (by kernel_rfl) (fun w => by kernel_rfl) ?_
    refine QRun_seq 6 [(0, .int .i64 a_), (1, .int .i64 b), (10, .bool ((a_ == (-1000000000000000)) || (b == (-1000000000000000))))] ?_ ?_
    · rcases Bool.eq_false_or_eq_true (a_ == (-1000000000000000)) with hb1 | hb1
      · refine QRun_bool (a_ == (-1000000000000000)) true (by kernel_rfl) (fun w => by kernel_rfl) hb1 ?_
        refine QRun_n (by kernel_rfl) ?_
        refine QRun_n (by kernel_rfl) ?_
        refine QRun_bool true ((a_ == (-1000000000000000)) || (b == (-1000000000000000))) (by kernel_rfl) (fun w => by kernel_rfl) (by rw [hb1]; rfl) ?_
        exact QRun_done [0, 1, 10] (by kernel_rfl) (by kernel_rfl)
      · refine QRun_bool (a_ == (-1000000000000000)) false (by kernel_rfl) (fun w => by kernel_rfl) hb1 ?_
        refine QRun_b [.int .i64 b, .bool (b == (-1000000000000000))] 3 _ (by kernel_rfl) (fun w => by kernel_rfl) ?_
        refine QRun_bool (b == (-1000000000000000)) ((a_ == (-1000000000000000)) || (b == (-1000000000000000))) (by kernel_rfl) (fun w => by kernel_rfl) (by rw [hb1]; rfl) ?_
        exact QRun_done [0, 1, 10] (by kernel_rfl) (by kernel_rfl)
    exact QRun_done [0, 1, 10] (by kernel_rfl) (by kernel_rfl)
  refine Run_cond (b := (a_ == (-1000000000000000)) || (b == (-1000000000000000))) (by kernel_rfl) (fun hb2 => ?_) (fun hb2 => ?_)
  · have hF := (M.ite_some hF).1 hb2
    refine Run_seq ?_
    refine Run_reg 1 (by kernel_rfl) (L' := [(4, .int .i64 (-1000000000000000))]) ?_ ?_
    · refine QRun_b [.int .i64 (-1000000000000000)] 0 _ (by kernel_rfl) (fun w => by kernel_rfl) ?_
      exact QRun_done [4] (by kernel_rfl) (by kernel_rfl)
    have hF := M.ret_some hF
    subst hF
    exact Run_ret1 rfl (ResV_tmp (v := .int .i64 (-1000000000000000)) (by kernel_rfl)) ⟨rfl, rfl⟩
  · have hF := (M.ite_some hF).2 hb2
    refine Run_skip ?_
    refine Run_seq ?_
    refine Run_reg 4 (by kernel_rfl) (L' := [(4, .int .i64 (w64 (a_ + b)))]) ?_ ?_
    · refine QRun_b [.int .i64 a_, .int .i64 b, .int .i64 (w64 (a_ + b)), .int .i64 (w64 (a_ + b))] 0 _ (by kernel_rfl) (fun w => by kernel_rfl) ?_
      exact QRun_done [4] (by kernel_rfl) (by kernel_rfl)
    have hF := M.ret_some hF
    subst hF
    exact Run_ret1 rfl (ResV_tmp (v := .int .i64 (w64 (a_ + b))) (by kernel_rfl)) ⟨rfl, rfl⟩

set_option maxRecDepth 100000 in
set_option maxHeartbeats 4000000 in
theorem w_impl_timesVector (h : Heap) (a_ : List (List Int)) (aa_ : Option Addr) (ca_ : Nat) (ra_ : Rd cd39 h (Lt h) aa_ ca_ a_) (x_ : List Int) (ax_ : Option Addr) (cx_ : Nat) (rx_ : Rd cd2 h (Lt h) ax_ cx_ x_) (n : Nat) (r : (List Int)) (hF : impl_timesVector a_ x_ n = some r) :
    Fn Try.prog 95 #[.slice aa_ a_.length ca_, .slice ax_ x_.length cx_] h fun v h' => ∃ (a0 : Option Addr) (c0 : Nat), v = .slice a0 r.length c0 ∧ Hold h h' [own cd2 a0 r.length c0 r] := by
  unfold impl_timesVector at hF
  refine Fn_enter (args := [.slice aa_ a_.length ca_, .slice ax_ x_.length cx_]) Try.func95 rfl (by kernel_rfl) (by kernel_rfl) (fun w0 _ => ?_)
  have H0 := Hold.init h
  refine Run_seq ?_
  refine Run_reg 1 (by kernel_rfl) (L' := [(0, .slice aa_ a_.length ca_), (1, .slice ax_ x_.length cx_)]) ?_ ?_
  · refine QRun_b [.slice none 0 0] 0 _ (by kernel_rfl) (fun w => by kernel_rfl) ?_
    exact QRun_done [0, 1] (by kernel_rfl) (by kernel_rfl)
  refine Run_seq ?_
  refine Run_ops ?_
  refine Run_b [.slice aa_ a_.length ca_, .int .i64 (a_.length : Int)] 0 _ (by kernel_rfl) (fun w => by kernel_rfl) ?_
  obtain ⟨l1, hl1, hF⟩ := M.bind_some hF
  have hl1 := M.make_some hl1
  refine Run_E (by kernel_rfl) ?_
  refine E_make cd2 0 (kl := .i64) (kc := .i64) H0 cd2_ti Try.underlying39 (by decide) cd2_zero (by kernel_rfl) hl1 (fun a1 h1 H1 => ?_)
  refine Run_b [.slice a1 l1.length l1.length] 3 _ (by kernel_rfl) (fun w => by kernel_rfl) ?_
  refine Run_nil (by kernel_rfl) ?_
  refine Run_keep [0, 1, 5] (L' := [(0, .slice aa_ a_.length ca_), (1, .slice ax_ x_.length cx_), (5, .slice a1 l1.length l1.length)]) (by kernel_rfl) ?_
  refine Run_seq ?_
  refine Run_seq ?_
  refine Run_reg 3 (by kernel_rfl) (L' := [(1, .slice ax_ x_.length cx_), (5, .slice a1 l1.length l1.length), (13, .slice aa_ a_.length ca_), (14, .int .i64 (a_.length : Int)), (15, .int .i64 0)]) ?_ ?_
  · refine QRun_b [.slice aa_ a_.length ca_, .int .i64 (a_.length : Int), .int .i64 0] 0 _ (by kernel_rfl) (fun w => by kernel_rfl) ?_
    exact QRun_done [1, 5, 13, 14, 15] (by kernel_rfl) (by kernel_rfl)
  obtain ⟨x1, gx1, hF⟩ := M.bind_some hF
  obtain ⟨hloy1, hhiy1, gx1⟩ := M.for_start gx1
  refine Run_join (fun L' h' => L' = [(5, .slice a1 l1.length l1.length)] ∧ Hold h h' [own cd2 a1 l1.length l1.length x1]) ?_ ?_
  · rintro _ h3 ⟨rfl, H3⟩
    refine Run_seq ?_
    refine Run_reg 2 (by kernel_rfl) (L' := [(4, .slice a1 l1.length l1.length)]) ?_ ?_
    · refine QRun_b [.slice a1 l1.length l1.length, .slice a1 l1.length l1.length] 0 _ (by kernel_rfl) (fun w => by kernel_rfl) ?_
      exact QRun_done [4] (by kernel_rfl) (by kernel_rfl)
    have hF := M.ret_some hF
    subst hF
    have H10 := H3.norm
    exact Run_ret1 rfl (ResV_tmp (v := .slice a1 l1.length l1.length) (by kernel_rfl)) ⟨a1, l1.length, (by simp only [(H3.len 0 rfl)]), H10⟩
  · refine Run_block ?_
    refine Run_keep [1, 5, 13, 14, 15] (L' := [(1, .slice ax_ x_.length cx_), (5, .slice a1 l1.length l1.length), (13, .slice aa_ a_.length ca_), (14, .int .i64 (a_.length : Int)), (15, .int .i64 0)]) (by kernel_rfl) ?_
    refine Run_loop (fun m L' h' => ∃ (i1 : Int) (s1 : (List Int)), 0 ≤ i1 ∧ M.forN (a_.length : Int) _ _ n m i1 s1 = some x1 ∧ L' = [(1, .slice ax_ x_.length cx_), (5, .slice a1 l1.length l1.length), (13, .slice aa_ a_.length ca_), (14, .int .i64 (a_.length : Int)), (15, .int .i64 i1)] ∧ Hold h h' [own cd2 a1 l1.length l1.length s1]) ((a_.length : Int) - 0 : Int).toNat ⟨0, l1, Int.le_refl _, gx1, rfl, H1⟩ ?_
    rintro my1 _ h2 ⟨i1, s1, hloy1', gx1, rfl, H2⟩
    refine Run_seq ?_
    refine Run_reg 1 (by kernel_rfl) (L' := [(1, .slice ax_ x_.length cx_), (5, .slice a1 l1.length l1.length), (13, .slice aa_ a_.length ca_), (14, .int .i64 (a_.length : Int)), (15, .int .i64 i1), (16, .bool (decide (i1 < (a_.length : Int))))]) ?_ ?_
    · refine QRun_b [.bool (decide (i1 < (a_.length : Int)))] 0 _ (by kernel_rfl) (fun w => by kernel_rfl) ?_
      exact QRun_done [1, 5, 13, 14, 15, 16] (by kernel_rfl) (by kernel_rfl)
    refine Run_seq ?_
    refine Run_cond (b := decide (i1 < (a_.length : Int))) (by kernel_rfl) (fun hb1 => ?_) (fun hb1 => ?_)
    · obtain ⟨my1, y1, rfl, hB1, hgoy1, houty1⟩ := M.for_go gx1 hb1
      have hlty1 := of_decide_eq_true hb1
      refine Run_skip ?_
      refine Run_seq ?_
      refine Run_block ?_
      refine Run_seq ?_
      obtain ⟨x2, hx1, hB1⟩ := M.bind_some hB1
      obtain ⟨hx1l, hx1u, hx1⟩ := M.idx_some hx1
      obtain ⟨a2, c1, hc1, r1⟩ := ra_.row hx1
      refine Run_reg 5 (by kernel_rfl) (L' := [(1, .slice ax_ x_.length cx_), (5, .slice a1 l1.length l1.length), (6, .int .i64 i1), (7, .slice a2 x2.length c1), (13, .slice aa_ a_.length ca_), (14, .int .i64 (a_.length : Int)), (15, .int .i64 i1)]) ?_ ?_
      · refine QRun_b [.int .i64 i1] 0 _ (by kernel_rfl) (fun w => by kernel_rfl) ?_
        refine QRun_y (.pointer (some (adr aa_ (i1.toNat * 1)))) (by kernel_rfl) (Y_idx (t := 37) (e := 39) (sz := 1) (a := aa_) (n := a_.length) (cap := ca_) (kk := .i64) (i := i1) (by kernel_rfl) Try.underlying37 (by kernel_rfl) ((ra_.at H2.ext).cell hx1).1 hx1l hx1u) ?_
        refine QRun_y (.slice a2 x2.length c1) (by kernel_rfl) (Y_load1 (t := 39) (p := adr aa_ (i1.toNat * 1)) (v := .slice a2 x2.length c1) (by kernel_rfl) (fun w => by kernel_rfl) (cell_at H2.ext hc1)) ?_
        refine QRun_b [.int .i64 i1, .slice a2 x2.length c1] 3 _ (by kernel_rfl) (fun w => by kernel_rfl) ?_
        exact QRun_done [1, 5, 6, 7, 13, 14, 15] (by kernel_rfl) (by kernel_rfl)
      refine Run_seq ?_
      refine Run_ops ?_
      obtain ⟨x3, hx2, hB1⟩ := M.bind_some hB1
      obtain ⟨hx2l, hx2u, hx2⟩ := M.idx_some hx2
      refine Run_b [.slice a1 l1.length l1.length, .int .i64 i1] 0 _ (by kernel_rfl) (fun w => by kernel_rfl) ?_
      refine Run_y (.pointer (some (adr a1 (i1.toNat * 1)))) (by kernel_rfl) (Y_idx (t := 39) (e := 2) (sz := 1) (a := a1) (n := l1.length) (cap := l1.length) (kk := .i64) (i := i1) (by kernel_rfl) Try.underlying39 (by kernel_rfl) ((H2.rd 0 rfl).cell hx2).1 hx2l (by rw [← (H2.len 0 rfl)]; exact hx2u)) ?_
      obtain ⟨l2, hu1, hB1⟩ := M.bind_some hB1
      have hu1 := M.upd_some hu1
      refine Run_E (by kernel_rfl) ?_
      refine E_put (C := cd2) (t := 2) (sz := 1) (j := i1) (x := (-1000000000000000)) (v := .int .i64 (-1000000000000000)) H2 cd2_flat (by kernel_rfl) rfl (cd2_own _) (by kernel_rfl) hu1 (fun h4 H4 => ?_)
      refine Run_nil (by kernel_rfl) ?_
      refine Run_keep [1, 5, 6, 7, 13, 14, 15] (L' := [(1, .slice ax_ x_.length cx_), (5, .slice a1 l1.length l1.length), (6, .int .i64 i1), (7, .slice a2 x2.length c1), (13, .slice aa_ a_.length ca_), (14, .int .i64 (a_.length : Int)), (15, .int .i64 i1)]) (by kernel_rfl) ?_
      refine Run_seq ?_
      refine Run_reg 3 (by kernel_rfl) (L' := [(1, .slice ax_ x_.length cx_), (5, .slice a1 l1.length l1.length), (6, .int .i64 i1), (13, .slice aa_ a_.length ca_), (14, .int .i64 (a_.length : Int)), (15, .int .i64 i1), (23, .slice a2 x2.length c1), (24, .int .i64 (x2.length : Int)), (25, .int .i64 0)]) ?_ ?_
      · refine QRun_b [.slice a2 x2.length c1, .int .i64 (x2.length : Int), .int .i64 0] 0 _ (by kernel_rfl) (fun w => by kernel_rfl) ?_
        exact QRun_done [1, 5, 6, 13, 14, 15, 23, 24, 25] (by kernel_rfl) (by kernel_rfl)
      obtain ⟨x4, gx4, hB1⟩ := M.bind_some hB1
      obtain ⟨hloy2, hhiy2, gx4⟩ := M.for_start gx4
      refine Run_join (fun L' h' => L' = [(1, .slice ax_ x_.length cx_), (5, .slice a1 l1.length l1.length), (13, .slice aa_ a_.length ca_), (14, .int .i64 (a_.length : Int)), (15, .int .i64 i1)] ∧ Hold h h' [own cd2 a1 l1.length l1.length x4]) ?_ ?_
      · rintro _ h6 ⟨rfl, H6⟩
        refine Run_blk ?_
        refine Run_reg 2 (by kernel_rfl) (L' := [(1, .slice ax_ x_.length cx_), (5, .slice a1 l1.length l1.length), (13, .slice aa_ a_.length ca_), (14, .int .i64 (a_.length : Int)), (15, .int .i64 (i1 + 1))]) ?_ ?_
        · refine QRun_y (.int .i64 (i1 + 1)) (by kernel_rfl) (Y_eq (v := .int .i64 (w64 (i1 + 1))) (Y_pure (fun w => by kernel_rfl)) (by rw [w64_eq _ (by omega)])) ?_
          refine QRun_b [.int .i64 (i1 + 1)] 1 _ (by kernel_rfl) (fun w => by kernel_rfl) ?_
          exact QRun_done [1, 5, 13, 14, 15] (by kernel_rfl) (by kernel_rfl)
        have hB1 := M.ret_some hB1
        have gx1 := hgoy1 _ hB1.symm
        exact Run_again [1, 5, 13, 14, 15] (by kernel_rfl) my1 (Nat.lt_succ_self _) ⟨i1 + 1, x4, by omega, gx1, rfl, H6⟩
      · refine Run_block ?_
        refine Run_keep [1, 5, 6, 13, 14, 15, 23, 24, 25] (L' := [(1, .slice ax_ x_.length cx_), (5, .slice a1 l1.length l1.length), (6, .int .i64 i1), (13, .slice aa_ a_.length ca_), (14, .int .i64 (a_.length : Int)), (15, .int .i64 i1), (23, .slice a2 x2.length c1), (24, .int .i64 (x2.length : Int)), (25, .int .i64 0)]) (by kernel_rfl) ?_
        refine Run_loop (fun m L' h' => ∃ (i2 : Int) (s2 : (List Int)), 0 ≤ i2 ∧ M.forN (x2.length : Int) _ _ n m i2 s2 = some x4 ∧ L' = [(1, .slice ax_ x_.length cx_), (5, .slice a1 l1.length l1.length), (6, .int .i64 i1), (13, .slice aa_ a_.length ca_), (14, .int .i64 (a_.length : Int)), (15, .int .i64 i1), (23, .slice a2 x2.length c1), (24, .int .i64 (x2.length : Int)), (25, .int .i64 i2)] ∧ Hold h h' [own cd2 a1 l1.length l1.length s2]) ((x2.length : Int) - 0 : Int).toNat ⟨0, l2, Int.le_refl _, gx4, rfl, H4⟩ ?_
        rintro my2 _ h5 ⟨i2, s2, hloy2', gx4, rfl, H5⟩
        refine Run_seq ?_
        refine Run_reg 1 (by kernel_rfl) (L' := [(1, .slice ax_ x_.length cx_), (5, .slice a1 l1.length l1.length), (6, .int .i64 i1), (13, .slice aa_ a_.length ca_), (14, .int .i64 (a_.length : Int)), (15, .int .i64 i1), (23, .slice a2 x2.length c1), (24, .int .i64 (x2.length : Int)), (25, .int .i64 i2), (26, .bool (decide (i2 < (x2.length : Int))))]) ?_ ?_
        · refine QRun_b [.bool (decide (i2 < (x2.length : Int)))] 0 _ (by kernel_rfl) (fun w => by kernel_rfl) ?_
          exact QRun_done [1, 5, 6, 13, 14, 15, 23, 24, 25, 26] (by kernel_rfl) (by kernel_rfl)
        refine Run_seq ?_
        refine Run_cond (b := decide (i2 < (x2.length : Int))) (by kernel_rfl) (fun hb2 => ?_) (fun hb2 => ?_)
        · obtain ⟨my2, y2, rfl, hB2, hgoy2, houty2⟩ := M.for_go gx4 hb2
          have hlty2 := of_decide_eq_true hb2
          refine Run_skip ?_
          refine Run_seq ?_
          refine Run_block ?_
          refine Run_seq ?_
          obtain ⟨x5, hx3, hB2⟩ := M.bind_some hB2
          obtain ⟨hx3l, hx3u, hx3⟩ := M.idx_some hx3
          refine Run_reg 5 (by kernel_rfl) (L' := [(1, .slice ax_ x_.length cx_), (5, .slice a1 l1.length l1.length), (6, .int .i64 i1), (8, .int .i64 i2), (9, .int .i64 x5), (13, .slice aa_ a_.length ca_), (14, .int .i64 (a_.length : Int)), (15, .int .i64 i1), (23, .slice a2 x2.length c1), (24, .int .i64 (x2.length : Int)), (25, .int .i64 i2)]) ?_ ?_
          · refine QRun_b [.int .i64 i2] 0 _ (by kernel_rfl) (fun w => by kernel_rfl) ?_
            refine QRun_y (.pointer (some (adr a2 (i2.toNat * 1)))) (by kernel_rfl) (Y_idx (t := 39) (e := 2) (sz := 1) (a := a2) (n := x2.length) (cap := c1) (kk := .i64) (i := i2) (by kernel_rfl) Try.underlying39 (by kernel_rfl) ((r1.at H5.ext).cell hx3).1 hx3l hx3u) ?_
            refine QRun_y (.int .i64 x5) (by kernel_rfl) (Y_load1 (t := 2) (p := adr a2 (i2.toNat * 1)) (v := .int .i64 x5) (by kernel_rfl) (fun w => by kernel_rfl) (cd2_cell (r1.at H5.ext) hx3)) ?_
            refine QRun_b [.int .i64 i2, .int .i64 x5] 3 _ (by kernel_rfl) (fun w => by kernel_rfl) ?_
            exact QRun_done [1, 5, 6, 8, 9, 13, 14, 15, 23, 24, 25] (by kernel_rfl) (by kernel_rfl)
          obtain ⟨x6, hx4, hB2⟩ := M.bind_some hB2
          obtain ⟨hx4l, hx4u, hx4⟩ := M.idx_some hx4
          obtain ⟨x7, hx5, hB2⟩ := M.bind_some hB2
          obtain ⟨hx5l, hx5u, hx5⟩ := M.idx_some hx5
          obtain ⟨x8, hx6, hB2⟩ := M.bind_some hB2
          obtain ⟨x9, hx7, hB2⟩ := M.bind_some hB2
          obtain ⟨hx7l, hx7u, hx7⟩ := M.idx_some hx7
          refine Run_D (fun x => Hold h x [own cd2 a1 l1.length l1.length s2]) (fun x => Hold h x [own cd2 a1 l1.length l1.length s2]) mixed (by kernel_rfl) H5 Hold.stable (fun x Hy => (show Hold h x [own cd2 a1 l1.length l1.length s2] from Hy).pick [0] (by kernel_rfl)) ?_
          refine DR_b 11 [.slice a1 l1.length l1.length, .int .i64 i1, .slice a1 l1.length l1.length, .int .i64 i1] 0 (by kernel_rfl) (by kernel_rfl) (by kernel_rfl) (fun w => by kernel_rfl) ?_
          refine DR_y 10 (i := 4) (.pointer (some (adr a1 (i1.toNat * 1)))) (by kernel_rfl) (by kernel_rfl) (by kernel_rfl) (fun hx Hx => (YE.of (Y_idx (t := 39) (e := 2) (sz := 1) (a := a1) (n := l1.length) (cap := l1.length) (kk := .i64) (i := i1) (by kernel_rfl) Try.underlying39 (by kernel_rfl) ((H5.rd 0 rfl).cell hx4).1 hx4l (by rw [← (H5.len 0 rfl)]; exact hx4u)))) ?_
          refine DR_y 9 (i := 5) (.int .i64 x6) (by kernel_rfl) (by kernel_rfl) (by kernel_rfl) (fun hx Hx => (YE.of (Y_load1 (t := 2) (p := adr a1 (i1.toNat * 1)) (v := .int .i64 x6) (by kernel_rfl) (fun w => by kernel_rfl) (cd2_cell (Hx.rd 0 rfl) hx4)))) ?_
          refine DR_b 6 [.int .i64 x5, .slice ax_ x_.length cx_, .int .i64 i2] 6 (by kernel_rfl) (by kernel_rfl) (by kernel_rfl) (fun w => by kernel_rfl) ?_
          refine DR_y 5 (i := 9) (.pointer (some (adr ax_ (i2.toNat * 1)))) (by kernel_rfl) (by kernel_rfl) (by kernel_rfl) (fun hx Hx => (YE.of (Y_idx (t := 39) (e := 2) (sz := 1) (a := ax_) (n := x_.length) (cap := cx_) (kk := .i64) (i := i2) (by kernel_rfl) Try.underlying39 (by kernel_rfl) ((rx_.at H5.ext).cell hx5).1 hx5l hx5u))) ?_
          refine DR_y 4 (i := 10) (.int .i64 x7) (by kernel_rfl) (by kernel_rfl) (by kernel_rfl) (fun hx Hx => (YE.of (Y_load1 (t := 2) (p := adr ax_ (i2.toNat * 1)) (v := .int .i64 x7) (by kernel_rfl) (fun w => by kernel_rfl) (cd2_cell (rx_.at Hx.ext) hx5)))) ?_
          refine DR_y 3 (i := 11) (.int .i64 x8) (by kernel_rfl) (by kernel_rfl) (by kernel_rfl) (fun hx Hx => (YE.of (Y_callq (f := 94) (args := #[.int .i64 x5, .int .i64 x7]) (v := .int .i64 x8) (by kernel_rfl) (w_impl_times hx x5 x7 _ _ hx6)))) ?_
          refine DR_b 2 [.int .i64 (mx x6 x8)] 12 (by kernel_rfl) (by kernel_rfl) (by kernel_rfl) (fun w => by kernel_rfl) ?_
          refine DR_y 1 (i := 13) (.pointer (some (adr a1 (i1.toNat * 1)))) (by kernel_rfl) (by kernel_rfl) (by kernel_rfl) (fun hx Hx => (YE.of (Y_idx (t := 39) (e := 2) (sz := 1) (a := a1) (n := l1.length) (cap := l1.length) (kk := .i64) (i := i1) (by kernel_rfl) Try.underlying39 (by kernel_rfl) ((H5.rd 0 rfl).cell hx7).1 hx7l (by rw [← (H5.len 0 rfl)]; exact hx7u)))) ?_
          refine DR_tail (i := 14) (by kernel_rfl) (by kernel_rfl) (by kernel_rfl) (fun h7 H7 => ?_)
          have H8 : Hold h h7 [own cd2 a1 l1.length l1.length s2] := H7
          obtain ⟨l3, hu2, hB2⟩ := M.bind_some hB2
          have hu2 := M.upd_some hu2
          refine Run_E (by kernel_rfl) ?_
          refine E_put (C := cd2) (t := 2) (sz := 1) (j := i1) (x := (mx x6 x8)) (v := .int .i64 (mx x6 x8)) H8 cd2_flat (by kernel_rfl) rfl (cd2_own _) (by kernel_rfl) hu2 (fun h8 H9 => ?_)
          refine Run_nil (by kernel_rfl) ?_
          refine Run_keep [1, 5, 6, 13, 14, 15, 23, 24, 25] (L' := [(1, .slice ax_ x_.length cx_), (5, .slice a1 l1.length l1.length), (6, .int .i64 i1), (13, .slice aa_ a_.length ca_), (14, .int .i64 (a_.length : Int)), (15, .int .i64 i1), (23, .slice a2 x2.length c1), (24, .int .i64 (x2.length : Int)), (25, .int .i64 i2)]) (by kernel_rfl) ?_
          refine Run_blk ?_
          refine Run_reg 2 (by kernel_rfl) (L' := [(1, .slice ax_ x_.length cx_), (5, .slice a1 l1.length l1.length), (6, .int .i64 i1), (13, .slice aa_ a_.length ca_), (14, .int .i64 (a_.length : Int)), (15, .int .i64 i1), (23, .slice a2 x2.length c1), (24, .int .i64 (x2.length : Int)), (25, .int .i64 (i2 + 1))]) ?_ ?_
          · refine QRun_y (.int .i64 (i2 + 1)) (by kernel_rfl) (Y_eq (v := .int .i64 (w64 (i2 + 1))) (Y_pure (fun w => by kernel_rfl)) (by rw [w64_eq _ (by omega)])) ?_
            refine QRun_b [.int .i64 (i2 + 1)] 1 _ (by kernel_rfl) (fun w => by kernel_rfl) ?_
            exact QRun_done [1, 5, 6, 13, 14, 15, 23, 24, 25] (by kernel_rfl) (by kernel_rfl)
          have hB2 := M.ret_some hB2
          have gx4 := hgoy2 _ hB2.symm
          exact Run_again [1, 5, 6, 13, 14, 15, 23, 24, 25] (by kernel_rfl) my2 (Nat.lt_succ_self _) ⟨i2 + 1, l3, by omega, gx4, rfl, H9⟩
        · have gx4 := M.for_end gx4 hb2
          subst gx4
          refine Run_exit (k' := _) rfl ?_
          exact Run_fall [1, 5, 13, 14, 15] (by kernel_rfl) ⟨rfl, H5⟩
    · have gx1 := M.for_end gx1 hb1
      subst gx1
      refine Run_exit (k' := _) rfl ?_
      exact Run_fall [5] (by kernel_rfl) ⟨rfl, H2⟩

set_option maxRecDepth 100000 in
set_option maxHeartbeats 4000000 in
theorem w_cmp_isNaN_i (h : Heap) (x_ : Int) (n : Nat) (r : Bool) (hF : cmp_isNaN_i x_ n = some r) :
    Fn Try.prog 189 #[.int .i64 x_] h fun v h' => v = .bool r ∧ h' = h := by
  unfold cmp_isNaN_i at hF
  refine Fn_enter (args := [.int .i64 x_]) Try.func189 rfl (by kernel_rfl) (by kernel_rfl) (fun w0 _ => ?_)
  refine Run_seq ?_
  refine Run_reg 1 (by kernel_rfl) (L' := [(0, .int .i64 x_)]) ?_ ?_
  · refine QRun_b [.bool false] 0 _ (by kernel_rfl) (fun w => by kernel_rfl) ?_
    exact QRun_done [0] (by kernel_rfl) (by kernel_rfl)
  refine Run_seq ?_
  refine Run_reg 4 (by kernel_rfl) (L' := [(2, .bool (x_ != x_))]) ?_ ?_
  · refine QRun_b [.int .i64 x_, .int .i64 x_, .bool (x_ != x_), .bool (x_ != x_)] 0 _ (by kernel_rfl) (fun w => by kernel_rfl) ?_
    exact QRun_done [2] (by kernel_rfl) (by kernel_rfl)
  have hF := M.ret_some hF
  subst hF
  exact Run_ret1 rfl (ResV_tmp (v := .bool (x_ != x_)) (by kernel_rfl)) ⟨rfl, rfl⟩

set_option maxRecDepth 100000 in
set_option maxHeartbeats 4000000 in
theorem w_cmp_Compare_i (h : Heap) (x_ : Int) (y_ : Int) (n : Nat) (r : Int) (hF : cmp_Compare_i x_ y_ n = some r) :
    Fn Try.prog 186 #[.int .i64 x_, .int .i64 y_] h fun v h' => v = .int .i64 r ∧ h' = h := by
  unfold cmp_Compare_i at hF
  refine Fn_enter (args := [.int .i64 x_, .int .i64 y_]) Try.func186 rfl (by kernel_rfl) (by kernel_rfl) (fun w0 _ => ?_)
  refine Run_seq ?_
  refine Run_reg 1 (by kernel_rfl) (L' := [(0, .int .i64 x_), (1, .int .i64 y_)]) ?_ ?_
  · refine QRun_b [.int .i64 0] 0 _ (by kernel_rfl) (fun w => by kernel_rfl) ?_
    exact QRun_done [0, 1] (by kernel_rfl) (by kernel_rfl)
  refine Run_seq ?_
  obtain ⟨x1, hx1, hF⟩ := M.bind_some hF
  refine Run_reg 3 (by kernel_rfl) (L' := [(0, .int .i64 x_), (1, .int .i64 y_), (5, .bool x1)]) ?_ ?_
  · refine QRun_b [.int .i64 x_] 0 _ (by kernel_rfl) (fun w => by kernel_rfl) ?_
    refine QRun_y (.bool x1) (by kernel_rfl) (Y_callq (f := 189) (args := #[.int .i64 x_]) (v := .bool x1) (by kernel_rfl) (w_cmp_isNaN_i h x_ _ _ hx1)) ?_
    refine QRun_b [.bool x1] 2 _ (by kernel_rfl) (fun w => by kernel_rfl) ?_
    exact QRun_done [0, 1, 5] (by kernel_rfl) (by kernel_rfl)
  refine Run_seq ?_
  obtain ⟨x2, hx2, hF⟩ := M.bind_some hF
  refine Run_reg 3 (by kernel_rfl) (L' := [(0, .int .i64 x_), (1, .int .i64 y_), (5, .bool x1), (6, .bool x2)]) ?_ ?_
  · refine QRun_b [.int .i64 y_] 0 _ (by kernel_rfl) (fun w => by kernel_rfl) ?_
    refine QRun_y (.bool x2) (by kernel_rfl) (Y_callq (f := 189) (args := #[.int .i64 y_]) (v := .bool x2) (by kernel_rfl) (w_cmp_isNaN_i h y_ _ _ hx2)) ?_
    refine QRun_b [.bool x2] 2 _ (by kernel_rfl) (fun w => by kernel_rfl) ?_
    exact QRun_done [0, 1, 5, 6] (by kernel_rfl) (by kernel_rfl)
  refine Run_seq ?_
  refine Run_seq ?_
  refine Run_reg 1 (by kernel_rfl) (L' := [(0, .int .i64 x_), (1, .int .i64 y_), (6, .bool x2), (11, .bool x1)]) ?_ ?_
  · refine QRun_b [.bool x1] 0 _ (by kernel_rfl) (fun w => by kernel_rfl) ?_
    exact QRun_done [0, 1, 6, 11] (by kernel_rfl) (by kernel_rfl)
  refine Run_cond (b := x1) (by kernel_rfl) (fun hb1 => ?_) (fun hb1 => ?_)
  · have hF := (M.ite_some hF).1 hb1
    refine Run_seq ?_
    refine Run_seq ?_
    refine Run_reg 1 (by kernel_rfl) (L' := [(12, .bool x2)]) ?_ ?_
    · refine QRun_b [.bool x2] 0 _ (by kernel_rfl) (fun w => by kernel_rfl) ?_
      exact QRun_done [12] (by kernel_rfl) (by kernel_rfl)
    refine Run_cond (b := x2) (by kernel_rfl) (fun hb2 => ?_) (fun hb2 => ?_)
    · have hF := (M.ite_some hF).1 hb2
      refine Run_seq ?_
      refine Run_reg 1 (by kernel_rfl) (L' := [(4, .int .i64 0)]) ?_ ?_
      · refine QRun_b [.int .i64 0] 0 _ (by kernel_rfl) (fun w => by kernel_rfl) ?_
        exact QRun_done [4] (by kernel_rfl) (by kernel_rfl)
      have hF := M.ret_some hF
      subst hF
      exact Run_ret1 rfl (ResV_tmp (v := .int .i64 0) (by kernel_rfl)) ⟨rfl, rfl⟩
    · have hF := (M.ite_some hF).2 hb2
      refine Run_skip ?_
      refine Run_seq ?_
      refine Run_reg 1 (by kernel_rfl) (L' := [(4, .int .i64 (-1))]) ?_ ?_
      · refine QRun_b [.int .i64 (-1)] 0 _ (by kernel_rfl) (fun w => by kernel_rfl) ?_
        exact QRun_done [4] (by kernel_rfl) (by kernel_rfl)
      have hF := M.ret_some hF
      subst hF
      exact Run_ret1 rfl (ResV_tmp (v := .int .i64 (-1)) (by kernel_rfl)) ⟨rfl, rfl⟩
  · have hF := (M.ite_some hF).2 hb1
    refine Run_skip ?_
    refine Run_seq ?_
    refine Run_seq ?_
    refine Run_reg 1 (by kernel_rfl) (L' := [(0, .int .i64 x_), (1, .int .i64 y_), (13, .bool x2)]) ?_ ?_
    · refine QRun_b [.bool x2] 0 _ (by kernel_rfl) (fun w => by kernel_rfl) ?_
      exact QRun_done [0, 1, 13] (by kernel_rfl) (by kernel_rfl)
    refine Run_cond (b := x2) (by kernel_rfl) (fun hb3 => ?_) (fun hb3 => ?_)
    · have hF := (M.ite_some hF).1 hb3
      refine Run_seq ?_
      refine Run_reg 1 (by kernel_rfl) (L' := [(4, .int .i64 1)]) ?_ ?_
      · refine QRun_b [.int .i64 1] 0 _ (by kernel_rfl) (fun w => by kernel_rfl) ?_
        exact QRun_done [4] (by kernel_rfl) (by kernel_rfl)
      have hF := M.ret_some hF
      subst hF
      exact Run_ret1 rfl (ResV_tmp (v := .int .i64 1) (by kernel_rfl)) ⟨rfl, rfl⟩
    · have hF := (M.ite_some hF).2 hb3
      refine Run_skip ?_
      refine Run_seq ?_
      refine Run_seq ?_
      refine Run_reg 3 (by kernel_rfl) (L' := [(0, .int .i64 x_), (1, .int .i64 y_), (16, .bool (decide (x_ < y_)))]) ?_ ?_
      · refine QRun_b [.int .i64 x_, .int .i64 y_, .bool (decide (x_ < y_))] 0 _ (by kernel_rfl) (fun w => by kernel_rfl) ?_
        exact QRun_done [0, 1, 16] (by kernel_rfl) (by kernel_rfl)
      refine Run_cond (b := decide (x_ < y_)) (by kernel_rfl) (fun hb4 => ?_) (fun hb4 => ?_)
      · have hF := (M.ite_some hF).1 hb4
        refine Run_seq ?_
        refine Run_reg 1 (by kernel_rfl) (L' := [(4, .int .i64 (-1))]) ?_ ?_
        · refine QRun_b [.int .i64 (-1)] 0 _ (by kernel_rfl) (fun w => by kernel_rfl) ?_
          exact QRun_done [4] (by kernel_rfl) (by kernel_rfl)
        have hF := M.ret_some hF
        subst hF
        exact Run_ret1 rfl (ResV_tmp (v := .int .i64 (-1)) (by kernel_rfl)) ⟨rfl, rfl⟩
      · have hF := (M.ite_some hF).2 hb4
        refine Run_skip ?_
        refine Run_seq ?_
        refine Run_seq ?_
        refine Run_reg 3 (by kernel_rfl) (L' := [(19, .bool (decide (y_ < x_)))]) ?_ ?_
        · refine QRun_b [.int .i64 x_, .int .i64 y_, .bool (decide (y_ < x_))] 0 _ (by kernel_rfl) (fun w => by kernel_rfl) ?_
          exact QRun_done [19] (by kernel_rfl) (by kernel_rfl)
        refine Run_cond (b := decide (y_ < x_)) (by kernel_rfl) (fun hb5 => ?_) (fun hb5 => ?_)
        · have hF := (M.ite_some hF).1 hb5
          refine Run_seq ?_
          refine Run_reg 1 (by kernel_rfl) (L' := [(4, .int .i64 1)]) ?_ ?_
          · refine QRun_b [.int .i64 1] 0 _ (by kernel_rfl) (fun w => by kernel_rfl) ?_
            exact QRun_done [4] (by kernel_rfl) (by kernel_rfl)
          have hF := M.ret_some hF
          subst hF
          exact Run_ret1 rfl (ResV_tmp (v := .int .i64 1) (by kernel_rfl)) ⟨rfl, rfl⟩
        · have hF := (M.ite_some hF).2 hb5
          refine Run_skip ?_
          refine Run_seq ?_
          refine Run_reg 1 (by kernel_rfl) (L' := [(4, .int .i64 0)]) ?_ ?_
          · refine QRun_b [.int .i64 0] 0 _ (by kernel_rfl) (fun w => by kernel_rfl) ?_
            exact QRun_done [4] (by kernel_rfl) (by kernel_rfl)
          have hF := M.ret_some hF
          subst hF
          exact Run_ret1 rfl (ResV_tmp (v := .int .i64 0) (by kernel_rfl)) ⟨rfl, rfl⟩

set_option maxRecDepth 100000 in
set_option maxHeartbeats 4000000 in
theorem w_impl_compareRatios (h : Heap) (a_ : TRatio) (b : TRatio) (n : Nat) (r : Int) (hF : impl_compareRatios a_ b n = some r) :
    Fn Try.prog 173 #[.agg #[.int .i64 a_.Num, .int .i64 a_.Den], .agg #[.int .i64 b.Num, .int .i64 b.Den]] h fun v h' => v = .int .i64 r ∧ Hold h h' [] := by
  unfold impl_compareRatios at hF
  refine Fn_enter (args := [.agg #[.int .i64 a_.Num, .int .i64 a_.Den], .agg #[.int .i64 b.Num, .int .i64 b.Den]]) Try.func173 rfl (by kernel_rfl) (by kernel_rfl) (fun w0 _ => ?_)
  have H0 := Hold.init h
  refine Run_seq ?_
  refine Run_ops ?_
  refine Run_E (by kernel_rfl) ?_
  refine E_box (ty := 67) (cs := [.int .i64 a_.Num, .int .i64 a_.Den]) H0 (fun w => by kernel_rfl) (fun b1 h1 H1 => ?_)
  refine Run_E (by kernel_rfl) ?_
  refine E_box (ty := 67) (cs := [.int .i64 b.Num, .int .i64 b.Den]) H1 (fun w => by kernel_rfl) (fun b2 h2 H2 => ?_)
  refine Run_b [.int .i64 0] 2 _ (by kernel_rfl) (fun w => by kernel_rfl) ?_
  refine Run_nil (by kernel_rfl) ?_
  refine Run_keep [2, 3] (L' := [(2, .pointer (some ⟨b1, 0, none⟩)), (3, .pointer (some ⟨b2, 0, none⟩))]) (by kernel_rfl) ?_
  refine Run_seq ?_
  obtain ⟨x1, hx1, hF⟩ := M.bind_some hF
  refine Run_reg 12 (by kernel_rfl) (L' := [(4, .int .i64 x1)]) ?_ ?_
  · refine QRun_b [.pointer (some ⟨b1, 0, none⟩)] 0 _ (by kernel_rfl) (fun w => by kernel_rfl) ?_
    refine QRun_y (.int .i64 a_.Num) (by kernel_rfl) (Y_load1 (t := 2) (p := ⟨b1, 0, none⟩) (v := .int .i64 a_.Num) (by kernel_rfl) (fun w => by kernel_rfl) (H2.cell 1 rfl rfl)) ?_
    refine QRun_b [.pointer (some ⟨b2, 1, none⟩)] 2 _ (by kernel_rfl) (fun w => by kernel_rfl) ?_
    refine QRun_y (.int .i64 b.Den) (by kernel_rfl) (Y_load1 (t := 2) (p := ⟨b2, 1, none⟩) (v := .int .i64 b.Den) (by kernel_rfl) (fun w => by kernel_rfl) (H2.cell 0 rfl rfl)) ?_
    refine QRun_b [.int .i64 (w64 (a_.Num * b.Den)), .pointer (some ⟨b2, 0, none⟩)] 4 _ (by kernel_rfl) (fun w => by kernel_rfl) ?_
    refine QRun_y (.int .i64 b.Num) (by kernel_rfl) (Y_load1 (t := 2) (p := ⟨b2, 0, none⟩) (v := .int .i64 b.Num) (by kernel_rfl) (fun w => by kernel_rfl) (H2.cell 0 rfl rfl)) ?_
    refine QRun_b [.pointer (some ⟨b1, 1, none⟩)] 7 _ (by kernel_rfl) (fun w => by kernel_rfl) ?_
    refine QRun_y (.int .i64 a_.Den) (by kernel_rfl) (Y_load1 (t := 2) (p := ⟨b1, 1, none⟩) (v := .int .i64 a_.Den) (by kernel_rfl) (fun w => by kernel_rfl) (H2.cell 1 rfl rfl)) ?_
    refine QRun_b [.int .i64 (w64 (b.Num * a_.Den))] 9 _ (by kernel_rfl) (fun w => by kernel_rfl) ?_
    refine QRun_y (.int .i64 x1) (by kernel_rfl) (Y_callq (f := 186) (args := #[.int .i64 (w64 (a_.Num * b.Den)), .int .i64 (w64 (b.Num * a_.Den))]) (v := .int .i64 x1) (by kernel_rfl) (w_cmp_Compare_i h2 (w64 (a_.Num * b.Den)) (w64 (b.Num * a_.Den)) _ _ hx1)) ?_
    refine QRun_b [.int .i64 x1] 11 _ (by kernel_rfl) (fun w => by kernel_rfl) ?_
    exact QRun_done [4] (by kernel_rfl) (by kernel_rfl)
  have hF := M.ret_some hF
  subst hF
  have H3 : Hold h h2 [] := H2.pick [] (by kernel_rfl)
  exact Run_ret1 rfl (ResV_tmp (v := .int .i64 x1) (by kernel_rfl)) ⟨rfl, H3⟩

set_option maxRecDepth 100000 in
set_option maxHeartbeats 4000000 in
theorem w_impl_cycleMean (h : Heap) (a_ : List (List Int)) (aa_ : Option Addr) (ca_ : Nat) (ra_ : Rd cd39 h (Lt h) aa_ ca_ a_) (n : Nat) (r : TRatio × Bool) (hF : impl_cycleMean a_ n = some r) :
    Fn Try.prog 138 #[.slice aa_ a_.length ca_] h fun v h' => v = .tuple #[.agg #[.int .i64 r.1.Num, .int .i64 r.1.Den], .bool r.2] ∧ Hold h h' [] := by
  unfold impl_cycleMean at hF
  refine Fn_enter (args := [.slice aa_ a_.length ca_]) Try.func138 rfl (by kernel_rfl) (by kernel_rfl) (fun w0 _ => ?_)
  have H0 := Hold.init h
  refine Run_seq ?_
  refine Run_ops ?_
  refine Run_E (by kernel_rfl) ?_
  refine E_box (ty := 67) (cs := [.int .i64 0, .int .i64 0]) H0 (fun w => by kernel_rfl) (fun b1 h1 H1 => ?_)
  refine Run_b [.bool false] 1 _ (by kernel_rfl) (fun w => by kernel_rfl) ?_
  refine Run_nil (by kernel_rfl) ?_
  refine Run_keep [0, 2] (L' := [(0, .slice aa_ a_.length ca_), (2, .pointer (some ⟨b1, 0, none⟩))]) (by kernel_rfl) ?_
  refine Run_seq ?_
  refine Run_reg 3 (by kernel_rfl) (L' := [(0, .slice aa_ a_.length ca_), (2, .pointer (some ⟨b1, 0, none⟩)), (4, .int .i64 (a_.length : Int))]) ?_ ?_
  · refine QRun_b [.slice aa_ a_.length ca_, .int .i64 (a_.length : Int), .int .i64 (a_.length : Int)] 0 _ (by kernel_rfl) (fun w => by kernel_rfl) ?_
    exact QRun_done [0, 2, 4] (by kernel_rfl) (by kernel_rfl)
  refine Run_seq ?_
  refine Run_ops ?_
  refine Run_b [.int .i64 (a_.length : Int)] 0 _ (by kernel_rfl) (fun w => by kernel_rfl) ?_
  obtain ⟨l1, hl1, hF⟩ := M.bind_some hF
  have hl1 := M.make_some hl1
  refine Run_E (by kernel_rfl) ?_
  refine E_make cd2 0 (kl := .i64) (kc := .i64) H1 cd2_ti Try.underlying39 (by decide) cd2_zero (by kernel_rfl) hl1 (fun a1 h2 H2 => ?_)
  refine Run_E (by kernel_rfl) ?_
  refine E_lit1 (ey := 39) (n := l1.length) H2 (fun w => by kernel_rfl) rfl (fun a2 h3 H3 => ?_)
  refine Run_b [.slice a2 1 1] 3 _ (by kernel_rfl) (fun w => by kernel_rfl) ?_
  refine Run_nil (by kernel_rfl) ?_
  refine Run_keep [0, 2, 4, 5] (L' := [(0, .slice aa_ a_.length ca_), (2, .pointer (some ⟨b1, 0, none⟩)), (4, .int .i64 (a_.length : Int)), (5, .slice a2 1 1)]) (by kernel_rfl) ?_
  refine Run_seq ?_
  refine Run_seq ?_
  refine Run_reg 2 (by kernel_rfl) (L' := [(0, .slice aa_ a_.length ca_), (2, .pointer (some ⟨b1, 0, none⟩)), (4, .int .i64 (a_.length : Int)), (5, .slice a2 1 1), (19, .int .i64 (a_.length : Int)), (20, .int .i64 0)]) ?_ ?_
  · refine QRun_b [.int .i64 (a_.length : Int), .int .i64 0] 0 _ (by kernel_rfl) (fun w => by kernel_rfl) ?_
    exact QRun_done [0, 2, 4, 5, 19, 20] (by kernel_rfl) (by kernel_rfl)
  obtain ⟨x1, gx1, hF⟩ := M.bind_some hF
  obtain ⟨hloy1, hhiy1, gx1⟩ := M.for_start gx1
  refine Run_join (fun L' h' => ∃ (a4 : Option Addr) (c2 : Nat), L' = [(2, .pointer (some ⟨b1, 0, none⟩)), (4, .int .i64 (a_.length : Int)), (5, .slice a4 x1.length c2)] ∧ Hold h h' [box b1 67 [.int .i64 0, .int .i64 0], own cd39 a4 x1.length c2 x1]) ?_ ?_
  · rintro _ h5 ⟨a4, c2, rfl, H5⟩
    refine Run_seq ?_
    refine Run_ops ?_
    refine Run_E (by kernel_rfl) ?_
    refine E_box (ty := 67) (cs := [.int .i64 0, .int .i64 0]) H5 (fun w => by kernel_rfl) (fun b2 h9 H21 => ?_)
    refine Run_nil (by kernel_rfl) ?_
    refine Run_keep [2, 4, 5, 7] (L' := [(2, .pointer (some ⟨b1, 0, none⟩)), (4, .int .i64 (a_.length : Int)), (5, .slice a4 x1.length c2), (7, .pointer (some ⟨b2, 0, none⟩))]) (by kernel_rfl) ?_
    refine Run_seq ?_
    refine Run_reg 1 (by kernel_rfl) (L' := [(2, .pointer (some ⟨b1, 0, none⟩)), (4, .int .i64 (a_.length : Int)), (5, .slice a4 x1.length c2), (7, .pointer (some ⟨b2, 0, none⟩)), (8, .bool false)]) ?_ ?_
    · refine QRun_b [.bool false] 0 _ (by kernel_rfl) (fun w => by kernel_rfl) ?_
      exact QRun_done [2, 4, 5, 7, 8] (by kernel_rfl) (by kernel_rfl)
    refine Run_seq ?_
    refine Run_seq ?_
    refine Run_reg 2 (by kernel_rfl) (L' := [(2, .pointer (some ⟨b1, 0, none⟩)), (4, .int .i64 (a_.length : Int)), (5, .slice a4 x1.length c2), (7, .pointer (some ⟨b2, 0, none⟩)), (8, .bool false), (33, .int .i64 (a_.length : Int)), (34, .int .i64 0)]) ?_ ?_
    · refine QRun_b [.int .i64 (a_.length : Int), .int .i64 0] 0 _ (by kernel_rfl) (fun w => by kernel_rfl) ?_
      exact QRun_done [2, 4, 5, 7, 8, 33, 34] (by kernel_rfl) (by kernel_rfl)
    obtain ⟨x4, gx4, hF⟩ := M.bind_some hF
    obtain ⟨hloy2, hhiy2, gx4⟩ := M.for_start gx4
    refine Run_join (fun L' h' => L' = [(2, .pointer (some ⟨b1, 0, none⟩)), (7, .pointer (some ⟨b2, 0, none⟩)), (8, .bool x4.2)] ∧ Hold h h' [box b1 67 [.int .i64 0, .int .i64 0], box b2 67 [.int .i64 x4.1.Num, .int .i64 x4.1.Den]]) ?_ ?_
    · rintro _ h11 ⟨rfl, H23⟩
      refine Run_seq ?_
      refine Run_ops ?_
      refine Run_y (.agg #[.int .i64 x4.1.Num, .int .i64 x4.1.Den]) (by kernel_rfl) (Y_loadA (t := 67) (n := 2) (p := ⟨b2, 0, none⟩) (cs := [.int .i64 x4.1.Num, .int .i64 x4.1.Den]) (by kernel_rfl) (fun w => by kernel_rfl) (by kernel_rfl) rfl (H23.cells (n := 2) (off := 0) 1 rfl rfl)) ?_
      refine Run_b [.bool x4.2] 1 _ (by kernel_rfl) (fun w => by kernel_rfl) ?_
      refine Run_E (by kernel_rfl) ?_
      refine E_bput (t := 67) (off := 0) (us := [.int .i64 x4.1.Num, .int .i64 x4.1.Den]) (v := .agg #[.int .i64 x4.1.Num, .int .i64 x4.1.Den]) H23 (by kernel_rfl) (by kernel_rfl) rfl (by kernel_rfl) rfl (fun h26 H76 => ?_)
      refine Run_b [.bool x4.2] 3 _ (by kernel_rfl) (fun w => by kernel_rfl) ?_
      refine Run_nil (by kernel_rfl) ?_
      refine Run_keep [2, 3] (L' := [(2, .pointer (some ⟨b1, 0, none⟩)), (3, .bool x4.2)]) (by kernel_rfl) ?_
      have hF := M.ret_some hF
      subst hF
      have H77 : Hold h h26 [] := H76.pick [] (by kernel_rfl)
      exact Run_ret2 rfl (ResV_cell (n := 2) (cs := [.int .i64 x4.1.Num, .int .i64 x4.1.Den]) (by kernel_rfl) (fun w => by kernel_rfl) (by kernel_rfl) rfl (H76.cells (n := 2) (off := 0) 0 rfl rfl)) (ResV_tmp (v := .bool x4.2) (by kernel_rfl)) ⟨rfl, H77⟩
    · refine Run_block ?_
      have H78 : Hold h h9 [box b1 67 [.int .i64 0, .int .i64 0], own cd39 a4 x1.length c2 x1, box b2 67 [.int .i64 0, .int .i64 0]] := H21.pick [1, 2, 0] (by kernel_rfl)
      refine Run_keep [2, 4, 5, 7, 8, 33, 34] (L' := [(2, .pointer (some ⟨b1, 0, none⟩)), (4, .int .i64 (a_.length : Int)), (5, .slice a4 x1.length c2), (7, .pointer (some ⟨b2, 0, none⟩)), (8, .bool false), (33, .int .i64 (a_.length : Int)), (34, .int .i64 0)]) (by kernel_rfl) ?_
      refine Run_loop (fun m L' h' => ∃ (i2 : Int) (s2 : TRatio × Bool), 0 ≤ i2 ∧ M.forN (a_.length : Int) _ _ n m i2 s2 = some x4 ∧ L' = [(2, .pointer (some ⟨b1, 0, none⟩)), (4, .int .i64 (a_.length : Int)), (5, .slice a4 x1.length c2), (7, .pointer (some ⟨b2, 0, none⟩)), (8, .bool s2.2), (33, .int .i64 (a_.length : Int)), (34, .int .i64 i2)] ∧ Hold h h' [box b1 67 [.int .i64 0, .int .i64 0], own cd39 a4 x1.length c2 x1, box b2 67 [.int .i64 s2.1.Num, .int .i64 s2.1.Den]]) ((a_.length : Int) - 0 : Int).toNat ⟨0, ((⟨0, 0⟩ : TRatio), false), Int.le_refl _, gx4, rfl, H78⟩ ?_
      rintro my2 _ h10 ⟨i2, s2, hloy2', gx4, rfl, H22⟩
      refine Run_seq ?_
      refine Run_reg 1 (by kernel_rfl) (L' := [(2, .pointer (some ⟨b1, 0, none⟩)), (4, .int .i64 (a_.length : Int)), (5, .slice a4 x1.length c2), (7, .pointer (some ⟨b2, 0, none⟩)), (8, .bool s2.2), (33, .int .i64 (a_.length : Int)), (34, .int .i64 i2), (35, .bool (decide (i2 < (a_.length : Int))))]) ?_ ?_
      · refine QRun_b [.bool (decide (i2 < (a_.length : Int)))] 0 _ (by kernel_rfl) (fun w => by kernel_rfl) ?_
        exact QRun_done [2, 4, 5, 7, 8, 33, 34, 35] (by kernel_rfl) (by kernel_rfl)
      refine Run_seq ?_
      refine Run_cond (b := decide (i2 < (a_.length : Int))) (by kernel_rfl) (fun hb2 => ?_) (fun hb2 => ?_)
      · obtain ⟨my2, y2, rfl, hB2, hgoy2, houty2⟩ := M.for_go gx4 hb2
        have hlty2 := of_decide_eq_true hb2
        refine Run_skip ?_
        refine Run_seq ?_
        obtain ⟨s3, gs3, hB2⟩ := M.bind_some hB2
        refine Run_join (fun L' h' => L' = [(2, .pointer (some ⟨b1, 0, none⟩)), (4, .int .i64 (a_.length : Int)), (5, .slice a4 x1.length c2), (7, .pointer (some ⟨b2, 0, none⟩)), (8, .bool s3.2), (33, .int .i64 (a_.length : Int)), (34, .int .i64 i2)] ∧ Hold h h' [box b1 67 [.int .i64 0, .int .i64 0], own cd39 a4 x1.length c2 x1, box b2 67 [.int .i64 s3.1.Num, .int .i64 s3.1.Den]]) ?_ ?_
        · rintro _ h25 ⟨rfl, H69⟩
          refine Run_reg 2 (by kernel_rfl) (L' := [(2, .pointer (some ⟨b1, 0, none⟩)), (4, .int .i64 (a_.length : Int)), (5, .slice a4 x1.length c2), (7, .pointer (some ⟨b2, 0, none⟩)), (8, .bool s3.2), (33, .int .i64 (a_.length : Int)), (34, .int .i64 (i2 + 1))]) ?_ ?_
          · refine QRun_y (.int .i64 (i2 + 1)) (by kernel_rfl) (Y_eq (v := .int .i64 (w64 (i2 + 1))) (Y_pure (fun w => by kernel_rfl)) (by rw [w64_eq _ (by omega)])) ?_
            refine QRun_b [.int .i64 (i2 + 1)] 1 _ (by kernel_rfl) (fun w => by kernel_rfl) ?_
            exact QRun_done [2, 4, 5, 7, 8, 33, 34] (by kernel_rfl) (by kernel_rfl)
          have hB2 := M.ret_some hB2
          have gx4 := hgoy2 _ hB2.symm
          exact Run_again [2, 4, 5, 7, 8, 33, 34] (by kernel_rfl) my2 (Nat.lt_succ_self _) ⟨i2 + 1, (s3.1, s3.2), by omega, gx4, rfl, H69⟩
        · refine Run_block ?_
          refine Run_seq ?_
          refine Run_reg 2 (by kernel_rfl) (L' := [(2, .pointer (some ⟨b1, 0, none⟩)), (4, .int .i64 (a_.length : Int)), (5, .slice a4 x1.length c2), (7, .pointer (some ⟨b2, 0, none⟩)), (8, .bool s2.2), (9, .int .i64 i2), (33, .int .i64 (a_.length : Int)), (34, .int .i64 i2)]) ?_ ?_
          · refine QRun_b [.int .i64 i2, .int .i64 i2] 0 _ (by kernel_rfl) (fun w => by kernel_rfl) ?_
            exact QRun_done [2, 4, 5, 7, 8, 9, 33, 34] (by kernel_rfl) (by kernel_rfl)
          refine Run_seq ?_
          refine Run_seq ?_
          obtain ⟨x5, hx3, gs3⟩ := M.bind_some gs3
          obtain ⟨hx3l, hx3u, hx3⟩ := M.idx_some hx3
          have H24 : Hold h h10 [own cd39 a4 x1.length c2 x1, box b1 67 [.int .i64 0, .int .i64 0], box b2 67 [.int .i64 s2.1.Num, .int .i64 s2.1.Den]] := H22.pick [1, 0, 2] (by kernel_rfl)
          have H25 := H24.toRows
          obtain ⟨a9, c6, H26⟩ := H25.pinRow hx3
          have H27 : Hold h h10 [box b1 67 [.int .i64 0, .int .i64 0], rowsP cd2 39 a4 x1.length c2 x1 [((a_.length : Int).toNat, a9, x5.length, c6, x5)], box b2 67 [.int .i64 s2.1.Num, .int .i64 s2.1.Den]] := H26.pick [1, 0, 2] (by kernel_rfl)
          obtain ⟨x6, hx4, gs3⟩ := M.bind_some gs3
          obtain ⟨hx4l, hx4u, hx4⟩ := M.idx_some hx4
          refine Run_reg 8 (by kernel_rfl) (L' := [(2, .pointer (some ⟨b1, 0, none⟩)), (4, .int .i64 (a_.length : Int)), (5, .slice a4 x1.length c2), (7, .pointer (some ⟨b2, 0, none⟩)), (8, .bool s2.2), (9, .int .i64 i2), (33, .int .i64 (a_.length : Int)), (34, .int .i64 i2), (44, .bool (x6 == (-1000000000000000)))]) ?_ ?_
          · refine QRun_b [.slice a4 x1.length c2, .int .i64 (a_.length : Int)] 0 _ (by kernel_rfl) (fun w => by kernel_rfl) ?_
            refine QRun_y (.pointer (some (adr a4 ((a_.length : Int).toNat * 1)))) (by kernel_rfl) (Y_idx (t := 37) (e := 39) (sz := 1) (a := a4) (n := x1.length) (cap := c2) (kk := .i64) (i := (a_.length : Int)) (by kernel_rfl) Try.underlying37 (by kernel_rfl) ((H22.rd 1 rfl).cell hx3).1 hx3l hx3u) ?_
            refine QRun_y (.slice a9 x5.length c6) (by kernel_rfl) (Y_load1 (t := 39) (p := adr a4 ((a_.length : Int).toNat * 1)) (v := .slice a9 x5.length c6) (by kernel_rfl) (fun w => by kernel_rfl) (H27.cellPin 1 rfl 0 rfl)) ?_
            refine QRun_b [.int .i64 i2] 4 _ (by kernel_rfl) (fun w => by kernel_rfl) ?_
            refine QRun_y (.pointer (some (adr a9 (i2.toNat * 1)))) (by kernel_rfl) (Y_idx (t := 39) (e := 2) (sz := 1) (a := a9) (n := x5.length) (cap := c6) (kk := .i64) (i := i2) (by kernel_rfl) Try.underlying39 (by kernel_rfl) ((H27.rdPin 1 rfl 0 rfl).cell hx4).1 hx4l hx4u) ?_
            refine QRun_y (.int .i64 x6) (by kernel_rfl) (Y_load1 (t := 2) (p := adr a9 (i2.toNat * 1)) (v := .int .i64 x6) (by kernel_rfl) (fun w => by kernel_rfl) (cd2_cell (H27.rdPin 1 rfl 0 rfl) hx4)) ?_
            refine QRun_b [.bool (x6 == (-1000000000000000))] 7 _ (by kernel_rfl) (fun w => by kernel_rfl) ?_
            exact QRun_done [2, 4, 5, 7, 8, 9, 33, 34, 44] (by kernel_rfl) (by kernel_rfl)
          refine Run_cond (b := x6 == (-1000000000000000)) (by kernel_rfl) (fun hb3 => ?_) (fun hb3 => ?_)
          · have gs3 := (M.ite_some gs3).1 hb3
            refine Run_exit (k' := _) rfl ?_
            have H70 : Hold h h10 [rowsP cd2 39 a4 x1.length c2 x1 [((a_.length : Int).toNat, a9, x5.length, c6, x5)], box b1 67 [.int .i64 0, .int .i64 0], box b2 67 [.int .i64 s2.1.Num, .int .i64 s2.1.Den]] := H27.pick [1, 0, 2] (by kernel_rfl)
            have H71 := H70.ofRows
            have H72 : Hold h h10 [box b1 67 [.int .i64 0, .int .i64 0], own cd39 a4 x1.length c2 x1, box b2 67 [.int .i64 s2.1.Num, .int .i64 s2.1.Den]] := H71.pick [1, 0, 2] (by kernel_rfl)
            have gs3 := M.ret_some gs3
            subst gs3
            exact Run_fall [2, 4, 5, 7, 8, 33, 34] (by kernel_rfl) ⟨rfl, H72⟩
          · have gs3 := (M.ite_some gs3).2 hb3
            refine Run_skip ?_
            refine Run_seq ?_
            refine Run_ops ?_
            refine Run_b [.agg #[.int .i64 0, .int .i64 0]] 0 _ (by kernel_rfl) (fun w => by kernel_rfl) ?_
            refine Run_E (by kernel_rfl) ?_
            refine E_box (ty := 67) (cs := [.int .i64 0, .int .i64 0]) H27 (fun w => by kernel_rfl) (fun b3 h12 H28 => ?_)
            refine Run_E (by kernel_rfl) ?_
            refine E_bput (t := 67) (off := 0) (us := [.int .i64 0, .int .i64 0]) (v := .agg #[.int .i64 0, .int .i64 0]) H28 (by kernel_rfl) (by kernel_rfl) rfl (by kernel_rfl) rfl (fun h13 H29 => ?_)
            refine Run_b [.bool false] 3 _ (by kernel_rfl) (fun w => by kernel_rfl) ?_
            refine Run_nil (by kernel_rfl) ?_
            refine Run_keep [2, 4, 5, 7, 8, 9, 10, 11, 33, 34] (L' := [(2, .pointer (some ⟨b1, 0, none⟩)), (4, .int .i64 (a_.length : Int)), (5, .slice a4 x1.length c2), (7, .pointer (some ⟨b2, 0, none⟩)), (8, .bool s2.2), (9, .int .i64 i2), (10, .pointer (some ⟨b3, 0, none⟩)), (11, .bool false), (33, .int .i64 (a_.length : Int)), (34, .int .i64 i2)]) (by kernel_rfl) ?_
            refine Run_seq ?_
            refine Run_seq ?_
            refine Run_reg 2 (by kernel_rfl) (L' := [(2, .pointer (some ⟨b1, 0, none⟩)), (4, .int .i64 (a_.length : Int)), (5, .slice a4 x1.length c2), (7, .pointer (some ⟨b2, 0, none⟩)), (8, .bool s2.2), (9, .int .i64 i2), (10, .pointer (some ⟨b3, 0, none⟩)), (11, .bool false), (33, .int .i64 (a_.length : Int)), (34, .int .i64 i2), (46, .int .i64 (a_.length : Int)), (47, .int .i64 0)]) ?_ ?_
            · refine QRun_b [.int .i64 (a_.length : Int), .int .i64 0] 0 _ (by kernel_rfl) (fun w => by kernel_rfl) ?_
              exact QRun_done [2, 4, 5, 7, 8, 9, 10, 11, 33, 34, 46, 47] (by kernel_rfl) (by kernel_rfl)
            obtain ⟨x7, gx7, gs3⟩ := M.bind_some gs3
            obtain ⟨hloy3, hhiy3, gx7⟩ := M.for_start gx7
            refine Run_join (fun L' h' => L' = [(2, .pointer (some ⟨b1, 0, none⟩)), (4, .int .i64 (a_.length : Int)), (5, .slice a4 x1.length c2), (7, .pointer (some ⟨b2, 0, none⟩)), (8, .bool s2.2), (10, .pointer (some ⟨b3, 0, none⟩)), (33, .int .i64 (a_.length : Int)), (34, .int .i64 i2)] ∧ Hold h h' [box b1 67 [.int .i64 0, .int .i64 0], own cd39 a4 x1.length c2 x1, box b2 67 [.int .i64 s2.1.Num, .int .i64 s2.1.Den], box b3 67 [.int .i64 x7.1.Num, .int .i64 x7.1.Den]]) ?_ ?_
            · rintro _ h15 ⟨rfl, H31⟩
              refine Run_seq ?_
              obtain ⟨x17, gx17, gs3⟩ := M.bind_some gs3
              refine Run_regC (j := 8) (C := fun x => Hold h x [box b1 67 [.int .i64 0, .int .i64 0], own cd39 a4 x1.length c2 x1, box b2 67 [.int .i64 s2.1.Num, .int .i64 s2.1.Den], box b3 67 [.int .i64 x7.1.Num, .int .i64 x7.1.Den]]) (by kernel_rfl) H31 (L' := [(2, .pointer (some ⟨b1, 0, none⟩)), (4, .int .i64 (a_.length : Int)), (5, .slice a4 x1.length c2), (7, .pointer (some ⟨b2, 0, none⟩)), (8, .bool s2.2), (10, .pointer (some ⟨b3, 0, none⟩)), (33, .int .i64 (a_.length : Int)), (34, .int .i64 i2), (94, .bool x17)]) ?_ (fun h23 H62 => ?_)
              · refine QRun_b [.bool s2.2, .bool (!s2.2)] 0 _ (by kernel_rfl) (fun w => by kernel_rfl) ?_
                refine QRun_seq 8 [(2, .pointer (some ⟨b1, 0, none⟩)), (4, .int .i64 (a_.length : Int)), (5, .slice a4 x1.length c2), (7, .pointer (some ⟨b2, 0, none⟩)), (8, .bool s2.2), (10, .pointer (some ⟨b3, 0, none⟩)), (33, .int .i64 (a_.length : Int)), (34, .int .i64 i2), (94, .bool x17)] ?_ ?_
                · rcases Bool.eq_false_or_eq_true (!s2.2) with hb8 | hb8
                  · refine QRun_bool (!s2.2) true (by kernel_rfl) (fun w => by kernel_rfl) hb8 ?_
                    have gx17 := M.ret_some ((M.ite_some gx17).1 hb8)
                    refine QRun_n (by kernel_rfl) ?_
                    refine QRun_n (by kernel_rfl) ?_
                    refine QRun_n (by kernel_rfl) ?_
                    refine QRun_n (by kernel_rfl) ?_
                    refine QRun_bool true x17 (by kernel_rfl) (fun w => by kernel_rfl) gx17 ?_
                    exact QRun_done [2, 4, 5, 7, 8, 10, 33, 34, 94] (by kernel_rfl) (by kernel_rfl)
                  · refine QRun_bool (!s2.2) false (by kernel_rfl) (fun w => by kernel_rfl) hb8 ?_
                    have gx17 := (M.ite_some gx17).2 hb8
                    obtain ⟨x18, hx13, gx17⟩ := M.bind_some gx17
                    have gx17 := M.ret_some gx17
                    refine QRun_y (.agg #[.int .i64 x7.1.Num, .int .i64 x7.1.Den]) (by kernel_rfl) (Y_cls fun hx Hx => (Y_loadA (t := 67) (n := 2) (p := ⟨b3, 0, none⟩) (cs := [.int .i64 x7.1.Num, .int .i64 x7.1.Den]) (by kernel_rfl) (fun w => by kernel_rfl) (by kernel_rfl) rfl (Hx.cells (n := 2) (off := 0) 3 rfl rfl))) ?_
                    refine QRun_y (.agg #[.int .i64 s2.1.Num, .int .i64 s2.1.Den]) (by kernel_rfl) (Y_cls fun hx Hx => (Y_loadA (t := 67) (n := 2) (p := ⟨b2, 0, none⟩) (cs := [.int .i64 s2.1.Num, .int .i64 s2.1.Den]) (by kernel_rfl) (fun w => by kernel_rfl) (by kernel_rfl) rfl (Hx.cells (n := 2) (off := 0) 2 rfl rfl))) ?_
                    refine QRun_y (.int .i64 x18) (by kernel_rfl) (Y_call (f := 173) (args := #[.agg #[.int .i64 x7.1.Num, .int .i64 x7.1.Den], .agg #[.int .i64 s2.1.Num, .int .i64 s2.1.Den]]) (v := .int .i64 x18) (by kernel_rfl) fun hx Hx => (w_impl_compareRatios hx x7.1 s2.1 _ _ hx13).mono fun _ _ ⟨e, H'⟩ => ⟨e, Hx.call H' rfl⟩) ?_
                    refine QRun_b [.bool (decide (0 < x18))] 6 _ (by kernel_rfl) (fun w => by kernel_rfl) ?_
                    refine QRun_bool (decide (0 < x18)) x17 (by kernel_rfl) (fun w => by kernel_rfl) gx17 ?_
                    exact QRun_done [2, 4, 5, 7, 8, 10, 33, 34, 94] (by kernel_rfl) (by kernel_rfl)
                exact QRun_done [2, 4, 5, 7, 8, 10, 33, 34, 94] (by kernel_rfl) (by kernel_rfl)
              have H63 : Hold h h23 [box b1 67 [.int .i64 0, .int .i64 0], own cd39 a4 x1.length c2 x1, box b2 67 [.int .i64 s2.1.Num, .int .i64 s2.1.Den], box b3 67 [.int .i64 x7.1.Num, .int .i64 x7.1.Den]] := H62
              refine Run_cond (b := x17) (by kernel_rfl) (fun hb9 => ?_) (fun hb9 => ?_)
              · have gs3 := (M.ite_some gs3).1 hb9
                refine Run_ops ?_
                refine Run_y (.agg #[.int .i64 x7.1.Num, .int .i64 x7.1.Den]) (by kernel_rfl) (Y_loadA (t := 67) (n := 2) (p := ⟨b3, 0, none⟩) (cs := [.int .i64 x7.1.Num, .int .i64 x7.1.Den]) (by kernel_rfl) (fun w => by kernel_rfl) (by kernel_rfl) rfl (H63.cells (n := 2) (off := 0) 3 rfl rfl)) ?_
                have H65 : Hold h h23 [box b2 67 [.int .i64 s2.1.Num, .int .i64 s2.1.Den], box b1 67 [.int .i64 0, .int .i64 0], own cd39 a4 x1.length c2 x1, box b3 67 [.int .i64 x7.1.Num, .int .i64 x7.1.Den]] := H63.pick [2, 0, 1, 3] (by kernel_rfl)
                refine Run_E (by kernel_rfl) ?_
                refine E_bput (t := 67) (off := 0) (us := [.int .i64 x7.1.Num, .int .i64 x7.1.Den]) (v := .agg #[.int .i64 x7.1.Num, .int .i64 x7.1.Den]) H65 (by kernel_rfl) (by kernel_rfl) rfl (by kernel_rfl) rfl (fun h24 H64 => ?_)
                refine Run_b [.bool true] 2 _ (by kernel_rfl) (fun w => by kernel_rfl) ?_
                refine Run_nil (by kernel_rfl) ?_
                refine Run_keep [2, 4, 5, 7, 8, 33, 34] (L' := [(2, .pointer (some ⟨b1, 0, none⟩)), (4, .int .i64 (a_.length : Int)), (5, .slice a4 x1.length c2), (7, .pointer (some ⟨b2, 0, none⟩)), (8, .bool true), (33, .int .i64 (a_.length : Int)), (34, .int .i64 i2)]) (by kernel_rfl) ?_
                refine Run_blk ?_
                have H73 : Hold h h24 [box b1 67 [.int .i64 0, .int .i64 0], own cd39 a4 x1.length c2 x1, box b2 67 [.int .i64 x7.1.Num, .int .i64 x7.1.Den]] := H64.pick [1, 2, 0] (by kernel_rfl)
                have gs3 := M.ret_some gs3
                subst gs3
                exact Run_fall [2, 4, 5, 7, 8, 33, 34] (by kernel_rfl) ⟨rfl, H73⟩
              · have gs3 := (M.ite_some gs3).2 hb9
                refine Run_skip ?_
                refine Run_blk ?_
                have H74 : Hold h h23 [box b1 67 [.int .i64 0, .int .i64 0], own cd39 a4 x1.length c2 x1, box b2 67 [.int .i64 s2.1.Num, .int .i64 s2.1.Den]] := H63.pick [0, 1, 2] (by kernel_rfl)
                have gs3 := M.ret_some gs3
                subst gs3
                exact Run_fall [2, 4, 5, 7, 8, 33, 34] (by kernel_rfl) ⟨rfl, H74⟩
            · refine Run_block ?_
              have H66 : Hold h h13 [rowsP cd2 39 a4 x1.length c2 x1 [((a_.length : Int).toNat, a9, x5.length, c6, x5)], box b3 67 [.int .i64 0, .int .i64 0], box b1 67 [.int .i64 0, .int .i64 0], box b2 67 [.int .i64 s2.1.Num, .int .i64 s2.1.Den]] := H29.pick [2, 0, 1, 3] (by kernel_rfl)
              have H67 := H66.ofRows
              have H68 : Hold h h13 [box b1 67 [.int .i64 0, .int .i64 0], own cd39 a4 x1.length c2 x1, box b2 67 [.int .i64 s2.1.Num, .int .i64 s2.1.Den], box b3 67 [.int .i64 0, .int .i64 0]] := H67.pick [2, 0, 3, 1] (by kernel_rfl)
              refine Run_keep [2, 4, 5, 7, 8, 9, 10, 11, 33, 34, 46, 47] (L' := [(2, .pointer (some ⟨b1, 0, none⟩)), (4, .int .i64 (a_.length : Int)), (5, .slice a4 x1.length c2), (7, .pointer (some ⟨b2, 0, none⟩)), (8, .bool s2.2), (9, .int .i64 i2), (10, .pointer (some ⟨b3, 0, none⟩)), (11, .bool false), (33, .int .i64 (a_.length : Int)), (34, .int .i64 i2), (46, .int .i64 (a_.length : Int)), (47, .int .i64 0)]) (by kernel_rfl) ?_
              refine Run_loop (fun m L' h' => ∃ (i3 : Int) (s4 : TRatio × Bool), 0 ≤ i3 ∧ M.forN (a_.length : Int) _ _ n m i3 s4 = some x7 ∧ L' = [(2, .pointer (some ⟨b1, 0, none⟩)), (4, .int .i64 (a_.length : Int)), (5, .slice a4 x1.length c2), (7, .pointer (some ⟨b2, 0, none⟩)), (8, .bool s2.2), (9, .int .i64 i2), (10, .pointer (some ⟨b3, 0, none⟩)), (11, .bool s4.2), (33, .int .i64 (a_.length : Int)), (34, .int .i64 i2), (46, .int .i64 (a_.length : Int)), (47, .int .i64 i3)] ∧ Hold h h' [box b1 67 [.int .i64 0, .int .i64 0], own cd39 a4 x1.length c2 x1, box b2 67 [.int .i64 s2.1.Num, .int .i64 s2.1.Den], box b3 67 [.int .i64 s4.1.Num, .int .i64 s4.1.Den]]) ((a_.length : Int) - 0 : Int).toNat ⟨0, ((⟨0, 0⟩ : TRatio), false), Int.le_refl _, gx7, rfl, H68⟩ ?_
              rintro my3 _ h14 ⟨i3, s4, hloy3', gx7, rfl, H30⟩
              refine Run_seq ?_
              refine Run_reg 1 (by kernel_rfl) (L' := [(2, .pointer (some ⟨b1, 0, none⟩)), (4, .int .i64 (a_.length : Int)), (5, .slice a4 x1.length c2), (7, .pointer (some ⟨b2, 0, none⟩)), (8, .bool s2.2), (9, .int .i64 i2), (10, .pointer (some ⟨b3, 0, none⟩)), (11, .bool s4.2), (33, .int .i64 (a_.length : Int)), (34, .int .i64 i2), (46, .int .i64 (a_.length : Int)), (47, .int .i64 i3), (48, .bool (decide (i3 < (a_.length : Int))))]) ?_ ?_
              · refine QRun_b [.bool (decide (i3 < (a_.length : Int)))] 0 _ (by kernel_rfl) (fun w => by kernel_rfl) ?_
                exact QRun_done [2, 4, 5, 7, 8, 9, 10, 11, 33, 34, 46, 47, 48] (by kernel_rfl) (by kernel_rfl)
              refine Run_seq ?_
              refine Run_cond (b := decide (i3 < (a_.length : Int))) (by kernel_rfl) (fun hb4 => ?_) (fun hb4 => ?_)
              · obtain ⟨my3, y3, rfl, hB3, hgoy3, houty3⟩ := M.for_go gx7 hb4
                have hlty3 := of_decide_eq_true hb4
                refine Run_skip ?_
                refine Run_seq ?_
                obtain ⟨s5, gs5, hB3⟩ := M.bind_some hB3
                refine Run_join (fun L' h' => L' = [(2, .pointer (some ⟨b1, 0, none⟩)), (4, .int .i64 (a_.length : Int)), (5, .slice a4 x1.length c2), (7, .pointer (some ⟨b2, 0, none⟩)), (8, .bool s2.2), (9, .int .i64 i2), (10, .pointer (some ⟨b3, 0, none⟩)), (11, .bool s5.2), (33, .int .i64 (a_.length : Int)), (34, .int .i64 i2), (46, .int .i64 (a_.length : Int)), (47, .int .i64 i3)] ∧ Hold h h' [box b1 67 [.int .i64 0, .int .i64 0], own cd39 a4 x1.length c2 x1, box b2 67 [.int .i64 s2.1.Num, .int .i64 s2.1.Den], box b3 67 [.int .i64 s5.1.Num, .int .i64 s5.1.Den]]) ?_ ?_
                · rintro _ h22 ⟨rfl, H52⟩
                  refine Run_reg 2 (by kernel_rfl) (L' := [(2, .pointer (some ⟨b1, 0, none⟩)), (4, .int .i64 (a_.length : Int)), (5, .slice a4 x1.length c2), (7, .pointer (some ⟨b2, 0, none⟩)), (8, .bool s2.2), (9, .int .i64 i2), (10, .pointer (some ⟨b3, 0, none⟩)), (11, .bool s5.2), (33, .int .i64 (a_.length : Int)), (34, .int .i64 i2), (46, .int .i64 (a_.length : Int)), (47, .int .i64 (i3 + 1))]) ?_ ?_
                  · refine QRun_y (.int .i64 (i3 + 1)) (by kernel_rfl) (Y_eq (v := .int .i64 (w64 (i3 + 1))) (Y_pure (fun w => by kernel_rfl)) (by rw [w64_eq _ (by omega)])) ?_
                    refine QRun_b [.int .i64 (i3 + 1)] 1 _ (by kernel_rfl) (fun w => by kernel_rfl) ?_
                    exact QRun_done [2, 4, 5, 7, 8, 9, 10, 11, 33, 34, 46, 47] (by kernel_rfl) (by kernel_rfl)
                  have hB3 := M.ret_some hB3
                  have gx7 := hgoy3 _ hB3.symm
                  exact Run_again [2, 4, 5, 7, 8, 9, 10, 11, 33, 34, 46, 47] (by kernel_rfl) my3 (Nat.lt_succ_self _) ⟨i3 + 1, (s5.1, s5.2), by omega, gx7, rfl, H52⟩
                · refine Run_block ?_
                  refine Run_seq ?_
                  refine Run_reg 2 (by kernel_rfl) (L' := [(2, .pointer (some ⟨b1, 0, none⟩)), (4, .int .i64 (a_.length : Int)), (5, .slice a4 x1.length c2), (7, .pointer (some ⟨b2, 0, none⟩)), (8, .bool s2.2), (9, .int .i64 i2), (10, .pointer (some ⟨b3, 0, none⟩)), (11, .bool s4.2), (12, .int .i64 i3), (33, .int .i64 (a_.length : Int)), (34, .int .i64 i2), (46, .int .i64 (a_.length : Int)), (47, .int .i64 i3)]) ?_ ?_
                  · refine QRun_b [.int .i64 i3, .int .i64 i3] 0 _ (by kernel_rfl) (fun w => by kernel_rfl) ?_
                    exact QRun_done [2, 4, 5, 7, 8, 9, 10, 11, 12, 33, 34, 46, 47] (by kernel_rfl) (by kernel_rfl)
                  refine Run_seq ?_
                  refine Run_seq ?_
                  obtain ⟨x8, hx5, gs5⟩ := M.bind_some gs5
                  obtain ⟨hx5l, hx5u, hx5⟩ := M.idx_some hx5
                  have H32 : Hold h h14 [own cd39 a4 x1.length c2 x1, box b1 67 [.int .i64 0, .int .i64 0], box b2 67 [.int .i64 s2.1.Num, .int .i64 s2.1.Den], box b3 67 [.int .i64 s4.1.Num, .int .i64 s4.1.Den]] := H30.pick [1, 0, 2, 3] (by kernel_rfl)
                  have H33 := H32.toRows
                  obtain ⟨a10, c7, H34⟩ := H33.pinRow hx5
                  have H35 : Hold h h14 [box b1 67 [.int .i64 0, .int .i64 0], rowsP cd2 39 a4 x1.length c2 x1 [(i3.toNat, a10, x8.length, c7, x8)], box b2 67 [.int .i64 s2.1.Num, .int .i64 s2.1.Den], box b3 67 [.int .i64 s4.1.Num, .int .i64 s4.1.Den]] := H34.pick [1, 0, 2, 3] (by kernel_rfl)
                  obtain ⟨x9, hx6, gs5⟩ := M.bind_some gs5
                  obtain ⟨hx6l, hx6u, hx6⟩ := M.idx_some hx6
                  refine Run_reg 8 (by kernel_rfl) (L' := [(2, .pointer (some ⟨b1, 0, none⟩)), (4, .int .i64 (a_.length : Int)), (5, .slice a4 x1.length c2), (7, .pointer (some ⟨b2, 0, none⟩)), (8, .bool s2.2), (9, .int .i64 i2), (10, .pointer (some ⟨b3, 0, none⟩)), (11, .bool s4.2), (12, .int .i64 i3), (33, .int .i64 (a_.length : Int)), (34, .int .i64 i2), (46, .int .i64 (a_.length : Int)), (47, .int .i64 i3), (57, .bool (x9 == (-1000000000000000)))]) ?_ ?_
                  · refine QRun_b [.slice a4 x1.length c2, .int .i64 i3] 0 _ (by kernel_rfl) (fun w => by kernel_rfl) ?_
                    refine QRun_y (.pointer (some (adr a4 (i3.toNat * 1)))) (by kernel_rfl) (Y_idx (t := 37) (e := 39) (sz := 1) (a := a4) (n := x1.length) (cap := c2) (kk := .i64) (i := i3) (by kernel_rfl) Try.underlying37 (by kernel_rfl) ((H30.rd 1 rfl).cell hx5).1 hx5l hx5u) ?_
                    refine QRun_y (.slice a10 x8.length c7) (by kernel_rfl) (Y_load1 (t := 39) (p := adr a4 (i3.toNat * 1)) (v := .slice a10 x8.length c7) (by kernel_rfl) (fun w => by kernel_rfl) (H35.cellPin 1 rfl 0 rfl)) ?_
                    refine QRun_b [.int .i64 i2] 4 _ (by kernel_rfl) (fun w => by kernel_rfl) ?_
                    refine QRun_y (.pointer (some (adr a10 (i2.toNat * 1)))) (by kernel_rfl) (Y_idx (t := 39) (e := 2) (sz := 1) (a := a10) (n := x8.length) (cap := c7) (kk := .i64) (i := i2) (by kernel_rfl) Try.underlying39 (by kernel_rfl) ((H35.rdPin 1 rfl 0 rfl).cell hx6).1 hx6l hx6u) ?_
                    refine QRun_y (.int .i64 x9) (by kernel_rfl) (Y_load1 (t := 2) (p := adr a10 (i2.toNat * 1)) (v := .int .i64 x9) (by kernel_rfl) (fun w => by kernel_rfl) (cd2_cell (H35.rdPin 1 rfl 0 rfl) hx6)) ?_
                    refine QRun_b [.bool (x9 == (-1000000000000000))] 7 _ (by kernel_rfl) (fun w => by kernel_rfl) ?_
                    exact QRun_done [2, 4, 5, 7, 8, 9, 10, 11, 12, 33, 34, 46, 47, 57] (by kernel_rfl) (by kernel_rfl)
                  refine Run_cond (b := x9 == (-1000000000000000)) (by kernel_rfl) (fun hb5 => ?_) (fun hb5 => ?_)
                  · have gs5 := (M.ite_some gs5).1 hb5
                    refine Run_exit (k' := _) rfl ?_
                    have H53 : Hold h h14 [rowsP cd2 39 a4 x1.length c2 x1 [(i3.toNat, a10, x8.length, c7, x8)], box b1 67 [.int .i64 0, .int .i64 0], box b2 67 [.int .i64 s2.1.Num, .int .i64 s2.1.Den], box b3 67 [.int .i64 s4.1.Num, .int .i64 s4.1.Den]] := H35.pick [1, 0, 2, 3] (by kernel_rfl)
                    have H54 := H53.ofRows
                    have H55 : Hold h h14 [box b1 67 [.int .i64 0, .int .i64 0], own cd39 a4 x1.length c2 x1, box b2 67 [.int .i64 s2.1.Num, .int .i64 s2.1.Den], box b3 67 [.int .i64 s4.1.Num, .int .i64 s4.1.Den]] := H54.pick [1, 0, 2, 3] (by kernel_rfl)
                    have gs5 := M.ret_some gs5
                    subst gs5
                    exact Run_fall [2, 4, 5, 7, 8, 9, 10, 11, 33, 34, 46, 47] (by kernel_rfl) ⟨rfl, H55⟩
                  · have gs5 := (M.ite_some gs5).2 hb5
                    refine Run_skip ?_
                    refine Run_seq ?_
                    obtain ⟨x10, hx7, gs5⟩ := M.bind_some gs5
                    obtain ⟨hx7l, hx7u, hx7⟩ := M.idx_some hx7
                    have H36 : Hold h h14 [rowsP cd2 39 a4 x1.length c2 x1 [(i3.toNat, a10, x8.length, c7, x8)], box b1 67 [.int .i64 0, .int .i64 0], box b2 67 [.int .i64 s2.1.Num, .int .i64 s2.1.Den], box b3 67 [.int .i64 s4.1.Num, .int .i64 s4.1.Den]] := H35.pick [1, 0, 2, 3] (by kernel_rfl)
                    obtain ⟨a11, c8, H37⟩ := H36.pinRow hx7
                    have H38 : Hold h h14 [box b1 67 [.int .i64 0, .int .i64 0], rowsP cd2 39 a4 x1.length c2 x1 [((a_.length : Int).toNat, a11, x10.length, c8, x10), (i3.toNat, a10, x8.length, c7, x8)], box b2 67 [.int .i64 s2.1.Num, .int .i64 s2.1.Den], box b3 67 [.int .i64 s4.1.Num, .int .i64 s4.1.Den]] := H37.pick [1, 0, 2, 3] (by kernel_rfl)
                    obtain ⟨x11, hx8, gs5⟩ := M.bind_some gs5
                    obtain ⟨hx8l, hx8u, hx8⟩ := M.idx_some hx8
                    obtain ⟨x12, hx9, gs5⟩ := M.bind_some gs5
                    obtain ⟨hx9l, hx9u, hx9⟩ := M.idx_some hx9
                    have H39 : Hold h h14 [rowsP cd2 39 a4 x1.length c2 x1 [((a_.length : Int).toNat, a11, x10.length, c8, x10), (i3.toNat, a10, x8.length, c7, x8)], box b1 67 [.int .i64 0, .int .i64 0], box b2 67 [.int .i64 s2.1.Num, .int .i64 s2.1.Den], box b3 67 [.int .i64 s4.1.Num, .int .i64 s4.1.Den]] := H38.pick [1, 0, 2, 3] (by kernel_rfl)
                    obtain ⟨a12, c9, H40⟩ := H39.pinRow hx9
                    have H41 : Hold h h14 [box b1 67 [.int .i64 0, .int .i64 0], rowsP cd2 39 a4 x1.length c2 x1 [(i3.toNat, a12, x12.length, c9, x12), ((a_.length : Int).toNat, a11, x10.length, c8, x10), (i3.toNat, a10, x8.length, c7, x8)], box b2 67 [.int .i64 s2.1.Num, .int .i64 s2.1.Den], box b3 67 [.int .i64 s4.1.Num, .int .i64 s4.1.Den]] := H40.pick [1, 0, 2, 3] (by kernel_rfl)
                    obtain ⟨x13, hx10, gs5⟩ := M.bind_some gs5
                    obtain ⟨hx10l, hx10u, hx10⟩ := M.idx_some hx10
                    obtain ⟨x14, hx11, gs5⟩ := M.bind_some gs5
                    refine Run_D (fun x => Hold h x [box b1 67 [.int .i64 0, .int .i64 0], rowsP cd2 39 a4 x1.length c2 x1 [(i3.toNat, a12, x12.length, c9, x12), ((a_.length : Int).toNat, a11, x10.length, c8, x10), (i3.toNat, a10, x8.length, c7, x8)], box b2 67 [.int .i64 s2.1.Num, .int .i64 s2.1.Den], box b3 67 [.int .i64 s4.1.Num, .int .i64 s4.1.Den]]) (fun x => Hold h x [box b1 67 [.int .i64 0, .int .i64 0], rowsP cd2 39 a4 x1.length c2 x1 [(i3.toNat, a12, x12.length, c9, x12), ((a_.length : Int).toNat, a11, x10.length, c8, x10), (i3.toNat, a10, x8.length, c7, x8)], box b2 67 [.int .i64 s2.1.Num, .int .i64 s2.1.Den], box b3 67 [.int .i64 s4.1.Num, .int .i64 s4.1.Den]]) mixed (by kernel_rfl) H41 Hold.stable (fun x Hy => (show Hold h x [box b1 67 [.int .i64 0, .int .i64 0], rowsP cd2 39 a4 x1.length c2 x1 [(i3.toNat, a12, x12.length, c9, x12), ((a_.length : Int).toNat, a11, x10.length, c8, x10), (i3.toNat, a10, x8.length, c7, x8)], box b2 67 [.int .i64 s2.1.Num, .int .i64 s2.1.Den], box b3 67 [.int .i64 s4.1.Num, .int .i64 s4.1.Den]] from Hy).pick [0, 1, 2, 3] (by kernel_rfl)) ?_
                    refine DR_b 19 [.slice a4 x1.length c2, .int .i64 (a_.length : Int)] 0 (by kernel_rfl) (by kernel_rfl) (by kernel_rfl) (fun w => by kernel_rfl) ?_
                    refine DR_y 18 (i := 2) (.pointer (some (adr a4 ((a_.length : Int).toNat * 1)))) (by kernel_rfl) (by kernel_rfl) (by kernel_rfl) (fun hx Hx => (YE.of (Y_idx (t := 37) (e := 39) (sz := 1) (a := a4) (n := x1.length) (cap := c2) (kk := .i64) (i := (a_.length : Int)) (by kernel_rfl) Try.underlying37 (by kernel_rfl) ((H35.rdRows 1 rfl).cell hx7).1 hx7l hx7u))) ?_
                    refine DR_y 17 (i := 3) (.slice a11 x10.length c8) (by kernel_rfl) (by kernel_rfl) (by kernel_rfl) (fun hx Hx => (YE.of (Y_load1 (t := 39) (p := adr a4 ((a_.length : Int).toNat * 1)) (v := .slice a11 x10.length c8) (by kernel_rfl) (fun w => by kernel_rfl) (Hx.cellPin 1 rfl 1 rfl)))) ?_
                    refine DR_b 16 [.int .i64 i2] 4 (by kernel_rfl) (by kernel_rfl) (by kernel_rfl) (fun w => by kernel_rfl) ?_
                    refine DR_y 15 (i := 5) (.pointer (some (adr a11 (i2.toNat * 1)))) (by kernel_rfl) (by kernel_rfl) (by kernel_rfl) (fun hx Hx => (YE.of (Y_idx (t := 39) (e := 2) (sz := 1) (a := a11) (n := x10.length) (cap := c8) (kk := .i64) (i := i2) (by kernel_rfl) Try.underlying39 (by kernel_rfl) ((H38.rdPin 1 rfl 0 rfl).cell hx8).1 hx8l hx8u))) ?_
                    refine DR_y 14 (i := 6) (.int .i64 x11) (by kernel_rfl) (by kernel_rfl) (by kernel_rfl) (fun hx Hx => (YE.of (Y_load1 (t := 2) (p := adr a11 (i2.toNat * 1)) (v := .int .i64 x11) (by kernel_rfl) (fun w => by kernel_rfl) (cd2_cell (Hx.rdPin 1 rfl 1 rfl) hx8)))) ?_
                    refine DR_b 12 [.slice a4 x1.length c2, .int .i64 i3] 7 (by kernel_rfl) (by kernel_rfl) (by kernel_rfl) (fun w => by kernel_rfl) ?_
                    refine DR_y 11 (i := 9) (.pointer (some (adr a4 (i3.toNat * 1)))) (by kernel_rfl) (by kernel_rfl) (by kernel_rfl) (fun hx Hx => (YE.of (Y_idx (t := 37) (e := 39) (sz := 1) (a := a4) (n := x1.length) (cap := c2) (kk := .i64) (i := i3) (by kernel_rfl) Try.underlying37 (by kernel_rfl) ((H38.rdRows 1 rfl).cell hx9).1 hx9l hx9u))) ?_
                    refine DR_y 10 (i := 10) (.slice a12 x12.length c9) (by kernel_rfl) (by kernel_rfl) (by kernel_rfl) (fun hx Hx => (YE.of (Y_load1 (t := 39) (p := adr a4 (i3.toNat * 1)) (v := .slice a12 x12.length c9) (by kernel_rfl) (fun w => by kernel_rfl) (Hx.cellPin 1 rfl 0 rfl)))) ?_
                    refine DR_b 9 [.int .i64 i2] 11 (by kernel_rfl) (by kernel_rfl) (by kernel_rfl) (fun w => by kernel_rfl) ?_
                    refine DR_y 8 (i := 12) (.pointer (some (adr a12 (i2.toNat * 1)))) (by kernel_rfl) (by kernel_rfl) (by kernel_rfl) (fun hx Hx => (YE.of (Y_idx (t := 39) (e := 2) (sz := 1) (a := a12) (n := x12.length) (cap := c9) (kk := .i64) (i := i2) (by kernel_rfl) Try.underlying39 (by kernel_rfl) ((H41.rdPin 1 rfl 0 rfl).cell hx10).1 hx10l hx10u))) ?_
                    refine DR_y 7 (i := 13) (.int .i64 x13) (by kernel_rfl) (by kernel_rfl) (by kernel_rfl) (fun hx Hx => (YE.of (Y_load1 (t := 2) (p := adr a12 (i2.toNat * 1)) (v := .int .i64 x13) (by kernel_rfl) (fun w => by kernel_rfl) (cd2_cell (Hx.rdPin 1 rfl 0 rfl) hx10)))) ?_
                    refine DR_b 3 [.int .i64 (w64 (x11 - x13)), .int .i64 (a_.length : Int), .int .i64 i3, .int .i64 (w64 ((a_.length : Int) - i3))] 14 (by kernel_rfl) (by kernel_rfl) (by kernel_rfl) (fun w => by kernel_rfl) ?_
                    refine DR_y 2 (i := 18) (.agg #[.int .i64 x14.Num, .int .i64 x14.Den]) (by kernel_rfl) (by kernel_rfl) (by kernel_rfl) (fun hx Hx => (YE_call (f := 120) (args := #[.int .i64 (w64 (x11 - x13)), .int .i64 (w64 ((a_.length : Int) - i3))]) (v := .agg #[.int .i64 x14.Num, .int .i64 x14.Den]) (by kernel_rfl) ((w_impl_ratioOf hx (w64 (x11 - x13)) (w64 ((a_.length : Int) - i3)) _ _ hx11).mono fun _ _ ⟨e, H'⟩ => ⟨e, H'.ext⟩))) ?_
                    refine DR_e 1 19 (by kernel_rfl) (by kernel_rfl) (by kernel_rfl) (fun h16 H42 => ?_)
                    have H43 : Hold h h16 [box b1 67 [.int .i64 0, .int .i64 0], rowsP cd2 39 a4 x1.length c2 x1 [(i3.toNat, a12, x12.length, c9, x12), ((a_.length : Int).toNat, a11, x10.length, c8, x10), (i3.toNat, a10, x8.length, c7, x8)], box b2 67 [.int .i64 s2.1.Num, .int .i64 s2.1.Den], box b3 67 [.int .i64 s4.1.Num, .int .i64 s4.1.Den]] := H42
                    refine E_box (ty := 67) (cs := [.int .i64 0, .int .i64 0]) H43 (fun w => by kernel_rfl) (fun b4 h17 H44 => ?_)
                    refine ⟨fun x => Hold h x [box b1 67 [.int .i64 0, .int .i64 0], rowsP cd2 39 a4 x1.length c2 x1 [(i3.toNat, a12, x12.length, c9, x12), ((a_.length : Int).toNat, a11, x10.length, c8, x10), (i3.toNat, a10, x8.length, c7, x8)], box b2 67 [.int .i64 s2.1.Num, .int .i64 s2.1.Den], box b3 67 [.int .i64 s4.1.Num, .int .i64 s4.1.Den], box b4 67 [.int .i64 0, .int .i64 0]], fun x => Hold h x [box b4 67 [.int .i64 0, .int .i64 0], box b1 67 [.int .i64 0, .int .i64 0], rowsP cd2 39 a4 x1.length c2 x1 [(i3.toNat, a12, x12.length, c9, x12), ((a_.length : Int).toNat, a11, x10.length, c8, x10), (i3.toNat, a10, x8.length, c7, x8)], box b2 67 [.int .i64 s2.1.Num, .int .i64 s2.1.Den], box b3 67 [.int .i64 s4.1.Num, .int .i64 s4.1.Den]], H44, Hold.stable, fun x Hy => (show Hold h x [box b4 67 [.int .i64 0, .int .i64 0], box b1 67 [.int .i64 0, .int .i64 0], rowsP cd2 39 a4 x1.length c2 x1 [(i3.toNat, a12, x12.length, c9, x12), ((a_.length : Int).toNat, a11, x10.length, c8, x10), (i3.toNat, a10, x8.length, c7, x8)], box b2 67 [.int .i64 s2.1.Num, .int .i64 s2.1.Den], box b3 67 [.int .i64 s4.1.Num, .int .i64 s4.1.Den]] from Hy).pick [1, 2, 3, 4, 0] (by kernel_rfl), fun x Hy => (show Hold h x [box b1 67 [.int .i64 0, .int .i64 0], rowsP cd2 39 a4 x1.length c2 x1 [(i3.toNat, a12, x12.length, c9, x12), ((a_.length : Int).toNat, a11, x10.length, c8, x10), (i3.toNat, a10, x8.length, c7, x8)], box b2 67 [.int .i64 s2.1.Num, .int .i64 s2.1.Den], box b3 67 [.int .i64 s4.1.Num, .int .i64 s4.1.Den], box b4 67 [.int .i64 0, .int .i64 0]] from Hy).pick [0, 1, 2, 3] (by kernel_rfl), ?_⟩
                    refine DR_tail (i := 20) (by kernel_rfl) (by kernel_rfl) (by kernel_rfl) (fun h18 H45 => ?_)
                    have H46 : Hold h h18 [box b4 67 [.int .i64 0, .int .i64 0], box b1 67 [.int .i64 0, .int .i64 0], rowsP cd2 39 a4 x1.length c2 x1 [(i3.toNat, a12, x12.length, c9, x12), ((a_.length : Int).toNat, a11, x10.length, c8, x10), (i3.toNat, a10, x8.length, c7, x8)], box b2 67 [.int .i64 s2.1.Num, .int .i64 s2.1.Den], box b3 67 [.int .i64 s4.1.Num, .int .i64 s4.1.Den]] := H45
                    refine Run_E (by kernel_rfl) ?_
                    refine E_bput (t := 67) (off := 0) (us := [.int .i64 x14.Num, .int .i64 x14.Den]) (v := .agg #[.int .i64 x14.Num, .int .i64 x14.Den]) H46 (by kernel_rfl) (by kernel_rfl) rfl (by kernel_rfl) rfl (fun h19 H47 => ?_)
                    refine Run_nil (by kernel_rfl) ?_
                    refine Run_keep [2, 4, 5, 7, 8, 9, 10, 11, 13, 33, 34, 46, 47] (L' := [(2, .pointer (some ⟨b1, 0, none⟩)), (4, .int .i64 (a_.length : Int)), (5, .slice a4 x1.length c2), (7, .pointer (some ⟨b2, 0, none⟩)), (8, .bool s2.2), (9, .int .i64 i2), (10, .pointer (some ⟨b3, 0, none⟩)), (11, .bool s4.2), (13, .pointer (some ⟨b4, 0, none⟩)), (33, .int .i64 (a_.length : Int)), (34, .int .i64 i2), (46, .int .i64 (a_.length : Int)), (47, .int .i64 i3)]) (by kernel_rfl) ?_
                    refine Run_seq ?_
                    obtain ⟨x15, gx15, gs5⟩ := M.bind_some gs5
                    refine Run_regC (j := 8) (C := fun x => Hold h x [box b4 67 [.int .i64 x14.Num, .int .i64 x14.Den], box b1 67 [.int .i64 0, .int .i64 0], rowsP cd2 39 a4 x1.length c2 x1 [(i3.toNat, a12, x12.length, c9, x12), ((a_.length : Int).toNat, a11, x10.length, c8, x10), (i3.toNat, a10, x8.length, c7, x8)], box b2 67 [.int .i64 s2.1.Num, .int .i64 s2.1.Den], box b3 67 [.int .i64 s4.1.Num, .int .i64 s4.1.Den]]) (by kernel_rfl) H47 (L' := [(2, .pointer (some ⟨b1, 0, none⟩)), (4, .int .i64 (a_.length : Int)), (5, .slice a4 x1.length c2), (7, .pointer (some ⟨b2, 0, none⟩)), (8, .bool s2.2), (9, .int .i64 i2), (10, .pointer (some ⟨b3, 0, none⟩)), (11, .bool s4.2), (13, .pointer (some ⟨b4, 0, none⟩)), (33, .int .i64 (a_.length : Int)), (34, .int .i64 i2), (46, .int .i64 (a_.length : Int)), (47, .int .i64 i3), (84, .bool x15)]) ?_ (fun h20 H48 => ?_)
                    · refine QRun_b [.bool s4.2, .bool (!s4.2)] 0 _ (by kernel_rfl) (fun w => by kernel_rfl) ?_
                      refine QRun_seq 8 [(2, .pointer (some ⟨b1, 0, none⟩)), (4, .int .i64 (a_.length : Int)), (5, .slice a4 x1.length c2), (7, .pointer (some ⟨b2, 0, none⟩)), (8, .bool s2.2), (9, .int .i64 i2), (10, .pointer (some ⟨b3, 0, none⟩)), (11, .bool s4.2), (13, .pointer (some ⟨b4, 0, none⟩)), (33, .int .i64 (a_.length : Int)), (34, .int .i64 i2), (46, .int .i64 (a_.length : Int)), (47, .int .i64 i3), (84, .bool x15)] ?_ ?_
                      · rcases Bool.eq_false_or_eq_true (!s4.2) with hb6 | hb6
                        · refine QRun_bool (!s4.2) true (by kernel_rfl) (fun w => by kernel_rfl) hb6 ?_
                          have gx15 := M.ret_some ((M.ite_some gx15).1 hb6)
                          refine QRun_n (by kernel_rfl) ?_
                          refine QRun_n (by kernel_rfl) ?_
                          refine QRun_n (by kernel_rfl) ?_
                          refine QRun_n (by kernel_rfl) ?_
                          refine QRun_bool true x15 (by kernel_rfl) (fun w => by kernel_rfl) gx15 ?_
                          exact QRun_done [2, 4, 5, 7, 8, 9, 10, 11, 13, 33, 34, 46, 47, 84] (by kernel_rfl) (by kernel_rfl)
                        · refine QRun_bool (!s4.2) false (by kernel_rfl) (fun w => by kernel_rfl) hb6 ?_
                          have gx15 := (M.ite_some gx15).2 hb6
                          obtain ⟨x16, hx12, gx15⟩ := M.bind_some gx15
                          have gx15 := M.ret_some gx15
                          refine QRun_y (.agg #[.int .i64 x14.Num, .int .i64 x14.Den]) (by kernel_rfl) (Y_cls fun hx Hx => (Y_loadA (t := 67) (n := 2) (p := ⟨b4, 0, none⟩) (cs := [.int .i64 x14.Num, .int .i64 x14.Den]) (by kernel_rfl) (fun w => by kernel_rfl) (by kernel_rfl) rfl (Hx.cells (n := 2) (off := 0) 0 rfl rfl))) ?_
                          refine QRun_y (.agg #[.int .i64 s4.1.Num, .int .i64 s4.1.Den]) (by kernel_rfl) (Y_cls fun hx Hx => (Y_loadA (t := 67) (n := 2) (p := ⟨b3, 0, none⟩) (cs := [.int .i64 s4.1.Num, .int .i64 s4.1.Den]) (by kernel_rfl) (fun w => by kernel_rfl) (by kernel_rfl) rfl (Hx.cells (n := 2) (off := 0) 4 rfl rfl))) ?_
                          refine QRun_y (.int .i64 x16) (by kernel_rfl) (Y_call (f := 173) (args := #[.agg #[.int .i64 x14.Num, .int .i64 x14.Den], .agg #[.int .i64 s4.1.Num, .int .i64 s4.1.Den]]) (v := .int .i64 x16) (by kernel_rfl) fun hx Hx => (w_impl_compareRatios hx x14 s4.1 _ _ hx12).mono fun _ _ ⟨e, H'⟩ => ⟨e, Hx.call H' rfl⟩) ?_
                          refine QRun_b [.bool (decide (x16 < 0))] 6 _ (by kernel_rfl) (fun w => by kernel_rfl) ?_
                          refine QRun_bool (decide (x16 < 0)) x15 (by kernel_rfl) (fun w => by kernel_rfl) gx15 ?_
                          exact QRun_done [2, 4, 5, 7, 8, 9, 10, 11, 13, 33, 34, 46, 47, 84] (by kernel_rfl) (by kernel_rfl)
                      exact QRun_done [2, 4, 5, 7, 8, 9, 10, 11, 13, 33, 34, 46, 47, 84] (by kernel_rfl) (by kernel_rfl)
                    have H49 : Hold h h20 [box b4 67 [.int .i64 x14.Num, .int .i64 x14.Den], box b1 67 [.int .i64 0, .int .i64 0], rowsP cd2 39 a4 x1.length c2 x1 [(i3.toNat, a12, x12.length, c9, x12), ((a_.length : Int).toNat, a11, x10.length, c8, x10), (i3.toNat, a10, x8.length, c7, x8)], box b2 67 [.int .i64 s2.1.Num, .int .i64 s2.1.Den], box b3 67 [.int .i64 s4.1.Num, .int .i64 s4.1.Den]] := H48
                    refine Run_cond (b := x15) (by kernel_rfl) (fun hb7 => ?_) (fun hb7 => ?_)
                    · have gs5 := (M.ite_some gs5).1 hb7
                      refine Run_ops ?_
                      refine Run_y (.agg #[.int .i64 x14.Num, .int .i64 x14.Den]) (by kernel_rfl) (Y_loadA (t := 67) (n := 2) (p := ⟨b4, 0, none⟩) (cs := [.int .i64 x14.Num, .int .i64 x14.Den]) (by kernel_rfl) (fun w => by kernel_rfl) (by kernel_rfl) rfl (H49.cells (n := 2) (off := 0) 0 rfl rfl)) ?_
                      have H51 : Hold h h20 [box b3 67 [.int .i64 s4.1.Num, .int .i64 s4.1.Den], box b4 67 [.int .i64 x14.Num, .int .i64 x14.Den], box b1 67 [.int .i64 0, .int .i64 0], rowsP cd2 39 a4 x1.length c2 x1 [(i3.toNat, a12, x12.length, c9, x12), ((a_.length : Int).toNat, a11, x10.length, c8, x10), (i3.toNat, a10, x8.length, c7, x8)], box b2 67 [.int .i64 s2.1.Num, .int .i64 s2.1.Den]] := H49.pick [4, 0, 1, 2, 3] (by kernel_rfl)
                      refine Run_E (by kernel_rfl) ?_
                      refine E_bput (t := 67) (off := 0) (us := [.int .i64 x14.Num, .int .i64 x14.Den]) (v := .agg #[.int .i64 x14.Num, .int .i64 x14.Den]) H51 (by kernel_rfl) (by kernel_rfl) rfl (by kernel_rfl) rfl (fun h21 H50 => ?_)
                      refine Run_b [.bool true] 2 _ (by kernel_rfl) (fun w => by kernel_rfl) ?_
                      refine Run_nil (by kernel_rfl) ?_
                      refine Run_keep [2, 4, 5, 7, 8, 9, 10, 11, 33, 34, 46, 47] (L' := [(2, .pointer (some ⟨b1, 0, none⟩)), (4, .int .i64 (a_.length : Int)), (5, .slice a4 x1.length c2), (7, .pointer (some ⟨b2, 0, none⟩)), (8, .bool s2.2), (9, .int .i64 i2), (10, .pointer (some ⟨b3, 0, none⟩)), (11, .bool true), (33, .int .i64 (a_.length : Int)), (34, .int .i64 i2), (46, .int .i64 (a_.length : Int)), (47, .int .i64 i3)]) (by kernel_rfl) ?_
                      refine Run_blk ?_
                      have H56 : Hold h h21 [rowsP cd2 39 a4 x1.length c2 x1 [(i3.toNat, a12, x12.length, c9, x12), ((a_.length : Int).toNat, a11, x10.length, c8, x10), (i3.toNat, a10, x8.length, c7, x8)], box b3 67 [.int .i64 x14.Num, .int .i64 x14.Den], box b4 67 [.int .i64 x14.Num, .int .i64 x14.Den], box b1 67 [.int .i64 0, .int .i64 0], box b2 67 [.int .i64 s2.1.Num, .int .i64 s2.1.Den]] := H50.pick [3, 0, 1, 2, 4] (by kernel_rfl)
                      have H57 := H56.ofRows
                      have H58 : Hold h h21 [box b1 67 [.int .i64 0, .int .i64 0], own cd39 a4 x1.length c2 x1, box b2 67 [.int .i64 s2.1.Num, .int .i64 s2.1.Den], box b3 67 [.int .i64 x14.Num, .int .i64 x14.Den]] := H57.pick [3, 0, 4, 1] (by kernel_rfl)
                      have gs5 := M.ret_some gs5
                      subst gs5
                      exact Run_fall [2, 4, 5, 7, 8, 9, 10, 11, 33, 34, 46, 47] (by kernel_rfl) ⟨rfl, H58⟩
                    · have gs5 := (M.ite_some gs5).2 hb7
                      refine Run_skip ?_
                      refine Run_blk ?_
                      have H59 : Hold h h20 [rowsP cd2 39 a4 x1.length c2 x1 [(i3.toNat, a12, x12.length, c9, x12), ((a_.length : Int).toNat, a11, x10.length, c8, x10), (i3.toNat, a10, x8.length, c7, x8)], box b4 67 [.int .i64 x14.Num, .int .i64 x14.Den], box b1 67 [.int .i64 0, .int .i64 0], box b2 67 [.int .i64 s2.1.Num, .int .i64 s2.1.Den], box b3 67 [.int .i64 s4.1.Num, .int .i64 s4.1.Den]] := H49.pick [2, 0, 1, 3, 4] (by kernel_rfl)
                      have H60 := H59.ofRows
                      have H61 : Hold h h20 [box b1 67 [.int .i64 0, .int .i64 0], own cd39 a4 x1.length c2 x1, box b2 67 [.int .i64 s2.1.Num, .int .i64 s2.1.Den], box b3 67 [.int .i64 s4.1.Num, .int .i64 s4.1.Den]] := H60.pick [2, 0, 3, 4] (by kernel_rfl)
                      have gs5 := M.ret_some gs5
                      subst gs5
                      exact Run_fall [2, 4, 5, 7, 8, 9, 10, 11, 33, 34, 46, 47] (by kernel_rfl) ⟨rfl, H61⟩
              · have gx7 := M.for_end gx7 hb4
                subst gx7
                refine Run_exit (k' := _) rfl ?_
                exact Run_fall [2, 4, 5, 7, 8, 10, 33, 34] (by kernel_rfl) ⟨rfl, H30⟩
      · have gx4 := M.for_end gx4 hb2
        subst gx4
        refine Run_exit (k' := _) rfl ?_
        have H75 : Hold h h10 [box b1 67 [.int .i64 0, .int .i64 0], box b2 67 [.int .i64 s2.1.Num, .int .i64 s2.1.Den]] := H22.pick [0, 2] (by kernel_rfl)
        exact Run_fall [2, 7, 8] (by kernel_rfl) ⟨rfl, H75⟩
  · refine Run_block ?_
    have hn1 := (H3.len 0 rfl)
    have H79 : Hold h h3 [own cd39 a2 ([l1].length) 1 [l1], box b1 67 [.int .i64 0, .int .i64 0]] := by rw [hn1]; exact H3
    have H80 : Hold h h3 [box b1 67 [.int .i64 0, .int .i64 0], own cd39 a2 ([l1].length) 1 [l1]] := H79.pick [1, 0] (by kernel_rfl)
    refine Run_keep [0, 2, 4, 5, 19, 20] (L' := [(0, .slice aa_ a_.length ca_), (2, .pointer (some ⟨b1, 0, none⟩)), (4, .int .i64 (a_.length : Int)), (5, .slice a2 ([l1].length) 1), (19, .int .i64 (a_.length : Int)), (20, .int .i64 0)]) (by first | (rw [hn1]; kernel_rfl) | (simp only [hn1]; kernel_rfl) | kernel_rfl) ?_
    refine Run_loop (fun m L' h' => ∃ (i1 : Int) (s1 : (List (List Int))) (a3 : Option Addr) (c1 : Nat), 0 ≤ i1 ∧ M.forN (a_.length : Int) _ _ n m i1 s1 = some x1 ∧ L' = [(0, .slice aa_ a_.length ca_), (2, .pointer (some ⟨b1, 0, none⟩)), (4, .int .i64 (a_.length : Int)), (5, .slice a3 s1.length c1), (19, .int .i64 (a_.length : Int)), (20, .int .i64 i1)] ∧ Hold h h' [box b1 67 [.int .i64 0, .int .i64 0], own cd39 a3 s1.length c1 s1]) ((a_.length : Int) - 0 : Int).toNat ⟨0, [l1], a2, 1, Int.le_refl _, gx1, rfl, H80⟩ ?_
    rintro my1 _ h4 ⟨i1, s1, a3, c1, hloy1', gx1, rfl, H4⟩
    refine Run_seq ?_
    refine Run_reg 1 (by kernel_rfl) (L' := [(0, .slice aa_ a_.length ca_), (2, .pointer (some ⟨b1, 0, none⟩)), (4, .int .i64 (a_.length : Int)), (5, .slice a3 s1.length c1), (19, .int .i64 (a_.length : Int)), (20, .int .i64 i1), (21, .bool (decide (i1 < (a_.length : Int))))]) ?_ ?_
    · refine QRun_b [.bool (decide (i1 < (a_.length : Int)))] 0 _ (by kernel_rfl) (fun w => by kernel_rfl) ?_
      exact QRun_done [0, 2, 4, 5, 19, 20, 21] (by kernel_rfl) (by kernel_rfl)
    refine Run_seq ?_
    refine Run_cond (b := decide (i1 < (a_.length : Int))) (by kernel_rfl) (fun hb1 => ?_) (fun hb1 => ?_)
    · obtain ⟨my1, y1, rfl, hB1, hgoy1, houty1⟩ := M.for_go gx1 hb1
      have hlty1 := of_decide_eq_true hb1
      refine Run_skip ?_
      refine Run_seq ?_
      refine Run_block ?_
      refine Run_seq ?_
      refine Run_reg 2 (by kernel_rfl) (L' := [(0, .slice aa_ a_.length ca_), (2, .pointer (some ⟨b1, 0, none⟩)), (4, .int .i64 (a_.length : Int)), (5, .slice a3 s1.length c1), (6, .int .i64 i1), (19, .int .i64 (a_.length : Int)), (20, .int .i64 i1)]) ?_ ?_
      · refine QRun_b [.int .i64 i1, .int .i64 i1] 0 _ (by kernel_rfl) (fun w => by kernel_rfl) ?_
        exact QRun_done [0, 2, 4, 5, 6, 19, 20] (by kernel_rfl) (by kernel_rfl)
      refine Run_ops ?_
      obtain ⟨x2, hx1, hB1⟩ := M.bind_some hB1
      obtain ⟨hx1l, hx1u, hx1⟩ := M.idx_some hx1
      have H6 : Hold h h4 [own cd39 a3 s1.length c1 s1, box b1 67 [.int .i64 0, .int .i64 0]] := H4.pick [1, 0] (by kernel_rfl)
      have H7 := H6.toRows
      obtain ⟨a5, c3, H8⟩ := H7.pinRow hx1
      have H9 : Hold h h4 [box b1 67 [.int .i64 0, .int .i64 0], rowsP cd2 39 a3 s1.length c1 s1 [(i1.toNat, a5, x2.length, c3, x2)]] := H8.pick [1, 0] (by kernel_rfl)
      refine Run_b [.slice a3 s1.length c1, .slice aa_ a_.length ca_, .slice a3 s1.length c1, .int .i64 i1] 0 _ (by kernel_rfl) (fun w => by kernel_rfl) ?_
      refine Run_y (.pointer (some (adr a3 (i1.toNat * 1)))) (by kernel_rfl) (Y_idx (t := 37) (e := 39) (sz := 1) (a := a3) (n := s1.length) (cap := c1) (kk := .i64) (i := i1) (by kernel_rfl) Try.underlying37 (by kernel_rfl) ((H4.rd 1 rfl).cell hx1).1 hx1l hx1u) ?_
      refine Run_y (.slice a5 x2.length c3) (by kernel_rfl) (Y_load1 (t := 39) (p := adr a3 (i1.toNat * 1)) (v := .slice a5 x2.length c3) (by kernel_rfl) (fun w => by kernel_rfl) (H9.cellPin 1 rfl 0 rfl)) ?_
      obtain ⟨x3, hx2, hB1⟩ := M.bind_some hB1
      refine Run_E (by kernel_rfl) ?_
      refine E_call (f := 95) (args := #[.slice aa_ a_.length ca_, .slice a5 x2.length c3]) (w_impl_timesVector h4 a_ aa_ ca_ (ra_.at H9.ext) x2 a5 c3 (H9.rdPin 1 rfl 0 rfl) _ _ hx2) (by kernel_rfl) (fun v1 h6 hp1 => ?_)
      obtain ⟨a6, c4, rfl, H10⟩ := hp1
      have H11 : Hold h h6 [own cd2 a6 x3.length c4 x3, box b1 67 [.int .i64 0, .int .i64 0], rowsP cd2 39 a3 s1.length c1 s1 [(i1.toNat, a5, x2.length, c3, x2)]] := H9.call H10 rfl
      refine Run_E (by kernel_rfl) ?_
      refine E_lit1 (ey := 39) (n := x3.length) H11 (fun w => by kernel_rfl) rfl (fun a7 h7 H12 => ?_)
      obtain ⟨l2, hl2, hB1⟩ := M.bind_some hB1
      have hl2 := M.app_some hl2
      have H13 : Hold h h7 [rowsP cd2 39 a3 s1.length c1 s1 [(i1.toNat, a5, x2.length, c3, x2)], own cd39 a7 1 1 [x3], box b1 67 [.int .i64 0, .int .i64 0]] := H12.pick [2, 0, 1] (by kernel_rfl)
      have H14 := H13.ofRows
      have H15 : Hold h h7 [own cd39 a7 1 1 [x3], own cd39 a3 s1.length c1 s1, box b1 67 [.int .i64 0, .int .i64 0]] := H14.pick [1, 0, 2] (by kernel_rfl)
      have H16 : Hold h h7 [own cd39 a3 s1.length c1 s1, own cd39 a7 1 1 [x3], box b1 67 [.int .i64 0, .int .i64 0]] := H15.pick [1, 0, 2] (by kernel_rfl)
      refine Run_E (by kernel_rfl) ?_
      refine E_app (C := cd39) (t := 37) (ty := 37) (n := s1.length) (m := 1) H16 cd39_ti rfl Try.underlying37 (by decide) (by kernel_rfl) hl2 (fun a8 c5 h8 H17 => ?_)
      refine Run_b [.slice a8 l2.length c5] 9 _ (by kernel_rfl) (fun w => by kernel_rfl) ?_
      refine Run_nil (by kernel_rfl) ?_
      refine Run_keep [0, 2, 4, 5, 19, 20] (L' := [(0, .slice aa_ a_.length ca_), (2, .pointer (some ⟨b1, 0, none⟩)), (4, .int .i64 (a_.length : Int)), (5, .slice a8 l2.length c5), (19, .int .i64 (a_.length : Int)), (20, .int .i64 i1)]) (by kernel_rfl) ?_
      refine Run_blk ?_
      refine Run_reg 2 (by kernel_rfl) (L' := [(0, .slice aa_ a_.length ca_), (2, .pointer (some ⟨b1, 0, none⟩)), (4, .int .i64 (a_.length : Int)), (5, .slice a8 l2.length c5), (19, .int .i64 (a_.length : Int)), (20, .int .i64 (i1 + 1))]) ?_ ?_
      · refine QRun_y (.int .i64 (i1 + 1)) (by kernel_rfl) (Y_eq (v := .int .i64 (w64 (i1 + 1))) (Y_pure (fun w => by kernel_rfl)) (by rw [w64_eq _ (by omega)])) ?_
        refine QRun_b [.int .i64 (i1 + 1)] 1 _ (by kernel_rfl) (fun w => by kernel_rfl) ?_
        exact QRun_done [0, 2, 4, 5, 19, 20] (by kernel_rfl) (by kernel_rfl)
      have H18 : Hold h h8 [box b1 67 [.int .i64 0, .int .i64 0], own cd39 a8 l2.length c5 l2] := H17.pick [1, 0] (by kernel_rfl)
      have hB1 := M.ret_some hB1
      have gx1 := hgoy1 _ hB1.symm
      exact Run_again [0, 2, 4, 5, 19, 20] (by kernel_rfl) my1 (Nat.lt_succ_self _) ⟨i1 + 1, l2, a8, c5, by omega, gx1, rfl, H18⟩
    · have gx1 := M.for_end gx1 hb1
      subst gx1
      refine Run_exit (k' := _) rfl ?_
      have H19 : Hold h h4 [own cd39 a3 s1.length c1 s1, box b1 67 [.int .i64 0, .int .i64 0]] := H4.pick [1, 0] (by kernel_rfl)
      have H20 : Hold h h4 [box b1 67 [.int .i64 0, .int .i64 0], own cd39 a3 s1.length c1 s1] := H19.pick [1, 0] (by kernel_rfl)
      exact Run_fall [2, 4, 5] (by kernel_rfl) ⟨a3, c1, rfl, H20⟩

set_option maxRecDepth 100000 in
set_option maxHeartbeats 4000000 in
theorem w_impl_checkedRatio (h : Heap) (r_ : TRatio) (n : Nat) (r : TRatio × Int) (hF : impl_checkedRatio r_ n = some r) :
    Fn Try.prog 139 #[.agg #[.int .i64 r_.Num, .int .i64 r_.Den]] h fun v h' => v = .tuple #[.agg #[.int .i64 r.1.Num, .int .i64 r.1.Den], .int .i64 r.2] ∧ Hold h h' [] := by
  unfold impl_checkedRatio at hF
  refine Fn_enter (args := [.agg #[.int .i64 r_.Num, .int .i64 r_.Den]]) Try.func139 rfl (by kernel_rfl) (by kernel_rfl) (fun w0 _ => ?_)
  have H0 := Hold.init h
  refine Run_seq ?_
  refine Run_ops ?_
  refine Run_E (by kernel_rfl) ?_
  refine E_box (ty := 67) (cs := [.int .i64 r_.Num, .int .i64 r_.Den]) H0 (fun w => by kernel_rfl) (fun b1 h1 H1 => ?_)
  refine Run_E (by kernel_rfl) ?_
  refine E_box (ty := 67) (cs := [.int .i64 0, .int .i64 0]) H1 (fun w => by kernel_rfl) (fun b2 h2 H2 => ?_)
  refine Run_b [.int .i64 0] 2 _ (by kernel_rfl) (fun w => by kernel_rfl) ?_
  refine Run_nil (by kernel_rfl) ?_
  refine Run_keep [1, 2] (L' := [(1, .pointer (some ⟨b1, 0, none⟩)), (2, .pointer (some ⟨b2, 0, none⟩))]) (by kernel_rfl) ?_
  refine Run_seq ?_
  refine Run_seq ?_
  obtain ⟨x1, hx1, hF⟩ := M.bind_some hF
  refine Run_regC (j := 3) (C := fun x => Hold h x [box b2 67 [.int .i64 0, .int .i64 0], box b1 67 [.int .i64 r_.Num, .int .i64 r_.Den]]) (by kernel_rfl) H2 (L' := [(1, .pointer (some ⟨b1, 0, none⟩)), (2, .pointer (some ⟨b2, 0, none⟩)), (6, .bool (!x1))]) ?_ (fun h3 H3 => ?_)
  · refine QRun_y (.agg #[.int .i64 r_.Num, .int .i64 r_.Den]) (by kernel_rfl) (Y_cls fun hx Hx => (Y_loadA (t := 67) (n := 2) (p := ⟨b1, 0, none⟩) (cs := [.int .i64 r_.Num, .int .i64 r_.Den]) (by kernel_rfl) (fun w => by kernel_rfl) (by kernel_rfl) rfl (Hx.cells (n := 2) (off := 0) 1 rfl rfl))) ?_
    refine QRun_y (.bool x1) (by kernel_rfl) (Y_call (f := 121) (args := #[.agg #[.int .i64 r_.Num, .int .i64 r_.Den]]) (v := .bool x1) (by kernel_rfl) fun hx Hx => (w_impl_IsRatio hx r_ _ _ hx1).mono fun _ _ ⟨e, H'⟩ => ⟨e, Hx.call H' rfl⟩) ?_
    refine QRun_b [.bool (!x1)] 2 _ (by kernel_rfl) (fun w => by kernel_rfl) ?_
    exact QRun_done [1, 2, 6] (by kernel_rfl) (by kernel_rfl)
  have H4 : Hold h h3 [box b2 67 [.int .i64 0, .int .i64 0], box b1 67 [.int .i64 r_.Num, .int .i64 r_.Den]] := H3
  refine Run_cond (b := !x1) (by kernel_rfl) (fun hb1 => ?_) (fun hb1 => ?_)
  · have hF := (M.ite_some hF).1 hb1
    refine Run_seq ?_
    refine Run_ops ?_
    refine Run_b [.agg #[.int .i64 0, .int .i64 0]] 0 _ (by kernel_rfl) (fun w => by kernel_rfl) ?_
    refine Run_E (by kernel_rfl) ?_
    refine E_bput (t := 67) (off := 0) (us := [.int .i64 0, .int .i64 0]) (v := .agg #[.int .i64 0, .int .i64 0]) H4 (by kernel_rfl) (by kernel_rfl) rfl (by kernel_rfl) rfl (fun h4 H5 => ?_)
    refine Run_b [.int .i64 3] 2 _ (by kernel_rfl) (fun w => by kernel_rfl) ?_
    refine Run_nil (by kernel_rfl) ?_
    refine Run_keep [2, 3] (L' := [(2, .pointer (some ⟨b2, 0, none⟩)), (3, .int .i64 3)]) (by kernel_rfl) ?_
    have hF := M.ret_some hF
    subst hF
    have H6 : Hold h h4 [] := H5.pick [] (by kernel_rfl)
    exact Run_ret2 rfl (ResV_cell (n := 2) (cs := [.int .i64 0, .int .i64 0]) (by kernel_rfl) (fun w => by kernel_rfl) (by kernel_rfl) rfl (H5.cells (n := 2) (off := 0) 0 rfl rfl)) (ResV_tmp (v := .int .i64 3) (by kernel_rfl)) ⟨rfl, H6⟩
  · have hF := (M.ite_some hF).2 hb1
    refine Run_skip ?_
    refine Run_seq ?_
    refine Run_ops ?_
    refine Run_y (.agg #[.int .i64 r_.Num, .int .i64 r_.Den]) (by kernel_rfl) (Y_loadA (t := 67) (n := 2) (p := ⟨b1, 0, none⟩) (cs := [.int .i64 r_.Num, .int .i64 r_.Den]) (by kernel_rfl) (fun w => by kernel_rfl) (by kernel_rfl) rfl (H4.cells (n := 2) (off := 0) 1 rfl rfl)) ?_
    refine Run_E (by kernel_rfl) ?_
    refine E_bput (t := 67) (off := 0) (us := [.int .i64 r_.Num, .int .i64 r_.Den]) (v := .agg #[.int .i64 r_.Num, .int .i64 r_.Den]) H4 (by kernel_rfl) (by kernel_rfl) rfl (by kernel_rfl) rfl (fun h5 H7 => ?_)
    refine Run_b [.int .i64 0] 2 _ (by kernel_rfl) (fun w => by kernel_rfl) ?_
    refine Run_nil (by kernel_rfl) ?_
    refine Run_keep [2, 3] (L' := [(2, .pointer (some ⟨b2, 0, none⟩)), (3, .int .i64 0)]) (by kernel_rfl) ?_
    have hF := M.ret_some hF
    subst hF
    have H8 : Hold h h5 [] := H7.pick [] (by kernel_rfl)
    exact Run_ret2 rfl (ResV_cell (n := 2) (cs := [.int .i64 r_.Num, .int .i64 r_.Den]) (by kernel_rfl) (fun w => by kernel_rfl) (by kernel_rfl) rfl (H7.cells (n := 2) (off := 0) 0 rfl rfl)) (ResV_tmp (v := .int .i64 0) (by kernel_rfl)) ⟨rfl, H8⟩

set_option maxRecDepth 100000 in
set_option maxHeartbeats 4000000 in
theorem w_impl_CycleMean (h : Heap) (a_ : List (List Int)) (aa_ : Option Addr) (ca_ : Nat) (ra_ : Rd cd39 h (Lt h) aa_ ca_ a_) (n : Nat) (r : TRatio × Int) (hF : impl_CycleMean a_ n = some r) :
    Fn Try.prog 68 #[.slice aa_ a_.length ca_] h fun v h' => v = .tuple #[.agg #[.int .i64 r.1.Num, .int .i64 r.1.Den], .int .i64 r.2] ∧ Hold h h' [] := by
  unfold impl_CycleMean at hF
  refine Fn_enter (args := [.slice aa_ a_.length ca_]) Try.func68 rfl (by kernel_rfl) (by kernel_rfl) (fun w0 _ => ?_)
  have H0 := Hold.init h
  refine Run_seq ?_
  refine Run_ops ?_
  refine Run_E (by kernel_rfl) ?_
  refine E_box (ty := 67) (cs := [.int .i64 0, .int .i64 0]) H0 (fun w => by kernel_rfl) (fun b1 h1 H1 => ?_)
  refine Run_b [.int .i64 0] 1 _ (by kernel_rfl) (fun w => by kernel_rfl) ?_
  refine Run_nil (by kernel_rfl) ?_
  refine Run_keep [0, 2] (L' := [(0, .slice aa_ a_.length ca_), (2, .pointer (some ⟨b1, 0, none⟩))]) (by kernel_rfl) ?_
  refine Run_seq ?_
  refine Run_seq ?_
  obtain ⟨x1, hx1, hF⟩ := M.bind_some hF
  refine Run_regC (j := 3) (C := fun x => Hold h x [box b1 67 [.int .i64 0, .int .i64 0]]) (by kernel_rfl) H1 (L' := [(0, .slice aa_ a_.length ca_), (2, .pointer (some ⟨b1, 0, none⟩)), (8, .bool (!x1))]) ?_ (fun h2 H2 => ?_)
  · refine QRun_b [.slice aa_ a_.length ca_] 0 _ (by kernel_rfl) (fun w => by kernel_rfl) ?_
    refine QRun_y (.bool x1) (by kernel_rfl) (Y_call (f := 89) (args := #[.slice aa_ a_.length ca_]) (v := .bool x1) (by kernel_rfl) fun hx Hx => (w_impl_isSquare hx a_ aa_ ca_ (ra_.at Hx.ext) _ _ hx1).mono fun _ _ ⟨e, H'⟩ => ⟨e, Hx.call H' rfl⟩) ?_
    refine QRun_b [.bool (!x1)] 2 _ (by kernel_rfl) (fun w => by kernel_rfl) ?_
    exact QRun_done [0, 2, 8] (by kernel_rfl) (by kernel_rfl)
  have H3 : Hold h h2 [box b1 67 [.int .i64 0, .int .i64 0]] := H2
  refine Run_cond (b := !x1) (by kernel_rfl) (fun hb1 => ?_) (fun hb1 => ?_)
  · have hF := (M.ite_some hF).1 hb1
    refine Run_seq ?_
    refine Run_ops ?_
    refine Run_b [.agg #[.int .i64 0, .int .i64 0]] 0 _ (by kernel_rfl) (fun w => by kernel_rfl) ?_
    refine Run_E (by kernel_rfl) ?_
    refine E_bput (t := 67) (off := 0) (us := [.int .i64 0, .int .i64 0]) (v := .agg #[.int .i64 0, .int .i64 0]) H3 (by kernel_rfl) (by kernel_rfl) rfl (by kernel_rfl) rfl (fun h3 H4 => ?_)
    refine Run_b [.int .i64 1] 2 _ (by kernel_rfl) (fun w => by kernel_rfl) ?_
    refine Run_nil (by kernel_rfl) ?_
    refine Run_keep [2, 3] (L' := [(2, .pointer (some ⟨b1, 0, none⟩)), (3, .int .i64 1)]) (by kernel_rfl) ?_
    have hF := M.ret_some hF
    subst hF
    have H5 : Hold h h3 [] := H4.pick [] (by kernel_rfl)
    exact Run_ret2 rfl (ResV_cell (n := 2) (cs := [.int .i64 0, .int .i64 0]) (by kernel_rfl) (fun w => by kernel_rfl) (by kernel_rfl) rfl (H4.cells (n := 2) (off := 0) 0 rfl rfl)) (ResV_tmp (v := .int .i64 1) (by kernel_rfl)) ⟨rfl, H5⟩
  · have hF := (M.ite_some hF).2 hb1
    refine Run_skip ?_
    refine Run_seq ?_
    refine Run_ops ?_
    refine Run_b [.slice aa_ a_.length ca_] 0 _ (by kernel_rfl) (fun w => by kernel_rfl) ?_
    obtain ⟨x2, hx2, hF⟩ := M.bind_some hF
    refine Run_E (by kernel_rfl) ?_
    refine E_call (f := 138) (args := #[.slice aa_ a_.length ca_]) (w_impl_cycleMean h2 a_ aa_ ca_ (ra_.at H3.ext) _ _ hx2) (by kernel_rfl) (fun v1 h4 hp1 => ?_)
    obtain ⟨rfl, H6⟩ := hp1
    have H7 : Hold h h4 [box b1 67 [.int .i64 0, .int .i64 0]] := H3.call H6 rfl
    refine Run_b [.tuple #[.agg #[.int .i64 x2.1.Num, .int .i64 x2.1.Den], .bool x2.2], .agg #[.int .i64 x2.1.Num, .int .i64 x2.1.Den], .bool x2.2] 2 _ (by kernel_rfl) (fun w => by kernel_rfl) ?_
    refine Run_E (by kernel_rfl) ?_
    refine E_box (ty := 67) (cs := [.int .i64 0, .int .i64 0]) H7 (fun w => by kernel_rfl) (fun b2 h5 H8 => ?_)
    refine Run_E (by kernel_rfl) ?_
    refine E_bput (t := 67) (off := 0) (us := [.int .i64 x2.1.Num, .int .i64 x2.1.Den]) (v := .agg #[.int .i64 x2.1.Num, .int .i64 x2.1.Den]) H8 (by kernel_rfl) (by kernel_rfl) rfl (by kernel_rfl) rfl (fun h6 H9 => ?_)
    refine Run_b [.bool x2.2] 7 _ (by kernel_rfl) (fun w => by kernel_rfl) ?_
    refine Run_nil (by kernel_rfl) ?_
    refine Run_keep [2, 4, 5] (L' := [(2, .pointer (some ⟨b1, 0, none⟩)), (4, .pointer (some ⟨b2, 0, none⟩)), (5, .bool x2.2)]) (by kernel_rfl) ?_
    refine Run_seq ?_
    refine Run_seq ?_
    refine Run_reg 2 (by kernel_rfl) (L' := [(2, .pointer (some ⟨b1, 0, none⟩)), (4, .pointer (some ⟨b2, 0, none⟩)), (16, .bool (!x2.2))]) ?_ ?_
    · refine QRun_b [.bool x2.2, .bool (!x2.2)] 0 _ (by kernel_rfl) (fun w => by kernel_rfl) ?_
      exact QRun_done [2, 4, 16] (by kernel_rfl) (by kernel_rfl)
    refine Run_cond (b := !x2.2) (by kernel_rfl) (fun hb2 => ?_) (fun hb2 => ?_)
    · have hF := (M.ite_some hF).1 hb2
      refine Run_seq ?_
      refine Run_ops ?_
      refine Run_b [.agg #[.int .i64 0, .int .i64 0]] 0 _ (by kernel_rfl) (fun w => by kernel_rfl) ?_
      have H11 : Hold h h6 [box b1 67 [.int .i64 0, .int .i64 0], box b2 67 [.int .i64 x2.1.Num, .int .i64 x2.1.Den]] := H9.pick [1, 0] (by kernel_rfl)
      refine Run_E (by kernel_rfl) ?_
      refine E_bput (t := 67) (off := 0) (us := [.int .i64 0, .int .i64 0]) (v := .agg #[.int .i64 0, .int .i64 0]) H11 (by kernel_rfl) (by kernel_rfl) rfl (by kernel_rfl) rfl (fun h7 H10 => ?_)
      refine Run_b [.int .i64 4] 2 _ (by kernel_rfl) (fun w => by kernel_rfl) ?_
      refine Run_nil (by kernel_rfl) ?_
      refine Run_keep [2, 3] (L' := [(2, .pointer (some ⟨b1, 0, none⟩)), (3, .int .i64 4)]) (by kernel_rfl) ?_
      have hF := M.ret_some hF
      subst hF
      have H12 : Hold h h7 [] := H10.pick [] (by kernel_rfl)
      exact Run_ret2 rfl (ResV_cell (n := 2) (cs := [.int .i64 0, .int .i64 0]) (by kernel_rfl) (fun w => by kernel_rfl) (by kernel_rfl) rfl (H10.cells (n := 2) (off := 0) 0 rfl rfl)) (ResV_tmp (v := .int .i64 4) (by kernel_rfl)) ⟨rfl, H12⟩
    · have hF := (M.ite_some hF).2 hb2
      refine Run_skip ?_
      refine Run_seq ?_
      refine Run_ops ?_
      refine Run_y (.agg #[.int .i64 x2.1.Num, .int .i64 x2.1.Den]) (by kernel_rfl) (Y_loadA (t := 67) (n := 2) (p := ⟨b2, 0, none⟩) (cs := [.int .i64 x2.1.Num, .int .i64 x2.1.Den]) (by kernel_rfl) (fun w => by kernel_rfl) (by kernel_rfl) rfl (H9.cells (n := 2) (off := 0) 0 rfl rfl)) ?_
      obtain ⟨x3, hx3, hF⟩ := M.bind_some hF
      refine Run_E (by kernel_rfl) ?_
      refine E_call (f := 139) (args := #[.agg #[.int .i64 x2.1.Num, .int .i64 x2.1.Den]]) (w_impl_checkedRatio h6 x2.1 _ _ hx3) (by kernel_rfl) (fun v2 h8 hp2 => ?_)
      obtain ⟨rfl, H13⟩ := hp2
      have H14 : Hold h h8 [box b2 67 [.int .i64 x2.1.Num, .int .i64 x2.1.Den], box b1 67 [.int .i64 0, .int .i64 0]] := H9.call H13 rfl
      refine Run_b [.agg #[.int .i64 x3.1.Num, .int .i64 x3.1.Den], .int .i64 x3.2] 2 _ (by kernel_rfl) (fun w => by kernel_rfl) ?_
      have H16 : Hold h h8 [box b1 67 [.int .i64 0, .int .i64 0], box b2 67 [.int .i64 x2.1.Num, .int .i64 x2.1.Den]] := H14.pick [1, 0] (by kernel_rfl)
      refine Run_E (by kernel_rfl) ?_
      refine E_bput (t := 67) (off := 0) (us := [.int .i64 x3.1.Num, .int .i64 x3.1.Den]) (v := .agg #[.int .i64 x3.1.Num, .int .i64 x3.1.Den]) H16 (by kernel_rfl) (by kernel_rfl) rfl (by kernel_rfl) rfl (fun h9 H15 => ?_)
      refine Run_b [.int .i64 x3.2] 5 _ (by kernel_rfl) (fun w => by kernel_rfl) ?_
      refine Run_nil (by kernel_rfl) ?_
      refine Run_keep [2, 3] (L' := [(2, .pointer (some ⟨b1, 0, none⟩)), (3, .int .i64 x3.2)]) (by kernel_rfl) ?_
      have hF := M.ret_some hF
      subst hF
      have H17 : Hold h h9 [] := H15.pick [] (by kernel_rfl)
      exact Run_ret2 rfl (ResV_cell (n := 2) (cs := [.int .i64 x3.1.Num, .int .i64 x3.1.Den]) (by kernel_rfl) (fun w => by kernel_rfl) (by kernel_rfl) rfl (H15.cells (n := 2) (off := 0) 0 rfl rfl)) (ResV_tmp (v := .int .i64 x3.2) (by kernel_rfl)) ⟨rfl, H17⟩

set_option maxRecDepth 100000 in
set_option maxHeartbeats 4000000 in
theorem w_laws_FnCharacteristic (h : Heap) (code : List Int) (acode : Option Addr) (ccode : Nat) (rcode : Rd cd5 h (Lt h) acode ccode code) (n : Nat) (r : Bool) (hF : laws_FnCharacteristic code n = some r) :
    Fn Try.prog 10 #[.slice acode code.length ccode] h fun v h' => v = .bool r ∧ Hold h h' [] := by
  unfold laws_FnCharacteristic at hF
  refine Fn_enter (args := [.slice acode code.length ccode]) Try.func10 rfl (by kernel_rfl) (by kernel_rfl) (fun w0 _ => ?_)
  have H0 := Hold.init h
  refine Run_seq ?_
  refine Run_reg 1 (by kernel_rfl) (L' := [(0, .slice acode code.length ccode)]) ?_ ?_
  · refine QRun_b [.bool false] 0 _ (by kernel_rfl) (fun w => by kernel_rfl) ?_
    exact QRun_done [0] (by kernel_rfl) (by kernel_rfl)
  refine Run_seq ?_
  refine Run_seq ?_
  obtain ⟨x1, hx1, hF⟩ := M.bind_some hF
  refine Run_reg 2 (by kernel_rfl) (L' := [(0, .slice acode code.length ccode), (19, .bool x1)]) ?_ ?_
  · refine QRun_b [.slice acode code.length ccode] 0 _ (by kernel_rfl) (fun w => by kernel_rfl) ?_
    refine QRun_y (.bool x1) (by kernel_rfl) (Y_callq (f := 27) (args := #[.slice acode code.length ccode]) (v := .bool x1) (by kernel_rfl) (w_laws_big h code acode ccode rcode _ _ hx1)) ?_
    exact QRun_done [0, 19] (by kernel_rfl) (by kernel_rfl)
  refine Run_cond (b := x1) (by kernel_rfl) (fun hb1 => ?_) (fun hb1 => ?_)
  · have hF := (M.ite_some hF).1 hb1
    refine Run_seq ?_
    refine Run_reg 1 (by kernel_rfl) (L' := [(2, .bool true)]) ?_ ?_
    · refine QRun_b [.bool true] 0 _ (by kernel_rfl) (fun w => by kernel_rfl) ?_
      exact QRun_done [2] (by kernel_rfl) (by kernel_rfl)
    have hF := M.ret_some hF
    subst hF
    exact Run_ret1 rfl (ResV_tmp (v := .bool true) (by kernel_rfl)) ⟨rfl, H0⟩
  · have hF := (M.ite_some hF).2 hb1
    refine Run_skip ?_
    refine Run_seq ?_
    refine Run_ops ?_
    refine Run_b [.slice acode code.length ccode] 0 _ (by kernel_rfl) (fun w => by kernel_rfl) ?_
    obtain ⟨x2, hx2, hF⟩ := M.bind_some hF
    refine Run_E (by kernel_rfl) ?_
    refine E_call (f := 62) (args := #[.slice acode code.length ccode]) (w_spec_DrawCharPolynomial h code acode ccode rcode _ _ hx2) (by kernel_rfl) (fun v1 h1 hp1 => ?_)
    obtain ⟨a1, c1, rfl, H1⟩ := hp1
    have H2 : Hold h h1 [own cd39 a1 x2.length c1 x2] := H0.call H1 rfl
    refine Run_b [.slice a1 x2.length c1] 2 _ (by kernel_rfl) (fun w => by kernel_rfl) ?_
    refine Run_nil (by kernel_rfl) ?_
    refine Run_keep [0, 3] (L' := [(0, .slice acode code.length ccode), (3, .slice a1 x2.length c1)]) (by kernel_rfl) ?_
    refine Run_seq ?_
    refine Run_ops ?_
    refine Run_b [.slice a1 x2.length c1] 0 _ (by kernel_rfl) (fun w => by kernel_rfl) ?_
    obtain ⟨x3, hx3, hF⟩ := M.bind_some hF
    refine Run_E (by kernel_rfl) ?_
    refine E_call (f := 63) (args := #[.slice a1 x2.length c1]) (w_impl_CharPolynomial h1 x2 a1 c1 (H2.rd 0 rfl) _ _ hx3) (by kernel_rfl) (fun v2 h2 hp2 => ?_)
    obtain ⟨a2, c2, rfl, H3⟩ := hp2
    have H4 : Hold h h2 [own cd2 a2 x3.1.length c2 x3.1, own cd39 a1 x2.length c1 x2] := H2.call H3 rfl
    refine Run_b [.tuple #[.slice a2 x3.1.length c2, .int .i64 x3.2], .slice a2 x3.1.length c2, .int .i64 x3.2, .slice a2 x3.1.length c2, .int .i64 x3.2] 2 _ (by kernel_rfl) (fun w => by kernel_rfl) ?_
    refine Run_nil (by kernel_rfl) ?_
    refine Run_keep [0, 3, 4, 5] (L' := [(0, .slice acode code.length ccode), (3, .slice a1 x2.length c1), (4, .slice a2 x3.1.length c2), (5, .int .i64 x3.2)]) (by kernel_rfl) ?_
    refine Run_seq ?_
    refine Run_ops ?_
    refine Run_b [.slice a1 x2.length c1] 0 _ (by kernel_rfl) (fun w => by kernel_rfl) ?_
    obtain ⟨x4, hx4, hF⟩ := M.bind_some hF
    refine Run_E (by kernel_rfl) ?_
    refine E_call (f := 64) (args := #[.slice a1 x2.length c1]) (w_spec_CharPolynomial h2 x2 a1 c1 (H4.rd 1 rfl) _ _ hx4) (by kernel_rfl) (fun v3 h3 hp3 => ?_)
    obtain ⟨a3, c3, rfl, H5⟩ := hp3
    have H6 : Hold h h3 [own cd2 a3 x4.1.length c3 x4.1, own cd2 a2 x3.1.length c2 x3.1, own cd39 a1 x2.length c1 x2] := H4.call H5 rfl
    refine Run_b [.tuple #[.slice a3 x4.1.length c3, .int .i64 x4.2], .slice a3 x4.1.length c3, .int .i64 x4.2, .slice a3 x4.1.length c3, .int .i64 x4.2] 2 _ (by kernel_rfl) (fun w => by kernel_rfl) ?_
    refine Run_nil (by kernel_rfl) ?_
    refine Run_keep [0, 3, 4, 5, 6, 7] (L' := [(0, .slice acode code.length ccode), (3, .slice a1 x2.length c1), (4, .slice a2 x3.1.length c2), (5, .int .i64 x3.2), (6, .slice a3 x4.1.length c3), (7, .int .i64 x4.2)]) (by kernel_rfl) ?_
    refine Run_seq ?_
    refine Run_ops ?_
    refine Run_b [.slice acode code.length ccode] 0 _ (by kernel_rfl) (fun w => by kernel_rfl) ?_
    obtain ⟨x5, hx5, hF⟩ := M.bind_some hF
    refine Run_E (by kernel_rfl) ?_
    refine E_call (f := 65) (args := #[.slice acode code.length ccode]) (w_spec_DrawPrincipalPermanent h3 code acode ccode (rcode.at H6.ext) _ _ hx5) (by kernel_rfl) (fun v4 h4 hp4 => ?_)
    obtain ⟨a4, c4, a5, c5, rfl, H7⟩ := hp4
    have H8 : Hold h h4 [own cd39 a4 x5.1.length c4 x5.1, own cd2 a5 x5.2.length c5 x5.2, own cd2 a3 x4.1.length c3 x4.1, own cd2 a2 x3.1.length c2 x3.1, own cd39 a1 x2.length c1 x2] := H6.call H7 rfl
    refine Run_b [.tuple #[.slice a4 x5.1.length c4, .slice a5 x5.2.length c5], .slice a4 x5.1.length c4, .slice a5 x5.2.length c5, .slice a4 x5.1.length c4, .slice a5 x5.2.length c5] 2 _ (by kernel_rfl) (fun w => by kernel_rfl) ?_
    refine Run_nil (by kernel_rfl) ?_
    refine Run_keep [3, 4, 5, 6, 7, 8, 9] (L' := [(3, .slice a1 x2.length c1), (4, .slice a2 x3.1.length c2), (5, .int .i64 x3.2), (6, .slice a3 x4.1.length c3), (7, .int .i64 x4.2), (8, .slice a4 x5.1.length c4), (9, .slice a5 x5.2.length c5)]) (by kernel_rfl) ?_
    refine Run_seq ?_
    obtain ⟨x6, hx6, hF⟩ := M.bind_some hF
    refine Run_regC (j := 8) (C := fun x => Hold h x [own cd39 a4 x5.1.length c4 x5.1, own cd2 a5 x5.2.length c5 x5.2, own cd2 a3 x4.1.length c3 x4.1, own cd2 a2 x3.1.length c2 x3.1, own cd39 a1 x2.length c1 x2]) (by kernel_rfl) H8 (L' := [(3, .slice a1 x2.length c1), (4, .slice a2 x3.1.length c2), (5, .int .i64 x3.2), (6, .slice a3 x4.1.length c3), (7, .int .i64 x4.2), (8, .slice a4 x5.1.length c4), (9, .slice a5 x5.2.length c5), (10, .int .i64 x6.1), (11, .int .i64 x6.2)]) ?_ (fun h5 H9 => ?_)
    · refine QRun_b [.slice a4 x5.1.length c4, .slice a5 x5.2.length c5] 0 _ (by kernel_rfl) (fun w => by kernel_rfl) ?_
      refine QRun_y (.tuple #[.int .i64 x6.1, .int .i64 x6.2]) (by kernel_rfl) (Y_call (f := 66) (args := #[.slice a4 x5.1.length c4, .slice a5 x5.2.length c5]) (v := .tuple #[.int .i64 x6.1, .int .i64 x6.2]) (by kernel_rfl) fun hx Hx => (w_impl_PrincipalPermanent hx x5.1 a4 c4 (Hx.rd 0 rfl) x5.2 a5 c5 (Hx.rd 1 rfl) _ _ hx6).mono fun _ _ ⟨e, H'⟩ => ⟨e, Hx.call H' rfl⟩) ?_
      refine QRun_b [.tuple #[.int .i64 x6.1, .int .i64 x6.2], .int .i64 x6.1, .int .i64 x6.2, .int .i64 x6.1, .int .i64 x6.2] 3 _ (by kernel_rfl) (fun w => by kernel_rfl) ?_
      exact QRun_done [3, 4, 5, 6, 7, 8, 9, 10, 11] (by kernel_rfl) (by kernel_rfl)
    have H10 : Hold h h5 [own cd39 a4 x5.1.length c4 x5.1, own cd2 a5 x5.2.length c5 x5.2, own cd2 a3 x4.1.length c3 x4.1, own cd2 a2 x3.1.length c2 x3.1, own cd39 a1 x2.length c1 x2] := H9
    refine Run_seq ?_
    obtain ⟨x7, hx7, hF⟩ := M.bind_some hF
    refine Run_regC (j := 8) (C := fun x => Hold h x [own cd39 a4 x5.1.length c4 x5.1, own cd2 a5 x5.2.length c5 x5.2, own cd2 a3 x4.1.length c3 x4.1, own cd2 a2 x3.1.length c2 x3.1, own cd39 a1 x2.length c1 x2]) (by kernel_rfl) H10 (L' := [(3, .slice a1 x2.length c1), (4, .slice a2 x3.1.length c2), (5, .int .i64 x3.2), (6, .slice a3 x4.1.length c3), (7, .int .i64 x4.2), (10, .int .i64 x6.1), (11, .int .i64 x6.2), (12, .int .i64 x7.1), (13, .int .i64 x7.2)]) ?_ (fun h6 H11 => ?_)
    · refine QRun_b [.slice a4 x5.1.length c4, .slice a5 x5.2.length c5] 0 _ (by kernel_rfl) (fun w => by kernel_rfl) ?_
      refine QRun_y (.tuple #[.int .i64 x7.1, .int .i64 x7.2]) (by kernel_rfl) (Y_call (f := 67) (args := #[.slice a4 x5.1.length c4, .slice a5 x5.2.length c5]) (v := .tuple #[.int .i64 x7.1, .int .i64 x7.2]) (by kernel_rfl) fun hx Hx => (w_spec_PrincipalPermanent hx x5.1 a4 c4 (Hx.rd 0 rfl) x5.2 a5 c5 (Hx.rd 1 rfl) _ _ hx7).mono fun _ _ ⟨e, H'⟩ => ⟨e, Hx.call H' rfl⟩) ?_
      refine QRun_b [.tuple #[.int .i64 x7.1, .int .i64 x7.2], .int .i64 x7.1, .int .i64 x7.2, .int .i64 x7.1, .int .i64 x7.2] 3 _ (by kernel_rfl) (fun w => by kernel_rfl) ?_
      exact QRun_done [3, 4, 5, 6, 7, 10, 11, 12, 13] (by kernel_rfl) (by kernel_rfl)
    have H12 : Hold h h6 [own cd39 a4 x5.1.length c4 x5.1, own cd2 a5 x5.2.length c5 x5.2, own cd2 a3 x4.1.length c3 x4.1, own cd2 a2 x3.1.length c2 x3.1, own cd39 a1 x2.length c1 x2] := H11
    refine Run_seq ?_
    refine Run_seq ?_
    obtain ⟨x8, gx8, hF⟩ := M.bind_some hF
    refine Run_reg 19 (by kernel_rfl) (L' := [(3, .slice a1 x2.length c1), (4, .slice a2 x3.1.length c2), (5, .int .i64 x3.2), (67, .bool ((x8 || (x6.2 != x7.2)) || (x6.1 != x7.1)))]) ?_ ?_
    · refine QRun_b [.int .i64 x3.2, .int .i64 x4.2, .bool (x3.2 != x4.2)] 0 _ (by kernel_rfl) (fun w => by kernel_rfl) ?_
      refine QRun_seq 9 [(3, .slice a1 x2.length c1), (4, .slice a2 x3.1.length c2), (5, .int .i64 x3.2), (10, .int .i64 x6.1), (11, .int .i64 x6.2), (12, .int .i64 x7.1), (13, .int .i64 x7.2), (57, .bool x8)] ?_ ?_
      · rcases Bool.eq_false_or_eq_true (x3.2 != x4.2) with hb2 | hb2
        · refine QRun_bool (x3.2 != x4.2) true (by kernel_rfl) (fun w => by kernel_rfl) hb2 ?_
          have gx8 := M.ret_some ((M.ite_some gx8).1 hb2)
          refine QRun_n (by kernel_rfl) ?_
          refine QRun_n (by kernel_rfl) ?_
          refine QRun_n (by kernel_rfl) ?_
          refine QRun_n (by kernel_rfl) ?_
          refine QRun_bool true x8 (by kernel_rfl) (fun w => by kernel_rfl) gx8 ?_
          exact QRun_done [3, 4, 5, 10, 11, 12, 13, 57] (by kernel_rfl) (by kernel_rfl)
        · refine QRun_bool (x3.2 != x4.2) false (by kernel_rfl) (fun w => by kernel_rfl) hb2 ?_
          have gx8 := (M.ite_some gx8).2 hb2
          obtain ⟨x9, hx8, gx8⟩ := M.bind_some gx8
          have gx8 := M.ret_some gx8
          refine QRun_b [.slice a2 x3.1.length c2, .slice a3 x4.1.length c3] 4 _ (by kernel_rfl) (fun w => by kernel_rfl) ?_
          refine QRun_y (.bool x9) (by kernel_rfl) (Y_callq (f := 39) (args := #[.slice a2 x3.1.length c2, .slice a3 x4.1.length c3]) (v := .bool x9) (by kernel_rfl) (w_laws_likeInts h6 x3.1 a2 c2 (H12.rd 3 rfl) x4.1 a3 c3 (H12.rd 2 rfl) _ _ hx8)) ?_
          refine QRun_b [.bool (!x9)] 7 _ (by kernel_rfl) (fun w => by kernel_rfl) ?_
          refine QRun_bool (!x9) x8 (by kernel_rfl) (fun w => by kernel_rfl) gx8 ?_
          exact QRun_done [3, 4, 5, 10, 11, 12, 13, 57] (by kernel_rfl) (by kernel_rfl)
      refine QRun_seq 14 [(3, .slice a1 x2.length c1), (4, .slice a2 x3.1.length c2), (5, .int .i64 x3.2), (10, .int .i64 x6.1), (12, .int .i64 x7.1), (62, .bool (x8 || (x6.2 != x7.2)))] ?_ ?_
      · rcases Bool.eq_false_or_eq_true x8 with hb3 | hb3
        · refine QRun_bool x8 true (by kernel_rfl) (fun w => by kernel_rfl) hb3 ?_
          refine QRun_n (by kernel_rfl) ?_
          refine QRun_n (by kernel_rfl) ?_
          refine QRun_n (by kernel_rfl) ?_
          refine QRun_bool true (x8 || (x6.2 != x7.2)) (by kernel_rfl) (fun w => by kernel_rfl) (by rw [hb3]; rfl) ?_
          exact QRun_done [3, 4, 5, 10, 12, 62] (by kernel_rfl) (by kernel_rfl)
        · refine QRun_bool x8 false (by kernel_rfl) (fun w => by kernel_rfl) hb3 ?_
          refine QRun_b [.int .i64 x6.2, .int .i64 x7.2, .bool (x6.2 != x7.2)] 10 _ (by kernel_rfl) (fun w => by kernel_rfl) ?_
          refine QRun_bool (x6.2 != x7.2) (x8 || (x6.2 != x7.2)) (by kernel_rfl) (fun w => by kernel_rfl) (by rw [hb3]; rfl) ?_
          exact QRun_done [3, 4, 5, 10, 12, 62] (by kernel_rfl) (by kernel_rfl)
      refine QRun_seq 19 [(3, .slice a1 x2.length c1), (4, .slice a2 x3.1.length c2), (5, .int .i64 x3.2), (67, .bool ((x8 || (x6.2 != x7.2)) || (x6.1 != x7.1)))] ?_ ?_
      · rcases Bool.eq_false_or_eq_true (x8 || (x6.2 != x7.2)) with hb4 | hb4
        · refine QRun_bool (x8 || (x6.2 != x7.2)) true (by kernel_rfl) (fun w => by kernel_rfl) hb4 ?_
          refine QRun_n (by kernel_rfl) ?_
          refine QRun_n (by kernel_rfl) ?_
          refine QRun_n (by kernel_rfl) ?_
          refine QRun_bool true ((x8 || (x6.2 != x7.2)) || (x6.1 != x7.1)) (by kernel_rfl) (fun w => by kernel_rfl) (by rw [hb4]; rfl) ?_
          exact QRun_done [3, 4, 5, 67] (by kernel_rfl) (by kernel_rfl)
        · refine QRun_bool (x8 || (x6.2 != x7.2)) false (by kernel_rfl) (fun w => by kernel_rfl) hb4 ?_
          refine QRun_b [.int .i64 x6.1, .int .i64 x7.1, .bool (x6.1 != x7.1)] 15 _ (by kernel_rfl) (fun w => by kernel_rfl) ?_
          refine QRun_bool (x6.1 != x7.1) ((x8 || (x6.2 != x7.2)) || (x6.1 != x7.1)) (by kernel_rfl) (fun w => by kernel_rfl) (by rw [hb4]; rfl) ?_
          exact QRun_done [3, 4, 5, 67] (by kernel_rfl) (by kernel_rfl)
      exact QRun_done [3, 4, 5, 67] (by kernel_rfl) (by kernel_rfl)
    refine Run_cond (b := (x8 || (x6.2 != x7.2)) || (x6.1 != x7.1)) (by kernel_rfl) (fun hb5 => ?_) (fun hb5 => ?_)
    · have hF := (M.ite_some hF).1 hb5
      refine Run_seq ?_
      refine Run_reg 1 (by kernel_rfl) (L' := [(2, .bool false)]) ?_ ?_
      · refine QRun_b [.bool false] 0 _ (by kernel_rfl) (fun w => by kernel_rfl) ?_
        exact QRun_done [2] (by kernel_rfl) (by kernel_rfl)
      have hF := M.ret_some hF
      subst hF
      have H13 : Hold h h6 [] := H12.pick [] (by kernel_rfl)
      exact Run_ret1 rfl (ResV_tmp (v := .bool false) (by kernel_rfl)) ⟨rfl, H13⟩
    · have hF := (M.ite_some hF).2 hb5
      refine Run_skip ?_
      refine Run_seq ?_
      refine Run_seq ?_
      refine Run_reg 2 (by kernel_rfl) (L' := [(3, .slice a1 x2.length c1), (4, .slice a2 x3.1.length c2), (69, .bool (x3.2 != 0))]) ?_ ?_
      · refine QRun_b [.int .i64 x3.2, .bool (x3.2 != 0)] 0 _ (by kernel_rfl) (fun w => by kernel_rfl) ?_
        exact QRun_done [3, 4, 69] (by kernel_rfl) (by kernel_rfl)
      refine Run_cond (b := x3.2 != 0) (by kernel_rfl) (fun hb6 => ?_) (fun hb6 => ?_)
      · have hF := (M.ite_some hF).1 hb6
        refine Run_seq ?_
        refine Run_reg 1 (by kernel_rfl) (L' := [(2, .bool true)]) ?_ ?_
        · refine QRun_b [.bool true] 0 _ (by kernel_rfl) (fun w => by kernel_rfl) ?_
          exact QRun_done [2] (by kernel_rfl) (by kernel_rfl)
        have hF := M.ret_some hF
        subst hF
        have H14 : Hold h h6 [] := H12.pick [] (by kernel_rfl)
        exact Run_ret1 rfl (ResV_tmp (v := .bool true) (by kernel_rfl)) ⟨rfl, H14⟩
      · have hF := (M.ite_some hF).2 hb6
        refine Run_skip ?_
        refine Run_seq ?_
        refine Run_ops ?_
        refine Run_b [.slice a2 x3.1.length c2] 0 _ (by kernel_rfl) (fun w => by kernel_rfl) ?_
        obtain ⟨x12, hx9, hF⟩ := M.bind_some hF
        refine Run_E (by kernel_rfl) ?_
        refine E_call (f := 45) (args := #[.slice a2 x3.1.length c2]) (w_impl_CornersOf h6 x3.1 a2 c2 (H12.rd 3 rfl) _ _ hx9) (by kernel_rfl) (fun v5 h7 hp5 => ?_)
        obtain ⟨a6, c6, rfl, H15⟩ := hp5
        have H16 : Hold h h7 [own cd69 a6 x12.1.length c6 x12.1, own cd39 a4 x5.1.length c4 x5.1, own cd2 a5 x5.2.length c5 x5.2, own cd2 a3 x4.1.length c3 x4.1, own cd2 a2 x3.1.length c2 x3.1, own cd39 a1 x2.length c1 x2] := H12.call H15 rfl
        refine Run_b [.tuple #[.slice a6 x12.1.length c6, .int .i64 x12.2], .slice a6 x12.1.length c6, .int .i64 x12.2, .slice a6 x12.1.length c6, .int .i64 x12.2] 2 _ (by kernel_rfl) (fun w => by kernel_rfl) ?_
        refine Run_nil (by kernel_rfl) ?_
        refine Run_keep [3, 14, 15] (L' := [(3, .slice a1 x2.length c1), (14, .slice a6 x12.1.length c6), (15, .int .i64 x12.2)]) (by kernel_rfl) ?_
        refine Run_seq ?_
        refine Run_ops ?_
        refine Run_b [.slice a1 x2.length c1] 0 _ (by kernel_rfl) (fun w => by kernel_rfl) ?_
        obtain ⟨x13, hx10, hF⟩ := M.bind_some hF
        refine Run_E (by kernel_rfl) ?_
        refine E_call (f := 68) (args := #[.slice a1 x2.length c1]) (w_impl_CycleMean h7 x2 a1 c1 (H16.rd 5 rfl) _ _ hx10) (by kernel_rfl) (fun v6 h8 hp6 => ?_)
        obtain ⟨rfl, H17⟩ := hp6
        have H18 : Hold h h8 [own cd69 a6 x12.1.length c6 x12.1, own cd39 a4 x5.1.length c4 x5.1, own cd2 a5 x5.2.length c5 x5.2, own cd2 a3 x4.1.length c3 x4.1, own cd2 a2 x3.1.length c2 x3.1, own cd39 a1 x2.length c1 x2] := H16.call H17 rfl
        refine Run_b [.tuple #[.agg #[.int .i64 x13.1.Num, .int .i64 x13.1.Den], .int .i64 x13.2], .agg #[.int .i64 x13.1.Num, .int .i64 x13.1.Den], .int .i64 x13.2] 2 _ (by kernel_rfl) (fun w => by kernel_rfl) ?_
        refine Run_E (by kernel_rfl) ?_
        refine E_box (ty := 67) (cs := [.int .i64 0, .int .i64 0]) H18 (fun w => by kernel_rfl) (fun b1 h9 H19 => ?_)
        refine Run_E (by kernel_rfl) ?_
        refine E_bput (t := 67) (off := 0) (us := [.int .i64 x13.1.Num, .int .i64 x13.1.Den]) (v := .agg #[.int .i64 x13.1.Num, .int .i64 x13.1.Den]) H19 (by kernel_rfl) (by kernel_rfl) rfl (by kernel_rfl) rfl (fun h10 H20 => ?_)
        refine Run_b [.int .i64 x13.2] 7 _ (by kernel_rfl) (fun w => by kernel_rfl) ?_
        refine Run_nil (by kernel_rfl) ?_
        refine Run_keep [14, 15, 16, 17] (L' := [(14, .slice a6 x12.1.length c6), (15, .int .i64 x12.2), (16, .pointer (some ⟨b1, 0, none⟩)), (17, .int .i64 x13.2)]) (by kernel_rfl) ?_
        refine Run_seq ?_
        refine Run_seq ?_
        refine Run_reg 6 (by kernel_rfl) (L' := [(14, .slice a6 x12.1.length c6), (15, .int .i64 x12.2), (16, .pointer (some ⟨b1, 0, none⟩)), (17, .int .i64 x13.2), (85, .bool ((x12.2 != 0) || (x13.2 == 3)))]) ?_ ?_
        · refine QRun_b [.int .i64 x12.2, .bool (x12.2 != 0)] 0 _ (by kernel_rfl) (fun w => by kernel_rfl) ?_
          refine QRun_seq 6 [(14, .slice a6 x12.1.length c6), (15, .int .i64 x12.2), (16, .pointer (some ⟨b1, 0, none⟩)), (17, .int .i64 x13.2), (85, .bool ((x12.2 != 0) || (x13.2 == 3)))] ?_ ?_
          · rcases Bool.eq_false_or_eq_true (x12.2 != 0) with hb7 | hb7
            · refine QRun_bool (x12.2 != 0) true (by kernel_rfl) (fun w => by kernel_rfl) hb7 ?_
              refine QRun_n (by kernel_rfl) ?_
              refine QRun_n (by kernel_rfl) ?_
              refine QRun_bool true ((x12.2 != 0) || (x13.2 == 3)) (by kernel_rfl) (fun w => by kernel_rfl) (by rw [hb7]; rfl) ?_
              exact QRun_done [14, 15, 16, 17, 85] (by kernel_rfl) (by kernel_rfl)
            · refine QRun_bool (x12.2 != 0) false (by kernel_rfl) (fun w => by kernel_rfl) hb7 ?_
              refine QRun_b [.int .i64 x13.2, .bool (x13.2 == 3)] 3 _ (by kernel_rfl) (fun w => by kernel_rfl) ?_
              refine QRun_bool (x13.2 == 3) ((x12.2 != 0) || (x13.2 == 3)) (by kernel_rfl) (fun w => by kernel_rfl) (by rw [hb7]; rfl) ?_
              exact QRun_done [14, 15, 16, 17, 85] (by kernel_rfl) (by kernel_rfl)
          exact QRun_done [14, 15, 16, 17, 85] (by kernel_rfl) (by kernel_rfl)
        refine Run_cond (b := (x12.2 != 0) || (x13.2 == 3)) (by kernel_rfl) (fun hb8 => ?_) (fun hb8 => ?_)
        · have hF := (M.ite_some hF).1 hb8
          refine Run_seq ?_
          refine Run_reg 7 (by kernel_rfl) (L' := [(2, .bool ((x12.2 == 3) || (x13.2 == 3)))]) ?_ ?_
          · refine QRun_b [.int .i64 x12.2, .bool (x12.2 == 3)] 0 _ (by kernel_rfl) (fun w => by kernel_rfl) ?_
            refine QRun_seq 6 [(91, .bool ((x12.2 == 3) || (x13.2 == 3)))] ?_ ?_
            · rcases Bool.eq_false_or_eq_true (x12.2 == 3) with hb9 | hb9
              · refine QRun_bool (x12.2 == 3) true (by kernel_rfl) (fun w => by kernel_rfl) hb9 ?_
                refine QRun_n (by kernel_rfl) ?_
                refine QRun_n (by kernel_rfl) ?_
                refine QRun_bool true ((x12.2 == 3) || (x13.2 == 3)) (by kernel_rfl) (fun w => by kernel_rfl) (by rw [hb9]; rfl) ?_
                exact QRun_done [91] (by kernel_rfl) (by kernel_rfl)
              · refine QRun_bool (x12.2 == 3) false (by kernel_rfl) (fun w => by kernel_rfl) hb9 ?_
                refine QRun_b [.int .i64 x13.2, .bool (x13.2 == 3)] 3 _ (by kernel_rfl) (fun w => by kernel_rfl) ?_
                refine QRun_bool (x13.2 == 3) ((x12.2 == 3) || (x13.2 == 3)) (by kernel_rfl) (fun w => by kernel_rfl) (by rw [hb9]; rfl) ?_
                exact QRun_done [91] (by kernel_rfl) (by kernel_rfl)
            refine QRun_b [.bool ((x12.2 == 3) || (x13.2 == 3))] 6 _ (by kernel_rfl) (fun w => by kernel_rfl) ?_
            exact QRun_done [2] (by kernel_rfl) (by kernel_rfl)
          have hF := M.ret_some hF
          subst hF
          have H21 : Hold h h10 [] := H20.pick [] (by kernel_rfl)
          exact Run_ret1 rfl (ResV_tmp (v := .bool ((x12.2 == 3) || (x13.2 == 3))) (by kernel_rfl)) ⟨rfl, H21⟩
        · have hF := (M.ite_some hF).2 hb8
          refine Run_skip ?_
          refine Run_seq ?_
          refine Run_seq ?_
          refine Run_reg 2 (by kernel_rfl) (L' := [(14, .slice a6 x12.1.length c6), (16, .pointer (some ⟨b1, 0, none⟩)), (17, .int .i64 x13.2), (93, .bool (x13.2 == 4))]) ?_ ?_
          · refine QRun_b [.int .i64 x13.2, .bool (x13.2 == 4)] 0 _ (by kernel_rfl) (fun w => by kernel_rfl) ?_
            exact QRun_done [14, 16, 17, 93] (by kernel_rfl) (by kernel_rfl)
          refine Run_cond (b := x13.2 == 4) (by kernel_rfl) (fun hb10 => ?_) (fun hb10 => ?_)
          · have hF := (M.ite_some hF).1 hb10
            refine Run_seq ?_
            refine Run_reg 4 (by kernel_rfl) (L' := [(2, .bool ((x12.1.length : Int) == 0))]) ?_ ?_
            · refine QRun_b [.slice a6 x12.1.length c6, .int .i64 (x12.1.length : Int), .bool ((x12.1.length : Int) == 0), .bool ((x12.1.length : Int) == 0)] 0 _ (by kernel_rfl) (fun w => by kernel_rfl) ?_
              exact QRun_done [2] (by kernel_rfl) (by kernel_rfl)
            have hF := M.ret_some hF
            subst hF
            have H22 : Hold h h10 [] := H20.pick [] (by kernel_rfl)
            exact Run_ret1 rfl (ResV_tmp (v := .bool ((x12.1.length : Int) == 0)) (by kernel_rfl)) ⟨rfl, H22⟩
          · have hF := (M.ite_some hF).2 hb10
            refine Run_skip ?_
            refine Run_seq ?_
            obtain ⟨x17, gx17, hF⟩ := M.bind_some hF
            refine Run_draw 19 mixed (by kernel_rfl) (by kernel_rfl) (L' := [(2, .bool x17)]) ?_ ?_
            · refine QRun_b [.int .i64 x13.2, .bool (x13.2 == 0)] 0 _ (by kernel_rfl) (fun w => by kernel_rfl) ?_
              refine QRun_seq 7 [(14, .slice a6 x12.1.length c6), (16, .pointer (some ⟨b1, 0, none⟩)), (103, .bool ((x13.2 == 0) && (decide (0 < (x12.1.length : Int)))))] ?_ ?_
              · rcases Bool.eq_false_or_eq_true (x13.2 == 0) with hb11 | hb11
                · refine QRun_bool (x13.2 == 0) true (by kernel_rfl) (fun w => by kernel_rfl) hb11 ?_
                  refine QRun_b [.slice a6 x12.1.length c6, .int .i64 (x12.1.length : Int), .bool (decide (0 < (x12.1.length : Int)))] 3 _ (by kernel_rfl) (fun w => by kernel_rfl) ?_
                  refine QRun_bool (decide (0 < (x12.1.length : Int))) ((x13.2 == 0) && (decide (0 < (x12.1.length : Int)))) (by kernel_rfl) (fun w => by kernel_rfl) (by rw [hb11]; rfl) ?_
                  exact QRun_done [14, 16, 103] (by kernel_rfl) (by kernel_rfl)
                · refine QRun_bool (x13.2 == 0) false (by kernel_rfl) (fun w => by kernel_rfl) hb11 ?_
                  refine QRun_n (by kernel_rfl) ?_
                  refine QRun_n (by kernel_rfl) ?_
                  refine QRun_n (by kernel_rfl) ?_
                  refine QRun_bool false ((x13.2 == 0) && (decide (0 < (x12.1.length : Int)))) (by kernel_rfl) (fun w => by kernel_rfl) (by rw [hb11]; rfl) ?_
                  exact QRun_done [14, 16, 103] (by kernel_rfl) (by kernel_rfl)
              refine QRun_seq 18 [(114, .bool x17)] ?_ ?_
              · rcases Bool.eq_false_or_eq_true ((x13.2 == 0) && (decide (0 < (x12.1.length : Int)))) with hb12 | hb12
                · refine QRun_bool ((x13.2 == 0) && (decide (0 < (x12.1.length : Int)))) true (by kernel_rfl) (fun w => by kernel_rfl) hb12 ?_
                  have gx17 := (M.ite_some gx17).1 hb12
                  obtain ⟨x18, hx11, gx17⟩ := M.bind_some gx17
                  obtain ⟨hx11l, hx11u, hx11⟩ := M.idx_some hx11
                  have gx17 := M.ret_some gx17
                  refine QRun_b [.slice a6 x12.1.length c6, .slice a6 x12.1.length c6, .int .i64 (x12.1.length : Int), .int .i64 (w64 ((x12.1.length : Int) - 1))] 8 _ (by kernel_rfl) (fun w => by kernel_rfl) ?_
                  refine QRun_y (.pointer (some (adr a6 ((w64 ((x12.1.length : Int) - 1)).toNat * 3)))) (by kernel_rfl) (Y_idx (t := 63) (e := 69) (sz := 3) (a := a6) (n := x12.1.length) (cap := c6) (kk := .i64) (i := w64 ((x12.1.length : Int) - 1)) (by kernel_rfl) Try.underlying63 (by kernel_rfl) ((H20.rd 1 rfl).cell hx11).1 hx11l hx11u) ?_
                  refine QRun_b [.pointer (some ((adr a6 ((w64 ((x12.1.length : Int) - 1)).toNat * 3)).add 0))] 13 _ (by kernel_rfl) (fun w => by kernel_rfl) ?_
                  refine QRun_y (.agg #[.int .i64 x18.At.Num, .int .i64 x18.At.Den]) (by kernel_rfl) (Y_loadA (t := 67) (n := 2) (p := (adr a6 ((w64 ((x12.1.length : Int) - 1)).toNat * 3)).add 0) (cs := [.int .i64 x18.At.Num, .int .i64 x18.At.Den]) (by kernel_rfl) (fun w => by kernel_rfl) (by kernel_rfl) rfl (sub_cells (cd69_elem (H20.rd 1 rfl) hx11) 0 2 rfl)) ?_
                  refine QRun_y (.agg #[.int .i64 x13.1.Num, .int .i64 x13.1.Den]) (by kernel_rfl) (Y_loadA (t := 67) (n := 2) (p := ⟨b1, 0, none⟩) (cs := [.int .i64 x13.1.Num, .int .i64 x13.1.Den]) (by kernel_rfl) (fun w => by kernel_rfl) (by kernel_rfl) rfl (H20.cells (n := 2) (off := 0) 0 rfl rfl)) ?_
                  refine QRun_y (.bool ((x18.At.Num == x13.1.Num) && (x18.At.Den == x13.1.Den))) (by kernel_rfl) (Y_seq (t := 67) (ox := .tmp 111) (oy := .tmp 112) (xs := #[.int .i64 x18.At.Num, .int .i64 x18.At.Den]) (ys := #[.int .i64 x13.1.Num, .int .i64 x13.1.Den]) (by kernel_rfl) (by kernel_rfl) (fun w => eqS67 9998 x18.At.Num x18.At.Den x13.1.Num x13.1.Den w)) ?_
                  refine QRun_bool ((x18.At.Num == x13.1.Num) && (x18.At.Den == x13.1.Den)) x17 (by kernel_rfl) (fun w => by kernel_rfl) gx17 ?_
                  exact QRun_done [114] (by kernel_rfl) (by kernel_rfl)
                · refine QRun_bool ((x13.2 == 0) && (decide (0 < (x12.1.length : Int)))) false (by kernel_rfl) (fun w => by kernel_rfl) hb12 ?_
                  have gx17 := M.ret_some ((M.ite_some gx17).2 hb12)
                  refine QRun_n (by kernel_rfl) ?_
                  refine QRun_n (by kernel_rfl) ?_
                  refine QRun_n (by kernel_rfl) ?_
                  refine QRun_n (by kernel_rfl) ?_
                  refine QRun_n (by kernel_rfl) ?_
                  refine QRun_n (by kernel_rfl) ?_
                  refine QRun_n (by kernel_rfl) ?_
                  refine QRun_n (by kernel_rfl) ?_
                  refine QRun_n (by kernel_rfl) ?_
                  refine QRun_bool false x17 (by kernel_rfl) (fun w => by kernel_rfl) gx17 ?_
                  exact QRun_done [114] (by kernel_rfl) (by kernel_rfl)
              refine QRun_b [.bool x17] 18 _ (by kernel_rfl) (fun w => by kernel_rfl) ?_
              exact QRun_done [2] (by kernel_rfl) (by kernel_rfl)
            have hF := M.ret_some hF
            subst hF
            have H23 : Hold h h10 [] := H20.pick [] (by kernel_rfl)
            exact Run_ret1 rfl (ResV_tmp (v := .bool x17) (by kernel_rfl)) ⟨rfl, H23⟩

end Go.Proofs.Ytipdgiljgbjjkaa
