/-
  Walks: each Go function, called with what reads as plain data, returns what its plain program computes.
  Conditions: None beyond the given statement.
-/
import Derived.Test.YtniaobcahkjfjaaW0
namespace Go.Proofs.Ytniaobcahkjfjaa
open Go
attribute [local irreducible] setL setB opA fineI idleI fineB evB okB markB markBs readyB readyBs chainB lk rho pickL dropSlot tailOK
set_option maxRecDepth 100000 in
set_option maxHeartbeats 4000000 in
theorem w_spec_AddPolynomials (h : Heap) (c_ : List Int) (ac_ : Option Addr) (cc_ : Nat) (rc_ : Rd cd2 h (Lt h) ac_ cc_ c_) (d : List Int) (ad : Option Addr) (cd : Nat) (rd : Rd cd2 h (Lt h) ad cd d) (n : Nat) (r : (List Int) × Int) (hF : spec_AddPolynomials c_ d n = some r) :
    Fn Try.prog 56 #[.slice ac_ c_.length cc_, .slice ad d.length cd] h fun v h' => ∃ (a0 : Option Addr) (c0 : Nat), v = .tuple #[.slice a0 r.1.length c0, .int .i64 r.2] ∧ Hold h h' [own cd2 a0 r.1.length c0 r.1] := by
  unfold spec_AddPolynomials at hF
  refine Fn_enter (args := [.slice ac_ c_.length cc_, .slice ad d.length cd]) Try.func56 rfl (by kernel_rfl) (by kernel_rfl) (fun w0 _ => ?_)
  have H0 := Hold.init h
  refine Run_seq ?_
  refine Run_reg 2 (by kernel_rfl) (L' := [(0, .slice ac_ c_.length cc_), (1, .slice ad d.length cd)]) ?_ ?_
  · refine QRun_b [.slice none 0 0, .int .i64 0] 0 _ (by kernel_rfl) (fun w => by kernel_rfl) ?_
    exact QRun_done [0, 1] (by kernel_rfl) (by kernel_rfl)
  refine Run_seq ?_
  refine Run_seq ?_
  obtain ⟨x1, hx1, hF⟩ := M.bind_some hF
  obtain ⟨x2, gx2, hF⟩ := M.bind_some hF
  refine Run_reg 8 (by kernel_rfl) (L' := [(0, .slice ac_ c_.length cc_), (1, .slice ad d.length cd), (15, .bool x2)]) ?_ ?_
  · refine QRun_b [.slice ac_ c_.length cc_] 0 _ (by kernel_rfl) (fun w => by kernel_rfl) ?_
    refine QRun_y (.bool x1) (by kernel_rfl) (Y_callq (f := 63) (args := #[.slice ac_ c_.length cc_]) (v := .bool x1) (by kernel_rfl) (w_spec_IsPolynomial h c_ ac_ cc_ rc_ _ _ hx1)) ?_
    refine QRun_b [.bool (!x1)] 2 _ (by kernel_rfl) (fun w => by kernel_rfl) ?_
    refine QRun_seq 8 [(0, .slice ac_ c_.length cc_), (1, .slice ad d.length cd), (15, .bool x2)] ?_ ?_
    · rcases Bool.eq_false_or_eq_true (!x1) with hb1 | hb1
      · refine QRun_bool (!x1) true (by kernel_rfl) (fun w => by kernel_rfl) hb1 ?_
        have gx2 := M.ret_some ((M.ite_some gx2).1 hb1)
        refine QRun_n (by kernel_rfl) ?_
        refine QRun_n (by kernel_rfl) ?_
        refine QRun_n (by kernel_rfl) ?_
        refine QRun_bool true x2 (by kernel_rfl) (fun w => by kernel_rfl) gx2 ?_
        exact QRun_done [0, 1, 15] (by kernel_rfl) (by kernel_rfl)
      · refine QRun_bool (!x1) false (by kernel_rfl) (fun w => by kernel_rfl) hb1 ?_
        have gx2 := (M.ite_some gx2).2 hb1
        obtain ⟨x3, hx2, gx2⟩ := M.bind_some gx2
        have gx2 := M.ret_some gx2
        refine QRun_b [.slice ad d.length cd] 4 _ (by kernel_rfl) (fun w => by kernel_rfl) ?_
        refine QRun_y (.bool x3) (by kernel_rfl) (Y_callq (f := 63) (args := #[.slice ad d.length cd]) (v := .bool x3) (by kernel_rfl) (w_spec_IsPolynomial h d ad cd rd _ _ hx2)) ?_
        refine QRun_b [.bool (!x3)] 6 _ (by kernel_rfl) (fun w => by kernel_rfl) ?_
        refine QRun_bool (!x3) x2 (by kernel_rfl) (fun w => by kernel_rfl) gx2 ?_
        exact QRun_done [0, 1, 15] (by kernel_rfl) (by kernel_rfl)
    exact QRun_done [0, 1, 15] (by kernel_rfl) (by kernel_rfl)
  refine Run_cond (b := x2) (by kernel_rfl) (fun hb2 => ?_) (fun hb2 => ?_)
  · have hF := (M.ite_some hF).1 hb2
    refine Run_seq ?_
    refine Run_reg 2 (by kernel_rfl) (L' := [(4, .slice none 0 0), (5, .int .i64 1)]) ?_ ?_
    · refine QRun_b [.slice none 0 0, .int .i64 1] 0 _ (by kernel_rfl) (fun w => by kernel_rfl) ?_
      exact QRun_done [4, 5] (by kernel_rfl) (by kernel_rfl)
    have hF := M.ret_some hF
    subst hF
    have H1 := H0.empty cd2
    exact Run_ret2 rfl (ResV_tmp (v := .slice none 0 0) (by kernel_rfl)) (ResV_tmp (v := .int .i64 1) (by kernel_rfl)) ⟨none, 0, rfl, H1⟩
  · have hF := (M.ite_some hF).2 hb2
    refine Run_skip ?_
    refine Run_seq ?_
    refine Run_ops ?_
    refine Run_b [.slice ac_ c_.length cc_] 0 _ (by kernel_rfl) (fun w => by kernel_rfl) ?_
    obtain ⟨x4, hx3, hF⟩ := M.bind_some hF
    refine Run_E (by kernel_rfl) ?_
    refine E_call (f := 110) (args := #[.slice ac_ c_.length cc_]) (w_spec_l01Own h c_ ac_ cc_ rc_ _ _ hx3) (by kernel_rfl) (fun v1 h1 hp1 => ?_)
    obtain ⟨a1, c1, rfl, H2⟩ := hp1
    have H3 : Hold h h1 [own cd2 a1 x4.length c1 x4] := H0.call H2 rfl
    refine Run_b [.slice a1 x4.length c1] 2 _ (by kernel_rfl) (fun w => by kernel_rfl) ?_
    refine Run_nil (by kernel_rfl) ?_
    refine Run_keep [1, 6] (L' := [(1, .slice ad d.length cd), (6, .slice a1 x4.length c1)]) (by kernel_rfl) ?_
    refine Run_seq ?_
    refine Run_seq ?_
    refine Run_reg 1 (by kernel_rfl) (L' := [(1, .slice ad d.length cd), (6, .slice a1 x4.length c1), (7, .int .i64 0)]) ?_ ?_
    · refine QRun_b [.int .i64 0] 0 _ (by kernel_rfl) (fun w => by kernel_rfl) ?_
      exact QRun_done [1, 6, 7] (by kernel_rfl) (by kernel_rfl)
    obtain ⟨x5, gx5, hF⟩ := M.bind_some hF
    obtain ⟨hloy1, hhiy1, gx5⟩ := M.for_start gx5
    refine Run_join (fun L' h' => ∃ (a3 : Option Addr) (c3 : Nat), L' = [(6, .slice a3 x5.length c3)] ∧ Hold h h' [own cd2 a3 x5.length c3 x5]) ?_ ?_
    · rintro _ h3 ⟨a3, c3, rfl, H5⟩
      refine Run_seq ?_
      refine Run_reg 3 (by kernel_rfl) (L' := [(4, .slice a3 x5.length c3), (5, .int .i64 0)]) ?_ ?_
      · refine QRun_b [.slice a3 x5.length c3, .slice a3 x5.length c3, .int .i64 0] 0 _ (by kernel_rfl) (fun w => by kernel_rfl) ?_
        exact QRun_done [4, 5] (by kernel_rfl) (by kernel_rfl)
      have hF := M.ret_some hF
      subst hF
      exact Run_ret2 rfl (ResV_tmp (v := .slice a3 x5.length c3) (by kernel_rfl)) (ResV_tmp (v := .int .i64 0) (by kernel_rfl)) ⟨a3, c3, rfl, H5⟩
    · refine Run_block ?_
      refine Run_keep [1, 6, 7] (L' := [(1, .slice ad d.length cd), (6, .slice a1 x4.length c1), (7, .int .i64 0)]) (by kernel_rfl) ?_
      refine Run_loop (fun m L' h' => ∃ (i1 : Int) (s1 : (List Int)) (a2 : Option Addr) (c2 : Nat), 0 ≤ i1 ∧ M.forN (d.length : Int) _ _ n m i1 s1 = some x5 ∧ L' = [(1, .slice ad d.length cd), (6, .slice a2 s1.length c2), (7, .int .i64 i1)] ∧ Hold h h' [own cd2 a2 s1.length c2 s1]) ((d.length : Int) - 0).toNat ⟨0, x4, a1, c1, Int.le_refl _, gx5, rfl, H3⟩ ?_
      rintro my1 _ h2 ⟨i1, s1, a2, c2, hloy1', gx5, rfl, H4⟩
      refine Run_seq ?_
      refine Run_seq ?_
      refine Run_reg 4 (by kernel_rfl) (L' := [(1, .slice ad d.length cd), (6, .slice a2 s1.length c2), (7, .int .i64 i1), (21, .bool (decide (i1 < (d.length : Int))))]) ?_ ?_
      · refine QRun_b [.int .i64 i1, .slice ad d.length cd, .int .i64 (d.length : Int), .bool (decide (i1 < (d.length : Int)))] 0 _ (by kernel_rfl) (fun w => by kernel_rfl) ?_
        exact QRun_done [1, 6, 7, 21] (by kernel_rfl) (by kernel_rfl)
      refine Run_cond (b := decide (i1 < (d.length : Int))) (by kernel_rfl) (fun hb3 => ?_) (fun hb3 => ?_)
      · obtain ⟨my1, y1, rfl, hB1, hgoy1, houty1⟩ := M.for_go gx5 hb3
        have hlty1 := of_decide_eq_true hb3
        refine Run_skip ?_
        refine Run_seq ?_
        refine Run_block ?_
        refine Run_seq ?_
        refine Run_seq ?_
        refine Run_reg 4 (by kernel_rfl) (L' := [(1, .slice ad d.length cd), (6, .slice a2 s1.length c2), (7, .int .i64 i1), (27, .bool (i1 == (s1.length : Int)))]) ?_ ?_
        · refine QRun_b [.int .i64 i1, .slice a2 s1.length c2, .int .i64 (s1.length : Int), .bool (i1 == (s1.length : Int))] 0 _ (by kernel_rfl) (fun w => by kernel_rfl) ?_
          exact QRun_done [1, 6, 7, 27] (by kernel_rfl) (by kernel_rfl)
        obtain ⟨s2, gs2, hB1⟩ := M.bind_some hB1
        refine Run_join (fun L' h' => ∃ (a6 : Option Addr), ∃ (c5 : Nat), L' = [(1, .slice ad d.length cd), (6, .slice a6 s2.length c5), (7, .int .i64 i1)] ∧ Hold h h' [own cd2 a6 s2.length c5 s2]) ?_ ?_
        · rintro _ h6 ⟨a6, c5, rfl, H11⟩
          obtain ⟨x6, hx4, hB1⟩ := M.bind_some hB1
          obtain ⟨hx4l, hx4u, hx4⟩ := M.idx_some hx4
          obtain ⟨x7, hx5, hB1⟩ := M.bind_some hB1
          obtain ⟨hx5l, hx5u, hx5⟩ := M.idx_some hx5
          obtain ⟨x8, hx6, hB1⟩ := M.bind_some hB1
          obtain ⟨hx6l, hx6u, hx6⟩ := M.idx_some hx6
          refine Run_D (fun x => Hold h x [own cd2 a6 s2.length c5 s2]) (fun x => Hold h x [own cd2 a6 s2.length c5 s2]) mixed (by kernel_rfl) H11 Hold.stable (fun x Hy => (show Hold h x [own cd2 a6 s2.length c5 s2] from Hy).pick [0] (by kernel_rfl)) ?_
          refine DR_b 9 [.slice a6 s2.length c5, .int .i64 i1, .slice a6 s2.length c5, .int .i64 i1] 0 (by kernel_rfl) (by kernel_rfl) (by kernel_rfl) (fun w => by kernel_rfl) ?_
          refine DR_y 8 (i := 4) (.pointer (some (adr a6 (i1.toNat * 1)))) (by kernel_rfl) (by kernel_rfl) (by kernel_rfl) (fun hx Hx => (YE.of (Y_idx (t := 41) (e := 2) (sz := 1) (a := a6) (n := s2.length) (cap := c5) (kk := .i64) (i := i1) (by kernel_rfl) Try.underlying41 (by kernel_rfl) ((H11.rd 0 rfl).cell hx4).1 hx4l hx4u))) ?_
          refine DR_y 7 (i := 5) (.int .i64 x6) (by kernel_rfl) (by kernel_rfl) (by kernel_rfl) (fun hx Hx => (YE.of (Y_load1 (t := 2) (p := adr a6 (i1.toNat * 1)) (v := .int .i64 x6) (by kernel_rfl) (fun w => by kernel_rfl) (cd2_cell (Hx.rd 0 rfl) hx4)))) ?_
          refine DR_b 5 [.slice ad d.length cd, .int .i64 i1] 6 (by kernel_rfl) (by kernel_rfl) (by kernel_rfl) (fun w => by kernel_rfl) ?_
          refine DR_y 4 (i := 8) (.pointer (some (adr ad (i1.toNat * 1)))) (by kernel_rfl) (by kernel_rfl) (by kernel_rfl) (fun hx Hx => (YE.of (Y_idx (t := 41) (e := 2) (sz := 1) (a := ad) (n := d.length) (cap := cd) (kk := .i64) (i := i1) (by kernel_rfl) Try.underlying41 (by kernel_rfl) ((rd.at H11.ext).cell hx5).1 hx5l hx5u))) ?_
          refine DR_y 3 (i := 9) (.int .i64 x7) (by kernel_rfl) (by kernel_rfl) (by kernel_rfl) (fun hx Hx => (YE.of (Y_load1 (t := 2) (p := adr ad (i1.toNat * 1)) (v := .int .i64 x7) (by kernel_rfl) (fun w => by kernel_rfl) (cd2_cell (rd.at Hx.ext) hx5)))) ?_
          refine DR_b 2 [.int .i64 (mx x6 x7)] 10 (by kernel_rfl) (by kernel_rfl) (by kernel_rfl) (fun w => by kernel_rfl) ?_
          refine DR_y 1 (i := 11) (.pointer (some (adr a6 (i1.toNat * 1)))) (by kernel_rfl) (by kernel_rfl) (by kernel_rfl) (fun hx Hx => (YE.of (Y_idx (t := 41) (e := 2) (sz := 1) (a := a6) (n := s2.length) (cap := c5) (kk := .i64) (i := i1) (by kernel_rfl) Try.underlying41 (by kernel_rfl) ((H11.rd 0 rfl).cell hx6).1 hx6l hx6u))) ?_
          refine DR_tail (i := 12) (by kernel_rfl) (by kernel_rfl) (by kernel_rfl) (fun h7 H12 => ?_)
          have H13 : Hold h h7 [own cd2 a6 s2.length c5 s2] := H12
          obtain ⟨l2, hu1, hB1⟩ := M.bind_some hB1
          have hu1 := M.upd_some hu1
          refine Run_E (by kernel_rfl) ?_
          refine E_put (C := cd2) (t := 2) (sz := 1) (j := i1) (x := (mx x6 x7)) (v := .int .i64 (mx x6 x7)) H13 cd2_flat (by kernel_rfl) rfl (cd2_own _) (by kernel_rfl) hu1 (fun h8 H14 => ?_)
          refine Run_nil (by kernel_rfl) ?_
          refine Run_keep [1, 6, 7] (L' := [(1, .slice ad d.length cd), (6, .slice a6 s2.length c5), (7, .int .i64 i1)]) (by kernel_rfl) ?_
          refine Run_blk ?_
          refine Run_reg 3 (by kernel_rfl) (L' := [(1, .slice ad d.length cd), (6, .slice a6 s2.length c5), (7, .int .i64 (i1 + 1))]) ?_ ?_
          · refine QRun_b [.int .i64 i1] 0 _ (by kernel_rfl) (fun w => by kernel_rfl) ?_
            refine QRun_y (.int .i64 (i1 + 1)) (by kernel_rfl) (Y_eq (v := .int .i64 (w64 (i1 + 1))) (Y_pure (fun w => by kernel_rfl)) (by rw [w64_eq _ (by omega)])) ?_
            refine QRun_b [.int .i64 (i1 + 1)] 2 _ (by kernel_rfl) (fun w => by kernel_rfl) ?_
            exact QRun_done [1, 6, 7] (by kernel_rfl) (by kernel_rfl)
          have hn1 := (H14.len 0 rfl)
          have H15 : Hold h h8 [own cd2 a6 l2.length c5 l2] := by rw [hn1]; exact H14
          have hB1 := M.ret_some hB1
          have gx5 := hgoy1 _ hB1.symm
          exact Run_again [1, 6, 7] (by rw [hn1]; kernel_rfl) my1 (Nat.lt_succ_self _) ⟨i1 + 1, l2, a6, c5, by omega, gx5, rfl, H15⟩
        · refine Run_cond (b := i1 == (s1.length : Int)) (by kernel_rfl) (fun hb4 => ?_) (fun hb4 => ?_)
          · have gs2 := (M.ite_some gs2).1 hb4
            refine Run_ops ?_
            refine Run_b [.slice a2 s1.length c2] 0 _ (by kernel_rfl) (fun w => by kernel_rfl) ?_
            refine Run_E (by kernel_rfl) ?_
            refine E_lit (C := cd2) (n := 1) (l := ([(-1000000000000000)] : List Int)) (cs := [.int .i64 (-1000000000000000)]) H4 (fun w => by kernel_rfl) (Enc.consE (cd2_own (-1000000000000000) _) (Enc.nil _ _) rfl) rfl (by decide) (fun a4 h4 H6 => ?_)
            obtain ⟨l1, hl1, gs2⟩ := M.bind_some gs2
            have hl1 := M.app_some hl1
            have H7 : Hold h h4 [own cd2 a2 s1.length c2 s1, own cd2 a4 1 1 ([(-1000000000000000)] : List Int)] := H6.pick [1, 0] (by kernel_rfl)
            have H8 : Hold h h4 [own cd2 a4 1 1 ([(-1000000000000000)] : List Int), own cd2 a2 s1.length c2 s1] := H7.pick [1, 0] (by kernel_rfl)
            have H9 : Hold h h4 [own cd2 a2 s1.length c2 s1, own cd2 a4 1 1 ([(-1000000000000000)] : List Int)] := H8.pick [1, 0] (by kernel_rfl)
            refine Run_E (by kernel_rfl) ?_
            refine E_app (C := cd2) (t := 41) (ty := 41) (n := s1.length) (m := 1) H9 cd2_ti rfl Try.underlying41 (by decide) (by kernel_rfl) hl1 (fun a5 c4 h5 H10 => ?_)
            refine Run_b [.slice a5 l1.length c4] 3 _ (by kernel_rfl) (fun w => by kernel_rfl) ?_
            refine Run_nil (by kernel_rfl) ?_
            refine Run_keep [1, 6, 7] (L' := [(1, .slice ad d.length cd), (6, .slice a5 l1.length c4), (7, .int .i64 i1)]) (by kernel_rfl) ?_
            have gs2 := M.ret_some gs2
            subst gs2
            exact Run_fall [1, 6, 7] (by kernel_rfl) ⟨a5, c4, rfl, H10⟩
          · have gs2 := (M.ite_some gs2).2 hb4
            refine Run_skip ?_
            have gs2 := M.ret_some gs2
            subst gs2
            exact Run_fall [1, 6, 7] (by kernel_rfl) ⟨a2, c2, rfl, H4⟩
      · have gx5 := M.for_end gx5 hb3
        subst gx5
        refine Run_exit (k' := _) rfl ?_
        exact Run_fall [6] (by kernel_rfl) ⟨a2, c2, rfl, H4⟩

set_option maxRecDepth 100000 in
set_option maxHeartbeats 4000000 in
theorem w_impl_times (h : Heap) (a_ : Int) (b : Int) (n : Nat) (r : Int) (hF : impl_times a_ b n = some r) :
    Fn Try.prog 111 #[.int .i64 a_, .int .i64 b] h fun v h' => v = .int .i64 r ∧ h' = h := by
  unfold impl_times at hF
  refine Fn_enter (args := [.int .i64 a_, .int .i64 b]) Try.func111 rfl (by kernel_rfl) (by kernel_rfl) (fun w0 _ => ?_)
  refine Run_seq ?_
  refine Run_reg 1 (by kernel_rfl) (L' := [(0, .int .i64 a_), (1, .int .i64 b)]) ?_ ?_
  · refine QRun_b [.int .i64 0] 0 _ (by kernel_rfl) (fun w => by kernel_rfl) ?_
    exact QRun_done [0, 1] (by kernel_rfl) (by kernel_rfl)
  refine Run_seq ?_
  refine Run_seq ?_
  refine Run_reg 6 (by kernel_rfl) (L' := [(0, .int .i64 a_), (1, .int .i64 b), (10, .bool ((a_ == (-1000000000000000)) || (b == (-1000000000000000))))]) ?_ ?_
  · refine QRun_b [.int .i64 a_, .bool (a_ == (-1000000000000000))] 0 _ (by kernel_rfl) (fun w => by kernel_rfl) ?_
    refine QRun_seq 6 [(0, .int .i64 a_), (1, .int .i64 b), (10, .bool ((a_ == (-1000000000000000)) || (b == (-1000000000000000))))] ?_ ?_
    · rcases Bool.eq_false_or_eq_true (a_ == (-1000000000000000)) with hb1 | hb1
      · refine QRun_bool (a_ == (-1000000000000000)) true (by kernel_rfl) (fun w => by kernel_rfl) hb1 ?_
        refine QRun_n (by kernel_rfl) ?_
        refine QRun_n (by kernel_rfl) ?_
        refine QRun_bool true ((a_ == (-1000000000000000)) || (b == (-1000000000000000))) (by kernel_rfl) (fun w => by kernel_rfl) (by rw [hb1]; rfl) ?_
        exact QRun_done [0, 1, 10] (by kernel_rfl) (by kernel_rfl)
      · refine QRun_bool (a_ == (-1000000000000000)) false (by kernel_rfl) (fun w => by kernel_rfl) hb1 ?_
        refine QRun_b [.int .i64 b, .bool (b == (-1000000000000000))] 3 _ (by kernel_rfl) (fun w => by kernel_rfl) ?_
        refine QRun_bool (b == (-1000000000000000)) ((a_ == (-1000000000000000)) || (b == (-1000000000000000))) (by kernel_rfl) (fun w => by kernel_rfl) (by rw [hb1]; rfl) ?_
        exact QRun_done [0, 1, 10] (by kernel_rfl) (by kernel_rfl)
    exact QRun_done [0, 1, 10] (by kernel_rfl) (by kernel_rfl)
  refine Run_cond (b := (a_ == (-1000000000000000)) || (b == (-1000000000000000))) (by kernel_rfl) (fun hb2 => ?_) (fun hb2 => ?_)
  · have hF := (M.ite_some hF).1 hb2
    refine Run_seq ?_
    refine Run_reg 1 (by kernel_rfl) (L' := [(4, .int .i64 (-1000000000000000))]) ?_ ?_
    · refine QRun_b [.int .i64 (-1000000000000000)] 0 _ (by kernel_rfl) (fun w => by kernel_rfl) ?_
      exact QRun_done [4] (by kernel_rfl) (by kernel_rfl)
    have hF := M.ret_some hF
    subst hF
    exact Run_ret1 rfl (ResV_tmp (v := .int .i64 (-1000000000000000)) (by kernel_rfl)) ⟨rfl, rfl⟩
  · have hF := (M.ite_some hF).2 hb2
    refine Run_skip ?_
    refine Run_seq ?_
    refine Run_reg 4 (by kernel_rfl) (L' := [(4, .int .i64 (w64 (a_ + b)))]) ?_ ?_
    · refine QRun_b [.int .i64 a_, .int .i64 b, .int .i64 (w64 (a_ + b)), .int .i64 (w64 (a_ + b))] 0 _ (by kernel_rfl) (fun w => by kernel_rfl) ?_
      exact QRun_done [4] (by kernel_rfl) (by kernel_rfl)
    have hF := M.ret_some hF
    subst hF
    exact Run_ret1 rfl (ResV_tmp (v := .int .i64 (w64 (a_ + b))) (by kernel_rfl)) ⟨rfl, rfl⟩

set_option maxRecDepth 100000 in
set_option maxHeartbeats 4000000 in
theorem w_impl_checkedVector (h : Heap) (x_ : List Int) (ax_ : Option Addr) (cx_ : Nat) (rx_ : Rd cd2 h (Lt h) ax_ cx_ x_) (n : Nat) (r : (List Int) × Int) (hF : impl_checkedVector x_ n = some r) :
    Fn Try.prog 112 #[.slice ax_ x_.length cx_] h fun v h' => ∃ (a0 : Option Addr) (c0 : Nat), v = .tuple #[.slice a0 r.1.length c0, .int .i64 r.2] ∧ Ali a0 ax_ c0 cx_ r.1 x_ ∧ Hold h h' [] := by
  unfold impl_checkedVector at hF
  refine Fn_enter (args := [.slice ax_ x_.length cx_]) Try.func112 rfl (by kernel_rfl) (by kernel_rfl) (fun w0 _ => ?_)
  have H0 := Hold.init h
  refine Run_seq ?_
  refine Run_reg 2 (by kernel_rfl) (L' := [(0, .slice ax_ x_.length cx_)]) ?_ ?_
  · refine QRun_b [.slice none 0 0, .int .i64 0] 0 _ (by kernel_rfl) (fun w => by kernel_rfl) ?_
    exact QRun_done [0] (by kernel_rfl) (by kernel_rfl)
  refine Run_seq ?_
  refine Run_seq ?_
  obtain ⟨x1, hx1, hF⟩ := M.bind_some hF
  refine Run_reg 3 (by kernel_rfl) (L' := [(0, .slice ax_ x_.length cx_), (6, .bool (!x1))]) ?_ ?_
  · refine QRun_b [.slice ax_ x_.length cx_] 0 _ (by kernel_rfl) (fun w => by kernel_rfl) ?_
    refine QRun_y (.bool x1) (by kernel_rfl) (Y_callq (f := 121) (args := #[.slice ax_ x_.length cx_]) (v := .bool x1) (by kernel_rfl) (w_impl_areValues h x_ ax_ cx_ rx_ _ _ hx1)) ?_
    refine QRun_b [.bool (!x1)] 2 _ (by kernel_rfl) (fun w => by kernel_rfl) ?_
    exact QRun_done [0, 6] (by kernel_rfl) (by kernel_rfl)
  refine Run_cond (b := !x1) (by kernel_rfl) (fun hb1 => ?_) (fun hb1 => ?_)
  · have hF := (M.ite_some hF).1 hb1
    refine Run_seq ?_
    refine Run_reg 2 (by kernel_rfl) (L' := [(2, .slice none 0 0), (3, .int .i64 3)]) ?_ ?_
    · refine QRun_b [.slice none 0 0, .int .i64 3] 0 _ (by kernel_rfl) (fun w => by kernel_rfl) ?_
      exact QRun_done [2, 3] (by kernel_rfl) (by kernel_rfl)
    have hF := M.ret_some hF
    subst hF
    exact Run_ret2 rfl (ResV_tmp (v := .slice none 0 0) (by kernel_rfl)) (ResV_tmp (v := .int .i64 3) (by kernel_rfl)) ⟨none, 0, rfl, .inr ⟨rfl, rfl, rfl⟩, H0⟩
  · have hF := (M.ite_some hF).2 hb1
    refine Run_skip ?_
    refine Run_seq ?_
    refine Run_reg 3 (by kernel_rfl) (L' := [(2, .slice ax_ x_.length cx_), (3, .int .i64 0)]) ?_ ?_
    · refine QRun_b [.slice ax_ x_.length cx_, .slice ax_ x_.length cx_, .int .i64 0] 0 _ (by kernel_rfl) (fun w => by kernel_rfl) ?_
      exact QRun_done [2, 3] (by kernel_rfl) (by kernel_rfl)
    have hF := M.ret_some hF
    subst hF
    exact Run_ret2 rfl (ResV_tmp (v := .slice ax_ x_.length cx_) (by kernel_rfl)) (ResV_tmp (v := .int .i64 0) (by kernel_rfl)) ⟨ax_, cx_, rfl, .inl ⟨rfl, rfl, rfl⟩, H0⟩

set_option maxRecDepth 100000 in
set_option maxHeartbeats 4000000 in
theorem w_impl_MultiplyPolynomials (h : Heap) (c_ : List Int) (ac_ : Option Addr) (cc_ : Nat) (rc_ : Rd cd2 h (Lt h) ac_ cc_ c_) (d : List Int) (ad : Option Addr) (cd : Nat) (rd : Rd cd2 h (Lt h) ad cd d) (n : Nat) (r : (List Int) × Int) (hF : impl_MultiplyPolynomials c_ d n = some r) :
    Fn Try.prog 57 #[.slice ac_ c_.length cc_, .slice ad d.length cd] h fun v h' => ∃ (a0 : Option Addr) (c0 : Nat), v = .tuple #[.slice a0 r.1.length c0, .int .i64 r.2] ∧ Hold h h' [own cd2 a0 r.1.length c0 r.1] := by
  unfold impl_MultiplyPolynomials at hF
  refine Fn_enter (args := [.slice ac_ c_.length cc_, .slice ad d.length cd]) Try.func57 rfl (by kernel_rfl) (by kernel_rfl) (fun w0 _ => ?_)
  have H0 := Hold.init h
  refine Run_seq ?_
  refine Run_reg 2 (by kernel_rfl) (L' := [(0, .slice ac_ c_.length cc_), (1, .slice ad d.length cd)]) ?_ ?_
  · refine QRun_b [.slice none 0 0, .int .i64 0] 0 _ (by kernel_rfl) (fun w => by kernel_rfl) ?_
    exact QRun_done [0, 1] (by kernel_rfl) (by kernel_rfl)
  refine Run_seq ?_
  refine Run_seq ?_
  obtain ⟨x1, hx1, hF⟩ := M.bind_some hF
  obtain ⟨x2, gx2, hF⟩ := M.bind_some hF
  refine Run_reg 8 (by kernel_rfl) (L' := [(0, .slice ac_ c_.length cc_), (1, .slice ad d.length cd), (19, .bool x2)]) ?_ ?_
  · refine QRun_b [.slice ac_ c_.length cc_] 0 _ (by kernel_rfl) (fun w => by kernel_rfl) ?_
    refine QRun_y (.bool x1) (by kernel_rfl) (Y_callq (f := 62) (args := #[.slice ac_ c_.length cc_]) (v := .bool x1) (by kernel_rfl) (w_impl_IsPolynomial h c_ ac_ cc_ rc_ _ _ hx1)) ?_
    refine QRun_b [.bool (!x1)] 2 _ (by kernel_rfl) (fun w => by kernel_rfl) ?_
    refine QRun_seq 8 [(0, .slice ac_ c_.length cc_), (1, .slice ad d.length cd), (19, .bool x2)] ?_ ?_
    · rcases Bool.eq_false_or_eq_true (!x1) with hb1 | hb1
      · refine QRun_bool (!x1) true (by kernel_rfl) (fun w => by kernel_rfl) hb1 ?_
        have gx2 := M.ret_some ((M.ite_some gx2).1 hb1)
        refine QRun_n (by kernel_rfl) ?_
        refine QRun_n (by kernel_rfl) ?_
        refine QRun_n (by kernel_rfl) ?_
        refine QRun_bool true x2 (by kernel_rfl) (fun w => by kernel_rfl) gx2 ?_
        exact QRun_done [0, 1, 19] (by kernel_rfl) (by kernel_rfl)
      · refine QRun_bool (!x1) false (by kernel_rfl) (fun w => by kernel_rfl) hb1 ?_
        have gx2 := (M.ite_some gx2).2 hb1
        obtain ⟨x3, hx2, gx2⟩ := M.bind_some gx2
        have gx2 := M.ret_some gx2
        refine QRun_b [.slice ad d.length cd] 4 _ (by kernel_rfl) (fun w => by kernel_rfl) ?_
        refine QRun_y (.bool x3) (by kernel_rfl) (Y_callq (f := 62) (args := #[.slice ad d.length cd]) (v := .bool x3) (by kernel_rfl) (w_impl_IsPolynomial h d ad cd rd _ _ hx2)) ?_
        refine QRun_b [.bool (!x3)] 6 _ (by kernel_rfl) (fun w => by kernel_rfl) ?_
        refine QRun_bool (!x3) x2 (by kernel_rfl) (fun w => by kernel_rfl) gx2 ?_
        exact QRun_done [0, 1, 19] (by kernel_rfl) (by kernel_rfl)
    exact QRun_done [0, 1, 19] (by kernel_rfl) (by kernel_rfl)
  refine Run_cond (b := x2) (by kernel_rfl) (fun hb2 => ?_) (fun hb2 => ?_)
  · have hF := (M.ite_some hF).1 hb2
    refine Run_seq ?_
    refine Run_reg 2 (by kernel_rfl) (L' := [(4, .slice none 0 0), (5, .int .i64 1)]) ?_ ?_
    · refine QRun_b [.slice none 0 0, .int .i64 1] 0 _ (by kernel_rfl) (fun w => by kernel_rfl) ?_
      exact QRun_done [4, 5] (by kernel_rfl) (by kernel_rfl)
    have hF := M.ret_some hF
    subst hF
    have H1 := H0.empty cd2
    exact Run_ret2 rfl (ResV_tmp (v := .slice none 0 0) (by kernel_rfl)) (ResV_tmp (v := .int .i64 1) (by kernel_rfl)) ⟨none, 0, rfl, H1⟩
  · have hF := (M.ite_some hF).2 hb2
    refine Run_skip ?_
    refine Run_seq ?_
    refine Run_ops ?_
    refine Run_b [.slice ac_ c_.length cc_, .int .i64 (c_.length : Int), .slice ad d.length cd, .int .i64 (d.length : Int), .int .i64 (w64 ((c_.length : Int) + (d.length : Int))), .int .i64 (w64 ((w64 ((c_.length : Int) + (d.length : Int))) - 1))] 0 _ (by kernel_rfl) (fun w => by kernel_rfl) ?_
    obtain ⟨l1, hl1, hF⟩ := M.bind_some hF
    have hl1 := M.make_some hl1
    refine Run_E (by kernel_rfl) ?_
    refine E_make cd2 0 (kl := .i64) (kc := .i64) H0 cd2_ti Try.underlying41 (by decide) cd2_zero (by kernel_rfl) hl1 (fun a1 h1 H2 => ?_)
    refine Run_b [.slice a1 l1.length l1.length] 7 _ (by kernel_rfl) (fun w => by kernel_rfl) ?_
    refine Run_nil (by kernel_rfl) ?_
    refine Run_keep [0, 1, 6] (L' := [(0, .slice ac_ c_.length cc_), (1, .slice ad d.length cd), (6, .slice a1 l1.length l1.length)]) (by kernel_rfl) ?_
    refine Run_seq ?_
    refine Run_seq ?_
    refine Run_reg 3 (by kernel_rfl) (L' := [(0, .slice ac_ c_.length cc_), (1, .slice ad d.length cd), (6, .slice a1 l1.length l1.length), (29, .bool (decide (12 < (l1.length : Int))))]) ?_ ?_
    · refine QRun_b [.slice a1 l1.length l1.length, .int .i64 (l1.length : Int), .bool (decide (12 < (l1.length : Int)))] 0 _ (by kernel_rfl) (fun w => by kernel_rfl) ?_
      exact QRun_done [0, 1, 6, 29] (by kernel_rfl) (by kernel_rfl)
    refine Run_cond (b := decide (12 < (l1.length : Int))) (by kernel_rfl) (fun hb3 => ?_) (fun hb3 => ?_)
    · have hF := (M.ite_some hF).1 hb3
      refine Run_seq ?_
      refine Run_reg 2 (by kernel_rfl) (L' := [(4, .slice none 0 0), (5, .int .i64 3)]) ?_ ?_
      · refine QRun_b [.slice none 0 0, .int .i64 3] 0 _ (by kernel_rfl) (fun w => by kernel_rfl) ?_
        exact QRun_done [4, 5] (by kernel_rfl) (by kernel_rfl)
      have hF := M.ret_some hF
      subst hF
      have H3 := H2.empty cd2
      have H4 : Hold h h1 [own cd2 none 0 0 []] := H3.pick [0] (by kernel_rfl)
      exact Run_ret2 rfl (ResV_tmp (v := .slice none 0 0) (by kernel_rfl)) (ResV_tmp (v := .int .i64 3) (by kernel_rfl)) ⟨none, 0, rfl, H4⟩
    · have hF := (M.ite_some hF).2 hb3
      refine Run_skip ?_
      refine Run_seq ?_
      refine Run_seq ?_
      refine Run_reg 3 (by kernel_rfl) (L' := [(0, .slice ac_ c_.length cc_), (1, .slice ad d.length cd), (6, .slice a1 l1.length l1.length), (31, .int .i64 (l1.length : Int)), (32, .int .i64 0)]) ?_ ?_
      · refine QRun_b [.slice a1 l1.length l1.length, .int .i64 (l1.length : Int), .int .i64 0] 0 _ (by kernel_rfl) (fun w => by kernel_rfl) ?_
        exact QRun_done [0, 1, 6, 31, 32] (by kernel_rfl) (by kernel_rfl)
      obtain ⟨x4, gx4, hF⟩ := M.bind_some hF
      obtain ⟨hloy1, hhiy1, gx4⟩ := M.for_start gx4
      refine Run_join (fun L' h' => L' = [(0, .slice ac_ c_.length cc_), (1, .slice ad d.length cd), (6, .slice a1 l1.length l1.length)] ∧ Hold h h' [own cd2 a1 l1.length l1.length x4]) ?_ ?_
      · rintro _ h3 ⟨rfl, H6⟩
        refine Run_seq ?_
        refine Run_seq ?_
        refine Run_reg 3 (by kernel_rfl) (L' := [(1, .slice ad d.length cd), (6, .slice a1 l1.length l1.length), (39, .slice ac_ c_.length cc_), (40, .int .i64 (c_.length : Int)), (41, .int .i64 0)]) ?_ ?_
        · refine QRun_b [.slice ac_ c_.length cc_, .int .i64 (c_.length : Int), .int .i64 0] 0 _ (by kernel_rfl) (fun w => by kernel_rfl) ?_
          exact QRun_done [1, 6, 39, 40, 41] (by kernel_rfl) (by kernel_rfl)
        obtain ⟨x6, gx6, hF⟩ := M.bind_some hF
        obtain ⟨hloy2, hhiy2, gx6⟩ := M.for_start gx6
        refine Run_join (fun L' h' => L' = [(6, .slice a1 l1.length l1.length)] ∧ Hold h h' [own cd2 a1 l1.length l1.length x6]) ?_ ?_
        · rintro _ h6 ⟨rfl, H9⟩
          refine Run_seq ?_
          refine Run_ops ?_
          refine Run_b [.slice a1 l1.length l1.length] 0 _ (by kernel_rfl) (fun w => by kernel_rfl) ?_
          obtain ⟨x13, hx9, hF⟩ := M.bind_some hF
          refine Run_E (by kernel_rfl) ?_
          refine E_call (f := 112) (args := #[.slice a1 l1.length l1.length]) (Fn.arg (w_impl_checkedVector h6 x6 a1 l1.length (H9.rd 0 rfl) _ _ hx9) (by simp only [(H9.len 0 rfl)])) (by kernel_rfl) (fun v1 h11 hp1 => ?_)
          obtain ⟨a2, c1, rfl, hd1, H15⟩ := hp1
          have H16 : Hold h h11 [own cd2 a1 l1.length l1.length x6] := H9.call H15 rfl
          have H17 := H16.alias hd1
          refine Run_b [.slice a2 x13.1.length c1, .int .i64 x13.2, .slice a2 x13.1.length c1, .int .i64 x13.2] 2 _ (by kernel_rfl) (fun w => by kernel_rfl) ?_
          refine Run_nil (by kernel_rfl) ?_
          refine Run_keep [4, 5] (L' := [(4, .slice a2 x13.1.length c1), (5, .int .i64 x13.2)]) (by kernel_rfl) ?_
          have hF := M.ret_some hF
          subst hF
          exact Run_ret2 rfl (ResV_tmp (v := .slice a2 x13.1.length c1) (by kernel_rfl)) (ResV_tmp (v := .int .i64 x13.2) (by kernel_rfl)) ⟨a2, c1, rfl, H17⟩
        · refine Run_block ?_
          refine Run_keep [1, 6, 39, 40, 41] (L' := [(1, .slice ad d.length cd), (6, .slice a1 l1.length l1.length), (39, .slice ac_ c_.length cc_), (40, .int .i64 (c_.length : Int)), (41, .int .i64 0)]) (by kernel_rfl) ?_
          refine Run_loop (fun m L' h' => ∃ (i2 : Int) (s2 : (List Int)), 0 ≤ i2 ∧ M.forN (c_.length : Int) _ _ n m i2 s2 = some x6 ∧ L' = [(1, .slice ad d.length cd), (6, .slice a1 l1.length l1.length), (39, .slice ac_ c_.length cc_), (40, .int .i64 (c_.length : Int)), (41, .int .i64 i2)] ∧ Hold h h' [own cd2 a1 l1.length l1.length s2]) ((c_.length : Int) - 0).toNat ⟨0, x4, Int.le_refl _, gx6, rfl, H6⟩ ?_
          rintro my2 _ h5 ⟨i2, s2, hloy2', gx6, rfl, H8⟩
          refine Run_seq ?_
          refine Run_reg 1 (by kernel_rfl) (L' := [(1, .slice ad d.length cd), (6, .slice a1 l1.length l1.length), (39, .slice ac_ c_.length cc_), (40, .int .i64 (c_.length : Int)), (41, .int .i64 i2), (42, .bool (decide (i2 < (c_.length : Int))))]) ?_ ?_
          · refine QRun_b [.bool (decide (i2 < (c_.length : Int)))] 0 _ (by kernel_rfl) (fun w => by kernel_rfl) ?_
            exact QRun_done [1, 6, 39, 40, 41, 42] (by kernel_rfl) (by kernel_rfl)
          refine Run_seq ?_
          refine Run_cond (b := decide (i2 < (c_.length : Int))) (by kernel_rfl) (fun hb5 => ?_) (fun hb5 => ?_)
          · obtain ⟨my2, y2, rfl, hB2, hgoy2, houty2⟩ := M.for_go gx6 hb5
            have hlty2 := of_decide_eq_true hb5
            refine Run_skip ?_
            refine Run_seq ?_
            refine Run_block ?_
            refine Run_seq ?_
            obtain ⟨x7, hx4, hB2⟩ := M.bind_some hB2
            obtain ⟨hx4l, hx4u, hx4⟩ := M.idx_some hx4
            refine Run_reg 5 (by kernel_rfl) (L' := [(1, .slice ad d.length cd), (6, .slice a1 l1.length l1.length), (8, .int .i64 i2), (9, .int .i64 x7), (39, .slice ac_ c_.length cc_), (40, .int .i64 (c_.length : Int)), (41, .int .i64 i2)]) ?_ ?_
            · refine QRun_b [.int .i64 i2] 0 _ (by kernel_rfl) (fun w => by kernel_rfl) ?_
              refine QRun_y (.pointer (some (adr ac_ (i2.toNat * 1)))) (by kernel_rfl) (Y_idx (t := 41) (e := 2) (sz := 1) (a := ac_) (n := c_.length) (cap := cc_) (kk := .i64) (i := i2) (by kernel_rfl) Try.underlying41 (by kernel_rfl) ((rc_.at H8.ext).cell hx4).1 hx4l hx4u) ?_
              refine QRun_y (.int .i64 x7) (by kernel_rfl) (Y_load1 (t := 2) (p := adr ac_ (i2.toNat * 1)) (v := .int .i64 x7) (by kernel_rfl) (fun w => by kernel_rfl) (cd2_cell (rc_.at H8.ext) hx4)) ?_
              refine QRun_b [.int .i64 i2, .int .i64 x7] 3 _ (by kernel_rfl) (fun w => by kernel_rfl) ?_
              exact QRun_done [1, 6, 8, 9, 39, 40, 41] (by kernel_rfl) (by kernel_rfl)
            refine Run_seq ?_
            refine Run_reg 3 (by kernel_rfl) (L' := [(1, .slice ad d.length cd), (6, .slice a1 l1.length l1.length), (8, .int .i64 i2), (9, .int .i64 x7), (39, .slice ac_ c_.length cc_), (40, .int .i64 (c_.length : Int)), (41, .int .i64 i2), (46, .slice ad d.length cd), (47, .int .i64 (d.length : Int)), (48, .int .i64 0)]) ?_ ?_
            · refine QRun_b [.slice ad d.length cd, .int .i64 (d.length : Int), .int .i64 0] 0 _ (by kernel_rfl) (fun w => by kernel_rfl) ?_
              exact QRun_done [1, 6, 8, 9, 39, 40, 41, 46, 47, 48] (by kernel_rfl) (by kernel_rfl)
            obtain ⟨x8, gx8, hB2⟩ := M.bind_some hB2
            obtain ⟨hloy3, hhiy3, gx8⟩ := M.for_start gx8
            refine Run_join (fun L' h' => L' = [(1, .slice ad d.length cd), (6, .slice a1 l1.length l1.length), (39, .slice ac_ c_.length cc_), (40, .int .i64 (c_.length : Int)), (41, .int .i64 i2)] ∧ Hold h h' [own cd2 a1 l1.length l1.length x8]) ?_ ?_
            · rintro _ h8 ⟨rfl, H11⟩
              refine Run_blk ?_
              refine Run_reg 2 (by kernel_rfl) (L' := [(1, .slice ad d.length cd), (6, .slice a1 l1.length l1.length), (39, .slice ac_ c_.length cc_), (40, .int .i64 (c_.length : Int)), (41, .int .i64 (i2 + 1))]) ?_ ?_
              · refine QRun_y (.int .i64 (i2 + 1)) (by kernel_rfl) (Y_eq (v := .int .i64 (w64 (i2 + 1))) (Y_pure (fun w => by kernel_rfl)) (by rw [w64_eq _ (by omega)])) ?_
                refine QRun_b [.int .i64 (i2 + 1)] 1 _ (by kernel_rfl) (fun w => by kernel_rfl) ?_
                exact QRun_done [1, 6, 39, 40, 41] (by kernel_rfl) (by kernel_rfl)
              have hB2 := M.ret_some hB2
              have gx6 := hgoy2 _ hB2.symm
              exact Run_again [1, 6, 39, 40, 41] (by kernel_rfl) my2 (Nat.lt_succ_self _) ⟨i2 + 1, x8, by omega, gx6, rfl, H11⟩
            · refine Run_block ?_
              refine Run_keep [1, 6, 8, 9, 39, 40, 41, 46, 47, 48] (L' := [(1, .slice ad d.length cd), (6, .slice a1 l1.length l1.length), (8, .int .i64 i2), (9, .int .i64 x7), (39, .slice ac_ c_.length cc_), (40, .int .i64 (c_.length : Int)), (41, .int .i64 i2), (46, .slice ad d.length cd), (47, .int .i64 (d.length : Int)), (48, .int .i64 0)]) (by kernel_rfl) ?_
              refine Run_loop (fun m L' h' => ∃ (i3 : Int) (s3 : (List Int)), 0 ≤ i3 ∧ M.forN (d.length : Int) _ _ n m i3 s3 = some x8 ∧ L' = [(1, .slice ad d.length cd), (6, .slice a1 l1.length l1.length), (8, .int .i64 i2), (9, .int .i64 x7), (39, .slice ac_ c_.length cc_), (40, .int .i64 (c_.length : Int)), (41, .int .i64 i2), (46, .slice ad d.length cd), (47, .int .i64 (d.length : Int)), (48, .int .i64 i3)] ∧ Hold h h' [own cd2 a1 l1.length l1.length s3]) ((d.length : Int) - 0).toNat ⟨0, s2, Int.le_refl _, gx8, rfl, H8⟩ ?_
              rintro my3 _ h7 ⟨i3, s3, hloy3', gx8, rfl, H10⟩
              refine Run_seq ?_
              refine Run_reg 1 (by kernel_rfl) (L' := [(1, .slice ad d.length cd), (6, .slice a1 l1.length l1.length), (8, .int .i64 i2), (9, .int .i64 x7), (39, .slice ac_ c_.length cc_), (40, .int .i64 (c_.length : Int)), (41, .int .i64 i2), (46, .slice ad d.length cd), (47, .int .i64 (d.length : Int)), (48, .int .i64 i3), (49, .bool (decide (i3 < (d.length : Int))))]) ?_ ?_
              · refine QRun_b [.bool (decide (i3 < (d.length : Int)))] 0 _ (by kernel_rfl) (fun w => by kernel_rfl) ?_
                exact QRun_done [1, 6, 8, 9, 39, 40, 41, 46, 47, 48, 49] (by kernel_rfl) (by kernel_rfl)
              refine Run_seq ?_
              refine Run_cond (b := decide (i3 < (d.length : Int))) (by kernel_rfl) (fun hb6 => ?_) (fun hb6 => ?_)
              · obtain ⟨my3, y3, rfl, hB3, hgoy3, houty3⟩ := M.for_go gx8 hb6
                have hlty3 := of_decide_eq_true hb6
                refine Run_skip ?_
                refine Run_seq ?_
                refine Run_block ?_
                refine Run_seq ?_
                obtain ⟨x9, hx5, hB3⟩ := M.bind_some hB3
                obtain ⟨hx5l, hx5u, hx5⟩ := M.idx_some hx5
                refine Run_reg 5 (by kernel_rfl) (L' := [(1, .slice ad d.length cd), (6, .slice a1 l1.length l1.length), (8, .int .i64 i2), (9, .int .i64 x7), (10, .int .i64 i3), (11, .int .i64 x9), (39, .slice ac_ c_.length cc_), (40, .int .i64 (c_.length : Int)), (41, .int .i64 i2), (46, .slice ad d.length cd), (47, .int .i64 (d.length : Int)), (48, .int .i64 i3)]) ?_ ?_
                · refine QRun_b [.int .i64 i3] 0 _ (by kernel_rfl) (fun w => by kernel_rfl) ?_
                  refine QRun_y (.pointer (some (adr ad (i3.toNat * 1)))) (by kernel_rfl) (Y_idx (t := 41) (e := 2) (sz := 1) (a := ad) (n := d.length) (cap := cd) (kk := .i64) (i := i3) (by kernel_rfl) Try.underlying41 (by kernel_rfl) ((rd.at H10.ext).cell hx5).1 hx5l hx5u) ?_
                  refine QRun_y (.int .i64 x9) (by kernel_rfl) (Y_load1 (t := 2) (p := adr ad (i3.toNat * 1)) (v := .int .i64 x9) (by kernel_rfl) (fun w => by kernel_rfl) (cd2_cell (rd.at H10.ext) hx5)) ?_
                  refine QRun_b [.int .i64 i3, .int .i64 x9] 3 _ (by kernel_rfl) (fun w => by kernel_rfl) ?_
                  exact QRun_done [1, 6, 8, 9, 10, 11, 39, 40, 41, 46, 47, 48] (by kernel_rfl) (by kernel_rfl)
                obtain ⟨x10, hx6, hB3⟩ := M.bind_some hB3
                obtain ⟨hx6l, hx6u, hx6⟩ := M.idx_some hx6
                obtain ⟨x11, hx7, hB3⟩ := M.bind_some hB3
                obtain ⟨x12, hx8, hB3⟩ := M.bind_some hB3
                obtain ⟨hx8l, hx8u, hx8⟩ := M.idx_some hx8
                refine Run_D (fun x => Hold h x [own cd2 a1 l1.length l1.length s3]) (fun x => Hold h x [own cd2 a1 l1.length l1.length s3]) mixed (by kernel_rfl) H10 Hold.stable (fun x Hy => (show Hold h x [own cd2 a1 l1.length l1.length s3] from Hy).pick [0] (by kernel_rfl)) ?_
                refine DR_b 8 [.slice a1 l1.length l1.length, .int .i64 i2, .int .i64 i3, .int .i64 (w64 (i2 + i3)), .slice a1 l1.length l1.length, .int .i64 i2, .int .i64 i3, .int .i64 (w64 (i2 + i3))] 0 (by kernel_rfl) (by kernel_rfl) (by kernel_rfl) (fun w => by kernel_rfl) ?_
                refine DR_y 7 (i := 8) (.pointer (some (adr a1 ((w64 (i2 + i3)).toNat * 1)))) (by kernel_rfl) (by kernel_rfl) (by kernel_rfl) (fun hx Hx => (YE.of (Y_idx (t := 41) (e := 2) (sz := 1) (a := a1) (n := l1.length) (cap := l1.length) (kk := .i64) (i := w64 (i2 + i3)) (by kernel_rfl) Try.underlying41 (by kernel_rfl) ((H10.rd 0 rfl).cell hx6).1 hx6l (by rw [← (H10.len 0 rfl)]; exact hx6u)))) ?_
                refine DR_y 6 (i := 9) (.int .i64 x10) (by kernel_rfl) (by kernel_rfl) (by kernel_rfl) (fun hx Hx => (YE.of (Y_load1 (t := 2) (p := adr a1 ((w64 (i2 + i3)).toNat * 1)) (v := .int .i64 x10) (by kernel_rfl) (fun w => by kernel_rfl) (cd2_cell (Hx.rd 0 rfl) hx6)))) ?_
                refine DR_b 4 [.int .i64 x7, .int .i64 x9] 10 (by kernel_rfl) (by kernel_rfl) (by kernel_rfl) (fun w => by kernel_rfl) ?_
                refine DR_y 3 (i := 12) (.int .i64 x11) (by kernel_rfl) (by kernel_rfl) (by kernel_rfl) (fun hx Hx => (YE.of (Y_callq (f := 111) (args := #[.int .i64 x7, .int .i64 x9]) (v := .int .i64 x11) (by kernel_rfl) (w_impl_times hx x7 x9 _ _ hx7)))) ?_
                refine DR_b 2 [.int .i64 (mx x10 x11)] 13 (by kernel_rfl) (by kernel_rfl) (by kernel_rfl) (fun w => by kernel_rfl) ?_
                refine DR_y 1 (i := 14) (.pointer (some (adr a1 ((w64 (i2 + i3)).toNat * 1)))) (by kernel_rfl) (by kernel_rfl) (by kernel_rfl) (fun hx Hx => (YE.of (Y_idx (t := 41) (e := 2) (sz := 1) (a := a1) (n := l1.length) (cap := l1.length) (kk := .i64) (i := w64 (i2 + i3)) (by kernel_rfl) Try.underlying41 (by kernel_rfl) ((H10.rd 0 rfl).cell hx8).1 hx8l (by rw [← (H10.len 0 rfl)]; exact hx8u)))) ?_
                refine DR_tail (i := 15) (by kernel_rfl) (by kernel_rfl) (by kernel_rfl) (fun h9 H12 => ?_)
                have H13 : Hold h h9 [own cd2 a1 l1.length l1.length s3] := H12
                obtain ⟨l3, hu2, hB3⟩ := M.bind_some hB3
                have hu2 := M.upd_some hu2
                refine Run_E (by kernel_rfl) ?_
                refine E_put (C := cd2) (t := 2) (sz := 1) (j := w64 (i2 + i3)) (x := (mx x10 x11)) (v := .int .i64 (mx x10 x11)) H13 cd2_flat (by kernel_rfl) rfl (cd2_own _) (by kernel_rfl) hu2 (fun h10 H14 => ?_)
                refine Run_nil (by kernel_rfl) ?_
                refine Run_keep [1, 6, 8, 9, 39, 40, 41, 46, 47, 48] (L' := [(1, .slice ad d.length cd), (6, .slice a1 l1.length l1.length), (8, .int .i64 i2), (9, .int .i64 x7), (39, .slice ac_ c_.length cc_), (40, .int .i64 (c_.length : Int)), (41, .int .i64 i2), (46, .slice ad d.length cd), (47, .int .i64 (d.length : Int)), (48, .int .i64 i3)]) (by kernel_rfl) ?_
                refine Run_blk ?_
                refine Run_reg 2 (by kernel_rfl) (L' := [(1, .slice ad d.length cd), (6, .slice a1 l1.length l1.length), (8, .int .i64 i2), (9, .int .i64 x7), (39, .slice ac_ c_.length cc_), (40, .int .i64 (c_.length : Int)), (41, .int .i64 i2), (46, .slice ad d.length cd), (47, .int .i64 (d.length : Int)), (48, .int .i64 (i3 + 1))]) ?_ ?_
                · refine QRun_y (.int .i64 (i3 + 1)) (by kernel_rfl) (Y_eq (v := .int .i64 (w64 (i3 + 1))) (Y_pure (fun w => by kernel_rfl)) (by rw [w64_eq _ (by omega)])) ?_
                  refine QRun_b [.int .i64 (i3 + 1)] 1 _ (by kernel_rfl) (fun w => by kernel_rfl) ?_
                  exact QRun_done [1, 6, 8, 9, 39, 40, 41, 46, 47, 48] (by kernel_rfl) (by kernel_rfl)
                have hB3 := M.ret_some hB3
                have gx8 := hgoy3 _ hB3.symm
                exact Run_again [1, 6, 8, 9, 39, 40, 41, 46, 47, 48] (by kernel_rfl) my3 (Nat.lt_succ_self _) ⟨i3 + 1, l3, by omega, gx8, rfl, H14⟩
              · have gx8 := M.for_end gx8 hb6
                subst gx8
                refine Run_exit (k' := _) rfl ?_
                exact Run_fall [1, 6, 39, 40, 41] (by kernel_rfl) ⟨rfl, H10⟩
          · have gx6 := M.for_end gx6 hb5
            subst gx6
            refine Run_exit (k' := _) rfl ?_
            exact Run_fall [6] (by kernel_rfl) ⟨rfl, H8⟩
      · refine Run_block ?_
        refine Run_keep [0, 1, 6, 31, 32] (L' := [(0, .slice ac_ c_.length cc_), (1, .slice ad d.length cd), (6, .slice a1 l1.length l1.length), (31, .int .i64 (l1.length : Int)), (32, .int .i64 0)]) (by kernel_rfl) ?_
        refine Run_loop (fun m L' h' => ∃ (i1 : Int) (s1 : (List Int)), 0 ≤ i1 ∧ M.forN (l1.length : Int) _ _ n m i1 s1 = some x4 ∧ L' = [(0, .slice ac_ c_.length cc_), (1, .slice ad d.length cd), (6, .slice a1 l1.length l1.length), (31, .int .i64 (l1.length : Int)), (32, .int .i64 i1)] ∧ Hold h h' [own cd2 a1 l1.length l1.length s1]) ((l1.length : Int) - 0).toNat ⟨0, l1, Int.le_refl _, gx4, rfl, H2⟩ ?_
        rintro my1 _ h2 ⟨i1, s1, hloy1', gx4, rfl, H5⟩
        refine Run_seq ?_
        refine Run_reg 1 (by kernel_rfl) (L' := [(0, .slice ac_ c_.length cc_), (1, .slice ad d.length cd), (6, .slice a1 l1.length l1.length), (31, .int .i64 (l1.length : Int)), (32, .int .i64 i1), (33, .bool (decide (i1 < (l1.length : Int))))]) ?_ ?_
        · refine QRun_b [.bool (decide (i1 < (l1.length : Int)))] 0 _ (by kernel_rfl) (fun w => by kernel_rfl) ?_
          exact QRun_done [0, 1, 6, 31, 32, 33] (by kernel_rfl) (by kernel_rfl)
        refine Run_seq ?_
        refine Run_cond (b := decide (i1 < (l1.length : Int))) (by kernel_rfl) (fun hb4 => ?_) (fun hb4 => ?_)
        · obtain ⟨my1, y1, rfl, hB1, hgoy1, houty1⟩ := M.for_go gx4 hb4
          have hlty1 := of_decide_eq_true hb4
          refine Run_skip ?_
          refine Run_seq ?_
          refine Run_block ?_
          refine Run_seq ?_
          refine Run_reg 2 (by kernel_rfl) (L' := [(0, .slice ac_ c_.length cc_), (1, .slice ad d.length cd), (6, .slice a1 l1.length l1.length), (7, .int .i64 i1), (31, .int .i64 (l1.length : Int)), (32, .int .i64 i1)]) ?_ ?_
          · refine QRun_b [.int .i64 i1, .int .i64 i1] 0 _ (by kernel_rfl) (fun w => by kernel_rfl) ?_
            exact QRun_done [0, 1, 6, 7, 31, 32] (by kernel_rfl) (by kernel_rfl)
          refine Run_ops ?_
          obtain ⟨x5, hx3, hB1⟩ := M.bind_some hB1
          obtain ⟨hx3l, hx3u, hx3⟩ := M.idx_some hx3
          refine Run_b [.slice a1 l1.length l1.length, .int .i64 i1] 0 _ (by kernel_rfl) (fun w => by kernel_rfl) ?_
          refine Run_y (.pointer (some (adr a1 (i1.toNat * 1)))) (by kernel_rfl) (Y_idx (t := 41) (e := 2) (sz := 1) (a := a1) (n := l1.length) (cap := l1.length) (kk := .i64) (i := i1) (by kernel_rfl) Try.underlying41 (by kernel_rfl) ((H5.rd 0 rfl).cell hx3).1 hx3l (by rw [← (H5.len 0 rfl)]; exact hx3u)) ?_
          obtain ⟨l2, hu1, hB1⟩ := M.bind_some hB1
          have hu1 := M.upd_some hu1
          refine Run_E (by kernel_rfl) ?_
          refine E_put (C := cd2) (t := 2) (sz := 1) (j := i1) (x := (-1000000000000000)) (v := .int .i64 (-1000000000000000)) H5 cd2_flat (by kernel_rfl) rfl (cd2_own _) (by kernel_rfl) hu1 (fun h4 H7 => ?_)
          refine Run_nil (by kernel_rfl) ?_
          refine Run_keep [0, 1, 6, 31, 32] (L' := [(0, .slice ac_ c_.length cc_), (1, .slice ad d.length cd), (6, .slice a1 l1.length l1.length), (31, .int .i64 (l1.length : Int)), (32, .int .i64 i1)]) (by kernel_rfl) ?_
          refine Run_blk ?_
          refine Run_reg 2 (by kernel_rfl) (L' := [(0, .slice ac_ c_.length cc_), (1, .slice ad d.length cd), (6, .slice a1 l1.length l1.length), (31, .int .i64 (l1.length : Int)), (32, .int .i64 (i1 + 1))]) ?_ ?_
          · refine QRun_y (.int .i64 (i1 + 1)) (by kernel_rfl) (Y_eq (v := .int .i64 (w64 (i1 + 1))) (Y_pure (fun w => by kernel_rfl)) (by rw [w64_eq _ (by omega)])) ?_
            refine QRun_b [.int .i64 (i1 + 1)] 1 _ (by kernel_rfl) (fun w => by kernel_rfl) ?_
            exact QRun_done [0, 1, 6, 31, 32] (by kernel_rfl) (by kernel_rfl)
          have hB1 := M.ret_some hB1
          have gx4 := hgoy1 _ hB1.symm
          exact Run_again [0, 1, 6, 31, 32] (by kernel_rfl) my1 (Nat.lt_succ_self _) ⟨i1 + 1, l2, by omega, gx4, rfl, H7⟩
        · have gx4 := M.for_end gx4 hb4
          subst gx4
          refine Run_exit (k' := _) rfl ?_
          exact Run_fall [0, 1, 6] (by kernel_rfl) ⟨rfl, H5⟩

set_option maxRecDepth 100000 in
set_option maxHeartbeats 4000000 in
theorem w_spec_l01Times (h : Heap) (a_ : Int) (b : Int) (n : Nat) (r : Int) (hF : spec_l01Times a_ b n = some r) :
    Fn Try.prog 114 #[.int .i64 a_, .int .i64 b] h fun v h' => v = .int .i64 r ∧ h' = h := by
  unfold spec_l01Times at hF
  refine Fn_enter (args := [.int .i64 a_, .int .i64 b]) Try.func114 rfl (by kernel_rfl) (by kernel_rfl) (fun w0 _ => ?_)
  refine Run_seq ?_
  refine Run_reg 1 (by kernel_rfl) (L' := [(0, .int .i64 a_), (1, .int .i64 b)]) ?_ ?_
  · refine QRun_b [.int .i64 0] 0 _ (by kernel_rfl) (fun w => by kernel_rfl) ?_
    exact QRun_done [0, 1] (by kernel_rfl) (by kernel_rfl)
  refine Run_seq ?_
  refine Run_seq ?_
  refine Run_reg 6 (by kernel_rfl) (L' := [(0, .int .i64 a_), (1, .int .i64 b), (10, .bool ((a_ == (-1000000000000000)) || (b == (-1000000000000000))))]) ?_ ?_
  · refine QRun_b [.int .i64 a_, .bool (a_ == (-1000000000000000))] 0 _ (by kernel_rfl) (fun w => by kernel_rfl) ?_
    refine QRun_seq 6 [(0, .int .i64 a_), (1, .int .i64 b), (10, .bool ((a_ == (-1000000000000000)) || (b == (-1000000000000000))))] ?_ ?_
    · rcases Bool.eq_false_or_eq_true (a_ == (-1000000000000000)) with hb1 | hb1
      · refine QRun_bool (a_ == (-1000000000000000)) true (by kernel_rfl) (fun w => by kernel_rfl) hb1 ?_
        refine QRun_n (by kernel_rfl) ?_
        refine QRun_n (by kernel_rfl) ?_
        refine QRun_bool true ((a_ == (-1000000000000000)) || (b == (-1000000000000000))) (by kernel_rfl) (fun w => by kernel_rfl) (by rw [hb1]; rfl) ?_
        exact QRun_done [0, 1, 10] (by kernel_rfl) (by kernel_rfl)
      · refine QRun_bool (a_ == (-1000000000000000)) false (by kernel_rfl) (fun w => by kernel_rfl) hb1 ?_
        refine QRun_b [.int .i64 b, .bool (b == (-1000000000000000))] 3 _ (by kernel_rfl) (fun w => by kernel_rfl) ?_
        refine QRun_bool (b == (-1000000000000000)) ((a_ == (-1000000000000000)) || (b == (-1000000000000000))) (by kernel_rfl) (fun w => by kernel_rfl) (by rw [hb1]; rfl) ?_
        exact QRun_done [0, 1, 10] (by kernel_rfl) (by kernel_rfl)
    exact QRun_done [0, 1, 10] (by kernel_rfl) (by kernel_rfl)
  refine Run_cond (b := (a_ == (-1000000000000000)) || (b == (-1000000000000000))) (by kernel_rfl) (fun hb2 => ?_) (fun hb2 => ?_)
  · have hF := (M.ite_some hF).1 hb2
    refine Run_seq ?_
    refine Run_reg 1 (by kernel_rfl) (L' := [(4, .int .i64 (-1000000000000000))]) ?_ ?_
    · refine QRun_b [.int .i64 (-1000000000000000)] 0 _ (by kernel_rfl) (fun w => by kernel_rfl) ?_
      exact QRun_done [4] (by kernel_rfl) (by kernel_rfl)
    have hF := M.ret_some hF
    subst hF
    exact Run_ret1 rfl (ResV_tmp (v := .int .i64 (-1000000000000000)) (by kernel_rfl)) ⟨rfl, rfl⟩
  · have hF := (M.ite_some hF).2 hb2
    refine Run_skip ?_
    refine Run_seq ?_
    refine Run_reg 4 (by kernel_rfl) (L' := [(4, .int .i64 (w64 (a_ + b)))]) ?_ ?_
    · refine QRun_b [.int .i64 a_, .int .i64 b, .int .i64 (w64 (a_ + b)), .int .i64 (w64 (a_ + b))] 0 _ (by kernel_rfl) (fun w => by kernel_rfl) ?_
      exact QRun_done [4] (by kernel_rfl) (by kernel_rfl)
    have hF := M.ret_some hF
    subst hF
    exact Run_ret1 rfl (ResV_tmp (v := .int .i64 (w64 (a_ + b))) (by kernel_rfl)) ⟨rfl, rfl⟩

set_option maxRecDepth 100000 in
set_option maxHeartbeats 4000000 in
theorem w_spec_MultiplyPolynomials (h : Heap) (c_ : List Int) (ac_ : Option Addr) (cc_ : Nat) (rc_ : Rd cd2 h (Lt h) ac_ cc_ c_) (d : List Int) (ad : Option Addr) (cd : Nat) (rd : Rd cd2 h (Lt h) ad cd d) (n : Nat) (r : (List Int) × Int) (hF : spec_MultiplyPolynomials c_ d n = some r) :
    Fn Try.prog 58 #[.slice ac_ c_.length cc_, .slice ad d.length cd] h fun v h' => ∃ (a0 : Option Addr) (c0 : Nat), v = .tuple #[.slice a0 r.1.length c0, .int .i64 r.2] ∧ Hold h h' [own cd2 a0 r.1.length c0 r.1] := by
  unfold spec_MultiplyPolynomials at hF
  refine Fn_enter (args := [.slice ac_ c_.length cc_, .slice ad d.length cd]) Try.func58 rfl (by kernel_rfl) (by kernel_rfl) (fun w0 _ => ?_)
  have H0 := Hold.init h
  refine Run_seq ?_
  refine Run_reg 2 (by kernel_rfl) (L' := [(0, .slice ac_ c_.length cc_), (1, .slice ad d.length cd)]) ?_ ?_
  · refine QRun_b [.slice none 0 0, .int .i64 0] 0 _ (by kernel_rfl) (fun w => by kernel_rfl) ?_
    exact QRun_done [0, 1] (by kernel_rfl) (by kernel_rfl)
  refine Run_seq ?_
  refine Run_seq ?_
  obtain ⟨x1, hx1, hF⟩ := M.bind_some hF
  obtain ⟨x2, gx2, hF⟩ := M.bind_some hF
  refine Run_reg 8 (by kernel_rfl) (L' := [(0, .slice ac_ c_.length cc_), (1, .slice ad d.length cd), (16, .bool x2)]) ?_ ?_
  · refine QRun_b [.slice ac_ c_.length cc_] 0 _ (by kernel_rfl) (fun w => by kernel_rfl) ?_
    refine QRun_y (.bool x1) (by kernel_rfl) (Y_callq (f := 63) (args := #[.slice ac_ c_.length cc_]) (v := .bool x1) (by kernel_rfl) (w_spec_IsPolynomial h c_ ac_ cc_ rc_ _ _ hx1)) ?_
    refine QRun_b [.bool (!x1)] 2 _ (by kernel_rfl) (fun w => by kernel_rfl) ?_
    refine QRun_seq 8 [(0, .slice ac_ c_.length cc_), (1, .slice ad d.length cd), (16, .bool x2)] ?_ ?_
    · rcases Bool.eq_false_or_eq_true (!x1) with hb1 | hb1
      · refine QRun_bool (!x1) true (by kernel_rfl) (fun w => by kernel_rfl) hb1 ?_
        have gx2 := M.ret_some ((M.ite_some gx2).1 hb1)
        refine QRun_n (by kernel_rfl) ?_
        refine QRun_n (by kernel_rfl) ?_
        refine QRun_n (by kernel_rfl) ?_
        refine QRun_bool true x2 (by kernel_rfl) (fun w => by kernel_rfl) gx2 ?_
        exact QRun_done [0, 1, 16] (by kernel_rfl) (by kernel_rfl)
      · refine QRun_bool (!x1) false (by kernel_rfl) (fun w => by kernel_rfl) hb1 ?_
        have gx2 := (M.ite_some gx2).2 hb1
        obtain ⟨x3, hx2, gx2⟩ := M.bind_some gx2
        have gx2 := M.ret_some gx2
        refine QRun_b [.slice ad d.length cd] 4 _ (by kernel_rfl) (fun w => by kernel_rfl) ?_
        refine QRun_y (.bool x3) (by kernel_rfl) (Y_callq (f := 63) (args := #[.slice ad d.length cd]) (v := .bool x3) (by kernel_rfl) (w_spec_IsPolynomial h d ad cd rd _ _ hx2)) ?_
        refine QRun_b [.bool (!x3)] 6 _ (by kernel_rfl) (fun w => by kernel_rfl) ?_
        refine QRun_bool (!x3) x2 (by kernel_rfl) (fun w => by kernel_rfl) gx2 ?_
        exact QRun_done [0, 1, 16] (by kernel_rfl) (by kernel_rfl)
    exact QRun_done [0, 1, 16] (by kernel_rfl) (by kernel_rfl)
  refine Run_cond (b := x2) (by kernel_rfl) (fun hb2 => ?_) (fun hb2 => ?_)
  · have hF := (M.ite_some hF).1 hb2
    refine Run_seq ?_
    refine Run_reg 2 (by kernel_rfl) (L' := [(4, .slice none 0 0), (5, .int .i64 1)]) ?_ ?_
    · refine QRun_b [.slice none 0 0, .int .i64 1] 0 _ (by kernel_rfl) (fun w => by kernel_rfl) ?_
      exact QRun_done [4, 5] (by kernel_rfl) (by kernel_rfl)
    have hF := M.ret_some hF
    subst hF
    have H1 := H0.empty cd2
    exact Run_ret2 rfl (ResV_tmp (v := .slice none 0 0) (by kernel_rfl)) (ResV_tmp (v := .int .i64 1) (by kernel_rfl)) ⟨none, 0, rfl, H1⟩
  · have hF := (M.ite_some hF).2 hb2
    refine Run_skip ?_
    refine Run_seq ?_
    refine Run_ops ?_
    refine Run_b [.slice ac_ c_.length cc_, .int .i64 (c_.length : Int), .slice ad d.length cd, .int .i64 (d.length : Int), .int .i64 (w64 ((c_.length : Int) + (d.length : Int))), .int .i64 (w64 ((w64 ((c_.length : Int) + (d.length : Int))) - 1))] 0 _ (by kernel_rfl) (fun w => by kernel_rfl) ?_
    obtain ⟨x4, hx3, hF⟩ := M.bind_some hF
    refine Run_E (by kernel_rfl) ?_
    refine E_call (f := 113) (args := #[.int .i64 1, .int .i64 (w64 ((w64 ((c_.length : Int) + (d.length : Int))) - 1))]) (w_spec_l02Bottom h 1 (w64 ((w64 ((c_.length : Int) + (d.length : Int))) - 1)) _ _ hx3) (by kernel_rfl) (fun v1 h1 hp1 => ?_)
    obtain ⟨a1, c1, rfl, H2⟩ := hp1
    have H3 : Hold h h1 [own cd41 a1 x4.length c1 x4] := H0.call H2 rfl
    obtain ⟨x5, hx4, hF⟩ := M.bind_some hF
    obtain ⟨hx4l, hx4u, hx4⟩ := M.idx_some hx4
    obtain ⟨a2, c2, hc1, H4⟩ := H3.takeRow hx4
    refine Run_y (.pointer (some (adr a1 (0 * 1)))) (by kernel_rfl) (Y_idx (t := 90) (e := 41) (sz := 1) (a := a1) (n := x4.length) (cap := c1) (kk := .i64) (i := 0) (by kernel_rfl) Try.underlying90 (by kernel_rfl) ((H3.rd 0 rfl).cell hx4).1 hx4l hx4u) ?_
    refine Run_y (.slice a2 x5.length c2) (by kernel_rfl) (Y_load1 (t := 41) (p := adr a1 (0 * 1)) (v := .slice a2 x5.length c2) (by kernel_rfl) (fun w => by kernel_rfl) hc1) ?_
    refine Run_b [.slice a2 x5.length c2] 9 _ (by kernel_rfl) (fun w => by kernel_rfl) ?_
    refine Run_nil (by kernel_rfl) ?_
    refine Run_keep [0, 1, 6] (L' := [(0, .slice ac_ c_.length cc_), (1, .slice ad d.length cd), (6, .slice a2 x5.length c2)]) (by kernel_rfl) ?_
    refine Run_seq ?_
    refine Run_seq ?_
    refine Run_reg 1 (by kernel_rfl) (L' := [(0, .slice ac_ c_.length cc_), (1, .slice ad d.length cd), (6, .slice a2 x5.length c2), (7, .int .i64 0)]) ?_ ?_
    · refine QRun_b [.int .i64 0] 0 _ (by kernel_rfl) (fun w => by kernel_rfl) ?_
      exact QRun_done [0, 1, 6, 7] (by kernel_rfl) (by kernel_rfl)
    obtain ⟨x6, gx6, hF⟩ := M.bind_some hF
    obtain ⟨hloy1, hhiy1, gx6⟩ := M.for_start gx6
    refine Run_join (fun L' h' => L' = [(6, .slice a2 x5.length c2)] ∧ Hold h h' [own cd2 a2 x5.length c2 x6]) ?_ ?_
    · rintro _ h3 ⟨rfl, H6⟩
      refine Run_seq ?_
      refine Run_seq ?_
      obtain ⟨x13, hx10, hF⟩ := M.bind_some hF
      refine Run_reg 3 (by kernel_rfl) (L' := [(6, .slice a2 x5.length c2), (61, .bool (!x13))]) ?_ ?_
      · refine QRun_b [.slice a2 x5.length c2] 0 _ (by kernel_rfl) (fun w => by kernel_rfl) ?_
        refine QRun_y (.bool x13) (by kernel_rfl) (Y_callq (f := 63) (args := #[.slice a2 x5.length c2]) (v := .bool x13) (by kernel_rfl) (Fn.arg (w_spec_IsPolynomial h3 x6 a2 c2 (H6.rd 0 rfl) _ _ hx10) (by simp only [(H6.len 0 rfl)]))) ?_
        refine QRun_b [.bool (!x13)] 2 _ (by kernel_rfl) (fun w => by kernel_rfl) ?_
        exact QRun_done [6, 61] (by kernel_rfl) (by kernel_rfl)
      refine Run_cond (b := !x13) (by kernel_rfl) (fun hb5 => ?_) (fun hb5 => ?_)
      · have hF := (M.ite_some hF).1 hb5
        refine Run_seq ?_
        refine Run_reg 2 (by kernel_rfl) (L' := [(4, .slice none 0 0), (5, .int .i64 3)]) ?_ ?_
        · refine QRun_b [.slice none 0 0, .int .i64 3] 0 _ (by kernel_rfl) (fun w => by kernel_rfl) ?_
          exact QRun_done [4, 5] (by kernel_rfl) (by kernel_rfl)
        have hF := M.ret_some hF
        subst hF
        have H12 := H6.empty cd2
        have H13 : Hold h h3 [own cd2 none 0 0 []] := H12.pick [0] (by kernel_rfl)
        exact Run_ret2 rfl (ResV_tmp (v := .slice none 0 0) (by kernel_rfl)) (ResV_tmp (v := .int .i64 3) (by kernel_rfl)) ⟨none, 0, rfl, H13⟩
      · have hF := (M.ite_some hF).2 hb5
        refine Run_skip ?_
        refine Run_seq ?_
        refine Run_reg 3 (by kernel_rfl) (L' := [(4, .slice a2 x5.length c2), (5, .int .i64 0)]) ?_ ?_
        · refine QRun_b [.slice a2 x5.length c2, .slice a2 x5.length c2, .int .i64 0] 0 _ (by kernel_rfl) (fun w => by kernel_rfl) ?_
          exact QRun_done [4, 5] (by kernel_rfl) (by kernel_rfl)
        have hF := M.ret_some hF
        subst hF
        have H14 := H6.norm
        exact Run_ret2 rfl (ResV_tmp (v := .slice a2 x5.length c2) (by kernel_rfl)) (ResV_tmp (v := .int .i64 0) (by kernel_rfl)) ⟨a2, c2, (by simp only [(H6.len 0 rfl)]), H14⟩
    · refine Run_block ?_
      have H15 : Hold h h1 [own cd2 a2 x5.length c2 x5] := H4.pick [0] (by kernel_rfl)
      refine Run_keep [0, 1, 6, 7] (L' := [(0, .slice ac_ c_.length cc_), (1, .slice ad d.length cd), (6, .slice a2 x5.length c2), (7, .int .i64 0)]) (by kernel_rfl) ?_
      refine Run_loop (fun m L' h' => ∃ (i1 : Int) (s1 : (List Int)), 0 ≤ i1 ∧ M.forN (c_.length : Int) _ _ n m i1 s1 = some x6 ∧ L' = [(0, .slice ac_ c_.length cc_), (1, .slice ad d.length cd), (6, .slice a2 x5.length c2), (7, .int .i64 i1)] ∧ Hold h h' [own cd2 a2 x5.length c2 s1]) ((c_.length : Int) - 0).toNat ⟨0, x5, Int.le_refl _, gx6, rfl, H15⟩ ?_
      rintro my1 _ h2 ⟨i1, s1, hloy1', gx6, rfl, H5⟩
      refine Run_seq ?_
      refine Run_seq ?_
      refine Run_reg 4 (by kernel_rfl) (L' := [(0, .slice ac_ c_.length cc_), (1, .slice ad d.length cd), (6, .slice a2 x5.length c2), (7, .int .i64 i1), (29, .bool (decide (i1 < (c_.length : Int))))]) ?_ ?_
      · refine QRun_b [.int .i64 i1, .slice ac_ c_.length cc_, .int .i64 (c_.length : Int), .bool (decide (i1 < (c_.length : Int)))] 0 _ (by kernel_rfl) (fun w => by kernel_rfl) ?_
        exact QRun_done [0, 1, 6, 7, 29] (by kernel_rfl) (by kernel_rfl)
      refine Run_cond (b := decide (i1 < (c_.length : Int))) (by kernel_rfl) (fun hb3 => ?_) (fun hb3 => ?_)
      · obtain ⟨my1, y1, rfl, hB1, hgoy1, houty1⟩ := M.for_go gx6 hb3
        have hlty1 := of_decide_eq_true hb3
        refine Run_skip ?_
        refine Run_seq ?_
        refine Run_block ?_
        refine Run_seq ?_
        refine Run_reg 1 (by kernel_rfl) (L' := [(0, .slice ac_ c_.length cc_), (1, .slice ad d.length cd), (6, .slice a2 x5.length c2), (7, .int .i64 i1), (8, .int .i64 0)]) ?_ ?_
        · refine QRun_b [.int .i64 0] 0 _ (by kernel_rfl) (fun w => by kernel_rfl) ?_
          exact QRun_done [0, 1, 6, 7, 8] (by kernel_rfl) (by kernel_rfl)
        obtain ⟨x7, gx7, hB1⟩ := M.bind_some hB1
        obtain ⟨hloy2, hhiy2, gx7⟩ := M.for_start gx7
        refine Run_join (fun L' h' => L' = [(0, .slice ac_ c_.length cc_), (1, .slice ad d.length cd), (6, .slice a2 x5.length c2), (7, .int .i64 i1)] ∧ Hold h h' [own cd2 a2 x5.length c2 x7]) ?_ ?_
        · rintro _ h5 ⟨rfl, H8⟩
          refine Run_blk ?_
          refine Run_reg 3 (by kernel_rfl) (L' := [(0, .slice ac_ c_.length cc_), (1, .slice ad d.length cd), (6, .slice a2 x5.length c2), (7, .int .i64 (i1 + 1))]) ?_ ?_
          · refine QRun_b [.int .i64 i1] 0 _ (by kernel_rfl) (fun w => by kernel_rfl) ?_
            refine QRun_y (.int .i64 (i1 + 1)) (by kernel_rfl) (Y_eq (v := .int .i64 (w64 (i1 + 1))) (Y_pure (fun w => by kernel_rfl)) (by rw [w64_eq _ (by omega)])) ?_
            refine QRun_b [.int .i64 (i1 + 1)] 2 _ (by kernel_rfl) (fun w => by kernel_rfl) ?_
            exact QRun_done [0, 1, 6, 7] (by kernel_rfl) (by kernel_rfl)
          have hB1 := M.ret_some hB1
          have gx6 := hgoy1 _ hB1.symm
          exact Run_again [0, 1, 6, 7] (by kernel_rfl) my1 (Nat.lt_succ_self _) ⟨i1 + 1, x7, by omega, gx6, rfl, H8⟩
        · refine Run_block ?_
          refine Run_keep [0, 1, 6, 7, 8] (L' := [(0, .slice ac_ c_.length cc_), (1, .slice ad d.length cd), (6, .slice a2 x5.length c2), (7, .int .i64 i1), (8, .int .i64 0)]) (by kernel_rfl) ?_
          refine Run_loop (fun m L' h' => ∃ (i2 : Int) (s2 : (List Int)), 0 ≤ i2 ∧ M.forN (d.length : Int) _ _ n m i2 s2 = some x7 ∧ L' = [(0, .slice ac_ c_.length cc_), (1, .slice ad d.length cd), (6, .slice a2 x5.length c2), (7, .int .i64 i1), (8, .int .i64 i2)] ∧ Hold h h' [own cd2 a2 x5.length c2 s2]) ((d.length : Int) - 0).toNat ⟨0, s1, Int.le_refl _, gx7, rfl, H5⟩ ?_
          rintro my2 _ h4 ⟨i2, s2, hloy2', gx7, rfl, H7⟩
          refine Run_seq ?_
          refine Run_seq ?_
          refine Run_reg 4 (by kernel_rfl) (L' := [(0, .slice ac_ c_.length cc_), (1, .slice ad d.length cd), (6, .slice a2 x5.length c2), (7, .int .i64 i1), (8, .int .i64 i2), (35, .bool (decide (i2 < (d.length : Int))))]) ?_ ?_
          · refine QRun_b [.int .i64 i2, .slice ad d.length cd, .int .i64 (d.length : Int), .bool (decide (i2 < (d.length : Int)))] 0 _ (by kernel_rfl) (fun w => by kernel_rfl) ?_
            exact QRun_done [0, 1, 6, 7, 8, 35] (by kernel_rfl) (by kernel_rfl)
          refine Run_cond (b := decide (i2 < (d.length : Int))) (by kernel_rfl) (fun hb4 => ?_) (fun hb4 => ?_)
          · obtain ⟨my2, y2, rfl, hB2, hgoy2, houty2⟩ := M.for_go gx7 hb4
            have hlty2 := of_decide_eq_true hb4
            refine Run_skip ?_
            refine Run_seq ?_
            refine Run_block ?_
            obtain ⟨x8, hx5, hB2⟩ := M.bind_some hB2
            obtain ⟨hx5l, hx5u, hx5⟩ := M.idx_some hx5
            obtain ⟨x9, hx6, hB2⟩ := M.bind_some hB2
            obtain ⟨hx6l, hx6u, hx6⟩ := M.idx_some hx6
            obtain ⟨x10, hx7, hB2⟩ := M.bind_some hB2
            obtain ⟨hx7l, hx7u, hx7⟩ := M.idx_some hx7
            obtain ⟨x11, hx8, hB2⟩ := M.bind_some hB2
            obtain ⟨x12, hx9, hB2⟩ := M.bind_some hB2
            obtain ⟨hx9l, hx9u, hx9⟩ := M.idx_some hx9
            refine Run_D (fun x => Hold h x [own cd2 a2 x5.length c2 s2]) (fun x => Hold h x [own cd2 a2 x5.length c2 s2]) mixed (by kernel_rfl) H7 Hold.stable (fun x Hy => (show Hold h x [own cd2 a2 x5.length c2 s2] from Hy).pick [0] (by kernel_rfl)) ?_
            refine DR_b 14 [.slice a2 x5.length c2, .int .i64 i1, .int .i64 i2, .int .i64 (w64 (i1 + i2)), .slice a2 x5.length c2, .int .i64 i1, .int .i64 i2, .int .i64 (w64 (i1 + i2))] 0 (by kernel_rfl) (by kernel_rfl) (by kernel_rfl) (fun w => by kernel_rfl) ?_
            refine DR_y 13 (i := 8) (.pointer (some (adr a2 ((w64 (i1 + i2)).toNat * 1)))) (by kernel_rfl) (by kernel_rfl) (by kernel_rfl) (fun hx Hx => (YE.of (Y_idx (t := 41) (e := 2) (sz := 1) (a := a2) (n := x5.length) (cap := c2) (kk := .i64) (i := w64 (i1 + i2)) (by kernel_rfl) Try.underlying41 (by kernel_rfl) ((H7.rd 0 rfl).cell hx5).1 hx5l (by rw [← (H7.len 0 rfl)]; exact hx5u)))) ?_
            refine DR_y 12 (i := 9) (.int .i64 x8) (by kernel_rfl) (by kernel_rfl) (by kernel_rfl) (fun hx Hx => (YE.of (Y_load1 (t := 2) (p := adr a2 ((w64 (i1 + i2)).toNat * 1)) (v := .int .i64 x8) (by kernel_rfl) (fun w => by kernel_rfl) (cd2_cell (Hx.rd 0 rfl) hx5)))) ?_
            refine DR_b 10 [.slice ac_ c_.length cc_, .int .i64 i1] 10 (by kernel_rfl) (by kernel_rfl) (by kernel_rfl) (fun w => by kernel_rfl) ?_
            refine DR_y 9 (i := 12) (.pointer (some (adr ac_ (i1.toNat * 1)))) (by kernel_rfl) (by kernel_rfl) (by kernel_rfl) (fun hx Hx => (YE.of (Y_idx (t := 41) (e := 2) (sz := 1) (a := ac_) (n := c_.length) (cap := cc_) (kk := .i64) (i := i1) (by kernel_rfl) Try.underlying41 (by kernel_rfl) ((rc_.at H7.ext).cell hx6).1 hx6l hx6u))) ?_
            refine DR_y 8 (i := 13) (.int .i64 x9) (by kernel_rfl) (by kernel_rfl) (by kernel_rfl) (fun hx Hx => (YE.of (Y_load1 (t := 2) (p := adr ac_ (i1.toNat * 1)) (v := .int .i64 x9) (by kernel_rfl) (fun w => by kernel_rfl) (cd2_cell (rc_.at Hx.ext) hx6)))) ?_
            refine DR_b 6 [.slice ad d.length cd, .int .i64 i2] 14 (by kernel_rfl) (by kernel_rfl) (by kernel_rfl) (fun w => by kernel_rfl) ?_
            refine DR_y 5 (i := 16) (.pointer (some (adr ad (i2.toNat * 1)))) (by kernel_rfl) (by kernel_rfl) (by kernel_rfl) (fun hx Hx => (YE.of (Y_idx (t := 41) (e := 2) (sz := 1) (a := ad) (n := d.length) (cap := cd) (kk := .i64) (i := i2) (by kernel_rfl) Try.underlying41 (by kernel_rfl) ((rd.at H7.ext).cell hx7).1 hx7l hx7u))) ?_
            refine DR_y 4 (i := 17) (.int .i64 x10) (by kernel_rfl) (by kernel_rfl) (by kernel_rfl) (fun hx Hx => (YE.of (Y_load1 (t := 2) (p := adr ad (i2.toNat * 1)) (v := .int .i64 x10) (by kernel_rfl) (fun w => by kernel_rfl) (cd2_cell (rd.at Hx.ext) hx7)))) ?_
            refine DR_y 3 (i := 18) (.int .i64 x11) (by kernel_rfl) (by kernel_rfl) (by kernel_rfl) (fun hx Hx => (YE.of (Y_callq (f := 114) (args := #[.int .i64 x9, .int .i64 x10]) (v := .int .i64 x11) (by kernel_rfl) (w_spec_l01Times hx x9 x10 _ _ hx8)))) ?_
            refine DR_b 2 [.int .i64 (mx x8 x11)] 19 (by kernel_rfl) (by kernel_rfl) (by kernel_rfl) (fun w => by kernel_rfl) ?_
            refine DR_y 1 (i := 20) (.pointer (some (adr a2 ((w64 (i1 + i2)).toNat * 1)))) (by kernel_rfl) (by kernel_rfl) (by kernel_rfl) (fun hx Hx => (YE.of (Y_idx (t := 41) (e := 2) (sz := 1) (a := a2) (n := x5.length) (cap := c2) (kk := .i64) (i := w64 (i1 + i2)) (by kernel_rfl) Try.underlying41 (by kernel_rfl) ((H7.rd 0 rfl).cell hx9).1 hx9l (by rw [← (H7.len 0 rfl)]; exact hx9u)))) ?_
            refine DR_tail (i := 21) (by kernel_rfl) (by kernel_rfl) (by kernel_rfl) (fun h6 H9 => ?_)
            have H10 : Hold h h6 [own cd2 a2 x5.length c2 s2] := H9
            obtain ⟨l1, hu1, hB2⟩ := M.bind_some hB2
            have hu1 := M.upd_some hu1
            refine Run_E (by kernel_rfl) ?_
            refine E_put (C := cd2) (t := 2) (sz := 1) (j := w64 (i1 + i2)) (x := (mx x8 x11)) (v := .int .i64 (mx x8 x11)) H10 cd2_flat (by kernel_rfl) rfl (cd2_own _) (by kernel_rfl) hu1 (fun h7 H11 => ?_)
            refine Run_nil (by kernel_rfl) ?_
            refine Run_keep [0, 1, 6, 7, 8] (L' := [(0, .slice ac_ c_.length cc_), (1, .slice ad d.length cd), (6, .slice a2 x5.length c2), (7, .int .i64 i1), (8, .int .i64 i2)]) (by kernel_rfl) ?_
            refine Run_blk ?_
            refine Run_reg 3 (by kernel_rfl) (L' := [(0, .slice ac_ c_.length cc_), (1, .slice ad d.length cd), (6, .slice a2 x5.length c2), (7, .int .i64 i1), (8, .int .i64 (i2 + 1))]) ?_ ?_
            · refine QRun_b [.int .i64 i2] 0 _ (by kernel_rfl) (fun w => by kernel_rfl) ?_
              refine QRun_y (.int .i64 (i2 + 1)) (by kernel_rfl) (Y_eq (v := .int .i64 (w64 (i2 + 1))) (Y_pure (fun w => by kernel_rfl)) (by rw [w64_eq _ (by omega)])) ?_
              refine QRun_b [.int .i64 (i2 + 1)] 2 _ (by kernel_rfl) (fun w => by kernel_rfl) ?_
              exact QRun_done [0, 1, 6, 7, 8] (by kernel_rfl) (by kernel_rfl)
            have hB2 := M.ret_some hB2
            have gx7 := hgoy2 _ hB2.symm
            exact Run_again [0, 1, 6, 7, 8] (by kernel_rfl) my2 (Nat.lt_succ_self _) ⟨i2 + 1, l1, by omega, gx7, rfl, H11⟩
          · have gx7 := M.for_end gx7 hb4
            subst gx7
            refine Run_exit (k' := _) rfl ?_
            exact Run_fall [0, 1, 6, 7] (by kernel_rfl) ⟨rfl, H7⟩
      · have gx6 := M.for_end gx6 hb3
        subst gx6
        refine Run_exit (k' := _) rfl ?_
        exact Run_fall [6] (by kernel_rfl) ⟨rfl, H5⟩

set_option maxRecDepth 100000 in
set_option maxHeartbeats 4000000 in
theorem w_spec_DrawEvaluatePolynomial (h : Heap) (code : List Int) (acode : Option Addr) (ccode : Nat) (rcode : Rd cd5 h (Lt h) acode ccode code) (n : Nat) (r : (List Int) × Int) (hF : spec_DrawEvaluatePolynomial code n = some r) :
    Fn Try.prog 59 #[.slice acode code.length ccode] h fun v h' => ∃ (a0 : Option Addr) (c0 : Nat), v = .tuple #[.slice a0 r.1.length c0, .int .i64 r.2] ∧ Hold h h' [own cd2 a0 r.1.length c0 r.1] := by
  unfold spec_DrawEvaluatePolynomial at hF
  refine Fn_enter (args := [.slice acode code.length ccode]) Try.func59 rfl (by kernel_rfl) (by kernel_rfl) (fun w0 _ => ?_)
  have H0 := Hold.init h
  refine Run_seq ?_
  refine Run_reg 2 (by kernel_rfl) (L' := [(0, .slice acode code.length ccode)]) ?_ ?_
  · refine QRun_b [.slice none 0 0, .int .i64 0] 0 _ (by kernel_rfl) (fun w => by kernel_rfl) ?_
    exact QRun_done [0] (by kernel_rfl) (by kernel_rfl)
  refine Run_seq ?_
  refine Run_ops ?_
  refine Run_b [.slice acode code.length ccode] 0 _ (by kernel_rfl) (fun w => by kernel_rfl) ?_
  obtain ⟨x1, hx1, hF⟩ := M.bind_some hF
  refine Run_E (by kernel_rfl) ?_
  refine E_call (f := 98) (args := #[.slice acode code.length ccode]) (w_spec_l01From h code acode ccode rcode _ _ hx1) (by kernel_rfl) (fun v1 h1 hp1 => ?_)
  obtain ⟨b1, a1, c1, rfl, hd1, H1⟩ := hp1
  have H2 : Hold h h1 [box b1 143 [.slice a1 x1.code.length c1, .int .i64 x1.at_, .int .i64 x1.seed]] := H0.call H1 rfl
  have r1 := rcode.alias hd1
  refine Run_b [.pointer (some ⟨b1, 0, none⟩)] 2 _ (by kernel_rfl) (fun w => by kernel_rfl) ?_
  refine Run_nil (by kernel_rfl) ?_
  refine Run_keep [4] (L' := [(4, .pointer (some ⟨b1, 0, none⟩))]) (by kernel_rfl) ?_
  refine Run_seq ?_
  refine Run_ops ?_
  refine Run_b [.pointer (some ⟨b1, 0, none⟩)] 0 _ (by kernel_rfl) (fun w => by kernel_rfl) ?_
  obtain ⟨x2, hx2, hF⟩ := M.bind_some hF
  have H3 : Hold h h1 [box b1 143 [.slice a1 x1.code.length c1, .int .i64 x1.at_, .int .i64 x1.seed], bun []] := Hold.bundle (S := [box b1 143 [.slice a1 x1.code.length c1, .int .i64 x1.at_, .int .i64 x1.seed]]) (R := []) H2
  refine Run_E (by kernel_rfl) ?_
  refine E_call (f := 115) (args := #[.pointer (some ⟨b1, 0, none⟩)]) (w_spec_l09Draw h h1 _ x1 b1 a1 c1 r1 H3 _ _ hx2) (by kernel_rfl) (fun v2 h2 hp2 => ?_)
  obtain ⟨a2, c2, rfl, H4⟩ := hp2
  have H5 : Hold h h2 [own cd2 a2 x2.1.length c2 x2.1, box b1 143 [.slice a1 x1.code.length c1, .int .i64 x2.2.at_, .int .i64 x2.2.seed]] := Hold.unbundle (S := [own cd2 a2 x2.1.length c2 x2.1, box b1 143 [.slice a1 x1.code.length c1, .int .i64 x2.2.at_, .int .i64 x2.2.seed]]) (R := []) H4 (Hold.tailBase (S := [box b1 143 [.slice a1 x1.code.length c1, .int .i64 x1.at_, .int .i64 x1.seed]]) (R := []) H2)
  refine Run_b [.pointer (some ⟨b1, 0, none⟩)] 2 _ (by kernel_rfl) (fun w => by kernel_rfl) ?_
  obtain ⟨x3, hx3, hF⟩ := M.bind_some hF
  have H6 : Hold h h2 [box b1 143 [.slice a1 x1.code.length c1, .int .i64 x2.2.at_, .int .i64 x2.2.seed], own cd2 a2 x2.1.length c2 x2.1] := H5.pick [1, 0] (by kernel_rfl)
  have H7 : Hold h h2 [box b1 143 [.slice a1 x1.code.length c1, .int .i64 x2.2.at_, .int .i64 x2.2.seed], bun [own cd2 a2 x2.1.length c2 x2.1]] := Hold.bundle (S := [box b1 143 [.slice a1 x1.code.length c1, .int .i64 x2.2.at_, .int .i64 x2.2.seed]]) (R := [own cd2 a2 x2.1.length c2 x2.1]) H6
  refine Run_E (by kernel_rfl) ?_
  refine E_call (f := 116) (args := #[.pointer (some ⟨b1, 0, none⟩)]) (w_spec_l01DrawValue h h2 _ (⟨x1.code, x2.2.at_, x2.2.seed⟩ : TL01source) b1 a1 c1 r1 H7 _ _ hx3) (by kernel_rfl) (fun v3 h3 hp3 => ?_)
  obtain ⟨rfl, H8⟩ := hp3
  have H9 : Hold h h3 [box b1 143 [.slice a1 x1.code.length c1, .int .i64 x3.2.at_, .int .i64 x3.2.seed], own cd2 a2 x2.1.length c2 x2.1] := Hold.unbundle (S := [box b1 143 [.slice a1 x1.code.length c1, .int .i64 x3.2.at_, .int .i64 x3.2.seed]]) (R := [own cd2 a2 x2.1.length c2 x2.1]) H8 (Hold.tailBase (S := [box b1 143 [.slice a1 x1.code.length c1, .int .i64 x2.2.at_, .int .i64 x2.2.seed]]) (R := [own cd2 a2 x2.1.length c2 x2.1]) H6)
  refine Run_b [.slice a2 x2.1.length c2, .int .i64 x3.1] 4 _ (by kernel_rfl) (fun w => by kernel_rfl) ?_
  refine Run_nil (by kernel_rfl) ?_
  refine Run_keep [2, 3] (L' := [(2, .slice a2 x2.1.length c2), (3, .int .i64 x3.1)]) (by kernel_rfl) ?_
  have hF := M.ret_some hF
  subst hF
  have H10 : Hold h h3 [own cd2 a2 x2.1.length c2 x2.1, box b1 143 [.slice a1 x1.code.length c1, .int .i64 x3.2.at_, .int .i64 x3.2.seed]] := H9.pick [1, 0] (by kernel_rfl)
  have H11 : Hold h h3 [own cd2 a2 x2.1.length c2 x2.1] := H10.pick [0] (by kernel_rfl)
  exact Run_ret2 rfl (ResV_tmp (v := .slice a2 x2.1.length c2) (by kernel_rfl)) (ResV_tmp (v := .int .i64 x3.1) (by kernel_rfl)) ⟨a2, c2, rfl, H11⟩

set_option maxRecDepth 100000 in
set_option maxHeartbeats 4000000 in
theorem w_impl_checkedValue (h : Heap) (n_ : Int) (n : Nat) (r : Int × Int) (hF : impl_checkedValue n_ n = some r) :
    Fn Try.prog 118 #[.int .i64 n_] h fun v h' => v = .tuple #[.int .i64 r.1, .int .i64 r.2] ∧ h' = h := by
  unfold impl_checkedValue at hF
  refine Fn_enter (args := [.int .i64 n_]) Try.func118 rfl (by kernel_rfl) (by kernel_rfl) (fun w0 _ => ?_)
  refine Run_seq ?_
  refine Run_reg 2 (by kernel_rfl) (L' := [(0, .int .i64 n_)]) ?_ ?_
  · refine QRun_b [.int .i64 0, .int .i64 0] 0 _ (by kernel_rfl) (fun w => by kernel_rfl) ?_
    exact QRun_done [0] (by kernel_rfl) (by kernel_rfl)
  refine Run_seq ?_
  refine Run_seq ?_
  obtain ⟨x1, hx1, hF⟩ := M.bind_some hF
  refine Run_reg 3 (by kernel_rfl) (L' := [(0, .int .i64 n_), (6, .bool (!x1))]) ?_ ?_
  · refine QRun_b [.int .i64 n_] 0 _ (by kernel_rfl) (fun w => by kernel_rfl) ?_
    refine QRun_y (.bool x1) (by kernel_rfl) (Y_callq (f := 117) (args := #[.int .i64 n_]) (v := .bool x1) (by kernel_rfl) (w_impl_IsValue h n_ _ _ hx1)) ?_
    refine QRun_b [.bool (!x1)] 2 _ (by kernel_rfl) (fun w => by kernel_rfl) ?_
    exact QRun_done [0, 6] (by kernel_rfl) (by kernel_rfl)
  refine Run_cond (b := !x1) (by kernel_rfl) (fun hb1 => ?_) (fun hb1 => ?_)
  · have hF := (M.ite_some hF).1 hb1
    refine Run_seq ?_
    refine Run_reg 2 (by kernel_rfl) (L' := [(2, .int .i64 0), (3, .int .i64 3)]) ?_ ?_
    · refine QRun_b [.int .i64 0, .int .i64 3] 0 _ (by kernel_rfl) (fun w => by kernel_rfl) ?_
      exact QRun_done [2, 3] (by kernel_rfl) (by kernel_rfl)
    have hF := M.ret_some hF
    subst hF
    exact Run_ret2 rfl (ResV_tmp (v := .int .i64 0) (by kernel_rfl)) (ResV_tmp (v := .int .i64 3) (by kernel_rfl)) ⟨rfl, rfl⟩
  · have hF := (M.ite_some hF).2 hb1
    refine Run_skip ?_
    refine Run_seq ?_
    refine Run_reg 3 (by kernel_rfl) (L' := [(2, .int .i64 n_), (3, .int .i64 0)]) ?_ ?_
    · refine QRun_b [.int .i64 n_, .int .i64 n_, .int .i64 0] 0 _ (by kernel_rfl) (fun w => by kernel_rfl) ?_
      exact QRun_done [2, 3] (by kernel_rfl) (by kernel_rfl)
    have hF := M.ret_some hF
    subst hF
    exact Run_ret2 rfl (ResV_tmp (v := .int .i64 n_) (by kernel_rfl)) (ResV_tmp (v := .int .i64 0) (by kernel_rfl)) ⟨rfl, rfl⟩

set_option maxRecDepth 100000 in
set_option maxHeartbeats 4000000 in
theorem w_impl_EvaluatePolynomial (h : Heap) (c_ : List Int) {Sc_ : Bs} (ac_ : Option Addr) (cc_ : Nat) (rc_ : Rd cd2 h Sc_ ac_ cc_ c_) (x_ : Int) (n : Nat) (r : Int × Int) (hF : impl_EvaluatePolynomial c_ x_ n = some r) :
    Fn Try.prog 60 #[.slice ac_ c_.length cc_, .int .i64 x_] h fun v h' => v = .tuple #[.int .i64 r.1, .int .i64 r.2] ∧ h' = h := by
  unfold impl_EvaluatePolynomial at hF
  refine Fn_enter (args := [.slice ac_ c_.length cc_, .int .i64 x_]) Try.func60 rfl (by kernel_rfl) (by kernel_rfl) (fun w0 _ => ?_)
  refine Run_seq ?_
  refine Run_reg 2 (by kernel_rfl) (L' := [(0, .slice ac_ c_.length cc_), (1, .int .i64 x_)]) ?_ ?_
  · refine QRun_b [.int .i64 0, .int .i64 0] 0 _ (by kernel_rfl) (fun w => by kernel_rfl) ?_
    exact QRun_done [0, 1] (by kernel_rfl) (by kernel_rfl)
  refine Run_seq ?_
  refine Run_seq ?_
  obtain ⟨x1, hx1, hF⟩ := M.bind_some hF
  refine Run_reg 3 (by kernel_rfl) (L' := [(0, .slice ac_ c_.length cc_), (1, .int .i64 x_), (12, .bool (!x1))]) ?_ ?_
  · refine QRun_b [.slice ac_ c_.length cc_] 0 _ (by kernel_rfl) (fun w => by kernel_rfl) ?_
    refine QRun_y (.bool x1) (by kernel_rfl) (Y_callq (f := 62) (args := #[.slice ac_ c_.length cc_]) (v := .bool x1) (by kernel_rfl) (w_impl_IsPolynomial h c_ ac_ cc_ rc_ _ _ hx1)) ?_
    refine QRun_b [.bool (!x1)] 2 _ (by kernel_rfl) (fun w => by kernel_rfl) ?_
    exact QRun_done [0, 1, 12] (by kernel_rfl) (by kernel_rfl)
  refine Run_cond (b := !x1) (by kernel_rfl) (fun hb1 => ?_) (fun hb1 => ?_)
  · have hF := (M.ite_some hF).1 hb1
    refine Run_seq ?_
    refine Run_reg 2 (by kernel_rfl) (L' := [(4, .int .i64 0), (5, .int .i64 1)]) ?_ ?_
    · refine QRun_b [.int .i64 0, .int .i64 1] 0 _ (by kernel_rfl) (fun w => by kernel_rfl) ?_
      exact QRun_done [4, 5] (by kernel_rfl) (by kernel_rfl)
    have hF := M.ret_some hF
    subst hF
    exact Run_ret2 rfl (ResV_tmp (v := .int .i64 0) (by kernel_rfl)) (ResV_tmp (v := .int .i64 1) (by kernel_rfl)) ⟨rfl, rfl⟩
  · have hF := (M.ite_some hF).2 hb1
    refine Run_skip ?_
    refine Run_seq ?_
    refine Run_seq ?_
    obtain ⟨x2, hx2, hF⟩ := M.bind_some hF
    refine Run_reg 3 (by kernel_rfl) (L' := [(0, .slice ac_ c_.length cc_), (1, .int .i64 x_), (15, .bool (!x2))]) ?_ ?_
    · refine QRun_b [.int .i64 x_] 0 _ (by kernel_rfl) (fun w => by kernel_rfl) ?_
      refine QRun_y (.bool x2) (by kernel_rfl) (Y_callq (f := 117) (args := #[.int .i64 x_]) (v := .bool x2) (by kernel_rfl) (w_impl_IsValue h x_ _ _ hx2)) ?_
      refine QRun_b [.bool (!x2)] 2 _ (by kernel_rfl) (fun w => by kernel_rfl) ?_
      exact QRun_done [0, 1, 15] (by kernel_rfl) (by kernel_rfl)
    refine Run_cond (b := !x2) (by kernel_rfl) (fun hb2 => ?_) (fun hb2 => ?_)
    · have hF := (M.ite_some hF).1 hb2
      refine Run_seq ?_
      refine Run_reg 2 (by kernel_rfl) (L' := [(4, .int .i64 0), (5, .int .i64 2)]) ?_ ?_
      · refine QRun_b [.int .i64 0, .int .i64 2] 0 _ (by kernel_rfl) (fun w => by kernel_rfl) ?_
        exact QRun_done [4, 5] (by kernel_rfl) (by kernel_rfl)
      have hF := M.ret_some hF
      subst hF
      exact Run_ret2 rfl (ResV_tmp (v := .int .i64 0) (by kernel_rfl)) (ResV_tmp (v := .int .i64 2) (by kernel_rfl)) ⟨rfl, rfl⟩
    · have hF := (M.ite_some hF).2 hb2
      refine Run_skip ?_
      refine Run_seq ?_
      refine Run_reg 1 (by kernel_rfl) (L' := [(0, .slice ac_ c_.length cc_), (1, .int .i64 x_), (6, .int .i64 (-1000000000000000))]) ?_ ?_
      · refine QRun_b [.int .i64 (-1000000000000000)] 0 _ (by kernel_rfl) (fun w => by kernel_rfl) ?_
        exact QRun_done [0, 1, 6] (by kernel_rfl) (by kernel_rfl)
      refine Run_seq ?_
      refine Run_seq ?_
      refine Run_reg 3 (by kernel_rfl) (L' := [(1, .int .i64 x_), (6, .int .i64 (-1000000000000000)), (16, .slice ac_ c_.length cc_), (17, .int .i64 (c_.length : Int)), (18, .int .i64 0)]) ?_ ?_
      · refine QRun_b [.slice ac_ c_.length cc_, .int .i64 (c_.length : Int), .int .i64 0] 0 _ (by kernel_rfl) (fun w => by kernel_rfl) ?_
        exact QRun_done [1, 6, 16, 17, 18] (by kernel_rfl) (by kernel_rfl)
      obtain ⟨x3, gx3, hF⟩ := M.bind_some hF
      obtain ⟨hloy1, hhiy1, gx3⟩ := M.for_start gx3
      refine Run_join (fun L' h' => L' = [(6, .int .i64 x3)] ∧ h = h') ?_ ?_
      · rintro _ _ ⟨rfl, rfl⟩
        refine Run_seq ?_
        obtain ⟨x6, hx5, hF⟩ := M.bind_some hF
        refine Run_reg 6 (by kernel_rfl) (L' := [(4, .int .i64 x6.1), (5, .int .i64 x6.2)]) ?_ ?_
        · refine QRun_b [.int .i64 x3] 0 _ (by kernel_rfl) (fun w => by kernel_rfl) ?_
          refine QRun_y (.tuple #[.int .i64 x6.1, .int .i64 x6.2]) (by kernel_rfl) (Y_callq (f := 118) (args := #[.int .i64 x3]) (v := .tuple #[.int .i64 x6.1, .int .i64 x6.2]) (by kernel_rfl) (w_impl_checkedValue h x3 _ _ hx5)) ?_
          refine QRun_b [.int .i64 x6.1, .int .i64 x6.2, .int .i64 x6.1, .int .i64 x6.2] 2 _ (by kernel_rfl) (fun w => by kernel_rfl) ?_
          exact QRun_done [4, 5] (by kernel_rfl) (by kernel_rfl)
        have hF := M.ret_some hF
        subst hF
        exact Run_ret2 rfl (ResV_tmp (v := .int .i64 x6.1) (by kernel_rfl)) (ResV_tmp (v := .int .i64 x6.2) (by kernel_rfl)) ⟨rfl, rfl⟩
      · refine Run_block ?_
        refine Run_keep [1, 6, 16, 17, 18] (L' := [(1, .int .i64 x_), (6, .int .i64 (-1000000000000000)), (16, .slice ac_ c_.length cc_), (17, .int .i64 (c_.length : Int)), (18, .int .i64 0)]) (by kernel_rfl) ?_
        refine Run_loop (fun m L' h' => ∃ (i1 : Int) (s1 : Int), 0 ≤ i1 ∧ M.forN (c_.length : Int) _ _ n m i1 s1 = some x3 ∧ L' = [(1, .int .i64 x_), (6, .int .i64 s1), (16, .slice ac_ c_.length cc_), (17, .int .i64 (c_.length : Int)), (18, .int .i64 i1)] ∧ h = h') ((c_.length : Int) - 0).toNat ⟨0, (-1000000000000000), Int.le_refl _, gx3, rfl, rfl⟩ ?_
        rintro my1 _ _ ⟨i1, s1, hloy1', gx3, rfl, rfl⟩
        refine Run_seq ?_
        refine Run_reg 1 (by kernel_rfl) (L' := [(1, .int .i64 x_), (6, .int .i64 s1), (16, .slice ac_ c_.length cc_), (17, .int .i64 (c_.length : Int)), (18, .int .i64 i1), (19, .bool (decide (i1 < (c_.length : Int))))]) ?_ ?_
        · refine QRun_b [.bool (decide (i1 < (c_.length : Int)))] 0 _ (by kernel_rfl) (fun w => by kernel_rfl) ?_
          exact QRun_done [1, 6, 16, 17, 18, 19] (by kernel_rfl) (by kernel_rfl)
        refine Run_seq ?_
        refine Run_cond (b := decide (i1 < (c_.length : Int))) (by kernel_rfl) (fun hb3 => ?_) (fun hb3 => ?_)
        · obtain ⟨my1, y1, rfl, hB1, hgoy1, houty1⟩ := M.for_go gx3 hb3
          have hlty1 := of_decide_eq_true hb3
          refine Run_skip ?_
          refine Run_seq ?_
          refine Run_block ?_
          refine Run_seq ?_
          obtain ⟨x4, hx3, hB1⟩ := M.bind_some hB1
          obtain ⟨hx3l, hx3u, hx3⟩ := M.idx_some hx3
          refine Run_reg 5 (by kernel_rfl) (L' := [(1, .int .i64 x_), (6, .int .i64 s1), (7, .int .i64 i1), (8, .int .i64 x4), (16, .slice ac_ c_.length cc_), (17, .int .i64 (c_.length : Int)), (18, .int .i64 i1)]) ?_ ?_
          · refine QRun_b [.int .i64 i1] 0 _ (by kernel_rfl) (fun w => by kernel_rfl) ?_
            refine QRun_y (.pointer (some (adr ac_ (i1.toNat * 1)))) (by kernel_rfl) (Y_idx (t := 41) (e := 2) (sz := 1) (a := ac_) (n := c_.length) (cap := cc_) (kk := .i64) (i := i1) (by kernel_rfl) Try.underlying41 (by kernel_rfl) (rc_.cell hx3).1 hx3l hx3u) ?_
            refine QRun_y (.int .i64 x4) (by kernel_rfl) (Y_load1 (t := 2) (p := adr ac_ (i1.toNat * 1)) (v := .int .i64 x4) (by kernel_rfl) (fun w => by kernel_rfl) (cd2_cell rc_ hx3)) ?_
            refine QRun_b [.int .i64 i1, .int .i64 x4] 3 _ (by kernel_rfl) (fun w => by kernel_rfl) ?_
            exact QRun_done [1, 6, 7, 8, 16, 17, 18] (by kernel_rfl) (by kernel_rfl)
          refine Run_seq ?_
          refine Run_reg 1 (by kernel_rfl) (L' := [(1, .int .i64 x_), (6, .int .i64 s1), (7, .int .i64 i1), (8, .int .i64 x4), (9, .int .i64 0), (16, .slice ac_ c_.length cc_), (17, .int .i64 (c_.length : Int)), (18, .int .i64 i1)]) ?_ ?_
          · refine QRun_b [.int .i64 0] 0 _ (by kernel_rfl) (fun w => by kernel_rfl) ?_
            exact QRun_done [1, 6, 7, 8, 9, 16, 17, 18] (by kernel_rfl) (by kernel_rfl)
          refine Run_seq ?_
          refine Run_seq ?_
          refine Run_reg 2 (by kernel_rfl) (L' := [(1, .int .i64 x_), (6, .int .i64 s1), (7, .int .i64 i1), (8, .int .i64 x4), (9, .int .i64 0), (16, .slice ac_ c_.length cc_), (17, .int .i64 (c_.length : Int)), (18, .int .i64 i1), (24, .bool (decide (0 < i1)))]) ?_ ?_
          · refine QRun_b [.int .i64 i1, .bool (decide (0 < i1))] 0 _ (by kernel_rfl) (fun w => by kernel_rfl) ?_
            exact QRun_done [1, 6, 7, 8, 9, 16, 17, 18, 24] (by kernel_rfl) (by kernel_rfl)
          obtain ⟨s2, gs2, hB1⟩ := M.bind_some hB1
          refine Run_join (fun L' h' => L' = [(1, .int .i64 x_), (6, .int .i64 s1), (8, .int .i64 x4), (9, .int .i64 s2), (16, .slice ac_ c_.length cc_), (17, .int .i64 (c_.length : Int)), (18, .int .i64 i1)] ∧ h = h') ?_ ?_
          · rintro _ _ ⟨rfl, rfl⟩
            obtain ⟨x5, hx4, hB1⟩ := M.bind_some hB1
            refine Run_reg 6 (by kernel_rfl) (L' := [(1, .int .i64 x_), (6, .int .i64 (mx s1 x5)), (16, .slice ac_ c_.length cc_), (17, .int .i64 (c_.length : Int)), (18, .int .i64 i1)]) ?_ ?_
            · refine QRun_b [.int .i64 s1, .int .i64 x4, .int .i64 s2] 0 _ (by kernel_rfl) (fun w => by kernel_rfl) ?_
              refine QRun_y (.int .i64 x5) (by kernel_rfl) (Y_callq (f := 111) (args := #[.int .i64 x4, .int .i64 s2]) (v := .int .i64 x5) (by kernel_rfl) (w_impl_times h x4 s2 _ _ hx4)) ?_
              refine QRun_b [.int .i64 (mx s1 x5), .int .i64 (mx s1 x5)] 4 _ (by kernel_rfl) (fun w => by kernel_rfl) ?_
              exact QRun_done [1, 6, 16, 17, 18] (by kernel_rfl) (by kernel_rfl)
            refine Run_blk ?_
            refine Run_reg 2 (by kernel_rfl) (L' := [(1, .int .i64 x_), (6, .int .i64 (mx s1 x5)), (16, .slice ac_ c_.length cc_), (17, .int .i64 (c_.length : Int)), (18, .int .i64 (i1 + 1))]) ?_ ?_
            · refine QRun_y (.int .i64 (i1 + 1)) (by kernel_rfl) (Y_eq (v := .int .i64 (w64 (i1 + 1))) (Y_pure (fun w => by kernel_rfl)) (by rw [w64_eq _ (by omega)])) ?_
              refine QRun_b [.int .i64 (i1 + 1)] 1 _ (by kernel_rfl) (fun w => by kernel_rfl) ?_
              exact QRun_done [1, 6, 16, 17, 18] (by kernel_rfl) (by kernel_rfl)
            have hB1 := M.ret_some hB1
            have gx3 := hgoy1 _ hB1.symm
            exact Run_again [1, 6, 16, 17, 18] (by kernel_rfl) my1 (Nat.lt_succ_self _) ⟨i1 + 1, (mx s1 x5), by omega, gx3, rfl, rfl⟩
          · refine Run_cond (b := decide (0 < i1)) (by kernel_rfl) (fun hb4 => ?_) (fun hb4 => ?_)
            · have gs2 := (M.ite_some gs2).1 hb4
              refine Run_seq ?_
              refine Run_reg 1 (by kernel_rfl) (L' := [(1, .int .i64 x_), (6, .int .i64 s1), (7, .int .i64 i1), (8, .int .i64 x4), (9, .int .i64 (-1000000000000000)), (16, .slice ac_ c_.length cc_), (17, .int .i64 (c_.length : Int)), (18, .int .i64 i1)]) ?_ ?_
              · refine QRun_b [.int .i64 (-1000000000000000)] 0 _ (by kernel_rfl) (fun w => by kernel_rfl) ?_
                exact QRun_done [1, 6, 7, 8, 9, 16, 17, 18] (by kernel_rfl) (by kernel_rfl)
              refine Run_seq ?_
              refine Run_reg 2 (by kernel_rfl) (L' := [(1, .int .i64 x_), (6, .int .i64 s1), (7, .int .i64 i1), (8, .int .i64 x4), (9, .int .i64 (-1000000000000000)), (16, .slice ac_ c_.length cc_), (17, .int .i64 (c_.length : Int)), (18, .int .i64 i1), (26, .bool (x_ != (-1000000000000000)))]) ?_ ?_
              · refine QRun_b [.int .i64 x_, .bool (x_ != (-1000000000000000))] 0 _ (by kernel_rfl) (fun w => by kernel_rfl) ?_
                exact QRun_done [1, 6, 7, 8, 9, 16, 17, 18, 26] (by kernel_rfl) (by kernel_rfl)
              refine Run_cond (b := x_ != (-1000000000000000)) (by kernel_rfl) (fun hb5 => ?_) (fun hb5 => ?_)
              · have gs2 := (M.ite_some gs2).1 hb5
                refine Run_reg 4 (by kernel_rfl) (L' := [(1, .int .i64 x_), (6, .int .i64 s1), (8, .int .i64 x4), (9, .int .i64 (w64 (i1 * x_))), (16, .slice ac_ c_.length cc_), (17, .int .i64 (c_.length : Int)), (18, .int .i64 i1)]) ?_ ?_
                · refine QRun_b [.int .i64 i1, .int .i64 x_, .int .i64 (w64 (i1 * x_)), .int .i64 (w64 (i1 * x_))] 0 _ (by kernel_rfl) (fun w => by kernel_rfl) ?_
                  exact QRun_done [1, 6, 8, 9, 16, 17, 18] (by kernel_rfl) (by kernel_rfl)
                have gs2 := M.ret_some gs2
                subst gs2
                exact Run_fall [1, 6, 8, 9, 16, 17, 18] (by kernel_rfl) ⟨rfl, rfl⟩
              · have gs2 := (M.ite_some gs2).2 hb5
                refine Run_skip ?_
                have gs2 := M.ret_some gs2
                subst gs2
                exact Run_fall [1, 6, 8, 9, 16, 17, 18] (by kernel_rfl) ⟨rfl, rfl⟩
            · have gs2 := (M.ite_some gs2).2 hb4
              refine Run_skip ?_
              have gs2 := M.ret_some gs2
              subst gs2
              exact Run_fall [1, 6, 8, 9, 16, 17, 18] (by kernel_rfl) ⟨rfl, rfl⟩
        · have gx3 := M.for_end gx3 hb3
          subst gx3
          refine Run_exit (k' := _) rfl ?_
          exact Run_fall [6] (by kernel_rfl) ⟨rfl, rfl⟩

set_option maxRecDepth 100000 in
set_option maxHeartbeats 4000000 in
theorem w_spec_l01Value (h : Heap) (a_ : Int) (n : Nat) (r : Int × Int) (hF : spec_l01Value a_ n = some r) :
    Fn Try.prog 120 #[.int .i64 a_] h fun v h' => v = .tuple #[.int .i64 r.1, .int .i64 r.2] ∧ h' = h := by
  unfold spec_l01Value at hF
  refine Fn_enter (args := [.int .i64 a_]) Try.func120 rfl (by kernel_rfl) (by kernel_rfl) (fun w0 _ => ?_)
  refine Run_seq ?_
  refine Run_reg 2 (by kernel_rfl) (L' := [(0, .int .i64 a_)]) ?_ ?_
  · refine QRun_b [.int .i64 0, .int .i64 0] 0 _ (by kernel_rfl) (fun w => by kernel_rfl) ?_
    exact QRun_done [0] (by kernel_rfl) (by kernel_rfl)
  refine Run_seq ?_
  refine Run_seq ?_
  obtain ⟨x1, hx1, hF⟩ := M.bind_some hF
  refine Run_reg 3 (by kernel_rfl) (L' := [(0, .int .i64 a_), (6, .bool (!x1))]) ?_ ?_
  · refine QRun_b [.int .i64 a_] 0 _ (by kernel_rfl) (fun w => by kernel_rfl) ?_
    refine QRun_y (.bool x1) (by kernel_rfl) (Y_callq (f := 119) (args := #[.int .i64 a_]) (v := .bool x1) (by kernel_rfl) (w_spec_IsValue h a_ _ _ hx1)) ?_
    refine QRun_b [.bool (!x1)] 2 _ (by kernel_rfl) (fun w => by kernel_rfl) ?_
    exact QRun_done [0, 6] (by kernel_rfl) (by kernel_rfl)
  refine Run_cond (b := !x1) (by kernel_rfl) (fun hb1 => ?_) (fun hb1 => ?_)
  · have hF := (M.ite_some hF).1 hb1
    refine Run_seq ?_
    refine Run_reg 2 (by kernel_rfl) (L' := [(2, .int .i64 0), (3, .int .i64 3)]) ?_ ?_
    · refine QRun_b [.int .i64 0, .int .i64 3] 0 _ (by kernel_rfl) (fun w => by kernel_rfl) ?_
      exact QRun_done [2, 3] (by kernel_rfl) (by kernel_rfl)
    have hF := M.ret_some hF
    subst hF
    exact Run_ret2 rfl (ResV_tmp (v := .int .i64 0) (by kernel_rfl)) (ResV_tmp (v := .int .i64 3) (by kernel_rfl)) ⟨rfl, rfl⟩
  · have hF := (M.ite_some hF).2 hb1
    refine Run_skip ?_
    refine Run_seq ?_
    refine Run_reg 3 (by kernel_rfl) (L' := [(2, .int .i64 a_), (3, .int .i64 0)]) ?_ ?_
    · refine QRun_b [.int .i64 a_, .int .i64 a_, .int .i64 0] 0 _ (by kernel_rfl) (fun w => by kernel_rfl) ?_
      exact QRun_done [2, 3] (by kernel_rfl) (by kernel_rfl)
    have hF := M.ret_some hF
    subst hF
    exact Run_ret2 rfl (ResV_tmp (v := .int .i64 a_) (by kernel_rfl)) (ResV_tmp (v := .int .i64 0) (by kernel_rfl)) ⟨rfl, rfl⟩

set_option maxRecDepth 100000 in
set_option maxHeartbeats 4000000 in
theorem w_spec_EvaluatePolynomial (h : Heap) (c_ : List Int) {Sc_ : Bs} (ac_ : Option Addr) (cc_ : Nat) (rc_ : Rd cd2 h Sc_ ac_ cc_ c_) (x_ : Int) (n : Nat) (r : Int × Int) (hF : spec_EvaluatePolynomial c_ x_ n = some r) :
    Fn Try.prog 61 #[.slice ac_ c_.length cc_, .int .i64 x_] h fun v h' => v = .tuple #[.int .i64 r.1, .int .i64 r.2] ∧ h' = h := by
  unfold spec_EvaluatePolynomial at hF
  refine Fn_enter (args := [.slice ac_ c_.length cc_, .int .i64 x_]) Try.func61 rfl (by kernel_rfl) (by kernel_rfl) (fun w0 _ => ?_)
  refine Run_seq ?_
  refine Run_reg 2 (by kernel_rfl) (L' := [(0, .slice ac_ c_.length cc_), (1, .int .i64 x_)]) ?_ ?_
  · refine QRun_b [.int .i64 0, .int .i64 0] 0 _ (by kernel_rfl) (fun w => by kernel_rfl) ?_
    exact QRun_done [0, 1] (by kernel_rfl) (by kernel_rfl)
  refine Run_seq ?_
  refine Run_block ?_
  refine Run_seq ?_
  obtain ⟨x1, hx1, hF⟩ := M.bind_some hF
  refine Run_reg 4 (by kernel_rfl) (L' := [(0, .slice ac_ c_.length cc_), (1, .int .i64 x_), (8, .bool (!x1))]) ?_ ?_
  · refine QRun_b [.slice ac_ c_.length cc_] 0 _ (by kernel_rfl) (fun w => by kernel_rfl) ?_
    refine QRun_y (.bool x1) (by kernel_rfl) (Y_callq (f := 63) (args := #[.slice ac_ c_.length cc_]) (v := .bool x1) (by kernel_rfl) (w_spec_IsPolynomial h c_ ac_ cc_ rc_ _ _ hx1)) ?_
    refine QRun_b [.bool (!x1), .bool (!x1)] 2 _ (by kernel_rfl) (fun w => by kernel_rfl) ?_
    exact QRun_done [0, 1, 8] (by kernel_rfl) (by kernel_rfl)
  refine Run_cond (b := !x1) (by kernel_rfl) (fun hb1 => ?_) (fun hb1 => ?_)
  · have hF := (M.ite_some hF).1 hb1
    refine Run_seq ?_
    refine Run_reg 2 (by kernel_rfl) (L' := [(4, .int .i64 0), (5, .int .i64 1)]) ?_ ?_
    · refine QRun_b [.int .i64 0, .int .i64 1] 0 _ (by kernel_rfl) (fun w => by kernel_rfl) ?_
      exact QRun_done [4, 5] (by kernel_rfl) (by kernel_rfl)
    have hF := M.ret_some hF
    subst hF
    exact Run_ret2 rfl (ResV_tmp (v := .int .i64 0) (by kernel_rfl)) (ResV_tmp (v := .int .i64 1) (by kernel_rfl)) ⟨rfl, rfl⟩
  · have hF := (M.ite_some hF).2 hb1
    refine Run_seq ?_
    obtain ⟨x2, hx2, hF⟩ := M.bind_some hF
    refine Run_reg 4 (by kernel_rfl) (L' := [(0, .slice ac_ c_.length cc_), (1, .int .i64 x_), (12, .bool (!x2))]) ?_ ?_
    · refine QRun_b [.int .i64 x_] 0 _ (by kernel_rfl) (fun w => by kernel_rfl) ?_
      refine QRun_y (.bool x2) (by kernel_rfl) (Y_callq (f := 119) (args := #[.int .i64 x_]) (v := .bool x2) (by kernel_rfl) (w_spec_IsValue h x_ _ _ hx2)) ?_
      refine QRun_b [.bool (!x2), .bool (!x2)] 2 _ (by kernel_rfl) (fun w => by kernel_rfl) ?_
      exact QRun_done [0, 1, 12] (by kernel_rfl) (by kernel_rfl)
    refine Run_cond (b := !x2) (by kernel_rfl) (fun hb2 => ?_) (fun hb2 => ?_)
    · have hF := (M.ite_some hF).1 hb2
      refine Run_seq ?_
      refine Run_reg 2 (by kernel_rfl) (L' := [(4, .int .i64 0), (5, .int .i64 2)]) ?_ ?_
      · refine QRun_b [.int .i64 0, .int .i64 2] 0 _ (by kernel_rfl) (fun w => by kernel_rfl) ?_
        exact QRun_done [4, 5] (by kernel_rfl) (by kernel_rfl)
      have hF := M.ret_some hF
      subst hF
      exact Run_ret2 rfl (ResV_tmp (v := .int .i64 0) (by kernel_rfl)) (ResV_tmp (v := .int .i64 2) (by kernel_rfl)) ⟨rfl, rfl⟩
    · have hF := (M.ite_some hF).2 hb2
      refine Run_seq ?_
      refine Run_reg 3 (by kernel_rfl) (L' := [(0, .slice ac_ c_.length cc_), (1, .int .i64 x_), (16, .bool (x_ == (-1000000000000000)))]) ?_ ?_
      · refine QRun_b [.int .i64 x_, .bool (x_ == (-1000000000000000)), .bool (x_ == (-1000000000000000))] 0 _ (by kernel_rfl) (fun w => by kernel_rfl) ?_
        exact QRun_done [0, 1, 16] (by kernel_rfl) (by kernel_rfl)
      refine Run_cond (b := x_ == (-1000000000000000)) (by kernel_rfl) (fun hb3 => ?_) (fun hb3 => ?_)
      · have hF := (M.ite_some hF).1 hb3
        refine Run_seq ?_
        obtain ⟨x3, hx3, hF⟩ := M.bind_some hF
        obtain ⟨hx3l, hx3u, hx3⟩ := M.idx_some hx3
        refine Run_reg 5 (by kernel_rfl) (L' := [(4, .int .i64 x3), (5, .int .i64 0)]) ?_ ?_
        · refine QRun_b [.slice ac_ c_.length cc_] 0 _ (by kernel_rfl) (fun w => by kernel_rfl) ?_
          refine QRun_y (.pointer (some (adr ac_ (0 * 1)))) (by kernel_rfl) (Y_idx (t := 41) (e := 2) (sz := 1) (a := ac_) (n := c_.length) (cap := cc_) (kk := .i64) (i := 0) (by kernel_rfl) Try.underlying41 (by kernel_rfl) (rc_.cell hx3).1 hx3l hx3u) ?_
          refine QRun_y (.int .i64 x3) (by kernel_rfl) (Y_load1 (t := 2) (p := adr ac_ (0 * 1)) (v := .int .i64 x3) (by kernel_rfl) (fun w => by kernel_rfl) (cd2_cell rc_ hx3)) ?_
          refine QRun_b [.int .i64 x3, .int .i64 0] 3 _ (by kernel_rfl) (fun w => by kernel_rfl) ?_
          exact QRun_done [4, 5] (by kernel_rfl) (by kernel_rfl)
        have hF := M.ret_some hF
        subst hF
        exact Run_ret2 rfl (ResV_tmp (v := .int .i64 x3) (by kernel_rfl)) (ResV_tmp (v := .int .i64 0) (by kernel_rfl)) ⟨rfl, rfl⟩
      · have hF := (M.ite_some hF).2 hb3
        refine Run_skip ?_
        refine Run_blk ?_
        refine Run_seq ?_
        refine Run_reg 1 (by kernel_rfl) (L' := [(0, .slice ac_ c_.length cc_), (1, .int .i64 x_), (6, .int .i64 (-1000000000000000))]) ?_ ?_
        · refine QRun_b [.int .i64 (-1000000000000000)] 0 _ (by kernel_rfl) (fun w => by kernel_rfl) ?_
          exact QRun_done [0, 1, 6] (by kernel_rfl) (by kernel_rfl)
        refine Run_seq ?_
        refine Run_seq ?_
        refine Run_reg 1 (by kernel_rfl) (L' := [(0, .slice ac_ c_.length cc_), (1, .int .i64 x_), (6, .int .i64 (-1000000000000000)), (7, .int .i64 0)]) ?_ ?_
        · refine QRun_b [.int .i64 0] 0 _ (by kernel_rfl) (fun w => by kernel_rfl) ?_
          exact QRun_done [0, 1, 6, 7] (by kernel_rfl) (by kernel_rfl)
        obtain ⟨x4, gx4, hF⟩ := M.bind_some hF
        obtain ⟨hloy1, hhiy1, gx4⟩ := M.for_start gx4
        refine Run_join (fun L' h' => L' = [(6, .int .i64 x4)] ∧ h = h') ?_ ?_
        · rintro _ _ ⟨rfl, rfl⟩
          refine Run_seq ?_
          obtain ⟨x7, hx6, hF⟩ := M.bind_some hF
          refine Run_reg 6 (by kernel_rfl) (L' := [(4, .int .i64 x7.1), (5, .int .i64 x7.2)]) ?_ ?_
          · refine QRun_b [.int .i64 x4] 0 _ (by kernel_rfl) (fun w => by kernel_rfl) ?_
            refine QRun_y (.tuple #[.int .i64 x7.1, .int .i64 x7.2]) (by kernel_rfl) (Y_callq (f := 120) (args := #[.int .i64 x4]) (v := .tuple #[.int .i64 x7.1, .int .i64 x7.2]) (by kernel_rfl) (w_spec_l01Value h x4 _ _ hx6)) ?_
            refine QRun_b [.int .i64 x7.1, .int .i64 x7.2, .int .i64 x7.1, .int .i64 x7.2] 2 _ (by kernel_rfl) (fun w => by kernel_rfl) ?_
            exact QRun_done [4, 5] (by kernel_rfl) (by kernel_rfl)
          have hF := M.ret_some hF
          subst hF
          exact Run_ret2 rfl (ResV_tmp (v := .int .i64 x7.1) (by kernel_rfl)) (ResV_tmp (v := .int .i64 x7.2) (by kernel_rfl)) ⟨rfl, rfl⟩
        · refine Run_block ?_
          refine Run_keep [0, 1, 6, 7] (L' := [(0, .slice ac_ c_.length cc_), (1, .int .i64 x_), (6, .int .i64 (-1000000000000000)), (7, .int .i64 0)]) (by kernel_rfl) ?_
          refine Run_loop (fun m L' h' => ∃ (i1 : Int) (s1 : Int), 0 ≤ i1 ∧ M.forN (c_.length : Int) _ _ n m i1 s1 = some x4 ∧ L' = [(0, .slice ac_ c_.length cc_), (1, .int .i64 x_), (6, .int .i64 s1), (7, .int .i64 i1)] ∧ h = h') ((c_.length : Int) - 0).toNat ⟨0, (-1000000000000000), Int.le_refl _, gx4, rfl, rfl⟩ ?_
          rintro my1 _ _ ⟨i1, s1, hloy1', gx4, rfl, rfl⟩
          refine Run_seq ?_
          refine Run_seq ?_
          refine Run_reg 4 (by kernel_rfl) (L' := [(0, .slice ac_ c_.length cc_), (1, .int .i64 x_), (6, .int .i64 s1), (7, .int .i64 i1), (25, .bool (decide (i1 < (c_.length : Int))))]) ?_ ?_
          · refine QRun_b [.int .i64 i1, .slice ac_ c_.length cc_, .int .i64 (c_.length : Int), .bool (decide (i1 < (c_.length : Int)))] 0 _ (by kernel_rfl) (fun w => by kernel_rfl) ?_
            exact QRun_done [0, 1, 6, 7, 25] (by kernel_rfl) (by kernel_rfl)
          refine Run_cond (b := decide (i1 < (c_.length : Int))) (by kernel_rfl) (fun hb4 => ?_) (fun hb4 => ?_)
          · obtain ⟨my1, y1, rfl, hB1, hgoy1, houty1⟩ := M.for_go gx4 hb4
            have hlty1 := of_decide_eq_true hb4
            refine Run_skip ?_
            refine Run_seq ?_
            refine Run_block ?_
            obtain ⟨x5, hx4, hB1⟩ := M.bind_some hB1
            obtain ⟨hx4l, hx4u, hx4⟩ := M.idx_some hx4
            obtain ⟨x6, hx5, hB1⟩ := M.bind_some hB1
            refine Run_reg 11 (by kernel_rfl) (L' := [(0, .slice ac_ c_.length cc_), (1, .int .i64 x_), (6, .int .i64 (mx s1 x6)), (7, .int .i64 i1)]) ?_ ?_
            · refine QRun_b [.int .i64 s1, .slice ac_ c_.length cc_, .int .i64 i1] 0 _ (by kernel_rfl) (fun w => by kernel_rfl) ?_
              refine QRun_y (.pointer (some (adr ac_ (i1.toNat * 1)))) (by kernel_rfl) (Y_idx (t := 41) (e := 2) (sz := 1) (a := ac_) (n := c_.length) (cap := cc_) (kk := .i64) (i := i1) (by kernel_rfl) Try.underlying41 (by kernel_rfl) (rc_.cell hx4).1 hx4l hx4u) ?_
              refine QRun_y (.int .i64 x5) (by kernel_rfl) (Y_load1 (t := 2) (p := adr ac_ (i1.toNat * 1)) (v := .int .i64 x5) (by kernel_rfl) (fun w => by kernel_rfl) (cd2_cell rc_ hx4)) ?_
              refine QRun_b [.int .i64 i1, .int .i64 x_, .int .i64 (w64 (i1 * x_))] 5 _ (by kernel_rfl) (fun w => by kernel_rfl) ?_
              refine QRun_y (.int .i64 x6) (by kernel_rfl) (Y_callq (f := 114) (args := #[.int .i64 x5, .int .i64 (w64 (i1 * x_))]) (v := .int .i64 x6) (by kernel_rfl) (w_spec_l01Times h x5 (w64 (i1 * x_)) _ _ hx5)) ?_
              refine QRun_b [.int .i64 (mx s1 x6), .int .i64 (mx s1 x6)] 9 _ (by kernel_rfl) (fun w => by kernel_rfl) ?_
              exact QRun_done [0, 1, 6, 7] (by kernel_rfl) (by kernel_rfl)
            refine Run_blk ?_
            refine Run_reg 3 (by kernel_rfl) (L' := [(0, .slice ac_ c_.length cc_), (1, .int .i64 x_), (6, .int .i64 (mx s1 x6)), (7, .int .i64 (i1 + 1))]) ?_ ?_
            · refine QRun_b [.int .i64 i1] 0 _ (by kernel_rfl) (fun w => by kernel_rfl) ?_
              refine QRun_y (.int .i64 (i1 + 1)) (by kernel_rfl) (Y_eq (v := .int .i64 (w64 (i1 + 1))) (Y_pure (fun w => by kernel_rfl)) (by rw [w64_eq _ (by omega)])) ?_
              refine QRun_b [.int .i64 (i1 + 1)] 2 _ (by kernel_rfl) (fun w => by kernel_rfl) ?_
              exact QRun_done [0, 1, 6, 7] (by kernel_rfl) (by kernel_rfl)
            have hB1 := M.ret_some hB1
            have gx4 := hgoy1 _ hB1.symm
            exact Run_again [0, 1, 6, 7] (by kernel_rfl) my1 (Nat.lt_succ_self _) ⟨i1 + 1, (mx s1 x6), by omega, gx4, rfl, rfl⟩
          · have gx4 := M.for_end gx4 hb4
            subst gx4
            refine Run_exit (k' := _) rfl ?_
            exact Run_fall [6] (by kernel_rfl) ⟨rfl, rfl⟩

set_option maxRecDepth 100000 in
set_option maxHeartbeats 4000000 in
theorem w_laws_likeInts (h : Heap) (a_ : List Int) {Sa_ : Bs} (aa_ : Option Addr) (ca_ : Nat) (ra_ : Rd cd2 h Sa_ aa_ ca_ a_) (b : List Int) {Sb : Bs} (ab : Option Addr) (cb : Nat) (rb : Rd cd2 h Sb ab cb b) (n : Nat) (r : Bool) (hF : laws_likeInts a_ b n = some r) :
    Fn Try.prog 46 #[.slice aa_ a_.length ca_, .slice ab b.length cb] h fun v h' => v = .bool r ∧ h' = h := by
  unfold laws_likeInts at hF
  refine Fn_enter (args := [.slice aa_ a_.length ca_, .slice ab b.length cb]) Try.func46 rfl (by kernel_rfl) (by kernel_rfl) (fun w0 _ => ?_)
  refine Run_seq ?_
  refine Run_reg 1 (by kernel_rfl) (L' := [(0, .slice aa_ a_.length ca_), (1, .slice ab b.length cb)]) ?_ ?_
  · refine QRun_b [.bool false] 0 _ (by kernel_rfl) (fun w => by kernel_rfl) ?_
    exact QRun_done [0, 1] (by kernel_rfl) (by kernel_rfl)
  refine Run_seq ?_
  refine Run_seq ?_
  refine Run_reg 5 (by kernel_rfl) (L' := [(0, .slice aa_ a_.length ca_), (1, .slice ab b.length cb), (10, .bool ((a_.length : Int) != (b.length : Int)))]) ?_ ?_
  · refine QRun_b [.slice aa_ a_.length ca_, .int .i64 (a_.length : Int), .slice ab b.length cb, .int .i64 (b.length : Int), .bool ((a_.length : Int) != (b.length : Int))] 0 _ (by kernel_rfl) (fun w => by kernel_rfl) ?_
    exact QRun_done [0, 1, 10] (by kernel_rfl) (by kernel_rfl)
  refine Run_cond (b := (a_.length : Int) != (b.length : Int)) (by kernel_rfl) (fun hb1 => ?_) (fun hb1 => ?_)
  · have hF := (M.ite_some hF).1 hb1
    refine Run_seq ?_
    refine Run_reg 1 (by kernel_rfl) (L' := [(4, .bool false)]) ?_ ?_
    · refine QRun_b [.bool false] 0 _ (by kernel_rfl) (fun w => by kernel_rfl) ?_
      exact QRun_done [4] (by kernel_rfl) (by kernel_rfl)
    have hF := M.ret_some hF
    subst hF
    exact Run_ret1 rfl (ResV_tmp (v := .bool false) (by kernel_rfl)) ⟨rfl, rfl⟩
  · have hF := (M.ite_some hF).2 hb1
    refine Run_skip ?_
    refine Run_seq ?_
    refine Run_seq ?_
    refine Run_reg 1 (by kernel_rfl) (L' := [(0, .slice aa_ a_.length ca_), (1, .slice ab b.length cb), (5, .int .i64 0)]) ?_ ?_
    · refine QRun_b [.int .i64 0] 0 _ (by kernel_rfl) (fun w => by kernel_rfl) ?_
      exact QRun_done [0, 1, 5] (by kernel_rfl) (by kernel_rfl)
    obtain ⟨x1, gx1, hF⟩ := M.bind_some hF
    obtain ⟨hloy1, hhiy1, gx1⟩ := M.for_start gx1
    refine Run_join (fun L' h' => ∃ (s2 : Unit), x1 = .inl s2 ∧ L' = [] ∧ h = h') ?_ ?_
    · rintro _ _ ⟨s2, es2, rfl, rfl⟩
      have hF := M.cont_inl' hF es2
      refine Run_seq ?_
      refine Run_reg 1 (by kernel_rfl) (L' := [(4, .bool true)]) ?_ ?_
      · refine QRun_b [.bool true] 0 _ (by kernel_rfl) (fun w => by kernel_rfl) ?_
        exact QRun_done [4] (by kernel_rfl) (by kernel_rfl)
      have hF := M.ret_some hF
      subst hF
      exact Run_ret1 rfl (ResV_tmp (v := .bool true) (by kernel_rfl)) ⟨rfl, rfl⟩
    · refine Run_block ?_
      refine Run_keep [0, 1, 5] (L' := [(0, .slice aa_ a_.length ca_), (1, .slice ab b.length cb), (5, .int .i64 0)]) (by kernel_rfl) ?_
      refine Run_loop (fun m L' h' => ∃ (i1 : Int) (s1 : Unit), 0 ≤ i1 ∧ M.forN (a_.length : Int) _ _ n m i1 s1 = some x1 ∧ L' = [(0, .slice aa_ a_.length ca_), (1, .slice ab b.length cb), (5, .int .i64 i1)] ∧ h = h') ((a_.length : Int) - 0).toNat ⟨0, (), Int.le_refl _, gx1, rfl, rfl⟩ ?_
      rintro my1 _ _ ⟨i1, s1, hloy1', gx1, rfl, rfl⟩
      refine Run_seq ?_
      refine Run_seq ?_
      refine Run_reg 4 (by kernel_rfl) (L' := [(0, .slice aa_ a_.length ca_), (1, .slice ab b.length cb), (5, .int .i64 i1), (14, .bool (decide (i1 < (a_.length : Int))))]) ?_ ?_
      · refine QRun_b [.int .i64 i1, .slice aa_ a_.length ca_, .int .i64 (a_.length : Int), .bool (decide (i1 < (a_.length : Int)))] 0 _ (by kernel_rfl) (fun w => by kernel_rfl) ?_
        exact QRun_done [0, 1, 5, 14] (by kernel_rfl) (by kernel_rfl)
      refine Run_cond (b := decide (i1 < (a_.length : Int))) (by kernel_rfl) (fun hb2 => ?_) (fun hb2 => ?_)
      · obtain ⟨my1, y1, rfl, hB1, hgoy1, houty1⟩ := M.for_go gx1 hb2
        have hlty1 := of_decide_eq_true hb2
        refine Run_skip ?_
        refine Run_seq ?_
        refine Run_block ?_
        refine Run_seq ?_
        obtain ⟨x2, hx1, hB1⟩ := M.bind_some hB1
        obtain ⟨hx1l, hx1u, hx1⟩ := M.idx_some hx1
        obtain ⟨x3, hx2, hB1⟩ := M.bind_some hB1
        obtain ⟨hx2l, hx2u, hx2⟩ := M.idx_some hx2
        refine Run_draw 9 mixed (by kernel_rfl) (by kernel_rfl) (L' := [(0, .slice aa_ a_.length ca_), (1, .slice ab b.length cb), (5, .int .i64 i1), (25, .bool (x2 != x3))]) ?_ ?_
        · refine QRun_b [.slice aa_ a_.length ca_, .int .i64 i1] 0 _ (by kernel_rfl) (fun w => by kernel_rfl) ?_
          refine QRun_y (.pointer (some (adr aa_ (i1.toNat * 1)))) (by kernel_rfl) (Y_idx (t := 41) (e := 2) (sz := 1) (a := aa_) (n := a_.length) (cap := ca_) (kk := .i64) (i := i1) (by kernel_rfl) Try.underlying41 (by kernel_rfl) (ra_.cell hx1).1 hx1l hx1u) ?_
          refine QRun_y (.int .i64 x2) (by kernel_rfl) (Y_load1 (t := 2) (p := adr aa_ (i1.toNat * 1)) (v := .int .i64 x2) (by kernel_rfl) (fun w => by kernel_rfl) (cd2_cell ra_ hx1)) ?_
          refine QRun_b [.slice ab b.length cb, .int .i64 i1] 4 _ (by kernel_rfl) (fun w => by kernel_rfl) ?_
          refine QRun_y (.pointer (some (adr ab (i1.toNat * 1)))) (by kernel_rfl) (Y_idx (t := 41) (e := 2) (sz := 1) (a := ab) (n := b.length) (cap := cb) (kk := .i64) (i := i1) (by kernel_rfl) Try.underlying41 (by kernel_rfl) (rb.cell hx2).1 hx2l hx2u) ?_
          refine QRun_y (.int .i64 x3) (by kernel_rfl) (Y_load1 (t := 2) (p := adr ab (i1.toNat * 1)) (v := .int .i64 x3) (by kernel_rfl) (fun w => by kernel_rfl) (cd2_cell rb hx2)) ?_
          refine QRun_b [.bool (x2 != x3)] 8 _ (by kernel_rfl) (fun w => by kernel_rfl) ?_
          exact QRun_done [0, 1, 5, 25] (by kernel_rfl) (by kernel_rfl)
        refine Run_cond (b := x2 != x3) (by kernel_rfl) (fun hb3 => ?_) (fun hb3 => ?_)
        · have hB1 := (M.ite_some hB1).1 hb3
          refine Run_seq ?_
          refine Run_reg 1 (by kernel_rfl) (L' := [(4, .bool false)]) ?_ ?_
          · refine QRun_b [.bool false] 0 _ (by kernel_rfl) (fun w => by kernel_rfl) ?_
            exact QRun_done [4] (by kernel_rfl) (by kernel_rfl)
          have hB1 := M.ret_some hB1
          have gx1 := houty1 _ hB1.symm
          have hF := M.cont_inr' hF gx1
          have hF := M.ret_some hF
          subst hF
          exact Run_ret1 rfl (ResV_tmp (v := .bool false) (by kernel_rfl)) ⟨rfl, rfl⟩
        · have hB1 := (M.ite_some hB1).2 hb3
          refine Run_skip ?_
          refine Run_blk ?_
          refine Run_reg 3 (by kernel_rfl) (L' := [(0, .slice aa_ a_.length ca_), (1, .slice ab b.length cb), (5, .int .i64 (i1 + 1))]) ?_ ?_
          · refine QRun_b [.int .i64 i1] 0 _ (by kernel_rfl) (fun w => by kernel_rfl) ?_
            refine QRun_y (.int .i64 (i1 + 1)) (by kernel_rfl) (Y_eq (v := .int .i64 (w64 (i1 + 1))) (Y_pure (fun w => by kernel_rfl)) (by rw [w64_eq _ (by omega)])) ?_
            refine QRun_b [.int .i64 (i1 + 1)] 2 _ (by kernel_rfl) (fun w => by kernel_rfl) ?_
            exact QRun_done [0, 1, 5] (by kernel_rfl) (by kernel_rfl)
          have hB1 := M.ret_some hB1
          have gx1 := hgoy1 _ hB1.symm
          exact Run_again [0, 1, 5] (by kernel_rfl) my1 (Nat.lt_succ_self _) ⟨i1 + 1, (), by omega, gx1, rfl, rfl⟩
      · have gx1 := M.for_end gx1 hb2
        subst gx1
        refine Run_exit (k' := _) rfl ?_
        exact Run_fall [] (by kernel_rfl) ⟨(), rfl, rfl, rfl⟩

set_option maxRecDepth 100000 in
set_option maxHeartbeats 4000000 in
theorem w_laws_roll (h : Heap) (code : List Int) (acode : Option Addr) (ccode : Nat) (rcode : Rd cd5 h (Lt h) acode ccode code) (seed : Int) (n : Nat) (r : TDice) (hF : laws_roll code seed n = some r) :
    Fn Try.prog 64 #[.slice acode code.length ccode, .int .u64 seed] h fun v h' => ∃ (b0 : Nat), ∃ (a0 : Option Addr) (c0 : Nat), v = .pointer (some ⟨b0, 0, none⟩) ∧ Ali a0 acode c0 ccode r.b code ∧ Hold h h' [box b0 123 [.slice a0 r.b.length c0, .int .i64 r.i, .int .u64 r.h]] := by
  unfold laws_roll at hF
  refine Fn_enter (args := [.slice acode code.length ccode, .int .u64 seed]) Try.func64 rfl (by kernel_rfl) (by kernel_rfl) (fun w0 _ => ?_)
  have H0 := Hold.init h
  refine Run_seq ?_
  refine Run_reg 1 (by kernel_rfl) (L' := [(0, .slice acode code.length ccode), (1, .int .u64 seed)]) ?_ ?_
  · refine QRun_b [.pointer none] 0 _ (by kernel_rfl) (fun w => by kernel_rfl) ?_
    exact QRun_done [0, 1] (by kernel_rfl) (by kernel_rfl)
  refine Run_seq ?_
  refine Run_ops ?_
  refine Run_b [.slice acode code.length ccode, .int .u64 seed, .int .u64 (IntKind.u64.wrap (seed * 9103)), .slice acode code.length ccode, .int .i64 (code.length : Int), .int .u64 (IntKind.u64.wrap ((code.length : Int))), .int .u64 (IntKind.u64.wrap ((IntKind.u64.wrap (seed * 9103)) + (IntKind.u64.wrap ((code.length : Int))))), .agg #[.slice acode code.length ccode, .int .i64 0, .int .u64 (IntKind.u64.wrap ((IntKind.u64.wrap (seed * 9103)) + (IntKind.u64.wrap ((code.length : Int)))))]] 0 _ (by kernel_rfl) (fun w => by kernel_rfl) ?_
  refine Run_E (by kernel_rfl) ?_
  refine E_box (ty := 123) (cs := [.slice acode code.length ccode, .int .i64 0, .int .u64 (IntKind.u64.wrap ((IntKind.u64.wrap (seed * 9103)) + (IntKind.u64.wrap ((code.length : Int)))))]) H0 (fun w => by kernel_rfl) (fun b1 h1 H1 => ?_)
  refine Run_b [.pointer (some ⟨b1, 0, none⟩)] 9 _ (by kernel_rfl) (fun w => by kernel_rfl) ?_
  refine Run_nil (by kernel_rfl) ?_
  refine Run_keep [0, 5] (L' := [(0, .slice acode code.length ccode), (5, .pointer (some ⟨b1, 0, none⟩))]) (by kernel_rfl) ?_
  refine Run_seq ?_
  refine Run_seq ?_
  refine Run_reg 1 (by kernel_rfl) (L' := [(0, .slice acode code.length ccode), (5, .pointer (some ⟨b1, 0, none⟩)), (6, .int .i64 0)]) ?_ ?_
  · refine QRun_b [.int .i64 0] 0 _ (by kernel_rfl) (fun w => by kernel_rfl) ?_
    exact QRun_done [0, 5, 6] (by kernel_rfl) (by kernel_rfl)
  obtain ⟨x1, gx1, hF⟩ := M.bind_some hF
  obtain ⟨hloy1, hhiy1, gx1⟩ := M.for_start gx1
  refine Run_join (fun L' h' => L' = [(5, .pointer (some ⟨b1, 0, none⟩))] ∧ Hold h h' [box b1 123 [.slice acode code.length ccode, .int .i64 0, .int .u64 x1]]) ?_ ?_
  · rintro _ h3 ⟨rfl, H3⟩
    refine Run_seq ?_
    refine Run_reg 2 (by kernel_rfl) (L' := [(4, .pointer (some ⟨b1, 0, none⟩))]) ?_ ?_
    · refine QRun_b [.pointer (some ⟨b1, 0, none⟩), .pointer (some ⟨b1, 0, none⟩)] 0 _ (by kernel_rfl) (fun w => by kernel_rfl) ?_
      exact QRun_done [4] (by kernel_rfl) (by kernel_rfl)
    have hF := M.ret_some hF
    subst hF
    exact Run_ret1 rfl (ResV_tmp (v := .pointer (some ⟨b1, 0, none⟩)) (by kernel_rfl)) ⟨b1, acode, ccode, rfl, .inl ⟨rfl, rfl, rfl⟩, H3⟩
  · refine Run_block ?_
    refine Run_keep [0, 5, 6] (L' := [(0, .slice acode code.length ccode), (5, .pointer (some ⟨b1, 0, none⟩)), (6, .int .i64 0)]) (by kernel_rfl) ?_
    refine Run_loop (fun m L' h' => ∃ (i1 : Int) (s1 : Int), 0 ≤ i1 ∧ M.forN (code.length : Int) _ _ n m i1 s1 = some x1 ∧ L' = [(0, .slice acode code.length ccode), (5, .pointer (some ⟨b1, 0, none⟩)), (6, .int .i64 i1)] ∧ Hold h h' [box b1 123 [.slice acode code.length ccode, .int .i64 0, .int .u64 s1]]) ((code.length : Int) - 0).toNat ⟨0, (IntKind.u64.wrap ((IntKind.u64.wrap (seed * 9103)) + (IntKind.u64.wrap ((code.length : Int))))), Int.le_refl _, gx1, rfl, H1⟩ ?_
    rintro my1 _ h2 ⟨i1, s1, hloy1', gx1, rfl, H2⟩
    refine Run_seq ?_
    refine Run_seq ?_
    refine Run_reg 4 (by kernel_rfl) (L' := [(0, .slice acode code.length ccode), (5, .pointer (some ⟨b1, 0, none⟩)), (6, .int .i64 i1), (19, .bool (decide (i1 < (code.length : Int))))]) ?_ ?_
    · refine QRun_b [.int .i64 i1, .slice acode code.length ccode, .int .i64 (code.length : Int), .bool (decide (i1 < (code.length : Int)))] 0 _ (by kernel_rfl) (fun w => by kernel_rfl) ?_
      exact QRun_done [0, 5, 6, 19] (by kernel_rfl) (by kernel_rfl)
    refine Run_cond (b := decide (i1 < (code.length : Int))) (by kernel_rfl) (fun hb1 => ?_) (fun hb1 => ?_)
    · obtain ⟨my1, y1, rfl, hB1, hgoy1, houty1⟩ := M.for_go gx1 hb1
      have hlty1 := of_decide_eq_true hb1
      refine Run_skip ?_
      refine Run_seq ?_
      refine Run_block ?_
      obtain ⟨x2, hx1, hB1⟩ := M.bind_some hB1
      obtain ⟨hx1l, hx1u, hx1⟩ := M.idx_some hx1
      refine Run_D (fun x => Hold h x [box b1 123 [.slice acode code.length ccode, .int .i64 0, .int .u64 s1]]) (fun x => Hold h x [box b1 123 [.slice acode code.length ccode, .int .i64 0, .int .u64 s1]]) mixed (by kernel_rfl) H2 Hold.stable (fun x Hy => (show Hold h x [box b1 123 [.slice acode code.length ccode, .int .i64 0, .int .u64 s1]] from Hy).pick [0] (by kernel_rfl)) ?_
      refine DR_b 12 [.pointer (some ⟨b1, 0, none⟩), .pointer (some ⟨b1, 0, none⟩), .pointer (some ⟨b1, 0, none⟩), .pointer (some ⟨b1, 2, none⟩)] 0 (by kernel_rfl) (by kernel_rfl) (by kernel_rfl) (fun w => by kernel_rfl) ?_
      refine DR_y 11 (i := 4) (.int .u64 s1) (by kernel_rfl) (by kernel_rfl) (by kernel_rfl) (fun hx Hx => (YE.of (Y_load1 (t := 74) (p := ⟨b1, 2, none⟩) (v := .int .u64 s1) (by kernel_rfl) (fun w => by kernel_rfl) (Hx.cell 0 rfl rfl)))) ?_
      refine DR_b 8 [.int .u64 (IntKind.u64.wrap (s1 * 1099511628211)), .slice acode code.length ccode, .int .i64 i1] 5 (by kernel_rfl) (by kernel_rfl) (by kernel_rfl) (fun w => by kernel_rfl) ?_
      refine DR_y 7 (i := 8) (.pointer (some (adr acode (i1.toNat * 1)))) (by kernel_rfl) (by kernel_rfl) (by kernel_rfl) (fun hx Hx => (YE.of (Y_idx (t := 55) (e := 5) (sz := 1) (a := acode) (n := code.length) (cap := ccode) (kk := .i64) (i := i1) (by kernel_rfl) Try.underlying55 (by kernel_rfl) ((rcode.at H2.ext).cell hx1).1 hx1l hx1u))) ?_
      refine DR_y 6 (i := 9) (.int .u8 x2) (by kernel_rfl) (by kernel_rfl) (by kernel_rfl) (fun hx Hx => (YE.of (Y_load1 (t := 5) (p := adr acode (i1.toNat * 1)) (v := .int .u8 x2) (by kernel_rfl) (fun w => by kernel_rfl) (cd5_cell (rcode.at Hx.ext) hx1)))) ?_
      refine DR_b 3 [.int .u64 (IntKind.u64.wrap (x2)), .int .u64 (IntKind.u64.wrap ((IntKind.u64.wrap (s1 * 1099511628211)) + (IntKind.u64.wrap (x2)))), .int .u64 (IntKind.u64.wrap ((IntKind.u64.wrap ((IntKind.u64.wrap (s1 * 1099511628211)) + (IntKind.u64.wrap (x2)))) + 5))] 10 (by kernel_rfl) (by kernel_rfl) (by kernel_rfl) (fun w => by kernel_rfl) ?_
      refine DR_tail (i := 13) (by kernel_rfl) (by kernel_rfl) (by kernel_rfl) (fun h4 H4 => ?_)
      have H5 : Hold h h4 [box b1 123 [.slice acode code.length ccode, .int .i64 0, .int .u64 s1]] := H4
      refine Run_b [.pointer (some ⟨b1, 0, none⟩), .pointer (some ⟨b1, 2, none⟩)] 13 _ (by kernel_rfl) (fun w => by kernel_rfl) ?_
      refine Run_E (by kernel_rfl) ?_
      refine E_bput (t := 74) (off := 2) (us := [.slice acode code.length ccode, .int .i64 0, .int .u64 (IntKind.u64.wrap ((IntKind.u64.wrap ((IntKind.u64.wrap (s1 * 1099511628211)) + (IntKind.u64.wrap (x2)))) + 5))]) (v := .int .u64 (IntKind.u64.wrap ((IntKind.u64.wrap ((IntKind.u64.wrap (s1 * 1099511628211)) + (IntKind.u64.wrap (x2)))) + 5))) H5 (by kernel_rfl) (by kernel_rfl) rfl (by kernel_rfl) rfl (fun h5 H6 => ?_)
      refine Run_nil (by kernel_rfl) ?_
      refine Run_keep [0, 5, 6] (L' := [(0, .slice acode code.length ccode), (5, .pointer (some ⟨b1, 0, none⟩)), (6, .int .i64 i1)]) (by kernel_rfl) ?_
      refine Run_blk ?_
      refine Run_reg 3 (by kernel_rfl) (L' := [(0, .slice acode code.length ccode), (5, .pointer (some ⟨b1, 0, none⟩)), (6, .int .i64 (i1 + 1))]) ?_ ?_
      · refine QRun_b [.int .i64 i1] 0 _ (by kernel_rfl) (fun w => by kernel_rfl) ?_
        refine QRun_y (.int .i64 (i1 + 1)) (by kernel_rfl) (Y_eq (v := .int .i64 (w64 (i1 + 1))) (Y_pure (fun w => by kernel_rfl)) (by rw [w64_eq _ (by omega)])) ?_
        refine QRun_b [.int .i64 (i1 + 1)] 2 _ (by kernel_rfl) (fun w => by kernel_rfl) ?_
        exact QRun_done [0, 5, 6] (by kernel_rfl) (by kernel_rfl)
      have hB1 := M.ret_some hB1
      have gx1 := hgoy1 _ hB1.symm
      exact Run_again [0, 5, 6] (by kernel_rfl) my1 (Nat.lt_succ_self _) ⟨i1 + 1, (IntKind.u64.wrap ((IntKind.u64.wrap ((IntKind.u64.wrap (s1 * 1099511628211)) + (IntKind.u64.wrap (x2)))) + 5)), by omega, gx1, rfl, H6⟩
    · have gx1 := M.for_end gx1 hb1
      subst gx1
      refine Run_exit (k' := _) rfl ?_
      exact Run_fall [5] (by kernel_rfl) ⟨rfl, H2⟩

set_option maxRecDepth 100000 in
set_option maxHeartbeats 4000000 in
theorem w_laws_dice_below (h hE : Heap) (it : Item) (d : TDice) (bd : Nat) (adb : Option Addr) (cdb : Nat) (rdb : Rd cd5 h (Lt h) adb cdb d.b) (n_ : Int) (HM : Hold h hE [box bd 123 [.slice adb d.b.length cdb, .int .i64 d.i, .int .u64 d.h], it]) (n : Nat) (r : Int × TDice) (hF : laws_dice_below d n_ n = some r) :
    Fn Try.prog 65 #[.pointer (some ⟨bd, 0, none⟩), .int .i64 n_] hE fun v h' => v = .int .i64 r.1 ∧ Hold h h' [box bd 123 [.slice adb d.b.length cdb, .int .i64 r.2.i, .int .u64 r.2.h], it] := by
  unfold laws_dice_below at hF
  refine Fn_enter (args := [.pointer (some ⟨bd, 0, none⟩), .int .i64 n_]) Try.func65 rfl (by kernel_rfl) (by kernel_rfl) (fun w0 _ => ?_)
  refine Run_seq ?_
  refine Run_reg 1 (by kernel_rfl) (L' := [(0, .pointer (some ⟨bd, 0, none⟩)), (1, .int .i64 n_)]) ?_ ?_
  · refine QRun_b [.int .i64 0] 0 _ (by kernel_rfl) (fun w => by kernel_rfl) ?_
    exact QRun_done [0, 1] (by kernel_rfl) (by kernel_rfl)
  refine Run_seq ?_
  refine Run_ops ?_
  refine Run_b [.pointer (some ⟨bd, 0, none⟩), .pointer (some ⟨bd, 0, none⟩), .pointer (some ⟨bd, 0, none⟩), .pointer (some ⟨bd, 2, none⟩)] 0 _ (by kernel_rfl) (fun w => by kernel_rfl) ?_
  refine Run_y (.int .u64 d.h) (by kernel_rfl) (Y_load1 (t := 74) (p := ⟨bd, 2, none⟩) (v := .int .u64 d.h) (by kernel_rfl) (fun w => by kernel_rfl) (HM.cell 0 rfl rfl)) ?_
  refine Run_b [.int .u64 (IntKind.u64.wrap (d.h * 6364136223846793005)), .int .u64 (IntKind.u64.wrap ((IntKind.u64.wrap (d.h * 6364136223846793005)) + 1442695040888963407)), .pointer (some ⟨bd, 0, none⟩), .pointer (some ⟨bd, 2, none⟩)] 5 _ (by kernel_rfl) (fun w => by kernel_rfl) ?_
  refine Run_E (by kernel_rfl) ?_
  refine E_bput (t := 74) (off := 2) (us := [.slice adb d.b.length cdb, .int .i64 d.i, .int .u64 (IntKind.u64.wrap ((IntKind.u64.wrap (d.h * 6364136223846793005)) + 1442695040888963407))]) (v := .int .u64 (IntKind.u64.wrap ((IntKind.u64.wrap (d.h * 6364136223846793005)) + 1442695040888963407))) HM (by kernel_rfl) (by kernel_rfl) rfl (by kernel_rfl) rfl (fun h1 H1 => ?_)
  refine Run_nil (by kernel_rfl) ?_
  refine Run_keep [0, 1] (L' := [(0, .pointer (some ⟨bd, 0, none⟩)), (1, .int .i64 n_)]) (by kernel_rfl) ?_
  refine Run_seq ?_
  obtain ⟨u1, hz1, hF⟩ := M.bind_some hF
  have hz1 := M.guard_some hz1
  refine Run_reg 8 (by kernel_rfl) (L' := [(0, .pointer (some ⟨bd, 0, none⟩)), (1, .int .i64 n_), (5, .int .i64 (w64 (ibit .and .u64 (ishr .u64 (IntKind.u64.wrap ((IntKind.u64.wrap (d.h * 6364136223846793005)) + 1442695040888963407)) 33) 16777215)))]) ?_ ?_
  · refine QRun_b [.pointer (some ⟨bd, 0, none⟩), .pointer (some ⟨bd, 0, none⟩), .pointer (some ⟨bd, 2, none⟩)] 0 _ (by kernel_rfl) (fun w => by kernel_rfl) ?_
    refine QRun_y (.int .u64 (IntKind.u64.wrap ((IntKind.u64.wrap (d.h * 6364136223846793005)) + 1442695040888963407))) (by kernel_rfl) (Y_load1 (t := 74) (p := ⟨bd, 2, none⟩) (v := .int .u64 (IntKind.u64.wrap ((IntKind.u64.wrap (d.h * 6364136223846793005)) + 1442695040888963407))) (by kernel_rfl) (fun w => by kernel_rfl) (H1.cell 0 rfl rfl)) ?_
    refine QRun_y (.int .u64 (ishr .u64 (IntKind.u64.wrap ((IntKind.u64.wrap (d.h * 6364136223846793005)) + 1442695040888963407)) 33)) (by kernel_rfl) (Y_shr (k := .u64) (x := IntKind.u64.wrap ((IntKind.u64.wrap (d.h * 6364136223846793005)) + 1442695040888963407)) (kk := .u64) (y := 33) (by kernel_rfl) hz1) ?_
    refine QRun_b [.int .u64 (ibit .and .u64 (ishr .u64 (IntKind.u64.wrap ((IntKind.u64.wrap (d.h * 6364136223846793005)) + 1442695040888963407)) 33) 16777215), .int .i64 (w64 (ibit .and .u64 (ishr .u64 (IntKind.u64.wrap ((IntKind.u64.wrap (d.h * 6364136223846793005)) + 1442695040888963407)) 33) 16777215)), .int .i64 (w64 (ibit .and .u64 (ishr .u64 (IntKind.u64.wrap ((IntKind.u64.wrap (d.h * 6364136223846793005)) + 1442695040888963407)) 33) 16777215))] 5 _ (by kernel_rfl) (fun w => by kernel_rfl) ?_
    exact QRun_done [0, 1, 5] (by kernel_rfl) (by kernel_rfl)
  refine Run_seq ?_
  refine Run_seq ?_
  refine Run_draw 10 mixed (by kernel_rfl) (by kernel_rfl) (L' := [(0, .pointer (some ⟨bd, 0, none⟩)), (1, .int .i64 n_), (5, .int .i64 (w64 (ibit .and .u64 (ishr .u64 (IntKind.u64.wrap ((IntKind.u64.wrap (d.h * 6364136223846793005)) + 1442695040888963407)) 33) 16777215))), (31, .bool (decide (d.i < (d.b.length : Int))))]) ?_ ?_
  · refine QRun_b [.pointer (some ⟨bd, 0, none⟩), .pointer (some ⟨bd, 0, none⟩), .pointer (some ⟨bd, 1, none⟩)] 0 _ (by kernel_rfl) (fun w => by kernel_rfl) ?_
    refine QRun_y (.int .i64 d.i) (by kernel_rfl) (Y_load1 (t := 3) (p := ⟨bd, 1, none⟩) (v := .int .i64 d.i) (by kernel_rfl) (fun w => by kernel_rfl) (H1.cell 0 rfl rfl)) ?_
    refine QRun_b [.pointer (some ⟨bd, 0, none⟩), .pointer (some ⟨bd, 0, none⟩), .pointer (some ⟨bd, 0, none⟩)] 4 _ (by kernel_rfl) (fun w => by kernel_rfl) ?_
    refine QRun_y (.slice adb d.b.length cdb) (by kernel_rfl) (Y_load1 (t := 55) (p := ⟨bd, 0, none⟩) (v := .slice adb d.b.length cdb) (by kernel_rfl) (fun w => by kernel_rfl) (H1.cell 0 rfl rfl)) ?_
    refine QRun_b [.int .i64 (d.b.length : Int), .bool (decide (d.i < (d.b.length : Int)))] 8 _ (by kernel_rfl) (fun w => by kernel_rfl) ?_
    exact QRun_done [0, 1, 5, 31] (by kernel_rfl) (by kernel_rfl)
  obtain ⟨s1, gs1, hF⟩ := M.bind_some hF
  refine Run_join (fun L' h' => L' = [(1, .int .i64 n_), (5, .int .i64 s1.1)] ∧ Hold h h' [box bd 123 [.slice adb d.b.length cdb, .int .i64 s1.2, .int .u64 (IntKind.u64.wrap ((IntKind.u64.wrap (d.h * 6364136223846793005)) + 1442695040888963407))], it]) ?_ ?_
  · rintro _ h3 ⟨rfl, H3⟩
    refine Run_seq ?_
    obtain ⟨u2, hz2, hF⟩ := M.bind_some hF
    have hz2 := M.guard_some hz2
    refine Run_reg 4 (by kernel_rfl) (L' := [(4, .int .i64 (s1.1.tmod n_))]) ?_ ?_
    · refine QRun_b [.int .i64 s1.1, .int .i64 n_] 0 _ (by kernel_rfl) (fun w => by kernel_rfl) ?_
      refine QRun_y (.int .i64 (s1.1.tmod n_)) (by kernel_rfl) (Y_rem (op := .rem) (k := .i64) (x := s1.1) (y := n_) (by kernel_rfl) hz2) ?_
      refine QRun_b [.int .i64 (s1.1.tmod n_)] 3 _ (by kernel_rfl) (fun w => by kernel_rfl) ?_
      exact QRun_done [4] (by kernel_rfl) (by kernel_rfl)
    have hF := M.ret_some hF
    subst hF
    exact Run_ret1 rfl (ResV_tmp (v := .int .i64 (s1.1.tmod n_)) (by kernel_rfl)) ⟨rfl, H3⟩
  · refine Run_cond (b := decide (d.i < (d.b.length : Int))) (by kernel_rfl) (fun hb1 => ?_) (fun hb1 => ?_)
    · have gs1 := (M.ite_some gs1).1 hb1
      refine Run_seq ?_
      obtain ⟨x1, hx1, gs1⟩ := M.bind_some gs1
      obtain ⟨hx1l, hx1u, hx1⟩ := M.idx_some hx1
      refine Run_draw 14 mixed (by kernel_rfl) (by kernel_rfl) (L' := [(0, .pointer (some ⟨bd, 0, none⟩)), (1, .int .i64 n_), (5, .int .i64 (w64 ((w64 (ibit .and .u64 (ishr .u64 (IntKind.u64.wrap ((IntKind.u64.wrap (d.h * 6364136223846793005)) + 1442695040888963407)) 33) 16777215)) + (w64 (x1)))))]) ?_ ?_
      · refine QRun_b [.int .i64 (w64 (ibit .and .u64 (ishr .u64 (IntKind.u64.wrap ((IntKind.u64.wrap (d.h * 6364136223846793005)) + 1442695040888963407)) 33) 16777215)), .pointer (some ⟨bd, 0, none⟩), .pointer (some ⟨bd, 0, none⟩), .pointer (some ⟨bd, 0, none⟩)] 0 _ (by kernel_rfl) (fun w => by kernel_rfl) ?_
        refine QRun_y (.slice adb d.b.length cdb) (by kernel_rfl) (Y_load1 (t := 55) (p := ⟨bd, 0, none⟩) (v := .slice adb d.b.length cdb) (by kernel_rfl) (fun w => by kernel_rfl) (H1.cell 0 rfl rfl)) ?_
        refine QRun_b [.pointer (some ⟨bd, 0, none⟩), .pointer (some ⟨bd, 0, none⟩), .pointer (some ⟨bd, 1, none⟩)] 5 _ (by kernel_rfl) (fun w => by kernel_rfl) ?_
        refine QRun_y (.int .i64 d.i) (by kernel_rfl) (Y_load1 (t := 3) (p := ⟨bd, 1, none⟩) (v := .int .i64 d.i) (by kernel_rfl) (fun w => by kernel_rfl) (H1.cell 0 rfl rfl)) ?_
        refine QRun_y (.pointer (some (adr adb (d.i.toNat * 1)))) (by kernel_rfl) (Y_idx (t := 55) (e := 5) (sz := 1) (a := adb) (n := d.b.length) (cap := cdb) (kk := .i64) (i := d.i) (by kernel_rfl) Try.underlying55 (by kernel_rfl) ((rdb.at H1.ext).cell hx1).1 hx1l hx1u) ?_
        refine QRun_y (.int .u8 x1) (by kernel_rfl) (Y_load1 (t := 5) (p := adr adb (d.i.toNat * 1)) (v := .int .u8 x1) (by kernel_rfl) (fun w => by kernel_rfl) (cd5_cell (rdb.at H1.ext) hx1)) ?_
        refine QRun_b [.int .i64 (w64 (x1)), .int .i64 (w64 ((w64 (ibit .and .u64 (ishr .u64 (IntKind.u64.wrap ((IntKind.u64.wrap (d.h * 6364136223846793005)) + 1442695040888963407)) 33) 16777215)) + (w64 (x1)))), .int .i64 (w64 ((w64 (ibit .and .u64 (ishr .u64 (IntKind.u64.wrap ((IntKind.u64.wrap (d.h * 6364136223846793005)) + 1442695040888963407)) 33) 16777215)) + (w64 (x1))))] 11 _ (by kernel_rfl) (fun w => by kernel_rfl) ?_
        exact QRun_done [0, 1, 5] (by kernel_rfl) (by kernel_rfl)
      refine Run_ops ?_
      refine Run_b [.pointer (some ⟨bd, 0, none⟩), .pointer (some ⟨bd, 0, none⟩), .pointer (some ⟨bd, 0, none⟩), .pointer (some ⟨bd, 1, none⟩)] 0 _ (by kernel_rfl) (fun w => by kernel_rfl) ?_
      refine Run_y (.int .i64 d.i) (by kernel_rfl) (Y_load1 (t := 3) (p := ⟨bd, 1, none⟩) (v := .int .i64 d.i) (by kernel_rfl) (fun w => by kernel_rfl) (H1.cell 0 rfl rfl)) ?_
      refine Run_b [.int .i64 (w64 (d.i + 1)), .pointer (some ⟨bd, 0, none⟩), .pointer (some ⟨bd, 1, none⟩)] 5 _ (by kernel_rfl) (fun w => by kernel_rfl) ?_
      refine Run_E (by kernel_rfl) ?_
      refine E_bput (t := 3) (off := 1) (us := [.slice adb d.b.length cdb, .int .i64 (w64 (d.i + 1)), .int .u64 (IntKind.u64.wrap ((IntKind.u64.wrap (d.h * 6364136223846793005)) + 1442695040888963407))]) (v := .int .i64 (w64 (d.i + 1))) H1 (by kernel_rfl) (by kernel_rfl) rfl (by kernel_rfl) rfl (fun h2 H2 => ?_)
      refine Run_nil (by kernel_rfl) ?_
      refine Run_keep [1, 5] (L' := [(1, .int .i64 n_), (5, .int .i64 (w64 ((w64 (ibit .and .u64 (ishr .u64 (IntKind.u64.wrap ((IntKind.u64.wrap (d.h * 6364136223846793005)) + 1442695040888963407)) 33) 16777215)) + (w64 (x1)))))]) (by kernel_rfl) ?_
      have gs1 := M.ret_some gs1
      subst gs1
      exact Run_fall [1, 5] (by kernel_rfl) ⟨rfl, H2⟩
    · have gs1 := (M.ite_some gs1).2 hb1
      refine Run_skip ?_
      have gs1 := M.ret_some gs1
      subst gs1
      exact Run_fall [1, 5] (by kernel_rfl) ⟨rfl, H1⟩

set_option maxRecDepth 100000 in
set_option maxHeartbeats 4000000 in
theorem w_laws_FnPolynomialValues (h : Heap) (code : List Int) (acode : Option Addr) (ccode : Nat) (rcode : Rd cd5 h (Lt h) acode ccode code) (n : Nat) (r : Bool) (hF : laws_FnPolynomialValues code n = some r) :
    Fn Try.prog 14 #[.slice acode code.length ccode] h fun v h' => v = .bool r ∧ Hold h h' [] := by
  unfold laws_FnPolynomialValues at hF
  refine Fn_enter (args := [.slice acode code.length ccode]) Try.func14 rfl (by kernel_rfl) (by kernel_rfl) (fun w0 _ => ?_)
  have H0 := Hold.init h
  refine Run_seq ?_
  refine Run_reg 1 (by kernel_rfl) (L' := [(0, .slice acode code.length ccode)]) ?_ ?_
  · refine QRun_b [.bool false] 0 _ (by kernel_rfl) (fun w => by kernel_rfl) ?_
    exact QRun_done [0] (by kernel_rfl) (by kernel_rfl)
  refine Run_seq ?_
  refine Run_seq ?_
  obtain ⟨x1, hx1, hF⟩ := M.bind_some hF
  refine Run_reg 2 (by kernel_rfl) (L' := [(0, .slice acode code.length ccode), (29, .bool x1)]) ?_ ?_
  · refine QRun_b [.slice acode code.length ccode] 0 _ (by kernel_rfl) (fun w => by kernel_rfl) ?_
    refine QRun_y (.bool x1) (by kernel_rfl) (Y_callq (f := 42) (args := #[.slice acode code.length ccode]) (v := .bool x1) (by kernel_rfl) (w_laws_big h code acode ccode rcode _ _ hx1)) ?_
    exact QRun_done [0, 29] (by kernel_rfl) (by kernel_rfl)
  refine Run_cond (b := x1) (by kernel_rfl) (fun hb1 => ?_) (fun hb1 => ?_)
  · have hF := (M.ite_some hF).1 hb1
    refine Run_seq ?_
    refine Run_reg 1 (by kernel_rfl) (L' := [(2, .bool true)]) ?_ ?_
    · refine QRun_b [.bool true] 0 _ (by kernel_rfl) (fun w => by kernel_rfl) ?_
      exact QRun_done [2] (by kernel_rfl) (by kernel_rfl)
    have hF := M.ret_some hF
    subst hF
    exact Run_ret1 rfl (ResV_tmp (v := .bool true) (by kernel_rfl)) ⟨rfl, H0⟩
  · have hF := (M.ite_some hF).2 hb1
    refine Run_skip ?_
    refine Run_seq ?_
    refine Run_ops ?_
    refine Run_b [.slice acode code.length ccode] 0 _ (by kernel_rfl) (fun w => by kernel_rfl) ?_
    obtain ⟨x2, hx2, hF⟩ := M.bind_some hF
    refine Run_E (by kernel_rfl) ?_
    refine E_call (f := 54) (args := #[.slice acode code.length ccode]) (w_spec_DrawAddPolynomials h code acode ccode rcode _ _ hx2) (by kernel_rfl) (fun v1 h1 hp1 => ?_)
    obtain ⟨a1, c1, a2, c2, rfl, H1⟩ := hp1
    have H2 : Hold h h1 [own cd2 a1 x2.1.length c1 x2.1, own cd2 a2 x2.2.length c2 x2.2] := H0.call H1 rfl
    refine Run_b [.tuple #[.slice a1 x2.1.length c1, .slice a2 x2.2.length c2], .slice a1 x2.1.length c1, .slice a2 x2.2.length c2, .slice a1 x2.1.length c1, .slice a2 x2.2.length c2] 2 _ (by kernel_rfl) (fun w => by kernel_rfl) ?_
    refine Run_nil (by kernel_rfl) ?_
    refine Run_keep [0, 3, 4] (L' := [(0, .slice acode code.length ccode), (3, .slice a1 x2.1.length c1), (4, .slice a2 x2.2.length c2)]) (by kernel_rfl) ?_
    refine Run_seq ?_
    refine Run_ops ?_
    refine Run_b [.slice a1 x2.1.length c1, .slice a2 x2.2.length c2] 0 _ (by kernel_rfl) (fun w => by kernel_rfl) ?_
    obtain ⟨x3, hx3, hF⟩ := M.bind_some hF
    refine Run_E (by kernel_rfl) ?_
    refine E_call (f := 55) (args := #[.slice a1 x2.1.length c1, .slice a2 x2.2.length c2]) (w_impl_AddPolynomials h1 x2.1 a1 c1 (H2.rd 0 rfl) x2.2 a2 c2 (H2.rd 1 rfl) _ _ hx3) (by kernel_rfl) (fun v2 h2 hp2 => ?_)
    obtain ⟨a3, c3, rfl, H3⟩ := hp2
    have H4 : Hold h h2 [own cd2 a3 x3.1.length c3 x3.1, own cd2 a1 x2.1.length c1 x2.1, own cd2 a2 x2.2.length c2 x2.2] := H2.call H3 rfl
    refine Run_b [.tuple #[.slice a3 x3.1.length c3, .int .i64 x3.2], .slice a3 x3.1.length c3, .int .i64 x3.2, .slice a3 x3.1.length c3, .int .i64 x3.2] 3 _ (by kernel_rfl) (fun w => by kernel_rfl) ?_
    refine Run_nil (by kernel_rfl) ?_
    refine Run_keep [0, 3, 4, 5, 6] (L' := [(0, .slice acode code.length ccode), (3, .slice a1 x2.1.length c1), (4, .slice a2 x2.2.length c2), (5, .slice a3 x3.1.length c3), (6, .int .i64 x3.2)]) (by kernel_rfl) ?_
    refine Run_seq ?_
    refine Run_ops ?_
    refine Run_b [.slice a1 x2.1.length c1, .slice a2 x2.2.length c2] 0 _ (by kernel_rfl) (fun w => by kernel_rfl) ?_
    obtain ⟨x4, hx4, hF⟩ := M.bind_some hF
    refine Run_E (by kernel_rfl) ?_
    refine E_call (f := 56) (args := #[.slice a1 x2.1.length c1, .slice a2 x2.2.length c2]) (w_spec_AddPolynomials h2 x2.1 a1 c1 (H4.rd 1 rfl) x2.2 a2 c2 (H4.rd 2 rfl) _ _ hx4) (by kernel_rfl) (fun v3 h3 hp3 => ?_)
    obtain ⟨a4, c4, rfl, H5⟩ := hp3
    have H6 : Hold h h3 [own cd2 a4 x4.1.length c4 x4.1, own cd2 a3 x3.1.length c3 x3.1, own cd2 a1 x2.1.length c1 x2.1, own cd2 a2 x2.2.length c2 x2.2] := H4.call H5 rfl
    refine Run_b [.tuple #[.slice a4 x4.1.length c4, .int .i64 x4.2], .slice a4 x4.1.length c4, .int .i64 x4.2, .slice a4 x4.1.length c4, .int .i64 x4.2] 3 _ (by kernel_rfl) (fun w => by kernel_rfl) ?_
    refine Run_nil (by kernel_rfl) ?_
    refine Run_keep [0, 3, 4, 5, 6, 7, 8] (L' := [(0, .slice acode code.length ccode), (3, .slice a1 x2.1.length c1), (4, .slice a2 x2.2.length c2), (5, .slice a3 x3.1.length c3), (6, .int .i64 x3.2), (7, .slice a4 x4.1.length c4), (8, .int .i64 x4.2)]) (by kernel_rfl) ?_
    refine Run_seq ?_
    refine Run_ops ?_
    refine Run_b [.slice a1 x2.1.length c1, .slice a2 x2.2.length c2] 0 _ (by kernel_rfl) (fun w => by kernel_rfl) ?_
    obtain ⟨x5, hx5, hF⟩ := M.bind_some hF
    refine Run_E (by kernel_rfl) ?_
    refine E_call (f := 57) (args := #[.slice a1 x2.1.length c1, .slice a2 x2.2.length c2]) (w_impl_MultiplyPolynomials h3 x2.1 a1 c1 (H6.rd 2 rfl) x2.2 a2 c2 (H6.rd 3 rfl) _ _ hx5) (by kernel_rfl) (fun v4 h4 hp4 => ?_)
    obtain ⟨a5, c5, rfl, H7⟩ := hp4
    have H8 : Hold h h4 [own cd2 a5 x5.1.length c5 x5.1, own cd2 a4 x4.1.length c4 x4.1, own cd2 a3 x3.1.length c3 x3.1, own cd2 a1 x2.1.length c1 x2.1, own cd2 a2 x2.2.length c2 x2.2] := H6.call H7 rfl
    refine Run_b [.tuple #[.slice a5 x5.1.length c5, .int .i64 x5.2], .slice a5 x5.1.length c5, .int .i64 x5.2, .slice a5 x5.1.length c5, .int .i64 x5.2] 3 _ (by kernel_rfl) (fun w => by kernel_rfl) ?_
    refine Run_nil (by kernel_rfl) ?_
    refine Run_keep [0, 3, 4, 5, 6, 7, 8, 9, 10] (L' := [(0, .slice acode code.length ccode), (3, .slice a1 x2.1.length c1), (4, .slice a2 x2.2.length c2), (5, .slice a3 x3.1.length c3), (6, .int .i64 x3.2), (7, .slice a4 x4.1.length c4), (8, .int .i64 x4.2), (9, .slice a5 x5.1.length c5), (10, .int .i64 x5.2)]) (by kernel_rfl) ?_
    refine Run_seq ?_
    refine Run_ops ?_
    refine Run_b [.slice a1 x2.1.length c1, .slice a2 x2.2.length c2] 0 _ (by kernel_rfl) (fun w => by kernel_rfl) ?_
    obtain ⟨x6, hx6, hF⟩ := M.bind_some hF
    refine Run_E (by kernel_rfl) ?_
    refine E_call (f := 58) (args := #[.slice a1 x2.1.length c1, .slice a2 x2.2.length c2]) (w_spec_MultiplyPolynomials h4 x2.1 a1 c1 (H8.rd 3 rfl) x2.2 a2 c2 (H8.rd 4 rfl) _ _ hx6) (by kernel_rfl) (fun v5 h5 hp5 => ?_)
    obtain ⟨a6, c6, rfl, H9⟩ := hp5
    have H10 : Hold h h5 [own cd2 a6 x6.1.length c6 x6.1, own cd2 a5 x5.1.length c5 x5.1, own cd2 a4 x4.1.length c4 x4.1, own cd2 a3 x3.1.length c3 x3.1, own cd2 a1 x2.1.length c1 x2.1, own cd2 a2 x2.2.length c2 x2.2] := H8.call H9 rfl
    refine Run_b [.tuple #[.slice a6 x6.1.length c6, .int .i64 x6.2], .slice a6 x6.1.length c6, .int .i64 x6.2, .slice a6 x6.1.length c6, .int .i64 x6.2] 3 _ (by kernel_rfl) (fun w => by kernel_rfl) ?_
    refine Run_nil (by kernel_rfl) ?_
    refine Run_keep [0, 3, 4, 5, 6, 7, 8, 9, 10, 11, 12] (L' := [(0, .slice acode code.length ccode), (3, .slice a1 x2.1.length c1), (4, .slice a2 x2.2.length c2), (5, .slice a3 x3.1.length c3), (6, .int .i64 x3.2), (7, .slice a4 x4.1.length c4), (8, .int .i64 x4.2), (9, .slice a5 x5.1.length c5), (10, .int .i64 x5.2), (11, .slice a6 x6.1.length c6), (12, .int .i64 x6.2)]) (by kernel_rfl) ?_
    refine Run_seq ?_
    refine Run_ops ?_
    refine Run_b [.slice acode code.length ccode] 0 _ (by kernel_rfl) (fun w => by kernel_rfl) ?_
    obtain ⟨x7, hx7, hF⟩ := M.bind_some hF
    refine Run_E (by kernel_rfl) ?_
    refine E_call (f := 59) (args := #[.slice acode code.length ccode]) (w_spec_DrawEvaluatePolynomial h5 code acode ccode (rcode.at H10.ext) _ _ hx7) (by kernel_rfl) (fun v6 h6 hp6 => ?_)
    obtain ⟨a7, c7, rfl, H11⟩ := hp6
    have H12 : Hold h h6 [own cd2 a7 x7.1.length c7 x7.1, own cd2 a6 x6.1.length c6 x6.1, own cd2 a5 x5.1.length c5 x5.1, own cd2 a4 x4.1.length c4 x4.1, own cd2 a3 x3.1.length c3 x3.1, own cd2 a1 x2.1.length c1 x2.1, own cd2 a2 x2.2.length c2 x2.2] := H10.call H11 rfl
    refine Run_b [.tuple #[.slice a7 x7.1.length c7, .int .i64 x7.2], .slice a7 x7.1.length c7, .int .i64 x7.2, .slice a7 x7.1.length c7, .int .i64 x7.2] 2 _ (by kernel_rfl) (fun w => by kernel_rfl) ?_
    refine Run_nil (by kernel_rfl) ?_
    refine Run_keep [0, 3, 4, 5, 6, 7, 8, 9, 10, 11, 12, 13, 14] (L' := [(0, .slice acode code.length ccode), (3, .slice a1 x2.1.length c1), (4, .slice a2 x2.2.length c2), (5, .slice a3 x3.1.length c3), (6, .int .i64 x3.2), (7, .slice a4 x4.1.length c4), (8, .int .i64 x4.2), (9, .slice a5 x5.1.length c5), (10, .int .i64 x5.2), (11, .slice a6 x6.1.length c6), (12, .int .i64 x6.2), (13, .slice a7 x7.1.length c7), (14, .int .i64 x7.2)]) (by kernel_rfl) ?_
    refine Run_seq ?_
    obtain ⟨x8, hx8, hF⟩ := M.bind_some hF
    refine Run_reg 8 (by kernel_rfl) (L' := [(0, .slice acode code.length ccode), (3, .slice a1 x2.1.length c1), (4, .slice a2 x2.2.length c2), (5, .slice a3 x3.1.length c3), (6, .int .i64 x3.2), (7, .slice a4 x4.1.length c4), (8, .int .i64 x4.2), (9, .slice a5 x5.1.length c5), (10, .int .i64 x5.2), (11, .slice a6 x6.1.length c6), (12, .int .i64 x6.2), (13, .slice a7 x7.1.length c7), (14, .int .i64 x7.2), (15, .int .i64 x8.1), (16, .int .i64 x8.2)]) ?_ ?_
    · refine QRun_b [.slice a7 x7.1.length c7, .int .i64 x7.2] 0 _ (by kernel_rfl) (fun w => by kernel_rfl) ?_
      refine QRun_y (.tuple #[.int .i64 x8.1, .int .i64 x8.2]) (by kernel_rfl) (Y_callq (f := 60) (args := #[.slice a7 x7.1.length c7, .int .i64 x7.2]) (v := .tuple #[.int .i64 x8.1, .int .i64 x8.2]) (by kernel_rfl) (w_impl_EvaluatePolynomial h6 x7.1 a7 c7 (H12.rd 0 rfl) x7.2 _ _ hx8)) ?_
      refine QRun_b [.tuple #[.int .i64 x8.1, .int .i64 x8.2], .int .i64 x8.1, .int .i64 x8.2, .int .i64 x8.1, .int .i64 x8.2] 3 _ (by kernel_rfl) (fun w => by kernel_rfl) ?_
      exact QRun_done [0, 3, 4, 5, 6, 7, 8, 9, 10, 11, 12, 13, 14, 15, 16] (by kernel_rfl) (by kernel_rfl)
    refine Run_seq ?_
    obtain ⟨x9, hx9, hF⟩ := M.bind_some hF
    refine Run_reg 8 (by kernel_rfl) (L' := [(0, .slice acode code.length ccode), (3, .slice a1 x2.1.length c1), (4, .slice a2 x2.2.length c2), (5, .slice a3 x3.1.length c3), (6, .int .i64 x3.2), (7, .slice a4 x4.1.length c4), (8, .int .i64 x4.2), (9, .slice a5 x5.1.length c5), (10, .int .i64 x5.2), (11, .slice a6 x6.1.length c6), (12, .int .i64 x6.2), (15, .int .i64 x8.1), (16, .int .i64 x8.2), (17, .int .i64 x9.1), (18, .int .i64 x9.2)]) ?_ ?_
    · refine QRun_b [.slice a7 x7.1.length c7, .int .i64 x7.2] 0 _ (by kernel_rfl) (fun w => by kernel_rfl) ?_
      refine QRun_y (.tuple #[.int .i64 x9.1, .int .i64 x9.2]) (by kernel_rfl) (Y_callq (f := 61) (args := #[.slice a7 x7.1.length c7, .int .i64 x7.2]) (v := .tuple #[.int .i64 x9.1, .int .i64 x9.2]) (by kernel_rfl) (w_spec_EvaluatePolynomial h6 x7.1 a7 c7 (H12.rd 0 rfl) x7.2 _ _ hx9)) ?_
      refine QRun_b [.tuple #[.int .i64 x9.1, .int .i64 x9.2], .int .i64 x9.1, .int .i64 x9.2, .int .i64 x9.1, .int .i64 x9.2] 3 _ (by kernel_rfl) (fun w => by kernel_rfl) ?_
      exact QRun_done [0, 3, 4, 5, 6, 7, 8, 9, 10, 11, 12, 15, 16, 17, 18] (by kernel_rfl) (by kernel_rfl)
    refine Run_seq ?_
    refine Run_seq ?_
    obtain ⟨x10, gx10, hF⟩ := M.bind_some hF
    obtain ⟨x13, gx13, hF⟩ := M.bind_some hF
    obtain ⟨x17, gx17, hF⟩ := M.bind_some hF
    refine Run_reg 37 (by kernel_rfl) (L' := [(0, .slice acode code.length ccode), (3, .slice a1 x2.1.length c1), (4, .slice a2 x2.2.length c2), (5, .slice a3 x3.1.length c3), (6, .int .i64 x3.2), (9, .slice a5 x5.1.length c5), (10, .int .i64 x5.2), (112, .bool x17)]) ?_ ?_
    · refine QRun_b [.int .i64 x3.2, .int .i64 x4.2, .bool (x3.2 != x4.2)] 0 _ (by kernel_rfl) (fun w => by kernel_rfl) ?_
      refine QRun_seq 9 [(0, .slice acode code.length ccode), (3, .slice a1 x2.1.length c1), (4, .slice a2 x2.2.length c2), (5, .slice a3 x3.1.length c3), (6, .int .i64 x3.2), (9, .slice a5 x5.1.length c5), (10, .int .i64 x5.2), (11, .slice a6 x6.1.length c6), (12, .int .i64 x6.2), (15, .int .i64 x8.1), (16, .int .i64 x8.2), (17, .int .i64 x9.1), (18, .int .i64 x9.2), (84, .bool x10)] ?_ ?_
      · rcases Bool.eq_false_or_eq_true (x3.2 != x4.2) with hb2 | hb2
        · refine QRun_bool (x3.2 != x4.2) true (by kernel_rfl) (fun w => by kernel_rfl) hb2 ?_
          have gx10 := M.ret_some ((M.ite_some gx10).1 hb2)
          refine QRun_n (by kernel_rfl) ?_
          refine QRun_n (by kernel_rfl) ?_
          refine QRun_n (by kernel_rfl) ?_
          refine QRun_n (by kernel_rfl) ?_
          refine QRun_bool true x10 (by kernel_rfl) (fun w => by kernel_rfl) gx10 ?_
          exact QRun_done [0, 3, 4, 5, 6, 9, 10, 11, 12, 15, 16, 17, 18, 84] (by kernel_rfl) (by kernel_rfl)
        · refine QRun_bool (x3.2 != x4.2) false (by kernel_rfl) (fun w => by kernel_rfl) hb2 ?_
          have gx10 := (M.ite_some gx10).2 hb2
          obtain ⟨x11, hx10, gx10⟩ := M.bind_some gx10
          have gx10 := M.ret_some gx10
          refine QRun_b [.slice a3 x3.1.length c3, .slice a4 x4.1.length c4] 4 _ (by kernel_rfl) (fun w => by kernel_rfl) ?_
          refine QRun_y (.bool x11) (by kernel_rfl) (Y_callq (f := 46) (args := #[.slice a3 x3.1.length c3, .slice a4 x4.1.length c4]) (v := .bool x11) (by kernel_rfl) (w_laws_likeInts h6 x3.1 a3 c3 (H12.rd 4 rfl) x4.1 a4 c4 (H12.rd 3 rfl) _ _ hx10)) ?_
          refine QRun_b [.bool (!x11)] 7 _ (by kernel_rfl) (fun w => by kernel_rfl) ?_
          refine QRun_bool (!x11) x10 (by kernel_rfl) (fun w => by kernel_rfl) gx10 ?_
          exact QRun_done [0, 3, 4, 5, 6, 9, 10, 11, 12, 15, 16, 17, 18, 84] (by kernel_rfl) (by kernel_rfl)
      refine QRun_seq 14 [(0, .slice acode code.length ccode), (3, .slice a1 x2.1.length c1), (4, .slice a2 x2.2.length c2), (5, .slice a3 x3.1.length c3), (6, .int .i64 x3.2), (9, .slice a5 x5.1.length c5), (10, .int .i64 x5.2), (11, .slice a6 x6.1.length c6), (15, .int .i64 x8.1), (16, .int .i64 x8.2), (17, .int .i64 x9.1), (18, .int .i64 x9.2), (89, .bool (x10 || (x5.2 != x6.2)))] ?_ ?_
      · rcases Bool.eq_false_or_eq_true x10 with hb3 | hb3
        · refine QRun_bool x10 true (by kernel_rfl) (fun w => by kernel_rfl) hb3 ?_
          refine QRun_n (by kernel_rfl) ?_
          refine QRun_n (by kernel_rfl) ?_
          refine QRun_n (by kernel_rfl) ?_
          refine QRun_bool true (x10 || (x5.2 != x6.2)) (by kernel_rfl) (fun w => by kernel_rfl) (by rw [hb3]; rfl) ?_
          exact QRun_done [0, 3, 4, 5, 6, 9, 10, 11, 15, 16, 17, 18, 89] (by kernel_rfl) (by kernel_rfl)
        · refine QRun_bool x10 false (by kernel_rfl) (fun w => by kernel_rfl) hb3 ?_
          refine QRun_b [.int .i64 x5.2, .int .i64 x6.2, .bool (x5.2 != x6.2)] 10 _ (by kernel_rfl) (fun w => by kernel_rfl) ?_
          refine QRun_bool (x5.2 != x6.2) (x10 || (x5.2 != x6.2)) (by kernel_rfl) (fun w => by kernel_rfl) (by rw [hb3]; rfl) ?_
          exact QRun_done [0, 3, 4, 5, 6, 9, 10, 11, 15, 16, 17, 18, 89] (by kernel_rfl) (by kernel_rfl)
      refine QRun_seq 20 [(0, .slice acode code.length ccode), (3, .slice a1 x2.1.length c1), (4, .slice a2 x2.2.length c2), (5, .slice a3 x3.1.length c3), (6, .int .i64 x3.2), (9, .slice a5 x5.1.length c5), (10, .int .i64 x5.2), (15, .int .i64 x8.1), (16, .int .i64 x8.2), (17, .int .i64 x9.1), (18, .int .i64 x9.2), (95, .bool x13)] ?_ ?_
      · rcases Bool.eq_false_or_eq_true (x10 || (x5.2 != x6.2)) with hb4 | hb4
        · refine QRun_bool (x10 || (x5.2 != x6.2)) true (by kernel_rfl) (fun w => by kernel_rfl) hb4 ?_
          have gx13 := M.ret_some ((M.ite_some gx13).1 hb4)
          refine QRun_n (by kernel_rfl) ?_
          refine QRun_n (by kernel_rfl) ?_
          refine QRun_n (by kernel_rfl) ?_
          refine QRun_n (by kernel_rfl) ?_
          refine QRun_bool true x13 (by kernel_rfl) (fun w => by kernel_rfl) gx13 ?_
          exact QRun_done [0, 3, 4, 5, 6, 9, 10, 15, 16, 17, 18, 95] (by kernel_rfl) (by kernel_rfl)
        · refine QRun_bool (x10 || (x5.2 != x6.2)) false (by kernel_rfl) (fun w => by kernel_rfl) hb4 ?_
          have gx13 := (M.ite_some gx13).2 hb4
          obtain ⟨x14, hx11, gx13⟩ := M.bind_some gx13
          have gx13 := M.ret_some gx13
          refine QRun_b [.slice a5 x5.1.length c5, .slice a6 x6.1.length c6] 15 _ (by kernel_rfl) (fun w => by kernel_rfl) ?_
          refine QRun_y (.bool x14) (by kernel_rfl) (Y_callq (f := 46) (args := #[.slice a5 x5.1.length c5, .slice a6 x6.1.length c6]) (v := .bool x14) (by kernel_rfl) (w_laws_likeInts h6 x5.1 a5 c5 (H12.rd 2 rfl) x6.1 a6 c6 (H12.rd 1 rfl) _ _ hx11)) ?_
          refine QRun_b [.bool (!x14)] 18 _ (by kernel_rfl) (fun w => by kernel_rfl) ?_
          refine QRun_bool (!x14) x13 (by kernel_rfl) (fun w => by kernel_rfl) gx13 ?_
          exact QRun_done [0, 3, 4, 5, 6, 9, 10, 15, 16, 17, 18, 95] (by kernel_rfl) (by kernel_rfl)
      refine QRun_seq 25 [(0, .slice acode code.length ccode), (3, .slice a1 x2.1.length c1), (4, .slice a2 x2.2.length c2), (5, .slice a3 x3.1.length c3), (6, .int .i64 x3.2), (9, .slice a5 x5.1.length c5), (10, .int .i64 x5.2), (15, .int .i64 x8.1), (17, .int .i64 x9.1), (100, .bool (x13 || (x8.2 != x9.2)))] ?_ ?_
      · rcases Bool.eq_false_or_eq_true x13 with hb5 | hb5
        · refine QRun_bool x13 true (by kernel_rfl) (fun w => by kernel_rfl) hb5 ?_
          refine QRun_n (by kernel_rfl) ?_
          refine QRun_n (by kernel_rfl) ?_
          refine QRun_n (by kernel_rfl) ?_
          refine QRun_bool true (x13 || (x8.2 != x9.2)) (by kernel_rfl) (fun w => by kernel_rfl) (by rw [hb5]; rfl) ?_
          exact QRun_done [0, 3, 4, 5, 6, 9, 10, 15, 17, 100] (by kernel_rfl) (by kernel_rfl)
        · refine QRun_bool x13 false (by kernel_rfl) (fun w => by kernel_rfl) hb5 ?_
          refine QRun_b [.int .i64 x8.2, .int .i64 x9.2, .bool (x8.2 != x9.2)] 21 _ (by kernel_rfl) (fun w => by kernel_rfl) ?_
          refine QRun_bool (x8.2 != x9.2) (x13 || (x8.2 != x9.2)) (by kernel_rfl) (fun w => by kernel_rfl) (by rw [hb5]; rfl) ?_
          exact QRun_done [0, 3, 4, 5, 6, 9, 10, 15, 17, 100] (by kernel_rfl) (by kernel_rfl)
      refine QRun_seq 30 [(0, .slice acode code.length ccode), (3, .slice a1 x2.1.length c1), (4, .slice a2 x2.2.length c2), (5, .slice a3 x3.1.length c3), (6, .int .i64 x3.2), (9, .slice a5 x5.1.length c5), (10, .int .i64 x5.2), (105, .bool ((x13 || (x8.2 != x9.2)) || (x8.1 != x9.1)))] ?_ ?_
      · rcases Bool.eq_false_or_eq_true (x13 || (x8.2 != x9.2)) with hb6 | hb6
        · refine QRun_bool (x13 || (x8.2 != x9.2)) true (by kernel_rfl) (fun w => by kernel_rfl) hb6 ?_
          refine QRun_n (by kernel_rfl) ?_
          refine QRun_n (by kernel_rfl) ?_
          refine QRun_n (by kernel_rfl) ?_
          refine QRun_bool true ((x13 || (x8.2 != x9.2)) || (x8.1 != x9.1)) (by kernel_rfl) (fun w => by kernel_rfl) (by rw [hb6]; rfl) ?_
          exact QRun_done [0, 3, 4, 5, 6, 9, 10, 105] (by kernel_rfl) (by kernel_rfl)
        · refine QRun_bool (x13 || (x8.2 != x9.2)) false (by kernel_rfl) (fun w => by kernel_rfl) hb6 ?_
          refine QRun_b [.int .i64 x8.1, .int .i64 x9.1, .bool (x8.1 != x9.1)] 26 _ (by kernel_rfl) (fun w => by kernel_rfl) ?_
          refine QRun_bool (x8.1 != x9.1) ((x13 || (x8.2 != x9.2)) || (x8.1 != x9.1)) (by kernel_rfl) (fun w => by kernel_rfl) (by rw [hb6]; rfl) ?_
          exact QRun_done [0, 3, 4, 5, 6, 9, 10, 105] (by kernel_rfl) (by kernel_rfl)
      refine QRun_seq 37 [(0, .slice acode code.length ccode), (3, .slice a1 x2.1.length c1), (4, .slice a2 x2.2.length c2), (5, .slice a3 x3.1.length c3), (6, .int .i64 x3.2), (9, .slice a5 x5.1.length c5), (10, .int .i64 x5.2), (112, .bool x17)] ?_ ?_
      · rcases Bool.eq_false_or_eq_true ((x13 || (x8.2 != x9.2)) || (x8.1 != x9.1)) with hb7 | hb7
        · refine QRun_bool ((x13 || (x8.2 != x9.2)) || (x8.1 != x9.1)) true (by kernel_rfl) (fun w => by kernel_rfl) hb7 ?_
          have gx17 := M.ret_some ((M.ite_some gx17).1 hb7)
          refine QRun_n (by kernel_rfl) ?_
          refine QRun_n (by kernel_rfl) ?_
          refine QRun_n (by kernel_rfl) ?_
          refine QRun_n (by kernel_rfl) ?_
          refine QRun_n (by kernel_rfl) ?_
          refine QRun_bool true x17 (by kernel_rfl) (fun w => by kernel_rfl) gx17 ?_
          exact QRun_done [0, 3, 4, 5, 6, 9, 10, 112] (by kernel_rfl) (by kernel_rfl)
        · refine QRun_bool ((x13 || (x8.2 != x9.2)) || (x8.1 != x9.1)) false (by kernel_rfl) (fun w => by kernel_rfl) hb7 ?_
          have gx17 := (M.ite_some gx17).2 hb7
          obtain ⟨x18, hx12, gx17⟩ := M.bind_some gx17
          obtain ⟨x19, hx13, gx17⟩ := M.bind_some gx17
          have gx17 := M.ret_some gx17
          refine QRun_b [.slice a1 x2.1.length c1] 31 _ (by kernel_rfl) (fun w => by kernel_rfl) ?_
          refine QRun_y (.bool x18) (by kernel_rfl) (Y_callq (f := 62) (args := #[.slice a1 x2.1.length c1]) (v := .bool x18) (by kernel_rfl) (w_impl_IsPolynomial h6 x2.1 a1 c1 (H12.rd 5 rfl) _ _ hx12)) ?_
          refine QRun_b [.slice a1 x2.1.length c1] 33 _ (by kernel_rfl) (fun w => by kernel_rfl) ?_
          refine QRun_y (.bool x19) (by kernel_rfl) (Y_callq (f := 63) (args := #[.slice a1 x2.1.length c1]) (v := .bool x19) (by kernel_rfl) (w_spec_IsPolynomial h6 x2.1 a1 c1 (H12.rd 5 rfl) _ _ hx13)) ?_
          refine QRun_b [.bool (!(x18 == x19))] 35 _ (by kernel_rfl) (fun w => by kernel_rfl) ?_
          refine QRun_bool (!(x18 == x19)) x17 (by kernel_rfl) (fun w => by kernel_rfl) gx17 ?_
          exact QRun_done [0, 3, 4, 5, 6, 9, 10, 112] (by kernel_rfl) (by kernel_rfl)
      exact QRun_done [0, 3, 4, 5, 6, 9, 10, 112] (by kernel_rfl) (by kernel_rfl)
    refine Run_cond (b := x17) (by kernel_rfl) (fun hb8 => ?_) (fun hb8 => ?_)
    · have hF := (M.ite_some hF).1 hb8
      refine Run_seq ?_
      refine Run_reg 1 (by kernel_rfl) (L' := [(2, .bool false)]) ?_ ?_
      · refine QRun_b [.bool false] 0 _ (by kernel_rfl) (fun w => by kernel_rfl) ?_
        exact QRun_done [2] (by kernel_rfl) (by kernel_rfl)
      have hF := M.ret_some hF
      subst hF
      have H13 : Hold h h6 [] := H12.pick [] (by kernel_rfl)
      exact Run_ret1 rfl (ResV_tmp (v := .bool false) (by kernel_rfl)) ⟨rfl, H13⟩
    · have hF := (M.ite_some hF).2 hb8
      refine Run_skip ?_
      refine Run_seq ?_
      refine Run_seq ?_
      refine Run_reg 6 (by kernel_rfl) (L' := [(0, .slice acode code.length ccode), (3, .slice a1 x2.1.length c1), (4, .slice a2 x2.2.length c2), (5, .slice a3 x3.1.length c3), (9, .slice a5 x5.1.length c5), (118, .bool ((x3.2 != 0) || (x5.2 != 0)))]) ?_ ?_
      · refine QRun_b [.int .i64 x3.2, .bool (x3.2 != 0)] 0 _ (by kernel_rfl) (fun w => by kernel_rfl) ?_
        refine QRun_seq 6 [(0, .slice acode code.length ccode), (3, .slice a1 x2.1.length c1), (4, .slice a2 x2.2.length c2), (5, .slice a3 x3.1.length c3), (9, .slice a5 x5.1.length c5), (118, .bool ((x3.2 != 0) || (x5.2 != 0)))] ?_ ?_
        · rcases Bool.eq_false_or_eq_true (x3.2 != 0) with hb9 | hb9
          · refine QRun_bool (x3.2 != 0) true (by kernel_rfl) (fun w => by kernel_rfl) hb9 ?_
            refine QRun_n (by kernel_rfl) ?_
            refine QRun_n (by kernel_rfl) ?_
            refine QRun_bool true ((x3.2 != 0) || (x5.2 != 0)) (by kernel_rfl) (fun w => by kernel_rfl) (by rw [hb9]; rfl) ?_
            exact QRun_done [0, 3, 4, 5, 9, 118] (by kernel_rfl) (by kernel_rfl)
          · refine QRun_bool (x3.2 != 0) false (by kernel_rfl) (fun w => by kernel_rfl) hb9 ?_
            refine QRun_b [.int .i64 x5.2, .bool (x5.2 != 0)] 3 _ (by kernel_rfl) (fun w => by kernel_rfl) ?_
            refine QRun_bool (x5.2 != 0) ((x3.2 != 0) || (x5.2 != 0)) (by kernel_rfl) (fun w => by kernel_rfl) (by rw [hb9]; rfl) ?_
            exact QRun_done [0, 3, 4, 5, 9, 118] (by kernel_rfl) (by kernel_rfl)
        exact QRun_done [0, 3, 4, 5, 9, 118] (by kernel_rfl) (by kernel_rfl)
      refine Run_cond (b := (x3.2 != 0) || (x5.2 != 0)) (by kernel_rfl) (fun hb10 => ?_) (fun hb10 => ?_)
      · have hF := (M.ite_some hF).1 hb10
        refine Run_seq ?_
        refine Run_reg 1 (by kernel_rfl) (L' := [(2, .bool true)]) ?_ ?_
        · refine QRun_b [.bool true] 0 _ (by kernel_rfl) (fun w => by kernel_rfl) ?_
          exact QRun_done [2] (by kernel_rfl) (by kernel_rfl)
        have hF := M.ret_some hF
        subst hF
        have H14 : Hold h h6 [] := H12.pick [] (by kernel_rfl)
        exact Run_ret1 rfl (ResV_tmp (v := .bool true) (by kernel_rfl)) ⟨rfl, H14⟩
      · have hF := (M.ite_some hF).2 hb10
        refine Run_skip ?_
        refine Run_seq ?_
        refine Run_ops ?_
        refine Run_b [.slice acode code.length ccode] 0 _ (by kernel_rfl) (fun w => by kernel_rfl) ?_
        obtain ⟨x21, hx14, hF⟩ := M.bind_some hF
        refine Run_E (by kernel_rfl) ?_
        refine E_call (f := 64) (args := #[.slice acode code.length ccode, .int .u64 901]) (w_laws_roll h6 code acode ccode (rcode.at H12.ext) 901 _ _ hx14) (by kernel_rfl) (fun v7 h7 hp7 => ?_)
        obtain ⟨b1, a8, c8, rfl, hd1, H15⟩ := hp7
        have H16 : Hold h h7 [box b1 123 [.slice a8 x21.b.length c8, .int .i64 x21.i, .int .u64 x21.h], own cd2 a7 x7.1.length c7 x7.1, own cd2 a6 x6.1.length c6 x6.1, own cd2 a5 x5.1.length c5 x5.1, own cd2 a4 x4.1.length c4 x4.1, own cd2 a3 x3.1.length c3 x3.1, own cd2 a1 x2.1.length c1 x2.1, own cd2 a2 x2.2.length c2 x2.2] := H12.call H15 rfl
        have r1 := rcode.alias hd1
        obtain ⟨x22, hx15, hF⟩ := M.bind_some hF
        have H17 : Hold h h7 [box b1 123 [.slice a8 x21.b.length c8, .int .i64 x21.i, .int .u64 x21.h], bun [own cd2 a7 x7.1.length c7 x7.1, own cd2 a6 x6.1.length c6 x6.1, own cd2 a5 x5.1.length c5 x5.1, own cd2 a4 x4.1.length c4 x4.1, own cd2 a3 x3.1.length c3 x3.1, own cd2 a1 x2.1.length c1 x2.1, own cd2 a2 x2.2.length c2 x2.2]] := Hold.bundle (S := [box b1 123 [.slice a8 x21.b.length c8, .int .i64 x21.i, .int .u64 x21.h]]) (R := [own cd2 a7 x7.1.length c7 x7.1, own cd2 a6 x6.1.length c6 x6.1, own cd2 a5 x5.1.length c5 x5.1, own cd2 a4 x4.1.length c4 x4.1, own cd2 a3 x3.1.length c3 x3.1, own cd2 a1 x2.1.length c1 x2.1, own cd2 a2 x2.2.length c2 x2.2]) H16
        refine Run_E (by kernel_rfl) ?_
        refine E_call (f := 65) (args := #[.pointer (some ⟨b1, 0, none⟩), .int .i64 41]) (w_laws_dice_below h h7 _ x21 b1 a8 c8 r1 41 H17 _ _ hx15) (by kernel_rfl) (fun v8 h8 hp8 => ?_)
        obtain ⟨rfl, H18⟩ := hp8
        have H19 : Hold h h8 [box b1 123 [.slice a8 x21.b.length c8, .int .i64 x22.2.i, .int .u64 x22.2.h], own cd2 a7 x7.1.length c7 x7.1, own cd2 a6 x6.1.length c6 x6.1, own cd2 a5 x5.1.length c5 x5.1, own cd2 a4 x4.1.length c4 x4.1, own cd2 a3 x3.1.length c3 x3.1, own cd2 a1 x2.1.length c1 x2.1, own cd2 a2 x2.2.length c2 x2.2] := Hold.unbundle (S := [box b1 123 [.slice a8 x21.b.length c8, .int .i64 x22.2.i, .int .u64 x22.2.h]]) (R := [own cd2 a7 x7.1.length c7 x7.1, own cd2 a6 x6.1.length c6 x6.1, own cd2 a5 x5.1.length c5 x5.1, own cd2 a4 x4.1.length c4 x4.1, own cd2 a3 x3.1.length c3 x3.1, own cd2 a1 x2.1.length c1 x2.1, own cd2 a2 x2.2.length c2 x2.2]) H18 (Hold.tailBase (S := [box b1 123 [.slice a8 x21.b.length c8, .int .i64 x21.i, .int .u64 x21.h]]) (R := [own cd2 a7 x7.1.length c7 x7.1, own cd2 a6 x6.1.length c6 x6.1, own cd2 a5 x5.1.length c5 x5.1, own cd2 a4 x4.1.length c4 x4.1, own cd2 a3 x3.1.length c3 x3.1, own cd2 a1 x2.1.length c1 x2.1, own cd2 a2 x2.2.length c2 x2.2]) H16)
        refine Run_b [.int .i64 (w64 (x22.1 - 20)), .int .i64 (w64 (x22.1 - 20))] 3 _ (by kernel_rfl) (fun w => by kernel_rfl) ?_
        refine Run_nil (by kernel_rfl) ?_
        refine Run_keep [3, 4, 5, 9, 19] (L' := [(3, .slice a1 x2.1.length c1), (4, .slice a2 x2.2.length c2), (5, .slice a3 x3.1.length c3), (9, .slice a5 x5.1.length c5), (19, .int .i64 (w64 (x22.1 - 20)))]) (by kernel_rfl) ?_
        refine Run_seq ?_
        obtain ⟨x23, hx16, hF⟩ := M.bind_some hF
        refine Run_reg 8 (by kernel_rfl) (L' := [(4, .slice a2 x2.2.length c2), (5, .slice a3 x3.1.length c3), (9, .slice a5 x5.1.length c5), (19, .int .i64 (w64 (x22.1 - 20))), (20, .int .i64 x23.1), (21, .int .i64 x23.2)]) ?_ ?_
        · refine QRun_b [.slice a1 x2.1.length c1, .int .i64 (w64 (x22.1 - 20))] 0 _ (by kernel_rfl) (fun w => by kernel_rfl) ?_
          refine QRun_y (.tuple #[.int .i64 x23.1, .int .i64 x23.2]) (by kernel_rfl) (Y_callq (f := 60) (args := #[.slice a1 x2.1.length c1, .int .i64 (w64 (x22.1 - 20))]) (v := .tuple #[.int .i64 x23.1, .int .i64 x23.2]) (by kernel_rfl) (w_impl_EvaluatePolynomial h8 x2.1 a1 c1 (H19.rd 6 rfl) (w64 (x22.1 - 20)) _ _ hx16)) ?_
          refine QRun_b [.tuple #[.int .i64 x23.1, .int .i64 x23.2], .int .i64 x23.1, .int .i64 x23.2, .int .i64 x23.1, .int .i64 x23.2] 3 _ (by kernel_rfl) (fun w => by kernel_rfl) ?_
          exact QRun_done [4, 5, 9, 19, 20, 21] (by kernel_rfl) (by kernel_rfl)
        refine Run_seq ?_
        obtain ⟨x24, hx17, hF⟩ := M.bind_some hF
        refine Run_reg 8 (by kernel_rfl) (L' := [(5, .slice a3 x3.1.length c3), (9, .slice a5 x5.1.length c5), (19, .int .i64 (w64 (x22.1 - 20))), (20, .int .i64 x23.1), (21, .int .i64 x23.2), (22, .int .i64 x24.1), (23, .int .i64 x24.2)]) ?_ ?_
        · refine QRun_b [.slice a2 x2.2.length c2, .int .i64 (w64 (x22.1 - 20))] 0 _ (by kernel_rfl) (fun w => by kernel_rfl) ?_
          refine QRun_y (.tuple #[.int .i64 x24.1, .int .i64 x24.2]) (by kernel_rfl) (Y_callq (f := 60) (args := #[.slice a2 x2.2.length c2, .int .i64 (w64 (x22.1 - 20))]) (v := .tuple #[.int .i64 x24.1, .int .i64 x24.2]) (by kernel_rfl) (w_impl_EvaluatePolynomial h8 x2.2 a2 c2 (H19.rd 7 rfl) (w64 (x22.1 - 20)) _ _ hx17)) ?_
          refine QRun_b [.tuple #[.int .i64 x24.1, .int .i64 x24.2], .int .i64 x24.1, .int .i64 x24.2, .int .i64 x24.1, .int .i64 x24.2] 3 _ (by kernel_rfl) (fun w => by kernel_rfl) ?_
          exact QRun_done [5, 9, 19, 20, 21, 22, 23] (by kernel_rfl) (by kernel_rfl)
        refine Run_seq ?_
        obtain ⟨x25, hx18, hF⟩ := M.bind_some hF
        refine Run_reg 8 (by kernel_rfl) (L' := [(9, .slice a5 x5.1.length c5), (19, .int .i64 (w64 (x22.1 - 20))), (20, .int .i64 x23.1), (21, .int .i64 x23.2), (22, .int .i64 x24.1), (23, .int .i64 x24.2), (24, .int .i64 x25.1), (25, .int .i64 x25.2)]) ?_ ?_
        · refine QRun_b [.slice a3 x3.1.length c3, .int .i64 (w64 (x22.1 - 20))] 0 _ (by kernel_rfl) (fun w => by kernel_rfl) ?_
          refine QRun_y (.tuple #[.int .i64 x25.1, .int .i64 x25.2]) (by kernel_rfl) (Y_callq (f := 60) (args := #[.slice a3 x3.1.length c3, .int .i64 (w64 (x22.1 - 20))]) (v := .tuple #[.int .i64 x25.1, .int .i64 x25.2]) (by kernel_rfl) (w_impl_EvaluatePolynomial h8 x3.1 a3 c3 (H19.rd 5 rfl) (w64 (x22.1 - 20)) _ _ hx18)) ?_
          refine QRun_b [.tuple #[.int .i64 x25.1, .int .i64 x25.2], .int .i64 x25.1, .int .i64 x25.2, .int .i64 x25.1, .int .i64 x25.2] 3 _ (by kernel_rfl) (fun w => by kernel_rfl) ?_
          exact QRun_done [9, 19, 20, 21, 22, 23, 24, 25] (by kernel_rfl) (by kernel_rfl)
        refine Run_seq ?_
        obtain ⟨x26, hx19, hF⟩ := M.bind_some hF
        refine Run_reg 8 (by kernel_rfl) (L' := [(20, .int .i64 x23.1), (21, .int .i64 x23.2), (22, .int .i64 x24.1), (23, .int .i64 x24.2), (24, .int .i64 x25.1), (25, .int .i64 x25.2), (26, .int .i64 x26.1), (27, .int .i64 x26.2)]) ?_ ?_
        · refine QRun_b [.slice a5 x5.1.length c5, .int .i64 (w64 (x22.1 - 20))] 0 _ (by kernel_rfl) (fun w => by kernel_rfl) ?_
          refine QRun_y (.tuple #[.int .i64 x26.1, .int .i64 x26.2]) (by kernel_rfl) (Y_callq (f := 60) (args := #[.slice a5 x5.1.length c5, .int .i64 (w64 (x22.1 - 20))]) (v := .tuple #[.int .i64 x26.1, .int .i64 x26.2]) (by kernel_rfl) (w_impl_EvaluatePolynomial h8 x5.1 a5 c5 (H19.rd 3 rfl) (w64 (x22.1 - 20)) _ _ hx19)) ?_
          refine QRun_b [.tuple #[.int .i64 x26.1, .int .i64 x26.2], .int .i64 x26.1, .int .i64 x26.2, .int .i64 x26.1, .int .i64 x26.2] 3 _ (by kernel_rfl) (fun w => by kernel_rfl) ?_
          exact QRun_done [20, 21, 22, 23, 24, 25, 26, 27] (by kernel_rfl) (by kernel_rfl)
        refine Run_seq ?_
        refine Run_seq ?_
        refine Run_reg 6 (by kernel_rfl) (L' := [(20, .int .i64 x23.1), (21, .int .i64 x23.2), (22, .int .i64 x24.1), (23, .int .i64 x24.2), (24, .int .i64 x25.1), (25, .int .i64 x25.2), (26, .int .i64 x26.1), (27, .int .i64 x26.2), (152, .bool ((x23.2 != 0) || (x24.2 != 0)))]) ?_ ?_
        · refine QRun_b [.int .i64 x23.2, .bool (x23.2 != 0)] 0 _ (by kernel_rfl) (fun w => by kernel_rfl) ?_
          refine QRun_seq 6 [(20, .int .i64 x23.1), (21, .int .i64 x23.2), (22, .int .i64 x24.1), (23, .int .i64 x24.2), (24, .int .i64 x25.1), (25, .int .i64 x25.2), (26, .int .i64 x26.1), (27, .int .i64 x26.2), (152, .bool ((x23.2 != 0) || (x24.2 != 0)))] ?_ ?_
          · rcases Bool.eq_false_or_eq_true (x23.2 != 0) with hb11 | hb11
            · refine QRun_bool (x23.2 != 0) true (by kernel_rfl) (fun w => by kernel_rfl) hb11 ?_
              refine QRun_n (by kernel_rfl) ?_
              refine QRun_n (by kernel_rfl) ?_
              refine QRun_bool true ((x23.2 != 0) || (x24.2 != 0)) (by kernel_rfl) (fun w => by kernel_rfl) (by rw [hb11]; rfl) ?_
              exact QRun_done [20, 21, 22, 23, 24, 25, 26, 27, 152] (by kernel_rfl) (by kernel_rfl)
            · refine QRun_bool (x23.2 != 0) false (by kernel_rfl) (fun w => by kernel_rfl) hb11 ?_
              refine QRun_b [.int .i64 x24.2, .bool (x24.2 != 0)] 3 _ (by kernel_rfl) (fun w => by kernel_rfl) ?_
              refine QRun_bool (x24.2 != 0) ((x23.2 != 0) || (x24.2 != 0)) (by kernel_rfl) (fun w => by kernel_rfl) (by rw [hb11]; rfl) ?_
              exact QRun_done [20, 21, 22, 23, 24, 25, 26, 27, 152] (by kernel_rfl) (by kernel_rfl)
          exact QRun_done [20, 21, 22, 23, 24, 25, 26, 27, 152] (by kernel_rfl) (by kernel_rfl)
        refine Run_cond (b := (x23.2 != 0) || (x24.2 != 0)) (by kernel_rfl) (fun hb12 => ?_) (fun hb12 => ?_)
        · have hF := (M.ite_some hF).1 hb12
          refine Run_seq ?_
          refine Run_reg 7 (by kernel_rfl) (L' := [(2, .bool ((x23.2 == 3) || (x24.2 == 3)))]) ?_ ?_
          · refine QRun_b [.int .i64 x23.2, .bool (x23.2 == 3)] 0 _ (by kernel_rfl) (fun w => by kernel_rfl) ?_
            refine QRun_seq 6 [(158, .bool ((x23.2 == 3) || (x24.2 == 3)))] ?_ ?_
            · rcases Bool.eq_false_or_eq_true (x23.2 == 3) with hb13 | hb13
              · refine QRun_bool (x23.2 == 3) true (by kernel_rfl) (fun w => by kernel_rfl) hb13 ?_
                refine QRun_n (by kernel_rfl) ?_
                refine QRun_n (by kernel_rfl) ?_
                refine QRun_bool true ((x23.2 == 3) || (x24.2 == 3)) (by kernel_rfl) (fun w => by kernel_rfl) (by rw [hb13]; rfl) ?_
                exact QRun_done [158] (by kernel_rfl) (by kernel_rfl)
              · refine QRun_bool (x23.2 == 3) false (by kernel_rfl) (fun w => by kernel_rfl) hb13 ?_
                refine QRun_b [.int .i64 x24.2, .bool (x24.2 == 3)] 3 _ (by kernel_rfl) (fun w => by kernel_rfl) ?_
                refine QRun_bool (x24.2 == 3) ((x23.2 == 3) || (x24.2 == 3)) (by kernel_rfl) (fun w => by kernel_rfl) (by rw [hb13]; rfl) ?_
                exact QRun_done [158] (by kernel_rfl) (by kernel_rfl)
            refine QRun_b [.bool ((x23.2 == 3) || (x24.2 == 3))] 6 _ (by kernel_rfl) (fun w => by kernel_rfl) ?_
            exact QRun_done [2] (by kernel_rfl) (by kernel_rfl)
          have hF := M.ret_some hF
          subst hF
          have H20 : Hold h h8 [] := H19.pick [] (by kernel_rfl)
          exact Run_ret1 rfl (ResV_tmp (v := .bool ((x23.2 == 3) || (x24.2 == 3))) (by kernel_rfl)) ⟨rfl, H20⟩
        · have hF := (M.ite_some hF).2 hb12
          refine Run_skip ?_
          refine Run_seq ?_
          refine Run_reg 25 (by kernel_rfl) (L' := [(2, .bool (((x25.2 == 0) && (x25.1 == (mx x23.1 x24.1))) && ((x26.2 == 3) || ((x26.2 == 0) && (x26.1 == (w64 (x23.1 + x24.1)))))))]) ?_ ?_
          · refine QRun_b [.int .i64 x25.2, .bool (x25.2 == 0)] 0 _ (by kernel_rfl) (fun w => by kernel_rfl) ?_
            refine QRun_seq 9 [(20, .int .i64 x23.1), (22, .int .i64 x24.1), (26, .int .i64 x26.1), (27, .int .i64 x26.2), (167, .bool ((x25.2 == 0) && (x25.1 == (mx x23.1 x24.1))))] ?_ ?_
            · rcases Bool.eq_false_or_eq_true (x25.2 == 0) with hb14 | hb14
              · refine QRun_bool (x25.2 == 0) true (by kernel_rfl) (fun w => by kernel_rfl) hb14 ?_
                refine QRun_b [.int .i64 x25.1, .int .i64 x23.1, .int .i64 x24.1, .int .i64 (mx x23.1 x24.1), .bool (x25.1 == (mx x23.1 x24.1))] 3 _ (by kernel_rfl) (fun w => by kernel_rfl) ?_
                refine QRun_bool (x25.1 == (mx x23.1 x24.1)) ((x25.2 == 0) && (x25.1 == (mx x23.1 x24.1))) (by kernel_rfl) (fun w => by kernel_rfl) (by rw [hb14]; rfl) ?_
                exact QRun_done [20, 22, 26, 27, 167] (by kernel_rfl) (by kernel_rfl)
              · refine QRun_bool (x25.2 == 0) false (by kernel_rfl) (fun w => by kernel_rfl) hb14 ?_
                refine QRun_n (by kernel_rfl) ?_
                refine QRun_n (by kernel_rfl) ?_
                refine QRun_n (by kernel_rfl) ?_
                refine QRun_n (by kernel_rfl) ?_
                refine QRun_n (by kernel_rfl) ?_
                refine QRun_bool false ((x25.2 == 0) && (x25.1 == (mx x23.1 x24.1))) (by kernel_rfl) (fun w => by kernel_rfl) (by rw [hb14]; rfl) ?_
                exact QRun_done [20, 22, 26, 27, 167] (by kernel_rfl) (by kernel_rfl)
            refine QRun_seq 24 [(182, .bool (((x25.2 == 0) && (x25.1 == (mx x23.1 x24.1))) && ((x26.2 == 3) || ((x26.2 == 0) && (x26.1 == (w64 (x23.1 + x24.1)))))))] ?_ ?_
            · rcases Bool.eq_false_or_eq_true ((x25.2 == 0) && (x25.1 == (mx x23.1 x24.1))) with hb15 | hb15
              · refine QRun_bool ((x25.2 == 0) && (x25.1 == (mx x23.1 x24.1))) true (by kernel_rfl) (fun w => by kernel_rfl) hb15 ?_
                refine QRun_b [.int .i64 x26.2, .bool (x26.2 == 3)] 10 _ (by kernel_rfl) (fun w => by kernel_rfl) ?_
                refine QRun_seq 23 [(168, .bool true), (181, .bool ((x26.2 == 3) || ((x26.2 == 0) && (x26.1 == (w64 (x23.1 + x24.1))))))] ?_ ?_
                · rcases Bool.eq_false_or_eq_true (x26.2 == 3) with hb16 | hb16
                  · refine QRun_bool (x26.2 == 3) true (by kernel_rfl) (fun w => by kernel_rfl) hb16 ?_
                    refine QRun_n (by kernel_rfl) ?_
                    refine QRun_n (by kernel_rfl) ?_
                    refine QRun_n (by kernel_rfl) ?_
                    refine QRun_n (by kernel_rfl) ?_
                    refine QRun_n (by kernel_rfl) ?_
                    refine QRun_n (by kernel_rfl) ?_
                    refine QRun_n (by kernel_rfl) ?_
                    refine QRun_n (by kernel_rfl) ?_
                    refine QRun_n (by kernel_rfl) ?_
                    refine QRun_bool true ((x26.2 == 3) || ((x26.2 == 0) && (x26.1 == (w64 (x23.1 + x24.1))))) (by kernel_rfl) (fun w => by kernel_rfl) (by rw [hb16]; rfl) ?_
                    exact QRun_done [168, 181] (by kernel_rfl) (by kernel_rfl)
                  · refine QRun_bool (x26.2 == 3) false (by kernel_rfl) (fun w => by kernel_rfl) hb16 ?_
                    refine QRun_b [.int .i64 x26.2, .bool (x26.2 == 0)] 13 _ (by kernel_rfl) (fun w => by kernel_rfl) ?_
                    refine QRun_seq 22 [(168, .bool true), (171, .bool false), (180, .bool ((x26.2 == 0) && (x26.1 == (w64 (x23.1 + x24.1)))))] ?_ ?_
                    · rcases Bool.eq_false_or_eq_true (x26.2 == 0) with hb17 | hb17
                      · refine QRun_bool (x26.2 == 0) true (by kernel_rfl) (fun w => by kernel_rfl) hb17 ?_
                        refine QRun_b [.int .i64 x26.1, .int .i64 x23.1, .int .i64 x24.1, .int .i64 (w64 (x23.1 + x24.1)), .bool (x26.1 == (w64 (x23.1 + x24.1)))] 16 _ (by kernel_rfl) (fun w => by kernel_rfl) ?_
                        refine QRun_bool (x26.1 == (w64 (x23.1 + x24.1))) ((x26.2 == 0) && (x26.1 == (w64 (x23.1 + x24.1)))) (by kernel_rfl) (fun w => by kernel_rfl) (by rw [hb17]; rfl) ?_
                        exact QRun_done [168, 171, 180] (by kernel_rfl) (by kernel_rfl)
                      · refine QRun_bool (x26.2 == 0) false (by kernel_rfl) (fun w => by kernel_rfl) hb17 ?_
                        refine QRun_n (by kernel_rfl) ?_
                        refine QRun_n (by kernel_rfl) ?_
                        refine QRun_n (by kernel_rfl) ?_
                        refine QRun_n (by kernel_rfl) ?_
                        refine QRun_n (by kernel_rfl) ?_
                        refine QRun_bool false ((x26.2 == 0) && (x26.1 == (w64 (x23.1 + x24.1)))) (by kernel_rfl) (fun w => by kernel_rfl) (by rw [hb17]; rfl) ?_
                        exact QRun_done [168, 171, 180] (by kernel_rfl) (by kernel_rfl)
                    refine QRun_bool ((x26.2 == 0) && (x26.1 == (w64 (x23.1 + x24.1)))) ((x26.2 == 3) || ((x26.2 == 0) && (x26.1 == (w64 (x23.1 + x24.1))))) (by kernel_rfl) (fun w => by kernel_rfl) (by rw [hb16]; rfl) ?_
                    exact QRun_done [168, 181] (by kernel_rfl) (by kernel_rfl)
                refine QRun_bool ((x26.2 == 3) || ((x26.2 == 0) && (x26.1 == (w64 (x23.1 + x24.1))))) (((x25.2 == 0) && (x25.1 == (mx x23.1 x24.1))) && ((x26.2 == 3) || ((x26.2 == 0) && (x26.1 == (w64 (x23.1 + x24.1)))))) (by kernel_rfl) (fun w => by kernel_rfl) (by rw [hb15]; rfl) ?_
                exact QRun_done [182] (by kernel_rfl) (by kernel_rfl)
              · refine QRun_bool ((x25.2 == 0) && (x25.1 == (mx x23.1 x24.1))) false (by kernel_rfl) (fun w => by kernel_rfl) hb15 ?_
                refine QRun_n (by kernel_rfl) ?_
                refine QRun_n (by kernel_rfl) ?_
                refine QRun_n (by kernel_rfl) ?_
                refine QRun_n (by kernel_rfl) ?_
                refine QRun_n (by kernel_rfl) ?_
                refine QRun_n (by kernel_rfl) ?_
                refine QRun_n (by kernel_rfl) ?_
                refine QRun_n (by kernel_rfl) ?_
                refine QRun_n (by kernel_rfl) ?_
                refine QRun_n (by kernel_rfl) ?_
                refine QRun_n (by kernel_rfl) ?_
                refine QRun_n (by kernel_rfl) ?_
                refine QRun_n (by kernel_rfl) ?_
                refine QRun_bool false (((x25.2 == 0) && (x25.1 == (mx x23.1 x24.1))) && ((x26.2 == 3) || ((x26.2 == 0) && (x26.1 == (w64 (x23.1 + x24.1)))))) (by kernel_rfl) (fun w => by kernel_rfl) (by rw [hb15]; rfl) ?_
                exact QRun_done [182] (by kernel_rfl) (by kernel_rfl)
            refine QRun_b [.bool (((x25.2 == 0) && (x25.1 == (mx x23.1 x24.1))) && ((x26.2 == 3) || ((x26.2 == 0) && (x26.1 == (w64 (x23.1 + x24.1))))))] 24 _ (by kernel_rfl) (fun w => by kernel_rfl) ?_
            exact QRun_done [2] (by kernel_rfl) (by kernel_rfl)
          have hF := M.ret_some hF
          subst hF
          have H21 : Hold h h8 [] := H19.pick [] (by kernel_rfl)
          exact Run_ret1 rfl (ResV_tmp (v := .bool (((x25.2 == 0) && (x25.1 == (mx x23.1 x24.1))) && ((x26.2 == 3) || ((x26.2 == 0) && (x26.1 == (w64 (x23.1 + x24.1))))))) (by kernel_rfl)) ⟨rfl, H21⟩

end Go.Proofs.Ytniaobcahkjfjaa
