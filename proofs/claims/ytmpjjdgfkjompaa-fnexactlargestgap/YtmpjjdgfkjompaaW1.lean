/-
  Walks: each Go function, called with what reads as plain data, returns what its plain program computes.
  Conditions: None beyond the given statement.
-/
import Derived.Test.YtmpjjdgfkjompaaW0
namespace Go.Proofs.Ytmpjjdgfkjompaa
open Go
attribute [local irreducible] setL setB opA fineI idleI fineB evB okB markB markBs readyB readyBs chainB lk rho pickL dropSlot tailOK
set_option maxRecDepth 100000 in
set_option maxHeartbeats 4000000 in
theorem w_impl_LargestGap (h : Heap) (a_ : List (List Int)) (aa_ : Option Addr) (ca_ : Nat) (ra_ : Rd cd23 h (Lt h) aa_ ca_ a_) (b : List Int) (ab : Option Addr) (cb : Nat) (rb : Rd cd2 h (Lt h) ab cb b) (n : Nat) (r : Int × Int) (hF : impl_LargestGap a_ b n = some r) :
    Fn Try.prog 26 #[.slice aa_ a_.length ca_, .slice ab b.length cb] h fun v h' => v = .tuple #[.int .i64 r.1, .int .i64 r.2] ∧ Hold h h' [] := by
  unfold impl_LargestGap at hF
  refine Fn_enter (args := [.slice aa_ a_.length ca_, .slice ab b.length cb]) Try.func26 rfl (by kernel_rfl) (by kernel_rfl) (fun w0 _ => ?_)
  have H0 := Hold.init h
  refine Run_seq ?_
  refine Run_reg 2 (by kernel_rfl) (L' := [(0, .slice aa_ a_.length ca_), (1, .slice ab b.length cb)]) ?_ ?_
  · refine QRun_b [.int .i64 0, .int .i64 0] 0 _ (by kernel_rfl) (fun w => by kernel_rfl) ?_
    exact QRun_done [0, 1] (by kernel_rfl) (by kernel_rfl)
  refine Run_seq ?_
  refine Run_ops ?_
  refine Run_b [.slice aa_ a_.length ca_, .slice ab b.length cb] 0 _ (by kernel_rfl) (fun w => by kernel_rfl) ?_
  obtain ⟨x1, hx1, hF⟩ := M.bind_some hF
  refine Run_E (by kernel_rfl) ?_
  refine E_call (f := 61) (args := #[.slice aa_ a_.length ca_, .slice ab b.length cb]) (w_impl_greatestSub h a_ aa_ ca_ ra_ b ab cb rb _ _ hx1) (by kernel_rfl) (fun v1 h1 hp1 => ?_)
  obtain ⟨a1, c1, rfl, H1⟩ := hp1
  have H2 : Hold h h1 [own cd2 a1 x1.1.length c1 x1.1] := H0.call H1 rfl
  refine Run_b [.tuple #[.slice a1 x1.1.length c1, .int .i64 x1.2], .slice a1 x1.1.length c1, .int .i64 x1.2, .slice a1 x1.1.length c1, .int .i64 x1.2] 3 _ (by kernel_rfl) (fun w => by kernel_rfl) ?_
  refine Run_nil (by kernel_rfl) ?_
  refine Run_keep [0, 1, 6, 7] (L' := [(0, .slice aa_ a_.length ca_), (1, .slice ab b.length cb), (6, .slice a1 x1.1.length c1), (7, .int .i64 x1.2)]) (by kernel_rfl) ?_
  refine Run_seq ?_
  refine Run_seq ?_
  refine Run_reg 2 (by kernel_rfl) (L' := [(0, .slice aa_ a_.length ca_), (1, .slice ab b.length cb), (6, .slice a1 x1.1.length c1), (7, .int .i64 x1.2), (18, .bool (x1.2 != 0))]) ?_ ?_
  · refine QRun_b [.int .i64 x1.2, .bool (x1.2 != 0)] 0 _ (by kernel_rfl) (fun w => by kernel_rfl) ?_
    exact QRun_done [0, 1, 6, 7, 18] (by kernel_rfl) (by kernel_rfl)
  refine Run_cond (b := x1.2 != 0) (by kernel_rfl) (fun hb1 => ?_) (fun hb1 => ?_)
  · have hF := (M.ite_some hF).1 hb1
    refine Run_seq ?_
    refine Run_reg 3 (by kernel_rfl) (L' := [(4, .int .i64 0), (5, .int .i64 x1.2)]) ?_ ?_
    · refine QRun_b [.int .i64 x1.2, .int .i64 0, .int .i64 x1.2] 0 _ (by kernel_rfl) (fun w => by kernel_rfl) ?_
      exact QRun_done [4, 5] (by kernel_rfl) (by kernel_rfl)
    have hF := M.ret_some hF
    subst hF
    have H3 : Hold h h1 [] := H2.pick [] (by kernel_rfl)
    exact Run_ret2 rfl (ResV_tmp (v := .int .i64 0) (by kernel_rfl)) (ResV_tmp (v := .int .i64 x1.2) (by kernel_rfl)) ⟨rfl, H3⟩
  · have hF := (M.ite_some hF).2 hb1
    refine Run_skip ?_
    refine Run_seq ?_
    refine Run_reg 1 (by kernel_rfl) (L' := [(0, .slice aa_ a_.length ca_), (1, .slice ab b.length cb), (6, .slice a1 x1.1.length c1), (8, .int .i64 0)]) ?_ ?_
    · refine QRun_b [.int .i64 0] 0 _ (by kernel_rfl) (fun w => by kernel_rfl) ?_
      exact QRun_done [0, 1, 6, 8] (by kernel_rfl) (by kernel_rfl)
    refine Run_seq ?_
    refine Run_seq ?_
    refine Run_ops ?_
    refine Run_b [.slice aa_ a_.length ca_, .slice a1 x1.1.length c1] 0 _ (by kernel_rfl) (fun w => by kernel_rfl) ?_
    obtain ⟨x2, hx2, hF⟩ := M.bind_some hF
    refine Run_E (by kernel_rfl) ?_
    refine E_call (f := 65) (args := #[.slice aa_ a_.length ca_, .slice a1 x1.1.length c1]) (w_impl_timesVector h1 a_ aa_ ca_ (ra_.at H2.ext) x1.1 a1 c1 (H2.rd 0 rfl) _ _ hx2) (by kernel_rfl) (fun v2 h2 hp2 => ?_)
    obtain ⟨a2, c2, rfl, H4⟩ := hp2
    have H5 : Hold h h2 [own cd2 a2 x2.length c2 x2, own cd2 a1 x1.1.length c1 x1.1] := H2.call H4 rfl
    refine Run_b [.int .i64 (x2.length : Int), .int .i64 0] 3 _ (by kernel_rfl) (fun w => by kernel_rfl) ?_
    refine Run_nil (by kernel_rfl) ?_
    refine Run_keep [1, 8, 22, 23, 24] (L' := [(1, .slice ab b.length cb), (8, .int .i64 0), (22, .slice a2 x2.length c2), (23, .int .i64 (x2.length : Int)), (24, .int .i64 0)]) (by kernel_rfl) ?_
    obtain ⟨x3, gx3, hF⟩ := M.bind_some hF
    obtain ⟨hloy1, hhiy1, gx3⟩ := M.for_start gx3
    refine Run_join (fun L' h' => ∃ (s2 : Int), x3 = .inl s2 ∧ L' = [(8, .int .i64 s2)] ∧ Hold h h' []) ?_ ?_
    · rintro _ h4 ⟨s2, es2, rfl, H7⟩
      have hF := M.cont_inl' hF es2
      refine Run_seq ?_
      obtain ⟨x7, hx6, hF⟩ := M.bind_some hF
      refine Run_reg 6 (by kernel_rfl) (L' := [(4, .int .i64 x7.1), (5, .int .i64 x7.2)]) ?_ ?_
      · refine QRun_b [.int .i64 s2] 0 _ (by kernel_rfl) (fun w => by kernel_rfl) ?_
        refine QRun_y (.tuple #[.int .i64 x7.1, .int .i64 x7.2]) (by kernel_rfl) (Y_callq (f := 66) (args := #[.int .i64 s2]) (v := .tuple #[.int .i64 x7.1, .int .i64 x7.2]) (by kernel_rfl) (w_impl_checkedValue h4 s2 _ _ hx6)) ?_
        refine QRun_b [.int .i64 x7.1, .int .i64 x7.2, .int .i64 x7.1, .int .i64 x7.2] 2 _ (by kernel_rfl) (fun w => by kernel_rfl) ?_
        exact QRun_done [4, 5] (by kernel_rfl) (by kernel_rfl)
      have hF := M.ret_some hF
      subst hF
      exact Run_ret2 rfl (ResV_tmp (v := .int .i64 x7.1) (by kernel_rfl)) (ResV_tmp (v := .int .i64 x7.2) (by kernel_rfl)) ⟨rfl, H7⟩
    · refine Run_block ?_
      have H10 : Hold h h2 [own cd2 a2 x2.length c2 x2] := H5.pick [0] (by kernel_rfl)
      refine Run_keep [1, 8, 22, 23, 24] (L' := [(1, .slice ab b.length cb), (8, .int .i64 0), (22, .slice a2 x2.length c2), (23, .int .i64 (x2.length : Int)), (24, .int .i64 0)]) (by kernel_rfl) ?_
      refine Run_loop (fun m L' h' => ∃ (i1 : Int) (s1 : Int), 0 ≤ i1 ∧ M.forN (x2.length : Int) _ _ n m i1 s1 = some x3 ∧ L' = [(1, .slice ab b.length cb), (8, .int .i64 s1), (22, .slice a2 x2.length c2), (23, .int .i64 (x2.length : Int)), (24, .int .i64 i1)] ∧ Hold h h' [own cd2 a2 x2.length c2 x2]) ((x2.length : Int) - 0).toNat ⟨0, 0, Int.le_refl _, gx3, rfl, H10⟩ ?_
      rintro my1 _ h3 ⟨i1, s1, hloy1', gx3, rfl, H6⟩
      refine Run_seq ?_
      refine Run_reg 1 (by kernel_rfl) (L' := [(1, .slice ab b.length cb), (8, .int .i64 s1), (22, .slice a2 x2.length c2), (23, .int .i64 (x2.length : Int)), (24, .int .i64 i1), (25, .bool (decide (i1 < (x2.length : Int))))]) ?_ ?_
      · refine QRun_b [.bool (decide (i1 < (x2.length : Int)))] 0 _ (by kernel_rfl) (fun w => by kernel_rfl) ?_
        exact QRun_done [1, 8, 22, 23, 24, 25] (by kernel_rfl) (by kernel_rfl)
      refine Run_seq ?_
      refine Run_cond (b := decide (i1 < (x2.length : Int))) (by kernel_rfl) (fun hb2 => ?_) (fun hb2 => ?_)
      · obtain ⟨my1, y1, rfl, hB1, hgoy1, houty1⟩ := M.for_go gx3 hb2
        have hlty1 := of_decide_eq_true hb2
        refine Run_skip ?_
        refine Run_seq ?_
        refine Run_block ?_
        refine Run_seq ?_
        obtain ⟨x4, hx3, hB1⟩ := M.bind_some hB1
        obtain ⟨hx3l, hx3u, hx3⟩ := M.idx_some hx3
        refine Run_reg 5 (by kernel_rfl) (L' := [(1, .slice ab b.length cb), (8, .int .i64 s1), (9, .int .i64 i1), (10, .int .i64 x4), (22, .slice a2 x2.length c2), (23, .int .i64 (x2.length : Int)), (24, .int .i64 i1)]) ?_ ?_
        · refine QRun_b [.int .i64 i1] 0 _ (by kernel_rfl) (fun w => by kernel_rfl) ?_
          refine QRun_y (.pointer (some (adr a2 (i1.toNat * 1)))) (by kernel_rfl) (Y_idx (t := 23) (e := 2) (sz := 1) (a := a2) (n := x2.length) (cap := c2) (kk := .i64) (i := i1) (by kernel_rfl) Try.underlying23 (by kernel_rfl) ((H6.rd 0 rfl).cell hx3).1 hx3l hx3u) ?_
          refine QRun_y (.int .i64 x4) (by kernel_rfl) (Y_load1 (t := 2) (p := adr a2 (i1.toNat * 1)) (v := .int .i64 x4) (by kernel_rfl) (fun w => by kernel_rfl) (cd2_cell (H6.rd 0 rfl) hx3)) ?_
          refine QRun_b [.int .i64 i1, .int .i64 x4] 3 _ (by kernel_rfl) (fun w => by kernel_rfl) ?_
          exact QRun_done [1, 8, 9, 10, 22, 23, 24] (by kernel_rfl) (by kernel_rfl)
        refine Run_block ?_
        refine Run_seq ?_
        obtain ⟨x5, hx4, hB1⟩ := M.bind_some hB1
        obtain ⟨hx4l, hx4u, hx4⟩ := M.idx_some hx4
        refine Run_reg 6 (by kernel_rfl) (L' := [(1, .slice ab b.length cb), (8, .int .i64 s1), (9, .int .i64 i1), (10, .int .i64 x4), (22, .slice a2 x2.length c2), (23, .int .i64 (x2.length : Int)), (24, .int .i64 i1), (37, .bool (x5 == (-1000000000000000)))]) ?_ ?_
        · refine QRun_b [.slice ab b.length cb, .int .i64 i1] 0 _ (by kernel_rfl) (fun w => by kernel_rfl) ?_
          refine QRun_y (.pointer (some (adr ab (i1.toNat * 1)))) (by kernel_rfl) (Y_idx (t := 23) (e := 2) (sz := 1) (a := ab) (n := b.length) (cap := cb) (kk := .i64) (i := i1) (by kernel_rfl) Try.underlying23 (by kernel_rfl) ((rb.at H6.ext).cell hx4).1 hx4l hx4u) ?_
          refine QRun_y (.int .i64 x5) (by kernel_rfl) (Y_load1 (t := 2) (p := adr ab (i1.toNat * 1)) (v := .int .i64 x5) (by kernel_rfl) (fun w => by kernel_rfl) (cd2_cell (rb.at H6.ext) hx4)) ?_
          refine QRun_b [.bool (x5 == (-1000000000000000)), .bool (x5 == (-1000000000000000))] 4 _ (by kernel_rfl) (fun w => by kernel_rfl) ?_
          exact QRun_done [1, 8, 9, 10, 22, 23, 24, 37] (by kernel_rfl) (by kernel_rfl)
        refine Run_cond (b := x5 == (-1000000000000000)) (by kernel_rfl) (fun hb3 => ?_) (fun hb3 => ?_)
        · have hB1 := (M.ite_some hB1).1 hb3
          refine Run_skip ?_
          refine Run_blk ?_
          refine Run_blk ?_
          refine Run_reg 2 (by kernel_rfl) (L' := [(1, .slice ab b.length cb), (8, .int .i64 s1), (22, .slice a2 x2.length c2), (23, .int .i64 (x2.length : Int)), (24, .int .i64 (i1 + 1))]) ?_ ?_
          · refine QRun_y (.int .i64 (i1 + 1)) (by kernel_rfl) (Y_eq (v := .int .i64 (w64 (i1 + 1))) (Y_pure (fun w => by kernel_rfl)) (by rw [w64_eq _ (by omega)])) ?_
            refine QRun_b [.int .i64 (i1 + 1)] 1 _ (by kernel_rfl) (fun w => by kernel_rfl) ?_
            exact QRun_done [1, 8, 22, 23, 24] (by kernel_rfl) (by kernel_rfl)
          have hB1 := M.ret_some hB1
          have gx3 := hgoy1 _ hB1.symm
          exact Run_again [1, 8, 22, 23, 24] (by kernel_rfl) my1 (Nat.lt_succ_self _) ⟨i1 + 1, s1, by omega, gx3, rfl, H6⟩
        · have hB1 := (M.ite_some hB1).2 hb3
          refine Run_seq ?_
          refine Run_reg 3 (by kernel_rfl) (L' := [(1, .slice ab b.length cb), (8, .int .i64 s1), (9, .int .i64 i1), (10, .int .i64 x4), (22, .slice a2 x2.length c2), (23, .int .i64 (x2.length : Int)), (24, .int .i64 i1), (43, .bool (x4 == (-1000000000000000)))]) ?_ ?_
          · refine QRun_b [.int .i64 x4, .bool (x4 == (-1000000000000000)), .bool (x4 == (-1000000000000000))] 0 _ (by kernel_rfl) (fun w => by kernel_rfl) ?_
            exact QRun_done [1, 8, 9, 10, 22, 23, 24, 43] (by kernel_rfl) (by kernel_rfl)
          refine Run_cond (b := x4 == (-1000000000000000)) (by kernel_rfl) (fun hb4 => ?_) (fun hb4 => ?_)
          · have hB1 := (M.ite_some hB1).1 hb4
            refine Run_seq ?_
            refine Run_reg 2 (by kernel_rfl) (L' := [(4, .int .i64 0), (5, .int .i64 4)]) ?_ ?_
            · refine QRun_b [.int .i64 0, .int .i64 4] 0 _ (by kernel_rfl) (fun w => by kernel_rfl) ?_
              exact QRun_done [4, 5] (by kernel_rfl) (by kernel_rfl)
            have hB1 := M.ret_some hB1
            have gx3 := houty1 _ hB1.symm
            have hF := M.cont_inr' hF gx3
            have hF := M.ret_some hF
            subst hF
            have H8 : Hold h h3 [] := H6.pick [] (by kernel_rfl)
            exact Run_ret2 rfl (ResV_tmp (v := .int .i64 0) (by kernel_rfl)) (ResV_tmp (v := .int .i64 4) (by kernel_rfl)) ⟨rfl, H8⟩
          · have hB1 := (M.ite_some hB1).2 hb4
            obtain ⟨x6, hx5, hB1⟩ := M.bind_some hB1
            obtain ⟨hx5l, hx5u, hx5⟩ := M.idx_some hx5
            refine Run_reg 9 (by kernel_rfl) (L' := [(1, .slice ab b.length cb), (8, .int .i64 (mx s1 (w64 (x6 - x4)))), (22, .slice a2 x2.length c2), (23, .int .i64 (x2.length : Int)), (24, .int .i64 i1)]) ?_ ?_
            · refine QRun_b [.int .i64 s1, .slice ab b.length cb, .int .i64 i1] 0 _ (by kernel_rfl) (fun w => by kernel_rfl) ?_
              refine QRun_y (.pointer (some (adr ab (i1.toNat * 1)))) (by kernel_rfl) (Y_idx (t := 23) (e := 2) (sz := 1) (a := ab) (n := b.length) (cap := cb) (kk := .i64) (i := i1) (by kernel_rfl) Try.underlying23 (by kernel_rfl) ((rb.at H6.ext).cell hx5).1 hx5l hx5u) ?_
              refine QRun_y (.int .i64 x6) (by kernel_rfl) (Y_load1 (t := 2) (p := adr ab (i1.toNat * 1)) (v := .int .i64 x6) (by kernel_rfl) (fun w => by kernel_rfl) (cd2_cell (rb.at H6.ext) hx5)) ?_
              refine QRun_b [.int .i64 x4, .int .i64 (w64 (x6 - x4)), .int .i64 (mx s1 (w64 (x6 - x4))), .int .i64 (mx s1 (w64 (x6 - x4)))] 5 _ (by kernel_rfl) (fun w => by kernel_rfl) ?_
              exact QRun_done [1, 8, 22, 23, 24] (by kernel_rfl) (by kernel_rfl)
            refine Run_blk ?_
            refine Run_blk ?_
            refine Run_reg 2 (by kernel_rfl) (L' := [(1, .slice ab b.length cb), (8, .int .i64 (mx s1 (w64 (x6 - x4)))), (22, .slice a2 x2.length c2), (23, .int .i64 (x2.length : Int)), (24, .int .i64 (i1 + 1))]) ?_ ?_
            · refine QRun_y (.int .i64 (i1 + 1)) (by kernel_rfl) (Y_eq (v := .int .i64 (w64 (i1 + 1))) (Y_pure (fun w => by kernel_rfl)) (by rw [w64_eq _ (by omega)])) ?_
              refine QRun_b [.int .i64 (i1 + 1)] 1 _ (by kernel_rfl) (fun w => by kernel_rfl) ?_
              exact QRun_done [1, 8, 22, 23, 24] (by kernel_rfl) (by kernel_rfl)
            have hB1 := M.ret_some hB1
            have gx3 := hgoy1 _ hB1.symm
            exact Run_again [1, 8, 22, 23, 24] (by kernel_rfl) my1 (Nat.lt_succ_self _) ⟨i1 + 1, (mx s1 (w64 (x6 - x4))), by omega, gx3, rfl, H6⟩
      · have gx3 := M.for_end gx3 hb2
        subst gx3
        refine Run_exit (k' := _) rfl ?_
        have H9 : Hold h h3 [] := H6.pick [] (by kernel_rfl)
        exact Run_fall [8] (by kernel_rfl) ⟨s1, rfl, rfl, H9⟩

set_option maxRecDepth 100000 in
set_option maxHeartbeats 4000000 in
theorem w_laws_eqInt64S (h : Heap) (a_ : List Int) {Sa_ : Bs} (aa_ : Option Addr) (ca_ : Nat) (ra_ : Rd cd2 h Sa_ aa_ ca_ a_) (b : List Int) {Sb : Bs} (ab : Option Addr) (cb : Nat) (rb : Rd cd2 h Sb ab cb b) (n : Nat) (r : Bool) (hF : laws_eqInt64S a_ b n = some r) :
    Fn Try.prog 20 #[.slice aa_ a_.length ca_, .slice ab b.length cb] h fun v h' => v = .bool r ∧ h' = h := by
  unfold laws_eqInt64S at hF
  refine Fn_enter (args := [.slice aa_ a_.length ca_, .slice ab b.length cb]) Try.func20 rfl (by kernel_rfl) (by kernel_rfl) (fun w0 _ => ?_)
  refine Run_seq ?_
  refine Run_reg 1 (by kernel_rfl) (L' := [(0, .slice aa_ a_.length ca_), (1, .slice ab b.length cb)]) ?_ ?_
  · refine QRun_b [.bool false] 0 _ (by kernel_rfl) (fun w => by kernel_rfl) ?_
    exact QRun_done [0, 1] (by kernel_rfl) (by kernel_rfl)
  refine Run_seq ?_
  refine Run_seq ?_
  refine Run_reg 5 (by kernel_rfl) (L' := [(0, .slice aa_ a_.length ca_), (1, .slice ab b.length cb), (10, .bool ((a_.length : Int) != (b.length : Int)))]) ?_ ?_
  · refine QRun_b [.slice aa_ a_.length ca_, .int .i64 (a_.length : Int), .slice ab b.length cb, .int .i64 (b.length : Int), .bool ((a_.length : Int) != (b.length : Int))] 0 _ (by kernel_rfl) (fun w => by kernel_rfl) ?_
    exact QRun_done [0, 1, 10] (by kernel_rfl) (by kernel_rfl)
  refine Run_cond (b := (a_.length : Int) != (b.length : Int)) (by kernel_rfl) (fun hb1 => ?_) (fun hb1 => ?_)
  · have hF := (M.ite_some hF).1 hb1
    refine Run_seq ?_
    refine Run_reg 1 (by kernel_rfl) (L' := [(4, .bool false)]) ?_ ?_
    · refine QRun_b [.bool false] 0 _ (by kernel_rfl) (fun w => by kernel_rfl) ?_
      exact QRun_done [4] (by kernel_rfl) (by kernel_rfl)
    have hF := M.ret_some hF
    subst hF
    exact Run_ret1 rfl (ResV_tmp (v := .bool false) (by kernel_rfl)) ⟨rfl, rfl⟩
  · have hF := (M.ite_some hF).2 hb1
    refine Run_skip ?_
    refine Run_seq ?_
    refine Run_seq ?_
    refine Run_reg 1 (by kernel_rfl) (L' := [(0, .slice aa_ a_.length ca_), (1, .slice ab b.length cb), (5, .int .i64 0)]) ?_ ?_
    · refine QRun_b [.int .i64 0] 0 _ (by kernel_rfl) (fun w => by kernel_rfl) ?_
      exact QRun_done [0, 1, 5] (by kernel_rfl) (by kernel_rfl)
    obtain ⟨x1, gx1, hF⟩ := M.bind_some hF
    obtain ⟨hloy1, hhiy1, gx1⟩ := M.for_start gx1
    refine Run_join (fun L' h' => ∃ (s2 : Unit), x1 = .inl s2 ∧ L' = [] ∧ h = h') ?_ ?_
    · rintro _ _ ⟨s2, es2, rfl, rfl⟩
      have hF := M.cont_inl' hF es2
      refine Run_seq ?_
      refine Run_reg 1 (by kernel_rfl) (L' := [(4, .bool true)]) ?_ ?_
      · refine QRun_b [.bool true] 0 _ (by kernel_rfl) (fun w => by kernel_rfl) ?_
        exact QRun_done [4] (by kernel_rfl) (by kernel_rfl)
      have hF := M.ret_some hF
      subst hF
      exact Run_ret1 rfl (ResV_tmp (v := .bool true) (by kernel_rfl)) ⟨rfl, rfl⟩
    · refine Run_block ?_
      refine Run_keep [0, 1, 5] (L' := [(0, .slice aa_ a_.length ca_), (1, .slice ab b.length cb), (5, .int .i64 0)]) (by kernel_rfl) ?_
      refine Run_loop (fun m L' h' => ∃ (i1 : Int) (s1 : Unit), 0 ≤ i1 ∧ M.forN (a_.length : Int) _ _ n m i1 s1 = some x1 ∧ L' = [(0, .slice aa_ a_.length ca_), (1, .slice ab b.length cb), (5, .int .i64 i1)] ∧ h = h') ((a_.length : Int) - 0).toNat ⟨0, (), Int.le_refl _, gx1, rfl, rfl⟩ ?_
      rintro my1 _ _ ⟨i1, s1, hloy1', gx1, rfl, rfl⟩
      refine Run_seq ?_
      refine Run_seq ?_
      refine Run_reg 4 (by kernel_rfl) (L' := [(0, .slice aa_ a_.length ca_), (1, .slice ab b.length cb), (5, .int .i64 i1), (14, .bool (decide (i1 < (a_.length : Int))))]) ?_ ?_
      · refine QRun_b [.int .i64 i1, .slice aa_ a_.length ca_, .int .i64 (a_.length : Int), .bool (decide (i1 < (a_.length : Int)))] 0 _ (by kernel_rfl) (fun w => by kernel_rfl) ?_
        exact QRun_done [0, 1, 5, 14] (by kernel_rfl) (by kernel_rfl)
      refine Run_cond (b := decide (i1 < (a_.length : Int))) (by kernel_rfl) (fun hb2 => ?_) (fun hb2 => ?_)
      · obtain ⟨my1, y1, rfl, hB1, hgoy1, houty1⟩ := M.for_go gx1 hb2
        have hlty1 := of_decide_eq_true hb2
        refine Run_skip ?_
        refine Run_seq ?_
        refine Run_block ?_
        refine Run_seq ?_
        obtain ⟨x2, hx1, hB1⟩ := M.bind_some hB1
        obtain ⟨hx1l, hx1u, hx1⟩ := M.idx_some hx1
        obtain ⟨x3, hx2, hB1⟩ := M.bind_some hB1
        obtain ⟨hx2l, hx2u, hx2⟩ := M.idx_some hx2
        refine Run_draw 9 mixed (by kernel_rfl) (by kernel_rfl) (L' := [(0, .slice aa_ a_.length ca_), (1, .slice ab b.length cb), (5, .int .i64 i1), (25, .bool (x2 != x3))]) ?_ ?_
        · refine QRun_b [.slice aa_ a_.length ca_, .int .i64 i1] 0 _ (by kernel_rfl) (fun w => by kernel_rfl) ?_
          refine QRun_y (.pointer (some (adr aa_ (i1.toNat * 1)))) (by kernel_rfl) (Y_idx (t := 23) (e := 2) (sz := 1) (a := aa_) (n := a_.length) (cap := ca_) (kk := .i64) (i := i1) (by kernel_rfl) Try.underlying23 (by kernel_rfl) (ra_.cell hx1).1 hx1l hx1u) ?_
          refine QRun_y (.int .i64 x2) (by kernel_rfl) (Y_load1 (t := 2) (p := adr aa_ (i1.toNat * 1)) (v := .int .i64 x2) (by kernel_rfl) (fun w => by kernel_rfl) (cd2_cell ra_ hx1)) ?_
          refine QRun_b [.slice ab b.length cb, .int .i64 i1] 4 _ (by kernel_rfl) (fun w => by kernel_rfl) ?_
          refine QRun_y (.pointer (some (adr ab (i1.toNat * 1)))) (by kernel_rfl) (Y_idx (t := 23) (e := 2) (sz := 1) (a := ab) (n := b.length) (cap := cb) (kk := .i64) (i := i1) (by kernel_rfl) Try.underlying23 (by kernel_rfl) (rb.cell hx2).1 hx2l hx2u) ?_
          refine QRun_y (.int .i64 x3) (by kernel_rfl) (Y_load1 (t := 2) (p := adr ab (i1.toNat * 1)) (v := .int .i64 x3) (by kernel_rfl) (fun w => by kernel_rfl) (cd2_cell rb hx2)) ?_
          refine QRun_b [.bool (x2 != x3)] 8 _ (by kernel_rfl) (fun w => by kernel_rfl) ?_
          exact QRun_done [0, 1, 5, 25] (by kernel_rfl) (by kernel_rfl)
        refine Run_cond (b := x2 != x3) (by kernel_rfl) (fun hb3 => ?_) (fun hb3 => ?_)
        · have hB1 := (M.ite_some hB1).1 hb3
          refine Run_seq ?_
          refine Run_reg 1 (by kernel_rfl) (L' := [(4, .bool false)]) ?_ ?_
          · refine QRun_b [.bool false] 0 _ (by kernel_rfl) (fun w => by kernel_rfl) ?_
            exact QRun_done [4] (by kernel_rfl) (by kernel_rfl)
          have hB1 := M.ret_some hB1
          have gx1 := houty1 _ hB1.symm
          have hF := M.cont_inr' hF gx1
          have hF := M.ret_some hF
          subst hF
          exact Run_ret1 rfl (ResV_tmp (v := .bool false) (by kernel_rfl)) ⟨rfl, rfl⟩
        · have hB1 := (M.ite_some hB1).2 hb3
          refine Run_skip ?_
          refine Run_blk ?_
          refine Run_reg 3 (by kernel_rfl) (L' := [(0, .slice aa_ a_.length ca_), (1, .slice ab b.length cb), (5, .int .i64 (i1 + 1))]) ?_ ?_
          · refine QRun_b [.int .i64 i1] 0 _ (by kernel_rfl) (fun w => by kernel_rfl) ?_
            refine QRun_y (.int .i64 (i1 + 1)) (by kernel_rfl) (Y_eq (v := .int .i64 (w64 (i1 + 1))) (Y_pure (fun w => by kernel_rfl)) (by rw [w64_eq _ (by omega)])) ?_
            refine QRun_b [.int .i64 (i1 + 1)] 2 _ (by kernel_rfl) (fun w => by kernel_rfl) ?_
            exact QRun_done [0, 1, 5] (by kernel_rfl) (by kernel_rfl)
          have hB1 := M.ret_some hB1
          have gx1 := hgoy1 _ hB1.symm
          exact Run_again [0, 1, 5] (by kernel_rfl) my1 (Nat.lt_succ_self _) ⟨i1 + 1, (), by omega, gx1, rfl, rfl⟩
      · have gx1 := M.for_end gx1 hb2
        subst gx1
        refine Run_exit (k' := _) rfl ?_
        exact Run_fall [] (by kernel_rfl) ⟨(), rfl, rfl, rfl⟩

set_option maxRecDepth 100000 in
set_option maxHeartbeats 4000000 in
theorem w_laws_eqInt64SS (h : Heap) (a_ : List (List Int)) {Sa_ : Bs} (aa_ : Option Addr) (ca_ : Nat) (ra_ : Rd cd23 h Sa_ aa_ ca_ a_) (b : List (List Int)) {Sb : Bs} (ab : Option Addr) (cb : Nat) (rb : Rd cd23 h Sb ab cb b) (n : Nat) (r : Bool) (hF : laws_eqInt64SS a_ b n = some r) :
    Fn Try.prog 21 #[.slice aa_ a_.length ca_, .slice ab b.length cb] h fun v h' => v = .bool r ∧ h' = h := by
  unfold laws_eqInt64SS at hF
  refine Fn_enter (args := [.slice aa_ a_.length ca_, .slice ab b.length cb]) Try.func21 rfl (by kernel_rfl) (by kernel_rfl) (fun w0 _ => ?_)
  refine Run_seq ?_
  refine Run_reg 1 (by kernel_rfl) (L' := [(0, .slice aa_ a_.length ca_), (1, .slice ab b.length cb)]) ?_ ?_
  · refine QRun_b [.bool false] 0 _ (by kernel_rfl) (fun w => by kernel_rfl) ?_
    exact QRun_done [0, 1] (by kernel_rfl) (by kernel_rfl)
  refine Run_seq ?_
  refine Run_seq ?_
  refine Run_reg 5 (by kernel_rfl) (L' := [(0, .slice aa_ a_.length ca_), (1, .slice ab b.length cb), (10, .bool ((a_.length : Int) != (b.length : Int)))]) ?_ ?_
  · refine QRun_b [.slice aa_ a_.length ca_, .int .i64 (a_.length : Int), .slice ab b.length cb, .int .i64 (b.length : Int), .bool ((a_.length : Int) != (b.length : Int))] 0 _ (by kernel_rfl) (fun w => by kernel_rfl) ?_
    exact QRun_done [0, 1, 10] (by kernel_rfl) (by kernel_rfl)
  refine Run_cond (b := (a_.length : Int) != (b.length : Int)) (by kernel_rfl) (fun hb1 => ?_) (fun hb1 => ?_)
  · have hF := (M.ite_some hF).1 hb1
    refine Run_seq ?_
    refine Run_reg 1 (by kernel_rfl) (L' := [(4, .bool false)]) ?_ ?_
    · refine QRun_b [.bool false] 0 _ (by kernel_rfl) (fun w => by kernel_rfl) ?_
      exact QRun_done [4] (by kernel_rfl) (by kernel_rfl)
    have hF := M.ret_some hF
    subst hF
    exact Run_ret1 rfl (ResV_tmp (v := .bool false) (by kernel_rfl)) ⟨rfl, rfl⟩
  · have hF := (M.ite_some hF).2 hb1
    refine Run_skip ?_
    refine Run_seq ?_
    refine Run_seq ?_
    refine Run_reg 1 (by kernel_rfl) (L' := [(0, .slice aa_ a_.length ca_), (1, .slice ab b.length cb), (5, .int .i64 0)]) ?_ ?_
    · refine QRun_b [.int .i64 0] 0 _ (by kernel_rfl) (fun w => by kernel_rfl) ?_
      exact QRun_done [0, 1, 5] (by kernel_rfl) (by kernel_rfl)
    obtain ⟨x1, gx1, hF⟩ := M.bind_some hF
    obtain ⟨hloy1, hhiy1, gx1⟩ := M.for_start gx1
    refine Run_join (fun L' h' => ∃ (s2 : Unit), x1 = .inl s2 ∧ L' = [] ∧ h = h') ?_ ?_
    · rintro _ _ ⟨s2, es2, rfl, rfl⟩
      have hF := M.cont_inl' hF es2
      refine Run_seq ?_
      refine Run_reg 1 (by kernel_rfl) (L' := [(4, .bool true)]) ?_ ?_
      · refine QRun_b [.bool true] 0 _ (by kernel_rfl) (fun w => by kernel_rfl) ?_
        exact QRun_done [4] (by kernel_rfl) (by kernel_rfl)
      have hF := M.ret_some hF
      subst hF
      exact Run_ret1 rfl (ResV_tmp (v := .bool true) (by kernel_rfl)) ⟨rfl, rfl⟩
    · refine Run_block ?_
      refine Run_keep [0, 1, 5] (L' := [(0, .slice aa_ a_.length ca_), (1, .slice ab b.length cb), (5, .int .i64 0)]) (by kernel_rfl) ?_
      refine Run_loop (fun m L' h' => ∃ (i1 : Int) (s1 : Unit), 0 ≤ i1 ∧ M.forN (a_.length : Int) _ _ n m i1 s1 = some x1 ∧ L' = [(0, .slice aa_ a_.length ca_), (1, .slice ab b.length cb), (5, .int .i64 i1)] ∧ h = h') ((a_.length : Int) - 0).toNat ⟨0, (), Int.le_refl _, gx1, rfl, rfl⟩ ?_
      rintro my1 _ _ ⟨i1, s1, hloy1', gx1, rfl, rfl⟩
      refine Run_seq ?_
      refine Run_seq ?_
      refine Run_reg 4 (by kernel_rfl) (L' := [(0, .slice aa_ a_.length ca_), (1, .slice ab b.length cb), (5, .int .i64 i1), (14, .bool (decide (i1 < (a_.length : Int))))]) ?_ ?_
      · refine QRun_b [.int .i64 i1, .slice aa_ a_.length ca_, .int .i64 (a_.length : Int), .bool (decide (i1 < (a_.length : Int)))] 0 _ (by kernel_rfl) (fun w => by kernel_rfl) ?_
        exact QRun_done [0, 1, 5, 14] (by kernel_rfl) (by kernel_rfl)
      refine Run_cond (b := decide (i1 < (a_.length : Int))) (by kernel_rfl) (fun hb2 => ?_) (fun hb2 => ?_)
      · obtain ⟨my1, y1, rfl, hB1, hgoy1, houty1⟩ := M.for_go gx1 hb2
        have hlty1 := of_decide_eq_true hb2
        refine Run_skip ?_
        refine Run_seq ?_
        refine Run_block ?_
        refine Run_seq ?_
        obtain ⟨x2, hx1, hB1⟩ := M.bind_some hB1
        obtain ⟨hx1l, hx1u, hx1⟩ := M.idx_some hx1
        obtain ⟨a1, c1, hc1, r1⟩ := ra_.row hx1
        obtain ⟨x3, hx2, hB1⟩ := M.bind_some hB1
        obtain ⟨hx2l, hx2u, hx2⟩ := M.idx_some hx2
        obtain ⟨a2, c2, hc2, r2⟩ := rb.row hx2
        obtain ⟨x4, hx3, hB1⟩ := M.bind_some hB1
        refine Run_draw 10 mixed (by kernel_rfl) (by kernel_rfl) (L' := [(0, .slice aa_ a_.length ca_), (1, .slice ab b.length cb), (5, .int .i64 i1), (26, .bool (!x4))]) ?_ ?_
        · refine QRun_b [.slice aa_ a_.length ca_, .int .i64 i1] 0 _ (by kernel_rfl) (fun w => by kernel_rfl) ?_
          refine QRun_y (.pointer (some (adr aa_ (i1.toNat * 1)))) (by kernel_rfl) (Y_idx (t := 22) (e := 23) (sz := 1) (a := aa_) (n := a_.length) (cap := ca_) (kk := .i64) (i := i1) (by kernel_rfl) Try.underlying22 (by kernel_rfl) (ra_.cell hx1).1 hx1l hx1u) ?_
          refine QRun_y (.slice a1 x2.length c1) (by kernel_rfl) (Y_load1 (t := 23) (p := adr aa_ (i1.toNat * 1)) (v := .slice a1 x2.length c1) (by kernel_rfl) (fun w => by kernel_rfl) hc1) ?_
          refine QRun_b [.slice ab b.length cb, .int .i64 i1] 4 _ (by kernel_rfl) (fun w => by kernel_rfl) ?_
          refine QRun_y (.pointer (some (adr ab (i1.toNat * 1)))) (by kernel_rfl) (Y_idx (t := 22) (e := 23) (sz := 1) (a := ab) (n := b.length) (cap := cb) (kk := .i64) (i := i1) (by kernel_rfl) Try.underlying22 (by kernel_rfl) (rb.cell hx2).1 hx2l hx2u) ?_
          refine QRun_y (.slice a2 x3.length c2) (by kernel_rfl) (Y_load1 (t := 23) (p := adr ab (i1.toNat * 1)) (v := .slice a2 x3.length c2) (by kernel_rfl) (fun w => by kernel_rfl) hc2) ?_
          refine QRun_y (.bool x4) (by kernel_rfl) (Y_callq (f := 20) (args := #[.slice a1 x2.length c1, .slice a2 x3.length c2]) (v := .bool x4) (by kernel_rfl) (w_laws_eqInt64S h x2 a1 c1 r1 x3 a2 c2 r2 _ _ hx3)) ?_
          refine QRun_b [.bool (!x4)] 9 _ (by kernel_rfl) (fun w => by kernel_rfl) ?_
          exact QRun_done [0, 1, 5, 26] (by kernel_rfl) (by kernel_rfl)
        refine Run_cond (b := !x4) (by kernel_rfl) (fun hb3 => ?_) (fun hb3 => ?_)
        · have hB1 := (M.ite_some hB1).1 hb3
          refine Run_seq ?_
          refine Run_reg 1 (by kernel_rfl) (L' := [(4, .bool false)]) ?_ ?_
          · refine QRun_b [.bool false] 0 _ (by kernel_rfl) (fun w => by kernel_rfl) ?_
            exact QRun_done [4] (by kernel_rfl) (by kernel_rfl)
          have hB1 := M.ret_some hB1
          have gx1 := houty1 _ hB1.symm
          have hF := M.cont_inr' hF gx1
          have hF := M.ret_some hF
          subst hF
          exact Run_ret1 rfl (ResV_tmp (v := .bool false) (by kernel_rfl)) ⟨rfl, rfl⟩
        · have hB1 := (M.ite_some hB1).2 hb3
          refine Run_skip ?_
          refine Run_blk ?_
          refine Run_reg 3 (by kernel_rfl) (L' := [(0, .slice aa_ a_.length ca_), (1, .slice ab b.length cb), (5, .int .i64 (i1 + 1))]) ?_ ?_
          · refine QRun_b [.int .i64 i1] 0 _ (by kernel_rfl) (fun w => by kernel_rfl) ?_
            refine QRun_y (.int .i64 (i1 + 1)) (by kernel_rfl) (Y_eq (v := .int .i64 (w64 (i1 + 1))) (Y_pure (fun w => by kernel_rfl)) (by rw [w64_eq _ (by omega)])) ?_
            refine QRun_b [.int .i64 (i1 + 1)] 2 _ (by kernel_rfl) (fun w => by kernel_rfl) ?_
            exact QRun_done [0, 1, 5] (by kernel_rfl) (by kernel_rfl)
          have hB1 := M.ret_some hB1
          have gx1 := hgoy1 _ hB1.symm
          exact Run_again [0, 1, 5] (by kernel_rfl) my1 (Nat.lt_succ_self _) ⟨i1 + 1, (), by omega, gx1, rfl, rfl⟩
      · have gx1 := M.for_end gx1 hb2
        subst gx1
        refine Run_exit (k' := _) rfl ?_
        exact Run_fall [] (by kernel_rfl) ⟨(), rfl, rfl, rfl⟩

set_option maxRecDepth 100000 in
set_option maxHeartbeats 4000000 in
theorem w_laws_FnExactLargestGap (h : Heap) (aA : List (List Int)) (aaA : Option Addr) (caA : Nat) (raA : Rd cd23 h (Lt h) aaA caA aA) (aB : List Int) (aaB : Option Addr) (caB : Nat) (raB : Rd cd2 h (Lt h) aaB caB aB) (n : Nat) (r : Bool) (hF : laws_FnExactLargestGap aA aB n = some r) :
    Fn Try.prog 4 #[.slice aaA aA.length caA, .slice aaB aB.length caB] h fun v h' => v = .bool r ∧ Hold h h' [] := by
  unfold laws_FnExactLargestGap at hF
  refine Fn_enter (args := [.slice aaA aA.length caA, .slice aaB aB.length caB]) Try.func4 rfl (by kernel_rfl) (by kernel_rfl) (fun w0 _ => ?_)
  have H0 := Hold.init h
  refine Run_seq ?_
  refine Run_reg 1 (by kernel_rfl) (L' := [(0, .slice aaA aA.length caA), (1, .slice aaB aB.length caB)]) ?_ ?_
  · refine QRun_b [.bool false] 0 _ (by kernel_rfl) (fun w => by kernel_rfl) ?_
    exact QRun_done [0, 1] (by kernel_rfl) (by kernel_rfl)
  refine Run_seq ?_
  refine Run_seq ?_
  refine Run_reg 3 (by kernel_rfl) (L' := [(0, .slice aaA aA.length caA), (1, .slice aaB aB.length caB), (14, .bool (decide (1048576 < (aB.length : Int))))]) ?_ ?_
  · refine QRun_b [.slice aaB aB.length caB, .int .i64 (aB.length : Int), .bool (decide (1048576 < (aB.length : Int)))] 0 _ (by kernel_rfl) (fun w => by kernel_rfl) ?_
    exact QRun_done [0, 1, 14] (by kernel_rfl) (by kernel_rfl)
  refine Run_cond (b := decide (1048576 < (aB.length : Int))) (by kernel_rfl) (fun hb1 => ?_) (fun hb1 => ?_)
  · have hF := (M.ite_some hF).1 hb1
    refine Run_seq ?_
    refine Run_reg 1 (by kernel_rfl) (L' := [(4, .bool true)]) ?_ ?_
    · refine QRun_b [.bool true] 0 _ (by kernel_rfl) (fun w => by kernel_rfl) ?_
      exact QRun_done [4] (by kernel_rfl) (by kernel_rfl)
    have hF := M.ret_some hF
    subst hF
    exact Run_ret1 rfl (ResV_tmp (v := .bool true) (by kernel_rfl)) ⟨rfl, H0⟩
  · have hF := (M.ite_some hF).2 hb1
    refine Run_skip ?_
    refine Run_seq ?_
    refine Run_reg 1 (by kernel_rfl) (L' := [(0, .slice aaA aA.length caA), (1, .slice aaB aB.length caB), (5, .int .i64 1048576)]) ?_ ?_
    · refine QRun_b [.int .i64 1048576] 0 _ (by kernel_rfl) (fun w => by kernel_rfl) ?_
      exact QRun_done [0, 1, 5] (by kernel_rfl) (by kernel_rfl)
    refine Run_seq ?_
    obtain ⟨x1, hx1, hF⟩ := M.bind_some hF
    refine Run_reg 4 (by kernel_rfl) (L' := [(0, .slice aaA aA.length caA), (1, .slice aaB aB.length caB), (5, .int .i64 x1)]) ?_ ?_
    · refine QRun_b [.slice aaA aA.length caA, .int .i64 1048576] 0 _ (by kernel_rfl) (fun w => by kernel_rfl) ?_
      refine QRun_y (.int .i64 x1) (by kernel_rfl) (Y_callq (f := 15) (args := #[.slice aaA aA.length caA, .int .i64 1048576]) (v := .int .i64 x1) (by kernel_rfl) (w_laws_szInt64SS h aA aaA caA raA 1048576 _ _ hx1)) ?_
      refine QRun_b [.int .i64 x1] 3 _ (by kernel_rfl) (fun w => by kernel_rfl) ?_
      exact QRun_done [0, 1, 5] (by kernel_rfl) (by kernel_rfl)
    refine Run_seq ?_
    refine Run_seq ?_
    refine Run_reg 2 (by kernel_rfl) (L' := [(0, .slice aaA aA.length caA), (1, .slice aaB aB.length caB), (19, .bool (decide (x1 < 0)))]) ?_ ?_
    · refine QRun_b [.int .i64 x1, .bool (decide (x1 < 0))] 0 _ (by kernel_rfl) (fun w => by kernel_rfl) ?_
      exact QRun_done [0, 1, 19] (by kernel_rfl) (by kernel_rfl)
    refine Run_cond (b := decide (x1 < 0)) (by kernel_rfl) (fun hb2 => ?_) (fun hb2 => ?_)
    · have hF := (M.ite_some hF).1 hb2
      refine Run_seq ?_
      refine Run_reg 1 (by kernel_rfl) (L' := [(4, .bool true)]) ?_ ?_
      · refine QRun_b [.bool true] 0 _ (by kernel_rfl) (fun w => by kernel_rfl) ?_
        exact QRun_done [4] (by kernel_rfl) (by kernel_rfl)
      have hF := M.ret_some hF
      subst hF
      exact Run_ret1 rfl (ResV_tmp (v := .bool true) (by kernel_rfl)) ⟨rfl, H0⟩
    · have hF := (M.ite_some hF).2 hb2
      refine Run_skip ?_
      refine Run_seq ?_
      refine Run_ops ?_
      refine Run_b [.slice aaA aA.length caA] 0 _ (by kernel_rfl) (fun w => by kernel_rfl) ?_
      obtain ⟨x2, hx2, hF⟩ := M.bind_some hF
      refine Run_E (by kernel_rfl) ?_
      refine E_call (f := 17) (args := #[.slice aaA aA.length caA]) (w_laws_toInt64SS h aA aaA caA raA _ _ hx2) (by kernel_rfl) (fun v1 h1 hp1 => ?_)
      obtain ⟨a1, c1, rfl, H1⟩ := hp1
      have H2 : Hold h h1 [own cd23 a1 x2.length c1 x2] := H0.call H1 rfl
      refine Run_b [.slice aaB aB.length caB] 2 _ (by kernel_rfl) (fun w => by kernel_rfl) ?_
      obtain ⟨x3, hx3, hF⟩ := M.bind_some hF
      refine Run_E (by kernel_rfl) ?_
      refine E_call (f := 18) (args := #[.slice aaB aB.length caB]) (w_laws_toInt64S h1 aB aaB caB (raB.at H2.ext) _ _ hx3) (by kernel_rfl) (fun v2 h2 hp2 => ?_)
      obtain ⟨a2, c2, rfl, H3⟩ := hp2
      have H4 : Hold h h2 [own cd2 a2 x3.length c2 x3, own cd23 a1 x2.length c1 x2] := H2.call H3 rfl
      obtain ⟨x4, hx4, hF⟩ := M.bind_some hF
      refine Run_E (by kernel_rfl) ?_
      refine E_call (f := 25) (args := #[.slice a1 x2.length c1, .slice a2 x3.length c2]) (w_spec_LargestGap h2 x2 a1 c1 (H4.rd 1 rfl) x3 a2 c2 (H4.rd 0 rfl) _ _ hx4) (by kernel_rfl) (fun v3 h3 hp3 => ?_)
      obtain ⟨rfl, H5⟩ := hp3
      have H6 : Hold h h3 [own cd2 a2 x3.length c2 x3, own cd23 a1 x2.length c1 x2] := H4.call H5 rfl
      refine Run_b [.tuple #[.int .i64 x4.1, .int .i64 x4.2], .int .i64 x4.1, .int .i64 x4.2, .int .i64 x4.1, .int .i64 x4.2] 5 _ (by kernel_rfl) (fun w => by kernel_rfl) ?_
      refine Run_nil (by kernel_rfl) ?_
      refine Run_keep [0, 1, 6, 7] (L' := [(0, .slice aaA aA.length caA), (1, .slice aaB aB.length caB), (6, .int .i64 x4.1), (7, .int .i64 x4.2)]) (by kernel_rfl) ?_
      refine Run_seq ?_
      refine Run_ops ?_
      refine Run_b [.slice aaA aA.length caA] 0 _ (by kernel_rfl) (fun w => by kernel_rfl) ?_
      obtain ⟨x5, hx5, hF⟩ := M.bind_some hF
      refine Run_E (by kernel_rfl) ?_
      refine E_call (f := 17) (args := #[.slice aaA aA.length caA]) (w_laws_toInt64SS h3 aA aaA caA (raA.at H6.ext) _ _ hx5) (by kernel_rfl) (fun v4 h4 hp4 => ?_)
      obtain ⟨a3, c3, rfl, H7⟩ := hp4
      have H8 : Hold h h4 [own cd23 a3 x5.length c3 x5, own cd2 a2 x3.length c2 x3, own cd23 a1 x2.length c1 x2] := H6.call H7 rfl
      refine Run_b [.slice a3 x5.length c3] 2 _ (by kernel_rfl) (fun w => by kernel_rfl) ?_
      refine Run_nil (by kernel_rfl) ?_
      refine Run_keep [0, 1, 6, 7, 8] (L' := [(0, .slice aaA aA.length caA), (1, .slice aaB aB.length caB), (6, .int .i64 x4.1), (7, .int .i64 x4.2), (8, .slice a3 x5.length c3)]) (by kernel_rfl) ?_
      refine Run_seq ?_
      refine Run_ops ?_
      refine Run_b [.slice aaB aB.length caB] 0 _ (by kernel_rfl) (fun w => by kernel_rfl) ?_
      obtain ⟨x6, hx6, hF⟩ := M.bind_some hF
      refine Run_E (by kernel_rfl) ?_
      refine E_call (f := 18) (args := #[.slice aaB aB.length caB]) (w_laws_toInt64S h4 aB aaB caB (raB.at H8.ext) _ _ hx6) (by kernel_rfl) (fun v5 h5 hp5 => ?_)
      obtain ⟨a4, c4, rfl, H9⟩ := hp5
      have H10 : Hold h h5 [own cd2 a4 x6.length c4 x6, own cd23 a3 x5.length c3 x5, own cd2 a2 x3.length c2 x3, own cd23 a1 x2.length c1 x2] := H8.call H9 rfl
      refine Run_b [.slice a4 x6.length c4] 2 _ (by kernel_rfl) (fun w => by kernel_rfl) ?_
      refine Run_nil (by kernel_rfl) ?_
      refine Run_keep [0, 1, 6, 7, 8, 9] (L' := [(0, .slice aaA aA.length caA), (1, .slice aaB aB.length caB), (6, .int .i64 x4.1), (7, .int .i64 x4.2), (8, .slice a3 x5.length c3), (9, .slice a4 x6.length c4)]) (by kernel_rfl) ?_
      refine Run_seq ?_
      obtain ⟨x7, hx7, hF⟩ := M.bind_some hF
      refine Run_regC (j := 8) (C := fun x => Hold h x [own cd2 a4 x6.length c4 x6, own cd23 a3 x5.length c3 x5, own cd2 a2 x3.length c2 x3, own cd23 a1 x2.length c1 x2]) (by kernel_rfl) H10 (L' := [(0, .slice aaA aA.length caA), (1, .slice aaB aB.length caB), (6, .int .i64 x4.1), (7, .int .i64 x4.2), (8, .slice a3 x5.length c3), (9, .slice a4 x6.length c4), (10, .int .i64 x7.1), (11, .int .i64 x7.2)]) ?_ (fun h6 H11 => ?_)
      · refine QRun_b [.slice a3 x5.length c3, .slice a4 x6.length c4] 0 _ (by kernel_rfl) (fun w => by kernel_rfl) ?_
        refine QRun_y (.tuple #[.int .i64 x7.1, .int .i64 x7.2]) (by kernel_rfl) (Y_call (f := 26) (args := #[.slice a3 x5.length c3, .slice a4 x6.length c4]) (v := .tuple #[.int .i64 x7.1, .int .i64 x7.2]) (by kernel_rfl) fun hx Hx => (w_impl_LargestGap hx x5 a3 c3 (Hx.rd 1 rfl) x6 a4 c4 (Hx.rd 0 rfl) _ _ hx7).mono fun _ _ ⟨e, H'⟩ => ⟨e, Hx.call H' rfl⟩) ?_
        refine QRun_b [.tuple #[.int .i64 x7.1, .int .i64 x7.2], .int .i64 x7.1, .int .i64 x7.2, .int .i64 x7.1, .int .i64 x7.2] 3 _ (by kernel_rfl) (fun w => by kernel_rfl) ?_
        exact QRun_done [0, 1, 6, 7, 8, 9, 10, 11] (by kernel_rfl) (by kernel_rfl)
      have H12 : Hold h h6 [own cd2 a4 x6.length c4 x6, own cd23 a3 x5.length c3 x5, own cd2 a2 x3.length c2 x3, own cd23 a1 x2.length c1 x2] := H11
      refine Run_seq ?_
      refine Run_seq ?_
      refine Run_reg 8 (by kernel_rfl) (L' := [(0, .slice aaA aA.length caA), (1, .slice aaB aB.length caB), (8, .slice a3 x5.length c3), (9, .slice a4 x6.length c4), (45, .bool ((x7.1 != x4.1) || (x7.2 != x4.2)))]) ?_ ?_
      · refine QRun_b [.int .i64 x7.1, .int .i64 x4.1, .bool (x7.1 != x4.1)] 0 _ (by kernel_rfl) (fun w => by kernel_rfl) ?_
        refine QRun_seq 8 [(0, .slice aaA aA.length caA), (1, .slice aaB aB.length caB), (8, .slice a3 x5.length c3), (9, .slice a4 x6.length c4), (45, .bool ((x7.1 != x4.1) || (x7.2 != x4.2)))] ?_ ?_
        · rcases Bool.eq_false_or_eq_true (x7.1 != x4.1) with hb3 | hb3
          · refine QRun_bool (x7.1 != x4.1) true (by kernel_rfl) (fun w => by kernel_rfl) hb3 ?_
            refine QRun_n (by kernel_rfl) ?_
            refine QRun_n (by kernel_rfl) ?_
            refine QRun_n (by kernel_rfl) ?_
            refine QRun_bool true ((x7.1 != x4.1) || (x7.2 != x4.2)) (by kernel_rfl) (fun w => by kernel_rfl) (by rw [hb3]; rfl) ?_
            exact QRun_done [0, 1, 8, 9, 45] (by kernel_rfl) (by kernel_rfl)
          · refine QRun_bool (x7.1 != x4.1) false (by kernel_rfl) (fun w => by kernel_rfl) hb3 ?_
            refine QRun_b [.int .i64 x7.2, .int .i64 x4.2, .bool (x7.2 != x4.2)] 4 _ (by kernel_rfl) (fun w => by kernel_rfl) ?_
            refine QRun_bool (x7.2 != x4.2) ((x7.1 != x4.1) || (x7.2 != x4.2)) (by kernel_rfl) (fun w => by kernel_rfl) (by rw [hb3]; rfl) ?_
            exact QRun_done [0, 1, 8, 9, 45] (by kernel_rfl) (by kernel_rfl)
        exact QRun_done [0, 1, 8, 9, 45] (by kernel_rfl) (by kernel_rfl)
      refine Run_cond (b := (x7.1 != x4.1) || (x7.2 != x4.2)) (by kernel_rfl) (fun hb4 => ?_) (fun hb4 => ?_)
      · have hF := (M.ite_some hF).1 hb4
        refine Run_seq ?_
        refine Run_reg 1 (by kernel_rfl) (L' := [(4, .bool false)]) ?_ ?_
        · refine QRun_b [.bool false] 0 _ (by kernel_rfl) (fun w => by kernel_rfl) ?_
          exact QRun_done [4] (by kernel_rfl) (by kernel_rfl)
        have hF := M.ret_some hF
        subst hF
        have H13 : Hold h h6 [] := H12.pick [] (by kernel_rfl)
        exact Run_ret1 rfl (ResV_tmp (v := .bool false) (by kernel_rfl)) ⟨rfl, H13⟩
      · have hF := (M.ite_some hF).2 hb4
        refine Run_skip ?_
        refine Run_seq ?_
        refine Run_seq ?_
        refine Run_ops ?_
        refine Run_b [.slice a3 x5.length c3, .slice aaA aA.length caA] 0 _ (by kernel_rfl) (fun w => by kernel_rfl) ?_
        obtain ⟨x9, hx8, hF⟩ := M.bind_some hF
        refine Run_E (by kernel_rfl) ?_
        refine E_call (f := 17) (args := #[.slice aaA aA.length caA]) (w_laws_toInt64SS h6 aA aaA caA (raA.at H12.ext) _ _ hx8) (by kernel_rfl) (fun v6 h7 hp6 => ?_)
        obtain ⟨a5, c5, rfl, H14⟩ := hp6
        have H15 : Hold h h7 [own cd23 a5 x9.length c5 x9, own cd2 a4 x6.length c4 x6, own cd23 a3 x5.length c3 x5, own cd2 a2 x3.length c2 x3, own cd23 a1 x2.length c1 x2] := H12.call H14 rfl
        obtain ⟨x10, hx9, hF⟩ := M.bind_some hF
        refine Run_y (.bool x10) (by kernel_rfl) (Y_callq (f := 21) (args := #[.slice a3 x5.length c3, .slice a5 x9.length c5]) (v := .bool x10) (by kernel_rfl) (w_laws_eqInt64SS h7 x5 a3 c3 (H15.rd 2 rfl) x9 a5 c5 (H15.rd 0 rfl) _ _ hx9)) ?_
        refine Run_b [.bool (!x10)] 4 _ (by kernel_rfl) (fun w => by kernel_rfl) ?_
        refine Run_nil (by kernel_rfl) ?_
        refine Run_keep [1, 9, 50] (L' := [(1, .slice aaB aB.length caB), (9, .slice a4 x6.length c4), (50, .bool (!x10))]) (by kernel_rfl) ?_
        refine Run_cond (b := !x10) (by kernel_rfl) (fun hb5 => ?_) (fun hb5 => ?_)
        · have hF := (M.ite_some hF).1 hb5
          refine Run_seq ?_
          refine Run_reg 1 (by kernel_rfl) (L' := [(4, .bool false)]) ?_ ?_
          · refine QRun_b [.bool false] 0 _ (by kernel_rfl) (fun w => by kernel_rfl) ?_
            exact QRun_done [4] (by kernel_rfl) (by kernel_rfl)
          have hF := M.ret_some hF
          subst hF
          have H16 : Hold h h7 [] := H15.pick [] (by kernel_rfl)
          exact Run_ret1 rfl (ResV_tmp (v := .bool false) (by kernel_rfl)) ⟨rfl, H16⟩
        · have hF := (M.ite_some hF).2 hb5
          refine Run_skip ?_
          refine Run_seq ?_
          refine Run_seq ?_
          refine Run_ops ?_
          refine Run_b [.slice a4 x6.length c4, .slice aaB aB.length caB] 0 _ (by kernel_rfl) (fun w => by kernel_rfl) ?_
          obtain ⟨x11, hx10, hF⟩ := M.bind_some hF
          refine Run_E (by kernel_rfl) ?_
          refine E_call (f := 18) (args := #[.slice aaB aB.length caB]) (w_laws_toInt64S h7 aB aaB caB (raB.at H15.ext) _ _ hx10) (by kernel_rfl) (fun v7 h8 hp7 => ?_)
          obtain ⟨a6, c6, rfl, H17⟩ := hp7
          have H18 : Hold h h8 [own cd2 a6 x11.length c6 x11, own cd23 a5 x9.length c5 x9, own cd2 a4 x6.length c4 x6, own cd23 a3 x5.length c3 x5, own cd2 a2 x3.length c2 x3, own cd23 a1 x2.length c1 x2] := H15.call H17 rfl
          obtain ⟨x12, hx11, hF⟩ := M.bind_some hF
          refine Run_y (.bool x12) (by kernel_rfl) (Y_callq (f := 20) (args := #[.slice a4 x6.length c4, .slice a6 x11.length c6]) (v := .bool x12) (by kernel_rfl) (w_laws_eqInt64S h8 x6 a4 c4 (H18.rd 2 rfl) x11 a6 c6 (H18.rd 0 rfl) _ _ hx11)) ?_
          refine Run_b [.bool (!x12)] 4 _ (by kernel_rfl) (fun w => by kernel_rfl) ?_
          refine Run_nil (by kernel_rfl) ?_
          refine Run_keep [55] (L' := [(55, .bool (!x12))]) (by kernel_rfl) ?_
          refine Run_cond (b := !x12) (by kernel_rfl) (fun hb6 => ?_) (fun hb6 => ?_)
          · have hF := (M.ite_some hF).1 hb6
            refine Run_seq ?_
            refine Run_reg 1 (by kernel_rfl) (L' := [(4, .bool false)]) ?_ ?_
            · refine QRun_b [.bool false] 0 _ (by kernel_rfl) (fun w => by kernel_rfl) ?_
              exact QRun_done [4] (by kernel_rfl) (by kernel_rfl)
            have hF := M.ret_some hF
            subst hF
            have H19 : Hold h h8 [] := H18.pick [] (by kernel_rfl)
            exact Run_ret1 rfl (ResV_tmp (v := .bool false) (by kernel_rfl)) ⟨rfl, H19⟩
          · have hF := (M.ite_some hF).2 hb6
            refine Run_skip ?_
            refine Run_seq ?_
            refine Run_reg 1 (by kernel_rfl) (L' := [(4, .bool true)]) ?_ ?_
            · refine QRun_b [.bool true] 0 _ (by kernel_rfl) (fun w => by kernel_rfl) ?_
              exact QRun_done [4] (by kernel_rfl) (by kernel_rfl)
            have hF := M.ret_some hF
            subst hF
            have H20 : Hold h h8 [] := H18.pick [] (by kernel_rfl)
            exact Run_ret1 rfl (ResV_tmp (v := .bool true) (by kernel_rfl)) ⟨rfl, H20⟩

end Go.Proofs.Ytmpjjdgfkjompaa
