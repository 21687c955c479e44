/-
  Walks: each Go function, called with what reads as plain data, returns what its plain program computes.
  Conditions: None beyond the given statement.
-/
import Derived.Test.YtipdgiljgbjjkaaW1
namespace Go.Proofs.Ytipdgiljgbjjkaa
open Go
attribute [local irreducible] setL setB opA fineI idleI fineB evB okB markB markBs readyB readyBs chainB lk rho pickL dropSlot tailOK
set_option maxRecDepth 100000 in
set_option maxHeartbeats 4000000 in
theorem w_impl_starOf (h : Heap) (a_ : List (List Int)) (aa_ : Option Addr) (ca_ : Nat) (ra_ : Rd cd39 h (Lt h) aa_ ca_ a_) (n : Nat) (r : (List (List Int)) × Bool) (hF : impl_starOf a_ n = some r) :
    Fn Try.prog 91 #[.slice aa_ a_.length ca_] h fun v h' => ∃ (a0 : Option Addr) (c0 : Nat), v = .tuple #[.slice a0 r.1.length c0, .bool r.2] ∧ Hold h h' [own cd39 a0 r.1.length c0 r.1] := by
  unfold impl_starOf at hF
  refine Fn_enter (args := [.slice aa_ a_.length ca_]) Try.func91 rfl (by kernel_rfl) (by kernel_rfl) (fun w0 _ => ?_)
  have H0 := Hold.init h
  refine Run_seq ?_
  refine Run_reg 2 (by kernel_rfl) (L' := [(0, .slice aa_ a_.length ca_)]) ?_ ?_
  · refine QRun_b [.slice none 0 0, .bool false] 0 _ (by kernel_rfl) (fun w => by kernel_rfl) ?_
    exact QRun_done [0] (by kernel_rfl) (by kernel_rfl)
  refine Run_seq ?_
  refine Run_ops ?_
  refine Run_b [.slice aa_ a_.length ca_, .slice aa_ a_.length ca_, .int .i64 (a_.length : Int)] 0 _ (by kernel_rfl) (fun w => by kernel_rfl) ?_
  obtain ⟨x1, hx1, hF⟩ := M.bind_some hF
  refine Run_E (by kernel_rfl) ?_
  refine E_call (f := 156) (args := #[.int .i64 (a_.length : Int)]) (w_impl_unitMatrix h (a_.length : Int) _ _ hx1) (by kernel_rfl) (fun v1 h1 hp1 => ?_)
  obtain ⟨a1, c1, rfl, H1⟩ := hp1
  have H2 : Hold h h1 [own cd39 a1 x1.length c1 x1] := H0.call H1 rfl
  obtain ⟨x2, hx2, hF⟩ := M.bind_some hF
  refine Run_E (by kernel_rfl) ?_
  refine E_call (f := 155) (args := #[.slice aa_ a_.length ca_, .slice a1 x1.length c1]) (w_impl_addMatrices h1 a_ aa_ ca_ (ra_.at H2.ext) x1 a1 c1 (H2.rd 0 rfl) _ _ hx2) (by kernel_rfl) (fun v2 h2 hp2 => ?_)
  obtain ⟨a2, c2, rfl, H3⟩ := hp2
  have H4 : Hold h h2 [own cd39 a2 x2.length c2 x2, own cd39 a1 x1.length c1 x1] := H2.call H3 rfl
  refine Run_b [.slice a2 x2.length c2] 5 _ (by kernel_rfl) (fun w => by kernel_rfl) ?_
  refine Run_nil (by kernel_rfl) ?_
  refine Run_keep [4] (L' := [(4, .slice a2 x2.length c2)]) (by kernel_rfl) ?_
  refine Run_seq ?_
  refine Run_seq ?_
  refine Run_reg 3 (by kernel_rfl) (L' := [(4, .slice a2 x2.length c2), (15, .int .i64 (x2.length : Int)), (16, .int .i64 0)]) ?_ ?_
  · refine QRun_b [.slice a2 x2.length c2, .int .i64 (x2.length : Int), .int .i64 0] 0 _ (by kernel_rfl) (fun w => by kernel_rfl) ?_
    exact QRun_done [4, 15, 16] (by kernel_rfl) (by kernel_rfl)
  obtain ⟨x3, gx3, hF⟩ := M.bind_some hF
  obtain ⟨hloy1, hhiy1, gx3⟩ := M.for_start gx3
  refine Run_join (fun L' h' => ∃ (s2 : (List (List Int))), x3 = .inl s2 ∧ L' = [(4, .slice a2 x2.length c2)] ∧ Hold h h' [own cd39 a2 x2.length c2 s2]) ?_ ?_
  · rintro _ h4 ⟨s2, es2, rfl, H6⟩
    have hF := M.cont_inl' hF es2
    refine Run_seq ?_
    refine Run_seq ?_
    refine Run_reg 3 (by kernel_rfl) (L' := [(4, .slice a2 x2.length c2), (70, .int .i64 (x2.length : Int)), (71, .int .i64 0)]) ?_ ?_
    · refine QRun_b [.slice a2 x2.length c2, .int .i64 (x2.length : Int), .int .i64 0] 0 _ (by kernel_rfl) (fun w => by kernel_rfl) ?_
      exact QRun_done [4, 70, 71] (by kernel_rfl) (by kernel_rfl)
    obtain ⟨x17, gx17, hF⟩ := M.bind_some hF
    obtain ⟨hloy4, hhiy4, gx17⟩ := M.for_start gx17
    refine Run_join (fun L' h' => ∃ (s6 : Unit), x17 = .inl s6 ∧ L' = [(4, .slice a2 x2.length c2)] ∧ Hold h h' [own cd39 a2 x2.length c2 s2]) ?_ ?_
    · rintro _ h12 ⟨s6, es6, rfl, H26⟩
      have hF := M.cont_inl' hF es6
      refine Run_seq ?_
      refine Run_reg 3 (by kernel_rfl) (L' := [(2, .slice a2 x2.length c2), (3, .bool true)]) ?_ ?_
      · refine QRun_b [.slice a2 x2.length c2, .slice a2 x2.length c2, .bool true] 0 _ (by kernel_rfl) (fun w => by kernel_rfl) ?_
        exact QRun_done [2, 3] (by kernel_rfl) (by kernel_rfl)
      have hF := M.ret_some hF
      subst hF
      have H32 := H26.norm
      exact Run_ret2 rfl (ResV_tmp (v := .slice a2 x2.length c2) (by kernel_rfl)) (ResV_tmp (v := .bool true) (by kernel_rfl)) ⟨a2, c2, (by simp only [(H26.len 0 rfl)]), H32⟩
    · refine Run_block ?_
      refine Run_keep [4, 70, 71] (L' := [(4, .slice a2 x2.length c2), (70, .int .i64 (x2.length : Int)), (71, .int .i64 0)]) (by kernel_rfl) ?_
      refine Run_loop (fun m L' h' => ∃ (i4 : Int) (s5 : Unit), 0 ≤ i4 ∧ M.forN (x2.length : Int) _ _ n m i4 s5 = some x17 ∧ L' = [(4, .slice a2 x2.length c2), (70, .int .i64 (x2.length : Int)), (71, .int .i64 i4)] ∧ Hold h h' [own cd39 a2 x2.length c2 s2]) ((x2.length : Int) - 0 : Int).toNat ⟨0, (), Int.le_refl _, gx17, rfl, H6⟩ ?_
      rintro my4 _ h11 ⟨i4, s5, hloy4', gx17, rfl, H25⟩
      refine Run_seq ?_
      refine Run_reg 1 (by kernel_rfl) (L' := [(4, .slice a2 x2.length c2), (70, .int .i64 (x2.length : Int)), (71, .int .i64 i4), (72, .bool (decide (i4 < (x2.length : Int))))]) ?_ ?_
      · refine QRun_b [.bool (decide (i4 < (x2.length : Int)))] 0 _ (by kernel_rfl) (fun w => by kernel_rfl) ?_
        exact QRun_done [4, 70, 71, 72] (by kernel_rfl) (by kernel_rfl)
      refine Run_seq ?_
      refine Run_cond (b := decide (i4 < (x2.length : Int))) (by kernel_rfl) (fun hb5 => ?_) (fun hb5 => ?_)
      · obtain ⟨my4, y4, rfl, hB4, hgoy4, houty4⟩ := M.for_go gx17 hb5
        have hlty4 := of_decide_eq_true hb5
        refine Run_skip ?_
        refine Run_seq ?_
        refine Run_block ?_
        refine Run_seq ?_
        refine Run_reg 2 (by kernel_rfl) (L' := [(4, .slice a2 x2.length c2), (8, .int .i64 i4), (70, .int .i64 (x2.length : Int)), (71, .int .i64 i4)]) ?_ ?_
        · refine QRun_b [.int .i64 i4, .int .i64 i4] 0 _ (by kernel_rfl) (fun w => by kernel_rfl) ?_
          exact QRun_done [4, 8, 70, 71] (by kernel_rfl) (by kernel_rfl)
        refine Run_seq ?_
        obtain ⟨x18, hx14, hB4⟩ := M.bind_some hB4
        obtain ⟨hx14l, hx14u, hx14⟩ := M.idx_some hx14
        have H27 := H25.toRows
        obtain ⟨a8, c8, H28⟩ := H27.pinRow hx14
        obtain ⟨x19, hx15, hB4⟩ := M.bind_some hB4
        obtain ⟨hx15l, hx15u, hx15⟩ := M.idx_some hx15
        refine Run_reg 8 (by kernel_rfl) (L' := [(4, .slice a2 x2.length c2), (70, .int .i64 (x2.length : Int)), (71, .int .i64 i4), (81, .bool (decide (0 < x19)))]) ?_ ?_
        · refine QRun_b [.slice a2 x2.length c2, .int .i64 i4] 0 _ (by kernel_rfl) (fun w => by kernel_rfl) ?_
          refine QRun_y (.pointer (some (adr a2 (i4.toNat * 1)))) (by kernel_rfl) (Y_idx (t := 37) (e := 39) (sz := 1) (a := a2) (n := x2.length) (cap := c2) (kk := .i64) (i := i4) (by kernel_rfl) Try.underlying37 (by kernel_rfl) ((H25.rd 0 rfl).cell hx14).1 hx14l (by rw [← (H25.len 0 rfl)]; exact hx14u)) ?_
          refine QRun_y (.slice a8 x18.length c8) (by kernel_rfl) (Y_load1 (t := 39) (p := adr a2 (i4.toNat * 1)) (v := .slice a8 x18.length c8) (by kernel_rfl) (fun w => by kernel_rfl) (H28.cellPin 0 rfl 0 rfl)) ?_
          refine QRun_b [.int .i64 i4] 4 _ (by kernel_rfl) (fun w => by kernel_rfl) ?_
          refine QRun_y (.pointer (some (adr a8 (i4.toNat * 1)))) (by kernel_rfl) (Y_idx (t := 39) (e := 2) (sz := 1) (a := a8) (n := x18.length) (cap := c8) (kk := .i64) (i := i4) (by kernel_rfl) Try.underlying39 (by kernel_rfl) ((H28.rdPin 0 rfl 0 rfl).cell hx15).1 hx15l hx15u) ?_
          refine QRun_y (.int .i64 x19) (by kernel_rfl) (Y_load1 (t := 2) (p := adr a8 (i4.toNat * 1)) (v := .int .i64 x19) (by kernel_rfl) (fun w => by kernel_rfl) (cd2_cell (H28.rdPin 0 rfl 0 rfl) hx15)) ?_
          refine QRun_b [.bool (decide (0 < x19))] 7 _ (by kernel_rfl) (fun w => by kernel_rfl) ?_
          exact QRun_done [4, 70, 71, 81] (by kernel_rfl) (by kernel_rfl)
        refine Run_cond (b := decide (0 < x19)) (by kernel_rfl) (fun hb6 => ?_) (fun hb6 => ?_)
        · have hB4 := (M.ite_some hB4).1 hb6
          refine Run_seq ?_
          refine Run_reg 2 (by kernel_rfl) (L' := [(2, .slice none 0 0), (3, .bool false)]) ?_ ?_
          · refine QRun_b [.slice none 0 0, .bool false] 0 _ (by kernel_rfl) (fun w => by kernel_rfl) ?_
            exact QRun_done [2, 3] (by kernel_rfl) (by kernel_rfl)
          have hB4 := M.ret_some hB4
          have gx17 := houty4 _ hB4.symm
          have hF := M.cont_inr' hF gx17
          have hF := M.ret_some hF
          subst hF
          have H29 := H28.empty cd39
          have H30 : Hold h h11 [own cd39 none 0 0 []] := H29.pick [0] (by kernel_rfl)
          exact Run_ret2 rfl (ResV_tmp (v := .slice none 0 0) (by kernel_rfl)) (ResV_tmp (v := .bool false) (by kernel_rfl)) ⟨none, 0, rfl, H30⟩
        · have hB4 := (M.ite_some hB4).2 hb6
          refine Run_skip ?_
          refine Run_blk ?_
          refine Run_reg 2 (by kernel_rfl) (L' := [(4, .slice a2 x2.length c2), (70, .int .i64 (x2.length : Int)), (71, .int .i64 (i4 + 1))]) ?_ ?_
          · refine QRun_y (.int .i64 (i4 + 1)) (by kernel_rfl) (Y_eq (v := .int .i64 (w64 (i4 + 1))) (Y_pure (fun w => by kernel_rfl)) (by rw [w64_eq _ (by omega)])) ?_
            refine QRun_b [.int .i64 (i4 + 1)] 1 _ (by kernel_rfl) (fun w => by kernel_rfl) ?_
            exact QRun_done [4, 70, 71] (by kernel_rfl) (by kernel_rfl)
          have H31 := H28.ofRows
          have hB4 := M.ret_some hB4
          have gx17 := hgoy4 _ hB4.symm
          exact Run_again [4, 70, 71] (by kernel_rfl) my4 (Nat.lt_succ_self _) ⟨i4 + 1, (), by omega, gx17, rfl, H31⟩
      · have gx17 := M.for_end gx17 hb5
        subst gx17
        refine Run_exit (k' := _) rfl ?_
        exact Run_fall [4] (by kernel_rfl) ⟨(), rfl, rfl, H25⟩
  · refine Run_block ?_
    have H33 : Hold h h2 [own cd39 a2 x2.length c2 x2] := H4.pick [0] (by kernel_rfl)
    refine Run_keep [4, 15, 16] (L' := [(4, .slice a2 x2.length c2), (15, .int .i64 (x2.length : Int)), (16, .int .i64 0)]) (by kernel_rfl) ?_
    refine Run_loop (fun m L' h' => ∃ (i1 : Int) (s1 : (List (List Int))), 0 ≤ i1 ∧ M.forN (x2.length : Int) _ _ n m i1 s1 = some x3 ∧ L' = [(4, .slice a2 x2.length c2), (15, .int .i64 (x2.length : Int)), (16, .int .i64 i1)] ∧ Hold h h' [own cd39 a2 x2.length c2 s1]) ((x2.length : Int) - 0 : Int).toNat ⟨0, x2, Int.le_refl _, gx3, rfl, H33⟩ ?_
    rintro my1 _ h3 ⟨i1, s1, hloy1', gx3, rfl, H5⟩
    refine Run_seq ?_
    refine Run_reg 1 (by kernel_rfl) (L' := [(4, .slice a2 x2.length c2), (15, .int .i64 (x2.length : Int)), (16, .int .i64 i1), (17, .bool (decide (i1 < (x2.length : Int))))]) ?_ ?_
    · refine QRun_b [.bool (decide (i1 < (x2.length : Int)))] 0 _ (by kernel_rfl) (fun w => by kernel_rfl) ?_
      exact QRun_done [4, 15, 16, 17] (by kernel_rfl) (by kernel_rfl)
    refine Run_seq ?_
    refine Run_cond (b := decide (i1 < (x2.length : Int))) (by kernel_rfl) (fun hb1 => ?_) (fun hb1 => ?_)
    · obtain ⟨my1, y1, rfl, hB1, hgoy1, houty1⟩ := M.for_go gx3 hb1
      have hlty1 := of_decide_eq_true hb1
      refine Run_skip ?_
      refine Run_seq ?_
      refine Run_block ?_
      refine Run_seq ?_
      refine Run_reg 2 (by kernel_rfl) (L' := [(4, .slice a2 x2.length c2), (5, .int .i64 i1), (15, .int .i64 (x2.length : Int)), (16, .int .i64 i1)]) ?_ ?_
      · refine QRun_b [.int .i64 i1, .int .i64 i1] 0 _ (by kernel_rfl) (fun w => by kernel_rfl) ?_
        exact QRun_done [4, 5, 15, 16] (by kernel_rfl) (by kernel_rfl)
      refine Run_seq ?_
      refine Run_seq ?_
      obtain ⟨x4, hx3, hB1⟩ := M.bind_some hB1
      obtain ⟨hx3l, hx3u, hx3⟩ := M.idx_some hx3
      have H7 := H5.toRows
      obtain ⟨a3, c3, H8⟩ := H7.pinRow hx3
      obtain ⟨x5, hx4, hB1⟩ := M.bind_some hB1
      obtain ⟨hx4l, hx4u, hx4⟩ := M.idx_some hx4
      refine Run_reg 8 (by kernel_rfl) (L' := [(4, .slice a2 x2.length c2), (5, .int .i64 i1), (15, .int .i64 (x2.length : Int)), (16, .int .i64 i1), (26, .bool (decide (0 < x5)))]) ?_ ?_
      · refine QRun_b [.slice a2 x2.length c2, .int .i64 i1] 0 _ (by kernel_rfl) (fun w => by kernel_rfl) ?_
        refine QRun_y (.pointer (some (adr a2 (i1.toNat * 1)))) (by kernel_rfl) (Y_idx (t := 37) (e := 39) (sz := 1) (a := a2) (n := x2.length) (cap := c2) (kk := .i64) (i := i1) (by kernel_rfl) Try.underlying37 (by kernel_rfl) ((H5.rd 0 rfl).cell hx3).1 hx3l (by rw [← (H5.len 0 rfl)]; exact hx3u)) ?_
        refine QRun_y (.slice a3 x4.length c3) (by kernel_rfl) (Y_load1 (t := 39) (p := adr a2 (i1.toNat * 1)) (v := .slice a3 x4.length c3) (by kernel_rfl) (fun w => by kernel_rfl) (H8.cellPin 0 rfl 0 rfl)) ?_
        refine QRun_b [.int .i64 i1] 4 _ (by kernel_rfl) (fun w => by kernel_rfl) ?_
        refine QRun_y (.pointer (some (adr a3 (i1.toNat * 1)))) (by kernel_rfl) (Y_idx (t := 39) (e := 2) (sz := 1) (a := a3) (n := x4.length) (cap := c3) (kk := .i64) (i := i1) (by kernel_rfl) Try.underlying39 (by kernel_rfl) ((H8.rdPin 0 rfl 0 rfl).cell hx4).1 hx4l hx4u) ?_
        refine QRun_y (.int .i64 x5) (by kernel_rfl) (Y_load1 (t := 2) (p := adr a3 (i1.toNat * 1)) (v := .int .i64 x5) (by kernel_rfl) (fun w => by kernel_rfl) (cd2_cell (H8.rdPin 0 rfl 0 rfl) hx4)) ?_
        refine QRun_b [.bool (decide (0 < x5))] 7 _ (by kernel_rfl) (fun w => by kernel_rfl) ?_
        exact QRun_done [4, 5, 15, 16, 26] (by kernel_rfl) (by kernel_rfl)
      refine Run_cond (b := decide (0 < x5)) (by kernel_rfl) (fun hb2 => ?_) (fun hb2 => ?_)
      · have hB1 := (M.ite_some hB1).1 hb2
        refine Run_seq ?_
        refine Run_reg 2 (by kernel_rfl) (L' := [(2, .slice none 0 0), (3, .bool false)]) ?_ ?_
        · refine QRun_b [.slice none 0 0, .bool false] 0 _ (by kernel_rfl) (fun w => by kernel_rfl) ?_
          exact QRun_done [2, 3] (by kernel_rfl) (by kernel_rfl)
        have hB1 := M.ret_some hB1
        have gx3 := houty1 _ hB1.symm
        have hF := M.cont_inr' hF gx3
        have hF := M.ret_some hF
        subst hF
        have H9 := H8.empty cd39
        have H10 : Hold h h3 [own cd39 none 0 0 []] := H9.pick [0] (by kernel_rfl)
        exact Run_ret2 rfl (ResV_tmp (v := .slice none 0 0) (by kernel_rfl)) (ResV_tmp (v := .bool false) (by kernel_rfl)) ⟨none, 0, rfl, H10⟩
      · have hB1 := (M.ite_some hB1).2 hb2
        refine Run_skip ?_
        refine Run_seq ?_
        refine Run_reg 3 (by kernel_rfl) (L' := [(4, .slice a2 x2.length c2), (5, .int .i64 i1), (15, .int .i64 (x2.length : Int)), (16, .int .i64 i1), (28, .int .i64 (x2.length : Int)), (29, .int .i64 0)]) ?_ ?_
        · refine QRun_b [.slice a2 x2.length c2, .int .i64 (x2.length : Int), .int .i64 0] 0 _ (by kernel_rfl) (fun w => by kernel_rfl) ?_
          exact QRun_done [4, 5, 15, 16, 28, 29] (by kernel_rfl) (by kernel_rfl)
        obtain ⟨x6, gx6, hB1⟩ := M.bind_some hB1
        obtain ⟨hloy2, hhiy2, gx6⟩ := M.for_start gx6
        refine Run_join (fun L' h' => L' = [(4, .slice a2 x2.length c2), (15, .int .i64 (x2.length : Int)), (16, .int .i64 i1)] ∧ Hold h h' [own cd39 a2 x2.length c2 x6]) ?_ ?_
        · rintro _ h6 ⟨rfl, H12⟩
          refine Run_blk ?_
          refine Run_reg 2 (by kernel_rfl) (L' := [(4, .slice a2 x2.length c2), (15, .int .i64 (x2.length : Int)), (16, .int .i64 (i1 + 1))]) ?_ ?_
          · refine QRun_y (.int .i64 (i1 + 1)) (by kernel_rfl) (Y_eq (v := .int .i64 (w64 (i1 + 1))) (Y_pure (fun w => by kernel_rfl)) (by rw [w64_eq _ (by omega)])) ?_
            refine QRun_b [.int .i64 (i1 + 1)] 1 _ (by kernel_rfl) (fun w => by kernel_rfl) ?_
            exact QRun_done [4, 15, 16] (by kernel_rfl) (by kernel_rfl)
          have hB1 := M.ret_some hB1
          have gx3 := hgoy1 _ hB1.symm
          exact Run_again [4, 15, 16] (by kernel_rfl) my1 (Nat.lt_succ_self _) ⟨i1 + 1, x6, by omega, gx3, rfl, H12⟩
        · refine Run_block ?_
          have H24 := H8.ofRows
          refine Run_keep [4, 5, 15, 16, 28, 29] (L' := [(4, .slice a2 x2.length c2), (5, .int .i64 i1), (15, .int .i64 (x2.length : Int)), (16, .int .i64 i1), (28, .int .i64 (x2.length : Int)), (29, .int .i64 0)]) (by kernel_rfl) ?_
          refine Run_loop (fun m L' h' => ∃ (i2 : Int) (s3 : (List (List Int))), 0 ≤ i2 ∧ M.forN (x2.length : Int) _ _ n m i2 s3 = some x6 ∧ L' = [(4, .slice a2 x2.length c2), (5, .int .i64 i1), (15, .int .i64 (x2.length : Int)), (16, .int .i64 i1), (28, .int .i64 (x2.length : Int)), (29, .int .i64 i2)] ∧ Hold h h' [own cd39 a2 x2.length c2 s3]) ((x2.length : Int) - 0 : Int).toNat ⟨0, s1, Int.le_refl _, gx6, rfl, H24⟩ ?_
          rintro my2 _ h5 ⟨i2, s3, hloy2', gx6, rfl, H11⟩
          refine Run_seq ?_
          refine Run_reg 1 (by kernel_rfl) (L' := [(4, .slice a2 x2.length c2), (5, .int .i64 i1), (15, .int .i64 (x2.length : Int)), (16, .int .i64 i1), (28, .int .i64 (x2.length : Int)), (29, .int .i64 i2), (30, .bool (decide (i2 < (x2.length : Int))))]) ?_ ?_
          · refine QRun_b [.bool (decide (i2 < (x2.length : Int)))] 0 _ (by kernel_rfl) (fun w => by kernel_rfl) ?_
            exact QRun_done [4, 5, 15, 16, 28, 29, 30] (by kernel_rfl) (by kernel_rfl)
          refine Run_seq ?_
          refine Run_cond (b := decide (i2 < (x2.length : Int))) (by kernel_rfl) (fun hb3 => ?_) (fun hb3 => ?_)
          · obtain ⟨my2, y2, rfl, hB2, hgoy2, houty2⟩ := M.for_go gx6 hb3
            have hlty2 := of_decide_eq_true hb3
            refine Run_skip ?_
            refine Run_seq ?_
            refine Run_block ?_
            refine Run_seq ?_
            refine Run_reg 2 (by kernel_rfl) (L' := [(4, .slice a2 x2.length c2), (5, .int .i64 i1), (6, .int .i64 i2), (15, .int .i64 (x2.length : Int)), (16, .int .i64 i1), (28, .int .i64 (x2.length : Int)), (29, .int .i64 i2)]) ?_ ?_
            · refine QRun_b [.int .i64 i2, .int .i64 i2] 0 _ (by kernel_rfl) (fun w => by kernel_rfl) ?_
              exact QRun_done [4, 5, 6, 15, 16, 28, 29] (by kernel_rfl) (by kernel_rfl)
            refine Run_seq ?_
            refine Run_reg 3 (by kernel_rfl) (L' := [(4, .slice a2 x2.length c2), (5, .int .i64 i1), (6, .int .i64 i2), (15, .int .i64 (x2.length : Int)), (16, .int .i64 i1), (28, .int .i64 (x2.length : Int)), (29, .int .i64 i2), (33, .int .i64 (x2.length : Int)), (34, .int .i64 0)]) ?_ ?_
            · refine QRun_b [.slice a2 x2.length c2, .int .i64 (x2.length : Int), .int .i64 0] 0 _ (by kernel_rfl) (fun w => by kernel_rfl) ?_
              exact QRun_done [4, 5, 6, 15, 16, 28, 29, 33, 34] (by kernel_rfl) (by kernel_rfl)
            obtain ⟨x7, gx7, hB2⟩ := M.bind_some hB2
            obtain ⟨hloy3, hhiy3, gx7⟩ := M.for_start gx7
            refine Run_join (fun L' h' => L' = [(4, .slice a2 x2.length c2), (5, .int .i64 i1), (15, .int .i64 (x2.length : Int)), (16, .int .i64 i1), (28, .int .i64 (x2.length : Int)), (29, .int .i64 i2)] ∧ Hold h h' [own cd39 a2 x2.length c2 x7]) ?_ ?_
            · rintro _ h8 ⟨rfl, H14⟩
              refine Run_blk ?_
              refine Run_reg 2 (by kernel_rfl) (L' := [(4, .slice a2 x2.length c2), (5, .int .i64 i1), (15, .int .i64 (x2.length : Int)), (16, .int .i64 i1), (28, .int .i64 (x2.length : Int)), (29, .int .i64 (i2 + 1))]) ?_ ?_
              · refine QRun_y (.int .i64 (i2 + 1)) (by kernel_rfl) (Y_eq (v := .int .i64 (w64 (i2 + 1))) (Y_pure (fun w => by kernel_rfl)) (by rw [w64_eq _ (by omega)])) ?_
                refine QRun_b [.int .i64 (i2 + 1)] 1 _ (by kernel_rfl) (fun w => by kernel_rfl) ?_
                exact QRun_done [4, 5, 15, 16, 28, 29] (by kernel_rfl) (by kernel_rfl)
              have hB2 := M.ret_some hB2
              have gx6 := hgoy2 _ hB2.symm
              exact Run_again [4, 5, 15, 16, 28, 29] (by kernel_rfl) my2 (Nat.lt_succ_self _) ⟨i2 + 1, x7, by omega, gx6, rfl, H14⟩
            · refine Run_block ?_
              refine Run_keep [4, 5, 6, 15, 16, 28, 29, 33, 34] (L' := [(4, .slice a2 x2.length c2), (5, .int .i64 i1), (6, .int .i64 i2), (15, .int .i64 (x2.length : Int)), (16, .int .i64 i1), (28, .int .i64 (x2.length : Int)), (29, .int .i64 i2), (33, .int .i64 (x2.length : Int)), (34, .int .i64 0)]) (by kernel_rfl) ?_
              refine Run_loop (fun m L' h' => ∃ (i3 : Int) (s4 : (List (List Int))), 0 ≤ i3 ∧ M.forN (x2.length : Int) _ _ n m i3 s4 = some x7 ∧ L' = [(4, .slice a2 x2.length c2), (5, .int .i64 i1), (6, .int .i64 i2), (15, .int .i64 (x2.length : Int)), (16, .int .i64 i1), (28, .int .i64 (x2.length : Int)), (29, .int .i64 i2), (33, .int .i64 (x2.length : Int)), (34, .int .i64 i3)] ∧ Hold h h' [own cd39 a2 x2.length c2 s4]) ((x2.length : Int) - 0 : Int).toNat ⟨0, s3, Int.le_refl _, gx7, rfl, H11⟩ ?_
              rintro my3 _ h7 ⟨i3, s4, hloy3', gx7, rfl, H13⟩
              refine Run_seq ?_
              refine Run_reg 1 (by kernel_rfl) (L' := [(4, .slice a2 x2.length c2), (5, .int .i64 i1), (6, .int .i64 i2), (15, .int .i64 (x2.length : Int)), (16, .int .i64 i1), (28, .int .i64 (x2.length : Int)), (29, .int .i64 i2), (33, .int .i64 (x2.length : Int)), (34, .int .i64 i3), (35, .bool (decide (i3 < (x2.length : Int))))]) ?_ ?_
              · refine QRun_b [.bool (decide (i3 < (x2.length : Int)))] 0 _ (by kernel_rfl) (fun w => by kernel_rfl) ?_
                exact QRun_done [4, 5, 6, 15, 16, 28, 29, 33, 34, 35] (by kernel_rfl) (by kernel_rfl)
              refine Run_seq ?_
              refine Run_cond (b := decide (i3 < (x2.length : Int))) (by kernel_rfl) (fun hb4 => ?_) (fun hb4 => ?_)
              · obtain ⟨my3, y3, rfl, hB3, hgoy3, houty3⟩ := M.for_go gx7 hb4
                have hlty3 := of_decide_eq_true hb4
                refine Run_skip ?_
                refine Run_seq ?_
                refine Run_block ?_
                refine Run_seq ?_
                refine Run_reg 2 (by kernel_rfl) (L' := [(4, .slice a2 x2.length c2), (5, .int .i64 i1), (6, .int .i64 i2), (7, .int .i64 i3), (15, .int .i64 (x2.length : Int)), (16, .int .i64 i1), (28, .int .i64 (x2.length : Int)), (29, .int .i64 i2), (33, .int .i64 (x2.length : Int)), (34, .int .i64 i3)]) ?_ ?_
                · refine QRun_b [.int .i64 i3, .int .i64 i3] 0 _ (by kernel_rfl) (fun w => by kernel_rfl) ?_
                  exact QRun_done [4, 5, 6, 7, 15, 16, 28, 29, 33, 34] (by kernel_rfl) (by kernel_rfl)
                obtain ⟨x8, hx5, hB3⟩ := M.bind_some hB3
                obtain ⟨hx5l, hx5u, hx5⟩ := M.idx_some hx5
                have H15 := H13.toRows
                obtain ⟨a4, c4, H16⟩ := H15.pinRow hx5
                obtain ⟨x9, hx6, hB3⟩ := M.bind_some hB3
                obtain ⟨hx6l, hx6u, hx6⟩ := M.idx_some hx6
                obtain ⟨a5, c5, H17⟩ := H16.pinRow hx6
                obtain ⟨x10, hx7, hB3⟩ := M.bind_some hB3
                obtain ⟨hx7l, hx7u, hx7⟩ := M.idx_some hx7
                obtain ⟨x11, hx8, hB3⟩ := M.bind_some hB3
                obtain ⟨hx8l, hx8u, hx8⟩ := M.idx_some hx8
                obtain ⟨a6, c6, H18⟩ := H17.pinRow hx8
                obtain ⟨x12, hx9, hB3⟩ := M.bind_some hB3
                obtain ⟨hx9l, hx9u, hx9⟩ := M.idx_some hx9
                obtain ⟨x13, hx10, hB3⟩ := M.bind_some hB3
                obtain ⟨hx10l, hx10u, hx10⟩ := M.idx_some hx10
                obtain ⟨a7, c7, H19⟩ := H18.pinRow hx10
                obtain ⟨x14, hx11, hB3⟩ := M.bind_some hB3
                obtain ⟨hx11l, hx11u, hx11⟩ := M.idx_some hx11
                obtain ⟨x15, hx12, hB3⟩ := M.bind_some hB3
                obtain ⟨x16, hx13, hB3⟩ := M.bind_some hB3
                obtain ⟨hx13l, hx13u, hx13⟩ := M.idx_some hx13
                refine Run_D (fun x => Hold h x [rowsP cd2 39 a2 x2.length c2 s4 [(i1.toNat, a7, x13.length, c7, x13), (i2.toNat, a6, x11.length, c6, x11), (i2.toNat, a5, x9.length, c5, x9), (i2.toNat, a4, x8.length, c4, x8)]]) (fun x => Hold h x [rowsP cd2 39 a2 x2.length c2 s4 [(i1.toNat, a7, x13.length, c7, x13), (i2.toNat, a6, x11.length, c6, x11), (i2.toNat, a5, x9.length, c5, x9), (i2.toNat, a4, x8.length, c4, x8)]]) mixed (by kernel_rfl) H19 Hold.stable (fun x Hy => (show Hold h x [rowsP cd2 39 a2 x2.length c2 s4 [(i1.toNat, a7, x13.length, c7, x13), (i2.toNat, a6, x11.length, c6, x11), (i2.toNat, a5, x9.length, c5, x9), (i2.toNat, a4, x8.length, c4, x8)]] from Hy).pick [0] (by kernel_rfl)) ?_
                refine DR_b 28 [.slice a2 x2.length c2, .int .i64 i2] 0 (by kernel_rfl) (by kernel_rfl) (by kernel_rfl) (fun w => by kernel_rfl) ?_
                refine DR_y 27 (i := 2) (.pointer (some (adr a2 (i2.toNat * 1)))) (by kernel_rfl) (by kernel_rfl) (by kernel_rfl) (fun hx Hx => (YE.of (Y_idx (t := 37) (e := 39) (sz := 1) (a := a2) (n := x2.length) (cap := c2) (kk := .i64) (i := i2) (by kernel_rfl) Try.underlying37 (by kernel_rfl) ((H13.rd 0 rfl).cell hx5).1 hx5l (by rw [← (H13.len 0 rfl)]; exact hx5u)))) ?_
                refine DR_y 26 (i := 3) (.slice a4 x8.length c4) (by kernel_rfl) (by kernel_rfl) (by kernel_rfl) (fun hx Hx => (YE.of (Y_load1 (t := 39) (p := adr a2 (i2.toNat * 1)) (v := .slice a4 x8.length c4) (by kernel_rfl) (fun w => by kernel_rfl) (Hx.cellPin 0 rfl 3 rfl)))) ?_
                refine DR_b 23 [.int .i64 i3, .slice a2 x2.length c2, .int .i64 i2] 4 (by kernel_rfl) (by kernel_rfl) (by kernel_rfl) (fun w => by kernel_rfl) ?_
                refine DR_y 22 (i := 7) (.pointer (some (adr a2 (i2.toNat * 1)))) (by kernel_rfl) (by kernel_rfl) (by kernel_rfl) (fun hx Hx => (YE.of (Y_idx (t := 37) (e := 39) (sz := 1) (a := a2) (n := x2.length) (cap := c2) (kk := .i64) (i := i2) (by kernel_rfl) Try.underlying37 (by kernel_rfl) ((H16.rdRows 0 rfl).cell hx6).1 hx6l (by rw [← (H16.lenRows 0 rfl)]; exact hx6u)))) ?_
                refine DR_y 21 (i := 8) (.slice a5 x9.length c5) (by kernel_rfl) (by kernel_rfl) (by kernel_rfl) (fun hx Hx => (YE.of (Y_load1 (t := 39) (p := adr a2 (i2.toNat * 1)) (v := .slice a5 x9.length c5) (by kernel_rfl) (fun w => by kernel_rfl) (Hx.cellPin 0 rfl 2 rfl)))) ?_
                refine DR_b 20 [.int .i64 i3] 9 (by kernel_rfl) (by kernel_rfl) (by kernel_rfl) (fun w => by kernel_rfl) ?_
                refine DR_y 19 (i := 10) (.pointer (some (adr a5 (i3.toNat * 1)))) (by kernel_rfl) (by kernel_rfl) (by kernel_rfl) (fun hx Hx => (YE.of (Y_idx (t := 39) (e := 2) (sz := 1) (a := a5) (n := x9.length) (cap := c5) (kk := .i64) (i := i3) (by kernel_rfl) Try.underlying39 (by kernel_rfl) ((H17.rdPin 0 rfl 0 rfl).cell hx7).1 hx7l hx7u))) ?_
                refine DR_y 18 (i := 11) (.int .i64 x10) (by kernel_rfl) (by kernel_rfl) (by kernel_rfl) (fun hx Hx => (YE.of (Y_load1 (t := 2) (p := adr a5 (i3.toNat * 1)) (v := .int .i64 x10) (by kernel_rfl) (fun w => by kernel_rfl) (cd2_cell (Hx.rdPin 0 rfl 2 rfl) hx7)))) ?_
                refine DR_b 16 [.slice a2 x2.length c2, .int .i64 i2] 12 (by kernel_rfl) (by kernel_rfl) (by kernel_rfl) (fun w => by kernel_rfl) ?_
                refine DR_y 15 (i := 14) (.pointer (some (adr a2 (i2.toNat * 1)))) (by kernel_rfl) (by kernel_rfl) (by kernel_rfl) (fun hx Hx => (YE.of (Y_idx (t := 37) (e := 39) (sz := 1) (a := a2) (n := x2.length) (cap := c2) (kk := .i64) (i := i2) (by kernel_rfl) Try.underlying37 (by kernel_rfl) ((H17.rdRows 0 rfl).cell hx8).1 hx8l (by rw [← (H17.lenRows 0 rfl)]; exact hx8u)))) ?_
                refine DR_y 14 (i := 15) (.slice a6 x11.length c6) (by kernel_rfl) (by kernel_rfl) (by kernel_rfl) (fun hx Hx => (YE.of (Y_load1 (t := 39) (p := adr a2 (i2.toNat * 1)) (v := .slice a6 x11.length c6) (by kernel_rfl) (fun w => by kernel_rfl) (Hx.cellPin 0 rfl 1 rfl)))) ?_
                refine DR_b 13 [.int .i64 i1] 16 (by kernel_rfl) (by kernel_rfl) (by kernel_rfl) (fun w => by kernel_rfl) ?_
                refine DR_y 12 (i := 17) (.pointer (some (adr a6 (i1.toNat * 1)))) (by kernel_rfl) (by kernel_rfl) (by kernel_rfl) (fun hx Hx => (YE.of (Y_idx (t := 39) (e := 2) (sz := 1) (a := a6) (n := x11.length) (cap := c6) (kk := .i64) (i := i1) (by kernel_rfl) Try.underlying39 (by kernel_rfl) ((H18.rdPin 0 rfl 0 rfl).cell hx9).1 hx9l hx9u))) ?_
                refine DR_y 11 (i := 18) (.int .i64 x12) (by kernel_rfl) (by kernel_rfl) (by kernel_rfl) (fun hx Hx => (YE.of (Y_load1 (t := 2) (p := adr a6 (i1.toNat * 1)) (v := .int .i64 x12) (by kernel_rfl) (fun w => by kernel_rfl) (cd2_cell (Hx.rdPin 0 rfl 1 rfl) hx9)))) ?_
                refine DR_b 9 [.slice a2 x2.length c2, .int .i64 i1] 19 (by kernel_rfl) (by kernel_rfl) (by kernel_rfl) (fun w => by kernel_rfl) ?_
                refine DR_y 8 (i := 21) (.pointer (some (adr a2 (i1.toNat * 1)))) (by kernel_rfl) (by kernel_rfl) (by kernel_rfl) (fun hx Hx => (YE.of (Y_idx (t := 37) (e := 39) (sz := 1) (a := a2) (n := x2.length) (cap := c2) (kk := .i64) (i := i1) (by kernel_rfl) Try.underlying37 (by kernel_rfl) ((H18.rdRows 0 rfl).cell hx10).1 hx10l (by rw [← (H18.lenRows 0 rfl)]; exact hx10u)))) ?_
                refine DR_y 7 (i := 22) (.slice a7 x13.length c7) (by kernel_rfl) (by kernel_rfl) (by kernel_rfl) (fun hx Hx => (YE.of (Y_load1 (t := 39) (p := adr a2 (i1.toNat * 1)) (v := .slice a7 x13.length c7) (by kernel_rfl) (fun w => by kernel_rfl) (Hx.cellPin 0 rfl 0 rfl)))) ?_
                refine DR_b 6 [.int .i64 i3] 23 (by kernel_rfl) (by kernel_rfl) (by kernel_rfl) (fun w => by kernel_rfl) ?_
                refine DR_y 5 (i := 24) (.pointer (some (adr a7 (i3.toNat * 1)))) (by kernel_rfl) (by kernel_rfl) (by kernel_rfl) (fun hx Hx => (YE.of (Y_idx (t := 39) (e := 2) (sz := 1) (a := a7) (n := x13.length) (cap := c7) (kk := .i64) (i := i3) (by kernel_rfl) Try.underlying39 (by kernel_rfl) ((H19.rdPin 0 rfl 0 rfl).cell hx11).1 hx11l hx11u))) ?_
                refine DR_y 4 (i := 25) (.int .i64 x14) (by kernel_rfl) (by kernel_rfl) (by kernel_rfl) (fun hx Hx => (YE.of (Y_load1 (t := 2) (p := adr a7 (i3.toNat * 1)) (v := .int .i64 x14) (by kernel_rfl) (fun w => by kernel_rfl) (cd2_cell (Hx.rdPin 0 rfl 0 rfl) hx11)))) ?_
                refine DR_y 3 (i := 26) (.int .i64 x15) (by kernel_rfl) (by kernel_rfl) (by kernel_rfl) (fun hx Hx => (YE.of (Y_callq (f := 94) (args := #[.int .i64 x12, .int .i64 x14]) (v := .int .i64 x15) (by kernel_rfl) (w_impl_times hx x12 x14 _ _ hx12)))) ?_
                refine DR_b 2 [.int .i64 (mx x10 x15)] 27 (by kernel_rfl) (by kernel_rfl) (by kernel_rfl) (fun w => by kernel_rfl) ?_
                refine DR_y 1 (i := 28) (.pointer (some (adr a4 (i3.toNat * 1)))) (by kernel_rfl) (by kernel_rfl) (by kernel_rfl) (fun hx Hx => (YE.of (Y_idx (t := 39) (e := 2) (sz := 1) (a := a4) (n := x8.length) (cap := c4) (kk := .i64) (i := i3) (by kernel_rfl) Try.underlying39 (by kernel_rfl) ((H19.rdPin 0 rfl 3 rfl).cell hx13).1 hx13l hx13u))) ?_
                refine DR_tail (i := 29) (by kernel_rfl) (by kernel_rfl) (by kernel_rfl) (fun h9 H20 => ?_)
                have H21 : Hold h h9 [rowsP cd2 39 a2 x2.length c2 s4 [(i1.toNat, a7, x13.length, c7, x13), (i2.toNat, a6, x11.length, c6, x11), (i2.toNat, a5, x9.length, c5, x9), (i2.toNat, a4, x8.length, c4, x8)]] := H20
                obtain ⟨l1, hu1, hB3⟩ := M.bind_some hB3
                have hu1 := M.upd_some hu1
                refine Run_E (by kernel_rfl) ?_
                refine E_put2 (C := cd2) (t := 2) (sz := 1) (j := i3) (x := (mx x10 x15)) (v := .int .i64 (mx x10 x15)) (m2 := s4.set i2.toNat l1) H21 cd2_flat 3 rfl (by kernel_rfl) rfl (cd2_own _) (by kernel_rfl) hu1 rfl (fun h10 H22 => ?_)
                refine Run_nil (by kernel_rfl) ?_
                refine Run_keep [4, 5, 6, 15, 16, 28, 29, 33, 34] (L' := [(4, .slice a2 x2.length c2), (5, .int .i64 i1), (6, .int .i64 i2), (15, .int .i64 (x2.length : Int)), (16, .int .i64 i1), (28, .int .i64 (x2.length : Int)), (29, .int .i64 i2), (33, .int .i64 (x2.length : Int)), (34, .int .i64 i3)]) (by kernel_rfl) ?_
                refine Run_blk ?_
                refine Run_reg 2 (by kernel_rfl) (L' := [(4, .slice a2 x2.length c2), (5, .int .i64 i1), (6, .int .i64 i2), (15, .int .i64 (x2.length : Int)), (16, .int .i64 i1), (28, .int .i64 (x2.length : Int)), (29, .int .i64 i2), (33, .int .i64 (x2.length : Int)), (34, .int .i64 (i3 + 1))]) ?_ ?_
                · refine QRun_y (.int .i64 (i3 + 1)) (by kernel_rfl) (Y_eq (v := .int .i64 (w64 (i3 + 1))) (Y_pure (fun w => by kernel_rfl)) (by rw [w64_eq _ (by omega)])) ?_
                  refine QRun_b [.int .i64 (i3 + 1)] 1 _ (by kernel_rfl) (fun w => by kernel_rfl) ?_
                  exact QRun_done [4, 5, 6, 15, 16, 28, 29, 33, 34] (by kernel_rfl) (by kernel_rfl)
                have H23 := H22.ofRows
                have hB3 := M.ret_some hB3
                have gx7 := hgoy3 _ hB3.symm
                exact Run_again [4, 5, 6, 15, 16, 28, 29, 33, 34] (by kernel_rfl) my3 (Nat.lt_succ_self _) ⟨i3 + 1, (s4.set i2.toNat l1), by omega, gx7, rfl, H23⟩
              · have gx7 := M.for_end gx7 hb4
                subst gx7
                refine Run_exit (k' := _) rfl ?_
                exact Run_fall [4, 5, 15, 16, 28, 29] (by kernel_rfl) ⟨rfl, H13⟩
          · have gx6 := M.for_end gx6 hb3
            subst gx6
            refine Run_exit (k' := _) rfl ?_
            exact Run_fall [4, 15, 16] (by kernel_rfl) ⟨rfl, H11⟩
    · have gx3 := M.for_end gx3 hb1
      subst gx3
      refine Run_exit (k' := _) rfl ?_
      exact Run_fall [4] (by kernel_rfl) ⟨s1, rfl, rfl, H5⟩

set_option maxRecDepth 100000 in
set_option maxHeartbeats 4000000 in
theorem w_impl_timesVector (h : Heap) (a_ : List (List Int)) (aa_ : Option Addr) (ca_ : Nat) (ra_ : Rd cd39 h (Lt h) aa_ ca_ a_) (x_ : List Int) (ax_ : Option Addr) (cx_ : Nat) (rx_ : Rd cd2 h (Lt h) ax_ cx_ x_) (n : Nat) (r : (List Int)) (hF : impl_timesVector a_ x_ n = some r) :
    Fn Try.prog 95 #[.slice aa_ a_.length ca_, .slice ax_ x_.length cx_] h fun v h' => ∃ (a0 : Option Addr) (c0 : Nat), v = .slice a0 r.length c0 ∧ Hold h h' [own cd2 a0 r.length c0 r] := by
  unfold impl_timesVector at hF
  refine Fn_enter (args := [.slice aa_ a_.length ca_, .slice ax_ x_.length cx_]) Try.func95 rfl (by kernel_rfl) (by kernel_rfl) (fun w0 _ => ?_)
  have H0 := Hold.init h
  refine Run_seq ?_
  refine Run_reg 1 (by kernel_rfl) (L' := [(0, .slice aa_ a_.length ca_), (1, .slice ax_ x_.length cx_)]) ?_ ?_
  · refine QRun_b [.slice none 0 0] 0 _ (by kernel_rfl) (fun w => by kernel_rfl) ?_
    exact QRun_done [0, 1] (by kernel_rfl) (by kernel_rfl)
  refine Run_seq ?_
  refine Run_ops ?_
  refine Run_b [.slice aa_ a_.length ca_, .int .i64 (a_.length : Int)] 0 _ (by kernel_rfl) (fun w => by kernel_rfl) ?_
  obtain ⟨l1, hl1, hF⟩ := M.bind_some hF
  have hl1 := M.make_some hl1
  refine Run_E (by kernel_rfl) ?_
  refine E_make cd2 0 (kl := .i64) (kc := .i64) H0 cd2_ti Try.underlying39 (by decide) cd2_zero (by kernel_rfl) hl1 (fun a1 h1 H1 => ?_)
  refine Run_b [.slice a1 l1.length l1.length] 3 _ (by kernel_rfl) (fun w => by kernel_rfl) ?_
  refine Run_nil (by kernel_rfl) ?_
  refine Run_keep [0, 1, 5] (L' := [(0, .slice aa_ a_.length ca_), (1, .slice ax_ x_.length cx_), (5, .slice a1 l1.length l1.length)]) (by kernel_rfl) ?_
  refine Run_seq ?_
  refine Run_seq ?_
  refine Run_reg 3 (by kernel_rfl) (L' := [(1, .slice ax_ x_.length cx_), (5, .slice a1 l1.length l1.length), (13, .slice aa_ a_.length ca_), (14, .int .i64 (a_.length : Int)), (15, .int .i64 0)]) ?_ ?_
  · refine QRun_b [.slice aa_ a_.length ca_, .int .i64 (a_.length : Int), .int .i64 0] 0 _ (by kernel_rfl) (fun w => by kernel_rfl) ?_
    exact QRun_done [1, 5, 13, 14, 15] (by kernel_rfl) (by kernel_rfl)
  obtain ⟨x1, gx1, hF⟩ := M.bind_some hF
  obtain ⟨hloy1, hhiy1, gx1⟩ := M.for_start gx1
  refine Run_join (fun L' h' => L' = [(5, .slice a1 l1.length l1.length)] ∧ Hold h h' [own cd2 a1 l1.length l1.length x1]) ?_ ?_
  · rintro _ h3 ⟨rfl, H3⟩
    refine Run_seq ?_
    refine Run_reg 2 (by kernel_rfl) (L' := [(4, .slice a1 l1.length l1.length)]) ?_ ?_
    · refine QRun_b [.slice a1 l1.length l1.length, .slice a1 l1.length l1.length] 0 _ (by kernel_rfl) (fun w => by kernel_rfl) ?_
      exact QRun_done [4] (by kernel_rfl) (by kernel_rfl)
    have hF := M.ret_some hF
    subst hF
    have H10 := H3.norm
    exact Run_ret1 rfl (ResV_tmp (v := .slice a1 l1.length l1.length) (by kernel_rfl)) ⟨a1, l1.length, (by simp only [(H3.len 0 rfl)]), H10⟩
  · refine Run_block ?_
    refine Run_keep [1, 5, 13, 14, 15] (L' := [(1, .slice ax_ x_.length cx_), (5, .slice a1 l1.length l1.length), (13, .slice aa_ a_.length ca_), (14, .int .i64 (a_.length : Int)), (15, .int .i64 0)]) (by kernel_rfl) ?_
    refine Run_loop (fun m L' h' => ∃ (i1 : Int) (s1 : (List Int)), 0 ≤ i1 ∧ M.forN (a_.length : Int) _ _ n m i1 s1 = some x1 ∧ L' = [(1, .slice ax_ x_.length cx_), (5, .slice a1 l1.length l1.length), (13, .slice aa_ a_.length ca_), (14, .int .i64 (a_.length : Int)), (15, .int .i64 i1)] ∧ Hold h h' [own cd2 a1 l1.length l1.length s1]) ((a_.length : Int) - 0 : Int).toNat ⟨0, l1, Int.le_refl _, gx1, rfl, H1⟩ ?_
    rintro my1 _ h2 ⟨i1, s1, hloy1', gx1, rfl, H2⟩
    refine Run_seq ?_
    refine Run_reg 1 (by kernel_rfl) (L' := [(1, .slice ax_ x_.length cx_), (5, .slice a1 l1.length l1.length), (13, .slice aa_ a_.length ca_), (14, .int .i64 (a_.length : Int)), (15, .int .i64 i1), (16, .bool (decide (i1 < (a_.length : Int))))]) ?_ ?_
    · refine QRun_b [.bool (decide (i1 < (a_.length : Int)))] 0 _ (by kernel_rfl) (fun w => by kernel_rfl) ?_
      exact QRun_done [1, 5, 13, 14, 15, 16] (by kernel_rfl) (by kernel_rfl)
    refine Run_seq ?_
    refine Run_cond (b := decide (i1 < (a_.length : Int))) (by kernel_rfl) (fun hb1 => ?_) (fun hb1 => ?_)
    · obtain ⟨my1, y1, rfl, hB1, hgoy1, houty1⟩ := M.for_go gx1 hb1
      have hlty1 := of_decide_eq_true hb1
      refine Run_skip ?_
      refine Run_seq ?_
      refine Run_block ?_
      refine Run_seq ?_
      obtain ⟨x2, hx1, hB1⟩ := M.bind_some hB1
      obtain ⟨hx1l, hx1u, hx1⟩ := M.idx_some hx1
      obtain ⟨a2, c1, hc1, r1⟩ := ra_.row hx1
      refine Run_reg 5 (by kernel_rfl) (L' := [(1, .slice ax_ x_.length cx_), (5, .slice a1 l1.length l1.length), (6, .int .i64 i1), (7, .slice a2 x2.length c1), (13, .slice aa_ a_.length ca_), (14, .int .i64 (a_.length : Int)), (15, .int .i64 i1)]) ?_ ?_
      · refine QRun_b [.int .i64 i1] 0 _ (by kernel_rfl) (fun w => by kernel_rfl) ?_
        refine QRun_y (.pointer (some (adr aa_ (i1.toNat * 1)))) (by kernel_rfl) (Y_idx (t := 37) (e := 39) (sz := 1) (a := aa_) (n := a_.length) (cap := ca_) (kk := .i64) (i := i1) (by kernel_rfl) Try.underlying37 (by kernel_rfl) ((ra_.at H2.ext).cell hx1).1 hx1l hx1u) ?_
        refine QRun_y (.slice a2 x2.length c1) (by kernel_rfl) (Y_load1 (t := 39) (p := adr aa_ (i1.toNat * 1)) (v := .slice a2 x2.length c1) (by kernel_rfl) (fun w => by kernel_rfl) (cell_at H2.ext hc1)) ?_
        refine QRun_b [.int .i64 i1, .slice a2 x2.length c1] 3 _ (by kernel_rfl) (fun w => by kernel_rfl) ?_
        exact QRun_done [1, 5, 6, 7, 13, 14, 15] (by kernel_rfl) (by kernel_rfl)
      refine Run_seq ?_
      refine Run_ops ?_
      obtain ⟨x3, hx2, hB1⟩ := M.bind_some hB1
      obtain ⟨hx2l, hx2u, hx2⟩ := M.idx_some hx2
      refine Run_b [.slice a1 l1.length l1.length, .int .i64 i1] 0 _ (by kernel_rfl) (fun w => by kernel_rfl) ?_
      refine Run_y (.pointer (some (adr a1 (i1.toNat * 1)))) (by kernel_rfl) (Y_idx (t := 39) (e := 2) (sz := 1) (a := a1) (n := l1.length) (cap := l1.length) (kk := .i64) (i := i1) (by kernel_rfl) Try.underlying39 (by kernel_rfl) ((H2.rd 0 rfl).cell hx2).1 hx2l (by rw [← (H2.len 0 rfl)]; exact hx2u)) ?_
      obtain ⟨l2, hu1, hB1⟩ := M.bind_some hB1
      have hu1 := M.upd_some hu1
      refine Run_E (by kernel_rfl) ?_
      refine E_put (C := cd2) (t := 2) (sz := 1) (j := i1) (x := (-1000000000000000)) (v := .int .i64 (-1000000000000000)) H2 cd2_flat (by kernel_rfl) rfl (cd2_own _) (by kernel_rfl) hu1 (fun h4 H4 => ?_)
      refine Run_nil (by kernel_rfl) ?_
      refine Run_keep [1, 5, 6, 7, 13, 14, 15] (L' := [(1, .slice ax_ x_.length cx_), (5, .slice a1 l1.length l1.length), (6, .int .i64 i1), (7, .slice a2 x2.length c1), (13, .slice aa_ a_.length ca_), (14, .int .i64 (a_.length : Int)), (15, .int .i64 i1)]) (by kernel_rfl) ?_
      refine Run_seq ?_
      refine Run_reg 3 (by kernel_rfl) (L' := [(1, .slice ax_ x_.length cx_), (5, .slice a1 l1.length l1.length), (6, .int .i64 i1), (13, .slice aa_ a_.length ca_), (14, .int .i64 (a_.length : Int)), (15, .int .i64 i1), (23, .slice a2 x2.length c1), (24, .int .i64 (x2.length : Int)), (25, .int .i64 0)]) ?_ ?_
      · refine QRun_b [.slice a2 x2.length c1, .int .i64 (x2.length : Int), .int .i64 0] 0 _ (by kernel_rfl) (fun w => by kernel_rfl) ?_
        exact QRun_done [1, 5, 6, 13, 14, 15, 23, 24, 25] (by kernel_rfl) (by kernel_rfl)
      obtain ⟨x4, gx4, hB1⟩ := M.bind_some hB1
      obtain ⟨hloy2, hhiy2, gx4⟩ := M.for_start gx4
      refine Run_join (fun L' h' => L' = [(1, .slice ax_ x_.length cx_), (5, .slice a1 l1.length l1.length), (13, .slice aa_ a_.length ca_), (14, .int .i64 (a_.length : Int)), (15, .int .i64 i1)] ∧ Hold h h' [own cd2 a1 l1.length l1.length x4]) ?_ ?_
      · rintro _ h6 ⟨rfl, H6⟩
        refine Run_blk ?_
        refine Run_reg 2 (by kernel_rfl) (L' := [(1, .slice ax_ x_.length cx_), (5, .slice a1 l1.length l1.length), (13, .slice aa_ a_.length ca_), (14, .int .i64 (a_.length : Int)), (15, .int .i64 (i1 + 1))]) ?_ ?_
        · refine QRun_y (.int .i64 (i1 + 1)) (by kernel_rfl) (Y_eq (v := .int .i64 (w64 (i1 + 1))) (Y_pure (fun w => by kernel_rfl)) (by rw [w64_eq _ (by omega)])) ?_
          refine QRun_b [.int .i64 (i1 + 1)] 1 _ (by kernel_rfl) (fun w => by kernel_rfl) ?_
          exact QRun_done [1, 5, 13, 14, 15] (by kernel_rfl) (by kernel_rfl)
        have hB1 := M.ret_some hB1
        have gx1 := hgoy1 _ hB1.symm
        exact Run_again [1, 5, 13, 14, 15] (by kernel_rfl) my1 (Nat.lt_succ_self _) ⟨i1 + 1, x4, by omega, gx1, rfl, H6⟩
      · refine Run_block ?_
        refine Run_keep [1, 5, 6, 13, 14, 15, 23, 24, 25] (L' := [(1, .slice ax_ x_.length cx_), (5, .slice a1 l1.length l1.length), (6, .int .i64 i1), (13, .slice aa_ a_.length ca_), (14, .int .i64 (a_.length : Int)), (15, .int .i64 i1), (23, .slice a2 x2.length c1), (24, .int .i64 (x2.length : Int)), (25, .int .i64 0)]) (by kernel_rfl) ?_
        refine Run_loop (fun m L' h' => ∃ (i2 : Int) (s2 : (List Int)), 0 ≤ i2 ∧ M.forN (x2.length : Int) _ _ n m i2 s2 = some x4 ∧ L' = [(1, .slice ax_ x_.length cx_), (5, .slice a1 l1.length l1.length), (6, .int .i64 i1), (13, .slice aa_ a_.length ca_), (14, .int .i64 (a_.length : Int)), (15, .int .i64 i1), (23, .slice a2 x2.length c1), (24, .int .i64 (x2.length : Int)), (25, .int .i64 i2)] ∧ Hold h h' [own cd2 a1 l1.length l1.length s2]) ((x2.length : Int) - 0 : Int).toNat ⟨0, l2, Int.le_refl _, gx4, rfl, H4⟩ ?_
        rintro my2 _ h5 ⟨i2, s2, hloy2', gx4, rfl, H5⟩
        refine Run_seq ?_
        refine Run_reg 1 (by kernel_rfl) (L' := [(1, .slice ax_ x_.length cx_), (5, .slice a1 l1.length l1.length), (6, .int .i64 i1), (13, .slice aa_ a_.length ca_), (14, .int .i64 (a_.length : Int)), (15, .int .i64 i1), (23, .slice a2 x2.length c1), (24, .int .i64 (x2.length : Int)), (25, .int .i64 i2), (26, .bool (decide (i2 < (x2.length : Int))))]) ?_ ?_
        · refine QRun_b [.bool (decide (i2 < (x2.length : Int)))] 0 _ (by kernel_rfl) (fun w => by kernel_rfl) ?_
          exact QRun_done [1, 5, 6, 13, 14, 15, 23, 24, 25, 26] (by kernel_rfl) (by kernel_rfl)
        refine Run_seq ?_
        refine Run_cond (b := decide (i2 < (x2.length : Int))) (by kernel_rfl) (fun hb2 => ?_) (fun hb2 => ?_)
        · obtain ⟨my2, y2, rfl, hB2, hgoy2, houty2⟩ := M.for_go gx4 hb2
          have hlty2 := of_decide_eq_true hb2
          refine Run_skip ?_
          refine Run_seq ?_
          refine Run_block ?_
          refine Run_seq ?_
          obtain ⟨x5, hx3, hB2⟩ := M.bind_some hB2
          obtain ⟨hx3l, hx3u, hx3⟩ := M.idx_some hx3
          refine Run_reg 5 (by kernel_rfl) (L' := [(1, .slice ax_ x_.length cx_), (5, .slice a1 l1.length l1.length), (6, .int .i64 i1), (8, .int .i64 i2), (9, .int .i64 x5), (13, .slice aa_ a_.length ca_), (14, .int .i64 (a_.length : Int)), (15, .int .i64 i1), (23, .slice a2 x2.length c1), (24, .int .i64 (x2.length : Int)), (25, .int .i64 i2)]) ?_ ?_
          · refine QRun_b [.int .i64 i2] 0 _ (by kernel_rfl) (fun w => by kernel_rfl) ?_
            refine QRun_y (.pointer (some (adr a2 (i2.toNat * 1)))) (by kernel_rfl) (Y_idx (t := 39) (e := 2) (sz := 1) (a := a2) (n := x2.length) (cap := c1) (kk := .i64) (i := i2) (by kernel_rfl) Try.underlying39 (by kernel_rfl) ((r1.at H5.ext).cell hx3).1 hx3l hx3u) ?_
            refine QRun_y (.int .i64 x5) (by kernel_rfl) (Y_load1 (t := 2) (p := adr a2 (i2.toNat * 1)) (v := .int .i64 x5) (by kernel_rfl) (fun w => by kernel_rfl) (cd2_cell (r1.at H5.ext) hx3)) ?_
            refine QRun_b [.int .i64 i2, .int .i64 x5] 3 _ (by kernel_rfl) (fun w => by kernel_rfl) ?_
            exact QRun_done [1, 5, 6, 8, 9, 13, 14, 15, 23, 24, 25] (by kernel_rfl) (by kernel_rfl)
          obtain ⟨x6, hx4, hB2⟩ := M.bind_some hB2
          obtain ⟨hx4l, hx4u, hx4⟩ := M.idx_some hx4
          obtain ⟨x7, hx5, hB2⟩ := M.bind_some hB2
          obtain ⟨hx5l, hx5u, hx5⟩ := M.idx_some hx5
          obtain ⟨x8, hx6, hB2⟩ := M.bind_some hB2
          obtain ⟨x9, hx7, hB2⟩ := M.bind_some hB2
          obtain ⟨hx7l, hx7u, hx7⟩ := M.idx_some hx7
          refine Run_D (fun x => Hold h x [own cd2 a1 l1.length l1.length s2]) (fun x => Hold h x [own cd2 a1 l1.length l1.length s2]) mixed (by kernel_rfl) H5 Hold.stable (fun x Hy => (show Hold h x [own cd2 a1 l1.length l1.length s2] from Hy).pick [0] (by kernel_rfl)) ?_
          refine DR_b 11 [.slice a1 l1.length l1.length, .int .i64 i1, .slice a1 l1.length l1.length, .int .i64 i1] 0 (by kernel_rfl) (by kernel_rfl) (by kernel_rfl) (fun w => by kernel_rfl) ?_
          refine DR_y 10 (i := 4) (.pointer (some (adr a1 (i1.toNat * 1)))) (by kernel_rfl) (by kernel_rfl) (by kernel_rfl) (fun hx Hx => (YE.of (Y_idx (t := 39) (e := 2) (sz := 1) (a := a1) (n := l1.length) (cap := l1.length) (kk := .i64) (i := i1) (by kernel_rfl) Try.underlying39 (by kernel_rfl) ((H5.rd 0 rfl).cell hx4).1 hx4l (by rw [← (H5.len 0 rfl)]; exact hx4u)))) ?_
          refine DR_y 9 (i := 5) (.int .i64 x6) (by kernel_rfl) (by kernel_rfl) (by kernel_rfl) (fun hx Hx => (YE.of (Y_load1 (t := 2) (p := adr a1 (i1.toNat * 1)) (v := .int .i64 x6) (by kernel_rfl) (fun w => by kernel_rfl) (cd2_cell (Hx.rd 0 rfl) hx4)))) ?_
          refine DR_b 6 [.int .i64 x5, .slice ax_ x_.length cx_, .int .i64 i2] 6 (by kernel_rfl) (by kernel_rfl) (by kernel_rfl) (fun w => by kernel_rfl) ?_
          refine DR_y 5 (i := 9) (.pointer (some (adr ax_ (i2.toNat * 1)))) (by kernel_rfl) (by kernel_rfl) (by kernel_rfl) (fun hx Hx => (YE.of (Y_idx (t := 39) (e := 2) (sz := 1) (a := ax_) (n := x_.length) (cap := cx_) (kk := .i64) (i := i2) (by kernel_rfl) Try.underlying39 (by kernel_rfl) ((rx_.at H5.ext).cell hx5).1 hx5l hx5u))) ?_
          refine DR_y 4 (i := 10) (.int .i64 x7) (by kernel_rfl) (by kernel_rfl) (by kernel_rfl) (fun hx Hx => (YE.of (Y_load1 (t := 2) (p := adr ax_ (i2.toNat * 1)) (v := .int .i64 x7) (by kernel_rfl) (fun w => by kernel_rfl) (cd2_cell (rx_.at Hx.ext) hx5)))) ?_
          refine DR_y 3 (i := 11) (.int .i64 x8) (by kernel_rfl) (by kernel_rfl) (by kernel_rfl) (fun hx Hx => (YE.of (Y_callq (f := 94) (args := #[.int .i64 x5, .int .i64 x7]) (v := .int .i64 x8) (by kernel_rfl) (w_impl_times hx x5 x7 _ _ hx6)))) ?_
          refine DR_b 2 [.int .i64 (mx x6 x8)] 12 (by kernel_rfl) (by kernel_rfl) (by kernel_rfl) (fun w => by kernel_rfl) ?_
          refine DR_y 1 (i := 13) (.pointer (some (adr a1 (i1.toNat * 1)))) (by kernel_rfl) (by kernel_rfl) (by kernel_rfl) (fun hx Hx => (YE.of (Y_idx (t := 39) (e := 2) (sz := 1) (a := a1) (n := l1.length) (cap := l1.length) (kk := .i64) (i := i1) (by kernel_rfl) Try.underlying39 (by kernel_rfl) ((H5.rd 0 rfl).cell hx7).1 hx7l (by rw [← (H5.len 0 rfl)]; exact hx7u)))) ?_
          refine DR_tail (i := 14) (by kernel_rfl) (by kernel_rfl) (by kernel_rfl) (fun h7 H7 => ?_)
          have H8 : Hold h h7 [own cd2 a1 l1.length l1.length s2] := H7
          obtain ⟨l3, hu2, hB2⟩ := M.bind_some hB2
          have hu2 := M.upd_some hu2
          refine Run_E (by kernel_rfl) ?_
          refine E_put (C := cd2) (t := 2) (sz := 1) (j := i1) (x := (mx x6 x8)) (v := .int .i64 (mx x6 x8)) H8 cd2_flat (by kernel_rfl) rfl (cd2_own _) (by kernel_rfl) hu2 (fun h8 H9 => ?_)
          refine Run_nil (by kernel_rfl) ?_
          refine Run_keep [1, 5, 6, 13, 14, 15, 23, 24, 25] (L' := [(1, .slice ax_ x_.length cx_), (5, .slice a1 l1.length l1.length), (6, .int .i64 i1), (13, .slice aa_ a_.length ca_), (14, .int .i64 (a_.length : Int)), (15, .int .i64 i1), (23, .slice a2 x2.length c1), (24, .int .i64 (x2.length : Int)), (25, .int .i64 i2)]) (by kernel_rfl) ?_
          refine Run_blk ?_
          refine Run_reg 2 (by kernel_rfl) (L' := [(1, .slice ax_ x_.length cx_), (5, .slice a1 l1.length l1.length), (6, .int .i64 i1), (13, .slice aa_ a_.length ca_), (14, .int .i64 (a_.length : Int)), (15, .int .i64 i1), (23, .slice a2 x2.length c1), (24, .int .i64 (x2.length : Int)), (25, .int .i64 (i2 + 1))]) ?_ ?_
          · refine QRun_y (.int .i64 (i2 + 1)) (by kernel_rfl) (Y_eq (v := .int .i64 (w64 (i2 + 1))) (Y_pure (fun w => by kernel_rfl)) (by rw [w64_eq _ (by omega)])) ?_
            refine QRun_b [.int .i64 (i2 + 1)] 1 _ (by kernel_rfl) (fun w => by kernel_rfl) ?_
            exact QRun_done [1, 5, 6, 13, 14, 15, 23, 24, 25] (by kernel_rfl) (by kernel_rfl)
          have hB2 := M.ret_some hB2
          have gx4 := hgoy2 _ hB2.symm
          exact Run_again [1, 5, 6, 13, 14, 15, 23, 24, 25] (by kernel_rfl) my2 (Nat.lt_succ_self _) ⟨i2 + 1, l3, by omega, gx4, rfl, H9⟩
        · have gx4 := M.for_end gx4 hb2
          subst gx4
          refine Run_exit (k' := _) rfl ?_
          exact Run_fall [1, 5, 13, 14, 15] (by kernel_rfl) ⟨rfl, H5⟩
    · have gx1 := M.for_end gx1 hb1
      subst gx1
      refine Run_exit (k' := _) rfl ?_
      exact Run_fall [5] (by kernel_rfl) ⟨rfl, H2⟩

set_option maxRecDepth 100000 in
set_option maxHeartbeats 4000000 in
theorem w_impl_DualOf_1 (h : Heap) (i : Int) (k_ : Int) (z0 : List (List Int)) {Sz0 : Bs} (az0 : Option Addr) (cz0 : Nat) (rz0 : Rd cd39 h Sz0 az0 cz0 z0) (bz0 : Nat) (vz0 : VarAt h bz0 37 [.slice az0 z0.length cz0]) (z1 : List Int) {Sz1 : Bs} (az1 : Option Addr) (cz1 : Nat) (rz1 : Rd cd2 h Sz1 az1 cz1 z1) (bz1 : Nat) (vz1 : VarAt h bz1 39 [.slice az1 z1.length cz1]) (n : Nat) (r : Int) (hF : impl_DualOf_1 i k_ z0 z1 n = some r) :
    Fn Try.prog 93 #[.int .i64 i, .int .i64 k_, .pointer (some ⟨bz0, 0, none⟩), .pointer (some ⟨bz1, 0, none⟩)] h fun v h' => v = .int .i64 r ∧ h' = h := by
  unfold impl_DualOf_1 at hF
  refine Fn_enter (args := [.int .i64 i, .int .i64 k_, .pointer (some ⟨bz0, 0, none⟩), .pointer (some ⟨bz1, 0, none⟩)]) Try.func93 rfl (by kernel_rfl) (by kernel_rfl) (fun w0 _ => ?_)
  refine Run_seq ?_
  refine Run_reg 1 (by kernel_rfl) (L' := [(0, .int .i64 i), (1, .int .i64 k_), (2, .pointer (some ⟨bz0, 0, none⟩)), (3, .pointer (some ⟨bz1, 0, none⟩))]) ?_ ?_
  · refine QRun_b [.int .i64 0] 0 _ (by kernel_rfl) (fun w => by kernel_rfl) ?_
    exact QRun_done [0, 1, 2, 3] (by kernel_rfl) (by kernel_rfl)
  refine Run_seq ?_
  obtain ⟨x1, hx1, hF⟩ := M.bind_some hF
  obtain ⟨hx1l, hx1u, hx1⟩ := M.idx_some hx1
  obtain ⟨a1, c1, hc1, r1⟩ := rz0.row hx1
  obtain ⟨x2, hx2, hF⟩ := M.bind_some hF
  obtain ⟨hx2l, hx2u, hx2⟩ := M.idx_some hx2
  obtain ⟨x3, hx3, hF⟩ := M.bind_some hF
  obtain ⟨hx3l, hx3u, hx3⟩ := M.idx_some hx3
  obtain ⟨x4, hx4, hF⟩ := M.bind_some hF
  obtain ⟨hx4l, hx4u, hx4⟩ := M.idx_some hx4
  obtain ⟨a2, c2, hc2, r2⟩ := rz0.row hx4
  obtain ⟨x5, hx5, hF⟩ := M.bind_some hF
  obtain ⟨hx5l, hx5u, hx5⟩ := M.idx_some hx5
  obtain ⟨x6, hx6, hF⟩ := M.bind_some hF
  obtain ⟨hx6l, hx6u, hx6⟩ := M.idx_some hx6
  obtain ⟨x7, hx7, hF⟩ := M.bind_some hF
  refine Run_draw 23 mixed (by kernel_rfl) (by kernel_rfl) (L' := [(6, .int .i64 x7)]) ?_ ?_
  · refine QRun_y (.slice az0 z0.length cz0) (by kernel_rfl) (Y_load1 (t := 37) (p := ⟨bz0, 0, none⟩) (v := .slice az0 z0.length cz0) (by kernel_rfl) (fun w => by kernel_rfl) (VarAt.cell vz0 rfl)) ?_
    refine QRun_b [.int .i64 i] 1 _ (by kernel_rfl) (fun w => by kernel_rfl) ?_
    refine QRun_y (.pointer (some (adr az0 (i.toNat * 1)))) (by kernel_rfl) (Y_idx (t := 37) (e := 39) (sz := 1) (a := az0) (n := z0.length) (cap := cz0) (kk := .i64) (i := i) (by kernel_rfl) Try.underlying37 (by kernel_rfl) (rz0.cell hx1).1 hx1l hx1u) ?_
    refine QRun_y (.slice a1 x1.length c1) (by kernel_rfl) (Y_load1 (t := 39) (p := adr az0 (i.toNat * 1)) (v := .slice a1 x1.length c1) (by kernel_rfl) (fun w => by kernel_rfl) hc1) ?_
    refine QRun_y (.slice az1 z1.length cz1) (by kernel_rfl) (Y_load1 (t := 39) (p := ⟨bz1, 0, none⟩) (v := .slice az1 z1.length cz1) (by kernel_rfl) (fun w => by kernel_rfl) (VarAt.cell vz1 rfl)) ?_
    refine QRun_b [.int .i64 k_] 5 _ (by kernel_rfl) (fun w => by kernel_rfl) ?_
    refine QRun_y (.pointer (some (adr az1 (k_.toNat * 1)))) (by kernel_rfl) (Y_idx (t := 39) (e := 2) (sz := 1) (a := az1) (n := z1.length) (cap := cz1) (kk := .i64) (i := k_) (by kernel_rfl) Try.underlying39 (by kernel_rfl) (rz1.cell hx2).1 hx2l hx2u) ?_
    refine QRun_y (.int .i64 x2) (by kernel_rfl) (Y_load1 (t := 2) (p := adr az1 (k_.toNat * 1)) (v := .int .i64 x2) (by kernel_rfl) (fun w => by kernel_rfl) (cd2_cell rz1 hx2)) ?_
    refine QRun_y (.pointer (some (adr a1 (x2.toNat * 1)))) (by kernel_rfl) (Y_idx (t := 39) (e := 2) (sz := 1) (a := a1) (n := x1.length) (cap := c1) (kk := .i64) (i := x2) (by kernel_rfl) Try.underlying39 (by kernel_rfl) (r1.cell hx3).1 hx3l hx3u) ?_
    refine QRun_y (.int .i64 x3) (by kernel_rfl) (Y_load1 (t := 2) (p := adr a1 (x2.toNat * 1)) (v := .int .i64 x3) (by kernel_rfl) (fun w => by kernel_rfl) (cd2_cell r1 hx3)) ?_
    refine QRun_y (.slice az0 z0.length cz0) (by kernel_rfl) (Y_load1 (t := 37) (p := ⟨bz0, 0, none⟩) (v := .slice az0 z0.length cz0) (by kernel_rfl) (fun w => by kernel_rfl) (VarAt.cell vz0 rfl)) ?_
    refine QRun_b [.int .i64 k_] 11 _ (by kernel_rfl) (fun w => by kernel_rfl) ?_
    refine QRun_y (.pointer (some (adr az0 (k_.toNat * 1)))) (by kernel_rfl) (Y_idx (t := 37) (e := 39) (sz := 1) (a := az0) (n := z0.length) (cap := cz0) (kk := .i64) (i := k_) (by kernel_rfl) Try.underlying37 (by kernel_rfl) (rz0.cell hx4).1 hx4l hx4u) ?_
    refine QRun_y (.slice a2 x4.length c2) (by kernel_rfl) (Y_load1 (t := 39) (p := adr az0 (k_.toNat * 1)) (v := .slice a2 x4.length c2) (by kernel_rfl) (fun w => by kernel_rfl) hc2) ?_
    refine QRun_y (.slice az1 z1.length cz1) (by kernel_rfl) (Y_load1 (t := 39) (p := ⟨bz1, 0, none⟩) (v := .slice az1 z1.length cz1) (by kernel_rfl) (fun w => by kernel_rfl) (VarAt.cell vz1 rfl)) ?_
    refine QRun_b [.int .i64 k_] 15 _ (by kernel_rfl) (fun w => by kernel_rfl) ?_
    refine QRun_y (.pointer (some (adr az1 (k_.toNat * 1)))) (by kernel_rfl) (Y_idx (t := 39) (e := 2) (sz := 1) (a := az1) (n := z1.length) (cap := cz1) (kk := .i64) (i := k_) (by kernel_rfl) Try.underlying39 (by kernel_rfl) (rz1.cell hx5).1 hx5l hx5u) ?_
    refine QRun_y (.int .i64 x5) (by kernel_rfl) (Y_load1 (t := 2) (p := adr az1 (k_.toNat * 1)) (v := .int .i64 x5) (by kernel_rfl) (fun w => by kernel_rfl) (cd2_cell rz1 hx5)) ?_
    refine QRun_y (.pointer (some (adr a2 (x5.toNat * 1)))) (by kernel_rfl) (Y_idx (t := 39) (e := 2) (sz := 1) (a := a2) (n := x4.length) (cap := c2) (kk := .i64) (i := x5) (by kernel_rfl) Try.underlying39 (by kernel_rfl) (r2.cell hx6).1 hx6l hx6u) ?_
    refine QRun_y (.int .i64 x6) (by kernel_rfl) (Y_load1 (t := 2) (p := adr a2 (x5.toNat * 1)) (v := .int .i64 x6) (by kernel_rfl) (fun w => by kernel_rfl) (cd2_cell r2 hx6)) ?_
    refine QRun_b [.int .i64 (w64 (0 - x6))] 20 _ (by kernel_rfl) (fun w => by kernel_rfl) ?_
    refine QRun_y (.int .i64 x7) (by kernel_rfl) (Y_callq (f := 94) (args := #[.int .i64 x3, .int .i64 (w64 (0 - x6))]) (v := .int .i64 x7) (by kernel_rfl) (w_impl_times h x3 (w64 (0 - x6)) _ _ hx7)) ?_
    refine QRun_b [.int .i64 x7] 22 _ (by kernel_rfl) (fun w => by kernel_rfl) ?_
    exact QRun_done [6] (by kernel_rfl) (by kernel_rfl)
  have hF := M.ret_some hF
  subst hF
  exact Run_ret1 rfl (ResV_tmp (v := .int .i64 x7) (by kernel_rfl)) ⟨rfl, rfl⟩

set_option maxRecDepth 100000 in
set_option maxHeartbeats 4000000 in
theorem w_impl_matrixBy_F_impl_DualOf_1 (h : Heap) (m_ : Int) (n_ : Int) (entry0 : List (List Int)) (aentry0 : Option Addr) (centry0 : Nat) (rentry0 : Rd cd39 h (Lt h) aentry0 centry0 entry0) (bentry0 : Nat) (ventry0 : VarAt h bentry0 37 [.slice aentry0 entry0.length centry0]) (entry1 : List Int) (aentry1 : Option Addr) (centry1 : Nat) (rentry1 : Rd cd2 h (Lt h) aentry1 centry1 entry1) (bentry1 : Nat) (ventry1 : VarAt h bentry1 39 [.slice aentry1 entry1.length centry1]) (n : Nat) (r : (List (List Int))) (hF : impl_matrixBy_F_impl_DualOf_1 m_ n_ entry0 entry1 n = some r) :
    Fn Try.prog 92 #[.int .i64 m_, .int .i64 n_, .func (.func 93) #[] #[.pointer (some ⟨bentry0, 0, none⟩), .pointer (some ⟨bentry1, 0, none⟩)]] h fun v h' => ∃ (a0 : Option Addr) (c0 : Nat), v = .slice a0 r.length c0 ∧ Hold h h' [own cd39 a0 r.length c0 r] := by
  unfold impl_matrixBy_F_impl_DualOf_1 at hF
  refine Fn_enter (args := [.int .i64 m_, .int .i64 n_, .func (.func 93) #[] #[.pointer (some ⟨bentry0, 0, none⟩), .pointer (some ⟨bentry1, 0, none⟩)]]) Try.func92 rfl (by kernel_rfl) (by kernel_rfl) (fun w0 _ => ?_)
  have H0 := Hold.init h
  refine Run_seq ?_
  refine Run_reg 1 (by kernel_rfl) (L' := [(0, .int .i64 m_), (1, .int .i64 n_), (2, .func (.func 93) #[] #[.pointer (some ⟨bentry0, 0, none⟩), .pointer (some ⟨bentry1, 0, none⟩)])]) ?_ ?_
  · refine QRun_b [.slice none 0 0] 0 _ (by kernel_rfl) (fun w => by kernel_rfl) ?_
    exact QRun_done [0, 1, 2] (by kernel_rfl) (by kernel_rfl)
  refine Run_seq ?_
  refine Run_ops ?_
  refine Run_b [.int .i64 m_] 0 _ (by kernel_rfl) (fun w => by kernel_rfl) ?_
  obtain ⟨l1, hl1, hF⟩ := M.bind_some hF
  have hl1 := M.make_some hl1
  refine Run_E (by kernel_rfl) ?_
  refine E_make cd39 [] (kl := .i64) (kc := .i64) H0 cd39_ti Try.underlying37 (by decide) cd39_zero (by kernel_rfl) hl1 (fun a1 h1 H1 => ?_)
  refine Run_b [.slice a1 l1.length l1.length] 2 _ (by kernel_rfl) (fun w => by kernel_rfl) ?_
  refine Run_nil (by kernel_rfl) ?_
  refine Run_keep [1, 2, 7] (L' := [(1, .int .i64 n_), (2, .func (.func 93) #[] #[.pointer (some ⟨bentry0, 0, none⟩), .pointer (some ⟨bentry1, 0, none⟩)]), (7, .slice a1 l1.length l1.length)]) (by kernel_rfl) ?_
  refine Run_seq ?_
  refine Run_seq ?_
  refine Run_reg 3 (by kernel_rfl) (L' := [(1, .int .i64 n_), (2, .func (.func 93) #[] #[.pointer (some ⟨bentry0, 0, none⟩), .pointer (some ⟨bentry1, 0, none⟩)]), (7, .slice a1 l1.length l1.length), (13, .int .i64 (l1.length : Int)), (14, .int .i64 0)]) ?_ ?_
  · refine QRun_b [.slice a1 l1.length l1.length, .int .i64 (l1.length : Int), .int .i64 0] 0 _ (by kernel_rfl) (fun w => by kernel_rfl) ?_
    exact QRun_done [1, 2, 7, 13, 14] (by kernel_rfl) (by kernel_rfl)
  obtain ⟨x1, gx1, hF⟩ := M.bind_some hF
  obtain ⟨hloy1, hhiy1, gx1⟩ := M.for_start gx1
  refine Run_join (fun L' h' => L' = [(7, .slice a1 l1.length l1.length)] ∧ Hold h h' [own cd39 a1 l1.length l1.length x1]) ?_ ?_
  · rintro _ h3 ⟨rfl, H3⟩
    refine Run_seq ?_
    refine Run_reg 2 (by kernel_rfl) (L' := [(6, .slice a1 l1.length l1.length)]) ?_ ?_
    · refine QRun_b [.slice a1 l1.length l1.length, .slice a1 l1.length l1.length] 0 _ (by kernel_rfl) (fun w => by kernel_rfl) ?_
      exact QRun_done [6] (by kernel_rfl) (by kernel_rfl)
    have hF := M.ret_some hF
    subst hF
    have H20 := H3.norm
    exact Run_ret1 rfl (ResV_tmp (v := .slice a1 l1.length l1.length) (by kernel_rfl)) ⟨a1, l1.length, (by simp only [(H3.len 0 rfl)]), H20⟩
  · refine Run_block ?_
    refine Run_keep [1, 2, 7, 13, 14] (L' := [(1, .int .i64 n_), (2, .func (.func 93) #[] #[.pointer (some ⟨bentry0, 0, none⟩), .pointer (some ⟨bentry1, 0, none⟩)]), (7, .slice a1 l1.length l1.length), (13, .int .i64 (l1.length : Int)), (14, .int .i64 0)]) (by kernel_rfl) ?_
    refine Run_loop (fun m L' h' => ∃ (i1 : Int) (s1 : (List (List Int))), 0 ≤ i1 ∧ M.forN (l1.length : Int) _ _ n m i1 s1 = some x1 ∧ L' = [(1, .int .i64 n_), (2, .func (.func 93) #[] #[.pointer (some ⟨bentry0, 0, none⟩), .pointer (some ⟨bentry1, 0, none⟩)]), (7, .slice a1 l1.length l1.length), (13, .int .i64 (l1.length : Int)), (14, .int .i64 i1)] ∧ Hold h h' [own cd39 a1 l1.length l1.length s1]) ((l1.length : Int) - 0 : Int).toNat ⟨0, l1, Int.le_refl _, gx1, rfl, H1⟩ ?_
    rintro my1 _ h2 ⟨i1, s1, hloy1', gx1, rfl, H2⟩
    refine Run_seq ?_
    refine Run_reg 1 (by kernel_rfl) (L' := [(1, .int .i64 n_), (2, .func (.func 93) #[] #[.pointer (some ⟨bentry0, 0, none⟩), .pointer (some ⟨bentry1, 0, none⟩)]), (7, .slice a1 l1.length l1.length), (13, .int .i64 (l1.length : Int)), (14, .int .i64 i1), (15, .bool (decide (i1 < (l1.length : Int))))]) ?_ ?_
    · refine QRun_b [.bool (decide (i1 < (l1.length : Int)))] 0 _ (by kernel_rfl) (fun w => by kernel_rfl) ?_
      exact QRun_done [1, 2, 7, 13, 14, 15] (by kernel_rfl) (by kernel_rfl)
    refine Run_seq ?_
    refine Run_cond (b := decide (i1 < (l1.length : Int))) (by kernel_rfl) (fun hb1 => ?_) (fun hb1 => ?_)
    · obtain ⟨my1, y1, rfl, hB1, hgoy1, houty1⟩ := M.for_go gx1 hb1
      have hlty1 := of_decide_eq_true hb1
      refine Run_skip ?_
      refine Run_seq ?_
      refine Run_block ?_
      refine Run_seq ?_
      refine Run_reg 2 (by kernel_rfl) (L' := [(1, .int .i64 n_), (2, .func (.func 93) #[] #[.pointer (some ⟨bentry0, 0, none⟩), .pointer (some ⟨bentry1, 0, none⟩)]), (7, .slice a1 l1.length l1.length), (8, .int .i64 i1), (13, .int .i64 (l1.length : Int)), (14, .int .i64 i1)]) ?_ ?_
      · refine QRun_b [.int .i64 i1, .int .i64 i1] 0 _ (by kernel_rfl) (fun w => by kernel_rfl) ?_
        exact QRun_done [1, 2, 7, 8, 13, 14] (by kernel_rfl) (by kernel_rfl)
      refine Run_seq ?_
      refine Run_ops ?_
      refine Run_b [.slice a1 l1.length l1.length, .int .i64 i1, .int .i64 n_] 0 _ (by kernel_rfl) (fun w => by kernel_rfl) ?_
      obtain ⟨l2, hl2, hB1⟩ := M.bind_some hB1
      have hl2 := M.make_some hl2
      refine Run_E (by kernel_rfl) ?_
      refine E_make cd2 0 (kl := .i64) (kc := .i64) H2 cd2_ti Try.underlying39 (by decide) cd2_zero (by kernel_rfl) hl2 (fun a2 h4 H4 => ?_)
      obtain ⟨x2, hx1, hB1⟩ := M.bind_some hB1
      obtain ⟨hx1l, hx1u, hx1⟩ := M.idx_some hx1
      refine Run_y (.pointer (some (adr a1 (i1.toNat * 1)))) (by kernel_rfl) (Y_idx (t := 37) (e := 39) (sz := 1) (a := a1) (n := l1.length) (cap := l1.length) (kk := .i64) (i := i1) (by kernel_rfl) Try.underlying37 (by kernel_rfl) ((H4.rd 1 rfl).cell hx1).1 hx1l (by rw [← (H4.len 1 rfl)]; exact hx1u)) ?_
      obtain ⟨l3, hu1, hB1⟩ := M.bind_some hB1
      have hu1 := M.upd_some hu1
      have H6 : Hold h h4 [own cd39 a1 l1.length l1.length s1, own cd2 a2 l2.length l2.length l2] := H4.pick [1, 0] (by kernel_rfl)
      have H7 : Hold h h4 [own cd2 a2 l2.length l2.length l2, own cd39 a1 l1.length l1.length s1] := H6.pick [1, 0] (by kernel_rfl)
      have H8 : Hold h h4 [own cd39 a1 l1.length l1.length s1, own cd2 a2 l2.length l2.length l2] := H7.pick [1, 0] (by kernel_rfl)
      refine Run_E (by kernel_rfl) ?_
      refine E_putRow (t := 39) (j := i1) H8 (by kernel_rfl) (by kernel_rfl) hu1 (fun h5 H5 => ?_)
      refine Run_nil (by kernel_rfl) ?_
      refine Run_keep [1, 2, 7, 8, 13, 14] (L' := [(1, .int .i64 n_), (2, .func (.func 93) #[] #[.pointer (some ⟨bentry0, 0, none⟩), .pointer (some ⟨bentry1, 0, none⟩)]), (7, .slice a1 l1.length l1.length), (8, .int .i64 i1), (13, .int .i64 (l1.length : Int)), (14, .int .i64 i1)]) (by kernel_rfl) ?_
      refine Run_seq ?_
      obtain ⟨x3, hx2, hB1⟩ := M.bind_some hB1
      obtain ⟨hx2l, hx2u, hx2⟩ := M.idx_some hx2
      have H9 := H5.toRows
      obtain ⟨a3, c1, H10⟩ := H9.pinRow hx2
      refine Run_reg 6 (by kernel_rfl) (L' := [(1, .int .i64 n_), (2, .func (.func 93) #[] #[.pointer (some ⟨bentry0, 0, none⟩), .pointer (some ⟨bentry1, 0, none⟩)]), (7, .slice a1 l1.length l1.length), (8, .int .i64 i1), (13, .int .i64 (l1.length : Int)), (14, .int .i64 i1), (26, .int .i64 (x3.length : Int)), (27, .int .i64 0)]) ?_ ?_
      · refine QRun_b [.slice a1 l1.length l1.length, .int .i64 i1] 0 _ (by kernel_rfl) (fun w => by kernel_rfl) ?_
        refine QRun_y (.pointer (some (adr a1 (i1.toNat * 1)))) (by kernel_rfl) (Y_idx (t := 37) (e := 39) (sz := 1) (a := a1) (n := l1.length) (cap := l1.length) (kk := .i64) (i := i1) (by kernel_rfl) Try.underlying37 (by kernel_rfl) ((H5.rd 0 rfl).cell hx2).1 hx2l (by rw [← (H5.len 0 rfl)]; exact hx2u)) ?_
        refine QRun_y (.slice a3 x3.length c1) (by kernel_rfl) (Y_load1 (t := 39) (p := adr a1 (i1.toNat * 1)) (v := .slice a3 x3.length c1) (by kernel_rfl) (fun w => by kernel_rfl) (H10.cellPin 0 rfl 0 rfl)) ?_
        refine QRun_b [.int .i64 (x3.length : Int), .int .i64 0] 4 _ (by kernel_rfl) (fun w => by kernel_rfl) ?_
        exact QRun_done [1, 2, 7, 8, 13, 14, 26, 27] (by kernel_rfl) (by kernel_rfl)
      obtain ⟨x4, gx4, hB1⟩ := M.bind_some hB1
      obtain ⟨hloy2, hhiy2, gx4⟩ := M.for_start gx4
      refine Run_join (fun L' h' => L' = [(1, .int .i64 n_), (2, .func (.func 93) #[] #[.pointer (some ⟨bentry0, 0, none⟩), .pointer (some ⟨bentry1, 0, none⟩)]), (7, .slice a1 l1.length l1.length), (13, .int .i64 (l1.length : Int)), (14, .int .i64 i1)] ∧ Hold h h' [own cd39 a1 l1.length l1.length x4]) ?_ ?_
      · rintro _ h7 ⟨rfl, H12⟩
        refine Run_blk ?_
        refine Run_reg 2 (by kernel_rfl) (L' := [(1, .int .i64 n_), (2, .func (.func 93) #[] #[.pointer (some ⟨bentry0, 0, none⟩), .pointer (some ⟨bentry1, 0, none⟩)]), (7, .slice a1 l1.length l1.length), (13, .int .i64 (l1.length : Int)), (14, .int .i64 (i1 + 1))]) ?_ ?_
        · refine QRun_y (.int .i64 (i1 + 1)) (by kernel_rfl) (Y_eq (v := .int .i64 (w64 (i1 + 1))) (Y_pure (fun w => by kernel_rfl)) (by rw [w64_eq _ (by omega)])) ?_
          refine QRun_b [.int .i64 (i1 + 1)] 1 _ (by kernel_rfl) (fun w => by kernel_rfl) ?_
          exact QRun_done [1, 2, 7, 13, 14] (by kernel_rfl) (by kernel_rfl)
        have hB1 := M.ret_some hB1
        have gx1 := hgoy1 _ hB1.symm
        exact Run_again [1, 2, 7, 13, 14] (by kernel_rfl) my1 (Nat.lt_succ_self _) ⟨i1 + 1, x4, by omega, gx1, rfl, H12⟩
      · refine Run_block ?_
        have H19 := H10.ofRows
        refine Run_keep [1, 2, 7, 8, 13, 14, 26, 27] (L' := [(1, .int .i64 n_), (2, .func (.func 93) #[] #[.pointer (some ⟨bentry0, 0, none⟩), .pointer (some ⟨bentry1, 0, none⟩)]), (7, .slice a1 l1.length l1.length), (8, .int .i64 i1), (13, .int .i64 (l1.length : Int)), (14, .int .i64 i1), (26, .int .i64 (x3.length : Int)), (27, .int .i64 0)]) (by kernel_rfl) ?_
        refine Run_loop (fun m L' h' => ∃ (i2 : Int) (s2 : (List (List Int))), 0 ≤ i2 ∧ M.forN (x3.length : Int) _ _ n m i2 s2 = some x4 ∧ L' = [(1, .int .i64 n_), (2, .func (.func 93) #[] #[.pointer (some ⟨bentry0, 0, none⟩), .pointer (some ⟨bentry1, 0, none⟩)]), (7, .slice a1 l1.length l1.length), (8, .int .i64 i1), (13, .int .i64 (l1.length : Int)), (14, .int .i64 i1), (26, .int .i64 (x3.length : Int)), (27, .int .i64 i2)] ∧ Hold h h' [own cd39 a1 l1.length l1.length s2]) ((x3.length : Int) - 0 : Int).toNat ⟨0, l3, Int.le_refl _, gx4, rfl, H19⟩ ?_
        rintro my2 _ h6 ⟨i2, s2, hloy2', gx4, rfl, H11⟩
        refine Run_seq ?_
        refine Run_reg 1 (by kernel_rfl) (L' := [(1, .int .i64 n_), (2, .func (.func 93) #[] #[.pointer (some ⟨bentry0, 0, none⟩), .pointer (some ⟨bentry1, 0, none⟩)]), (7, .slice a1 l1.length l1.length), (8, .int .i64 i1), (13, .int .i64 (l1.length : Int)), (14, .int .i64 i1), (26, .int .i64 (x3.length : Int)), (27, .int .i64 i2), (28, .bool (decide (i2 < (x3.length : Int))))]) ?_ ?_
        · refine QRun_b [.bool (decide (i2 < (x3.length : Int)))] 0 _ (by kernel_rfl) (fun w => by kernel_rfl) ?_
          exact QRun_done [1, 2, 7, 8, 13, 14, 26, 27, 28] (by kernel_rfl) (by kernel_rfl)
        refine Run_seq ?_
        refine Run_cond (b := decide (i2 < (x3.length : Int))) (by kernel_rfl) (fun hb2 => ?_) (fun hb2 => ?_)
        · obtain ⟨my2, y2, rfl, hB2, hgoy2, houty2⟩ := M.for_go gx4 hb2
          have hlty2 := of_decide_eq_true hb2
          refine Run_skip ?_
          refine Run_seq ?_
          refine Run_block ?_
          refine Run_seq ?_
          refine Run_reg 2 (by kernel_rfl) (L' := [(1, .int .i64 n_), (2, .func (.func 93) #[] #[.pointer (some ⟨bentry0, 0, none⟩), .pointer (some ⟨bentry1, 0, none⟩)]), (7, .slice a1 l1.length l1.length), (8, .int .i64 i1), (9, .int .i64 i2), (13, .int .i64 (l1.length : Int)), (14, .int .i64 i1), (26, .int .i64 (x3.length : Int)), (27, .int .i64 i2)]) ?_ ?_
          · refine QRun_b [.int .i64 i2, .int .i64 i2] 0 _ (by kernel_rfl) (fun w => by kernel_rfl) ?_
            exact QRun_done [1, 2, 7, 8, 9, 13, 14, 26, 27] (by kernel_rfl) (by kernel_rfl)
          obtain ⟨x5, hx3, hB2⟩ := M.bind_some hB2
          obtain ⟨hx3l, hx3u, hx3⟩ := M.idx_some hx3
          have H13 := H11.toRows
          obtain ⟨a4, c2, H14⟩ := H13.pinRow hx3
          obtain ⟨x6, hx4, hB2⟩ := M.bind_some hB2
          obtain ⟨x7, hx5, hB2⟩ := M.bind_some hB2
          obtain ⟨hx5l, hx5u, hx5⟩ := M.idx_some hx5
          refine Run_D (fun x => Hold h x [rowsP cd2 39 a1 l1.length l1.length s2 [(i1.toNat, a4, x5.length, c2, x5)]]) (fun x => Hold h x [rowsP cd2 39 a1 l1.length l1.length s2 [(i1.toNat, a4, x5.length, c2, x5)]]) mixed (by kernel_rfl) H14 Hold.stable (fun x Hy => (show Hold h x [rowsP cd2 39 a1 l1.length l1.length s2 [(i1.toNat, a4, x5.length, c2, x5)]] from Hy).pick [0] (by kernel_rfl)) ?_
          refine DR_b 9 [.slice a1 l1.length l1.length, .int .i64 i1] 0 (by kernel_rfl) (by kernel_rfl) (by kernel_rfl) (fun w => by kernel_rfl) ?_
          refine DR_y 8 (i := 2) (.pointer (some (adr a1 (i1.toNat * 1)))) (by kernel_rfl) (by kernel_rfl) (by kernel_rfl) (fun hx Hx => (YE.of (Y_idx (t := 37) (e := 39) (sz := 1) (a := a1) (n := l1.length) (cap := l1.length) (kk := .i64) (i := i1) (by kernel_rfl) Try.underlying37 (by kernel_rfl) ((H11.rd 0 rfl).cell hx3).1 hx3l (by rw [← (H11.len 0 rfl)]; exact hx3u)))) ?_
          refine DR_y 7 (i := 3) (.slice a4 x5.length c2) (by kernel_rfl) (by kernel_rfl) (by kernel_rfl) (fun hx Hx => (YE.of (Y_load1 (t := 39) (p := adr a1 (i1.toNat * 1)) (v := .slice a4 x5.length c2) (by kernel_rfl) (fun w => by kernel_rfl) (Hx.cellPin 0 rfl 0 rfl)))) ?_
          refine DR_b 3 [.int .i64 i2, .func (.func 93) #[] #[.pointer (some ⟨bentry0, 0, none⟩), .pointer (some ⟨bentry1, 0, none⟩)], .int .i64 i1, .int .i64 i2] 4 (by kernel_rfl) (by kernel_rfl) (by kernel_rfl) (fun w => by kernel_rfl) ?_
          refine DR_y 2 (i := 8) (.int .i64 x6) (by kernel_rfl) (by kernel_rfl) (by kernel_rfl) (fun hx Hx => (YE.of (Y_callq (f := 93) (args := #[.int .i64 i1, .int .i64 i2, .pointer (some ⟨bentry0, 0, none⟩), .pointer (some ⟨bentry1, 0, none⟩)]) (v := .int .i64 x6) (by kernel_rfl) (w_impl_DualOf_1 hx i1 i2 entry0 aentry0 centry0 (rentry0.at Hx.ext) bentry0 (ventry0.at Hx.ext) entry1 aentry1 centry1 (rentry1.at Hx.ext) bentry1 (ventry1.at Hx.ext) _ _ hx4)))) ?_
          refine DR_y 1 (i := 9) (.pointer (some (adr a4 (i2.toNat * 1)))) (by kernel_rfl) (by kernel_rfl) (by kernel_rfl) (fun hx Hx => (YE.of (Y_idx (t := 39) (e := 2) (sz := 1) (a := a4) (n := x5.length) (cap := c2) (kk := .i64) (i := i2) (by kernel_rfl) Try.underlying39 (by kernel_rfl) ((H14.rdPin 0 rfl 0 rfl).cell hx5).1 hx5l hx5u))) ?_
          refine DR_tail (i := 10) (by kernel_rfl) (by kernel_rfl) (by kernel_rfl) (fun h8 H15 => ?_)
          have H16 : Hold h h8 [rowsP cd2 39 a1 l1.length l1.length s2 [(i1.toNat, a4, x5.length, c2, x5)]] := H15
          obtain ⟨l4, hu2, hB2⟩ := M.bind_some hB2
          have hu2 := M.upd_some hu2
          refine Run_E (by kernel_rfl) ?_
          refine E_put2 (C := cd2) (t := 2) (sz := 1) (j := i2) (x := x6) (v := .int .i64 x6) (m2 := s2.set i1.toNat l4) H16 cd2_flat 0 rfl (by kernel_rfl) rfl (cd2_own _) (by kernel_rfl) hu2 rfl (fun h9 H17 => ?_)
          refine Run_nil (by kernel_rfl) ?_
          refine Run_keep [1, 2, 7, 8, 13, 14, 26, 27] (L' := [(1, .int .i64 n_), (2, .func (.func 93) #[] #[.pointer (some ⟨bentry0, 0, none⟩), .pointer (some ⟨bentry1, 0, none⟩)]), (7, .slice a1 l1.length l1.length), (8, .int .i64 i1), (13, .int .i64 (l1.length : Int)), (14, .int .i64 i1), (26, .int .i64 (x3.length : Int)), (27, .int .i64 i2)]) (by kernel_rfl) ?_
          refine Run_blk ?_
          refine Run_reg 2 (by kernel_rfl) (L' := [(1, .int .i64 n_), (2, .func (.func 93) #[] #[.pointer (some ⟨bentry0, 0, none⟩), .pointer (some ⟨bentry1, 0, none⟩)]), (7, .slice a1 l1.length l1.length), (8, .int .i64 i1), (13, .int .i64 (l1.length : Int)), (14, .int .i64 i1), (26, .int .i64 (x3.length : Int)), (27, .int .i64 (i2 + 1))]) ?_ ?_
          · refine QRun_y (.int .i64 (i2 + 1)) (by kernel_rfl) (Y_eq (v := .int .i64 (w64 (i2 + 1))) (Y_pure (fun w => by kernel_rfl)) (by rw [w64_eq _ (by omega)])) ?_
            refine QRun_b [.int .i64 (i2 + 1)] 1 _ (by kernel_rfl) (fun w => by kernel_rfl) ?_
            exact QRun_done [1, 2, 7, 8, 13, 14, 26, 27] (by kernel_rfl) (by kernel_rfl)
          have H18 := H17.ofRows
          have hB2 := M.ret_some hB2
          have gx4 := hgoy2 _ hB2.symm
          exact Run_again [1, 2, 7, 8, 13, 14, 26, 27] (by kernel_rfl) my2 (Nat.lt_succ_self _) ⟨i2 + 1, (s2.set i1.toNat l4), by omega, gx4, rfl, H18⟩
        · have gx4 := M.for_end gx4 hb2
          subst gx4
          refine Run_exit (k' := _) rfl ?_
          exact Run_fall [1, 2, 7, 13, 14] (by kernel_rfl) ⟨rfl, H11⟩
    · have gx1 := M.for_end gx1 hb1
      subst gx1
      refine Run_exit (k' := _) rfl ?_
      exact Run_fall [7] (by kernel_rfl) ⟨rfl, H2⟩

set_option maxRecDepth 100000 in
set_option maxHeartbeats 4000000 in
theorem w_impl_DualOf (h : Heap) (a_ : List (List Int)) (aa_ : Option Addr) (ca_ : Nat) (ra_ : Rd cd39 h (Lt h) aa_ ca_ a_) (n : Nat) (r : (List Int) × (List Int) × Int) (hF : impl_DualOf a_ n = some r) :
    Fn Try.prog 21 #[.slice aa_ a_.length ca_] h fun v h' => ∃ (a0 : Option Addr) (c0 : Nat), ∃ (a1 : Option Addr) (c1 : Nat), v = .tuple #[.slice a0 r.1.length c0, .slice a1 r.2.1.length c1, .int .i64 r.2.2] ∧ Hold h h' [own cd2 a0 r.1.length c0 r.1, own cd2 a1 r.2.1.length c1 r.2.1] := by
  unfold impl_DualOf at hF
  refine Fn_enter (args := [.slice aa_ a_.length ca_]) Try.func21 rfl (by kernel_rfl) (by kernel_rfl) (fun w0 _ => ?_)
  have H0 := Hold.init h
  refine Run_seq ?_
  refine Run_ops ?_
  refine Run_E (by kernel_rfl) ?_
  refine E_box (ty := 37) (cs := [.slice aa_ a_.length ca_]) H0 (fun w => by kernel_rfl) (fun b1 h1 H1 => ?_)
  refine Run_b [.slice none 0 0, .slice none 0 0, .int .i64 0] 1 _ (by kernel_rfl) (fun w => by kernel_rfl) ?_
  refine Run_nil (by kernel_rfl) ?_
  refine Run_keep [1] (L' := [(1, .pointer (some ⟨b1, 0, none⟩))]) (by kernel_rfl) ?_
  refine Run_seq ?_
  refine Run_seq ?_
  obtain ⟨x1, hx1, hF⟩ := M.bind_some hF
  refine Run_regC (j := 3) (C := fun x => Hold h x [box b1 37 [.slice aa_ a_.length ca_]]) (by kernel_rfl) H1 (L' := [(1, .pointer (some ⟨b1, 0, none⟩)), (16, .bool (!x1))]) ?_ (fun h2 H2 => ?_)
  · refine QRun_y (.slice aa_ a_.length ca_) (by kernel_rfl) (Y_cls fun hx Hx => (Y_load1 (t := 37) (p := ⟨b1, 0, none⟩) (v := .slice aa_ a_.length ca_) (by kernel_rfl) (fun w => by kernel_rfl) (Hx.cell 0 rfl rfl))) ?_
    refine QRun_y (.bool x1) (by kernel_rfl) (Y_call (f := 89) (args := #[.slice aa_ a_.length ca_]) (v := .bool x1) (by kernel_rfl) fun hx Hx => (w_impl_isSquare hx a_ aa_ ca_ (ra_.at Hx.ext) _ _ hx1).mono fun _ _ ⟨e, H'⟩ => ⟨e, Hx.call H' rfl⟩) ?_
    refine QRun_b [.bool (!x1)] 2 _ (by kernel_rfl) (fun w => by kernel_rfl) ?_
    exact QRun_done [1, 16] (by kernel_rfl) (by kernel_rfl)
  have H3 : Hold h h2 [box b1 37 [.slice aa_ a_.length ca_]] := H2
  refine Run_cond (b := !x1) (by kernel_rfl) (fun hb1 => ?_) (fun hb1 => ?_)
  · have hF := (M.ite_some hF).1 hb1
    refine Run_seq ?_
    refine Run_reg 3 (by kernel_rfl) (L' := [(2, .slice none 0 0), (3, .slice none 0 0), (4, .int .i64 1)]) ?_ ?_
    · refine QRun_b [.slice none 0 0, .slice none 0 0, .int .i64 1] 0 _ (by kernel_rfl) (fun w => by kernel_rfl) ?_
      exact QRun_done [2, 3, 4] (by kernel_rfl) (by kernel_rfl)
    have hF := M.ret_some hF
    subst hF
    have H4 := H3.empty cd2
    have H5 := H4.empty cd2
    have H6 : Hold h h2 [own cd2 none 0 0 [], own cd2 none 0 0 []] := H5.pick [1, 0] (by kernel_rfl)
    exact Run_ret3 rfl (ResV_tmp (v := .slice none 0 0) (by kernel_rfl)) (ResV_tmp (v := .slice none 0 0) (by kernel_rfl)) (ResV_tmp (v := .int .i64 1) (by kernel_rfl)) ⟨none, 0, none, 0, rfl, H6⟩
  · have hF := (M.ite_some hF).2 hb1
    refine Run_skip ?_
    refine Run_seq ?_
    refine Run_ops ?_
    refine Run_y (.slice aa_ a_.length ca_) (by kernel_rfl) (Y_load1 (t := 37) (p := ⟨b1, 0, none⟩) (v := .slice aa_ a_.length ca_) (by kernel_rfl) (fun w => by kernel_rfl) (H3.cell 0 rfl rfl)) ?_
    obtain ⟨x2, hx2, hF⟩ := M.bind_some hF
    refine Run_E (by kernel_rfl) ?_
    refine E_call (f := 90) (args := #[.slice aa_ a_.length ca_]) (w_impl_bestAssignment h2 a_ aa_ ca_ (ra_.at H3.ext) _ _ hx2) (by kernel_rfl) (fun v1 h3 hp1 => ?_)
    obtain ⟨a1, c1, rfl, H7⟩ := hp1
    have H8 : Hold h h3 [own cd2 a1 x2.1.length c1 x2.1, box b1 37 [.slice aa_ a_.length ca_]] := H3.call H7 rfl
    refine Run_b [.tuple #[.slice a1 x2.1.length c1, .bool x2.2], .slice a1 x2.1.length c1, .bool x2.2] 2 _ (by kernel_rfl) (fun w => by kernel_rfl) ?_
    refine Run_E (by kernel_rfl) ?_
    refine E_box (ty := 39) (cs := [.slice none 0 0]) H8 (fun w => by kernel_rfl) (fun b2 h4 H9 => ?_)
    refine Run_E (by kernel_rfl) ?_
    refine E_bput (t := 39) (off := 0) (us := [.slice a1 x2.1.length c1]) (v := .slice a1 x2.1.length c1) H9 (by kernel_rfl) (by kernel_rfl) rfl (by kernel_rfl) rfl (fun h5 H10 => ?_)
    refine Run_b [.bool x2.2] 7 _ (by kernel_rfl) (fun w => by kernel_rfl) ?_
    refine Run_nil (by kernel_rfl) ?_
    refine Run_keep [1, 5, 6] (L' := [(1, .pointer (some ⟨b1, 0, none⟩)), (5, .pointer (some ⟨b2, 0, none⟩)), (6, .bool x2.2)]) (by kernel_rfl) ?_
    refine Run_seq ?_
    refine Run_seq ?_
    refine Run_reg 2 (by kernel_rfl) (L' := [(1, .pointer (some ⟨b1, 0, none⟩)), (5, .pointer (some ⟨b2, 0, none⟩)), (23, .bool (!x2.2))]) ?_ ?_
    · refine QRun_b [.bool x2.2, .bool (!x2.2)] 0 _ (by kernel_rfl) (fun w => by kernel_rfl) ?_
      exact QRun_done [1, 5, 23] (by kernel_rfl) (by kernel_rfl)
    refine Run_cond (b := !x2.2) (by kernel_rfl) (fun hb2 => ?_) (fun hb2 => ?_)
    · have hF := (M.ite_some hF).1 hb2
      refine Run_seq ?_
      refine Run_reg 3 (by kernel_rfl) (L' := [(2, .slice none 0 0), (3, .slice none 0 0), (4, .int .i64 4)]) ?_ ?_
      · refine QRun_b [.slice none 0 0, .slice none 0 0, .int .i64 4] 0 _ (by kernel_rfl) (fun w => by kernel_rfl) ?_
        exact QRun_done [2, 3, 4] (by kernel_rfl) (by kernel_rfl)
      have hF := M.ret_some hF
      subst hF
      have H11 := H10.empty cd2
      have H12 := H11.empty cd2
      have H13 : Hold h h5 [own cd2 none 0 0 [], own cd2 none 0 0 []] := H12.pick [1, 0] (by kernel_rfl)
      exact Run_ret3 rfl (ResV_tmp (v := .slice none 0 0) (by kernel_rfl)) (ResV_tmp (v := .slice none 0 0) (by kernel_rfl)) (ResV_tmp (v := .int .i64 4) (by kernel_rfl)) ⟨none, 0, none, 0, rfl, H13⟩
    · have hF := (M.ite_some hF).2 hb2
      refine Run_skip ?_
      refine Run_seq ?_
      refine Run_reg 3 (by kernel_rfl) (L' := [(1, .pointer (some ⟨b1, 0, none⟩)), (5, .pointer (some ⟨b2, 0, none⟩)), (7, .int .i64 (a_.length : Int))]) ?_ ?_
      · refine QRun_y (.slice aa_ a_.length ca_) (by kernel_rfl) (Y_load1 (t := 37) (p := ⟨b1, 0, none⟩) (v := .slice aa_ a_.length ca_) (by kernel_rfl) (fun w => by kernel_rfl) (H10.cell 2 rfl rfl)) ?_
        refine QRun_b [.int .i64 (a_.length : Int), .int .i64 (a_.length : Int)] 1 _ (by kernel_rfl) (fun w => by kernel_rfl) ?_
        exact QRun_done [1, 5, 7] (by kernel_rfl) (by kernel_rfl)
      refine Run_seq ?_
      refine Run_ops ?_
      refine Run_b [.int .i64 (a_.length : Int), .int .i64 (a_.length : Int), .func (.func 93) #[] #[.pointer (some ⟨b1, 0, none⟩), .pointer (some ⟨b2, 0, none⟩)]] 0 _ (by kernel_rfl) (fun w => by kernel_rfl) ?_
      obtain ⟨x3, hx3, hF⟩ := M.bind_some hF
      refine Run_E (by kernel_rfl) ?_
      refine E_call (f := 92) (args := #[.int .i64 (a_.length : Int), .int .i64 (a_.length : Int), .func (.func 93) #[] #[.pointer (some ⟨b1, 0, none⟩), .pointer (some ⟨b2, 0, none⟩)]]) (w_impl_matrixBy_F_impl_DualOf_1 h5 (a_.length : Int) (a_.length : Int) a_ aa_ ca_ (ra_.at H10.ext) b1 (H10.var 2 rfl) x2.1 a1 c1 (H10.rd 1 rfl) b2 (H10.var 0 rfl) _ _ hx3) (by kernel_rfl) (fun v2 h6 hp2 => ?_)
      obtain ⟨a2, c2, rfl, H14⟩ := hp2
      have H15 : Hold h h6 [own cd39 a2 x3.length c2 x3, box b2 39 [.slice a1 x2.1.length c1], own cd2 a1 x2.1.length c1 x2.1, box b1 37 [.slice aa_ a_.length ca_]] := H10.call H14 rfl
      obtain ⟨x4, hx4, hF⟩ := M.bind_some hF
      refine Run_E (by kernel_rfl) ?_
      refine E_call (f := 91) (args := #[.slice a2 x3.length c2]) (w_impl_starOf h6 x3 a2 c2 (H15.rd 0 rfl) _ _ hx4) (by kernel_rfl) (fun v3 h7 hp3 => ?_)
      obtain ⟨a3, c3, rfl, H16⟩ := hp3
      have H17 : Hold h h7 [own cd39 a3 x4.1.length c3 x4.1, own cd39 a2 x3.length c2 x3, box b2 39 [.slice a1 x2.1.length c1], own cd2 a1 x2.1.length c1 x2.1, box b1 37 [.slice aa_ a_.length ca_]] := H15.call H16 rfl
      refine Run_b [.tuple #[.slice a3 x4.1.length c3, .bool x4.2], .slice a3 x4.1.length c3, .bool x4.2, .slice a3 x4.1.length c3, .bool x4.2] 5 _ (by kernel_rfl) (fun w => by kernel_rfl) ?_
      refine Run_nil (by kernel_rfl) ?_
      refine Run_keep [1, 5, 7, 8] (L' := [(1, .pointer (some ⟨b1, 0, none⟩)), (5, .pointer (some ⟨b2, 0, none⟩)), (7, .int .i64 (a_.length : Int)), (8, .slice a3 x4.1.length c3)]) (by kernel_rfl) ?_
      refine Run_seq ?_
      refine Run_ops ?_
      refine Run_b [.slice a3 x4.1.length c3, .int .i64 (a_.length : Int)] 0 _ (by kernel_rfl) (fun w => by kernel_rfl) ?_
      obtain ⟨l1, hl1, hF⟩ := M.bind_some hF
      have hl1 := M.make_some hl1
      refine Run_E (by kernel_rfl) ?_
      refine E_make cd2 0 (kl := .i64) (kc := .i64) H17 cd2_ti Try.underlying39 (by decide) cd2_zero (by kernel_rfl) hl1 (fun a4 h8 H18 => ?_)
      obtain ⟨x5, hx5, hF⟩ := M.bind_some hF
      refine Run_E (by kernel_rfl) ?_
      refine E_call (f := 95) (args := #[.slice a3 x4.1.length c3, .slice a4 l1.length l1.length]) (w_impl_timesVector h8 x4.1 a3 c3 (H18.rd 1 rfl) l1 a4 l1.length (H18.rd 0 rfl) _ _ hx5) (by kernel_rfl) (fun v4 h9 hp4 => ?_)
      obtain ⟨a5, c4, rfl, H19⟩ := hp4
      have H20 : Hold h h9 [own cd2 a5 x5.length c4 x5, own cd2 a4 l1.length l1.length l1, own cd39 a3 x4.1.length c3 x4.1, own cd39 a2 x3.length c2 x3, box b2 39 [.slice a1 x2.1.length c1], own cd2 a1 x2.1.length c1 x2.1, box b1 37 [.slice aa_ a_.length ca_]] := H18.call H19 rfl
      refine Run_b [.slice a5 x5.length c4] 4 _ (by kernel_rfl) (fun w => by kernel_rfl) ?_
      refine Run_nil (by kernel_rfl) ?_
      refine Run_keep [1, 5, 7, 10] (L' := [(1, .pointer (some ⟨b1, 0, none⟩)), (5, .pointer (some ⟨b2, 0, none⟩)), (7, .int .i64 (a_.length : Int)), (10, .slice a5 x5.length c4)]) (by kernel_rfl) ?_
      refine Run_seq ?_
      refine Run_ops ?_
      refine Run_b [.int .i64 (a_.length : Int)] 0 _ (by kernel_rfl) (fun w => by kernel_rfl) ?_
      obtain ⟨l2, hl2, hF⟩ := M.bind_some hF
      have hl2 := M.make_some hl2
      refine Run_E (by kernel_rfl) ?_
      refine E_make cd2 0 (kl := .i64) (kc := .i64) H20 cd2_ti Try.underlying39 (by decide) cd2_zero (by kernel_rfl) hl2 (fun a6 h10 H21 => ?_)
      refine Run_b [.slice a6 l2.length l2.length] 2 _ (by kernel_rfl) (fun w => by kernel_rfl) ?_
      refine Run_nil (by kernel_rfl) ?_
      refine Run_keep [1, 5, 10, 11] (L' := [(1, .pointer (some ⟨b1, 0, none⟩)), (5, .pointer (some ⟨b2, 0, none⟩)), (10, .slice a5 x5.length c4), (11, .slice a6 l2.length l2.length)]) (by kernel_rfl) ?_
      refine Run_seq ?_
      refine Run_seq ?_
      refine Run_reg 3 (by kernel_rfl) (L' := [(1, .pointer (some ⟨b1, 0, none⟩)), (10, .slice a5 x5.length c4), (11, .slice a6 l2.length l2.length), (40, .slice a1 x2.1.length c1), (41, .int .i64 (x2.1.length : Int)), (42, .int .i64 0)]) ?_ ?_
      · refine QRun_y (.slice a1 x2.1.length c1) (by kernel_rfl) (Y_load1 (t := 39) (p := ⟨b2, 0, none⟩) (v := .slice a1 x2.1.length c1) (by kernel_rfl) (fun w => by kernel_rfl) (H21.cell 5 rfl rfl)) ?_
        refine QRun_b [.int .i64 (x2.1.length : Int), .int .i64 0] 1 _ (by kernel_rfl) (fun w => by kernel_rfl) ?_
        exact QRun_done [1, 10, 11, 40, 41, 42] (by kernel_rfl) (by kernel_rfl)
      obtain ⟨x6, gx6, hF⟩ := M.bind_some hF
      obtain ⟨hloy1, hhiy1, gx6⟩ := M.for_start gx6
      refine Run_join (fun L' h' => L' = [(10, .slice a5 x5.length c4), (11, .slice a6 l2.length l2.length)] ∧ Hold h h' [own cd2 a5 x5.length c4 x5, own cd2 a6 l2.length l2.length x6]) ?_ ?_
      · rintro _ h12 ⟨rfl, H23⟩
        refine Run_seq ?_
        refine Run_seq ?_
        obtain ⟨x12, hx11, hF⟩ := M.bind_some hF
        obtain ⟨x13, gx13, hF⟩ := M.bind_some hF
        refine Run_reg 8 (by kernel_rfl) (L' := [(10, .slice a5 x5.length c4), (11, .slice a6 l2.length l2.length), (70, .bool x13)]) ?_ ?_
        · refine QRun_b [.slice a5 x5.length c4] 0 _ (by kernel_rfl) (fun w => by kernel_rfl) ?_
          refine QRun_y (.bool x12) (by kernel_rfl) (Y_callq (f := 96) (args := #[.slice a5 x5.length c4]) (v := .bool x12) (by kernel_rfl) (w_impl_areValues h12 x5 a5 c4 (H23.rd 0 rfl) _ _ hx11)) ?_
          refine QRun_b [.bool (!x12)] 2 _ (by kernel_rfl) (fun w => by kernel_rfl) ?_
          refine QRun_seq 8 [(10, .slice a5 x5.length c4), (11, .slice a6 l2.length l2.length), (70, .bool x13)] ?_ ?_
          · rcases Bool.eq_false_or_eq_true (!x12) with hb4 | hb4
            · refine QRun_bool (!x12) true (by kernel_rfl) (fun w => by kernel_rfl) hb4 ?_
              have gx13 := M.ret_some ((M.ite_some gx13).1 hb4)
              refine QRun_n (by kernel_rfl) ?_
              refine QRun_n (by kernel_rfl) ?_
              refine QRun_n (by kernel_rfl) ?_
              refine QRun_bool true x13 (by kernel_rfl) (fun w => by kernel_rfl) gx13 ?_
              exact QRun_done [10, 11, 70] (by kernel_rfl) (by kernel_rfl)
            · refine QRun_bool (!x12) false (by kernel_rfl) (fun w => by kernel_rfl) hb4 ?_
              have gx13 := (M.ite_some gx13).2 hb4
              obtain ⟨x14, hx12, gx13⟩ := M.bind_some gx13
              have gx13 := M.ret_some gx13
              refine QRun_b [.slice a6 l2.length l2.length] 4 _ (by kernel_rfl) (fun w => by kernel_rfl) ?_
              refine QRun_y (.bool x14) (by kernel_rfl) (Y_callq (f := 96) (args := #[.slice a6 l2.length l2.length]) (v := .bool x14) (by kernel_rfl) (Fn.arg (w_impl_areValues h12 x6 a6 l2.length (H23.rd 1 rfl) _ _ hx12) (by simp only [(H23.len 1 rfl)]))) ?_
              refine QRun_b [.bool (!x14)] 6 _ (by kernel_rfl) (fun w => by kernel_rfl) ?_
              refine QRun_bool (!x14) x13 (by kernel_rfl) (fun w => by kernel_rfl) gx13 ?_
              exact QRun_done [10, 11, 70] (by kernel_rfl) (by kernel_rfl)
          exact QRun_done [10, 11, 70] (by kernel_rfl) (by kernel_rfl)
        refine Run_cond (b := x13) (by kernel_rfl) (fun hb5 => ?_) (fun hb5 => ?_)
        · have hF := (M.ite_some hF).1 hb5
          refine Run_seq ?_
          refine Run_reg 3 (by kernel_rfl) (L' := [(2, .slice none 0 0), (3, .slice none 0 0), (4, .int .i64 3)]) ?_ ?_
          · refine QRun_b [.slice none 0 0, .slice none 0 0, .int .i64 3] 0 _ (by kernel_rfl) (fun w => by kernel_rfl) ?_
            exact QRun_done [2, 3, 4] (by kernel_rfl) (by kernel_rfl)
          have hF := M.ret_some hF
          subst hF
          have H30 := H23.empty cd2
          have H31 := H30.empty cd2
          have H32 : Hold h h12 [own cd2 none 0 0 [], own cd2 none 0 0 []] := H31.pick [1, 0] (by kernel_rfl)
          exact Run_ret3 rfl (ResV_tmp (v := .slice none 0 0) (by kernel_rfl)) (ResV_tmp (v := .slice none 0 0) (by kernel_rfl)) (ResV_tmp (v := .int .i64 3) (by kernel_rfl)) ⟨none, 0, none, 0, rfl, H32⟩
        · have hF := (M.ite_some hF).2 hb5
          refine Run_skip ?_
          refine Run_seq ?_
          refine Run_reg 5 (by kernel_rfl) (L' := [(2, .slice a5 x5.length c4), (3, .slice a6 l2.length l2.length), (4, .int .i64 0)]) ?_ ?_
          · refine QRun_b [.slice a5 x5.length c4, .slice a6 l2.length l2.length, .slice a5 x5.length c4, .slice a6 l2.length l2.length, .int .i64 0] 0 _ (by kernel_rfl) (fun w => by kernel_rfl) ?_
            exact QRun_done [2, 3, 4] (by kernel_rfl) (by kernel_rfl)
          have hF := M.ret_some hF
          subst hF
          have H33 : Hold h h12 [own cd2 a6 l2.length l2.length x6, own cd2 a5 x5.length c4 x5] := H23.pick [1, 0] (by kernel_rfl)
          have H34 := H33.norm
          have H35 : Hold h h12 [own cd2 a5 x5.length c4 x5, own cd2 a6 x6.length l2.length x6] := H34.pick [1, 0] (by kernel_rfl)
          exact Run_ret3 rfl (ResV_tmp (v := .slice a5 x5.length c4) (by kernel_rfl)) (ResV_tmp (v := .slice a6 l2.length l2.length) (by kernel_rfl)) (ResV_tmp (v := .int .i64 0) (by kernel_rfl)) ⟨a5, c4, a6, l2.length, (by simp only [(H33.len 0 rfl)]), H35⟩
      · refine Run_block ?_
        have H36 : Hold h h10 [box b1 37 [.slice aa_ a_.length ca_], own cd2 a5 x5.length c4 x5, own cd2 a6 l2.length l2.length l2, own cd2 a1 x2.1.length c1 x2.1] := H21.pick [7, 1, 0, 6] (by kernel_rfl)
        refine Run_keep [1, 10, 11, 40, 41, 42] (L' := [(1, .pointer (some ⟨b1, 0, none⟩)), (10, .slice a5 x5.length c4), (11, .slice a6 l2.length l2.length), (40, .slice a1 x2.1.length c1), (41, .int .i64 (x2.1.length : Int)), (42, .int .i64 0)]) (by kernel_rfl) ?_
        refine Run_loop (fun m L' h' => ∃ (i1 : Int) (s1 : (List Int)), 0 ≤ i1 ∧ M.forN (x2.1.length : Int) _ _ n m i1 s1 = some x6 ∧ L' = [(1, .pointer (some ⟨b1, 0, none⟩)), (10, .slice a5 x5.length c4), (11, .slice a6 l2.length l2.length), (40, .slice a1 x2.1.length c1), (41, .int .i64 (x2.1.length : Int)), (42, .int .i64 i1)] ∧ Hold h h' [box b1 37 [.slice aa_ a_.length ca_], own cd2 a5 x5.length c4 x5, own cd2 a6 l2.length l2.length s1, own cd2 a1 x2.1.length c1 x2.1]) ((x2.1.length : Int) - 0 : Int).toNat ⟨0, l2, Int.le_refl _, gx6, rfl, H36⟩ ?_
        rintro my1 _ h11 ⟨i1, s1, hloy1', gx6, rfl, H22⟩
        refine Run_seq ?_
        refine Run_reg 1 (by kernel_rfl) (L' := [(1, .pointer (some ⟨b1, 0, none⟩)), (10, .slice a5 x5.length c4), (11, .slice a6 l2.length l2.length), (40, .slice a1 x2.1.length c1), (41, .int .i64 (x2.1.length : Int)), (42, .int .i64 i1), (43, .bool (decide (i1 < (x2.1.length : Int))))]) ?_ ?_
        · refine QRun_b [.bool (decide (i1 < (x2.1.length : Int)))] 0 _ (by kernel_rfl) (fun w => by kernel_rfl) ?_
          exact QRun_done [1, 10, 11, 40, 41, 42, 43] (by kernel_rfl) (by kernel_rfl)
        refine Run_seq ?_
        refine Run_cond (b := decide (i1 < (x2.1.length : Int))) (by kernel_rfl) (fun hb3 => ?_) (fun hb3 => ?_)
        · obtain ⟨my1, y1, rfl, hB1, hgoy1, houty1⟩ := M.for_go gx6 hb3
          have hlty1 := of_decide_eq_true hb3
          refine Run_skip ?_
          refine Run_seq ?_
          refine Run_block ?_
          refine Run_seq ?_
          obtain ⟨x7, hx6, hB1⟩ := M.bind_some hB1
          obtain ⟨hx6l, hx6u, hx6⟩ := M.idx_some hx6
          refine Run_reg 5 (by kernel_rfl) (L' := [(1, .pointer (some ⟨b1, 0, none⟩)), (10, .slice a5 x5.length c4), (11, .slice a6 l2.length l2.length), (12, .int .i64 i1), (13, .int .i64 x7), (40, .slice a1 x2.1.length c1), (41, .int .i64 (x2.1.length : Int)), (42, .int .i64 i1)]) ?_ ?_
          · refine QRun_b [.int .i64 i1] 0 _ (by kernel_rfl) (fun w => by kernel_rfl) ?_
            refine QRun_y (.pointer (some (adr a1 (i1.toNat * 1)))) (by kernel_rfl) (Y_idx (t := 39) (e := 2) (sz := 1) (a := a1) (n := x2.1.length) (cap := c1) (kk := .i64) (i := i1) (by kernel_rfl) Try.underlying39 (by kernel_rfl) ((H22.rd 3 rfl).cell hx6).1 hx6l hx6u) ?_
            refine QRun_y (.int .i64 x7) (by kernel_rfl) (Y_load1 (t := 2) (p := adr a1 (i1.toNat * 1)) (v := .int .i64 x7) (by kernel_rfl) (fun w => by kernel_rfl) (cd2_cell (H22.rd 3 rfl) hx6)) ?_
            refine QRun_b [.int .i64 i1, .int .i64 x7] 3 _ (by kernel_rfl) (fun w => by kernel_rfl) ?_
            exact QRun_done [1, 10, 11, 12, 13, 40, 41, 42] (by kernel_rfl) (by kernel_rfl)
          obtain ⟨x8, hx7, hB1⟩ := M.bind_some hB1
          obtain ⟨hx7l, hx7u, hx7⟩ := M.idx_some hx7
          obtain ⟨a7, c5, hc1, r1⟩ := ra_.row hx7
          obtain ⟨x9, hx8, hB1⟩ := M.bind_some hB1
          obtain ⟨hx8l, hx8u, hx8⟩ := M.idx_some hx8
          obtain ⟨x10, hx9, hB1⟩ := M.bind_some hB1
          obtain ⟨hx9l, hx9u, hx9⟩ := M.idx_some hx9
          obtain ⟨x11, hx10, hB1⟩ := M.bind_some hB1
          obtain ⟨hx10l, hx10u, hx10⟩ := M.idx_some hx10
          refine Run_D (fun x => Hold h x [box b1 37 [.slice aa_ a_.length ca_], own cd2 a5 x5.length c4 x5, own cd2 a6 l2.length l2.length s1, own cd2 a1 x2.1.length c1 x2.1]) (fun x => Hold h x [box b1 37 [.slice aa_ a_.length ca_], own cd2 a5 x5.length c4 x5, own cd2 a6 l2.length l2.length s1, own cd2 a1 x2.1.length c1 x2.1]) mixed (by kernel_rfl) H22 Hold.stable (fun x Hy => (show Hold h x [box b1 37 [.slice aa_ a_.length ca_], own cd2 a5 x5.length c4 x5, own cd2 a6 l2.length l2.length s1, own cd2 a1 x2.1.length c1 x2.1] from Hy).pick [0, 1, 2, 3] (by kernel_rfl)) ?_
          refine DR_b 14 [.slice a6 l2.length l2.length, .int .i64 x7] 0 (by kernel_rfl) (by kernel_rfl) (by kernel_rfl) (fun w => by kernel_rfl) ?_
          refine DR_y 13 (i := 2) (.slice aa_ a_.length ca_) (by kernel_rfl) (by kernel_rfl) (by kernel_rfl) (fun hx Hx => (YE.of (Y_load1 (t := 37) (p := ⟨b1, 0, none⟩) (v := .slice aa_ a_.length ca_) (by kernel_rfl) (fun w => by kernel_rfl) (Hx.cell 0 rfl rfl)))) ?_
          refine DR_b 12 [.int .i64 i1] 3 (by kernel_rfl) (by kernel_rfl) (by kernel_rfl) (fun w => by kernel_rfl) ?_
          refine DR_y 11 (i := 4) (.pointer (some (adr aa_ (i1.toNat * 1)))) (by kernel_rfl) (by kernel_rfl) (by kernel_rfl) (fun hx Hx => (YE.of (Y_idx (t := 37) (e := 39) (sz := 1) (a := aa_) (n := a_.length) (cap := ca_) (kk := .i64) (i := i1) (by kernel_rfl) Try.underlying37 (by kernel_rfl) ((ra_.at H22.ext).cell hx7).1 hx7l hx7u))) ?_
          refine DR_y 10 (i := 5) (.slice a7 x8.length c5) (by kernel_rfl) (by kernel_rfl) (by kernel_rfl) (fun hx Hx => (YE.of (Y_load1 (t := 39) (p := adr aa_ (i1.toNat * 1)) (v := .slice a7 x8.length c5) (by kernel_rfl) (fun w => by kernel_rfl) (cell_at Hx.ext hc1)))) ?_
          refine DR_b 9 [.int .i64 x7] 6 (by kernel_rfl) (by kernel_rfl) (by kernel_rfl) (fun w => by kernel_rfl) ?_
          refine DR_y 8 (i := 7) (.pointer (some (adr a7 (x7.toNat * 1)))) (by kernel_rfl) (by kernel_rfl) (by kernel_rfl) (fun hx Hx => (YE.of (Y_idx (t := 39) (e := 2) (sz := 1) (a := a7) (n := x8.length) (cap := c5) (kk := .i64) (i := x7) (by kernel_rfl) Try.underlying39 (by kernel_rfl) ((r1.at H22.ext).cell hx8).1 hx8l hx8u))) ?_
          refine DR_y 7 (i := 8) (.int .i64 x9) (by kernel_rfl) (by kernel_rfl) (by kernel_rfl) (fun hx Hx => (YE.of (Y_load1 (t := 2) (p := adr a7 (x7.toNat * 1)) (v := .int .i64 x9) (by kernel_rfl) (fun w => by kernel_rfl) (cd2_cell (r1.at Hx.ext) hx8)))) ?_
          refine DR_b 5 [.slice a5 x5.length c4, .int .i64 i1] 9 (by kernel_rfl) (by kernel_rfl) (by kernel_rfl) (fun w => by kernel_rfl) ?_
          refine DR_y 4 (i := 11) (.pointer (some (adr a5 (i1.toNat * 1)))) (by kernel_rfl) (by kernel_rfl) (by kernel_rfl) (fun hx Hx => (YE.of (Y_idx (t := 39) (e := 2) (sz := 1) (a := a5) (n := x5.length) (cap := c4) (kk := .i64) (i := i1) (by kernel_rfl) Try.underlying39 (by kernel_rfl) ((H22.rd 1 rfl).cell hx9).1 hx9l hx9u))) ?_
          refine DR_y 3 (i := 12) (.int .i64 x10) (by kernel_rfl) (by kernel_rfl) (by kernel_rfl) (fun hx Hx => (YE.of (Y_load1 (t := 2) (p := adr a5 (i1.toNat * 1)) (v := .int .i64 x10) (by kernel_rfl) (fun w => by kernel_rfl) (cd2_cell (Hx.rd 1 rfl) hx9)))) ?_
          refine DR_b 2 [.int .i64 (w64 (x9 - x10))] 13 (by kernel_rfl) (by kernel_rfl) (by kernel_rfl) (fun w => by kernel_rfl) ?_
          refine DR_y 1 (i := 14) (.pointer (some (adr a6 (x7.toNat * 1)))) (by kernel_rfl) (by kernel_rfl) (by kernel_rfl) (fun hx Hx => (YE.of (Y_idx (t := 39) (e := 2) (sz := 1) (a := a6) (n := l2.length) (cap := l2.length) (kk := .i64) (i := x7) (by kernel_rfl) Try.underlying39 (by kernel_rfl) ((H22.rd 2 rfl).cell hx10).1 hx10l (by rw [← (H22.len 2 rfl)]; exact hx10u)))) ?_
          refine DR_tail (i := 15) (by kernel_rfl) (by kernel_rfl) (by kernel_rfl) (fun h13 H24 => ?_)
          have H25 : Hold h h13 [box b1 37 [.slice aa_ a_.length ca_], own cd2 a5 x5.length c4 x5, own cd2 a6 l2.length l2.length s1, own cd2 a1 x2.1.length c1 x2.1] := H24
          obtain ⟨l3, hu1, hB1⟩ := M.bind_some hB1
          have hu1 := M.upd_some hu1
          have H27 : Hold h h13 [own cd2 a6 l2.length l2.length s1, box b1 37 [.slice aa_ a_.length ca_], own cd2 a5 x5.length c4 x5, own cd2 a1 x2.1.length c1 x2.1] := H25.pick [2, 0, 1, 3] (by kernel_rfl)
          refine Run_E (by kernel_rfl) ?_
          refine E_put (C := cd2) (t := 2) (sz := 1) (j := x7) (x := (w64 (x9 - x10))) (v := .int .i64 (w64 (x9 - x10))) H27 cd2_flat (by kernel_rfl) rfl (cd2_own _) (by kernel_rfl) hu1 (fun h14 H26 => ?_)
          refine Run_nil (by kernel_rfl) ?_
          refine Run_keep [1, 10, 11, 40, 41, 42] (L' := [(1, .pointer (some ⟨b1, 0, none⟩)), (10, .slice a5 x5.length c4), (11, .slice a6 l2.length l2.length), (40, .slice a1 x2.1.length c1), (41, .int .i64 (x2.1.length : Int)), (42, .int .i64 i1)]) (by kernel_rfl) ?_
          refine Run_blk ?_
          refine Run_reg 2 (by kernel_rfl) (L' := [(1, .pointer (some ⟨b1, 0, none⟩)), (10, .slice a5 x5.length c4), (11, .slice a6 l2.length l2.length), (40, .slice a1 x2.1.length c1), (41, .int .i64 (x2.1.length : Int)), (42, .int .i64 (i1 + 1))]) ?_ ?_
          · refine QRun_y (.int .i64 (i1 + 1)) (by kernel_rfl) (Y_eq (v := .int .i64 (w64 (i1 + 1))) (Y_pure (fun w => by kernel_rfl)) (by rw [w64_eq _ (by omega)])) ?_
            refine QRun_b [.int .i64 (i1 + 1)] 1 _ (by kernel_rfl) (fun w => by kernel_rfl) ?_
            exact QRun_done [1, 10, 11, 40, 41, 42] (by kernel_rfl) (by kernel_rfl)
          have H28 : Hold h h14 [box b1 37 [.slice aa_ a_.length ca_], own cd2 a5 x5.length c4 x5, own cd2 a6 l2.length l2.length l3, own cd2 a1 x2.1.length c1 x2.1] := H26.pick [1, 2, 0, 3] (by kernel_rfl)
          have hB1 := M.ret_some hB1
          have gx6 := hgoy1 _ hB1.symm
          exact Run_again [1, 10, 11, 40, 41, 42] (by kernel_rfl) my1 (Nat.lt_succ_self _) ⟨i1 + 1, l3, by omega, gx6, rfl, H28⟩
        · have gx6 := M.for_end gx6 hb3
          subst gx6
          refine Run_exit (k' := _) rfl ?_
          have H29 : Hold h h11 [own cd2 a5 x5.length c4 x5, own cd2 a6 l2.length l2.length s1] := H22.pick [1, 2] (by kernel_rfl)
          exact Run_fall [10, 11] (by kernel_rfl) ⟨rfl, H29⟩

set_option maxRecDepth 100000 in
set_option maxHeartbeats 4000000 in
theorem w_spec_l01In (h : Heap) (n_ : Int) (low : Int) (high : Int) (n : Nat) (r : Bool) (hF : spec_l01In n_ low high n = some r) :
    Fn Try.prog 78 #[.int .i64 n_, .int .i64 low, .int .i64 high] h fun v h' => v = .bool r ∧ h' = h := by
  unfold spec_l01In at hF
  refine Fn_enter (args := [.int .i64 n_, .int .i64 low, .int .i64 high]) Try.func78 rfl (by kernel_rfl) (by kernel_rfl) (fun w0 _ => ?_)
  refine Run_seq ?_
  refine Run_reg 1 (by kernel_rfl) (L' := [(0, .int .i64 n_), (1, .int .i64 low), (2, .int .i64 high)]) ?_ ?_
  · refine QRun_b [.bool false] 0 _ (by kernel_rfl) (fun w => by kernel_rfl) ?_
    exact QRun_done [0, 1, 2] (by kernel_rfl) (by kernel_rfl)
  refine Run_seq ?_
  refine Run_reg 9 (by kernel_rfl) (L' := [(6, .bool ((decide (low ≤ n_)) && (decide (n_ ≤ high))))]) ?_ ?_
  · refine QRun_b [.int .i64 n_, .int .i64 low, .bool (decide (low ≤ n_))] 0 _ (by kernel_rfl) (fun w => by kernel_rfl) ?_
    refine QRun_seq 8 [(14, .bool ((decide (low ≤ n_)) && (decide (n_ ≤ high))))] ?_ ?_
    · rcases Bool.eq_false_or_eq_true (decide (low ≤ n_)) with hb1 | hb1
      · refine QRun_bool (decide (low ≤ n_)) true (by kernel_rfl) (fun w => by kernel_rfl) hb1 ?_
        refine QRun_b [.int .i64 n_, .int .i64 high, .bool (decide (n_ ≤ high))] 4 _ (by kernel_rfl) (fun w => by kernel_rfl) ?_
        refine QRun_bool (decide (n_ ≤ high)) ((decide (low ≤ n_)) && (decide (n_ ≤ high))) (by kernel_rfl) (fun w => by kernel_rfl) (by rw [hb1]; rfl) ?_
        exact QRun_done [14] (by kernel_rfl) (by kernel_rfl)
      · refine QRun_bool (decide (low ≤ n_)) false (by kernel_rfl) (fun w => by kernel_rfl) hb1 ?_
        refine QRun_n (by kernel_rfl) ?_
        refine QRun_n (by kernel_rfl) ?_
        refine QRun_n (by kernel_rfl) ?_
        refine QRun_bool false ((decide (low ≤ n_)) && (decide (n_ ≤ high))) (by kernel_rfl) (fun w => by kernel_rfl) (by rw [hb1]; rfl) ?_
        exact QRun_done [14] (by kernel_rfl) (by kernel_rfl)
    refine QRun_b [.bool ((decide (low ≤ n_)) && (decide (n_ ≤ high)))] 8 _ (by kernel_rfl) (fun w => by kernel_rfl) ?_
    exact QRun_done [6] (by kernel_rfl) (by kernel_rfl)
  have hF := M.ret_some hF
  subst hF
  exact Run_ret1 rfl (ResV_tmp (v := .bool ((decide (low ≤ n_)) && (decide (n_ ≤ high)))) (by kernel_rfl)) ⟨rfl, rfl⟩

set_option maxRecDepth 100000 in
set_option maxHeartbeats 4000000 in
theorem w_spec_l01Finite (h : Heap) (a_ : Int) (n : Nat) (r : Bool) (hF : spec_l01Finite a_ n = some r) :
    Fn Try.prog 169 #[.int .i64 a_] h fun v h' => v = .bool r ∧ h' = h := by
  unfold spec_l01Finite at hF
  refine Fn_enter (args := [.int .i64 a_]) Try.func169 rfl (by kernel_rfl) (by kernel_rfl) (fun w0 _ => ?_)
  refine Run_seq ?_
  refine Run_reg 1 (by kernel_rfl) (L' := [(0, .int .i64 a_)]) ?_ ?_
  · refine QRun_b [.bool false] 0 _ (by kernel_rfl) (fun w => by kernel_rfl) ?_
    exact QRun_done [0] (by kernel_rfl) (by kernel_rfl)
  refine Run_seq ?_
  obtain ⟨x1, hx1, hF⟩ := M.bind_some hF
  refine Run_reg 3 (by kernel_rfl) (L' := [(2, .bool x1)]) ?_ ?_
  · refine QRun_b [.int .i64 a_] 0 _ (by kernel_rfl) (fun w => by kernel_rfl) ?_
    refine QRun_y (.bool x1) (by kernel_rfl) (Y_callq (f := 78) (args := #[.int .i64 a_, .int .i64 (-1000000), .int .i64 1000000]) (v := .bool x1) (by kernel_rfl) (w_spec_l01In h a_ (-1000000) 1000000 _ _ hx1)) ?_
    refine QRun_b [.bool x1] 2 _ (by kernel_rfl) (fun w => by kernel_rfl) ?_
    exact QRun_done [2] (by kernel_rfl) (by kernel_rfl)
  have hF := M.ret_some hF
  subst hF
  exact Run_ret1 rfl (ResV_tmp (v := .bool x1) (by kernel_rfl)) ⟨rfl, rfl⟩

set_option maxRecDepth 100000 in
set_option maxHeartbeats 4000000 in
theorem w_spec_IsValue (h : Heap) (a_ : Int) (n : Nat) (r : Bool) (hF : spec_IsValue a_ n = some r) :
    Fn Try.prog 153 #[.int .i64 a_] h fun v h' => v = .bool r ∧ h' = h := by
  unfold spec_IsValue at hF
  refine Fn_enter (args := [.int .i64 a_]) Try.func153 rfl (by kernel_rfl) (by kernel_rfl) (fun w0 _ => ?_)
  refine Run_seq ?_
  refine Run_reg 1 (by kernel_rfl) (L' := [(0, .int .i64 a_)]) ?_ ?_
  · refine QRun_b [.bool false] 0 _ (by kernel_rfl) (fun w => by kernel_rfl) ?_
    exact QRun_done [0] (by kernel_rfl) (by kernel_rfl)
  refine Run_seq ?_
  obtain ⟨x1, gx1, hF⟩ := M.bind_some hF
  refine Run_reg 7 (by kernel_rfl) (L' := [(2, .bool x1)]) ?_ ?_
  · refine QRun_b [.int .i64 a_, .bool (a_ == (-1000000000000000))] 0 _ (by kernel_rfl) (fun w => by kernel_rfl) ?_
    refine QRun_seq 6 [(8, .bool x1)] ?_ ?_
    · rcases Bool.eq_false_or_eq_true (a_ == (-1000000000000000)) with hb1 | hb1
      · refine QRun_bool (a_ == (-1000000000000000)) true (by kernel_rfl) (fun w => by kernel_rfl) hb1 ?_
        have gx1 := M.ret_some ((M.ite_some gx1).1 hb1)
        refine QRun_n (by kernel_rfl) ?_
        refine QRun_n (by kernel_rfl) ?_
        refine QRun_bool true x1 (by kernel_rfl) (fun w => by kernel_rfl) gx1 ?_
        exact QRun_done [8] (by kernel_rfl) (by kernel_rfl)
      · refine QRun_bool (a_ == (-1000000000000000)) false (by kernel_rfl) (fun w => by kernel_rfl) hb1 ?_
        have gx1 := (M.ite_some gx1).2 hb1
        obtain ⟨x2, hx1, gx1⟩ := M.bind_some gx1
        have gx1 := M.ret_some gx1
        refine QRun_b [.int .i64 a_] 3 _ (by kernel_rfl) (fun w => by kernel_rfl) ?_
        refine QRun_y (.bool x2) (by kernel_rfl) (Y_callq (f := 169) (args := #[.int .i64 a_]) (v := .bool x2) (by kernel_rfl) (w_spec_l01Finite h a_ _ _ hx1)) ?_
        refine QRun_bool x2 x1 (by kernel_rfl) (fun w => by kernel_rfl) gx1 ?_
        exact QRun_done [8] (by kernel_rfl) (by kernel_rfl)
    refine QRun_b [.bool x1] 6 _ (by kernel_rfl) (fun w => by kernel_rfl) ?_
    exact QRun_done [2] (by kernel_rfl) (by kernel_rfl)
  have hF := M.ret_some hF
  subst hF
  exact Run_ret1 rfl (ResV_tmp (v := .bool x1) (by kernel_rfl)) ⟨rfl, rfl⟩

set_option maxRecDepth 100000 in
set_option maxHeartbeats 4000000 in
theorem w_spec_l01All (h : Heap) (list : List Int) {Slist : Bs} (alist : Option Addr) (clist : Nat) (rlist : Rd cd2 h Slist alist clist list) (finite : Bool) (n : Nat) (r : Bool) (hF : spec_l01All list finite n = some r) :
    Fn Try.prog 87 #[.slice alist list.length clist, .bool finite] h fun v h' => v = .bool r ∧ h' = h := by
  unfold spec_l01All at hF
  refine Fn_enter (args := [.slice alist list.length clist, .bool finite]) Try.func87 rfl (by kernel_rfl) (by kernel_rfl) (fun w0 _ => ?_)
  refine Run_seq ?_
  refine Run_reg 1 (by kernel_rfl) (L' := [(0, .slice alist list.length clist), (1, .bool finite)]) ?_ ?_
  · refine QRun_b [.bool false] 0 _ (by kernel_rfl) (fun w => by kernel_rfl) ?_
    exact QRun_done [0, 1] (by kernel_rfl) (by kernel_rfl)
  refine Run_seq ?_
  refine Run_seq ?_
  refine Run_reg 1 (by kernel_rfl) (L' := [(0, .slice alist list.length clist), (1, .bool finite), (5, .int .i64 0)]) ?_ ?_
  · refine QRun_b [.int .i64 0] 0 _ (by kernel_rfl) (fun w => by kernel_rfl) ?_
    exact QRun_done [0, 1, 5] (by kernel_rfl) (by kernel_rfl)
  obtain ⟨x1, gx1, hF⟩ := M.bind_some hF
  obtain ⟨hloy1, hhiy1, gx1⟩ := M.for_start gx1
  refine Run_join (fun L' h' => ∃ (s2 : Unit), x1 = .inl s2 ∧ L' = [] ∧ h = h') ?_ ?_
  · rintro _ _ ⟨s2, es2, rfl, rfl⟩
    have hF := M.cont_inl' hF es2
    refine Run_seq ?_
    refine Run_reg 1 (by kernel_rfl) (L' := [(4, .bool true)]) ?_ ?_
    · refine QRun_b [.bool true] 0 _ (by kernel_rfl) (fun w => by kernel_rfl) ?_
      exact QRun_done [4] (by kernel_rfl) (by kernel_rfl)
    have hF := M.ret_some hF
    subst hF
    exact Run_ret1 rfl (ResV_tmp (v := .bool true) (by kernel_rfl)) ⟨rfl, rfl⟩
  · refine Run_block ?_
    refine Run_keep [0, 1, 5] (L' := [(0, .slice alist list.length clist), (1, .bool finite), (5, .int .i64 0)]) (by kernel_rfl) ?_
    refine Run_loop (fun m L' h' => ∃ (i1 : Int) (s1 : Unit), 0 ≤ i1 ∧ M.forN (list.length : Int) _ _ n m i1 s1 = some x1 ∧ L' = [(0, .slice alist list.length clist), (1, .bool finite), (5, .int .i64 i1)] ∧ h = h') ((list.length : Int) - 0 : Int).toNat ⟨0, (), Int.le_refl _, gx1, rfl, rfl⟩ ?_
    rintro my1 _ _ ⟨i1, s1, hloy1', gx1, rfl, rfl⟩
    refine Run_seq ?_
    refine Run_seq ?_
    refine Run_reg 4 (by kernel_rfl) (L' := [(0, .slice alist list.length clist), (1, .bool finite), (5, .int .i64 i1), (9, .bool (decide (i1 < (list.length : Int))))]) ?_ ?_
    · refine QRun_b [.int .i64 i1, .slice alist list.length clist, .int .i64 (list.length : Int), .bool (decide (i1 < (list.length : Int)))] 0 _ (by kernel_rfl) (fun w => by kernel_rfl) ?_
      exact QRun_done [0, 1, 5, 9] (by kernel_rfl) (by kernel_rfl)
    refine Run_cond (b := decide (i1 < (list.length : Int))) (by kernel_rfl) (fun hb1 => ?_) (fun hb1 => ?_)
    · obtain ⟨my1, y1, rfl, hB1, hgoy1, houty1⟩ := M.for_go gx1 hb1
      have hlty1 := of_decide_eq_true hb1
      refine Run_skip ?_
      refine Run_seq ?_
      refine Run_block ?_
      refine Run_seq ?_
      obtain ⟨x2, hx1, hB1⟩ := M.bind_some hB1
      obtain ⟨hx1l, hx1u, hx1⟩ := M.idx_some hx1
      obtain ⟨x3, hx2, hB1⟩ := M.bind_some hB1
      obtain ⟨x4, gx4, hB1⟩ := M.bind_some hB1
      refine Run_reg 16 (by kernel_rfl) (L' := [(0, .slice alist list.length clist), (1, .bool finite), (5, .int .i64 i1), (27, .bool x4)]) ?_ ?_
      · refine QRun_b [.slice alist list.length clist, .int .i64 i1] 0 _ (by kernel_rfl) (fun w => by kernel_rfl) ?_
        refine QRun_y (.pointer (some (adr alist (i1.toNat * 1)))) (by kernel_rfl) (Y_idx (t := 39) (e := 2) (sz := 1) (a := alist) (n := list.length) (cap := clist) (kk := .i64) (i := i1) (by kernel_rfl) Try.underlying39 (by kernel_rfl) (rlist.cell hx1).1 hx1l hx1u) ?_
        refine QRun_y (.int .i64 x2) (by kernel_rfl) (Y_load1 (t := 2) (p := adr alist (i1.toNat * 1)) (v := .int .i64 x2) (by kernel_rfl) (fun w => by kernel_rfl) (cd2_cell rlist hx1)) ?_
        refine QRun_y (.bool x3) (by kernel_rfl) (Y_callq (f := 153) (args := #[.int .i64 x2]) (v := .bool x3) (by kernel_rfl) (w_spec_IsValue h x2 _ _ hx2)) ?_
        refine QRun_b [.bool (!x3)] 5 _ (by kernel_rfl) (fun w => by kernel_rfl) ?_
        refine QRun_seq 16 [(0, .slice alist list.length clist), (1, .bool finite), (5, .int .i64 i1), (27, .bool x4)] ?_ ?_
        · rcases Bool.eq_false_or_eq_true (!x3) with hb2 | hb2
          · refine QRun_bool (!x3) true (by kernel_rfl) (fun w => by kernel_rfl) hb2 ?_
            have gx4 := M.ret_some ((M.ite_some gx4).1 hb2)
            refine QRun_n (by kernel_rfl) ?_
            refine QRun_n (by kernel_rfl) ?_
            refine QRun_n (by kernel_rfl) ?_
            refine QRun_n (by kernel_rfl) ?_
            refine QRun_n (by kernel_rfl) ?_
            refine QRun_n (by kernel_rfl) ?_
            refine QRun_n (by kernel_rfl) ?_
            refine QRun_n (by kernel_rfl) ?_
            refine QRun_bool true x4 (by kernel_rfl) (fun w => by kernel_rfl) gx4 ?_
            exact QRun_done [0, 1, 5, 27] (by kernel_rfl) (by kernel_rfl)
          · refine QRun_bool (!x3) false (by kernel_rfl) (fun w => by kernel_rfl) hb2 ?_
            have gx4 := (M.ite_some gx4).2 hb2
            obtain ⟨x5, gx5, gx4⟩ := M.bind_some gx4
            have gx4 := M.ret_some gx4
            refine QRun_b [.bool finite] 7 _ (by kernel_rfl) (fun w => by kernel_rfl) ?_
            refine QRun_seq 15 [(0, .slice alist list.length clist), (1, .bool finite), (5, .int .i64 i1), (18, .bool false), (26, .bool x5)] ?_ ?_
            · rcases Bool.eq_false_or_eq_true finite with hb3 | hb3
              · refine QRun_bool finite true (by kernel_rfl) (fun w => by kernel_rfl) hb3 ?_
                have gx5 := (M.ite_some gx5).1 hb3
                obtain ⟨x6, hx3, gx5⟩ := M.bind_some gx5
                obtain ⟨hx3l, hx3u, hx3⟩ := M.idx_some hx3
                have gx5 := M.ret_some gx5
                refine QRun_b [.slice alist list.length clist, .int .i64 i1] 9 _ (by kernel_rfl) (fun w => by kernel_rfl) ?_
                refine QRun_y (.pointer (some (adr alist (i1.toNat * 1)))) (by kernel_rfl) (Y_idx (t := 39) (e := 2) (sz := 1) (a := alist) (n := list.length) (cap := clist) (kk := .i64) (i := i1) (by kernel_rfl) Try.underlying39 (by kernel_rfl) (rlist.cell hx3).1 hx3l hx3u) ?_
                refine QRun_y (.int .i64 x6) (by kernel_rfl) (Y_load1 (t := 2) (p := adr alist (i1.toNat * 1)) (v := .int .i64 x6) (by kernel_rfl) (fun w => by kernel_rfl) (cd2_cell rlist hx3)) ?_
                refine QRun_b [.bool (x6 == (-1000000000000000))] 13 _ (by kernel_rfl) (fun w => by kernel_rfl) ?_
                refine QRun_bool (x6 == (-1000000000000000)) x5 (by kernel_rfl) (fun w => by kernel_rfl) gx5 ?_
                exact QRun_done [0, 1, 5, 18, 26] (by kernel_rfl) (by kernel_rfl)
              · refine QRun_bool finite false (by kernel_rfl) (fun w => by kernel_rfl) hb3 ?_
                have gx5 := M.ret_some ((M.ite_some gx5).2 hb3)
                refine QRun_n (by kernel_rfl) ?_
                refine QRun_n (by kernel_rfl) ?_
                refine QRun_n (by kernel_rfl) ?_
                refine QRun_n (by kernel_rfl) ?_
                refine QRun_n (by kernel_rfl) ?_
                refine QRun_bool false x5 (by kernel_rfl) (fun w => by kernel_rfl) gx5 ?_
                exact QRun_done [0, 1, 5, 18, 26] (by kernel_rfl) (by kernel_rfl)
            refine QRun_bool x5 x4 (by kernel_rfl) (fun w => by kernel_rfl) gx4 ?_
            exact QRun_done [0, 1, 5, 27] (by kernel_rfl) (by kernel_rfl)
        exact QRun_done [0, 1, 5, 27] (by kernel_rfl) (by kernel_rfl)
      refine Run_cond (b := x4) (by kernel_rfl) (fun hb4 => ?_) (fun hb4 => ?_)
      · have hB1 := (M.ite_some hB1).1 hb4
        refine Run_seq ?_
        refine Run_reg 1 (by kernel_rfl) (L' := [(4, .bool false)]) ?_ ?_
        · refine QRun_b [.bool false] 0 _ (by kernel_rfl) (fun w => by kernel_rfl) ?_
          exact QRun_done [4] (by kernel_rfl) (by kernel_rfl)
        have hB1 := M.ret_some hB1
        have gx1 := houty1 _ hB1.symm
        have hF := M.cont_inr' hF gx1
        have hF := M.ret_some hF
        subst hF
        exact Run_ret1 rfl (ResV_tmp (v := .bool false) (by kernel_rfl)) ⟨rfl, rfl⟩
      · have hB1 := (M.ite_some hB1).2 hb4
        refine Run_skip ?_
        refine Run_blk ?_
        refine Run_reg 3 (by kernel_rfl) (L' := [(0, .slice alist list.length clist), (1, .bool finite), (5, .int .i64 (i1 + 1))]) ?_ ?_
        · refine QRun_b [.int .i64 i1] 0 _ (by kernel_rfl) (fun w => by kernel_rfl) ?_
          refine QRun_y (.int .i64 (i1 + 1)) (by kernel_rfl) (Y_eq (v := .int .i64 (w64 (i1 + 1))) (Y_pure (fun w => by kernel_rfl)) (by rw [w64_eq _ (by omega)])) ?_
          refine QRun_b [.int .i64 (i1 + 1)] 2 _ (by kernel_rfl) (fun w => by kernel_rfl) ?_
          exact QRun_done [0, 1, 5] (by kernel_rfl) (by kernel_rfl)
        have hB1 := M.ret_some hB1
        have gx1 := hgoy1 _ hB1.symm
        exact Run_again [0, 1, 5] (by kernel_rfl) my1 (Nat.lt_succ_self _) ⟨i1 + 1, (), by omega, gx1, rfl, rfl⟩
    · have gx1 := M.for_end gx1 hb1
      subst gx1
      refine Run_exit (k' := _) rfl ?_
      exact Run_fall [] (by kernel_rfl) ⟨(), rfl, rfl, rfl⟩

set_option maxRecDepth 100000 in
set_option maxHeartbeats 4000000 in
theorem w_spec_l02Vector (h : Heap) (x_ : List Int) {Sx_ : Bs} (ax_ : Option Addr) (cx_ : Nat) (rx_ : Rd cd2 h Sx_ ax_ cx_ x_) (n : Nat) (r : Bool) (hF : spec_l02Vector x_ n = some r) :
    Fn Try.prog 175 #[.slice ax_ x_.length cx_] h fun v h' => v = .bool r ∧ h' = h := by
  unfold spec_l02Vector at hF
  refine Fn_enter (args := [.slice ax_ x_.length cx_]) Try.func175 rfl (by kernel_rfl) (by kernel_rfl) (fun w0 _ => ?_)
  refine Run_seq ?_
  refine Run_reg 1 (by kernel_rfl) (L' := [(0, .slice ax_ x_.length cx_)]) ?_ ?_
  · refine QRun_b [.bool false] 0 _ (by kernel_rfl) (fun w => by kernel_rfl) ?_
    exact QRun_done [0] (by kernel_rfl) (by kernel_rfl)
  refine Run_seq ?_
  obtain ⟨x1, hx1, hF⟩ := M.bind_some hF
  obtain ⟨x2, gx2, hF⟩ := M.bind_some hF
  refine Run_reg 8 (by kernel_rfl) (L' := [(2, .bool x2)]) ?_ ?_
  · refine QRun_b [.slice ax_ x_.length cx_, .int .i64 (x_.length : Int)] 0 _ (by kernel_rfl) (fun w => by kernel_rfl) ?_
    refine QRun_y (.bool x1) (by kernel_rfl) (Y_callq (f := 78) (args := #[.int .i64 (x_.length : Int), .int .i64 1, .int .i64 10]) (v := .bool x1) (by kernel_rfl) (w_spec_l01In h (x_.length : Int) 1 10 _ _ hx1)) ?_
    refine QRun_seq 7 [(9, .bool x2)] ?_ ?_
    · rcases Bool.eq_false_or_eq_true x1 with hb1 | hb1
      · refine QRun_bool x1 true (by kernel_rfl) (fun w => by kernel_rfl) hb1 ?_
        have gx2 := (M.ite_some gx2).1 hb1
        obtain ⟨x3, hx2, gx2⟩ := M.bind_some gx2
        have gx2 := M.ret_some gx2
        refine QRun_b [.slice ax_ x_.length cx_] 4 _ (by kernel_rfl) (fun w => by kernel_rfl) ?_
        refine QRun_y (.bool x3) (by kernel_rfl) (Y_callq (f := 87) (args := #[.slice ax_ x_.length cx_, .bool false]) (v := .bool x3) (by kernel_rfl) (w_spec_l01All h x_ ax_ cx_ rx_ false _ _ hx2)) ?_
        refine QRun_bool x3 x2 (by kernel_rfl) (fun w => by kernel_rfl) gx2 ?_
        exact QRun_done [9] (by kernel_rfl) (by kernel_rfl)
      · refine QRun_bool x1 false (by kernel_rfl) (fun w => by kernel_rfl) hb1 ?_
        have gx2 := M.ret_some ((M.ite_some gx2).2 hb1)
        refine QRun_n (by kernel_rfl) ?_
        refine QRun_n (by kernel_rfl) ?_
        refine QRun_bool false x2 (by kernel_rfl) (fun w => by kernel_rfl) gx2 ?_
        exact QRun_done [9] (by kernel_rfl) (by kernel_rfl)
    refine QRun_b [.bool x2] 7 _ (by kernel_rfl) (fun w => by kernel_rfl) ?_
    exact QRun_done [2] (by kernel_rfl) (by kernel_rfl)
  have hF := M.ret_some hF
  subst hF
  exact Run_ret1 rfl (ResV_tmp (v := .bool x2) (by kernel_rfl)) ⟨rfl, rfl⟩

set_option maxRecDepth 100000 in
set_option maxHeartbeats 4000000 in
theorem w_spec_IsMatrix (h : Heap) (a_ : List (List Int)) {Sa_ : Bs} (aa_ : Option Addr) (ca_ : Nat) (ra_ : Rd cd39 h Sa_ aa_ ca_ a_) (n : Nat) (r : Bool) (hF : spec_IsMatrix a_ n = some r) :
    Fn Try.prog 148 #[.slice aa_ a_.length ca_] h fun v h' => v = .bool r ∧ h' = h := by
  unfold spec_IsMatrix at hF
  refine Fn_enter (args := [.slice aa_ a_.length ca_]) Try.func148 rfl (by kernel_rfl) (by kernel_rfl) (fun w0 _ => ?_)
  refine Run_seq ?_
  refine Run_reg 1 (by kernel_rfl) (L' := [(0, .slice aa_ a_.length ca_)]) ?_ ?_
  · refine QRun_b [.bool false] 0 _ (by kernel_rfl) (fun w => by kernel_rfl) ?_
    exact QRun_done [0] (by kernel_rfl) (by kernel_rfl)
  refine Run_seq ?_
  refine Run_seq ?_
  refine Run_reg 8 (by kernel_rfl) (L' := [(0, .slice aa_ a_.length ca_), (11, .bool ((decide ((a_.length : Int) < 1)) || (decide (10 < (a_.length : Int)))))]) ?_ ?_
  · refine QRun_b [.slice aa_ a_.length ca_, .int .i64 (a_.length : Int), .bool (decide ((a_.length : Int) < 1))] 0 _ (by kernel_rfl) (fun w => by kernel_rfl) ?_
    refine QRun_seq 8 [(0, .slice aa_ a_.length ca_), (11, .bool ((decide ((a_.length : Int) < 1)) || (decide (10 < (a_.length : Int)))))] ?_ ?_
    · rcases Bool.eq_false_or_eq_true (decide ((a_.length : Int) < 1)) with hb1 | hb1
      · refine QRun_bool (decide ((a_.length : Int) < 1)) true (by kernel_rfl) (fun w => by kernel_rfl) hb1 ?_
        refine QRun_n (by kernel_rfl) ?_
        refine QRun_n (by kernel_rfl) ?_
        refine QRun_n (by kernel_rfl) ?_
        refine QRun_bool true ((decide ((a_.length : Int) < 1)) || (decide (10 < (a_.length : Int)))) (by kernel_rfl) (fun w => by kernel_rfl) (by rw [hb1]; rfl) ?_
        exact QRun_done [0, 11] (by kernel_rfl) (by kernel_rfl)
      · refine QRun_bool (decide ((a_.length : Int) < 1)) false (by kernel_rfl) (fun w => by kernel_rfl) hb1 ?_
        refine QRun_b [.slice aa_ a_.length ca_, .int .i64 (a_.length : Int), .bool (decide (10 < (a_.length : Int)))] 4 _ (by kernel_rfl) (fun w => by kernel_rfl) ?_
        refine QRun_bool (decide (10 < (a_.length : Int))) ((decide ((a_.length : Int) < 1)) || (decide (10 < (a_.length : Int)))) (by kernel_rfl) (fun w => by kernel_rfl) (by rw [hb1]; rfl) ?_
        exact QRun_done [0, 11] (by kernel_rfl) (by kernel_rfl)
    exact QRun_done [0, 11] (by kernel_rfl) (by kernel_rfl)
  refine Run_cond (b := (decide ((a_.length : Int) < 1)) || (decide (10 < (a_.length : Int)))) (by kernel_rfl) (fun hb2 => ?_) (fun hb2 => ?_)
  · have hF := (M.ite_some hF).1 hb2
    refine Run_seq ?_
    refine Run_reg 1 (by kernel_rfl) (L' := [(2, .bool false)]) ?_ ?_
    · refine QRun_b [.bool false] 0 _ (by kernel_rfl) (fun w => by kernel_rfl) ?_
      exact QRun_done [2] (by kernel_rfl) (by kernel_rfl)
    have hF := M.ret_some hF
    subst hF
    exact Run_ret1 rfl (ResV_tmp (v := .bool false) (by kernel_rfl)) ⟨rfl, rfl⟩
  · have hF := (M.ite_some hF).2 hb2
    refine Run_skip ?_
    refine Run_seq ?_
    refine Run_seq ?_
    refine Run_reg 1 (by kernel_rfl) (L' := [(0, .slice aa_ a_.length ca_), (3, .int .i64 0)]) ?_ ?_
    · refine QRun_b [.int .i64 0] 0 _ (by kernel_rfl) (fun w => by kernel_rfl) ?_
      exact QRun_done [0, 3] (by kernel_rfl) (by kernel_rfl)
    obtain ⟨x2, gx2, hF⟩ := M.bind_some hF
    obtain ⟨hloy1, hhiy1, gx2⟩ := M.for_start gx2
    refine Run_join (fun L' h' => ∃ (s2 : Unit), x2 = .inl s2 ∧ L' = [] ∧ h = h') ?_ ?_
    · rintro _ _ ⟨s2, es2, rfl, rfl⟩
      have hF := M.cont_inl' hF es2
      refine Run_seq ?_
      refine Run_reg 1 (by kernel_rfl) (L' := [(2, .bool true)]) ?_ ?_
      · refine QRun_b [.bool true] 0 _ (by kernel_rfl) (fun w => by kernel_rfl) ?_
        exact QRun_done [2] (by kernel_rfl) (by kernel_rfl)
      have hF := M.ret_some hF
      subst hF
      exact Run_ret1 rfl (ResV_tmp (v := .bool true) (by kernel_rfl)) ⟨rfl, rfl⟩
    · refine Run_block ?_
      refine Run_keep [0, 3] (L' := [(0, .slice aa_ a_.length ca_), (3, .int .i64 0)]) (by kernel_rfl) ?_
      refine Run_loop (fun m L' h' => ∃ (i1 : Int) (s1 : Unit), 0 ≤ i1 ∧ M.forN (a_.length : Int) _ _ n m i1 s1 = some x2 ∧ L' = [(0, .slice aa_ a_.length ca_), (3, .int .i64 i1)] ∧ h = h') ((a_.length : Int) - 0 : Int).toNat ⟨0, (), Int.le_refl _, gx2, rfl, rfl⟩ ?_
      rintro my1 _ _ ⟨i1, s1, hloy1', gx2, rfl, rfl⟩
      refine Run_seq ?_
      refine Run_seq ?_
      refine Run_reg 4 (by kernel_rfl) (L' := [(0, .slice aa_ a_.length ca_), (3, .int .i64 i1), (15, .bool (decide (i1 < (a_.length : Int))))]) ?_ ?_
      · refine QRun_b [.int .i64 i1, .slice aa_ a_.length ca_, .int .i64 (a_.length : Int), .bool (decide (i1 < (a_.length : Int)))] 0 _ (by kernel_rfl) (fun w => by kernel_rfl) ?_
        exact QRun_done [0, 3, 15] (by kernel_rfl) (by kernel_rfl)
      refine Run_cond (b := decide (i1 < (a_.length : Int))) (by kernel_rfl) (fun hb3 => ?_) (fun hb3 => ?_)
      · obtain ⟨my1, y1, rfl, hB1, hgoy1, houty1⟩ := M.for_go gx2 hb3
        have hlty1 := of_decide_eq_true hb3
        refine Run_skip ?_
        refine Run_seq ?_
        refine Run_block ?_
        refine Run_seq ?_
        obtain ⟨x3, hx1, hB1⟩ := M.bind_some hB1
        obtain ⟨hx1l, hx1u, hx1⟩ := M.idx_some hx1
        obtain ⟨a1, c1, hc1, r1⟩ := ra_.row hx1
        obtain ⟨x4, hx2, hB1⟩ := M.bind_some hB1
        obtain ⟨x5, gx5, hB1⟩ := M.bind_some hB1
        refine Run_draw 18 mixed (by kernel_rfl) (by kernel_rfl) (L' := [(0, .slice aa_ a_.length ca_), (3, .int .i64 i1), (35, .bool x5)]) ?_ ?_
        · refine QRun_b [.slice aa_ a_.length ca_, .int .i64 i1] 0 _ (by kernel_rfl) (fun w => by kernel_rfl) ?_
          refine QRun_y (.pointer (some (adr aa_ (i1.toNat * 1)))) (by kernel_rfl) (Y_idx (t := 37) (e := 39) (sz := 1) (a := aa_) (n := a_.length) (cap := ca_) (kk := .i64) (i := i1) (by kernel_rfl) Try.underlying37 (by kernel_rfl) (ra_.cell hx1).1 hx1l hx1u) ?_
          refine QRun_y (.slice a1 x3.length c1) (by kernel_rfl) (Y_load1 (t := 39) (p := adr aa_ (i1.toNat * 1)) (v := .slice a1 x3.length c1) (by kernel_rfl) (fun w => by kernel_rfl) hc1) ?_
          refine QRun_y (.bool x4) (by kernel_rfl) (Y_callq (f := 175) (args := #[.slice a1 x3.length c1]) (v := .bool x4) (by kernel_rfl) (w_spec_l02Vector h x3 a1 c1 r1 _ _ hx2)) ?_
          refine QRun_b [.bool (!x4)] 5 _ (by kernel_rfl) (fun w => by kernel_rfl) ?_
          refine QRun_seq 18 [(0, .slice aa_ a_.length ca_), (3, .int .i64 i1), (35, .bool x5)] ?_ ?_
          · rcases Bool.eq_false_or_eq_true (!x4) with hb4 | hb4
            · refine QRun_bool (!x4) true (by kernel_rfl) (fun w => by kernel_rfl) hb4 ?_
              have gx5 := M.ret_some ((M.ite_some gx5).1 hb4)
              refine QRun_n (by kernel_rfl) ?_
              refine QRun_n (by kernel_rfl) ?_
              refine QRun_n (by kernel_rfl) ?_
              refine QRun_n (by kernel_rfl) ?_
              refine QRun_n (by kernel_rfl) ?_
              refine QRun_n (by kernel_rfl) ?_
              refine QRun_n (by kernel_rfl) ?_
              refine QRun_n (by kernel_rfl) ?_
              refine QRun_n (by kernel_rfl) ?_
              refine QRun_n (by kernel_rfl) ?_
              refine QRun_bool true x5 (by kernel_rfl) (fun w => by kernel_rfl) gx5 ?_
              exact QRun_done [0, 3, 35] (by kernel_rfl) (by kernel_rfl)
            · refine QRun_bool (!x4) false (by kernel_rfl) (fun w => by kernel_rfl) hb4 ?_
              have gx5 := (M.ite_some gx5).2 hb4
              obtain ⟨x6, hx3, gx5⟩ := M.bind_some gx5
              obtain ⟨hx3l, hx3u, hx3⟩ := M.idx_some hx3
              obtain ⟨a2, c2, hc2, r2⟩ := ra_.row hx3
              obtain ⟨x7, hx4, gx5⟩ := M.bind_some gx5
              obtain ⟨hx4l, hx4u, hx4⟩ := M.idx_some hx4
              obtain ⟨a3, c3, hc3, r3⟩ := ra_.row hx4
              have gx5 := M.ret_some gx5
              refine QRun_b [.slice aa_ a_.length ca_, .int .i64 i1] 7 _ (by kernel_rfl) (fun w => by kernel_rfl) ?_
              refine QRun_y (.pointer (some (adr aa_ (i1.toNat * 1)))) (by kernel_rfl) (Y_idx (t := 37) (e := 39) (sz := 1) (a := aa_) (n := a_.length) (cap := ca_) (kk := .i64) (i := i1) (by kernel_rfl) Try.underlying37 (by kernel_rfl) (ra_.cell hx3).1 hx3l hx3u) ?_
              refine QRun_y (.slice a2 x6.length c2) (by kernel_rfl) (Y_load1 (t := 39) (p := adr aa_ (i1.toNat * 1)) (v := .slice a2 x6.length c2) (by kernel_rfl) (fun w => by kernel_rfl) hc2) ?_
              refine QRun_b [.int .i64 (x6.length : Int), .slice aa_ a_.length ca_] 11 _ (by kernel_rfl) (fun w => by kernel_rfl) ?_
              refine QRun_y (.pointer (some (adr aa_ (0 * 1)))) (by kernel_rfl) (Y_idx (t := 37) (e := 39) (sz := 1) (a := aa_) (n := a_.length) (cap := ca_) (kk := .i64) (i := 0) (by kernel_rfl) Try.underlying37 (by kernel_rfl) (ra_.cell hx4).1 hx4l hx4u) ?_
              refine QRun_y (.slice a3 x7.length c3) (by kernel_rfl) (Y_load1 (t := 39) (p := adr aa_ (0 * 1)) (v := .slice a3 x7.length c3) (by kernel_rfl) (fun w => by kernel_rfl) hc3) ?_
              refine QRun_b [.int .i64 (x7.length : Int), .bool ((x6.length : Int) != (x7.length : Int))] 15 _ (by kernel_rfl) (fun w => by kernel_rfl) ?_
              refine QRun_bool ((x6.length : Int) != (x7.length : Int)) x5 (by kernel_rfl) (fun w => by kernel_rfl) gx5 ?_
              exact QRun_done [0, 3, 35] (by kernel_rfl) (by kernel_rfl)
          exact QRun_done [0, 3, 35] (by kernel_rfl) (by kernel_rfl)
        refine Run_cond (b := x5) (by kernel_rfl) (fun hb5 => ?_) (fun hb5 => ?_)
        · have hB1 := (M.ite_some hB1).1 hb5
          refine Run_seq ?_
          refine Run_reg 1 (by kernel_rfl) (L' := [(2, .bool false)]) ?_ ?_
          · refine QRun_b [.bool false] 0 _ (by kernel_rfl) (fun w => by kernel_rfl) ?_
            exact QRun_done [2] (by kernel_rfl) (by kernel_rfl)
          have hB1 := M.ret_some hB1
          have gx2 := houty1 _ hB1.symm
          have hF := M.cont_inr' hF gx2
          have hF := M.ret_some hF
          subst hF
          exact Run_ret1 rfl (ResV_tmp (v := .bool false) (by kernel_rfl)) ⟨rfl, rfl⟩
        · have hB1 := (M.ite_some hB1).2 hb5
          refine Run_skip ?_
          refine Run_blk ?_
          refine Run_reg 3 (by kernel_rfl) (L' := [(0, .slice aa_ a_.length ca_), (3, .int .i64 (i1 + 1))]) ?_ ?_
          · refine QRun_b [.int .i64 i1] 0 _ (by kernel_rfl) (fun w => by kernel_rfl) ?_
            refine QRun_y (.int .i64 (i1 + 1)) (by kernel_rfl) (Y_eq (v := .int .i64 (w64 (i1 + 1))) (Y_pure (fun w => by kernel_rfl)) (by rw [w64_eq _ (by omega)])) ?_
            refine QRun_b [.int .i64 (i1 + 1)] 2 _ (by kernel_rfl) (fun w => by kernel_rfl) ?_
            exact QRun_done [0, 3] (by kernel_rfl) (by kernel_rfl)
          have hB1 := M.ret_some hB1
          have gx2 := hgoy1 _ hB1.symm
          exact Run_again [0, 3] (by kernel_rfl) my1 (Nat.lt_succ_self _) ⟨i1 + 1, (), by omega, gx2, rfl, rfl⟩
      · have gx2 := M.for_end gx2 hb3
        subst gx2
        refine Run_exit (k' := _) rfl ?_
        exact Run_fall [] (by kernel_rfl) ⟨(), rfl, rfl, rfl⟩

set_option maxRecDepth 100000 in
set_option maxHeartbeats 4000000 in
theorem w_spec_l02Square (h : Heap) (a_ : List (List Int)) {Sa_ : Bs} (aa_ : Option Addr) (ca_ : Nat) (ra_ : Rd cd39 h Sa_ aa_ ca_ a_) (n : Nat) (r : Bool) (hF : spec_l02Square a_ n = some r) :
    Fn Try.prog 82 #[.slice aa_ a_.length ca_] h fun v h' => v = .bool r ∧ h' = h := by
  unfold spec_l02Square at hF
  refine Fn_enter (args := [.slice aa_ a_.length ca_]) Try.func82 rfl (by kernel_rfl) (by kernel_rfl) (fun w0 _ => ?_)
  refine Run_seq ?_
  refine Run_reg 1 (by kernel_rfl) (L' := [(0, .slice aa_ a_.length ca_)]) ?_ ?_
  · refine QRun_b [.bool false] 0 _ (by kernel_rfl) (fun w => by kernel_rfl) ?_
    exact QRun_done [0] (by kernel_rfl) (by kernel_rfl)
  refine Run_seq ?_
  obtain ⟨x1, hx1, hF⟩ := M.bind_some hF
  obtain ⟨x2, gx2, hF⟩ := M.bind_some hF
  refine Run_reg 12 (by kernel_rfl) (L' := [(2, .bool x2)]) ?_ ?_
  · refine QRun_b [.slice aa_ a_.length ca_] 0 _ (by kernel_rfl) (fun w => by kernel_rfl) ?_
    refine QRun_y (.bool x1) (by kernel_rfl) (Y_callq (f := 148) (args := #[.slice aa_ a_.length ca_]) (v := .bool x1) (by kernel_rfl) (w_spec_IsMatrix h a_ aa_ ca_ ra_ _ _ hx1)) ?_
    refine QRun_seq 11 [(13, .bool x2)] ?_ ?_
    · rcases Bool.eq_false_or_eq_true x1 with hb1 | hb1
      · refine QRun_bool x1 true (by kernel_rfl) (fun w => by kernel_rfl) hb1 ?_
        have gx2 := (M.ite_some gx2).1 hb1
        obtain ⟨x3, hx2, gx2⟩ := M.bind_some gx2
        obtain ⟨hx2l, hx2u, hx2⟩ := M.idx_some hx2
        obtain ⟨a1, c1, hc1, r1⟩ := ra_.row hx2
        have gx2 := M.ret_some gx2
        refine QRun_b [.slice aa_ a_.length ca_, .int .i64 (a_.length : Int), .slice aa_ a_.length ca_] 3 _ (by kernel_rfl) (fun w => by kernel_rfl) ?_
        refine QRun_y (.pointer (some (adr aa_ (0 * 1)))) (by kernel_rfl) (Y_idx (t := 37) (e := 39) (sz := 1) (a := aa_) (n := a_.length) (cap := ca_) (kk := .i64) (i := 0) (by kernel_rfl) Try.underlying37 (by kernel_rfl) (ra_.cell hx2).1 hx2l hx2u) ?_
        refine QRun_y (.slice a1 x3.length c1) (by kernel_rfl) (Y_load1 (t := 39) (p := adr aa_ (0 * 1)) (v := .slice a1 x3.length c1) (by kernel_rfl) (fun w => by kernel_rfl) hc1) ?_
        refine QRun_b [.int .i64 (x3.length : Int), .bool ((a_.length : Int) == (x3.length : Int))] 8 _ (by kernel_rfl) (fun w => by kernel_rfl) ?_
        refine QRun_bool ((a_.length : Int) == (x3.length : Int)) x2 (by kernel_rfl) (fun w => by kernel_rfl) gx2 ?_
        exact QRun_done [13] (by kernel_rfl) (by kernel_rfl)
      · refine QRun_bool x1 false (by kernel_rfl) (fun w => by kernel_rfl) hb1 ?_
        have gx2 := M.ret_some ((M.ite_some gx2).2 hb1)
        refine QRun_n (by kernel_rfl) ?_
        refine QRun_n (by kernel_rfl) ?_
        refine QRun_n (by kernel_rfl) ?_
        refine QRun_n (by kernel_rfl) ?_
        refine QRun_n (by kernel_rfl) ?_
        refine QRun_n (by kernel_rfl) ?_
        refine QRun_n (by kernel_rfl) ?_
        refine QRun_bool false x2 (by kernel_rfl) (fun w => by kernel_rfl) gx2 ?_
        exact QRun_done [13] (by kernel_rfl) (by kernel_rfl)
    refine QRun_b [.bool x2] 11 _ (by kernel_rfl) (fun w => by kernel_rfl) ?_
    exact QRun_done [2] (by kernel_rfl) (by kernel_rfl)
  have hF := M.ret_some hF
  subst hF
  exact Run_ret1 rfl (ResV_tmp (v := .bool x2) (by kernel_rfl)) ⟨rfl, rfl⟩

set_option maxRecDepth 100000 in
set_option maxHeartbeats 4000000 in
theorem w_spec_l01Times (h : Heap) (a_ : Int) (b : Int) (n : Nat) (r : Int) (hF : spec_l01Times a_ b n = some r) :
    Fn Try.prog 117 #[.int .i64 a_, .int .i64 b] h fun v h' => v = .int .i64 r ∧ h' = h := by
  unfold spec_l01Times at hF
  refine Fn_enter (args := [.int .i64 a_, .int .i64 b]) Try.func117 rfl (by kernel_rfl) (by kernel_rfl) (fun w0 _ => ?_)
  refine Run_seq ?_
  refine Run_reg 1 (by kernel_rfl) (L' := [(0, .int .i64 a_), (1, .int .i64 b)]) ?_ ?_
  · refine QRun_b [.int .i64 0] 0 _ (by kernel_rfl) (fun w => by kernel_rfl) ?_
    exact QRun_done [0, 1] (by kernel_rfl) (by kernel_rfl)
  refine Run_seq ?_
  refine Run_seq ?_
  refine Run_reg 6 (by kernel_rfl) (L' := [(0, .int .i64 a_), (1, .int .i64 b), (10, .bool ((a_ == (-1000000000000000)) || (b == (-1000000000000000))))]) ?_ ?_
  · refine QRun_b [.int .i64 a_, .bool (a_ == (-1000000000000000))] 0 _ (by kernel_rfl) (fun w => by kernel_rfl) ?_
    refine QRun_seq 6 [(0, .int .i64 a_), (1, .int .i64 b), (10, .bool ((a_ == (-1000000000000000)) || (b == (-1000000000000000))))] ?_ ?_
    · rcases Bool.eq_false_or_eq_true (a_ == (-1000000000000000)) with hb1 | hb1
      · refine QRun_bool (a_ == (-1000000000000000)) true (by kernel_rfl) (fun w => by kernel_rfl) hb1 ?_
        refine QRun_n (by kernel_rfl) ?_
        refine QRun_n (by kernel_rfl) ?_
        refine QRun_bool true ((a_ == (-1000000000000000)) || (b == (-1000000000000000))) (by kernel_rfl) (fun w => by kernel_rfl) (by rw [hb1]; rfl) ?_
        exact QRun_done [0, 1, 10] (by kernel_rfl) (by kernel_rfl)
      · refine QRun_bool (a_ == (-1000000000000000)) false (by kernel_rfl) (fun w => by kernel_rfl) hb1 ?_
        refine QRun_b [.int .i64 b, .bool (b == (-1000000000000000))] 3 _ (by kernel_rfl) (fun w => by kernel_rfl) ?_
        refine QRun_bool (b == (-1000000000000000)) ((a_ == (-1000000000000000)) || (b == (-1000000000000000))) (by kernel_rfl) (fun w => by kernel_rfl) (by rw [hb1]; rfl) ?_
        exact QRun_done [0, 1, 10] (by kernel_rfl) (by kernel_rfl)
    exact QRun_done [0, 1, 10] (by kernel_rfl) (by kernel_rfl)
  refine Run_cond (b := (a_ == (-1000000000000000)) || (b == (-1000000000000000))) (by kernel_rfl) (fun hb2 => ?_) (fun hb2 => ?_)
  · have hF := (M.ite_some hF).1 hb2
    refine Run_seq ?_
    refine Run_reg 1 (by kernel_rfl) (L' := [(4, .int .i64 (-1000000000000000))]) ?_ ?_
    · refine QRun_b [.int .i64 (-1000000000000000)] 0 _ (by kernel_rfl) (fun w => by kernel_rfl) ?_
      exact QRun_done [4] (by kernel_rfl) (by kernel_rfl)
    have hF := M.ret_some hF
    subst hF
    exact Run_ret1 rfl (ResV_tmp (v := .int .i64 (-1000000000000000)) (by kernel_rfl)) ⟨rfl, rfl⟩
  · have hF := (M.ite_some hF).2 hb2
    refine Run_skip ?_
    refine Run_seq ?_
    refine Run_reg 4 (by kernel_rfl) (L' := [(4, .int .i64 (w64 (a_ + b)))]) ?_ ?_
    · refine QRun_b [.int .i64 a_, .int .i64 b, .int .i64 (w64 (a_ + b)), .int .i64 (w64 (a_ + b))] 0 _ (by kernel_rfl) (fun w => by kernel_rfl) ?_
      exact QRun_done [4] (by kernel_rfl) (by kernel_rfl)
    have hF := M.ret_some hF
    subst hF
    exact Run_ret1 rfl (ResV_tmp (v := .int .i64 (w64 (a_ + b))) (by kernel_rfl)) ⟨rfl, rfl⟩

set_option maxRecDepth 100000 in
set_option maxHeartbeats 4000000 in
theorem w_spec_l10Best (h : Heap) (a_ : List (List Int)) (aa_ : Option Addr) (ca_ : Nat) (ra_ : Rd cd39 h (Lt h) aa_ ca_ a_) (n : Nat) (r : (List Int) × (List Int)) (hF : spec_l10Best a_ n = some r) :
    Fn Try.prog 133 #[.slice aa_ a_.length ca_] h fun v h' => ∃ (a0 : Option Addr) (c0 : Nat), ∃ (a1 : Option Addr) (c1 : Nat), v = .tuple #[.slice a0 r.1.length c0, .slice a1 r.2.length c1] ∧ Hold h h' [own cd2 a0 r.1.length c0 r.1, own cd2 a1 r.2.length c1 r.2] := by
  unfold spec_l10Best at hF
  refine Fn_enter (args := [.slice aa_ a_.length ca_]) Try.func133 rfl (by kernel_rfl) (by kernel_rfl) (fun w0 _ => ?_)
  have H0 := Hold.init h
  refine Run_seq ?_
  refine Run_reg 2 (by kernel_rfl) (L' := [(0, .slice aa_ a_.length ca_)]) ?_ ?_
  · refine QRun_b [.slice none 0 0, .slice none 0 0] 0 _ (by kernel_rfl) (fun w => by kernel_rfl) ?_
    exact QRun_done [0] (by kernel_rfl) (by kernel_rfl)
  refine Run_seq ?_
  refine Run_reg 3 (by kernel_rfl) (L' := [(0, .slice aa_ a_.length ca_), (4, .int .i64 (a_.length : Int))]) ?_ ?_
  · refine QRun_b [.slice aa_ a_.length ca_, .int .i64 (a_.length : Int), .int .i64 (a_.length : Int)] 0 _ (by kernel_rfl) (fun w => by kernel_rfl) ?_
    exact QRun_done [0, 4] (by kernel_rfl) (by kernel_rfl)
  refine Run_seq ?_
  refine Run_ops ?_
  refine Run_E (by kernel_rfl) ?_
  refine E_lit (C := cd2) (n := 1) (l := ([0] : List Int)) (cs := [.int .i64 0]) H0 (fun w => by kernel_rfl) (Enc.consE (cd2_own 0 _) (Enc.nil _ _) rfl) rfl (by decide) (fun a1 h1 H1 => ?_)
  refine Run_E (by kernel_rfl) ?_
  refine E_lit (C := cd2) (n := 1) (l := ([1] : List Int)) (cs := [.int .i64 1]) H1 (fun w => by kernel_rfl) (Enc.consE (cd2_own 1 _) (Enc.nil _ _) rfl) rfl (by decide) (fun a2 h2 H2 => ?_)
  refine Run_b [.slice a1 1 1, .slice a2 1 1] 2 _ (by kernel_rfl) (fun w => by kernel_rfl) ?_
  refine Run_nil (by kernel_rfl) ?_
  refine Run_keep [0, 4, 5, 6] (L' := [(0, .slice aa_ a_.length ca_), (4, .int .i64 (a_.length : Int)), (5, .slice a1 1 1), (6, .slice a2 1 1)]) (by kernel_rfl) ?_
  refine Run_seq ?_
  refine Run_seq ?_
  refine Run_reg 1 (by kernel_rfl) (L' := [(0, .slice aa_ a_.length ca_), (4, .int .i64 (a_.length : Int)), (5, .slice a1 1 1), (6, .slice a2 1 1), (7, .int .i64 1)]) ?_ ?_
  · refine QRun_b [.int .i64 1] 0 _ (by kernel_rfl) (fun w => by kernel_rfl) ?_
    exact QRun_done [0, 4, 5, 6, 7] (by kernel_rfl) (by kernel_rfl)
  obtain ⟨x1, gx1, hF⟩ := M.bind_some hF
  refine Run_join (fun L' h' => ∃ (a5 : Option Addr) (c3 : Nat) (a6 : Option Addr) (c4 : Nat), L' = [(5, .slice a5 x1.1.length c3), (6, .slice a6 x1.2.1.length c4)] ∧ Hold h h' [own cd2 a5 x1.1.length c3 x1.1, own cd2 a6 x1.2.1.length c4 x1.2.1]) ?_ ?_
  · rintro _ h4 ⟨a5, c3, a6, c4, rfl, H4⟩
    refine Run_seq ?_
    refine Run_reg 4 (by kernel_rfl) (L' := [(2, .slice a5 x1.1.length c3), (3, .slice a6 x1.2.1.length c4)]) ?_ ?_
    · refine QRun_b [.slice a5 x1.1.length c3, .slice a6 x1.2.1.length c4, .slice a5 x1.1.length c3, .slice a6 x1.2.1.length c4] 0 _ (by kernel_rfl) (fun w => by kernel_rfl) ?_
      exact QRun_done [2, 3] (by kernel_rfl) (by kernel_rfl)
    have hF := M.ret_some hF
    subst hF
    have H26 : Hold h h4 [own cd2 a6 x1.2.1.length c4 x1.2.1, own cd2 a5 x1.1.length c3 x1.1] := H4.pick [1, 0] (by kernel_rfl)
    have H27 : Hold h h4 [own cd2 a5 x1.1.length c3 x1.1, own cd2 a6 x1.2.1.length c4 x1.2.1] := H26.pick [1, 0] (by kernel_rfl)
    exact Run_ret2 rfl (ResV_tmp (v := .slice a5 x1.1.length c3) (by kernel_rfl)) (ResV_tmp (v := .slice a6 x1.2.1.length c4) (by kernel_rfl)) ⟨a5, c3, a6, c4, rfl, H27⟩
  · refine Run_block ?_
    have H28 : Hold h h2 [own cd2 a1 1 1 ([0] : List Int), own cd2 a2 1 1 ([1] : List Int)] := H2.pick [1, 0] (by kernel_rfl)
    have hn1 := (H28.len 0 rfl)
    have H29 : Hold h h2 [own cd2 a2 1 1 ([1] : List Int), own cd2 a1 (([0] : List Int).length) 1 ([0] : List Int)] := H28.pick [1, 0] (by kernel_rfl)
    have hn2 := (H29.len 0 rfl)
    have H30 : Hold h h2 [own cd2 a2 (([1] : List Int).length) 1 ([1] : List Int), own cd2 a1 (([0] : List Int).length) 1 ([0] : List Int)] := by rw [hn1, hn2]; exact H29
    have H31 : Hold h h2 [own cd2 a1 (([0] : List Int).length) 1 ([0] : List Int), own cd2 a2 (([1] : List Int).length) 1 ([1] : List Int)] := H30.pick [1, 0] (by kernel_rfl)
    refine Run_keep [0, 4, 5, 6, 7] (L' := [(0, .slice aa_ a_.length ca_), (4, .int .i64 (a_.length : Int)), (5, .slice a1 (([0] : List Int).length) 1), (6, .slice a2 (([1] : List Int).length) 1), (7, .int .i64 1)]) (by first | (rw [hn1, hn2]; kernel_rfl) | (simp only [hn1, hn2]; kernel_rfl) | kernel_rfl) ?_
    refine Run_loop (fun m L' h' => ∃ (s1 : (List Int) × (List Int) × Int) (a3 : Option Addr) (c1 : Nat) (a4 : Option Addr) (c2 : Nat), M.loopN _ n m s1 = some x1 ∧ L' = [(0, .slice aa_ a_.length ca_), (4, .int .i64 (a_.length : Int)), (5, .slice a3 s1.1.length c1), (6, .slice a4 s1.2.1.length c2), (7, .int .i64 s1.2.2)] ∧ Hold h h' [own cd2 a3 s1.1.length c1 s1.1, own cd2 a4 s1.2.1.length c2 s1.2.1]) n ⟨(([0] : List Int), ([1] : List Int), 1), a1, 1, a2, 1, gx1, rfl, H31⟩ ?_
    rintro my1 _ h3 ⟨s1, a3, c1, a4, c2, gx1, rfl, H3⟩
    obtain ⟨my1, y1, rfl, hB1, hgoy1, houty1⟩ := M.loop_some gx1
    refine Run_seq ?_
    refine Run_seq ?_
    obtain ⟨u1, hz1, hB1⟩ := M.bind_some hB1
    have hz1 := M.guard_some hz1
    refine Run_reg 5 (by kernel_rfl) (L' := [(0, .slice aa_ a_.length ca_), (4, .int .i64 (a_.length : Int)), (5, .slice a3 s1.1.length c1), (6, .slice a4 s1.2.1.length c2), (7, .int .i64 s1.2.2), (24, .bool (decide (s1.2.2 < (ishl .i64 1 (IntKind.u64.wrap ((a_.length : Int)))))))]) ?_ ?_
    · refine QRun_b [.int .i64 s1.2.2, .int .i64 (a_.length : Int), .int .u64 (IntKind.u64.wrap ((a_.length : Int)))] 0 _ (by kernel_rfl) (fun w => by kernel_rfl) ?_
      refine QRun_y (.int .i64 (ishl .i64 1 (IntKind.u64.wrap ((a_.length : Int))))) (by kernel_rfl) (Y_shl (k := .i64) (x := 1) (kk := .u64) (y := IntKind.u64.wrap ((a_.length : Int))) (by kernel_rfl) hz1) ?_
      refine QRun_b [.bool (decide (s1.2.2 < (ishl .i64 1 (IntKind.u64.wrap ((a_.length : Int))))))] 4 _ (by kernel_rfl) (fun w => by kernel_rfl) ?_
      exact QRun_done [0, 4, 5, 6, 7, 24] (by kernel_rfl) (by kernel_rfl)
    refine Run_cond (b := decide (s1.2.2 < (ishl .i64 1 (IntKind.u64.wrap ((a_.length : Int)))))) (by kernel_rfl) (fun hb1 => ?_) (fun hb1 => ?_)
    · have hB1 := (M.ite_some hB1).1 hb1
      refine Run_skip ?_
      refine Run_seq ?_
      refine Run_block ?_
      refine Run_seq ?_
      refine Run_reg 1 (by kernel_rfl) (L' := [(0, .slice aa_ a_.length ca_), (4, .int .i64 (a_.length : Int)), (5, .slice a3 s1.1.length c1), (6, .slice a4 s1.2.1.length c2), (7, .int .i64 s1.2.2), (8, .int .i64 0)]) ?_ ?_
      · refine QRun_b [.int .i64 0] 0 _ (by kernel_rfl) (fun w => by kernel_rfl) ?_
        exact QRun_done [0, 4, 5, 6, 7, 8] (by kernel_rfl) (by kernel_rfl)
      refine Run_seq ?_
      refine Run_seq ?_
      refine Run_reg 1 (by kernel_rfl) (L' := [(0, .slice aa_ a_.length ca_), (4, .int .i64 (a_.length : Int)), (5, .slice a3 s1.1.length c1), (6, .slice a4 s1.2.1.length c2), (7, .int .i64 s1.2.2), (8, .int .i64 0), (9, .int .i64 0)]) ?_ ?_
      · refine QRun_b [.int .i64 0] 0 _ (by kernel_rfl) (fun w => by kernel_rfl) ?_
        exact QRun_done [0, 4, 5, 6, 7, 8, 9] (by kernel_rfl) (by kernel_rfl)
      obtain ⟨x2, gx2, hB1⟩ := M.bind_some hB1
      obtain ⟨hloy2, hhiy2, gx2⟩ := M.for_start gx2
      refine Run_join (fun L' h' => L' = [(0, .slice aa_ a_.length ca_), (4, .int .i64 (a_.length : Int)), (5, .slice a3 s1.1.length c1), (6, .slice a4 s1.2.1.length c2), (7, .int .i64 s1.2.2), (8, .int .i64 x2)] ∧ Hold h h' [own cd2 a3 s1.1.length c1 s1.1, own cd2 a4 s1.2.1.length c2 s1.2.1]) ?_ ?_
      · rintro _ h6 ⟨rfl, H6⟩
        refine Run_seq ?_
        refine Run_reg 6 (by kernel_rfl) (L' := [(0, .slice aa_ a_.length ca_), (4, .int .i64 (a_.length : Int)), (5, .slice a3 s1.1.length c1), (6, .slice a4 s1.2.1.length c2), (7, .int .i64 s1.2.2), (10, .int .i64 (w64 ((a_.length : Int) - x2))), (11, .int .i64 (-1000000000000000)), (12, .int .i64 0)]) ?_ ?_
        · refine QRun_b [.int .i64 (a_.length : Int), .int .i64 x2, .int .i64 (w64 ((a_.length : Int) - x2)), .int .i64 (w64 ((a_.length : Int) - x2)), .int .i64 (-1000000000000000), .int .i64 0] 0 _ (by kernel_rfl) (fun w => by kernel_rfl) ?_
          exact QRun_done [0, 4, 5, 6, 7, 10, 11, 12] (by kernel_rfl) (by kernel_rfl)
        refine Run_seq ?_
        refine Run_seq ?_
        refine Run_reg 1 (by kernel_rfl) (L' := [(0, .slice aa_ a_.length ca_), (4, .int .i64 (a_.length : Int)), (5, .slice a3 s1.1.length c1), (6, .slice a4 s1.2.1.length c2), (7, .int .i64 s1.2.2), (10, .int .i64 (w64 ((a_.length : Int) - x2))), (11, .int .i64 (-1000000000000000)), (12, .int .i64 0), (13, .int .i64 0)]) ?_ ?_
        · refine QRun_b [.int .i64 0] 0 _ (by kernel_rfl) (fun w => by kernel_rfl) ?_
          exact QRun_done [0, 4, 5, 6, 7, 10, 11, 12, 13] (by kernel_rfl) (by kernel_rfl)
        obtain ⟨x3, gx3, hB1⟩ := M.bind_some hB1
        obtain ⟨hloy3, hhiy3, gx3⟩ := M.for_start gx3
        refine Run_join (fun L' h' => L' = [(0, .slice aa_ a_.length ca_), (4, .int .i64 (a_.length : Int)), (5, .slice a3 s1.1.length c1), (6, .slice a4 s1.2.1.length c2), (7, .int .i64 s1.2.2), (11, .int .i64 x3.1), (12, .int .i64 x3.2)] ∧ Hold h h' [own cd2 a3 s1.1.length c1 s1.1, own cd2 a4 s1.2.1.length c2 s1.2.1]) ?_ ?_
        · rintro _ h8 ⟨rfl, H8⟩
          refine Run_seq ?_
          refine Run_ops ?_
          refine Run_b [.slice a3 s1.1.length c1, .int .i64 x3.1] 0 _ (by kernel_rfl) (fun w => by kernel_rfl) ?_
          refine Run_E (by kernel_rfl) ?_
          refine E_lit (C := cd2) (n := 1) (l := ([x3.1] : List Int)) (cs := [.int .i64 x3.1]) H8 (fun w => by kernel_rfl) (Enc.consE (cd2_own x3.1 _) (Enc.nil _ _) rfl) rfl (by decide) (fun a8 h11 H11 => ?_)
          obtain ⟨l1, hl1, hB1⟩ := M.bind_some hB1
          have hl1 := M.app_some hl1
          have H12 : Hold h h11 [own cd2 a3 s1.1.length c1 s1.1, own cd2 a8 1 1 ([x3.1] : List Int), own cd2 a4 s1.2.1.length c2 s1.2.1] := H11.pick [1, 0, 2] (by kernel_rfl)
          have H13 : Hold h h11 [own cd2 a8 1 1 ([x3.1] : List Int), own cd2 a3 s1.1.length c1 s1.1, own cd2 a4 s1.2.1.length c2 s1.2.1] := H12.pick [1, 0, 2] (by kernel_rfl)
          have H14 : Hold h h11 [own cd2 a3 s1.1.length c1 s1.1, own cd2 a8 1 1 ([x3.1] : List Int), own cd2 a4 s1.2.1.length c2 s1.2.1] := H13.pick [1, 0, 2] (by kernel_rfl)
          refine Run_E (by kernel_rfl) ?_
          refine E_app (C := cd2) (t := 39) (ty := 39) (n := s1.1.length) (m := 1) H14 cd2_ti rfl Try.underlying39 (by decide) (by kernel_rfl) hl1 (fun a9 c6 h12 H15 => ?_)
          refine Run_b [.slice a9 l1.length c6] 4 _ (by kernel_rfl) (fun w => by kernel_rfl) ?_
          refine Run_nil (by kernel_rfl) ?_
          refine Run_keep [0, 4, 5, 6, 7, 12] (L' := [(0, .slice aa_ a_.length ca_), (4, .int .i64 (a_.length : Int)), (5, .slice a9 l1.length c6), (6, .slice a4 s1.2.1.length c2), (7, .int .i64 s1.2.2), (12, .int .i64 x3.2)]) (by kernel_rfl) ?_
          refine Run_ops ?_
          refine Run_b [.slice a4 s1.2.1.length c2, .int .i64 x3.2] 0 _ (by kernel_rfl) (fun w => by kernel_rfl) ?_
          refine Run_E (by kernel_rfl) ?_
          refine E_lit (C := cd2) (n := 1) (l := ([x3.2] : List Int)) (cs := [.int .i64 x3.2]) H15 (fun w => by kernel_rfl) (Enc.consE (cd2_own x3.2 _) (Enc.nil _ _) rfl) rfl (by decide) (fun a10 h13 H16 => ?_)
          obtain ⟨l2, hl2, hB1⟩ := M.bind_some hB1
          have hl2 := M.app_some hl2
          have H17 : Hold h h13 [own cd2 a4 s1.2.1.length c2 s1.2.1, own cd2 a10 1 1 ([x3.2] : List Int), own cd2 a9 l1.length c6 l1] := H16.pick [2, 0, 1] (by kernel_rfl)
          have H18 : Hold h h13 [own cd2 a10 1 1 ([x3.2] : List Int), own cd2 a4 s1.2.1.length c2 s1.2.1, own cd2 a9 l1.length c6 l1] := H17.pick [1, 0, 2] (by kernel_rfl)
          have H19 : Hold h h13 [own cd2 a4 s1.2.1.length c2 s1.2.1, own cd2 a10 1 1 ([x3.2] : List Int), own cd2 a9 l1.length c6 l1] := H18.pick [1, 0, 2] (by kernel_rfl)
          refine Run_E (by kernel_rfl) ?_
          refine E_app (C := cd2) (t := 39) (ty := 39) (n := s1.2.1.length) (m := 1) H19 cd2_ti rfl Try.underlying39 (by decide) (by kernel_rfl) hl2 (fun a11 c7 h14 H20 => ?_)
          refine Run_b [.slice a11 l2.length c7] 4 _ (by kernel_rfl) (fun w => by kernel_rfl) ?_
          refine Run_nil (by kernel_rfl) ?_
          refine Run_keep [0, 4, 5, 6, 7] (L' := [(0, .slice aa_ a_.length ca_), (4, .int .i64 (a_.length : Int)), (5, .slice a9 l1.length c6), (6, .slice a11 l2.length c7), (7, .int .i64 s1.2.2)]) (by kernel_rfl) ?_
          refine Run_blk ?_
          refine Run_reg 3 (by kernel_rfl) (L' := [(0, .slice aa_ a_.length ca_), (4, .int .i64 (a_.length : Int)), (5, .slice a9 l1.length c6), (6, .slice a11 l2.length c7), (7, .int .i64 (w64 (s1.2.2 + 1)))]) ?_ ?_
          · refine QRun_b [.int .i64 s1.2.2, .int .i64 (w64 (s1.2.2 + 1)), .int .i64 (w64 (s1.2.2 + 1))] 0 _ (by kernel_rfl) (fun w => by kernel_rfl) ?_
            exact QRun_done [0, 4, 5, 6, 7] (by kernel_rfl) (by kernel_rfl)
          have H21 : Hold h h14 [own cd2 a9 l1.length c6 l1, own cd2 a11 l2.length c7 l2] := H20.pick [1, 0] (by kernel_rfl)
          have H22 : Hold h h14 [own cd2 a11 l2.length c7 l2, own cd2 a9 l1.length c6 l1] := H21.pick [1, 0] (by kernel_rfl)
          have H23 : Hold h h14 [own cd2 a9 l1.length c6 l1, own cd2 a11 l2.length c7 l2] := H22.pick [1, 0] (by kernel_rfl)
          have hB1 := M.ret_some hB1
          have gx1 := hgoy1 _ hB1.symm
          exact Run_again [0, 4, 5, 6, 7] (by kernel_rfl) my1 (Nat.lt_succ_self _) ⟨(l1, l2, (w64 (s1.2.2 + 1))), a9, c6, a11, c7, gx1, rfl, H23⟩
        · refine Run_block ?_
          refine Run_keep [0, 4, 5, 6, 7, 10, 11, 12, 13] (L' := [(0, .slice aa_ a_.length ca_), (4, .int .i64 (a_.length : Int)), (5, .slice a3 s1.1.length c1), (6, .slice a4 s1.2.1.length c2), (7, .int .i64 s1.2.2), (10, .int .i64 (w64 ((a_.length : Int) - x2))), (11, .int .i64 (-1000000000000000)), (12, .int .i64 0), (13, .int .i64 0)]) (by kernel_rfl) ?_
          refine Run_loop (fun m L' h' => ∃ (i2 : Int) (s3 : Int × Int), 0 ≤ i2 ∧ M.forN (a_.length : Int) _ _ n m i2 s3 = some x3 ∧ L' = [(0, .slice aa_ a_.length ca_), (4, .int .i64 (a_.length : Int)), (5, .slice a3 s1.1.length c1), (6, .slice a4 s1.2.1.length c2), (7, .int .i64 s1.2.2), (10, .int .i64 (w64 ((a_.length : Int) - x2))), (11, .int .i64 s3.1), (12, .int .i64 s3.2), (13, .int .i64 i2)] ∧ Hold h h' [own cd2 a3 s1.1.length c1 s1.1, own cd2 a4 s1.2.1.length c2 s1.2.1]) ((a_.length : Int) - 0 : Int).toNat ⟨0, ((-1000000000000000), 0), Int.le_refl _, gx3, rfl, H6⟩ ?_
          rintro my3 _ h7 ⟨i2, s3, hloy3', gx3, rfl, H7⟩
          refine Run_seq ?_
          refine Run_seq ?_
          refine Run_reg 3 (by kernel_rfl) (L' := [(0, .slice aa_ a_.length ca_), (4, .int .i64 (a_.length : Int)), (5, .slice a3 s1.1.length c1), (6, .slice a4 s1.2.1.length c2), (7, .int .i64 s1.2.2), (10, .int .i64 (w64 ((a_.length : Int) - x2))), (11, .int .i64 s3.1), (12, .int .i64 s3.2), (13, .int .i64 i2), (44, .bool (decide (i2 < (a_.length : Int))))]) ?_ ?_
          · refine QRun_b [.int .i64 i2, .int .i64 (a_.length : Int), .bool (decide (i2 < (a_.length : Int)))] 0 _ (by kernel_rfl) (fun w => by kernel_rfl) ?_
            exact QRun_done [0, 4, 5, 6, 7, 10, 11, 12, 13, 44] (by kernel_rfl) (by kernel_rfl)
          refine Run_cond (b := decide (i2 < (a_.length : Int))) (by kernel_rfl) (fun hb3 => ?_) (fun hb3 => ?_)
          · obtain ⟨my3, y3, rfl, hB3, hgoy3, houty3⟩ := M.for_go gx3 hb3
            have hlty3 := of_decide_eq_true hb3
            refine Run_skip ?_
            refine Run_seq ?_
            obtain ⟨s4, gs4, hB3⟩ := M.bind_some hB3
            refine Run_join (fun L' h' => L' = [(0, .slice aa_ a_.length ca_), (4, .int .i64 (a_.length : Int)), (5, .slice a3 s1.1.length c1), (6, .slice a4 s1.2.1.length c2), (7, .int .i64 s1.2.2), (10, .int .i64 (w64 ((a_.length : Int) - x2))), (11, .int .i64 s4.1), (12, .int .i64 s4.2), (13, .int .i64 i2)] ∧ Hold h h' [own cd2 a3 s1.1.length c1 s1.1, own cd2 a4 s1.2.1.length c2 s1.2.1]) ?_ ?_
            · rintro _ h10 ⟨rfl, H10⟩
              refine Run_reg 3 (by kernel_rfl) (L' := [(0, .slice aa_ a_.length ca_), (4, .int .i64 (a_.length : Int)), (5, .slice a3 s1.1.length c1), (6, .slice a4 s1.2.1.length c2), (7, .int .i64 s1.2.2), (10, .int .i64 (w64 ((a_.length : Int) - x2))), (11, .int .i64 s4.1), (12, .int .i64 s4.2), (13, .int .i64 (i2 + 1))]) ?_ ?_
              · refine QRun_b [.int .i64 i2] 0 _ (by kernel_rfl) (fun w => by kernel_rfl) ?_
                refine QRun_y (.int .i64 (i2 + 1)) (by kernel_rfl) (Y_eq (v := .int .i64 (w64 (i2 + 1))) (Y_pure (fun w => by kernel_rfl)) (by rw [w64_eq _ (by omega)])) ?_
                refine QRun_b [.int .i64 (i2 + 1)] 2 _ (by kernel_rfl) (fun w => by kernel_rfl) ?_
                exact QRun_done [0, 4, 5, 6, 7, 10, 11, 12, 13] (by kernel_rfl) (by kernel_rfl)
              have hB3 := M.ret_some hB3
              have gx3 := hgoy3 _ hB3.symm
              exact Run_again [0, 4, 5, 6, 7, 10, 11, 12, 13] (by kernel_rfl) my3 (Nat.lt_succ_self _) ⟨i2 + 1, (s4.1, s4.2), by omega, gx3, rfl, H10⟩
            · refine Run_block ?_
              refine Run_seq ?_
              refine Run_seq ?_
              obtain ⟨u3, hz3, gs4⟩ := M.bind_some gs4
              have hz3 := M.guard_some hz3
              refine Run_reg 6 (by kernel_rfl) (L' := [(0, .slice aa_ a_.length ca_), (4, .int .i64 (a_.length : Int)), (5, .slice a3 s1.1.length c1), (6, .slice a4 s1.2.1.length c2), (7, .int .i64 s1.2.2), (10, .int .i64 (w64 ((a_.length : Int) - x2))), (11, .int .i64 s3.1), (12, .int .i64 s3.2), (13, .int .i64 i2), (52, .bool ((ibit .and .i64 (ishr .i64 s1.2.2 (IntKind.u64.wrap (i2))) 1) == 0))]) ?_ ?_
              · refine QRun_b [.int .i64 s1.2.2, .int .i64 i2, .int .u64 (IntKind.u64.wrap (i2))] 0 _ (by kernel_rfl) (fun w => by kernel_rfl) ?_
                refine QRun_y (.int .i64 (ishr .i64 s1.2.2 (IntKind.u64.wrap (i2)))) (by kernel_rfl) (Y_shr (k := .i64) (x := s1.2.2) (kk := .u64) (y := IntKind.u64.wrap (i2)) (by kernel_rfl) hz3) ?_
                refine QRun_b [.int .i64 (ibit .and .i64 (ishr .i64 s1.2.2 (IntKind.u64.wrap (i2))) 1), .bool ((ibit .and .i64 (ishr .i64 s1.2.2 (IntKind.u64.wrap (i2))) 1) == 0)] 4 _ (by kernel_rfl) (fun w => by kernel_rfl) ?_
                exact QRun_done [0, 4, 5, 6, 7, 10, 11, 12, 13, 52] (by kernel_rfl) (by kernel_rfl)
              refine Run_cond (b := (ibit .and .i64 (ishr .i64 s1.2.2 (IntKind.u64.wrap (i2))) 1) == 0) (by kernel_rfl) (fun hb4 => ?_) (fun hb4 => ?_)
              · have gs4 := (M.ite_some gs4).1 hb4
                refine Run_exit (k' := _) rfl ?_
                have gs4 := M.ret_some gs4
                subst gs4
                exact Run_fall [0, 4, 5, 6, 7, 10, 11, 12, 13] (by kernel_rfl) ⟨rfl, H7⟩
              · have gs4 := (M.ite_some gs4).2 hb4
                refine Run_skip ?_
                refine Run_seq ?_
                obtain ⟨u4, hz4, gs4⟩ := M.bind_some gs4
                have hz4 := M.guard_some hz4
                refine Run_reg 6 (by kernel_rfl) (L' := [(0, .slice aa_ a_.length ca_), (4, .int .i64 (a_.length : Int)), (5, .slice a3 s1.1.length c1), (6, .slice a4 s1.2.1.length c2), (7, .int .i64 s1.2.2), (10, .int .i64 (w64 ((a_.length : Int) - x2))), (11, .int .i64 s3.1), (12, .int .i64 s3.2), (13, .int .i64 i2), (14, .int .i64 (w64 (s1.2.2 - (ishl .i64 1 (IntKind.u64.wrap (i2))))))]) ?_ ?_
                · refine QRun_b [.int .i64 s1.2.2, .int .i64 i2, .int .u64 (IntKind.u64.wrap (i2))] 0 _ (by kernel_rfl) (fun w => by kernel_rfl) ?_
                  refine QRun_y (.int .i64 (ishl .i64 1 (IntKind.u64.wrap (i2)))) (by kernel_rfl) (Y_shl (k := .i64) (x := 1) (kk := .u64) (y := IntKind.u64.wrap (i2)) (by kernel_rfl) hz4) ?_
                  refine QRun_b [.int .i64 (w64 (s1.2.2 - (ishl .i64 1 (IntKind.u64.wrap (i2))))), .int .i64 (w64 (s1.2.2 - (ishl .i64 1 (IntKind.u64.wrap (i2)))))] 4 _ (by kernel_rfl) (fun w => by kernel_rfl) ?_
                  exact QRun_done [0, 4, 5, 6, 7, 10, 11, 12, 13, 14] (by kernel_rfl) (by kernel_rfl)
                refine Run_seq ?_
                obtain ⟨x4, hx1, gs4⟩ := M.bind_some gs4
                obtain ⟨hx1l, hx1u, hx1⟩ := M.idx_some hx1
                obtain ⟨a7, c5, hc1, r1⟩ := ra_.row hx1
                obtain ⟨x5, hx2, gs4⟩ := M.bind_some gs4
                obtain ⟨hx2l, hx2u, hx2⟩ := M.idx_some hx2
                obtain ⟨x6, hx3, gs4⟩ := M.bind_some gs4
                obtain ⟨hx3l, hx3u, hx3⟩ := M.idx_some hx3
                obtain ⟨x7, hx4, gs4⟩ := M.bind_some gs4
                refine Run_draw 13 mixed (by kernel_rfl) (by kernel_rfl) (L' := [(0, .slice aa_ a_.length ca_), (4, .int .i64 (a_.length : Int)), (5, .slice a3 s1.1.length c1), (6, .slice a4 s1.2.1.length c2), (7, .int .i64 s1.2.2), (10, .int .i64 (w64 ((a_.length : Int) - x2))), (11, .int .i64 s3.1), (12, .int .i64 s3.2), (13, .int .i64 i2), (14, .int .i64 (w64 (s1.2.2 - (ishl .i64 1 (IntKind.u64.wrap (i2)))))), (15, .int .i64 x7)]) ?_ ?_
                · refine QRun_b [.slice aa_ a_.length ca_, .int .i64 (w64 ((a_.length : Int) - x2))] 0 _ (by kernel_rfl) (fun w => by kernel_rfl) ?_
                  refine QRun_y (.pointer (some (adr aa_ ((w64 ((a_.length : Int) - x2)).toNat * 1)))) (by kernel_rfl) (Y_idx (t := 37) (e := 39) (sz := 1) (a := aa_) (n := a_.length) (cap := ca_) (kk := .i64) (i := w64 ((a_.length : Int) - x2)) (by kernel_rfl) Try.underlying37 (by kernel_rfl) ((ra_.at H7.ext).cell hx1).1 hx1l hx1u) ?_
                  refine QRun_y (.slice a7 x4.length c5) (by kernel_rfl) (Y_load1 (t := 39) (p := adr aa_ ((w64 ((a_.length : Int) - x2)).toNat * 1)) (v := .slice a7 x4.length c5) (by kernel_rfl) (fun w => by kernel_rfl) (cell_at H7.ext hc1)) ?_
                  refine QRun_b [.int .i64 i2] 4 _ (by kernel_rfl) (fun w => by kernel_rfl) ?_
                  refine QRun_y (.pointer (some (adr a7 (i2.toNat * 1)))) (by kernel_rfl) (Y_idx (t := 39) (e := 2) (sz := 1) (a := a7) (n := x4.length) (cap := c5) (kk := .i64) (i := i2) (by kernel_rfl) Try.underlying39 (by kernel_rfl) ((r1.at H7.ext).cell hx2).1 hx2l hx2u) ?_
                  refine QRun_y (.int .i64 x5) (by kernel_rfl) (Y_load1 (t := 2) (p := adr a7 (i2.toNat * 1)) (v := .int .i64 x5) (by kernel_rfl) (fun w => by kernel_rfl) (cd2_cell (r1.at H7.ext) hx2)) ?_
                  refine QRun_b [.slice a3 s1.1.length c1, .int .i64 (w64 (s1.2.2 - (ishl .i64 1 (IntKind.u64.wrap (i2)))))] 7 _ (by kernel_rfl) (fun w => by kernel_rfl) ?_
                  refine QRun_y (.pointer (some (adr a3 ((w64 (s1.2.2 - (ishl .i64 1 (IntKind.u64.wrap (i2))))).toNat * 1)))) (by kernel_rfl) (Y_idx (t := 39) (e := 2) (sz := 1) (a := a3) (n := s1.1.length) (cap := c1) (kk := .i64) (i := w64 (s1.2.2 - (ishl .i64 1 (IntKind.u64.wrap (i2))))) (by kernel_rfl) Try.underlying39 (by kernel_rfl) ((H7.rd 0 rfl).cell hx3).1 hx3l hx3u) ?_
                  refine QRun_y (.int .i64 x6) (by kernel_rfl) (Y_load1 (t := 2) (p := adr a3 ((w64 (s1.2.2 - (ishl .i64 1 (IntKind.u64.wrap (i2))))).toNat * 1)) (v := .int .i64 x6) (by kernel_rfl) (fun w => by kernel_rfl) (cd2_cell (H7.rd 0 rfl) hx3)) ?_
                  refine QRun_y (.int .i64 x7) (by kernel_rfl) (Y_callq (f := 117) (args := #[.int .i64 x5, .int .i64 x6]) (v := .int .i64 x7) (by kernel_rfl) (w_spec_l01Times h7 x5 x6 _ _ hx4)) ?_
                  refine QRun_b [.int .i64 x7] 12 _ (by kernel_rfl) (fun w => by kernel_rfl) ?_
                  exact QRun_done [0, 4, 5, 6, 7, 10, 11, 12, 13, 14, 15] (by kernel_rfl) (by kernel_rfl)
                refine Run_block ?_
                refine Run_seq ?_
                refine Run_reg 3 (by kernel_rfl) (L' := [(0, .slice aa_ a_.length ca_), (4, .int .i64 (a_.length : Int)), (5, .slice a3 s1.1.length c1), (6, .slice a4 s1.2.1.length c2), (7, .int .i64 s1.2.2), (10, .int .i64 (w64 ((a_.length : Int) - x2))), (11, .int .i64 s3.1), (12, .int .i64 s3.2), (13, .int .i64 i2), (14, .int .i64 (w64 (s1.2.2 - (ishl .i64 1 (IntKind.u64.wrap (i2)))))), (15, .int .i64 x7), (70, .bool (x7 == (-1000000000000000)))]) ?_ ?_
                · refine QRun_b [.int .i64 x7, .bool (x7 == (-1000000000000000)), .bool (x7 == (-1000000000000000))] 0 _ (by kernel_rfl) (fun w => by kernel_rfl) ?_
                  exact QRun_done [0, 4, 5, 6, 7, 10, 11, 12, 13, 14, 15, 70] (by kernel_rfl) (by kernel_rfl)
                refine Run_cond (b := x7 == (-1000000000000000)) (by kernel_rfl) (fun hb5 => ?_) (fun hb5 => ?_)
                · have gs4 := (M.ite_some gs4).1 hb5
                  refine Run_exit (k' := _) rfl ?_
                  have gs4 := M.ret_some gs4
                  subst gs4
                  exact Run_fall [0, 4, 5, 6, 7, 10, 11, 12, 13] (by kernel_rfl) ⟨rfl, H7⟩
                · have gs4 := (M.ite_some gs4).2 hb5
                  refine Run_seq ?_
                  refine Run_reg 4 (by kernel_rfl) (L' := [(0, .slice aa_ a_.length ca_), (4, .int .i64 (a_.length : Int)), (5, .slice a3 s1.1.length c1), (6, .slice a4 s1.2.1.length c2), (7, .int .i64 s1.2.2), (10, .int .i64 (w64 ((a_.length : Int) - x2))), (11, .int .i64 s3.1), (12, .int .i64 s3.2), (13, .int .i64 i2), (14, .int .i64 (w64 (s1.2.2 - (ishl .i64 1 (IntKind.u64.wrap (i2)))))), (15, .int .i64 x7), (73, .bool (decide (s3.1 < x7)))]) ?_ ?_
                  · refine QRun_b [.int .i64 x7, .int .i64 s3.1, .bool (decide (s3.1 < x7)), .bool (decide (s3.1 < x7))] 0 _ (by kernel_rfl) (fun w => by kernel_rfl) ?_
                    exact QRun_done [0, 4, 5, 6, 7, 10, 11, 12, 13, 14, 15, 73] (by kernel_rfl) (by kernel_rfl)
                  obtain ⟨s5, gs5, gs4⟩ := M.bind_some gs4
                  refine Run_join (fun L' h' => L' = [(0, .slice aa_ a_.length ca_), (4, .int .i64 (a_.length : Int)), (5, .slice a3 s1.1.length c1), (6, .slice a4 s1.2.1.length c2), (7, .int .i64 s1.2.2), (10, .int .i64 (w64 ((a_.length : Int) - x2))), (11, .int .i64 s5.1), (12, .int .i64 s5.2), (13, .int .i64 i2)] ∧ Hold h h' [own cd2 a3 s1.1.length c1 s1.1, own cd2 a4 s1.2.1.length c2 s1.2.1]) ?_ ?_
                  · rintro _ h9 ⟨rfl, H9⟩
                    refine Run_blk ?_
                    refine Run_blk ?_
                    have gs4 := M.ret_some gs4
                    subst gs4
                    exact Run_fall [0, 4, 5, 6, 7, 10, 11, 12, 13] (by kernel_rfl) ⟨rfl, H9⟩
                  · refine Run_cond (b := decide (s3.1 < x7)) (by kernel_rfl) (fun hb6 => ?_) (fun hb6 => ?_)
                    · have gs5 := (M.ite_some gs5).1 hb6
                      refine Run_seq ?_
                      refine Run_reg 2 (by kernel_rfl) (L' := [(0, .slice aa_ a_.length ca_), (4, .int .i64 (a_.length : Int)), (5, .slice a3 s1.1.length c1), (6, .slice a4 s1.2.1.length c2), (7, .int .i64 s1.2.2), (10, .int .i64 (w64 ((a_.length : Int) - x2))), (11, .int .i64 x7), (13, .int .i64 i2), (14, .int .i64 (w64 (s1.2.2 - (ishl .i64 1 (IntKind.u64.wrap (i2))))))]) ?_ ?_
                      · refine QRun_b [.int .i64 x7, .int .i64 x7] 0 _ (by kernel_rfl) (fun w => by kernel_rfl) ?_
                        exact QRun_done [0, 4, 5, 6, 7, 10, 11, 13, 14] (by kernel_rfl) (by kernel_rfl)
                      obtain ⟨x8, hx5, gs5⟩ := M.bind_some gs5
                      obtain ⟨hx5l, hx5u, hx5⟩ := M.idx_some hx5
                      refine Run_reg 5 (by kernel_rfl) (L' := [(0, .slice aa_ a_.length ca_), (4, .int .i64 (a_.length : Int)), (5, .slice a3 s1.1.length c1), (6, .slice a4 s1.2.1.length c2), (7, .int .i64 s1.2.2), (10, .int .i64 (w64 ((a_.length : Int) - x2))), (11, .int .i64 x7), (12, .int .i64 x8), (13, .int .i64 i2)]) ?_ ?_
                      · refine QRun_b [.slice a4 s1.2.1.length c2, .int .i64 (w64 (s1.2.2 - (ishl .i64 1 (IntKind.u64.wrap (i2)))))] 0 _ (by kernel_rfl) (fun w => by kernel_rfl) ?_
                        refine QRun_y (.pointer (some (adr a4 ((w64 (s1.2.2 - (ishl .i64 1 (IntKind.u64.wrap (i2))))).toNat * 1)))) (by kernel_rfl) (Y_idx (t := 39) (e := 2) (sz := 1) (a := a4) (n := s1.2.1.length) (cap := c2) (kk := .i64) (i := w64 (s1.2.2 - (ishl .i64 1 (IntKind.u64.wrap (i2))))) (by kernel_rfl) Try.underlying39 (by kernel_rfl) ((H7.rd 1 rfl).cell hx5).1 hx5l hx5u) ?_
                        refine QRun_y (.int .i64 x8) (by kernel_rfl) (Y_load1 (t := 2) (p := adr a4 ((w64 (s1.2.2 - (ishl .i64 1 (IntKind.u64.wrap (i2))))).toNat * 1)) (v := .int .i64 x8) (by kernel_rfl) (fun w => by kernel_rfl) (cd2_cell (H7.rd 1 rfl) hx5)) ?_
                        refine QRun_b [.int .i64 x8] 4 _ (by kernel_rfl) (fun w => by kernel_rfl) ?_
                        exact QRun_done [0, 4, 5, 6, 7, 10, 11, 12, 13] (by kernel_rfl) (by kernel_rfl)
                      have gs5 := M.ret_some gs5
                      subst gs5
                      exact Run_fall [0, 4, 5, 6, 7, 10, 11, 12, 13] (by kernel_rfl) ⟨rfl, H7⟩
                    · have gs5 := (M.ite_some gs5).2 hb6
                      refine Run_seq ?_
                      refine Run_reg 4 (by kernel_rfl) (L' := [(0, .slice aa_ a_.length ca_), (4, .int .i64 (a_.length : Int)), (5, .slice a3 s1.1.length c1), (6, .slice a4 s1.2.1.length c2), (7, .int .i64 s1.2.2), (10, .int .i64 (w64 ((a_.length : Int) - x2))), (11, .int .i64 s3.1), (12, .int .i64 s3.2), (13, .int .i64 i2), (14, .int .i64 (w64 (s1.2.2 - (ishl .i64 1 (IntKind.u64.wrap (i2)))))), (82, .bool (x7 == s3.1))]) ?_ ?_
                      · refine QRun_b [.int .i64 x7, .int .i64 s3.1, .bool (x7 == s3.1), .bool (x7 == s3.1)] 0 _ (by kernel_rfl) (fun w => by kernel_rfl) ?_
                        exact QRun_done [0, 4, 5, 6, 7, 10, 11, 12, 13, 14, 82] (by kernel_rfl) (by kernel_rfl)
                      refine Run_cond (b := x7 == s3.1) (by kernel_rfl) (fun hb7 => ?_) (fun hb7 => ?_)
                      · have gs5 := (M.ite_some gs5).1 hb7
                        obtain ⟨x9, hx6, gs5⟩ := M.bind_some gs5
                        obtain ⟨hx6l, hx6u, hx6⟩ := M.idx_some hx6
                        refine Run_reg 7 (by kernel_rfl) (L' := [(0, .slice aa_ a_.length ca_), (4, .int .i64 (a_.length : Int)), (5, .slice a3 s1.1.length c1), (6, .slice a4 s1.2.1.length c2), (7, .int .i64 s1.2.2), (10, .int .i64 (w64 ((a_.length : Int) - x2))), (11, .int .i64 s3.1), (12, .int .i64 (w64 (s3.2 + x9))), (13, .int .i64 i2)]) ?_ ?_
                        · refine QRun_b [.int .i64 s3.2, .slice a4 s1.2.1.length c2, .int .i64 (w64 (s1.2.2 - (ishl .i64 1 (IntKind.u64.wrap (i2)))))] 0 _ (by kernel_rfl) (fun w => by kernel_rfl) ?_
                          refine QRun_y (.pointer (some (adr a4 ((w64 (s1.2.2 - (ishl .i64 1 (IntKind.u64.wrap (i2))))).toNat * 1)))) (by kernel_rfl) (Y_idx (t := 39) (e := 2) (sz := 1) (a := a4) (n := s1.2.1.length) (cap := c2) (kk := .i64) (i := w64 (s1.2.2 - (ishl .i64 1 (IntKind.u64.wrap (i2))))) (by kernel_rfl) Try.underlying39 (by kernel_rfl) ((H7.rd 1 rfl).cell hx6).1 hx6l hx6u) ?_
                          refine QRun_y (.int .i64 x9) (by kernel_rfl) (Y_load1 (t := 2) (p := adr a4 ((w64 (s1.2.2 - (ishl .i64 1 (IntKind.u64.wrap (i2))))).toNat * 1)) (v := .int .i64 x9) (by kernel_rfl) (fun w => by kernel_rfl) (cd2_cell (H7.rd 1 rfl) hx6)) ?_
                          refine QRun_b [.int .i64 (w64 (s3.2 + x9)), .int .i64 (w64 (s3.2 + x9))] 5 _ (by kernel_rfl) (fun w => by kernel_rfl) ?_
                          exact QRun_done [0, 4, 5, 6, 7, 10, 11, 12, 13] (by kernel_rfl) (by kernel_rfl)
                        have gs5 := M.ret_some gs5
                        subst gs5
                        exact Run_fall [0, 4, 5, 6, 7, 10, 11, 12, 13] (by kernel_rfl) ⟨rfl, H7⟩
                      · have gs5 := (M.ite_some gs5).2 hb7
                        refine Run_skip ?_
                        have gs5 := M.ret_some gs5
                        subst gs5
                        exact Run_fall [0, 4, 5, 6, 7, 10, 11, 12, 13] (by kernel_rfl) ⟨rfl, H7⟩
          · have gx3 := M.for_end gx3 hb3
            subst gx3
            refine Run_exit (k' := _) rfl ?_
            exact Run_fall [0, 4, 5, 6, 7, 11, 12] (by kernel_rfl) ⟨rfl, H7⟩
      · refine Run_block ?_
        refine Run_keep [0, 4, 5, 6, 7, 8, 9] (L' := [(0, .slice aa_ a_.length ca_), (4, .int .i64 (a_.length : Int)), (5, .slice a3 s1.1.length c1), (6, .slice a4 s1.2.1.length c2), (7, .int .i64 s1.2.2), (8, .int .i64 0), (9, .int .i64 0)]) (by kernel_rfl) ?_
        refine Run_loop (fun m L' h' => ∃ (i1 : Int) (s2 : Int), 0 ≤ i1 ∧ M.forN (a_.length : Int) _ _ n m i1 s2 = some x2 ∧ L' = [(0, .slice aa_ a_.length ca_), (4, .int .i64 (a_.length : Int)), (5, .slice a3 s1.1.length c1), (6, .slice a4 s1.2.1.length c2), (7, .int .i64 s1.2.2), (8, .int .i64 s2), (9, .int .i64 i1)] ∧ Hold h h' [own cd2 a3 s1.1.length c1 s1.1, own cd2 a4 s1.2.1.length c2 s1.2.1]) ((a_.length : Int) - 0 : Int).toNat ⟨0, 0, Int.le_refl _, gx2, rfl, H3⟩ ?_
        rintro my2 _ h5 ⟨i1, s2, hloy2', gx2, rfl, H5⟩
        refine Run_seq ?_
        refine Run_seq ?_
        refine Run_reg 3 (by kernel_rfl) (L' := [(0, .slice aa_ a_.length ca_), (4, .int .i64 (a_.length : Int)), (5, .slice a3 s1.1.length c1), (6, .slice a4 s1.2.1.length c2), (7, .int .i64 s1.2.2), (8, .int .i64 s2), (9, .int .i64 i1), (29, .bool (decide (i1 < (a_.length : Int))))]) ?_ ?_
        · refine QRun_b [.int .i64 i1, .int .i64 (a_.length : Int), .bool (decide (i1 < (a_.length : Int)))] 0 _ (by kernel_rfl) (fun w => by kernel_rfl) ?_
          exact QRun_done [0, 4, 5, 6, 7, 8, 9, 29] (by kernel_rfl) (by kernel_rfl)
        refine Run_cond (b := decide (i1 < (a_.length : Int))) (by kernel_rfl) (fun hb2 => ?_) (fun hb2 => ?_)
        · obtain ⟨my2, y2, rfl, hB2, hgoy2, houty2⟩ := M.for_go gx2 hb2
          have hlty2 := of_decide_eq_true hb2
          refine Run_skip ?_
          refine Run_seq ?_
          refine Run_block ?_
          obtain ⟨u2, hz2, hB2⟩ := M.bind_some hB2
          have hz2 := M.guard_some hz2
          refine Run_reg 8 (by kernel_rfl) (L' := [(0, .slice aa_ a_.length ca_), (4, .int .i64 (a_.length : Int)), (5, .slice a3 s1.1.length c1), (6, .slice a4 s1.2.1.length c2), (7, .int .i64 s1.2.2), (8, .int .i64 (w64 (s2 + (ibit .and .i64 (ishr .i64 s1.2.2 (IntKind.u64.wrap (i1))) 1)))), (9, .int .i64 i1)]) ?_ ?_
          · refine QRun_b [.int .i64 s2, .int .i64 s1.2.2, .int .i64 i1, .int .u64 (IntKind.u64.wrap (i1))] 0 _ (by kernel_rfl) (fun w => by kernel_rfl) ?_
            refine QRun_y (.int .i64 (ishr .i64 s1.2.2 (IntKind.u64.wrap (i1)))) (by kernel_rfl) (Y_shr (k := .i64) (x := s1.2.2) (kk := .u64) (y := IntKind.u64.wrap (i1)) (by kernel_rfl) hz2) ?_
            refine QRun_b [.int .i64 (ibit .and .i64 (ishr .i64 s1.2.2 (IntKind.u64.wrap (i1))) 1), .int .i64 (w64 (s2 + (ibit .and .i64 (ishr .i64 s1.2.2 (IntKind.u64.wrap (i1))) 1))), .int .i64 (w64 (s2 + (ibit .and .i64 (ishr .i64 s1.2.2 (IntKind.u64.wrap (i1))) 1)))] 5 _ (by kernel_rfl) (fun w => by kernel_rfl) ?_
            exact QRun_done [0, 4, 5, 6, 7, 8, 9] (by kernel_rfl) (by kernel_rfl)
          refine Run_blk ?_
          refine Run_reg 3 (by kernel_rfl) (L' := [(0, .slice aa_ a_.length ca_), (4, .int .i64 (a_.length : Int)), (5, .slice a3 s1.1.length c1), (6, .slice a4 s1.2.1.length c2), (7, .int .i64 s1.2.2), (8, .int .i64 (w64 (s2 + (ibit .and .i64 (ishr .i64 s1.2.2 (IntKind.u64.wrap (i1))) 1)))), (9, .int .i64 (i1 + 1))]) ?_ ?_
          · refine QRun_b [.int .i64 i1] 0 _ (by kernel_rfl) (fun w => by kernel_rfl) ?_
            refine QRun_y (.int .i64 (i1 + 1)) (by kernel_rfl) (Y_eq (v := .int .i64 (w64 (i1 + 1))) (Y_pure (fun w => by kernel_rfl)) (by rw [w64_eq _ (by omega)])) ?_
            refine QRun_b [.int .i64 (i1 + 1)] 2 _ (by kernel_rfl) (fun w => by kernel_rfl) ?_
            exact QRun_done [0, 4, 5, 6, 7, 8, 9] (by kernel_rfl) (by kernel_rfl)
          have hB2 := M.ret_some hB2
          have gx2 := hgoy2 _ hB2.symm
          exact Run_again [0, 4, 5, 6, 7, 8, 9] (by kernel_rfl) my2 (Nat.lt_succ_self _) ⟨i1 + 1, (w64 (s2 + (ibit .and .i64 (ishr .i64 s1.2.2 (IntKind.u64.wrap (i1))) 1))), by omega, gx2, rfl, H5⟩
        · have gx2 := M.for_end gx2 hb2
          subst gx2
          refine Run_exit (k' := _) rfl ?_
          exact Run_fall [0, 4, 5, 6, 7, 8] (by kernel_rfl) ⟨rfl, H5⟩
    · have hB1 := (M.ite_some hB1).2 hb1
      refine Run_exit (k' := _) rfl ?_
      have H24 : Hold h h3 [own cd2 a4 s1.2.1.length c2 s1.2.1, own cd2 a3 s1.1.length c1 s1.1] := H3.pick [1, 0] (by kernel_rfl)
      have H25 : Hold h h3 [own cd2 a3 s1.1.length c1 s1.1, own cd2 a4 s1.2.1.length c2 s1.2.1] := H24.pick [1, 0] (by kernel_rfl)
      have hB1 := M.ret_some hB1
      have gx1 := houty1 _ hB1.symm
      subst gx1
      exact Run_fall [5, 6] (by kernel_rfl) ⟨a3, c1, a4, c2, rfl, H25⟩

set_option maxRecDepth 100000 in
set_option maxHeartbeats 4000000 in
theorem w_spec_l10Assignment (h : Heap) (a_ : List (List Int)) (aa_ : Option Addr) (ca_ : Nat) (ra_ : Rd cd39 h (Lt h) aa_ ca_ a_) (n : Nat) (r : (List Int) × Bool) (hF : spec_l10Assignment a_ n = some r) :
    Fn Try.prog 83 #[.slice aa_ a_.length ca_] h fun v h' => ∃ (a0 : Option Addr) (c0 : Nat), v = .tuple #[.slice a0 r.1.length c0, .bool r.2] ∧ Hold h h' [own cd2 a0 r.1.length c0 r.1] := by
  unfold spec_l10Assignment at hF
  refine Fn_enter (args := [.slice aa_ a_.length ca_]) Try.func83 rfl (by kernel_rfl) (by kernel_rfl) (fun w0 _ => ?_)
  have H0 := Hold.init h
  refine Run_seq ?_
  refine Run_reg 2 (by kernel_rfl) (L' := [(0, .slice aa_ a_.length ca_)]) ?_ ?_
  · refine QRun_b [.slice none 0 0, .bool false] 0 _ (by kernel_rfl) (fun w => by kernel_rfl) ?_
    exact QRun_done [0] (by kernel_rfl) (by kernel_rfl)
  refine Run_seq ?_
  refine Run_ops ?_
  refine Run_b [.slice aa_ a_.length ca_] 0 _ (by kernel_rfl) (fun w => by kernel_rfl) ?_
  obtain ⟨x1, hx1, hF⟩ := M.bind_some hF
  refine Run_E (by kernel_rfl) ?_
  refine E_call (f := 133) (args := #[.slice aa_ a_.length ca_]) (w_spec_l10Best h a_ aa_ ca_ ra_ _ _ hx1) (by kernel_rfl) (fun v1 h1 hp1 => ?_)
  obtain ⟨a1, c1, a2, c2, rfl, H1⟩ := hp1
  have H2 : Hold h h1 [own cd2 a1 x1.1.length c1 x1.1, own cd2 a2 x1.2.length c2 x1.2] := H0.call H1 rfl
  refine Run_b [.tuple #[.slice a1 x1.1.length c1, .slice a2 x1.2.length c2], .slice a1 x1.1.length c1, .slice a2 x1.2.length c2, .slice a1 x1.1.length c1, .slice a2 x1.2.length c2] 2 _ (by kernel_rfl) (fun w => by kernel_rfl) ?_
  refine Run_nil (by kernel_rfl) ?_
  refine Run_keep [0, 4] (L' := [(0, .slice aa_ a_.length ca_), (4, .slice a1 x1.1.length c1)]) (by kernel_rfl) ?_
  refine Run_seq ?_
  refine Run_reg 4 (by kernel_rfl) (L' := [(0, .slice aa_ a_.length ca_), (4, .slice a1 x1.1.length c1), (6, .int .i64 (w64 ((x1.1.length : Int) - 1)))]) ?_ ?_
  · refine QRun_b [.slice a1 x1.1.length c1, .int .i64 (x1.1.length : Int), .int .i64 (w64 ((x1.1.length : Int) - 1)), .int .i64 (w64 ((x1.1.length : Int) - 1))] 0 _ (by kernel_rfl) (fun w => by kernel_rfl) ?_
    exact QRun_done [0, 4, 6] (by kernel_rfl) (by kernel_rfl)
  refine Run_seq ?_
  refine Run_seq ?_
  obtain ⟨x2, hx2, hF⟩ := M.bind_some hF
  obtain ⟨hx2l, hx2u, hx2⟩ := M.idx_some hx2
  refine Run_reg 5 (by kernel_rfl) (L' := [(0, .slice aa_ a_.length ca_), (4, .slice a1 x1.1.length c1), (6, .int .i64 (w64 ((x1.1.length : Int) - 1))), (22, .bool (x2 == (-1000000000000000)))]) ?_ ?_
  · refine QRun_b [.slice a1 x1.1.length c1, .int .i64 (w64 ((x1.1.length : Int) - 1))] 0 _ (by kernel_rfl) (fun w => by kernel_rfl) ?_
    refine QRun_y (.pointer (some (adr a1 ((w64 ((x1.1.length : Int) - 1)).toNat * 1)))) (by kernel_rfl) (Y_idx (t := 39) (e := 2) (sz := 1) (a := a1) (n := x1.1.length) (cap := c1) (kk := .i64) (i := w64 ((x1.1.length : Int) - 1)) (by kernel_rfl) Try.underlying39 (by kernel_rfl) ((H2.rd 0 rfl).cell hx2).1 hx2l hx2u) ?_
    refine QRun_y (.int .i64 x2) (by kernel_rfl) (Y_load1 (t := 2) (p := adr a1 ((w64 ((x1.1.length : Int) - 1)).toNat * 1)) (v := .int .i64 x2) (by kernel_rfl) (fun w => by kernel_rfl) (cd2_cell (H2.rd 0 rfl) hx2)) ?_
    refine QRun_b [.bool (x2 == (-1000000000000000))] 4 _ (by kernel_rfl) (fun w => by kernel_rfl) ?_
    exact QRun_done [0, 4, 6, 22] (by kernel_rfl) (by kernel_rfl)
  refine Run_cond (b := x2 == (-1000000000000000)) (by kernel_rfl) (fun hb1 => ?_) (fun hb1 => ?_)
  · have hF := (M.ite_some hF).1 hb1
    refine Run_seq ?_
    refine Run_reg 2 (by kernel_rfl) (L' := [(2, .slice none 0 0), (3, .bool false)]) ?_ ?_
    · refine QRun_b [.slice none 0 0, .bool false] 0 _ (by kernel_rfl) (fun w => by kernel_rfl) ?_
      exact QRun_done [2, 3] (by kernel_rfl) (by kernel_rfl)
    have hF := M.ret_some hF
    subst hF
    have H3 := H2.empty cd2
    have H4 : Hold h h1 [own cd2 none 0 0 []] := H3.pick [0] (by kernel_rfl)
    exact Run_ret2 rfl (ResV_tmp (v := .slice none 0 0) (by kernel_rfl)) (ResV_tmp (v := .bool false) (by kernel_rfl)) ⟨none, 0, rfl, H4⟩
  · have hF := (M.ite_some hF).2 hb1
    refine Run_skip ?_
    refine Run_seq ?_
    refine Run_ops ?_
    refine Run_E (by kernel_rfl) ?_
    refine E_lit (C := cd2) (n := 0) (l := ([] : List Int)) (cs := []) H2 (fun w => by kernel_rfl) (Enc.nil _ _) rfl (by decide) (fun a3 h2 H5 => ?_)
    refine Run_b [.slice a3 0 0] 1 _ (by kernel_rfl) (fun w => by kernel_rfl) ?_
    refine Run_nil (by kernel_rfl) ?_
    refine Run_keep [0, 4, 6, 7] (L' := [(0, .slice aa_ a_.length ca_), (4, .slice a1 x1.1.length c1), (6, .int .i64 (w64 ((x1.1.length : Int) - 1))), (7, .slice a3 0 0)]) (by kernel_rfl) ?_
    refine Run_seq ?_
    refine Run_seq ?_
    refine Run_reg 1 (by kernel_rfl) (L' := [(0, .slice aa_ a_.length ca_), (4, .slice a1 x1.1.length c1), (6, .int .i64 (w64 ((x1.1.length : Int) - 1))), (7, .slice a3 0 0), (8, .int .i64 0)]) ?_ ?_
    · refine QRun_b [.int .i64 0] 0 _ (by kernel_rfl) (fun w => by kernel_rfl) ?_
      exact QRun_done [0, 4, 6, 7, 8] (by kernel_rfl) (by kernel_rfl)
    obtain ⟨x3, gx3, hF⟩ := M.bind_some hF
    obtain ⟨hloy1, hhiy1, gx3⟩ := M.for_start gx3
    refine Run_join (fun L' h' => ∃ (a5 : Option Addr) (c4 : Nat), L' = [(7, .slice a5 x3.2.length c4)] ∧ Hold h h' [own cd2 a5 x3.2.length c4 x3.2]) ?_ ?_
    · rintro _ h4 ⟨a5, c4, rfl, H7⟩
      refine Run_seq ?_
      refine Run_reg 3 (by kernel_rfl) (L' := [(2, .slice a5 x3.2.length c4), (3, .bool true)]) ?_ ?_
      · refine QRun_b [.slice a5 x3.2.length c4, .slice a5 x3.2.length c4, .bool true] 0 _ (by kernel_rfl) (fun w => by kernel_rfl) ?_
        exact QRun_done [2, 3] (by kernel_rfl) (by kernel_rfl)
      have hF := M.ret_some hF
      subst hF
      exact Run_ret2 rfl (ResV_tmp (v := .slice a5 x3.2.length c4) (by kernel_rfl)) (ResV_tmp (v := .bool true) (by kernel_rfl)) ⟨a5, c4, rfl, H7⟩
    · refine Run_block ?_
      have hn1 := (H5.len 0 rfl)
      have H26 : Hold h h2 [own cd2 a3 (([] : List Int).length) 0 ([] : List Int), own cd2 a1 x1.1.length c1 x1.1, own cd2 a2 x1.2.length c2 x1.2] := by rw [hn1]; exact H5
      have H27 : Hold h h2 [own cd2 a1 x1.1.length c1 x1.1, own cd2 a3 (([] : List Int).length) 0 ([] : List Int)] := H26.pick [1, 0] (by kernel_rfl)
      refine Run_keep [0, 4, 6, 7, 8] (L' := [(0, .slice aa_ a_.length ca_), (4, .slice a1 x1.1.length c1), (6, .int .i64 (w64 ((x1.1.length : Int) - 1))), (7, .slice a3 (([] : List Int).length) 0), (8, .int .i64 0)]) (by first | (rw [hn1]; kernel_rfl) | (simp only [hn1]; kernel_rfl) | kernel_rfl) ?_
      refine Run_loop (fun m L' h' => ∃ (i1 : Int) (s1 : Int × (List Int)) (a4 : Option Addr) (c3 : Nat), 0 ≤ i1 ∧ M.forN (a_.length : Int) _ _ n m i1 s1 = some x3 ∧ L' = [(0, .slice aa_ a_.length ca_), (4, .slice a1 x1.1.length c1), (6, .int .i64 s1.1), (7, .slice a4 s1.2.length c3), (8, .int .i64 i1)] ∧ Hold h h' [own cd2 a1 x1.1.length c1 x1.1, own cd2 a4 s1.2.length c3 s1.2]) ((a_.length : Int) - 0 : Int).toNat ⟨0, ((w64 ((x1.1.length : Int) - 1)), ([] : List Int)), a3, 0, Int.le_refl _, gx3, rfl, H27⟩ ?_
      rintro my1 _ h3 ⟨i1, s1, a4, c3, hloy1', gx3, rfl, H6⟩
      refine Run_seq ?_
      refine Run_seq ?_
      refine Run_reg 4 (by kernel_rfl) (L' := [(0, .slice aa_ a_.length ca_), (4, .slice a1 x1.1.length c1), (6, .int .i64 s1.1), (7, .slice a4 s1.2.length c3), (8, .int .i64 i1), (27, .bool (decide (i1 < (a_.length : Int))))]) ?_ ?_
      · refine QRun_b [.int .i64 i1, .slice aa_ a_.length ca_, .int .i64 (a_.length : Int), .bool (decide (i1 < (a_.length : Int)))] 0 _ (by kernel_rfl) (fun w => by kernel_rfl) ?_
        exact QRun_done [0, 4, 6, 7, 8, 27] (by kernel_rfl) (by kernel_rfl)
      refine Run_cond (b := decide (i1 < (a_.length : Int))) (by kernel_rfl) (fun hb2 => ?_) (fun hb2 => ?_)
      · obtain ⟨my1, y1, rfl, hB1, hgoy1, houty1⟩ := M.for_go gx3 hb2
        have hlty1 := of_decide_eq_true hb2
        refine Run_skip ?_
        refine Run_seq ?_
        refine Run_block ?_
        refine Run_seq ?_
        refine Run_reg 1 (by kernel_rfl) (L' := [(0, .slice aa_ a_.length ca_), (4, .slice a1 x1.1.length c1), (6, .int .i64 s1.1), (7, .slice a4 s1.2.length c3), (8, .int .i64 i1), (9, .int .i64 0)]) ?_ ?_
        · refine QRun_b [.int .i64 0] 0 _ (by kernel_rfl) (fun w => by kernel_rfl) ?_
          exact QRun_done [0, 4, 6, 7, 8, 9] (by kernel_rfl) (by kernel_rfl)
        obtain ⟨x4, gx4, hB1⟩ := M.bind_some hB1
        obtain ⟨hloy2, hhiy2, gx4⟩ := M.for_start gx4
        refine Run_join (fun L' h' => ∃ (a7 : Option Addr) (c6 : Nat), L' = [(0, .slice aa_ a_.length ca_), (4, .slice a1 x1.1.length c1), (6, .int .i64 x4.1), (7, .slice a7 x4.2.length c6), (8, .int .i64 i1)] ∧ Hold h h' [own cd2 a1 x1.1.length c1 x1.1, own cd2 a7 x4.2.length c6 x4.2]) ?_ ?_
        · rintro _ h6 ⟨a7, c6, rfl, H9⟩
          refine Run_blk ?_
          refine Run_reg 3 (by kernel_rfl) (L' := [(0, .slice aa_ a_.length ca_), (4, .slice a1 x1.1.length c1), (6, .int .i64 x4.1), (7, .slice a7 x4.2.length c6), (8, .int .i64 (i1 + 1))]) ?_ ?_
          · refine QRun_b [.int .i64 i1] 0 _ (by kernel_rfl) (fun w => by kernel_rfl) ?_
            refine QRun_y (.int .i64 (i1 + 1)) (by kernel_rfl) (Y_eq (v := .int .i64 (w64 (i1 + 1))) (Y_pure (fun w => by kernel_rfl)) (by rw [w64_eq _ (by omega)])) ?_
            refine QRun_b [.int .i64 (i1 + 1)] 2 _ (by kernel_rfl) (fun w => by kernel_rfl) ?_
            exact QRun_done [0, 4, 6, 7, 8] (by kernel_rfl) (by kernel_rfl)
          have H20 : Hold h h6 [own cd2 a7 x4.2.length c6 x4.2, own cd2 a1 x1.1.length c1 x1.1] := H9.pick [1, 0] (by kernel_rfl)
          have H21 : Hold h h6 [own cd2 a1 x1.1.length c1 x1.1, own cd2 a7 x4.2.length c6 x4.2] := H20.pick [1, 0] (by kernel_rfl)
          have hB1 := M.ret_some hB1
          have gx3 := hgoy1 _ hB1.symm
          exact Run_again [0, 4, 6, 7, 8] (by kernel_rfl) my1 (Nat.lt_succ_self _) ⟨i1 + 1, (x4.1, x4.2), a7, c6, by omega, gx3, rfl, H21⟩
        · refine Run_block ?_
          have H22 : Hold h h3 [own cd2 a4 s1.2.length c3 s1.2, own cd2 a1 x1.1.length c1 x1.1] := H6.pick [1, 0] (by kernel_rfl)
          have H23 : Hold h h3 [own cd2 a1 x1.1.length c1 x1.1, own cd2 a4 s1.2.length c3 s1.2] := H22.pick [1, 0] (by kernel_rfl)
          refine Run_keep [0, 4, 6, 7, 8, 9] (L' := [(0, .slice aa_ a_.length ca_), (4, .slice a1 x1.1.length c1), (6, .int .i64 s1.1), (7, .slice a4 s1.2.length c3), (8, .int .i64 i1), (9, .int .i64 0)]) (by kernel_rfl) ?_
          refine Run_loop (fun m L' h' => ∃ (i2 : Int) (s2 : Int × (List Int)) (a6 : Option Addr) (c5 : Nat), 0 ≤ i2 ∧ M.forN (a_.length : Int) _ _ n m i2 s2 = some x4 ∧ L' = [(0, .slice aa_ a_.length ca_), (4, .slice a1 x1.1.length c1), (6, .int .i64 s2.1), (7, .slice a6 s2.2.length c5), (8, .int .i64 i1), (9, .int .i64 i2)] ∧ Hold h h' [own cd2 a1 x1.1.length c1 x1.1, own cd2 a6 s2.2.length c5 s2.2]) ((a_.length : Int) - 0 : Int).toNat ⟨0, (s1.1, s1.2), a4, c3, Int.le_refl _, gx4, rfl, H23⟩ ?_
          rintro my2 _ h5 ⟨i2, s2, a6, c5, hloy2', gx4, rfl, H8⟩
          refine Run_seq ?_
          refine Run_seq ?_
          refine Run_reg 4 (by kernel_rfl) (L' := [(0, .slice aa_ a_.length ca_), (4, .slice a1 x1.1.length c1), (6, .int .i64 s2.1), (7, .slice a6 s2.2.length c5), (8, .int .i64 i1), (9, .int .i64 i2), (33, .bool (decide (i2 < (a_.length : Int))))]) ?_ ?_
          · refine QRun_b [.int .i64 i2, .slice aa_ a_.length ca_, .int .i64 (a_.length : Int), .bool (decide (i2 < (a_.length : Int)))] 0 _ (by kernel_rfl) (fun w => by kernel_rfl) ?_
            exact QRun_done [0, 4, 6, 7, 8, 9, 33] (by kernel_rfl) (by kernel_rfl)
          refine Run_cond (b := decide (i2 < (a_.length : Int))) (by kernel_rfl) (fun hb3 => ?_) (fun hb3 => ?_)
          · obtain ⟨my2, y2, rfl, hB2, hgoy2, houty2⟩ := M.for_go gx4 hb3
            have hlty2 := of_decide_eq_true hb3
            refine Run_skip ?_
            refine Run_seq ?_
            refine Run_block ?_
            refine Run_seq ?_
            obtain ⟨u1, hz1, hB2⟩ := M.bind_some hB2
            have hz1 := M.guard_some hz1
            obtain ⟨x5, gx5, hB2⟩ := M.bind_some hB2
            obtain ⟨x8, gx8, hB2⟩ := M.bind_some hB2
            refine Run_draw 39 mixed (by kernel_rfl) (by kernel_rfl) (L' := [(0, .slice aa_ a_.length ca_), (4, .slice a1 x1.1.length c1), (6, .int .i64 s2.1), (7, .slice a6 s2.2.length c5), (8, .int .i64 i1), (9, .int .i64 i2), (74, .bool x8)]) ?_ ?_
            · refine QRun_b [.int .i64 s2.1, .int .i64 i2, .int .u64 (IntKind.u64.wrap (i2))] 0 _ (by kernel_rfl) (fun w => by kernel_rfl) ?_
              refine QRun_y (.int .i64 (ishr .i64 s2.1 (IntKind.u64.wrap (i2)))) (by kernel_rfl) (Y_shr (k := .i64) (x := s2.1) (kk := .u64) (y := IntKind.u64.wrap (i2)) (by kernel_rfl) hz1) ?_
              refine QRun_b [.int .i64 (ibit .and .i64 (ishr .i64 s2.1 (IntKind.u64.wrap (i2))) 1), .bool ((ibit .and .i64 (ishr .i64 s2.1 (IntKind.u64.wrap (i2))) 1) == 1)] 4 _ (by kernel_rfl) (fun w => by kernel_rfl) ?_
              refine QRun_seq 16 [(0, .slice aa_ a_.length ca_), (4, .slice a1 x1.1.length c1), (6, .int .i64 s2.1), (7, .slice a6 s2.2.length c5), (8, .int .i64 i1), (9, .int .i64 i2), (51, .bool x5)] ?_ ?_
              · rcases Bool.eq_false_or_eq_true ((ibit .and .i64 (ishr .i64 s2.1 (IntKind.u64.wrap (i2))) 1) == 1) with hb4 | hb4
                · refine QRun_bool ((ibit .and .i64 (ishr .i64 s2.1 (IntKind.u64.wrap (i2))) 1) == 1) true (by kernel_rfl) (fun w => by kernel_rfl) hb4 ?_
                  have gx5 := (M.ite_some gx5).1 hb4
                  obtain ⟨x6, hx3, gx5⟩ := M.bind_some gx5
                  obtain ⟨hx3l, hx3u, hx3⟩ := M.idx_some hx3
                  obtain ⟨a8, c7, hc1, r1⟩ := ra_.row hx3
                  obtain ⟨x7, hx4, gx5⟩ := M.bind_some gx5
                  obtain ⟨hx4l, hx4u, hx4⟩ := M.idx_some hx4
                  have gx5 := M.ret_some gx5
                  refine QRun_b [.slice aa_ a_.length ca_, .int .i64 i1] 7 _ (by kernel_rfl) (fun w => by kernel_rfl) ?_
                  refine QRun_y (.pointer (some (adr aa_ (i1.toNat * 1)))) (by kernel_rfl) (Y_idx (t := 37) (e := 39) (sz := 1) (a := aa_) (n := a_.length) (cap := ca_) (kk := .i64) (i := i1) (by kernel_rfl) Try.underlying37 (by kernel_rfl) ((ra_.at H8.ext).cell hx3).1 hx3l hx3u) ?_
                  refine QRun_y (.slice a8 x6.length c7) (by kernel_rfl) (Y_load1 (t := 39) (p := adr aa_ (i1.toNat * 1)) (v := .slice a8 x6.length c7) (by kernel_rfl) (fun w => by kernel_rfl) (cell_at H8.ext hc1)) ?_
                  refine QRun_b [.int .i64 i2] 11 _ (by kernel_rfl) (fun w => by kernel_rfl) ?_
                  refine QRun_y (.pointer (some (adr a8 (i2.toNat * 1)))) (by kernel_rfl) (Y_idx (t := 39) (e := 2) (sz := 1) (a := a8) (n := x6.length) (cap := c7) (kk := .i64) (i := i2) (by kernel_rfl) Try.underlying39 (by kernel_rfl) ((r1.at H8.ext).cell hx4).1 hx4l hx4u) ?_
                  refine QRun_y (.int .i64 x7) (by kernel_rfl) (Y_load1 (t := 2) (p := adr a8 (i2.toNat * 1)) (v := .int .i64 x7) (by kernel_rfl) (fun w => by kernel_rfl) (cd2_cell (r1.at H8.ext) hx4)) ?_
                  refine QRun_b [.bool (x7 != (-1000000000000000))] 14 _ (by kernel_rfl) (fun w => by kernel_rfl) ?_
                  refine QRun_bool (x7 != (-1000000000000000)) x5 (by kernel_rfl) (fun w => by kernel_rfl) gx5 ?_
                  exact QRun_done [0, 4, 6, 7, 8, 9, 51] (by kernel_rfl) (by kernel_rfl)
                · refine QRun_bool ((ibit .and .i64 (ishr .i64 s2.1 (IntKind.u64.wrap (i2))) 1) == 1) false (by kernel_rfl) (fun w => by kernel_rfl) hb4 ?_
                  have gx5 := M.ret_some ((M.ite_some gx5).2 hb4)
                  refine QRun_n (by kernel_rfl) ?_
                  refine QRun_n (by kernel_rfl) ?_
                  refine QRun_n (by kernel_rfl) ?_
                  refine QRun_n (by kernel_rfl) ?_
                  refine QRun_n (by kernel_rfl) ?_
                  refine QRun_n (by kernel_rfl) ?_
                  refine QRun_n (by kernel_rfl) ?_
                  refine QRun_n (by kernel_rfl) ?_
                  refine QRun_bool false x5 (by kernel_rfl) (fun w => by kernel_rfl) gx5 ?_
                  exact QRun_done [0, 4, 6, 7, 8, 9, 51] (by kernel_rfl) (by kernel_rfl)
              refine QRun_seq 39 [(0, .slice aa_ a_.length ca_), (4, .slice a1 x1.1.length c1), (6, .int .i64 s2.1), (7, .slice a6 s2.2.length c5), (8, .int .i64 i1), (9, .int .i64 i2), (74, .bool x8)] ?_ ?_
              · rcases Bool.eq_false_or_eq_true x5 with hb5 | hb5
                · refine QRun_bool x5 true (by kernel_rfl) (fun w => by kernel_rfl) hb5 ?_
                  have gx8 := (M.ite_some gx8).1 hb5
                  obtain ⟨x9, hx5, gx8⟩ := M.bind_some gx8
                  obtain ⟨hx5l, hx5u, hx5⟩ := M.idx_some hx5
                  obtain ⟨a9, c8, hc2, r2⟩ := ra_.row hx5
                  obtain ⟨x10, hx6, gx8⟩ := M.bind_some gx8
                  obtain ⟨hx6l, hx6u, hx6⟩ := M.idx_some hx6
                  obtain ⟨u2, hz2, gx8⟩ := M.bind_some gx8
                  have hz2 := M.guard_some hz2
                  obtain ⟨x11, hx7, gx8⟩ := M.bind_some gx8
                  obtain ⟨hx7l, hx7u, hx7⟩ := M.idx_some hx7
                  obtain ⟨x12, hx8, gx8⟩ := M.bind_some gx8
                  obtain ⟨x13, hx9, gx8⟩ := M.bind_some gx8
                  obtain ⟨hx9l, hx9u, hx9⟩ := M.idx_some hx9
                  have gx8 := M.ret_some gx8
                  refine QRun_b [.slice aa_ a_.length ca_, .int .i64 i1] 17 _ (by kernel_rfl) (fun w => by kernel_rfl) ?_
                  refine QRun_y (.pointer (some (adr aa_ (i1.toNat * 1)))) (by kernel_rfl) (Y_idx (t := 37) (e := 39) (sz := 1) (a := aa_) (n := a_.length) (cap := ca_) (kk := .i64) (i := i1) (by kernel_rfl) Try.underlying37 (by kernel_rfl) ((ra_.at H8.ext).cell hx5).1 hx5l hx5u) ?_
                  refine QRun_y (.slice a9 x9.length c8) (by kernel_rfl) (Y_load1 (t := 39) (p := adr aa_ (i1.toNat * 1)) (v := .slice a9 x9.length c8) (by kernel_rfl) (fun w => by kernel_rfl) (cell_at H8.ext hc2)) ?_
                  refine QRun_b [.int .i64 i2] 21 _ (by kernel_rfl) (fun w => by kernel_rfl) ?_
                  refine QRun_y (.pointer (some (adr a9 (i2.toNat * 1)))) (by kernel_rfl) (Y_idx (t := 39) (e := 2) (sz := 1) (a := a9) (n := x9.length) (cap := c8) (kk := .i64) (i := i2) (by kernel_rfl) Try.underlying39 (by kernel_rfl) ((r2.at H8.ext).cell hx6).1 hx6l hx6u) ?_
                  refine QRun_y (.int .i64 x10) (by kernel_rfl) (Y_load1 (t := 2) (p := adr a9 (i2.toNat * 1)) (v := .int .i64 x10) (by kernel_rfl) (fun w => by kernel_rfl) (cd2_cell (r2.at H8.ext) hx6)) ?_
                  refine QRun_b [.slice a1 x1.1.length c1, .int .i64 s2.1, .int .i64 i2, .int .u64 (IntKind.u64.wrap (i2))] 24 _ (by kernel_rfl) (fun w => by kernel_rfl) ?_
                  refine QRun_y (.int .i64 (ishl .i64 1 (IntKind.u64.wrap (i2)))) (by kernel_rfl) (Y_shl (k := .i64) (x := 1) (kk := .u64) (y := IntKind.u64.wrap (i2)) (by kernel_rfl) hz2) ?_
                  refine QRun_b [.int .i64 (w64 (s2.1 - (ishl .i64 1 (IntKind.u64.wrap (i2)))))] 29 _ (by kernel_rfl) (fun w => by kernel_rfl) ?_
                  refine QRun_y (.pointer (some (adr a1 ((w64 (s2.1 - (ishl .i64 1 (IntKind.u64.wrap (i2))))).toNat * 1)))) (by kernel_rfl) (Y_idx (t := 39) (e := 2) (sz := 1) (a := a1) (n := x1.1.length) (cap := c1) (kk := .i64) (i := w64 (s2.1 - (ishl .i64 1 (IntKind.u64.wrap (i2))))) (by kernel_rfl) Try.underlying39 (by kernel_rfl) ((H8.rd 0 rfl).cell hx7).1 hx7l hx7u) ?_
                  refine QRun_y (.int .i64 x11) (by kernel_rfl) (Y_load1 (t := 2) (p := adr a1 ((w64 (s2.1 - (ishl .i64 1 (IntKind.u64.wrap (i2))))).toNat * 1)) (v := .int .i64 x11) (by kernel_rfl) (fun w => by kernel_rfl) (cd2_cell (H8.rd 0 rfl) hx7)) ?_
                  refine QRun_y (.int .i64 x12) (by kernel_rfl) (Y_callq (f := 117) (args := #[.int .i64 x10, .int .i64 x11]) (v := .int .i64 x12) (by kernel_rfl) (w_spec_l01Times h5 x10 x11 _ _ hx8)) ?_
                  refine QRun_b [.slice a1 x1.1.length c1, .int .i64 s2.1] 33 _ (by kernel_rfl) (fun w => by kernel_rfl) ?_
                  refine QRun_y (.pointer (some (adr a1 (s2.1.toNat * 1)))) (by kernel_rfl) (Y_idx (t := 39) (e := 2) (sz := 1) (a := a1) (n := x1.1.length) (cap := c1) (kk := .i64) (i := s2.1) (by kernel_rfl) Try.underlying39 (by kernel_rfl) ((H8.rd 0 rfl).cell hx9).1 hx9l hx9u) ?_
                  refine QRun_y (.int .i64 x13) (by kernel_rfl) (Y_load1 (t := 2) (p := adr a1 (s2.1.toNat * 1)) (v := .int .i64 x13) (by kernel_rfl) (fun w => by kernel_rfl) (cd2_cell (H8.rd 0 rfl) hx9)) ?_
                  refine QRun_b [.bool (x12 == x13)] 37 _ (by kernel_rfl) (fun w => by kernel_rfl) ?_
                  refine QRun_bool (x12 == x13) x8 (by kernel_rfl) (fun w => by kernel_rfl) gx8 ?_
                  exact QRun_done [0, 4, 6, 7, 8, 9, 74] (by kernel_rfl) (by kernel_rfl)
                · refine QRun_bool x5 false (by kernel_rfl) (fun w => by kernel_rfl) hb5 ?_
                  have gx8 := M.ret_some ((M.ite_some gx8).2 hb5)
                  refine QRun_n (by kernel_rfl) ?_
                  refine QRun_n (by kernel_rfl) ?_
                  refine QRun_n (by kernel_rfl) ?_
                  refine QRun_n (by kernel_rfl) ?_
                  refine QRun_n (by kernel_rfl) ?_
                  refine QRun_n (by kernel_rfl) ?_
                  refine QRun_n (by kernel_rfl) ?_
                  refine QRun_n (by kernel_rfl) ?_
                  refine QRun_n (by kernel_rfl) ?_
                  refine QRun_n (by kernel_rfl) ?_
                  refine QRun_n (by kernel_rfl) ?_
                  refine QRun_n (by kernel_rfl) ?_
                  refine QRun_n (by kernel_rfl) ?_
                  refine QRun_n (by kernel_rfl) ?_
                  refine QRun_n (by kernel_rfl) ?_
                  refine QRun_n (by kernel_rfl) ?_
                  refine QRun_n (by kernel_rfl) ?_
                  refine QRun_n (by kernel_rfl) ?_
                  refine QRun_n (by kernel_rfl) ?_
                  refine QRun_n (by kernel_rfl) ?_
                  refine QRun_n (by kernel_rfl) ?_
                  refine QRun_bool false x8 (by kernel_rfl) (fun w => by kernel_rfl) gx8 ?_
                  exact QRun_done [0, 4, 6, 7, 8, 9, 74] (by kernel_rfl) (by kernel_rfl)
              exact QRun_done [0, 4, 6, 7, 8, 9, 74] (by kernel_rfl) (by kernel_rfl)
            refine Run_cond (b := x8) (by kernel_rfl) (fun hb6 => ?_) (fun hb6 => ?_)
            · have hB2 := (M.ite_some hB2).1 hb6
              refine Run_seq ?_
              refine Run_ops ?_
              refine Run_b [.slice a6 s2.2.length c5, .int .i64 i2] 0 _ (by kernel_rfl) (fun w => by kernel_rfl) ?_
              refine Run_E (by kernel_rfl) ?_
              refine E_lit (C := cd2) (n := 1) (l := ([i2] : List Int)) (cs := [.int .i64 i2]) H8 (fun w => by kernel_rfl) (Enc.consE (cd2_own i2 _) (Enc.nil _ _) rfl) rfl (by decide) (fun a10 h7 H10 => ?_)
              obtain ⟨l1, hl1, hB2⟩ := M.bind_some hB2
              have hl1 := M.app_some hl1
              have H11 : Hold h h7 [own cd2 a6 s2.2.length c5 s2.2, own cd2 a10 1 1 ([i2] : List Int), own cd2 a1 x1.1.length c1 x1.1] := H10.pick [2, 0, 1] (by kernel_rfl)
              have H12 : Hold h h7 [own cd2 a10 1 1 ([i2] : List Int), own cd2 a6 s2.2.length c5 s2.2, own cd2 a1 x1.1.length c1 x1.1] := H11.pick [1, 0, 2] (by kernel_rfl)
              have H13 : Hold h h7 [own cd2 a6 s2.2.length c5 s2.2, own cd2 a10 1 1 ([i2] : List Int), own cd2 a1 x1.1.length c1 x1.1] := H12.pick [1, 0, 2] (by kernel_rfl)
              refine Run_E (by kernel_rfl) ?_
              refine E_app (C := cd2) (t := 39) (ty := 39) (n := s2.2.length) (m := 1) H13 cd2_ti rfl Try.underlying39 (by decide) (by kernel_rfl) hl1 (fun a11 c9 h8 H14 => ?_)
              refine Run_b [.slice a11 l1.length c9] 4 _ (by kernel_rfl) (fun w => by kernel_rfl) ?_
              refine Run_nil (by kernel_rfl) ?_
              refine Run_keep [0, 4, 6, 7, 8, 9] (L' := [(0, .slice aa_ a_.length ca_), (4, .slice a1 x1.1.length c1), (6, .int .i64 s2.1), (7, .slice a11 l1.length c9), (8, .int .i64 i1), (9, .int .i64 i2)]) (by kernel_rfl) ?_
              refine Run_seq ?_
              obtain ⟨u3, hz3, hB2⟩ := M.bind_some hB2
              have hz3 := M.guard_some hz3
              refine Run_reg 6 (by kernel_rfl) (L' := [(0, .slice aa_ a_.length ca_), (4, .slice a1 x1.1.length c1), (6, .int .i64 (w64 (s2.1 - (ishl .i64 1 (IntKind.u64.wrap (i2)))))), (7, .slice a11 l1.length c9), (8, .int .i64 i1)]) ?_ ?_
              · refine QRun_b [.int .i64 s2.1, .int .i64 i2, .int .u64 (IntKind.u64.wrap (i2))] 0 _ (by kernel_rfl) (fun w => by kernel_rfl) ?_
                refine QRun_y (.int .i64 (ishl .i64 1 (IntKind.u64.wrap (i2)))) (by kernel_rfl) (Y_shl (k := .i64) (x := 1) (kk := .u64) (y := IntKind.u64.wrap (i2)) (by kernel_rfl) hz3) ?_
                refine QRun_b [.int .i64 (w64 (s2.1 - (ishl .i64 1 (IntKind.u64.wrap (i2))))), .int .i64 (w64 (s2.1 - (ishl .i64 1 (IntKind.u64.wrap (i2)))))] 4 _ (by kernel_rfl) (fun w => by kernel_rfl) ?_
                exact QRun_done [0, 4, 6, 7, 8] (by kernel_rfl) (by kernel_rfl)
              refine Run_exit (k' := _) rfl ?_
              have H15 : Hold h h8 [own cd2 a1 x1.1.length c1 x1.1, own cd2 a11 l1.length c9 l1] := H14.pick [1, 0] (by kernel_rfl)
              have hB2 := M.ret_some hB2
              have gx4 := houty2 _ hB2.symm
              subst gx4
              exact Run_fall [0, 4, 6, 7, 8] (by kernel_rfl) ⟨a11, c9, rfl, H15⟩
            · have hB2 := (M.ite_some hB2).2 hb6
              refine Run_skip ?_
              refine Run_blk ?_
              refine Run_reg 3 (by kernel_rfl) (L' := [(0, .slice aa_ a_.length ca_), (4, .slice a1 x1.1.length c1), (6, .int .i64 s2.1), (7, .slice a6 s2.2.length c5), (8, .int .i64 i1), (9, .int .i64 (i2 + 1))]) ?_ ?_
              · refine QRun_b [.int .i64 i2] 0 _ (by kernel_rfl) (fun w => by kernel_rfl) ?_
                refine QRun_y (.int .i64 (i2 + 1)) (by kernel_rfl) (Y_eq (v := .int .i64 (w64 (i2 + 1))) (Y_pure (fun w => by kernel_rfl)) (by rw [w64_eq _ (by omega)])) ?_
                refine QRun_b [.int .i64 (i2 + 1)] 2 _ (by kernel_rfl) (fun w => by kernel_rfl) ?_
                exact QRun_done [0, 4, 6, 7, 8, 9] (by kernel_rfl) (by kernel_rfl)
              have H16 : Hold h h5 [own cd2 a6 s2.2.length c5 s2.2, own cd2 a1 x1.1.length c1 x1.1] := H8.pick [1, 0] (by kernel_rfl)
              have H17 : Hold h h5 [own cd2 a1 x1.1.length c1 x1.1, own cd2 a6 s2.2.length c5 s2.2] := H16.pick [1, 0] (by kernel_rfl)
              have hB2 := M.ret_some hB2
              have gx4 := hgoy2 _ hB2.symm
              exact Run_again [0, 4, 6, 7, 8, 9] (by kernel_rfl) my2 (Nat.lt_succ_self _) ⟨i2 + 1, (s2.1, s2.2), a6, c5, by omega, gx4, rfl, H17⟩
          · have gx4 := M.for_end gx4 hb3
            subst gx4
            refine Run_exit (k' := _) rfl ?_
            have H18 : Hold h h5 [own cd2 a6 s2.2.length c5 s2.2, own cd2 a1 x1.1.length c1 x1.1] := H8.pick [1, 0] (by kernel_rfl)
            have H19 : Hold h h5 [own cd2 a1 x1.1.length c1 x1.1, own cd2 a6 s2.2.length c5 s2.2] := H18.pick [1, 0] (by kernel_rfl)
            exact Run_fall [0, 4, 6, 7, 8] (by kernel_rfl) ⟨a6, c5, rfl, H19⟩
      · have gx3 := M.for_end gx3 hb2
        subst gx3
        refine Run_exit (k' := _) rfl ?_
        have H24 : Hold h h3 [own cd2 a4 s1.2.length c3 s1.2, own cd2 a1 x1.1.length c1 x1.1] := H6.pick [1, 0] (by kernel_rfl)
        have H25 : Hold h h3 [own cd2 a4 s1.2.length c3 s1.2] := H24.pick [0] (by kernel_rfl)
        exact Run_fall [7] (by kernel_rfl) ⟨a4, c3, rfl, H25⟩

set_option maxRecDepth 100000 in
set_option maxHeartbeats 4000000 in
theorem w_spec_l02Unit (h : Heap) (n_ : Int) (n : Nat) (r : (List (List Int))) (hF : spec_l02Unit n_ n = some r) :
    Fn Try.prog 149 #[.int .i64 n_] h fun v h' => ∃ (a0 : Option Addr) (c0 : Nat), v = .slice a0 r.length c0 ∧ Hold h h' [own cd39 a0 r.length c0 r] := by
  unfold spec_l02Unit at hF
  refine Fn_enter (args := [.int .i64 n_]) Try.func149 rfl (by kernel_rfl) (by kernel_rfl) (fun w0 _ => ?_)
  have H0 := Hold.init h
  refine Run_seq ?_
  refine Run_reg 1 (by kernel_rfl) (L' := [(0, .int .i64 n_)]) ?_ ?_
  · refine QRun_b [.slice none 0 0] 0 _ (by kernel_rfl) (fun w => by kernel_rfl) ?_
    exact QRun_done [0] (by kernel_rfl) (by kernel_rfl)
  refine Run_seq ?_
  refine Run_ops ?_
  refine Run_b [.int .i64 n_, .int .i64 n_] 0 _ (by kernel_rfl) (fun w => by kernel_rfl) ?_
  obtain ⟨x1, hx1, hF⟩ := M.bind_some hF
  refine Run_E (by kernel_rfl) ?_
  refine E_call (f := 84) (args := #[.int .i64 n_, .int .i64 n_]) (w_spec_l02Bottom h n_ n_ _ _ hx1) (by kernel_rfl) (fun v1 h1 hp1 => ?_)
  obtain ⟨a1, c1, rfl, H1⟩ := hp1
  have H2 : Hold h h1 [own cd39 a1 x1.length c1 x1] := H0.call H1 rfl
  refine Run_b [.slice a1 x1.length c1] 3 _ (by kernel_rfl) (fun w => by kernel_rfl) ?_
  refine Run_nil (by kernel_rfl) ?_
  refine Run_keep [0, 3] (L' := [(0, .int .i64 n_), (3, .slice a1 x1.length c1)]) (by kernel_rfl) ?_
  refine Run_seq ?_
  refine Run_seq ?_
  refine Run_reg 1 (by kernel_rfl) (L' := [(0, .int .i64 n_), (3, .slice a1 x1.length c1), (4, .int .i64 0)]) ?_ ?_
  · refine QRun_b [.int .i64 0] 0 _ (by kernel_rfl) (fun w => by kernel_rfl) ?_
    exact QRun_done [0, 3, 4] (by kernel_rfl) (by kernel_rfl)
  obtain ⟨x2, gx2, hF⟩ := M.bind_some hF
  obtain ⟨hloy1, hhiy1, gx2⟩ := M.for_start gx2
  refine Run_join (fun L' h' => L' = [(3, .slice a1 x1.length c1)] ∧ Hold h h' [own cd39 a1 x1.length c1 x2]) ?_ ?_
  · rintro _ h3 ⟨rfl, H4⟩
    refine Run_seq ?_
    refine Run_reg 2 (by kernel_rfl) (L' := [(2, .slice a1 x1.length c1)]) ?_ ?_
    · refine QRun_b [.slice a1 x1.length c1, .slice a1 x1.length c1] 0 _ (by kernel_rfl) (fun w => by kernel_rfl) ?_
      exact QRun_done [2] (by kernel_rfl) (by kernel_rfl)
    have hF := M.ret_some hF
    subst hF
    have H9 := H4.norm
    exact Run_ret1 rfl (ResV_tmp (v := .slice a1 x1.length c1) (by kernel_rfl)) ⟨a1, c1, (by simp only [(H4.len 0 rfl)]), H9⟩
  · refine Run_block ?_
    refine Run_keep [0, 3, 4] (L' := [(0, .int .i64 n_), (3, .slice a1 x1.length c1), (4, .int .i64 0)]) (by kernel_rfl) ?_
    refine Run_loop (fun m L' h' => ∃ (i1 : Int) (s1 : (List (List Int))), 0 ≤ i1 ∧ M.forN n_ _ _ n m i1 s1 = some x2 ∧ L' = [(0, .int .i64 n_), (3, .slice a1 x1.length c1), (4, .int .i64 i1)] ∧ Hold h h' [own cd39 a1 x1.length c1 s1]) (n_ - 0 : Int).toNat ⟨0, x1, Int.le_refl _, gx2, rfl, H2⟩ ?_
    rintro my1 _ h2 ⟨i1, s1, hloy1', gx2, rfl, H3⟩
    refine Run_seq ?_
    refine Run_seq ?_
    refine Run_reg 3 (by kernel_rfl) (L' := [(0, .int .i64 n_), (3, .slice a1 x1.length c1), (4, .int .i64 i1), (10, .bool (decide (i1 < n_)))]) ?_ ?_
    · refine QRun_b [.int .i64 i1, .int .i64 n_, .bool (decide (i1 < n_))] 0 _ (by kernel_rfl) (fun w => by kernel_rfl) ?_
      exact QRun_done [0, 3, 4, 10] (by kernel_rfl) (by kernel_rfl)
    refine Run_cond (b := decide (i1 < n_)) (by kernel_rfl) (fun hb1 => ?_) (fun hb1 => ?_)
    · obtain ⟨my1, y1, rfl, hB1, hgoy1, houty1⟩ := M.for_go gx2 hb1
      have hlty1 := of_decide_eq_true hb1
      refine Run_skip ?_
      refine Run_seq ?_
      refine Run_block ?_
      refine Run_ops ?_
      obtain ⟨x3, hx2, hB1⟩ := M.bind_some hB1
      obtain ⟨hx2l, hx2u, hx2⟩ := M.idx_some hx2
      have H5 := H3.toRows
      obtain ⟨a2, c2, H6⟩ := H5.pinRow hx2
      obtain ⟨x4, hx3, hB1⟩ := M.bind_some hB1
      obtain ⟨hx3l, hx3u, hx3⟩ := M.idx_some hx3
      refine Run_b [.slice a1 x1.length c1, .int .i64 i1] 0 _ (by kernel_rfl) (fun w => by kernel_rfl) ?_
      refine Run_y (.pointer (some (adr a1 (i1.toNat * 1)))) (by kernel_rfl) (Y_idx (t := 37) (e := 39) (sz := 1) (a := a1) (n := x1.length) (cap := c1) (kk := .i64) (i := i1) (by kernel_rfl) Try.underlying37 (by kernel_rfl) ((H3.rd 0 rfl).cell hx2).1 hx2l (by rw [← (H3.len 0 rfl)]; exact hx2u)) ?_
      refine Run_y (.slice a2 x3.length c2) (by kernel_rfl) (Y_load1 (t := 39) (p := adr a1 (i1.toNat * 1)) (v := .slice a2 x3.length c2) (by kernel_rfl) (fun w => by kernel_rfl) (H6.cellPin 0 rfl 0 rfl)) ?_
      refine Run_b [.int .i64 i1] 4 _ (by kernel_rfl) (fun w => by kernel_rfl) ?_
      refine Run_y (.pointer (some (adr a2 (i1.toNat * 1)))) (by kernel_rfl) (Y_idx (t := 39) (e := 2) (sz := 1) (a := a2) (n := x3.length) (cap := c2) (kk := .i64) (i := i1) (by kernel_rfl) Try.underlying39 (by kernel_rfl) ((H6.rdPin 0 rfl 0 rfl).cell hx3).1 hx3l hx3u) ?_
      obtain ⟨l1, hu1, hB1⟩ := M.bind_some hB1
      have hu1 := M.upd_some hu1
      refine Run_E (by kernel_rfl) ?_
      refine E_put2 (C := cd2) (t := 2) (sz := 1) (j := i1) (x := 0) (v := .int .i64 0) (m2 := s1.set i1.toNat l1) H6 cd2_flat 0 rfl (by kernel_rfl) rfl (cd2_own _) (by kernel_rfl) hu1 rfl (fun h4 H7 => ?_)
      refine Run_nil (by kernel_rfl) ?_
      refine Run_keep [0, 3, 4] (L' := [(0, .int .i64 n_), (3, .slice a1 x1.length c1), (4, .int .i64 i1)]) (by kernel_rfl) ?_
      refine Run_blk ?_
      refine Run_reg 3 (by kernel_rfl) (L' := [(0, .int .i64 n_), (3, .slice a1 x1.length c1), (4, .int .i64 (i1 + 1))]) ?_ ?_
      · refine QRun_b [.int .i64 i1] 0 _ (by kernel_rfl) (fun w => by kernel_rfl) ?_
        refine QRun_y (.int .i64 (i1 + 1)) (by kernel_rfl) (Y_eq (v := .int .i64 (w64 (i1 + 1))) (Y_pure (fun w => by kernel_rfl)) (by rw [w64_eq _ (by omega)])) ?_
        refine QRun_b [.int .i64 (i1 + 1)] 2 _ (by kernel_rfl) (fun w => by kernel_rfl) ?_
        exact QRun_done [0, 3, 4] (by kernel_rfl) (by kernel_rfl)
      have H8 := H7.ofRows
      have hB1 := M.ret_some hB1
      have gx2 := hgoy1 _ hB1.symm
      exact Run_again [0, 3, 4] (by kernel_rfl) my1 (Nat.lt_succ_self _) ⟨i1 + 1, (s1.set i1.toNat l1), by omega, gx2, rfl, H8⟩
    · have gx2 := M.for_end gx2 hb1
      subst gx2
      refine Run_exit (k' := _) rfl ?_
      exact Run_fall [3] (by kernel_rfl) ⟨rfl, H3⟩

set_option maxRecDepth 100000 in
set_option maxHeartbeats 4000000 in
theorem w_spec_l02Multiply (h : Heap) (a_ : List (List Int)) (aa_ : Option Addr) (ca_ : Nat) (ra_ : Rd cd39 h (Lt h) aa_ ca_ a_) (b : List (List Int)) (ab : Option Addr) (cb : Nat) (rb : Rd cd39 h (Lt h) ab cb b) (n : Nat) (r : (List (List Int))) (hF : spec_l02Multiply a_ b n = some r) :
    Fn Try.prog 151 #[.slice aa_ a_.length ca_, .slice ab b.length cb] h fun v h' => ∃ (a0 : Option Addr) (c0 : Nat), v = .slice a0 r.length c0 ∧ Hold h h' [own cd39 a0 r.length c0 r] := by
  unfold spec_l02Multiply at hF
  refine Fn_enter (args := [.slice aa_ a_.length ca_, .slice ab b.length cb]) Try.func151 rfl (by kernel_rfl) (by kernel_rfl) (fun w0 _ => ?_)
  have H0 := Hold.init h
  refine Run_seq ?_
  refine Run_reg 1 (by kernel_rfl) (L' := [(0, .slice aa_ a_.length ca_), (1, .slice ab b.length cb)]) ?_ ?_
  · refine QRun_b [.slice none 0 0] 0 _ (by kernel_rfl) (fun w => by kernel_rfl) ?_
    exact QRun_done [0, 1] (by kernel_rfl) (by kernel_rfl)
  refine Run_seq ?_
  refine Run_ops ?_
  obtain ⟨x1, hx1, hF⟩ := M.bind_some hF
  obtain ⟨hx1l, hx1u, hx1⟩ := M.idx_some hx1
  obtain ⟨a1, c1, hc1, r1⟩ := rb.row hx1
  refine Run_b [.slice aa_ a_.length ca_, .int .i64 (a_.length : Int), .slice ab b.length cb] 0 _ (by kernel_rfl) (fun w => by kernel_rfl) ?_
  refine Run_y (.pointer (some (adr ab (0 * 1)))) (by kernel_rfl) (Y_idx (t := 37) (e := 39) (sz := 1) (a := ab) (n := b.length) (cap := cb) (kk := .i64) (i := 0) (by kernel_rfl) Try.underlying37 (by kernel_rfl) (rb.cell hx1).1 hx1l hx1u) ?_
  refine Run_y (.slice a1 x1.length c1) (by kernel_rfl) (Y_load1 (t := 39) (p := adr ab (0 * 1)) (v := .slice a1 x1.length c1) (by kernel_rfl) (fun w => by kernel_rfl) hc1) ?_
  refine Run_b [.int .i64 (x1.length : Int)] 5 _ (by kernel_rfl) (fun w => by kernel_rfl) ?_
  obtain ⟨x2, hx2, hF⟩ := M.bind_some hF
  refine Run_E (by kernel_rfl) ?_
  refine E_call (f := 84) (args := #[.int .i64 (a_.length : Int), .int .i64 (x1.length : Int)]) (w_spec_l02Bottom h (a_.length : Int) (x1.length : Int) _ _ hx2) (by kernel_rfl) (fun v1 h1 hp1 => ?_)
  obtain ⟨a2, c2, rfl, H1⟩ := hp1
  have H2 : Hold h h1 [own cd39 a2 x2.length c2 x2] := H0.call H1 rfl
  refine Run_b [.slice a2 x2.length c2] 7 _ (by kernel_rfl) (fun w => by kernel_rfl) ?_
  refine Run_nil (by kernel_rfl) ?_
  refine Run_keep [0, 1, 5] (L' := [(0, .slice aa_ a_.length ca_), (1, .slice ab b.length cb), (5, .slice a2 x2.length c2)]) (by kernel_rfl) ?_
  refine Run_seq ?_
  refine Run_seq ?_
  refine Run_reg 1 (by kernel_rfl) (L' := [(0, .slice aa_ a_.length ca_), (1, .slice ab b.length cb), (5, .slice a2 x2.length c2), (6, .int .i64 0)]) ?_ ?_
  · refine QRun_b [.int .i64 0] 0 _ (by kernel_rfl) (fun w => by kernel_rfl) ?_
    exact QRun_done [0, 1, 5, 6] (by kernel_rfl) (by kernel_rfl)
  obtain ⟨x3, gx3, hF⟩ := M.bind_some hF
  obtain ⟨hloy1, hhiy1, gx3⟩ := M.for_start gx3
  refine Run_join (fun L' h' => L' = [(5, .slice a2 x2.length c2)] ∧ Hold h h' [own cd39 a2 x2.length c2 x3]) ?_ ?_
  · rintro _ h3 ⟨rfl, H4⟩
    refine Run_seq ?_
    refine Run_reg 2 (by kernel_rfl) (L' := [(4, .slice a2 x2.length c2)]) ?_ ?_
    · refine QRun_b [.slice a2 x2.length c2, .slice a2 x2.length c2] 0 _ (by kernel_rfl) (fun w => by kernel_rfl) ?_
      exact QRun_done [4] (by kernel_rfl) (by kernel_rfl)
    have hF := M.ret_some hF
    subst hF
    have H16 := H4.norm
    exact Run_ret1 rfl (ResV_tmp (v := .slice a2 x2.length c2) (by kernel_rfl)) ⟨a2, c2, (by simp only [(H4.len 0 rfl)]), H16⟩
  · refine Run_block ?_
    refine Run_keep [0, 1, 5, 6] (L' := [(0, .slice aa_ a_.length ca_), (1, .slice ab b.length cb), (5, .slice a2 x2.length c2), (6, .int .i64 0)]) (by kernel_rfl) ?_
    refine Run_loop (fun m L' h' => ∃ (i1 : Int) (s1 : (List (List Int))), 0 ≤ i1 ∧ M.forN (a_.length : Int) _ _ n m i1 s1 = some x3 ∧ L' = [(0, .slice aa_ a_.length ca_), (1, .slice ab b.length cb), (5, .slice a2 x2.length c2), (6, .int .i64 i1)] ∧ Hold h h' [own cd39 a2 x2.length c2 s1]) ((a_.length : Int) - 0 : Int).toNat ⟨0, x2, Int.le_refl _, gx3, rfl, H2⟩ ?_
    rintro my1 _ h2 ⟨i1, s1, hloy1', gx3, rfl, H3⟩
    refine Run_seq ?_
    refine Run_seq ?_
    refine Run_reg 4 (by kernel_rfl) (L' := [(0, .slice aa_ a_.length ca_), (1, .slice ab b.length cb), (5, .slice a2 x2.length c2), (6, .int .i64 i1), (19, .bool (decide (i1 < (a_.length : Int))))]) ?_ ?_
    · refine QRun_b [.int .i64 i1, .slice aa_ a_.length ca_, .int .i64 (a_.length : Int), .bool (decide (i1 < (a_.length : Int)))] 0 _ (by kernel_rfl) (fun w => by kernel_rfl) ?_
      exact QRun_done [0, 1, 5, 6, 19] (by kernel_rfl) (by kernel_rfl)
    refine Run_cond (b := decide (i1 < (a_.length : Int))) (by kernel_rfl) (fun hb1 => ?_) (fun hb1 => ?_)
    · obtain ⟨my1, y1, rfl, hB1, hgoy1, houty1⟩ := M.for_go gx3 hb1
      have hlty1 := of_decide_eq_true hb1
      refine Run_skip ?_
      refine Run_seq ?_
      refine Run_block ?_
      refine Run_seq ?_
      refine Run_reg 1 (by kernel_rfl) (L' := [(0, .slice aa_ a_.length ca_), (1, .slice ab b.length cb), (5, .slice a2 x2.length c2), (6, .int .i64 i1), (7, .int .i64 0)]) ?_ ?_
      · refine QRun_b [.int .i64 0] 0 _ (by kernel_rfl) (fun w => by kernel_rfl) ?_
        exact QRun_done [0, 1, 5, 6, 7] (by kernel_rfl) (by kernel_rfl)
      obtain ⟨x4, gx4, hB1⟩ := M.bind_some hB1
      refine Run_join (fun L' h' => L' = [(0, .slice aa_ a_.length ca_), (1, .slice ab b.length cb), (5, .slice a2 x2.length c2), (6, .int .i64 i1)] ∧ Hold h h' [own cd39 a2 x2.length c2 x4.1]) ?_ ?_
      · rintro _ h5 ⟨rfl, H6⟩
        refine Run_blk ?_
        refine Run_reg 3 (by kernel_rfl) (L' := [(0, .slice aa_ a_.length ca_), (1, .slice ab b.length cb), (5, .slice a2 x2.length c2), (6, .int .i64 (i1 + 1))]) ?_ ?_
        · refine QRun_b [.int .i64 i1] 0 _ (by kernel_rfl) (fun w => by kernel_rfl) ?_
          refine QRun_y (.int .i64 (i1 + 1)) (by kernel_rfl) (Y_eq (v := .int .i64 (w64 (i1 + 1))) (Y_pure (fun w => by kernel_rfl)) (by rw [w64_eq _ (by omega)])) ?_
          refine QRun_b [.int .i64 (i1 + 1)] 2 _ (by kernel_rfl) (fun w => by kernel_rfl) ?_
          exact QRun_done [0, 1, 5, 6] (by kernel_rfl) (by kernel_rfl)
        have hB1 := M.ret_some hB1
        have gx3 := hgoy1 _ hB1.symm
        exact Run_again [0, 1, 5, 6] (by kernel_rfl) my1 (Nat.lt_succ_self _) ⟨i1 + 1, x4.1, by omega, gx3, rfl, H6⟩
      · refine Run_block ?_
        refine Run_keep [0, 1, 5, 6, 7] (L' := [(0, .slice aa_ a_.length ca_), (1, .slice ab b.length cb), (5, .slice a2 x2.length c2), (6, .int .i64 i1), (7, .int .i64 0)]) (by kernel_rfl) ?_
        refine Run_loop (fun m L' h' => ∃ (s2 : (List (List Int)) × Int), M.loopN _ n m s2 = some x4 ∧ L' = [(0, .slice aa_ a_.length ca_), (1, .slice ab b.length cb), (5, .slice a2 x2.length c2), (6, .int .i64 i1), (7, .int .i64 s2.2)] ∧ Hold h h' [own cd39 a2 x2.length c2 s2.1]) n ⟨(s1, 0), gx4, rfl, H3⟩ ?_
        rintro my2 _ h4 ⟨s2, gx4, rfl, H5⟩
        obtain ⟨my2, y2, rfl, hB2, hgoy2, houty2⟩ := M.loop_some gx4
        refine Run_seq ?_
        refine Run_seq ?_
        obtain ⟨x5, hx3, hB2⟩ := M.bind_some hB2
        obtain ⟨hx3l, hx3u, hx3⟩ := M.idx_some hx3
        obtain ⟨a3, c3, hc2, r2⟩ := rb.row hx3
        refine Run_reg 6 (by kernel_rfl) (L' := [(0, .slice aa_ a_.length ca_), (1, .slice ab b.length cb), (5, .slice a2 x2.length c2), (6, .int .i64 i1), (7, .int .i64 s2.2), (27, .bool (decide (s2.2 < (x5.length : Int))))]) ?_ ?_
        · refine QRun_b [.int .i64 s2.2, .slice ab b.length cb] 0 _ (by kernel_rfl) (fun w => by kernel_rfl) ?_
          refine QRun_y (.pointer (some (adr ab (0 * 1)))) (by kernel_rfl) (Y_idx (t := 37) (e := 39) (sz := 1) (a := ab) (n := b.length) (cap := cb) (kk := .i64) (i := 0) (by kernel_rfl) Try.underlying37 (by kernel_rfl) ((rb.at H5.ext).cell hx3).1 hx3l hx3u) ?_
          refine QRun_y (.slice a3 x5.length c3) (by kernel_rfl) (Y_load1 (t := 39) (p := adr ab (0 * 1)) (v := .slice a3 x5.length c3) (by kernel_rfl) (fun w => by kernel_rfl) (cell_at H5.ext hc2)) ?_
          refine QRun_b [.int .i64 (x5.length : Int), .bool (decide (s2.2 < (x5.length : Int)))] 4 _ (by kernel_rfl) (fun w => by kernel_rfl) ?_
          exact QRun_done [0, 1, 5, 6, 7, 27] (by kernel_rfl) (by kernel_rfl)
        refine Run_cond (b := decide (s2.2 < (x5.length : Int))) (by kernel_rfl) (fun hb2 => ?_) (fun hb2 => ?_)
        · have hB2 := (M.ite_some hB2).1 hb2
          refine Run_skip ?_
          refine Run_seq ?_
          refine Run_block ?_
          refine Run_seq ?_
          refine Run_reg 1 (by kernel_rfl) (L' := [(0, .slice aa_ a_.length ca_), (1, .slice ab b.length cb), (5, .slice a2 x2.length c2), (6, .int .i64 i1), (7, .int .i64 s2.2), (8, .int .i64 0)]) ?_ ?_
          · refine QRun_b [.int .i64 0] 0 _ (by kernel_rfl) (fun w => by kernel_rfl) ?_
            exact QRun_done [0, 1, 5, 6, 7, 8] (by kernel_rfl) (by kernel_rfl)
          obtain ⟨x6, gx6, hB2⟩ := M.bind_some hB2
          obtain ⟨hloy3, hhiy3, gx6⟩ := M.for_start gx6
          refine Run_join (fun L' h' => L' = [(0, .slice aa_ a_.length ca_), (1, .slice ab b.length cb), (5, .slice a2 x2.length c2), (6, .int .i64 i1), (7, .int .i64 s2.2)] ∧ Hold h h' [own cd39 a2 x2.length c2 x6]) ?_ ?_
          · rintro _ h7 ⟨rfl, H8⟩
            refine Run_blk ?_
            refine Run_reg 3 (by kernel_rfl) (L' := [(0, .slice aa_ a_.length ca_), (1, .slice ab b.length cb), (5, .slice a2 x2.length c2), (6, .int .i64 i1), (7, .int .i64 (w64 (s2.2 + 1)))]) ?_ ?_
            · refine QRun_b [.int .i64 s2.2, .int .i64 (w64 (s2.2 + 1)), .int .i64 (w64 (s2.2 + 1))] 0 _ (by kernel_rfl) (fun w => by kernel_rfl) ?_
              exact QRun_done [0, 1, 5, 6, 7] (by kernel_rfl) (by kernel_rfl)
            have hB2 := M.ret_some hB2
            have gx4 := hgoy2 _ hB2.symm
            exact Run_again [0, 1, 5, 6, 7] (by kernel_rfl) my2 (Nat.lt_succ_self _) ⟨(x6, (w64 (s2.2 + 1))), gx4, rfl, H8⟩
          · refine Run_block ?_
            refine Run_keep [0, 1, 5, 6, 7, 8] (L' := [(0, .slice aa_ a_.length ca_), (1, .slice ab b.length cb), (5, .slice a2 x2.length c2), (6, .int .i64 i1), (7, .int .i64 s2.2), (8, .int .i64 0)]) (by kernel_rfl) ?_
            refine Run_loop (fun m L' h' => ∃ (i2 : Int) (s3 : (List (List Int))), 0 ≤ i2 ∧ M.forN (b.length : Int) _ _ n m i2 s3 = some x6 ∧ L' = [(0, .slice aa_ a_.length ca_), (1, .slice ab b.length cb), (5, .slice a2 x2.length c2), (6, .int .i64 i1), (7, .int .i64 s2.2), (8, .int .i64 i2)] ∧ Hold h h' [own cd39 a2 x2.length c2 s3]) ((b.length : Int) - 0 : Int).toNat ⟨0, s2.1, Int.le_refl _, gx6, rfl, H5⟩ ?_
            rintro my3 _ h6 ⟨i2, s3, hloy3', gx6, rfl, H7⟩
            refine Run_seq ?_
            refine Run_seq ?_
            refine Run_reg 4 (by kernel_rfl) (L' := [(0, .slice aa_ a_.length ca_), (1, .slice ab b.length cb), (5, .slice a2 x2.length c2), (6, .int .i64 i1), (7, .int .i64 s2.2), (8, .int .i64 i2), (33, .bool (decide (i2 < (b.length : Int))))]) ?_ ?_
            · refine QRun_b [.int .i64 i2, .slice ab b.length cb, .int .i64 (b.length : Int), .bool (decide (i2 < (b.length : Int)))] 0 _ (by kernel_rfl) (fun w => by kernel_rfl) ?_
              exact QRun_done [0, 1, 5, 6, 7, 8, 33] (by kernel_rfl) (by kernel_rfl)
            refine Run_cond (b := decide (i2 < (b.length : Int))) (by kernel_rfl) (fun hb3 => ?_) (fun hb3 => ?_)
            · obtain ⟨my3, y3, rfl, hB3, hgoy3, houty3⟩ := M.for_go gx6 hb3
              have hlty3 := of_decide_eq_true hb3
              refine Run_skip ?_
              refine Run_seq ?_
              refine Run_block ?_
              obtain ⟨x7, hx4, hB3⟩ := M.bind_some hB3
              obtain ⟨hx4l, hx4u, hx4⟩ := M.idx_some hx4
              have H9 := H7.toRows
              obtain ⟨a4, c4, H10⟩ := H9.pinRow hx4
              obtain ⟨x8, hx5, hB3⟩ := M.bind_some hB3
              obtain ⟨hx5l, hx5u, hx5⟩ := M.idx_some hx5
              obtain ⟨a5, c5, H11⟩ := H10.pinRow hx5
              obtain ⟨x9, hx6, hB3⟩ := M.bind_some hB3
              obtain ⟨hx6l, hx6u, hx6⟩ := M.idx_some hx6
              obtain ⟨x10, hx7, hB3⟩ := M.bind_some hB3
              obtain ⟨hx7l, hx7u, hx7⟩ := M.idx_some hx7
              obtain ⟨a6, c6, hc3, r3⟩ := ra_.row hx7
              obtain ⟨x11, hx8, hB3⟩ := M.bind_some hB3
              obtain ⟨hx8l, hx8u, hx8⟩ := M.idx_some hx8
              obtain ⟨x12, hx9, hB3⟩ := M.bind_some hB3
              obtain ⟨hx9l, hx9u, hx9⟩ := M.idx_some hx9
              obtain ⟨a7, c7, hc4, r4⟩ := rb.row hx9
              obtain ⟨x13, hx10, hB3⟩ := M.bind_some hB3
              obtain ⟨hx10l, hx10u, hx10⟩ := M.idx_some hx10
              obtain ⟨x14, hx11, hB3⟩ := M.bind_some hB3
              obtain ⟨x15, hx12, hB3⟩ := M.bind_some hB3
              obtain ⟨hx12l, hx12u, hx12⟩ := M.idx_some hx12
              refine Run_D (fun x => Hold h x [rowsP cd2 39 a2 x2.length c2 s3 [(i1.toNat, a5, x8.length, c5, x8), (i1.toNat, a4, x7.length, c4, x7)]]) (fun x => Hold h x [rowsP cd2 39 a2 x2.length c2 s3 [(i1.toNat, a5, x8.length, c5, x8), (i1.toNat, a4, x7.length, c4, x7)]]) mixed (by kernel_rfl) H11 Hold.stable (fun x Hy => (show Hold h x [rowsP cd2 39 a2 x2.length c2 s3 [(i1.toNat, a5, x8.length, c5, x8), (i1.toNat, a4, x7.length, c4, x7)]] from Hy).pick [0] (by kernel_rfl)) ?_
              refine DR_b 28 [.slice a2 x2.length c2, .int .i64 i1] 0 (by kernel_rfl) (by kernel_rfl) (by kernel_rfl) (fun w => by kernel_rfl) ?_
              refine DR_y 27 (i := 2) (.pointer (some (adr a2 (i1.toNat * 1)))) (by kernel_rfl) (by kernel_rfl) (by kernel_rfl) (fun hx Hx => (YE.of (Y_idx (t := 37) (e := 39) (sz := 1) (a := a2) (n := x2.length) (cap := c2) (kk := .i64) (i := i1) (by kernel_rfl) Try.underlying37 (by kernel_rfl) ((H7.rd 0 rfl).cell hx4).1 hx4l (by rw [← (H7.len 0 rfl)]; exact hx4u)))) ?_
              refine DR_y 26 (i := 3) (.slice a4 x7.length c4) (by kernel_rfl) (by kernel_rfl) (by kernel_rfl) (fun hx Hx => (YE.of (Y_load1 (t := 39) (p := adr a2 (i1.toNat * 1)) (v := .slice a4 x7.length c4) (by kernel_rfl) (fun w => by kernel_rfl) (Hx.cellPin 0 rfl 1 rfl)))) ?_
              refine DR_b 23 [.int .i64 s2.2, .slice a2 x2.length c2, .int .i64 i1] 4 (by kernel_rfl) (by kernel_rfl) (by kernel_rfl) (fun w => by kernel_rfl) ?_
              refine DR_y 22 (i := 7) (.pointer (some (adr a2 (i1.toNat * 1)))) (by kernel_rfl) (by kernel_rfl) (by kernel_rfl) (fun hx Hx => (YE.of (Y_idx (t := 37) (e := 39) (sz := 1) (a := a2) (n := x2.length) (cap := c2) (kk := .i64) (i := i1) (by kernel_rfl) Try.underlying37 (by kernel_rfl) ((H10.rdRows 0 rfl).cell hx5).1 hx5l (by rw [← (H10.lenRows 0 rfl)]; exact hx5u)))) ?_
              refine DR_y 21 (i := 8) (.slice a5 x8.length c5) (by kernel_rfl) (by kernel_rfl) (by kernel_rfl) (fun hx Hx => (YE.of (Y_load1 (t := 39) (p := adr a2 (i1.toNat * 1)) (v := .slice a5 x8.length c5) (by kernel_rfl) (fun w => by kernel_rfl) (Hx.cellPin 0 rfl 0 rfl)))) ?_
              refine DR_b 20 [.int .i64 s2.2] 9 (by kernel_rfl) (by kernel_rfl) (by kernel_rfl) (fun w => by kernel_rfl) ?_
              refine DR_y 19 (i := 10) (.pointer (some (adr a5 (s2.2.toNat * 1)))) (by kernel_rfl) (by kernel_rfl) (by kernel_rfl) (fun hx Hx => (YE.of (Y_idx (t := 39) (e := 2) (sz := 1) (a := a5) (n := x8.length) (cap := c5) (kk := .i64) (i := s2.2) (by kernel_rfl) Try.underlying39 (by kernel_rfl) ((H11.rdPin 0 rfl 0 rfl).cell hx6).1 hx6l hx6u))) ?_
              refine DR_y 18 (i := 11) (.int .i64 x9) (by kernel_rfl) (by kernel_rfl) (by kernel_rfl) (fun hx Hx => (YE.of (Y_load1 (t := 2) (p := adr a5 (s2.2.toNat * 1)) (v := .int .i64 x9) (by kernel_rfl) (fun w => by kernel_rfl) (cd2_cell (Hx.rdPin 0 rfl 0 rfl) hx6)))) ?_
              refine DR_b 16 [.slice aa_ a_.length ca_, .int .i64 i1] 12 (by kernel_rfl) (by kernel_rfl) (by kernel_rfl) (fun w => by kernel_rfl) ?_
              refine DR_y 15 (i := 14) (.pointer (some (adr aa_ (i1.toNat * 1)))) (by kernel_rfl) (by kernel_rfl) (by kernel_rfl) (fun hx Hx => (YE.of (Y_idx (t := 37) (e := 39) (sz := 1) (a := aa_) (n := a_.length) (cap := ca_) (kk := .i64) (i := i1) (by kernel_rfl) Try.underlying37 (by kernel_rfl) ((ra_.at H11.ext).cell hx7).1 hx7l hx7u))) ?_
              refine DR_y 14 (i := 15) (.slice a6 x10.length c6) (by kernel_rfl) (by kernel_rfl) (by kernel_rfl) (fun hx Hx => (YE.of (Y_load1 (t := 39) (p := adr aa_ (i1.toNat * 1)) (v := .slice a6 x10.length c6) (by kernel_rfl) (fun w => by kernel_rfl) (cell_at Hx.ext hc3)))) ?_
              refine DR_b 13 [.int .i64 i2] 16 (by kernel_rfl) (by kernel_rfl) (by kernel_rfl) (fun w => by kernel_rfl) ?_
              refine DR_y 12 (i := 17) (.pointer (some (adr a6 (i2.toNat * 1)))) (by kernel_rfl) (by kernel_rfl) (by kernel_rfl) (fun hx Hx => (YE.of (Y_idx (t := 39) (e := 2) (sz := 1) (a := a6) (n := x10.length) (cap := c6) (kk := .i64) (i := i2) (by kernel_rfl) Try.underlying39 (by kernel_rfl) ((r3.at H11.ext).cell hx8).1 hx8l hx8u))) ?_
              refine DR_y 11 (i := 18) (.int .i64 x11) (by kernel_rfl) (by kernel_rfl) (by kernel_rfl) (fun hx Hx => (YE.of (Y_load1 (t := 2) (p := adr a6 (i2.toNat * 1)) (v := .int .i64 x11) (by kernel_rfl) (fun w => by kernel_rfl) (cd2_cell (r3.at Hx.ext) hx8)))) ?_
              refine DR_b 9 [.slice ab b.length cb, .int .i64 i2] 19 (by kernel_rfl) (by kernel_rfl) (by kernel_rfl) (fun w => by kernel_rfl) ?_
              refine DR_y 8 (i := 21) (.pointer (some (adr ab (i2.toNat * 1)))) (by kernel_rfl) (by kernel_rfl) (by kernel_rfl) (fun hx Hx => (YE.of (Y_idx (t := 37) (e := 39) (sz := 1) (a := ab) (n := b.length) (cap := cb) (kk := .i64) (i := i2) (by kernel_rfl) Try.underlying37 (by kernel_rfl) ((rb.at H11.ext).cell hx9).1 hx9l hx9u))) ?_
              refine DR_y 7 (i := 22) (.slice a7 x12.length c7) (by kernel_rfl) (by kernel_rfl) (by kernel_rfl) (fun hx Hx => (YE.of (Y_load1 (t := 39) (p := adr ab (i2.toNat * 1)) (v := .slice a7 x12.length c7) (by kernel_rfl) (fun w => by kernel_rfl) (cell_at Hx.ext hc4)))) ?_
              refine DR_b 6 [.int .i64 s2.2] 23 (by kernel_rfl) (by kernel_rfl) (by kernel_rfl) (fun w => by kernel_rfl) ?_
              refine DR_y 5 (i := 24) (.pointer (some (adr a7 (s2.2.toNat * 1)))) (by kernel_rfl) (by kernel_rfl) (by kernel_rfl) (fun hx Hx => (YE.of (Y_idx (t := 39) (e := 2) (sz := 1) (a := a7) (n := x12.length) (cap := c7) (kk := .i64) (i := s2.2) (by kernel_rfl) Try.underlying39 (by kernel_rfl) ((r4.at H11.ext).cell hx10).1 hx10l hx10u))) ?_
              refine DR_y 4 (i := 25) (.int .i64 x13) (by kernel_rfl) (by kernel_rfl) (by kernel_rfl) (fun hx Hx => (YE.of (Y_load1 (t := 2) (p := adr a7 (s2.2.toNat * 1)) (v := .int .i64 x13) (by kernel_rfl) (fun w => by kernel_rfl) (cd2_cell (r4.at Hx.ext) hx10)))) ?_
              refine DR_y 3 (i := 26) (.int .i64 x14) (by kernel_rfl) (by kernel_rfl) (by kernel_rfl) (fun hx Hx => (YE.of (Y_callq (f := 117) (args := #[.int .i64 x11, .int .i64 x13]) (v := .int .i64 x14) (by kernel_rfl) (w_spec_l01Times hx x11 x13 _ _ hx11)))) ?_
              refine DR_b 2 [.int .i64 (mx x9 x14)] 27 (by kernel_rfl) (by kernel_rfl) (by kernel_rfl) (fun w => by kernel_rfl) ?_
              refine DR_y 1 (i := 28) (.pointer (some (adr a4 (s2.2.toNat * 1)))) (by kernel_rfl) (by kernel_rfl) (by kernel_rfl) (fun hx Hx => (YE.of (Y_idx (t := 39) (e := 2) (sz := 1) (a := a4) (n := x7.length) (cap := c4) (kk := .i64) (i := s2.2) (by kernel_rfl) Try.underlying39 (by kernel_rfl) ((H11.rdPin 0 rfl 1 rfl).cell hx12).1 hx12l hx12u))) ?_
              refine DR_tail (i := 29) (by kernel_rfl) (by kernel_rfl) (by kernel_rfl) (fun h8 H12 => ?_)
              have H13 : Hold h h8 [rowsP cd2 39 a2 x2.length c2 s3 [(i1.toNat, a5, x8.length, c5, x8), (i1.toNat, a4, x7.length, c4, x7)]] := H12
              obtain ⟨l1, hu1, hB3⟩ := M.bind_some hB3
              have hu1 := M.upd_some hu1
              refine Run_E (by kernel_rfl) ?_
              refine E_put2 (C := cd2) (t := 2) (sz := 1) (j := s2.2) (x := (mx x9 x14)) (v := .int .i64 (mx x9 x14)) (m2 := s3.set i1.toNat l1) H13 cd2_flat 1 rfl (by kernel_rfl) rfl (cd2_own _) (by kernel_rfl) hu1 rfl (fun h9 H14 => ?_)
              refine Run_nil (by kernel_rfl) ?_
              refine Run_keep [0, 1, 5, 6, 7, 8] (L' := [(0, .slice aa_ a_.length ca_), (1, .slice ab b.length cb), (5, .slice a2 x2.length c2), (6, .int .i64 i1), (7, .int .i64 s2.2), (8, .int .i64 i2)]) (by kernel_rfl) ?_
              refine Run_blk ?_
              refine Run_reg 3 (by kernel_rfl) (L' := [(0, .slice aa_ a_.length ca_), (1, .slice ab b.length cb), (5, .slice a2 x2.length c2), (6, .int .i64 i1), (7, .int .i64 s2.2), (8, .int .i64 (i2 + 1))]) ?_ ?_
              · refine QRun_b [.int .i64 i2] 0 _ (by kernel_rfl) (fun w => by kernel_rfl) ?_
                refine QRun_y (.int .i64 (i2 + 1)) (by kernel_rfl) (Y_eq (v := .int .i64 (w64 (i2 + 1))) (Y_pure (fun w => by kernel_rfl)) (by rw [w64_eq _ (by omega)])) ?_
                refine QRun_b [.int .i64 (i2 + 1)] 2 _ (by kernel_rfl) (fun w => by kernel_rfl) ?_
                exact QRun_done [0, 1, 5, 6, 7, 8] (by kernel_rfl) (by kernel_rfl)
              have H15 := H14.ofRows
              have hB3 := M.ret_some hB3
              have gx6 := hgoy3 _ hB3.symm
              exact Run_again [0, 1, 5, 6, 7, 8] (by kernel_rfl) my3 (Nat.lt_succ_self _) ⟨i2 + 1, (s3.set i1.toNat l1), by omega, gx6, rfl, H15⟩
            · have gx6 := M.for_end gx6 hb3
              subst gx6
              refine Run_exit (k' := _) rfl ?_
              exact Run_fall [0, 1, 5, 6, 7] (by kernel_rfl) ⟨rfl, H7⟩
        · have hB2 := (M.ite_some hB2).2 hb2
          refine Run_exit (k' := _) rfl ?_
          have hB2 := M.ret_some hB2
          have gx4 := houty2 _ hB2.symm
          subst gx4
          exact Run_fall [0, 1, 5, 6] (by kernel_rfl) ⟨rfl, H5⟩
    · have gx3 := M.for_end gx3 hb1
      subst gx3
      refine Run_exit (k' := _) rfl ?_
      exact Run_fall [5] (by kernel_rfl) ⟨rfl, H3⟩

end Go.Proofs.Ytipdgiljgbjjkaa
