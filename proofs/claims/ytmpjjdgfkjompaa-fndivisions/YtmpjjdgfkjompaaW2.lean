/-
  Walks: each Go function, called with what reads as plain data, returns what its plain program computes.
  Conditions: None beyond the given statement.
-/
import Derived.Test.YtmpjjdgfkjompaaW1
namespace Go.Proofs.Ytmpjjdgfkjompaa
open Go
attribute [local irreducible] setL setB opA fineI idleI fineB evB okB markB markBs readyB readyBs chainB lk rho pickL dropSlot tailOK
set_option maxRecDepth 100000 in
set_option maxHeartbeats 4000000 in
theorem w_laws_below9 (h : Heap) (a_ : List Int) {Sa_ : Bs} (aa_ : Option Addr) (ca_ : Nat) (ra_ : Rd cd2 h Sa_ aa_ ca_ a_) (b : List Int) {Sb : Bs} (ab : Option Addr) (cb : Nat) (rb : Rd cd2 h Sb ab cb b) (n : Nat) (r : Bool) (hF : laws_below9 a_ b n = some r) :
    Fn Try.prog 45 #[.slice aa_ a_.length ca_, .slice ab b.length cb] h fun v h' => v = .bool r ∧ h' = h := by
  unfold laws_below9 at hF
  refine Fn_enter (args := [.slice aa_ a_.length ca_, .slice ab b.length cb]) Try.func45 rfl (by kernel_rfl) (by kernel_rfl) (fun w0 _ => ?_)
  refine Run_seq ?_
  refine Run_reg 1 (by kernel_rfl) (L' := [(0, .slice aa_ a_.length ca_), (1, .slice ab b.length cb)]) ?_ ?_
  · refine QRun_b [.bool false] 0 _ (by kernel_rfl) (fun w => by kernel_rfl) ?_
    exact QRun_done [0, 1] (by kernel_rfl) (by kernel_rfl)
  refine Run_seq ?_
  refine Run_seq ?_
  refine Run_reg 5 (by kernel_rfl) (L' := [(0, .slice aa_ a_.length ca_), (1, .slice ab b.length cb), (10, .bool ((a_.length : Int) != (b.length : Int)))]) ?_ ?_
  · refine QRun_b [.slice aa_ a_.length ca_, .int .i64 (a_.length : Int), .slice ab b.length cb, .int .i64 (b.length : Int), .bool ((a_.length : Int) != (b.length : Int))] 0 _ (by kernel_rfl) (fun w => by kernel_rfl) ?_
    exact QRun_done [0, 1, 10] (by kernel_rfl) (by kernel_rfl)
  refine Run_cond (b := (a_.length : Int) != (b.length : Int)) (by kernel_rfl) (fun hb1 => ?_) (fun hb1 => ?_)
  · have hF := (M.ite_some hF).1 hb1
    refine Run_seq ?_
    refine Run_reg 1 (by kernel_rfl) (L' := [(4, .bool false)]) ?_ ?_
    · refine QRun_b [.bool false] 0 _ (by kernel_rfl) (fun w => by kernel_rfl) ?_
      exact QRun_done [4] (by kernel_rfl) (by kernel_rfl)
    have hF := M.ret_some hF
    subst hF
    exact Run_ret1 rfl (ResV_tmp (v := .bool false) (by kernel_rfl)) ⟨rfl, rfl⟩
  · have hF := (M.ite_some hF).2 hb1
    refine Run_skip ?_
    refine Run_seq ?_
    refine Run_seq ?_
    refine Run_reg 1 (by kernel_rfl) (L' := [(0, .slice aa_ a_.length ca_), (1, .slice ab b.length cb), (5, .int .i64 0)]) ?_ ?_
    · refine QRun_b [.int .i64 0] 0 _ (by kernel_rfl) (fun w => by kernel_rfl) ?_
      exact QRun_done [0, 1, 5] (by kernel_rfl) (by kernel_rfl)
    obtain ⟨x1, gx1, hF⟩ := M.bind_some hF
    obtain ⟨hloy1, hhiy1, gx1⟩ := M.for_start gx1
    refine Run_join (fun L' h' => ∃ (s2 : Unit), x1 = .inl s2 ∧ L' = [] ∧ h = h') ?_ ?_
    · rintro _ _ ⟨s2, es2, rfl, rfl⟩
      have hF := M.cont_inl' hF es2
      refine Run_seq ?_
      refine Run_reg 1 (by kernel_rfl) (L' := [(4, .bool true)]) ?_ ?_
      · refine QRun_b [.bool true] 0 _ (by kernel_rfl) (fun w => by kernel_rfl) ?_
        exact QRun_done [4] (by kernel_rfl) (by kernel_rfl)
      have hF := M.ret_some hF
      subst hF
      exact Run_ret1 rfl (ResV_tmp (v := .bool true) (by kernel_rfl)) ⟨rfl, rfl⟩
    · refine Run_block ?_
      refine Run_keep [0, 1, 5] (L' := [(0, .slice aa_ a_.length ca_), (1, .slice ab b.length cb), (5, .int .i64 0)]) (by kernel_rfl) ?_
      refine Run_loop (fun m L' h' => ∃ (i1 : Int) (s1 : Unit), 0 ≤ i1 ∧ M.forN (a_.length : Int) _ _ n m i1 s1 = some x1 ∧ L' = [(0, .slice aa_ a_.length ca_), (1, .slice ab b.length cb), (5, .int .i64 i1)] ∧ h = h') ((a_.length : Int) - 0 : Int).toNat ⟨0, (), Int.le_refl _, gx1, rfl, rfl⟩ ?_
      rintro my1 _ _ ⟨i1, s1, hloy1', gx1, rfl, rfl⟩
      refine Run_seq ?_
      refine Run_seq ?_
      refine Run_reg 4 (by kernel_rfl) (L' := [(0, .slice aa_ a_.length ca_), (1, .slice ab b.length cb), (5, .int .i64 i1), (14, .bool (decide (i1 < (a_.length : Int))))]) ?_ ?_
      · refine QRun_b [.int .i64 i1, .slice aa_ a_.length ca_, .int .i64 (a_.length : Int), .bool (decide (i1 < (a_.length : Int)))] 0 _ (by kernel_rfl) (fun w => by kernel_rfl) ?_
        exact QRun_done [0, 1, 5, 14] (by kernel_rfl) (by kernel_rfl)
      refine Run_cond (b := decide (i1 < (a_.length : Int))) (by kernel_rfl) (fun hb2 => ?_) (fun hb2 => ?_)
      · obtain ⟨my1, y1, rfl, hB1, hgoy1, houty1⟩ := M.for_go gx1 hb2
        have hlty1 := of_decide_eq_true hb2
        refine Run_skip ?_
        refine Run_seq ?_
        refine Run_block ?_
        refine Run_seq ?_
        obtain ⟨x2, hx1, hB1⟩ := M.bind_some hB1
        obtain ⟨hx1l, hx1u, hx1⟩ := M.idx_some hx1
        obtain ⟨x3, hx2, hB1⟩ := M.bind_some hB1
        obtain ⟨hx2l, hx2u, hx2⟩ := M.idx_some hx2
        refine Run_draw 9 mixed (by kernel_rfl) (by kernel_rfl) (L' := [(0, .slice aa_ a_.length ca_), (1, .slice ab b.length cb), (5, .int .i64 i1), (25, .bool (decide (x3 < x2)))]) ?_ ?_
        · refine QRun_b [.slice aa_ a_.length ca_, .int .i64 i1] 0 _ (by kernel_rfl) (fun w => by kernel_rfl) ?_
          refine QRun_y (.pointer (some (adr aa_ (i1.toNat * 1)))) (by kernel_rfl) (Y_idx (t := 23) (e := 2) (sz := 1) (a := aa_) (n := a_.length) (cap := ca_) (kk := .i64) (i := i1) (by kernel_rfl) Try.underlying23 (by kernel_rfl) (ra_.cell hx1).1 hx1l hx1u) ?_
          refine QRun_y (.int .i64 x2) (by kernel_rfl) (Y_load1 (t := 2) (p := adr aa_ (i1.toNat * 1)) (v := .int .i64 x2) (by kernel_rfl) (fun w => by kernel_rfl) (cd2_cell ra_ hx1)) ?_
          refine QRun_b [.slice ab b.length cb, .int .i64 i1] 4 _ (by kernel_rfl) (fun w => by kernel_rfl) ?_
          refine QRun_y (.pointer (some (adr ab (i1.toNat * 1)))) (by kernel_rfl) (Y_idx (t := 23) (e := 2) (sz := 1) (a := ab) (n := b.length) (cap := cb) (kk := .i64) (i := i1) (by kernel_rfl) Try.underlying23 (by kernel_rfl) (rb.cell hx2).1 hx2l hx2u) ?_
          refine QRun_y (.int .i64 x3) (by kernel_rfl) (Y_load1 (t := 2) (p := adr ab (i1.toNat * 1)) (v := .int .i64 x3) (by kernel_rfl) (fun w => by kernel_rfl) (cd2_cell rb hx2)) ?_
          refine QRun_b [.bool (decide (x3 < x2))] 8 _ (by kernel_rfl) (fun w => by kernel_rfl) ?_
          exact QRun_done [0, 1, 5, 25] (by kernel_rfl) (by kernel_rfl)
        refine Run_cond (b := decide (x3 < x2)) (by kernel_rfl) (fun hb3 => ?_) (fun hb3 => ?_)
        · have hB1 := (M.ite_some hB1).1 hb3
          refine Run_seq ?_
          refine Run_reg 1 (by kernel_rfl) (L' := [(4, .bool false)]) ?_ ?_
          · refine QRun_b [.bool false] 0 _ (by kernel_rfl) (fun w => by kernel_rfl) ?_
            exact QRun_done [4] (by kernel_rfl) (by kernel_rfl)
          have hB1 := M.ret_some hB1
          have gx1 := houty1 _ hB1.symm
          have hF := M.cont_inr' hF gx1
          have hF := M.ret_some hF
          subst hF
          exact Run_ret1 rfl (ResV_tmp (v := .bool false) (by kernel_rfl)) ⟨rfl, rfl⟩
        · have hB1 := (M.ite_some hB1).2 hb3
          refine Run_skip ?_
          refine Run_blk ?_
          refine Run_reg 3 (by kernel_rfl) (L' := [(0, .slice aa_ a_.length ca_), (1, .slice ab b.length cb), (5, .int .i64 (i1 + 1))]) ?_ ?_
          · refine QRun_b [.int .i64 i1] 0 _ (by kernel_rfl) (fun w => by kernel_rfl) ?_
            refine QRun_y (.int .i64 (i1 + 1)) (by kernel_rfl) (Y_eq (v := .int .i64 (w64 (i1 + 1))) (Y_pure (fun w => by kernel_rfl)) (by rw [w64_eq _ (by omega)])) ?_
            refine QRun_b [.int .i64 (i1 + 1)] 2 _ (by kernel_rfl) (fun w => by kernel_rfl) ?_
            exact QRun_done [0, 1, 5] (by kernel_rfl) (by kernel_rfl)
          have hB1 := M.ret_some hB1
          have gx1 := hgoy1 _ hB1.symm
          exact Run_again [0, 1, 5] (by kernel_rfl) my1 (Nat.lt_succ_self _) ⟨i1 + 1, (), by omega, gx1, rfl, rfl⟩
      · have gx1 := M.for_end gx1 hb2
        subst gx1
        refine Run_exit (k' := _) rfl ?_
        exact Run_fall [] (by kernel_rfl) ⟨(), rfl, rfl, rfl⟩

set_option maxRecDepth 100000 in
set_option maxHeartbeats 4000000 in
theorem w_laws_FnDivisions (h : Heap) (code : List Int) (acode : Option Addr) (ccode : Nat) (rcode : Rd cd5 h (Lt h) acode ccode code) (n : Nat) (r : Bool) (hF : laws_FnDivisions code n = some r) :
    Fn Try.prog 11 #[.slice acode code.length ccode] h fun v h' => v = .bool r ∧ Hold h h' [] := by
  unfold laws_FnDivisions at hF
  refine Fn_enter (args := [.slice acode code.length ccode]) Try.func11 rfl (by kernel_rfl) (by kernel_rfl) (fun w0 _ => ?_)
  have H0 := Hold.init h
  refine Run_seq ?_
  refine Run_reg 1 (by kernel_rfl) (L' := [(0, .slice acode code.length ccode)]) ?_ ?_
  · refine QRun_b [.bool false] 0 _ (by kernel_rfl) (fun w => by kernel_rfl) ?_
    exact QRun_done [0] (by kernel_rfl) (by kernel_rfl)
  refine Run_seq ?_
  refine Run_seq ?_
  obtain ⟨x1, hx1, hF⟩ := M.bind_some hF
  refine Run_reg 2 (by kernel_rfl) (L' := [(0, .slice acode code.length ccode), (29, .bool x1)]) ?_ ?_
  · refine QRun_b [.slice acode code.length ccode] 0 _ (by kernel_rfl) (fun w => by kernel_rfl) ?_
    refine QRun_y (.bool x1) (by kernel_rfl) (Y_callq (f := 40) (args := #[.slice acode code.length ccode]) (v := .bool x1) (by kernel_rfl) (w_laws_big h code acode ccode rcode _ _ hx1)) ?_
    exact QRun_done [0, 29] (by kernel_rfl) (by kernel_rfl)
  refine Run_cond (b := x1) (by kernel_rfl) (fun hb1 => ?_) (fun hb1 => ?_)
  · have hF := (M.ite_some hF).1 hb1
    refine Run_seq ?_
    refine Run_reg 1 (by kernel_rfl) (L' := [(2, .bool true)]) ?_ ?_
    · refine QRun_b [.bool true] 0 _ (by kernel_rfl) (fun w => by kernel_rfl) ?_
      exact QRun_done [2] (by kernel_rfl) (by kernel_rfl)
    have hF := M.ret_some hF
    subst hF
    exact Run_ret1 rfl (ResV_tmp (v := .bool true) (by kernel_rfl)) ⟨rfl, H0⟩
  · have hF := (M.ite_some hF).2 hb1
    refine Run_skip ?_
    refine Run_seq ?_
    refine Run_ops ?_
    refine Run_b [.slice acode code.length ccode] 0 _ (by kernel_rfl) (fun w => by kernel_rfl) ?_
    obtain ⟨x2, hx2, hF⟩ := M.bind_some hF
    refine Run_E (by kernel_rfl) ?_
    refine E_call (f := 41) (args := #[.slice acode code.length ccode]) (w_spec_DrawLeftQuotient h code acode ccode rcode _ _ hx2) (by kernel_rfl) (fun v1 h1 hp1 => ?_)
    obtain ⟨a1, c1, a2, c2, rfl, H1⟩ := hp1
    have H2 : Hold h h1 [own cd23 a1 x2.1.length c1 x2.1, own cd23 a2 x2.2.length c2 x2.2] := H0.call H1 rfl
    refine Run_b [.tuple #[.slice a1 x2.1.length c1, .slice a2 x2.2.length c2], .slice a1 x2.1.length c1, .slice a2 x2.2.length c2, .slice a1 x2.1.length c1, .slice a2 x2.2.length c2] 2 _ (by kernel_rfl) (fun w => by kernel_rfl) ?_
    refine Run_nil (by kernel_rfl) ?_
    refine Run_keep [0, 3, 4] (L' := [(0, .slice acode code.length ccode), (3, .slice a1 x2.1.length c1), (4, .slice a2 x2.2.length c2)]) (by kernel_rfl) ?_
    refine Run_seq ?_
    refine Run_ops ?_
    refine Run_b [.slice a1 x2.1.length c1, .slice a2 x2.2.length c2] 0 _ (by kernel_rfl) (fun w => by kernel_rfl) ?_
    obtain ⟨x3, hx3, hF⟩ := M.bind_some hF
    refine Run_E (by kernel_rfl) ?_
    refine E_call (f := 34) (args := #[.slice a1 x2.1.length c1, .slice a2 x2.2.length c2]) (w_impl_LeftQuotient h1 x2.1 a1 c1 (H2.rd 0 rfl) x2.2 a2 c2 (H2.rd 1 rfl) _ _ hx3) (by kernel_rfl) (fun v2 h2 hp2 => ?_)
    obtain ⟨a3, c3, rfl, H3⟩ := hp2
    have H4 : Hold h h2 [own cd23 a3 x3.1.length c3 x3.1, own cd23 a1 x2.1.length c1 x2.1, own cd23 a2 x2.2.length c2 x2.2] := H2.call H3 rfl
    refine Run_b [.tuple #[.slice a3 x3.1.length c3, .int .i64 x3.2], .slice a3 x3.1.length c3, .int .i64 x3.2, .slice a3 x3.1.length c3, .int .i64 x3.2] 3 _ (by kernel_rfl) (fun w => by kernel_rfl) ?_
    refine Run_nil (by kernel_rfl) ?_
    refine Run_keep [0, 3, 4, 5, 6] (L' := [(0, .slice acode code.length ccode), (3, .slice a1 x2.1.length c1), (4, .slice a2 x2.2.length c2), (5, .slice a3 x3.1.length c3), (6, .int .i64 x3.2)]) (by kernel_rfl) ?_
    refine Run_seq ?_
    refine Run_ops ?_
    refine Run_b [.slice a1 x2.1.length c1, .slice a2 x2.2.length c2] 0 _ (by kernel_rfl) (fun w => by kernel_rfl) ?_
    obtain ⟨x4, hx4, hF⟩ := M.bind_some hF
    refine Run_E (by kernel_rfl) ?_
    refine E_call (f := 33) (args := #[.slice a1 x2.1.length c1, .slice a2 x2.2.length c2]) (w_spec_LeftQuotient h2 x2.1 a1 c1 (H4.rd 1 rfl) x2.2 a2 c2 (H4.rd 2 rfl) _ _ hx4) (by kernel_rfl) (fun v3 h3 hp3 => ?_)
    obtain ⟨a4, c4, rfl, H5⟩ := hp3
    have H6 : Hold h h3 [own cd23 a4 x4.1.length c4 x4.1, own cd23 a3 x3.1.length c3 x3.1, own cd23 a1 x2.1.length c1 x2.1, own cd23 a2 x2.2.length c2 x2.2] := H4.call H5 rfl
    refine Run_b [.tuple #[.slice a4 x4.1.length c4, .int .i64 x4.2], .slice a4 x4.1.length c4, .int .i64 x4.2, .slice a4 x4.1.length c4, .int .i64 x4.2] 3 _ (by kernel_rfl) (fun w => by kernel_rfl) ?_
    refine Run_nil (by kernel_rfl) ?_
    refine Run_keep [0, 3, 4, 5, 6, 7, 8] (L' := [(0, .slice acode code.length ccode), (3, .slice a1 x2.1.length c1), (4, .slice a2 x2.2.length c2), (5, .slice a3 x3.1.length c3), (6, .int .i64 x3.2), (7, .slice a4 x4.1.length c4), (8, .int .i64 x4.2)]) (by kernel_rfl) ?_
    refine Run_seq ?_
    refine Run_ops ?_
    refine Run_b [.slice acode code.length ccode] 0 _ (by kernel_rfl) (fun w => by kernel_rfl) ?_
    obtain ⟨x5, hx5, hF⟩ := M.bind_some hF
    refine Run_E (by kernel_rfl) ?_
    refine E_call (f := 42) (args := #[.slice acode code.length ccode]) (w_spec_DrawRightQuotient h3 code acode ccode (rcode.at H6.ext) _ _ hx5) (by kernel_rfl) (fun v4 h4 hp4 => ?_)
    obtain ⟨a5, c5, a6, c6, rfl, H7⟩ := hp4
    have H8 : Hold h h4 [own cd23 a5 x5.1.length c5 x5.1, own cd23 a6 x5.2.length c6 x5.2, own cd23 a4 x4.1.length c4 x4.1, own cd23 a3 x3.1.length c3 x3.1, own cd23 a1 x2.1.length c1 x2.1, own cd23 a2 x2.2.length c2 x2.2] := H6.call H7 rfl
    refine Run_b [.tuple #[.slice a5 x5.1.length c5, .slice a6 x5.2.length c6], .slice a5 x5.1.length c5, .slice a6 x5.2.length c6, .slice a5 x5.1.length c5, .slice a6 x5.2.length c6] 2 _ (by kernel_rfl) (fun w => by kernel_rfl) ?_
    refine Run_nil (by kernel_rfl) ?_
    refine Run_keep [3, 4, 5, 6, 7, 8, 9, 10] (L' := [(3, .slice a1 x2.1.length c1), (4, .slice a2 x2.2.length c2), (5, .slice a3 x3.1.length c3), (6, .int .i64 x3.2), (7, .slice a4 x4.1.length c4), (8, .int .i64 x4.2), (9, .slice a5 x5.1.length c5), (10, .slice a6 x5.2.length c6)]) (by kernel_rfl) ?_
    refine Run_seq ?_
    refine Run_ops ?_
    refine Run_b [.slice a5 x5.1.length c5, .slice a6 x5.2.length c6] 0 _ (by kernel_rfl) (fun w => by kernel_rfl) ?_
    obtain ⟨x6, hx6, hF⟩ := M.bind_some hF
    refine Run_E (by kernel_rfl) ?_
    refine E_call (f := 37) (args := #[.slice a5 x5.1.length c5, .slice a6 x5.2.length c6]) (w_impl_RightQuotient h4 x5.1 a5 c5 (H8.rd 0 rfl) x5.2 a6 c6 (H8.rd 1 rfl) _ _ hx6) (by kernel_rfl) (fun v5 h5 hp5 => ?_)
    obtain ⟨a7, c7, rfl, H9⟩ := hp5
    have H10 : Hold h h5 [own cd23 a7 x6.1.length c7 x6.1, own cd23 a5 x5.1.length c5 x5.1, own cd23 a6 x5.2.length c6 x5.2, own cd23 a4 x4.1.length c4 x4.1, own cd23 a3 x3.1.length c3 x3.1, own cd23 a1 x2.1.length c1 x2.1, own cd23 a2 x2.2.length c2 x2.2] := H8.call H9 rfl
    refine Run_b [.tuple #[.slice a7 x6.1.length c7, .int .i64 x6.2], .slice a7 x6.1.length c7, .int .i64 x6.2, .slice a7 x6.1.length c7, .int .i64 x6.2] 3 _ (by kernel_rfl) (fun w => by kernel_rfl) ?_
    refine Run_nil (by kernel_rfl) ?_
    refine Run_keep [3, 4, 5, 6, 7, 8, 9, 10, 11, 12] (L' := [(3, .slice a1 x2.1.length c1), (4, .slice a2 x2.2.length c2), (5, .slice a3 x3.1.length c3), (6, .int .i64 x3.2), (7, .slice a4 x4.1.length c4), (8, .int .i64 x4.2), (9, .slice a5 x5.1.length c5), (10, .slice a6 x5.2.length c6), (11, .slice a7 x6.1.length c7), (12, .int .i64 x6.2)]) (by kernel_rfl) ?_
    refine Run_seq ?_
    refine Run_ops ?_
    refine Run_b [.slice a5 x5.1.length c5, .slice a6 x5.2.length c6] 0 _ (by kernel_rfl) (fun w => by kernel_rfl) ?_
    obtain ⟨x7, hx7, hF⟩ := M.bind_some hF
    refine Run_E (by kernel_rfl) ?_
    refine E_call (f := 36) (args := #[.slice a5 x5.1.length c5, .slice a6 x5.2.length c6]) (w_spec_RightQuotient h5 x5.1 a5 c5 (H10.rd 1 rfl) x5.2 a6 c6 (H10.rd 2 rfl) _ _ hx7) (by kernel_rfl) (fun v6 h6 hp6 => ?_)
    obtain ⟨a8, c8, rfl, H11⟩ := hp6
    have H12 : Hold h h6 [own cd23 a8 x7.1.length c8 x7.1, own cd23 a7 x6.1.length c7 x6.1, own cd23 a5 x5.1.length c5 x5.1, own cd23 a6 x5.2.length c6 x5.2, own cd23 a4 x4.1.length c4 x4.1, own cd23 a3 x3.1.length c3 x3.1, own cd23 a1 x2.1.length c1 x2.1, own cd23 a2 x2.2.length c2 x2.2] := H10.call H11 rfl
    refine Run_b [.tuple #[.slice a8 x7.1.length c8, .int .i64 x7.2], .slice a8 x7.1.length c8, .int .i64 x7.2, .slice a8 x7.1.length c8, .int .i64 x7.2] 3 _ (by kernel_rfl) (fun w => by kernel_rfl) ?_
    refine Run_nil (by kernel_rfl) ?_
    refine Run_keep [3, 4, 5, 6, 7, 8, 9, 11, 12, 13, 14] (L' := [(3, .slice a1 x2.1.length c1), (4, .slice a2 x2.2.length c2), (5, .slice a3 x3.1.length c3), (6, .int .i64 x3.2), (7, .slice a4 x4.1.length c4), (8, .int .i64 x4.2), (9, .slice a5 x5.1.length c5), (11, .slice a7 x6.1.length c7), (12, .int .i64 x6.2), (13, .slice a8 x7.1.length c8), (14, .int .i64 x7.2)]) (by kernel_rfl) ?_
    refine Run_seq ?_
    refine Run_seq ?_
    obtain ⟨x8, gx8, hF⟩ := M.bind_some hF
    obtain ⟨x11, gx11, hF⟩ := M.bind_some hF
    refine Run_reg 20 (by kernel_rfl) (L' := [(3, .slice a1 x2.1.length c1), (4, .slice a2 x2.2.length c2), (5, .slice a3 x3.1.length c3), (6, .int .i64 x3.2), (9, .slice a5 x5.1.length c5), (11, .slice a7 x6.1.length c7), (12, .int .i64 x6.2), (83, .bool x11)]) ?_ ?_
    · refine QRun_b [.int .i64 x3.2, .int .i64 x4.2, .bool (x3.2 != x4.2)] 0 _ (by kernel_rfl) (fun w => by kernel_rfl) ?_
      refine QRun_seq 9 [(3, .slice a1 x2.1.length c1), (4, .slice a2 x2.2.length c2), (5, .slice a3 x3.1.length c3), (6, .int .i64 x3.2), (9, .slice a5 x5.1.length c5), (11, .slice a7 x6.1.length c7), (12, .int .i64 x6.2), (13, .slice a8 x7.1.length c8), (14, .int .i64 x7.2), (72, .bool x8)] ?_ ?_
      · rcases Bool.eq_false_or_eq_true (x3.2 != x4.2) with hb2 | hb2
        · refine QRun_bool (x3.2 != x4.2) true (by kernel_rfl) (fun w => by kernel_rfl) hb2 ?_
          have gx8 := M.ret_some ((M.ite_some gx8).1 hb2)
          refine QRun_n (by kernel_rfl) ?_
          refine QRun_n (by kernel_rfl) ?_
          refine QRun_n (by kernel_rfl) ?_
          refine QRun_n (by kernel_rfl) ?_
          refine QRun_bool true x8 (by kernel_rfl) (fun w => by kernel_rfl) gx8 ?_
          exact QRun_done [3, 4, 5, 6, 9, 11, 12, 13, 14, 72] (by kernel_rfl) (by kernel_rfl)
        · refine QRun_bool (x3.2 != x4.2) false (by kernel_rfl) (fun w => by kernel_rfl) hb2 ?_
          have gx8 := (M.ite_some gx8).2 hb2
          obtain ⟨x9, hx8, gx8⟩ := M.bind_some gx8
          have gx8 := M.ret_some gx8
          refine QRun_b [.slice a3 x3.1.length c3, .slice a4 x4.1.length c4] 4 _ (by kernel_rfl) (fun w => by kernel_rfl) ?_
          refine QRun_y (.bool x9) (by kernel_rfl) (Y_callq (f := 43) (args := #[.slice a3 x3.1.length c3, .slice a4 x4.1.length c4]) (v := .bool x9) (by kernel_rfl) (w_laws_likeTables9 h6 x3.1 a3 c3 (H12.rd 5 rfl) x4.1 a4 c4 (H12.rd 4 rfl) _ _ hx8)) ?_
          refine QRun_b [.bool (!x9)] 7 _ (by kernel_rfl) (fun w => by kernel_rfl) ?_
          refine QRun_bool (!x9) x8 (by kernel_rfl) (fun w => by kernel_rfl) gx8 ?_
          exact QRun_done [3, 4, 5, 6, 9, 11, 12, 13, 14, 72] (by kernel_rfl) (by kernel_rfl)
      refine QRun_seq 14 [(3, .slice a1 x2.1.length c1), (4, .slice a2 x2.2.length c2), (5, .slice a3 x3.1.length c3), (6, .int .i64 x3.2), (9, .slice a5 x5.1.length c5), (11, .slice a7 x6.1.length c7), (12, .int .i64 x6.2), (13, .slice a8 x7.1.length c8), (77, .bool (x8 || (x6.2 != x7.2)))] ?_ ?_
      · rcases Bool.eq_false_or_eq_true x8 with hb3 | hb3
        · refine QRun_bool x8 true (by kernel_rfl) (fun w => by kernel_rfl) hb3 ?_
          refine QRun_n (by kernel_rfl) ?_
          refine QRun_n (by kernel_rfl) ?_
          refine QRun_n (by kernel_rfl) ?_
          refine QRun_bool true (x8 || (x6.2 != x7.2)) (by kernel_rfl) (fun w => by kernel_rfl) (by rw [hb3]; rfl) ?_
          exact QRun_done [3, 4, 5, 6, 9, 11, 12, 13, 77] (by kernel_rfl) (by kernel_rfl)
        · refine QRun_bool x8 false (by kernel_rfl) (fun w => by kernel_rfl) hb3 ?_
          refine QRun_b [.int .i64 x6.2, .int .i64 x7.2, .bool (x6.2 != x7.2)] 10 _ (by kernel_rfl) (fun w => by kernel_rfl) ?_
          refine QRun_bool (x6.2 != x7.2) (x8 || (x6.2 != x7.2)) (by kernel_rfl) (fun w => by kernel_rfl) (by rw [hb3]; rfl) ?_
          exact QRun_done [3, 4, 5, 6, 9, 11, 12, 13, 77] (by kernel_rfl) (by kernel_rfl)
      refine QRun_seq 20 [(3, .slice a1 x2.1.length c1), (4, .slice a2 x2.2.length c2), (5, .slice a3 x3.1.length c3), (6, .int .i64 x3.2), (9, .slice a5 x5.1.length c5), (11, .slice a7 x6.1.length c7), (12, .int .i64 x6.2), (83, .bool x11)] ?_ ?_
      · rcases Bool.eq_false_or_eq_true (x8 || (x6.2 != x7.2)) with hb4 | hb4
        · refine QRun_bool (x8 || (x6.2 != x7.2)) true (by kernel_rfl) (fun w => by kernel_rfl) hb4 ?_
          have gx11 := M.ret_some ((M.ite_some gx11).1 hb4)
          refine QRun_n (by kernel_rfl) ?_
          refine QRun_n (by kernel_rfl) ?_
          refine QRun_n (by kernel_rfl) ?_
          refine QRun_n (by kernel_rfl) ?_
          refine QRun_bool true x11 (by kernel_rfl) (fun w => by kernel_rfl) gx11 ?_
          exact QRun_done [3, 4, 5, 6, 9, 11, 12, 83] (by kernel_rfl) (by kernel_rfl)
        · refine QRun_bool (x8 || (x6.2 != x7.2)) false (by kernel_rfl) (fun w => by kernel_rfl) hb4 ?_
          have gx11 := (M.ite_some gx11).2 hb4
          obtain ⟨x12, hx9, gx11⟩ := M.bind_some gx11
          have gx11 := M.ret_some gx11
          refine QRun_b [.slice a7 x6.1.length c7, .slice a8 x7.1.length c8] 15 _ (by kernel_rfl) (fun w => by kernel_rfl) ?_
          refine QRun_y (.bool x12) (by kernel_rfl) (Y_callq (f := 43) (args := #[.slice a7 x6.1.length c7, .slice a8 x7.1.length c8]) (v := .bool x12) (by kernel_rfl) (w_laws_likeTables9 h6 x6.1 a7 c7 (H12.rd 1 rfl) x7.1 a8 c8 (H12.rd 0 rfl) _ _ hx9)) ?_
          refine QRun_b [.bool (!x12)] 18 _ (by kernel_rfl) (fun w => by kernel_rfl) ?_
          refine QRun_bool (!x12) x11 (by kernel_rfl) (fun w => by kernel_rfl) gx11 ?_
          exact QRun_done [3, 4, 5, 6, 9, 11, 12, 83] (by kernel_rfl) (by kernel_rfl)
      exact QRun_done [3, 4, 5, 6, 9, 11, 12, 83] (by kernel_rfl) (by kernel_rfl)
    refine Run_cond (b := x11) (by kernel_rfl) (fun hb5 => ?_) (fun hb5 => ?_)
    · have hF := (M.ite_some hF).1 hb5
      refine Run_seq ?_
      refine Run_reg 1 (by kernel_rfl) (L' := [(2, .bool false)]) ?_ ?_
      · refine QRun_b [.bool false] 0 _ (by kernel_rfl) (fun w => by kernel_rfl) ?_
        exact QRun_done [2] (by kernel_rfl) (by kernel_rfl)
      have hF := M.ret_some hF
      subst hF
      have H13 : Hold h h6 [] := H12.pick [] (by kernel_rfl)
      exact Run_ret1 rfl (ResV_tmp (v := .bool false) (by kernel_rfl)) ⟨rfl, H13⟩
    · have hF := (M.ite_some hF).2 hb5
      refine Run_skip ?_
      refine Run_seq ?_
      refine Run_seq ?_
      refine Run_reg 2 (by kernel_rfl) (L' := [(3, .slice a1 x2.1.length c1), (4, .slice a2 x2.2.length c2), (5, .slice a3 x3.1.length c3), (6, .int .i64 x3.2), (9, .slice a5 x5.1.length c5), (11, .slice a7 x6.1.length c7), (85, .bool (x6.2 == 0))]) ?_ ?_
      · refine QRun_b [.int .i64 x6.2, .bool (x6.2 == 0)] 0 _ (by kernel_rfl) (fun w => by kernel_rfl) ?_
        exact QRun_done [3, 4, 5, 6, 9, 11, 85] (by kernel_rfl) (by kernel_rfl)
      refine Run_cond (b := x6.2 == 0) (by kernel_rfl) (fun hb6 => ?_) (fun hb6 => ?_)
      · have hF := (M.ite_some hF).1 hb6
        refine Run_seq ?_
        refine Run_ops ?_
        refine Run_b [.slice a7 x6.1.length c7, .slice a5 x5.1.length c5] 0 _ (by kernel_rfl) (fun w => by kernel_rfl) ?_
        obtain ⟨x13, hx10, hF⟩ := M.bind_some hF
        refine Run_E (by kernel_rfl) ?_
        refine E_call (f := 44) (args := #[.slice a7 x6.1.length c7, .slice a5 x5.1.length c5]) (w_impl_MultiplyMatrices h6 x6.1 a7 c7 (H12.rd 1 rfl) x5.1 a5 c5 (H12.rd 2 rfl) _ _ hx10) (by kernel_rfl) (fun v7 h7 hp7 => ?_)
        obtain ⟨a9, c9, rfl, H14⟩ := hp7
        have H15 : Hold h h7 [own cd23 a9 x13.1.length c9 x13.1, own cd23 a8 x7.1.length c8 x7.1, own cd23 a7 x6.1.length c7 x6.1, own cd23 a5 x5.1.length c5 x5.1, own cd23 a6 x5.2.length c6 x5.2, own cd23 a4 x4.1.length c4 x4.1, own cd23 a3 x3.1.length c3 x3.1, own cd23 a1 x2.1.length c1 x2.1, own cd23 a2 x2.2.length c2 x2.2] := H12.call H14 rfl
        refine Run_b [.tuple #[.slice a9 x13.1.length c9, .int .i64 x13.2], .slice a9 x13.1.length c9, .int .i64 x13.2, .slice a9 x13.1.length c9, .int .i64 x13.2] 3 _ (by kernel_rfl) (fun w => by kernel_rfl) ?_
        refine Run_nil (by kernel_rfl) ?_
        refine Run_keep [3, 4, 5, 6, 9, 15, 16] (L' := [(3, .slice a1 x2.1.length c1), (4, .slice a2 x2.2.length c2), (5, .slice a3 x3.1.length c3), (6, .int .i64 x3.2), (9, .slice a5 x5.1.length c5), (15, .slice a9 x13.1.length c9), (16, .int .i64 x13.2)]) (by kernel_rfl) ?_
        refine Run_seq ?_
        refine Run_ops ?_
        refine Run_b [.slice a5 x5.1.length c5, .slice a9 x13.1.length c9] 0 _ (by kernel_rfl) (fun w => by kernel_rfl) ?_
        obtain ⟨x14, hx11, hF⟩ := M.bind_some hF
        refine Run_E (by kernel_rfl) ?_
        refine E_call (f := 37) (args := #[.slice a5 x5.1.length c5, .slice a9 x13.1.length c9]) (w_impl_RightQuotient h7 x5.1 a5 c5 (H15.rd 3 rfl) x13.1 a9 c9 (H15.rd 0 rfl) _ _ hx11) (by kernel_rfl) (fun v8 h8 hp8 => ?_)
        obtain ⟨a10, c10, rfl, H16⟩ := hp8
        have H17 : Hold h h8 [own cd23 a10 x14.1.length c10 x14.1, own cd23 a9 x13.1.length c9 x13.1, own cd23 a8 x7.1.length c8 x7.1, own cd23 a7 x6.1.length c7 x6.1, own cd23 a5 x5.1.length c5 x5.1, own cd23 a6 x5.2.length c6 x5.2, own cd23 a4 x4.1.length c4 x4.1, own cd23 a3 x3.1.length c3 x3.1, own cd23 a1 x2.1.length c1 x2.1, own cd23 a2 x2.2.length c2 x2.2] := H15.call H16 rfl
        refine Run_b [.tuple #[.slice a10 x14.1.length c10, .int .i64 x14.2], .slice a10 x14.1.length c10, .int .i64 x14.2, .slice a10 x14.1.length c10, .int .i64 x14.2] 3 _ (by kernel_rfl) (fun w => by kernel_rfl) ?_
        refine Run_nil (by kernel_rfl) ?_
        refine Run_keep [3, 4, 5, 6, 9, 15, 16, 17, 18] (L' := [(3, .slice a1 x2.1.length c1), (4, .slice a2 x2.2.length c2), (5, .slice a3 x3.1.length c3), (6, .int .i64 x3.2), (9, .slice a5 x5.1.length c5), (15, .slice a9 x13.1.length c9), (16, .int .i64 x13.2), (17, .slice a10 x14.1.length c10), (18, .int .i64 x14.2)]) (by kernel_rfl) ?_
        refine Run_seq ?_
        refine Run_reg 6 (by kernel_rfl) (L' := [(3, .slice a1 x2.1.length c1), (4, .slice a2 x2.2.length c2), (5, .slice a3 x3.1.length c3), (6, .int .i64 x3.2), (9, .slice a5 x5.1.length c5), (15, .slice a9 x13.1.length c9), (17, .slice a10 x14.1.length c10), (103, .bool ((x13.2 == 0) && (x14.2 == 0)))]) ?_ ?_
        · refine QRun_b [.int .i64 x13.2, .bool (x13.2 == 0)] 0 _ (by kernel_rfl) (fun w => by kernel_rfl) ?_
          refine QRun_seq 6 [(3, .slice a1 x2.1.length c1), (4, .slice a2 x2.2.length c2), (5, .slice a3 x3.1.length c3), (6, .int .i64 x3.2), (9, .slice a5 x5.1.length c5), (15, .slice a9 x13.1.length c9), (17, .slice a10 x14.1.length c10), (103, .bool ((x13.2 == 0) && (x14.2 == 0)))] ?_ ?_
          · rcases Bool.eq_false_or_eq_true (x13.2 == 0) with hb7 | hb7
            · refine QRun_bool (x13.2 == 0) true (by kernel_rfl) (fun w => by kernel_rfl) hb7 ?_
              refine QRun_b [.int .i64 x14.2, .bool (x14.2 == 0)] 3 _ (by kernel_rfl) (fun w => by kernel_rfl) ?_
              refine QRun_bool (x14.2 == 0) ((x13.2 == 0) && (x14.2 == 0)) (by kernel_rfl) (fun w => by kernel_rfl) (by rw [hb7]; rfl) ?_
              exact QRun_done [3, 4, 5, 6, 9, 15, 17, 103] (by kernel_rfl) (by kernel_rfl)
            · refine QRun_bool (x13.2 == 0) false (by kernel_rfl) (fun w => by kernel_rfl) hb7 ?_
              refine QRun_n (by kernel_rfl) ?_
              refine QRun_n (by kernel_rfl) ?_
              refine QRun_bool false ((x13.2 == 0) && (x14.2 == 0)) (by kernel_rfl) (fun w => by kernel_rfl) (by rw [hb7]; rfl) ?_
              exact QRun_done [3, 4, 5, 6, 9, 15, 17, 103] (by kernel_rfl) (by kernel_rfl)
          exact QRun_done [3, 4, 5, 6, 9, 15, 17, 103] (by kernel_rfl) (by kernel_rfl)
        refine Run_cond (b := (x13.2 == 0) && (x14.2 == 0)) (by kernel_rfl) (fun hb8 => ?_) (fun hb8 => ?_)
        · have hF := (M.ite_some hF).1 hb8
          refine Run_seq ?_
          refine Run_ops ?_
          refine Run_b [.slice a10 x14.1.length c10, .slice a5 x5.1.length c5] 0 _ (by kernel_rfl) (fun w => by kernel_rfl) ?_
          obtain ⟨x16, hx12, hF⟩ := M.bind_some hF
          refine Run_E (by kernel_rfl) ?_
          refine E_call (f := 44) (args := #[.slice a10 x14.1.length c10, .slice a5 x5.1.length c5]) (w_impl_MultiplyMatrices h8 x14.1 a10 c10 (H17.rd 0 rfl) x5.1 a5 c5 (H17.rd 4 rfl) _ _ hx12) (by kernel_rfl) (fun v9 h9 hp9 => ?_)
          obtain ⟨a11, c11, rfl, H18⟩ := hp9
          have H19 : Hold h h9 [own cd23 a11 x16.1.length c11 x16.1, own cd23 a10 x14.1.length c10 x14.1, own cd23 a9 x13.1.length c9 x13.1, own cd23 a8 x7.1.length c8 x7.1, own cd23 a7 x6.1.length c7 x6.1, own cd23 a5 x5.1.length c5 x5.1, own cd23 a6 x5.2.length c6 x5.2, own cd23 a4 x4.1.length c4 x4.1, own cd23 a3 x3.1.length c3 x3.1, own cd23 a1 x2.1.length c1 x2.1, own cd23 a2 x2.2.length c2 x2.2] := H17.call H18 rfl
          refine Run_b [.tuple #[.slice a11 x16.1.length c11, .int .i64 x16.2], .slice a11 x16.1.length c11, .int .i64 x16.2, .slice a11 x16.1.length c11, .int .i64 x16.2] 3 _ (by kernel_rfl) (fun w => by kernel_rfl) ?_
          refine Run_nil (by kernel_rfl) ?_
          refine Run_keep [3, 4, 5, 6, 15, 19, 20] (L' := [(3, .slice a1 x2.1.length c1), (4, .slice a2 x2.2.length c2), (5, .slice a3 x3.1.length c3), (6, .int .i64 x3.2), (15, .slice a9 x13.1.length c9), (19, .slice a11 x16.1.length c11), (20, .int .i64 x16.2)]) (by kernel_rfl) ?_
          refine Run_seq ?_
          obtain ⟨x17, gx17, hF⟩ := M.bind_some hF
          refine Run_reg 8 (by kernel_rfl) (L' := [(3, .slice a1 x2.1.length c1), (4, .slice a2 x2.2.length c2), (5, .slice a3 x3.1.length c3), (6, .int .i64 x3.2), (117, .bool x17)]) ?_ ?_
          · refine QRun_b [.int .i64 x16.2, .bool (x16.2 != 0)] 0 _ (by kernel_rfl) (fun w => by kernel_rfl) ?_
            refine QRun_seq 8 [(3, .slice a1 x2.1.length c1), (4, .slice a2 x2.2.length c2), (5, .slice a3 x3.1.length c3), (6, .int .i64 x3.2), (117, .bool x17)] ?_ ?_
            · rcases Bool.eq_false_or_eq_true (x16.2 != 0) with hb9 | hb9
              · refine QRun_bool (x16.2 != 0) true (by kernel_rfl) (fun w => by kernel_rfl) hb9 ?_
                have gx17 := M.ret_some ((M.ite_some gx17).1 hb9)
                refine QRun_n (by kernel_rfl) ?_
                refine QRun_n (by kernel_rfl) ?_
                refine QRun_n (by kernel_rfl) ?_
                refine QRun_n (by kernel_rfl) ?_
                refine QRun_bool true x17 (by kernel_rfl) (fun w => by kernel_rfl) gx17 ?_
                exact QRun_done [3, 4, 5, 6, 117] (by kernel_rfl) (by kernel_rfl)
              · refine QRun_bool (x16.2 != 0) false (by kernel_rfl) (fun w => by kernel_rfl) hb9 ?_
                have gx17 := (M.ite_some gx17).2 hb9
                obtain ⟨x18, hx13, gx17⟩ := M.bind_some gx17
                have gx17 := M.ret_some gx17
                refine QRun_b [.slice a11 x16.1.length c11, .slice a9 x13.1.length c9] 3 _ (by kernel_rfl) (fun w => by kernel_rfl) ?_
                refine QRun_y (.bool x18) (by kernel_rfl) (Y_callq (f := 43) (args := #[.slice a11 x16.1.length c11, .slice a9 x13.1.length c9]) (v := .bool x18) (by kernel_rfl) (w_laws_likeTables9 h9 x16.1 a11 c11 (H19.rd 0 rfl) x13.1 a9 c9 (H19.rd 2 rfl) _ _ hx13)) ?_
                refine QRun_b [.bool (!x18)] 6 _ (by kernel_rfl) (fun w => by kernel_rfl) ?_
                refine QRun_bool (!x18) x17 (by kernel_rfl) (fun w => by kernel_rfl) gx17 ?_
                exact QRun_done [3, 4, 5, 6, 117] (by kernel_rfl) (by kernel_rfl)
            exact QRun_done [3, 4, 5, 6, 117] (by kernel_rfl) (by kernel_rfl)
          refine Run_cond (b := x17) (by kernel_rfl) (fun hb10 => ?_) (fun hb10 => ?_)
          · have hF := (M.ite_some hF).1 hb10
            refine Run_seq ?_
            refine Run_reg 1 (by kernel_rfl) (L' := [(2, .bool false)]) ?_ ?_
            · refine QRun_b [.bool false] 0 _ (by kernel_rfl) (fun w => by kernel_rfl) ?_
              exact QRun_done [2] (by kernel_rfl) (by kernel_rfl)
            have hF := M.ret_some hF
            subst hF
            have H20 : Hold h h9 [] := H19.pick [] (by kernel_rfl)
            exact Run_ret1 rfl (ResV_tmp (v := .bool false) (by kernel_rfl)) ⟨rfl, H20⟩
          · have hF := (M.ite_some hF).2 hb10
            refine Run_skip ?_
            refine Run_seq ?_
            refine Run_seq ?_
            refine Run_reg 2 (by kernel_rfl) (L' := [(3, .slice a1 x2.1.length c1), (4, .slice a2 x2.2.length c2), (5, .slice a3 x3.1.length c3), (119, .bool (x3.2 != 0))]) ?_ ?_
            · refine QRun_b [.int .i64 x3.2, .bool (x3.2 != 0)] 0 _ (by kernel_rfl) (fun w => by kernel_rfl) ?_
              exact QRun_done [3, 4, 5, 119] (by kernel_rfl) (by kernel_rfl)
            refine Run_cond (b := x3.2 != 0) (by kernel_rfl) (fun hb11 => ?_) (fun hb11 => ?_)
            · have hF := (M.ite_some hF).1 hb11
              refine Run_seq ?_
              refine Run_reg 1 (by kernel_rfl) (L' := [(2, .bool true)]) ?_ ?_
              · refine QRun_b [.bool true] 0 _ (by kernel_rfl) (fun w => by kernel_rfl) ?_
                exact QRun_done [2] (by kernel_rfl) (by kernel_rfl)
              have hF := M.ret_some hF
              subst hF
              have H21 : Hold h h9 [] := H19.pick [] (by kernel_rfl)
              exact Run_ret1 rfl (ResV_tmp (v := .bool true) (by kernel_rfl)) ⟨rfl, H21⟩
            · have hF := (M.ite_some hF).2 hb11
              refine Run_skip ?_
              refine Run_seq ?_
              refine Run_ops ?_
              refine Run_b [.slice a1 x2.1.length c1, .slice a3 x3.1.length c3] 0 _ (by kernel_rfl) (fun w => by kernel_rfl) ?_
              obtain ⟨x19, hx14, hF⟩ := M.bind_some hF
              refine Run_E (by kernel_rfl) ?_
              refine E_call (f := 44) (args := #[.slice a1 x2.1.length c1, .slice a3 x3.1.length c3]) (w_impl_MultiplyMatrices h9 x2.1 a1 c1 (H19.rd 9 rfl) x3.1 a3 c3 (H19.rd 8 rfl) _ _ hx14) (by kernel_rfl) (fun v10 h10 hp10 => ?_)
              obtain ⟨a12, c12, rfl, H22⟩ := hp10
              have H23 : Hold h h10 [own cd23 a12 x19.1.length c12 x19.1, own cd23 a11 x16.1.length c11 x16.1, own cd23 a10 x14.1.length c10 x14.1, own cd23 a9 x13.1.length c9 x13.1, own cd23 a8 x7.1.length c8 x7.1, own cd23 a7 x6.1.length c7 x6.1, own cd23 a5 x5.1.length c5 x5.1, own cd23 a6 x5.2.length c6 x5.2, own cd23 a4 x4.1.length c4 x4.1, own cd23 a3 x3.1.length c3 x3.1, own cd23 a1 x2.1.length c1 x2.1, own cd23 a2 x2.2.length c2 x2.2] := H19.call H22 rfl
              refine Run_b [.tuple #[.slice a12 x19.1.length c12, .int .i64 x19.2], .slice a12 x19.1.length c12, .int .i64 x19.2, .slice a12 x19.1.length c12, .int .i64 x19.2] 3 _ (by kernel_rfl) (fun w => by kernel_rfl) ?_
              refine Run_nil (by kernel_rfl) ?_
              refine Run_keep [3, 4, 21, 22] (L' := [(3, .slice a1 x2.1.length c1), (4, .slice a2 x2.2.length c2), (21, .slice a12 x19.1.length c12), (22, .int .i64 x19.2)]) (by kernel_rfl) ?_
              refine Run_seq ?_
              refine Run_seq ?_
              refine Run_reg 2 (by kernel_rfl) (L' := [(3, .slice a1 x2.1.length c1), (4, .slice a2 x2.2.length c2), (21, .slice a12 x19.1.length c12), (22, .int .i64 x19.2), (127, .bool (x19.2 != 0))]) ?_ ?_
              · refine QRun_b [.int .i64 x19.2, .bool (x19.2 != 0)] 0 _ (by kernel_rfl) (fun w => by kernel_rfl) ?_
                exact QRun_done [3, 4, 21, 22, 127] (by kernel_rfl) (by kernel_rfl)
              refine Run_cond (b := x19.2 != 0) (by kernel_rfl) (fun hb12 => ?_) (fun hb12 => ?_)
              · have hF := (M.ite_some hF).1 hb12
                refine Run_seq ?_
                refine Run_reg 3 (by kernel_rfl) (L' := [(2, .bool (x19.2 == 3))]) ?_ ?_
                · refine QRun_b [.int .i64 x19.2, .bool (x19.2 == 3), .bool (x19.2 == 3)] 0 _ (by kernel_rfl) (fun w => by kernel_rfl) ?_
                  exact QRun_done [2] (by kernel_rfl) (by kernel_rfl)
                have hF := M.ret_some hF
                subst hF
                have H24 : Hold h h10 [] := H23.pick [] (by kernel_rfl)
                exact Run_ret1 rfl (ResV_tmp (v := .bool (x19.2 == 3)) (by kernel_rfl)) ⟨rfl, H24⟩
              · have hF := (M.ite_some hF).2 hb12
                refine Run_skip ?_
                refine Run_seq ?_
                refine Run_seq ?_
                refine Run_reg 1 (by kernel_rfl) (L' := [(3, .slice a1 x2.1.length c1), (4, .slice a2 x2.2.length c2), (21, .slice a12 x19.1.length c12), (23, .int .i64 0)]) ?_ ?_
                · refine QRun_b [.int .i64 0] 0 _ (by kernel_rfl) (fun w => by kernel_rfl) ?_
                  exact QRun_done [3, 4, 21, 23] (by kernel_rfl) (by kernel_rfl)
                obtain ⟨x20, gx20, hF⟩ := M.bind_some hF
                obtain ⟨hloy1, hhiy1, gx20⟩ := M.for_start gx20
                refine Run_join (fun L' h' => ∃ (s2 : Unit), x20 = .inl s2 ∧ L' = [(3, .slice a1 x2.1.length c1), (21, .slice a12 x19.1.length c12)] ∧ Hold h h' [own cd23 a1 x2.1.length c1 x2.1, own cd23 a12 x19.1.length c12 x19.1]) ?_ ?_
                · rintro _ h12 ⟨s2, es2, rfl, H26⟩
                  have hF := M.cont_inl' hF es2
                  refine Run_seq ?_
                  refine Run_ops ?_
                  refine Run_b [.slice a1 x2.1.length c1, .slice a12 x19.1.length c12] 0 _ (by kernel_rfl) (fun w => by kernel_rfl) ?_
                  obtain ⟨x24, hx18, hF⟩ := M.bind_some hF
                  refine Run_E (by kernel_rfl) ?_
                  refine E_call (f := 34) (args := #[.slice a1 x2.1.length c1, .slice a12 x19.1.length c12]) (w_impl_LeftQuotient h12 x2.1 a1 c1 (H26.rd 0 rfl) x19.1 a12 c12 (H26.rd 1 rfl) _ _ hx18) (by kernel_rfl) (fun v11 h13 hp11 => ?_)
                  obtain ⟨a15, c15, rfl, H42⟩ := hp11
                  have H43 : Hold h h13 [own cd23 a15 x24.1.length c15 x24.1, own cd23 a1 x2.1.length c1 x2.1, own cd23 a12 x19.1.length c12 x19.1] := H26.call H42 rfl
                  refine Run_b [.tuple #[.slice a15 x24.1.length c15, .int .i64 x24.2], .slice a15 x24.1.length c15, .int .i64 x24.2, .slice a15 x24.1.length c15, .int .i64 x24.2] 3 _ (by kernel_rfl) (fun w => by kernel_rfl) ?_
                  refine Run_nil (by kernel_rfl) ?_
                  refine Run_keep [3, 21, 24, 25] (L' := [(3, .slice a1 x2.1.length c1), (21, .slice a12 x19.1.length c12), (24, .slice a15 x24.1.length c15), (25, .int .i64 x24.2)]) (by kernel_rfl) ?_
                  refine Run_seq ?_
                  refine Run_seq ?_
                  refine Run_reg 2 (by kernel_rfl) (L' := [(3, .slice a1 x2.1.length c1), (21, .slice a12 x19.1.length c12), (24, .slice a15 x24.1.length c15), (25, .int .i64 x24.2), (153, .bool (x24.2 != 0))]) ?_ ?_
                  · refine QRun_b [.int .i64 x24.2, .bool (x24.2 != 0)] 0 _ (by kernel_rfl) (fun w => by kernel_rfl) ?_
                    exact QRun_done [3, 21, 24, 25, 153] (by kernel_rfl) (by kernel_rfl)
                  refine Run_cond (b := x24.2 != 0) (by kernel_rfl) (fun hb15 => ?_) (fun hb15 => ?_)
                  · have hF := (M.ite_some hF).1 hb15
                    refine Run_seq ?_
                    refine Run_reg 3 (by kernel_rfl) (L' := [(2, .bool (x24.2 == 3))]) ?_ ?_
                    · refine QRun_b [.int .i64 x24.2, .bool (x24.2 == 3), .bool (x24.2 == 3)] 0 _ (by kernel_rfl) (fun w => by kernel_rfl) ?_
                      exact QRun_done [2] (by kernel_rfl) (by kernel_rfl)
                    have hF := M.ret_some hF
                    subst hF
                    have H44 : Hold h h13 [] := H43.pick [] (by kernel_rfl)
                    exact Run_ret1 rfl (ResV_tmp (v := .bool (x24.2 == 3)) (by kernel_rfl)) ⟨rfl, H44⟩
                  · have hF := (M.ite_some hF).2 hb15
                    refine Run_skip ?_
                    refine Run_seq ?_
                    refine Run_ops ?_
                    refine Run_b [.slice a1 x2.1.length c1, .slice a15 x24.1.length c15] 0 _ (by kernel_rfl) (fun w => by kernel_rfl) ?_
                    obtain ⟨x25, hx19, hF⟩ := M.bind_some hF
                    refine Run_E (by kernel_rfl) ?_
                    refine E_call (f := 44) (args := #[.slice a1 x2.1.length c1, .slice a15 x24.1.length c15]) (w_impl_MultiplyMatrices h13 x2.1 a1 c1 (H43.rd 1 rfl) x24.1 a15 c15 (H43.rd 0 rfl) _ _ hx19) (by kernel_rfl) (fun v12 h14 hp12 => ?_)
                    obtain ⟨a16, c16, rfl, H45⟩ := hp12
                    have H46 : Hold h h14 [own cd23 a16 x25.1.length c16 x25.1, own cd23 a15 x24.1.length c15 x24.1, own cd23 a1 x2.1.length c1 x2.1, own cd23 a12 x19.1.length c12 x19.1] := H43.call H45 rfl
                    refine Run_b [.tuple #[.slice a16 x25.1.length c16, .int .i64 x25.2], .slice a16 x25.1.length c16, .int .i64 x25.2, .slice a16 x25.1.length c16, .int .i64 x25.2] 3 _ (by kernel_rfl) (fun w => by kernel_rfl) ?_
                    refine Run_nil (by kernel_rfl) ?_
                    refine Run_keep [21, 26, 27] (L' := [(21, .slice a12 x19.1.length c12), (26, .slice a16 x25.1.length c16), (27, .int .i64 x25.2)]) (by kernel_rfl) ?_
                    refine Run_seq ?_
                    obtain ⟨x26, gx26, hF⟩ := M.bind_some hF
                    refine Run_reg 8 (by kernel_rfl) (L' := [(2, .bool x26)]) ?_ ?_
                    · refine QRun_b [.int .i64 x25.2, .bool (x25.2 == 0)] 0 _ (by kernel_rfl) (fun w => by kernel_rfl) ?_
                      refine QRun_seq 7 [(168, .bool x26)] ?_ ?_
                      · rcases Bool.eq_false_or_eq_true (x25.2 == 0) with hb16 | hb16
                        · refine QRun_bool (x25.2 == 0) true (by kernel_rfl) (fun w => by kernel_rfl) hb16 ?_
                          have gx26 := (M.ite_some gx26).1 hb16
                          obtain ⟨x27, hx20, gx26⟩ := M.bind_some gx26
                          have gx26 := M.ret_some gx26
                          refine QRun_b [.slice a16 x25.1.length c16, .slice a12 x19.1.length c12] 3 _ (by kernel_rfl) (fun w => by kernel_rfl) ?_
                          refine QRun_y (.bool x27) (by kernel_rfl) (Y_callq (f := 43) (args := #[.slice a16 x25.1.length c16, .slice a12 x19.1.length c12]) (v := .bool x27) (by kernel_rfl) (w_laws_likeTables9 h14 x25.1 a16 c16 (H46.rd 0 rfl) x19.1 a12 c12 (H46.rd 3 rfl) _ _ hx20)) ?_
                          refine QRun_bool x27 x26 (by kernel_rfl) (fun w => by kernel_rfl) gx26 ?_
                          exact QRun_done [168] (by kernel_rfl) (by kernel_rfl)
                        · refine QRun_bool (x25.2 == 0) false (by kernel_rfl) (fun w => by kernel_rfl) hb16 ?_
                          have gx26 := M.ret_some ((M.ite_some gx26).2 hb16)
                          refine QRun_n (by kernel_rfl) ?_
                          refine QRun_n (by kernel_rfl) ?_
                          refine QRun_n (by kernel_rfl) ?_
                          refine QRun_bool false x26 (by kernel_rfl) (fun w => by kernel_rfl) gx26 ?_
                          exact QRun_done [168] (by kernel_rfl) (by kernel_rfl)
                      refine QRun_b [.bool x26] 7 _ (by kernel_rfl) (fun w => by kernel_rfl) ?_
                      exact QRun_done [2] (by kernel_rfl) (by kernel_rfl)
                    have hF := M.ret_some hF
                    subst hF
                    have H47 : Hold h h14 [] := H46.pick [] (by kernel_rfl)
                    exact Run_ret1 rfl (ResV_tmp (v := .bool x26) (by kernel_rfl)) ⟨rfl, H47⟩
                · refine Run_block ?_
                  have H48 : Hold h h10 [own cd23 a1 x2.1.length c1 x2.1, own cd23 a2 x2.2.length c2 x2.2, own cd23 a12 x19.1.length c12 x19.1] := H23.pick [10, 11, 0] (by kernel_rfl)
                  refine Run_keep [3, 4, 21, 23] (L' := [(3, .slice a1 x2.1.length c1), (4, .slice a2 x2.2.length c2), (21, .slice a12 x19.1.length c12), (23, .int .i64 0)]) (by kernel_rfl) ?_
                  refine Run_loop (fun m L' h' => ∃ (i1 : Int) (s1 : Unit), 0 ≤ i1 ∧ M.forN (x19.1.length : Int) _ _ n m i1 s1 = some x20 ∧ L' = [(3, .slice a1 x2.1.length c1), (4, .slice a2 x2.2.length c2), (21, .slice a12 x19.1.length c12), (23, .int .i64 i1)] ∧ Hold h h' [own cd23 a1 x2.1.length c1 x2.1, own cd23 a2 x2.2.length c2 x2.2, own cd23 a12 x19.1.length c12 x19.1]) ((x19.1.length : Int) - 0 : Int).toNat ⟨0, (), Int.le_refl _, gx20, rfl, H48⟩ ?_
                  rintro my1 _ h11 ⟨i1, s1, hloy1', gx20, rfl, H25⟩
                  refine Run_seq ?_
                  refine Run_seq ?_
                  refine Run_reg 4 (by kernel_rfl) (L' := [(3, .slice a1 x2.1.length c1), (4, .slice a2 x2.2.length c2), (21, .slice a12 x19.1.length c12), (23, .int .i64 i1), (133, .bool (decide (i1 < (x19.1.length : Int))))]) ?_ ?_
                  · refine QRun_b [.int .i64 i1, .slice a12 x19.1.length c12, .int .i64 (x19.1.length : Int), .bool (decide (i1 < (x19.1.length : Int)))] 0 _ (by kernel_rfl) (fun w => by kernel_rfl) ?_
                    exact QRun_done [3, 4, 21, 23, 133] (by kernel_rfl) (by kernel_rfl)
                  refine Run_cond (b := decide (i1 < (x19.1.length : Int))) (by kernel_rfl) (fun hb13 => ?_) (fun hb13 => ?_)
                  · obtain ⟨my1, y1, rfl, hB1, hgoy1, houty1⟩ := M.for_go gx20 hb13
                    have hlty1 := of_decide_eq_true hb13
                    refine Run_skip ?_
                    refine Run_seq ?_
                    refine Run_block ?_
                    refine Run_seq ?_
                    obtain ⟨x21, hx15, hB1⟩ := M.bind_some hB1
                    obtain ⟨hx15l, hx15u, hx15⟩ := M.idx_some hx15
                    have H27 : Hold h h11 [own cd23 a12 x19.1.length c12 x19.1, own cd23 a1 x2.1.length c1 x2.1, own cd23 a2 x2.2.length c2 x2.2] := H25.pick [2, 0, 1] (by kernel_rfl)
                    have H28 := H27.toRows
                    obtain ⟨a13, c13, H29⟩ := H28.pinRow hx15
                    have H30 : Hold h h11 [own cd23 a1 x2.1.length c1 x2.1, own cd23 a2 x2.2.length c2 x2.2, rowsP cd2 23 a12 x19.1.length c12 x19.1 [(i1.toNat, a13, x21.length, c13, x21)]] := H29.pick [1, 2, 0] (by kernel_rfl)
                    obtain ⟨x22, hx16, hB1⟩ := M.bind_some hB1
                    obtain ⟨hx16l, hx16u, hx16⟩ := M.idx_some hx16
                    have H31 : Hold h h11 [own cd23 a2 x2.2.length c2 x2.2, own cd23 a1 x2.1.length c1 x2.1, rowsP cd2 23 a12 x19.1.length c12 x19.1 [(i1.toNat, a13, x21.length, c13, x21)]] := H30.pick [1, 0, 2] (by kernel_rfl)
                    have H32 := H31.toRows
                    obtain ⟨a14, c14, H33⟩ := H32.pinRow hx16
                    have H34 : Hold h h11 [own cd23 a1 x2.1.length c1 x2.1, rowsP cd2 23 a2 x2.2.length c2 x2.2 [(i1.toNat, a14, x22.length, c14, x22)], rowsP cd2 23 a12 x19.1.length c12 x19.1 [(i1.toNat, a13, x21.length, c13, x21)]] := H33.pick [1, 0, 2] (by kernel_rfl)
                    obtain ⟨x23, hx17, hB1⟩ := M.bind_some hB1
                    refine Run_draw 10 mixed (by kernel_rfl) (by kernel_rfl) (L' := [(3, .slice a1 x2.1.length c1), (4, .slice a2 x2.2.length c2), (21, .slice a12 x19.1.length c12), (23, .int .i64 i1), (145, .bool (!x23))]) ?_ ?_
                    · refine QRun_b [.slice a12 x19.1.length c12, .int .i64 i1] 0 _ (by kernel_rfl) (fun w => by kernel_rfl) ?_
                      refine QRun_y (.pointer (some (adr a12 (i1.toNat * 1)))) (by kernel_rfl) (Y_idx (t := 22) (e := 23) (sz := 1) (a := a12) (n := x19.1.length) (cap := c12) (kk := .i64) (i := i1) (by kernel_rfl) Try.underlying22 (by kernel_rfl) ((H25.rd 2 rfl).cell hx15).1 hx15l hx15u) ?_
                      refine QRun_y (.slice a13 x21.length c13) (by kernel_rfl) (Y_load1 (t := 23) (p := adr a12 (i1.toNat * 1)) (v := .slice a13 x21.length c13) (by kernel_rfl) (fun w => by kernel_rfl) (H30.cellPin 2 rfl 0 rfl)) ?_
                      refine QRun_b [.slice a2 x2.2.length c2, .int .i64 i1] 4 _ (by kernel_rfl) (fun w => by kernel_rfl) ?_
                      refine QRun_y (.pointer (some (adr a2 (i1.toNat * 1)))) (by kernel_rfl) (Y_idx (t := 22) (e := 23) (sz := 1) (a := a2) (n := x2.2.length) (cap := c2) (kk := .i64) (i := i1) (by kernel_rfl) Try.underlying22 (by kernel_rfl) ((H30.rd 1 rfl).cell hx16).1 hx16l hx16u) ?_
                      refine QRun_y (.slice a14 x22.length c14) (by kernel_rfl) (Y_load1 (t := 23) (p := adr a2 (i1.toNat * 1)) (v := .slice a14 x22.length c14) (by kernel_rfl) (fun w => by kernel_rfl) (H34.cellPin 1 rfl 0 rfl)) ?_
                      refine QRun_y (.bool x23) (by kernel_rfl) (Y_callq (f := 45) (args := #[.slice a13 x21.length c13, .slice a14 x22.length c14]) (v := .bool x23) (by kernel_rfl) (w_laws_below9 h11 x21 a13 c13 (H34.rdPin 2 rfl 0 rfl) x22 a14 c14 (H34.rdPin 1 rfl 0 rfl) _ _ hx17)) ?_
                      refine QRun_b [.bool (!x23)] 9 _ (by kernel_rfl) (fun w => by kernel_rfl) ?_
                      exact QRun_done [3, 4, 21, 23, 145] (by kernel_rfl) (by kernel_rfl)
                    refine Run_cond (b := !x23) (by kernel_rfl) (fun hb14 => ?_) (fun hb14 => ?_)
                    · have hB1 := (M.ite_some hB1).1 hb14
                      refine Run_seq ?_
                      refine Run_reg 1 (by kernel_rfl) (L' := [(2, .bool false)]) ?_ ?_
                      · refine QRun_b [.bool false] 0 _ (by kernel_rfl) (fun w => by kernel_rfl) ?_
                        exact QRun_done [2] (by kernel_rfl) (by kernel_rfl)
                      have hB1 := M.ret_some hB1
                      have gx20 := houty1 _ hB1.symm
                      have hF := M.cont_inr' hF gx20
                      have hF := M.ret_some hF
                      subst hF
                      have H35 : Hold h h11 [] := H34.pick [] (by kernel_rfl)
                      exact Run_ret1 rfl (ResV_tmp (v := .bool false) (by kernel_rfl)) ⟨rfl, H35⟩
                    · have hB1 := (M.ite_some hB1).2 hb14
                      refine Run_skip ?_
                      refine Run_blk ?_
                      refine Run_reg 3 (by kernel_rfl) (L' := [(3, .slice a1 x2.1.length c1), (4, .slice a2 x2.2.length c2), (21, .slice a12 x19.1.length c12), (23, .int .i64 (i1 + 1))]) ?_ ?_
                      · refine QRun_b [.int .i64 i1] 0 _ (by kernel_rfl) (fun w => by kernel_rfl) ?_
                        refine QRun_y (.int .i64 (i1 + 1)) (by kernel_rfl) (Y_eq (v := .int .i64 (w64 (i1 + 1))) (Y_pure (fun w => by kernel_rfl)) (by rw [w64_eq _ (by omega)])) ?_
                        refine QRun_b [.int .i64 (i1 + 1)] 2 _ (by kernel_rfl) (fun w => by kernel_rfl) ?_
                        exact QRun_done [3, 4, 21, 23] (by kernel_rfl) (by kernel_rfl)
                      have H36 : Hold h h11 [rowsP cd2 23 a2 x2.2.length c2 x2.2 [(i1.toNat, a14, x22.length, c14, x22)], own cd23 a1 x2.1.length c1 x2.1, rowsP cd2 23 a12 x19.1.length c12 x19.1 [(i1.toNat, a13, x21.length, c13, x21)]] := H34.pick [1, 0, 2] (by kernel_rfl)
                      have H37 := H36.ofRows
                      have H38 : Hold h h11 [rowsP cd2 23 a12 x19.1.length c12 x19.1 [(i1.toNat, a13, x21.length, c13, x21)], own cd23 a2 x2.2.length c2 x2.2, own cd23 a1 x2.1.length c1 x2.1] := H37.pick [2, 0, 1] (by kernel_rfl)
                      have H39 := H38.ofRows
                      have H40 : Hold h h11 [own cd23 a1 x2.1.length c1 x2.1, own cd23 a2 x2.2.length c2 x2.2, own cd23 a12 x19.1.length c12 x19.1] := H39.pick [2, 1, 0] (by kernel_rfl)
                      have hB1 := M.ret_some hB1
                      have gx20 := hgoy1 _ hB1.symm
                      exact Run_again [3, 4, 21, 23] (by kernel_rfl) my1 (Nat.lt_succ_self _) ⟨i1 + 1, (), by omega, gx20, rfl, H40⟩
                  · have gx20 := M.for_end gx20 hb13
                    subst gx20
                    refine Run_exit (k' := _) rfl ?_
                    have H41 : Hold h h11 [own cd23 a1 x2.1.length c1 x2.1, own cd23 a12 x19.1.length c12 x19.1] := H25.pick [0, 2] (by kernel_rfl)
                    exact Run_fall [3, 21] (by kernel_rfl) ⟨(), rfl, rfl, H41⟩
        · have hF := (M.ite_some hF).2 hb8
          refine Run_skip ?_
          refine Run_seq ?_
          refine Run_seq ?_
          refine Run_reg 2 (by kernel_rfl) (L' := [(3, .slice a1 x2.1.length c1), (4, .slice a2 x2.2.length c2), (5, .slice a3 x3.1.length c3), (119, .bool (x3.2 != 0))]) ?_ ?_
          · refine QRun_b [.int .i64 x3.2, .bool (x3.2 != 0)] 0 _ (by kernel_rfl) (fun w => by kernel_rfl) ?_
            exact QRun_done [3, 4, 5, 119] (by kernel_rfl) (by kernel_rfl)
          refine Run_cond (b := x3.2 != 0) (by kernel_rfl) (fun hb17 => ?_) (fun hb17 => ?_)
          · have hF := (M.ite_some hF).1 hb17
            refine Run_seq ?_
            refine Run_reg 1 (by kernel_rfl) (L' := [(2, .bool true)]) ?_ ?_
            · refine QRun_b [.bool true] 0 _ (by kernel_rfl) (fun w => by kernel_rfl) ?_
              exact QRun_done [2] (by kernel_rfl) (by kernel_rfl)
            have hF := M.ret_some hF
            subst hF
            have H49 : Hold h h8 [] := H17.pick [] (by kernel_rfl)
            exact Run_ret1 rfl (ResV_tmp (v := .bool true) (by kernel_rfl)) ⟨rfl, H49⟩
          · have hF := (M.ite_some hF).2 hb17
            refine Run_skip ?_
            refine Run_seq ?_
            refine Run_ops ?_
            refine Run_b [.slice a1 x2.1.length c1, .slice a3 x3.1.length c3] 0 _ (by kernel_rfl) (fun w => by kernel_rfl) ?_
            obtain ⟨x28, hx21, hF⟩ := M.bind_some hF
            refine Run_E (by kernel_rfl) ?_
            refine E_call (f := 44) (args := #[.slice a1 x2.1.length c1, .slice a3 x3.1.length c3]) (w_impl_MultiplyMatrices h8 x2.1 a1 c1 (H17.rd 8 rfl) x3.1 a3 c3 (H17.rd 7 rfl) _ _ hx21) (by kernel_rfl) (fun v13 h15 hp13 => ?_)
            obtain ⟨a17, c17, rfl, H50⟩ := hp13
            have H51 : Hold h h15 [own cd23 a17 x28.1.length c17 x28.1, own cd23 a10 x14.1.length c10 x14.1, own cd23 a9 x13.1.length c9 x13.1, own cd23 a8 x7.1.length c8 x7.1, own cd23 a7 x6.1.length c7 x6.1, own cd23 a5 x5.1.length c5 x5.1, own cd23 a6 x5.2.length c6 x5.2, own cd23 a4 x4.1.length c4 x4.1, own cd23 a3 x3.1.length c3 x3.1, own cd23 a1 x2.1.length c1 x2.1, own cd23 a2 x2.2.length c2 x2.2] := H17.call H50 rfl
            refine Run_b [.tuple #[.slice a17 x28.1.length c17, .int .i64 x28.2], .slice a17 x28.1.length c17, .int .i64 x28.2, .slice a17 x28.1.length c17, .int .i64 x28.2] 3 _ (by kernel_rfl) (fun w => by kernel_rfl) ?_
            refine Run_nil (by kernel_rfl) ?_
            refine Run_keep [3, 4, 21, 22] (L' := [(3, .slice a1 x2.1.length c1), (4, .slice a2 x2.2.length c2), (21, .slice a17 x28.1.length c17), (22, .int .i64 x28.2)]) (by kernel_rfl) ?_
            refine Run_seq ?_
            refine Run_seq ?_
            refine Run_reg 2 (by kernel_rfl) (L' := [(3, .slice a1 x2.1.length c1), (4, .slice a2 x2.2.length c2), (21, .slice a17 x28.1.length c17), (22, .int .i64 x28.2), (127, .bool (x28.2 != 0))]) ?_ ?_
            · refine QRun_b [.int .i64 x28.2, .bool (x28.2 != 0)] 0 _ (by kernel_rfl) (fun w => by kernel_rfl) ?_
              exact QRun_done [3, 4, 21, 22, 127] (by kernel_rfl) (by kernel_rfl)
            refine Run_cond (b := x28.2 != 0) (by kernel_rfl) (fun hb18 => ?_) (fun hb18 => ?_)
            · have hF := (M.ite_some hF).1 hb18
              refine Run_seq ?_
              refine Run_reg 3 (by kernel_rfl) (L' := [(2, .bool (x28.2 == 3))]) ?_ ?_
              · refine QRun_b [.int .i64 x28.2, .bool (x28.2 == 3), .bool (x28.2 == 3)] 0 _ (by kernel_rfl) (fun w => by kernel_rfl) ?_
                exact QRun_done [2] (by kernel_rfl) (by kernel_rfl)
              have hF := M.ret_some hF
              subst hF
              have H52 : Hold h h15 [] := H51.pick [] (by kernel_rfl)
              exact Run_ret1 rfl (ResV_tmp (v := .bool (x28.2 == 3)) (by kernel_rfl)) ⟨rfl, H52⟩
            · have hF := (M.ite_some hF).2 hb18
              refine Run_skip ?_
              refine Run_seq ?_
              refine Run_seq ?_
              refine Run_reg 1 (by kernel_rfl) (L' := [(3, .slice a1 x2.1.length c1), (4, .slice a2 x2.2.length c2), (21, .slice a17 x28.1.length c17), (23, .int .i64 0)]) ?_ ?_
              · refine QRun_b [.int .i64 0] 0 _ (by kernel_rfl) (fun w => by kernel_rfl) ?_
                exact QRun_done [3, 4, 21, 23] (by kernel_rfl) (by kernel_rfl)
              obtain ⟨x29, gx29, hF⟩ := M.bind_some hF
              obtain ⟨hloy2, hhiy2, gx29⟩ := M.for_start gx29
              refine Run_join (fun L' h' => ∃ (s4 : Unit), x29 = .inl s4 ∧ L' = [(3, .slice a1 x2.1.length c1), (21, .slice a17 x28.1.length c17)] ∧ Hold h h' [own cd23 a1 x2.1.length c1 x2.1, own cd23 a17 x28.1.length c17 x28.1]) ?_ ?_
              · rintro _ h17 ⟨s4, es4, rfl, H54⟩
                have hF := M.cont_inl' hF es4
                refine Run_seq ?_
                refine Run_ops ?_
                refine Run_b [.slice a1 x2.1.length c1, .slice a17 x28.1.length c17] 0 _ (by kernel_rfl) (fun w => by kernel_rfl) ?_
                obtain ⟨x33, hx25, hF⟩ := M.bind_some hF
                refine Run_E (by kernel_rfl) ?_
                refine E_call (f := 34) (args := #[.slice a1 x2.1.length c1, .slice a17 x28.1.length c17]) (w_impl_LeftQuotient h17 x2.1 a1 c1 (H54.rd 0 rfl) x28.1 a17 c17 (H54.rd 1 rfl) _ _ hx25) (by kernel_rfl) (fun v14 h18 hp14 => ?_)
                obtain ⟨a20, c20, rfl, H70⟩ := hp14
                have H71 : Hold h h18 [own cd23 a20 x33.1.length c20 x33.1, own cd23 a1 x2.1.length c1 x2.1, own cd23 a17 x28.1.length c17 x28.1] := H54.call H70 rfl
                refine Run_b [.tuple #[.slice a20 x33.1.length c20, .int .i64 x33.2], .slice a20 x33.1.length c20, .int .i64 x33.2, .slice a20 x33.1.length c20, .int .i64 x33.2] 3 _ (by kernel_rfl) (fun w => by kernel_rfl) ?_
                refine Run_nil (by kernel_rfl) ?_
                refine Run_keep [3, 21, 24, 25] (L' := [(3, .slice a1 x2.1.length c1), (21, .slice a17 x28.1.length c17), (24, .slice a20 x33.1.length c20), (25, .int .i64 x33.2)]) (by kernel_rfl) ?_
                refine Run_seq ?_
                refine Run_seq ?_
                refine Run_reg 2 (by kernel_rfl) (L' := [(3, .slice a1 x2.1.length c1), (21, .slice a17 x28.1.length c17), (24, .slice a20 x33.1.length c20), (25, .int .i64 x33.2), (153, .bool (x33.2 != 0))]) ?_ ?_
                · refine QRun_b [.int .i64 x33.2, .bool (x33.2 != 0)] 0 _ (by kernel_rfl) (fun w => by kernel_rfl) ?_
                  exact QRun_done [3, 21, 24, 25, 153] (by kernel_rfl) (by kernel_rfl)
                refine Run_cond (b := x33.2 != 0) (by kernel_rfl) (fun hb21 => ?_) (fun hb21 => ?_)
                · have hF := (M.ite_some hF).1 hb21
                  refine Run_seq ?_
                  refine Run_reg 3 (by kernel_rfl) (L' := [(2, .bool (x33.2 == 3))]) ?_ ?_
                  · refine QRun_b [.int .i64 x33.2, .bool (x33.2 == 3), .bool (x33.2 == 3)] 0 _ (by kernel_rfl) (fun w => by kernel_rfl) ?_
                    exact QRun_done [2] (by kernel_rfl) (by kernel_rfl)
                  have hF := M.ret_some hF
                  subst hF
                  have H72 : Hold h h18 [] := H71.pick [] (by kernel_rfl)
                  exact Run_ret1 rfl (ResV_tmp (v := .bool (x33.2 == 3)) (by kernel_rfl)) ⟨rfl, H72⟩
                · have hF := (M.ite_some hF).2 hb21
                  refine Run_skip ?_
                  refine Run_seq ?_
                  refine Run_ops ?_
                  refine Run_b [.slice a1 x2.1.length c1, .slice a20 x33.1.length c20] 0 _ (by kernel_rfl) (fun w => by kernel_rfl) ?_
                  obtain ⟨x34, hx26, hF⟩ := M.bind_some hF
                  refine Run_E (by kernel_rfl) ?_
                  refine E_call (f := 44) (args := #[.slice a1 x2.1.length c1, .slice a20 x33.1.length c20]) (w_impl_MultiplyMatrices h18 x2.1 a1 c1 (H71.rd 1 rfl) x33.1 a20 c20 (H71.rd 0 rfl) _ _ hx26) (by kernel_rfl) (fun v15 h19 hp15 => ?_)
                  obtain ⟨a21, c21, rfl, H73⟩ := hp15
                  have H74 : Hold h h19 [own cd23 a21 x34.1.length c21 x34.1, own cd23 a20 x33.1.length c20 x33.1, own cd23 a1 x2.1.length c1 x2.1, own cd23 a17 x28.1.length c17 x28.1] := H71.call H73 rfl
                  refine Run_b [.tuple #[.slice a21 x34.1.length c21, .int .i64 x34.2], .slice a21 x34.1.length c21, .int .i64 x34.2, .slice a21 x34.1.length c21, .int .i64 x34.2] 3 _ (by kernel_rfl) (fun w => by kernel_rfl) ?_
                  refine Run_nil (by kernel_rfl) ?_
                  refine Run_keep [21, 26, 27] (L' := [(21, .slice a17 x28.1.length c17), (26, .slice a21 x34.1.length c21), (27, .int .i64 x34.2)]) (by kernel_rfl) ?_
                  refine Run_seq ?_
                  obtain ⟨x35, gx35, hF⟩ := M.bind_some hF
                  refine Run_reg 8 (by kernel_rfl) (L' := [(2, .bool x35)]) ?_ ?_
                  · refine QRun_b [.int .i64 x34.2, .bool (x34.2 == 0)] 0 _ (by kernel_rfl) (fun w => by kernel_rfl) ?_
                    refine QRun_seq 7 [(168, .bool x35)] ?_ ?_
                    · rcases Bool.eq_false_or_eq_true (x34.2 == 0) with hb22 | hb22
                      · refine QRun_bool (x34.2 == 0) true (by kernel_rfl) (fun w => by kernel_rfl) hb22 ?_
                        have gx35 := (M.ite_some gx35).1 hb22
                        obtain ⟨x36, hx27, gx35⟩ := M.bind_some gx35
                        have gx35 := M.ret_some gx35
                        refine QRun_b [.slice a21 x34.1.length c21, .slice a17 x28.1.length c17] 3 _ (by kernel_rfl) (fun w => by kernel_rfl) ?_
                        refine QRun_y (.bool x36) (by kernel_rfl) (Y_callq (f := 43) (args := #[.slice a21 x34.1.length c21, .slice a17 x28.1.length c17]) (v := .bool x36) (by kernel_rfl) (w_laws_likeTables9 h19 x34.1 a21 c21 (H74.rd 0 rfl) x28.1 a17 c17 (H74.rd 3 rfl) _ _ hx27)) ?_
                        refine QRun_bool x36 x35 (by kernel_rfl) (fun w => by kernel_rfl) gx35 ?_
                        exact QRun_done [168] (by kernel_rfl) (by kernel_rfl)
                      · refine QRun_bool (x34.2 == 0) false (by kernel_rfl) (fun w => by kernel_rfl) hb22 ?_
                        have gx35 := M.ret_some ((M.ite_some gx35).2 hb22)
                        refine QRun_n (by kernel_rfl) ?_
                        refine QRun_n (by kernel_rfl) ?_
                        refine QRun_n (by kernel_rfl) ?_
                        refine QRun_bool false x35 (by kernel_rfl) (fun w => by kernel_rfl) gx35 ?_
                        exact QRun_done [168] (by kernel_rfl) (by kernel_rfl)
                    refine QRun_b [.bool x35] 7 _ (by kernel_rfl) (fun w => by kernel_rfl) ?_
                    exact QRun_done [2] (by kernel_rfl) (by kernel_rfl)
                  have hF := M.ret_some hF
                  subst hF
                  have H75 : Hold h h19 [] := H74.pick [] (by kernel_rfl)
                  exact Run_ret1 rfl (ResV_tmp (v := .bool x35) (by kernel_rfl)) ⟨rfl, H75⟩
              · refine Run_block ?_
                have H76 : Hold h h15 [own cd23 a1 x2.1.length c1 x2.1, own cd23 a2 x2.2.length c2 x2.2, own cd23 a17 x28.1.length c17 x28.1] := H51.pick [9, 10, 0] (by kernel_rfl)
                refine Run_keep [3, 4, 21, 23] (L' := [(3, .slice a1 x2.1.length c1), (4, .slice a2 x2.2.length c2), (21, .slice a17 x28.1.length c17), (23, .int .i64 0)]) (by kernel_rfl) ?_
                refine Run_loop (fun m L' h' => ∃ (i2 : Int) (s3 : Unit), 0 ≤ i2 ∧ M.forN (x28.1.length : Int) _ _ n m i2 s3 = some x29 ∧ L' = [(3, .slice a1 x2.1.length c1), (4, .slice a2 x2.2.length c2), (21, .slice a17 x28.1.length c17), (23, .int .i64 i2)] ∧ Hold h h' [own cd23 a1 x2.1.length c1 x2.1, own cd23 a2 x2.2.length c2 x2.2, own cd23 a17 x28.1.length c17 x28.1]) ((x28.1.length : Int) - 0 : Int).toNat ⟨0, (), Int.le_refl _, gx29, rfl, H76⟩ ?_
                rintro my2 _ h16 ⟨i2, s3, hloy2', gx29, rfl, H53⟩
                refine Run_seq ?_
                refine Run_seq ?_
                refine Run_reg 4 (by kernel_rfl) (L' := [(3, .slice a1 x2.1.length c1), (4, .slice a2 x2.2.length c2), (21, .slice a17 x28.1.length c17), (23, .int .i64 i2), (133, .bool (decide (i2 < (x28.1.length : Int))))]) ?_ ?_
                · refine QRun_b [.int .i64 i2, .slice a17 x28.1.length c17, .int .i64 (x28.1.length : Int), .bool (decide (i2 < (x28.1.length : Int)))] 0 _ (by kernel_rfl) (fun w => by kernel_rfl) ?_
                  exact QRun_done [3, 4, 21, 23, 133] (by kernel_rfl) (by kernel_rfl)
                refine Run_cond (b := decide (i2 < (x28.1.length : Int))) (by kernel_rfl) (fun hb19 => ?_) (fun hb19 => ?_)
                · obtain ⟨my2, y2, rfl, hB2, hgoy2, houty2⟩ := M.for_go gx29 hb19
                  have hlty2 := of_decide_eq_true hb19
                  refine Run_skip ?_
                  refine Run_seq ?_
                  refine Run_block ?_
                  refine Run_seq ?_
                  obtain ⟨x30, hx22, hB2⟩ := M.bind_some hB2
                  obtain ⟨hx22l, hx22u, hx22⟩ := M.idx_some hx22
                  have H55 : Hold h h16 [own cd23 a17 x28.1.length c17 x28.1, own cd23 a1 x2.1.length c1 x2.1, own cd23 a2 x2.2.length c2 x2.2] := H53.pick [2, 0, 1] (by kernel_rfl)
                  have H56 := H55.toRows
                  obtain ⟨a18, c18, H57⟩ := H56.pinRow hx22
                  have H58 : Hold h h16 [own cd23 a1 x2.1.length c1 x2.1, own cd23 a2 x2.2.length c2 x2.2, rowsP cd2 23 a17 x28.1.length c17 x28.1 [(i2.toNat, a18, x30.length, c18, x30)]] := H57.pick [1, 2, 0] (by kernel_rfl)
                  obtain ⟨x31, hx23, hB2⟩ := M.bind_some hB2
                  obtain ⟨hx23l, hx23u, hx23⟩ := M.idx_some hx23
                  have H59 : Hold h h16 [own cd23 a2 x2.2.length c2 x2.2, own cd23 a1 x2.1.length c1 x2.1, rowsP cd2 23 a17 x28.1.length c17 x28.1 [(i2.toNat, a18, x30.length, c18, x30)]] := H58.pick [1, 0, 2] (by kernel_rfl)
                  have H60 := H59.toRows
                  obtain ⟨a19, c19, H61⟩ := H60.pinRow hx23
                  have H62 : Hold h h16 [own cd23 a1 x2.1.length c1 x2.1, rowsP cd2 23 a2 x2.2.length c2 x2.2 [(i2.toNat, a19, x31.length, c19, x31)], rowsP cd2 23 a17 x28.1.length c17 x28.1 [(i2.toNat, a18, x30.length, c18, x30)]] := H61.pick [1, 0, 2] (by kernel_rfl)
                  obtain ⟨x32, hx24, hB2⟩ := M.bind_some hB2
                  refine Run_draw 10 mixed (by kernel_rfl) (by kernel_rfl) (L' := [(3, .slice a1 x2.1.length c1), (4, .slice a2 x2.2.length c2), (21, .slice a17 x28.1.length c17), (23, .int .i64 i2), (145, .bool (!x32))]) ?_ ?_
                  · refine QRun_b [.slice a17 x28.1.length c17, .int .i64 i2] 0 _ (by kernel_rfl) (fun w => by kernel_rfl) ?_
                    refine QRun_y (.pointer (some (adr a17 (i2.toNat * 1)))) (by kernel_rfl) (Y_idx (t := 22) (e := 23) (sz := 1) (a := a17) (n := x28.1.length) (cap := c17) (kk := .i64) (i := i2) (by kernel_rfl) Try.underlying22 (by kernel_rfl) ((H53.rd 2 rfl).cell hx22).1 hx22l hx22u) ?_
                    refine QRun_y (.slice a18 x30.length c18) (by kernel_rfl) (Y_load1 (t := 23) (p := adr a17 (i2.toNat * 1)) (v := .slice a18 x30.length c18) (by kernel_rfl) (fun w => by kernel_rfl) (H58.cellPin 2 rfl 0 rfl)) ?_
                    refine QRun_b [.slice a2 x2.2.length c2, .int .i64 i2] 4 _ (by kernel_rfl) (fun w => by kernel_rfl) ?_
                    refine QRun_y (.pointer (some (adr a2 (i2.toNat * 1)))) (by kernel_rfl) (Y_idx (t := 22) (e := 23) (sz := 1) (a := a2) (n := x2.2.length) (cap := c2) (kk := .i64) (i := i2) (by kernel_rfl) Try.underlying22 (by kernel_rfl) ((H58.rd 1 rfl).cell hx23).1 hx23l hx23u) ?_
                    refine QRun_y (.slice a19 x31.length c19) (by kernel_rfl) (Y_load1 (t := 23) (p := adr a2 (i2.toNat * 1)) (v := .slice a19 x31.length c19) (by kernel_rfl) (fun w => by kernel_rfl) (H62.cellPin 1 rfl 0 rfl)) ?_
                    refine QRun_y (.bool x32) (by kernel_rfl) (Y_callq (f := 45) (args := #[.slice a18 x30.length c18, .slice a19 x31.length c19]) (v := .bool x32) (by kernel_rfl) (w_laws_below9 h16 x30 a18 c18 (H62.rdPin 2 rfl 0 rfl) x31 a19 c19 (H62.rdPin 1 rfl 0 rfl) _ _ hx24)) ?_
                    refine QRun_b [.bool (!x32)] 9 _ (by kernel_rfl) (fun w => by kernel_rfl) ?_
                    exact QRun_done [3, 4, 21, 23, 145] (by kernel_rfl) (by kernel_rfl)
                  refine Run_cond (b := !x32) (by kernel_rfl) (fun hb20 => ?_) (fun hb20 => ?_)
                  · have hB2 := (M.ite_some hB2).1 hb20
                    refine Run_seq ?_
                    refine Run_reg 1 (by kernel_rfl) (L' := [(2, .bool false)]) ?_ ?_
                    · refine QRun_b [.bool false] 0 _ (by kernel_rfl) (fun w => by kernel_rfl) ?_
                      exact QRun_done [2] (by kernel_rfl) (by kernel_rfl)
                    have hB2 := M.ret_some hB2
                    have gx29 := houty2 _ hB2.symm
                    have hF := M.cont_inr' hF gx29
                    have hF := M.ret_some hF
                    subst hF
                    have H63 : Hold h h16 [] := H62.pick [] (by kernel_rfl)
                    exact Run_ret1 rfl (ResV_tmp (v := .bool false) (by kernel_rfl)) ⟨rfl, H63⟩
                  · have hB2 := (M.ite_some hB2).2 hb20
                    refine Run_skip ?_
                    refine Run_blk ?_
                    refine Run_reg 3 (by kernel_rfl) (L' := [(3, .slice a1 x2.1.length c1), (4, .slice a2 x2.2.length c2), (21, .slice a17 x28.1.length c17), (23, .int .i64 (i2 + 1))]) ?_ ?_
                    · refine QRun_b [.int .i64 i2] 0 _ (by kernel_rfl) (fun w => by kernel_rfl) ?_
                      refine QRun_y (.int .i64 (i2 + 1)) (by kernel_rfl) (Y_eq (v := .int .i64 (w64 (i2 + 1))) (Y_pure (fun w => by kernel_rfl)) (by rw [w64_eq _ (by omega)])) ?_
                      refine QRun_b [.int .i64 (i2 + 1)] 2 _ (by kernel_rfl) (fun w => by kernel_rfl) ?_
                      exact QRun_done [3, 4, 21, 23] (by kernel_rfl) (by kernel_rfl)
                    have H64 : Hold h h16 [rowsP cd2 23 a2 x2.2.length c2 x2.2 [(i2.toNat, a19, x31.length, c19, x31)], own cd23 a1 x2.1.length c1 x2.1, rowsP cd2 23 a17 x28.1.length c17 x28.1 [(i2.toNat, a18, x30.length, c18, x30)]] := H62.pick [1, 0, 2] (by kernel_rfl)
                    have H65 := H64.ofRows
                    have H66 : Hold h h16 [rowsP cd2 23 a17 x28.1.length c17 x28.1 [(i2.toNat, a18, x30.length, c18, x30)], own cd23 a2 x2.2.length c2 x2.2, own cd23 a1 x2.1.length c1 x2.1] := H65.pick [2, 0, 1] (by kernel_rfl)
                    have H67 := H66.ofRows
                    have H68 : Hold h h16 [own cd23 a1 x2.1.length c1 x2.1, own cd23 a2 x2.2.length c2 x2.2, own cd23 a17 x28.1.length c17 x28.1] := H67.pick [2, 1, 0] (by kernel_rfl)
                    have hB2 := M.ret_some hB2
                    have gx29 := hgoy2 _ hB2.symm
                    exact Run_again [3, 4, 21, 23] (by kernel_rfl) my2 (Nat.lt_succ_self _) ⟨i2 + 1, (), by omega, gx29, rfl, H68⟩
                · have gx29 := M.for_end gx29 hb19
                  subst gx29
                  refine Run_exit (k' := _) rfl ?_
                  have H69 : Hold h h16 [own cd23 a1 x2.1.length c1 x2.1, own cd23 a17 x28.1.length c17 x28.1] := H53.pick [0, 2] (by kernel_rfl)
                  exact Run_fall [3, 21] (by kernel_rfl) ⟨(), rfl, rfl, H69⟩
      · have hF := (M.ite_some hF).2 hb6
        refine Run_skip ?_
        refine Run_seq ?_
        refine Run_seq ?_
        refine Run_reg 2 (by kernel_rfl) (L' := [(3, .slice a1 x2.1.length c1), (4, .slice a2 x2.2.length c2), (5, .slice a3 x3.1.length c3), (119, .bool (x3.2 != 0))]) ?_ ?_
        · refine QRun_b [.int .i64 x3.2, .bool (x3.2 != 0)] 0 _ (by kernel_rfl) (fun w => by kernel_rfl) ?_
          exact QRun_done [3, 4, 5, 119] (by kernel_rfl) (by kernel_rfl)
        refine Run_cond (b := x3.2 != 0) (by kernel_rfl) (fun hb23 => ?_) (fun hb23 => ?_)
        · have hF := (M.ite_some hF).1 hb23
          refine Run_seq ?_
          refine Run_reg 1 (by kernel_rfl) (L' := [(2, .bool true)]) ?_ ?_
          · refine QRun_b [.bool true] 0 _ (by kernel_rfl) (fun w => by kernel_rfl) ?_
            exact QRun_done [2] (by kernel_rfl) (by kernel_rfl)
          have hF := M.ret_some hF
          subst hF
          have H77 : Hold h h6 [] := H12.pick [] (by kernel_rfl)
          exact Run_ret1 rfl (ResV_tmp (v := .bool true) (by kernel_rfl)) ⟨rfl, H77⟩
        · have hF := (M.ite_some hF).2 hb23
          refine Run_skip ?_
          refine Run_seq ?_
          refine Run_ops ?_
          refine Run_b [.slice a1 x2.1.length c1, .slice a3 x3.1.length c3] 0 _ (by kernel_rfl) (fun w => by kernel_rfl) ?_
          obtain ⟨x37, hx28, hF⟩ := M.bind_some hF
          refine Run_E (by kernel_rfl) ?_
          refine E_call (f := 44) (args := #[.slice a1 x2.1.length c1, .slice a3 x3.1.length c3]) (w_impl_MultiplyMatrices h6 x2.1 a1 c1 (H12.rd 6 rfl) x3.1 a3 c3 (H12.rd 5 rfl) _ _ hx28) (by kernel_rfl) (fun v16 h20 hp16 => ?_)
          obtain ⟨a22, c22, rfl, H78⟩ := hp16
          have H79 : Hold h h20 [own cd23 a22 x37.1.length c22 x37.1, own cd23 a8 x7.1.length c8 x7.1, own cd23 a7 x6.1.length c7 x6.1, own cd23 a5 x5.1.length c5 x5.1, own cd23 a6 x5.2.length c6 x5.2, own cd23 a4 x4.1.length c4 x4.1, own cd23 a3 x3.1.length c3 x3.1, own cd23 a1 x2.1.length c1 x2.1, own cd23 a2 x2.2.length c2 x2.2] := H12.call H78 rfl
          refine Run_b [.tuple #[.slice a22 x37.1.length c22, .int .i64 x37.2], .slice a22 x37.1.length c22, .int .i64 x37.2, .slice a22 x37.1.length c22, .int .i64 x37.2] 3 _ (by kernel_rfl) (fun w => by kernel_rfl) ?_
          refine Run_nil (by kernel_rfl) ?_
          refine Run_keep [3, 4, 21, 22] (L' := [(3, .slice a1 x2.1.length c1), (4, .slice a2 x2.2.length c2), (21, .slice a22 x37.1.length c22), (22, .int .i64 x37.2)]) (by kernel_rfl) ?_
          refine Run_seq ?_
          refine Run_seq ?_
          refine Run_reg 2 (by kernel_rfl) (L' := [(3, .slice a1 x2.1.length c1), (4, .slice a2 x2.2.length c2), (21, .slice a22 x37.1.length c22), (22, .int .i64 x37.2), (127, .bool (x37.2 != 0))]) ?_ ?_
          · refine QRun_b [.int .i64 x37.2, .bool (x37.2 != 0)] 0 _ (by kernel_rfl) (fun w => by kernel_rfl) ?_
            exact QRun_done [3, 4, 21, 22, 127] (by kernel_rfl) (by kernel_rfl)
          refine Run_cond (b := x37.2 != 0) (by kernel_rfl) (fun hb24 => ?_) (fun hb24 => ?_)
          · have hF := (M.ite_some hF).1 hb24
            refine Run_seq ?_
            refine Run_reg 3 (by kernel_rfl) (L' := [(2, .bool (x37.2 == 3))]) ?_ ?_
            · refine QRun_b [.int .i64 x37.2, .bool (x37.2 == 3), .bool (x37.2 == 3)] 0 _ (by kernel_rfl) (fun w => by kernel_rfl) ?_
              exact QRun_done [2] (by kernel_rfl) (by kernel_rfl)
            have hF := M.ret_some hF
            subst hF
            have H80 : Hold h h20 [] := H79.pick [] (by kernel_rfl)
            exact Run_ret1 rfl (ResV_tmp (v := .bool (x37.2 == 3)) (by kernel_rfl)) ⟨rfl, H80⟩
          · have hF := (M.ite_some hF).2 hb24
            refine Run_skip ?_
            refine Run_seq ?_
            refine Run_seq ?_
            refine Run_reg 1 (by kernel_rfl) (L' := [(3, .slice a1 x2.1.length c1), (4, .slice a2 x2.2.length c2), (21, .slice a22 x37.1.length c22), (23, .int .i64 0)]) ?_ ?_
            · refine QRun_b [.int .i64 0] 0 _ (by kernel_rfl) (fun w => by kernel_rfl) ?_
              exact QRun_done [3, 4, 21, 23] (by kernel_rfl) (by kernel_rfl)
            obtain ⟨x38, gx38, hF⟩ := M.bind_some hF
            obtain ⟨hloy3, hhiy3, gx38⟩ := M.for_start gx38
            refine Run_join (fun L' h' => ∃ (s6 : Unit), x38 = .inl s6 ∧ L' = [(3, .slice a1 x2.1.length c1), (21, .slice a22 x37.1.length c22)] ∧ Hold h h' [own cd23 a1 x2.1.length c1 x2.1, own cd23 a22 x37.1.length c22 x37.1]) ?_ ?_
            · rintro _ h22 ⟨s6, es6, rfl, H82⟩
              have hF := M.cont_inl' hF es6
              refine Run_seq ?_
              refine Run_ops ?_
              refine Run_b [.slice a1 x2.1.length c1, .slice a22 x37.1.length c22] 0 _ (by kernel_rfl) (fun w => by kernel_rfl) ?_
              obtain ⟨x42, hx32, hF⟩ := M.bind_some hF
              refine Run_E (by kernel_rfl) ?_
              refine E_call (f := 34) (args := #[.slice a1 x2.1.length c1, .slice a22 x37.1.length c22]) (w_impl_LeftQuotient h22 x2.1 a1 c1 (H82.rd 0 rfl) x37.1 a22 c22 (H82.rd 1 rfl) _ _ hx32) (by kernel_rfl) (fun v17 h23 hp17 => ?_)
              obtain ⟨a25, c25, rfl, H98⟩ := hp17
              have H99 : Hold h h23 [own cd23 a25 x42.1.length c25 x42.1, own cd23 a1 x2.1.length c1 x2.1, own cd23 a22 x37.1.length c22 x37.1] := H82.call H98 rfl
              refine Run_b [.tuple #[.slice a25 x42.1.length c25, .int .i64 x42.2], .slice a25 x42.1.length c25, .int .i64 x42.2, .slice a25 x42.1.length c25, .int .i64 x42.2] 3 _ (by kernel_rfl) (fun w => by kernel_rfl) ?_
              refine Run_nil (by kernel_rfl) ?_
              refine Run_keep [3, 21, 24, 25] (L' := [(3, .slice a1 x2.1.length c1), (21, .slice a22 x37.1.length c22), (24, .slice a25 x42.1.length c25), (25, .int .i64 x42.2)]) (by kernel_rfl) ?_
              refine Run_seq ?_
              refine Run_seq ?_
              refine Run_reg 2 (by kernel_rfl) (L' := [(3, .slice a1 x2.1.length c1), (21, .slice a22 x37.1.length c22), (24, .slice a25 x42.1.length c25), (25, .int .i64 x42.2), (153, .bool (x42.2 != 0))]) ?_ ?_
              · refine QRun_b [.int .i64 x42.2, .bool (x42.2 != 0)] 0 _ (by kernel_rfl) (fun w => by kernel_rfl) ?_
                exact QRun_done [3, 21, 24, 25, 153] (by kernel_rfl) (by kernel_rfl)
              refine Run_cond (b := x42.2 != 0) (by kernel_rfl) (fun hb27 => ?_) (fun hb27 => ?_)
              · have hF := (M.ite_some hF).1 hb27
                refine Run_seq ?_
                refine Run_reg 3 (by kernel_rfl) (L' := [(2, .bool (x42.2 == 3))]) ?_ ?_
                · refine QRun_b [.int .i64 x42.2, .bool (x42.2 == 3), .bool (x42.2 == 3)] 0 _ (by kernel_rfl) (fun w => by kernel_rfl) ?_
                  exact QRun_done [2] (by kernel_rfl) (by kernel_rfl)
                have hF := M.ret_some hF
                subst hF
                have H100 : Hold h h23 [] := H99.pick [] (by kernel_rfl)
                exact Run_ret1 rfl (ResV_tmp (v := .bool (x42.2 == 3)) (by kernel_rfl)) ⟨rfl, H100⟩
              · have hF := (M.ite_some hF).2 hb27
                refine Run_skip ?_
                refine Run_seq ?_
                refine Run_ops ?_
                refine Run_b [.slice a1 x2.1.length c1, .slice a25 x42.1.length c25] 0 _ (by kernel_rfl) (fun w => by kernel_rfl) ?_
                obtain ⟨x43, hx33, hF⟩ := M.bind_some hF
                refine Run_E (by kernel_rfl) ?_
                refine E_call (f := 44) (args := #[.slice a1 x2.1.length c1, .slice a25 x42.1.length c25]) (w_impl_MultiplyMatrices h23 x2.1 a1 c1 (H99.rd 1 rfl) x42.1 a25 c25 (H99.rd 0 rfl) _ _ hx33) (by kernel_rfl) (fun v18 h24 hp18 => ?_)
                obtain ⟨a26, c26, rfl, H101⟩ := hp18
                have H102 : Hold h h24 [own cd23 a26 x43.1.length c26 x43.1, own cd23 a25 x42.1.length c25 x42.1, own cd23 a1 x2.1.length c1 x2.1, own cd23 a22 x37.1.length c22 x37.1] := H99.call H101 rfl
                refine Run_b [.tuple #[.slice a26 x43.1.length c26, .int .i64 x43.2], .slice a26 x43.1.length c26, .int .i64 x43.2, .slice a26 x43.1.length c26, .int .i64 x43.2] 3 _ (by kernel_rfl) (fun w => by kernel_rfl) ?_
                refine Run_nil (by kernel_rfl) ?_
                refine Run_keep [21, 26, 27] (L' := [(21, .slice a22 x37.1.length c22), (26, .slice a26 x43.1.length c26), (27, .int .i64 x43.2)]) (by kernel_rfl) ?_
                refine Run_seq ?_
                obtain ⟨x44, gx44, hF⟩ := M.bind_some hF
                refine Run_reg 8 (by kernel_rfl) (L' := [(2, .bool x44)]) ?_ ?_
                · refine QRun_b [.int .i64 x43.2, .bool (x43.2 == 0)] 0 _ (by kernel_rfl) (fun w => by kernel_rfl) ?_
                  refine QRun_seq 7 [(168, .bool x44)] ?_ ?_
                  · rcases Bool.eq_false_or_eq_true (x43.2 == 0) with hb28 | hb28
                    · refine QRun_bool (x43.2 == 0) true (by kernel_rfl) (fun w => by kernel_rfl) hb28 ?_
                      have gx44 := (M.ite_some gx44).1 hb28
                      obtain ⟨x45, hx34, gx44⟩ := M.bind_some gx44
                      have gx44 := M.ret_some gx44
                      refine QRun_b [.slice a26 x43.1.length c26, .slice a22 x37.1.length c22] 3 _ (by kernel_rfl) (fun w => by kernel_rfl) ?_
                      refine QRun_y (.bool x45) (by kernel_rfl) (Y_callq (f := 43) (args := #[.slice a26 x43.1.length c26, .slice a22 x37.1.length c22]) (v := .bool x45) (by kernel_rfl) (w_laws_likeTables9 h24 x43.1 a26 c26 (H102.rd 0 rfl) x37.1 a22 c22 (H102.rd 3 rfl) _ _ hx34)) ?_
                      refine QRun_bool x45 x44 (by kernel_rfl) (fun w => by kernel_rfl) gx44 ?_
                      exact QRun_done [168] (by kernel_rfl) (by kernel_rfl)
                    · refine QRun_bool (x43.2 == 0) false (by kernel_rfl) (fun w => by kernel_rfl) hb28 ?_
                      have gx44 := M.ret_some ((M.ite_some gx44).2 hb28)
                      refine QRun_n (by kernel_rfl) ?_
                      refine QRun_n (by kernel_rfl) ?_
                      refine QRun_n (by kernel_rfl) ?_
                      refine QRun_bool false x44 (by kernel_rfl) (fun w => by kernel_rfl) gx44 ?_
                      exact QRun_done [168] (by kernel_rfl) (by kernel_rfl)
                  refine QRun_b [.bool x44] 7 _ (by kernel_rfl) (fun w => by kernel_rfl) ?_
                  exact QRun_done [2] (by kernel_rfl) (by kernel_rfl)
                have hF := M.ret_some hF
                subst hF
                have H103 : Hold h h24 [] := H102.pick [] (by kernel_rfl)
                exact Run_ret1 rfl (ResV_tmp (v := .bool x44) (by kernel_rfl)) ⟨rfl, H103⟩
            · refine Run_block ?_
              have H104 : Hold h h20 [own cd23 a1 x2.1.length c1 x2.1, own cd23 a2 x2.2.length c2 x2.2, own cd23 a22 x37.1.length c22 x37.1] := H79.pick [7, 8, 0] (by kernel_rfl)
              refine Run_keep [3, 4, 21, 23] (L' := [(3, .slice a1 x2.1.length c1), (4, .slice a2 x2.2.length c2), (21, .slice a22 x37.1.length c22), (23, .int .i64 0)]) (by kernel_rfl) ?_
              refine Run_loop (fun m L' h' => ∃ (i3 : Int) (s5 : Unit), 0 ≤ i3 ∧ M.forN (x37.1.length : Int) _ _ n m i3 s5 = some x38 ∧ L' = [(3, .slice a1 x2.1.length c1), (4, .slice a2 x2.2.length c2), (21, .slice a22 x37.1.length c22), (23, .int .i64 i3)] ∧ Hold h h' [own cd23 a1 x2.1.length c1 x2.1, own cd23 a2 x2.2.length c2 x2.2, own cd23 a22 x37.1.length c22 x37.1]) ((x37.1.length : Int) - 0 : Int).toNat ⟨0, (), Int.le_refl _, gx38, rfl, H104⟩ ?_
              rintro my3 _ h21 ⟨i3, s5, hloy3', gx38, rfl, H81⟩
              refine Run_seq ?_
              refine Run_seq ?_
              refine Run_reg 4 (by kernel_rfl) (L' := [(3, .slice a1 x2.1.length c1), (4, .slice a2 x2.2.length c2), (21, .slice a22 x37.1.length c22), (23, .int .i64 i3), (133, .bool (decide (i3 < (x37.1.length : Int))))]) ?_ ?_
              · refine QRun_b [.int .i64 i3, .slice a22 x37.1.length c22, .int .i64 (x37.1.length : Int), .bool (decide (i3 < (x37.1.length : Int)))] 0 _ (by kernel_rfl) (fun w => by kernel_rfl) ?_
                exact QRun_done [3, 4, 21, 23, 133] (by kernel_rfl) (by kernel_rfl)
              refine Run_cond (b := decide (i3 < (x37.1.length : Int))) (by kernel_rfl) (fun hb25 => ?_) (fun hb25 => ?_)
              · obtain ⟨my3, y3, rfl, hB3, hgoy3, houty3⟩ := M.for_go gx38 hb25
                have hlty3 := of_decide_eq_true hb25
                refine Run_skip ?_
                refine Run_seq ?_
                refine Run_block ?_
                refine Run_seq ?_
                obtain ⟨x39, hx29, hB3⟩ := M.bind_some hB3
                obtain ⟨hx29l, hx29u, hx29⟩ := M.idx_some hx29
                have H83 : Hold h h21 [own cd23 a22 x37.1.length c22 x37.1, own cd23 a1 x2.1.length c1 x2.1, own cd23 a2 x2.2.length c2 x2.2] := H81.pick [2, 0, 1] (by kernel_rfl)
                have H84 := H83.toRows
                obtain ⟨a23, c23, H85⟩ := H84.pinRow hx29
                have H86 : Hold h h21 [own cd23 a1 x2.1.length c1 x2.1, own cd23 a2 x2.2.length c2 x2.2, rowsP cd2 23 a22 x37.1.length c22 x37.1 [(i3.toNat, a23, x39.length, c23, x39)]] := H85.pick [1, 2, 0] (by kernel_rfl)
                obtain ⟨x40, hx30, hB3⟩ := M.bind_some hB3
                obtain ⟨hx30l, hx30u, hx30⟩ := M.idx_some hx30
                have H87 : Hold h h21 [own cd23 a2 x2.2.length c2 x2.2, own cd23 a1 x2.1.length c1 x2.1, rowsP cd2 23 a22 x37.1.length c22 x37.1 [(i3.toNat, a23, x39.length, c23, x39)]] := H86.pick [1, 0, 2] (by kernel_rfl)
                have H88 := H87.toRows
                obtain ⟨a24, c24, H89⟩ := H88.pinRow hx30
                have H90 : Hold h h21 [own cd23 a1 x2.1.length c1 x2.1, rowsP cd2 23 a2 x2.2.length c2 x2.2 [(i3.toNat, a24, x40.length, c24, x40)], rowsP cd2 23 a22 x37.1.length c22 x37.1 [(i3.toNat, a23, x39.length, c23, x39)]] := H89.pick [1, 0, 2] (by kernel_rfl)
                obtain ⟨x41, hx31, hB3⟩ := M.bind_some hB3
                refine Run_draw 10 mixed (by kernel_rfl) (by kernel_rfl) (L' := [(3, .slice a1 x2.1.length c1), (4, .slice a2 x2.2.length c2), (21, .slice a22 x37.1.length c22), (23, .int .i64 i3), (145, .bool (!x41))]) ?_ ?_
                · refine QRun_b [.slice a22 x37.1.length c22, .int .i64 i3] 0 _ (by kernel_rfl) (fun w => by kernel_rfl) ?_
                  refine QRun_y (.pointer (some (adr a22 (i3.toNat * 1)))) (by kernel_rfl) (Y_idx (t := 22) (e := 23) (sz := 1) (a := a22) (n := x37.1.length) (cap := c22) (kk := .i64) (i := i3) (by kernel_rfl) Try.underlying22 (by kernel_rfl) ((H81.rd 2 rfl).cell hx29).1 hx29l hx29u) ?_
                  refine QRun_y (.slice a23 x39.length c23) (by kernel_rfl) (Y_load1 (t := 23) (p := adr a22 (i3.toNat * 1)) (v := .slice a23 x39.length c23) (by kernel_rfl) (fun w => by kernel_rfl) (H86.cellPin 2 rfl 0 rfl)) ?_
                  refine QRun_b [.slice a2 x2.2.length c2, .int .i64 i3] 4 _ (by kernel_rfl) (fun w => by kernel_rfl) ?_
                  refine QRun_y (.pointer (some (adr a2 (i3.toNat * 1)))) (by kernel_rfl) (Y_idx (t := 22) (e := 23) (sz := 1) (a := a2) (n := x2.2.length) (cap := c2) (kk := .i64) (i := i3) (by kernel_rfl) Try.underlying22 (by kernel_rfl) ((H86.rd 1 rfl).cell hx30).1 hx30l hx30u) ?_
                  refine QRun_y (.slice a24 x40.length c24) (by kernel_rfl) (Y_load1 (t := 23) (p := adr a2 (i3.toNat * 1)) (v := .slice a24 x40.length c24) (by kernel_rfl) (fun w => by kernel_rfl) (H90.cellPin 1 rfl 0 rfl)) ?_
                  refine QRun_y (.bool x41) (by kernel_rfl) (Y_callq (f := 45) (args := #[.slice a23 x39.length c23, .slice a24 x40.length c24]) (v := .bool x41) (by kernel_rfl) (w_laws_below9 h21 x39 a23 c23 (H90.rdPin 2 rfl 0 rfl) x40 a24 c24 (H90.rdPin 1 rfl 0 rfl) _ _ hx31)) ?_
                  refine QRun_b [.bool (!x41)] 9 _ (by kernel_rfl) (fun w => by kernel_rfl) ?_
                  exact QRun_done [3, 4, 21, 23, 145] (by kernel_rfl) (by kernel_rfl)
                refine Run_cond (b := !x41) (by kernel_rfl) (fun hb26 => ?_) (fun hb26 => ?_)
                · have hB3 := (M.ite_some hB3).1 hb26
                  refine Run_seq ?_
                  refine Run_reg 1 (by kernel_rfl) (L' := [(2, .bool false)]) ?_ ?_
                  · refine QRun_b [.bool false] 0 _ (by kernel_rfl) (fun w => by kernel_rfl) ?_
                    exact QRun_done [2] (by kernel_rfl) (by kernel_rfl)
                  have hB3 := M.ret_some hB3
                  have gx38 := houty3 _ hB3.symm
                  have hF := M.cont_inr' hF gx38
                  have hF := M.ret_some hF
                  subst hF
                  have H91 : Hold h h21 [] := H90.pick [] (by kernel_rfl)
                  exact Run_ret1 rfl (ResV_tmp (v := .bool false) (by kernel_rfl)) ⟨rfl, H91⟩
                · have hB3 := (M.ite_some hB3).2 hb26
                  refine Run_skip ?_
                  refine Run_blk ?_
                  refine Run_reg 3 (by kernel_rfl) (L' := [(3, .slice a1 x2.1.length c1), (4, .slice a2 x2.2.length c2), (21, .slice a22 x37.1.length c22), (23, .int .i64 (i3 + 1))]) ?_ ?_
                  · refine QRun_b [.int .i64 i3] 0 _ (by kernel_rfl) (fun w => by kernel_rfl) ?_
                    refine QRun_y (.int .i64 (i3 + 1)) (by kernel_rfl) (Y_eq (v := .int .i64 (w64 (i3 + 1))) (Y_pure (fun w => by kernel_rfl)) (by rw [w64_eq _ (by omega)])) ?_
                    refine QRun_b [.int .i64 (i3 + 1)] 2 _ (by kernel_rfl) (fun w => by kernel_rfl) ?_
                    exact QRun_done [3, 4, 21, 23] (by kernel_rfl) (by kernel_rfl)
                  have H92 : Hold h h21 [rowsP cd2 23 a2 x2.2.length c2 x2.2 [(i3.toNat, a24, x40.length, c24, x40)], own cd23 a1 x2.1.length c1 x2.1, rowsP cd2 23 a22 x37.1.length c22 x37.1 [(i3.toNat, a23, x39.length, c23, x39)]] := H90.pick [1, 0, 2] (by kernel_rfl)
                  have H93 := H92.ofRows
                  have H94 : Hold h h21 [rowsP cd2 23 a22 x37.1.length c22 x37.1 [(i3.toNat, a23, x39.length, c23, x39)], own cd23 a2 x2.2.length c2 x2.2, own cd23 a1 x2.1.length c1 x2.1] := H93.pick [2, 0, 1] (by kernel_rfl)
                  have H95 := H94.ofRows
                  have H96 : Hold h h21 [own cd23 a1 x2.1.length c1 x2.1, own cd23 a2 x2.2.length c2 x2.2, own cd23 a22 x37.1.length c22 x37.1] := H95.pick [2, 1, 0] (by kernel_rfl)
                  have hB3 := M.ret_some hB3
                  have gx38 := hgoy3 _ hB3.symm
                  exact Run_again [3, 4, 21, 23] (by kernel_rfl) my3 (Nat.lt_succ_self _) ⟨i3 + 1, (), by omega, gx38, rfl, H96⟩
              · have gx38 := M.for_end gx38 hb25
                subst gx38
                refine Run_exit (k' := _) rfl ?_
                have H97 : Hold h h21 [own cd23 a1 x2.1.length c1 x2.1, own cd23 a22 x37.1.length c22 x37.1] := H81.pick [0, 2] (by kernel_rfl)
                exact Run_fall [3, 21] (by kernel_rfl) ⟨(), rfl, rfl, H97⟩

end Go.Proofs.Ytmpjjdgfkjompaa
