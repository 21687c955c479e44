/-
  Walks: each Go function, called with what reads as plain data, returns what its plain program computes.
  Conditions: None beyond the given statement.
-/
import Derived.Test.YtipdgiljgbjjkaaW1
namespace Go.Proofs.Ytipdgiljgbjjkaa
open Go
attribute [local irreducible] setL setB opA fineI idleI fineB evB okB markB markBs readyB readyBs chainB lk rho pickL dropSlot tailOK
set_option maxRecDepth 100000 in
set_option maxHeartbeats 4000000 in
theorem w_spec_IsMatrix (h : Heap) (a_ : List (List Int)) {Sa_ : Bs} (aa_ : Option Addr) (ca_ : Nat) (ra_ : Rd cd39 h Sa_ aa_ ca_ a_) (n : Nat) (r : Bool) (hF : spec_IsMatrix a_ n = some r) :
    Fn Try.prog 148 #[.slice aa_ a_.length ca_] h fun v h' => v = .bool r ∧ h' = h := by
  unfold spec_IsMatrix at hF
  refine Fn_enter (args := [.slice aa_ a_.length ca_]) Try.func148 rfl (by kernel_rfl) (by kernel_rfl) (fun w0 _ => ?_)
  refine Run_seq ?_
  refine Run_reg 1 (by kernel_rfl) (L' := [(0, .slice aa_ a_.length ca_)]) ?_ ?_
  · refine QRun_b [.bool false] 0 _ (by kernel_rfl) (fun w => by kernel_rfl) ?_
    exact QRun_done [0] (by kernel_rfl) (by kernel_rfl)
  refine Run_seq ?_
  refine Run_seq ?_
  refine Run_reg 8 (by kernel_rfl) (L' := [(0, .slice aa_ a_.length ca_), (11, .bool ((decide ((a_.length : Int) < 1)) || (decide (10 < (a_.length : Int)))))]) ?_ ?_
  · refine QRun_b [.slice aa_ a_.length ca_, .int .i64 (a_.length : Int), .bool (decide ((a_.length : Int) < 1))] 0 _ (by kernel_rfl) (fun w => by kernel_rfl) ?_
    refine QRun_seq 8 [(0, .slice aa_ a_.length ca_), (11, .bool ((decide ((a_.length : Int) < 1)) || (decide (10 < (a_.length : Int)))))] ?_ ?_
    · rcases Bool.eq_false_or_eq_true (decide ((a_.length : Int) < 1)) with hb1 | hb1
      · refine QRun_bool (decide ((a_.length : Int) < 1)) true (by kernel_rfl) (fun w => by kernel_rfl) hb1 ?_
        refine QRun_n (by kernel_rfl) ?_
        refine QRun_n (by kernel_rfl) ?_
        refine QRun_n (by kernel_rfl) ?_
        refine QRun_bool true ((decide ((a_.length : Int) < 1)) || (decide (10 < (a_.length : Int)))) (by kernel_rfl) (fun w => by kernel_rfl) (by rw [hb1]; rfl) ?_
        exact QRun_done [0, 11] (by kernel_rfl) (by kernel_rfl)
      · refine QRun_bool (decide ((a_.length : Int) < 1)) false (by kernel_rfl) (fun w => by kernel_rfl) hb1 ?_
        refine QRun_b [.slice aa_ a_.length ca_, .int .i64 (a_.length : Int), .bool (decide (10 < (a_.length : Int)))] 4 _ (by kernel_rfl) (fun w => by kernel_rfl) ?_
        refine QRun_bool (decide (10 < (a_.length : Int))) ((decide ((a_.length : Int) < 1)) || (decide (10 < (a_.length : Int)))) (by kernel_rfl) (fun w => by kernel_rfl) (by rw [hb1]; rfl) ?_
        exact QRun_done [0, 11] (by kernel_rfl) (by kernel_rfl)
    exact QRun_done [0, 11] (by kernel_rfl) (by kernel_rfl)
  refine Run_cond (b := (decide ((a_.length : Int) < 1)) || (decide (10 < (a_.length : Int)))) (by kernel_rfl) (fun hb2 => ?_) (fun hb2 => ?_)
  · have hF := (M.ite_some hF).1 hb2
    refine Run_seq ?_
    refine Run_reg 1 (by kernel_rfl) (L' := [(2, .bool false)]) ?_ ?_
    · refine QRun_b [.bool false] 0 _ (by kernel_rfl) (fun w => by kernel_rfl) ?_
      exact QRun_done [2] (by kernel_rfl) (by kernel_rfl)
    have hF := M.ret_some hF
    subst hF
    exact Run_ret1 rfl (ResV_tmp (v := .bool false) (by kernel_rfl)) ⟨rfl, rfl⟩
  · have hF := (M.ite_some hF).2 hb2
    refine Run_skip ?_
    refine Run_seq ?_
    refine Run_seq ?_
    refine Run_reg 1 (by kernel_rfl) (L' := [(0, .slice aa_ a_.length ca_), (3, .int .i64 0)]) ?_ ?_
    · refine QRun_b [.int .i64 0] 0 _ (by kernel_rfl) (fun w => by kernel_rfl) ?_
      exact QRun_done [0, 3] (by kernel_rfl) (by kernel_rfl)
    obtain ⟨x2, gx2, hF⟩ := M.bind_some hF
    obtain ⟨hloy1, hhiy1, gx2⟩ := M.for_start gx2
    refine Run_join (fun L' h' => ∃ (s2 : Unit), x2 = .inl s2 ∧ L' = [] ∧ h = h') ?_ ?_
    · rintro _ _ ⟨s2, es2, rfl, rfl⟩
      have hF := M.cont_inl' hF es2
      refine Run_seq ?_
      refine Run_reg 1 (by kernel_rfl) (L' := [(2, .bool true)]) ?_ ?_
      · refine QRun_b [.bool true] 0 _ (by kernel_rfl) (fun w => by kernel_rfl) ?_
        exact QRun_done [2] (by kernel_rfl) (by kernel_rfl)
      have hF := M.ret_some hF
      subst hF
      exact Run_ret1 rfl (ResV_tmp (v := .bool true) (by kernel_rfl)) ⟨rfl, rfl⟩
    · refine Run_block ?_
      refine Run_keep [0, 3] (L' := [(0, .slice aa_ a_.length ca_), (3, .int .i64 0)]) (by kernel_rfl) ?_
      refine Run_loop (fun m L' h' => ∃ (i1 : Int) (s1 : Unit), 0 ≤ i1 ∧ M.forN (a_.length : Int) _ _ n m i1 s1 = some x2 ∧ L' = [(0, .slice aa_ a_.length ca_), (3, .int .i64 i1)] ∧ h = h') ((a_.length : Int) - 0 : Int).toNat ⟨0, (), Int.le_refl _, gx2, rfl, rfl⟩ ?_
      rintro my1 _ _ ⟨i1, s1, hloy1', gx2, rfl, rfl⟩
      refine Run_seq ?_
      refine Run_seq ?_
      refine Run_reg 4 (by kernel_rfl) (L' := [(0, .slice aa_ a_.length ca_), (3, .int .i64 i1), (15, .bool (decide (i1 < (a_.length : Int))))]) ?_ ?_
      · refine QRun_b [.int .i64 i1, .slice aa_ a_.length ca_, .int .i64 (a_.length : Int), .bool (decide (i1 < (a_.length : Int)))] 0 _ (by kernel_rfl) (fun w => by kernel_rfl) ?_
        exact QRun_done [0, 3, 15] (by kernel_rfl) (by kernel_rfl)
      refine Run_cond (b := decide (i1 < (a_.length : Int))) (by kernel_rfl) (fun hb3 => ?_) (fun hb3 => ?_)
      · obtain ⟨my1, y1, rfl, hB1, hgoy1, houty1⟩ := M.for_go gx2 hb3
        have hlty1 := of_decide_eq_true hb3
        refine Run_skip ?_
        refine Run_seq ?_
        refine Run_block ?_
        refine Run_seq ?_
        obtain ⟨x3, hx1, hB1⟩ := M.bind_some hB1
        obtain ⟨hx1l, hx1u, hx1⟩ := M.idx_some hx1
        obtain ⟨a1, c1, hc1, r1⟩ := ra_.row hx1
        obtain ⟨x4, hx2, hB1⟩ := M.bind_some hB1
        obtain ⟨x5, gx5, hB1⟩ := M.bind_some hB1
        refine Run_draw 18 mixed (by kernel_rfl) (by kernel_rfl) (L' := [(0, .slice aa_ a_.length ca_), (3, .int .i64 i1), (35, .bool x5)]) ?_ ?_
        · refine QRun_b [.slice aa_ a_.length ca_, .int .i64 i1] 0 _ (by kernel_rfl) (fun w => by kernel_rfl) ?_
          refine QRun_y (.pointer (some (adr aa_ (i1.toNat * 1)))) (by kernel_rfl) (Y_idx (t := 37) (e := 39) (sz := 1) (a := aa_) (n := a_.length) (cap := ca_) (kk := .i64) (i := i1) (by kernel_rfl) Try.underlying37 (by kernel_rfl) (ra_.cell hx1).1 hx1l hx1u) ?_
          refine QRun_y (.slice a1 x3.length c1) (by kernel_rfl) (Y_load1 (t := 39) (p := adr aa_ (i1.toNat * 1)) (v := .slice a1 x3.length c1) (by kernel_rfl) (fun w => by kernel_rfl) hc1) ?_
          refine QRun_y (.bool x4) (by kernel_rfl) (Y_callq (f := 175) (args := #[.slice a1 x3.length c1]) (v := .bool x4) (by kernel_rfl) (w_spec_l02Vector h x3 a1 c1 r1 _ _ hx2)) ?_
          refine QRun_b [.bool (!x4)] 5 _ (by kernel_rfl) (fun w => by kernel_rfl) ?_
          refine QRun_seq 18 [(0, .slice aa_ a_.length ca_), (3, .int .i64 i1), (35, .bool x5)] ?_ ?_
          · rcases Bool.eq_false_or_eq_true (!x4) with hb4 | hb4
            · refine QRun_bool (!x4) true (by kernel_rfl) (fun w => by kernel_rfl) hb4 ?_
              have gx5 := M.ret_some ((M.ite_some gx5).1 hb4)
              refine QRun_n (by kernel_rfl) ?_
              refine QRun_n (by kernel_rfl) ?_
              refine QRun_n (by kernel_rfl) ?_
              refine QRun_n (by kernel_rfl) ?_
              refine QRun_n (by kernel_rfl) ?_
              refine QRun_n (by kernel_rfl) ?_
              refine QRun_n (by kernel_rfl) ?_
              refine QRun_n (by kernel_rfl) ?_
              refine QRun_n (by kernel_rfl) ?_
              refine QRun_n (by kernel_rfl) ?_
              refine QRun_bool true x5 (by kernel_rfl) (fun w => by kernel_rfl) gx5 ?_
              exact QRun_done [0, 3, 35] (by kernel_rfl) (by kernel_rfl)
            · refine QRun_bool (!x4) false (by kernel_rfl) (fun w => by kernel_rfl) hb4 ?_
              have gx5 := (M.ite_some gx5).2 hb4
              obtain ⟨x6, hx3, gx5⟩ := M.bind_some gx5
              obtain ⟨hx3l, hx3u, hx3⟩ := M.idx_some hx3
              obtain ⟨a2, c2, hc2, r2⟩ := ra_.row hx3
              obtain ⟨x7, hx4, gx5⟩ := M.bind_some gx5
              obtain ⟨hx4l, hx4u, hx4⟩ := M.idx_some hx4
              obtain ⟨a3, c3, hc3, r3⟩ := ra_.row hx4
              have gx5 := M.ret_some gx5
              refine QRun_b [.slice aa_ a_.length ca_, .int .i64 i1] 7 _ (by kernel_rfl) (fun w => by kernel_rfl) ?_
              refine QRun_y (.pointer (some (adr aa_ (i1.toNat * 1)))) (by kernel_rfl) (Y_idx (t := 37) (e := 39) (sz := 1) (a := aa_) (n := a_.length) (cap := ca_) (kk := .i64) (i := i1) (by kernel_rfl) Try.underlying37 (by kernel_rfl) (ra_.cell hx3).1 hx3l hx3u) ?_
              refine QRun_y (.slice a2 x6.length c2) (by kernel_rfl) (Y_load1 (t := 39) (p := adr aa_ (i1.toNat * 1)) (v := .slice a2 x6.length c2) (by kernel_rfl) (fun w => by kernel_rfl) hc2) ?_
              refine QRun_b [.int .i64 (x6.length : Int), .slice aa_ a_.length ca_] 11 _ (by kernel_rfl) (fun w => by kernel_rfl) ?_
              refine QRun_y (.pointer (some (adr aa_ (0 * 1)))) (by kernel_rfl) (Y_idx (t := 37) (e := 39) (sz := 1) (a := aa_) (n := a_.length) (cap := ca_) (kk := .i64) (i := 0) (by kernel_rfl) Try.underlying37 (by kernel_rfl) (ra_.cell hx4).1 hx4l hx4u) ?_
              refine QRun_y (.slice a3 x7.length c3) (by kernel_rfl) (Y_load1 (t := 39) (p := adr aa_ (0 * 1)) (v := .slice a3 x7.length c3) (by kernel_rfl) (fun w => by kernel_rfl) hc3) ?_
              refine QRun_b [.int .i64 (x7.length : Int), .bool ((x6.length : Int) != (x7.length : Int))] 15 _ (by kernel_rfl) (fun w => by kernel_rfl) ?_
              refine QRun_bool ((x6.length : Int) != (x7.length : Int)) x5 (by kernel_rfl) (fun w => by kernel_rfl) gx5 ?_
              exact QRun_done [0, 3, 35] (by kernel_rfl) (by kernel_rfl)
          exact QRun_done [0, 3, 35] (by kernel_rfl) (by kernel_rfl)
        refine Run_cond (b := x5) (by kernel_rfl) (fun hb5 => ?_) (fun hb5 => ?_)
        · have hB1 := (M.ite_some hB1).1 hb5
          refine Run_seq ?_
          refine Run_reg 1 (by kernel_rfl) (L' := [(2, .bool false)]) ?_ ?_
          · refine QRun_b [.bool false] 0 _ (by kernel_rfl) (fun w => by kernel_rfl) ?_
            exact QRun_done [2] (by kernel_rfl) (by kernel_rfl)
          have hB1 := M.ret_some hB1
          have gx2 := houty1 _ hB1.symm
          have hF := M.cont_inr' hF gx2
          have hF := M.ret_some hF
          subst hF
          exact Run_ret1 rfl (ResV_tmp (v := .bool false) (by kernel_rfl)) ⟨rfl, rfl⟩
        · have hB1 := (M.ite_some hB1).2 hb5
          refine Run_skip ?_
          refine Run_blk ?_
          refine Run_reg 3 (by kernel_rfl) (L' := [(0, .slice aa_ a_.length ca_), (3, .int .i64 (i1 + 1))]) ?_ ?_
          · refine QRun_b [.int .i64 i1] 0 _ (by kernel_rfl) (fun w => by kernel_rfl) ?_
            refine QRun_y (.int .i64 (i1 + 1)) (by kernel_rfl) (Y_eq (v := .int .i64 (w64 (i1 + 1))) (Y_pure (fun w => by kernel_rfl)) (by rw [w64_eq _ (by omega)])) ?_
            refine QRun_b [.int .i64 (i1 + 1)] 2 _ (by kernel_rfl) (fun w => by kernel_rfl) ?_
            exact QRun_done [0, 3] (by kernel_rfl) (by kernel_rfl)
          have hB1 := M.ret_some hB1
          have gx2 := hgoy1 _ hB1.symm
          exact Run_again [0, 3] (by kernel_rfl) my1 (Nat.lt_succ_self _) ⟨i1 + 1, (), by omega, gx2, rfl, rfl⟩
      · have gx2 := M.for_end gx2 hb3
        subst gx2
        refine Run_exit (k' := _) rfl ?_
        exact Run_fall [] (by kernel_rfl) ⟨(), rfl, rfl, rfl⟩

set_option maxRecDepth 100000 in
set_option maxHeartbeats 4000000 in
theorem w_spec_l02Square (h : Heap) (a_ : List (List Int)) {Sa_ : Bs} (aa_ : Option Addr) (ca_ : Nat) (ra_ : Rd cd39 h Sa_ aa_ ca_ a_) (n : Nat) (r : Bool) (hF : spec_l02Square a_ n = some r) :
    Fn Try.prog 82 #[.slice aa_ a_.length ca_] h fun v h' => v = .bool r ∧ h' = h := by
  unfold spec_l02Square at hF
  refine Fn_enter (args := [.slice aa_ a_.length ca_]) Try.func82 rfl (by kernel_rfl) (by kernel_rfl) (fun w0 _ => ?_)
  refine Run_seq ?_
  refine Run_reg 1 (by kernel_rfl) (L' := [(0, .slice aa_ a_.length ca_)]) ?_ ?_
  · refine QRun_b [.bool false] 0 _ (by kernel_rfl) (fun w => by kernel_rfl) ?_
    exact QRun_done [0] (by kernel_rfl) (by kernel_rfl)
  refine Run_seq ?_
  obtain ⟨x1, hx1, hF⟩ := M.bind_some hF
  obtain ⟨x2, gx2, hF⟩ := M.bind_some hF
  refine Run_reg 12 (by kernel_rfl) (L' := [(2, .bool x2)]) ?_ ?_
  · refine QRun_b [.slice aa_ a_.length ca_] 0 _ (by kernel_rfl) (fun w => by kernel_rfl) ?_
    refine QRun_y (.bool x1) (by kernel_rfl) (Y_callq (f := 148) (args := #[.slice aa_ a_.length ca_]) (v := .bool x1) (by kernel_rfl) (w_spec_IsMatrix h a_ aa_ ca_ ra_ _ _ hx1)) ?_
    refine QRun_seq 11 [(13, .bool x2)] ?_ ?_
    · rcases Bool.eq_false_or_eq_true x1 with hb1 | hb1
      · refine QRun_bool x1 true (by kernel_rfl) (fun w => by kernel_rfl) hb1 ?_
        have gx2 := (M.ite_some gx2).1 hb1
        obtain ⟨x3, hx2, gx2⟩ := M.bind_some gx2
        obtain ⟨hx2l, hx2u, hx2⟩ := M.idx_some hx2
        obtain ⟨a1, c1, hc1, r1⟩ := ra_.row hx2
        have gx2 := M.ret_some gx2
        refine QRun_b [.slice aa_ a_.length ca_, .int .i64 (a_.length : Int), .slice aa_ a_.length ca_] 3 _ (by kernel_rfl) (fun w => by kernel_rfl) ?_
        refine QRun_y (.pointer (some (adr aa_ (0 * 1)))) (by kernel_rfl) (Y_idx (t := 37) (e := 39) (sz := 1) (a := aa_) (n := a_.length) (cap := ca_) (kk := .i64) (i := 0) (by kernel_rfl) Try.underlying37 (by kernel_rfl) (ra_.cell hx2).1 hx2l hx2u) ?_
        refine QRun_y (.slice a1 x3.length c1) (by kernel_rfl) (Y_load1 (t := 39) (p := adr aa_ (0 * 1)) (v := .slice a1 x3.length c1) (by kernel_rfl) (fun w => by kernel_rfl) hc1) ?_
        refine QRun_b [.int .i64 (x3.length : Int), .bool ((a_.length : Int) == (x3.length : Int))] 8 _ (by kernel_rfl) (fun w => by kernel_rfl) ?_
        refine QRun_bool ((a_.length : Int) == (x3.length : Int)) x2 (by kernel_rfl) (fun w => by kernel_rfl) gx2 ?_
        exact QRun_done [13] (by kernel_rfl) (by kernel_rfl)
      · refine QRun_bool x1 false (by kernel_rfl) (fun w => by kernel_rfl) hb1 ?_
        have gx2 := M.ret_some ((M.ite_some gx2).2 hb1)
        refine QRun_n (by kernel_rfl) ?_
        refine QRun_n (by kernel_rfl) ?_
        refine QRun_n (by kernel_rfl) ?_
        refine QRun_n (by kernel_rfl) ?_
        refine QRun_n (by kernel_rfl) ?_
        refine QRun_n (by kernel_rfl) ?_
        refine QRun_n (by kernel_rfl) ?_
        refine QRun_bool false x2 (by kernel_rfl) (fun w => by kernel_rfl) gx2 ?_
        exact QRun_done [13] (by kernel_rfl) (by kernel_rfl)
    refine QRun_b [.bool x2] 11 _ (by kernel_rfl) (fun w => by kernel_rfl) ?_
    exact QRun_done [2] (by kernel_rfl) (by kernel_rfl)
  have hF := M.ret_some hF
  subst hF
  exact Run_ret1 rfl (ResV_tmp (v := .bool x2) (by kernel_rfl)) ⟨rfl, rfl⟩

set_option maxRecDepth 100000 in
set_option maxHeartbeats 4000000 in
theorem w_spec_l01Times (h : Heap) (a_ : Int) (b : Int) (n : Nat) (r : Int) (hF : spec_l01Times a_ b n = some r) :
    Fn Try.prog 117 #[.int .i64 a_, .int .i64 b] h fun v h' => v = .int .i64 r ∧ h' = h := by
  unfold spec_l01Times at hF
  refine Fn_enter (args := [.int .i64 a_, .int .i64 b]) Try.func117 rfl (by kernel_rfl) (by kernel_rfl) (fun w0 _ => ?_)
  refine Run_seq ?_
  refine Run_reg 1 (by kernel_rfl) (L' := [(0, .int .i64 a_), (1, .int .i64 b)]) ?_ ?_
  · refine QRun_b [.int .i64 0] 0 _ (by kernel_rfl) (fun w => by kernel_rfl) ?_
    exact QRun_done [0, 1] (by kernel_rfl) (by kernel_rfl)
  refine Run_seq ?_
  refine Run_seq ?_
  refine Run_reg 6 (by kernel_rfl) (L' := [(0, .int .i64 a_), (1, .int .i64 b), (10, .bool ((a_ == (-1000000000000000)) || (b == (-1000000000000000))))]) ?_ ?_
  · refine QRun_b [.int .i64 a_, .bool (a_ == (-1000000000000000))] 0 _ (by kernel_rfl) (fun w => by kernel_rfl) ?_
    refine QRun_seq 6 [(0, .int .i64 a_), (1, .int .i64 b), (10, .bool ((a_ == (-1000000000000000)) || (b == (-1000000000000000))))] ?_ ?_
    · rcases Bool.eq_false_or_eq_true (a_ == (-1000000000000000)) with hb1 | hb1
      · refine QRun_bool (a_ == (-1000000000000000)) true (by kernel_rfl) (fun w => by kernel_rfl) hb1 ?_
        refine QRun_n (by kernel_rfl) ?_
        refine QRun_n (by kernel_rfl) ?_
        refine QRun_bool true ((a_ == (-1000000000000000)) || (b == (-1000000000000000))) (by kernel_rfl) (fun w => by kernel_rfl) (by rw [hb1]; rfl) ?_
        exact QRun_done [0, 1, 10] (by kernel_rfl) (by kernel_rfl)
      · refine QRun_bool (a_ == (-1000000000000000)) false (by kernel_rfl) (fun w => by kernel_rfl) hb1 ?_
        refine QRun_b [.int .i64 b, .bool (b == (-1000000000000000))] 3 _ (by kernel_rfl) (fun w => by kernel_rfl) ?_
        refine QRun_bool (b == (-1000000000000000)) ((a_ == (-1000000000000000)) || (b == (-1000000000000000))) (by kernel_rfl) (fun w => by kernel_rfl) (by rw [hb1]; rfl) ?_
        exact QRun_done [0, 1, 10] (by kernel_rfl) (by kernel_rfl)
    exact QRun_done [0, 1, 10] (by kernel_rfl) (by kernel_rfl)
  refine Run_cond (b := (a_ == (-1000000000000000)) || (b == (-1000000000000000))) (by kernel_rfl) (fun hb2 => ?_) (fun hb2 => ?_)
  · have hF := (M.ite_some hF).1 hb2
    refine Run_seq ?_
    refine Run_reg 1 (by kernel_rfl) (L' := [(4, .int .i64 (-1000000000000000))]) ?_ ?_
    · refine QRun_b [.int .i64 (-1000000000000000)] 0 _ (by kernel_rfl) (fun w => by kernel_rfl) ?_
      exact QRun_done [4] (by kernel_rfl) (by kernel_rfl)
    have hF := M.ret_some hF
    subst hF
    exact Run_ret1 rfl (ResV_tmp (v := .int .i64 (-1000000000000000)) (by kernel_rfl)) ⟨rfl, rfl⟩
  · have hF := (M.ite_some hF).2 hb2
    refine Run_skip ?_
    refine Run_seq ?_
    refine Run_reg 4 (by kernel_rfl) (L' := [(4, .int .i64 (w64 (a_ + b)))]) ?_ ?_
    · refine QRun_b [.int .i64 a_, .int .i64 b, .int .i64 (w64 (a_ + b)), .int .i64 (w64 (a_ + b))] 0 _ (by kernel_rfl) (fun w => by kernel_rfl) ?_
      exact QRun_done [4] (by kernel_rfl) (by kernel_rfl)
    have hF := M.ret_some hF
    subst hF
    exact Run_ret1 rfl (ResV_tmp (v := .int .i64 (w64 (a_ + b))) (by kernel_rfl)) ⟨rfl, rfl⟩

set_option maxRecDepth 100000 in
set_option maxHeartbeats 4000000 in
theorem w_spec_l10Best (h : Heap) (a_ : List (List Int)) (aa_ : Option Addr) (ca_ : Nat) (ra_ : Rd cd39 h (Lt h) aa_ ca_ a_) (n : Nat) (r : (List Int) × (List Int)) (hF : spec_l10Best a_ n = some r) :
    Fn Try.prog 133 #[.slice aa_ a_.length ca_] h fun v h' => ∃ (a0 : Option Addr) (c0 : Nat), ∃ (a1 : Option Addr) (c1 : Nat), v = .tuple #[.slice a0 r.1.length c0, .slice a1 r.2.length c1] ∧ Hold h h' [own cd2 a0 r.1.length c0 r.1, own cd2 a1 r.2.length c1 r.2] := by
  unfold spec_l10Best at hF
  refine Fn_enter (args := [.slice aa_ a_.length ca_]) Try.func133 rfl (by kernel_rfl) (by kernel_rfl) (fun w0 _ => ?_)
  have H0 := Hold.init h
  refine Run_seq ?_
  refine Run_reg 2 (by kernel_rfl) (L' := [(0, .slice aa_ a_.length ca_)]) ?_ ?_
  · refine QRun_b [.slice none 0 0, .slice none 0 0] 0 _ (by kernel_rfl) (fun w => by kernel_rfl) ?_
    exact QRun_done [0] (by kernel_rfl) (by kernel_rfl)
  refine Run_seq ?_
  refine Run_reg 3 (by kernel_rfl) (L' := [(0, .slice aa_ a_.length ca_), (4, .int .i64 (a_.length : Int))]) ?_ ?_
  · refine QRun_b [.slice aa_ a_.length ca_, .int .i64 (a_.length : Int), .int .i64 (a_.length : Int)] 0 _ (by kernel_rfl) (fun w => by kernel_rfl) ?_
    exact QRun_done [0, 4] (by kernel_rfl) (by kernel_rfl)
  refine Run_seq ?_
  refine Run_ops ?_
  refine Run_E (by kernel_rfl) ?_
  refine E_lit (C := cd2) (n := 1) (l := ([0] : List Int)) (cs := [.int .i64 0]) H0 (fun w => by kernel_rfl) (Enc.consE (cd2_own 0 _) (Enc.nil _ _) rfl) rfl (by decide) (fun a1 h1 H1 => ?_)
  refine Run_E (by kernel_rfl) ?_
  refine E_lit (C := cd2) (n := 1) (l := ([1] : List Int)) (cs := [.int .i64 1]) H1 (fun w => by kernel_rfl) (Enc.consE (cd2_own 1 _) (Enc.nil _ _) rfl) rfl (by decide) (fun a2 h2 H2 => ?_)
  refine Run_b [.slice a1 1 1, .slice a2 1 1] 2 _ (by kernel_rfl) (fun w => by kernel_rfl) ?_
  refine Run_nil (by kernel_rfl) ?_
  refine Run_keep [0, 4, 5, 6] (L' := [(0, .slice aa_ a_.length ca_), (4, .int .i64 (a_.length : Int)), (5, .slice a1 1 1), (6, .slice a2 1 1)]) (by kernel_rfl) ?_
  refine Run_seq ?_
  refine Run_seq ?_
  refine Run_reg 1 (by kernel_rfl) (L' := [(0, .slice aa_ a_.length ca_), (4, .int .i64 (a_.length : Int)), (5, .slice a1 1 1), (6, .slice a2 1 1), (7, .int .i64 1)]) ?_ ?_
  · refine QRun_b [.int .i64 1] 0 _ (by kernel_rfl) (fun w => by kernel_rfl) ?_
    exact QRun_done [0, 4, 5, 6, 7] (by kernel_rfl) (by kernel_rfl)
  obtain ⟨x1, gx1, hF⟩ := M.bind_some hF
  refine Run_join (fun L' h' => ∃ (a5 : Option Addr) (c3 : Nat) (a6 : Option Addr) (c4 : Nat), L' = [(5, .slice a5 x1.1.length c3), (6, .slice a6 x1.2.1.length c4)] ∧ Hold h h' [own cd2 a5 x1.1.length c3 x1.1, own cd2 a6 x1.2.1.length c4 x1.2.1]) ?_ ?_
  · rintro _ h4 ⟨a5, c3, a6, c4, rfl, H4⟩
    refine Run_seq ?_
    refine Run_reg 4 (by kernel_rfl) (L' := [(2, .slice a5 x1.1.length c3), (3, .slice a6 x1.2.1.length c4)]) ?_ ?_
    · refine QRun_b [.slice a5 x1.1.length c3, .slice a6 x1.2.1.length c4, .slice a5 x1.1.length c3, .slice a6 x1.2.1.length c4] 0 _ (by kernel_rfl) (fun w => by kernel_rfl) ?_
      exact QRun_done [2, 3] (by kernel_rfl) (by kernel_rfl)
    have hF := M.ret_some hF
    subst hF
    have H26 : Hold h h4 [own cd2 a6 x1.2.1.length c4 x1.2.1, own cd2 a5 x1.1.length c3 x1.1] := H4.pick [1, 0] (by kernel_rfl)
    have H27 : Hold h h4 [own cd2 a5 x1.1.length c3 x1.1, own cd2 a6 x1.2.1.length c4 x1.2.1] := H26.pick [1, 0] (by kernel_rfl)
    exact Run_ret2 rfl (ResV_tmp (v := .slice a5 x1.1.length c3) (by kernel_rfl)) (ResV_tmp (v := .slice a6 x1.2.1.length c4) (by kernel_rfl)) ⟨a5, c3, a6, c4, rfl, H27⟩
  · refine Run_block ?_
    have H28 : Hold h h2 [own cd2 a1 1 1 ([0] : List Int), own cd2 a2 1 1 ([1] : List Int)] := H2.pick [1, 0] (by kernel_rfl)
    have hn1 := (H28.len 0 rfl)
    have H29 : Hold h h2 [own cd2 a2 1 1 ([1] : List Int), own cd2 a1 (([0] : List Int).length) 1 ([0] : List Int)] := H28.pick [1, 0] (by kernel_rfl)
    have hn2 := (H29.len 0 rfl)
    have H30 : Hold h h2 [own cd2 a2 (([1] : List Int).length) 1 ([1] : List Int), own cd2 a1 (([0] : List Int).length) 1 ([0] : List Int)] := by rw [hn1, hn2]; exact H29
    have H31 : Hold h h2 [own cd2 a1 (([0] : List Int).length) 1 ([0] : List Int), own cd2 a2 (([1] : List Int).length) 1 ([1] : List Int)] := H30.pick [1, 0] (by kernel_rfl)
    refine Run_keep [0, 4, 5, 6, 7] (L' := [(0, .slice aa_ a_.length ca_), (4, .int .i64 (a_.length : Int)), (5, .slice a1 (([0] : List Int).length) 1), (6, .slice a2 (([1] : List Int).length) 1), (7, .int .i64 1)]) (by first | (rw [hn1, hn2]; kernel_rfl) | (simp only [hn1, hn2]; kernel_rfl) | kernel_rfl) ?_
    refine Run_loop (fun m L' h' => ∃ (s1 : (List Int) × (List Int) × Int) (a3 : Option Addr) (c1 : Nat) (a4 : Option Addr) (c2 : Nat), M.loopN _ n m s1 = some x1 ∧ L' = [(0, .slice aa_ a_.length ca_), (4, .int .i64 (a_.length : Int)), (5, .slice a3 s1.1.length c1), (6, .slice a4 s1.2.1.length c2), (7, .int .i64 s1.2.2)] ∧ Hold h h' [own cd2 a3 s1.1.length c1 s1.1, own cd2 a4 s1.2.1.length c2 s1.2.1]) n ⟨(([0] : List Int), ([1] : List Int), 1), a1, 1, a2, 1, gx1, rfl, H31⟩ ?_
    rintro my1 _ h3 ⟨s1, a3, c1, a4, c2, gx1, rfl, H3⟩
    obtain ⟨my1, y1, rfl, hB1, hgoy1, houty1⟩ := M.loop_some gx1
    refine Run_seq ?_
    refine Run_seq ?_
    obtain ⟨u1, hz1, hB1⟩ := M.bind_some hB1
    have hz1 := M.guard_some hz1
    refine Run_reg 5 (by kernel_rfl) (L' := [(0, .slice aa_ a_.length ca_), (4, .int .i64 (a_.length : Int)), (5, .slice a3 s1.1.length c1), (6, .slice a4 s1.2.1.length c2), (7, .int .i64 s1.2.2), (24, .bool (decide (s1.2.2 < (ishl .i64 1 (IntKind.u64.wrap ((a_.length : Int)))))))]) ?_ ?_
    · refine QRun_b [.int .i64 s1.2.2, .int .i64 (a_.length : Int), .int .u64 (IntKind.u64.wrap ((a_.length : Int)))] 0 _ (by kernel_rfl) (fun w => by kernel_rfl) ?_
      refine QRun_y (.int .i64 (ishl .i64 1 (IntKind.u64.wrap ((a_.length : Int))))) (by kernel_rfl) (Y_shl (k := .i64) (x := 1) (kk := .u64) (y := IntKind.u64.wrap ((a_.length : Int))) (by kernel_rfl) hz1) ?_
      refine QRun_b [.bool (decide (s1.2.2 < (ishl .i64 1 (IntKind.u64.wrap ((a_.length : Int))))))] 4 _ (by kernel_rfl) (fun w => by kernel_rfl) ?_
      exact QRun_done [0, 4, 5, 6, 7, 24] (by kernel_rfl) (by kernel_rfl)
    refine Run_cond (b := decide (s1.2.2 < (ishl .i64 1 (IntKind.u64.wrap ((a_.length : Int)))))) (by kernel_rfl) (fun hb1 => ?_) (fun hb1 => ?_)
    · have hB1 := (M.ite_some hB1).1 hb1
      refine Run_skip ?_
      refine Run_seq ?_
      refine Run_block ?_
      refine Run_seq ?_
      refine Run_reg 1 (by kernel_rfl) (L' := [(0, .slice aa_ a_.length ca_), (4, .int .i64 (a_.length : Int)), (5, .slice a3 s1.1.length c1), (6, .slice a4 s1.2.1.length c2), (7, .int .i64 s1.2.2), (8, .int .i64 0)]) ?_ ?_
      · refine QRun_b [.int .i64 0] 0 _ (by kernel_rfl) (fun w => by kernel_rfl) ?_
        exact QRun_done [0, 4, 5, 6, 7, 8] (by kernel_rfl) (by kernel_rfl)
      refine Run_seq ?_
      refine Run_seq ?_
      refine Run_reg 1 (by kernel_rfl) (L' := [(0, .slice aa_ a_.length ca_), (4, .int .i64 (a_.length : Int)), (5, .slice a3 s1.1.length c1), (6, .slice a4 s1.2.1.length c2), (7, .int .i64 s1.2.2), (8, .int .i64 0), (9, .int .i64 0)]) ?_ ?_
      · refine QRun_b [.int .i64 0] 0 _ (by kernel_rfl) (fun w => by kernel_rfl) ?_
        exact QRun_done [0, 4, 5, 6, 7, 8, 9] (by kernel_rfl) (by kernel_rfl)
      obtain ⟨x2, gx2, hB1⟩ := M.bind_some hB1
      obtain ⟨hloy2, hhiy2, gx2⟩ := M.for_start gx2
      refine Run_join (fun L' h' => L' = [(0, .slice aa_ a_.length ca_), (4, .int .i64 (a_.length : Int)), (5, .slice a3 s1.1.length c1), (6, .slice a4 s1.2.1.length c2), (7, .int .i64 s1.2.2), (8, .int .i64 x2)] ∧ Hold h h' [own cd2 a3 s1.1.length c1 s1.1, own cd2 a4 s1.2.1.length c2 s1.2.1]) ?_ ?_
      · rintro _ h6 ⟨rfl, H6⟩
        refine Run_seq ?_
        refine Run_reg 6 (by kernel_rfl) (L' := [(0, .slice aa_ a_.length ca_), (4, .int .i64 (a_.length : Int)), (5, .slice a3 s1.1.length c1), (6, .slice a4 s1.2.1.length c2), (7, .int .i64 s1.2.2), (10, .int .i64 (w64 ((a_.length : Int) - x2))), (11, .int .i64 (-1000000000000000)), (12, .int .i64 0)]) ?_ ?_
        · refine QRun_b [.int .i64 (a_.length : Int), .int .i64 x2, .int .i64 (w64 ((a_.length : Int) - x2)), .int .i64 (w64 ((a_.length : Int) - x2)), .int .i64 (-1000000000000000), .int .i64 0] 0 _ (by kernel_rfl) (fun w => by kernel_rfl) ?_
          exact QRun_done [0, 4, 5, 6, 7, 10, 11, 12] (by kernel_rfl) (by kernel_rfl)
        refine Run_seq ?_
        refine Run_seq ?_
        refine Run_reg 1 (by kernel_rfl) (L' := [(0, .slice aa_ a_.length ca_), (4, .int .i64 (a_.length : Int)), (5, .slice a3 s1.1.length c1), (6, .slice a4 s1.2.1.length c2), (7, .int .i64 s1.2.2), (10, .int .i64 (w64 ((a_.length : Int) - x2))), (11, .int .i64 (-1000000000000000)), (12, .int .i64 0), (13, .int .i64 0)]) ?_ ?_
        · refine QRun_b [.int .i64 0] 0 _ (by kernel_rfl) (fun w => by kernel_rfl) ?_
          exact QRun_done [0, 4, 5, 6, 7, 10, 11, 12, 13] (by kernel_rfl) (by kernel_rfl)
        obtain ⟨x3, gx3, hB1⟩ := M.bind_some hB1
        obtain ⟨hloy3, hhiy3, gx3⟩ := M.for_start gx3
        refine Run_join (fun L' h' => L' = [(0, .slice aa_ a_.length ca_), (4, .int .i64 (a_.length : Int)), (5, .slice a3 s1.1.length c1), (6, .slice a4 s1.2.1.length c2), (7, .int .i64 s1.2.2), (11, .int .i64 x3.1), (12, .int .i64 x3.2)] ∧ Hold h h' [own cd2 a3 s1.1.length c1 s1.1, own cd2 a4 s1.2.1.length c2 s1.2.1]) ?_ ?_
        · rintro _ h8 ⟨rfl, H8⟩
          refine Run_seq ?_
          refine Run_ops ?_
          refine Run_b [.slice a3 s1.1.length c1, .int .i64 x3.1] 0 _ (by kernel_rfl) (fun w => by kernel_rfl) ?_
          refine Run_E (by kernel_rfl) ?_
          refine E_lit (C := cd2) (n := 1) (l := ([x3.1] : List Int)) (cs := [.int .i64 x3.1]) H8 (fun w => by kernel_rfl) (Enc.consE (cd2_own x3.1 _) (Enc.nil _ _) rfl) rfl (by decide) (fun a8 h11 H11 => ?_)
          obtain ⟨l1, hl1, hB1⟩ := M.bind_some hB1
          have hl1 := M.app_some hl1
          have H12 : Hold h h11 [own cd2 a3 s1.1.length c1 s1.1, own cd2 a8 1 1 ([x3.1] : List Int), own cd2 a4 s1.2.1.length c2 s1.2.1] := H11.pick [1, 0, 2] (by kernel_rfl)
          have H13 : Hold h h11 [own cd2 a8 1 1 ([x3.1] : List Int), own cd2 a3 s1.1.length c1 s1.1, own cd2 a4 s1.2.1.length c2 s1.2.1] := H12.pick [1, 0, 2] (by kernel_rfl)
          have H14 : Hold h h11 [own cd2 a3 s1.1.length c1 s1.1, own cd2 a8 1 1 ([x3.1] : List Int), own cd2 a4 s1.2.1.length c2 s1.2.1] := H13.pick [1, 0, 2] (by kernel_rfl)
          refine Run_E (by kernel_rfl) ?_
          refine E_app (C := cd2) (t := 39) (ty := 39) (n := s1.1.length) (m := 1) H14 cd2_ti rfl Try.underlying39 (by decide) (by kernel_rfl) hl1 (fun a9 c6 h12 H15 => ?_)
          refine Run_b [.slice a9 l1.length c6] 4 _ (by kernel_rfl) (fun w => by kernel_rfl) ?_
          refine Run_nil (by kernel_rfl) ?_
          refine Run_keep [0, 4, 5, 6, 7, 12] (L' := [(0, .slice aa_ a_.length ca_), (4, .int .i64 (a_.length : Int)), (5, .slice a9 l1.length c6), (6, .slice a4 s1.2.1.length c2), (7, .int .i64 s1.2.2), (12, .int .i64 x3.2)]) (by kernel_rfl) ?_
          refine Run_ops ?_
          refine Run_b [.slice a4 s1.2.1.length c2, .int .i64 x3.2] 0 _ (by kernel_rfl) (fun w => by kernel_rfl) ?_
          refine Run_E (by kernel_rfl) ?_
          refine E_lit (C := cd2) (n := 1) (l := ([x3.2] : List Int)) (cs := [.int .i64 x3.2]) H15 (fun w => by kernel_rfl) (Enc.consE (cd2_own x3.2 _) (Enc.nil _ _) rfl) rfl (by decide) (fun a10 h13 H16 => ?_)
          obtain ⟨l2, hl2, hB1⟩ := M.bind_some hB1
          have hl2 := M.app_some hl2
          have H17 : Hold h h13 [own cd2 a4 s1.2.1.length c2 s1.2.1, own cd2 a10 1 1 ([x3.2] : List Int), own cd2 a9 l1.length c6 l1] := H16.pick [2, 0, 1] (by kernel_rfl)
          have H18 : Hold h h13 [own cd2 a10 1 1 ([x3.2] : List Int), own cd2 a4 s1.2.1.length c2 s1.2.1, own cd2 a9 l1.length c6 l1] := H17.pick [1, 0, 2] (by kernel_rfl)
          have H19 : Hold h h13 [own cd2 a4 s1.2.1.length c2 s1.2.1, own cd2 a10 1 1 ([x3.2] : List Int), own cd2 a9 l1.length c6 l1] := H18.pick [1, 0, 2] (by kernel_rfl)
          refine Run_E (by kernel_rfl) ?_
          refine E_app (C := cd2) (t := 39) (ty := 39) (n := s1.2.1.length) (m := 1) H19 cd2_ti rfl Try.underlying39 (by decide) (by kernel_rfl) hl2 (fun a11 c7 h14 H20 => ?_)
          refine Run_b [.slice a11 l2.length c7] 4 _ (by kernel_rfl) (fun w => by kernel_rfl) ?_
          refine Run_nil (by kernel_rfl) ?_
          refine Run_keep [0, 4, 5, 6, 7] (L' := [(0, .slice aa_ a_.length ca_), (4, .int .i64 (a_.length : Int)), (5, .slice a9 l1.length c6), (6, .slice a11 l2.length c7), (7, .int .i64 s1.2.2)]) (by kernel_rfl) ?_
          refine Run_blk ?_
          refine Run_reg 3 (by kernel_rfl) (L' := [(0, .slice aa_ a_.length ca_), (4, .int .i64 (a_.length : Int)), (5, .slice a9 l1.length c6), (6, .slice a11 l2.length c7), (7, .int .i64 (w64 (s1.2.2 + 1)))]) ?_ ?_
          · refine QRun_b [.int .i64 s1.2.2, .int .i64 (w64 (s1.2.2 + 1)), .int .i64 (w64 (s1.2.2 + 1))] 0 _ (by kernel_rfl) (fun w => by kernel_rfl) ?_
            exact QRun_done [0, 4, 5, 6, 7] (by kernel_rfl) (by kernel_rfl)
          have H21 : Hold h h14 [own cd2 a9 l1.length c6 l1, own cd2 a11 l2.length c7 l2] := H20.pick [1, 0] (by kernel_rfl)
          have H22 : Hold h h14 [own cd2 a11 l2.length c7 l2, own cd2 a9 l1.length c6 l1] := H21.pick [1, 0] (by kernel_rfl)
          have H23 : Hold h h14 [own cd2 a9 l1.length c6 l1, own cd2 a11 l2.length c7 l2] := H22.pick [1, 0] (by kernel_rfl)
          have hB1 := M.ret_some hB1
          have gx1 := hgoy1 _ hB1.symm
          exact Run_again [0, 4, 5, 6, 7] (by kernel_rfl) my1 (Nat.lt_succ_self _) ⟨(l1, l2, (w64 (s1.2.2 + 1))), a9, c6, a11, c7, gx1, rfl, H23⟩
        · refine Run_block ?_
          refine Run_keep [0, 4, 5, 6, 7, 10, 11, 12, 13] (L' := [(0, .slice aa_ a_.length ca_), (4, .int .i64 (a_.length : Int)), (5, .slice a3 s1.1.length c1), (6, .slice a4 s1.2.1.length c2), (7, .int .i64 s1.2.2), (10, .int .i64 (w64 ((a_.length : Int) - x2))), (11, .int .i64 (-1000000000000000)), (12, .int .i64 0), (13, .int .i64 0)]) (by kernel_rfl) ?_
          refine Run_loop (fun m L' h' => ∃ (i2 : Int) (s3 : Int × Int), 0 ≤ i2 ∧ M.forN (a_.length : Int) _ _ n m i2 s3 = some x3 ∧ L' = [(0, .slice aa_ a_.length ca_), (4, .int .i64 (a_.length : Int)), (5, .slice a3 s1.1.length c1), (6, .slice a4 s1.2.1.length c2), (7, .int .i64 s1.2.2), (10, .int .i64 (w64 ((a_.length : Int) - x2))), (11, .int .i64 s3.1), (12, .int .i64 s3.2), (13, .int .i64 i2)] ∧ Hold h h' [own cd2 a3 s1.1.length c1 s1.1, own cd2 a4 s1.2.1.length c2 s1.2.1]) ((a_.length : Int) - 0 : Int).toNat ⟨0, ((-1000000000000000), 0), Int.le_refl _, gx3, rfl, H6⟩ ?_
          rintro my3 _ h7 ⟨i2, s3, hloy3', gx3, rfl, H7⟩
          refine Run_seq ?_
          refine Run_seq ?_
          refine Run_reg 3 (by kernel_rfl) (L' := [(0, .slice aa_ a_.length ca_), (4, .int .i64 (a_.length : Int)), (5, .slice a3 s1.1.length c1), (6, .slice a4 s1.2.1.length c2), (7, .int .i64 s1.2.2), (10, .int .i64 (w64 ((a_.length : Int) - x2))), (11, .int .i64 s3.1), (12, .int .i64 s3.2), (13, .int .i64 i2), (44, .bool (decide (i2 < (a_.length : Int))))]) ?_ ?_
          · refine QRun_b [.int .i64 i2, .int .i64 (a_.length : Int), .bool (decide (i2 < (a_.length : Int)))] 0 _ (by kernel_rfl) (fun w => by kernel_rfl) ?_
            exact QRun_done [0, 4, 5, 6, 7, 10, 11, 12, 13, 44] (by kernel_rfl) (by kernel_rfl)
          refine Run_cond (b := decide (i2 < (a_.length : Int))) (by kernel_rfl) (fun hb3 => ?_) (fun hb3 => ?_)
          · obtain ⟨my3, y3, rfl, hB3, hgoy3, houty3⟩ := M.for_go gx3 hb3
            have hlty3 := of_decide_eq_true hb3
            refine Run_skip ?_
            refine Run_seq ?_
            obtain ⟨s4, gs4, hB3⟩ := M.bind_some hB3
            refine Run_join (fun L' h' => L' = [(0, .slice aa_ a_.length ca_), (4, .int .i64 (a_.length : Int)), (5, .slice a3 s1.1.length c1), (6, .slice a4 s1.2.1.length c2), (7, .int .i64 s1.2.2), (10, .int .i64 (w64 ((a_.length : Int) - x2))), (11, .int .i64 s4.1), (12, .int .i64 s4.2), (13, .int .i64 i2)] ∧ Hold h h' [own cd2 a3 s1.1.length c1 s1.1, own cd2 a4 s1.2.1.length c2 s1.2.1]) ?_ ?_
            · rintro _ h10 ⟨rfl, H10⟩
              refine Run_reg 3 (by kernel_rfl) (L' := [(0, .slice aa_ a_.length ca_), (4, .int .i64 (a_.length : Int)), (5, .slice a3 s1.1.length c1), (6, .slice a4 s1.2.1.length c2), (7, .int .i64 s1.2.2), (10, .int .i64 (w64 ((a_.length : Int) - x2))), (11, .int .i64 s4.1), (12, .int .i64 s4.2), (13, .int .i64 (i2 + 1))]) ?_ ?_
              · refine QRun_b [.int .i64 i2] 0 _ (by kernel_rfl) (fun w => by kernel_rfl) ?_
                refine QRun_y (.int .i64 (i2 + 1)) (by kernel_rfl) (Y_eq (v := .int .i64 (w64 (i2 + 1))) (Y_pure (fun w => by kernel_rfl)) (by rw [w64_eq _ (by omega)])) ?_
                refine QRun_b [.int .i64 (i2 + 1)] 2 _ (by kernel_rfl) (fun w => by kernel_rfl) ?_
                exact QRun_done [0, 4, 5, 6, 7, 10, 11, 12, 13] (by kernel_rfl) (by kernel_rfl)
              have hB3 := M.ret_some hB3
              have gx3 := hgoy3 _ hB3.symm
              exact Run_again [0, 4, 5, 6, 7, 10, 11, 12, 13] (by kernel_rfl) my3 (Nat.lt_succ_self _) ⟨i2 + 1, (s4.1, s4.2), by omega, gx3, rfl, H10⟩
            · refine Run_block ?_
              refine Run_seq ?_
              refine Run_seq ?_
              obtain ⟨u3, hz3, gs4⟩ := M.bind_some gs4
              have hz3 := M.guard_some hz3
              refine Run_reg 6 (by kernel_rfl) (L' := [(0, .slice aa_ a_.length ca_), (4, .int .i64 (a_.length : Int)), (5, .slice a3 s1.1.length c1), (6, .slice a4 s1.2.1.length c2), (7, .int .i64 s1.2.2), (10, .int .i64 (w64 ((a_.length : Int) - x2))), (11, .int .i64 s3.1), (12, .int .i64 s3.2), (13, .int .i64 i2), (52, .bool ((ibit .and .i64 (ishr .i64 s1.2.2 (IntKind.u64.wrap (i2))) 1) == 0))]) ?_ ?_
              · refine QRun_b [.int .i64 s1.2.2, .int .i64 i2, .int .u64 (IntKind.u64.wrap (i2))] 0 _ (by kernel_rfl) (fun w => by kernel_rfl) ?_
                refine QRun_y (.int .i64 (ishr .i64 s1.2.2 (IntKind.u64.wrap (i2)))) (by kernel_rfl) (Y_shr (k := .i64) (x := s1.2.2) (kk := .u64) (y := IntKind.u64.wrap (i2)) (by kernel_rfl) hz3) ?_
                refine QRun_b [.int .i64 (ibit .and .i64 (ishr .i64 s1.2.2 (IntKind.u64.wrap (i2))) 1), .bool ((ibit .and .i64 (ishr .i64 s1.2.2 (IntKind.u64.wrap (i2))) 1) == 0)] 4 _ (by kernel_rfl) (fun w => by kernel_rfl) ?_
                exact QRun_done [0, 4, 5, 6, 7, 10, 11, 12, 13, 52] (by kernel_rfl) (by kernel_rfl)
              refine Run_cond (b := (ibit .and .i64 (ishr .i64 s1.2.2 (IntKind.u64.wrap (i2))) 1) == 0) (by kernel_rfl) (fun hb4 => ?_) (fun hb4 => ?_)
              · have gs4 := (M.ite_some gs4).1 hb4
                refine Run_exit (k' := _) rfl ?_
                have gs4 := M.ret_some gs4
                subst gs4
                exact Run_fall [0, 4, 5, 6, 7, 10, 11, 12, 13] (by kernel_rfl) ⟨rfl, H7⟩
              · have gs4 := (M.ite_some gs4).2 hb4
                refine Run_skip ?_
                refine Run_seq ?_
                obtain ⟨u4, hz4, gs4⟩ := M.bind_some gs4
                have hz4 := M.guard_some hz4
                refine Run_reg 6 (by kernel_rfl) (L' := [(0, .slice aa_ a_.length ca_), (4, .int .i64 (a_.length : Int)), (5, .slice a3 s1.1.length c1), (6, .slice a4 s1.2.1.length c2), (7, .int .i64 s1.2.2), (10, .int .i64 (w64 ((a_.length : Int) - x2))), (11, .int .i64 s3.1), (12, .int .i64 s3.2), (13, .int .i64 i2), (14, .int .i64 (w64 (s1.2.2 - (ishl .i64 1 (IntKind.u64.wrap (i2))))))]) ?_ ?_
                · refine QRun_b [.int .i64 s1.2.2, .int .i64 i2, .int .u64 (IntKind.u64.wrap (i2))] 0 _ (by kernel_rfl) (fun w => by kernel_rfl) ?_
                  refine QRun_y (.int .i64 (ishl .i64 1 (IntKind.u64.wrap (i2)))) (by kernel_rfl) (Y_shl (k := .i64) (x := 1) (kk := .u64) (y := IntKind.u64.wrap (i2)) (by kernel_rfl) hz4) ?_
                  refine QRun_b [.int .i64 (w64 (s1.2.2 - (ishl .i64 1 (IntKind.u64.wrap (i2))))), .int .i64 (w64 (s1.2.2 - (ishl .i64 1 (IntKind.u64.wrap (i2)))))] 4 _ (by kernel_rfl) (fun w => by kernel_rfl) ?_
                  exact QRun_done [0, 4, 5, 6, 7, 10, 11, 12, 13, 14] (by kernel_rfl) (by kernel_rfl)
                refine Run_seq ?_
                obtain ⟨x4, hx1, gs4⟩ := M.bind_some gs4
                obtain ⟨hx1l, hx1u, hx1⟩ := M.idx_some hx1
                obtain ⟨a7, c5, hc1, r1⟩ := ra_.row hx1
                obtain ⟨x5, hx2, gs4⟩ := M.bind_some gs4
                obtain ⟨hx2l, hx2u, hx2⟩ := M.idx_some hx2
                obtain ⟨x6, hx3, gs4⟩ := M.bind_some gs4
                obtain ⟨hx3l, hx3u, hx3⟩ := M.idx_some hx3
                obtain ⟨x7, hx4, gs4⟩ := M.bind_some gs4
                refine Run_draw 13 mixed (by kernel_rfl) (by kernel_rfl) (L' := [(0, .slice aa_ a_.length ca_), (4, .int .i64 (a_.length : Int)), (5, .slice a3 s1.1.length c1), (6, .slice a4 s1.2.1.length c2), (7, .int .i64 s1.2.2), (10, .int .i64 (w64 ((a_.length : Int) - x2))), (11, .int .i64 s3.1), (12, .int .i64 s3.2), (13, .int .i64 i2), (14, .int .i64 (w64 (s1.2.2 - (ishl .i64 1 (IntKind.u64.wrap (i2)))))), (15, .int .i64 x7)]) ?_ ?_
                · refine QRun_b [.slice aa_ a_.length ca_, .int .i64 (w64 ((a_.length : Int) - x2))] 0 _ (by kernel_rfl) (fun w => by kernel_rfl) ?_
                  refine QRun_y (.pointer (some (adr aa_ ((w64 ((a_.length : Int) - x2)).toNat * 1)))) (by kernel_rfl) (Y_idx (t := 37) (e := 39) (sz := 1) (a := aa_) (n := a_.length) (cap := ca_) (kk := .i64) (i := w64 ((a_.length : Int) - x2)) (by kernel_rfl) Try.underlying37 (by kernel_rfl) ((ra_.at H7.ext).cell hx1).1 hx1l hx1u) ?_
                  refine QRun_y (.slice a7 x4.length c5) (by kernel_rfl) (Y_load1 (t := 39) (p := adr aa_ ((w64 ((a_.length : Int) - x2)).toNat * 1)) (v := .slice a7 x4.length c5) (by kernel_rfl) (fun w => by kernel_rfl) (cell_at H7.ext hc1)) ?_
                  refine QRun_b [.int .i64 i2] 4 _ (by kernel_rfl) (fun w => by kernel_rfl) ?_
                  refine QRun_y (.pointer (some (adr a7 (i2.toNat * 1)))) (by kernel_rfl) (Y_idx (t := 39) (e := 2) (sz := 1) (a := a7) (n := x4.length) (cap := c5) (kk := .i64) (i := i2) (by kernel_rfl) Try.underlying39 (by kernel_rfl) ((r1.at H7.ext).cell hx2).1 hx2l hx2u) ?_
                  refine QRun_y (.int .i64 x5) (by kernel_rfl) (Y_load1 (t := 2) (p := adr a7 (i2.toNat * 1)) (v := .int .i64 x5) (by kernel_rfl) (fun w => by kernel_rfl) (cd2_cell (r1.at H7.ext) hx2)) ?_
                  refine QRun_b [.slice a3 s1.1.length c1, .int .i64 (w64 (s1.2.2 - (ishl .i64 1 (IntKind.u64.wrap (i2)))))] 7 _ (by kernel_rfl) (fun w => by kernel_rfl) ?_
                  refine QRun_y (.pointer (some (adr a3 ((w64 (s1.2.2 - (ishl .i64 1 (IntKind.u64.wrap (i2))))).toNat * 1)))) (by kernel_rfl) (Y_idx (t := 39) (e := 2) (sz := 1) (a := a3) (n := s1.1.length) (cap := c1) (kk := .i64) (i := w64 (s1.2.2 - (ishl .i64 1 (IntKind.u64.wrap (i2))))) (by kernel_rfl) Try.underlying39 (by kernel_rfl) ((H7.rd 0 rfl).cell hx3).1 hx3l hx3u) ?_
                  refine QRun_y (.int .i64 x6) (by kernel_rfl) (Y_load1 (t := 2) (p := adr a3 ((w64 (s1.2.2 - (ishl .i64 1 (IntKind.u64.wrap (i2))))).toNat * 1)) (v := .int .i64 x6) (by kernel_rfl) (fun w => by kernel_rfl) (cd2_cell (H7.rd 0 rfl) hx3)) ?_
                  refine QRun_y (.int .i64 x7) (by kernel_rfl) (Y_callq (f := 117) (args := #[.int .i64 x5, .int .i64 x6]) (v := .int .i64 x7) (by kernel_rfl) (w_spec_l01Times h7 x5 x6 _ _ hx4)) ?_
                  refine QRun_b [.int .i64 x7] 12 _ (by kernel_rfl) (fun w => by kernel_rfl) ?_
                  exact QRun_done [0, 4, 5, 6, 7, 10, 11, 12, 13, 14, 15] (by kernel_rfl) (by kernel_rfl)
                refine Run_block ?_
                refine Run_seq ?_
                refine Run_reg 3 (by kernel_rfl) (L' := [(0, .slice aa_ a_.length ca_), (4, .int .i64 (a_.length : Int)), (5, .slice a3 s1.1.length c1), (6, .slice a4 s1.2.1.length c2), (7, .int .i64 s1.2.2), (10, .int .i64 (w64 ((a_.length : Int) - x2))), (11, .int .i64 s3.1), (12, .int .i64 s3.2), (13, .int .i64 i2), (14, .int .i64 (w64 (s1.2.2 - (ishl .i64 1 (IntKind.u64.wrap (i2)))))), (15, .int .i64 x7), (70, .bool (x7 == (-1000000000000000)))]) ?_ ?_
                · refine QRun_b [.int .i64 x7, .bool (x7 == (-1000000000000000)), .bool (x7 == (-1000000000000000))] 0 _ (by kernel_rfl) (fun w => by kernel_rfl) ?_
                  exact QRun_done [0, 4, 5, 6, 7, 10, 11, 12, 13, 14, 15, 70] (by kernel_rfl) (by kernel_rfl)
                refine Run_cond (b := x7 == (-1000000000000000)) (by kernel_rfl) (fun hb5 => ?_) (fun hb5 => ?_)
                · have gs4 := (M.ite_some gs4).1 hb5
                  refine Run_exit (k' := _) rfl ?_
                  have gs4 := M.ret_some gs4
                  subst gs4
                  exact Run_fall [0, 4, 5, 6, 7, 10, 11, 12, 13] (by kernel_rfl) ⟨rfl, H7⟩
                · have gs4 := (M.ite_some gs4).2 hb5
                  refine Run_seq ?_
                  refine Run_reg 4 (by kernel_rfl) (L' := [(0, .slice aa_ a_.length ca_), (4, .int .i64 (a_.length : Int)), (5, .slice a3 s1.1.length c1), (6, .slice a4 s1.2.1.length c2), (7, .int .i64 s1.2.2), (10, .int .i64 (w64 ((a_.length : Int) - x2))), (11, .int .i64 s3.1), (12, .int .i64 s3.2), (13, .int .i64 i2), (14, .int .i64 (w64 (s1.2.2 - (ishl .i64 1 (IntKind.u64.wrap (i2)))))), (15, .int .i64 x7), (73, .bool (decide (s3.1 < x7)))]) ?_ ?_
                  · refine QRun_b [.int .i64 x7, .int .i64 s3.1, .bool (decide (s3.1 < x7)), .bool (decide (s3.1 < x7))] 0 _ (by kernel_rfl) (fun w => by kernel_rfl) ?_
                    exact QRun_done [0, 4, 5, 6, 7, 10, 11, 12, 13, 14, 15, 73] (by kernel_rfl) (by kernel_rfl)
                  obtain ⟨s5, gs5, gs4⟩ := M.bind_some gs4
                  refine Run_join (fun L' h' => L' = [(0, .slice aa_ a_.length ca_), (4, .int .i64 (a_.length : Int)), (5, .slice a3 s1.1.length c1), (6, .slice a4 s1.2.1.length c2), (7, .int .i64 s1.2.2), (10, .int .i64 (w64 ((a_.length : Int) - x2))), (11, .int .i64 s5.1), (12, .int .i64 s5.2), (13, .int .i64 i2)] ∧ Hold h h' [own cd2 a3 s1.1.length c1 s1.1, own cd2 a4 s1.2.1.length c2 s1.2.1]) ?_ ?_
                  · rintro _ h9 ⟨rfl, H9⟩
                    refine Run_blk ?_
                    refine Run_blk ?_
                    have gs4 := M.ret_some gs4
                    subst gs4
                    exact Run_fall [0, 4, 5, 6, 7, 10, 11, 12, 13] (by kernel_rfl) ⟨rfl, H9⟩
                  · refine Run_cond (b := decide (s3.1 < x7)) (by kernel_rfl) (fun hb6 => ?_) (fun hb6 => ?_)
                    · have gs5 := (M.ite_some gs5).1 hb6
                      refine Run_seq ?_
                      refine Run_reg 2 (by kernel_rfl) (L' := [(0, .slice aa_ a_.length ca_), (4, .int .i64 (a_.length : Int)), (5, .slice a3 s1.1.length c1), (6, .slice a4 s1.2.1.length c2), (7, .int .i64 s1.2.2), (10, .int .i64 (w64 ((a_.length : Int) - x2))), (11, .int .i64 x7), (13, .int .i64 i2), (14, .int .i64 (w64 (s1.2.2 - (ishl .i64 1 (IntKind.u64.wrap (i2))))))]) ?_ ?_
                      · refine QRun_b [.int .i64 x7, .int .i64 x7] 0 _ (by kernel_rfl) (fun w => by kernel_rfl) ?_
                        exact QRun_done [0, 4, 5, 6, 7, 10, 11, 13, 14] (by kernel_rfl) (by kernel_rfl)
                      obtain ⟨x8, hx5, gs5⟩ := M.bind_some gs5
                      obtain ⟨hx5l, hx5u, hx5⟩ := M.idx_some hx5
                      refine Run_reg 5 (by kernel_rfl) (L' := [(0, .slice aa_ a_.length ca_), (4, .int .i64 (a_.length : Int)), (5, .slice a3 s1.1.length c1), (6, .slice a4 s1.2.1.length c2), (7, .int .i64 s1.2.2), (10, .int .i64 (w64 ((a_.length : Int) - x2))), (11, .int .i64 x7), (12, .int .i64 x8), (13, .int .i64 i2)]) ?_ ?_
                      · refine QRun_b [.slice a4 s1.2.1.length c2, .int .i64 (w64 (s1.2.2 - (ishl .i64 1 (IntKind.u64.wrap (i2)))))] 0 _ (by kernel_rfl) (fun w => by kernel_rfl) ?_
                        refine QRun_y (.pointer (some (adr a4 ((w64 (s1.2.2 - (ishl .i64 1 (IntKind.u64.wrap (i2))))).toNat * 1)))) (by kernel_rfl) (Y_idx (t := 39) (e := 2) (sz := 1) (a := a4) (n := s1.2.1.length) (cap := c2) (kk := .i64) (i := w64 (s1.2.2 - (ishl .i64 1 (IntKind.u64.wrap (i2))))) (by kernel_rfl) Try.underlying39 (by kernel_rfl) ((H7.rd 1 rfl).cell hx5).1 hx5l hx5u) ?_
                        refine QRun_y (.int .i64 x8) (by kernel_rfl) (Y_load1 (t := 2) (p := adr a4 ((w64 (s1.2.2 - (ishl .i64 1 (IntKind.u64.wrap (i2))))).toNat * 1)) (v := .int .i64 x8) (by kernel_rfl) (fun w => by kernel_rfl) (cd2_cell (H7.rd 1 rfl) hx5)) ?_
                        refine QRun_b [.int .i64 x8] 4 _ (by kernel_rfl) (fun w => by kernel_rfl) ?_
                        exact QRun_done [0, 4, 5, 6, 7, 10, 11, 12, 13] (by kernel_rfl) (by kernel_rfl)
                      have gs5 := M.ret_some gs5
                      subst gs5
                      exact Run_fall [0, 4, 5, 6, 7, 10, 11, 12, 13] (by kernel_rfl) ⟨rfl, H7⟩
                    · have gs5 := (M.ite_some gs5).2 hb6
                      refine Run_seq ?_
                      refine Run_reg 4 (by kernel_rfl) (L' := [(0, .slice aa_ a_.length ca_), (4, .int .i64 (a_.length : Int)), (5, .slice a3 s1.1.length c1), (6, .slice a4 s1.2.1.length c2), (7, .int .i64 s1.2.2), (10, .int .i64 (w64 ((a_.length : Int) - x2))), (11, .int .i64 s3.1), (12, .int .i64 s3.2), (13, .int .i64 i2), (14, .int .i64 (w64 (s1.2.2 - (ishl .i64 1 (IntKind.u64.wrap (i2)))))), (82, .bool (x7 == s3.1))]) ?_ ?_
                      · refine QRun_b [.int .i64 x7, .int .i64 s3.1, .bool (x7 == s3.1), .bool (x7 == s3.1)] 0 _ (by kernel_rfl) (fun w => by kernel_rfl) ?_
                        exact QRun_done [0, 4, 5, 6, 7, 10, 11, 12, 13, 14, 82] (by kernel_rfl) (by kernel_rfl)
                      refine Run_cond (b := x7 == s3.1) (by kernel_rfl) (fun hb7 => ?_) (fun hb7 => ?_)
                      · have gs5 := (M.ite_some gs5).1 hb7
                        obtain ⟨x9, hx6, gs5⟩ := M.bind_some gs5
                        obtain ⟨hx6l, hx6u, hx6⟩ := M.idx_some hx6
                        refine Run_reg 7 (by kernel_rfl) (L' := [(0, .slice aa_ a_.length ca_), (4, .int .i64 (a_.length : Int)), (5, .slice a3 s1.1.length c1), (6, .slice a4 s1.2.1.length c2), (7, .int .i64 s1.2.2), (10, .int .i64 (w64 ((a_.length : Int) - x2))), (11, .int .i64 s3.1), (12, .int .i64 (w64 (s3.2 + x9))), (13, .int .i64 i2)]) ?_ ?_
                        · refine QRun_b [.int .i64 s3.2, .slice a4 s1.2.1.length c2, .int .i64 (w64 (s1.2.2 - (ishl .i64 1 (IntKind.u64.wrap (i2)))))] 0 _ (by kernel_rfl) (fun w => by kernel_rfl) ?_
                          refine QRun_y (.pointer (some (adr a4 ((w64 (s1.2.2 - (ishl .i64 1 (IntKind.u64.wrap (i2))))).toNat * 1)))) (by kernel_rfl) (Y_idx (t := 39) (e := 2) (sz := 1) (a := a4) (n := s1.2.1.length) (cap := c2) (kk := .i64) (i := w64 (s1.2.2 - (ishl .i64 1 (IntKind.u64.wrap (i2))))) (by kernel_rfl) Try.underlying39 (by kernel_rfl) ((H7.rd 1 rfl).cell hx6).1 hx6l hx6u) ?_
                          refine QRun_y (.int .i64 x9) (by kernel_rfl) (Y_load1 (t := 2) (p := adr a4 ((w64 (s1.2.2 - (ishl .i64 1 (IntKind.u64.wrap (i2))))).toNat * 1)) (v := .int .i64 x9) (by kernel_rfl) (fun w => by kernel_rfl) (cd2_cell (H7.rd 1 rfl) hx6)) ?_
                          refine QRun_b [.int .i64 (w64 (s3.2 + x9)), .int .i64 (w64 (s3.2 + x9))] 5 _ (by kernel_rfl) (fun w => by kernel_rfl) ?_
                          exact QRun_done [0, 4, 5, 6, 7, 10, 11, 12, 13] (by kernel_rfl) (by kernel_rfl)
                        have gs5 := M.ret_some gs5
                        subst gs5
                        exact Run_fall [0, 4, 5, 6, 7, 10, 11, 12, 13] (by kernel_rfl) ⟨rfl, H7⟩
                      · have gs5 := (M.ite_some gs5).2 hb7
                        refine Run_skip ?_
                        have gs5 := M.ret_some gs5
                        subst gs5
                        exact Run_fall [0, 4, 5, 6, 7, 10, 11, 12, 13] (by kernel_rfl) ⟨rfl, H7⟩
          · have gx3 := M.for_end gx3 hb3
            subst gx3
            refine Run_exit (k' := _) rfl ?_
            exact Run_fall [0, 4, 5, 6, 7, 11, 12] (by kernel_rfl) ⟨rfl, H7⟩
      · refine Run_block ?_
        refine Run_keep [0, 4, 5, 6, 7, 8, 9] (L' := [(0, .slice aa_ a_.length ca_), (4, .int .i64 (a_.length : Int)), (5, .slice a3 s1.1.length c1), (6, .slice a4 s1.2.1.length c2), (7, .int .i64 s1.2.2), (8, .int .i64 0), (9, .int .i64 0)]) (by kernel_rfl) ?_
        refine Run_loop (fun m L' h' => ∃ (i1 : Int) (s2 : Int), 0 ≤ i1 ∧ M.forN (a_.length : Int) _ _ n m i1 s2 = some x2 ∧ L' = [(0, .slice aa_ a_.length ca_), (4, .int .i64 (a_.length : Int)), (5, .slice a3 s1.1.length c1), (6, .slice a4 s1.2.1.length c2), (7, .int .i64 s1.2.2), (8, .int .i64 s2), (9, .int .i64 i1)] ∧ Hold h h' [own cd2 a3 s1.1.length c1 s1.1, own cd2 a4 s1.2.1.length c2 s1.2.1]) ((a_.length : Int) - 0 : Int).toNat ⟨0, 0, Int.le_refl _, gx2, rfl, H3⟩ ?_
        rintro my2 _ h5 ⟨i1, s2, hloy2', gx2, rfl, H5⟩
        refine Run_seq ?_
        refine Run_seq ?_
        refine Run_reg 3 (by kernel_rfl) (L' := [(0, .slice aa_ a_.length ca_), (4, .int .i64 (a_.length : Int)), (5, .slice a3 s1.1.length c1), (6, .slice a4 s1.2.1.length c2), (7, .int .i64 s1.2.2), (8, .int .i64 s2), (9, .int .i64 i1), (29, .bool (decide (i1 < (a_.length : Int))))]) ?_ ?_
        · refine QRun_b [.int .i64 i1, .int .i64 (a_.length : Int), .bool (decide (i1 < (a_.length : Int)))] 0 _ (by kernel_rfl) (fun w => by kernel_rfl) ?_
          exact QRun_done [0, 4, 5, 6, 7, 8, 9, 29] (by kernel_rfl) (by kernel_rfl)
        refine Run_cond (b := decide (i1 < (a_.length : Int))) (by kernel_rfl) (fun hb2 => ?_) (fun hb2 => ?_)
        · obtain ⟨my2, y2, rfl, hB2, hgoy2, houty2⟩ := M.for_go gx2 hb2
          have hlty2 := of_decide_eq_true hb2
          refine Run_skip ?_
          refine Run_seq ?_
          refine Run_block ?_
          obtain ⟨u2, hz2, hB2⟩ := M.bind_some hB2
          have hz2 := M.guard_some hz2
          refine Run_reg 8 (by kernel_rfl) (L' := [(0, .slice aa_ a_.length ca_), (4, .int .i64 (a_.length : Int)), (5, .slice a3 s1.1.length c1), (6, .slice a4 s1.2.1.length c2), (7, .int .i64 s1.2.2), (8, .int .i64 (w64 (s2 + (ibit .and .i64 (ishr .i64 s1.2.2 (IntKind.u64.wrap (i1))) 1)))), (9, .int .i64 i1)]) ?_ ?_
          · refine QRun_b [.int .i64 s2, .int .i64 s1.2.2, .int .i64 i1, .int .u64 (IntKind.u64.wrap (i1))] 0 _ (by kernel_rfl) (fun w => by kernel_rfl) ?_
            refine QRun_y (.int .i64 (ishr .i64 s1.2.2 (IntKind.u64.wrap (i1)))) (by kernel_rfl) (Y_shr (k := .i64) (x := s1.2.2) (kk := .u64) (y := IntKind.u64.wrap (i1)) (by kernel_rfl) hz2) ?_
            refine QRun_b [.int .i64 (ibit .and .i64 (ishr .i64 s1.2.2 (IntKind.u64.wrap (i1))) 1), .int .i64 (w64 (s2 + (ibit .and .i64 (ishr .i64 s1.2.2 (IntKind.u64.wrap (i1))) 1))), .int .i64 (w64 (s2 + (ibit .and .i64 (ishr .i64 s1.2.2 (IntKind.u64.wrap (i1))) 1)))] 5 _ (by kernel_rfl) (fun w => by kernel_rfl) ?_
            exact QRun_done [0, 4, 5, 6, 7, 8, 9] (by kernel_rfl) (by kernel_rfl)
          refine Run_blk ?_
          refine Run_reg 3 (by kernel_rfl) (L' := [(0, .slice aa_ a_.length ca_), (4, .int .i64 (a_.length : Int)), (5, .slice a3 s1.1.length c1), (6, .slice a4 s1.2.1.length c2), (7, .int .i64 s1.2.2), (8, .int .i64 (w64 (s2 + (ibit .and .i64 (ishr .i64 s1.2.2 (IntKind.u64.wrap (i1))) 1)))), (9, .int .i64 (i1 + 1))]) ?_ ?_
          · refine QRun_b [.int .i64 i1] 0 _ (by kernel_rfl) (fun w => by kernel_rfl) ?_
            refine QRun_y (.int .i64 (i1 + 1)) (by kernel_rfl) (Y_eq (v := .int .i64 (w64 (i1 + 1))) (Y_pure (fun w => by kernel_rfl)) (by rw [w64_eq _ (by omega)])) ?_
            refine QRun_b [.int .i64 (i1 + 1)] 2 _ (by kernel_rfl) (fun w => by kernel_rfl) ?_
            exact QRun_done [0, 4, 5, 6, 7, 8, 9] (by kernel_rfl) (by kernel_rfl)
          have hB2 := M.ret_some hB2
          have gx2 := hgoy2 _ hB2.symm
          exact Run_again [0, 4, 5, 6, 7, 8, 9] (by kernel_rfl) my2 (Nat.lt_succ_self _) ⟨i1 + 1, (w64 (s2 + (ibit .and .i64 (ishr .i64 s1.2.2 (IntKind.u64.wrap (i1))) 1))), by omega, gx2, rfl, H5⟩
        · have gx2 := M.for_end gx2 hb2
          subst gx2
          refine Run_exit (k' := _) rfl ?_
          exact Run_fall [0, 4, 5, 6, 7, 8] (by kernel_rfl) ⟨rfl, H5⟩
    · have hB1 := (M.ite_some hB1).2 hb1
      refine Run_exit (k' := _) rfl ?_
      have H24 : Hold h h3 [own cd2 a4 s1.2.1.length c2 s1.2.1, own cd2 a3 s1.1.length c1 s1.1] := H3.pick [1, 0] (by kernel_rfl)
      have H25 : Hold h h3 [own cd2 a3 s1.1.length c1 s1.1, own cd2 a4 s1.2.1.length c2 s1.2.1] := H24.pick [1, 0] (by kernel_rfl)
      have hB1 := M.ret_some hB1
      have gx1 := houty1 _ hB1.symm
      subst gx1
      exact Run_fall [5, 6] (by kernel_rfl) ⟨a3, c1, a4, c2, rfl, H25⟩

set_option maxRecDepth 100000 in
set_option maxHeartbeats 4000000 in
theorem w_spec_l10Top (h : Heap) (a_ : List (List Int)) (aa_ : Option Addr) (ca_ : Nat) (ra_ : Rd cd39 h (Lt h) aa_ ca_ a_) (n : Nat) (r : Int) (hF : spec_l10Top a_ n = some r) :
    Fn Try.prog 132 #[.slice aa_ a_.length ca_] h fun v h' => v = .int .i64 r ∧ Hold h h' [] := by
  unfold spec_l10Top at hF
  refine Fn_enter (args := [.slice aa_ a_.length ca_]) Try.func132 rfl (by kernel_rfl) (by kernel_rfl) (fun w0 _ => ?_)
  have H0 := Hold.init h
  refine Run_seq ?_
  refine Run_reg 1 (by kernel_rfl) (L' := [(0, .slice aa_ a_.length ca_)]) ?_ ?_
  · refine QRun_b [.int .i64 0] 0 _ (by kernel_rfl) (fun w => by kernel_rfl) ?_
    exact QRun_done [0] (by kernel_rfl) (by kernel_rfl)
  refine Run_seq ?_
  refine Run_ops ?_
  refine Run_b [.slice aa_ a_.length ca_] 0 _ (by kernel_rfl) (fun w => by kernel_rfl) ?_
  obtain ⟨x1, hx1, hF⟩ := M.bind_some hF
  refine Run_E (by kernel_rfl) ?_
  refine E_call (f := 133) (args := #[.slice aa_ a_.length ca_]) (w_spec_l10Best h a_ aa_ ca_ ra_ _ _ hx1) (by kernel_rfl) (fun v1 h1 hp1 => ?_)
  obtain ⟨a1, c1, a2, c2, rfl, H1⟩ := hp1
  have H2 : Hold h h1 [own cd2 a1 x1.1.length c1 x1.1, own cd2 a2 x1.2.length c2 x1.2] := H0.call H1 rfl
  refine Run_b [.tuple #[.slice a1 x1.1.length c1, .slice a2 x1.2.length c2], .slice a1 x1.1.length c1, .slice a2 x1.2.length c2, .slice a1 x1.1.length c1, .slice a2 x1.2.length c2] 2 _ (by kernel_rfl) (fun w => by kernel_rfl) ?_
  refine Run_nil (by kernel_rfl) ?_
  refine Run_keep [3] (L' := [(3, .slice a1 x1.1.length c1)]) (by kernel_rfl) ?_
  refine Run_seq ?_
  obtain ⟨x2, hx2, hF⟩ := M.bind_some hF
  obtain ⟨hx2l, hx2u, hx2⟩ := M.idx_some hx2
  refine Run_reg 7 (by kernel_rfl) (L' := [(2, .int .i64 x2)]) ?_ ?_
  · refine QRun_b [.slice a1 x1.1.length c1, .slice a1 x1.1.length c1, .int .i64 (x1.1.length : Int), .int .i64 (w64 ((x1.1.length : Int) - 1))] 0 _ (by kernel_rfl) (fun w => by kernel_rfl) ?_
    refine QRun_y (.pointer (some (adr a1 ((w64 ((x1.1.length : Int) - 1)).toNat * 1)))) (by kernel_rfl) (Y_idx (t := 39) (e := 2) (sz := 1) (a := a1) (n := x1.1.length) (cap := c1) (kk := .i64) (i := w64 ((x1.1.length : Int) - 1)) (by kernel_rfl) Try.underlying39 (by kernel_rfl) ((H2.rd 0 rfl).cell hx2).1 hx2l hx2u) ?_
    refine QRun_y (.int .i64 x2) (by kernel_rfl) (Y_load1 (t := 2) (p := adr a1 ((w64 ((x1.1.length : Int) - 1)).toNat * 1)) (v := .int .i64 x2) (by kernel_rfl) (fun w => by kernel_rfl) (cd2_cell (H2.rd 0 rfl) hx2)) ?_
    refine QRun_b [.int .i64 x2] 6 _ (by kernel_rfl) (fun w => by kernel_rfl) ?_
    exact QRun_done [2] (by kernel_rfl) (by kernel_rfl)
  have hF := M.ret_some hF
  subst hF
  have H3 : Hold h h1 [] := H2.pick [] (by kernel_rfl)
  exact Run_ret1 rfl (ResV_tmp (v := .int .i64 x2) (by kernel_rfl)) ⟨rfl, H3⟩

set_option maxRecDepth 100000 in
set_option maxHeartbeats 4000000 in
theorem w_spec_l10Part (h : Heap) (a_ : List (List Int)) (aa_ : Option Addr) (ca_ : Nat) (ra_ : Rd cd39 h (Lt h) aa_ ca_ a_) (nodes : List Int) (anodes : Option Addr) (cnodes : Nat) (rnodes : Rd cd2 h (Lt h) anodes cnodes nodes) (n : Nat) (r : Int) (hF : spec_l10Part a_ nodes n = some r) :
    Fn Try.prog 135 #[.slice aa_ a_.length ca_, .slice anodes nodes.length cnodes] h fun v h' => v = .int .i64 r ∧ Hold h h' [] := by
  unfold spec_l10Part at hF
  refine Fn_enter (args := [.slice aa_ a_.length ca_, .slice anodes nodes.length cnodes]) Try.func135 rfl (by kernel_rfl) (by kernel_rfl) (fun w0 _ => ?_)
  have H0 := Hold.init h
  refine Run_seq ?_
  refine Run_reg 1 (by kernel_rfl) (L' := [(0, .slice aa_ a_.length ca_), (1, .slice anodes nodes.length cnodes)]) ?_ ?_
  · refine QRun_b [.int .i64 0] 0 _ (by kernel_rfl) (fun w => by kernel_rfl) ?_
    exact QRun_done [0, 1] (by kernel_rfl) (by kernel_rfl)
  refine Run_seq ?_
  refine Run_seq ?_
  refine Run_reg 3 (by kernel_rfl) (L' := [(0, .slice aa_ a_.length ca_), (1, .slice anodes nodes.length cnodes), (10, .bool ((nodes.length : Int) == 0))]) ?_ ?_
  · refine QRun_b [.slice anodes nodes.length cnodes, .int .i64 (nodes.length : Int), .bool ((nodes.length : Int) == 0)] 0 _ (by kernel_rfl) (fun w => by kernel_rfl) ?_
    exact QRun_done [0, 1, 10] (by kernel_rfl) (by kernel_rfl)
  refine Run_cond (b := (nodes.length : Int) == 0) (by kernel_rfl) (fun hb1 => ?_) (fun hb1 => ?_)
  · have hF := (M.ite_some hF).1 hb1
    refine Run_seq ?_
    refine Run_reg 1 (by kernel_rfl) (L' := [(4, .int .i64 0)]) ?_ ?_
    · refine QRun_b [.int .i64 0] 0 _ (by kernel_rfl) (fun w => by kernel_rfl) ?_
      exact QRun_done [4] (by kernel_rfl) (by kernel_rfl)
    have hF := M.ret_some hF
    subst hF
    exact Run_ret1 rfl (ResV_tmp (v := .int .i64 0) (by kernel_rfl)) ⟨rfl, H0⟩
  · have hF := (M.ite_some hF).2 hb1
    refine Run_skip ?_
    refine Run_seq ?_
    refine Run_ops ?_
    refine Run_b [.slice anodes nodes.length cnodes, .int .i64 (nodes.length : Int), .slice anodes nodes.length cnodes, .int .i64 (nodes.length : Int)] 0 _ (by kernel_rfl) (fun w => by kernel_rfl) ?_
    obtain ⟨x1, hx1, hF⟩ := M.bind_some hF
    refine Run_E (by kernel_rfl) ?_
    refine E_call (f := 84) (args := #[.int .i64 (nodes.length : Int), .int .i64 (nodes.length : Int)]) (w_spec_l02Bottom h (nodes.length : Int) (nodes.length : Int) _ _ hx1) (by kernel_rfl) (fun v1 h1 hp1 => ?_)
    obtain ⟨a1, c1, rfl, H1⟩ := hp1
    have H2 : Hold h h1 [own cd39 a1 x1.length c1 x1] := H0.call H1 rfl
    refine Run_b [.slice a1 x1.length c1] 5 _ (by kernel_rfl) (fun w => by kernel_rfl) ?_
    refine Run_nil (by kernel_rfl) ?_
    refine Run_keep [0, 1, 5] (L' := [(0, .slice aa_ a_.length ca_), (1, .slice anodes nodes.length cnodes), (5, .slice a1 x1.length c1)]) (by kernel_rfl) ?_
    refine Run_seq ?_
    refine Run_seq ?_
    refine Run_reg 1 (by kernel_rfl) (L' := [(0, .slice aa_ a_.length ca_), (1, .slice anodes nodes.length cnodes), (5, .slice a1 x1.length c1), (6, .int .i64 0)]) ?_ ?_
    · refine QRun_b [.int .i64 0] 0 _ (by kernel_rfl) (fun w => by kernel_rfl) ?_
      exact QRun_done [0, 1, 5, 6] (by kernel_rfl) (by kernel_rfl)
    obtain ⟨x2, gx2, hF⟩ := M.bind_some hF
    obtain ⟨hloy1, hhiy1, gx2⟩ := M.for_start gx2
    refine Run_join (fun L' h' => L' = [(5, .slice a1 x1.length c1)] ∧ Hold h h' [own cd39 a1 x1.length c1 x2]) ?_ ?_
    · rintro _ h3 ⟨rfl, H4⟩
      refine Run_seq ?_
      obtain ⟨x10, hx8, hF⟩ := M.bind_some hF
      refine Run_regC (j := 3) (C := fun x => Hold h x [own cd39 a1 x1.length c1 x2]) (by kernel_rfl) H4 (L' := [(4, .int .i64 x10)]) ?_ (fun h8 H13 => ?_)
      · refine QRun_b [.slice a1 x1.length c1] 0 _ (by kernel_rfl) (fun w => by kernel_rfl) ?_
        refine QRun_y (.int .i64 x10) (by kernel_rfl) (Y_call (f := 132) (args := #[.slice a1 x1.length c1]) (v := .int .i64 x10) (by kernel_rfl) fun hx Hx => (Fn.arg (w_spec_l10Top hx x2 a1 c1 (Hx.rd 0 rfl) _ _ hx8) (by simp only [(Hx.len 0 rfl)])).mono fun _ _ ⟨e, H'⟩ => ⟨e, Hx.call H' rfl⟩) ?_
        refine QRun_b [.int .i64 x10] 2 _ (by kernel_rfl) (fun w => by kernel_rfl) ?_
        exact QRun_done [4] (by kernel_rfl) (by kernel_rfl)
      have H14 : Hold h h8 [own cd39 a1 x1.length c1 x2] := H13
      have hF := M.ret_some hF
      subst hF
      have H15 : Hold h h8 [] := H14.pick [] (by kernel_rfl)
      exact Run_ret1 rfl (ResV_tmp (v := .int .i64 x10) (by kernel_rfl)) ⟨rfl, H15⟩
    · refine Run_block ?_
      refine Run_keep [0, 1, 5, 6] (L' := [(0, .slice aa_ a_.length ca_), (1, .slice anodes nodes.length cnodes), (5, .slice a1 x1.length c1), (6, .int .i64 0)]) (by kernel_rfl) ?_
      refine Run_loop (fun m L' h' => ∃ (i1 : Int) (s1 : (List (List Int))), 0 ≤ i1 ∧ M.forN (nodes.length : Int) _ _ n m i1 s1 = some x2 ∧ L' = [(0, .slice aa_ a_.length ca_), (1, .slice anodes nodes.length cnodes), (5, .slice a1 x1.length c1), (6, .int .i64 i1)] ∧ Hold h h' [own cd39 a1 x1.length c1 s1]) ((nodes.length : Int) - 0 : Int).toNat ⟨0, x1, Int.le_refl _, gx2, rfl, H2⟩ ?_
      rintro my1 _ h2 ⟨i1, s1, hloy1', gx2, rfl, H3⟩
      refine Run_seq ?_
      refine Run_seq ?_
      refine Run_reg 4 (by kernel_rfl) (L' := [(0, .slice aa_ a_.length ca_), (1, .slice anodes nodes.length cnodes), (5, .slice a1 x1.length c1), (6, .int .i64 i1), (19, .bool (decide (i1 < (nodes.length : Int))))]) ?_ ?_
      · refine QRun_b [.int .i64 i1, .slice anodes nodes.length cnodes, .int .i64 (nodes.length : Int), .bool (decide (i1 < (nodes.length : Int)))] 0 _ (by kernel_rfl) (fun w => by kernel_rfl) ?_
        exact QRun_done [0, 1, 5, 6, 19] (by kernel_rfl) (by kernel_rfl)
      refine Run_cond (b := decide (i1 < (nodes.length : Int))) (by kernel_rfl) (fun hb2 => ?_) (fun hb2 => ?_)
      · obtain ⟨my1, y1, rfl, hB1, hgoy1, houty1⟩ := M.for_go gx2 hb2
        have hlty1 := of_decide_eq_true hb2
        refine Run_skip ?_
        refine Run_seq ?_
        refine Run_block ?_
        refine Run_seq ?_
        refine Run_reg 1 (by kernel_rfl) (L' := [(0, .slice aa_ a_.length ca_), (1, .slice anodes nodes.length cnodes), (5, .slice a1 x1.length c1), (6, .int .i64 i1), (7, .int .i64 0)]) ?_ ?_
        · refine QRun_b [.int .i64 0] 0 _ (by kernel_rfl) (fun w => by kernel_rfl) ?_
          exact QRun_done [0, 1, 5, 6, 7] (by kernel_rfl) (by kernel_rfl)
        obtain ⟨x3, gx3, hB1⟩ := M.bind_some hB1
        obtain ⟨hloy2, hhiy2, gx3⟩ := M.for_start gx3
        refine Run_join (fun L' h' => L' = [(0, .slice aa_ a_.length ca_), (1, .slice anodes nodes.length cnodes), (5, .slice a1 x1.length c1), (6, .int .i64 i1)] ∧ Hold h h' [own cd39 a1 x1.length c1 x3]) ?_ ?_
        · rintro _ h5 ⟨rfl, H6⟩
          refine Run_blk ?_
          refine Run_reg 3 (by kernel_rfl) (L' := [(0, .slice aa_ a_.length ca_), (1, .slice anodes nodes.length cnodes), (5, .slice a1 x1.length c1), (6, .int .i64 (i1 + 1))]) ?_ ?_
          · refine QRun_b [.int .i64 i1] 0 _ (by kernel_rfl) (fun w => by kernel_rfl) ?_
            refine QRun_y (.int .i64 (i1 + 1)) (by kernel_rfl) (Y_eq (v := .int .i64 (w64 (i1 + 1))) (Y_pure (fun w => by kernel_rfl)) (by rw [w64_eq _ (by omega)])) ?_
            refine QRun_b [.int .i64 (i1 + 1)] 2 _ (by kernel_rfl) (fun w => by kernel_rfl) ?_
            exact QRun_done [0, 1, 5, 6] (by kernel_rfl) (by kernel_rfl)
          have hB1 := M.ret_some hB1
          have gx2 := hgoy1 _ hB1.symm
          exact Run_again [0, 1, 5, 6] (by kernel_rfl) my1 (Nat.lt_succ_self _) ⟨i1 + 1, x3, by omega, gx2, rfl, H6⟩
        · refine Run_block ?_
          refine Run_keep [0, 1, 5, 6, 7] (L' := [(0, .slice aa_ a_.length ca_), (1, .slice anodes nodes.length cnodes), (5, .slice a1 x1.length c1), (6, .int .i64 i1), (7, .int .i64 0)]) (by kernel_rfl) ?_
          refine Run_loop (fun m L' h' => ∃ (i2 : Int) (s2 : (List (List Int))), 0 ≤ i2 ∧ M.forN (nodes.length : Int) _ _ n m i2 s2 = some x3 ∧ L' = [(0, .slice aa_ a_.length ca_), (1, .slice anodes nodes.length cnodes), (5, .slice a1 x1.length c1), (6, .int .i64 i1), (7, .int .i64 i2)] ∧ Hold h h' [own cd39 a1 x1.length c1 s2]) ((nodes.length : Int) - 0 : Int).toNat ⟨0, s1, Int.le_refl _, gx3, rfl, H3⟩ ?_
          rintro my2 _ h4 ⟨i2, s2, hloy2', gx3, rfl, H5⟩
          refine Run_seq ?_
          refine Run_seq ?_
          refine Run_reg 4 (by kernel_rfl) (L' := [(0, .slice aa_ a_.length ca_), (1, .slice anodes nodes.length cnodes), (5, .slice a1 x1.length c1), (6, .int .i64 i1), (7, .int .i64 i2), (25, .bool (decide (i2 < (nodes.length : Int))))]) ?_ ?_
          · refine QRun_b [.int .i64 i2, .slice anodes nodes.length cnodes, .int .i64 (nodes.length : Int), .bool (decide (i2 < (nodes.length : Int)))] 0 _ (by kernel_rfl) (fun w => by kernel_rfl) ?_
            exact QRun_done [0, 1, 5, 6, 7, 25] (by kernel_rfl) (by kernel_rfl)
          refine Run_cond (b := decide (i2 < (nodes.length : Int))) (by kernel_rfl) (fun hb3 => ?_) (fun hb3 => ?_)
          · obtain ⟨my2, y2, rfl, hB2, hgoy2, houty2⟩ := M.for_go gx3 hb3
            have hlty2 := of_decide_eq_true hb3
            refine Run_skip ?_
            refine Run_seq ?_
            refine Run_block ?_
            obtain ⟨x4, hx2, hB2⟩ := M.bind_some hB2
            obtain ⟨hx2l, hx2u, hx2⟩ := M.idx_some hx2
            have H7 := H5.toRows
            obtain ⟨a2, c2, H8⟩ := H7.pinRow hx2
            obtain ⟨x5, hx3, hB2⟩ := M.bind_some hB2
            obtain ⟨hx3l, hx3u, hx3⟩ := M.idx_some hx3
            obtain ⟨x6, hx4, hB2⟩ := M.bind_some hB2
            obtain ⟨hx4l, hx4u, hx4⟩ := M.idx_some hx4
            obtain ⟨a3, c3, hc1, r1⟩ := ra_.row hx4
            obtain ⟨x7, hx5, hB2⟩ := M.bind_some hB2
            obtain ⟨hx5l, hx5u, hx5⟩ := M.idx_some hx5
            obtain ⟨x8, hx6, hB2⟩ := M.bind_some hB2
            obtain ⟨hx6l, hx6u, hx6⟩ := M.idx_some hx6
            obtain ⟨x9, hx7, hB2⟩ := M.bind_some hB2
            obtain ⟨hx7l, hx7u, hx7⟩ := M.idx_some hx7
            refine Run_D (fun x => Hold h x [rowsP cd2 39 a1 x1.length c1 s2 [(i1.toNat, a2, x4.length, c2, x4)]]) (fun x => Hold h x [rowsP cd2 39 a1 x1.length c1 s2 [(i1.toNat, a2, x4.length, c2, x4)]]) mixed (by kernel_rfl) H8 Hold.stable (fun x Hy => (show Hold h x [rowsP cd2 39 a1 x1.length c1 s2 [(i1.toNat, a2, x4.length, c2, x4)]] from Hy).pick [0] (by kernel_rfl)) ?_
            refine DR_b 18 [.slice a1 x1.length c1, .int .i64 i1] 0 (by kernel_rfl) (by kernel_rfl) (by kernel_rfl) (fun w => by kernel_rfl) ?_
            refine DR_y 17 (i := 2) (.pointer (some (adr a1 (i1.toNat * 1)))) (by kernel_rfl) (by kernel_rfl) (by kernel_rfl) (fun hx Hx => (YE.of (Y_idx (t := 37) (e := 39) (sz := 1) (a := a1) (n := x1.length) (cap := c1) (kk := .i64) (i := i1) (by kernel_rfl) Try.underlying37 (by kernel_rfl) ((H5.rd 0 rfl).cell hx2).1 hx2l (by rw [← (H5.len 0 rfl)]; exact hx2u)))) ?_
            refine DR_y 16 (i := 3) (.slice a2 x4.length c2) (by kernel_rfl) (by kernel_rfl) (by kernel_rfl) (fun hx Hx => (YE.of (Y_load1 (t := 39) (p := adr a1 (i1.toNat * 1)) (v := .slice a2 x4.length c2) (by kernel_rfl) (fun w => by kernel_rfl) (Hx.cellPin 0 rfl 0 rfl)))) ?_
            refine DR_b 12 [.int .i64 i2, .slice aa_ a_.length ca_, .slice anodes nodes.length cnodes, .int .i64 i1] 4 (by kernel_rfl) (by kernel_rfl) (by kernel_rfl) (fun w => by kernel_rfl) ?_
            refine DR_y 11 (i := 8) (.pointer (some (adr anodes (i1.toNat * 1)))) (by kernel_rfl) (by kernel_rfl) (by kernel_rfl) (fun hx Hx => (YE.of (Y_idx (t := 39) (e := 2) (sz := 1) (a := anodes) (n := nodes.length) (cap := cnodes) (kk := .i64) (i := i1) (by kernel_rfl) Try.underlying39 (by kernel_rfl) ((rnodes.at H8.ext).cell hx3).1 hx3l hx3u))) ?_
            refine DR_y 10 (i := 9) (.int .i64 x5) (by kernel_rfl) (by kernel_rfl) (by kernel_rfl) (fun hx Hx => (YE.of (Y_load1 (t := 2) (p := adr anodes (i1.toNat * 1)) (v := .int .i64 x5) (by kernel_rfl) (fun w => by kernel_rfl) (cd2_cell (rnodes.at Hx.ext) hx3)))) ?_
            refine DR_y 9 (i := 10) (.pointer (some (adr aa_ (x5.toNat * 1)))) (by kernel_rfl) (by kernel_rfl) (by kernel_rfl) (fun hx Hx => (YE.of (Y_idx (t := 37) (e := 39) (sz := 1) (a := aa_) (n := a_.length) (cap := ca_) (kk := .i64) (i := x5) (by kernel_rfl) Try.underlying37 (by kernel_rfl) ((ra_.at H8.ext).cell hx4).1 hx4l hx4u))) ?_
            refine DR_y 8 (i := 11) (.slice a3 x6.length c3) (by kernel_rfl) (by kernel_rfl) (by kernel_rfl) (fun hx Hx => (YE.of (Y_load1 (t := 39) (p := adr aa_ (x5.toNat * 1)) (v := .slice a3 x6.length c3) (by kernel_rfl) (fun w => by kernel_rfl) (cell_at Hx.ext hc1)))) ?_
            refine DR_b 6 [.slice anodes nodes.length cnodes, .int .i64 i2] 12 (by kernel_rfl) (by kernel_rfl) (by kernel_rfl) (fun w => by kernel_rfl) ?_
            refine DR_y 5 (i := 14) (.pointer (some (adr anodes (i2.toNat * 1)))) (by kernel_rfl) (by kernel_rfl) (by kernel_rfl) (fun hx Hx => (YE.of (Y_idx (t := 39) (e := 2) (sz := 1) (a := anodes) (n := nodes.length) (cap := cnodes) (kk := .i64) (i := i2) (by kernel_rfl) Try.underlying39 (by kernel_rfl) ((rnodes.at H8.ext).cell hx5).1 hx5l hx5u))) ?_
            refine DR_y 4 (i := 15) (.int .i64 x7) (by kernel_rfl) (by kernel_rfl) (by kernel_rfl) (fun hx Hx => (YE.of (Y_load1 (t := 2) (p := adr anodes (i2.toNat * 1)) (v := .int .i64 x7) (by kernel_rfl) (fun w => by kernel_rfl) (cd2_cell (rnodes.at Hx.ext) hx5)))) ?_
            refine DR_y 3 (i := 16) (.pointer (some (adr a3 (x7.toNat * 1)))) (by kernel_rfl) (by kernel_rfl) (by kernel_rfl) (fun hx Hx => (YE.of (Y_idx (t := 39) (e := 2) (sz := 1) (a := a3) (n := x6.length) (cap := c3) (kk := .i64) (i := x7) (by kernel_rfl) Try.underlying39 (by kernel_rfl) ((r1.at H8.ext).cell hx6).1 hx6l hx6u))) ?_
            refine DR_y 2 (i := 17) (.int .i64 x8) (by kernel_rfl) (by kernel_rfl) (by kernel_rfl) (fun hx Hx => (YE.of (Y_load1 (t := 2) (p := adr a3 (x7.toNat * 1)) (v := .int .i64 x8) (by kernel_rfl) (fun w => by kernel_rfl) (cd2_cell (r1.at Hx.ext) hx6)))) ?_
            refine DR_y 1 (i := 18) (.pointer (some (adr a2 (i2.toNat * 1)))) (by kernel_rfl) (by kernel_rfl) (by kernel_rfl) (fun hx Hx => (YE.of (Y_idx (t := 39) (e := 2) (sz := 1) (a := a2) (n := x4.length) (cap := c2) (kk := .i64) (i := i2) (by kernel_rfl) Try.underlying39 (by kernel_rfl) ((H8.rdPin 0 rfl 0 rfl).cell hx7).1 hx7l hx7u))) ?_
            refine DR_tail (i := 19) (by kernel_rfl) (by kernel_rfl) (by kernel_rfl) (fun h6 H9 => ?_)
            have H10 : Hold h h6 [rowsP cd2 39 a1 x1.length c1 s2 [(i1.toNat, a2, x4.length, c2, x4)]] := H9
            obtain ⟨l1, hu1, hB2⟩ := M.bind_some hB2
            have hu1 := M.upd_some hu1
            refine Run_E (by kernel_rfl) ?_
            refine E_put2 (C := cd2) (t := 2) (sz := 1) (j := i2) (x := x8) (v := .int .i64 x8) (m2 := s2.set i1.toNat l1) H10 cd2_flat 0 rfl (by kernel_rfl) rfl (cd2_own _) (by kernel_rfl) hu1 rfl (fun h7 H11 => ?_)
            refine Run_nil (by kernel_rfl) ?_
            refine Run_keep [0, 1, 5, 6, 7] (L' := [(0, .slice aa_ a_.length ca_), (1, .slice anodes nodes.length cnodes), (5, .slice a1 x1.length c1), (6, .int .i64 i1), (7, .int .i64 i2)]) (by kernel_rfl) ?_
            refine Run_blk ?_
            refine Run_reg 3 (by kernel_rfl) (L' := [(0, .slice aa_ a_.length ca_), (1, .slice anodes nodes.length cnodes), (5, .slice a1 x1.length c1), (6, .int .i64 i1), (7, .int .i64 (i2 + 1))]) ?_ ?_
            · refine QRun_b [.int .i64 i2] 0 _ (by kernel_rfl) (fun w => by kernel_rfl) ?_
              refine QRun_y (.int .i64 (i2 + 1)) (by kernel_rfl) (Y_eq (v := .int .i64 (w64 (i2 + 1))) (Y_pure (fun w => by kernel_rfl)) (by rw [w64_eq _ (by omega)])) ?_
              refine QRun_b [.int .i64 (i2 + 1)] 2 _ (by kernel_rfl) (fun w => by kernel_rfl) ?_
              exact QRun_done [0, 1, 5, 6, 7] (by kernel_rfl) (by kernel_rfl)
            have H12 := H11.ofRows
            have hB2 := M.ret_some hB2
            have gx3 := hgoy2 _ hB2.symm
            exact Run_again [0, 1, 5, 6, 7] (by kernel_rfl) my2 (Nat.lt_succ_self _) ⟨i2 + 1, (s2.set i1.toNat l1), by omega, gx3, rfl, H12⟩
          · have gx3 := M.for_end gx3 hb3
            subst gx3
            refine Run_exit (k' := _) rfl ?_
            exact Run_fall [0, 1, 5, 6] (by kernel_rfl) ⟨rfl, H5⟩
      · have gx2 := M.for_end gx2 hb2
        subst gx2
        refine Run_exit (k' := _) rfl ?_
        exact Run_fall [5] (by kernel_rfl) ⟨rfl, H3⟩

set_option maxRecDepth 100000 in
set_option maxHeartbeats 4000000 in
theorem w_spec_IsPolynomial (h : Heap) (c_ : List Int) {Sc_ : Bs} (ac_ : Option Addr) (cc_ : Nat) (rc_ : Rd cd2 h Sc_ ac_ cc_ c_) (n : Nat) (r : Bool) (hF : spec_IsPolynomial c_ n = some r) :
    Fn Try.prog 116 #[.slice ac_ c_.length cc_] h fun v h' => v = .bool r ∧ h' = h := by
  unfold spec_IsPolynomial at hF
  refine Fn_enter (args := [.slice ac_ c_.length cc_]) Try.func116 rfl (by kernel_rfl) (by kernel_rfl) (fun w0 _ => ?_)
  refine Run_seq ?_
  refine Run_reg 1 (by kernel_rfl) (L' := [(0, .slice ac_ c_.length cc_)]) ?_ ?_
  · refine QRun_b [.bool false] 0 _ (by kernel_rfl) (fun w => by kernel_rfl) ?_
    exact QRun_done [0] (by kernel_rfl) (by kernel_rfl)
  refine Run_seq ?_
  refine Run_seq ?_
  obtain ⟨x1, gx1, hF⟩ := M.bind_some hF
  refine Run_reg 8 (by kernel_rfl) (L' := [(0, .slice ac_ c_.length cc_), (11, .bool x1)]) ?_ ?_
  · refine QRun_b [.slice ac_ c_.length cc_, .int .i64 (c_.length : Int), .bool (decide (12 < (c_.length : Int)))] 0 _ (by kernel_rfl) (fun w => by kernel_rfl) ?_
    refine QRun_seq 8 [(0, .slice ac_ c_.length cc_), (11, .bool x1)] ?_ ?_
    · rcases Bool.eq_false_or_eq_true (decide (12 < (c_.length : Int))) with hb1 | hb1
      · refine QRun_bool (decide (12 < (c_.length : Int))) true (by kernel_rfl) (fun w => by kernel_rfl) hb1 ?_
        have gx1 := M.ret_some ((M.ite_some gx1).1 hb1)
        refine QRun_n (by kernel_rfl) ?_
        refine QRun_n (by kernel_rfl) ?_
        refine QRun_n (by kernel_rfl) ?_
        refine QRun_bool true x1 (by kernel_rfl) (fun w => by kernel_rfl) gx1 ?_
        exact QRun_done [0, 11] (by kernel_rfl) (by kernel_rfl)
      · refine QRun_bool (decide (12 < (c_.length : Int))) false (by kernel_rfl) (fun w => by kernel_rfl) hb1 ?_
        have gx1 := (M.ite_some gx1).2 hb1
        obtain ⟨x2, hx1, gx1⟩ := M.bind_some gx1
        have gx1 := M.ret_some gx1
        refine QRun_b [.slice ac_ c_.length cc_] 4 _ (by kernel_rfl) (fun w => by kernel_rfl) ?_
        refine QRun_y (.bool x2) (by kernel_rfl) (Y_callq (f := 87) (args := #[.slice ac_ c_.length cc_, .bool false]) (v := .bool x2) (by kernel_rfl) (w_spec_l01All h c_ ac_ cc_ rc_ false _ _ hx1)) ?_
        refine QRun_b [.bool (!x2)] 6 _ (by kernel_rfl) (fun w => by kernel_rfl) ?_
        refine QRun_bool (!x2) x1 (by kernel_rfl) (fun w => by kernel_rfl) gx1 ?_
        exact QRun_done [0, 11] (by kernel_rfl) (by kernel_rfl)
    exact QRun_done [0, 11] (by kernel_rfl) (by kernel_rfl)
  refine Run_cond (b := x1) (by kernel_rfl) (fun hb2 => ?_) (fun hb2 => ?_)
  · have hF := (M.ite_some hF).1 hb2
    refine Run_seq ?_
    refine Run_reg 1 (by kernel_rfl) (L' := [(2, .bool false)]) ?_ ?_
    · refine QRun_b [.bool false] 0 _ (by kernel_rfl) (fun w => by kernel_rfl) ?_
      exact QRun_done [2] (by kernel_rfl) (by kernel_rfl)
    have hF := M.ret_some hF
    subst hF
    exact Run_ret1 rfl (ResV_tmp (v := .bool false) (by kernel_rfl)) ⟨rfl, rfl⟩
  · have hF := (M.ite_some hF).2 hb2
    refine Run_skip ?_
    refine Run_seq ?_
    refine Run_seq ?_
    refine Run_reg 1 (by kernel_rfl) (L' := [(0, .slice ac_ c_.length cc_), (3, .int .i64 0)]) ?_ ?_
    · refine QRun_b [.int .i64 0] 0 _ (by kernel_rfl) (fun w => by kernel_rfl) ?_
      exact QRun_done [0, 3] (by kernel_rfl) (by kernel_rfl)
    obtain ⟨x3, gx3, hF⟩ := M.bind_some hF
    obtain ⟨hloy1, hhiy1, gx3⟩ := M.for_start gx3
    refine Run_join (fun L' h' => ∃ (s2 : Unit), x3 = .inl s2 ∧ L' = [] ∧ h = h') ?_ ?_
    · rintro _ _ ⟨s2, es2, rfl, rfl⟩
      have hF := M.cont_inl' hF es2
      refine Run_seq ?_
      refine Run_reg 1 (by kernel_rfl) (L' := [(2, .bool false)]) ?_ ?_
      · refine QRun_b [.bool false] 0 _ (by kernel_rfl) (fun w => by kernel_rfl) ?_
        exact QRun_done [2] (by kernel_rfl) (by kernel_rfl)
      have hF := M.ret_some hF
      subst hF
      exact Run_ret1 rfl (ResV_tmp (v := .bool false) (by kernel_rfl)) ⟨rfl, rfl⟩
    · refine Run_block ?_
      refine Run_keep [0, 3] (L' := [(0, .slice ac_ c_.length cc_), (3, .int .i64 0)]) (by kernel_rfl) ?_
      refine Run_loop (fun m L' h' => ∃ (i1 : Int) (s1 : Unit), 0 ≤ i1 ∧ M.forN (c_.length : Int) _ _ n m i1 s1 = some x3 ∧ L' = [(0, .slice ac_ c_.length cc_), (3, .int .i64 i1)] ∧ h = h') ((c_.length : Int) - 0 : Int).toNat ⟨0, (), Int.le_refl _, gx3, rfl, rfl⟩ ?_
      rintro my1 _ _ ⟨i1, s1, hloy1', gx3, rfl, rfl⟩
      refine Run_seq ?_
      refine Run_seq ?_
      refine Run_reg 4 (by kernel_rfl) (L' := [(0, .slice ac_ c_.length cc_), (3, .int .i64 i1), (15, .bool (decide (i1 < (c_.length : Int))))]) ?_ ?_
      · refine QRun_b [.int .i64 i1, .slice ac_ c_.length cc_, .int .i64 (c_.length : Int), .bool (decide (i1 < (c_.length : Int)))] 0 _ (by kernel_rfl) (fun w => by kernel_rfl) ?_
        exact QRun_done [0, 3, 15] (by kernel_rfl) (by kernel_rfl)
      refine Run_cond (b := decide (i1 < (c_.length : Int))) (by kernel_rfl) (fun hb3 => ?_) (fun hb3 => ?_)
      · obtain ⟨my1, y1, rfl, hB1, hgoy1, houty1⟩ := M.for_go gx3 hb3
        have hlty1 := of_decide_eq_true hb3
        refine Run_skip ?_
        refine Run_seq ?_
        refine Run_block ?_
        refine Run_seq ?_
        obtain ⟨x4, hx2, hB1⟩ := M.bind_some hB1
        obtain ⟨hx2l, hx2u, hx2⟩ := M.idx_some hx2
        refine Run_reg 5 (by kernel_rfl) (L' := [(0, .slice ac_ c_.length cc_), (3, .int .i64 i1), (22, .bool (x4 != (-1000000000000000)))]) ?_ ?_
        · refine QRun_b [.slice ac_ c_.length cc_, .int .i64 i1] 0 _ (by kernel_rfl) (fun w => by kernel_rfl) ?_
          refine QRun_y (.pointer (some (adr ac_ (i1.toNat * 1)))) (by kernel_rfl) (Y_idx (t := 39) (e := 2) (sz := 1) (a := ac_) (n := c_.length) (cap := cc_) (kk := .i64) (i := i1) (by kernel_rfl) Try.underlying39 (by kernel_rfl) (rc_.cell hx2).1 hx2l hx2u) ?_
          refine QRun_y (.int .i64 x4) (by kernel_rfl) (Y_load1 (t := 2) (p := adr ac_ (i1.toNat * 1)) (v := .int .i64 x4) (by kernel_rfl) (fun w => by kernel_rfl) (cd2_cell rc_ hx2)) ?_
          refine QRun_b [.bool (x4 != (-1000000000000000))] 4 _ (by kernel_rfl) (fun w => by kernel_rfl) ?_
          exact QRun_done [0, 3, 22] (by kernel_rfl) (by kernel_rfl)
        refine Run_cond (b := x4 != (-1000000000000000)) (by kernel_rfl) (fun hb4 => ?_) (fun hb4 => ?_)
        · have hB1 := (M.ite_some hB1).1 hb4
          refine Run_seq ?_
          refine Run_reg 1 (by kernel_rfl) (L' := [(2, .bool true)]) ?_ ?_
          · refine QRun_b [.bool true] 0 _ (by kernel_rfl) (fun w => by kernel_rfl) ?_
            exact QRun_done [2] (by kernel_rfl) (by kernel_rfl)
          have hB1 := M.ret_some hB1
          have gx3 := houty1 _ hB1.symm
          have hF := M.cont_inr' hF gx3
          have hF := M.ret_some hF
          subst hF
          exact Run_ret1 rfl (ResV_tmp (v := .bool true) (by kernel_rfl)) ⟨rfl, rfl⟩
        · have hB1 := (M.ite_some hB1).2 hb4
          refine Run_skip ?_
          refine Run_blk ?_
          refine Run_reg 3 (by kernel_rfl) (L' := [(0, .slice ac_ c_.length cc_), (3, .int .i64 (i1 + 1))]) ?_ ?_
          · refine QRun_b [.int .i64 i1] 0 _ (by kernel_rfl) (fun w => by kernel_rfl) ?_
            refine QRun_y (.int .i64 (i1 + 1)) (by kernel_rfl) (Y_eq (v := .int .i64 (w64 (i1 + 1))) (Y_pure (fun w => by kernel_rfl)) (by rw [w64_eq _ (by omega)])) ?_
            refine QRun_b [.int .i64 (i1 + 1)] 2 _ (by kernel_rfl) (fun w => by kernel_rfl) ?_
            exact QRun_done [0, 3] (by kernel_rfl) (by kernel_rfl)
          have hB1 := M.ret_some hB1
          have gx3 := hgoy1 _ hB1.symm
          exact Run_again [0, 3] (by kernel_rfl) my1 (Nat.lt_succ_self _) ⟨i1 + 1, (), by omega, gx3, rfl, rfl⟩
      · have gx3 := M.for_end gx3 hb3
        subst gx3
        refine Run_exit (k' := _) rfl ?_
        exact Run_fall [] (by kernel_rfl) ⟨(), rfl, rfl, rfl⟩

set_option maxRecDepth 100000 in
set_option maxHeartbeats 4000000 in
theorem w_spec_CharPolynomial (h : Heap) (a_ : List (List Int)) (aa_ : Option Addr) (ca_ : Nat) (ra_ : Rd cd39 h (Lt h) aa_ ca_ a_) (n : Nat) (r : (List Int) × Int) (hF : spec_CharPolynomial a_ n = some r) :
    Fn Try.prog 64 #[.slice aa_ a_.length ca_] h fun v h' => ∃ (a0 : Option Addr) (c0 : Nat), v = .tuple #[.slice a0 r.1.length c0, .int .i64 r.2] ∧ Hold h h' [own cd2 a0 r.1.length c0 r.1] := by
  unfold spec_CharPolynomial at hF
  refine Fn_enter (args := [.slice aa_ a_.length ca_]) Try.func64 rfl (by kernel_rfl) (by kernel_rfl) (fun w0 _ => ?_)
  have H0 := Hold.init h
  refine Run_seq ?_
  refine Run_reg 2 (by kernel_rfl) (L' := [(0, .slice aa_ a_.length ca_)]) ?_ ?_
  · refine QRun_b [.slice none 0 0, .int .i64 0] 0 _ (by kernel_rfl) (fun w => by kernel_rfl) ?_
    exact QRun_done [0] (by kernel_rfl) (by kernel_rfl)
  refine Run_seq ?_
  refine Run_seq ?_
  obtain ⟨x1, hx1, hF⟩ := M.bind_some hF
  refine Run_reg 3 (by kernel_rfl) (L' := [(0, .slice aa_ a_.length ca_), (11, .bool (!x1))]) ?_ ?_
  · refine QRun_b [.slice aa_ a_.length ca_] 0 _ (by kernel_rfl) (fun w => by kernel_rfl) ?_
    refine QRun_y (.bool x1) (by kernel_rfl) (Y_callq (f := 82) (args := #[.slice aa_ a_.length ca_]) (v := .bool x1) (by kernel_rfl) (w_spec_l02Square h a_ aa_ ca_ ra_ _ _ hx1)) ?_
    refine QRun_b [.bool (!x1)] 2 _ (by kernel_rfl) (fun w => by kernel_rfl) ?_
    exact QRun_done [0, 11] (by kernel_rfl) (by kernel_rfl)
  refine Run_cond (b := !x1) (by kernel_rfl) (fun hb1 => ?_) (fun hb1 => ?_)
  · have hF := (M.ite_some hF).1 hb1
    refine Run_seq ?_
    refine Run_reg 2 (by kernel_rfl) (L' := [(2, .slice none 0 0), (3, .int .i64 1)]) ?_ ?_
    · refine QRun_b [.slice none 0 0, .int .i64 1] 0 _ (by kernel_rfl) (fun w => by kernel_rfl) ?_
      exact QRun_done [2, 3] (by kernel_rfl) (by kernel_rfl)
    have hF := M.ret_some hF
    subst hF
    have H1 := H0.empty cd2
    exact Run_ret2 rfl (ResV_tmp (v := .slice none 0 0) (by kernel_rfl)) (ResV_tmp (v := .int .i64 1) (by kernel_rfl)) ⟨none, 0, rfl, H1⟩
  · have hF := (M.ite_some hF).2 hb1
    refine Run_skip ?_
    refine Run_seq ?_
    refine Run_reg 3 (by kernel_rfl) (L' := [(0, .slice aa_ a_.length ca_), (4, .int .i64 (a_.length : Int))]) ?_ ?_
    · refine QRun_b [.slice aa_ a_.length ca_, .int .i64 (a_.length : Int), .int .i64 (a_.length : Int)] 0 _ (by kernel_rfl) (fun w => by kernel_rfl) ?_
      exact QRun_done [0, 4] (by kernel_rfl) (by kernel_rfl)
    refine Run_seq ?_
    refine Run_ops ?_
    refine Run_b [.int .i64 (a_.length : Int), .int .i64 (w64 ((a_.length : Int) + 1))] 0 _ (by kernel_rfl) (fun w => by kernel_rfl) ?_
    obtain ⟨x2, hx2, hF⟩ := M.bind_some hF
    refine Run_E (by kernel_rfl) ?_
    refine E_call (f := 84) (args := #[.int .i64 1, .int .i64 (w64 ((a_.length : Int) + 1))]) (w_spec_l02Bottom h 1 (w64 ((a_.length : Int) + 1)) _ _ hx2) (by kernel_rfl) (fun v1 h1 hp1 => ?_)
    obtain ⟨a1, c1, rfl, H2⟩ := hp1
    have H3 : Hold h h1 [own cd39 a1 x2.length c1 x2] := H0.call H2 rfl
    obtain ⟨x3, hx3, hF⟩ := M.bind_some hF
    obtain ⟨hx3l, hx3u, hx3⟩ := M.idx_some hx3
    obtain ⟨a2, c2, hc1, H4⟩ := H3.takeRow hx3
    refine Run_y (.pointer (some (adr a1 (0 * 1)))) (by kernel_rfl) (Y_idx (t := 37) (e := 39) (sz := 1) (a := a1) (n := x2.length) (cap := c1) (kk := .i64) (i := 0) (by kernel_rfl) Try.underlying37 (by kernel_rfl) ((H3.rd 0 rfl).cell hx3).1 hx3l hx3u) ?_
    refine Run_y (.slice a2 x3.length c2) (by kernel_rfl) (Y_load1 (t := 39) (p := adr a1 (0 * 1)) (v := .slice a2 x3.length c2) (by kernel_rfl) (fun w => by kernel_rfl) hc1) ?_
    refine Run_b [.slice a2 x3.length c2] 5 _ (by kernel_rfl) (fun w => by kernel_rfl) ?_
    refine Run_nil (by kernel_rfl) ?_
    refine Run_keep [0, 4, 5] (L' := [(0, .slice aa_ a_.length ca_), (4, .int .i64 (a_.length : Int)), (5, .slice a2 x3.length c2)]) (by kernel_rfl) ?_
    refine Run_seq ?_
    refine Run_seq ?_
    refine Run_reg 1 (by kernel_rfl) (L' := [(0, .slice aa_ a_.length ca_), (4, .int .i64 (a_.length : Int)), (5, .slice a2 x3.length c2), (6, .int .i64 0)]) ?_ ?_
    · refine QRun_b [.int .i64 0] 0 _ (by kernel_rfl) (fun w => by kernel_rfl) ?_
      exact QRun_done [0, 4, 5, 6] (by kernel_rfl) (by kernel_rfl)
    obtain ⟨x4, gx4, hF⟩ := M.bind_some hF
    refine Run_join (fun L' h' => L' = [(5, .slice a2 x3.length c2)] ∧ Hold h h' [own cd2 a2 x3.length c2 x4.1]) ?_ ?_
    · rintro _ h3 ⟨rfl, H6⟩
      refine Run_seq ?_
      refine Run_seq ?_
      obtain ⟨x9, hx7, hF⟩ := M.bind_some hF
      refine Run_reg 3 (by kernel_rfl) (L' := [(5, .slice a2 x3.length c2), (61, .bool (!x9))]) ?_ ?_
      · refine QRun_b [.slice a2 x3.length c2] 0 _ (by kernel_rfl) (fun w => by kernel_rfl) ?_
        refine QRun_y (.bool x9) (by kernel_rfl) (Y_callq (f := 116) (args := #[.slice a2 x3.length c2]) (v := .bool x9) (by kernel_rfl) (Fn.arg (w_spec_IsPolynomial h3 x4.1 a2 c2 (H6.rd 0 rfl) _ _ hx7) (by simp only [(H6.len 0 rfl)]))) ?_
        refine QRun_b [.bool (!x9)] 2 _ (by kernel_rfl) (fun w => by kernel_rfl) ?_
        exact QRun_done [5, 61] (by kernel_rfl) (by kernel_rfl)
      refine Run_cond (b := !x9) (by kernel_rfl) (fun hb5 => ?_) (fun hb5 => ?_)
      · have hF := (M.ite_some hF).1 hb5
        refine Run_seq ?_
        refine Run_reg 2 (by kernel_rfl) (L' := [(2, .slice none 0 0), (3, .int .i64 3)]) ?_ ?_
        · refine QRun_b [.slice none 0 0, .int .i64 3] 0 _ (by kernel_rfl) (fun w => by kernel_rfl) ?_
          exact QRun_done [2, 3] (by kernel_rfl) (by kernel_rfl)
        have hF := M.ret_some hF
        subst hF
        have H29 := H6.empty cd2
        have H30 : Hold h h3 [own cd2 none 0 0 []] := H29.pick [0] (by kernel_rfl)
        exact Run_ret2 rfl (ResV_tmp (v := .slice none 0 0) (by kernel_rfl)) (ResV_tmp (v := .int .i64 3) (by kernel_rfl)) ⟨none, 0, rfl, H30⟩
      · have hF := (M.ite_some hF).2 hb5
        refine Run_skip ?_
        refine Run_seq ?_
        refine Run_reg 3 (by kernel_rfl) (L' := [(2, .slice a2 x3.length c2), (3, .int .i64 0)]) ?_ ?_
        · refine QRun_b [.slice a2 x3.length c2, .slice a2 x3.length c2, .int .i64 0] 0 _ (by kernel_rfl) (fun w => by kernel_rfl) ?_
          exact QRun_done [2, 3] (by kernel_rfl) (by kernel_rfl)
        have hF := M.ret_some hF
        subst hF
        have H31 := H6.norm
        exact Run_ret2 rfl (ResV_tmp (v := .slice a2 x3.length c2) (by kernel_rfl)) (ResV_tmp (v := .int .i64 0) (by kernel_rfl)) ⟨a2, c2, (by simp only [(H6.len 0 rfl)]), H31⟩
    · refine Run_block ?_
      have H32 : Hold h h1 [own cd2 a2 x3.length c2 x3] := H4.pick [0] (by kernel_rfl)
      refine Run_keep [0, 4, 5, 6] (L' := [(0, .slice aa_ a_.length ca_), (4, .int .i64 (a_.length : Int)), (5, .slice a2 x3.length c2), (6, .int .i64 0)]) (by kernel_rfl) ?_
      refine Run_loop (fun m L' h' => ∃ (s1 : (List Int) × Int), M.loopN _ n m s1 = some x4 ∧ L' = [(0, .slice aa_ a_.length ca_), (4, .int .i64 (a_.length : Int)), (5, .slice a2 x3.length c2), (6, .int .i64 s1.2)] ∧ Hold h h' [own cd2 a2 x3.length c2 s1.1]) n ⟨(x3, 0), gx4, rfl, H32⟩ ?_
      rintro my1 _ h2 ⟨s1, gx4, rfl, H5⟩
      obtain ⟨my1, y1, rfl, hB1, hgoy1, houty1⟩ := M.loop_some gx4
      refine Run_seq ?_
      refine Run_seq ?_
      obtain ⟨u1, hz1, hB1⟩ := M.bind_some hB1
      have hz1 := M.guard_some hz1
      refine Run_reg 5 (by kernel_rfl) (L' := [(0, .slice aa_ a_.length ca_), (4, .int .i64 (a_.length : Int)), (5, .slice a2 x3.length c2), (6, .int .i64 s1.2), (23, .bool (decide (s1.2 < (ishl .i64 1 (IntKind.u64.wrap ((a_.length : Int)))))))]) ?_ ?_
      · refine QRun_b [.int .i64 s1.2, .int .i64 (a_.length : Int), .int .u64 (IntKind.u64.wrap ((a_.length : Int)))] 0 _ (by kernel_rfl) (fun w => by kernel_rfl) ?_
        refine QRun_y (.int .i64 (ishl .i64 1 (IntKind.u64.wrap ((a_.length : Int))))) (by kernel_rfl) (Y_shl (k := .i64) (x := 1) (kk := .u64) (y := IntKind.u64.wrap ((a_.length : Int))) (by kernel_rfl) hz1) ?_
        refine QRun_b [.bool (decide (s1.2 < (ishl .i64 1 (IntKind.u64.wrap ((a_.length : Int))))))] 4 _ (by kernel_rfl) (fun w => by kernel_rfl) ?_
        exact QRun_done [0, 4, 5, 6, 23] (by kernel_rfl) (by kernel_rfl)
      refine Run_cond (b := decide (s1.2 < (ishl .i64 1 (IntKind.u64.wrap ((a_.length : Int)))))) (by kernel_rfl) (fun hb2 => ?_) (fun hb2 => ?_)
      · have hB1 := (M.ite_some hB1).1 hb2
        refine Run_skip ?_
        refine Run_seq ?_
        refine Run_block ?_
        refine Run_seq ?_
        refine Run_ops ?_
        refine Run_E (by kernel_rfl) ?_
        refine E_lit (C := cd2) (n := 0) (l := ([] : List Int)) (cs := []) H5 (fun w => by kernel_rfl) (Enc.nil _ _) rfl (by decide) (fun a3 h4 H7 => ?_)
        refine Run_b [.slice a3 0 0] 1 _ (by kernel_rfl) (fun w => by kernel_rfl) ?_
        refine Run_nil (by kernel_rfl) ?_
        refine Run_keep [0, 4, 5, 6, 7] (L' := [(0, .slice aa_ a_.length ca_), (4, .int .i64 (a_.length : Int)), (5, .slice a2 x3.length c2), (6, .int .i64 s1.2), (7, .slice a3 0 0)]) (by kernel_rfl) ?_
        refine Run_seq ?_
        refine Run_seq ?_
        refine Run_reg 1 (by kernel_rfl) (L' := [(0, .slice aa_ a_.length ca_), (4, .int .i64 (a_.length : Int)), (5, .slice a2 x3.length c2), (6, .int .i64 s1.2), (7, .slice a3 0 0), (8, .int .i64 0)]) ?_ ?_
        · refine QRun_b [.int .i64 0] 0 _ (by kernel_rfl) (fun w => by kernel_rfl) ?_
          exact QRun_done [0, 4, 5, 6, 7, 8] (by kernel_rfl) (by kernel_rfl)
        obtain ⟨x5, gx5, hB1⟩ := M.bind_some hB1
        obtain ⟨hloy2, hhiy2, gx5⟩ := M.for_start gx5
        refine Run_join (fun L' h' => ∃ (a5 : Option Addr) (c4 : Nat), L' = [(0, .slice aa_ a_.length ca_), (4, .int .i64 (a_.length : Int)), (5, .slice a2 x3.length c2), (6, .int .i64 s1.2), (7, .slice a5 x5.length c4)] ∧ Hold h h' [own cd2 a2 x3.length c2 s1.1, own cd2 a5 x5.length c4 x5]) ?_ ?_
        · rintro _ h6 ⟨a5, c4, rfl, H9⟩
          obtain ⟨x6, hx4, hB1⟩ := M.bind_some hB1
          obtain ⟨hx4l, hx4u, hx4⟩ := M.idx_some hx4
          obtain ⟨x7, hx5, hB1⟩ := M.bind_some hB1
          obtain ⟨x8, hx6, hB1⟩ := M.bind_some hB1
          obtain ⟨hx6l, hx6u, hx6⟩ := M.idx_some hx6
          refine Run_D (fun x => Hold h x [own cd2 a2 x3.length c2 s1.1, own cd2 a5 x5.length c4 x5]) (fun x => Hold h x [own cd2 a2 x3.length c2 s1.1, own cd2 a5 x5.length c4 x5]) mixed (by kernel_rfl) H9 Hold.stable (fun x Hy => (show Hold h x [own cd2 a2 x3.length c2 s1.1, own cd2 a5 x5.length c4 x5] from Hy).pick [0, 1] (by kernel_rfl)) ?_
          refine DR_b 8 [.slice a2 x3.length c2, .int .i64 (a_.length : Int), .slice a5 x5.length c4, .int .i64 (x5.length : Int), .int .i64 (w64 ((a_.length : Int) - (x5.length : Int))), .slice a2 x3.length c2, .int .i64 (a_.length : Int), .slice a5 x5.length c4, .int .i64 (x5.length : Int), .int .i64 (w64 ((a_.length : Int) - (x5.length : Int)))] 0 (by kernel_rfl) (by kernel_rfl) (by kernel_rfl) (fun w => by kernel_rfl) ?_
          refine DR_y 7 (i := 10) (.pointer (some (adr a2 ((w64 ((a_.length : Int) - (x5.length : Int))).toNat * 1)))) (by kernel_rfl) (by kernel_rfl) (by kernel_rfl) (fun hx Hx => (YE.of (Y_idx (t := 39) (e := 2) (sz := 1) (a := a2) (n := x3.length) (cap := c2) (kk := .i64) (i := w64 ((a_.length : Int) - (x5.length : Int))) (by kernel_rfl) Try.underlying39 (by kernel_rfl) ((H9.rd 0 rfl).cell hx4).1 hx4l (by rw [← (H9.len 0 rfl)]; exact hx4u)))) ?_
          refine DR_y 6 (i := 11) (.int .i64 x6) (by kernel_rfl) (by kernel_rfl) (by kernel_rfl) (fun hx Hx => (YE.of (Y_load1 (t := 2) (p := adr a2 ((w64 ((a_.length : Int) - (x5.length : Int))).toNat * 1)) (v := .int .i64 x6) (by kernel_rfl) (fun w => by kernel_rfl) (cd2_cell (Hx.rd 0 rfl) hx4)))) ?_
          refine DR_b 4 [.slice aa_ a_.length ca_, .slice a5 x5.length c4] 12 (by kernel_rfl) (by kernel_rfl) (by kernel_rfl) (fun w => by kernel_rfl) ?_
          refine DR_y 3 (i := 14) (.int .i64 x7) (by kernel_rfl) (by kernel_rfl) (by kernel_rfl) (fun hx Hx => (YE_call (f := 135) (args := #[.slice aa_ a_.length ca_, .slice a5 x5.length c4]) (v := .int .i64 x7) (by kernel_rfl) ((w_spec_l10Part hx a_ aa_ ca_ (ra_.at Hx.ext) x5 a5 c4 (Hx.rd 1 rfl) _ _ hx5).mono fun _ _ ⟨e, H'⟩ => ⟨e, H'.ext⟩))) ?_
          refine DR_b 2 [.int .i64 (mx x6 x7)] 15 (by kernel_rfl) (by kernel_rfl) (by kernel_rfl) (fun w => by kernel_rfl) ?_
          refine DR_y 1 (i := 16) (.pointer (some (adr a2 ((w64 ((a_.length : Int) - (x5.length : Int))).toNat * 1)))) (by kernel_rfl) (by kernel_rfl) (by kernel_rfl) (fun hx Hx => (YE.of (Y_idx (t := 39) (e := 2) (sz := 1) (a := a2) (n := x3.length) (cap := c2) (kk := .i64) (i := w64 ((a_.length : Int) - (x5.length : Int))) (by kernel_rfl) Try.underlying39 (by kernel_rfl) ((H9.rd 0 rfl).cell hx6).1 hx6l (by rw [← (H9.len 0 rfl)]; exact hx6u)))) ?_
          refine DR_tail (i := 17) (by kernel_rfl) (by kernel_rfl) (by kernel_rfl) (fun h10 H23 => ?_)
          have H24 : Hold h h10 [own cd2 a2 x3.length c2 s1.1, own cd2 a5 x5.length c4 x5] := H23
          obtain ⟨l2, hu1, hB1⟩ := M.bind_some hB1
          have hu1 := M.upd_some hu1
          refine Run_E (by kernel_rfl) ?_
          refine E_put (C := cd2) (t := 2) (sz := 1) (j := w64 ((a_.length : Int) - (x5.length : Int))) (x := (mx x6 x7)) (v := .int .i64 (mx x6 x7)) H24 cd2_flat (by kernel_rfl) rfl (cd2_own _) (by kernel_rfl) hu1 (fun h11 H25 => ?_)
          refine Run_nil (by kernel_rfl) ?_
          refine Run_keep [0, 4, 5, 6] (L' := [(0, .slice aa_ a_.length ca_), (4, .int .i64 (a_.length : Int)), (5, .slice a2 x3.length c2), (6, .int .i64 s1.2)]) (by kernel_rfl) ?_
          refine Run_blk ?_
          refine Run_reg 3 (by kernel_rfl) (L' := [(0, .slice aa_ a_.length ca_), (4, .int .i64 (a_.length : Int)), (5, .slice a2 x3.length c2), (6, .int .i64 (w64 (s1.2 + 1)))]) ?_ ?_
          · refine QRun_b [.int .i64 s1.2, .int .i64 (w64 (s1.2 + 1)), .int .i64 (w64 (s1.2 + 1))] 0 _ (by kernel_rfl) (fun w => by kernel_rfl) ?_
            exact QRun_done [0, 4, 5, 6] (by kernel_rfl) (by kernel_rfl)
          have H26 : Hold h h11 [own cd2 a2 x3.length c2 l2] := H25.pick [0] (by kernel_rfl)
          have hB1 := M.ret_some hB1
          have gx4 := hgoy1 _ hB1.symm
          exact Run_again [0, 4, 5, 6] (by kernel_rfl) my1 (Nat.lt_succ_self _) ⟨(l2, (w64 (s1.2 + 1))), gx4, rfl, H26⟩
        · refine Run_block ?_
          have hn1 := (H7.len 0 rfl)
          have H27 : Hold h h4 [own cd2 a3 (([] : List Int).length) 0 ([] : List Int), own cd2 a2 x3.length c2 s1.1] := by rw [hn1]; exact H7
          have H28 : Hold h h4 [own cd2 a2 x3.length c2 s1.1, own cd2 a3 (([] : List Int).length) 0 ([] : List Int)] := H27.pick [1, 0] (by kernel_rfl)
          refine Run_keep [0, 4, 5, 6, 7, 8] (L' := [(0, .slice aa_ a_.length ca_), (4, .int .i64 (a_.length : Int)), (5, .slice a2 x3.length c2), (6, .int .i64 s1.2), (7, .slice a3 (([] : List Int).length) 0), (8, .int .i64 0)]) (by first | (rw [hn1]; kernel_rfl) | (simp only [hn1]; kernel_rfl) | kernel_rfl) ?_
          refine Run_loop (fun m L' h' => ∃ (i1 : Int) (s2 : (List Int)) (a4 : Option Addr) (c3 : Nat), 0 ≤ i1 ∧ M.forN (a_.length : Int) _ _ n m i1 s2 = some x5 ∧ L' = [(0, .slice aa_ a_.length ca_), (4, .int .i64 (a_.length : Int)), (5, .slice a2 x3.length c2), (6, .int .i64 s1.2), (7, .slice a4 s2.length c3), (8, .int .i64 i1)] ∧ Hold h h' [own cd2 a2 x3.length c2 s1.1, own cd2 a4 s2.length c3 s2]) ((a_.length : Int) - 0 : Int).toNat ⟨0, ([] : List Int), a3, 0, Int.le_refl _, gx5, rfl, H28⟩ ?_
          rintro my2 _ h5 ⟨i1, s2, a4, c3, hloy2', gx5, rfl, H8⟩
          refine Run_seq ?_
          refine Run_seq ?_
          refine Run_reg 3 (by kernel_rfl) (L' := [(0, .slice aa_ a_.length ca_), (4, .int .i64 (a_.length : Int)), (5, .slice a2 x3.length c2), (6, .int .i64 s1.2), (7, .slice a4 s2.length c3), (8, .int .i64 i1), (29, .bool (decide (i1 < (a_.length : Int))))]) ?_ ?_
          · refine QRun_b [.int .i64 i1, .int .i64 (a_.length : Int), .bool (decide (i1 < (a_.length : Int)))] 0 _ (by kernel_rfl) (fun w => by kernel_rfl) ?_
            exact QRun_done [0, 4, 5, 6, 7, 8, 29] (by kernel_rfl) (by kernel_rfl)
          refine Run_cond (b := decide (i1 < (a_.length : Int))) (by kernel_rfl) (fun hb3 => ?_) (fun hb3 => ?_)
          · obtain ⟨my2, y2, rfl, hB2, hgoy2, houty2⟩ := M.for_go gx5 hb3
            have hlty2 := of_decide_eq_true hb3
            refine Run_skip ?_
            refine Run_seq ?_
            refine Run_block ?_
            refine Run_seq ?_
            obtain ⟨u2, hz2, hB2⟩ := M.bind_some hB2
            have hz2 := M.guard_some hz2
            refine Run_reg 6 (by kernel_rfl) (L' := [(0, .slice aa_ a_.length ca_), (4, .int .i64 (a_.length : Int)), (5, .slice a2 x3.length c2), (6, .int .i64 s1.2), (7, .slice a4 s2.length c3), (8, .int .i64 i1), (37, .bool ((ibit .and .i64 (ishr .i64 s1.2 (IntKind.u64.wrap (i1))) 1) == 1))]) ?_ ?_
            · refine QRun_b [.int .i64 s1.2, .int .i64 i1, .int .u64 (IntKind.u64.wrap (i1))] 0 _ (by kernel_rfl) (fun w => by kernel_rfl) ?_
              refine QRun_y (.int .i64 (ishr .i64 s1.2 (IntKind.u64.wrap (i1)))) (by kernel_rfl) (Y_shr (k := .i64) (x := s1.2) (kk := .u64) (y := IntKind.u64.wrap (i1)) (by kernel_rfl) hz2) ?_
              refine QRun_b [.int .i64 (ibit .and .i64 (ishr .i64 s1.2 (IntKind.u64.wrap (i1))) 1), .bool ((ibit .and .i64 (ishr .i64 s1.2 (IntKind.u64.wrap (i1))) 1) == 1)] 4 _ (by kernel_rfl) (fun w => by kernel_rfl) ?_
              exact QRun_done [0, 4, 5, 6, 7, 8, 37] (by kernel_rfl) (by kernel_rfl)
            obtain ⟨s3, gs3, hB2⟩ := M.bind_some hB2
            refine Run_join (fun L' h' => ∃ (a8 : Option Addr), ∃ (c6 : Nat), L' = [(0, .slice aa_ a_.length ca_), (4, .int .i64 (a_.length : Int)), (5, .slice a2 x3.length c2), (6, .int .i64 s1.2), (7, .slice a8 s3.length c6), (8, .int .i64 i1)] ∧ Hold h h' [own cd2 a2 x3.length c2 s1.1, own cd2 a8 s3.length c6 s3]) ?_ ?_
            · rintro _ h9 ⟨a8, c6, rfl, H15⟩
              refine Run_blk ?_
              refine Run_reg 3 (by kernel_rfl) (L' := [(0, .slice aa_ a_.length ca_), (4, .int .i64 (a_.length : Int)), (5, .slice a2 x3.length c2), (6, .int .i64 s1.2), (7, .slice a8 s3.length c6), (8, .int .i64 (i1 + 1))]) ?_ ?_
              · refine QRun_b [.int .i64 i1] 0 _ (by kernel_rfl) (fun w => by kernel_rfl) ?_
                refine QRun_y (.int .i64 (i1 + 1)) (by kernel_rfl) (Y_eq (v := .int .i64 (w64 (i1 + 1))) (Y_pure (fun w => by kernel_rfl)) (by rw [w64_eq _ (by omega)])) ?_
                refine QRun_b [.int .i64 (i1 + 1)] 2 _ (by kernel_rfl) (fun w => by kernel_rfl) ?_
                exact QRun_done [0, 4, 5, 6, 7, 8] (by kernel_rfl) (by kernel_rfl)
              have H19 : Hold h h9 [own cd2 a8 s3.length c6 s3, own cd2 a2 x3.length c2 s1.1] := H15.pick [1, 0] (by kernel_rfl)
              have H20 : Hold h h9 [own cd2 a2 x3.length c2 s1.1, own cd2 a8 s3.length c6 s3] := H19.pick [1, 0] (by kernel_rfl)
              have hB2 := M.ret_some hB2
              have gx5 := hgoy2 _ hB2.symm
              exact Run_again [0, 4, 5, 6, 7, 8] (by kernel_rfl) my2 (Nat.lt_succ_self _) ⟨i1 + 1, s3, a8, c6, by omega, gx5, rfl, H20⟩
            · refine Run_cond (b := (ibit .and .i64 (ishr .i64 s1.2 (IntKind.u64.wrap (i1))) 1) == 1) (by kernel_rfl) (fun hb4 => ?_) (fun hb4 => ?_)
              · have gs3 := (M.ite_some gs3).1 hb4
                refine Run_ops ?_
                refine Run_b [.slice a4 s2.length c3, .int .i64 i1] 0 _ (by kernel_rfl) (fun w => by kernel_rfl) ?_
                refine Run_E (by kernel_rfl) ?_
                refine E_lit (C := cd2) (n := 1) (l := ([i1] : List Int)) (cs := [.int .i64 i1]) H8 (fun w => by kernel_rfl) (Enc.consE (cd2_own i1 _) (Enc.nil _ _) rfl) rfl (by decide) (fun a6 h7 H10 => ?_)
                obtain ⟨l1, hl1, gs3⟩ := M.bind_some gs3
                have hl1 := M.app_some hl1
                have H11 : Hold h h7 [own cd2 a4 s2.length c3 s2, own cd2 a6 1 1 ([i1] : List Int), own cd2 a2 x3.length c2 s1.1] := H10.pick [2, 0, 1] (by kernel_rfl)
                have H12 : Hold h h7 [own cd2 a6 1 1 ([i1] : List Int), own cd2 a4 s2.length c3 s2, own cd2 a2 x3.length c2 s1.1] := H11.pick [1, 0, 2] (by kernel_rfl)
                have H13 : Hold h h7 [own cd2 a4 s2.length c3 s2, own cd2 a6 1 1 ([i1] : List Int), own cd2 a2 x3.length c2 s1.1] := H12.pick [1, 0, 2] (by kernel_rfl)
                refine Run_E (by kernel_rfl) ?_
                refine E_app (C := cd2) (t := 39) (ty := 39) (n := s2.length) (m := 1) H13 cd2_ti rfl Try.underlying39 (by decide) (by kernel_rfl) hl1 (fun a7 c5 h8 H14 => ?_)
                refine Run_b [.slice a7 l1.length c5] 4 _ (by kernel_rfl) (fun w => by kernel_rfl) ?_
                refine Run_nil (by kernel_rfl) ?_
                refine Run_keep [0, 4, 5, 6, 7, 8] (L' := [(0, .slice aa_ a_.length ca_), (4, .int .i64 (a_.length : Int)), (5, .slice a2 x3.length c2), (6, .int .i64 s1.2), (7, .slice a7 l1.length c5), (8, .int .i64 i1)]) (by kernel_rfl) ?_
                have H16 : Hold h h8 [own cd2 a2 x3.length c2 s1.1, own cd2 a7 l1.length c5 l1] := H14.pick [1, 0] (by kernel_rfl)
                have gs3 := M.ret_some gs3
                subst gs3
                exact Run_fall [0, 4, 5, 6, 7, 8] (by kernel_rfl) ⟨a7, c5, rfl, H16⟩
              · have gs3 := (M.ite_some gs3).2 hb4
                refine Run_skip ?_
                have H17 : Hold h h5 [own cd2 a4 s2.length c3 s2, own cd2 a2 x3.length c2 s1.1] := H8.pick [1, 0] (by kernel_rfl)
                have H18 : Hold h h5 [own cd2 a2 x3.length c2 s1.1, own cd2 a4 s2.length c3 s2] := H17.pick [1, 0] (by kernel_rfl)
                have gs3 := M.ret_some gs3
                subst gs3
                exact Run_fall [0, 4, 5, 6, 7, 8] (by kernel_rfl) ⟨a4, c3, rfl, H18⟩
          · have gx5 := M.for_end gx5 hb3
            subst gx5
            refine Run_exit (k' := _) rfl ?_
            have H21 : Hold h h5 [own cd2 a4 s2.length c3 s2, own cd2 a2 x3.length c2 s1.1] := H8.pick [1, 0] (by kernel_rfl)
            have H22 : Hold h h5 [own cd2 a2 x3.length c2 s1.1, own cd2 a4 s2.length c3 s2] := H21.pick [1, 0] (by kernel_rfl)
            exact Run_fall [0, 4, 5, 6, 7] (by kernel_rfl) ⟨a4, c3, rfl, H22⟩
      · have hB1 := (M.ite_some hB1).2 hb2
        refine Run_exit (k' := _) rfl ?_
        have hB1 := M.ret_some hB1
        have gx4 := houty1 _ hB1.symm
        subst gx4
        exact Run_fall [5] (by kernel_rfl) ⟨rfl, H5⟩

set_option maxRecDepth 100000 in
set_option maxHeartbeats 4000000 in
theorem w_spec_DrawPrincipalPermanent (h : Heap) (code : List Int) (acode : Option Addr) (ccode : Nat) (rcode : Rd cd5 h (Lt h) acode ccode code) (n : Nat) (r : (List (List Int)) × (List Int)) (hF : spec_DrawPrincipalPermanent code n = some r) :
    Fn Try.prog 65 #[.slice acode code.length ccode] h fun v h' => ∃ (a0 : Option Addr) (c0 : Nat), ∃ (a1 : Option Addr) (c1 : Nat), v = .tuple #[.slice a0 r.1.length c0, .slice a1 r.2.length c1] ∧ Hold h h' [own cd39 a0 r.1.length c0 r.1, own cd2 a1 r.2.length c1 r.2] := by
  unfold spec_DrawPrincipalPermanent at hF
  refine Fn_enter (args := [.slice acode code.length ccode]) Try.func65 rfl (by kernel_rfl) (by kernel_rfl) (fun w0 _ => ?_)
  have H0 := Hold.init h
  refine Run_seq ?_
  refine Run_reg 2 (by kernel_rfl) (L' := [(0, .slice acode code.length ccode)]) ?_ ?_
  · refine QRun_b [.slice none 0 0, .slice none 0 0] 0 _ (by kernel_rfl) (fun w => by kernel_rfl) ?_
    exact QRun_done [0] (by kernel_rfl) (by kernel_rfl)
  refine Run_seq ?_
  refine Run_ops ?_
  refine Run_b [.slice acode code.length ccode] 0 _ (by kernel_rfl) (fun w => by kernel_rfl) ?_
  obtain ⟨x1, hx1, hF⟩ := M.bind_some hF
  refine Run_E (by kernel_rfl) ?_
  refine E_call (f := 98) (args := #[.slice acode code.length ccode]) (w_spec_l01From h code acode ccode rcode _ _ hx1) (by kernel_rfl) (fun v1 h1 hp1 => ?_)
  obtain ⟨b1, a1, c1, rfl, hd1, H1⟩ := hp1
  have H2 : Hold h h1 [box b1 155 [.slice a1 x1.code.length c1, .int .i64 x1.at_, .int .i64 x1.seed]] := H0.call H1 rfl
  have r1 := rcode.alias hd1
  refine Run_b [.pointer (some ⟨b1, 0, none⟩)] 2 _ (by kernel_rfl) (fun w => by kernel_rfl) ?_
  refine Run_nil (by kernel_rfl) ?_
  refine Run_keep [4] (L' := [(4, .pointer (some ⟨b1, 0, none⟩))]) (by kernel_rfl) ?_
  refine Run_seq ?_
  refine Run_ops ?_
  refine Run_b [.pointer (some ⟨b1, 0, none⟩)] 0 _ (by kernel_rfl) (fun w => by kernel_rfl) ?_
  obtain ⟨x2, hx2, hF⟩ := M.bind_some hF
  have H3 : Hold h h1 [box b1 155 [.slice a1 x1.code.length c1, .int .i64 x1.at_, .int .i64 x1.seed], bun []] := Hold.bundle (S := [box b1 155 [.slice a1 x1.code.length c1, .int .i64 x1.at_, .int .i64 x1.seed]]) (R := []) H2
  refine Run_E (by kernel_rfl) ?_
  refine E_call (f := 126) (args := #[.pointer (some ⟨b1, 0, none⟩)]) (w_spec_l02DrawSquare h h1 _ x1 b1 a1 c1 r1 H3 _ _ hx2) (by kernel_rfl) (fun v2 h2 hp2 => ?_)
  obtain ⟨a2, c2, rfl, H4⟩ := hp2
  have H5 : Hold h h2 [own cd39 a2 x2.1.length c2 x2.1, box b1 155 [.slice a1 x1.code.length c1, .int .i64 x2.2.at_, .int .i64 x2.2.seed]] := Hold.unbundle (S := [own cd39 a2 x2.1.length c2 x2.1, box b1 155 [.slice a1 x1.code.length c1, .int .i64 x2.2.at_, .int .i64 x2.2.seed]]) (R := []) H4 (Hold.tailBase (S := [box b1 155 [.slice a1 x1.code.length c1, .int .i64 x1.at_, .int .i64 x1.seed]]) (R := []) H2)
  refine Run_b [.slice a2 x2.1.length c2] 2 _ (by kernel_rfl) (fun w => by kernel_rfl) ?_
  refine Run_nil (by kernel_rfl) ?_
  refine Run_keep [4, 5] (L' := [(4, .pointer (some ⟨b1, 0, none⟩)), (5, .slice a2 x2.1.length c2)]) (by kernel_rfl) ?_
  refine Run_seq ?_
  refine Run_ops ?_
  refine Run_E (by kernel_rfl) ?_
  refine E_lit (C := cd2) (n := 0) (l := ([] : List Int)) (cs := []) H5 (fun w => by kernel_rfl) (Enc.nil _ _) rfl (by decide) (fun a3 h3 H6 => ?_)
  refine Run_b [.slice a3 0 0] 1 _ (by kernel_rfl) (fun w => by kernel_rfl) ?_
  refine Run_nil (by kernel_rfl) ?_
  refine Run_keep [4, 5, 6] (L' := [(4, .pointer (some ⟨b1, 0, none⟩)), (5, .slice a2 x2.1.length c2), (6, .slice a3 0 0)]) (by kernel_rfl) ?_
  refine Run_seq ?_
  refine Run_seq ?_
  refine Run_reg 1 (by kernel_rfl) (L' := [(4, .pointer (some ⟨b1, 0, none⟩)), (5, .slice a2 x2.1.length c2), (6, .slice a3 0 0), (7, .int .i64 0)]) ?_ ?_
  · refine QRun_b [.int .i64 0] 0 _ (by kernel_rfl) (fun w => by kernel_rfl) ?_
    exact QRun_done [4, 5, 6, 7] (by kernel_rfl) (by kernel_rfl)
  obtain ⟨x3, gx3, hF⟩ := M.bind_some hF
  obtain ⟨hloy1, hhiy1, gx3⟩ := M.for_start gx3
  refine Run_join (fun L' h' => ∃ (a5 : Option Addr) (c4 : Nat), L' = [(4, .pointer (some ⟨b1, 0, none⟩)), (5, .slice a2 x2.1.length c2), (6, .slice a5 x3.2.2.length c4)] ∧ Hold h h' [box b1 155 [.slice a1 x1.code.length c1, .int .i64 x3.1, .int .i64 x3.2.1], own cd39 a2 x2.1.length c2 x2.1, own cd2 a5 x3.2.2.length c4 x3.2.2]) ?_ ?_
  · rintro _ h5 ⟨a5, c4, rfl, H8⟩
    refine Run_seq ?_
    refine Run_seq ?_
    refine Run_ops ?_
    refine Run_b [.pointer (some ⟨b1, 0, none⟩)] 0 _ (by kernel_rfl) (fun w => by kernel_rfl) ?_
    obtain ⟨x5, hx4, hF⟩ := M.bind_some hF
    have H25 : Hold h h5 [box b1 155 [.slice a1 x1.code.length c1, .int .i64 x3.1, .int .i64 x3.2.1], bun [own cd39 a2 x2.1.length c2 x2.1, own cd2 a5 x3.2.2.length c4 x3.2.2]] := Hold.bundle (S := [box b1 155 [.slice a1 x1.code.length c1, .int .i64 x3.1, .int .i64 x3.2.1]]) (R := [own cd39 a2 x2.1.length c2 x2.1, own cd2 a5 x3.2.2.length c4 x3.2.2]) H8
    refine Run_E (by kernel_rfl) ?_
    refine E_call (f := 106) (args := #[.pointer (some ⟨b1, 0, none⟩), .int .i64 16]) (w_spec_l01Next h h5 _ (⟨x1.code, x3.1, x3.2.1⟩ : TL01source) b1 a1 c1 r1 16 H25 _ _ hx4) (by kernel_rfl) (fun v4 h10 hp4 => ?_)
    obtain ⟨rfl, H26⟩ := hp4
    have H27 : Hold h h10 [box b1 155 [.slice a1 x1.code.length c1, .int .i64 x5.2.at_, .int .i64 x5.2.seed], own cd39 a2 x2.1.length c2 x2.1, own cd2 a5 x3.2.2.length c4 x3.2.2] := Hold.unbundle (S := [box b1 155 [.slice a1 x1.code.length c1, .int .i64 x5.2.at_, .int .i64 x5.2.seed]]) (R := [own cd39 a2 x2.1.length c2 x2.1, own cd2 a5 x3.2.2.length c4 x3.2.2]) H26 (Hold.tailBase (S := [box b1 155 [.slice a1 x1.code.length c1, .int .i64 x3.1, .int .i64 x3.2.1]]) (R := [own cd39 a2 x2.1.length c2 x2.1, own cd2 a5 x3.2.2.length c4 x3.2.2]) H8)
    refine Run_b [.bool (x5.1 == 0)] 2 _ (by kernel_rfl) (fun w => by kernel_rfl) ?_
    refine Run_nil (by kernel_rfl) ?_
    refine Run_keep [4, 5, 6, 28] (L' := [(4, .pointer (some ⟨b1, 0, none⟩)), (5, .slice a2 x2.1.length c2), (6, .slice a5 x3.2.2.length c4), (28, .bool (x5.1 == 0))]) (by kernel_rfl) ?_
    obtain ⟨s3, gs3, hF⟩ := M.bind_some hF
    refine Run_join (fun L' h' => ∃ (a12 : Option Addr), ∃ (c8 : Nat), L' = [(5, .slice a2 x2.1.length c2), (6, .slice a12 s3.length c8)] ∧ Hold h h' [own cd39 a2 x2.1.length c2 x2.1, own cd2 a12 s3.length c8 s3]) ?_ ?_
    · rintro _ h15 ⟨a12, c8, rfl, H39⟩
      refine Run_seq ?_
      refine Run_reg 4 (by kernel_rfl) (L' := [(2, .slice a2 x2.1.length c2), (3, .slice a12 s3.length c8)]) ?_ ?_
      · refine QRun_b [.slice a2 x2.1.length c2, .slice a12 s3.length c8, .slice a2 x2.1.length c2, .slice a12 s3.length c8] 0 _ (by kernel_rfl) (fun w => by kernel_rfl) ?_
        exact QRun_done [2, 3] (by kernel_rfl) (by kernel_rfl)
      have hF := M.ret_some hF
      subst hF
      have H43 : Hold h h15 [own cd2 a12 s3.length c8 s3, own cd39 a2 x2.1.length c2 x2.1] := H39.pick [1, 0] (by kernel_rfl)
      have H44 : Hold h h15 [own cd39 a2 x2.1.length c2 x2.1, own cd2 a12 s3.length c8 s3] := H43.pick [1, 0] (by kernel_rfl)
      exact Run_ret2 rfl (ResV_tmp (v := .slice a2 x2.1.length c2) (by kernel_rfl)) (ResV_tmp (v := .slice a12 s3.length c8) (by kernel_rfl)) ⟨a2, c2, a12, c8, rfl, H44⟩
    · refine Run_cond (b := x5.1 == 0) (by kernel_rfl) (fun hb3 => ?_) (fun hb3 => ?_)
      · have gs3 := (M.ite_some gs3).1 hb3
        refine Run_ops ?_
        refine Run_b [.slice a5 x3.2.2.length c4, .pointer (some ⟨b1, 0, none⟩), .slice a2 x2.1.length c2, .int .i64 (x2.1.length : Int)] 0 _ (by kernel_rfl) (fun w => by kernel_rfl) ?_
        refine Run_E (by kernel_rfl) ?_
        refine E_lit (C := cd2) (n := 3) (l := ([(-1), 0, (x2.1.length : Int)] : List Int)) (cs := [.int .i64 (-1), .int .i64 0, .int .i64 (x2.1.length : Int)]) H27 (fun w => by kernel_rfl) (Enc.consE (cd2_own (-1) _) (Enc.consE (cd2_own 0 _) (Enc.consE (cd2_own (x2.1.length : Int) _) (Enc.nil _ _) rfl) rfl) rfl) rfl (by decide) (fun a9 h11 H28 => ?_)
        obtain ⟨x6, hx5, gs3⟩ := M.bind_some gs3
        have hn1 := (H28.len 0 rfl)
        have H29 : Hold h h11 [own cd2 a9 (([(-1), 0, (x2.1.length : Int)] : List Int).length) 3 ([(-1), 0, (x2.1.length : Int)] : List Int), box b1 155 [.slice a1 x1.code.length c1, .int .i64 x5.2.at_, .int .i64 x5.2.seed], own cd39 a2 x2.1.length c2 x2.1, own cd2 a5 x3.2.2.length c4 x3.2.2] := by rw [hn1]; exact H28
        have H30 : Hold h h11 [box b1 155 [.slice a1 x1.code.length c1, .int .i64 x5.2.at_, .int .i64 x5.2.seed], own cd2 a9 (([(-1), 0, (x2.1.length : Int)] : List Int).length) 3 ([(-1), 0, (x2.1.length : Int)] : List Int), own cd39 a2 x2.1.length c2 x2.1, own cd2 a5 x3.2.2.length c4 x3.2.2] := H29.pick [1, 0, 2, 3] (by kernel_rfl)
        have H31 : Hold h h11 [box b1 155 [.slice a1 x1.code.length c1, .int .i64 x5.2.at_, .int .i64 x5.2.seed], own cd2 a9 (([(-1), 0, (x2.1.length : Int)] : List Int).length) 3 ([(-1), 0, (x2.1.length : Int)] : List Int), bun [own cd39 a2 x2.1.length c2 x2.1, own cd2 a5 x3.2.2.length c4 x3.2.2]] := Hold.bundle (S := [box b1 155 [.slice a1 x1.code.length c1, .int .i64 x5.2.at_, .int .i64 x5.2.seed], own cd2 a9 (([(-1), 0, (x2.1.length : Int)] : List Int).length) 3 ([(-1), 0, (x2.1.length : Int)] : List Int)]) (R := [own cd39 a2 x2.1.length c2 x2.1, own cd2 a5 x3.2.2.length c4 x3.2.2]) H30
        refine Run_E (by kernel_rfl) ?_
        refine E_call (f := 107) (args := #[.pointer (some ⟨b1, 0, none⟩), .slice a9 3 3]) (Fn.arg (w_spec_l01Pick h h11 _ (⟨x1.code, x5.2.at_, x5.2.seed⟩ : TL01source) b1 a1 c1 r1 ([(-1), 0, (x2.1.length : Int)] : List Int) a9 3 H31 _ _ hx5) (by simp only [hn1])) (by kernel_rfl) (fun v5 h12 hp5 => ?_)
        obtain ⟨rfl, H32⟩ := hp5
        have H33 : Hold h h12 [box b1 155 [.slice a1 x1.code.length c1, .int .i64 x6.2.1.at_, .int .i64 x6.2.1.seed], own cd2 a9 (([(-1), 0, (x2.1.length : Int)] : List Int).length) 3 x6.2.2, own cd39 a2 x2.1.length c2 x2.1, own cd2 a5 x3.2.2.length c4 x3.2.2] := Hold.unbundle (S := [box b1 155 [.slice a1 x1.code.length c1, .int .i64 x6.2.1.at_, .int .i64 x6.2.1.seed], own cd2 a9 (([(-1), 0, (x2.1.length : Int)] : List Int).length) 3 x6.2.2]) (R := [own cd39 a2 x2.1.length c2 x2.1, own cd2 a5 x3.2.2.length c4 x3.2.2]) H32 (Hold.tailBase (S := [box b1 155 [.slice a1 x1.code.length c1, .int .i64 x5.2.at_, .int .i64 x5.2.seed], own cd2 a9 (([(-1), 0, (x2.1.length : Int)] : List Int).length) 3 ([(-1), 0, (x2.1.length : Int)] : List Int)]) (R := [own cd39 a2 x2.1.length c2 x2.1, own cd2 a5 x3.2.2.length c4 x3.2.2]) H30)
        refine Run_E (by kernel_rfl) ?_
        refine E_lit (C := cd2) (n := 1) (l := ([x6.1] : List Int)) (cs := [.int .i64 x6.1]) H33 (fun w => by kernel_rfl) (Enc.consE (cd2_own x6.1 _) (Enc.nil _ _) rfl) rfl (by decide) (fun a10 h13 H34 => ?_)
        obtain ⟨l2, hl2, gs3⟩ := M.bind_some gs3
        have hl2 := M.app_some hl2
        have H35 : Hold h h13 [own cd2 a5 x3.2.2.length c4 x3.2.2, own cd2 a10 1 1 ([x6.1] : List Int), box b1 155 [.slice a1 x1.code.length c1, .int .i64 x6.2.1.at_, .int .i64 x6.2.1.seed], own cd2 a9 (([(-1), 0, (x2.1.length : Int)] : List Int).length) 3 x6.2.2, own cd39 a2 x2.1.length c2 x2.1] := H34.pick [4, 0, 1, 2, 3] (by kernel_rfl)
        have H36 : Hold h h13 [own cd2 a10 1 1 ([x6.1] : List Int), own cd2 a5 x3.2.2.length c4 x3.2.2, box b1 155 [.slice a1 x1.code.length c1, .int .i64 x6.2.1.at_, .int .i64 x6.2.1.seed], own cd2 a9 (([(-1), 0, (x2.1.length : Int)] : List Int).length) 3 x6.2.2, own cd39 a2 x2.1.length c2 x2.1] := H35.pick [1, 0, 2, 3, 4] (by kernel_rfl)
        have H37 : Hold h h13 [own cd2 a5 x3.2.2.length c4 x3.2.2, own cd2 a10 1 1 ([x6.1] : List Int), box b1 155 [.slice a1 x1.code.length c1, .int .i64 x6.2.1.at_, .int .i64 x6.2.1.seed], own cd2 a9 (([(-1), 0, (x2.1.length : Int)] : List Int).length) 3 x6.2.2, own cd39 a2 x2.1.length c2 x2.1] := H36.pick [1, 0, 2, 3, 4] (by kernel_rfl)
        refine Run_E (by kernel_rfl) ?_
        refine E_app (C := cd2) (t := 39) (ty := 39) (n := x3.2.2.length) (m := 1) H37 cd2_ti rfl Try.underlying39 (by decide) (by kernel_rfl) hl2 (fun a11 c7 h14 H38 => ?_)
        refine Run_b [.slice a11 l2.length c7] 8 _ (by kernel_rfl) (fun w => by kernel_rfl) ?_
        refine Run_nil (by kernel_rfl) ?_
        refine Run_keep [5, 6] (L' := [(5, .slice a2 x2.1.length c2), (6, .slice a11 l2.length c7)]) (by kernel_rfl) ?_
        have H40 : Hold h h14 [own cd39 a2 x2.1.length c2 x2.1, own cd2 a11 l2.length c7 l2] := H38.pick [3, 0] (by kernel_rfl)
        have gs3 := M.ret_some gs3
        subst gs3
        exact Run_fall [5, 6] (by kernel_rfl) ⟨a11, c7, rfl, H40⟩
      · have gs3 := (M.ite_some gs3).2 hb3
        refine Run_skip ?_
        have H41 : Hold h h10 [own cd2 a5 x3.2.2.length c4 x3.2.2, box b1 155 [.slice a1 x1.code.length c1, .int .i64 x5.2.at_, .int .i64 x5.2.seed], own cd39 a2 x2.1.length c2 x2.1] := H27.pick [2, 0, 1] (by kernel_rfl)
        have H42 : Hold h h10 [own cd39 a2 x2.1.length c2 x2.1, own cd2 a5 x3.2.2.length c4 x3.2.2] := H41.pick [2, 0] (by kernel_rfl)
        have gs3 := M.ret_some gs3
        subst gs3
        exact Run_fall [5, 6] (by kernel_rfl) ⟨a5, c4, rfl, H42⟩
  · refine Run_block ?_
    have hn2 := (H6.len 0 rfl)
    have H45 : Hold h h3 [own cd2 a3 (([] : List Int).length) 0 ([] : List Int), own cd39 a2 x2.1.length c2 x2.1, box b1 155 [.slice a1 x1.code.length c1, .int .i64 x2.2.at_, .int .i64 x2.2.seed]] := by rw [hn2]; exact H6
    have H46 : Hold h h3 [box b1 155 [.slice a1 x1.code.length c1, .int .i64 x2.2.at_, .int .i64 x2.2.seed], own cd39 a2 x2.1.length c2 x2.1, own cd2 a3 (([] : List Int).length) 0 ([] : List Int)] := H45.pick [2, 1, 0] (by kernel_rfl)
    refine Run_keep [4, 5, 6, 7] (L' := [(4, .pointer (some ⟨b1, 0, none⟩)), (5, .slice a2 x2.1.length c2), (6, .slice a3 (([] : List Int).length) 0), (7, .int .i64 0)]) (by first | (rw [hn2]; kernel_rfl) | (simp only [hn2]; kernel_rfl) | kernel_rfl) ?_
    refine Run_loop (fun m L' h' => ∃ (i1 : Int) (s1 : Int × Int × (List Int)) (a4 : Option Addr) (c3 : Nat), 0 ≤ i1 ∧ M.forN (x2.1.length : Int) _ _ n m i1 s1 = some x3 ∧ L' = [(4, .pointer (some ⟨b1, 0, none⟩)), (5, .slice a2 x2.1.length c2), (6, .slice a4 s1.2.2.length c3), (7, .int .i64 i1)] ∧ Hold h h' [box b1 155 [.slice a1 x1.code.length c1, .int .i64 s1.1, .int .i64 s1.2.1], own cd39 a2 x2.1.length c2 x2.1, own cd2 a4 s1.2.2.length c3 s1.2.2]) ((x2.1.length : Int) - 0 : Int).toNat ⟨0, (x2.2.at_, x2.2.seed, ([] : List Int)), a3, 0, Int.le_refl _, gx3, rfl, H46⟩ ?_
    rintro my1 _ h4 ⟨i1, s1, a4, c3, hloy1', gx3, rfl, H7⟩
    refine Run_seq ?_
    refine Run_seq ?_
    refine Run_reg 4 (by kernel_rfl) (L' := [(4, .pointer (some ⟨b1, 0, none⟩)), (5, .slice a2 x2.1.length c2), (6, .slice a4 s1.2.2.length c3), (7, .int .i64 i1), (16, .bool (decide (i1 < (x2.1.length : Int))))]) ?_ ?_
    · refine QRun_b [.int .i64 i1, .slice a2 x2.1.length c2, .int .i64 (x2.1.length : Int), .bool (decide (i1 < (x2.1.length : Int)))] 0 _ (by kernel_rfl) (fun w => by kernel_rfl) ?_
      exact QRun_done [4, 5, 6, 7, 16] (by kernel_rfl) (by kernel_rfl)
    refine Run_cond (b := decide (i1 < (x2.1.length : Int))) (by kernel_rfl) (fun hb1 => ?_) (fun hb1 => ?_)
    · obtain ⟨my1, y1, rfl, hB1, hgoy1, houty1⟩ := M.for_go gx3 hb1
      have hlty1 := of_decide_eq_true hb1
      refine Run_skip ?_
      refine Run_seq ?_
      refine Run_block ?_
      refine Run_seq ?_
      refine Run_ops ?_
      refine Run_b [.pointer (some ⟨b1, 0, none⟩)] 0 _ (by kernel_rfl) (fun w => by kernel_rfl) ?_
      obtain ⟨x4, hx3, hB1⟩ := M.bind_some hB1
      have H9 : Hold h h4 [box b1 155 [.slice a1 x1.code.length c1, .int .i64 s1.1, .int .i64 s1.2.1], bun [own cd39 a2 x2.1.length c2 x2.1, own cd2 a4 s1.2.2.length c3 s1.2.2]] := Hold.bundle (S := [box b1 155 [.slice a1 x1.code.length c1, .int .i64 s1.1, .int .i64 s1.2.1]]) (R := [own cd39 a2 x2.1.length c2 x2.1, own cd2 a4 s1.2.2.length c3 s1.2.2]) H7
      refine Run_E (by kernel_rfl) ?_
      refine E_call (f := 106) (args := #[.pointer (some ⟨b1, 0, none⟩), .int .i64 2]) (w_spec_l01Next h h4 _ (⟨x1.code, s1.1, s1.2.1⟩ : TL01source) b1 a1 c1 r1 2 H9 _ _ hx3) (by kernel_rfl) (fun v3 h6 hp3 => ?_)
      obtain ⟨rfl, H10⟩ := hp3
      have H11 : Hold h h6 [box b1 155 [.slice a1 x1.code.length c1, .int .i64 x4.2.at_, .int .i64 x4.2.seed], own cd39 a2 x2.1.length c2 x2.1, own cd2 a4 s1.2.2.length c3 s1.2.2] := Hold.unbundle (S := [box b1 155 [.slice a1 x1.code.length c1, .int .i64 x4.2.at_, .int .i64 x4.2.seed]]) (R := [own cd39 a2 x2.1.length c2 x2.1, own cd2 a4 s1.2.2.length c3 s1.2.2]) H10 (Hold.tailBase (S := [box b1 155 [.slice a1 x1.code.length c1, .int .i64 s1.1, .int .i64 s1.2.1]]) (R := [own cd39 a2 x2.1.length c2 x2.1, own cd2 a4 s1.2.2.length c3 s1.2.2]) H7)
      refine Run_b [.bool (x4.1 == 0)] 2 _ (by kernel_rfl) (fun w => by kernel_rfl) ?_
      refine Run_nil (by kernel_rfl) ?_
      refine Run_keep [4, 5, 6, 7, 21] (L' := [(4, .pointer (some ⟨b1, 0, none⟩)), (5, .slice a2 x2.1.length c2), (6, .slice a4 s1.2.2.length c3), (7, .int .i64 i1), (21, .bool (x4.1 == 0))]) (by kernel_rfl) ?_
      obtain ⟨s2, gs2, hB1⟩ := M.bind_some hB1
      refine Run_join (fun L' h' => ∃ (a8 : Option Addr), ∃ (c6 : Nat), L' = [(4, .pointer (some ⟨b1, 0, none⟩)), (5, .slice a2 x2.1.length c2), (6, .slice a8 s2.length c6), (7, .int .i64 i1)] ∧ Hold h h' [box b1 155 [.slice a1 x1.code.length c1, .int .i64 x4.2.at_, .int .i64 x4.2.seed], own cd39 a2 x2.1.length c2 x2.1, own cd2 a8 s2.length c6 s2]) ?_ ?_
      · rintro _ h9 ⟨a8, c6, rfl, H17⟩
        refine Run_blk ?_
        refine Run_reg 3 (by kernel_rfl) (L' := [(4, .pointer (some ⟨b1, 0, none⟩)), (5, .slice a2 x2.1.length c2), (6, .slice a8 s2.length c6), (7, .int .i64 (i1 + 1))]) ?_ ?_
        · refine QRun_b [.int .i64 i1] 0 _ (by kernel_rfl) (fun w => by kernel_rfl) ?_
          refine QRun_y (.int .i64 (i1 + 1)) (by kernel_rfl) (Y_eq (v := .int .i64 (w64 (i1 + 1))) (Y_pure (fun w => by kernel_rfl)) (by rw [w64_eq _ (by omega)])) ?_
          refine QRun_b [.int .i64 (i1 + 1)] 2 _ (by kernel_rfl) (fun w => by kernel_rfl) ?_
          exact QRun_done [4, 5, 6, 7] (by kernel_rfl) (by kernel_rfl)
        have H21 : Hold h h9 [own cd2 a8 s2.length c6 s2, box b1 155 [.slice a1 x1.code.length c1, .int .i64 x4.2.at_, .int .i64 x4.2.seed], own cd39 a2 x2.1.length c2 x2.1] := H17.pick [2, 0, 1] (by kernel_rfl)
        have H22 : Hold h h9 [box b1 155 [.slice a1 x1.code.length c1, .int .i64 x4.2.at_, .int .i64 x4.2.seed], own cd39 a2 x2.1.length c2 x2.1, own cd2 a8 s2.length c6 s2] := H21.pick [1, 2, 0] (by kernel_rfl)
        have hB1 := M.ret_some hB1
        have gx3 := hgoy1 _ hB1.symm
        exact Run_again [4, 5, 6, 7] (by kernel_rfl) my1 (Nat.lt_succ_self _) ⟨i1 + 1, (x4.2.at_, x4.2.seed, s2), a8, c6, by omega, gx3, rfl, H22⟩
      · refine Run_cond (b := x4.1 == 0) (by kernel_rfl) (fun hb2 => ?_) (fun hb2 => ?_)
        · have gs2 := (M.ite_some gs2).1 hb2
          refine Run_ops ?_
          refine Run_b [.slice a4 s1.2.2.length c3, .int .i64 i1] 0 _ (by kernel_rfl) (fun w => by kernel_rfl) ?_
          refine Run_E (by kernel_rfl) ?_
          refine E_lit (C := cd2) (n := 1) (l := ([i1] : List Int)) (cs := [.int .i64 i1]) H11 (fun w => by kernel_rfl) (Enc.consE (cd2_own i1 _) (Enc.nil _ _) rfl) rfl (by decide) (fun a6 h7 H12 => ?_)
          obtain ⟨l1, hl1, gs2⟩ := M.bind_some gs2
          have hl1 := M.app_some hl1
          have H13 : Hold h h7 [own cd2 a4 s1.2.2.length c3 s1.2.2, own cd2 a6 1 1 ([i1] : List Int), box b1 155 [.slice a1 x1.code.length c1, .int .i64 x4.2.at_, .int .i64 x4.2.seed], own cd39 a2 x2.1.length c2 x2.1] := H12.pick [3, 0, 1, 2] (by kernel_rfl)
          have H14 : Hold h h7 [own cd2 a6 1 1 ([i1] : List Int), own cd2 a4 s1.2.2.length c3 s1.2.2, box b1 155 [.slice a1 x1.code.length c1, .int .i64 x4.2.at_, .int .i64 x4.2.seed], own cd39 a2 x2.1.length c2 x2.1] := H13.pick [1, 0, 2, 3] (by kernel_rfl)
          have H15 : Hold h h7 [own cd2 a4 s1.2.2.length c3 s1.2.2, own cd2 a6 1 1 ([i1] : List Int), box b1 155 [.slice a1 x1.code.length c1, .int .i64 x4.2.at_, .int .i64 x4.2.seed], own cd39 a2 x2.1.length c2 x2.1] := H14.pick [1, 0, 2, 3] (by kernel_rfl)
          refine Run_E (by kernel_rfl) ?_
          refine E_app (C := cd2) (t := 39) (ty := 39) (n := s1.2.2.length) (m := 1) H15 cd2_ti rfl Try.underlying39 (by decide) (by kernel_rfl) hl1 (fun a7 c5 h8 H16 => ?_)
          refine Run_b [.slice a7 l1.length c5] 4 _ (by kernel_rfl) (fun w => by kernel_rfl) ?_
          refine Run_nil (by kernel_rfl) ?_
          refine Run_keep [4, 5, 6, 7] (L' := [(4, .pointer (some ⟨b1, 0, none⟩)), (5, .slice a2 x2.1.length c2), (6, .slice a7 l1.length c5), (7, .int .i64 i1)]) (by kernel_rfl) ?_
          have H18 : Hold h h8 [box b1 155 [.slice a1 x1.code.length c1, .int .i64 x4.2.at_, .int .i64 x4.2.seed], own cd39 a2 x2.1.length c2 x2.1, own cd2 a7 l1.length c5 l1] := H16.pick [1, 2, 0] (by kernel_rfl)
          have gs2 := M.ret_some gs2
          subst gs2
          exact Run_fall [4, 5, 6, 7] (by kernel_rfl) ⟨a7, c5, rfl, H18⟩
        · have gs2 := (M.ite_some gs2).2 hb2
          refine Run_skip ?_
          have H19 : Hold h h6 [own cd2 a4 s1.2.2.length c3 s1.2.2, box b1 155 [.slice a1 x1.code.length c1, .int .i64 x4.2.at_, .int .i64 x4.2.seed], own cd39 a2 x2.1.length c2 x2.1] := H11.pick [2, 0, 1] (by kernel_rfl)
          have H20 : Hold h h6 [box b1 155 [.slice a1 x1.code.length c1, .int .i64 x4.2.at_, .int .i64 x4.2.seed], own cd39 a2 x2.1.length c2 x2.1, own cd2 a4 s1.2.2.length c3 s1.2.2] := H19.pick [1, 2, 0] (by kernel_rfl)
          have gs2 := M.ret_some gs2
          subst gs2
          exact Run_fall [4, 5, 6, 7] (by kernel_rfl) ⟨a4, c3, rfl, H20⟩
    · have gx3 := M.for_end gx3 hb1
      subst gx3
      refine Run_exit (k' := _) rfl ?_
      have H23 : Hold h h4 [own cd2 a4 s1.2.2.length c3 s1.2.2, box b1 155 [.slice a1 x1.code.length c1, .int .i64 s1.1, .int .i64 s1.2.1], own cd39 a2 x2.1.length c2 x2.1] := H7.pick [2, 0, 1] (by kernel_rfl)
      have H24 : Hold h h4 [box b1 155 [.slice a1 x1.code.length c1, .int .i64 s1.1, .int .i64 s1.2.1], own cd39 a2 x2.1.length c2 x2.1, own cd2 a4 s1.2.2.length c3 s1.2.2] := H23.pick [1, 2, 0] (by kernel_rfl)
      exact Run_fall [4, 5, 6] (by kernel_rfl) ⟨a4, c3, rfl, H24⟩

set_option maxRecDepth 100000 in
set_option maxHeartbeats 4000000 in
theorem w_impl_allWithin (h : Heap) (list : List Int) {Slist : Bs} (alist : Option Addr) (clist : Nat) (rlist : Rd cd2 h Slist alist clist list) (low : Int) (high : Int) (n : Nat) (r : Bool) (hF : impl_allWithin list low high n = some r) :
    Fn Try.prog 128 #[.slice alist list.length clist, .int .i64 low, .int .i64 high] h fun v h' => v = .bool r ∧ h' = h := by
  unfold impl_allWithin at hF
  refine Fn_enter (args := [.slice alist list.length clist, .int .i64 low, .int .i64 high]) Try.func128 rfl (by kernel_rfl) (by kernel_rfl) (fun w0 _ => ?_)
  refine Run_seq ?_
  refine Run_reg 1 (by kernel_rfl) (L' := [(0, .slice alist list.length clist), (1, .int .i64 low), (2, .int .i64 high)]) ?_ ?_
  · refine QRun_b [.bool false] 0 _ (by kernel_rfl) (fun w => by kernel_rfl) ?_
    exact QRun_done [0, 1, 2] (by kernel_rfl) (by kernel_rfl)
  refine Run_seq ?_
  refine Run_seq ?_
  refine Run_reg 3 (by kernel_rfl) (L' := [(1, .int .i64 low), (2, .int .i64 high), (9, .slice alist list.length clist), (10, .int .i64 (list.length : Int)), (11, .int .i64 0)]) ?_ ?_
  · refine QRun_b [.slice alist list.length clist, .int .i64 (list.length : Int), .int .i64 0] 0 _ (by kernel_rfl) (fun w => by kernel_rfl) ?_
    exact QRun_done [1, 2, 9, 10, 11] (by kernel_rfl) (by kernel_rfl)
  obtain ⟨x1, gx1, hF⟩ := M.bind_some hF
  obtain ⟨hloy1, hhiy1, gx1⟩ := M.for_start gx1
  refine Run_join (fun L' h' => ∃ (s2 : Unit), x1 = .inl s2 ∧ L' = [] ∧ h = h') ?_ ?_
  · rintro _ _ ⟨s2, es2, rfl, rfl⟩
    have hF := M.cont_inl' hF es2
    refine Run_seq ?_
    refine Run_reg 1 (by kernel_rfl) (L' := [(6, .bool true)]) ?_ ?_
    · refine QRun_b [.bool true] 0 _ (by kernel_rfl) (fun w => by kernel_rfl) ?_
      exact QRun_done [6] (by kernel_rfl) (by kernel_rfl)
    have hF := M.ret_some hF
    subst hF
    exact Run_ret1 rfl (ResV_tmp (v := .bool true) (by kernel_rfl)) ⟨rfl, rfl⟩
  · refine Run_block ?_
    refine Run_keep [1, 2, 9, 10, 11] (L' := [(1, .int .i64 low), (2, .int .i64 high), (9, .slice alist list.length clist), (10, .int .i64 (list.length : Int)), (11, .int .i64 0)]) (by kernel_rfl) ?_
    refine Run_loop (fun m L' h' => ∃ (i1 : Int) (s1 : Unit), 0 ≤ i1 ∧ M.forN (list.length : Int) _ _ n m i1 s1 = some x1 ∧ L' = [(1, .int .i64 low), (2, .int .i64 high), (9, .slice alist list.length clist), (10, .int .i64 (list.length : Int)), (11, .int .i64 i1)] ∧ h = h') ((list.length : Int) - 0 : Int).toNat ⟨0, (), Int.le_refl _, gx1, rfl, rfl⟩ ?_
    rintro my1 _ _ ⟨i1, s1, hloy1', gx1, rfl, rfl⟩
    refine Run_seq ?_
    refine Run_reg 1 (by kernel_rfl) (L' := [(1, .int .i64 low), (2, .int .i64 high), (9, .slice alist list.length clist), (10, .int .i64 (list.length : Int)), (11, .int .i64 i1), (12, .bool (decide (i1 < (list.length : Int))))]) ?_ ?_
    · refine QRun_b [.bool (decide (i1 < (list.length : Int)))] 0 _ (by kernel_rfl) (fun w => by kernel_rfl) ?_
      exact QRun_done [1, 2, 9, 10, 11, 12] (by kernel_rfl) (by kernel_rfl)
    refine Run_seq ?_
    refine Run_cond (b := decide (i1 < (list.length : Int))) (by kernel_rfl) (fun hb1 => ?_) (fun hb1 => ?_)
    · obtain ⟨my1, y1, rfl, hB1, hgoy1, houty1⟩ := M.for_go gx1 hb1
      have hlty1 := of_decide_eq_true hb1
      refine Run_skip ?_
      refine Run_seq ?_
      refine Run_block ?_
      refine Run_seq ?_
      obtain ⟨x2, hx1, hB1⟩ := M.bind_some hB1
      obtain ⟨hx1l, hx1u, hx1⟩ := M.idx_some hx1
      refine Run_reg 3 (by kernel_rfl) (L' := [(1, .int .i64 low), (2, .int .i64 high), (8, .int .i64 x2), (9, .slice alist list.length clist), (10, .int .i64 (list.length : Int)), (11, .int .i64 i1)]) ?_ ?_
      · refine QRun_y (.pointer (some (adr alist (i1.toNat * 1)))) (by kernel_rfl) (Y_idx (t := 39) (e := 2) (sz := 1) (a := alist) (n := list.length) (cap := clist) (kk := .i64) (i := i1) (by kernel_rfl) Try.underlying39 (by kernel_rfl) (rlist.cell hx1).1 hx1l hx1u) ?_
        refine QRun_y (.int .i64 x2) (by kernel_rfl) (Y_load1 (t := 2) (p := adr alist (i1.toNat * 1)) (v := .int .i64 x2) (by kernel_rfl) (fun w => by kernel_rfl) (cd2_cell rlist hx1)) ?_
        refine QRun_b [.int .i64 x2] 2 _ (by kernel_rfl) (fun w => by kernel_rfl) ?_
        exact QRun_done [1, 2, 8, 9, 10, 11] (by kernel_rfl) (by kernel_rfl)
      refine Run_seq ?_
      obtain ⟨x3, hx2, hB1⟩ := M.bind_some hB1
      refine Run_reg 5 (by kernel_rfl) (L' := [(1, .int .i64 low), (2, .int .i64 high), (9, .slice alist list.length clist), (10, .int .i64 (list.length : Int)), (11, .int .i64 i1), (19, .bool (!x3))]) ?_ ?_
      · refine QRun_b [.int .i64 x2, .int .i64 low, .int .i64 high] 0 _ (by kernel_rfl) (fun w => by kernel_rfl) ?_
        refine QRun_y (.bool x3) (by kernel_rfl) (Y_callq (f := 108) (args := #[.int .i64 x2, .int .i64 low, .int .i64 high]) (v := .bool x3) (by kernel_rfl) (w_impl_within h x2 low high _ _ hx2)) ?_
        refine QRun_b [.bool (!x3)] 4 _ (by kernel_rfl) (fun w => by kernel_rfl) ?_
        exact QRun_done [1, 2, 9, 10, 11, 19] (by kernel_rfl) (by kernel_rfl)
      refine Run_cond (b := !x3) (by kernel_rfl) (fun hb2 => ?_) (fun hb2 => ?_)
      · have hB1 := (M.ite_some hB1).1 hb2
        refine Run_seq ?_
        refine Run_reg 1 (by kernel_rfl) (L' := [(6, .bool false)]) ?_ ?_
        · refine QRun_b [.bool false] 0 _ (by kernel_rfl) (fun w => by kernel_rfl) ?_
          exact QRun_done [6] (by kernel_rfl) (by kernel_rfl)
        have hB1 := M.ret_some hB1
        have gx1 := houty1 _ hB1.symm
        have hF := M.cont_inr' hF gx1
        have hF := M.ret_some hF
        subst hF
        exact Run_ret1 rfl (ResV_tmp (v := .bool false) (by kernel_rfl)) ⟨rfl, rfl⟩
      · have hB1 := (M.ite_some hB1).2 hb2
        refine Run_skip ?_
        refine Run_blk ?_
        refine Run_reg 2 (by kernel_rfl) (L' := [(1, .int .i64 low), (2, .int .i64 high), (9, .slice alist list.length clist), (10, .int .i64 (list.length : Int)), (11, .int .i64 (i1 + 1))]) ?_ ?_
        · refine QRun_y (.int .i64 (i1 + 1)) (by kernel_rfl) (Y_eq (v := .int .i64 (w64 (i1 + 1))) (Y_pure (fun w => by kernel_rfl)) (by rw [w64_eq _ (by omega)])) ?_
          refine QRun_b [.int .i64 (i1 + 1)] 1 _ (by kernel_rfl) (fun w => by kernel_rfl) ?_
          exact QRun_done [1, 2, 9, 10, 11] (by kernel_rfl) (by kernel_rfl)
        have hB1 := M.ret_some hB1
        have gx1 := hgoy1 _ hB1.symm
        exact Run_again [1, 2, 9, 10, 11] (by kernel_rfl) my1 (Nat.lt_succ_self _) ⟨i1 + 1, (), by omega, gx1, rfl, rfl⟩
    · have gx1 := M.for_end gx1 hb1
      subst gx1
      refine Run_exit (k' := _) rfl ?_
      exact Run_fall [] (by kernel_rfl) ⟨(), rfl, rfl, rfl⟩

set_option maxRecDepth 100000 in
set_option maxHeartbeats 4000000 in
theorem w_impl_increasing (h : Heap) (list : List Int) {Slist : Bs} (alist : Option Addr) (clist : Nat) (rlist : Rd cd2 h Slist alist clist list) (n : Nat) (r : Bool) (hF : impl_increasing list n = some r) :
    Fn Try.prog 136 #[.slice alist list.length clist] h fun v h' => v = .bool r ∧ h' = h := by
  unfold impl_increasing at hF
  refine Fn_enter (args := [.slice alist list.length clist]) Try.func136 rfl (by kernel_rfl) (by kernel_rfl) (fun w0 _ => ?_)
  refine Run_seq ?_
  refine Run_reg 1 (by kernel_rfl) (L' := [(0, .slice alist list.length clist)]) ?_ ?_
  · refine QRun_b [.bool false] 0 _ (by kernel_rfl) (fun w => by kernel_rfl) ?_
    exact QRun_done [0] (by kernel_rfl) (by kernel_rfl)
  refine Run_seq ?_
  refine Run_seq ?_
  refine Run_reg 1 (by kernel_rfl) (L' := [(0, .slice alist list.length clist), (3, .int .i64 1)]) ?_ ?_
  · refine QRun_b [.int .i64 1] 0 _ (by kernel_rfl) (fun w => by kernel_rfl) ?_
    exact QRun_done [0, 3] (by kernel_rfl) (by kernel_rfl)
  obtain ⟨x1, gx1, hF⟩ := M.bind_some hF
  obtain ⟨hloy1, hhiy1, gx1⟩ := M.for_start gx1
  refine Run_join (fun L' h' => ∃ (s2 : Unit), x1 = .inl s2 ∧ L' = [] ∧ h = h') ?_ ?_
  · rintro _ _ ⟨s2, es2, rfl, rfl⟩
    have hF := M.cont_inl' hF es2
    refine Run_seq ?_
    refine Run_reg 1 (by kernel_rfl) (L' := [(2, .bool true)]) ?_ ?_
    · refine QRun_b [.bool true] 0 _ (by kernel_rfl) (fun w => by kernel_rfl) ?_
      exact QRun_done [2] (by kernel_rfl) (by kernel_rfl)
    have hF := M.ret_some hF
    subst hF
    exact Run_ret1 rfl (ResV_tmp (v := .bool true) (by kernel_rfl)) ⟨rfl, rfl⟩
  · refine Run_block ?_
    refine Run_keep [0, 3] (L' := [(0, .slice alist list.length clist), (3, .int .i64 1)]) (by kernel_rfl) ?_
    refine Run_loop (fun m L' h' => ∃ (i1 : Int) (s1 : Unit), 1 ≤ i1 ∧ M.forN (list.length : Int) _ _ n m i1 s1 = some x1 ∧ L' = [(0, .slice alist list.length clist), (3, .int .i64 i1)] ∧ h = h') ((list.length : Int) - 1 : Int).toNat ⟨1, (), Int.le_refl _, gx1, rfl, rfl⟩ ?_
    rintro my1 _ _ ⟨i1, s1, hloy1', gx1, rfl, rfl⟩
    refine Run_seq ?_
    refine Run_seq ?_
    refine Run_reg 4 (by kernel_rfl) (L' := [(0, .slice alist list.length clist), (3, .int .i64 i1), (7, .bool (decide (i1 < (list.length : Int))))]) ?_ ?_
    · refine QRun_b [.int .i64 i1, .slice alist list.length clist, .int .i64 (list.length : Int), .bool (decide (i1 < (list.length : Int)))] 0 _ (by kernel_rfl) (fun w => by kernel_rfl) ?_
      exact QRun_done [0, 3, 7] (by kernel_rfl) (by kernel_rfl)
    refine Run_cond (b := decide (i1 < (list.length : Int))) (by kernel_rfl) (fun hb1 => ?_) (fun hb1 => ?_)
    · obtain ⟨my1, y1, rfl, hB1, hgoy1, houty1⟩ := M.for_go gx1 hb1
      have hlty1 := of_decide_eq_true hb1
      refine Run_skip ?_
      refine Run_seq ?_
      refine Run_block ?_
      refine Run_seq ?_
      obtain ⟨x2, hx1, hB1⟩ := M.bind_some hB1
      obtain ⟨hx1l, hx1u, hx1⟩ := M.idx_some hx1
      obtain ⟨x3, hx2, hB1⟩ := M.bind_some hB1
      obtain ⟨hx2l, hx2u, hx2⟩ := M.idx_some hx2
      refine Run_draw 10 mixed (by kernel_rfl) (by kernel_rfl) (L' := [(0, .slice alist list.length clist), (3, .int .i64 i1), (19, .bool (decide (x3 ≤ x2)))]) ?_ ?_
      · refine QRun_b [.slice alist list.length clist, .int .i64 i1, .int .i64 (w64 (i1 - 1))] 0 _ (by kernel_rfl) (fun w => by kernel_rfl) ?_
        refine QRun_y (.pointer (some (adr alist ((w64 (i1 - 1)).toNat * 1)))) (by kernel_rfl) (Y_idx (t := 39) (e := 2) (sz := 1) (a := alist) (n := list.length) (cap := clist) (kk := .i64) (i := w64 (i1 - 1)) (by kernel_rfl) Try.underlying39 (by kernel_rfl) (rlist.cell hx1).1 hx1l hx1u) ?_
        refine QRun_y (.int .i64 x2) (by kernel_rfl) (Y_load1 (t := 2) (p := adr alist ((w64 (i1 - 1)).toNat * 1)) (v := .int .i64 x2) (by kernel_rfl) (fun w => by kernel_rfl) (cd2_cell rlist hx1)) ?_
        refine QRun_b [.slice alist list.length clist, .int .i64 i1] 5 _ (by kernel_rfl) (fun w => by kernel_rfl) ?_
        refine QRun_y (.pointer (some (adr alist (i1.toNat * 1)))) (by kernel_rfl) (Y_idx (t := 39) (e := 2) (sz := 1) (a := alist) (n := list.length) (cap := clist) (kk := .i64) (i := i1) (by kernel_rfl) Try.underlying39 (by kernel_rfl) (rlist.cell hx2).1 hx2l hx2u) ?_
        refine QRun_y (.int .i64 x3) (by kernel_rfl) (Y_load1 (t := 2) (p := adr alist (i1.toNat * 1)) (v := .int .i64 x3) (by kernel_rfl) (fun w => by kernel_rfl) (cd2_cell rlist hx2)) ?_
        refine QRun_b [.bool (decide (x3 ≤ x2))] 9 _ (by kernel_rfl) (fun w => by kernel_rfl) ?_
        exact QRun_done [0, 3, 19] (by kernel_rfl) (by kernel_rfl)
      refine Run_cond (b := decide (x3 ≤ x2)) (by kernel_rfl) (fun hb2 => ?_) (fun hb2 => ?_)
      · have hB1 := (M.ite_some hB1).1 hb2
        refine Run_seq ?_
        refine Run_reg 1 (by kernel_rfl) (L' := [(2, .bool false)]) ?_ ?_
        · refine QRun_b [.bool false] 0 _ (by kernel_rfl) (fun w => by kernel_rfl) ?_
          exact QRun_done [2] (by kernel_rfl) (by kernel_rfl)
        have hB1 := M.ret_some hB1
        have gx1 := houty1 _ hB1.symm
        have hF := M.cont_inr' hF gx1
        have hF := M.ret_some hF
        subst hF
        exact Run_ret1 rfl (ResV_tmp (v := .bool false) (by kernel_rfl)) ⟨rfl, rfl⟩
      · have hB1 := (M.ite_some hB1).2 hb2
        refine Run_skip ?_
        refine Run_blk ?_
        refine Run_reg 3 (by kernel_rfl) (L' := [(0, .slice alist list.length clist), (3, .int .i64 (i1 + 1))]) ?_ ?_
        · refine QRun_b [.int .i64 i1] 0 _ (by kernel_rfl) (fun w => by kernel_rfl) ?_
          refine QRun_y (.int .i64 (i1 + 1)) (by kernel_rfl) (Y_eq (v := .int .i64 (w64 (i1 + 1))) (Y_pure (fun w => by kernel_rfl)) (by rw [w64_eq _ (by omega)])) ?_
          refine QRun_b [.int .i64 (i1 + 1)] 2 _ (by kernel_rfl) (fun w => by kernel_rfl) ?_
          exact QRun_done [0, 3] (by kernel_rfl) (by kernel_rfl)
        have hB1 := M.ret_some hB1
        have gx1 := hgoy1 _ hB1.symm
        exact Run_again [0, 3] (by kernel_rfl) my1 (Nat.lt_succ_self _) ⟨i1 + 1, (), by omega, gx1, rfl, rfl⟩
    · have gx1 := M.for_end gx1 hb1
      subst gx1
      refine Run_exit (k' := _) rfl ?_
      exact Run_fall [] (by kernel_rfl) ⟨(), rfl, rfl, rfl⟩

set_option maxRecDepth 100000 in
set_option maxHeartbeats 4000000 in
theorem w_impl_checkedValue (h : Heap) (n_ : Int) (n : Nat) (r : Int × Int) (hF : impl_checkedValue n_ n = some r) :
    Fn Try.prog 129 #[.int .i64 n_] h fun v h' => v = .tuple #[.int .i64 r.1, .int .i64 r.2] ∧ h' = h := by
  unfold impl_checkedValue at hF
  refine Fn_enter (args := [.int .i64 n_]) Try.func129 rfl (by kernel_rfl) (by kernel_rfl) (fun w0 _ => ?_)
  refine Run_seq ?_
  refine Run_reg 2 (by kernel_rfl) (L' := [(0, .int .i64 n_)]) ?_ ?_
  · refine QRun_b [.int .i64 0, .int .i64 0] 0 _ (by kernel_rfl) (fun w => by kernel_rfl) ?_
    exact QRun_done [0] (by kernel_rfl) (by kernel_rfl)
  refine Run_seq ?_
  refine Run_seq ?_
  obtain ⟨x1, hx1, hF⟩ := M.bind_some hF
  refine Run_reg 3 (by kernel_rfl) (L' := [(0, .int .i64 n_), (6, .bool (!x1))]) ?_ ?_
  · refine QRun_b [.int .i64 n_] 0 _ (by kernel_rfl) (fun w => by kernel_rfl) ?_
    refine QRun_y (.bool x1) (by kernel_rfl) (Y_callq (f := 159) (args := #[.int .i64 n_]) (v := .bool x1) (by kernel_rfl) (w_impl_IsValue h n_ _ _ hx1)) ?_
    refine QRun_b [.bool (!x1)] 2 _ (by kernel_rfl) (fun w => by kernel_rfl) ?_
    exact QRun_done [0, 6] (by kernel_rfl) (by kernel_rfl)
  refine Run_cond (b := !x1) (by kernel_rfl) (fun hb1 => ?_) (fun hb1 => ?_)
  · have hF := (M.ite_some hF).1 hb1
    refine Run_seq ?_
    refine Run_reg 2 (by kernel_rfl) (L' := [(2, .int .i64 0), (3, .int .i64 3)]) ?_ ?_
    · refine QRun_b [.int .i64 0, .int .i64 3] 0 _ (by kernel_rfl) (fun w => by kernel_rfl) ?_
      exact QRun_done [2, 3] (by kernel_rfl) (by kernel_rfl)
    have hF := M.ret_some hF
    subst hF
    exact Run_ret2 rfl (ResV_tmp (v := .int .i64 0) (by kernel_rfl)) (ResV_tmp (v := .int .i64 3) (by kernel_rfl)) ⟨rfl, rfl⟩
  · have hF := (M.ite_some hF).2 hb1
    refine Run_skip ?_
    refine Run_seq ?_
    refine Run_reg 3 (by kernel_rfl) (L' := [(2, .int .i64 n_), (3, .int .i64 0)]) ?_ ?_
    · refine QRun_b [.int .i64 n_, .int .i64 n_, .int .i64 0] 0 _ (by kernel_rfl) (fun w => by kernel_rfl) ?_
      exact QRun_done [2, 3] (by kernel_rfl) (by kernel_rfl)
    have hF := M.ret_some hF
    subst hF
    exact Run_ret2 rfl (ResV_tmp (v := .int .i64 n_) (by kernel_rfl)) (ResV_tmp (v := .int .i64 0) (by kernel_rfl)) ⟨rfl, rfl⟩

set_option maxRecDepth 100000 in
set_option maxHeartbeats 4000000 in
theorem w_impl_PrincipalPermanent (h : Heap) (a_ : List (List Int)) (aa_ : Option Addr) (ca_ : Nat) (ra_ : Rd cd39 h (Lt h) aa_ ca_ a_) (nodes : List Int) (anodes : Option Addr) (cnodes : Nat) (rnodes : Rd cd2 h (Lt h) anodes cnodes nodes) (n : Nat) (r : Int × Int) (hF : impl_PrincipalPermanent a_ nodes n = some r) :
    Fn Try.prog 66 #[.slice aa_ a_.length ca_, .slice anodes nodes.length cnodes] h fun v h' => v = .tuple #[.int .i64 r.1, .int .i64 r.2] ∧ Hold h h' [] := by
  unfold impl_PrincipalPermanent at hF
  refine Fn_enter (args := [.slice aa_ a_.length ca_, .slice anodes nodes.length cnodes]) Try.func66 rfl (by kernel_rfl) (by kernel_rfl) (fun w0 _ => ?_)
  have H0 := Hold.init h
  refine Run_seq ?_
  refine Run_reg 2 (by kernel_rfl) (L' := [(0, .slice aa_ a_.length ca_), (1, .slice anodes nodes.length cnodes)]) ?_ ?_
  · refine QRun_b [.int .i64 0, .int .i64 0] 0 _ (by kernel_rfl) (fun w => by kernel_rfl) ?_
    exact QRun_done [0, 1] (by kernel_rfl) (by kernel_rfl)
  refine Run_seq ?_
  refine Run_seq ?_
  obtain ⟨x1, hx1, hF⟩ := M.bind_some hF
  refine Run_regC (j := 3) (C := fun x => Hold h x []) (by kernel_rfl) H0 (L' := [(0, .slice aa_ a_.length ca_), (1, .slice anodes nodes.length cnodes), (8, .bool (!x1))]) ?_ (fun h1 H1 => ?_)
  · refine QRun_b [.slice aa_ a_.length ca_] 0 _ (by kernel_rfl) (fun w => by kernel_rfl) ?_
    refine QRun_y (.bool x1) (by kernel_rfl) (Y_call (f := 89) (args := #[.slice aa_ a_.length ca_]) (v := .bool x1) (by kernel_rfl) fun hx Hx => (w_impl_isSquare hx a_ aa_ ca_ (ra_.at Hx.ext) _ _ hx1).mono fun _ _ ⟨e, H'⟩ => ⟨e, Hx.call H' rfl⟩) ?_
    refine QRun_b [.bool (!x1)] 2 _ (by kernel_rfl) (fun w => by kernel_rfl) ?_
    exact QRun_done [0, 1, 8] (by kernel_rfl) (by kernel_rfl)
  have H2 : Hold h h1 [] := H1
  refine Run_cond (b := !x1) (by kernel_rfl) (fun hb1 => ?_) (fun hb1 => ?_)
  · have hF := (M.ite_some hF).1 hb1
    refine Run_seq ?_
    refine Run_reg 2 (by kernel_rfl) (L' := [(4, .int .i64 0), (5, .int .i64 1)]) ?_ ?_
    · refine QRun_b [.int .i64 0, .int .i64 1] 0 _ (by kernel_rfl) (fun w => by kernel_rfl) ?_
      exact QRun_done [4, 5] (by kernel_rfl) (by kernel_rfl)
    have hF := M.ret_some hF
    subst hF
    exact Run_ret2 rfl (ResV_tmp (v := .int .i64 0) (by kernel_rfl)) (ResV_tmp (v := .int .i64 1) (by kernel_rfl)) ⟨rfl, H2⟩
  · have hF := (M.ite_some hF).2 hb1
    refine Run_skip ?_
    refine Run_seq ?_
    refine Run_seq ?_
    obtain ⟨x2, hx2, hF⟩ := M.bind_some hF
    obtain ⟨x3, gx3, hF⟩ := M.bind_some hF
    refine Run_reg 11 (by kernel_rfl) (L' := [(0, .slice aa_ a_.length ca_), (1, .slice anodes nodes.length cnodes), (19, .bool x3)]) ?_ ?_
    · refine QRun_b [.slice anodes nodes.length cnodes, .slice aa_ a_.length ca_, .int .i64 (a_.length : Int), .int .i64 (w64 ((a_.length : Int) - 1))] 0 _ (by kernel_rfl) (fun w => by kernel_rfl) ?_
      refine QRun_y (.bool x2) (by kernel_rfl) (Y_callq (f := 128) (args := #[.slice anodes nodes.length cnodes, .int .i64 0, .int .i64 (w64 ((a_.length : Int) - 1))]) (v := .bool x2) (by kernel_rfl) (w_impl_allWithin h1 nodes anodes cnodes (rnodes.at H2.ext) 0 (w64 ((a_.length : Int) - 1)) _ _ hx2)) ?_
      refine QRun_b [.bool (!x2)] 5 _ (by kernel_rfl) (fun w => by kernel_rfl) ?_
      refine QRun_seq 11 [(0, .slice aa_ a_.length ca_), (1, .slice anodes nodes.length cnodes), (19, .bool x3)] ?_ ?_
      · rcases Bool.eq_false_or_eq_true (!x2) with hb2 | hb2
        · refine QRun_bool (!x2) true (by kernel_rfl) (fun w => by kernel_rfl) hb2 ?_
          have gx3 := M.ret_some ((M.ite_some gx3).1 hb2)
          refine QRun_n (by kernel_rfl) ?_
          refine QRun_n (by kernel_rfl) ?_
          refine QRun_n (by kernel_rfl) ?_
          refine QRun_bool true x3 (by kernel_rfl) (fun w => by kernel_rfl) gx3 ?_
          exact QRun_done [0, 1, 19] (by kernel_rfl) (by kernel_rfl)
        · refine QRun_bool (!x2) false (by kernel_rfl) (fun w => by kernel_rfl) hb2 ?_
          have gx3 := (M.ite_some gx3).2 hb2
          obtain ⟨x4, hx3, gx3⟩ := M.bind_some gx3
          have gx3 := M.ret_some gx3
          refine QRun_b [.slice anodes nodes.length cnodes] 7 _ (by kernel_rfl) (fun w => by kernel_rfl) ?_
          refine QRun_y (.bool x4) (by kernel_rfl) (Y_callq (f := 136) (args := #[.slice anodes nodes.length cnodes]) (v := .bool x4) (by kernel_rfl) (w_impl_increasing h1 nodes anodes cnodes (rnodes.at H2.ext) _ _ hx3)) ?_
          refine QRun_b [.bool (!x4)] 9 _ (by kernel_rfl) (fun w => by kernel_rfl) ?_
          refine QRun_bool (!x4) x3 (by kernel_rfl) (fun w => by kernel_rfl) gx3 ?_
          exact QRun_done [0, 1, 19] (by kernel_rfl) (by kernel_rfl)
      exact QRun_done [0, 1, 19] (by kernel_rfl) (by kernel_rfl)
    refine Run_cond (b := x3) (by kernel_rfl) (fun hb3 => ?_) (fun hb3 => ?_)
    · have hF := (M.ite_some hF).1 hb3
      refine Run_seq ?_
      refine Run_reg 2 (by kernel_rfl) (L' := [(4, .int .i64 0), (5, .int .i64 2)]) ?_ ?_
      · refine QRun_b [.int .i64 0, .int .i64 2] 0 _ (by kernel_rfl) (fun w => by kernel_rfl) ?_
        exact QRun_done [4, 5] (by kernel_rfl) (by kernel_rfl)
      have hF := M.ret_some hF
      subst hF
      exact Run_ret2 rfl (ResV_tmp (v := .int .i64 0) (by kernel_rfl)) (ResV_tmp (v := .int .i64 2) (by kernel_rfl)) ⟨rfl, H2⟩
    · have hF := (M.ite_some hF).2 hb3
      refine Run_skip ?_
      refine Run_seq ?_
      obtain ⟨x5, hx4, hF⟩ := M.bind_some hF
      obtain ⟨x6, hx5, hF⟩ := M.bind_some hF
      refine Run_regC (j := 8) (C := fun x => Hold h x []) (by kernel_rfl) H2 (L' := [(4, .int .i64 x6.1), (5, .int .i64 x6.2)]) ?_ (fun h2 H3 => ?_)
      · refine QRun_b [.slice aa_ a_.length ca_, .slice anodes nodes.length cnodes] 0 _ (by kernel_rfl) (fun w => by kernel_rfl) ?_
        refine QRun_y (.int .i64 x5) (by kernel_rfl) (Y_call (f := 134) (args := #[.slice aa_ a_.length ca_, .slice anodes nodes.length cnodes]) (v := .int .i64 x5) (by kernel_rfl) fun hx Hx => (w_impl_principal hx a_ aa_ ca_ (ra_.at Hx.ext) nodes anodes cnodes (rnodes.at Hx.ext) _ _ hx4).mono fun _ _ ⟨e, H'⟩ => ⟨e, Hx.call H' rfl⟩) ?_
        refine QRun_y (.tuple #[.int .i64 x6.1, .int .i64 x6.2]) (by kernel_rfl) (Y_cls fun hx Hx => (Y_callq (f := 129) (args := #[.int .i64 x5]) (v := .tuple #[.int .i64 x6.1, .int .i64 x6.2]) (by kernel_rfl) (w_impl_checkedValue hx x5 _ _ hx5))) ?_
        refine QRun_b [.int .i64 x6.1, .int .i64 x6.2, .int .i64 x6.1, .int .i64 x6.2] 4 _ (by kernel_rfl) (fun w => by kernel_rfl) ?_
        exact QRun_done [4, 5] (by kernel_rfl) (by kernel_rfl)
      have H4 : Hold h h2 [] := H3
      have hF := M.ret_some hF
      subst hF
      exact Run_ret2 rfl (ResV_tmp (v := .int .i64 x6.1) (by kernel_rfl)) (ResV_tmp (v := .int .i64 x6.2) (by kernel_rfl)) ⟨rfl, H4⟩

set_option maxRecDepth 100000 in
set_option maxHeartbeats 4000000 in
theorem w_spec_l03Node (h : Heap) (a_ : List (List Int)) {Sa_ : Bs} (aa_ : Option Addr) (ca_ : Nat) (ra_ : Rd cd39 h Sa_ aa_ ca_ a_) (v_ : Int) (n : Nat) (r : Bool) (hF : spec_l03Node a_ v_ n = some r) :
    Fn Try.prog 137 #[.slice aa_ a_.length ca_, .int .i64 v_] h fun v h' => v = .bool r ∧ h' = h := by
  unfold spec_l03Node at hF
  refine Fn_enter (args := [.slice aa_ a_.length ca_, .int .i64 v_]) Try.func137 rfl (by kernel_rfl) (by kernel_rfl) (fun w0 _ => ?_)
  refine Run_seq ?_
  refine Run_reg 1 (by kernel_rfl) (L' := [(0, .slice aa_ a_.length ca_), (1, .int .i64 v_)]) ?_ ?_
  · refine QRun_b [.bool false] 0 _ (by kernel_rfl) (fun w => by kernel_rfl) ?_
    exact QRun_done [0, 1] (by kernel_rfl) (by kernel_rfl)
  refine Run_seq ?_
  obtain ⟨x1, hx1, hF⟩ := M.bind_some hF
  refine Run_reg 6 (by kernel_rfl) (L' := [(4, .bool x1)]) ?_ ?_
  · refine QRun_b [.int .i64 v_, .slice aa_ a_.length ca_, .int .i64 (a_.length : Int), .int .i64 (w64 ((a_.length : Int) - 1))] 0 _ (by kernel_rfl) (fun w => by kernel_rfl) ?_
    refine QRun_y (.bool x1) (by kernel_rfl) (Y_callq (f := 78) (args := #[.int .i64 v_, .int .i64 0, .int .i64 (w64 ((a_.length : Int) - 1))]) (v := .bool x1) (by kernel_rfl) (w_spec_l01In h v_ 0 (w64 ((a_.length : Int) - 1)) _ _ hx1)) ?_
    refine QRun_b [.bool x1] 5 _ (by kernel_rfl) (fun w => by kernel_rfl) ?_
    exact QRun_done [4] (by kernel_rfl) (by kernel_rfl)
  have hF := M.ret_some hF
  subst hF
  exact Run_ret1 rfl (ResV_tmp (v := .bool x1) (by kernel_rfl)) ⟨rfl, rfl⟩

set_option maxRecDepth 100000 in
set_option maxHeartbeats 4000000 in
theorem w_spec_l01Value (h : Heap) (a_ : Int) (n : Nat) (r : Int × Int) (hF : spec_l01Value a_ n = some r) :
    Fn Try.prog 131 #[.int .i64 a_] h fun v h' => v = .tuple #[.int .i64 r.1, .int .i64 r.2] ∧ h' = h := by
  unfold spec_l01Value at hF
  refine Fn_enter (args := [.int .i64 a_]) Try.func131 rfl (by kernel_rfl) (by kernel_rfl) (fun w0 _ => ?_)
  refine Run_seq ?_
  refine Run_reg 2 (by kernel_rfl) (L' := [(0, .int .i64 a_)]) ?_ ?_
  · refine QRun_b [.int .i64 0, .int .i64 0] 0 _ (by kernel_rfl) (fun w => by kernel_rfl) ?_
    exact QRun_done [0] (by kernel_rfl) (by kernel_rfl)
  refine Run_seq ?_
  refine Run_seq ?_
  obtain ⟨x1, hx1, hF⟩ := M.bind_some hF
  refine Run_reg 3 (by kernel_rfl) (L' := [(0, .int .i64 a_), (6, .bool (!x1))]) ?_ ?_
  · refine QRun_b [.int .i64 a_] 0 _ (by kernel_rfl) (fun w => by kernel_rfl) ?_
    refine QRun_y (.bool x1) (by kernel_rfl) (Y_callq (f := 153) (args := #[.int .i64 a_]) (v := .bool x1) (by kernel_rfl) (w_spec_IsValue h a_ _ _ hx1)) ?_
    refine QRun_b [.bool (!x1)] 2 _ (by kernel_rfl) (fun w => by kernel_rfl) ?_
    exact QRun_done [0, 6] (by kernel_rfl) (by kernel_rfl)
  refine Run_cond (b := !x1) (by kernel_rfl) (fun hb1 => ?_) (fun hb1 => ?_)
  · have hF := (M.ite_some hF).1 hb1
    refine Run_seq ?_
    refine Run_reg 2 (by kernel_rfl) (L' := [(2, .int .i64 0), (3, .int .i64 3)]) ?_ ?_
    · refine QRun_b [.int .i64 0, .int .i64 3] 0 _ (by kernel_rfl) (fun w => by kernel_rfl) ?_
      exact QRun_done [2, 3] (by kernel_rfl) (by kernel_rfl)
    have hF := M.ret_some hF
    subst hF
    exact Run_ret2 rfl (ResV_tmp (v := .int .i64 0) (by kernel_rfl)) (ResV_tmp (v := .int .i64 3) (by kernel_rfl)) ⟨rfl, rfl⟩
  · have hF := (M.ite_some hF).2 hb1
    refine Run_skip ?_
    refine Run_seq ?_
    refine Run_reg 3 (by kernel_rfl) (L' := [(2, .int .i64 a_), (3, .int .i64 0)]) ?_ ?_
    · refine QRun_b [.int .i64 a_, .int .i64 a_, .int .i64 0] 0 _ (by kernel_rfl) (fun w => by kernel_rfl) ?_
      exact QRun_done [2, 3] (by kernel_rfl) (by kernel_rfl)
    have hF := M.ret_some hF
    subst hF
    exact Run_ret2 rfl (ResV_tmp (v := .int .i64 a_) (by kernel_rfl)) (ResV_tmp (v := .int .i64 0) (by kernel_rfl)) ⟨rfl, rfl⟩

set_option maxRecDepth 100000 in
set_option maxHeartbeats 4000000 in
theorem w_spec_PrincipalPermanent (h : Heap) (a_ : List (List Int)) (aa_ : Option Addr) (ca_ : Nat) (ra_ : Rd cd39 h (Lt h) aa_ ca_ a_) (nodes : List Int) (anodes : Option Addr) (cnodes : Nat) (rnodes : Rd cd2 h (Lt h) anodes cnodes nodes) (n : Nat) (r : Int × Int) (hF : spec_PrincipalPermanent a_ nodes n = some r) :
    Fn Try.prog 67 #[.slice aa_ a_.length ca_, .slice anodes nodes.length cnodes] h fun v h' => v = .tuple #[.int .i64 r.1, .int .i64 r.2] ∧ Hold h h' [] := by
  unfold spec_PrincipalPermanent at hF
  refine Fn_enter (args := [.slice aa_ a_.length ca_, .slice anodes nodes.length cnodes]) Try.func67 rfl (by kernel_rfl) (by kernel_rfl) (fun w0 _ => ?_)
  have H0 := Hold.init h
  refine Run_seq ?_
  refine Run_reg 2 (by kernel_rfl) (L' := [(0, .slice aa_ a_.length ca_), (1, .slice anodes nodes.length cnodes)]) ?_ ?_
  · refine QRun_b [.int .i64 0, .int .i64 0] 0 _ (by kernel_rfl) (fun w => by kernel_rfl) ?_
    exact QRun_done [0, 1] (by kernel_rfl) (by kernel_rfl)
  refine Run_seq ?_
  refine Run_seq ?_
  obtain ⟨x1, hx1, hF⟩ := M.bind_some hF
  refine Run_reg 3 (by kernel_rfl) (L' := [(0, .slice aa_ a_.length ca_), (1, .slice anodes nodes.length cnodes), (9, .bool (!x1))]) ?_ ?_
  · refine QRun_b [.slice aa_ a_.length ca_] 0 _ (by kernel_rfl) (fun w => by kernel_rfl) ?_
    refine QRun_y (.bool x1) (by kernel_rfl) (Y_callq (f := 82) (args := #[.slice aa_ a_.length ca_]) (v := .bool x1) (by kernel_rfl) (w_spec_l02Square h a_ aa_ ca_ ra_ _ _ hx1)) ?_
    refine QRun_b [.bool (!x1)] 2 _ (by kernel_rfl) (fun w => by kernel_rfl) ?_
    exact QRun_done [0, 1, 9] (by kernel_rfl) (by kernel_rfl)
  refine Run_cond (b := !x1) (by kernel_rfl) (fun hb1 => ?_) (fun hb1 => ?_)
  · have hF := (M.ite_some hF).1 hb1
    refine Run_seq ?_
    refine Run_reg 2 (by kernel_rfl) (L' := [(4, .int .i64 0), (5, .int .i64 1)]) ?_ ?_
    · refine QRun_b [.int .i64 0, .int .i64 1] 0 _ (by kernel_rfl) (fun w => by kernel_rfl) ?_
      exact QRun_done [4, 5] (by kernel_rfl) (by kernel_rfl)
    have hF := M.ret_some hF
    subst hF
    exact Run_ret2 rfl (ResV_tmp (v := .int .i64 0) (by kernel_rfl)) (ResV_tmp (v := .int .i64 1) (by kernel_rfl)) ⟨rfl, H0⟩
  · have hF := (M.ite_some hF).2 hb1
    refine Run_skip ?_
    refine Run_seq ?_
    refine Run_seq ?_
    refine Run_reg 1 (by kernel_rfl) (L' := [(0, .slice aa_ a_.length ca_), (1, .slice anodes nodes.length cnodes), (6, .int .i64 0)]) ?_ ?_
    · refine QRun_b [.int .i64 0] 0 _ (by kernel_rfl) (fun w => by kernel_rfl) ?_
      exact QRun_done [0, 1, 6] (by kernel_rfl) (by kernel_rfl)
    obtain ⟨x2, gx2, hF⟩ := M.bind_some hF
    obtain ⟨hloy1, hhiy1, gx2⟩ := M.for_start gx2
    refine Run_join (fun L' h' => ∃ (s2 : Unit), x2 = .inl s2 ∧ L' = [(0, .slice aa_ a_.length ca_), (1, .slice anodes nodes.length cnodes)] ∧ Hold h h' []) ?_ ?_
    · rintro _ h2 ⟨s2, es2, rfl, H2⟩
      have hF := M.cont_inl' hF es2
      refine Run_seq ?_
      obtain ⟨x9, hx6, hF⟩ := M.bind_some hF
      obtain ⟨x10, hx7, hF⟩ := M.bind_some hF
      refine Run_regC (j := 8) (C := fun x => Hold h x []) (by kernel_rfl) H2 (L' := [(4, .int .i64 x10.1), (5, .int .i64 x10.2)]) ?_ (fun h3 H3 => ?_)
      · refine QRun_b [.slice aa_ a_.length ca_, .slice anodes nodes.length cnodes] 0 _ (by kernel_rfl) (fun w => by kernel_rfl) ?_
        refine QRun_y (.int .i64 x9) (by kernel_rfl) (Y_call (f := 135) (args := #[.slice aa_ a_.length ca_, .slice anodes nodes.length cnodes]) (v := .int .i64 x9) (by kernel_rfl) fun hx Hx => (w_spec_l10Part hx a_ aa_ ca_ (ra_.at Hx.ext) nodes anodes cnodes (rnodes.at Hx.ext) _ _ hx6).mono fun _ _ ⟨e, H'⟩ => ⟨e, Hx.call H' rfl⟩) ?_
        refine QRun_y (.tuple #[.int .i64 x10.1, .int .i64 x10.2]) (by kernel_rfl) (Y_cls fun hx Hx => (Y_callq (f := 131) (args := #[.int .i64 x9]) (v := .tuple #[.int .i64 x10.1, .int .i64 x10.2]) (by kernel_rfl) (w_spec_l01Value hx x9 _ _ hx7))) ?_
        refine QRun_b [.int .i64 x10.1, .int .i64 x10.2, .int .i64 x10.1, .int .i64 x10.2] 4 _ (by kernel_rfl) (fun w => by kernel_rfl) ?_
        exact QRun_done [4, 5] (by kernel_rfl) (by kernel_rfl)
      have H4 : Hold h h3 [] := H3
      have hF := M.ret_some hF
      subst hF
      exact Run_ret2 rfl (ResV_tmp (v := .int .i64 x10.1) (by kernel_rfl)) (ResV_tmp (v := .int .i64 x10.2) (by kernel_rfl)) ⟨rfl, H4⟩
    · refine Run_block ?_
      refine Run_keep [0, 1, 6] (L' := [(0, .slice aa_ a_.length ca_), (1, .slice anodes nodes.length cnodes), (6, .int .i64 0)]) (by kernel_rfl) ?_
      refine Run_loop (fun m L' h' => ∃ (i1 : Int) (s1 : Unit), 0 ≤ i1 ∧ M.forN (nodes.length : Int) _ _ n m i1 s1 = some x2 ∧ L' = [(0, .slice aa_ a_.length ca_), (1, .slice anodes nodes.length cnodes), (6, .int .i64 i1)] ∧ Hold h h' []) ((nodes.length : Int) - 0 : Int).toNat ⟨0, (), Int.le_refl _, gx2, rfl, H0⟩ ?_
      rintro my1 _ h1 ⟨i1, s1, hloy1', gx2, rfl, H1⟩
      refine Run_seq ?_
      refine Run_seq ?_
      refine Run_reg 4 (by kernel_rfl) (L' := [(0, .slice aa_ a_.length ca_), (1, .slice anodes nodes.length cnodes), (6, .int .i64 i1), (13, .bool (decide (i1 < (nodes.length : Int))))]) ?_ ?_
      · refine QRun_b [.int .i64 i1, .slice anodes nodes.length cnodes, .int .i64 (nodes.length : Int), .bool (decide (i1 < (nodes.length : Int)))] 0 _ (by kernel_rfl) (fun w => by kernel_rfl) ?_
        exact QRun_done [0, 1, 6, 13] (by kernel_rfl) (by kernel_rfl)
      refine Run_cond (b := decide (i1 < (nodes.length : Int))) (by kernel_rfl) (fun hb2 => ?_) (fun hb2 => ?_)
      · obtain ⟨my1, y1, rfl, hB1, hgoy1, houty1⟩ := M.for_go gx2 hb2
        have hlty1 := of_decide_eq_true hb2
        refine Run_skip ?_
        refine Run_seq ?_
        refine Run_block ?_
        refine Run_seq ?_
        obtain ⟨x3, hx2, hB1⟩ := M.bind_some hB1
        obtain ⟨hx2l, hx2u, hx2⟩ := M.idx_some hx2
        obtain ⟨x4, hx3, hB1⟩ := M.bind_some hB1
        obtain ⟨x5, gx5, hB1⟩ := M.bind_some hB1
        refine Run_draw 23 mixed (by kernel_rfl) (by kernel_rfl) (L' := [(0, .slice aa_ a_.length ca_), (1, .slice anodes nodes.length cnodes), (6, .int .i64 i1), (38, .bool x5)]) ?_ ?_
        · refine QRun_b [.slice aa_ a_.length ca_, .slice anodes nodes.length cnodes, .int .i64 i1] 0 _ (by kernel_rfl) (fun w => by kernel_rfl) ?_
          refine QRun_y (.pointer (some (adr anodes (i1.toNat * 1)))) (by kernel_rfl) (Y_idx (t := 39) (e := 2) (sz := 1) (a := anodes) (n := nodes.length) (cap := cnodes) (kk := .i64) (i := i1) (by kernel_rfl) Try.underlying39 (by kernel_rfl) ((rnodes.at H1.ext).cell hx2).1 hx2l hx2u) ?_
          refine QRun_y (.int .i64 x3) (by kernel_rfl) (Y_load1 (t := 2) (p := adr anodes (i1.toNat * 1)) (v := .int .i64 x3) (by kernel_rfl) (fun w => by kernel_rfl) (cd2_cell (rnodes.at H1.ext) hx2)) ?_
          refine QRun_y (.bool x4) (by kernel_rfl) (Y_callq (f := 137) (args := #[.slice aa_ a_.length ca_, .int .i64 x3]) (v := .bool x4) (by kernel_rfl) (w_spec_l03Node h1 a_ aa_ ca_ (ra_.at H1.ext) x3 _ _ hx3)) ?_
          refine QRun_b [.bool (!x4)] 6 _ (by kernel_rfl) (fun w => by kernel_rfl) ?_
          refine QRun_seq 23 [(0, .slice aa_ a_.length ca_), (1, .slice anodes nodes.length cnodes), (6, .int .i64 i1), (38, .bool x5)] ?_ ?_
          · rcases Bool.eq_false_or_eq_true (!x4) with hb3 | hb3
            · refine QRun_bool (!x4) true (by kernel_rfl) (fun w => by kernel_rfl) hb3 ?_
              have gx5 := M.ret_some ((M.ite_some gx5).1 hb3)
              refine QRun_n (by kernel_rfl) ?_
              refine QRun_n (by kernel_rfl) ?_
              refine QRun_n (by kernel_rfl) ?_
              refine QRun_n (by kernel_rfl) ?_
              refine QRun_n (by kernel_rfl) ?_
              refine QRun_n (by kernel_rfl) ?_
              refine QRun_n (by kernel_rfl) ?_
              refine QRun_n (by kernel_rfl) ?_
              refine QRun_n (by kernel_rfl) ?_
              refine QRun_n (by kernel_rfl) ?_
              refine QRun_n (by kernel_rfl) ?_
              refine QRun_n (by kernel_rfl) ?_
              refine QRun_n (by kernel_rfl) ?_
              refine QRun_n (by kernel_rfl) ?_
              refine QRun_bool true x5 (by kernel_rfl) (fun w => by kernel_rfl) gx5 ?_
              exact QRun_done [0, 1, 6, 38] (by kernel_rfl) (by kernel_rfl)
            · refine QRun_bool (!x4) false (by kernel_rfl) (fun w => by kernel_rfl) hb3 ?_
              have gx5 := (M.ite_some gx5).2 hb3
              obtain ⟨x6, gx6, gx5⟩ := M.bind_some gx5
              have gx5 := M.ret_some gx5
              refine QRun_b [.int .i64 i1, .bool (decide (0 < i1))] 8 _ (by kernel_rfl) (fun w => by kernel_rfl) ?_
              refine QRun_seq 22 [(0, .slice aa_ a_.length ca_), (1, .slice anodes nodes.length cnodes), (6, .int .i64 i1), (23, .bool false), (37, .bool x6)] ?_ ?_
              · rcases Bool.eq_false_or_eq_true (decide (0 < i1)) with hb4 | hb4
                · refine QRun_bool (decide (0 < i1)) true (by kernel_rfl) (fun w => by kernel_rfl) hb4 ?_
                  have gx6 := (M.ite_some gx6).1 hb4
                  obtain ⟨x7, hx4, gx6⟩ := M.bind_some gx6
                  obtain ⟨hx4l, hx4u, hx4⟩ := M.idx_some hx4
                  obtain ⟨x8, hx5, gx6⟩ := M.bind_some gx6
                  obtain ⟨hx5l, hx5u, hx5⟩ := M.idx_some hx5
                  have gx6 := M.ret_some gx6
                  refine QRun_b [.slice anodes nodes.length cnodes, .int .i64 i1] 11 _ (by kernel_rfl) (fun w => by kernel_rfl) ?_
                  refine QRun_y (.pointer (some (adr anodes (i1.toNat * 1)))) (by kernel_rfl) (Y_idx (t := 39) (e := 2) (sz := 1) (a := anodes) (n := nodes.length) (cap := cnodes) (kk := .i64) (i := i1) (by kernel_rfl) Try.underlying39 (by kernel_rfl) ((rnodes.at H1.ext).cell hx4).1 hx4l hx4u) ?_
                  refine QRun_y (.int .i64 x7) (by kernel_rfl) (Y_load1 (t := 2) (p := adr anodes (i1.toNat * 1)) (v := .int .i64 x7) (by kernel_rfl) (fun w => by kernel_rfl) (cd2_cell (rnodes.at H1.ext) hx4)) ?_
                  refine QRun_b [.slice anodes nodes.length cnodes, .int .i64 i1, .int .i64 (w64 (i1 - 1))] 15 _ (by kernel_rfl) (fun w => by kernel_rfl) ?_
                  refine QRun_y (.pointer (some (adr anodes ((w64 (i1 - 1)).toNat * 1)))) (by kernel_rfl) (Y_idx (t := 39) (e := 2) (sz := 1) (a := anodes) (n := nodes.length) (cap := cnodes) (kk := .i64) (i := w64 (i1 - 1)) (by kernel_rfl) Try.underlying39 (by kernel_rfl) ((rnodes.at H1.ext).cell hx5).1 hx5l hx5u) ?_
                  refine QRun_y (.int .i64 x8) (by kernel_rfl) (Y_load1 (t := 2) (p := adr anodes ((w64 (i1 - 1)).toNat * 1)) (v := .int .i64 x8) (by kernel_rfl) (fun w => by kernel_rfl) (cd2_cell (rnodes.at H1.ext) hx5)) ?_
                  refine QRun_b [.bool (decide (x7 ≤ x8))] 20 _ (by kernel_rfl) (fun w => by kernel_rfl) ?_
                  refine QRun_bool (decide (x7 ≤ x8)) x6 (by kernel_rfl) (fun w => by kernel_rfl) gx6 ?_
                  exact QRun_done [0, 1, 6, 23, 37] (by kernel_rfl) (by kernel_rfl)
                · refine QRun_bool (decide (0 < i1)) false (by kernel_rfl) (fun w => by kernel_rfl) hb4 ?_
                  have gx6 := M.ret_some ((M.ite_some gx6).2 hb4)
                  refine QRun_n (by kernel_rfl) ?_
                  refine QRun_n (by kernel_rfl) ?_
                  refine QRun_n (by kernel_rfl) ?_
                  refine QRun_n (by kernel_rfl) ?_
                  refine QRun_n (by kernel_rfl) ?_
                  refine QRun_n (by kernel_rfl) ?_
                  refine QRun_n (by kernel_rfl) ?_
                  refine QRun_n (by kernel_rfl) ?_
                  refine QRun_n (by kernel_rfl) ?_
                  refine QRun_n (by kernel_rfl) ?_
                  refine QRun_bool false x6 (by kernel_rfl) (fun w => by kernel_rfl) gx6 ?_
                  exact QRun_done [0, 1, 6, 23, 37] (by kernel_rfl) (by kernel_rfl)
              refine QRun_bool x6 x5 (by kernel_rfl) (fun w => by kernel_rfl) gx5 ?_
              exact QRun_done [0, 1, 6, 38] (by kernel_rfl) (by kernel_rfl)
          exact QRun_done [0, 1, 6, 38] (by kernel_rfl) (by kernel_rfl)
        refine Run_cond (b := x5) (by kernel_rfl) (fun hb5 => ?_) (fun hb5 => ?_)
        · have hB1 := (M.ite_some hB1).1 hb5
          refine Run_seq ?_
          refine Run_reg 2 (by kernel_rfl) (L' := [(4, .int .i64 0), (5, .int .i64 2)]) ?_ ?_
          · refine QRun_b [.int .i64 0, .int .i64 2] 0 _ (by kernel_rfl) (fun w => by kernel_rfl) ?_
            exact QRun_done [4, 5] (by kernel_rfl) (by kernel_rfl)
          have hB1 := M.ret_some hB1
          have gx2 := houty1 _ hB1.symm
          have hF := M.cont_inr' hF gx2
          have hF := M.ret_some hF
          subst hF
          exact Run_ret2 rfl (ResV_tmp (v := .int .i64 0) (by kernel_rfl)) (ResV_tmp (v := .int .i64 2) (by kernel_rfl)) ⟨rfl, H1⟩
        · have hB1 := (M.ite_some hB1).2 hb5
          refine Run_skip ?_
          refine Run_blk ?_
          refine Run_reg 3 (by kernel_rfl) (L' := [(0, .slice aa_ a_.length ca_), (1, .slice anodes nodes.length cnodes), (6, .int .i64 (i1 + 1))]) ?_ ?_
          · refine QRun_b [.int .i64 i1] 0 _ (by kernel_rfl) (fun w => by kernel_rfl) ?_
            refine QRun_y (.int .i64 (i1 + 1)) (by kernel_rfl) (Y_eq (v := .int .i64 (w64 (i1 + 1))) (Y_pure (fun w => by kernel_rfl)) (by rw [w64_eq _ (by omega)])) ?_
            refine QRun_b [.int .i64 (i1 + 1)] 2 _ (by kernel_rfl) (fun w => by kernel_rfl) ?_
            exact QRun_done [0, 1, 6] (by kernel_rfl) (by kernel_rfl)
          have hB1 := M.ret_some hB1
          have gx2 := hgoy1 _ hB1.symm
          exact Run_again [0, 1, 6] (by kernel_rfl) my1 (Nat.lt_succ_self _) ⟨i1 + 1, (), by omega, gx2, rfl, H1⟩
      · have gx2 := M.for_end gx2 hb2
        subst gx2
        refine Run_exit (k' := _) rfl ?_
        exact Run_fall [0, 1] (by kernel_rfl) ⟨(), rfl, rfl, H1⟩

set_option maxRecDepth 100000 in
set_option maxHeartbeats 4000000 in
theorem w_laws_likeInts (h : Heap) (a_ : List Int) {Sa_ : Bs} (aa_ : Option Addr) (ca_ : Nat) (ra_ : Rd cd2 h Sa_ aa_ ca_ a_) (b : List Int) {Sb : Bs} (ab : Option Addr) (cb : Nat) (rb : Rd cd2 h Sb ab cb b) (n : Nat) (r : Bool) (hF : laws_likeInts a_ b n = some r) :
    Fn Try.prog 39 #[.slice aa_ a_.length ca_, .slice ab b.length cb] h fun v h' => v = .bool r ∧ h' = h := by
  unfold laws_likeInts at hF
  refine Fn_enter (args := [.slice aa_ a_.length ca_, .slice ab b.length cb]) Try.func39 rfl (by kernel_rfl) (by kernel_rfl) (fun w0 _ => ?_)
  refine Run_seq ?_
  refine Run_reg 1 (by kernel_rfl) (L' := [(0, .slice aa_ a_.length ca_), (1, .slice ab b.length cb)]) ?_ ?_
  · refine QRun_b [.bool false] 0 _ (by kernel_rfl) (fun w => by kernel_rfl) ?_
    exact QRun_done [0, 1] (by kernel_rfl) (by kernel_rfl)
  refine Run_seq ?_
  refine Run_seq ?_
  refine Run_reg 5 (by kernel_rfl) (L' := [(0, .slice aa_ a_.length ca_), (1, .slice ab b.length cb), (10, .bool ((a_.length : Int) != (b.length : Int)))]) ?_ ?_
  · refine QRun_b [.slice aa_ a_.length ca_, .int .i64 (a_.length : Int), .slice ab b.length cb, .int .i64 (b.length : Int), .bool ((a_.length : Int) != (b.length : Int))] 0 _ (by kernel_rfl) (fun w => by kernel_rfl) ?_
    exact QRun_done [0, 1, 10] (by kernel_rfl) (by kernel_rfl)
  refine Run_cond (b := (a_.length : Int) != (b.length : Int)) (by kernel_rfl) (fun hb1 => ?_) (fun hb1 => ?_)
  · have hF := (M.ite_some hF).1 hb1
    refine Run_seq ?_
    refine Run_reg 1 (by kernel_rfl) (L' := [(4, .bool false)]) ?_ ?_
    · refine QRun_b [.bool false] 0 _ (by kernel_rfl) (fun w => by kernel_rfl) ?_
      exact QRun_done [4] (by kernel_rfl) (by kernel_rfl)
    have hF := M.ret_some hF
    subst hF
    exact Run_ret1 rfl (ResV_tmp (v := .bool false) (by kernel_rfl)) ⟨rfl, rfl⟩
  · have hF := (M.ite_some hF).2 hb1
    refine Run_skip ?_
    refine Run_seq ?_
    refine Run_seq ?_
    refine Run_reg 1 (by kernel_rfl) (L' := [(0, .slice aa_ a_.length ca_), (1, .slice ab b.length cb), (5, .int .i64 0)]) ?_ ?_
    · refine QRun_b [.int .i64 0] 0 _ (by kernel_rfl) (fun w => by kernel_rfl) ?_
      exact QRun_done [0, 1, 5] (by kernel_rfl) (by kernel_rfl)
    obtain ⟨x1, gx1, hF⟩ := M.bind_some hF
    obtain ⟨hloy1, hhiy1, gx1⟩ := M.for_start gx1
    refine Run_join (fun L' h' => ∃ (s2 : Unit), x1 = .inl s2 ∧ L' = [] ∧ h = h') ?_ ?_
    · rintro _ _ ⟨s2, es2, rfl, rfl⟩
      have hF := M.cont_inl' hF es2
      refine Run_seq ?_
      refine Run_reg 1 (by kernel_rfl) (L' := [(4, .bool true)]) ?_ ?_
      · refine QRun_b [.bool true] 0 _ (by kernel_rfl) (fun w => by kernel_rfl) ?_
        exact QRun_done [4] (by kernel_rfl) (by kernel_rfl)
      have hF := M.ret_some hF
      subst hF
      exact Run_ret1 rfl (ResV_tmp (v := .bool true) (by kernel_rfl)) ⟨rfl, rfl⟩
    · refine Run_block ?_
      refine Run_keep [0, 1, 5] (L' := [(0, .slice aa_ a_.length ca_), (1, .slice ab b.length cb), (5, .int .i64 0)]) (by kernel_rfl) ?_
      refine Run_loop (fun m L' h' => ∃ (i1 : Int) (s1 : Unit), 0 ≤ i1 ∧ M.forN (a_.length : Int) _ _ n m i1 s1 = some x1 ∧ L' = [(0, .slice aa_ a_.length ca_), (1, .slice ab b.length cb), (5, .int .i64 i1)] ∧ h = h') ((a_.length : Int) - 0 : Int).toNat ⟨0, (), Int.le_refl _, gx1, rfl, rfl⟩ ?_
      rintro my1 _ _ ⟨i1, s1, hloy1', gx1, rfl, rfl⟩
      refine Run_seq ?_
      refine Run_seq ?_
      refine Run_reg 4 (by kernel_rfl) (L' := [(0, .slice aa_ a_.length ca_), (1, .slice ab b.length cb), (5, .int .i64 i1), (14, .bool (decide (i1 < (a_.length : Int))))]) ?_ ?_
      · refine QRun_b [.int .i64 i1, .slice aa_ a_.length ca_, .int .i64 (a_.length : Int), .bool (decide (i1 < (a_.length : Int)))] 0 _ (by kernel_rfl) (fun w => by kernel_rfl) ?_
        exact QRun_done [0, 1, 5, 14] (by kernel_rfl) (by kernel_rfl)
      refine Run_cond (b := decide (i1 < (a_.length : Int))) (by kernel_rfl) (fun hb2 => ?_) (fun hb2 => ?_)
      · obtain ⟨my1, y1, rfl, hB1, hgoy1, houty1⟩ := M.for_go gx1 hb2
        have hlty1 := of_decide_eq_true hb2
        refine Run_skip ?_
        refine Run_seq ?_
        refine Run_block ?_
        refine Run_seq ?_
        obtain ⟨x2, hx1, hB1⟩ := M.bind_some hB1
        obtain ⟨hx1l, hx1u, hx1⟩ := M.idx_some hx1
        obtain ⟨x3, hx2, hB1⟩ := M.bind_some hB1
        obtain ⟨hx2l, hx2u, hx2⟩ := M.idx_some hx2
        refine Run_draw 9 mixed (by kernel_rfl) (by kernel_rfl) (L' := [(0, .slice aa_ a_.length ca_), (1, .slice ab b.length cb), (5, .int .i64 i1), (25, .bool (x2 != x3))]) ?_ ?_
        · refine QRun_b [.slice aa_ a_.length ca_, .int .i64 i1] 0 _ (by kernel_rfl) (fun w => by kernel_rfl) ?_
          refine QRun_y (.pointer (some (adr aa_ (i1.toNat * 1)))) (by kernel_rfl) (Y_idx (t := 39) (e := 2) (sz := 1) (a := aa_) (n := a_.length) (cap := ca_) (kk := .i64) (i := i1) (by kernel_rfl) Try.underlying39 (by kernel_rfl) (ra_.cell hx1).1 hx1l hx1u) ?_
          refine QRun_y (.int .i64 x2) (by kernel_rfl) (Y_load1 (t := 2) (p := adr aa_ (i1.toNat * 1)) (v := .int .i64 x2) (by kernel_rfl) (fun w => by kernel_rfl) (cd2_cell ra_ hx1)) ?_
          refine QRun_b [.slice ab b.length cb, .int .i64 i1] 4 _ (by kernel_rfl) (fun w => by kernel_rfl) ?_
          refine QRun_y (.pointer (some (adr ab (i1.toNat * 1)))) (by kernel_rfl) (Y_idx (t := 39) (e := 2) (sz := 1) (a := ab) (n := b.length) (cap := cb) (kk := .i64) (i := i1) (by kernel_rfl) Try.underlying39 (by kernel_rfl) (rb.cell hx2).1 hx2l hx2u) ?_
          refine QRun_y (.int .i64 x3) (by kernel_rfl) (Y_load1 (t := 2) (p := adr ab (i1.toNat * 1)) (v := .int .i64 x3) (by kernel_rfl) (fun w => by kernel_rfl) (cd2_cell rb hx2)) ?_
          refine QRun_b [.bool (x2 != x3)] 8 _ (by kernel_rfl) (fun w => by kernel_rfl) ?_
          exact QRun_done [0, 1, 5, 25] (by kernel_rfl) (by kernel_rfl)
        refine Run_cond (b := x2 != x3) (by kernel_rfl) (fun hb3 => ?_) (fun hb3 => ?_)
        · have hB1 := (M.ite_some hB1).1 hb3
          refine Run_seq ?_
          refine Run_reg 1 (by kernel_rfl) (L' := [(4, .bool false)]) ?_ ?_
          · refine QRun_b [.bool false] 0 _ (by kernel_rfl) (fun w => by kernel_rfl) ?_
            exact QRun_done [4] (by kernel_rfl) (by kernel_rfl)
          have hB1 := M.ret_some hB1
          have gx1 := houty1 _ hB1.symm
          have hF := M.cont_inr' hF gx1
          have hF := M.ret_some hF
          subst hF
          exact Run_ret1 rfl (ResV_tmp (v := .bool false) (by kernel_rfl)) ⟨rfl, rfl⟩
        · have hB1 := (M.ite_some hB1).2 hb3
          refine Run_skip ?_
          refine Run_blk ?_
          refine Run_reg 3 (by kernel_rfl) (L' := [(0, .slice aa_ a_.length ca_), (1, .slice ab b.length cb), (5, .int .i64 (i1 + 1))]) ?_ ?_
          · refine QRun_b [.int .i64 i1] 0 _ (by kernel_rfl) (fun w => by kernel_rfl) ?_
            refine QRun_y (.int .i64 (i1 + 1)) (by kernel_rfl) (Y_eq (v := .int .i64 (w64 (i1 + 1))) (Y_pure (fun w => by kernel_rfl)) (by rw [w64_eq _ (by omega)])) ?_
            refine QRun_b [.int .i64 (i1 + 1)] 2 _ (by kernel_rfl) (fun w => by kernel_rfl) ?_
            exact QRun_done [0, 1, 5] (by kernel_rfl) (by kernel_rfl)
          have hB1 := M.ret_some hB1
          have gx1 := hgoy1 _ hB1.symm
          exact Run_again [0, 1, 5] (by kernel_rfl) my1 (Nat.lt_succ_self _) ⟨i1 + 1, (), by omega, gx1, rfl, rfl⟩
      · have gx1 := M.for_end gx1 hb2
        subst gx1
        refine Run_exit (k' := _) rfl ?_
        exact Run_fall [] (by kernel_rfl) ⟨(), rfl, rfl, rfl⟩

set_option maxRecDepth 100000 in
set_option maxHeartbeats 4000000 in
theorem w_impl_sumOf (h : Heap) (list : List Int) {Slist : Bs} (alist : Option Addr) (clist : Nat) (rlist : Rd cd2 h Slist alist clist list) (n : Nat) (r : Int) (hF : impl_sumOf list n = some r) :
    Fn Try.prog 163 #[.slice alist list.length clist] h fun v h' => v = .int .i64 r ∧ h' = h := by
  unfold impl_sumOf at hF
  refine Fn_enter (args := [.slice alist list.length clist]) Try.func163 rfl (by kernel_rfl) (by kernel_rfl) (fun w0 _ => ?_)
  refine Run_seq ?_
  refine Run_reg 1 (by kernel_rfl) (L' := [(0, .slice alist list.length clist)]) ?_ ?_
  · refine QRun_b [.int .i64 0] 0 _ (by kernel_rfl) (fun w => by kernel_rfl) ?_
    exact QRun_done [0] (by kernel_rfl) (by kernel_rfl)
  refine Run_seq ?_
  refine Run_reg 1 (by kernel_rfl) (L' := [(0, .slice alist list.length clist), (3, .int .i64 (-1000000000000000))]) ?_ ?_
  · refine QRun_b [.int .i64 (-1000000000000000)] 0 _ (by kernel_rfl) (fun w => by kernel_rfl) ?_
    exact QRun_done [0, 3] (by kernel_rfl) (by kernel_rfl)
  refine Run_seq ?_
  refine Run_seq ?_
  refine Run_reg 3 (by kernel_rfl) (L' := [(3, .int .i64 (-1000000000000000)), (6, .slice alist list.length clist), (7, .int .i64 (list.length : Int)), (8, .int .i64 0)]) ?_ ?_
  · refine QRun_b [.slice alist list.length clist, .int .i64 (list.length : Int), .int .i64 0] 0 _ (by kernel_rfl) (fun w => by kernel_rfl) ?_
    exact QRun_done [3, 6, 7, 8] (by kernel_rfl) (by kernel_rfl)
  obtain ⟨x1, gx1, hF⟩ := M.bind_some hF
  obtain ⟨hloy1, hhiy1, gx1⟩ := M.for_start gx1
  refine Run_join (fun L' h' => L' = [(3, .int .i64 x1)] ∧ h = h') ?_ ?_
  · rintro _ _ ⟨rfl, rfl⟩
    refine Run_seq ?_
    refine Run_reg 2 (by kernel_rfl) (L' := [(2, .int .i64 x1)]) ?_ ?_
    · refine QRun_b [.int .i64 x1, .int .i64 x1] 0 _ (by kernel_rfl) (fun w => by kernel_rfl) ?_
      exact QRun_done [2] (by kernel_rfl) (by kernel_rfl)
    have hF := M.ret_some hF
    subst hF
    exact Run_ret1 rfl (ResV_tmp (v := .int .i64 x1) (by kernel_rfl)) ⟨rfl, rfl⟩
  · refine Run_block ?_
    refine Run_keep [3, 6, 7, 8] (L' := [(3, .int .i64 (-1000000000000000)), (6, .slice alist list.length clist), (7, .int .i64 (list.length : Int)), (8, .int .i64 0)]) (by kernel_rfl) ?_
    refine Run_loop (fun m L' h' => ∃ (i1 : Int) (s1 : Int), 0 ≤ i1 ∧ M.forN (list.length : Int) _ _ n m i1 s1 = some x1 ∧ L' = [(3, .int .i64 s1), (6, .slice alist list.length clist), (7, .int .i64 (list.length : Int)), (8, .int .i64 i1)] ∧ h = h') ((list.length : Int) - 0 : Int).toNat ⟨0, (-1000000000000000), Int.le_refl _, gx1, rfl, rfl⟩ ?_
    rintro my1 _ _ ⟨i1, s1, hloy1', gx1, rfl, rfl⟩
    refine Run_seq ?_
    refine Run_reg 1 (by kernel_rfl) (L' := [(3, .int .i64 s1), (6, .slice alist list.length clist), (7, .int .i64 (list.length : Int)), (8, .int .i64 i1), (9, .bool (decide (i1 < (list.length : Int))))]) ?_ ?_
    · refine QRun_b [.bool (decide (i1 < (list.length : Int)))] 0 _ (by kernel_rfl) (fun w => by kernel_rfl) ?_
      exact QRun_done [3, 6, 7, 8, 9] (by kernel_rfl) (by kernel_rfl)
    refine Run_seq ?_
    refine Run_cond (b := decide (i1 < (list.length : Int))) (by kernel_rfl) (fun hb1 => ?_) (fun hb1 => ?_)
    · obtain ⟨my1, y1, rfl, hB1, hgoy1, houty1⟩ := M.for_go gx1 hb1
      have hlty1 := of_decide_eq_true hb1
      refine Run_skip ?_
      refine Run_seq ?_
      refine Run_block ?_
      refine Run_seq ?_
      obtain ⟨x2, hx1, hB1⟩ := M.bind_some hB1
      obtain ⟨hx1l, hx1u, hx1⟩ := M.idx_some hx1
      refine Run_reg 3 (by kernel_rfl) (L' := [(3, .int .i64 s1), (5, .int .i64 x2), (6, .slice alist list.length clist), (7, .int .i64 (list.length : Int)), (8, .int .i64 i1)]) ?_ ?_
      · refine QRun_y (.pointer (some (adr alist (i1.toNat * 1)))) (by kernel_rfl) (Y_idx (t := 39) (e := 2) (sz := 1) (a := alist) (n := list.length) (cap := clist) (kk := .i64) (i := i1) (by kernel_rfl) Try.underlying39 (by kernel_rfl) (rlist.cell hx1).1 hx1l hx1u) ?_
        refine QRun_y (.int .i64 x2) (by kernel_rfl) (Y_load1 (t := 2) (p := adr alist (i1.toNat * 1)) (v := .int .i64 x2) (by kernel_rfl) (fun w => by kernel_rfl) (cd2_cell rlist hx1)) ?_
        refine QRun_b [.int .i64 x2] 2 _ (by kernel_rfl) (fun w => by kernel_rfl) ?_
        exact QRun_done [3, 5, 6, 7, 8] (by kernel_rfl) (by kernel_rfl)
      refine Run_reg 4 (by kernel_rfl) (L' := [(3, .int .i64 (mx s1 x2)), (6, .slice alist list.length clist), (7, .int .i64 (list.length : Int)), (8, .int .i64 i1)]) ?_ ?_
      · refine QRun_b [.int .i64 s1, .int .i64 x2, .int .i64 (mx s1 x2), .int .i64 (mx s1 x2)] 0 _ (by kernel_rfl) (fun w => by kernel_rfl) ?_
        exact QRun_done [3, 6, 7, 8] (by kernel_rfl) (by kernel_rfl)
      refine Run_blk ?_
      refine Run_reg 2 (by kernel_rfl) (L' := [(3, .int .i64 (mx s1 x2)), (6, .slice alist list.length clist), (7, .int .i64 (list.length : Int)), (8, .int .i64 (i1 + 1))]) ?_ ?_
      · refine QRun_y (.int .i64 (i1 + 1)) (by kernel_rfl) (Y_eq (v := .int .i64 (w64 (i1 + 1))) (Y_pure (fun w => by kernel_rfl)) (by rw [w64_eq _ (by omega)])) ?_
        refine QRun_b [.int .i64 (i1 + 1)] 1 _ (by kernel_rfl) (fun w => by kernel_rfl) ?_
        exact QRun_done [3, 6, 7, 8] (by kernel_rfl) (by kernel_rfl)
      have hB1 := M.ret_some hB1
      have gx1 := hgoy1 _ hB1.symm
      exact Run_again [3, 6, 7, 8] (by kernel_rfl) my1 (Nat.lt_succ_self _) ⟨i1 + 1, (mx s1 x2), by omega, gx1, rfl, rfl⟩
    · have gx1 := M.for_end gx1 hb1
      subst gx1
      refine Run_exit (k' := _) rfl ?_
      exact Run_fall [3] (by kernel_rfl) ⟨rfl, rfl⟩

set_option maxRecDepth 100000 in
set_option maxHeartbeats 4000000 in
theorem w_impl_IsPolynomial (h : Heap) (c_ : List Int) {Sc_ : Bs} (ac_ : Option Addr) (cc_ : Nat) (rc_ : Rd cd2 h Sc_ ac_ cc_ c_) (n : Nat) (r : Bool) (hF : impl_IsPolynomial c_ n = some r) :
    Fn Try.prog 114 #[.slice ac_ c_.length cc_] h fun v h' => v = .bool r ∧ h' = h := by
  unfold impl_IsPolynomial at hF
  refine Fn_enter (args := [.slice ac_ c_.length cc_]) Try.func114 rfl (by kernel_rfl) (by kernel_rfl) (fun w0 _ => ?_)
  refine Run_seq ?_
  refine Run_reg 1 (by kernel_rfl) (L' := [(0, .slice ac_ c_.length cc_)]) ?_ ?_
  · refine QRun_b [.bool false] 0 _ (by kernel_rfl) (fun w => by kernel_rfl) ?_
    exact QRun_done [0] (by kernel_rfl) (by kernel_rfl)
  refine Run_seq ?_
  obtain ⟨x1, hx1, hF⟩ := M.bind_some hF
  obtain ⟨x2, gx2, hF⟩ := M.bind_some hF
  obtain ⟨x4, gx4, hF⟩ := M.bind_some hF
  refine Run_reg 13 (by kernel_rfl) (L' := [(2, .bool x4)]) ?_ ?_
  · refine QRun_b [.slice ac_ c_.length cc_, .int .i64 (c_.length : Int)] 0 _ (by kernel_rfl) (fun w => by kernel_rfl) ?_
    refine QRun_y (.bool x1) (by kernel_rfl) (Y_callq (f := 108) (args := #[.int .i64 (c_.length : Int), .int .i64 1, .int .i64 12]) (v := .bool x1) (by kernel_rfl) (w_impl_within h (c_.length : Int) 1 12 _ _ hx1)) ?_
    refine QRun_seq 7 [(0, .slice ac_ c_.length cc_), (9, .bool x2)] ?_ ?_
    · rcases Bool.eq_false_or_eq_true x1 with hb1 | hb1
      · refine QRun_bool x1 true (by kernel_rfl) (fun w => by kernel_rfl) hb1 ?_
        have gx2 := (M.ite_some gx2).1 hb1
        obtain ⟨x3, hx2, gx2⟩ := M.bind_some gx2
        have gx2 := M.ret_some gx2
        refine QRun_b [.slice ac_ c_.length cc_] 4 _ (by kernel_rfl) (fun w => by kernel_rfl) ?_
        refine QRun_y (.bool x3) (by kernel_rfl) (Y_callq (f := 96) (args := #[.slice ac_ c_.length cc_]) (v := .bool x3) (by kernel_rfl) (w_impl_areValues h c_ ac_ cc_ rc_ _ _ hx2)) ?_
        refine QRun_bool x3 x2 (by kernel_rfl) (fun w => by kernel_rfl) gx2 ?_
        exact QRun_done [0, 9] (by kernel_rfl) (by kernel_rfl)
      · refine QRun_bool x1 false (by kernel_rfl) (fun w => by kernel_rfl) hb1 ?_
        have gx2 := M.ret_some ((M.ite_some gx2).2 hb1)
        refine QRun_n (by kernel_rfl) ?_
        refine QRun_n (by kernel_rfl) ?_
        refine QRun_bool false x2 (by kernel_rfl) (fun w => by kernel_rfl) gx2 ?_
        exact QRun_done [0, 9] (by kernel_rfl) (by kernel_rfl)
    refine QRun_seq 12 [(14, .bool x4)] ?_ ?_
    · rcases Bool.eq_false_or_eq_true x2 with hb2 | hb2
      · refine QRun_bool x2 true (by kernel_rfl) (fun w => by kernel_rfl) hb2 ?_
        have gx4 := (M.ite_some gx4).1 hb2
        obtain ⟨x5, hx3, gx4⟩ := M.bind_some gx4
        have gx4 := M.ret_some gx4
        refine QRun_b [.slice ac_ c_.length cc_] 8 _ (by kernel_rfl) (fun w => by kernel_rfl) ?_
        refine QRun_y (.int .i64 x5) (by kernel_rfl) (Y_callq (f := 163) (args := #[.slice ac_ c_.length cc_]) (v := .int .i64 x5) (by kernel_rfl) (w_impl_sumOf h c_ ac_ cc_ rc_ _ _ hx3)) ?_
        refine QRun_b [.bool (x5 != (-1000000000000000))] 10 _ (by kernel_rfl) (fun w => by kernel_rfl) ?_
        refine QRun_bool (x5 != (-1000000000000000)) x4 (by kernel_rfl) (fun w => by kernel_rfl) gx4 ?_
        exact QRun_done [14] (by kernel_rfl) (by kernel_rfl)
      · refine QRun_bool x2 false (by kernel_rfl) (fun w => by kernel_rfl) hb2 ?_
        have gx4 := M.ret_some ((M.ite_some gx4).2 hb2)
        refine QRun_n (by kernel_rfl) ?_
        refine QRun_n (by kernel_rfl) ?_
        refine QRun_n (by kernel_rfl) ?_
        refine QRun_bool false x4 (by kernel_rfl) (fun w => by kernel_rfl) gx4 ?_
        exact QRun_done [14] (by kernel_rfl) (by kernel_rfl)
    refine QRun_b [.bool x4] 12 _ (by kernel_rfl) (fun w => by kernel_rfl) ?_
    exact QRun_done [2] (by kernel_rfl) (by kernel_rfl)
  have hF := M.ret_some hF
  subst hF
  exact Run_ret1 rfl (ResV_tmp (v := .bool x4) (by kernel_rfl)) ⟨rfl, rfl⟩

set_option maxRecDepth 100000 in
set_option maxHeartbeats 4000000 in
theorem w_impl_essentialTerms (h : Heap) (c_ : List Int) (ac_ : Option Addr) (cc_ : Nat) (rc_ : Rd cd2 h (Lt h) ac_ cc_ c_) (n : Nat) (r : (List Int)) (hF : impl_essentialTerms c_ n = some r) :
    Fn Try.prog 119 #[.slice ac_ c_.length cc_] h fun v h' => ∃ (a0 : Option Addr) (c0 : Nat), v = .slice a0 r.length c0 ∧ Hold h h' [own cd2 a0 r.length c0 r] := by
  unfold impl_essentialTerms at hF
  refine Fn_enter (args := [.slice ac_ c_.length cc_]) Try.func119 rfl (by kernel_rfl) (by kernel_rfl) (fun w0 _ => ?_)
  have H0 := Hold.init h
  refine Run_seq ?_
  refine Run_reg 1 (by kernel_rfl) (L' := [(0, .slice ac_ c_.length cc_)]) ?_ ?_
  · refine QRun_b [.slice none 0 0] 0 _ (by kernel_rfl) (fun w => by kernel_rfl) ?_
    exact QRun_done [0] (by kernel_rfl) (by kernel_rfl)
  refine Run_seq ?_
  refine Run_reg 1 (by kernel_rfl) (L' := [(0, .slice ac_ c_.length cc_), (3, .slice none 0 0)]) ?_ ?_
  · refine QRun_b [.slice none 0 0] 0 _ (by kernel_rfl) (fun w => by kernel_rfl) ?_
    exact QRun_done [0, 3] (by kernel_rfl) (by kernel_rfl)
  refine Run_seq ?_
  refine Run_seq ?_
  refine Run_reg 3 (by kernel_rfl) (L' := [(0, .slice ac_ c_.length cc_), (3, .slice none 0 0), (9, .slice ac_ c_.length cc_), (10, .int .i64 (c_.length : Int)), (11, .int .i64 0)]) ?_ ?_
  · refine QRun_b [.slice ac_ c_.length cc_, .int .i64 (c_.length : Int), .int .i64 0] 0 _ (by kernel_rfl) (fun w => by kernel_rfl) ?_
    exact QRun_done [0, 3, 9, 10, 11] (by kernel_rfl) (by kernel_rfl)
  obtain ⟨x1, gx1, hF⟩ := M.bind_some hF
  obtain ⟨hloy1, hhiy1, gx1⟩ := M.for_start gx1
  refine Run_join (fun L' h' => ∃ (a2 : Option Addr) (c2 : Nat), L' = [(3, .slice a2 x1.length c2)] ∧ Hold h h' [own cd2 a2 x1.length c2 x1]) ?_ ?_
  · rintro _ h2 ⟨a2, c2, rfl, H2⟩
    refine Run_seq ?_
    refine Run_reg 2 (by kernel_rfl) (L' := [(2, .slice a2 x1.length c2)]) ?_ ?_
    · refine QRun_b [.slice a2 x1.length c2, .slice a2 x1.length c2] 0 _ (by kernel_rfl) (fun w => by kernel_rfl) ?_
      exact QRun_done [2] (by kernel_rfl) (by kernel_rfl)
    have hF := M.ret_some hF
    subst hF
    exact Run_ret1 rfl (ResV_tmp (v := .slice a2 x1.length c2) (by kernel_rfl)) ⟨a2, c2, rfl, H2⟩
  · refine Run_block ?_
    have H13 := H0.empty cd2
    refine Run_keep [0, 3, 9, 10, 11] (L' := [(0, .slice ac_ c_.length cc_), (3, .slice none 0 0), (9, .slice ac_ c_.length cc_), (10, .int .i64 (c_.length : Int)), (11, .int .i64 0)]) (by kernel_rfl) ?_
    refine Run_loop (fun m L' h' => ∃ (i1 : Int) (s1 : (List Int)) (a1 : Option Addr) (c1 : Nat), 0 ≤ i1 ∧ M.forN (c_.length : Int) _ _ n m i1 s1 = some x1 ∧ L' = [(0, .slice ac_ c_.length cc_), (3, .slice a1 s1.length c1), (9, .slice ac_ c_.length cc_), (10, .int .i64 (c_.length : Int)), (11, .int .i64 i1)] ∧ Hold h h' [own cd2 a1 s1.length c1 s1]) ((c_.length : Int) - 0 : Int).toNat ⟨0, [], none, 0, Int.le_refl _, gx1, rfl, H13⟩ ?_
    rintro my1 _ h1 ⟨i1, s1, a1, c1, hloy1', gx1, rfl, H1⟩
    refine Run_seq ?_
    refine Run_reg 1 (by kernel_rfl) (L' := [(0, .slice ac_ c_.length cc_), (3, .slice a1 s1.length c1), (9, .slice ac_ c_.length cc_), (10, .int .i64 (c_.length : Int)), (11, .int .i64 i1), (12, .bool (decide (i1 < (c_.length : Int))))]) ?_ ?_
    · refine QRun_b [.bool (decide (i1 < (c_.length : Int)))] 0 _ (by kernel_rfl) (fun w => by kernel_rfl) ?_
      exact QRun_done [0, 3, 9, 10, 11, 12] (by kernel_rfl) (by kernel_rfl)
    refine Run_seq ?_
    refine Run_cond (b := decide (i1 < (c_.length : Int))) (by kernel_rfl) (fun hb1 => ?_) (fun hb1 => ?_)
    · obtain ⟨my1, y1, rfl, hB1, hgoy1, houty1⟩ := M.for_go gx1 hb1
      have hlty1 := of_decide_eq_true hb1
      refine Run_skip ?_
      refine Run_seq ?_
      obtain ⟨s2, gs2, hB1⟩ := M.bind_some hB1
      refine Run_join (fun L' h' => ∃ (a7 : Option Addr), ∃ (c6 : Nat), L' = [(0, .slice ac_ c_.length cc_), (3, .slice a7 s2.length c6), (9, .slice ac_ c_.length cc_), (10, .int .i64 (c_.length : Int)), (11, .int .i64 i1)] ∧ Hold h h' [own cd2 a7 s2.length c6 s2]) ?_ ?_
      · rintro _ h7 ⟨a7, c6, rfl, H12⟩
        refine Run_reg 2 (by kernel_rfl) (L' := [(0, .slice ac_ c_.length cc_), (3, .slice a7 s2.length c6), (9, .slice ac_ c_.length cc_), (10, .int .i64 (c_.length : Int)), (11, .int .i64 (i1 + 1))]) ?_ ?_
        · refine QRun_y (.int .i64 (i1 + 1)) (by kernel_rfl) (Y_eq (v := .int .i64 (w64 (i1 + 1))) (Y_pure (fun w => by kernel_rfl)) (by rw [w64_eq _ (by omega)])) ?_
          refine QRun_b [.int .i64 (i1 + 1)] 1 _ (by kernel_rfl) (fun w => by kernel_rfl) ?_
          exact QRun_done [0, 3, 9, 10, 11] (by kernel_rfl) (by kernel_rfl)
        have hB1 := M.ret_some hB1
        have gx1 := hgoy1 _ hB1.symm
        exact Run_again [0, 3, 9, 10, 11] (by kernel_rfl) my1 (Nat.lt_succ_self _) ⟨i1 + 1, s2, a7, c6, by omega, gx1, rfl, H12⟩
      · refine Run_block ?_
        refine Run_seq ?_
        obtain ⟨x2, hx1, gs2⟩ := M.bind_some gs2
        obtain ⟨hx1l, hx1u, hx1⟩ := M.idx_some hx1
        refine Run_reg 5 (by kernel_rfl) (L' := [(0, .slice ac_ c_.length cc_), (3, .slice a1 s1.length c1), (4, .int .i64 i1), (5, .int .i64 x2), (9, .slice ac_ c_.length cc_), (10, .int .i64 (c_.length : Int)), (11, .int .i64 i1)]) ?_ ?_
        · refine QRun_b [.int .i64 i1] 0 _ (by kernel_rfl) (fun w => by kernel_rfl) ?_
          refine QRun_y (.pointer (some (adr ac_ (i1.toNat * 1)))) (by kernel_rfl) (Y_idx (t := 39) (e := 2) (sz := 1) (a := ac_) (n := c_.length) (cap := cc_) (kk := .i64) (i := i1) (by kernel_rfl) Try.underlying39 (by kernel_rfl) ((rc_.at H1.ext).cell hx1).1 hx1l hx1u) ?_
          refine QRun_y (.int .i64 x2) (by kernel_rfl) (Y_load1 (t := 2) (p := adr ac_ (i1.toNat * 1)) (v := .int .i64 x2) (by kernel_rfl) (fun w => by kernel_rfl) (cd2_cell (rc_.at H1.ext) hx1)) ?_
          refine QRun_b [.int .i64 i1, .int .i64 x2] 3 _ (by kernel_rfl) (fun w => by kernel_rfl) ?_
          exact QRun_done [0, 3, 4, 5, 9, 10, 11] (by kernel_rfl) (by kernel_rfl)
        refine Run_seq ?_
        refine Run_seq ?_
        refine Run_reg 2 (by kernel_rfl) (L' := [(0, .slice ac_ c_.length cc_), (3, .slice a1 s1.length c1), (4, .int .i64 i1), (5, .int .i64 x2), (9, .slice ac_ c_.length cc_), (10, .int .i64 (c_.length : Int)), (11, .int .i64 i1), (17, .bool (x2 == (-1000000000000000)))]) ?_ ?_
        · refine QRun_b [.int .i64 x2, .bool (x2 == (-1000000000000000))] 0 _ (by kernel_rfl) (fun w => by kernel_rfl) ?_
          exact QRun_done [0, 3, 4, 5, 9, 10, 11, 17] (by kernel_rfl) (by kernel_rfl)
        refine Run_cond (b := x2 == (-1000000000000000)) (by kernel_rfl) (fun hb2 => ?_) (fun hb2 => ?_)
        · have gs2 := (M.ite_some gs2).1 hb2
          refine Run_exit (k' := _) rfl ?_
          have gs2 := M.ret_some gs2
          subst gs2
          exact Run_fall [0, 3, 9, 10, 11] (by kernel_rfl) ⟨a1, c1, rfl, H1⟩
        · have gs2 := (M.ite_some gs2).2 hb2
          refine Run_skip ?_
          refine Run_seq ?_
          obtain ⟨x3, gx3, gs2⟩ := M.bind_some gs2
          refine Run_join (fun L' h' => ∃ (a4 : Option Addr) (c4 : Nat), L' = [(0, .slice ac_ c_.length cc_), (3, .slice a4 x3.length c4), (4, .int .i64 i1), (9, .slice ac_ c_.length cc_), (10, .int .i64 (c_.length : Int)), (11, .int .i64 i1)] ∧ Hold h h' [own cd2 a4 x3.length c4 x3]) ?_ ?_
          · rintro _ h4 ⟨a4, c4, rfl, H4⟩
            refine Run_ops ?_
            refine Run_b [.slice a4 x3.length c4, .int .i64 i1] 0 _ (by kernel_rfl) (fun w => by kernel_rfl) ?_
            refine Run_E (by kernel_rfl) ?_
            refine E_lit (C := cd2) (n := 1) (l := ([i1] : List Int)) (cs := [.int .i64 i1]) H4 (fun w => by kernel_rfl) (Enc.consE (cd2_own i1 _) (Enc.nil _ _) rfl) rfl (by decide) (fun a5 h5 H7 => ?_)
            obtain ⟨l1, hl1, gs2⟩ := M.bind_some gs2
            have hl1 := M.app_some hl1
            have H8 : Hold h h5 [own cd2 a4 x3.length c4 x3, own cd2 a5 1 1 ([i1] : List Int)] := H7.pick [1, 0] (by kernel_rfl)
            have H9 : Hold h h5 [own cd2 a5 1 1 ([i1] : List Int), own cd2 a4 x3.length c4 x3] := H8.pick [1, 0] (by kernel_rfl)
            have H10 : Hold h h5 [own cd2 a4 x3.length c4 x3, own cd2 a5 1 1 ([i1] : List Int)] := H9.pick [1, 0] (by kernel_rfl)
            refine Run_E (by kernel_rfl) ?_
            refine E_app (C := cd2) (t := 39) (ty := 39) (n := x3.length) (m := 1) H10 cd2_ti rfl Try.underlying39 (by decide) (by kernel_rfl) hl1 (fun a6 c5 h6 H11 => ?_)
            refine Run_b [.slice a6 l1.length c5] 4 _ (by kernel_rfl) (fun w => by kernel_rfl) ?_
            refine Run_nil (by kernel_rfl) ?_
            refine Run_keep [0, 3, 9, 10, 11] (L' := [(0, .slice ac_ c_.length cc_), (3, .slice a6 l1.length c5), (9, .slice ac_ c_.length cc_), (10, .int .i64 (c_.length : Int)), (11, .int .i64 i1)]) (by kernel_rfl) ?_
            refine Run_blk ?_
            have gs2 := M.ret_some gs2
            subst gs2
            exact Run_fall [0, 3, 9, 10, 11] (by kernel_rfl) ⟨a6, c5, rfl, H11⟩
          · refine Run_block ?_
            refine Run_keep [0, 3, 4, 5, 9, 10, 11] (L' := [(0, .slice ac_ c_.length cc_), (3, .slice a1 s1.length c1), (4, .int .i64 i1), (5, .int .i64 x2), (9, .slice ac_ c_.length cc_), (10, .int .i64 (c_.length : Int)), (11, .int .i64 i1)]) (by kernel_rfl) ?_
            refine Run_loop (fun m L' h' => ∃ (s3 : (List Int)) (a3 : Option Addr) (c3 : Nat), M.loopN _ n m s3 = some x3 ∧ L' = [(0, .slice ac_ c_.length cc_), (3, .slice a3 s3.length c3), (4, .int .i64 i1), (5, .int .i64 x2), (9, .slice ac_ c_.length cc_), (10, .int .i64 (c_.length : Int)), (11, .int .i64 i1)] ∧ Hold h h' [own cd2 a3 s3.length c3 s3]) n ⟨s1, a1, c1, gx3, rfl, H1⟩ ?_
            rintro my2 _ h3 ⟨s3, a3, c3, gx3, rfl, H3⟩
            obtain ⟨my2, y2, rfl, hB2, hgoy2, houty2⟩ := M.loop_some gx3
            refine Run_seq ?_
            refine Run_seq ?_
            refine Run_reg 3 (by kernel_rfl) (L' := [(0, .slice ac_ c_.length cc_), (3, .slice a3 s3.length c3), (4, .int .i64 i1), (5, .int .i64 x2), (9, .slice ac_ c_.length cc_), (10, .int .i64 (c_.length : Int)), (11, .int .i64 i1), (20, .bool (decide (1 < (s3.length : Int))))]) ?_ ?_
            · refine QRun_b [.slice a3 s3.length c3, .int .i64 (s3.length : Int), .bool (decide (1 < (s3.length : Int)))] 0 _ (by kernel_rfl) (fun w => by kernel_rfl) ?_
              exact QRun_done [0, 3, 4, 5, 9, 10, 11, 20] (by kernel_rfl) (by kernel_rfl)
            refine Run_cond (b := decide (1 < (s3.length : Int))) (by kernel_rfl) (fun hb3 => ?_) (fun hb3 => ?_)
            · have hB2 := (M.ite_some hB2).1 hb3
              refine Run_skip ?_
              refine Run_block ?_
              refine Run_seq ?_
              obtain ⟨x4, hx2, hB2⟩ := M.bind_some hB2
              obtain ⟨hx2l, hx2u, hx2⟩ := M.idx_some hx2
              obtain ⟨x5, hx3, hB2⟩ := M.bind_some hB2
              obtain ⟨hx3l, hx3u, hx3⟩ := M.idx_some hx3
              refine Run_draw 16 mixed (by kernel_rfl) (by kernel_rfl) (L' := [(0, .slice ac_ c_.length cc_), (3, .slice a3 s3.length c3), (4, .int .i64 i1), (5, .int .i64 x2), (6, .int .i64 x4), (7, .int .i64 x5), (8, .int .i64 i1), (9, .slice ac_ c_.length cc_), (10, .int .i64 (c_.length : Int)), (11, .int .i64 i1)]) ?_ ?_
              · refine QRun_b [.slice a3 s3.length c3, .slice a3 s3.length c3, .int .i64 (s3.length : Int), .int .i64 (w64 ((s3.length : Int) - 2))] 0 _ (by kernel_rfl) (fun w => by kernel_rfl) ?_
                refine QRun_y (.pointer (some (adr a3 ((w64 ((s3.length : Int) - 2)).toNat * 1)))) (by kernel_rfl) (Y_idx (t := 39) (e := 2) (sz := 1) (a := a3) (n := s3.length) (cap := c3) (kk := .i64) (i := w64 ((s3.length : Int) - 2)) (by kernel_rfl) Try.underlying39 (by kernel_rfl) ((H3.rd 0 rfl).cell hx2).1 hx2l hx2u) ?_
                refine QRun_y (.int .i64 x4) (by kernel_rfl) (Y_load1 (t := 2) (p := adr a3 ((w64 ((s3.length : Int) - 2)).toNat * 1)) (v := .int .i64 x4) (by kernel_rfl) (fun w => by kernel_rfl) (cd2_cell (H3.rd 0 rfl) hx2)) ?_
                refine QRun_b [.slice a3 s3.length c3, .slice a3 s3.length c3, .int .i64 (s3.length : Int), .int .i64 (w64 ((s3.length : Int) - 1))] 6 _ (by kernel_rfl) (fun w => by kernel_rfl) ?_
                refine QRun_y (.pointer (some (adr a3 ((w64 ((s3.length : Int) - 1)).toNat * 1)))) (by kernel_rfl) (Y_idx (t := 39) (e := 2) (sz := 1) (a := a3) (n := s3.length) (cap := c3) (kk := .i64) (i := w64 ((s3.length : Int) - 1)) (by kernel_rfl) Try.underlying39 (by kernel_rfl) ((H3.rd 0 rfl).cell hx3).1 hx3l hx3u) ?_
                refine QRun_y (.int .i64 x5) (by kernel_rfl) (Y_load1 (t := 2) (p := adr a3 ((w64 ((s3.length : Int) - 1)).toNat * 1)) (v := .int .i64 x5) (by kernel_rfl) (fun w => by kernel_rfl) (cd2_cell (H3.rd 0 rfl) hx3)) ?_
                refine QRun_b [.int .i64 i1, .int .i64 x4, .int .i64 x5, .int .i64 i1] 12 _ (by kernel_rfl) (fun w => by kernel_rfl) ?_
                exact QRun_done [0, 3, 4, 5, 6, 7, 8, 9, 10, 11] (by kernel_rfl) (by kernel_rfl)
              refine Run_seq ?_
              refine Run_seq ?_
              obtain ⟨x6, hx4, hB2⟩ := M.bind_some hB2
              obtain ⟨hx4l, hx4u, hx4⟩ := M.idx_some hx4
              obtain ⟨x7, hx5, hB2⟩ := M.bind_some hB2
              obtain ⟨hx5l, hx5u, hx5⟩ := M.idx_some hx5
              obtain ⟨x8, hx6, hB2⟩ := M.bind_some hB2
              obtain ⟨hx6l, hx6u, hx6⟩ := M.idx_some hx6
              refine Run_draw 24 mixed (by kernel_rfl) (by kernel_rfl) (L' := [(0, .slice ac_ c_.length cc_), (3, .slice a3 s3.length c3), (4, .int .i64 i1), (5, .int .i64 x2), (9, .slice ac_ c_.length cc_), (10, .int .i64 (c_.length : Int)), (11, .int .i64 i1), (57, .bool (decide ((w64 ((w64 (x2 - x8)) * (w64 (x5 - x4)))) < (w64 ((w64 (x6 - x7)) * (w64 (i1 - x4)))))))]) ?_ ?_
              · refine QRun_b [.slice ac_ c_.length cc_, .int .i64 x5] 0 _ (by kernel_rfl) (fun w => by kernel_rfl) ?_
                refine QRun_y (.pointer (some (adr ac_ (x5.toNat * 1)))) (by kernel_rfl) (Y_idx (t := 39) (e := 2) (sz := 1) (a := ac_) (n := c_.length) (cap := cc_) (kk := .i64) (i := x5) (by kernel_rfl) Try.underlying39 (by kernel_rfl) ((rc_.at H3.ext).cell hx4).1 hx4l hx4u) ?_
                refine QRun_y (.int .i64 x6) (by kernel_rfl) (Y_load1 (t := 2) (p := adr ac_ (x5.toNat * 1)) (v := .int .i64 x6) (by kernel_rfl) (fun w => by kernel_rfl) (cd2_cell (rc_.at H3.ext) hx4)) ?_
                refine QRun_b [.slice ac_ c_.length cc_, .int .i64 x4] 4 _ (by kernel_rfl) (fun w => by kernel_rfl) ?_
                refine QRun_y (.pointer (some (adr ac_ (x4.toNat * 1)))) (by kernel_rfl) (Y_idx (t := 39) (e := 2) (sz := 1) (a := ac_) (n := c_.length) (cap := cc_) (kk := .i64) (i := x4) (by kernel_rfl) Try.underlying39 (by kernel_rfl) ((rc_.at H3.ext).cell hx5).1 hx5l hx5u) ?_
                refine QRun_y (.int .i64 x7) (by kernel_rfl) (Y_load1 (t := 2) (p := adr ac_ (x4.toNat * 1)) (v := .int .i64 x7) (by kernel_rfl) (fun w => by kernel_rfl) (cd2_cell (rc_.at H3.ext) hx5)) ?_
                refine QRun_b [.int .i64 (w64 (x6 - x7)), .int .i64 i1, .int .i64 x4, .int .i64 (w64 (i1 - x4)), .int .i64 (w64 ((w64 (x6 - x7)) * (w64 (i1 - x4)))), .int .i64 x2, .slice ac_ c_.length cc_, .int .i64 x4] 8 _ (by kernel_rfl) (fun w => by kernel_rfl) ?_
                refine QRun_y (.pointer (some (adr ac_ (x4.toNat * 1)))) (by kernel_rfl) (Y_idx (t := 39) (e := 2) (sz := 1) (a := ac_) (n := c_.length) (cap := cc_) (kk := .i64) (i := x4) (by kernel_rfl) Try.underlying39 (by kernel_rfl) ((rc_.at H3.ext).cell hx6).1 hx6l hx6u) ?_
                refine QRun_y (.int .i64 x8) (by kernel_rfl) (Y_load1 (t := 2) (p := adr ac_ (x4.toNat * 1)) (v := .int .i64 x8) (by kernel_rfl) (fun w => by kernel_rfl) (cd2_cell (rc_.at H3.ext) hx6)) ?_
                refine QRun_b [.int .i64 (w64 (x2 - x8)), .int .i64 x5, .int .i64 x4, .int .i64 (w64 (x5 - x4)), .int .i64 (w64 ((w64 (x2 - x8)) * (w64 (x5 - x4)))), .bool (decide ((w64 ((w64 (x2 - x8)) * (w64 (x5 - x4)))) < (w64 ((w64 (x6 - x7)) * (w64 (i1 - x4))))))] 18 _ (by kernel_rfl) (fun w => by kernel_rfl) ?_
                exact QRun_done [0, 3, 4, 5, 9, 10, 11, 57] (by kernel_rfl) (by kernel_rfl)
              refine Run_cond (b := decide ((w64 ((w64 (x2 - x8)) * (w64 (x5 - x4)))) < (w64 ((w64 (x6 - x7)) * (w64 (i1 - x4)))))) (by kernel_rfl) (fun hb4 => ?_) (fun hb4 => ?_)
              · have hB2 := (M.ite_some hB2).1 hb4
                refine Run_exit (k' := _) rfl ?_
                have hB2 := M.ret_some hB2
                have gx3 := houty2 _ hB2.symm
                subst gx3
                exact Run_fall [0, 3, 4, 9, 10, 11] (by kernel_rfl) ⟨a3, c3, rfl, H3⟩
              · have hB2 := (M.ite_some hB2).2 hb4
                refine Run_skip ?_
                obtain ⟨x9, hx7, hB2⟩ := M.bind_some hB2
                obtain ⟨hx7a, hx7b, hx7c, hx7d⟩ := M.sub_some hx7
                obtain ⟨H5, e1⟩ := H3.cut (w64 ((s3.length : Int) - 1)).toNat
                have hx7q : x9 = s3.take (w64 ((s3.length : Int) - 1)).toNat := by rw [hx7d]; rfl
                have H6 : Hold h h3 [own cd2 a3 x9.length c3 x9] := by rw [hx7q]; exact H5
                refine Run_reg 6 (by kernel_rfl) (L' := [(0, .slice ac_ c_.length cc_), (3, .slice a3 x9.length c3), (4, .int .i64 i1), (5, .int .i64 x2), (9, .slice ac_ c_.length cc_), (10, .int .i64 (c_.length : Int)), (11, .int .i64 i1)]) ?_ ?_
                · refine QRun_b [.slice a3 s3.length c3, .slice a3 s3.length c3, .int .i64 (s3.length : Int), .int .i64 (w64 ((s3.length : Int) - 1))] 0 _ (by kernel_rfl) (fun w => by kernel_rfl) ?_
                  refine QRun_y (.slice a3 x9.length c3) (by kernel_rfl) (Y_eq (Y_slice (t := 39) (e := 2) (sz := 1) (a := a3) (n := s3.length) (cap := c3) (lo := none) (hi := (some (.i64, w64 ((s3.length : Int) - 1)))) (x := 0) (y := w64 ((s3.length : Int) - 1)) (by kernel_rfl) Try.underlying39 (by kernel_rfl) (H3.rd 0 rfl).fits rfl rfl hx7a hx7b hx7c) (by rw [show sliceA a3 c3 (0 : Int).toNat 1 = a3 from e1]; simp only [hx7q, List.length_take]; congr 1; omega)) ?_
                  refine QRun_b [.slice a3 x9.length c3] 5 _ (by kernel_rfl) (fun w => by kernel_rfl) ?_
                  exact QRun_done [0, 3, 4, 5, 9, 10, 11] (by kernel_rfl) (by kernel_rfl)
                refine Run_blk ?_
                have hB2 := M.ret_some hB2
                have gx3 := hgoy2 _ hB2.symm
                exact Run_again [0, 3, 4, 5, 9, 10, 11] (by kernel_rfl) my2 (Nat.lt_succ_self _) ⟨x9, a3, c3, gx3, rfl, H6⟩
            · have hB2 := (M.ite_some hB2).2 hb3
              refine Run_exit (k' := _) rfl ?_
              have hB2 := M.ret_some hB2
              have gx3 := houty2 _ hB2.symm
              subst gx3
              exact Run_fall [0, 3, 4, 9, 10, 11] (by kernel_rfl) ⟨a3, c3, rfl, H3⟩
    · have gx1 := M.for_end gx1 hb1
      subst gx1
      refine Run_exit (k' := _) rfl ?_
      exact Run_fall [3] (by kernel_rfl) ⟨a1, c1, rfl, H1⟩

set_option maxRecDepth 100000 in
set_option maxHeartbeats 4000000 in
theorem w_impl_absOf (h : Heap) (n_ : Int) (n : Nat) (r : Int) (hF : impl_absOf n_ n = some r) :
    Fn Try.prog 166 #[.int .i64 n_] h fun v h' => v = .int .i64 r ∧ h' = h := by
  unfold impl_absOf at hF
  refine Fn_enter (args := [.int .i64 n_]) Try.func166 rfl (by kernel_rfl) (by kernel_rfl) (fun w0 _ => ?_)
  refine Run_seq ?_
  refine Run_reg 1 (by kernel_rfl) (L' := [(0, .int .i64 n_)]) ?_ ?_
  · refine QRun_b [.int .i64 0] 0 _ (by kernel_rfl) (fun w => by kernel_rfl) ?_
    exact QRun_done [0] (by kernel_rfl) (by kernel_rfl)
  refine Run_seq ?_
  refine Run_seq ?_
  refine Run_reg 2 (by kernel_rfl) (L' := [(0, .int .i64 n_), (4, .bool (decide (n_ < 0)))]) ?_ ?_
  · refine QRun_b [.int .i64 n_, .bool (decide (n_ < 0))] 0 _ (by kernel_rfl) (fun w => by kernel_rfl) ?_
    exact QRun_done [0, 4] (by kernel_rfl) (by kernel_rfl)
  refine Run_cond (b := decide (n_ < 0)) (by kernel_rfl) (fun hb1 => ?_) (fun hb1 => ?_)
  · have hF := (M.ite_some hF).1 hb1
    refine Run_seq ?_
    refine Run_reg 3 (by kernel_rfl) (L' := [(2, .int .i64 (w64 (0 - n_)))]) ?_ ?_
    · refine QRun_b [.int .i64 n_, .int .i64 (w64 (0 - n_)), .int .i64 (w64 (0 - n_))] 0 _ (by kernel_rfl) (fun w => by kernel_rfl) ?_
      exact QRun_done [2] (by kernel_rfl) (by kernel_rfl)
    have hF := M.ret_some hF
    subst hF
    exact Run_ret1 rfl (ResV_tmp (v := .int .i64 (w64 (0 - n_))) (by kernel_rfl)) ⟨rfl, rfl⟩
  · have hF := (M.ite_some hF).2 hb1
    refine Run_skip ?_
    refine Run_seq ?_
    refine Run_reg 2 (by kernel_rfl) (L' := [(2, .int .i64 n_)]) ?_ ?_
    · refine QRun_b [.int .i64 n_, .int .i64 n_] 0 _ (by kernel_rfl) (fun w => by kernel_rfl) ?_
      exact QRun_done [2] (by kernel_rfl) (by kernel_rfl)
    have hF := M.ret_some hF
    subst hF
    exact Run_ret1 rfl (ResV_tmp (v := .int .i64 n_) (by kernel_rfl)) ⟨rfl, rfl⟩

set_option maxRecDepth 100000 in
set_option maxHeartbeats 4000000 in
theorem w_impl_divisorOf (h : Heap) (a_ : Int) (b : Int) (n : Nat) (r : Int) (hF : impl_divisorOf a_ b n = some r) :
    Fn Try.prog 165 #[.int .i64 a_, .int .i64 b] h fun v h' => v = .int .i64 r ∧ h' = h := by
  unfold impl_divisorOf at hF
  refine Fn_enter (args := [.int .i64 a_, .int .i64 b]) Try.func165 rfl (by kernel_rfl) (by kernel_rfl) (fun w0 _ => ?_)
  refine Run_seq ?_
  refine Run_reg 1 (by kernel_rfl) (L' := [(0, .int .i64 a_), (1, .int .i64 b)]) ?_ ?_
  · refine QRun_b [.int .i64 0] 0 _ (by kernel_rfl) (fun w => by kernel_rfl) ?_
    exact QRun_done [0, 1] (by kernel_rfl) (by kernel_rfl)
  refine Run_seq ?_
  obtain ⟨x1, gx1, hF⟩ := M.bind_some hF
  refine Run_join (fun L' h' => L' = [(0, .int .i64 x1.1)] ∧ h = h') ?_ ?_
  · rintro _ _ ⟨rfl, rfl⟩
    refine Run_seq ?_
    refine Run_reg 2 (by kernel_rfl) (L' := [(4, .int .i64 x1.1)]) ?_ ?_
    · refine QRun_b [.int .i64 x1.1, .int .i64 x1.1] 0 _ (by kernel_rfl) (fun w => by kernel_rfl) ?_
      exact QRun_done [4] (by kernel_rfl) (by kernel_rfl)
    have hF := M.ret_some hF
    subst hF
    exact Run_ret1 rfl (ResV_tmp (v := .int .i64 x1.1) (by kernel_rfl)) ⟨rfl, rfl⟩
  · refine Run_block ?_
    refine Run_keep [0, 1] (L' := [(0, .int .i64 a_), (1, .int .i64 b)]) (by kernel_rfl) ?_
    refine Run_loop (fun m L' h' => ∃ (s1 : Int × Int), M.loopN _ n m s1 = some x1 ∧ L' = [(0, .int .i64 s1.1), (1, .int .i64 s1.2)] ∧ h = h') n ⟨(a_, b), gx1, rfl, rfl⟩ ?_
    rintro my1 _ _ ⟨s1, gx1, rfl, rfl⟩
    obtain ⟨my1, y1, rfl, hB1, hgoy1, houty1⟩ := M.loop_some gx1
    refine Run_seq ?_
    refine Run_seq ?_
    refine Run_reg 2 (by kernel_rfl) (L' := [(0, .int .i64 s1.1), (1, .int .i64 s1.2), (6, .bool (decide (0 < s1.2)))]) ?_ ?_
    · refine QRun_b [.int .i64 s1.2, .bool (decide (0 < s1.2))] 0 _ (by kernel_rfl) (fun w => by kernel_rfl) ?_
      exact QRun_done [0, 1, 6] (by kernel_rfl) (by kernel_rfl)
    refine Run_cond (b := decide (0 < s1.2)) (by kernel_rfl) (fun hb1 => ?_) (fun hb1 => ?_)
    · have hB1 := (M.ite_some hB1).1 hb1
      refine Run_skip ?_
      refine Run_block ?_
      obtain ⟨u1, hz1, hB1⟩ := M.bind_some hB1
      have hz1 := M.guard_some hz1
      refine Run_draw 6 mixed (by kernel_rfl) (by kernel_rfl) (L' := [(0, .int .i64 s1.2), (1, .int .i64 (s1.1.tmod s1.2))]) ?_ ?_
      · refine QRun_b [.int .i64 s1.2, .int .i64 s1.1, .int .i64 s1.2] 0 _ (by kernel_rfl) (fun w => by kernel_rfl) ?_
        refine QRun_y (.int .i64 (s1.1.tmod s1.2)) (by kernel_rfl) (Y_rem (op := .rem) (k := .i64) (x := s1.1) (y := s1.2) (by kernel_rfl) hz1) ?_
        refine QRun_b [.int .i64 s1.2, .int .i64 (s1.1.tmod s1.2)] 4 _ (by kernel_rfl) (fun w => by kernel_rfl) ?_
        exact QRun_done [0, 1] (by kernel_rfl) (by kernel_rfl)
      refine Run_blk ?_
      have hB1 := M.ret_some hB1
      have gx1 := hgoy1 _ hB1.symm
      exact Run_again [0, 1] (by kernel_rfl) my1 (Nat.lt_succ_self _) ⟨(s1.2, (s1.1.tmod s1.2)), gx1, rfl, rfl⟩
    · have hB1 := (M.ite_some hB1).2 hb1
      refine Run_exit (k' := _) rfl ?_
      have hB1 := M.ret_some hB1
      have gx1 := houty1 _ hB1.symm
      subst gx1
      exact Run_fall [0] (by kernel_rfl) ⟨rfl, rfl⟩

set_option maxRecDepth 100000 in
set_option maxHeartbeats 4000000 in
theorem w_impl_ratioOf (h : Heap) (num : Int) (den : Int) (n : Nat) (r : TRatio) (hF : impl_ratioOf num den n = some r) :
    Fn Try.prog 120 #[.int .i64 num, .int .i64 den] h fun v h' => v = .agg #[.int .i64 r.Num, .int .i64 r.Den] ∧ Hold h h' [] := by
  unfold impl_ratioOf at hF
  refine Fn_enter (args := [.int .i64 num, .int .i64 den]) Try.func120 rfl (by kernel_rfl) (by kernel_rfl) (fun w0 _ => ?_)
  have H0 := Hold.init h
  refine Run_seq ?_
  refine Run_ops ?_
  refine Run_E (by kernel_rfl) ?_
  refine E_box (ty := 67) (cs := [.int .i64 0, .int .i64 0]) H0 (fun w => by kernel_rfl) (fun b1 h1 H1 => ?_)
  refine Run_nil (by kernel_rfl) ?_
  refine Run_keep [0, 1, 4] (L' := [(0, .int .i64 num), (1, .int .i64 den), (4, .pointer (some ⟨b1, 0, none⟩))]) (by kernel_rfl) ?_
  refine Run_seq ?_
  refine Run_seq ?_
  refine Run_reg 2 (by kernel_rfl) (L' := [(0, .int .i64 num), (1, .int .i64 den), (4, .pointer (some ⟨b1, 0, none⟩)), (7, .bool (decide (den < 0)))]) ?_ ?_
  · refine QRun_b [.int .i64 den, .bool (decide (den < 0))] 0 _ (by kernel_rfl) (fun w => by kernel_rfl) ?_
    exact QRun_done [0, 1, 4, 7] (by kernel_rfl) (by kernel_rfl)
  obtain ⟨s1, gs1, hF⟩ := M.bind_some hF
  refine Run_join (fun L' h' => L' = [(0, .int .i64 s1.1), (1, .int .i64 s1.2), (4, .pointer (some ⟨b1, 0, none⟩))] ∧ Hold h h' [box b1 67 [.int .i64 0, .int .i64 0]]) ?_ ?_
  · rintro _ h2 ⟨rfl, H2⟩
    refine Run_seq ?_
    obtain ⟨x1, hx1, hF⟩ := M.bind_some hF
    obtain ⟨x2, hx2, hF⟩ := M.bind_some hF
    refine Run_reg 5 (by kernel_rfl) (L' := [(0, .int .i64 s1.1), (1, .int .i64 s1.2), (4, .pointer (some ⟨b1, 0, none⟩)), (5, .int .i64 x2)]) ?_ ?_
    · refine QRun_b [.int .i64 s1.1] 0 _ (by kernel_rfl) (fun w => by kernel_rfl) ?_
      refine QRun_y (.int .i64 x1) (by kernel_rfl) (Y_callq (f := 166) (args := #[.int .i64 s1.1]) (v := .int .i64 x1) (by kernel_rfl) (w_impl_absOf h2 s1.1 _ _ hx1)) ?_
      refine QRun_b [.int .i64 s1.2] 2 _ (by kernel_rfl) (fun w => by kernel_rfl) ?_
      refine QRun_y (.int .i64 x2) (by kernel_rfl) (Y_callq (f := 165) (args := #[.int .i64 x1, .int .i64 s1.2]) (v := .int .i64 x2) (by kernel_rfl) (w_impl_divisorOf h2 x1 s1.2 _ _ hx2)) ?_
      refine QRun_b [.int .i64 x2] 4 _ (by kernel_rfl) (fun w => by kernel_rfl) ?_
      exact QRun_done [0, 1, 4, 5] (by kernel_rfl) (by kernel_rfl)
    refine Run_seq ?_
    obtain ⟨u1, hz1, hF⟩ := M.bind_some hF
    have hz1 := M.guard_some hz1
    obtain ⟨u2, hz2, hF⟩ := M.bind_some hF
    have hz2 := M.guard_some hz2
    refine Run_D (fun x => Hold h x [box b1 67 [.int .i64 0, .int .i64 0]]) (fun x => Hold h x [box b1 67 [.int .i64 0, .int .i64 0]]) mixed (by kernel_rfl) H2 Hold.stable (fun x Hy => (show Hold h x [box b1 67 [.int .i64 0, .int .i64 0]] from Hy).pick [0] (by kernel_rfl)) ?_
    refine DR_b 6 [.int .i64 s1.1, .int .i64 x2] 0 (by kernel_rfl) (by kernel_rfl) (by kernel_rfl) (fun w => by kernel_rfl) ?_
    refine DR_y 5 (i := 2) (.int .i64 (w64 (s1.1.tdiv x2))) (by kernel_rfl) (by kernel_rfl) (by kernel_rfl) (fun hx Hx => (YE.of (Y_quo (op := .quo) (k := .i64) (x := s1.1) (y := x2) (by kernel_rfl) hz1))) ?_
    refine DR_b 3 [.int .i64 s1.2, .int .i64 x2] 3 (by kernel_rfl) (by kernel_rfl) (by kernel_rfl) (fun w => by kernel_rfl) ?_
    refine DR_y 2 (i := 5) (.int .i64 (w64 (s1.2.tdiv x2))) (by kernel_rfl) (by kernel_rfl) (by kernel_rfl) (fun hx Hx => (YE.of (Y_quo (op := .quo) (k := .i64) (x := s1.2) (y := x2) (by kernel_rfl) hz2))) ?_
    refine DR_b 1 [.agg #[.int .i64 (w64 (s1.1.tdiv x2)), .int .i64 (w64 (s1.2.tdiv x2))]] 6 (by kernel_rfl) (by kernel_rfl) (by kernel_rfl) (fun w => by kernel_rfl) ?_
    refine DR_tail (i := 7) (by kernel_rfl) (by kernel_rfl) (by kernel_rfl) (fun h3 H3 => ?_)
    have H4 : Hold h h3 [box b1 67 [.int .i64 0, .int .i64 0]] := H3
    refine Run_E (by kernel_rfl) ?_
    refine E_bput (t := 67) (off := 0) (us := [.int .i64 (w64 (s1.1.tdiv x2)), .int .i64 (w64 (s1.2.tdiv x2))]) (v := .agg #[.int .i64 (w64 (s1.1.tdiv x2)), .int .i64 (w64 (s1.2.tdiv x2))]) H4 (by kernel_rfl) (by kernel_rfl) rfl (by kernel_rfl) rfl (fun h4 H5 => ?_)
    refine Run_nil (by kernel_rfl) ?_
    refine Run_keep [4] (L' := [(4, .pointer (some ⟨b1, 0, none⟩))]) (by kernel_rfl) ?_
    have hF := M.ret_some hF
    subst hF
    have H6 : Hold h h4 [] := H5.pick [] (by kernel_rfl)
    exact Run_ret1 rfl (ResV_cell (n := 2) (cs := [.int .i64 (w64 (s1.1.tdiv x2)), .int .i64 (w64 (s1.2.tdiv x2))]) (by kernel_rfl) (fun w => by kernel_rfl) (by kernel_rfl) rfl (H5.cells (n := 2) (off := 0) 0 rfl rfl)) ⟨rfl, H6⟩
  · refine Run_cond (b := decide (den < 0)) (by kernel_rfl) (fun hb1 => ?_) (fun hb1 => ?_)
    · have gs1 := (M.ite_some gs1).1 hb1
      refine Run_reg 6 (by kernel_rfl) (L' := [(0, .int .i64 (w64 (0 - num))), (1, .int .i64 (w64 (0 - den))), (4, .pointer (some ⟨b1, 0, none⟩))]) ?_ ?_
      · refine QRun_b [.int .i64 num, .int .i64 (w64 (0 - num)), .int .i64 den, .int .i64 (w64 (0 - den)), .int .i64 (w64 (0 - num)), .int .i64 (w64 (0 - den))] 0 _ (by kernel_rfl) (fun w => by kernel_rfl) ?_
        exact QRun_done [0, 1, 4] (by kernel_rfl) (by kernel_rfl)
      have gs1 := M.ret_some gs1
      subst gs1
      exact Run_fall [0, 1, 4] (by kernel_rfl) ⟨rfl, H1⟩
    · have gs1 := (M.ite_some gs1).2 hb1
      refine Run_skip ?_
      have gs1 := M.ret_some gs1
      subst gs1
      exact Run_fall [0, 1, 4] (by kernel_rfl) ⟨rfl, H1⟩

set_option maxRecDepth 100000 in
set_option maxHeartbeats 4000000 in
theorem w_impl_IsRatio (h : Heap) (r_ : TRatio) (n : Nat) (r : Bool) (hF : impl_IsRatio r_ n = some r) :
    Fn Try.prog 121 #[.agg #[.int .i64 r_.Num, .int .i64 r_.Den]] h fun v h' => v = .bool r ∧ Hold h h' [] := by
  unfold impl_IsRatio at hF
  refine Fn_enter (args := [.agg #[.int .i64 r_.Num, .int .i64 r_.Den]]) Try.func121 rfl (by kernel_rfl) (by kernel_rfl) (fun w0 _ => ?_)
  have H0 := Hold.init h
  refine Run_seq ?_
  refine Run_ops ?_
  refine Run_E (by kernel_rfl) ?_
  refine E_box (ty := 67) (cs := [.int .i64 r_.Num, .int .i64 r_.Den]) H0 (fun w => by kernel_rfl) (fun b1 h1 H1 => ?_)
  refine Run_b [.bool false] 1 _ (by kernel_rfl) (fun w => by kernel_rfl) ?_
  refine Run_nil (by kernel_rfl) ?_
  refine Run_keep [1] (L' := [(1, .pointer (some ⟨b1, 0, none⟩))]) (by kernel_rfl) ?_
  refine Run_seq ?_
  obtain ⟨x1, hx1, hF⟩ := M.bind_some hF
  obtain ⟨x2, gx2, hF⟩ := M.bind_some hF
  obtain ⟨x4, gx4, hF⟩ := M.bind_some hF
  refine Run_draw 18 mixed (by kernel_rfl) (by kernel_rfl) (L' := [(2, .bool x4)]) ?_ ?_
  · refine QRun_b [.pointer (some ⟨b1, 0, none⟩)] 0 _ (by kernel_rfl) (fun w => by kernel_rfl) ?_
    refine QRun_y (.int .i64 r_.Num) (by kernel_rfl) (Y_load1 (t := 2) (p := ⟨b1, 0, none⟩) (v := .int .i64 r_.Num) (by kernel_rfl) (fun w => by kernel_rfl) (H1.cell 0 rfl rfl)) ?_
    refine QRun_y (.bool x1) (by kernel_rfl) (Y_callq (f := 167) (args := #[.int .i64 r_.Num]) (v := .bool x1) (by kernel_rfl) (w_impl_isFinite h1 r_.Num _ _ hx1)) ?_
    refine QRun_seq 8 [(1, .pointer (some ⟨b1, 0, none⟩)), (10, .bool x2)] ?_ ?_
    · rcases Bool.eq_false_or_eq_true x1 with hb1 | hb1
      · refine QRun_bool x1 true (by kernel_rfl) (fun w => by kernel_rfl) hb1 ?_
        have gx2 := (M.ite_some gx2).1 hb1
        obtain ⟨x3, hx2, gx2⟩ := M.bind_some gx2
        have gx2 := M.ret_some gx2
        refine QRun_b [.pointer (some ⟨b1, 1, none⟩)] 4 _ (by kernel_rfl) (fun w => by kernel_rfl) ?_
        refine QRun_y (.int .i64 r_.Den) (by kernel_rfl) (Y_load1 (t := 2) (p := ⟨b1, 1, none⟩) (v := .int .i64 r_.Den) (by kernel_rfl) (fun w => by kernel_rfl) (H1.cell 0 rfl rfl)) ?_
        refine QRun_y (.bool x3) (by kernel_rfl) (Y_callq (f := 108) (args := #[.int .i64 r_.Den, .int .i64 1, .int .i64 1000000]) (v := .bool x3) (by kernel_rfl) (w_impl_within h1 r_.Den 1 1000000 _ _ hx2)) ?_
        refine QRun_bool x3 x2 (by kernel_rfl) (fun w => by kernel_rfl) gx2 ?_
        exact QRun_done [1, 10] (by kernel_rfl) (by kernel_rfl)
      · refine QRun_bool x1 false (by kernel_rfl) (fun w => by kernel_rfl) hb1 ?_
        have gx2 := M.ret_some ((M.ite_some gx2).2 hb1)
        refine QRun_n (by kernel_rfl) ?_
        refine QRun_n (by kernel_rfl) ?_
        refine QRun_n (by kernel_rfl) ?_
        refine QRun_bool false x2 (by kernel_rfl) (fun w => by kernel_rfl) gx2 ?_
        exact QRun_done [1, 10] (by kernel_rfl) (by kernel_rfl)
    refine QRun_seq 17 [(19, .bool x4)] ?_ ?_
    · rcases Bool.eq_false_or_eq_true x2 with hb2 | hb2
      · refine QRun_bool x2 true (by kernel_rfl) (fun w => by kernel_rfl) hb2 ?_
        have gx4 := (M.ite_some gx4).1 hb2
        obtain ⟨x5, hx3, gx4⟩ := M.bind_some gx4
        obtain ⟨x6, hx4, gx4⟩ := M.bind_some gx4
        have gx4 := M.ret_some gx4
        refine QRun_b [.pointer (some ⟨b1, 0, none⟩)] 9 _ (by kernel_rfl) (fun w => by kernel_rfl) ?_
        refine QRun_y (.int .i64 r_.Num) (by kernel_rfl) (Y_load1 (t := 2) (p := ⟨b1, 0, none⟩) (v := .int .i64 r_.Num) (by kernel_rfl) (fun w => by kernel_rfl) (H1.cell 0 rfl rfl)) ?_
        refine QRun_y (.int .i64 x5) (by kernel_rfl) (Y_callq (f := 166) (args := #[.int .i64 r_.Num]) (v := .int .i64 x5) (by kernel_rfl) (w_impl_absOf h1 r_.Num _ _ hx3)) ?_
        refine QRun_b [.pointer (some ⟨b1, 1, none⟩)] 12 _ (by kernel_rfl) (fun w => by kernel_rfl) ?_
        refine QRun_y (.int .i64 r_.Den) (by kernel_rfl) (Y_load1 (t := 2) (p := ⟨b1, 1, none⟩) (v := .int .i64 r_.Den) (by kernel_rfl) (fun w => by kernel_rfl) (H1.cell 0 rfl rfl)) ?_
        refine QRun_y (.int .i64 x6) (by kernel_rfl) (Y_callq (f := 165) (args := #[.int .i64 x5, .int .i64 r_.Den]) (v := .int .i64 x6) (by kernel_rfl) (w_impl_divisorOf h1 x5 r_.Den _ _ hx4)) ?_
        refine QRun_b [.bool (x6 == 1)] 15 _ (by kernel_rfl) (fun w => by kernel_rfl) ?_
        refine QRun_bool (x6 == 1) x4 (by kernel_rfl) (fun w => by kernel_rfl) gx4 ?_
        exact QRun_done [19] (by kernel_rfl) (by kernel_rfl)
      · refine QRun_bool x2 false (by kernel_rfl) (fun w => by kernel_rfl) hb2 ?_
        have gx4 := M.ret_some ((M.ite_some gx4).2 hb2)
        refine QRun_n (by kernel_rfl) ?_
        refine QRun_n (by kernel_rfl) ?_
        refine QRun_n (by kernel_rfl) ?_
        refine QRun_n (by kernel_rfl) ?_
        refine QRun_n (by kernel_rfl) ?_
        refine QRun_n (by kernel_rfl) ?_
        refine QRun_n (by kernel_rfl) ?_
        refine QRun_bool false x4 (by kernel_rfl) (fun w => by kernel_rfl) gx4 ?_
        exact QRun_done [19] (by kernel_rfl) (by kernel_rfl)
    refine QRun_b [.bool x4] 17 _ (by kernel_rfl) (fun w => by kernel_rfl) ?_
    exact QRun_done [2] (by kernel_rfl) (by kernel_rfl)
  have hF := M.ret_some hF
  subst hF
  have H2 : Hold h h1 [] := H1.pick [] (by kernel_rfl)
  exact Run_ret1 rfl (ResV_tmp (v := .bool x4) (by kernel_rfl)) ⟨rfl, H2⟩

end Go.Proofs.Ytipdgiljgbjjkaa
