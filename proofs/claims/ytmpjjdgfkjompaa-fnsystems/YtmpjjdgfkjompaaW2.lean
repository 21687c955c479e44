/-
  Walks: each Go function, called with what reads as plain data, returns what its plain program computes.
  Conditions: None beyond the given statement.
-/
import Derived.Test.YtmpjjdgfkjompaaW1
namespace Go.Proofs.Ytmpjjdgfkjompaa
open Go
attribute [local irreducible] setL setB opA fineI idleI fineB evB okB markB markBs readyB readyBs chainB lk rho pickL dropSlot tailOK
set_option maxRecDepth 100000 in
set_option maxHeartbeats 4000000 in
theorem w_impl_leastCover (h : Heap) (a_ : List (List Int)) (aa_ : Option Addr) (ca_ : Nat) (ra_ : Rd cd23 h (Lt h) aa_ ca_ a_) (b : List Int) (ab : Option Addr) (cb : Nat) (rb : Rd cd2 h (Lt h) ab cb b) (x_ : List Int) (ax_ : Option Addr) (cx_ : Nat) (rx_ : Rd cd2 h (Lt h) ax_ cx_ x_) (n : Nat) (r : (List Int)) (hF : impl_leastCover a_ b x_ n = some r) :
    Fn Try.prog 79 #[.slice aa_ a_.length ca_, .slice ab b.length cb, .slice ax_ x_.length cx_] h fun v h' => ∃ (a0 : Option Addr) (c0 : Nat), v = .slice a0 r.length c0 ∧ Hold h h' [own cd2 a0 r.length c0 r] := by
  unfold impl_leastCover at hF
  refine Fn_enter (args := [.slice aa_ a_.length ca_, .slice ab b.length cb, .slice ax_ x_.length cx_]) Try.func79 rfl (by kernel_rfl) (by kernel_rfl) (fun w0 _ => ?_)
  have H0 := Hold.init h
  refine Run_seq ?_
  refine Run_reg 1 (by kernel_rfl) (L' := [(0, .slice aa_ a_.length ca_), (1, .slice ab b.length cb), (2, .slice ax_ x_.length cx_)]) ?_ ?_
  · refine QRun_b [.slice none 0 0] 0 _ (by kernel_rfl) (fun w => by kernel_rfl) ?_
    exact QRun_done [0, 1, 2] (by kernel_rfl) (by kernel_rfl)
  refine Run_seq ?_
  refine Run_reg 1 (by kernel_rfl) (L' := [(0, .slice aa_ a_.length ca_), (1, .slice ab b.length cb), (2, .slice ax_ x_.length cx_), (7, .slice none 0 0)]) ?_ ?_
  · refine QRun_b [.slice none 0 0] 0 _ (by kernel_rfl) (fun w => by kernel_rfl) ?_
    exact QRun_done [0, 1, 2, 7] (by kernel_rfl) (by kernel_rfl)
  refine Run_seq ?_
  refine Run_reg 1 (by kernel_rfl) (L' := [(0, .slice aa_ a_.length ca_), (1, .slice ab b.length cb), (2, .slice ax_ x_.length cx_), (7, .slice none 0 0), (8, .bool false)]) ?_ ?_
  · refine QRun_b [.bool false] 0 _ (by kernel_rfl) (fun w => by kernel_rfl) ?_
    exact QRun_done [0, 1, 2, 7, 8] (by kernel_rfl) (by kernel_rfl)
  refine Run_seq ?_
  refine Run_seq ?_
  obtain ⟨u1, hz1, hF⟩ := M.bind_some hF
  have hz1 := M.guard_some hz1
  refine Run_reg 4 (by kernel_rfl) (L' := [(0, .slice aa_ a_.length ca_), (1, .slice ab b.length cb), (2, .slice ax_ x_.length cx_), (7, .slice none 0 0), (8, .bool false), (14, .int .i64 (ishl .i64 1 (x_.length : Int))), (15, .int .i64 0)]) ?_ ?_
  · refine QRun_b [.slice ax_ x_.length cx_, .int .i64 (x_.length : Int)] 0 _ (by kernel_rfl) (fun w => by kernel_rfl) ?_
    refine QRun_y (.int .i64 (ishl .i64 1 (x_.length : Int))) (by kernel_rfl) (Y_shl (k := .i64) (x := 1) (kk := .i64) (y := (x_.length : Int)) (by kernel_rfl) hz1) ?_
    refine QRun_b [.int .i64 0] 3 _ (by kernel_rfl) (fun w => by kernel_rfl) ?_
    exact QRun_done [0, 1, 2, 7, 8, 14, 15] (by kernel_rfl) (by kernel_rfl)
  obtain ⟨x1, gx1, hF⟩ := M.bind_some hF
  obtain ⟨hloy1, hhiy1, gx1⟩ := M.for_start gx1
  refine Run_join (fun L' h' => ∃ (a2 : Option Addr) (c2 : Nat), L' = [(7, .slice a2 x1.1.length c2)] ∧ Hold h h' [own cd2 a2 x1.1.length c2 x1.1]) ?_ ?_
  · rintro _ h2 ⟨a2, c2, rfl, H2⟩
    refine Run_seq ?_
    refine Run_reg 2 (by kernel_rfl) (L' := [(6, .slice a2 x1.1.length c2)]) ?_ ?_
    · refine QRun_b [.slice a2 x1.1.length c2, .slice a2 x1.1.length c2] 0 _ (by kernel_rfl) (fun w => by kernel_rfl) ?_
      exact QRun_done [6] (by kernel_rfl) (by kernel_rfl)
    have hF := M.ret_some hF
    subst hF
    exact Run_ret1 rfl (ResV_tmp (v := .slice a2 x1.1.length c2) (by kernel_rfl)) ⟨a2, c2, rfl, H2⟩
  · refine Run_block ?_
    have H27 := H0.empty cd2
    refine Run_keep [0, 1, 2, 7, 8, 14, 15] (L' := [(0, .slice aa_ a_.length ca_), (1, .slice ab b.length cb), (2, .slice ax_ x_.length cx_), (7, .slice none 0 0), (8, .bool false), (14, .int .i64 (ishl .i64 1 (x_.length : Int))), (15, .int .i64 0)]) (by kernel_rfl) ?_
    refine Run_loop (fun m L' h' => ∃ (i1 : Int) (s1 : (List Int) × Bool) (a1 : Option Addr) (c1 : Nat), 0 ≤ i1 ∧ M.forN (ishl .i64 1 (x_.length : Int)) _ _ n m i1 s1 = some x1 ∧ L' = [(0, .slice aa_ a_.length ca_), (1, .slice ab b.length cb), (2, .slice ax_ x_.length cx_), (7, .slice a1 s1.1.length c1), (8, .bool s1.2), (14, .int .i64 (ishl .i64 1 (x_.length : Int))), (15, .int .i64 i1)] ∧ Hold h h' [own cd2 a1 s1.1.length c1 s1.1]) ((ishl .i64 1 (x_.length : Int)) - 0).toNat ⟨0, ([], false), none, 0, Int.le_refl _, gx1, rfl, H27⟩ ?_
    rintro my1 _ h1 ⟨i1, s1, a1, c1, hloy1', gx1, rfl, H1⟩
    refine Run_seq ?_
    refine Run_reg 1 (by kernel_rfl) (L' := [(0, .slice aa_ a_.length ca_), (1, .slice ab b.length cb), (2, .slice ax_ x_.length cx_), (7, .slice a1 s1.1.length c1), (8, .bool s1.2), (14, .int .i64 (ishl .i64 1 (x_.length : Int))), (15, .int .i64 i1), (16, .bool (decide (i1 < (ishl .i64 1 (x_.length : Int)))))]) ?_ ?_
    · refine QRun_b [.bool (decide (i1 < (ishl .i64 1 (x_.length : Int))))] 0 _ (by kernel_rfl) (fun w => by kernel_rfl) ?_
      exact QRun_done [0, 1, 2, 7, 8, 14, 15, 16] (by kernel_rfl) (by kernel_rfl)
    refine Run_seq ?_
    refine Run_cond (b := decide (i1 < (ishl .i64 1 (x_.length : Int)))) (by kernel_rfl) (fun hb1 => ?_) (fun hb1 => ?_)
    · obtain ⟨my1, y1, rfl, hB1, hgoy1, houty1⟩ := M.for_go gx1 hb1
      have hlty1 := of_decide_eq_true hb1
      refine Run_skip ?_
      refine Run_seq ?_
      obtain ⟨s2, gs2, hB1⟩ := M.bind_some hB1
      refine Run_join (fun L' h' => ∃ (a8 : Option Addr), ∃ (c7 : Nat), L' = [(0, .slice aa_ a_.length ca_), (1, .slice ab b.length cb), (2, .slice ax_ x_.length cx_), (7, .slice a8 s2.1.length c7), (8, .bool s2.2), (14, .int .i64 (ishl .i64 1 (x_.length : Int))), (15, .int .i64 i1)] ∧ Hold h h' [own cd2 a8 s2.1.length c7 s2.1]) ?_ ?_
      · rintro _ h9 ⟨a8, c7, rfl, H22⟩
        refine Run_reg 2 (by kernel_rfl) (L' := [(0, .slice aa_ a_.length ca_), (1, .slice ab b.length cb), (2, .slice ax_ x_.length cx_), (7, .slice a8 s2.1.length c7), (8, .bool s2.2), (14, .int .i64 (ishl .i64 1 (x_.length : Int))), (15, .int .i64 (i1 + 1))]) ?_ ?_
        · refine QRun_y (.int .i64 (i1 + 1)) (by kernel_rfl) (Y_eq (v := .int .i64 (w64 (i1 + 1))) (Y_pure (fun w => by kernel_rfl)) (by rw [w64_eq _ (by omega)])) ?_
          refine QRun_b [.int .i64 (i1 + 1)] 1 _ (by kernel_rfl) (fun w => by kernel_rfl) ?_
          exact QRun_done [0, 1, 2, 7, 8, 14, 15] (by kernel_rfl) (by kernel_rfl)
        have hB1 := M.ret_some hB1
        have gx1 := hgoy1 _ hB1.symm
        exact Run_again [0, 1, 2, 7, 8, 14, 15] (by kernel_rfl) my1 (Nat.lt_succ_self _) ⟨i1 + 1, (s2.1, s2.2), a8, c7, by omega, gx1, rfl, H22⟩
      · refine Run_block ?_
        refine Run_seq ?_
        refine Run_reg 2 (by kernel_rfl) (L' := [(0, .slice aa_ a_.length ca_), (1, .slice ab b.length cb), (2, .slice ax_ x_.length cx_), (7, .slice a1 s1.1.length c1), (8, .bool s1.2), (9, .int .i64 i1), (14, .int .i64 (ishl .i64 1 (x_.length : Int))), (15, .int .i64 i1)]) ?_ ?_
        · refine QRun_b [.int .i64 i1, .int .i64 i1] 0 _ (by kernel_rfl) (fun w => by kernel_rfl) ?_
          exact QRun_done [0, 1, 2, 7, 8, 9, 14, 15] (by kernel_rfl) (by kernel_rfl)
        refine Run_seq ?_
        refine Run_reg 1 (by kernel_rfl) (L' := [(0, .slice aa_ a_.length ca_), (1, .slice ab b.length cb), (2, .slice ax_ x_.length cx_), (7, .slice a1 s1.1.length c1), (8, .bool s1.2), (9, .int .i64 i1), (10, .slice none 0 0), (14, .int .i64 (ishl .i64 1 (x_.length : Int))), (15, .int .i64 i1)]) ?_ ?_
        · refine QRun_b [.slice none 0 0] 0 _ (by kernel_rfl) (fun w => by kernel_rfl) ?_
          exact QRun_done [0, 1, 2, 7, 8, 9, 10, 14, 15] (by kernel_rfl) (by kernel_rfl)
        refine Run_seq ?_
        refine Run_seq ?_
        refine Run_reg 3 (by kernel_rfl) (L' := [(0, .slice aa_ a_.length ca_), (1, .slice ab b.length cb), (2, .slice ax_ x_.length cx_), (7, .slice a1 s1.1.length c1), (8, .bool s1.2), (9, .int .i64 i1), (10, .slice none 0 0), (14, .int .i64 (ishl .i64 1 (x_.length : Int))), (15, .int .i64 i1), (19, .int .i64 (x_.length : Int)), (20, .int .i64 0)]) ?_ ?_
        · refine QRun_b [.slice ax_ x_.length cx_, .int .i64 (x_.length : Int), .int .i64 0] 0 _ (by kernel_rfl) (fun w => by kernel_rfl) ?_
          exact QRun_done [0, 1, 2, 7, 8, 9, 10, 14, 15, 19, 20] (by kernel_rfl) (by kernel_rfl)
        obtain ⟨x2, gx2, gs2⟩ := M.bind_some gs2
        obtain ⟨hloy2, hhiy2, gx2⟩ := M.for_start gx2
        refine Run_join (fun L' h' => ∃ (a4 : Option Addr) (c4 : Nat), L' = [(0, .slice aa_ a_.length ca_), (1, .slice ab b.length cb), (2, .slice ax_ x_.length cx_), (7, .slice a1 s1.1.length c1), (8, .bool s1.2), (10, .slice a4 x2.length c4), (14, .int .i64 (ishl .i64 1 (x_.length : Int))), (15, .int .i64 i1)] ∧ Hold h h' [own cd2 a1 s1.1.length c1 s1.1, own cd2 a4 x2.length c4 x2]) ?_ ?_
        · rintro _ h4 ⟨a4, c4, rfl, H4⟩
          refine Run_seq ?_
          refine Run_seq ?_
          obtain ⟨x3, hx1, gs2⟩ := M.bind_some gs2
          refine Run_regC (j := 6) (C := fun x => Hold h x [own cd2 a1 s1.1.length c1 s1.1, own cd2 a4 x2.length c4 x2]) (by kernel_rfl) H4 (L' := [(0, .slice aa_ a_.length ca_), (1, .slice ab b.length cb), (2, .slice ax_ x_.length cx_), (7, .slice a1 s1.1.length c1), (8, .bool s1.2), (10, .slice a4 x2.length c4), (14, .int .i64 (ishl .i64 1 (x_.length : Int))), (15, .int .i64 i1), (38, .bool (!x3))]) ?_ (fun h8 H18 => ?_)
          · refine QRun_b [.slice aa_ a_.length ca_, .slice ab b.length cb, .slice ax_ x_.length cx_, .slice a4 x2.length c4] 0 _ (by kernel_rfl) (fun w => by kernel_rfl) ?_
            refine QRun_y (.bool x3) (by kernel_rfl) (Y_call (f := 110) (args := #[.slice aa_ a_.length ca_, .slice ab b.length cb, .slice ax_ x_.length cx_, .slice a4 x2.length c4]) (v := .bool x3) (by kernel_rfl) fun hx Hx => (w_impl_coversVector hx a_ aa_ ca_ (ra_.at Hx.ext) b ab cb (rb.at Hx.ext) x_ ax_ cx_ (rx_.at Hx.ext) x2 a4 c4 (Hx.rd 1 rfl) _ _ hx1).mono fun _ _ ⟨e, H'⟩ => ⟨e, Hx.call H' rfl⟩) ?_
            refine QRun_b [.bool (!x3)] 5 _ (by kernel_rfl) (fun w => by kernel_rfl) ?_
            exact QRun_done [0, 1, 2, 7, 8, 10, 14, 15, 38] (by kernel_rfl) (by kernel_rfl)
          have H19 : Hold h h8 [own cd2 a1 s1.1.length c1 s1.1, own cd2 a4 x2.length c4 x2] := H18
          refine Run_cond (b := !x3) (by kernel_rfl) (fun hb4 => ?_) (fun hb4 => ?_)
          · have gs2 := (M.ite_some gs2).1 hb4
            refine Run_exit (k' := _) rfl ?_
            have H23 : Hold h h8 [own cd2 a1 s1.1.length c1 s1.1] := H19.pick [0] (by kernel_rfl)
            have gs2 := M.ret_some gs2
            subst gs2
            exact Run_fall [0, 1, 2, 7, 8, 14, 15] (by kernel_rfl) ⟨a1, c1, rfl, H23⟩
          · have gs2 := (M.ite_some gs2).2 hb4
            refine Run_skip ?_
            refine Run_seq ?_
            obtain ⟨x5, gx5, gs2⟩ := M.bind_some gs2
            refine Run_reg 22 (by kernel_rfl) (L' := [(0, .slice aa_ a_.length ca_), (1, .slice ab b.length cb), (2, .slice ax_ x_.length cx_), (7, .slice a1 s1.1.length c1), (8, .bool s1.2), (10, .slice a4 x2.length c4), (14, .int .i64 (ishl .i64 1 (x_.length : Int))), (15, .int .i64 i1), (60, .bool x5)]) ?_ ?_
            · refine QRun_b [.bool s1.2, .bool (!s1.2)] 0 _ (by kernel_rfl) (fun w => by kernel_rfl) ?_
              refine QRun_seq 9 [(0, .slice aa_ a_.length ca_), (1, .slice ab b.length cb), (2, .slice ax_ x_.length cx_), (7, .slice a1 s1.1.length c1), (8, .bool s1.2), (10, .slice a4 x2.length c4), (14, .int .i64 (ishl .i64 1 (x_.length : Int))), (15, .int .i64 i1), (47, .bool ((!s1.2) || (decide ((x2.length : Int) < (s1.1.length : Int)))))] ?_ ?_
              · rcases Bool.eq_false_or_eq_true (!s1.2) with hb5 | hb5
                · refine QRun_bool (!s1.2) true (by kernel_rfl) (fun w => by kernel_rfl) hb5 ?_
                  refine QRun_n (by kernel_rfl) ?_
                  refine QRun_n (by kernel_rfl) ?_
                  refine QRun_n (by kernel_rfl) ?_
                  refine QRun_n (by kernel_rfl) ?_
                  refine QRun_n (by kernel_rfl) ?_
                  refine QRun_bool true ((!s1.2) || (decide ((x2.length : Int) < (s1.1.length : Int)))) (by kernel_rfl) (fun w => by kernel_rfl) (by rw [hb5]; rfl) ?_
                  exact QRun_done [0, 1, 2, 7, 8, 10, 14, 15, 47] (by kernel_rfl) (by kernel_rfl)
                · refine QRun_bool (!s1.2) false (by kernel_rfl) (fun w => by kernel_rfl) hb5 ?_
                  refine QRun_b [.slice a4 x2.length c4, .int .i64 (x2.length : Int), .slice a1 s1.1.length c1, .int .i64 (s1.1.length : Int), .bool (decide ((x2.length : Int) < (s1.1.length : Int)))] 3 _ (by kernel_rfl) (fun w => by kernel_rfl) ?_
                  refine QRun_bool (decide ((x2.length : Int) < (s1.1.length : Int))) ((!s1.2) || (decide ((x2.length : Int) < (s1.1.length : Int)))) (by kernel_rfl) (fun w => by kernel_rfl) (by rw [hb5]; rfl) ?_
                  exact QRun_done [0, 1, 2, 7, 8, 10, 14, 15, 47] (by kernel_rfl) (by kernel_rfl)
              refine QRun_seq 22 [(0, .slice aa_ a_.length ca_), (1, .slice ab b.length cb), (2, .slice ax_ x_.length cx_), (7, .slice a1 s1.1.length c1), (8, .bool s1.2), (10, .slice a4 x2.length c4), (14, .int .i64 (ishl .i64 1 (x_.length : Int))), (15, .int .i64 i1), (60, .bool x5)] ?_ ?_
              · rcases Bool.eq_false_or_eq_true ((!s1.2) || (decide ((x2.length : Int) < (s1.1.length : Int)))) with hb6 | hb6
                · refine QRun_bool ((!s1.2) || (decide ((x2.length : Int) < (s1.1.length : Int)))) true (by kernel_rfl) (fun w => by kernel_rfl) hb6 ?_
                  have gx5 := M.ret_some ((M.ite_some gx5).1 hb6)
                  refine QRun_n (by kernel_rfl) ?_
                  refine QRun_n (by kernel_rfl) ?_
                  refine QRun_n (by kernel_rfl) ?_
                  refine QRun_n (by kernel_rfl) ?_
                  refine QRun_n (by kernel_rfl) ?_
                  refine QRun_n (by kernel_rfl) ?_
                  refine QRun_n (by kernel_rfl) ?_
                  refine QRun_n (by kernel_rfl) ?_
                  refine QRun_n (by kernel_rfl) ?_
                  refine QRun_n (by kernel_rfl) ?_
                  refine QRun_n (by kernel_rfl) ?_
                  refine QRun_bool true x5 (by kernel_rfl) (fun w => by kernel_rfl) gx5 ?_
                  exact QRun_done [0, 1, 2, 7, 8, 10, 14, 15, 60] (by kernel_rfl) (by kernel_rfl)
                · refine QRun_bool ((!s1.2) || (decide ((x2.length : Int) < (s1.1.length : Int)))) false (by kernel_rfl) (fun w => by kernel_rfl) hb6 ?_
                  have gx5 := (M.ite_some gx5).2 hb6
                  obtain ⟨x6, gx6, gx5⟩ := M.bind_some gx5
                  have gx5 := M.ret_some gx5
                  refine QRun_b [.slice a4 x2.length c4, .int .i64 (x2.length : Int), .slice a1 s1.1.length c1, .int .i64 (s1.1.length : Int), .bool ((x2.length : Int) == (s1.1.length : Int))] 10 _ (by kernel_rfl) (fun w => by kernel_rfl) ?_
                  refine QRun_seq 21 [(0, .slice aa_ a_.length ca_), (1, .slice ab b.length cb), (2, .slice ax_ x_.length cx_), (7, .slice a1 s1.1.length c1), (8, .bool s1.2), (10, .slice a4 x2.length c4), (14, .int .i64 (ishl .i64 1 (x_.length : Int))), (15, .int .i64 i1), (48, .bool false), (59, .bool x6)] ?_ ?_
                  · rcases Bool.eq_false_or_eq_true ((x2.length : Int) == (s1.1.length : Int)) with hb7 | hb7
                    · refine QRun_bool ((x2.length : Int) == (s1.1.length : Int)) true (by kernel_rfl) (fun w => by kernel_rfl) hb7 ?_
                      have gx6 := (M.ite_some gx6).1 hb7
                      obtain ⟨x7, hx2, gx6⟩ := M.bind_some gx6
                      have gx6 := M.ret_some gx6
                      refine QRun_b [.slice a4 x2.length c4, .slice a1 s1.1.length c1] 16 _ (by kernel_rfl) (fun w => by kernel_rfl) ?_
                      refine QRun_y (.int .i64 x7) (by kernel_rfl) (Y_callq (f := 111) (args := #[.slice a4 x2.length c4, .slice a1 s1.1.length c1]) (v := .int .i64 x7) (by kernel_rfl) (w_slices_Compare_int h8 x2 a4 c4 (H19.rd 1 rfl) s1.1 a1 c1 (H19.rd 0 rfl) _ _ hx2)) ?_
                      refine QRun_b [.bool (decide (x7 < 0))] 19 _ (by kernel_rfl) (fun w => by kernel_rfl) ?_
                      refine QRun_bool (decide (x7 < 0)) x6 (by kernel_rfl) (fun w => by kernel_rfl) gx6 ?_
                      exact QRun_done [0, 1, 2, 7, 8, 10, 14, 15, 48, 59] (by kernel_rfl) (by kernel_rfl)
                    · refine QRun_bool ((x2.length : Int) == (s1.1.length : Int)) false (by kernel_rfl) (fun w => by kernel_rfl) hb7 ?_
                      have gx6 := M.ret_some ((M.ite_some gx6).2 hb7)
                      refine QRun_n (by kernel_rfl) ?_
                      refine QRun_n (by kernel_rfl) ?_
                      refine QRun_n (by kernel_rfl) ?_
                      refine QRun_n (by kernel_rfl) ?_
                      refine QRun_bool false x6 (by kernel_rfl) (fun w => by kernel_rfl) gx6 ?_
                      exact QRun_done [0, 1, 2, 7, 8, 10, 14, 15, 48, 59] (by kernel_rfl) (by kernel_rfl)
                  refine QRun_bool x6 x5 (by kernel_rfl) (fun w => by kernel_rfl) gx5 ?_
                  exact QRun_done [0, 1, 2, 7, 8, 10, 14, 15, 60] (by kernel_rfl) (by kernel_rfl)
              exact QRun_done [0, 1, 2, 7, 8, 10, 14, 15, 60] (by kernel_rfl) (by kernel_rfl)
            refine Run_cond (b := x5) (by kernel_rfl) (fun hb8 => ?_) (fun hb8 => ?_)
            · have gs2 := (M.ite_some gs2).1 hb8
              refine Run_reg 3 (by kernel_rfl) (L' := [(0, .slice aa_ a_.length ca_), (1, .slice ab b.length cb), (2, .slice ax_ x_.length cx_), (7, .slice a4 x2.length c4), (8, .bool true), (14, .int .i64 (ishl .i64 1 (x_.length : Int))), (15, .int .i64 i1)]) ?_ ?_
              · refine QRun_b [.slice a4 x2.length c4, .slice a4 x2.length c4, .bool true] 0 _ (by kernel_rfl) (fun w => by kernel_rfl) ?_
                exact QRun_done [0, 1, 2, 7, 8, 14, 15] (by kernel_rfl) (by kernel_rfl)
              refine Run_blk ?_
              have H24 : Hold h h8 [own cd2 a4 x2.length c4 x2, own cd2 a1 s1.1.length c1 s1.1] := H19.pick [1, 0] (by kernel_rfl)
              have H25 : Hold h h8 [own cd2 a4 x2.length c4 x2] := H24.pick [0] (by kernel_rfl)
              have gs2 := M.ret_some gs2
              subst gs2
              exact Run_fall [0, 1, 2, 7, 8, 14, 15] (by kernel_rfl) ⟨a4, c4, rfl, H25⟩
            · have gs2 := (M.ite_some gs2).2 hb8
              refine Run_skip ?_
              refine Run_blk ?_
              have H26 : Hold h h8 [own cd2 a1 s1.1.length c1 s1.1] := H19.pick [0] (by kernel_rfl)
              have gs2 := M.ret_some gs2
              subst gs2
              exact Run_fall [0, 1, 2, 7, 8, 14, 15] (by kernel_rfl) ⟨a1, c1, rfl, H26⟩
        · refine Run_block ?_
          have H20 := H1.empty cd2
          have H21 : Hold h h1 [own cd2 a1 s1.1.length c1 s1.1, own cd2 none 0 0 []] := H20.pick [1, 0] (by kernel_rfl)
          refine Run_keep [0, 1, 2, 7, 8, 9, 10, 14, 15, 19, 20] (L' := [(0, .slice aa_ a_.length ca_), (1, .slice ab b.length cb), (2, .slice ax_ x_.length cx_), (7, .slice a1 s1.1.length c1), (8, .bool s1.2), (9, .int .i64 i1), (10, .slice none 0 0), (14, .int .i64 (ishl .i64 1 (x_.length : Int))), (15, .int .i64 i1), (19, .int .i64 (x_.length : Int)), (20, .int .i64 0)]) (by kernel_rfl) ?_
          refine Run_loop (fun m L' h' => ∃ (i2 : Int) (s3 : (List Int)) (a3 : Option Addr) (c3 : Nat), 0 ≤ i2 ∧ M.forN (x_.length : Int) _ _ n m i2 s3 = some x2 ∧ L' = [(0, .slice aa_ a_.length ca_), (1, .slice ab b.length cb), (2, .slice ax_ x_.length cx_), (7, .slice a1 s1.1.length c1), (8, .bool s1.2), (9, .int .i64 i1), (10, .slice a3 s3.length c3), (14, .int .i64 (ishl .i64 1 (x_.length : Int))), (15, .int .i64 i1), (19, .int .i64 (x_.length : Int)), (20, .int .i64 i2)] ∧ Hold h h' [own cd2 a1 s1.1.length c1 s1.1, own cd2 a3 s3.length c3 s3]) ((x_.length : Int) - 0).toNat ⟨0, [], none, 0, Int.le_refl _, gx2, rfl, H21⟩ ?_
          rintro my2 _ h3 ⟨i2, s3, a3, c3, hloy2', gx2, rfl, H3⟩
          refine Run_seq ?_
          refine Run_reg 1 (by kernel_rfl) (L' := [(0, .slice aa_ a_.length ca_), (1, .slice ab b.length cb), (2, .slice ax_ x_.length cx_), (7, .slice a1 s1.1.length c1), (8, .bool s1.2), (9, .int .i64 i1), (10, .slice a3 s3.length c3), (14, .int .i64 (ishl .i64 1 (x_.length : Int))), (15, .int .i64 i1), (19, .int .i64 (x_.length : Int)), (20, .int .i64 i2), (21, .bool (decide (i2 < (x_.length : Int))))]) ?_ ?_
          · refine QRun_b [.bool (decide (i2 < (x_.length : Int)))] 0 _ (by kernel_rfl) (fun w => by kernel_rfl) ?_
            exact QRun_done [0, 1, 2, 7, 8, 9, 10, 14, 15, 19, 20, 21] (by kernel_rfl) (by kernel_rfl)
          refine Run_seq ?_
          refine Run_cond (b := decide (i2 < (x_.length : Int))) (by kernel_rfl) (fun hb2 => ?_) (fun hb2 => ?_)
          · obtain ⟨my2, y2, rfl, hB2, hgoy2, houty2⟩ := M.for_go gx2 hb2
            have hlty2 := of_decide_eq_true hb2
            refine Run_skip ?_
            refine Run_seq ?_
            refine Run_block ?_
            refine Run_seq ?_
            refine Run_reg 2 (by kernel_rfl) (L' := [(0, .slice aa_ a_.length ca_), (1, .slice ab b.length cb), (2, .slice ax_ x_.length cx_), (7, .slice a1 s1.1.length c1), (8, .bool s1.2), (9, .int .i64 i1), (10, .slice a3 s3.length c3), (11, .int .i64 i2), (14, .int .i64 (ishl .i64 1 (x_.length : Int))), (15, .int .i64 i1), (19, .int .i64 (x_.length : Int)), (20, .int .i64 i2)]) ?_ ?_
            · refine QRun_b [.int .i64 i2, .int .i64 i2] 0 _ (by kernel_rfl) (fun w => by kernel_rfl) ?_
              exact QRun_done [0, 1, 2, 7, 8, 9, 10, 11, 14, 15, 19, 20] (by kernel_rfl) (by kernel_rfl)
            refine Run_seq ?_
            obtain ⟨u2, hz2, hB2⟩ := M.bind_some hB2
            have hz2 := M.guard_some hz2
            refine Run_reg 5 (by kernel_rfl) (L' := [(0, .slice aa_ a_.length ca_), (1, .slice ab b.length cb), (2, .slice ax_ x_.length cx_), (7, .slice a1 s1.1.length c1), (8, .bool s1.2), (9, .int .i64 i1), (10, .slice a3 s3.length c3), (11, .int .i64 i2), (14, .int .i64 (ishl .i64 1 (x_.length : Int))), (15, .int .i64 i1), (19, .int .i64 (x_.length : Int)), (20, .int .i64 i2), (27, .bool ((ibit .and .i64 (ishr .i64 i1 i2) 1) == 1))]) ?_ ?_
            · refine QRun_b [.int .i64 i1, .int .i64 i2] 0 _ (by kernel_rfl) (fun w => by kernel_rfl) ?_
              refine QRun_y (.int .i64 (ishr .i64 i1 i2)) (by kernel_rfl) (Y_shr (k := .i64) (x := i1) (kk := .i64) (y := i2) (by kernel_rfl) hz2) ?_
              refine QRun_b [.int .i64 (ibit .and .i64 (ishr .i64 i1 i2) 1), .bool ((ibit .and .i64 (ishr .i64 i1 i2) 1) == 1)] 3 _ (by kernel_rfl) (fun w => by kernel_rfl) ?_
              exact QRun_done [0, 1, 2, 7, 8, 9, 10, 11, 14, 15, 19, 20, 27] (by kernel_rfl) (by kernel_rfl)
            obtain ⟨s4, gs4, hB2⟩ := M.bind_some hB2
            refine Run_join (fun L' h' => ∃ (a7 : Option Addr), ∃ (c6 : Nat), L' = [(0, .slice aa_ a_.length ca_), (1, .slice ab b.length cb), (2, .slice ax_ x_.length cx_), (7, .slice a1 s1.1.length c1), (8, .bool s1.2), (9, .int .i64 i1), (10, .slice a7 s4.length c6), (14, .int .i64 (ishl .i64 1 (x_.length : Int))), (15, .int .i64 i1), (19, .int .i64 (x_.length : Int)), (20, .int .i64 i2)] ∧ Hold h h' [own cd2 a1 s1.1.length c1 s1.1, own cd2 a7 s4.length c6 s4]) ?_ ?_
            · rintro _ h7 ⟨a7, c6, rfl, H10⟩
              refine Run_blk ?_
              refine Run_reg 2 (by kernel_rfl) (L' := [(0, .slice aa_ a_.length ca_), (1, .slice ab b.length cb), (2, .slice ax_ x_.length cx_), (7, .slice a1 s1.1.length c1), (8, .bool s1.2), (9, .int .i64 i1), (10, .slice a7 s4.length c6), (14, .int .i64 (ishl .i64 1 (x_.length : Int))), (15, .int .i64 i1), (19, .int .i64 (x_.length : Int)), (20, .int .i64 (i2 + 1))]) ?_ ?_
              · refine QRun_y (.int .i64 (i2 + 1)) (by kernel_rfl) (Y_eq (v := .int .i64 (w64 (i2 + 1))) (Y_pure (fun w => by kernel_rfl)) (by rw [w64_eq _ (by omega)])) ?_
                refine QRun_b [.int .i64 (i2 + 1)] 1 _ (by kernel_rfl) (fun w => by kernel_rfl) ?_
                exact QRun_done [0, 1, 2, 7, 8, 9, 10, 14, 15, 19, 20] (by kernel_rfl) (by kernel_rfl)
              have H14 : Hold h h7 [own cd2 a7 s4.length c6 s4, own cd2 a1 s1.1.length c1 s1.1] := H10.pick [1, 0] (by kernel_rfl)
              have H15 : Hold h h7 [own cd2 a1 s1.1.length c1 s1.1, own cd2 a7 s4.length c6 s4] := H14.pick [1, 0] (by kernel_rfl)
              have hB2 := M.ret_some hB2
              have gx2 := hgoy2 _ hB2.symm
              exact Run_again [0, 1, 2, 7, 8, 9, 10, 14, 15, 19, 20] (by kernel_rfl) my2 (Nat.lt_succ_self _) ⟨i2 + 1, s4, a7, c6, by omega, gx2, rfl, H15⟩
            · refine Run_cond (b := (ibit .and .i64 (ishr .i64 i1 i2) 1) == 1) (by kernel_rfl) (fun hb3 => ?_) (fun hb3 => ?_)
              · have gs4 := (M.ite_some gs4).1 hb3
                refine Run_ops ?_
                refine Run_b [.slice a3 s3.length c3, .int .i64 i2] 0 _ (by kernel_rfl) (fun w => by kernel_rfl) ?_
                refine Run_E (by kernel_rfl) ?_
                refine E_lit (C := cd2) (n := 1) (l := ([i2] : List Int)) (cs := [.int .i64 i2]) H3 (fun w => by kernel_rfl) (Enc.consE (cd2_own i2 _) (Enc.nil _ _) rfl) rfl (by decide) (fun a5 h5 H5 => ?_)
                obtain ⟨l1, hl1, gs4⟩ := M.bind_some gs4
                have hl1 := M.app_some hl1
                have H6 : Hold h h5 [own cd2 a3 s3.length c3 s3, own cd2 a5 1 1 ([i2] : List Int), own cd2 a1 s1.1.length c1 s1.1] := H5.pick [2, 0, 1] (by kernel_rfl)
                have H7 : Hold h h5 [own cd2 a5 1 1 ([i2] : List Int), own cd2 a3 s3.length c3 s3, own cd2 a1 s1.1.length c1 s1.1] := H6.pick [1, 0, 2] (by kernel_rfl)
                have H8 : Hold h h5 [own cd2 a3 s3.length c3 s3, own cd2 a5 1 1 ([i2] : List Int), own cd2 a1 s1.1.length c1 s1.1] := H7.pick [1, 0, 2] (by kernel_rfl)
                refine Run_E (by kernel_rfl) ?_
                refine E_app (C := cd2) (t := 23) (ty := 23) (n := s3.length) (m := 1) H8 cd2_ti rfl Try.underlying23 (by decide) (by kernel_rfl) hl1 (fun a6 c5 h6 H9 => ?_)
                refine Run_b [.slice a6 l1.length c5] 4 _ (by kernel_rfl) (fun w => by kernel_rfl) ?_
                refine Run_nil (by kernel_rfl) ?_
                refine Run_keep [0, 1, 2, 7, 8, 9, 10, 14, 15, 19, 20] (L' := [(0, .slice aa_ a_.length ca_), (1, .slice ab b.length cb), (2, .slice ax_ x_.length cx_), (7, .slice a1 s1.1.length c1), (8, .bool s1.2), (9, .int .i64 i1), (10, .slice a6 l1.length c5), (14, .int .i64 (ishl .i64 1 (x_.length : Int))), (15, .int .i64 i1), (19, .int .i64 (x_.length : Int)), (20, .int .i64 i2)]) (by kernel_rfl) ?_
                have H11 : Hold h h6 [own cd2 a1 s1.1.length c1 s1.1, own cd2 a6 l1.length c5 l1] := H9.pick [1, 0] (by kernel_rfl)
                have gs4 := M.ret_some gs4
                subst gs4
                exact Run_fall [0, 1, 2, 7, 8, 9, 10, 14, 15, 19, 20] (by kernel_rfl) ⟨a6, c5, rfl, H11⟩
              · have gs4 := (M.ite_some gs4).2 hb3
                refine Run_skip ?_
                have H12 : Hold h h3 [own cd2 a3 s3.length c3 s3, own cd2 a1 s1.1.length c1 s1.1] := H3.pick [1, 0] (by kernel_rfl)
                have H13 : Hold h h3 [own cd2 a1 s1.1.length c1 s1.1, own cd2 a3 s3.length c3 s3] := H12.pick [1, 0] (by kernel_rfl)
                have gs4 := M.ret_some gs4
                subst gs4
                exact Run_fall [0, 1, 2, 7, 8, 9, 10, 14, 15, 19, 20] (by kernel_rfl) ⟨a3, c3, rfl, H13⟩
          · have gx2 := M.for_end gx2 hb2
            subst gx2
            refine Run_exit (k' := _) rfl ?_
            have H16 : Hold h h3 [own cd2 a3 s3.length c3 s3, own cd2 a1 s1.1.length c1 s1.1] := H3.pick [1, 0] (by kernel_rfl)
            have H17 : Hold h h3 [own cd2 a1 s1.1.length c1 s1.1, own cd2 a3 s3.length c3 s3] := H16.pick [1, 0] (by kernel_rfl)
            exact Run_fall [0, 1, 2, 7, 8, 10, 14, 15] (by kernel_rfl) ⟨a3, c3, rfl, H17⟩
    · have gx1 := M.for_end gx1 hb1
      subst gx1
      refine Run_exit (k' := _) rfl ?_
      exact Run_fall [7] (by kernel_rfl) ⟨a1, c1, rfl, H1⟩

set_option maxRecDepth 100000 in
set_option maxHeartbeats 4000000 in
theorem w_impl_LeastCover (h : Heap) (a_ : List (List Int)) (aa_ : Option Addr) (ca_ : Nat) (ra_ : Rd cd23 h (Lt h) aa_ ca_ a_) (b : List Int) (ab : Option Addr) (cb : Nat) (rb : Rd cd2 h (Lt h) ab cb b) (n : Nat) (r : (List Int) × Int) (hF : impl_LeastCover a_ b n = some r) :
    Fn Try.prog 39 #[.slice aa_ a_.length ca_, .slice ab b.length cb] h fun v h' => ∃ (a0 : Option Addr) (c0 : Nat), v = .tuple #[.slice a0 r.1.length c0, .int .i64 r.2] ∧ Hold h h' [own cd2 a0 r.1.length c0 r.1] := by
  unfold impl_LeastCover at hF
  refine Fn_enter (args := [.slice aa_ a_.length ca_, .slice ab b.length cb]) Try.func39 rfl (by kernel_rfl) (by kernel_rfl) (fun w0 _ => ?_)
  have H0 := Hold.init h
  refine Run_seq ?_
  refine Run_reg 2 (by kernel_rfl) (L' := [(0, .slice aa_ a_.length ca_), (1, .slice ab b.length cb)]) ?_ ?_
  · refine QRun_b [.slice none 0 0, .int .i64 0] 0 _ (by kernel_rfl) (fun w => by kernel_rfl) ?_
    exact QRun_done [0, 1] (by kernel_rfl) (by kernel_rfl)
  refine Run_seq ?_
  refine Run_ops ?_
  refine Run_b [.slice aa_ a_.length ca_, .slice ab b.length cb] 0 _ (by kernel_rfl) (fun w => by kernel_rfl) ?_
  obtain ⟨x1, hx1, hF⟩ := M.bind_some hF
  refine Run_E (by kernel_rfl) ?_
  refine E_call (f := 61) (args := #[.slice aa_ a_.length ca_, .slice ab b.length cb]) (w_impl_greatestSub h a_ aa_ ca_ ra_ b ab cb rb _ _ hx1) (by kernel_rfl) (fun v1 h1 hp1 => ?_)
  obtain ⟨a1, c1, rfl, H1⟩ := hp1
  have H2 : Hold h h1 [own cd2 a1 x1.1.length c1 x1.1] := H0.call H1 rfl
  refine Run_b [.tuple #[.slice a1 x1.1.length c1, .int .i64 x1.2], .slice a1 x1.1.length c1, .int .i64 x1.2, .slice a1 x1.1.length c1, .int .i64 x1.2] 3 _ (by kernel_rfl) (fun w => by kernel_rfl) ?_
  refine Run_nil (by kernel_rfl) ?_
  refine Run_keep [0, 1, 6, 7] (L' := [(0, .slice aa_ a_.length ca_), (1, .slice ab b.length cb), (6, .slice a1 x1.1.length c1), (7, .int .i64 x1.2)]) (by kernel_rfl) ?_
  refine Run_seq ?_
  refine Run_seq ?_
  refine Run_reg 2 (by kernel_rfl) (L' := [(0, .slice aa_ a_.length ca_), (1, .slice ab b.length cb), (6, .slice a1 x1.1.length c1), (7, .int .i64 x1.2), (15, .bool (x1.2 != 0))]) ?_ ?_
  · refine QRun_b [.int .i64 x1.2, .bool (x1.2 != 0)] 0 _ (by kernel_rfl) (fun w => by kernel_rfl) ?_
    exact QRun_done [0, 1, 6, 7, 15] (by kernel_rfl) (by kernel_rfl)
  refine Run_cond (b := x1.2 != 0) (by kernel_rfl) (fun hb1 => ?_) (fun hb1 => ?_)
  · have hF := (M.ite_some hF).1 hb1
    refine Run_seq ?_
    refine Run_reg 3 (by kernel_rfl) (L' := [(4, .slice none 0 0), (5, .int .i64 x1.2)]) ?_ ?_
    · refine QRun_b [.int .i64 x1.2, .slice none 0 0, .int .i64 x1.2] 0 _ (by kernel_rfl) (fun w => by kernel_rfl) ?_
      exact QRun_done [4, 5] (by kernel_rfl) (by kernel_rfl)
    have hF := M.ret_some hF
    subst hF
    have H3 := H2.empty cd2
    have H4 : Hold h h1 [own cd2 none 0 0 []] := H3.pick [0] (by kernel_rfl)
    exact Run_ret2 rfl (ResV_tmp (v := .slice none 0 0) (by kernel_rfl)) (ResV_tmp (v := .int .i64 x1.2) (by kernel_rfl)) ⟨none, 0, rfl, H4⟩
  · have hF := (M.ite_some hF).2 hb1
    refine Run_skip ?_
    refine Run_seq ?_
    refine Run_seq ?_
    refine Run_ops ?_
    refine Run_b [.slice aa_ a_.length ca_, .slice a1 x1.1.length c1] 0 _ (by kernel_rfl) (fun w => by kernel_rfl) ?_
    obtain ⟨x2, hx2, hF⟩ := M.bind_some hF
    refine Run_E (by kernel_rfl) ?_
    refine E_call (f := 65) (args := #[.slice aa_ a_.length ca_, .slice a1 x1.1.length c1]) (w_impl_timesVector h1 a_ aa_ ca_ (ra_.at H2.ext) x1.1 a1 c1 (H2.rd 0 rfl) _ _ hx2) (by kernel_rfl) (fun v2 h2 hp2 => ?_)
    obtain ⟨a2, c2, rfl, H5⟩ := hp2
    have H6 : Hold h h2 [own cd2 a2 x2.length c2 x2, own cd2 a1 x1.1.length c1 x1.1] := H2.call H5 rfl
    obtain ⟨x3, hx3, hF⟩ := M.bind_some hF
    refine Run_b [.slice ab b.length cb] 3 _ (by kernel_rfl) (fun w => by kernel_rfl) ?_
    refine Run_y (.bool x3) (by kernel_rfl) (Y_callq (f := 68) (args := #[.slice a2 x2.length c2, .slice ab b.length cb]) (v := .bool x3) (by kernel_rfl) (w_slices_Equal_int h2 x2 a2 c2 (H6.rd 0 rfl) b ab cb (rb.at H6.ext) _ _ hx3)) ?_
    refine Run_b [.bool (!x3)] 5 _ (by kernel_rfl) (fun w => by kernel_rfl) ?_
    refine Run_nil (by kernel_rfl) ?_
    refine Run_keep [0, 1, 6, 22] (L' := [(0, .slice aa_ a_.length ca_), (1, .slice ab b.length cb), (6, .slice a1 x1.1.length c1), (22, .bool (!x3))]) (by kernel_rfl) ?_
    refine Run_cond (b := !x3) (by kernel_rfl) (fun hb2 => ?_) (fun hb2 => ?_)
    · have hF := (M.ite_some hF).1 hb2
      refine Run_seq ?_
      refine Run_reg 2 (by kernel_rfl) (L' := [(4, .slice none 0 0), (5, .int .i64 4)]) ?_ ?_
      · refine QRun_b [.slice none 0 0, .int .i64 4] 0 _ (by kernel_rfl) (fun w => by kernel_rfl) ?_
        exact QRun_done [4, 5] (by kernel_rfl) (by kernel_rfl)
      have hF := M.ret_some hF
      subst hF
      have H7 := H6.empty cd2
      have H8 : Hold h h2 [own cd2 none 0 0 []] := H7.pick [0] (by kernel_rfl)
      exact Run_ret2 rfl (ResV_tmp (v := .slice none 0 0) (by kernel_rfl)) (ResV_tmp (v := .int .i64 4) (by kernel_rfl)) ⟨none, 0, rfl, H8⟩
    · have hF := (M.ite_some hF).2 hb2
      refine Run_skip ?_
      refine Run_seq ?_
      refine Run_ops ?_
      refine Run_b [.slice aa_ a_.length ca_, .slice ab b.length cb, .slice a1 x1.1.length c1] 0 _ (by kernel_rfl) (fun w => by kernel_rfl) ?_
      obtain ⟨x4, hx4, hF⟩ := M.bind_some hF
      refine Run_E (by kernel_rfl) ?_
      refine E_call (f := 79) (args := #[.slice aa_ a_.length ca_, .slice ab b.length cb, .slice a1 x1.1.length c1]) (w_impl_leastCover h2 a_ aa_ ca_ (ra_.at H6.ext) b ab cb (rb.at H6.ext) x1.1 a1 c1 (H6.rd 1 rfl) _ _ hx4) (by kernel_rfl) (fun v3 h3 hp3 => ?_)
      obtain ⟨a3, c3, rfl, H9⟩ := hp3
      have H10 : Hold h h3 [own cd2 a3 x4.length c3 x4, own cd2 a2 x2.length c2 x2, own cd2 a1 x1.1.length c1 x1.1] := H6.call H9 rfl
      refine Run_b [.slice a3 x4.length c3, .int .i64 0] 4 _ (by kernel_rfl) (fun w => by kernel_rfl) ?_
      refine Run_nil (by kernel_rfl) ?_
      refine Run_keep [4, 5] (L' := [(4, .slice a3 x4.length c3), (5, .int .i64 0)]) (by kernel_rfl) ?_
      have hF := M.ret_some hF
      subst hF
      have H11 : Hold h h3 [own cd2 a3 x4.length c3 x4] := H10.pick [0] (by kernel_rfl)
      exact Run_ret2 rfl (ResV_tmp (v := .slice a3 x4.length c3) (by kernel_rfl)) (ResV_tmp (v := .int .i64 0) (by kernel_rfl)) ⟨a3, c3, rfl, H11⟩

set_option maxRecDepth 100000 in
set_option maxHeartbeats 4000000 in
theorem w_spec_l01Less (h : Heap) (a_ : List Int) {Sa_ : Bs} (aa_ : Option Addr) (ca_ : Nat) (ra_ : Rd cd2 h Sa_ aa_ ca_ a_) (b : List Int) {Sb : Bs} (ab : Option Addr) (cb : Nat) (rb : Rd cd2 h Sb ab cb b) (n : Nat) (r : Bool) (hF : spec_l01Less a_ b n = some r) :
    Fn Try.prog 77 #[.slice aa_ a_.length ca_, .slice ab b.length cb] h fun v h' => v = .bool r ∧ h' = h := by
  unfold spec_l01Less at hF
  refine Fn_enter (args := [.slice aa_ a_.length ca_, .slice ab b.length cb]) Try.func77 rfl (by kernel_rfl) (by kernel_rfl) (fun w0 _ => ?_)
  refine Run_seq ?_
  refine Run_reg 1 (by kernel_rfl) (L' := [(0, .slice aa_ a_.length ca_), (1, .slice ab b.length cb)]) ?_ ?_
  · refine QRun_b [.bool false] 0 _ (by kernel_rfl) (fun w => by kernel_rfl) ?_
    exact QRun_done [0, 1] (by kernel_rfl) (by kernel_rfl)
  refine Run_seq ?_
  refine Run_seq ?_
  refine Run_reg 1 (by kernel_rfl) (L' := [(0, .slice aa_ a_.length ca_), (1, .slice ab b.length cb), (5, .int .i64 0)]) ?_ ?_
  · refine QRun_b [.int .i64 0] 0 _ (by kernel_rfl) (fun w => by kernel_rfl) ?_
    exact QRun_done [0, 1, 5] (by kernel_rfl) (by kernel_rfl)
  obtain ⟨x1, gx1, hF⟩ := M.bind_some hF
  refine Run_join (fun L' h' => ∃ (s2 : Int), x1 = .inl s2 ∧ L' = [(0, .slice aa_ a_.length ca_), (1, .slice ab b.length cb)] ∧ h = h') ?_ ?_
  · rintro _ _ ⟨s2, es2, rfl, rfl⟩
    have hF := M.cont_inl' hF es2
    refine Run_seq ?_
    refine Run_reg 6 (by kernel_rfl) (L' := [(4, .bool (decide ((a_.length : Int) < (b.length : Int))))]) ?_ ?_
    · refine QRun_b [.slice aa_ a_.length ca_, .int .i64 (a_.length : Int), .slice ab b.length cb, .int .i64 (b.length : Int), .bool (decide ((a_.length : Int) < (b.length : Int))), .bool (decide ((a_.length : Int) < (b.length : Int)))] 0 _ (by kernel_rfl) (fun w => by kernel_rfl) ?_
      exact QRun_done [4] (by kernel_rfl) (by kernel_rfl)
    have hF := M.ret_some hF
    subst hF
    exact Run_ret1 rfl (ResV_tmp (v := .bool (decide ((a_.length : Int) < (b.length : Int)))) (by kernel_rfl)) ⟨rfl, rfl⟩
  · refine Run_block ?_
    refine Run_keep [0, 1, 5] (L' := [(0, .slice aa_ a_.length ca_), (1, .slice ab b.length cb), (5, .int .i64 0)]) (by kernel_rfl) ?_
    refine Run_loop (fun m L' h' => ∃ (s1 : Int), M.loopN _ n m s1 = some x1 ∧ L' = [(0, .slice aa_ a_.length ca_), (1, .slice ab b.length cb), (5, .int .i64 s1)] ∧ h = h') n ⟨0, gx1, rfl, rfl⟩ ?_
    rintro my1 _ _ ⟨s1, gx1, rfl, rfl⟩
    obtain ⟨my1, y1, rfl, hB1, hgoy1, houty1⟩ := M.loop_some gx1
    refine Run_seq ?_
    refine Run_seq ?_
    refine Run_reg 10 (by kernel_rfl) (L' := [(0, .slice aa_ a_.length ca_), (1, .slice ab b.length cb), (5, .int .i64 s1), (15, .bool ((decide (s1 < (a_.length : Int))) && (decide (s1 < (b.length : Int)))))]) ?_ ?_
    · refine QRun_b [.int .i64 s1, .slice aa_ a_.length ca_, .int .i64 (a_.length : Int), .bool (decide (s1 < (a_.length : Int)))] 0 _ (by kernel_rfl) (fun w => by kernel_rfl) ?_
      refine QRun_seq 10 [(0, .slice aa_ a_.length ca_), (1, .slice ab b.length cb), (5, .int .i64 s1), (15, .bool ((decide (s1 < (a_.length : Int))) && (decide (s1 < (b.length : Int)))))] ?_ ?_
      · rcases Bool.eq_false_or_eq_true (decide (s1 < (a_.length : Int))) with hb1 | hb1
        · refine QRun_bool (decide (s1 < (a_.length : Int))) true (by kernel_rfl) (fun w => by kernel_rfl) hb1 ?_
          refine QRun_b [.int .i64 s1, .slice ab b.length cb, .int .i64 (b.length : Int), .bool (decide (s1 < (b.length : Int)))] 5 _ (by kernel_rfl) (fun w => by kernel_rfl) ?_
          refine QRun_bool (decide (s1 < (b.length : Int))) ((decide (s1 < (a_.length : Int))) && (decide (s1 < (b.length : Int)))) (by kernel_rfl) (fun w => by kernel_rfl) (by rw [hb1]; rfl) ?_
          exact QRun_done [0, 1, 5, 15] (by kernel_rfl) (by kernel_rfl)
        · refine QRun_bool (decide (s1 < (a_.length : Int))) false (by kernel_rfl) (fun w => by kernel_rfl) hb1 ?_
          refine QRun_n (by kernel_rfl) ?_
          refine QRun_n (by kernel_rfl) ?_
          refine QRun_n (by kernel_rfl) ?_
          refine QRun_n (by kernel_rfl) ?_
          refine QRun_bool false ((decide (s1 < (a_.length : Int))) && (decide (s1 < (b.length : Int)))) (by kernel_rfl) (fun w => by kernel_rfl) (by rw [hb1]; rfl) ?_
          exact QRun_done [0, 1, 5, 15] (by kernel_rfl) (by kernel_rfl)
      exact QRun_done [0, 1, 5, 15] (by kernel_rfl) (by kernel_rfl)
    refine Run_cond (b := (decide (s1 < (a_.length : Int))) && (decide (s1 < (b.length : Int)))) (by kernel_rfl) (fun hb2 => ?_) (fun hb2 => ?_)
    · have hB1 := (M.ite_some hB1).1 hb2
      refine Run_skip ?_
      refine Run_seq ?_
      refine Run_block ?_
      refine Run_seq ?_
      obtain ⟨x3, hx1, hB1⟩ := M.bind_some hB1
      obtain ⟨hx1l, hx1u, hx1⟩ := M.idx_some hx1
      obtain ⟨x4, hx2, hB1⟩ := M.bind_some hB1
      obtain ⟨hx2l, hx2u, hx2⟩ := M.idx_some hx2
      refine Run_draw 9 mixed (by kernel_rfl) (by kernel_rfl) (L' := [(0, .slice aa_ a_.length ca_), (1, .slice ab b.length cb), (5, .int .i64 s1), (26, .bool (x3 != x4))]) ?_ ?_
      · refine QRun_b [.slice aa_ a_.length ca_, .int .i64 s1] 0 _ (by kernel_rfl) (fun w => by kernel_rfl) ?_
        refine QRun_y (.pointer (some (adr aa_ (s1.toNat * 1)))) (by kernel_rfl) (Y_idx (t := 23) (e := 2) (sz := 1) (a := aa_) (n := a_.length) (cap := ca_) (kk := .i64) (i := s1) (by kernel_rfl) Try.underlying23 (by kernel_rfl) (ra_.cell hx1).1 hx1l hx1u) ?_
        refine QRun_y (.int .i64 x3) (by kernel_rfl) (Y_load1 (t := 2) (p := adr aa_ (s1.toNat * 1)) (v := .int .i64 x3) (by kernel_rfl) (fun w => by kernel_rfl) (cd2_cell ra_ hx1)) ?_
        refine QRun_b [.slice ab b.length cb, .int .i64 s1] 4 _ (by kernel_rfl) (fun w => by kernel_rfl) ?_
        refine QRun_y (.pointer (some (adr ab (s1.toNat * 1)))) (by kernel_rfl) (Y_idx (t := 23) (e := 2) (sz := 1) (a := ab) (n := b.length) (cap := cb) (kk := .i64) (i := s1) (by kernel_rfl) Try.underlying23 (by kernel_rfl) (rb.cell hx2).1 hx2l hx2u) ?_
        refine QRun_y (.int .i64 x4) (by kernel_rfl) (Y_load1 (t := 2) (p := adr ab (s1.toNat * 1)) (v := .int .i64 x4) (by kernel_rfl) (fun w => by kernel_rfl) (cd2_cell rb hx2)) ?_
        refine QRun_b [.bool (x3 != x4)] 8 _ (by kernel_rfl) (fun w => by kernel_rfl) ?_
        exact QRun_done [0, 1, 5, 26] (by kernel_rfl) (by kernel_rfl)
      refine Run_cond (b := x3 != x4) (by kernel_rfl) (fun hb3 => ?_) (fun hb3 => ?_)
      · have hB1 := (M.ite_some hB1).1 hb3
        refine Run_seq ?_
        obtain ⟨x5, hx3, hB1⟩ := M.bind_some hB1
        obtain ⟨hx3l, hx3u, hx3⟩ := M.idx_some hx3
        obtain ⟨x6, hx4, hB1⟩ := M.bind_some hB1
        obtain ⟨hx4l, hx4u, hx4⟩ := M.idx_some hx4
        refine Run_draw 10 mixed (by kernel_rfl) (by kernel_rfl) (L' := [(4, .bool (decide (x5 < x6)))]) ?_ ?_
        · refine QRun_b [.slice aa_ a_.length ca_, .int .i64 s1] 0 _ (by kernel_rfl) (fun w => by kernel_rfl) ?_
          refine QRun_y (.pointer (some (adr aa_ (s1.toNat * 1)))) (by kernel_rfl) (Y_idx (t := 23) (e := 2) (sz := 1) (a := aa_) (n := a_.length) (cap := ca_) (kk := .i64) (i := s1) (by kernel_rfl) Try.underlying23 (by kernel_rfl) (ra_.cell hx3).1 hx3l hx3u) ?_
          refine QRun_y (.int .i64 x5) (by kernel_rfl) (Y_load1 (t := 2) (p := adr aa_ (s1.toNat * 1)) (v := .int .i64 x5) (by kernel_rfl) (fun w => by kernel_rfl) (cd2_cell ra_ hx3)) ?_
          refine QRun_b [.slice ab b.length cb, .int .i64 s1] 4 _ (by kernel_rfl) (fun w => by kernel_rfl) ?_
          refine QRun_y (.pointer (some (adr ab (s1.toNat * 1)))) (by kernel_rfl) (Y_idx (t := 23) (e := 2) (sz := 1) (a := ab) (n := b.length) (cap := cb) (kk := .i64) (i := s1) (by kernel_rfl) Try.underlying23 (by kernel_rfl) (rb.cell hx4).1 hx4l hx4u) ?_
          refine QRun_y (.int .i64 x6) (by kernel_rfl) (Y_load1 (t := 2) (p := adr ab (s1.toNat * 1)) (v := .int .i64 x6) (by kernel_rfl) (fun w => by kernel_rfl) (cd2_cell rb hx4)) ?_
          refine QRun_b [.bool (decide (x5 < x6)), .bool (decide (x5 < x6))] 8 _ (by kernel_rfl) (fun w => by kernel_rfl) ?_
          exact QRun_done [4] (by kernel_rfl) (by kernel_rfl)
        have hB1 := M.ret_some hB1
        have gx1 := houty1 _ hB1.symm
        have hF := M.cont_inr' hF gx1
        have hF := M.ret_some hF
        subst hF
        exact Run_ret1 rfl (ResV_tmp (v := .bool (decide (x5 < x6))) (by kernel_rfl)) ⟨rfl, rfl⟩
      · have hB1 := (M.ite_some hB1).2 hb3
        refine Run_skip ?_
        refine Run_blk ?_
        refine Run_reg 3 (by kernel_rfl) (L' := [(0, .slice aa_ a_.length ca_), (1, .slice ab b.length cb), (5, .int .i64 (w64 (s1 + 1)))]) ?_ ?_
        · refine QRun_b [.int .i64 s1, .int .i64 (w64 (s1 + 1)), .int .i64 (w64 (s1 + 1))] 0 _ (by kernel_rfl) (fun w => by kernel_rfl) ?_
          exact QRun_done [0, 1, 5] (by kernel_rfl) (by kernel_rfl)
        have hB1 := M.ret_some hB1
        have gx1 := hgoy1 _ hB1.symm
        exact Run_again [0, 1, 5] (by kernel_rfl) my1 (Nat.lt_succ_self _) ⟨(w64 (s1 + 1)), gx1, rfl, rfl⟩
    · have hB1 := (M.ite_some hB1).2 hb2
      refine Run_exit (k' := _) rfl ?_
      have hB1 := M.ret_some hB1
      have gx1 := houty1 _ hB1.symm
      subst gx1
      exact Run_fall [0, 1] (by kernel_rfl) ⟨s1, rfl, rfl, rfl⟩

set_option maxRecDepth 100000 in
set_option maxHeartbeats 4000000 in
theorem w_spec_l08Covers (h : Heap) (a_ : List (List Int)) {Sa_ : Bs} (aa_ : Option Addr) (ca_ : Nat) (ra_ : Rd cd23 h Sa_ aa_ ca_ a_) (b : List Int) {Sb : Bs} (ab : Option Addr) (cb : Nat) (rb : Rd cd2 h Sb ab cb b) (x_ : List Int) {Sx_ : Bs} (ax_ : Option Addr) (cx_ : Nat) (rx_ : Rd cd2 h Sx_ ax_ cx_ x_) (columns : List Int) {Scolumns : Bs} (acolumns : Option Addr) (ccolumns : Nat) (rcolumns : Rd cd2 h Scolumns acolumns ccolumns columns) (n : Nat) (r : Bool) (hF : spec_l08Covers a_ b x_ columns n = some r) :
    Fn Try.prog 78 #[.slice aa_ a_.length ca_, .slice ab b.length cb, .slice ax_ x_.length cx_, .slice acolumns columns.length ccolumns] h fun v h' => v = .bool r ∧ h' = h := by
  unfold spec_l08Covers at hF
  refine Fn_enter (args := [.slice aa_ a_.length ca_, .slice ab b.length cb, .slice ax_ x_.length cx_, .slice acolumns columns.length ccolumns]) Try.func78 rfl (by kernel_rfl) (by kernel_rfl) (fun w0 _ => ?_)
  refine Run_seq ?_
  refine Run_reg 1 (by kernel_rfl) (L' := [(0, .slice aa_ a_.length ca_), (1, .slice ab b.length cb), (2, .slice ax_ x_.length cx_), (3, .slice acolumns columns.length ccolumns)]) ?_ ?_
  · refine QRun_b [.bool false] 0 _ (by kernel_rfl) (fun w => by kernel_rfl) ?_
    exact QRun_done [0, 1, 2, 3] (by kernel_rfl) (by kernel_rfl)
  refine Run_seq ?_
  refine Run_seq ?_
  refine Run_reg 1 (by kernel_rfl) (L' := [(0, .slice aa_ a_.length ca_), (1, .slice ab b.length cb), (2, .slice ax_ x_.length cx_), (3, .slice acolumns columns.length ccolumns), (9, .int .i64 0)]) ?_ ?_
  · refine QRun_b [.int .i64 0] 0 _ (by kernel_rfl) (fun w => by kernel_rfl) ?_
    exact QRun_done [0, 1, 2, 3, 9] (by kernel_rfl) (by kernel_rfl)
  obtain ⟨x1, gx1, hF⟩ := M.bind_some hF
  obtain ⟨hloy1, hhiy1, gx1⟩ := M.for_start gx1
  refine Run_join (fun L' h' => ∃ (s2 : Unit), x1 = .inl s2 ∧ L' = [] ∧ h = h') ?_ ?_
  · rintro _ _ ⟨s2, es2, rfl, rfl⟩
    have hF := M.cont_inl' hF es2
    refine Run_seq ?_
    refine Run_reg 1 (by kernel_rfl) (L' := [(8, .bool true)]) ?_ ?_
    · refine QRun_b [.bool true] 0 _ (by kernel_rfl) (fun w => by kernel_rfl) ?_
      exact QRun_done [8] (by kernel_rfl) (by kernel_rfl)
    have hF := M.ret_some hF
    subst hF
    exact Run_ret1 rfl (ResV_tmp (v := .bool true) (by kernel_rfl)) ⟨rfl, rfl⟩
  · refine Run_block ?_
    refine Run_keep [0, 1, 2, 3, 9] (L' := [(0, .slice aa_ a_.length ca_), (1, .slice ab b.length cb), (2, .slice ax_ x_.length cx_), (3, .slice acolumns columns.length ccolumns), (9, .int .i64 0)]) (by kernel_rfl) ?_
    refine Run_loop (fun m L' h' => ∃ (i1 : Int) (s1 : Unit), 0 ≤ i1 ∧ M.forN (b.length : Int) _ _ n m i1 s1 = some x1 ∧ L' = [(0, .slice aa_ a_.length ca_), (1, .slice ab b.length cb), (2, .slice ax_ x_.length cx_), (3, .slice acolumns columns.length ccolumns), (9, .int .i64 i1)] ∧ h = h') ((b.length : Int) - 0).toNat ⟨0, (), Int.le_refl _, gx1, rfl, rfl⟩ ?_
    rintro my1 _ _ ⟨i1, s1, hloy1', gx1, rfl, rfl⟩
    refine Run_seq ?_
    refine Run_seq ?_
    refine Run_reg 4 (by kernel_rfl) (L' := [(0, .slice aa_ a_.length ca_), (1, .slice ab b.length cb), (2, .slice ax_ x_.length cx_), (3, .slice acolumns columns.length ccolumns), (9, .int .i64 i1), (15, .bool (decide (i1 < (b.length : Int))))]) ?_ ?_
    · refine QRun_b [.int .i64 i1, .slice ab b.length cb, .int .i64 (b.length : Int), .bool (decide (i1 < (b.length : Int)))] 0 _ (by kernel_rfl) (fun w => by kernel_rfl) ?_
      exact QRun_done [0, 1, 2, 3, 9, 15] (by kernel_rfl) (by kernel_rfl)
    refine Run_cond (b := decide (i1 < (b.length : Int))) (by kernel_rfl) (fun hb1 => ?_) (fun hb1 => ?_)
    · obtain ⟨my1, y1, rfl, hB1, hgoy1, houty1⟩ := M.for_go gx1 hb1
      have hlty1 := of_decide_eq_true hb1
      refine Run_skip ?_
      refine Run_seq ?_
      refine Run_block ?_
      refine Run_seq ?_
      obtain ⟨x2, hx1, hB1⟩ := M.bind_some hB1
      obtain ⟨hx1l, hx1u, hx1⟩ := M.idx_some hx1
      refine Run_reg 6 (by kernel_rfl) (L' := [(0, .slice aa_ a_.length ca_), (1, .slice ab b.length cb), (2, .slice ax_ x_.length cx_), (3, .slice acolumns columns.length ccolumns), (9, .int .i64 i1), (10, .bool (x2 == (-1000000000000000)))]) ?_ ?_
      · refine QRun_b [.slice ab b.length cb, .int .i64 i1] 0 _ (by kernel_rfl) (fun w => by kernel_rfl) ?_
        refine QRun_y (.pointer (some (adr ab (i1.toNat * 1)))) (by kernel_rfl) (Y_idx (t := 23) (e := 2) (sz := 1) (a := ab) (n := b.length) (cap := cb) (kk := .i64) (i := i1) (by kernel_rfl) Try.underlying23 (by kernel_rfl) (rb.cell hx1).1 hx1l hx1u) ?_
        refine QRun_y (.int .i64 x2) (by kernel_rfl) (Y_load1 (t := 2) (p := adr ab (i1.toNat * 1)) (v := .int .i64 x2) (by kernel_rfl) (fun w => by kernel_rfl) (cd2_cell rb hx1)) ?_
        refine QRun_b [.bool (x2 == (-1000000000000000)), .bool (x2 == (-1000000000000000))] 4 _ (by kernel_rfl) (fun w => by kernel_rfl) ?_
        exact QRun_done [0, 1, 2, 3, 9, 10] (by kernel_rfl) (by kernel_rfl)
      refine Run_seq ?_
      refine Run_seq ?_
      refine Run_reg 1 (by kernel_rfl) (L' := [(0, .slice aa_ a_.length ca_), (1, .slice ab b.length cb), (2, .slice ax_ x_.length cx_), (3, .slice acolumns columns.length ccolumns), (9, .int .i64 i1), (10, .bool (x2 == (-1000000000000000))), (11, .int .i64 0)]) ?_ ?_
      · refine QRun_b [.int .i64 0] 0 _ (by kernel_rfl) (fun w => by kernel_rfl) ?_
        exact QRun_done [0, 1, 2, 3, 9, 10, 11] (by kernel_rfl) (by kernel_rfl)
      obtain ⟨x3, gx3, hB1⟩ := M.bind_some hB1
      obtain ⟨hloy2, hhiy2, gx3⟩ := M.for_start gx3
      refine Run_join (fun L' h' => L' = [(0, .slice aa_ a_.length ca_), (1, .slice ab b.length cb), (2, .slice ax_ x_.length cx_), (3, .slice acolumns columns.length ccolumns), (9, .int .i64 i1), (10, .bool x3)] ∧ h = h') ?_ ?_
      · rintro _ _ ⟨rfl, rfl⟩
        refine Run_seq ?_
        refine Run_reg 2 (by kernel_rfl) (L' := [(0, .slice aa_ a_.length ca_), (1, .slice ab b.length cb), (2, .slice ax_ x_.length cx_), (3, .slice acolumns columns.length ccolumns), (9, .int .i64 i1), (56, .bool (!x3))]) ?_ ?_
        · refine QRun_b [.bool x3, .bool (!x3)] 0 _ (by kernel_rfl) (fun w => by kernel_rfl) ?_
          exact QRun_done [0, 1, 2, 3, 9, 56] (by kernel_rfl) (by kernel_rfl)
        refine Run_cond (b := !x3) (by kernel_rfl) (fun hb4 => ?_) (fun hb4 => ?_)
        · have hB1 := (M.ite_some hB1).1 hb4
          refine Run_seq ?_
          refine Run_reg 1 (by kernel_rfl) (L' := [(8, .bool false)]) ?_ ?_
          · refine QRun_b [.bool false] 0 _ (by kernel_rfl) (fun w => by kernel_rfl) ?_
            exact QRun_done [8] (by kernel_rfl) (by kernel_rfl)
          have hB1 := M.ret_some hB1
          have gx1 := houty1 _ hB1.symm
          have hF := M.cont_inr' hF gx1
          have hF := M.ret_some hF
          subst hF
          exact Run_ret1 rfl (ResV_tmp (v := .bool false) (by kernel_rfl)) ⟨rfl, rfl⟩
        · have hB1 := (M.ite_some hB1).2 hb4
          refine Run_skip ?_
          refine Run_blk ?_
          refine Run_reg 3 (by kernel_rfl) (L' := [(0, .slice aa_ a_.length ca_), (1, .slice ab b.length cb), (2, .slice ax_ x_.length cx_), (3, .slice acolumns columns.length ccolumns), (9, .int .i64 (i1 + 1))]) ?_ ?_
          · refine QRun_b [.int .i64 i1] 0 _ (by kernel_rfl) (fun w => by kernel_rfl) ?_
            refine QRun_y (.int .i64 (i1 + 1)) (by kernel_rfl) (Y_eq (v := .int .i64 (w64 (i1 + 1))) (Y_pure (fun w => by kernel_rfl)) (by rw [w64_eq _ (by omega)])) ?_
            refine QRun_b [.int .i64 (i1 + 1)] 2 _ (by kernel_rfl) (fun w => by kernel_rfl) ?_
            exact QRun_done [0, 1, 2, 3, 9] (by kernel_rfl) (by kernel_rfl)
          have hB1 := M.ret_some hB1
          have gx1 := hgoy1 _ hB1.symm
          exact Run_again [0, 1, 2, 3, 9] (by kernel_rfl) my1 (Nat.lt_succ_self _) ⟨i1 + 1, (), by omega, gx1, rfl, rfl⟩
      · refine Run_block ?_
        refine Run_keep [0, 1, 2, 3, 9, 10, 11] (L' := [(0, .slice aa_ a_.length ca_), (1, .slice ab b.length cb), (2, .slice ax_ x_.length cx_), (3, .slice acolumns columns.length ccolumns), (9, .int .i64 i1), (10, .bool (x2 == (-1000000000000000))), (11, .int .i64 0)]) (by kernel_rfl) ?_
        refine Run_loop (fun m L' h' => ∃ (i2 : Int) (s3 : Bool), 0 ≤ i2 ∧ M.forN (columns.length : Int) _ _ n m i2 s3 = some x3 ∧ L' = [(0, .slice aa_ a_.length ca_), (1, .slice ab b.length cb), (2, .slice ax_ x_.length cx_), (3, .slice acolumns columns.length ccolumns), (9, .int .i64 i1), (10, .bool s3), (11, .int .i64 i2)] ∧ h = h') ((columns.length : Int) - 0).toNat ⟨0, (x2 == (-1000000000000000)), Int.le_refl _, gx3, rfl, rfl⟩ ?_
        rintro my2 _ _ ⟨i2, s3, hloy2', gx3, rfl, rfl⟩
        refine Run_seq ?_
        refine Run_seq ?_
        refine Run_reg 4 (by kernel_rfl) (L' := [(0, .slice aa_ a_.length ca_), (1, .slice ab b.length cb), (2, .slice ax_ x_.length cx_), (3, .slice acolumns columns.length ccolumns), (9, .int .i64 i1), (10, .bool s3), (11, .int .i64 i2), (26, .bool (decide (i2 < (columns.length : Int))))]) ?_ ?_
        · refine QRun_b [.int .i64 i2, .slice acolumns columns.length ccolumns, .int .i64 (columns.length : Int), .bool (decide (i2 < (columns.length : Int)))] 0 _ (by kernel_rfl) (fun w => by kernel_rfl) ?_
          exact QRun_done [0, 1, 2, 3, 9, 10, 11, 26] (by kernel_rfl) (by kernel_rfl)
        refine Run_cond (b := decide (i2 < (columns.length : Int))) (by kernel_rfl) (fun hb2 => ?_) (fun hb2 => ?_)
        · obtain ⟨my2, y2, rfl, hB2, hgoy2, houty2⟩ := M.for_go gx3 hb2
          have hlty2 := of_decide_eq_true hb2
          refine Run_skip ?_
          refine Run_seq ?_
          refine Run_block ?_
          obtain ⟨x4, gx4, hB2⟩ := M.bind_some hB2
          refine Run_draw 27 mixed (by kernel_rfl) (by kernel_rfl) (L' := [(0, .slice aa_ a_.length ca_), (1, .slice ab b.length cb), (2, .slice ax_ x_.length cx_), (3, .slice acolumns columns.length ccolumns), (9, .int .i64 i1), (10, .bool x4), (11, .int .i64 i2)]) ?_ ?_
          · refine QRun_b [.bool s3] 0 _ (by kernel_rfl) (fun w => by kernel_rfl) ?_
            refine QRun_seq 26 [(0, .slice aa_ a_.length ca_), (1, .slice ab b.length cb), (2, .slice ax_ x_.length cx_), (3, .slice acolumns columns.length ccolumns), (9, .int .i64 i1), (10, .bool s3), (11, .int .i64 i2), (54, .bool x4)] ?_ ?_
            · rcases Bool.eq_false_or_eq_true s3 with hb3 | hb3
              · refine QRun_bool s3 true (by kernel_rfl) (fun w => by kernel_rfl) hb3 ?_
                have gx4 := M.ret_some ((M.ite_some gx4).1 hb3)
                refine QRun_n (by kernel_rfl) ?_
                refine QRun_n (by kernel_rfl) ?_
                refine QRun_n (by kernel_rfl) ?_
                refine QRun_n (by kernel_rfl) ?_
                refine QRun_n (by kernel_rfl) ?_
                refine QRun_n (by kernel_rfl) ?_
                refine QRun_n (by kernel_rfl) ?_
                refine QRun_n (by kernel_rfl) ?_
                refine QRun_n (by kernel_rfl) ?_
                refine QRun_n (by kernel_rfl) ?_
                refine QRun_n (by kernel_rfl) ?_
                refine QRun_n (by kernel_rfl) ?_
                refine QRun_n (by kernel_rfl) ?_
                refine QRun_n (by kernel_rfl) ?_
                refine QRun_n (by kernel_rfl) ?_
                refine QRun_n (by kernel_rfl) ?_
                refine QRun_n (by kernel_rfl) ?_
                refine QRun_n (by kernel_rfl) ?_
                refine QRun_n (by kernel_rfl) ?_
                refine QRun_n (by kernel_rfl) ?_
                refine QRun_n (by kernel_rfl) ?_
                refine QRun_n (by kernel_rfl) ?_
                refine QRun_n (by kernel_rfl) ?_
                refine QRun_bool true x4 (by kernel_rfl) (fun w => by kernel_rfl) gx4 ?_
                exact QRun_done [0, 1, 2, 3, 9, 10, 11, 54] (by kernel_rfl) (by kernel_rfl)
              · refine QRun_bool s3 false (by kernel_rfl) (fun w => by kernel_rfl) hb3 ?_
                have gx4 := (M.ite_some gx4).2 hb3
                obtain ⟨x5, hx2, gx4⟩ := M.bind_some gx4
                obtain ⟨hx2l, hx2u, hx2⟩ := M.idx_some hx2
                obtain ⟨a1, c1, hc1, r1⟩ := ra_.row hx2
                obtain ⟨x6, hx3, gx4⟩ := M.bind_some gx4
                obtain ⟨hx3l, hx3u, hx3⟩ := M.idx_some hx3
                obtain ⟨x7, hx4, gx4⟩ := M.bind_some gx4
                obtain ⟨hx4l, hx4u, hx4⟩ := M.idx_some hx4
                obtain ⟨x8, hx5, gx4⟩ := M.bind_some gx4
                obtain ⟨hx5l, hx5u, hx5⟩ := M.idx_some hx5
                obtain ⟨x9, hx6, gx4⟩ := M.bind_some gx4
                obtain ⟨hx6l, hx6u, hx6⟩ := M.idx_some hx6
                obtain ⟨x10, hx7, gx4⟩ := M.bind_some gx4
                obtain ⟨x11, hx8, gx4⟩ := M.bind_some gx4
                obtain ⟨hx8l, hx8u, hx8⟩ := M.idx_some hx8
                have gx4 := M.ret_some gx4
                refine QRun_b [.slice aa_ a_.length ca_, .int .i64 i1] 2 _ (by kernel_rfl) (fun w => by kernel_rfl) ?_
                refine QRun_y (.pointer (some (adr aa_ (i1.toNat * 1)))) (by kernel_rfl) (Y_idx (t := 22) (e := 23) (sz := 1) (a := aa_) (n := a_.length) (cap := ca_) (kk := .i64) (i := i1) (by kernel_rfl) Try.underlying22 (by kernel_rfl) (ra_.cell hx2).1 hx2l hx2u) ?_
                refine QRun_y (.slice a1 x5.length c1) (by kernel_rfl) (Y_load1 (t := 23) (p := adr aa_ (i1.toNat * 1)) (v := .slice a1 x5.length c1) (by kernel_rfl) (fun w => by kernel_rfl) hc1) ?_
                refine QRun_b [.slice acolumns columns.length ccolumns, .int .i64 i2] 6 _ (by kernel_rfl) (fun w => by kernel_rfl) ?_
                refine QRun_y (.pointer (some (adr acolumns (i2.toNat * 1)))) (by kernel_rfl) (Y_idx (t := 23) (e := 2) (sz := 1) (a := acolumns) (n := columns.length) (cap := ccolumns) (kk := .i64) (i := i2) (by kernel_rfl) Try.underlying23 (by kernel_rfl) (rcolumns.cell hx3).1 hx3l hx3u) ?_
                refine QRun_y (.int .i64 x6) (by kernel_rfl) (Y_load1 (t := 2) (p := adr acolumns (i2.toNat * 1)) (v := .int .i64 x6) (by kernel_rfl) (fun w => by kernel_rfl) (cd2_cell rcolumns hx3)) ?_
                refine QRun_y (.pointer (some (adr a1 (x6.toNat * 1)))) (by kernel_rfl) (Y_idx (t := 23) (e := 2) (sz := 1) (a := a1) (n := x5.length) (cap := c1) (kk := .i64) (i := x6) (by kernel_rfl) Try.underlying23 (by kernel_rfl) (r1.cell hx4).1 hx4l hx4u) ?_
                refine QRun_y (.int .i64 x7) (by kernel_rfl) (Y_load1 (t := 2) (p := adr a1 (x6.toNat * 1)) (v := .int .i64 x7) (by kernel_rfl) (fun w => by kernel_rfl) (cd2_cell r1 hx4)) ?_
                refine QRun_b [.slice ax_ x_.length cx_, .slice acolumns columns.length ccolumns, .int .i64 i2] 12 _ (by kernel_rfl) (fun w => by kernel_rfl) ?_
                refine QRun_y (.pointer (some (adr acolumns (i2.toNat * 1)))) (by kernel_rfl) (Y_idx (t := 23) (e := 2) (sz := 1) (a := acolumns) (n := columns.length) (cap := ccolumns) (kk := .i64) (i := i2) (by kernel_rfl) Try.underlying23 (by kernel_rfl) (rcolumns.cell hx5).1 hx5l hx5u) ?_
                refine QRun_y (.int .i64 x8) (by kernel_rfl) (Y_load1 (t := 2) (p := adr acolumns (i2.toNat * 1)) (v := .int .i64 x8) (by kernel_rfl) (fun w => by kernel_rfl) (cd2_cell rcolumns hx5)) ?_
                refine QRun_y (.pointer (some (adr ax_ (x8.toNat * 1)))) (by kernel_rfl) (Y_idx (t := 23) (e := 2) (sz := 1) (a := ax_) (n := x_.length) (cap := cx_) (kk := .i64) (i := x8) (by kernel_rfl) Try.underlying23 (by kernel_rfl) (rx_.cell hx6).1 hx6l hx6u) ?_
                refine QRun_y (.int .i64 x9) (by kernel_rfl) (Y_load1 (t := 2) (p := adr ax_ (x8.toNat * 1)) (v := .int .i64 x9) (by kernel_rfl) (fun w => by kernel_rfl) (cd2_cell rx_ hx6)) ?_
                refine QRun_y (.int .i64 x10) (by kernel_rfl) (Y_callq (f := 92) (args := #[.int .i64 x7, .int .i64 x9]) (v := .int .i64 x10) (by kernel_rfl) (w_spec_l01Times h x7 x9 _ _ hx7)) ?_
                refine QRun_b [.slice ab b.length cb, .int .i64 i1] 20 _ (by kernel_rfl) (fun w => by kernel_rfl) ?_
                refine QRun_y (.pointer (some (adr ab (i1.toNat * 1)))) (by kernel_rfl) (Y_idx (t := 23) (e := 2) (sz := 1) (a := ab) (n := b.length) (cap := cb) (kk := .i64) (i := i1) (by kernel_rfl) Try.underlying23 (by kernel_rfl) (rb.cell hx8).1 hx8l hx8u) ?_
                refine QRun_y (.int .i64 x11) (by kernel_rfl) (Y_load1 (t := 2) (p := adr ab (i1.toNat * 1)) (v := .int .i64 x11) (by kernel_rfl) (fun w => by kernel_rfl) (cd2_cell rb hx8)) ?_
                refine QRun_b [.bool (x10 == x11)] 24 _ (by kernel_rfl) (fun w => by kernel_rfl) ?_
                refine QRun_bool (x10 == x11) x4 (by kernel_rfl) (fun w => by kernel_rfl) gx4 ?_
                exact QRun_done [0, 1, 2, 3, 9, 10, 11, 54] (by kernel_rfl) (by kernel_rfl)
            refine QRun_b [.bool x4] 26 _ (by kernel_rfl) (fun w => by kernel_rfl) ?_
            exact QRun_done [0, 1, 2, 3, 9, 10, 11] (by kernel_rfl) (by kernel_rfl)
          refine Run_blk ?_
          refine Run_reg 3 (by kernel_rfl) (L' := [(0, .slice aa_ a_.length ca_), (1, .slice ab b.length cb), (2, .slice ax_ x_.length cx_), (3, .slice acolumns columns.length ccolumns), (9, .int .i64 i1), (10, .bool x4), (11, .int .i64 (i2 + 1))]) ?_ ?_
          · refine QRun_b [.int .i64 i2] 0 _ (by kernel_rfl) (fun w => by kernel_rfl) ?_
            refine QRun_y (.int .i64 (i2 + 1)) (by kernel_rfl) (Y_eq (v := .int .i64 (w64 (i2 + 1))) (Y_pure (fun w => by kernel_rfl)) (by rw [w64_eq _ (by omega)])) ?_
            refine QRun_b [.int .i64 (i2 + 1)] 2 _ (by kernel_rfl) (fun w => by kernel_rfl) ?_
            exact QRun_done [0, 1, 2, 3, 9, 10, 11] (by kernel_rfl) (by kernel_rfl)
          have hB2 := M.ret_some hB2
          have gx3 := hgoy2 _ hB2.symm
          exact Run_again [0, 1, 2, 3, 9, 10, 11] (by kernel_rfl) my2 (Nat.lt_succ_self _) ⟨i2 + 1, x4, by omega, gx3, rfl, rfl⟩
        · have gx3 := M.for_end gx3 hb2
          subst gx3
          refine Run_exit (k' := _) rfl ?_
          exact Run_fall [0, 1, 2, 3, 9, 10] (by kernel_rfl) ⟨rfl, rfl⟩
    · have gx1 := M.for_end gx1 hb1
      subst gx1
      refine Run_exit (k' := _) rfl ?_
      exact Run_fall [] (by kernel_rfl) ⟨(), rfl, rfl, rfl⟩

set_option maxRecDepth 100000 in
set_option maxHeartbeats 4000000 in
theorem w_spec_LeastCover (h : Heap) (a_ : List (List Int)) (aa_ : Option Addr) (ca_ : Nat) (ra_ : Rd cd23 h (Lt h) aa_ ca_ a_) (b : List Int) (ab : Option Addr) (cb : Nat) (rb : Rd cd2 h (Lt h) ab cb b) (n : Nat) (r : (List Int) × Int) (hF : spec_LeastCover a_ b n = some r) :
    Fn Try.prog 38 #[.slice aa_ a_.length ca_, .slice ab b.length cb] h fun v h' => ∃ (a0 : Option Addr) (c0 : Nat), v = .tuple #[.slice a0 r.1.length c0, .int .i64 r.2] ∧ Hold h h' [own cd2 a0 r.1.length c0 r.1] := by
  unfold spec_LeastCover at hF
  refine Fn_enter (args := [.slice aa_ a_.length ca_, .slice ab b.length cb]) Try.func38 rfl (by kernel_rfl) (by kernel_rfl) (fun w0 _ => ?_)
  have H0 := Hold.init h
  refine Run_seq ?_
  refine Run_reg 2 (by kernel_rfl) (L' := [(0, .slice aa_ a_.length ca_), (1, .slice ab b.length cb)]) ?_ ?_
  · refine QRun_b [.slice none 0 0, .int .i64 0] 0 _ (by kernel_rfl) (fun w => by kernel_rfl) ?_
    exact QRun_done [0, 1] (by kernel_rfl) (by kernel_rfl)
  refine Run_seq ?_
  obtain ⟨x1, hx1, hF⟩ := M.bind_some hF
  refine Run_reg 4 (by kernel_rfl) (L' := [(0, .slice aa_ a_.length ca_), (1, .slice ab b.length cb), (6, .int .i64 x1)]) ?_ ?_
  · refine QRun_b [.slice aa_ a_.length ca_, .slice ab b.length cb] 0 _ (by kernel_rfl) (fun w => by kernel_rfl) ?_
    refine QRun_y (.int .i64 x1) (by kernel_rfl) (Y_callq (f := 58) (args := #[.slice aa_ a_.length ca_, .slice ab b.length cb]) (v := .int .i64 x1) (by kernel_rfl) (w_spec_l08Code h a_ aa_ ca_ ra_ b ab cb rb _ _ hx1)) ?_
    refine QRun_b [.int .i64 x1] 3 _ (by kernel_rfl) (fun w => by kernel_rfl) ?_
    exact QRun_done [0, 1, 6] (by kernel_rfl) (by kernel_rfl)
  refine Run_seq ?_
  refine Run_seq ?_
  refine Run_reg 2 (by kernel_rfl) (L' := [(0, .slice aa_ a_.length ca_), (1, .slice ab b.length cb), (6, .int .i64 x1), (18, .bool (x1 != 0))]) ?_ ?_
  · refine QRun_b [.int .i64 x1, .bool (x1 != 0)] 0 _ (by kernel_rfl) (fun w => by kernel_rfl) ?_
    exact QRun_done [0, 1, 6, 18] (by kernel_rfl) (by kernel_rfl)
  refine Run_cond (b := x1 != 0) (by kernel_rfl) (fun hb1 => ?_) (fun hb1 => ?_)
  · have hF := (M.ite_some hF).1 hb1
    refine Run_seq ?_
    refine Run_reg 3 (by kernel_rfl) (L' := [(4, .slice none 0 0), (5, .int .i64 x1)]) ?_ ?_
    · refine QRun_b [.int .i64 x1, .slice none 0 0, .int .i64 x1] 0 _ (by kernel_rfl) (fun w => by kernel_rfl) ?_
      exact QRun_done [4, 5] (by kernel_rfl) (by kernel_rfl)
    have hF := M.ret_some hF
    subst hF
    have H1 := H0.empty cd2
    exact Run_ret2 rfl (ResV_tmp (v := .slice none 0 0) (by kernel_rfl)) (ResV_tmp (v := .int .i64 x1) (by kernel_rfl)) ⟨none, 0, rfl, H1⟩
  · have hF := (M.ite_some hF).2 hb1
    refine Run_skip ?_
    refine Run_seq ?_
    refine Run_ops ?_
    refine Run_b [.slice aa_ a_.length ca_, .slice ab b.length cb] 0 _ (by kernel_rfl) (fun w => by kernel_rfl) ?_
    obtain ⟨x2, hx2, hF⟩ := M.bind_some hF
    refine Run_E (by kernel_rfl) ?_
    refine E_call (f := 60) (args := #[.slice aa_ a_.length ca_, .slice ab b.length cb]) (w_spec_l08Sub h a_ aa_ ca_ ra_ b ab cb rb _ _ hx2) (by kernel_rfl) (fun v1 h1 hp1 => ?_)
    obtain ⟨a1, c1, rfl, H2⟩ := hp1
    have H3 : Hold h h1 [own cd2 a1 x2.length c1 x2] := H0.call H2 rfl
    refine Run_b [.slice a1 x2.length c1] 3 _ (by kernel_rfl) (fun w => by kernel_rfl) ?_
    refine Run_nil (by kernel_rfl) ?_
    refine Run_keep [0, 1, 7] (L' := [(0, .slice aa_ a_.length ca_), (1, .slice ab b.length cb), (7, .slice a1 x2.length c1)]) (by kernel_rfl) ?_
    refine Run_seq ?_
    refine Run_seq ?_
    refine Run_ops ?_
    refine Run_b [.slice aa_ a_.length ca_, .slice a1 x2.length c1] 0 _ (by kernel_rfl) (fun w => by kernel_rfl) ?_
    obtain ⟨x3, hx3, hF⟩ := M.bind_some hF
    refine Run_E (by kernel_rfl) ?_
    refine E_call (f := 63) (args := #[.slice aa_ a_.length ca_, .slice a1 x2.length c1]) (w_spec_l02Apply h1 a_ aa_ ca_ (ra_.at H3.ext) x2 a1 c1 (H3.rd 0 rfl) _ _ hx3) (by kernel_rfl) (fun v2 h2 hp2 => ?_)
    obtain ⟨a2, c2, rfl, H4⟩ := hp2
    have H5 : Hold h h2 [own cd2 a2 x3.length c2 x3, own cd2 a1 x2.length c1 x2] := H3.call H4 rfl
    obtain ⟨x4, hx4, hF⟩ := M.bind_some hF
    refine Run_b [.slice ab b.length cb] 3 _ (by kernel_rfl) (fun w => by kernel_rfl) ?_
    refine Run_y (.bool x4) (by kernel_rfl) (Y_callq (f := 67) (args := #[.slice a2 x3.length c2, .slice ab b.length cb]) (v := .bool x4) (by kernel_rfl) (w_spec_l01Same h2 x3 a2 c2 (H5.rd 0 rfl) b ab cb (rb.at H5.ext) _ _ hx4)) ?_
    refine Run_b [.bool (!x4)] 5 _ (by kernel_rfl) (fun w => by kernel_rfl) ?_
    refine Run_nil (by kernel_rfl) ?_
    refine Run_keep [0, 1, 7, 28] (L' := [(0, .slice aa_ a_.length ca_), (1, .slice ab b.length cb), (7, .slice a1 x2.length c1), (28, .bool (!x4))]) (by kernel_rfl) ?_
    refine Run_cond (b := !x4) (by kernel_rfl) (fun hb2 => ?_) (fun hb2 => ?_)
    · have hF := (M.ite_some hF).1 hb2
      refine Run_seq ?_
      refine Run_reg 2 (by kernel_rfl) (L' := [(4, .slice none 0 0), (5, .int .i64 4)]) ?_ ?_
      · refine QRun_b [.slice none 0 0, .int .i64 4] 0 _ (by kernel_rfl) (fun w => by kernel_rfl) ?_
        exact QRun_done [4, 5] (by kernel_rfl) (by kernel_rfl)
      have hF := M.ret_some hF
      subst hF
      have H6 := H5.empty cd2
      have H7 : Hold h h2 [own cd2 none 0 0 []] := H6.pick [0] (by kernel_rfl)
      exact Run_ret2 rfl (ResV_tmp (v := .slice none 0 0) (by kernel_rfl)) (ResV_tmp (v := .int .i64 4) (by kernel_rfl)) ⟨none, 0, rfl, H7⟩
    · have hF := (M.ite_some hF).2 hb2
      refine Run_skip ?_
      refine Run_seq ?_
      refine Run_ops ?_
      refine Run_E (by kernel_rfl) ?_
      refine E_lit (C := cd2) (n := 0) (l := ([] : List Int)) (cs := []) H5 (fun w => by kernel_rfl) (Enc.nil _ _) rfl (by decide) (fun a3 h3 H8 => ?_)
      refine Run_b [.slice a3 0 0, .bool false] 1 _ (by kernel_rfl) (fun w => by kernel_rfl) ?_
      refine Run_nil (by kernel_rfl) ?_
      refine Run_keep [0, 1, 7, 8, 9] (L' := [(0, .slice aa_ a_.length ca_), (1, .slice ab b.length cb), (7, .slice a1 x2.length c1), (8, .slice a3 0 0), (9, .bool false)]) (by kernel_rfl) ?_
      refine Run_seq ?_
      refine Run_seq ?_
      refine Run_reg 1 (by kernel_rfl) (L' := [(0, .slice aa_ a_.length ca_), (1, .slice ab b.length cb), (7, .slice a1 x2.length c1), (8, .slice a3 0 0), (9, .bool false), (10, .int .i64 0)]) ?_ ?_
      · refine QRun_b [.int .i64 0] 0 _ (by kernel_rfl) (fun w => by kernel_rfl) ?_
        exact QRun_done [0, 1, 7, 8, 9, 10] (by kernel_rfl) (by kernel_rfl)
      obtain ⟨x5, gx5, hF⟩ := M.bind_some hF
      refine Run_join (fun L' h' => ∃ (a5 : Option Addr) (c4 : Nat), L' = [(8, .slice a5 x5.1.length c4)] ∧ Hold h h' [own cd2 a5 x5.1.length c4 x5.1]) ?_ ?_
      · rintro _ h5 ⟨a5, c4, rfl, H10⟩
        refine Run_seq ?_
        refine Run_reg 3 (by kernel_rfl) (L' := [(4, .slice a5 x5.1.length c4), (5, .int .i64 0)]) ?_ ?_
        · refine QRun_b [.slice a5 x5.1.length c4, .slice a5 x5.1.length c4, .int .i64 0] 0 _ (by kernel_rfl) (fun w => by kernel_rfl) ?_
          exact QRun_done [4, 5] (by kernel_rfl) (by kernel_rfl)
        have hF := M.ret_some hF
        subst hF
        exact Run_ret2 rfl (ResV_tmp (v := .slice a5 x5.1.length c4) (by kernel_rfl)) (ResV_tmp (v := .int .i64 0) (by kernel_rfl)) ⟨a5, c4, rfl, H10⟩
      · refine Run_block ?_
        have hn2 := (H8.len 0 rfl)
        have H38 : Hold h h3 [own cd2 a3 (([] : List Int).length) 0 ([] : List Int), own cd2 a2 x3.length c2 x3, own cd2 a1 x2.length c1 x2] := by rw [hn2]; exact H8
        have H39 : Hold h h3 [own cd2 a1 x2.length c1 x2, own cd2 a3 (([] : List Int).length) 0 ([] : List Int)] := H38.pick [2, 0] (by kernel_rfl)
        refine Run_keep [0, 1, 7, 8, 9, 10] (L' := [(0, .slice aa_ a_.length ca_), (1, .slice ab b.length cb), (7, .slice a1 x2.length c1), (8, .slice a3 (([] : List Int).length) 0), (9, .bool false), (10, .int .i64 0)]) (by rw [hn2]; kernel_rfl) ?_
        refine Run_loop (fun m L' h' => ∃ (s1 : (List Int) × Bool × Int) (a4 : Option Addr) (c3 : Nat), M.loopN _ n m s1 = some x5 ∧ L' = [(0, .slice aa_ a_.length ca_), (1, .slice ab b.length cb), (7, .slice a1 x2.length c1), (8, .slice a4 s1.1.length c3), (9, .bool s1.2.1), (10, .int .i64 s1.2.2)] ∧ Hold h h' [own cd2 a1 x2.length c1 x2, own cd2 a4 s1.1.length c3 s1.1]) n ⟨(([] : List Int), false, 0), a3, 0, gx5, rfl, H39⟩ ?_
        rintro my1 _ h4 ⟨s1, a4, c3, gx5, rfl, H9⟩
        obtain ⟨my1, y1, rfl, hB1, hgoy1, houty1⟩ := M.loop_some gx5
        refine Run_seq ?_
        refine Run_seq ?_
        obtain ⟨u1, hz1, hB1⟩ := M.bind_some hB1
        have hz1 := M.guard_some hz1
        refine Run_reg 6 (by kernel_rfl) (L' := [(0, .slice aa_ a_.length ca_), (1, .slice ab b.length cb), (7, .slice a1 x2.length c1), (8, .slice a4 s1.1.length c3), (9, .bool s1.2.1), (10, .int .i64 s1.2.2), (35, .bool (decide (s1.2.2 < (ishl .i64 1 (IntKind.u64.wrap ((x2.length : Int)))))))]) ?_ ?_
        · refine QRun_b [.int .i64 s1.2.2, .slice a1 x2.length c1, .int .i64 (x2.length : Int), .int .u64 (IntKind.u64.wrap ((x2.length : Int)))] 0 _ (by kernel_rfl) (fun w => by kernel_rfl) ?_
          refine QRun_y (.int .i64 (ishl .i64 1 (IntKind.u64.wrap ((x2.length : Int))))) (by kernel_rfl) (Y_shl (k := .i64) (x := 1) (kk := .u64) (y := IntKind.u64.wrap ((x2.length : Int))) (by kernel_rfl) hz1) ?_
          refine QRun_b [.bool (decide (s1.2.2 < (ishl .i64 1 (IntKind.u64.wrap ((x2.length : Int))))))] 5 _ (by kernel_rfl) (fun w => by kernel_rfl) ?_
          exact QRun_done [0, 1, 7, 8, 9, 10, 35] (by kernel_rfl) (by kernel_rfl)
        refine Run_cond (b := decide (s1.2.2 < (ishl .i64 1 (IntKind.u64.wrap ((x2.length : Int)))))) (by kernel_rfl) (fun hb3 => ?_) (fun hb3 => ?_)
        · have hB1 := (M.ite_some hB1).1 hb3
          refine Run_skip ?_
          refine Run_seq ?_
          refine Run_block ?_
          refine Run_seq ?_
          refine Run_ops ?_
          refine Run_E (by kernel_rfl) ?_
          refine E_lit (C := cd2) (n := 0) (l := ([] : List Int)) (cs := []) H9 (fun w => by kernel_rfl) (Enc.nil _ _) rfl (by decide) (fun a6 h6 H11 => ?_)
          refine Run_b [.slice a6 0 0] 1 _ (by kernel_rfl) (fun w => by kernel_rfl) ?_
          refine Run_nil (by kernel_rfl) ?_
          refine Run_keep [0, 1, 7, 8, 9, 10, 11] (L' := [(0, .slice aa_ a_.length ca_), (1, .slice ab b.length cb), (7, .slice a1 x2.length c1), (8, .slice a4 s1.1.length c3), (9, .bool s1.2.1), (10, .int .i64 s1.2.2), (11, .slice a6 0 0)]) (by kernel_rfl) ?_
          refine Run_seq ?_
          refine Run_seq ?_
          refine Run_reg 1 (by kernel_rfl) (L' := [(0, .slice aa_ a_.length ca_), (1, .slice ab b.length cb), (7, .slice a1 x2.length c1), (8, .slice a4 s1.1.length c3), (9, .bool s1.2.1), (10, .int .i64 s1.2.2), (11, .slice a6 0 0), (12, .int .i64 0)]) ?_ ?_
          · refine QRun_b [.int .i64 0] 0 _ (by kernel_rfl) (fun w => by kernel_rfl) ?_
            exact QRun_done [0, 1, 7, 8, 9, 10, 11, 12] (by kernel_rfl) (by kernel_rfl)
          obtain ⟨x6, gx6, hB1⟩ := M.bind_some hB1
          obtain ⟨hloy2, hhiy2, gx6⟩ := M.for_start gx6
          refine Run_join (fun L' h' => ∃ (a8 : Option Addr) (c6 : Nat), L' = [(0, .slice aa_ a_.length ca_), (1, .slice ab b.length cb), (7, .slice a1 x2.length c1), (8, .slice a4 s1.1.length c3), (9, .bool s1.2.1), (10, .int .i64 s1.2.2), (11, .slice a8 x6.length c6)] ∧ Hold h h' [own cd2 a1 x2.length c1 x2, own cd2 a4 s1.1.length c3 s1.1, own cd2 a8 x6.length c6 x6]) ?_ ?_
          · rintro _ h8 ⟨a8, c6, rfl, H13⟩
            refine Run_seq ?_
            obtain ⟨x8, gx8, hB1⟩ := M.bind_some hB1
            refine Run_reg 22 (by kernel_rfl) (L' := [(0, .slice aa_ a_.length ca_), (1, .slice ab b.length cb), (7, .slice a1 x2.length c1), (8, .slice a4 s1.1.length c3), (9, .bool s1.2.1), (10, .int .i64 s1.2.2), (11, .slice a8 x6.length c6), (13, .bool x8)]) ?_ ?_
            · refine QRun_b [.bool s1.2.1, .bool (!s1.2.1)] 0 _ (by kernel_rfl) (fun w => by kernel_rfl) ?_
              refine QRun_seq 9 [(0, .slice aa_ a_.length ca_), (1, .slice ab b.length cb), (7, .slice a1 x2.length c1), (8, .slice a4 s1.1.length c3), (9, .bool s1.2.1), (10, .int .i64 s1.2.2), (11, .slice a8 x6.length c6), (63, .bool ((!s1.2.1) || (decide ((x6.length : Int) < (s1.1.length : Int)))))] ?_ ?_
              · rcases Bool.eq_false_or_eq_true (!s1.2.1) with hb6 | hb6
                · refine QRun_bool (!s1.2.1) true (by kernel_rfl) (fun w => by kernel_rfl) hb6 ?_
                  refine QRun_n (by kernel_rfl) ?_
                  refine QRun_n (by kernel_rfl) ?_
                  refine QRun_n (by kernel_rfl) ?_
                  refine QRun_n (by kernel_rfl) ?_
                  refine QRun_n (by kernel_rfl) ?_
                  refine QRun_bool true ((!s1.2.1) || (decide ((x6.length : Int) < (s1.1.length : Int)))) (by kernel_rfl) (fun w => by kernel_rfl) (by rw [hb6]; rfl) ?_
                  exact QRun_done [0, 1, 7, 8, 9, 10, 11, 63] (by kernel_rfl) (by kernel_rfl)
                · refine QRun_bool (!s1.2.1) false (by kernel_rfl) (fun w => by kernel_rfl) hb6 ?_
                  refine QRun_b [.slice a8 x6.length c6, .int .i64 (x6.length : Int), .slice a4 s1.1.length c3, .int .i64 (s1.1.length : Int), .bool (decide ((x6.length : Int) < (s1.1.length : Int)))] 3 _ (by kernel_rfl) (fun w => by kernel_rfl) ?_
                  refine QRun_bool (decide ((x6.length : Int) < (s1.1.length : Int))) ((!s1.2.1) || (decide ((x6.length : Int) < (s1.1.length : Int)))) (by kernel_rfl) (fun w => by kernel_rfl) (by rw [hb6]; rfl) ?_
                  exact QRun_done [0, 1, 7, 8, 9, 10, 11, 63] (by kernel_rfl) (by kernel_rfl)
              refine QRun_seq 21 [(0, .slice aa_ a_.length ca_), (1, .slice ab b.length cb), (7, .slice a1 x2.length c1), (8, .slice a4 s1.1.length c3), (9, .bool s1.2.1), (10, .int .i64 s1.2.2), (11, .slice a8 x6.length c6), (75, .bool x8)] ?_ ?_
              · rcases Bool.eq_false_or_eq_true ((!s1.2.1) || (decide ((x6.length : Int) < (s1.1.length : Int)))) with hb7 | hb7
                · refine QRun_bool ((!s1.2.1) || (decide ((x6.length : Int) < (s1.1.length : Int)))) true (by kernel_rfl) (fun w => by kernel_rfl) hb7 ?_
                  have gx8 := M.ret_some ((M.ite_some gx8).1 hb7)
                  refine QRun_n (by kernel_rfl) ?_
                  refine QRun_n (by kernel_rfl) ?_
                  refine QRun_n (by kernel_rfl) ?_
                  refine QRun_n (by kernel_rfl) ?_
                  refine QRun_n (by kernel_rfl) ?_
                  refine QRun_n (by kernel_rfl) ?_
                  refine QRun_n (by kernel_rfl) ?_
                  refine QRun_n (by kernel_rfl) ?_
                  refine QRun_n (by kernel_rfl) ?_
                  refine QRun_n (by kernel_rfl) ?_
                  refine QRun_bool true x8 (by kernel_rfl) (fun w => by kernel_rfl) gx8 ?_
                  exact QRun_done [0, 1, 7, 8, 9, 10, 11, 75] (by kernel_rfl) (by kernel_rfl)
                · refine QRun_bool ((!s1.2.1) || (decide ((x6.length : Int) < (s1.1.length : Int)))) false (by kernel_rfl) (fun w => by kernel_rfl) hb7 ?_
                  have gx8 := (M.ite_some gx8).2 hb7
                  obtain ⟨x9, gx9, gx8⟩ := M.bind_some gx8
                  have gx8 := M.ret_some gx8
                  refine QRun_b [.slice a8 x6.length c6, .int .i64 (x6.length : Int), .slice a4 s1.1.length c3, .int .i64 (s1.1.length : Int), .bool ((x6.length : Int) == (s1.1.length : Int))] 10 _ (by kernel_rfl) (fun w => by kernel_rfl) ?_
                  refine QRun_seq 20 [(0, .slice aa_ a_.length ca_), (1, .slice ab b.length cb), (7, .slice a1 x2.length c1), (8, .slice a4 s1.1.length c3), (9, .bool s1.2.1), (10, .int .i64 s1.2.2), (11, .slice a8 x6.length c6), (64, .bool false), (74, .bool x9)] ?_ ?_
                  · rcases Bool.eq_false_or_eq_true ((x6.length : Int) == (s1.1.length : Int)) with hb8 | hb8
                    · refine QRun_bool ((x6.length : Int) == (s1.1.length : Int)) true (by kernel_rfl) (fun w => by kernel_rfl) hb8 ?_
                      have gx9 := (M.ite_some gx9).1 hb8
                      obtain ⟨x10, hx5, gx9⟩ := M.bind_some gx9
                      have gx9 := M.ret_some gx9
                      refine QRun_b [.slice a8 x6.length c6, .slice a4 s1.1.length c3] 16 _ (by kernel_rfl) (fun w => by kernel_rfl) ?_
                      refine QRun_y (.bool x10) (by kernel_rfl) (Y_callq (f := 77) (args := #[.slice a8 x6.length c6, .slice a4 s1.1.length c3]) (v := .bool x10) (by kernel_rfl) (w_spec_l01Less h8 x6 a8 c6 (H13.rd 2 rfl) s1.1 a4 c3 (H13.rd 1 rfl) _ _ hx5)) ?_
                      refine QRun_bool x10 x9 (by kernel_rfl) (fun w => by kernel_rfl) gx9 ?_
                      exact QRun_done [0, 1, 7, 8, 9, 10, 11, 64, 74] (by kernel_rfl) (by kernel_rfl)
                    · refine QRun_bool ((x6.length : Int) == (s1.1.length : Int)) false (by kernel_rfl) (fun w => by kernel_rfl) hb8 ?_
                      have gx9 := M.ret_some ((M.ite_some gx9).2 hb8)
                      refine QRun_n (by kernel_rfl) ?_
                      refine QRun_n (by kernel_rfl) ?_
                      refine QRun_n (by kernel_rfl) ?_
                      refine QRun_bool false x9 (by kernel_rfl) (fun w => by kernel_rfl) gx9 ?_
                      exact QRun_done [0, 1, 7, 8, 9, 10, 11, 64, 74] (by kernel_rfl) (by kernel_rfl)
                  refine QRun_bool x9 x8 (by kernel_rfl) (fun w => by kernel_rfl) gx8 ?_
                  exact QRun_done [0, 1, 7, 8, 9, 10, 11, 75] (by kernel_rfl) (by kernel_rfl)
              refine QRun_b [.bool x8] 21 _ (by kernel_rfl) (fun w => by kernel_rfl) ?_
              exact QRun_done [0, 1, 7, 8, 9, 10, 11, 13] (by kernel_rfl) (by kernel_rfl)
            refine Run_seq ?_
            obtain ⟨x11, gx11, hB1⟩ := M.bind_some hB1
            refine Run_reg 8 (by kernel_rfl) (L' := [(0, .slice aa_ a_.length ca_), (1, .slice ab b.length cb), (7, .slice a1 x2.length c1), (8, .slice a4 s1.1.length c3), (9, .bool s1.2.1), (10, .int .i64 s1.2.2), (11, .slice a8 x6.length c6), (83, .bool x11)]) ?_ ?_
            · refine QRun_b [.bool x8] 0 _ (by kernel_rfl) (fun w => by kernel_rfl) ?_
              refine QRun_seq 8 [(0, .slice aa_ a_.length ca_), (1, .slice ab b.length cb), (7, .slice a1 x2.length c1), (8, .slice a4 s1.1.length c3), (9, .bool s1.2.1), (10, .int .i64 s1.2.2), (11, .slice a8 x6.length c6), (83, .bool x11)] ?_ ?_
              · rcases Bool.eq_false_or_eq_true x8 with hb9 | hb9
                · refine QRun_bool x8 true (by kernel_rfl) (fun w => by kernel_rfl) hb9 ?_
                  have gx11 := (M.ite_some gx11).1 hb9
                  obtain ⟨x12, hx6, gx11⟩ := M.bind_some gx11
                  have gx11 := M.ret_some gx11
                  refine QRun_b [.slice aa_ a_.length ca_, .slice ab b.length cb, .slice a1 x2.length c1, .slice a8 x6.length c6] 2 _ (by kernel_rfl) (fun w => by kernel_rfl) ?_
                  refine QRun_y (.bool x12) (by kernel_rfl) (Y_callq (f := 78) (args := #[.slice aa_ a_.length ca_, .slice ab b.length cb, .slice a1 x2.length c1, .slice a8 x6.length c6]) (v := .bool x12) (by kernel_rfl) (w_spec_l08Covers h8 a_ aa_ ca_ (ra_.at H13.ext) b ab cb (rb.at H13.ext) x2 a1 c1 (H13.rd 0 rfl) x6 a8 c6 (H13.rd 2 rfl) _ _ hx6)) ?_
                  refine QRun_bool x12 x11 (by kernel_rfl) (fun w => by kernel_rfl) gx11 ?_
                  exact QRun_done [0, 1, 7, 8, 9, 10, 11, 83] (by kernel_rfl) (by kernel_rfl)
                · refine QRun_bool x8 false (by kernel_rfl) (fun w => by kernel_rfl) hb9 ?_
                  have gx11 := M.ret_some ((M.ite_some gx11).2 hb9)
                  refine QRun_n (by kernel_rfl) ?_
                  refine QRun_n (by kernel_rfl) ?_
                  refine QRun_n (by kernel_rfl) ?_
                  refine QRun_n (by kernel_rfl) ?_
                  refine QRun_n (by kernel_rfl) ?_
                  refine QRun_bool false x11 (by kernel_rfl) (fun w => by kernel_rfl) gx11 ?_
                  exact QRun_done [0, 1, 7, 8, 9, 10, 11, 83] (by kernel_rfl) (by kernel_rfl)
              exact QRun_done [0, 1, 7, 8, 9, 10, 11, 83] (by kernel_rfl) (by kernel_rfl)
            obtain ⟨s4, gs4, hB1⟩ := M.bind_some hB1
            refine Run_join (fun L' h' => ∃ (a12 : Option Addr), ∃ (c9 : Nat), L' = [(0, .slice aa_ a_.length ca_), (1, .slice ab b.length cb), (7, .slice a1 x2.length c1), (8, .slice a12 s4.1.length c9), (9, .bool s4.2), (10, .int .i64 s1.2.2)] ∧ Hold h h' [own cd2 a1 x2.length c1 x2, own cd2 a12 s4.1.length c9 s4.1]) ?_ ?_
            · rintro _ h12 ⟨a12, c9, rfl, H27⟩
              refine Run_blk ?_
              refine Run_reg 3 (by kernel_rfl) (L' := [(0, .slice aa_ a_.length ca_), (1, .slice ab b.length cb), (7, .slice a1 x2.length c1), (8, .slice a12 s4.1.length c9), (9, .bool s4.2), (10, .int .i64 (w64 (s1.2.2 + 1)))]) ?_ ?_
              · refine QRun_b [.int .i64 s1.2.2, .int .i64 (w64 (s1.2.2 + 1)), .int .i64 (w64 (s1.2.2 + 1))] 0 _ (by kernel_rfl) (fun w => by kernel_rfl) ?_
                exact QRun_done [0, 1, 7, 8, 9, 10] (by kernel_rfl) (by kernel_rfl)
              have H32 : Hold h h12 [own cd2 a12 s4.1.length c9 s4.1, own cd2 a1 x2.length c1 x2] := H27.pick [1, 0] (by kernel_rfl)
              have H33 : Hold h h12 [own cd2 a1 x2.length c1 x2, own cd2 a12 s4.1.length c9 s4.1] := H32.pick [1, 0] (by kernel_rfl)
              have hB1 := M.ret_some hB1
              have gx5 := hgoy1 _ hB1.symm
              exact Run_again [0, 1, 7, 8, 9, 10] (by kernel_rfl) my1 (Nat.lt_succ_self _) ⟨(s4.1, s4.2, (w64 (s1.2.2 + 1))), a12, c9, gx5, rfl, H33⟩
            · refine Run_cond (b := x11) (by kernel_rfl) (fun hb10 => ?_) (fun hb10 => ?_)
              · have gs4 := (M.ite_some gs4).1 hb10
                refine Run_seq ?_
                refine Run_reg 2 (by kernel_rfl) (L' := [(0, .slice aa_ a_.length ca_), (1, .slice ab b.length cb), (7, .slice a1 x2.length c1), (8, .slice a8 x6.length c6), (10, .int .i64 s1.2.2)]) ?_ ?_
                · refine QRun_b [.slice a8 x6.length c6, .slice a8 x6.length c6] 0 _ (by kernel_rfl) (fun w => by kernel_rfl) ?_
                  exact QRun_done [0, 1, 7, 8, 10] (by kernel_rfl) (by kernel_rfl)
                refine Run_reg 1 (by kernel_rfl) (L' := [(0, .slice aa_ a_.length ca_), (1, .slice ab b.length cb), (7, .slice a1 x2.length c1), (8, .slice a8 x6.length c6), (9, .bool true), (10, .int .i64 s1.2.2)]) ?_ ?_
                · refine QRun_b [.bool true] 0 _ (by kernel_rfl) (fun w => by kernel_rfl) ?_
                  exact QRun_done [0, 1, 7, 8, 9, 10] (by kernel_rfl) (by kernel_rfl)
                have H28 : Hold h h8 [own cd2 a8 x6.length c6 x6, own cd2 a1 x2.length c1 x2, own cd2 a4 s1.1.length c3 s1.1] := H13.pick [2, 0, 1] (by kernel_rfl)
                have H29 : Hold h h8 [own cd2 a1 x2.length c1 x2, own cd2 a8 x6.length c6 x6] := H28.pick [1, 0] (by kernel_rfl)
                have gs4 := M.ret_some gs4
                subst gs4
                exact Run_fall [0, 1, 7, 8, 9, 10] (by kernel_rfl) ⟨a8, c6, rfl, H29⟩
              · have gs4 := (M.ite_some gs4).2 hb10
                refine Run_skip ?_
                have H30 : Hold h h8 [own cd2 a4 s1.1.length c3 s1.1, own cd2 a1 x2.length c1 x2, own cd2 a8 x6.length c6 x6] := H13.pick [1, 0, 2] (by kernel_rfl)
                have H31 : Hold h h8 [own cd2 a1 x2.length c1 x2, own cd2 a4 s1.1.length c3 s1.1] := H30.pick [1, 0] (by kernel_rfl)
                have gs4 := M.ret_some gs4
                subst gs4
                exact Run_fall [0, 1, 7, 8, 9, 10] (by kernel_rfl) ⟨a4, c3, rfl, H31⟩
          · refine Run_block ?_
            have hn1 := (H11.len 0 rfl)
            have H34 : Hold h h6 [own cd2 a6 (([] : List Int).length) 0 ([] : List Int), own cd2 a1 x2.length c1 x2, own cd2 a4 s1.1.length c3 s1.1] := by rw [hn1]; exact H11
            have H35 : Hold h h6 [own cd2 a1 x2.length c1 x2, own cd2 a4 s1.1.length c3 s1.1, own cd2 a6 (([] : List Int).length) 0 ([] : List Int)] := H34.pick [1, 2, 0] (by kernel_rfl)
            refine Run_keep [0, 1, 7, 8, 9, 10, 11, 12] (L' := [(0, .slice aa_ a_.length ca_), (1, .slice ab b.length cb), (7, .slice a1 x2.length c1), (8, .slice a4 s1.1.length c3), (9, .bool s1.2.1), (10, .int .i64 s1.2.2), (11, .slice a6 (([] : List Int).length) 0), (12, .int .i64 0)]) (by rw [hn1]; kernel_rfl) ?_
            refine Run_loop (fun m L' h' => ∃ (i1 : Int) (s2 : (List Int)) (a7 : Option Addr) (c5 : Nat), 0 ≤ i1 ∧ M.forN (x2.length : Int) _ _ n m i1 s2 = some x6 ∧ L' = [(0, .slice aa_ a_.length ca_), (1, .slice ab b.length cb), (7, .slice a1 x2.length c1), (8, .slice a4 s1.1.length c3), (9, .bool s1.2.1), (10, .int .i64 s1.2.2), (11, .slice a7 s2.length c5), (12, .int .i64 i1)] ∧ Hold h h' [own cd2 a1 x2.length c1 x2, own cd2 a4 s1.1.length c3 s1.1, own cd2 a7 s2.length c5 s2]) ((x2.length : Int) - 0).toNat ⟨0, ([] : List Int), a6, 0, Int.le_refl _, gx6, rfl, H35⟩ ?_
            rintro my2 _ h7 ⟨i1, s2, a7, c5, hloy2', gx6, rfl, H12⟩
            refine Run_seq ?_
            refine Run_seq ?_
            refine Run_reg 4 (by kernel_rfl) (L' := [(0, .slice aa_ a_.length ca_), (1, .slice ab b.length cb), (7, .slice a1 x2.length c1), (8, .slice a4 s1.1.length c3), (9, .bool s1.2.1), (10, .int .i64 s1.2.2), (11, .slice a7 s2.length c5), (12, .int .i64 i1), (42, .bool (decide (i1 < (x2.length : Int))))]) ?_ ?_
            · refine QRun_b [.int .i64 i1, .slice a1 x2.length c1, .int .i64 (x2.length : Int), .bool (decide (i1 < (x2.length : Int)))] 0 _ (by kernel_rfl) (fun w => by kernel_rfl) ?_
              exact QRun_done [0, 1, 7, 8, 9, 10, 11, 12, 42] (by kernel_rfl) (by kernel_rfl)
            refine Run_cond (b := decide (i1 < (x2.length : Int))) (by kernel_rfl) (fun hb4 => ?_) (fun hb4 => ?_)
            · obtain ⟨my2, y2, rfl, hB2, hgoy2, houty2⟩ := M.for_go gx6 hb4
              have hlty2 := of_decide_eq_true hb4
              refine Run_skip ?_
              refine Run_seq ?_
              refine Run_block ?_
              refine Run_seq ?_
              obtain ⟨u2, hz2, hB2⟩ := M.bind_some hB2
              have hz2 := M.guard_some hz2
              refine Run_reg 6 (by kernel_rfl) (L' := [(0, .slice aa_ a_.length ca_), (1, .slice ab b.length cb), (7, .slice a1 x2.length c1), (8, .slice a4 s1.1.length c3), (9, .bool s1.2.1), (10, .int .i64 s1.2.2), (11, .slice a7 s2.length c5), (12, .int .i64 i1), (50, .bool ((ibit .and .i64 (ishr .i64 s1.2.2 (IntKind.u64.wrap (i1))) 1) == 1))]) ?_ ?_
              · refine QRun_b [.int .i64 s1.2.2, .int .i64 i1, .int .u64 (IntKind.u64.wrap (i1))] 0 _ (by kernel_rfl) (fun w => by kernel_rfl) ?_
                refine QRun_y (.int .i64 (ishr .i64 s1.2.2 (IntKind.u64.wrap (i1)))) (by kernel_rfl) (Y_shr (k := .i64) (x := s1.2.2) (kk := .u64) (y := IntKind.u64.wrap (i1)) (by kernel_rfl) hz2) ?_
                refine QRun_b [.int .i64 (ibit .and .i64 (ishr .i64 s1.2.2 (IntKind.u64.wrap (i1))) 1), .bool ((ibit .and .i64 (ishr .i64 s1.2.2 (IntKind.u64.wrap (i1))) 1) == 1)] 4 _ (by kernel_rfl) (fun w => by kernel_rfl) ?_
                exact QRun_done [0, 1, 7, 8, 9, 10, 11, 12, 50] (by kernel_rfl) (by kernel_rfl)
              obtain ⟨s3, gs3, hB2⟩ := M.bind_some hB2
              refine Run_join (fun L' h' => ∃ (a11 : Option Addr), ∃ (c8 : Nat), L' = [(0, .slice aa_ a_.length ca_), (1, .slice ab b.length cb), (7, .slice a1 x2.length c1), (8, .slice a4 s1.1.length c3), (9, .bool s1.2.1), (10, .int .i64 s1.2.2), (11, .slice a11 s3.length c8), (12, .int .i64 i1)] ∧ Hold h h' [own cd2 a1 x2.length c1 x2, own cd2 a4 s1.1.length c3 s1.1, own cd2 a11 s3.length c8 s3]) ?_ ?_
              · rintro _ h11 ⟨a11, c8, rfl, H19⟩
                refine Run_blk ?_
                refine Run_reg 3 (by kernel_rfl) (L' := [(0, .slice aa_ a_.length ca_), (1, .slice ab b.length cb), (7, .slice a1 x2.length c1), (8, .slice a4 s1.1.length c3), (9, .bool s1.2.1), (10, .int .i64 s1.2.2), (11, .slice a11 s3.length c8), (12, .int .i64 (i1 + 1))]) ?_ ?_
                · refine QRun_b [.int .i64 i1] 0 _ (by kernel_rfl) (fun w => by kernel_rfl) ?_
                  refine QRun_y (.int .i64 (i1 + 1)) (by kernel_rfl) (Y_eq (v := .int .i64 (w64 (i1 + 1))) (Y_pure (fun w => by kernel_rfl)) (by rw [w64_eq _ (by omega)])) ?_
                  refine QRun_b [.int .i64 (i1 + 1)] 2 _ (by kernel_rfl) (fun w => by kernel_rfl) ?_
                  exact QRun_done [0, 1, 7, 8, 9, 10, 11, 12] (by kernel_rfl) (by kernel_rfl)
                have H23 : Hold h h11 [own cd2 a11 s3.length c8 s3, own cd2 a1 x2.length c1 x2, own cd2 a4 s1.1.length c3 s1.1] := H19.pick [2, 0, 1] (by kernel_rfl)
                have H24 : Hold h h11 [own cd2 a1 x2.length c1 x2, own cd2 a4 s1.1.length c3 s1.1, own cd2 a11 s3.length c8 s3] := H23.pick [1, 2, 0] (by kernel_rfl)
                have hB2 := M.ret_some hB2
                have gx6 := hgoy2 _ hB2.symm
                exact Run_again [0, 1, 7, 8, 9, 10, 11, 12] (by kernel_rfl) my2 (Nat.lt_succ_self _) ⟨i1 + 1, s3, a11, c8, by omega, gx6, rfl, H24⟩
              · refine Run_cond (b := (ibit .and .i64 (ishr .i64 s1.2.2 (IntKind.u64.wrap (i1))) 1) == 1) (by kernel_rfl) (fun hb5 => ?_) (fun hb5 => ?_)
                · have gs3 := (M.ite_some gs3).1 hb5
                  refine Run_ops ?_
                  refine Run_b [.slice a7 s2.length c5, .int .i64 i1] 0 _ (by kernel_rfl) (fun w => by kernel_rfl) ?_
                  refine Run_E (by kernel_rfl) ?_
                  refine E_lit (C := cd2) (n := 1) (l := ([i1] : List Int)) (cs := [.int .i64 i1]) H12 (fun w => by kernel_rfl) (Enc.consE (cd2_own i1 _) (Enc.nil _ _) rfl) rfl (by decide) (fun a9 h9 H14 => ?_)
                  obtain ⟨l1, hl1, gs3⟩ := M.bind_some gs3
                  have hl1 := M.app_some hl1
                  have H15 : Hold h h9 [own cd2 a7 s2.length c5 s2, own cd2 a9 1 1 ([i1] : List Int), own cd2 a1 x2.length c1 x2, own cd2 a4 s1.1.length c3 s1.1] := H14.pick [3, 0, 1, 2] (by kernel_rfl)
                  have H16 : Hold h h9 [own cd2 a9 1 1 ([i1] : List Int), own cd2 a7 s2.length c5 s2, own cd2 a1 x2.length c1 x2, own cd2 a4 s1.1.length c3 s1.1] := H15.pick [1, 0, 2, 3] (by kernel_rfl)
                  have H17 : Hold h h9 [own cd2 a7 s2.length c5 s2, own cd2 a9 1 1 ([i1] : List Int), own cd2 a1 x2.length c1 x2, own cd2 a4 s1.1.length c3 s1.1] := H16.pick [1, 0, 2, 3] (by kernel_rfl)
                  refine Run_E (by kernel_rfl) ?_
                  refine E_app (C := cd2) (t := 23) (ty := 23) (n := s2.length) (m := 1) H17 cd2_ti rfl Try.underlying23 (by decide) (by kernel_rfl) hl1 (fun a10 c7 h10 H18 => ?_)
                  refine Run_b [.slice a10 l1.length c7] 4 _ (by kernel_rfl) (fun w => by kernel_rfl) ?_
                  refine Run_nil (by kernel_rfl) ?_
                  refine Run_keep [0, 1, 7, 8, 9, 10, 11, 12] (L' := [(0, .slice aa_ a_.length ca_), (1, .slice ab b.length cb), (7, .slice a1 x2.length c1), (8, .slice a4 s1.1.length c3), (9, .bool s1.2.1), (10, .int .i64 s1.2.2), (11, .slice a10 l1.length c7), (12, .int .i64 i1)]) (by kernel_rfl) ?_
                  have H20 : Hold h h10 [own cd2 a1 x2.length c1 x2, own cd2 a4 s1.1.length c3 s1.1, own cd2 a10 l1.length c7 l1] := H18.pick [1, 2, 0] (by kernel_rfl)
                  have gs3 := M.ret_some gs3
                  subst gs3
                  exact Run_fall [0, 1, 7, 8, 9, 10, 11, 12] (by kernel_rfl) ⟨a10, c7, rfl, H20⟩
                · have gs3 := (M.ite_some gs3).2 hb5
                  refine Run_skip ?_
                  have H21 : Hold h h7 [own cd2 a7 s2.length c5 s2, own cd2 a1 x2.length c1 x2, own cd2 a4 s1.1.length c3 s1.1] := H12.pick [2, 0, 1] (by kernel_rfl)
                  have H22 : Hold h h7 [own cd2 a1 x2.length c1 x2, own cd2 a4 s1.1.length c3 s1.1, own cd2 a7 s2.length c5 s2] := H21.pick [1, 2, 0] (by kernel_rfl)
                  have gs3 := M.ret_some gs3
                  subst gs3
                  exact Run_fall [0, 1, 7, 8, 9, 10, 11, 12] (by kernel_rfl) ⟨a7, c5, rfl, H22⟩
            · have gx6 := M.for_end gx6 hb4
              subst gx6
              refine Run_exit (k' := _) rfl ?_
              have H25 : Hold h h7 [own cd2 a7 s2.length c5 s2, own cd2 a1 x2.length c1 x2, own cd2 a4 s1.1.length c3 s1.1] := H12.pick [2, 0, 1] (by kernel_rfl)
              have H26 : Hold h h7 [own cd2 a1 x2.length c1 x2, own cd2 a4 s1.1.length c3 s1.1, own cd2 a7 s2.length c5 s2] := H25.pick [1, 2, 0] (by kernel_rfl)
              exact Run_fall [0, 1, 7, 8, 9, 10, 11] (by kernel_rfl) ⟨a7, c5, rfl, H26⟩
        · have hB1 := (M.ite_some hB1).2 hb3
          refine Run_exit (k' := _) rfl ?_
          have H36 : Hold h h4 [own cd2 a4 s1.1.length c3 s1.1, own cd2 a1 x2.length c1 x2] := H9.pick [1, 0] (by kernel_rfl)
          have H37 : Hold h h4 [own cd2 a4 s1.1.length c3 s1.1] := H36.pick [0] (by kernel_rfl)
          have hB1 := M.ret_some hB1
          have gx5 := houty1 _ hB1.symm
          subst gx5
          exact Run_fall [8] (by kernel_rfl) ⟨a4, c3, rfl, H37⟩

set_option maxRecDepth 100000 in
set_option maxHeartbeats 4000000 in
theorem w_laws_likeInts (h : Heap) (a_ : List Int) {Sa_ : Bs} (aa_ : Option Addr) (ca_ : Nat) (ra_ : Rd cd2 h Sa_ aa_ ca_ a_) (b : List Int) {Sb : Bs} (ab : Option Addr) (cb : Nat) (rb : Rd cd2 h Sb ab cb b) (n : Nat) (r : Bool) (hF : laws_likeInts a_ b n = some r) :
    Fn Try.prog 47 #[.slice aa_ a_.length ca_, .slice ab b.length cb] h fun v h' => v = .bool r ∧ h' = h := by
  unfold laws_likeInts at hF
  refine Fn_enter (args := [.slice aa_ a_.length ca_, .slice ab b.length cb]) Try.func47 rfl (by kernel_rfl) (by kernel_rfl) (fun w0 _ => ?_)
  refine Run_seq ?_
  refine Run_reg 1 (by kernel_rfl) (L' := [(0, .slice aa_ a_.length ca_), (1, .slice ab b.length cb)]) ?_ ?_
  · refine QRun_b [.bool false] 0 _ (by kernel_rfl) (fun w => by kernel_rfl) ?_
    exact QRun_done [0, 1] (by kernel_rfl) (by kernel_rfl)
  refine Run_seq ?_
  refine Run_seq ?_
  refine Run_reg 5 (by kernel_rfl) (L' := [(0, .slice aa_ a_.length ca_), (1, .slice ab b.length cb), (10, .bool ((a_.length : Int) != (b.length : Int)))]) ?_ ?_
  · refine QRun_b [.slice aa_ a_.length ca_, .int .i64 (a_.length : Int), .slice ab b.length cb, .int .i64 (b.length : Int), .bool ((a_.length : Int) != (b.length : Int))] 0 _ (by kernel_rfl) (fun w => by kernel_rfl) ?_
    exact QRun_done [0, 1, 10] (by kernel_rfl) (by kernel_rfl)
  refine Run_cond (b := (a_.length : Int) != (b.length : Int)) (by kernel_rfl) (fun hb1 => ?_) (fun hb1 => ?_)
  · have hF := (M.ite_some hF).1 hb1
    refine Run_seq ?_
    refine Run_reg 1 (by kernel_rfl) (L' := [(4, .bool false)]) ?_ ?_
    · refine QRun_b [.bool false] 0 _ (by kernel_rfl) (fun w => by kernel_rfl) ?_
      exact QRun_done [4] (by kernel_rfl) (by kernel_rfl)
    have hF := M.ret_some hF
    subst hF
    exact Run_ret1 rfl (ResV_tmp (v := .bool false) (by kernel_rfl)) ⟨rfl, rfl⟩
  · have hF := (M.ite_some hF).2 hb1
    refine Run_skip ?_
    refine Run_seq ?_
    refine Run_seq ?_
    refine Run_reg 1 (by kernel_rfl) (L' := [(0, .slice aa_ a_.length ca_), (1, .slice ab b.length cb), (5, .int .i64 0)]) ?_ ?_
    · refine QRun_b [.int .i64 0] 0 _ (by kernel_rfl) (fun w => by kernel_rfl) ?_
      exact QRun_done [0, 1, 5] (by kernel_rfl) (by kernel_rfl)
    obtain ⟨x1, gx1, hF⟩ := M.bind_some hF
    obtain ⟨hloy1, hhiy1, gx1⟩ := M.for_start gx1
    refine Run_join (fun L' h' => ∃ (s2 : Unit), x1 = .inl s2 ∧ L' = [] ∧ h = h') ?_ ?_
    · rintro _ _ ⟨s2, es2, rfl, rfl⟩
      have hF := M.cont_inl' hF es2
      refine Run_seq ?_
      refine Run_reg 1 (by kernel_rfl) (L' := [(4, .bool true)]) ?_ ?_
      · refine QRun_b [.bool true] 0 _ (by kernel_rfl) (fun w => by kernel_rfl) ?_
        exact QRun_done [4] (by kernel_rfl) (by kernel_rfl)
      have hF := M.ret_some hF
      subst hF
      exact Run_ret1 rfl (ResV_tmp (v := .bool true) (by kernel_rfl)) ⟨rfl, rfl⟩
    · refine Run_block ?_
      refine Run_keep [0, 1, 5] (L' := [(0, .slice aa_ a_.length ca_), (1, .slice ab b.length cb), (5, .int .i64 0)]) (by kernel_rfl) ?_
      refine Run_loop (fun m L' h' => ∃ (i1 : Int) (s1 : Unit), 0 ≤ i1 ∧ M.forN (a_.length : Int) _ _ n m i1 s1 = some x1 ∧ L' = [(0, .slice aa_ a_.length ca_), (1, .slice ab b.length cb), (5, .int .i64 i1)] ∧ h = h') ((a_.length : Int) - 0).toNat ⟨0, (), Int.le_refl _, gx1, rfl, rfl⟩ ?_
      rintro my1 _ _ ⟨i1, s1, hloy1', gx1, rfl, rfl⟩
      refine Run_seq ?_
      refine Run_seq ?_
      refine Run_reg 4 (by kernel_rfl) (L' := [(0, .slice aa_ a_.length ca_), (1, .slice ab b.length cb), (5, .int .i64 i1), (14, .bool (decide (i1 < (a_.length : Int))))]) ?_ ?_
      · refine QRun_b [.int .i64 i1, .slice aa_ a_.length ca_, .int .i64 (a_.length : Int), .bool (decide (i1 < (a_.length : Int)))] 0 _ (by kernel_rfl) (fun w => by kernel_rfl) ?_
        exact QRun_done [0, 1, 5, 14] (by kernel_rfl) (by kernel_rfl)
      refine Run_cond (b := decide (i1 < (a_.length : Int))) (by kernel_rfl) (fun hb2 => ?_) (fun hb2 => ?_)
      · obtain ⟨my1, y1, rfl, hB1, hgoy1, houty1⟩ := M.for_go gx1 hb2
        have hlty1 := of_decide_eq_true hb2
        refine Run_skip ?_
        refine Run_seq ?_
        refine Run_block ?_
        refine Run_seq ?_
        obtain ⟨x2, hx1, hB1⟩ := M.bind_some hB1
        obtain ⟨hx1l, hx1u, hx1⟩ := M.idx_some hx1
        obtain ⟨x3, hx2, hB1⟩ := M.bind_some hB1
        obtain ⟨hx2l, hx2u, hx2⟩ := M.idx_some hx2
        refine Run_draw 9 mixed (by kernel_rfl) (by kernel_rfl) (L' := [(0, .slice aa_ a_.length ca_), (1, .slice ab b.length cb), (5, .int .i64 i1), (25, .bool (x2 != x3))]) ?_ ?_
        · refine QRun_b [.slice aa_ a_.length ca_, .int .i64 i1] 0 _ (by kernel_rfl) (fun w => by kernel_rfl) ?_
          refine QRun_y (.pointer (some (adr aa_ (i1.toNat * 1)))) (by kernel_rfl) (Y_idx (t := 23) (e := 2) (sz := 1) (a := aa_) (n := a_.length) (cap := ca_) (kk := .i64) (i := i1) (by kernel_rfl) Try.underlying23 (by kernel_rfl) (ra_.cell hx1).1 hx1l hx1u) ?_
          refine QRun_y (.int .i64 x2) (by kernel_rfl) (Y_load1 (t := 2) (p := adr aa_ (i1.toNat * 1)) (v := .int .i64 x2) (by kernel_rfl) (fun w => by kernel_rfl) (cd2_cell ra_ hx1)) ?_
          refine QRun_b [.slice ab b.length cb, .int .i64 i1] 4 _ (by kernel_rfl) (fun w => by kernel_rfl) ?_
          refine QRun_y (.pointer (some (adr ab (i1.toNat * 1)))) (by kernel_rfl) (Y_idx (t := 23) (e := 2) (sz := 1) (a := ab) (n := b.length) (cap := cb) (kk := .i64) (i := i1) (by kernel_rfl) Try.underlying23 (by kernel_rfl) (rb.cell hx2).1 hx2l hx2u) ?_
          refine QRun_y (.int .i64 x3) (by kernel_rfl) (Y_load1 (t := 2) (p := adr ab (i1.toNat * 1)) (v := .int .i64 x3) (by kernel_rfl) (fun w => by kernel_rfl) (cd2_cell rb hx2)) ?_
          refine QRun_b [.bool (x2 != x3)] 8 _ (by kernel_rfl) (fun w => by kernel_rfl) ?_
          exact QRun_done [0, 1, 5, 25] (by kernel_rfl) (by kernel_rfl)
        refine Run_cond (b := x2 != x3) (by kernel_rfl) (fun hb3 => ?_) (fun hb3 => ?_)
        · have hB1 := (M.ite_some hB1).1 hb3
          refine Run_seq ?_
          refine Run_reg 1 (by kernel_rfl) (L' := [(4, .bool false)]) ?_ ?_
          · refine QRun_b [.bool false] 0 _ (by kernel_rfl) (fun w => by kernel_rfl) ?_
            exact QRun_done [4] (by kernel_rfl) (by kernel_rfl)
          have hB1 := M.ret_some hB1
          have gx1 := houty1 _ hB1.symm
          have hF := M.cont_inr' hF gx1
          have hF := M.ret_some hF
          subst hF
          exact Run_ret1 rfl (ResV_tmp (v := .bool false) (by kernel_rfl)) ⟨rfl, rfl⟩
        · have hB1 := (M.ite_some hB1).2 hb3
          refine Run_skip ?_
          refine Run_blk ?_
          refine Run_reg 3 (by kernel_rfl) (L' := [(0, .slice aa_ a_.length ca_), (1, .slice ab b.length cb), (5, .int .i64 (i1 + 1))]) ?_ ?_
          · refine QRun_b [.int .i64 i1] 0 _ (by kernel_rfl) (fun w => by kernel_rfl) ?_
            refine QRun_y (.int .i64 (i1 + 1)) (by kernel_rfl) (Y_eq (v := .int .i64 (w64 (i1 + 1))) (Y_pure (fun w => by kernel_rfl)) (by rw [w64_eq _ (by omega)])) ?_
            refine QRun_b [.int .i64 (i1 + 1)] 2 _ (by kernel_rfl) (fun w => by kernel_rfl) ?_
            exact QRun_done [0, 1, 5] (by kernel_rfl) (by kernel_rfl)
          have hB1 := M.ret_some hB1
          have gx1 := hgoy1 _ hB1.symm
          exact Run_again [0, 1, 5] (by kernel_rfl) my1 (Nat.lt_succ_self _) ⟨i1 + 1, (), by omega, gx1, rfl, rfl⟩
      · have gx1 := M.for_end gx1 hb2
        subst gx1
        refine Run_exit (k' := _) rfl ?_
        exact Run_fall [] (by kernel_rfl) ⟨(), rfl, rfl, rfl⟩

set_option maxRecDepth 100000 in
set_option maxHeartbeats 4000000 in
theorem w_impl_TimesVector (h : Heap) (a_ : List (List Int)) (aa_ : Option Addr) (ca_ : Nat) (ra_ : Rd cd23 h (Lt h) aa_ ca_ a_) (x_ : List Int) (ax_ : Option Addr) (cx_ : Nat) (rx_ : Rd cd2 h (Lt h) ax_ cx_ x_) (n : Nat) (r : (List Int) × Int) (hF : impl_TimesVector a_ x_ n = some r) :
    Fn Try.prog 50 #[.slice aa_ a_.length ca_, .slice ax_ x_.length cx_] h fun v h' => ∃ (a0 : Option Addr) (c0 : Nat), v = .tuple #[.slice a0 r.1.length c0, .int .i64 r.2] ∧ Hold h h' [own cd2 a0 r.1.length c0 r.1] := by
  unfold impl_TimesVector at hF
  refine Fn_enter (args := [.slice aa_ a_.length ca_, .slice ax_ x_.length cx_]) Try.func50 rfl (by kernel_rfl) (by kernel_rfl) (fun w0 _ => ?_)
  have H0 := Hold.init h
  refine Run_seq ?_
  refine Run_reg 2 (by kernel_rfl) (L' := [(0, .slice aa_ a_.length ca_), (1, .slice ax_ x_.length cx_)]) ?_ ?_
  · refine QRun_b [.slice none 0 0, .int .i64 0] 0 _ (by kernel_rfl) (fun w => by kernel_rfl) ?_
    exact QRun_done [0, 1] (by kernel_rfl) (by kernel_rfl)
  refine Run_seq ?_
  refine Run_seq ?_
  obtain ⟨x1, hx1, hF⟩ := M.bind_some hF
  obtain ⟨x2, gx2, hF⟩ := M.bind_some hF
  refine Run_regC (j := 8) (C := fun x => Hold h x []) (by kernel_rfl) H0 (L' := [(0, .slice aa_ a_.length ca_), (1, .slice ax_ x_.length cx_), (13, .bool x2)]) ?_ (fun h1 H1 => ?_)
  · refine QRun_b [.slice aa_ a_.length ca_] 0 _ (by kernel_rfl) (fun w => by kernel_rfl) ?_
    refine QRun_y (.bool x1) (by kernel_rfl) (Y_call (f := 75) (args := #[.slice aa_ a_.length ca_]) (v := .bool x1) (by kernel_rfl) fun hx Hx => (w_impl_IsMatrix hx a_ aa_ ca_ (ra_.at Hx.ext) _ _ hx1).mono fun _ _ ⟨e, H'⟩ => ⟨e, Hx.call H' rfl⟩) ?_
    refine QRun_b [.bool (!x1)] 2 _ (by kernel_rfl) (fun w => by kernel_rfl) ?_
    refine QRun_seq 8 [(0, .slice aa_ a_.length ca_), (1, .slice ax_ x_.length cx_), (13, .bool x2)] ?_ ?_
    · rcases Bool.eq_false_or_eq_true (!x1) with hb1 | hb1
      · refine QRun_bool (!x1) true (by kernel_rfl) (fun w => by kernel_rfl) hb1 ?_
        have gx2 := M.ret_some ((M.ite_some gx2).1 hb1)
        refine QRun_n (by kernel_rfl) ?_
        refine QRun_n (by kernel_rfl) ?_
        refine QRun_n (by kernel_rfl) ?_
        refine QRun_bool true x2 (by kernel_rfl) (fun w => by kernel_rfl) gx2 ?_
        exact QRun_done [0, 1, 13] (by kernel_rfl) (by kernel_rfl)
      · refine QRun_bool (!x1) false (by kernel_rfl) (fun w => by kernel_rfl) hb1 ?_
        have gx2 := (M.ite_some gx2).2 hb1
        obtain ⟨x3, hx2, gx2⟩ := M.bind_some gx2
        have gx2 := M.ret_some gx2
        refine QRun_b [.slice ax_ x_.length cx_] 4 _ (by kernel_rfl) (fun w => by kernel_rfl) ?_
        refine QRun_y (.bool x3) (by kernel_rfl) (Y_cls fun hx Hx => (Y_callq (f := 86) (args := #[.slice ax_ x_.length cx_]) (v := .bool x3) (by kernel_rfl) (w_impl_isVector hx x_ ax_ cx_ (rx_.at Hx.ext) _ _ hx2))) ?_
        refine QRun_b [.bool (!x3)] 6 _ (by kernel_rfl) (fun w => by kernel_rfl) ?_
        refine QRun_bool (!x3) x2 (by kernel_rfl) (fun w => by kernel_rfl) gx2 ?_
        exact QRun_done [0, 1, 13] (by kernel_rfl) (by kernel_rfl)
    exact QRun_done [0, 1, 13] (by kernel_rfl) (by kernel_rfl)
  have H2 : Hold h h1 [] := H1
  refine Run_cond (b := x2) (by kernel_rfl) (fun hb2 => ?_) (fun hb2 => ?_)
  · have hF := (M.ite_some hF).1 hb2
    refine Run_seq ?_
    refine Run_reg 2 (by kernel_rfl) (L' := [(4, .slice none 0 0), (5, .int .i64 1)]) ?_ ?_
    · refine QRun_b [.slice none 0 0, .int .i64 1] 0 _ (by kernel_rfl) (fun w => by kernel_rfl) ?_
      exact QRun_done [4, 5] (by kernel_rfl) (by kernel_rfl)
    have hF := M.ret_some hF
    subst hF
    have H3 := H2.empty cd2
    exact Run_ret2 rfl (ResV_tmp (v := .slice none 0 0) (by kernel_rfl)) (ResV_tmp (v := .int .i64 1) (by kernel_rfl)) ⟨none, 0, rfl, H3⟩
  · have hF := (M.ite_some hF).2 hb2
    refine Run_skip ?_
    refine Run_seq ?_
    refine Run_seq ?_
    obtain ⟨x4, hx3, hF⟩ := M.bind_some hF
    obtain ⟨hx3l, hx3u, hx3⟩ := M.idx_some hx3
    obtain ⟨a1, c1, hc1, r1⟩ := ra_.row hx3
    refine Run_reg 7 (by kernel_rfl) (L' := [(0, .slice aa_ a_.length ca_), (1, .slice ax_ x_.length cx_), (20, .bool ((x4.length : Int) != (x_.length : Int)))]) ?_ ?_
    · refine QRun_b [.slice aa_ a_.length ca_] 0 _ (by kernel_rfl) (fun w => by kernel_rfl) ?_
      refine QRun_y (.pointer (some (adr aa_ (0 * 1)))) (by kernel_rfl) (Y_idx (t := 22) (e := 23) (sz := 1) (a := aa_) (n := a_.length) (cap := ca_) (kk := .i64) (i := 0) (by kernel_rfl) Try.underlying22 (by kernel_rfl) ((ra_.at H2.ext).cell hx3).1 hx3l hx3u) ?_
      refine QRun_y (.slice a1 x4.length c1) (by kernel_rfl) (Y_load1 (t := 23) (p := adr aa_ (0 * 1)) (v := .slice a1 x4.length c1) (by kernel_rfl) (fun w => by kernel_rfl) (cell_at H2.ext hc1)) ?_
      refine QRun_b [.int .i64 (x4.length : Int), .slice ax_ x_.length cx_, .int .i64 (x_.length : Int), .bool ((x4.length : Int) != (x_.length : Int))] 3 _ (by kernel_rfl) (fun w => by kernel_rfl) ?_
      exact QRun_done [0, 1, 20] (by kernel_rfl) (by kernel_rfl)
    refine Run_cond (b := (x4.length : Int) != (x_.length : Int)) (by kernel_rfl) (fun hb3 => ?_) (fun hb3 => ?_)
    · have hF := (M.ite_some hF).1 hb3
      refine Run_seq ?_
      refine Run_reg 2 (by kernel_rfl) (L' := [(4, .slice none 0 0), (5, .int .i64 5)]) ?_ ?_
      · refine QRun_b [.slice none 0 0, .int .i64 5] 0 _ (by kernel_rfl) (fun w => by kernel_rfl) ?_
        exact QRun_done [4, 5] (by kernel_rfl) (by kernel_rfl)
      have hF := M.ret_some hF
      subst hF
      have H4 := H2.empty cd2
      exact Run_ret2 rfl (ResV_tmp (v := .slice none 0 0) (by kernel_rfl)) (ResV_tmp (v := .int .i64 5) (by kernel_rfl)) ⟨none, 0, rfl, H4⟩
    · have hF := (M.ite_some hF).2 hb3
      refine Run_skip ?_
      refine Run_seq ?_
      refine Run_ops ?_
      refine Run_b [.slice aa_ a_.length ca_, .slice ax_ x_.length cx_] 0 _ (by kernel_rfl) (fun w => by kernel_rfl) ?_
      obtain ⟨x5, hx4, hF⟩ := M.bind_some hF
      refine Run_E (by kernel_rfl) ?_
      refine E_call (f := 65) (args := #[.slice aa_ a_.length ca_, .slice ax_ x_.length cx_]) (w_impl_timesVector h1 a_ aa_ ca_ (ra_.at H2.ext) x_ ax_ cx_ (rx_.at H2.ext) _ _ hx4) (by kernel_rfl) (fun v1 h2 hp1 => ?_)
      obtain ⟨a2, c2, rfl, H5⟩ := hp1
      have H6 : Hold h h2 [own cd2 a2 x5.length c2 x5] := H2.call H5 rfl
      obtain ⟨x6, hx5, hF⟩ := M.bind_some hF
      refine Run_E (by kernel_rfl) ?_
      refine E_call (f := 62) (args := #[.slice a2 x5.length c2]) (w_impl_checkedVector h2 x5 a2 c2 (H6.rd 0 rfl) _ _ hx5) (by kernel_rfl) (fun v2 h3 hp2 => ?_)
      obtain ⟨a3, c3, rfl, hd1, H7⟩ := hp2
      have H8 : Hold h h3 [own cd2 a2 x5.length c2 x5] := H6.call H7 rfl
      have H9 := H8.alias hd1
      refine Run_b [.slice a3 x6.1.length c3, .int .i64 x6.2, .slice a3 x6.1.length c3, .int .i64 x6.2] 4 _ (by kernel_rfl) (fun w => by kernel_rfl) ?_
      refine Run_nil (by kernel_rfl) ?_
      refine Run_keep [4, 5] (L' := [(4, .slice a3 x6.1.length c3), (5, .int .i64 x6.2)]) (by kernel_rfl) ?_
      have hF := M.ret_some hF
      subst hF
      exact Run_ret2 rfl (ResV_tmp (v := .slice a3 x6.1.length c3) (by kernel_rfl)) (ResV_tmp (v := .int .i64 x6.2) (by kernel_rfl)) ⟨a3, c3, rfl, H9⟩

set_option maxRecDepth 100000 in
set_option maxHeartbeats 4000000 in
theorem w_impl_GreatestSub (h : Heap) (a_ : List (List Int)) (aa_ : Option Addr) (ca_ : Nat) (ra_ : Rd cd23 h (Lt h) aa_ ca_ a_) (b : List Int) (ab : Option Addr) (cb : Nat) (rb : Rd cd2 h (Lt h) ab cb b) (n : Nat) (r : (List Int) × Int) (hF : impl_GreatestSub a_ b n = some r) :
    Fn Try.prog 19 #[.slice aa_ a_.length ca_, .slice ab b.length cb] h fun v h' => ∃ (a0 : Option Addr) (c0 : Nat), v = .tuple #[.slice a0 r.1.length c0, .int .i64 r.2] ∧ Hold h h' [own cd2 a0 r.1.length c0 r.1] := by
  unfold impl_GreatestSub at hF
  refine Fn_enter (args := [.slice aa_ a_.length ca_, .slice ab b.length cb]) Try.func19 rfl (by kernel_rfl) (by kernel_rfl) (fun w0 _ => ?_)
  have H0 := Hold.init h
  refine Run_seq ?_
  refine Run_reg 2 (by kernel_rfl) (L' := [(0, .slice aa_ a_.length ca_), (1, .slice ab b.length cb)]) ?_ ?_
  · refine QRun_b [.slice none 0 0, .int .i64 0] 0 _ (by kernel_rfl) (fun w => by kernel_rfl) ?_
    exact QRun_done [0, 1] (by kernel_rfl) (by kernel_rfl)
  refine Run_seq ?_
  refine Run_ops ?_
  refine Run_b [.slice aa_ a_.length ca_, .slice ab b.length cb] 0 _ (by kernel_rfl) (fun w => by kernel_rfl) ?_
  obtain ⟨x1, hx1, hF⟩ := M.bind_some hF
  refine Run_E (by kernel_rfl) ?_
  refine E_call (f := 61) (args := #[.slice aa_ a_.length ca_, .slice ab b.length cb]) (w_impl_greatestSub h a_ aa_ ca_ ra_ b ab cb rb _ _ hx1) (by kernel_rfl) (fun v1 h1 hp1 => ?_)
  obtain ⟨a1, c1, rfl, H1⟩ := hp1
  have H2 : Hold h h1 [own cd2 a1 x1.1.length c1 x1.1] := H0.call H1 rfl
  refine Run_b [.tuple #[.slice a1 x1.1.length c1, .int .i64 x1.2], .slice a1 x1.1.length c1, .int .i64 x1.2, .slice a1 x1.1.length c1, .int .i64 x1.2] 3 _ (by kernel_rfl) (fun w => by kernel_rfl) ?_
  refine Run_nil (by kernel_rfl) ?_
  refine Run_keep [6, 7] (L' := [(6, .slice a1 x1.1.length c1), (7, .int .i64 x1.2)]) (by kernel_rfl) ?_
  refine Run_seq ?_
  refine Run_seq ?_
  refine Run_reg 2 (by kernel_rfl) (L' := [(6, .slice a1 x1.1.length c1), (7, .int .i64 x1.2), (15, .bool (x1.2 != 0))]) ?_ ?_
  · refine QRun_b [.int .i64 x1.2, .bool (x1.2 != 0)] 0 _ (by kernel_rfl) (fun w => by kernel_rfl) ?_
    exact QRun_done [6, 7, 15] (by kernel_rfl) (by kernel_rfl)
  refine Run_cond (b := x1.2 != 0) (by kernel_rfl) (fun hb1 => ?_) (fun hb1 => ?_)
  · have hF := (M.ite_some hF).1 hb1
    refine Run_seq ?_
    refine Run_reg 3 (by kernel_rfl) (L' := [(4, .slice none 0 0), (5, .int .i64 x1.2)]) ?_ ?_
    · refine QRun_b [.int .i64 x1.2, .slice none 0 0, .int .i64 x1.2] 0 _ (by kernel_rfl) (fun w => by kernel_rfl) ?_
      exact QRun_done [4, 5] (by kernel_rfl) (by kernel_rfl)
    have hF := M.ret_some hF
    subst hF
    have H3 := H2.empty cd2
    have H4 : Hold h h1 [own cd2 none 0 0 []] := H3.pick [0] (by kernel_rfl)
    exact Run_ret2 rfl (ResV_tmp (v := .slice none 0 0) (by kernel_rfl)) (ResV_tmp (v := .int .i64 x1.2) (by kernel_rfl)) ⟨none, 0, rfl, H4⟩
  · have hF := (M.ite_some hF).2 hb1
    refine Run_skip ?_
    refine Run_seq ?_
    refine Run_ops ?_
    refine Run_b [.slice a1 x1.1.length c1] 0 _ (by kernel_rfl) (fun w => by kernel_rfl) ?_
    obtain ⟨x2, hx2, hF⟩ := M.bind_some hF
    refine Run_E (by kernel_rfl) ?_
    refine E_call (f := 62) (args := #[.slice a1 x1.1.length c1]) (w_impl_checkedVector h1 x1.1 a1 c1 (H2.rd 0 rfl) _ _ hx2) (by kernel_rfl) (fun v2 h2 hp2 => ?_)
    obtain ⟨a2, c2, rfl, hd1, H5⟩ := hp2
    have H6 : Hold h h2 [own cd2 a1 x1.1.length c1 x1.1] := H2.call H5 rfl
    have H7 := H6.alias hd1
    refine Run_b [.slice a2 x2.1.length c2, .int .i64 x2.2, .slice a2 x2.1.length c2, .int .i64 x2.2] 2 _ (by kernel_rfl) (fun w => by kernel_rfl) ?_
    refine Run_nil (by kernel_rfl) ?_
    refine Run_keep [4, 5] (L' := [(4, .slice a2 x2.1.length c2), (5, .int .i64 x2.2)]) (by kernel_rfl) ?_
    have hF := M.ret_some hF
    subst hF
    exact Run_ret2 rfl (ResV_tmp (v := .slice a2 x2.1.length c2) (by kernel_rfl)) (ResV_tmp (v := .int .i64 x2.2) (by kernel_rfl)) ⟨a2, c2, rfl, H7⟩

set_option maxRecDepth 100000 in
set_option maxHeartbeats 4000000 in
theorem w_laws_FnSystems (h : Heap) (code : List Int) (acode : Option Addr) (ccode : Nat) (rcode : Rd cd5 h (Lt h) acode ccode code) (n : Nat) (r : Bool) (hF : laws_FnSystems code n = some r) :
    Fn Try.prog 13 #[.slice acode code.length ccode] h fun v h' => v = .bool r ∧ Hold h h' [] := by
  unfold laws_FnSystems at hF
  refine Fn_enter (args := [.slice acode code.length ccode]) Try.func13 rfl (by kernel_rfl) (by kernel_rfl) (fun w0 _ => ?_)
  have H0 := Hold.init h
  refine Run_seq ?_
  refine Run_reg 1 (by kernel_rfl) (L' := [(0, .slice acode code.length ccode)]) ?_ ?_
  · refine QRun_b [.bool false] 0 _ (by kernel_rfl) (fun w => by kernel_rfl) ?_
    exact QRun_done [0] (by kernel_rfl) (by kernel_rfl)
  refine Run_seq ?_
  refine Run_seq ?_
  obtain ⟨x1, hx1, hF⟩ := M.bind_some hF
  refine Run_reg 2 (by kernel_rfl) (L' := [(0, .slice acode code.length ccode), (26, .bool x1)]) ?_ ?_
  · refine QRun_b [.slice acode code.length ccode] 0 _ (by kernel_rfl) (fun w => by kernel_rfl) ?_
    refine QRun_y (.bool x1) (by kernel_rfl) (Y_callq (f := 40) (args := #[.slice acode code.length ccode]) (v := .bool x1) (by kernel_rfl) (w_laws_big h code acode ccode rcode _ _ hx1)) ?_
    exact QRun_done [0, 26] (by kernel_rfl) (by kernel_rfl)
  refine Run_cond (b := x1) (by kernel_rfl) (fun hb1 => ?_) (fun hb1 => ?_)
  · have hF := (M.ite_some hF).1 hb1
    refine Run_seq ?_
    refine Run_reg 1 (by kernel_rfl) (L' := [(2, .bool true)]) ?_ ?_
    · refine QRun_b [.bool true] 0 _ (by kernel_rfl) (fun w => by kernel_rfl) ?_
      exact QRun_done [2] (by kernel_rfl) (by kernel_rfl)
    have hF := M.ret_some hF
    subst hF
    exact Run_ret1 rfl (ResV_tmp (v := .bool true) (by kernel_rfl)) ⟨rfl, H0⟩
  · have hF := (M.ite_some hF).2 hb1
    refine Run_skip ?_
    refine Run_seq ?_
    refine Run_ops ?_
    refine Run_b [.slice acode code.length ccode] 0 _ (by kernel_rfl) (fun w => by kernel_rfl) ?_
    obtain ⟨x2, hx2, hF⟩ := M.bind_some hF
    refine Run_E (by kernel_rfl) ?_
    refine E_call (f := 48) (args := #[.slice acode code.length ccode]) (w_spec_DrawSolveSystem h code acode ccode rcode _ _ hx2) (by kernel_rfl) (fun v1 h1 hp1 => ?_)
    obtain ⟨a1, c1, a2, c2, rfl, H1⟩ := hp1
    have H2 : Hold h h1 [own cd23 a1 x2.1.length c1 x2.1, own cd2 a2 x2.2.length c2 x2.2] := H0.call H1 rfl
    refine Run_b [.tuple #[.slice a1 x2.1.length c1, .slice a2 x2.2.length c2], .slice a1 x2.1.length c1, .slice a2 x2.2.length c2, .slice a1 x2.1.length c1, .slice a2 x2.2.length c2] 2 _ (by kernel_rfl) (fun w => by kernel_rfl) ?_
    refine Run_nil (by kernel_rfl) ?_
    refine Run_keep [0, 3, 4] (L' := [(0, .slice acode code.length ccode), (3, .slice a1 x2.1.length c1), (4, .slice a2 x2.2.length c2)]) (by kernel_rfl) ?_
    refine Run_seq ?_
    refine Run_ops ?_
    refine Run_b [.slice a1 x2.1.length c1, .slice a2 x2.2.length c2] 0 _ (by kernel_rfl) (fun w => by kernel_rfl) ?_
    obtain ⟨x3, hx3, hF⟩ := M.bind_some hF
    refine Run_E (by kernel_rfl) ?_
    refine E_call (f := 32) (args := #[.slice a1 x2.1.length c1, .slice a2 x2.2.length c2]) (w_impl_SolveSystem h1 x2.1 a1 c1 (H2.rd 0 rfl) x2.2 a2 c2 (H2.rd 1 rfl) _ _ hx3) (by kernel_rfl) (fun v2 h2 hp2 => ?_)
    obtain ⟨a3, c3, rfl, H3⟩ := hp2
    have H4 : Hold h h2 [own cd2 a3 x3.1.length c3 x3.1, own cd23 a1 x2.1.length c1 x2.1, own cd2 a2 x2.2.length c2 x2.2] := H2.call H3 rfl
    refine Run_b [.tuple #[.slice a3 x3.1.length c3, .int .i64 x3.2], .slice a3 x3.1.length c3, .int .i64 x3.2, .slice a3 x3.1.length c3, .int .i64 x3.2] 3 _ (by kernel_rfl) (fun w => by kernel_rfl) ?_
    refine Run_nil (by kernel_rfl) ?_
    refine Run_keep [0, 3, 4, 5, 6] (L' := [(0, .slice acode code.length ccode), (3, .slice a1 x2.1.length c1), (4, .slice a2 x2.2.length c2), (5, .slice a3 x3.1.length c3), (6, .int .i64 x3.2)]) (by kernel_rfl) ?_
    refine Run_seq ?_
    refine Run_ops ?_
    refine Run_b [.slice a1 x2.1.length c1, .slice a2 x2.2.length c2] 0 _ (by kernel_rfl) (fun w => by kernel_rfl) ?_
    obtain ⟨x4, hx4, hF⟩ := M.bind_some hF
    refine Run_E (by kernel_rfl) ?_
    refine E_call (f := 31) (args := #[.slice a1 x2.1.length c1, .slice a2 x2.2.length c2]) (w_spec_SolveSystem h2 x2.1 a1 c1 (H4.rd 1 rfl) x2.2 a2 c2 (H4.rd 2 rfl) _ _ hx4) (by kernel_rfl) (fun v3 h3 hp3 => ?_)
    obtain ⟨a4, c4, rfl, H5⟩ := hp3
    have H6 : Hold h h3 [own cd2 a4 x4.1.length c4 x4.1, own cd2 a3 x3.1.length c3 x3.1, own cd23 a1 x2.1.length c1 x2.1, own cd2 a2 x2.2.length c2 x2.2] := H4.call H5 rfl
    refine Run_b [.tuple #[.slice a4 x4.1.length c4, .int .i64 x4.2], .slice a4 x4.1.length c4, .int .i64 x4.2, .slice a4 x4.1.length c4, .int .i64 x4.2] 3 _ (by kernel_rfl) (fun w => by kernel_rfl) ?_
    refine Run_nil (by kernel_rfl) ?_
    refine Run_keep [0, 3, 4, 5, 6, 7, 8] (L' := [(0, .slice acode code.length ccode), (3, .slice a1 x2.1.length c1), (4, .slice a2 x2.2.length c2), (5, .slice a3 x3.1.length c3), (6, .int .i64 x3.2), (7, .slice a4 x4.1.length c4), (8, .int .i64 x4.2)]) (by kernel_rfl) ?_
    refine Run_seq ?_
    refine Run_ops ?_
    refine Run_b [.slice acode code.length ccode] 0 _ (by kernel_rfl) (fun w => by kernel_rfl) ?_
    obtain ⟨x5, hx5, hF⟩ := M.bind_some hF
    refine Run_E (by kernel_rfl) ?_
    refine E_call (f := 49) (args := #[.slice acode code.length ccode]) (w_spec_DrawLeastCover h3 code acode ccode (rcode.at H6.ext) _ _ hx5) (by kernel_rfl) (fun v4 h4 hp4 => ?_)
    obtain ⟨a5, c5, a6, c6, rfl, H7⟩ := hp4
    have H8 : Hold h h4 [own cd23 a5 x5.1.length c5 x5.1, own cd2 a6 x5.2.length c6 x5.2, own cd2 a4 x4.1.length c4 x4.1, own cd2 a3 x3.1.length c3 x3.1, own cd23 a1 x2.1.length c1 x2.1, own cd2 a2 x2.2.length c2 x2.2] := H6.call H7 rfl
    refine Run_b [.tuple #[.slice a5 x5.1.length c5, .slice a6 x5.2.length c6], .slice a5 x5.1.length c5, .slice a6 x5.2.length c6, .slice a5 x5.1.length c5, .slice a6 x5.2.length c6] 2 _ (by kernel_rfl) (fun w => by kernel_rfl) ?_
    refine Run_nil (by kernel_rfl) ?_
    refine Run_keep [3, 4, 5, 6, 7, 8, 9, 10] (L' := [(3, .slice a1 x2.1.length c1), (4, .slice a2 x2.2.length c2), (5, .slice a3 x3.1.length c3), (6, .int .i64 x3.2), (7, .slice a4 x4.1.length c4), (8, .int .i64 x4.2), (9, .slice a5 x5.1.length c5), (10, .slice a6 x5.2.length c6)]) (by kernel_rfl) ?_
    refine Run_seq ?_
    refine Run_ops ?_
    refine Run_b [.slice a5 x5.1.length c5, .slice a6 x5.2.length c6] 0 _ (by kernel_rfl) (fun w => by kernel_rfl) ?_
    obtain ⟨x6, hx6, hF⟩ := M.bind_some hF
    refine Run_E (by kernel_rfl) ?_
    refine E_call (f := 39) (args := #[.slice a5 x5.1.length c5, .slice a6 x5.2.length c6]) (w_impl_LeastCover h4 x5.1 a5 c5 (H8.rd 0 rfl) x5.2 a6 c6 (H8.rd 1 rfl) _ _ hx6) (by kernel_rfl) (fun v5 h5 hp5 => ?_)
    obtain ⟨a7, c7, rfl, H9⟩ := hp5
    have H10 : Hold h h5 [own cd2 a7 x6.1.length c7 x6.1, own cd23 a5 x5.1.length c5 x5.1, own cd2 a6 x5.2.length c6 x5.2, own cd2 a4 x4.1.length c4 x4.1, own cd2 a3 x3.1.length c3 x3.1, own cd23 a1 x2.1.length c1 x2.1, own cd2 a2 x2.2.length c2 x2.2] := H8.call H9 rfl
    refine Run_b [.tuple #[.slice a7 x6.1.length c7, .int .i64 x6.2], .slice a7 x6.1.length c7, .int .i64 x6.2, .slice a7 x6.1.length c7, .int .i64 x6.2] 3 _ (by kernel_rfl) (fun w => by kernel_rfl) ?_
    refine Run_nil (by kernel_rfl) ?_
    refine Run_keep [3, 4, 5, 6, 7, 8, 9, 10, 11, 12] (L' := [(3, .slice a1 x2.1.length c1), (4, .slice a2 x2.2.length c2), (5, .slice a3 x3.1.length c3), (6, .int .i64 x3.2), (7, .slice a4 x4.1.length c4), (8, .int .i64 x4.2), (9, .slice a5 x5.1.length c5), (10, .slice a6 x5.2.length c6), (11, .slice a7 x6.1.length c7), (12, .int .i64 x6.2)]) (by kernel_rfl) ?_
    refine Run_seq ?_
    refine Run_ops ?_
    refine Run_b [.slice a5 x5.1.length c5, .slice a6 x5.2.length c6] 0 _ (by kernel_rfl) (fun w => by kernel_rfl) ?_
    obtain ⟨x7, hx7, hF⟩ := M.bind_some hF
    refine Run_E (by kernel_rfl) ?_
    refine E_call (f := 38) (args := #[.slice a5 x5.1.length c5, .slice a6 x5.2.length c6]) (w_spec_LeastCover h5 x5.1 a5 c5 (H10.rd 1 rfl) x5.2 a6 c6 (H10.rd 2 rfl) _ _ hx7) (by kernel_rfl) (fun v6 h6 hp6 => ?_)
    obtain ⟨a8, c8, rfl, H11⟩ := hp6
    have H12 : Hold h h6 [own cd2 a8 x7.1.length c8 x7.1, own cd2 a7 x6.1.length c7 x6.1, own cd23 a5 x5.1.length c5 x5.1, own cd2 a6 x5.2.length c6 x5.2, own cd2 a4 x4.1.length c4 x4.1, own cd2 a3 x3.1.length c3 x3.1, own cd23 a1 x2.1.length c1 x2.1, own cd2 a2 x2.2.length c2 x2.2] := H10.call H11 rfl
    refine Run_b [.tuple #[.slice a8 x7.1.length c8, .int .i64 x7.2], .slice a8 x7.1.length c8, .int .i64 x7.2, .slice a8 x7.1.length c8, .int .i64 x7.2] 3 _ (by kernel_rfl) (fun w => by kernel_rfl) ?_
    refine Run_nil (by kernel_rfl) ?_
    refine Run_keep [3, 4, 5, 6, 7, 8, 9, 10, 11, 12, 13, 14] (L' := [(3, .slice a1 x2.1.length c1), (4, .slice a2 x2.2.length c2), (5, .slice a3 x3.1.length c3), (6, .int .i64 x3.2), (7, .slice a4 x4.1.length c4), (8, .int .i64 x4.2), (9, .slice a5 x5.1.length c5), (10, .slice a6 x5.2.length c6), (11, .slice a7 x6.1.length c7), (12, .int .i64 x6.2), (13, .slice a8 x7.1.length c8), (14, .int .i64 x7.2)]) (by kernel_rfl) ?_
    refine Run_seq ?_
    refine Run_seq ?_
    obtain ⟨x8, gx8, hF⟩ := M.bind_some hF
    obtain ⟨x11, gx11, hF⟩ := M.bind_some hF
    refine Run_reg 20 (by kernel_rfl) (L' := [(3, .slice a1 x2.1.length c1), (4, .slice a2 x2.2.length c2), (5, .slice a3 x3.1.length c3), (6, .int .i64 x3.2), (9, .slice a5 x5.1.length c5), (10, .slice a6 x5.2.length c6), (11, .slice a7 x6.1.length c7), (12, .int .i64 x6.2), (80, .bool x11)]) ?_ ?_
    · refine QRun_b [.int .i64 x3.2, .int .i64 x4.2, .bool (x3.2 != x4.2)] 0 _ (by kernel_rfl) (fun w => by kernel_rfl) ?_
      refine QRun_seq 9 [(3, .slice a1 x2.1.length c1), (4, .slice a2 x2.2.length c2), (5, .slice a3 x3.1.length c3), (6, .int .i64 x3.2), (9, .slice a5 x5.1.length c5), (10, .slice a6 x5.2.length c6), (11, .slice a7 x6.1.length c7), (12, .int .i64 x6.2), (13, .slice a8 x7.1.length c8), (14, .int .i64 x7.2), (69, .bool x8)] ?_ ?_
      · rcases Bool.eq_false_or_eq_true (x3.2 != x4.2) with hb2 | hb2
        · refine QRun_bool (x3.2 != x4.2) true (by kernel_rfl) (fun w => by kernel_rfl) hb2 ?_
          have gx8 := M.ret_some ((M.ite_some gx8).1 hb2)
          refine QRun_n (by kernel_rfl) ?_
          refine QRun_n (by kernel_rfl) ?_
          refine QRun_n (by kernel_rfl) ?_
          refine QRun_n (by kernel_rfl) ?_
          refine QRun_bool true x8 (by kernel_rfl) (fun w => by kernel_rfl) gx8 ?_
          exact QRun_done [3, 4, 5, 6, 9, 10, 11, 12, 13, 14, 69] (by kernel_rfl) (by kernel_rfl)
        · refine QRun_bool (x3.2 != x4.2) false (by kernel_rfl) (fun w => by kernel_rfl) hb2 ?_
          have gx8 := (M.ite_some gx8).2 hb2
          obtain ⟨x9, hx8, gx8⟩ := M.bind_some gx8
          have gx8 := M.ret_some gx8
          refine QRun_b [.slice a3 x3.1.length c3, .slice a4 x4.1.length c4] 4 _ (by kernel_rfl) (fun w => by kernel_rfl) ?_
          refine QRun_y (.bool x9) (by kernel_rfl) (Y_callq (f := 47) (args := #[.slice a3 x3.1.length c3, .slice a4 x4.1.length c4]) (v := .bool x9) (by kernel_rfl) (w_laws_likeInts h6 x3.1 a3 c3 (H12.rd 5 rfl) x4.1 a4 c4 (H12.rd 4 rfl) _ _ hx8)) ?_
          refine QRun_b [.bool (!x9)] 7 _ (by kernel_rfl) (fun w => by kernel_rfl) ?_
          refine QRun_bool (!x9) x8 (by kernel_rfl) (fun w => by kernel_rfl) gx8 ?_
          exact QRun_done [3, 4, 5, 6, 9, 10, 11, 12, 13, 14, 69] (by kernel_rfl) (by kernel_rfl)
      refine QRun_seq 14 [(3, .slice a1 x2.1.length c1), (4, .slice a2 x2.2.length c2), (5, .slice a3 x3.1.length c3), (6, .int .i64 x3.2), (9, .slice a5 x5.1.length c5), (10, .slice a6 x5.2.length c6), (11, .slice a7 x6.1.length c7), (12, .int .i64 x6.2), (13, .slice a8 x7.1.length c8), (74, .bool (x8 || (x6.2 != x7.2)))] ?_ ?_
      · rcases Bool.eq_false_or_eq_true x8 with hb3 | hb3
        · refine QRun_bool x8 true (by kernel_rfl) (fun w => by kernel_rfl) hb3 ?_
          refine QRun_n (by kernel_rfl) ?_
          refine QRun_n (by kernel_rfl) ?_
          refine QRun_n (by kernel_rfl) ?_
          refine QRun_bool true (x8 || (x6.2 != x7.2)) (by kernel_rfl) (fun w => by kernel_rfl) (by rw [hb3]; rfl) ?_
          exact QRun_done [3, 4, 5, 6, 9, 10, 11, 12, 13, 74] (by kernel_rfl) (by kernel_rfl)
        · refine QRun_bool x8 false (by kernel_rfl) (fun w => by kernel_rfl) hb3 ?_
          refine QRun_b [.int .i64 x6.2, .int .i64 x7.2, .bool (x6.2 != x7.2)] 10 _ (by kernel_rfl) (fun w => by kernel_rfl) ?_
          refine QRun_bool (x6.2 != x7.2) (x8 || (x6.2 != x7.2)) (by kernel_rfl) (fun w => by kernel_rfl) (by rw [hb3]; rfl) ?_
          exact QRun_done [3, 4, 5, 6, 9, 10, 11, 12, 13, 74] (by kernel_rfl) (by kernel_rfl)
      refine QRun_seq 20 [(3, .slice a1 x2.1.length c1), (4, .slice a2 x2.2.length c2), (5, .slice a3 x3.1.length c3), (6, .int .i64 x3.2), (9, .slice a5 x5.1.length c5), (10, .slice a6 x5.2.length c6), (11, .slice a7 x6.1.length c7), (12, .int .i64 x6.2), (80, .bool x11)] ?_ ?_
      · rcases Bool.eq_false_or_eq_true (x8 || (x6.2 != x7.2)) with hb4 | hb4
        · refine QRun_bool (x8 || (x6.2 != x7.2)) true (by kernel_rfl) (fun w => by kernel_rfl) hb4 ?_
          have gx11 := M.ret_some ((M.ite_some gx11).1 hb4)
          refine QRun_n (by kernel_rfl) ?_
          refine QRun_n (by kernel_rfl) ?_
          refine QRun_n (by kernel_rfl) ?_
          refine QRun_n (by kernel_rfl) ?_
          refine QRun_bool true x11 (by kernel_rfl) (fun w => by kernel_rfl) gx11 ?_
          exact QRun_done [3, 4, 5, 6, 9, 10, 11, 12, 80] (by kernel_rfl) (by kernel_rfl)
        · refine QRun_bool (x8 || (x6.2 != x7.2)) false (by kernel_rfl) (fun w => by kernel_rfl) hb4 ?_
          have gx11 := (M.ite_some gx11).2 hb4
          obtain ⟨x12, hx9, gx11⟩ := M.bind_some gx11
          have gx11 := M.ret_some gx11
          refine QRun_b [.slice a7 x6.1.length c7, .slice a8 x7.1.length c8] 15 _ (by kernel_rfl) (fun w => by kernel_rfl) ?_
          refine QRun_y (.bool x12) (by kernel_rfl) (Y_callq (f := 47) (args := #[.slice a7 x6.1.length c7, .slice a8 x7.1.length c8]) (v := .bool x12) (by kernel_rfl) (w_laws_likeInts h6 x6.1 a7 c7 (H12.rd 1 rfl) x7.1 a8 c8 (H12.rd 0 rfl) _ _ hx9)) ?_
          refine QRun_b [.bool (!x12)] 18 _ (by kernel_rfl) (fun w => by kernel_rfl) ?_
          refine QRun_bool (!x12) x11 (by kernel_rfl) (fun w => by kernel_rfl) gx11 ?_
          exact QRun_done [3, 4, 5, 6, 9, 10, 11, 12, 80] (by kernel_rfl) (by kernel_rfl)
      exact QRun_done [3, 4, 5, 6, 9, 10, 11, 12, 80] (by kernel_rfl) (by kernel_rfl)
    refine Run_cond (b := x11) (by kernel_rfl) (fun hb5 => ?_) (fun hb5 => ?_)
    · have hF := (M.ite_some hF).1 hb5
      refine Run_seq ?_
      refine Run_reg 1 (by kernel_rfl) (L' := [(2, .bool false)]) ?_ ?_
      · refine QRun_b [.bool false] 0 _ (by kernel_rfl) (fun w => by kernel_rfl) ?_
        exact QRun_done [2] (by kernel_rfl) (by kernel_rfl)
      have hF := M.ret_some hF
      subst hF
      have H13 : Hold h h6 [] := H12.pick [] (by kernel_rfl)
      exact Run_ret1 rfl (ResV_tmp (v := .bool false) (by kernel_rfl)) ⟨rfl, H13⟩
    · have hF := (M.ite_some hF).2 hb5
      refine Run_skip ?_
      refine Run_seq ?_
      refine Run_seq ?_
      refine Run_reg 2 (by kernel_rfl) (L' := [(3, .slice a1 x2.1.length c1), (4, .slice a2 x2.2.length c2), (5, .slice a3 x3.1.length c3), (9, .slice a5 x5.1.length c5), (10, .slice a6 x5.2.length c6), (11, .slice a7 x6.1.length c7), (12, .int .i64 x6.2), (82, .bool (x3.2 == 0))]) ?_ ?_
      · refine QRun_b [.int .i64 x3.2, .bool (x3.2 == 0)] 0 _ (by kernel_rfl) (fun w => by kernel_rfl) ?_
        exact QRun_done [3, 4, 5, 9, 10, 11, 12, 82] (by kernel_rfl) (by kernel_rfl)
      refine Run_cond (b := x3.2 == 0) (by kernel_rfl) (fun hb6 => ?_) (fun hb6 => ?_)
      · have hF := (M.ite_some hF).1 hb6
        refine Run_seq ?_
        refine Run_ops ?_
        refine Run_b [.slice a1 x2.1.length c1, .slice a3 x3.1.length c3] 0 _ (by kernel_rfl) (fun w => by kernel_rfl) ?_
        obtain ⟨x13, hx10, hF⟩ := M.bind_some hF
        refine Run_E (by kernel_rfl) ?_
        refine E_call (f := 50) (args := #[.slice a1 x2.1.length c1, .slice a3 x3.1.length c3]) (w_impl_TimesVector h6 x2.1 a1 c1 (H12.rd 6 rfl) x3.1 a3 c3 (H12.rd 5 rfl) _ _ hx10) (by kernel_rfl) (fun v7 h7 hp7 => ?_)
        obtain ⟨a9, c9, rfl, H14⟩ := hp7
        have H15 : Hold h h7 [own cd2 a9 x13.1.length c9 x13.1, own cd2 a8 x7.1.length c8 x7.1, own cd2 a7 x6.1.length c7 x6.1, own cd23 a5 x5.1.length c5 x5.1, own cd2 a6 x5.2.length c6 x5.2, own cd2 a4 x4.1.length c4 x4.1, own cd2 a3 x3.1.length c3 x3.1, own cd23 a1 x2.1.length c1 x2.1, own cd2 a2 x2.2.length c2 x2.2] := H12.call H14 rfl
        refine Run_b [.tuple #[.slice a9 x13.1.length c9, .int .i64 x13.2], .slice a9 x13.1.length c9, .int .i64 x13.2, .slice a9 x13.1.length c9, .int .i64 x13.2] 3 _ (by kernel_rfl) (fun w => by kernel_rfl) ?_
        refine Run_nil (by kernel_rfl) ?_
        refine Run_keep [4, 9, 10, 11, 12, 15, 16] (L' := [(4, .slice a2 x2.2.length c2), (9, .slice a5 x5.1.length c5), (10, .slice a6 x5.2.length c6), (11, .slice a7 x6.1.length c7), (12, .int .i64 x6.2), (15, .slice a9 x13.1.length c9), (16, .int .i64 x13.2)]) (by kernel_rfl) ?_
        refine Run_seq ?_
        obtain ⟨x14, gx14, hF⟩ := M.bind_some hF
        refine Run_reg 8 (by kernel_rfl) (L' := [(9, .slice a5 x5.1.length c5), (10, .slice a6 x5.2.length c6), (11, .slice a7 x6.1.length c7), (12, .int .i64 x6.2), (96, .bool x14)]) ?_ ?_
        · refine QRun_b [.int .i64 x13.2, .bool (x13.2 != 0)] 0 _ (by kernel_rfl) (fun w => by kernel_rfl) ?_
          refine QRun_seq 8 [(9, .slice a5 x5.1.length c5), (10, .slice a6 x5.2.length c6), (11, .slice a7 x6.1.length c7), (12, .int .i64 x6.2), (96, .bool x14)] ?_ ?_
          · rcases Bool.eq_false_or_eq_true (x13.2 != 0) with hb7 | hb7
            · refine QRun_bool (x13.2 != 0) true (by kernel_rfl) (fun w => by kernel_rfl) hb7 ?_
              have gx14 := M.ret_some ((M.ite_some gx14).1 hb7)
              refine QRun_n (by kernel_rfl) ?_
              refine QRun_n (by kernel_rfl) ?_
              refine QRun_n (by kernel_rfl) ?_
              refine QRun_n (by kernel_rfl) ?_
              refine QRun_bool true x14 (by kernel_rfl) (fun w => by kernel_rfl) gx14 ?_
              exact QRun_done [9, 10, 11, 12, 96] (by kernel_rfl) (by kernel_rfl)
            · refine QRun_bool (x13.2 != 0) false (by kernel_rfl) (fun w => by kernel_rfl) hb7 ?_
              have gx14 := (M.ite_some gx14).2 hb7
              obtain ⟨x15, hx11, gx14⟩ := M.bind_some gx14
              have gx14 := M.ret_some gx14
              refine QRun_b [.slice a9 x13.1.length c9, .slice a2 x2.2.length c2] 3 _ (by kernel_rfl) (fun w => by kernel_rfl) ?_
              refine QRun_y (.bool x15) (by kernel_rfl) (Y_callq (f := 47) (args := #[.slice a9 x13.1.length c9, .slice a2 x2.2.length c2]) (v := .bool x15) (by kernel_rfl) (w_laws_likeInts h7 x13.1 a9 c9 (H15.rd 0 rfl) x2.2 a2 c2 (H15.rd 8 rfl) _ _ hx11)) ?_
              refine QRun_b [.bool (!x15)] 6 _ (by kernel_rfl) (fun w => by kernel_rfl) ?_
              refine QRun_bool (!x15) x14 (by kernel_rfl) (fun w => by kernel_rfl) gx14 ?_
              exact QRun_done [9, 10, 11, 12, 96] (by kernel_rfl) (by kernel_rfl)
          exact QRun_done [9, 10, 11, 12, 96] (by kernel_rfl) (by kernel_rfl)
        refine Run_cond (b := x14) (by kernel_rfl) (fun hb8 => ?_) (fun hb8 => ?_)
        · have hF := (M.ite_some hF).1 hb8
          refine Run_seq ?_
          refine Run_reg 1 (by kernel_rfl) (L' := [(2, .bool false)]) ?_ ?_
          · refine QRun_b [.bool false] 0 _ (by kernel_rfl) (fun w => by kernel_rfl) ?_
            exact QRun_done [2] (by kernel_rfl) (by kernel_rfl)
          have hF := M.ret_some hF
          subst hF
          have H16 : Hold h h7 [] := H15.pick [] (by kernel_rfl)
          exact Run_ret1 rfl (ResV_tmp (v := .bool false) (by kernel_rfl)) ⟨rfl, H16⟩
        · have hF := (M.ite_some hF).2 hb8
          refine Run_skip ?_
          refine Run_seq ?_
          refine Run_seq ?_
          refine Run_reg 2 (by kernel_rfl) (L' := [(9, .slice a5 x5.1.length c5), (10, .slice a6 x5.2.length c6), (11, .slice a7 x6.1.length c7), (98, .bool (x6.2 != 0))]) ?_ ?_
          · refine QRun_b [.int .i64 x6.2, .bool (x6.2 != 0)] 0 _ (by kernel_rfl) (fun w => by kernel_rfl) ?_
            exact QRun_done [9, 10, 11, 98] (by kernel_rfl) (by kernel_rfl)
          refine Run_cond (b := x6.2 != 0) (by kernel_rfl) (fun hb9 => ?_) (fun hb9 => ?_)
          · have hF := (M.ite_some hF).1 hb9
            refine Run_seq ?_
            refine Run_reg 1 (by kernel_rfl) (L' := [(2, .bool true)]) ?_ ?_
            · refine QRun_b [.bool true] 0 _ (by kernel_rfl) (fun w => by kernel_rfl) ?_
              exact QRun_done [2] (by kernel_rfl) (by kernel_rfl)
            have hF := M.ret_some hF
            subst hF
            have H17 : Hold h h7 [] := H15.pick [] (by kernel_rfl)
            exact Run_ret1 rfl (ResV_tmp (v := .bool true) (by kernel_rfl)) ⟨rfl, H17⟩
          · have hF := (M.ite_some hF).2 hb9
            refine Run_skip ?_
            refine Run_seq ?_
            refine Run_ops ?_
            refine Run_b [.slice a5 x5.1.length c5, .slice a6 x5.2.length c6] 0 _ (by kernel_rfl) (fun w => by kernel_rfl) ?_
            obtain ⟨x16, hx12, hF⟩ := M.bind_some hF
            refine Run_E (by kernel_rfl) ?_
            refine E_call (f := 19) (args := #[.slice a5 x5.1.length c5, .slice a6 x5.2.length c6]) (w_impl_GreatestSub h7 x5.1 a5 c5 (H15.rd 3 rfl) x5.2 a6 c6 (H15.rd 4 rfl) _ _ hx12) (by kernel_rfl) (fun v8 h8 hp8 => ?_)
            obtain ⟨a10, c10, rfl, H18⟩ := hp8
            have H19 : Hold h h8 [own cd2 a10 x16.1.length c10 x16.1, own cd2 a9 x13.1.length c9 x13.1, own cd2 a8 x7.1.length c8 x7.1, own cd2 a7 x6.1.length c7 x6.1, own cd23 a5 x5.1.length c5 x5.1, own cd2 a6 x5.2.length c6 x5.2, own cd2 a4 x4.1.length c4 x4.1, own cd2 a3 x3.1.length c3 x3.1, own cd23 a1 x2.1.length c1 x2.1, own cd2 a2 x2.2.length c2 x2.2] := H15.call H18 rfl
            refine Run_b [.tuple #[.slice a10 x16.1.length c10, .int .i64 x16.2], .slice a10 x16.1.length c10, .int .i64 x16.2, .slice a10 x16.1.length c10, .int .i64 x16.2] 3 _ (by kernel_rfl) (fun w => by kernel_rfl) ?_
            refine Run_nil (by kernel_rfl) ?_
            refine Run_keep [9, 10, 11, 17, 18] (L' := [(9, .slice a5 x5.1.length c5), (10, .slice a6 x5.2.length c6), (11, .slice a7 x6.1.length c7), (17, .slice a10 x16.1.length c10), (18, .int .i64 x16.2)]) (by kernel_rfl) ?_
            refine Run_seq ?_
            refine Run_seq ?_
            refine Run_reg 1 (by kernel_rfl) (L' := [(9, .slice a5 x5.1.length c5), (10, .slice a6 x5.2.length c6), (11, .slice a7 x6.1.length c7), (17, .slice a10 x16.1.length c10), (18, .int .i64 x16.2), (19, .int .i64 (-1))]) ?_ ?_
            · refine QRun_b [.int .i64 (-1)] 0 _ (by kernel_rfl) (fun w => by kernel_rfl) ?_
              exact QRun_done [9, 10, 11, 17, 18, 19] (by kernel_rfl) (by kernel_rfl)
            obtain ⟨x17, gx17, hF⟩ := M.bind_some hF
            refine Run_join (fun L' h' => ∃ (s2 : Int), x17 = .inl s2 ∧ L' = [] ∧ Hold h h' []) ?_ ?_
            · rintro _ h10 ⟨s2, es2, rfl, H21⟩
              have hF := M.cont_inl' hF es2
              refine Run_seq ?_
              refine Run_reg 1 (by kernel_rfl) (L' := [(2, .bool true)]) ?_ ?_
              · refine QRun_b [.bool true] 0 _ (by kernel_rfl) (fun w => by kernel_rfl) ?_
                exact QRun_done [2] (by kernel_rfl) (by kernel_rfl)
              have hF := M.ret_some hF
              subst hF
              exact Run_ret1 rfl (ResV_tmp (v := .bool true) (by kernel_rfl)) ⟨rfl, H21⟩
            · refine Run_block ?_
              have H32 : Hold h h8 [own cd23 a5 x5.1.length c5 x5.1, own cd2 a6 x5.2.length c6 x5.2, own cd2 a7 x6.1.length c7 x6.1, own cd2 a10 x16.1.length c10 x16.1] := H19.pick [4, 5, 3, 0] (by kernel_rfl)
              refine Run_keep [9, 10, 11, 17, 18, 19] (L' := [(9, .slice a5 x5.1.length c5), (10, .slice a6 x5.2.length c6), (11, .slice a7 x6.1.length c7), (17, .slice a10 x16.1.length c10), (18, .int .i64 x16.2), (19, .int .i64 (-1))]) (by kernel_rfl) ?_
              refine Run_loop (fun m L' h' => ∃ (s1 : Int), M.loopN _ n m s1 = some x17 ∧ L' = [(9, .slice a5 x5.1.length c5), (10, .slice a6 x5.2.length c6), (11, .slice a7 x6.1.length c7), (17, .slice a10 x16.1.length c10), (18, .int .i64 x16.2), (19, .int .i64 s1)] ∧ Hold h h' [own cd23 a5 x5.1.length c5 x5.1, own cd2 a6 x5.2.length c6 x5.2, own cd2 a7 x6.1.length c7 x6.1, own cd2 a10 x16.1.length c10 x16.1]) n ⟨(-1), gx17, rfl, H32⟩ ?_
              rintro my1 _ h9 ⟨s1, gx17, rfl, H20⟩
              obtain ⟨my1, y1, rfl, hB1, hgoy1, houty1⟩ := M.loop_some gx17
              refine Run_seq ?_
              refine Run_seq ?_
              refine Run_reg 8 (by kernel_rfl) (L' := [(9, .slice a5 x5.1.length c5), (10, .slice a6 x5.2.length c6), (11, .slice a7 x6.1.length c7), (17, .slice a10 x16.1.length c10), (18, .int .i64 x16.2), (19, .int .i64 s1), (112, .bool ((x16.2 == 0) && (decide (s1 < (x6.1.length : Int)))))]) ?_ ?_
              · refine QRun_b [.int .i64 x16.2, .bool (x16.2 == 0)] 0 _ (by kernel_rfl) (fun w => by kernel_rfl) ?_
                refine QRun_seq 8 [(9, .slice a5 x5.1.length c5), (10, .slice a6 x5.2.length c6), (11, .slice a7 x6.1.length c7), (17, .slice a10 x16.1.length c10), (18, .int .i64 x16.2), (19, .int .i64 s1), (112, .bool ((x16.2 == 0) && (decide (s1 < (x6.1.length : Int)))))] ?_ ?_
                · rcases Bool.eq_false_or_eq_true (x16.2 == 0) with hb10 | hb10
                  · refine QRun_bool (x16.2 == 0) true (by kernel_rfl) (fun w => by kernel_rfl) hb10 ?_
                    refine QRun_b [.int .i64 s1, .slice a7 x6.1.length c7, .int .i64 (x6.1.length : Int), .bool (decide (s1 < (x6.1.length : Int)))] 3 _ (by kernel_rfl) (fun w => by kernel_rfl) ?_
                    refine QRun_bool (decide (s1 < (x6.1.length : Int))) ((x16.2 == 0) && (decide (s1 < (x6.1.length : Int)))) (by kernel_rfl) (fun w => by kernel_rfl) (by rw [hb10]; rfl) ?_
                    exact QRun_done [9, 10, 11, 17, 18, 19, 112] (by kernel_rfl) (by kernel_rfl)
                  · refine QRun_bool (x16.2 == 0) false (by kernel_rfl) (fun w => by kernel_rfl) hb10 ?_
                    refine QRun_n (by kernel_rfl) ?_
                    refine QRun_n (by kernel_rfl) ?_
                    refine QRun_n (by kernel_rfl) ?_
                    refine QRun_n (by kernel_rfl) ?_
                    refine QRun_bool false ((x16.2 == 0) && (decide (s1 < (x6.1.length : Int)))) (by kernel_rfl) (fun w => by kernel_rfl) (by rw [hb10]; rfl) ?_
                    exact QRun_done [9, 10, 11, 17, 18, 19, 112] (by kernel_rfl) (by kernel_rfl)
                exact QRun_done [9, 10, 11, 17, 18, 19, 112] (by kernel_rfl) (by kernel_rfl)
              refine Run_cond (b := (x16.2 == 0) && (decide (s1 < (x6.1.length : Int)))) (by kernel_rfl) (fun hb11 => ?_) (fun hb11 => ?_)
              · have hB1 := (M.ite_some hB1).1 hb11
                refine Run_skip ?_
                refine Run_seq ?_
                refine Run_block ?_
                refine Run_seq ?_
                refine Run_reg 1 (by kernel_rfl) (L' := [(9, .slice a5 x5.1.length c5), (10, .slice a6 x5.2.length c6), (11, .slice a7 x6.1.length c7), (17, .slice a10 x16.1.length c10), (18, .int .i64 x16.2), (19, .int .i64 s1), (20, .bool true)]) ?_ ?_
                · refine QRun_b [.bool true] 0 _ (by kernel_rfl) (fun w => by kernel_rfl) ?_
                  exact QRun_done [9, 10, 11, 17, 18, 19, 20] (by kernel_rfl) (by kernel_rfl)
                refine Run_seq ?_
                refine Run_seq ?_
                refine Run_reg 1 (by kernel_rfl) (L' := [(9, .slice a5 x5.1.length c5), (10, .slice a6 x5.2.length c6), (11, .slice a7 x6.1.length c7), (17, .slice a10 x16.1.length c10), (18, .int .i64 x16.2), (19, .int .i64 s1), (20, .bool true), (21, .int .i64 0)]) ?_ ?_
                · refine QRun_b [.int .i64 0] 0 _ (by kernel_rfl) (fun w => by kernel_rfl) ?_
                  exact QRun_done [9, 10, 11, 17, 18, 19, 20, 21] (by kernel_rfl) (by kernel_rfl)
                obtain ⟨x19, gx19, hB1⟩ := M.bind_some hB1
                obtain ⟨hloy2, hhiy2, gx19⟩ := M.for_start gx19
                refine Run_join (fun L' h' => L' = [(9, .slice a5 x5.1.length c5), (10, .slice a6 x5.2.length c6), (11, .slice a7 x6.1.length c7), (17, .slice a10 x16.1.length c10), (18, .int .i64 x16.2), (19, .int .i64 s1), (20, .bool x19)] ∧ Hold h h' [own cd23 a5 x5.1.length c5 x5.1, own cd2 a6 x5.2.length c6 x5.2, own cd2 a7 x6.1.length c7 x6.1, own cd2 a10 x16.1.length c10 x16.1]) ?_ ?_
                · rintro _ h12 ⟨rfl, H23⟩
                  refine Run_seq ?_
                  refine Run_reg 4 (by kernel_rfl) (L' := [(9, .slice a5 x5.1.length c5), (10, .slice a6 x5.2.length c6), (11, .slice a7 x6.1.length c7), (17, .slice a10 x16.1.length c10), (18, .int .i64 x16.2), (19, .int .i64 s1), (185, .bool (!(x19 == (decide (s1 < 0)))))]) ?_ ?_
                  · refine QRun_b [.bool x19, .int .i64 s1, .bool (decide (s1 < 0)), .bool (!(x19 == (decide (s1 < 0))))] 0 _ (by kernel_rfl) (fun w => by kernel_rfl) ?_
                    exact QRun_done [9, 10, 11, 17, 18, 19, 185] (by kernel_rfl) (by kernel_rfl)
                  refine Run_cond (b := !(x19 == (decide (s1 < 0)))) (by kernel_rfl) (fun hb19 => ?_) (fun hb19 => ?_)
                  · have hB1 := (M.ite_some hB1).1 hb19
                    refine Run_seq ?_
                    refine Run_reg 1 (by kernel_rfl) (L' := [(2, .bool false)]) ?_ ?_
                    · refine QRun_b [.bool false] 0 _ (by kernel_rfl) (fun w => by kernel_rfl) ?_
                      exact QRun_done [2] (by kernel_rfl) (by kernel_rfl)
                    have hB1 := M.ret_some hB1
                    have gx17 := houty1 _ hB1.symm
                    have hF := M.cont_inr' hF gx17
                    have hF := M.ret_some hF
                    subst hF
                    have H30 : Hold h h12 [] := H23.pick [] (by kernel_rfl)
                    exact Run_ret1 rfl (ResV_tmp (v := .bool false) (by kernel_rfl)) ⟨rfl, H30⟩
                  · have hB1 := (M.ite_some hB1).2 hb19
                    refine Run_skip ?_
                    refine Run_blk ?_
                    refine Run_reg 3 (by kernel_rfl) (L' := [(9, .slice a5 x5.1.length c5), (10, .slice a6 x5.2.length c6), (11, .slice a7 x6.1.length c7), (17, .slice a10 x16.1.length c10), (18, .int .i64 x16.2), (19, .int .i64 (w64 (s1 + 1)))]) ?_ ?_
                    · refine QRun_b [.int .i64 s1, .int .i64 (w64 (s1 + 1)), .int .i64 (w64 (s1 + 1))] 0 _ (by kernel_rfl) (fun w => by kernel_rfl) ?_
                      exact QRun_done [9, 10, 11, 17, 18, 19] (by kernel_rfl) (by kernel_rfl)
                    have hB1 := M.ret_some hB1
                    have gx17 := hgoy1 _ hB1.symm
                    exact Run_again [9, 10, 11, 17, 18, 19] (by kernel_rfl) my1 (Nat.lt_succ_self _) ⟨(w64 (s1 + 1)), gx17, rfl, H23⟩
                · refine Run_block ?_
                  refine Run_keep [9, 10, 11, 17, 18, 19, 20, 21] (L' := [(9, .slice a5 x5.1.length c5), (10, .slice a6 x5.2.length c6), (11, .slice a7 x6.1.length c7), (17, .slice a10 x16.1.length c10), (18, .int .i64 x16.2), (19, .int .i64 s1), (20, .bool true), (21, .int .i64 0)]) (by kernel_rfl) ?_
                  refine Run_loop (fun m L' h' => ∃ (i1 : Int) (s3 : Bool), 0 ≤ i1 ∧ M.forN (x5.2.length : Int) _ _ n m i1 s3 = some x19 ∧ L' = [(9, .slice a5 x5.1.length c5), (10, .slice a6 x5.2.length c6), (11, .slice a7 x6.1.length c7), (17, .slice a10 x16.1.length c10), (18, .int .i64 x16.2), (19, .int .i64 s1), (20, .bool s3), (21, .int .i64 i1)] ∧ Hold h h' [own cd23 a5 x5.1.length c5 x5.1, own cd2 a6 x5.2.length c6 x5.2, own cd2 a7 x6.1.length c7 x6.1, own cd2 a10 x16.1.length c10 x16.1]) ((x5.2.length : Int) - 0).toNat ⟨0, true, Int.le_refl _, gx19, rfl, H20⟩ ?_
                  rintro my2 _ h11 ⟨i1, s3, hloy2', gx19, rfl, H22⟩
                  refine Run_seq ?_
                  refine Run_seq ?_
                  refine Run_reg 4 (by kernel_rfl) (L' := [(9, .slice a5 x5.1.length c5), (10, .slice a6 x5.2.length c6), (11, .slice a7 x6.1.length c7), (17, .slice a10 x16.1.length c10), (18, .int .i64 x16.2), (19, .int .i64 s1), (20, .bool s3), (21, .int .i64 i1), (118, .bool (decide (i1 < (x5.2.length : Int))))]) ?_ ?_
                  · refine QRun_b [.int .i64 i1, .slice a6 x5.2.length c6, .int .i64 (x5.2.length : Int), .bool (decide (i1 < (x5.2.length : Int)))] 0 _ (by kernel_rfl) (fun w => by kernel_rfl) ?_
                    exact QRun_done [9, 10, 11, 17, 18, 19, 20, 21, 118] (by kernel_rfl) (by kernel_rfl)
                  refine Run_cond (b := decide (i1 < (x5.2.length : Int))) (by kernel_rfl) (fun hb12 => ?_) (fun hb12 => ?_)
                  · obtain ⟨my2, y2, rfl, hB2, hgoy2, houty2⟩ := M.for_go gx19 hb12
                    have hlty2 := of_decide_eq_true hb12
                    refine Run_skip ?_
                    refine Run_seq ?_
                    refine Run_block ?_
                    refine Run_seq ?_
                    obtain ⟨x20, hx13, hB2⟩ := M.bind_some hB2
                    obtain ⟨hx13l, hx13u, hx13⟩ := M.idx_some hx13
                    refine Run_reg 6 (by kernel_rfl) (L' := [(9, .slice a5 x5.1.length c5), (10, .slice a6 x5.2.length c6), (11, .slice a7 x6.1.length c7), (17, .slice a10 x16.1.length c10), (18, .int .i64 x16.2), (19, .int .i64 s1), (20, .bool s3), (21, .int .i64 i1), (22, .bool (x20 == (-1000000000000000)))]) ?_ ?_
                    · refine QRun_b [.slice a6 x5.2.length c6, .int .i64 i1] 0 _ (by kernel_rfl) (fun w => by kernel_rfl) ?_
                      refine QRun_y (.pointer (some (adr a6 (i1.toNat * 1)))) (by kernel_rfl) (Y_idx (t := 23) (e := 2) (sz := 1) (a := a6) (n := x5.2.length) (cap := c6) (kk := .i64) (i := i1) (by kernel_rfl) Try.underlying23 (by kernel_rfl) ((H22.rd 1 rfl).cell hx13).1 hx13l hx13u) ?_
                      refine QRun_y (.int .i64 x20) (by kernel_rfl) (Y_load1 (t := 2) (p := adr a6 (i1.toNat * 1)) (v := .int .i64 x20) (by kernel_rfl) (fun w => by kernel_rfl) (cd2_cell (H22.rd 1 rfl) hx13)) ?_
                      refine QRun_b [.bool (x20 == (-1000000000000000)), .bool (x20 == (-1000000000000000))] 4 _ (by kernel_rfl) (fun w => by kernel_rfl) ?_
                      exact QRun_done [9, 10, 11, 17, 18, 19, 20, 21, 22] (by kernel_rfl) (by kernel_rfl)
                    refine Run_seq ?_
                    refine Run_seq ?_
                    refine Run_reg 1 (by kernel_rfl) (L' := [(9, .slice a5 x5.1.length c5), (10, .slice a6 x5.2.length c6), (11, .slice a7 x6.1.length c7), (17, .slice a10 x16.1.length c10), (18, .int .i64 x16.2), (19, .int .i64 s1), (20, .bool s3), (21, .int .i64 i1), (22, .bool (x20 == (-1000000000000000))), (23, .int .i64 0)]) ?_ ?_
                    · refine QRun_b [.int .i64 0] 0 _ (by kernel_rfl) (fun w => by kernel_rfl) ?_
                      exact QRun_done [9, 10, 11, 17, 18, 19, 20, 21, 22, 23] (by kernel_rfl) (by kernel_rfl)
                    obtain ⟨x21, gx21, hB2⟩ := M.bind_some hB2
                    obtain ⟨hloy3, hhiy3, gx21⟩ := M.for_start gx21
                    refine Run_join (fun L' h' => L' = [(9, .slice a5 x5.1.length c5), (10, .slice a6 x5.2.length c6), (11, .slice a7 x6.1.length c7), (17, .slice a10 x16.1.length c10), (18, .int .i64 x16.2), (19, .int .i64 s1), (20, .bool s3), (21, .int .i64 i1), (22, .bool x21)] ∧ Hold h h' [own cd23 a5 x5.1.length c5 x5.1, own cd2 a6 x5.2.length c6 x5.2, own cd2 a7 x6.1.length c7 x6.1, own cd2 a10 x16.1.length c10 x16.1]) ?_ ?_
                    · rintro _ h14 ⟨rfl, H25⟩
                      refine Run_reg 5 (by kernel_rfl) (L' := [(9, .slice a5 x5.1.length c5), (10, .slice a6 x5.2.length c6), (11, .slice a7 x6.1.length c7), (17, .slice a10 x16.1.length c10), (18, .int .i64 x16.2), (19, .int .i64 s1), (20, .bool (s3 && x21)), (21, .int .i64 i1)]) ?_ ?_
                      · refine QRun_b [.bool s3] 0 _ (by kernel_rfl) (fun w => by kernel_rfl) ?_
                        refine QRun_seq 4 [(9, .slice a5 x5.1.length c5), (10, .slice a6 x5.2.length c6), (11, .slice a7 x6.1.length c7), (17, .slice a10 x16.1.length c10), (18, .int .i64 x16.2), (19, .int .i64 s1), (20, .bool s3), (21, .int .i64 i1), (181, .bool (s3 && x21))] ?_ ?_
                        · rcases Bool.eq_false_or_eq_true s3 with hb18 | hb18
                          · refine QRun_bool s3 true (by kernel_rfl) (fun w => by kernel_rfl) hb18 ?_
                            refine QRun_b [.bool x21] 2 _ (by kernel_rfl) (fun w => by kernel_rfl) ?_
                            refine QRun_bool x21 (s3 && x21) (by kernel_rfl) (fun w => by kernel_rfl) (by rw [hb18]; rfl) ?_
                            exact QRun_done [9, 10, 11, 17, 18, 19, 20, 21, 181] (by kernel_rfl) (by kernel_rfl)
                          · refine QRun_bool s3 false (by kernel_rfl) (fun w => by kernel_rfl) hb18 ?_
                            refine QRun_n (by kernel_rfl) ?_
                            refine QRun_bool false (s3 && x21) (by kernel_rfl) (fun w => by kernel_rfl) (by rw [hb18]; rfl) ?_
                            exact QRun_done [9, 10, 11, 17, 18, 19, 20, 21, 181] (by kernel_rfl) (by kernel_rfl)
                        refine QRun_b [.bool (s3 && x21)] 4 _ (by kernel_rfl) (fun w => by kernel_rfl) ?_
                        exact QRun_done [9, 10, 11, 17, 18, 19, 20, 21] (by kernel_rfl) (by kernel_rfl)
                      refine Run_blk ?_
                      refine Run_reg 3 (by kernel_rfl) (L' := [(9, .slice a5 x5.1.length c5), (10, .slice a6 x5.2.length c6), (11, .slice a7 x6.1.length c7), (17, .slice a10 x16.1.length c10), (18, .int .i64 x16.2), (19, .int .i64 s1), (20, .bool (s3 && x21)), (21, .int .i64 (i1 + 1))]) ?_ ?_
                      · refine QRun_b [.int .i64 i1] 0 _ (by kernel_rfl) (fun w => by kernel_rfl) ?_
                        refine QRun_y (.int .i64 (i1 + 1)) (by kernel_rfl) (Y_eq (v := .int .i64 (w64 (i1 + 1))) (Y_pure (fun w => by kernel_rfl)) (by rw [w64_eq _ (by omega)])) ?_
                        refine QRun_b [.int .i64 (i1 + 1)] 2 _ (by kernel_rfl) (fun w => by kernel_rfl) ?_
                        exact QRun_done [9, 10, 11, 17, 18, 19, 20, 21] (by kernel_rfl) (by kernel_rfl)
                      have hB2 := M.ret_some hB2
                      have gx19 := hgoy2 _ hB2.symm
                      exact Run_again [9, 10, 11, 17, 18, 19, 20, 21] (by kernel_rfl) my2 (Nat.lt_succ_self _) ⟨i1 + 1, (s3 && x21), by omega, gx19, rfl, H25⟩
                    · refine Run_block ?_
                      refine Run_keep [9, 10, 11, 17, 18, 19, 20, 21, 22, 23] (L' := [(9, .slice a5 x5.1.length c5), (10, .slice a6 x5.2.length c6), (11, .slice a7 x6.1.length c7), (17, .slice a10 x16.1.length c10), (18, .int .i64 x16.2), (19, .int .i64 s1), (20, .bool s3), (21, .int .i64 i1), (22, .bool (x20 == (-1000000000000000))), (23, .int .i64 0)]) (by kernel_rfl) ?_
                      refine Run_loop (fun m L' h' => ∃ (i2 : Int) (s4 : Bool), 0 ≤ i2 ∧ M.forN (x6.1.length : Int) _ _ n m i2 s4 = some x21 ∧ L' = [(9, .slice a5 x5.1.length c5), (10, .slice a6 x5.2.length c6), (11, .slice a7 x6.1.length c7), (17, .slice a10 x16.1.length c10), (18, .int .i64 x16.2), (19, .int .i64 s1), (20, .bool s3), (21, .int .i64 i1), (22, .bool s4), (23, .int .i64 i2)] ∧ Hold h h' [own cd23 a5 x5.1.length c5 x5.1, own cd2 a6 x5.2.length c6 x5.2, own cd2 a7 x6.1.length c7 x6.1, own cd2 a10 x16.1.length c10 x16.1]) ((x6.1.length : Int) - 0).toNat ⟨0, (x20 == (-1000000000000000)), Int.le_refl _, gx21, rfl, H22⟩ ?_
                      rintro my3 _ h13 ⟨i2, s4, hloy3', gx21, rfl, H24⟩
                      refine Run_seq ?_
                      refine Run_seq ?_
                      refine Run_reg 4 (by kernel_rfl) (L' := [(9, .slice a5 x5.1.length c5), (10, .slice a6 x5.2.length c6), (11, .slice a7 x6.1.length c7), (17, .slice a10 x16.1.length c10), (18, .int .i64 x16.2), (19, .int .i64 s1), (20, .bool s3), (21, .int .i64 i1), (22, .bool s4), (23, .int .i64 i2), (129, .bool (decide (i2 < (x6.1.length : Int))))]) ?_ ?_
                      · refine QRun_b [.int .i64 i2, .slice a7 x6.1.length c7, .int .i64 (x6.1.length : Int), .bool (decide (i2 < (x6.1.length : Int)))] 0 _ (by kernel_rfl) (fun w => by kernel_rfl) ?_
                        exact QRun_done [9, 10, 11, 17, 18, 19, 20, 21, 22, 23, 129] (by kernel_rfl) (by kernel_rfl)
                      refine Run_cond (b := decide (i2 < (x6.1.length : Int))) (by kernel_rfl) (fun hb13 => ?_) (fun hb13 => ?_)
                      · obtain ⟨my3, y3, rfl, hB3, hgoy3, houty3⟩ := M.for_go gx21 hb13
                        have hlty3 := of_decide_eq_true hb13
                        refine Run_skip ?_
                        refine Run_seq ?_
                        refine Run_block ?_
                        refine Run_seq ?_
                        obtain ⟨x22, hx14, hB3⟩ := M.bind_some hB3
                        obtain ⟨hx14l, hx14u, hx14⟩ := M.idx_some hx14
                        refine Run_reg 5 (by kernel_rfl) (L' := [(9, .slice a5 x5.1.length c5), (10, .slice a6 x5.2.length c6), (11, .slice a7 x6.1.length c7), (17, .slice a10 x16.1.length c10), (18, .int .i64 x16.2), (19, .int .i64 s1), (20, .bool s3), (21, .int .i64 i1), (22, .bool s4), (23, .int .i64 i2), (24, .int .i64 x22)]) ?_ ?_
                        · refine QRun_b [.slice a7 x6.1.length c7, .int .i64 i2] 0 _ (by kernel_rfl) (fun w => by kernel_rfl) ?_
                          refine QRun_y (.pointer (some (adr a7 (i2.toNat * 1)))) (by kernel_rfl) (Y_idx (t := 23) (e := 2) (sz := 1) (a := a7) (n := x6.1.length) (cap := c7) (kk := .i64) (i := i2) (by kernel_rfl) Try.underlying23 (by kernel_rfl) ((H24.rd 2 rfl).cell hx14).1 hx14l hx14u) ?_
                          refine QRun_y (.int .i64 x22) (by kernel_rfl) (Y_load1 (t := 2) (p := adr a7 (i2.toNat * 1)) (v := .int .i64 x22) (by kernel_rfl) (fun w => by kernel_rfl) (cd2_cell (H24.rd 2 rfl) hx14)) ?_
                          refine QRun_b [.int .i64 x22] 4 _ (by kernel_rfl) (fun w => by kernel_rfl) ?_
                          exact QRun_done [9, 10, 11, 17, 18, 19, 20, 21, 22, 23, 24] (by kernel_rfl) (by kernel_rfl)
                        obtain ⟨x23, gx23, hB3⟩ := M.bind_some hB3
                        refine Run_draw 43 mixed (by kernel_rfl) (by kernel_rfl) (L' := [(9, .slice a5 x5.1.length c5), (10, .slice a6 x5.2.length c6), (11, .slice a7 x6.1.length c7), (17, .slice a10 x16.1.length c10), (18, .int .i64 x16.2), (19, .int .i64 s1), (20, .bool s3), (21, .int .i64 i1), (22, .bool x23), (23, .int .i64 i2)]) ?_ ?_
                        · refine QRun_b [.bool s4] 0 _ (by kernel_rfl) (fun w => by kernel_rfl) ?_
                          refine QRun_seq 42 [(9, .slice a5 x5.1.length c5), (10, .slice a6 x5.2.length c6), (11, .slice a7 x6.1.length c7), (17, .slice a10 x16.1.length c10), (18, .int .i64 x16.2), (19, .int .i64 s1), (20, .bool s3), (21, .int .i64 i1), (22, .bool s4), (23, .int .i64 i2), (177, .bool x23)] ?_ ?_
                          · rcases Bool.eq_false_or_eq_true s4 with hb14 | hb14
                            · refine QRun_bool s4 true (by kernel_rfl) (fun w => by kernel_rfl) hb14 ?_
                              have gx23 := M.ret_some ((M.ite_some gx23).1 hb14)
                              refine QRun_n (by kernel_rfl) ?_
                              refine QRun_n (by kernel_rfl) ?_
                              refine QRun_n (by kernel_rfl) ?_
                              refine QRun_n (by kernel_rfl) ?_
                              refine QRun_n (by kernel_rfl) ?_
                              refine QRun_n (by kernel_rfl) ?_
                              refine QRun_n (by kernel_rfl) ?_
                              refine QRun_n (by kernel_rfl) ?_
                              refine QRun_n (by kernel_rfl) ?_
                              refine QRun_n (by kernel_rfl) ?_
                              refine QRun_n (by kernel_rfl) ?_
                              refine QRun_n (by kernel_rfl) ?_
                              refine QRun_n (by kernel_rfl) ?_
                              refine QRun_n (by kernel_rfl) ?_
                              refine QRun_n (by kernel_rfl) ?_
                              refine QRun_n (by kernel_rfl) ?_
                              refine QRun_n (by kernel_rfl) ?_
                              refine QRun_n (by kernel_rfl) ?_
                              refine QRun_n (by kernel_rfl) ?_
                              refine QRun_n (by kernel_rfl) ?_
                              refine QRun_n (by kernel_rfl) ?_
                              refine QRun_n (by kernel_rfl) ?_
                              refine QRun_n (by kernel_rfl) ?_
                              refine QRun_n (by kernel_rfl) ?_
                              refine QRun_n (by kernel_rfl) ?_
                              refine QRun_n (by kernel_rfl) ?_
                              refine QRun_n (by kernel_rfl) ?_
                              refine QRun_n (by kernel_rfl) ?_
                              refine QRun_n (by kernel_rfl) ?_
                              refine QRun_n (by kernel_rfl) ?_
                              refine QRun_n (by kernel_rfl) ?_
                              refine QRun_n (by kernel_rfl) ?_
                              refine QRun_n (by kernel_rfl) ?_
                              refine QRun_n (by kernel_rfl) ?_
                              refine QRun_n (by kernel_rfl) ?_
                              refine QRun_n (by kernel_rfl) ?_
                              refine QRun_n (by kernel_rfl) ?_
                              refine QRun_n (by kernel_rfl) ?_
                              refine QRun_n (by kernel_rfl) ?_
                              refine QRun_bool true x23 (by kernel_rfl) (fun w => by kernel_rfl) gx23 ?_
                              exact QRun_done [9, 10, 11, 17, 18, 19, 20, 21, 22, 23, 177] (by kernel_rfl) (by kernel_rfl)
                            · refine QRun_bool s4 false (by kernel_rfl) (fun w => by kernel_rfl) hb14 ?_
                              have gx23 := (M.ite_some gx23).2 hb14
                              obtain ⟨x24, gx24, gx23⟩ := M.bind_some gx23
                              obtain ⟨x27, gx27, gx23⟩ := M.bind_some gx23
                              obtain ⟨x29, gx29, gx23⟩ := M.bind_some gx23
                              have gx23 := M.ret_some gx23
                              refine QRun_b [.int .i64 i2, .int .i64 s1, .bool (i2 != s1)] 2 _ (by kernel_rfl) (fun w => by kernel_rfl) ?_
                              refine QRun_seq 15 [(9, .slice a5 x5.1.length c5), (10, .slice a6 x5.2.length c6), (11, .slice a7 x6.1.length c7), (17, .slice a10 x16.1.length c10), (18, .int .i64 x16.2), (19, .int .i64 s1), (20, .bool s3), (21, .int .i64 i1), (22, .bool s4), (23, .int .i64 i2), (24, .int .i64 x22), (137, .bool false), (150, .bool x24)] ?_ ?_
                              · rcases Bool.eq_false_or_eq_true (i2 != s1) with hb15 | hb15
                                · refine QRun_bool (i2 != s1) true (by kernel_rfl) (fun w => by kernel_rfl) hb15 ?_
                                  have gx24 := (M.ite_some gx24).1 hb15
                                  obtain ⟨x25, hx15, gx24⟩ := M.bind_some gx24
                                  obtain ⟨hx15l, hx15u, hx15⟩ := M.idx_some hx15
                                  have H26 := H24.toRows
                                  obtain ⟨a11, c11, H27⟩ := H26.pinRow hx15
                                  obtain ⟨x26, hx16, gx24⟩ := M.bind_some gx24
                                  obtain ⟨hx16l, hx16u, hx16⟩ := M.idx_some hx16
                                  have gx24 := M.ret_some gx24
                                  refine QRun_b [.slice a5 x5.1.length c5, .int .i64 i1] 6 _ (by kernel_rfl) (fun w => by kernel_rfl) ?_
                                  refine QRun_y (.pointer (some (adr a5 (i1.toNat * 1)))) (by kernel_rfl) (Y_idx (t := 22) (e := 23) (sz := 1) (a := a5) (n := x5.1.length) (cap := c5) (kk := .i64) (i := i1) (by kernel_rfl) Try.underlying22 (by kernel_rfl) ((H24.rd 0 rfl).cell hx15).1 hx15l hx15u) ?_
                                  refine QRun_y (.slice a11 x25.length c11) (by kernel_rfl) (Y_load1 (t := 23) (p := adr a5 (i1.toNat * 1)) (v := .slice a11 x25.length c11) (by kernel_rfl) (fun w => by kernel_rfl) (H27.cellPin 0 rfl 0 rfl)) ?_
                                  refine QRun_b [.int .i64 x22] 10 _ (by kernel_rfl) (fun w => by kernel_rfl) ?_
                                  refine QRun_y (.pointer (some (adr a11 (x22.toNat * 1)))) (by kernel_rfl) (Y_idx (t := 23) (e := 2) (sz := 1) (a := a11) (n := x25.length) (cap := c11) (kk := .i64) (i := x22) (by kernel_rfl) Try.underlying23 (by kernel_rfl) ((H27.rdPin 0 rfl 0 rfl).cell hx16).1 hx16l hx16u) ?_
                                  refine QRun_y (.int .i64 x26) (by kernel_rfl) (Y_load1 (t := 2) (p := adr a11 (x22.toNat * 1)) (v := .int .i64 x26) (by kernel_rfl) (fun w => by kernel_rfl) (cd2_cell (H27.rdPin 0 rfl 0 rfl) hx16)) ?_
                                  refine QRun_b [.bool (x26 != (-1000000000000000))] 13 _ (by kernel_rfl) (fun w => by kernel_rfl) ?_
                                  refine QRun_bool (x26 != (-1000000000000000)) x24 (by kernel_rfl) (fun w => by kernel_rfl) gx24 ?_
                                  exact QRun_done [9, 10, 11, 17, 18, 19, 20, 21, 22, 23, 24, 137, 150] (by kernel_rfl) (by kernel_rfl)
                                · refine QRun_bool (i2 != s1) false (by kernel_rfl) (fun w => by kernel_rfl) hb15 ?_
                                  have gx24 := M.ret_some ((M.ite_some gx24).2 hb15)
                                  refine QRun_n (by kernel_rfl) ?_
                                  refine QRun_n (by kernel_rfl) ?_
                                  refine QRun_n (by kernel_rfl) ?_
                                  refine QRun_n (by kernel_rfl) ?_
                                  refine QRun_n (by kernel_rfl) ?_
                                  refine QRun_n (by kernel_rfl) ?_
                                  refine QRun_n (by kernel_rfl) ?_
                                  refine QRun_n (by kernel_rfl) ?_
                                  refine QRun_bool false x24 (by kernel_rfl) (fun w => by kernel_rfl) gx24 ?_
                                  exact QRun_done [9, 10, 11, 17, 18, 19, 20, 21, 22, 23, 24, 137, 150] (by kernel_rfl) (by kernel_rfl)
                              refine QRun_seq 22 [(9, .slice a5 x5.1.length c5), (10, .slice a6 x5.2.length c6), (11, .slice a7 x6.1.length c7), (17, .slice a10 x16.1.length c10), (18, .int .i64 x16.2), (19, .int .i64 s1), (20, .bool s3), (21, .int .i64 i1), (22, .bool s4), (23, .int .i64 i2), (24, .int .i64 x22), (137, .bool false), (157, .bool x27)] ?_ ?_
                              · rcases Bool.eq_false_or_eq_true x24 with hb16 | hb16
                                · refine QRun_bool x24 true (by kernel_rfl) (fun w => by kernel_rfl) hb16 ?_
                                  have gx27 := (M.ite_some gx27).1 hb16
                                  obtain ⟨x28, hx17, gx27⟩ := M.bind_some gx27
                                  obtain ⟨hx17l, hx17u, hx17⟩ := M.idx_some hx17
                                  have gx27 := M.ret_some gx27
                                  refine QRun_b [.slice a10 x16.1.length c10, .int .i64 x22] 16 _ (by kernel_rfl) (fun w => by kernel_rfl) ?_
                                  refine QRun_y (.pointer (some (adr a10 (x22.toNat * 1)))) (by kernel_rfl) (Y_idx (t := 23) (e := 2) (sz := 1) (a := a10) (n := x16.1.length) (cap := c10) (kk := .i64) (i := x22) (by kernel_rfl) Try.underlying23 (by kernel_rfl) ((H24.rd 3 rfl).cell hx17).1 hx17l hx17u) ?_
                                  refine QRun_y (.int .i64 x28) (by kernel_rfl) (Y_load1 (t := 2) (p := adr a10 (x22.toNat * 1)) (v := .int .i64 x28) (by kernel_rfl) (fun w => by kernel_rfl) (cd2_cell (H24.rd 3 rfl) hx17)) ?_
                                  refine QRun_b [.bool (x28 != (-1000000000000000))] 20 _ (by kernel_rfl) (fun w => by kernel_rfl) ?_
                                  refine QRun_bool (x28 != (-1000000000000000)) x27 (by kernel_rfl) (fun w => by kernel_rfl) gx27 ?_
                                  exact QRun_done [9, 10, 11, 17, 18, 19, 20, 21, 22, 23, 24, 137, 157] (by kernel_rfl) (by kernel_rfl)
                                · refine QRun_bool x24 false (by kernel_rfl) (fun w => by kernel_rfl) hb16 ?_
                                  have gx27 := M.ret_some ((M.ite_some gx27).2 hb16)
                                  refine QRun_n (by kernel_rfl) ?_
                                  refine QRun_n (by kernel_rfl) ?_
                                  refine QRun_n (by kernel_rfl) ?_
                                  refine QRun_n (by kernel_rfl) ?_
                                  refine QRun_n (by kernel_rfl) ?_
                                  refine QRun_bool false x27 (by kernel_rfl) (fun w => by kernel_rfl) gx27 ?_
                                  exact QRun_done [9, 10, 11, 17, 18, 19, 20, 21, 22, 23, 24, 137, 157] (by kernel_rfl) (by kernel_rfl)
                              refine QRun_seq 41 [(9, .slice a5 x5.1.length c5), (10, .slice a6 x5.2.length c6), (11, .slice a7 x6.1.length c7), (17, .slice a10 x16.1.length c10), (18, .int .i64 x16.2), (19, .int .i64 s1), (20, .bool s3), (21, .int .i64 i1), (22, .bool s4), (23, .int .i64 i2), (137, .bool false), (176, .bool x29)] ?_ ?_
                              · rcases Bool.eq_false_or_eq_true x27 with hb17 | hb17
                                · refine QRun_bool x27 true (by kernel_rfl) (fun w => by kernel_rfl) hb17 ?_
                                  have gx29 := (M.ite_some gx29).1 hb17
                                  obtain ⟨x30, hx18, gx29⟩ := M.bind_some gx29
                                  obtain ⟨hx18l, hx18u, hx18⟩ := M.idx_some hx18
                                  have H28 := H24.toRows
                                  obtain ⟨a12, c12, H29⟩ := H28.pinRow hx18
                                  obtain ⟨x31, hx19, gx29⟩ := M.bind_some gx29
                                  obtain ⟨hx19l, hx19u, hx19⟩ := M.idx_some hx19
                                  obtain ⟨x32, hx20, gx29⟩ := M.bind_some gx29
                                  obtain ⟨hx20l, hx20u, hx20⟩ := M.idx_some hx20
                                  obtain ⟨x33, hx21, gx29⟩ := M.bind_some gx29
                                  obtain ⟨hx21l, hx21u, hx21⟩ := M.idx_some hx21
                                  have gx29 := M.ret_some gx29
                                  refine QRun_b [.slice a5 x5.1.length c5, .int .i64 i1] 23 _ (by kernel_rfl) (fun w => by kernel_rfl) ?_
                                  refine QRun_y (.pointer (some (adr a5 (i1.toNat * 1)))) (by kernel_rfl) (Y_idx (t := 22) (e := 23) (sz := 1) (a := a5) (n := x5.1.length) (cap := c5) (kk := .i64) (i := i1) (by kernel_rfl) Try.underlying22 (by kernel_rfl) ((H24.rd 0 rfl).cell hx18).1 hx18l hx18u) ?_
                                  refine QRun_y (.slice a12 x30.length c12) (by kernel_rfl) (Y_load1 (t := 23) (p := adr a5 (i1.toNat * 1)) (v := .slice a12 x30.length c12) (by kernel_rfl) (fun w => by kernel_rfl) (H29.cellPin 0 rfl 0 rfl)) ?_
                                  refine QRun_b [.int .i64 x22] 27 _ (by kernel_rfl) (fun w => by kernel_rfl) ?_
                                  refine QRun_y (.pointer (some (adr a12 (x22.toNat * 1)))) (by kernel_rfl) (Y_idx (t := 23) (e := 2) (sz := 1) (a := a12) (n := x30.length) (cap := c12) (kk := .i64) (i := x22) (by kernel_rfl) Try.underlying23 (by kernel_rfl) ((H29.rdPin 0 rfl 0 rfl).cell hx19).1 hx19l hx19u) ?_
                                  refine QRun_y (.int .i64 x31) (by kernel_rfl) (Y_load1 (t := 2) (p := adr a12 (x22.toNat * 1)) (v := .int .i64 x31) (by kernel_rfl) (fun w => by kernel_rfl) (cd2_cell (H29.rdPin 0 rfl 0 rfl) hx19)) ?_
                                  refine QRun_b [.slice a10 x16.1.length c10, .int .i64 x22] 30 _ (by kernel_rfl) (fun w => by kernel_rfl) ?_
                                  refine QRun_y (.pointer (some (adr a10 (x22.toNat * 1)))) (by kernel_rfl) (Y_idx (t := 23) (e := 2) (sz := 1) (a := a10) (n := x16.1.length) (cap := c10) (kk := .i64) (i := x22) (by kernel_rfl) Try.underlying23 (by kernel_rfl) ((H29.rd 3 rfl).cell hx20).1 hx20l hx20u) ?_
                                  refine QRun_y (.int .i64 x32) (by kernel_rfl) (Y_load1 (t := 2) (p := adr a10 (x22.toNat * 1)) (v := .int .i64 x32) (by kernel_rfl) (fun w => by kernel_rfl) (cd2_cell (H29.rd 3 rfl) hx20)) ?_
                                  refine QRun_b [.int .i64 (w64 (x31 + x32)), .slice a6 x5.2.length c6, .int .i64 i1] 34 _ (by kernel_rfl) (fun w => by kernel_rfl) ?_
                                  refine QRun_y (.pointer (some (adr a6 (i1.toNat * 1)))) (by kernel_rfl) (Y_idx (t := 23) (e := 2) (sz := 1) (a := a6) (n := x5.2.length) (cap := c6) (kk := .i64) (i := i1) (by kernel_rfl) Try.underlying23 (by kernel_rfl) ((H29.rd 1 rfl).cell hx21).1 hx21l hx21u) ?_
                                  refine QRun_y (.int .i64 x33) (by kernel_rfl) (Y_load1 (t := 2) (p := adr a6 (i1.toNat * 1)) (v := .int .i64 x33) (by kernel_rfl) (fun w => by kernel_rfl) (cd2_cell (H29.rd 1 rfl) hx21)) ?_
                                  refine QRun_b [.bool ((w64 (x31 + x32)) == x33)] 39 _ (by kernel_rfl) (fun w => by kernel_rfl) ?_
                                  refine QRun_bool ((w64 (x31 + x32)) == x33) x29 (by kernel_rfl) (fun w => by kernel_rfl) gx29 ?_
                                  exact QRun_done [9, 10, 11, 17, 18, 19, 20, 21, 22, 23, 137, 176] (by kernel_rfl) (by kernel_rfl)
                                · refine QRun_bool x27 false (by kernel_rfl) (fun w => by kernel_rfl) hb17 ?_
                                  have gx29 := M.ret_some ((M.ite_some gx29).2 hb17)
                                  refine QRun_n (by kernel_rfl) ?_
                                  refine QRun_n (by kernel_rfl) ?_
                                  refine QRun_n (by kernel_rfl) ?_
                                  refine QRun_n (by kernel_rfl) ?_
                                  refine QRun_n (by kernel_rfl) ?_
                                  refine QRun_n (by kernel_rfl) ?_
                                  refine QRun_n (by kernel_rfl) ?_
                                  refine QRun_n (by kernel_rfl) ?_
                                  refine QRun_n (by kernel_rfl) ?_
                                  refine QRun_n (by kernel_rfl) ?_
                                  refine QRun_n (by kernel_rfl) ?_
                                  refine QRun_n (by kernel_rfl) ?_
                                  refine QRun_n (by kernel_rfl) ?_
                                  refine QRun_n (by kernel_rfl) ?_
                                  refine QRun_n (by kernel_rfl) ?_
                                  refine QRun_n (by kernel_rfl) ?_
                                  refine QRun_n (by kernel_rfl) ?_
                                  refine QRun_bool false x29 (by kernel_rfl) (fun w => by kernel_rfl) gx29 ?_
                                  exact QRun_done [9, 10, 11, 17, 18, 19, 20, 21, 22, 23, 137, 176] (by kernel_rfl) (by kernel_rfl)
                              refine QRun_bool x29 x23 (by kernel_rfl) (fun w => by kernel_rfl) gx23 ?_
                              exact QRun_done [9, 10, 11, 17, 18, 19, 20, 21, 22, 23, 177] (by kernel_rfl) (by kernel_rfl)
                          refine QRun_b [.bool x23] 42 _ (by kernel_rfl) (fun w => by kernel_rfl) ?_
                          exact QRun_done [9, 10, 11, 17, 18, 19, 20, 21, 22, 23] (by kernel_rfl) (by kernel_rfl)
                        refine Run_blk ?_
                        refine Run_reg 3 (by kernel_rfl) (L' := [(9, .slice a5 x5.1.length c5), (10, .slice a6 x5.2.length c6), (11, .slice a7 x6.1.length c7), (17, .slice a10 x16.1.length c10), (18, .int .i64 x16.2), (19, .int .i64 s1), (20, .bool s3), (21, .int .i64 i1), (22, .bool x23), (23, .int .i64 (i2 + 1))]) ?_ ?_
                        · refine QRun_b [.int .i64 i2] 0 _ (by kernel_rfl) (fun w => by kernel_rfl) ?_
                          refine QRun_y (.int .i64 (i2 + 1)) (by kernel_rfl) (Y_eq (v := .int .i64 (w64 (i2 + 1))) (Y_pure (fun w => by kernel_rfl)) (by rw [w64_eq _ (by omega)])) ?_
                          refine QRun_b [.int .i64 (i2 + 1)] 2 _ (by kernel_rfl) (fun w => by kernel_rfl) ?_
                          exact QRun_done [9, 10, 11, 17, 18, 19, 20, 21, 22, 23] (by kernel_rfl) (by kernel_rfl)
                        have hB3 := M.ret_some hB3
                        have gx21 := hgoy3 _ hB3.symm
                        exact Run_again [9, 10, 11, 17, 18, 19, 20, 21, 22, 23] (by kernel_rfl) my3 (Nat.lt_succ_self _) ⟨i2 + 1, x23, by omega, gx21, rfl, H24⟩
                      · have gx21 := M.for_end gx21 hb13
                        subst gx21
                        refine Run_exit (k' := _) rfl ?_
                        exact Run_fall [9, 10, 11, 17, 18, 19, 20, 21, 22] (by kernel_rfl) ⟨rfl, H24⟩
                  · have gx19 := M.for_end gx19 hb12
                    subst gx19
                    refine Run_exit (k' := _) rfl ?_
                    exact Run_fall [9, 10, 11, 17, 18, 19, 20] (by kernel_rfl) ⟨rfl, H22⟩
              · have hB1 := (M.ite_some hB1).2 hb11
                refine Run_exit (k' := _) rfl ?_
                have H31 : Hold h h9 [] := H20.pick [] (by kernel_rfl)
                have hB1 := M.ret_some hB1
                have gx17 := houty1 _ hB1.symm
                subst gx17
                exact Run_fall [] (by kernel_rfl) ⟨s1, rfl, rfl, H31⟩
      · have hF := (M.ite_some hF).2 hb6
        refine Run_skip ?_
        refine Run_seq ?_
        refine Run_seq ?_
        refine Run_reg 2 (by kernel_rfl) (L' := [(9, .slice a5 x5.1.length c5), (10, .slice a6 x5.2.length c6), (11, .slice a7 x6.1.length c7), (98, .bool (x6.2 != 0))]) ?_ ?_
        · refine QRun_b [.int .i64 x6.2, .bool (x6.2 != 0)] 0 _ (by kernel_rfl) (fun w => by kernel_rfl) ?_
          exact QRun_done [9, 10, 11, 98] (by kernel_rfl) (by kernel_rfl)
        refine Run_cond (b := x6.2 != 0) (by kernel_rfl) (fun hb20 => ?_) (fun hb20 => ?_)
        · have hF := (M.ite_some hF).1 hb20
          refine Run_seq ?_
          refine Run_reg 1 (by kernel_rfl) (L' := [(2, .bool true)]) ?_ ?_
          · refine QRun_b [.bool true] 0 _ (by kernel_rfl) (fun w => by kernel_rfl) ?_
            exact QRun_done [2] (by kernel_rfl) (by kernel_rfl)
          have hF := M.ret_some hF
          subst hF
          have H33 : Hold h h6 [] := H12.pick [] (by kernel_rfl)
          exact Run_ret1 rfl (ResV_tmp (v := .bool true) (by kernel_rfl)) ⟨rfl, H33⟩
        · have hF := (M.ite_some hF).2 hb20
          refine Run_skip ?_
          refine Run_seq ?_
          refine Run_ops ?_
          refine Run_b [.slice a5 x5.1.length c5, .slice a6 x5.2.length c6] 0 _ (by kernel_rfl) (fun w => by kernel_rfl) ?_
          obtain ⟨x35, hx22, hF⟩ := M.bind_some hF
          refine Run_E (by kernel_rfl) ?_
          refine E_call (f := 19) (args := #[.slice a5 x5.1.length c5, .slice a6 x5.2.length c6]) (w_impl_GreatestSub h6 x5.1 a5 c5 (H12.rd 2 rfl) x5.2 a6 c6 (H12.rd 3 rfl) _ _ hx22) (by kernel_rfl) (fun v9 h15 hp9 => ?_)
          obtain ⟨a13, c13, rfl, H34⟩ := hp9
          have H35 : Hold h h15 [own cd2 a13 x35.1.length c13 x35.1, own cd2 a8 x7.1.length c8 x7.1, own cd2 a7 x6.1.length c7 x6.1, own cd23 a5 x5.1.length c5 x5.1, own cd2 a6 x5.2.length c6 x5.2, own cd2 a4 x4.1.length c4 x4.1, own cd2 a3 x3.1.length c3 x3.1, own cd23 a1 x2.1.length c1 x2.1, own cd2 a2 x2.2.length c2 x2.2] := H12.call H34 rfl
          refine Run_b [.tuple #[.slice a13 x35.1.length c13, .int .i64 x35.2], .slice a13 x35.1.length c13, .int .i64 x35.2, .slice a13 x35.1.length c13, .int .i64 x35.2] 3 _ (by kernel_rfl) (fun w => by kernel_rfl) ?_
          refine Run_nil (by kernel_rfl) ?_
          refine Run_keep [9, 10, 11, 17, 18] (L' := [(9, .slice a5 x5.1.length c5), (10, .slice a6 x5.2.length c6), (11, .slice a7 x6.1.length c7), (17, .slice a13 x35.1.length c13), (18, .int .i64 x35.2)]) (by kernel_rfl) ?_
          refine Run_seq ?_
          refine Run_seq ?_
          refine Run_reg 1 (by kernel_rfl) (L' := [(9, .slice a5 x5.1.length c5), (10, .slice a6 x5.2.length c6), (11, .slice a7 x6.1.length c7), (17, .slice a13 x35.1.length c13), (18, .int .i64 x35.2), (19, .int .i64 (-1))]) ?_ ?_
          · refine QRun_b [.int .i64 (-1)] 0 _ (by kernel_rfl) (fun w => by kernel_rfl) ?_
            exact QRun_done [9, 10, 11, 17, 18, 19] (by kernel_rfl) (by kernel_rfl)
          obtain ⟨x36, gx36, hF⟩ := M.bind_some hF
          refine Run_join (fun L' h' => ∃ (s6 : Int), x36 = .inl s6 ∧ L' = [] ∧ Hold h h' []) ?_ ?_
          · rintro _ h17 ⟨s6, es6, rfl, H37⟩
            have hF := M.cont_inl' hF es6
            refine Run_seq ?_
            refine Run_reg 1 (by kernel_rfl) (L' := [(2, .bool true)]) ?_ ?_
            · refine QRun_b [.bool true] 0 _ (by kernel_rfl) (fun w => by kernel_rfl) ?_
              exact QRun_done [2] (by kernel_rfl) (by kernel_rfl)
            have hF := M.ret_some hF
            subst hF
            exact Run_ret1 rfl (ResV_tmp (v := .bool true) (by kernel_rfl)) ⟨rfl, H37⟩
          · refine Run_block ?_
            have H48 : Hold h h15 [own cd23 a5 x5.1.length c5 x5.1, own cd2 a6 x5.2.length c6 x5.2, own cd2 a7 x6.1.length c7 x6.1, own cd2 a13 x35.1.length c13 x35.1] := H35.pick [3, 4, 2, 0] (by kernel_rfl)
            refine Run_keep [9, 10, 11, 17, 18, 19] (L' := [(9, .slice a5 x5.1.length c5), (10, .slice a6 x5.2.length c6), (11, .slice a7 x6.1.length c7), (17, .slice a13 x35.1.length c13), (18, .int .i64 x35.2), (19, .int .i64 (-1))]) (by kernel_rfl) ?_
            refine Run_loop (fun m L' h' => ∃ (s5 : Int), M.loopN _ n m s5 = some x36 ∧ L' = [(9, .slice a5 x5.1.length c5), (10, .slice a6 x5.2.length c6), (11, .slice a7 x6.1.length c7), (17, .slice a13 x35.1.length c13), (18, .int .i64 x35.2), (19, .int .i64 s5)] ∧ Hold h h' [own cd23 a5 x5.1.length c5 x5.1, own cd2 a6 x5.2.length c6 x5.2, own cd2 a7 x6.1.length c7 x6.1, own cd2 a13 x35.1.length c13 x35.1]) n ⟨(-1), gx36, rfl, H48⟩ ?_
            rintro my4 _ h16 ⟨s5, gx36, rfl, H36⟩
            obtain ⟨my4, y4, rfl, hB4, hgoy4, houty4⟩ := M.loop_some gx36
            refine Run_seq ?_
            refine Run_seq ?_
            refine Run_reg 8 (by kernel_rfl) (L' := [(9, .slice a5 x5.1.length c5), (10, .slice a6 x5.2.length c6), (11, .slice a7 x6.1.length c7), (17, .slice a13 x35.1.length c13), (18, .int .i64 x35.2), (19, .int .i64 s5), (112, .bool ((x35.2 == 0) && (decide (s5 < (x6.1.length : Int)))))]) ?_ ?_
            · refine QRun_b [.int .i64 x35.2, .bool (x35.2 == 0)] 0 _ (by kernel_rfl) (fun w => by kernel_rfl) ?_
              refine QRun_seq 8 [(9, .slice a5 x5.1.length c5), (10, .slice a6 x5.2.length c6), (11, .slice a7 x6.1.length c7), (17, .slice a13 x35.1.length c13), (18, .int .i64 x35.2), (19, .int .i64 s5), (112, .bool ((x35.2 == 0) && (decide (s5 < (x6.1.length : Int)))))] ?_ ?_
              · rcases Bool.eq_false_or_eq_true (x35.2 == 0) with hb21 | hb21
                · refine QRun_bool (x35.2 == 0) true (by kernel_rfl) (fun w => by kernel_rfl) hb21 ?_
                  refine QRun_b [.int .i64 s5, .slice a7 x6.1.length c7, .int .i64 (x6.1.length : Int), .bool (decide (s5 < (x6.1.length : Int)))] 3 _ (by kernel_rfl) (fun w => by kernel_rfl) ?_
                  refine QRun_bool (decide (s5 < (x6.1.length : Int))) ((x35.2 == 0) && (decide (s5 < (x6.1.length : Int)))) (by kernel_rfl) (fun w => by kernel_rfl) (by rw [hb21]; rfl) ?_
                  exact QRun_done [9, 10, 11, 17, 18, 19, 112] (by kernel_rfl) (by kernel_rfl)
                · refine QRun_bool (x35.2 == 0) false (by kernel_rfl) (fun w => by kernel_rfl) hb21 ?_
                  refine QRun_n (by kernel_rfl) ?_
                  refine QRun_n (by kernel_rfl) ?_
                  refine QRun_n (by kernel_rfl) ?_
                  refine QRun_n (by kernel_rfl) ?_
                  refine QRun_bool false ((x35.2 == 0) && (decide (s5 < (x6.1.length : Int)))) (by kernel_rfl) (fun w => by kernel_rfl) (by rw [hb21]; rfl) ?_
                  exact QRun_done [9, 10, 11, 17, 18, 19, 112] (by kernel_rfl) (by kernel_rfl)
              exact QRun_done [9, 10, 11, 17, 18, 19, 112] (by kernel_rfl) (by kernel_rfl)
            refine Run_cond (b := (x35.2 == 0) && (decide (s5 < (x6.1.length : Int)))) (by kernel_rfl) (fun hb22 => ?_) (fun hb22 => ?_)
            · have hB4 := (M.ite_some hB4).1 hb22
              refine Run_skip ?_
              refine Run_seq ?_
              refine Run_block ?_
              refine Run_seq ?_
              refine Run_reg 1 (by kernel_rfl) (L' := [(9, .slice a5 x5.1.length c5), (10, .slice a6 x5.2.length c6), (11, .slice a7 x6.1.length c7), (17, .slice a13 x35.1.length c13), (18, .int .i64 x35.2), (19, .int .i64 s5), (20, .bool true)]) ?_ ?_
              · refine QRun_b [.bool true] 0 _ (by kernel_rfl) (fun w => by kernel_rfl) ?_
                exact QRun_done [9, 10, 11, 17, 18, 19, 20] (by kernel_rfl) (by kernel_rfl)
              refine Run_seq ?_
              refine Run_seq ?_
              refine Run_reg 1 (by kernel_rfl) (L' := [(9, .slice a5 x5.1.length c5), (10, .slice a6 x5.2.length c6), (11, .slice a7 x6.1.length c7), (17, .slice a13 x35.1.length c13), (18, .int .i64 x35.2), (19, .int .i64 s5), (20, .bool true), (21, .int .i64 0)]) ?_ ?_
              · refine QRun_b [.int .i64 0] 0 _ (by kernel_rfl) (fun w => by kernel_rfl) ?_
                exact QRun_done [9, 10, 11, 17, 18, 19, 20, 21] (by kernel_rfl) (by kernel_rfl)
              obtain ⟨x38, gx38, hB4⟩ := M.bind_some hB4
              obtain ⟨hloy5, hhiy5, gx38⟩ := M.for_start gx38
              refine Run_join (fun L' h' => L' = [(9, .slice a5 x5.1.length c5), (10, .slice a6 x5.2.length c6), (11, .slice a7 x6.1.length c7), (17, .slice a13 x35.1.length c13), (18, .int .i64 x35.2), (19, .int .i64 s5), (20, .bool x38)] ∧ Hold h h' [own cd23 a5 x5.1.length c5 x5.1, own cd2 a6 x5.2.length c6 x5.2, own cd2 a7 x6.1.length c7 x6.1, own cd2 a13 x35.1.length c13 x35.1]) ?_ ?_
              · rintro _ h19 ⟨rfl, H39⟩
                refine Run_seq ?_
                refine Run_reg 4 (by kernel_rfl) (L' := [(9, .slice a5 x5.1.length c5), (10, .slice a6 x5.2.length c6), (11, .slice a7 x6.1.length c7), (17, .slice a13 x35.1.length c13), (18, .int .i64 x35.2), (19, .int .i64 s5), (185, .bool (!(x38 == (decide (s5 < 0)))))]) ?_ ?_
                · refine QRun_b [.bool x38, .int .i64 s5, .bool (decide (s5 < 0)), .bool (!(x38 == (decide (s5 < 0))))] 0 _ (by kernel_rfl) (fun w => by kernel_rfl) ?_
                  exact QRun_done [9, 10, 11, 17, 18, 19, 185] (by kernel_rfl) (by kernel_rfl)
                refine Run_cond (b := !(x38 == (decide (s5 < 0)))) (by kernel_rfl) (fun hb30 => ?_) (fun hb30 => ?_)
                · have hB4 := (M.ite_some hB4).1 hb30
                  refine Run_seq ?_
                  refine Run_reg 1 (by kernel_rfl) (L' := [(2, .bool false)]) ?_ ?_
                  · refine QRun_b [.bool false] 0 _ (by kernel_rfl) (fun w => by kernel_rfl) ?_
                    exact QRun_done [2] (by kernel_rfl) (by kernel_rfl)
                  have hB4 := M.ret_some hB4
                  have gx36 := houty4 _ hB4.symm
                  have hF := M.cont_inr' hF gx36
                  have hF := M.ret_some hF
                  subst hF
                  have H46 : Hold h h19 [] := H39.pick [] (by kernel_rfl)
                  exact Run_ret1 rfl (ResV_tmp (v := .bool false) (by kernel_rfl)) ⟨rfl, H46⟩
                · have hB4 := (M.ite_some hB4).2 hb30
                  refine Run_skip ?_
                  refine Run_blk ?_
                  refine Run_reg 3 (by kernel_rfl) (L' := [(9, .slice a5 x5.1.length c5), (10, .slice a6 x5.2.length c6), (11, .slice a7 x6.1.length c7), (17, .slice a13 x35.1.length c13), (18, .int .i64 x35.2), (19, .int .i64 (w64 (s5 + 1)))]) ?_ ?_
                  · refine QRun_b [.int .i64 s5, .int .i64 (w64 (s5 + 1)), .int .i64 (w64 (s5 + 1))] 0 _ (by kernel_rfl) (fun w => by kernel_rfl) ?_
                    exact QRun_done [9, 10, 11, 17, 18, 19] (by kernel_rfl) (by kernel_rfl)
                  have hB4 := M.ret_some hB4
                  have gx36 := hgoy4 _ hB4.symm
                  exact Run_again [9, 10, 11, 17, 18, 19] (by kernel_rfl) my4 (Nat.lt_succ_self _) ⟨(w64 (s5 + 1)), gx36, rfl, H39⟩
              · refine Run_block ?_
                refine Run_keep [9, 10, 11, 17, 18, 19, 20, 21] (L' := [(9, .slice a5 x5.1.length c5), (10, .slice a6 x5.2.length c6), (11, .slice a7 x6.1.length c7), (17, .slice a13 x35.1.length c13), (18, .int .i64 x35.2), (19, .int .i64 s5), (20, .bool true), (21, .int .i64 0)]) (by kernel_rfl) ?_
                refine Run_loop (fun m L' h' => ∃ (i3 : Int) (s7 : Bool), 0 ≤ i3 ∧ M.forN (x5.2.length : Int) _ _ n m i3 s7 = some x38 ∧ L' = [(9, .slice a5 x5.1.length c5), (10, .slice a6 x5.2.length c6), (11, .slice a7 x6.1.length c7), (17, .slice a13 x35.1.length c13), (18, .int .i64 x35.2), (19, .int .i64 s5), (20, .bool s7), (21, .int .i64 i3)] ∧ Hold h h' [own cd23 a5 x5.1.length c5 x5.1, own cd2 a6 x5.2.length c6 x5.2, own cd2 a7 x6.1.length c7 x6.1, own cd2 a13 x35.1.length c13 x35.1]) ((x5.2.length : Int) - 0).toNat ⟨0, true, Int.le_refl _, gx38, rfl, H36⟩ ?_
                rintro my5 _ h18 ⟨i3, s7, hloy5', gx38, rfl, H38⟩
                refine Run_seq ?_
                refine Run_seq ?_
                refine Run_reg 4 (by kernel_rfl) (L' := [(9, .slice a5 x5.1.length c5), (10, .slice a6 x5.2.length c6), (11, .slice a7 x6.1.length c7), (17, .slice a13 x35.1.length c13), (18, .int .i64 x35.2), (19, .int .i64 s5), (20, .bool s7), (21, .int .i64 i3), (118, .bool (decide (i3 < (x5.2.length : Int))))]) ?_ ?_
                · refine QRun_b [.int .i64 i3, .slice a6 x5.2.length c6, .int .i64 (x5.2.length : Int), .bool (decide (i3 < (x5.2.length : Int)))] 0 _ (by kernel_rfl) (fun w => by kernel_rfl) ?_
                  exact QRun_done [9, 10, 11, 17, 18, 19, 20, 21, 118] (by kernel_rfl) (by kernel_rfl)
                refine Run_cond (b := decide (i3 < (x5.2.length : Int))) (by kernel_rfl) (fun hb23 => ?_) (fun hb23 => ?_)
                · obtain ⟨my5, y5, rfl, hB5, hgoy5, houty5⟩ := M.for_go gx38 hb23
                  have hlty5 := of_decide_eq_true hb23
                  refine Run_skip ?_
                  refine Run_seq ?_
                  refine Run_block ?_
                  refine Run_seq ?_
                  obtain ⟨x39, hx23, hB5⟩ := M.bind_some hB5
                  obtain ⟨hx23l, hx23u, hx23⟩ := M.idx_some hx23
                  refine Run_reg 6 (by kernel_rfl) (L' := [(9, .slice a5 x5.1.length c5), (10, .slice a6 x5.2.length c6), (11, .slice a7 x6.1.length c7), (17, .slice a13 x35.1.length c13), (18, .int .i64 x35.2), (19, .int .i64 s5), (20, .bool s7), (21, .int .i64 i3), (22, .bool (x39 == (-1000000000000000)))]) ?_ ?_
                  · refine QRun_b [.slice a6 x5.2.length c6, .int .i64 i3] 0 _ (by kernel_rfl) (fun w => by kernel_rfl) ?_
                    refine QRun_y (.pointer (some (adr a6 (i3.toNat * 1)))) (by kernel_rfl) (Y_idx (t := 23) (e := 2) (sz := 1) (a := a6) (n := x5.2.length) (cap := c6) (kk := .i64) (i := i3) (by kernel_rfl) Try.underlying23 (by kernel_rfl) ((H38.rd 1 rfl).cell hx23).1 hx23l hx23u) ?_
                    refine QRun_y (.int .i64 x39) (by kernel_rfl) (Y_load1 (t := 2) (p := adr a6 (i3.toNat * 1)) (v := .int .i64 x39) (by kernel_rfl) (fun w => by kernel_rfl) (cd2_cell (H38.rd 1 rfl) hx23)) ?_
                    refine QRun_b [.bool (x39 == (-1000000000000000)), .bool (x39 == (-1000000000000000))] 4 _ (by kernel_rfl) (fun w => by kernel_rfl) ?_
                    exact QRun_done [9, 10, 11, 17, 18, 19, 20, 21, 22] (by kernel_rfl) (by kernel_rfl)
                  refine Run_seq ?_
                  refine Run_seq ?_
                  refine Run_reg 1 (by kernel_rfl) (L' := [(9, .slice a5 x5.1.length c5), (10, .slice a6 x5.2.length c6), (11, .slice a7 x6.1.length c7), (17, .slice a13 x35.1.length c13), (18, .int .i64 x35.2), (19, .int .i64 s5), (20, .bool s7), (21, .int .i64 i3), (22, .bool (x39 == (-1000000000000000))), (23, .int .i64 0)]) ?_ ?_
                  · refine QRun_b [.int .i64 0] 0 _ (by kernel_rfl) (fun w => by kernel_rfl) ?_
                    exact QRun_done [9, 10, 11, 17, 18, 19, 20, 21, 22, 23] (by kernel_rfl) (by kernel_rfl)
                  obtain ⟨x40, gx40, hB5⟩ := M.bind_some hB5
                  obtain ⟨hloy6, hhiy6, gx40⟩ := M.for_start gx40
                  refine Run_join (fun L' h' => L' = [(9, .slice a5 x5.1.length c5), (10, .slice a6 x5.2.length c6), (11, .slice a7 x6.1.length c7), (17, .slice a13 x35.1.length c13), (18, .int .i64 x35.2), (19, .int .i64 s5), (20, .bool s7), (21, .int .i64 i3), (22, .bool x40)] ∧ Hold h h' [own cd23 a5 x5.1.length c5 x5.1, own cd2 a6 x5.2.length c6 x5.2, own cd2 a7 x6.1.length c7 x6.1, own cd2 a13 x35.1.length c13 x35.1]) ?_ ?_
                  · rintro _ h21 ⟨rfl, H41⟩
                    refine Run_reg 5 (by kernel_rfl) (L' := [(9, .slice a5 x5.1.length c5), (10, .slice a6 x5.2.length c6), (11, .slice a7 x6.1.length c7), (17, .slice a13 x35.1.length c13), (18, .int .i64 x35.2), (19, .int .i64 s5), (20, .bool (s7 && x40)), (21, .int .i64 i3)]) ?_ ?_
                    · refine QRun_b [.bool s7] 0 _ (by kernel_rfl) (fun w => by kernel_rfl) ?_
                      refine QRun_seq 4 [(9, .slice a5 x5.1.length c5), (10, .slice a6 x5.2.length c6), (11, .slice a7 x6.1.length c7), (17, .slice a13 x35.1.length c13), (18, .int .i64 x35.2), (19, .int .i64 s5), (20, .bool s7), (21, .int .i64 i3), (181, .bool (s7 && x40))] ?_ ?_
                      · rcases Bool.eq_false_or_eq_true s7 with hb29 | hb29
                        · refine QRun_bool s7 true (by kernel_rfl) (fun w => by kernel_rfl) hb29 ?_
                          refine QRun_b [.bool x40] 2 _ (by kernel_rfl) (fun w => by kernel_rfl) ?_
                          refine QRun_bool x40 (s7 && x40) (by kernel_rfl) (fun w => by kernel_rfl) (by rw [hb29]; rfl) ?_
                          exact QRun_done [9, 10, 11, 17, 18, 19, 20, 21, 181] (by kernel_rfl) (by kernel_rfl)
                        · refine QRun_bool s7 false (by kernel_rfl) (fun w => by kernel_rfl) hb29 ?_
                          refine QRun_n (by kernel_rfl) ?_
                          refine QRun_bool false (s7 && x40) (by kernel_rfl) (fun w => by kernel_rfl) (by rw [hb29]; rfl) ?_
                          exact QRun_done [9, 10, 11, 17, 18, 19, 20, 21, 181] (by kernel_rfl) (by kernel_rfl)
                      refine QRun_b [.bool (s7 && x40)] 4 _ (by kernel_rfl) (fun w => by kernel_rfl) ?_
                      exact QRun_done [9, 10, 11, 17, 18, 19, 20, 21] (by kernel_rfl) (by kernel_rfl)
                    refine Run_blk ?_
                    refine Run_reg 3 (by kernel_rfl) (L' := [(9, .slice a5 x5.1.length c5), (10, .slice a6 x5.2.length c6), (11, .slice a7 x6.1.length c7), (17, .slice a13 x35.1.length c13), (18, .int .i64 x35.2), (19, .int .i64 s5), (20, .bool (s7 && x40)), (21, .int .i64 (i3 + 1))]) ?_ ?_
                    · refine QRun_b [.int .i64 i3] 0 _ (by kernel_rfl) (fun w => by kernel_rfl) ?_
                      refine QRun_y (.int .i64 (i3 + 1)) (by kernel_rfl) (Y_eq (v := .int .i64 (w64 (i3 + 1))) (Y_pure (fun w => by kernel_rfl)) (by rw [w64_eq _ (by omega)])) ?_
                      refine QRun_b [.int .i64 (i3 + 1)] 2 _ (by kernel_rfl) (fun w => by kernel_rfl) ?_
                      exact QRun_done [9, 10, 11, 17, 18, 19, 20, 21] (by kernel_rfl) (by kernel_rfl)
                    have hB5 := M.ret_some hB5
                    have gx38 := hgoy5 _ hB5.symm
                    exact Run_again [9, 10, 11, 17, 18, 19, 20, 21] (by kernel_rfl) my5 (Nat.lt_succ_self _) ⟨i3 + 1, (s7 && x40), by omega, gx38, rfl, H41⟩
                  · refine Run_block ?_
                    refine Run_keep [9, 10, 11, 17, 18, 19, 20, 21, 22, 23] (L' := [(9, .slice a5 x5.1.length c5), (10, .slice a6 x5.2.length c6), (11, .slice a7 x6.1.length c7), (17, .slice a13 x35.1.length c13), (18, .int .i64 x35.2), (19, .int .i64 s5), (20, .bool s7), (21, .int .i64 i3), (22, .bool (x39 == (-1000000000000000))), (23, .int .i64 0)]) (by kernel_rfl) ?_
                    refine Run_loop (fun m L' h' => ∃ (i4 : Int) (s8 : Bool), 0 ≤ i4 ∧ M.forN (x6.1.length : Int) _ _ n m i4 s8 = some x40 ∧ L' = [(9, .slice a5 x5.1.length c5), (10, .slice a6 x5.2.length c6), (11, .slice a7 x6.1.length c7), (17, .slice a13 x35.1.length c13), (18, .int .i64 x35.2), (19, .int .i64 s5), (20, .bool s7), (21, .int .i64 i3), (22, .bool s8), (23, .int .i64 i4)] ∧ Hold h h' [own cd23 a5 x5.1.length c5 x5.1, own cd2 a6 x5.2.length c6 x5.2, own cd2 a7 x6.1.length c7 x6.1, own cd2 a13 x35.1.length c13 x35.1]) ((x6.1.length : Int) - 0).toNat ⟨0, (x39 == (-1000000000000000)), Int.le_refl _, gx40, rfl, H38⟩ ?_
                    rintro my6 _ h20 ⟨i4, s8, hloy6', gx40, rfl, H40⟩
                    refine Run_seq ?_
                    refine Run_seq ?_
                    refine Run_reg 4 (by kernel_rfl) (L' := [(9, .slice a5 x5.1.length c5), (10, .slice a6 x5.2.length c6), (11, .slice a7 x6.1.length c7), (17, .slice a13 x35.1.length c13), (18, .int .i64 x35.2), (19, .int .i64 s5), (20, .bool s7), (21, .int .i64 i3), (22, .bool s8), (23, .int .i64 i4), (129, .bool (decide (i4 < (x6.1.length : Int))))]) ?_ ?_
                    · refine QRun_b [.int .i64 i4, .slice a7 x6.1.length c7, .int .i64 (x6.1.length : Int), .bool (decide (i4 < (x6.1.length : Int)))] 0 _ (by kernel_rfl) (fun w => by kernel_rfl) ?_
                      exact QRun_done [9, 10, 11, 17, 18, 19, 20, 21, 22, 23, 129] (by kernel_rfl) (by kernel_rfl)
                    refine Run_cond (b := decide (i4 < (x6.1.length : Int))) (by kernel_rfl) (fun hb24 => ?_) (fun hb24 => ?_)
                    · obtain ⟨my6, y6, rfl, hB6, hgoy6, houty6⟩ := M.for_go gx40 hb24
                      have hlty6 := of_decide_eq_true hb24
                      refine Run_skip ?_
                      refine Run_seq ?_
                      refine Run_block ?_
                      refine Run_seq ?_
                      obtain ⟨x41, hx24, hB6⟩ := M.bind_some hB6
                      obtain ⟨hx24l, hx24u, hx24⟩ := M.idx_some hx24
                      refine Run_reg 5 (by kernel_rfl) (L' := [(9, .slice a5 x5.1.length c5), (10, .slice a6 x5.2.length c6), (11, .slice a7 x6.1.length c7), (17, .slice a13 x35.1.length c13), (18, .int .i64 x35.2), (19, .int .i64 s5), (20, .bool s7), (21, .int .i64 i3), (22, .bool s8), (23, .int .i64 i4), (24, .int .i64 x41)]) ?_ ?_
                      · refine QRun_b [.slice a7 x6.1.length c7, .int .i64 i4] 0 _ (by kernel_rfl) (fun w => by kernel_rfl) ?_
                        refine QRun_y (.pointer (some (adr a7 (i4.toNat * 1)))) (by kernel_rfl) (Y_idx (t := 23) (e := 2) (sz := 1) (a := a7) (n := x6.1.length) (cap := c7) (kk := .i64) (i := i4) (by kernel_rfl) Try.underlying23 (by kernel_rfl) ((H40.rd 2 rfl).cell hx24).1 hx24l hx24u) ?_
                        refine QRun_y (.int .i64 x41) (by kernel_rfl) (Y_load1 (t := 2) (p := adr a7 (i4.toNat * 1)) (v := .int .i64 x41) (by kernel_rfl) (fun w => by kernel_rfl) (cd2_cell (H40.rd 2 rfl) hx24)) ?_
                        refine QRun_b [.int .i64 x41] 4 _ (by kernel_rfl) (fun w => by kernel_rfl) ?_
                        exact QRun_done [9, 10, 11, 17, 18, 19, 20, 21, 22, 23, 24] (by kernel_rfl) (by kernel_rfl)
                      obtain ⟨x42, gx42, hB6⟩ := M.bind_some hB6
                      refine Run_draw 43 mixed (by kernel_rfl) (by kernel_rfl) (L' := [(9, .slice a5 x5.1.length c5), (10, .slice a6 x5.2.length c6), (11, .slice a7 x6.1.length c7), (17, .slice a13 x35.1.length c13), (18, .int .i64 x35.2), (19, .int .i64 s5), (20, .bool s7), (21, .int .i64 i3), (22, .bool x42), (23, .int .i64 i4)]) ?_ ?_
                      · refine QRun_b [.bool s8] 0 _ (by kernel_rfl) (fun w => by kernel_rfl) ?_
                        refine QRun_seq 42 [(9, .slice a5 x5.1.length c5), (10, .slice a6 x5.2.length c6), (11, .slice a7 x6.1.length c7), (17, .slice a13 x35.1.length c13), (18, .int .i64 x35.2), (19, .int .i64 s5), (20, .bool s7), (21, .int .i64 i3), (22, .bool s8), (23, .int .i64 i4), (177, .bool x42)] ?_ ?_
                        · rcases Bool.eq_false_or_eq_true s8 with hb25 | hb25
                          · refine QRun_bool s8 true (by kernel_rfl) (fun w => by kernel_rfl) hb25 ?_
                            have gx42 := M.ret_some ((M.ite_some gx42).1 hb25)
                            refine QRun_n (by kernel_rfl) ?_
                            refine QRun_n (by kernel_rfl) ?_
                            refine QRun_n (by kernel_rfl) ?_
                            refine QRun_n (by kernel_rfl) ?_
                            refine QRun_n (by kernel_rfl) ?_
                            refine QRun_n (by kernel_rfl) ?_
                            refine QRun_n (by kernel_rfl) ?_
                            refine QRun_n (by kernel_rfl) ?_
                            refine QRun_n (by kernel_rfl) ?_
                            refine QRun_n (by kernel_rfl) ?_
                            refine QRun_n (by kernel_rfl) ?_
                            refine QRun_n (by kernel_rfl) ?_
                            refine QRun_n (by kernel_rfl) ?_
                            refine QRun_n (by kernel_rfl) ?_
                            refine QRun_n (by kernel_rfl) ?_
                            refine QRun_n (by kernel_rfl) ?_
                            refine QRun_n (by kernel_rfl) ?_
                            refine QRun_n (by kernel_rfl) ?_
                            refine QRun_n (by kernel_rfl) ?_
                            refine QRun_n (by kernel_rfl) ?_
                            refine QRun_n (by kernel_rfl) ?_
                            refine QRun_n (by kernel_rfl) ?_
                            refine QRun_n (by kernel_rfl) ?_
                            refine QRun_n (by kernel_rfl) ?_
                            refine QRun_n (by kernel_rfl) ?_
                            refine QRun_n (by kernel_rfl) ?_
                            refine QRun_n (by kernel_rfl) ?_
                            refine QRun_n (by kernel_rfl) ?_
                            refine QRun_n (by kernel_rfl) ?_
                            refine QRun_n (by kernel_rfl) ?_
                            refine QRun_n (by kernel_rfl) ?_
                            refine QRun_n (by kernel_rfl) ?_
                            refine QRun_n (by kernel_rfl) ?_
                            refine QRun_n (by kernel_rfl) ?_
                            refine QRun_n (by kernel_rfl) ?_
                            refine QRun_n (by kernel_rfl) ?_
                            refine QRun_n (by kernel_rfl) ?_
                            refine QRun_n (by kernel_rfl) ?_
                            refine QRun_n (by kernel_rfl) ?_
                            refine QRun_bool true x42 (by kernel_rfl) (fun w => by kernel_rfl) gx42 ?_
                            exact QRun_done [9, 10, 11, 17, 18, 19, 20, 21, 22, 23, 177] (by kernel_rfl) (by kernel_rfl)
                          · refine QRun_bool s8 false (by kernel_rfl) (fun w => by kernel_rfl) hb25 ?_
                            have gx42 := (M.ite_some gx42).2 hb25
                            obtain ⟨x43, gx43, gx42⟩ := M.bind_some gx42
                            obtain ⟨x46, gx46, gx42⟩ := M.bind_some gx42
                            obtain ⟨x48, gx48, gx42⟩ := M.bind_some gx42
                            have gx42 := M.ret_some gx42
                            refine QRun_b [.int .i64 i4, .int .i64 s5, .bool (i4 != s5)] 2 _ (by kernel_rfl) (fun w => by kernel_rfl) ?_
                            refine QRun_seq 15 [(9, .slice a5 x5.1.length c5), (10, .slice a6 x5.2.length c6), (11, .slice a7 x6.1.length c7), (17, .slice a13 x35.1.length c13), (18, .int .i64 x35.2), (19, .int .i64 s5), (20, .bool s7), (21, .int .i64 i3), (22, .bool s8), (23, .int .i64 i4), (24, .int .i64 x41), (137, .bool false), (150, .bool x43)] ?_ ?_
                            · rcases Bool.eq_false_or_eq_true (i4 != s5) with hb26 | hb26
                              · refine QRun_bool (i4 != s5) true (by kernel_rfl) (fun w => by kernel_rfl) hb26 ?_
                                have gx43 := (M.ite_some gx43).1 hb26
                                obtain ⟨x44, hx25, gx43⟩ := M.bind_some gx43
                                obtain ⟨hx25l, hx25u, hx25⟩ := M.idx_some hx25
                                have H42 := H40.toRows
                                obtain ⟨a14, c14, H43⟩ := H42.pinRow hx25
                                obtain ⟨x45, hx26, gx43⟩ := M.bind_some gx43
                                obtain ⟨hx26l, hx26u, hx26⟩ := M.idx_some hx26
                                have gx43 := M.ret_some gx43
                                refine QRun_b [.slice a5 x5.1.length c5, .int .i64 i3] 6 _ (by kernel_rfl) (fun w => by kernel_rfl) ?_
                                refine QRun_y (.pointer (some (adr a5 (i3.toNat * 1)))) (by kernel_rfl) (Y_idx (t := 22) (e := 23) (sz := 1) (a := a5) (n := x5.1.length) (cap := c5) (kk := .i64) (i := i3) (by kernel_rfl) Try.underlying22 (by kernel_rfl) ((H40.rd 0 rfl).cell hx25).1 hx25l hx25u) ?_
                                refine QRun_y (.slice a14 x44.length c14) (by kernel_rfl) (Y_load1 (t := 23) (p := adr a5 (i3.toNat * 1)) (v := .slice a14 x44.length c14) (by kernel_rfl) (fun w => by kernel_rfl) (H43.cellPin 0 rfl 0 rfl)) ?_
                                refine QRun_b [.int .i64 x41] 10 _ (by kernel_rfl) (fun w => by kernel_rfl) ?_
                                refine QRun_y (.pointer (some (adr a14 (x41.toNat * 1)))) (by kernel_rfl) (Y_idx (t := 23) (e := 2) (sz := 1) (a := a14) (n := x44.length) (cap := c14) (kk := .i64) (i := x41) (by kernel_rfl) Try.underlying23 (by kernel_rfl) ((H43.rdPin 0 rfl 0 rfl).cell hx26).1 hx26l hx26u) ?_
                                refine QRun_y (.int .i64 x45) (by kernel_rfl) (Y_load1 (t := 2) (p := adr a14 (x41.toNat * 1)) (v := .int .i64 x45) (by kernel_rfl) (fun w => by kernel_rfl) (cd2_cell (H43.rdPin 0 rfl 0 rfl) hx26)) ?_
                                refine QRun_b [.bool (x45 != (-1000000000000000))] 13 _ (by kernel_rfl) (fun w => by kernel_rfl) ?_
                                refine QRun_bool (x45 != (-1000000000000000)) x43 (by kernel_rfl) (fun w => by kernel_rfl) gx43 ?_
                                exact QRun_done [9, 10, 11, 17, 18, 19, 20, 21, 22, 23, 24, 137, 150] (by kernel_rfl) (by kernel_rfl)
                              · refine QRun_bool (i4 != s5) false (by kernel_rfl) (fun w => by kernel_rfl) hb26 ?_
                                have gx43 := M.ret_some ((M.ite_some gx43).2 hb26)
                                refine QRun_n (by kernel_rfl) ?_
                                refine QRun_n (by kernel_rfl) ?_
                                refine QRun_n (by kernel_rfl) ?_
                                refine QRun_n (by kernel_rfl) ?_
                                refine QRun_n (by kernel_rfl) ?_
                                refine QRun_n (by kernel_rfl) ?_
                                refine QRun_n (by kernel_rfl) ?_
                                refine QRun_n (by kernel_rfl) ?_
                                refine QRun_bool false x43 (by kernel_rfl) (fun w => by kernel_rfl) gx43 ?_
                                exact QRun_done [9, 10, 11, 17, 18, 19, 20, 21, 22, 23, 24, 137, 150] (by kernel_rfl) (by kernel_rfl)
                            refine QRun_seq 22 [(9, .slice a5 x5.1.length c5), (10, .slice a6 x5.2.length c6), (11, .slice a7 x6.1.length c7), (17, .slice a13 x35.1.length c13), (18, .int .i64 x35.2), (19, .int .i64 s5), (20, .bool s7), (21, .int .i64 i3), (22, .bool s8), (23, .int .i64 i4), (24, .int .i64 x41), (137, .bool false), (157, .bool x46)] ?_ ?_
                            · rcases Bool.eq_false_or_eq_true x43 with hb27 | hb27
                              · refine QRun_bool x43 true (by kernel_rfl) (fun w => by kernel_rfl) hb27 ?_
                                have gx46 := (M.ite_some gx46).1 hb27
                                obtain ⟨x47, hx27, gx46⟩ := M.bind_some gx46
                                obtain ⟨hx27l, hx27u, hx27⟩ := M.idx_some hx27
                                have gx46 := M.ret_some gx46
                                refine QRun_b [.slice a13 x35.1.length c13, .int .i64 x41] 16 _ (by kernel_rfl) (fun w => by kernel_rfl) ?_
                                refine QRun_y (.pointer (some (adr a13 (x41.toNat * 1)))) (by kernel_rfl) (Y_idx (t := 23) (e := 2) (sz := 1) (a := a13) (n := x35.1.length) (cap := c13) (kk := .i64) (i := x41) (by kernel_rfl) Try.underlying23 (by kernel_rfl) ((H40.rd 3 rfl).cell hx27).1 hx27l hx27u) ?_
                                refine QRun_y (.int .i64 x47) (by kernel_rfl) (Y_load1 (t := 2) (p := adr a13 (x41.toNat * 1)) (v := .int .i64 x47) (by kernel_rfl) (fun w => by kernel_rfl) (cd2_cell (H40.rd 3 rfl) hx27)) ?_
                                refine QRun_b [.bool (x47 != (-1000000000000000))] 20 _ (by kernel_rfl) (fun w => by kernel_rfl) ?_
                                refine QRun_bool (x47 != (-1000000000000000)) x46 (by kernel_rfl) (fun w => by kernel_rfl) gx46 ?_
                                exact QRun_done [9, 10, 11, 17, 18, 19, 20, 21, 22, 23, 24, 137, 157] (by kernel_rfl) (by kernel_rfl)
                              · refine QRun_bool x43 false (by kernel_rfl) (fun w => by kernel_rfl) hb27 ?_
                                have gx46 := M.ret_some ((M.ite_some gx46).2 hb27)
                                refine QRun_n (by kernel_rfl) ?_
                                refine QRun_n (by kernel_rfl) ?_
                                refine QRun_n (by kernel_rfl) ?_
                                refine QRun_n (by kernel_rfl) ?_
                                refine QRun_n (by kernel_rfl) ?_
                                refine QRun_bool false x46 (by kernel_rfl) (fun w => by kernel_rfl) gx46 ?_
                                exact QRun_done [9, 10, 11, 17, 18, 19, 20, 21, 22, 23, 24, 137, 157] (by kernel_rfl) (by kernel_rfl)
                            refine QRun_seq 41 [(9, .slice a5 x5.1.length c5), (10, .slice a6 x5.2.length c6), (11, .slice a7 x6.1.length c7), (17, .slice a13 x35.1.length c13), (18, .int .i64 x35.2), (19, .int .i64 s5), (20, .bool s7), (21, .int .i64 i3), (22, .bool s8), (23, .int .i64 i4), (137, .bool false), (176, .bool x48)] ?_ ?_
                            · rcases Bool.eq_false_or_eq_true x46 with hb28 | hb28
                              · refine QRun_bool x46 true (by kernel_rfl) (fun w => by kernel_rfl) hb28 ?_
                                have gx48 := (M.ite_some gx48).1 hb28
                                obtain ⟨x49, hx28, gx48⟩ := M.bind_some gx48
                                obtain ⟨hx28l, hx28u, hx28⟩ := M.idx_some hx28
                                have H44 := H40.toRows
                                obtain ⟨a15, c15, H45⟩ := H44.pinRow hx28
                                obtain ⟨x50, hx29, gx48⟩ := M.bind_some gx48
                                obtain ⟨hx29l, hx29u, hx29⟩ := M.idx_some hx29
                                obtain ⟨x51, hx30, gx48⟩ := M.bind_some gx48
                                obtain ⟨hx30l, hx30u, hx30⟩ := M.idx_some hx30
                                obtain ⟨x52, hx31, gx48⟩ := M.bind_some gx48
                                obtain ⟨hx31l, hx31u, hx31⟩ := M.idx_some hx31
                                have gx48 := M.ret_some gx48
                                refine QRun_b [.slice a5 x5.1.length c5, .int .i64 i3] 23 _ (by kernel_rfl) (fun w => by kernel_rfl) ?_
                                refine QRun_y (.pointer (some (adr a5 (i3.toNat * 1)))) (by kernel_rfl) (Y_idx (t := 22) (e := 23) (sz := 1) (a := a5) (n := x5.1.length) (cap := c5) (kk := .i64) (i := i3) (by kernel_rfl) Try.underlying22 (by kernel_rfl) ((H40.rd 0 rfl).cell hx28).1 hx28l hx28u) ?_
                                refine QRun_y (.slice a15 x49.length c15) (by kernel_rfl) (Y_load1 (t := 23) (p := adr a5 (i3.toNat * 1)) (v := .slice a15 x49.length c15) (by kernel_rfl) (fun w => by kernel_rfl) (H45.cellPin 0 rfl 0 rfl)) ?_
                                refine QRun_b [.int .i64 x41] 27 _ (by kernel_rfl) (fun w => by kernel_rfl) ?_
                                refine QRun_y (.pointer (some (adr a15 (x41.toNat * 1)))) (by kernel_rfl) (Y_idx (t := 23) (e := 2) (sz := 1) (a := a15) (n := x49.length) (cap := c15) (kk := .i64) (i := x41) (by kernel_rfl) Try.underlying23 (by kernel_rfl) ((H45.rdPin 0 rfl 0 rfl).cell hx29).1 hx29l hx29u) ?_
                                refine QRun_y (.int .i64 x50) (by kernel_rfl) (Y_load1 (t := 2) (p := adr a15 (x41.toNat * 1)) (v := .int .i64 x50) (by kernel_rfl) (fun w => by kernel_rfl) (cd2_cell (H45.rdPin 0 rfl 0 rfl) hx29)) ?_
                                refine QRun_b [.slice a13 x35.1.length c13, .int .i64 x41] 30 _ (by kernel_rfl) (fun w => by kernel_rfl) ?_
                                refine QRun_y (.pointer (some (adr a13 (x41.toNat * 1)))) (by kernel_rfl) (Y_idx (t := 23) (e := 2) (sz := 1) (a := a13) (n := x35.1.length) (cap := c13) (kk := .i64) (i := x41) (by kernel_rfl) Try.underlying23 (by kernel_rfl) ((H45.rd 3 rfl).cell hx30).1 hx30l hx30u) ?_
                                refine QRun_y (.int .i64 x51) (by kernel_rfl) (Y_load1 (t := 2) (p := adr a13 (x41.toNat * 1)) (v := .int .i64 x51) (by kernel_rfl) (fun w => by kernel_rfl) (cd2_cell (H45.rd 3 rfl) hx30)) ?_
                                refine QRun_b [.int .i64 (w64 (x50 + x51)), .slice a6 x5.2.length c6, .int .i64 i3] 34 _ (by kernel_rfl) (fun w => by kernel_rfl) ?_
                                refine QRun_y (.pointer (some (adr a6 (i3.toNat * 1)))) (by kernel_rfl) (Y_idx (t := 23) (e := 2) (sz := 1) (a := a6) (n := x5.2.length) (cap := c6) (kk := .i64) (i := i3) (by kernel_rfl) Try.underlying23 (by kernel_rfl) ((H45.rd 1 rfl).cell hx31).1 hx31l hx31u) ?_
                                refine QRun_y (.int .i64 x52) (by kernel_rfl) (Y_load1 (t := 2) (p := adr a6 (i3.toNat * 1)) (v := .int .i64 x52) (by kernel_rfl) (fun w => by kernel_rfl) (cd2_cell (H45.rd 1 rfl) hx31)) ?_
                                refine QRun_b [.bool ((w64 (x50 + x51)) == x52)] 39 _ (by kernel_rfl) (fun w => by kernel_rfl) ?_
                                refine QRun_bool ((w64 (x50 + x51)) == x52) x48 (by kernel_rfl) (fun w => by kernel_rfl) gx48 ?_
                                exact QRun_done [9, 10, 11, 17, 18, 19, 20, 21, 22, 23, 137, 176] (by kernel_rfl) (by kernel_rfl)
                              · refine QRun_bool x46 false (by kernel_rfl) (fun w => by kernel_rfl) hb28 ?_
                                have gx48 := M.ret_some ((M.ite_some gx48).2 hb28)
                                refine QRun_n (by kernel_rfl) ?_
                                refine QRun_n (by kernel_rfl) ?_
                                refine QRun_n (by kernel_rfl) ?_
                                refine QRun_n (by kernel_rfl) ?_
                                refine QRun_n (by kernel_rfl) ?_
                                refine QRun_n (by kernel_rfl) ?_
                                refine QRun_n (by kernel_rfl) ?_
                                refine QRun_n (by kernel_rfl) ?_
                                refine QRun_n (by kernel_rfl) ?_
                                refine QRun_n (by kernel_rfl) ?_
                                refine QRun_n (by kernel_rfl) ?_
                                refine QRun_n (by kernel_rfl) ?_
                                refine QRun_n (by kernel_rfl) ?_
                                refine QRun_n (by kernel_rfl) ?_
                                refine QRun_n (by kernel_rfl) ?_
                                refine QRun_n (by kernel_rfl) ?_
                                refine QRun_n (by kernel_rfl) ?_
                                refine QRun_bool false x48 (by kernel_rfl) (fun w => by kernel_rfl) gx48 ?_
                                exact QRun_done [9, 10, 11, 17, 18, 19, 20, 21, 22, 23, 137, 176] (by kernel_rfl) (by kernel_rfl)
                            refine QRun_bool x48 x42 (by kernel_rfl) (fun w => by kernel_rfl) gx42 ?_
                            exact QRun_done [9, 10, 11, 17, 18, 19, 20, 21, 22, 23, 177] (by kernel_rfl) (by kernel_rfl)
                        refine QRun_b [.bool x42] 42 _ (by kernel_rfl) (fun w => by kernel_rfl) ?_
                        exact QRun_done [9, 10, 11, 17, 18, 19, 20, 21, 22, 23] (by kernel_rfl) (by kernel_rfl)
                      refine Run_blk ?_
                      refine Run_reg 3 (by kernel_rfl) (L' := [(9, .slice a5 x5.1.length c5), (10, .slice a6 x5.2.length c6), (11, .slice a7 x6.1.length c7), (17, .slice a13 x35.1.length c13), (18, .int .i64 x35.2), (19, .int .i64 s5), (20, .bool s7), (21, .int .i64 i3), (22, .bool x42), (23, .int .i64 (i4 + 1))]) ?_ ?_
                      · refine QRun_b [.int .i64 i4] 0 _ (by kernel_rfl) (fun w => by kernel_rfl) ?_
                        refine QRun_y (.int .i64 (i4 + 1)) (by kernel_rfl) (Y_eq (v := .int .i64 (w64 (i4 + 1))) (Y_pure (fun w => by kernel_rfl)) (by rw [w64_eq _ (by omega)])) ?_
                        refine QRun_b [.int .i64 (i4 + 1)] 2 _ (by kernel_rfl) (fun w => by kernel_rfl) ?_
                        exact QRun_done [9, 10, 11, 17, 18, 19, 20, 21, 22, 23] (by kernel_rfl) (by kernel_rfl)
                      have hB6 := M.ret_some hB6
                      have gx40 := hgoy6 _ hB6.symm
                      exact Run_again [9, 10, 11, 17, 18, 19, 20, 21, 22, 23] (by kernel_rfl) my6 (Nat.lt_succ_self _) ⟨i4 + 1, x42, by omega, gx40, rfl, H40⟩
                    · have gx40 := M.for_end gx40 hb24
                      subst gx40
                      refine Run_exit (k' := _) rfl ?_
                      exact Run_fall [9, 10, 11, 17, 18, 19, 20, 21, 22] (by kernel_rfl) ⟨rfl, H40⟩
                · have gx38 := M.for_end gx38 hb23
                  subst gx38
                  refine Run_exit (k' := _) rfl ?_
                  exact Run_fall [9, 10, 11, 17, 18, 19, 20] (by kernel_rfl) ⟨rfl, H38⟩
            · have hB4 := (M.ite_some hB4).2 hb22
              refine Run_exit (k' := _) rfl ?_
              have H47 : Hold h h16 [] := H36.pick [] (by kernel_rfl)
              have hB4 := M.ret_some hB4
              have gx36 := houty4 _ hB4.symm
              subst gx36
              exact Run_fall [] (by kernel_rfl) ⟨s5, rfl, rfl, H47⟩

end Go.Proofs.Ytmpjjdgfkjompaa
