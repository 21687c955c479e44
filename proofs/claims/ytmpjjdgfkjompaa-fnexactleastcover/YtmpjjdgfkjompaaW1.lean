/-
  Walks: each Go function, called with what reads as plain data, returns what its plain program computes.
  Conditions: None beyond the given statement.
-/
import Derived.Test.YtmpjjdgfkjompaaW0
namespace Go.Proofs.Ytmpjjdgfkjompaa
open Go
attribute [local irreducible] setL setB opA fineI idleI fineB evB okB markB markBs readyB readyBs chainB lk rho pickL dropSlot tailOK
set_option maxRecDepth 100000 in
set_option maxHeartbeats 4000000 in
theorem w_impl_greatestSub (h : Heap) (a_ : List (List Int)) (aa_ : Option Addr) (ca_ : Nat) (ra_ : Rd cd23 h (Lt h) aa_ ca_ a_) (b : List Int) (ab : Option Addr) (cb : Nat) (rb : Rd cd2 h (Lt h) ab cb b) (n : Nat) (r : (List Int) × Int) (hF : impl_greatestSub a_ b n = some r) :
    Fn Try.prog 61 #[.slice aa_ a_.length ca_, .slice ab b.length cb] h fun v h' => ∃ (a0 : Option Addr) (c0 : Nat), v = .tuple #[.slice a0 r.1.length c0, .int .i64 r.2] ∧ Hold h h' [own cd2 a0 r.1.length c0 r.1] := by
  unfold impl_greatestSub at hF
  refine Fn_enter (args := [.slice aa_ a_.length ca_, .slice ab b.length cb]) Try.func61 rfl (by kernel_rfl) (by kernel_rfl) (fun w0 _ => ?_)
  have H0 := Hold.init h
  refine Run_seq ?_
  refine Run_reg 2 (by kernel_rfl) (L' := [(0, .slice aa_ a_.length ca_), (1, .slice ab b.length cb)]) ?_ ?_
  · refine QRun_b [.slice none 0 0, .int .i64 0] 0 _ (by kernel_rfl) (fun w => by kernel_rfl) ?_
    exact QRun_done [0, 1] (by kernel_rfl) (by kernel_rfl)
  refine Run_seq ?_
  refine Run_seq ?_
  obtain ⟨x1, hx1, hF⟩ := M.bind_some hF
  obtain ⟨x2, gx2, hF⟩ := M.bind_some hF
  refine Run_regC (j := 8) (C := fun x => Hold h x []) (by kernel_rfl) H0 (L' := [(0, .slice aa_ a_.length ca_), (1, .slice ab b.length cb), (19, .bool x2)]) ?_ (fun h1 H1 => ?_)
  · refine QRun_b [.slice aa_ a_.length ca_] 0 _ (by kernel_rfl) (fun w => by kernel_rfl) ?_
    refine QRun_y (.bool x1) (by kernel_rfl) (Y_call (f := 75) (args := #[.slice aa_ a_.length ca_]) (v := .bool x1) (by kernel_rfl) fun hx Hx => (w_impl_IsMatrix hx a_ aa_ ca_ (ra_.at Hx.ext) _ _ hx1).mono fun _ _ ⟨e, H'⟩ => ⟨e, Hx.call H' rfl⟩) ?_
    refine QRun_b [.bool (!x1)] 2 _ (by kernel_rfl) (fun w => by kernel_rfl) ?_
    refine QRun_seq 8 [(0, .slice aa_ a_.length ca_), (1, .slice ab b.length cb), (19, .bool x2)] ?_ ?_
    · rcases Bool.eq_false_or_eq_true (!x1) with hb1 | hb1
      · refine QRun_bool (!x1) true (by kernel_rfl) (fun w => by kernel_rfl) hb1 ?_
        have gx2 := M.ret_some ((M.ite_some gx2).1 hb1)
        refine QRun_n (by kernel_rfl) ?_
        refine QRun_n (by kernel_rfl) ?_
        refine QRun_n (by kernel_rfl) ?_
        refine QRun_bool true x2 (by kernel_rfl) (fun w => by kernel_rfl) gx2 ?_
        exact QRun_done [0, 1, 19] (by kernel_rfl) (by kernel_rfl)
      · refine QRun_bool (!x1) false (by kernel_rfl) (fun w => by kernel_rfl) hb1 ?_
        have gx2 := (M.ite_some gx2).2 hb1
        obtain ⟨x3, hx2, gx2⟩ := M.bind_some gx2
        have gx2 := M.ret_some gx2
        refine QRun_b [.slice ab b.length cb] 4 _ (by kernel_rfl) (fun w => by kernel_rfl) ?_
        refine QRun_y (.bool x3) (by kernel_rfl) (Y_cls fun hx Hx => (Y_callq (f := 86) (args := #[.slice ab b.length cb]) (v := .bool x3) (by kernel_rfl) (w_impl_isVector hx b ab cb (rb.at Hx.ext) _ _ hx2))) ?_
        refine QRun_b [.bool (!x3)] 6 _ (by kernel_rfl) (fun w => by kernel_rfl) ?_
        refine QRun_bool (!x3) x2 (by kernel_rfl) (fun w => by kernel_rfl) gx2 ?_
        exact QRun_done [0, 1, 19] (by kernel_rfl) (by kernel_rfl)
    exact QRun_done [0, 1, 19] (by kernel_rfl) (by kernel_rfl)
  have H2 : Hold h h1 [] := H1
  refine Run_cond (b := x2) (by kernel_rfl) (fun hb2 => ?_) (fun hb2 => ?_)
  · have hF := (M.ite_some hF).1 hb2
    refine Run_seq ?_
    refine Run_reg 2 (by kernel_rfl) (L' := [(4, .slice none 0 0), (5, .int .i64 1)]) ?_ ?_
    · refine QRun_b [.slice none 0 0, .int .i64 1] 0 _ (by kernel_rfl) (fun w => by kernel_rfl) ?_
      exact QRun_done [4, 5] (by kernel_rfl) (by kernel_rfl)
    have hF := M.ret_some hF
    subst hF
    have H3 := H2.empty cd2
    exact Run_ret2 rfl (ResV_tmp (v := .slice none 0 0) (by kernel_rfl)) (ResV_tmp (v := .int .i64 1) (by kernel_rfl)) ⟨none, 0, rfl, H3⟩
  · have hF := (M.ite_some hF).2 hb2
    refine Run_skip ?_
    refine Run_seq ?_
    refine Run_seq ?_
    refine Run_reg 5 (by kernel_rfl) (L' := [(0, .slice aa_ a_.length ca_), (1, .slice ab b.length cb), (24, .bool ((a_.length : Int) != (b.length : Int)))]) ?_ ?_
    · refine QRun_b [.slice aa_ a_.length ca_, .int .i64 (a_.length : Int), .slice ab b.length cb, .int .i64 (b.length : Int), .bool ((a_.length : Int) != (b.length : Int))] 0 _ (by kernel_rfl) (fun w => by kernel_rfl) ?_
      exact QRun_done [0, 1, 24] (by kernel_rfl) (by kernel_rfl)
    refine Run_cond (b := (a_.length : Int) != (b.length : Int)) (by kernel_rfl) (fun hb3 => ?_) (fun hb3 => ?_)
    · have hF := (M.ite_some hF).1 hb3
      refine Run_seq ?_
      refine Run_reg 2 (by kernel_rfl) (L' := [(4, .slice none 0 0), (5, .int .i64 5)]) ?_ ?_
      · refine QRun_b [.slice none 0 0, .int .i64 5] 0 _ (by kernel_rfl) (fun w => by kernel_rfl) ?_
        exact QRun_done [4, 5] (by kernel_rfl) (by kernel_rfl)
      have hF := M.ret_some hF
      subst hF
      have H4 := H2.empty cd2
      exact Run_ret2 rfl (ResV_tmp (v := .slice none 0 0) (by kernel_rfl)) (ResV_tmp (v := .int .i64 5) (by kernel_rfl)) ⟨none, 0, rfl, H4⟩
    · have hF := (M.ite_some hF).2 hb3
      refine Run_skip ?_
      refine Run_seq ?_
      refine Run_ops ?_
      obtain ⟨x4, hx3, hF⟩ := M.bind_some hF
      obtain ⟨hx3l, hx3u, hx3⟩ := M.idx_some hx3
      obtain ⟨a1, c1, hc1, r1⟩ := ra_.row hx3
      refine Run_b [.slice aa_ a_.length ca_] 0 _ (by kernel_rfl) (fun w => by kernel_rfl) ?_
      refine Run_y (.pointer (some (adr aa_ (0 * 1)))) (by kernel_rfl) (Y_idx (t := 22) (e := 23) (sz := 1) (a := aa_) (n := a_.length) (cap := ca_) (kk := .i64) (i := 0) (by kernel_rfl) Try.underlying22 (by kernel_rfl) ((ra_.at H2.ext).cell hx3).1 hx3l hx3u) ?_
      refine Run_y (.slice a1 x4.length c1) (by kernel_rfl) (Y_load1 (t := 23) (p := adr aa_ (0 * 1)) (v := .slice a1 x4.length c1) (by kernel_rfl) (fun w => by kernel_rfl) (cell_at H2.ext hc1)) ?_
      refine Run_b [.int .i64 (x4.length : Int)] 3 _ (by kernel_rfl) (fun w => by kernel_rfl) ?_
      obtain ⟨l1, hl1, hF⟩ := M.bind_some hF
      have hl1 := M.make_some hl1
      refine Run_E (by kernel_rfl) ?_
      refine E_make cd2 0 (kl := .i64) (kc := .i64) H2 cd2_ti Try.underlying23 (by decide) cd2_zero (by kernel_rfl) hl1 (fun a2 h2 H5 => ?_)
      refine Run_b [.slice a2 l1.length l1.length] 5 _ (by kernel_rfl) (fun w => by kernel_rfl) ?_
      refine Run_nil (by kernel_rfl) ?_
      refine Run_keep [0, 1, 6] (L' := [(0, .slice aa_ a_.length ca_), (1, .slice ab b.length cb), (6, .slice a2 l1.length l1.length)]) (by kernel_rfl) ?_
      refine Run_seq ?_
      refine Run_seq ?_
      refine Run_reg 3 (by kernel_rfl) (L' := [(0, .slice aa_ a_.length ca_), (1, .slice ab b.length cb), (6, .slice a2 l1.length l1.length), (31, .int .i64 (l1.length : Int)), (32, .int .i64 0)]) ?_ ?_
      · refine QRun_b [.slice a2 l1.length l1.length, .int .i64 (l1.length : Int), .int .i64 0] 0 _ (by kernel_rfl) (fun w => by kernel_rfl) ?_
        exact QRun_done [0, 1, 6, 31, 32] (by kernel_rfl) (by kernel_rfl)
      obtain ⟨x5, gx5, hF⟩ := M.bind_some hF
      obtain ⟨hloy1, hhiy1, gx5⟩ := M.for_start gx5
      refine Run_join (fun L' h' => ∃ (s2 : (List Int)), x5 = .inl s2 ∧ L' = [(6, .slice a2 l1.length l1.length)] ∧ Hold h h' [own cd2 a2 l1.length l1.length s2]) ?_ ?_
      · rintro _ h4 ⟨s2, es2, rfl, H7⟩
        have hF := M.cont_inl' hF es2
        refine Run_seq ?_
        refine Run_reg 3 (by kernel_rfl) (L' := [(4, .slice a2 l1.length l1.length), (5, .int .i64 0)]) ?_ ?_
        · refine QRun_b [.slice a2 l1.length l1.length, .slice a2 l1.length l1.length, .int .i64 0] 0 _ (by kernel_rfl) (fun w => by kernel_rfl) ?_
          exact QRun_done [4, 5] (by kernel_rfl) (by kernel_rfl)
        have hF := M.ret_some hF
        subst hF
        have H14 := H7.norm
        exact Run_ret2 rfl (ResV_tmp (v := .slice a2 l1.length l1.length) (by kernel_rfl)) (ResV_tmp (v := .int .i64 0) (by kernel_rfl)) ⟨a2, l1.length, (by simp only [(H7.len 0 rfl)]), H14⟩
      · refine Run_block ?_
        refine Run_keep [0, 1, 6, 31, 32] (L' := [(0, .slice aa_ a_.length ca_), (1, .slice ab b.length cb), (6, .slice a2 l1.length l1.length), (31, .int .i64 (l1.length : Int)), (32, .int .i64 0)]) (by kernel_rfl) ?_
        refine Run_loop (fun m L' h' => ∃ (i1 : Int) (s1 : (List Int)), 0 ≤ i1 ∧ M.forN (l1.length : Int) _ _ n m i1 s1 = some x5 ∧ L' = [(0, .slice aa_ a_.length ca_), (1, .slice ab b.length cb), (6, .slice a2 l1.length l1.length), (31, .int .i64 (l1.length : Int)), (32, .int .i64 i1)] ∧ Hold h h' [own cd2 a2 l1.length l1.length s1]) ((l1.length : Int) - 0).toNat ⟨0, l1, Int.le_refl _, gx5, rfl, H5⟩ ?_
        rintro my1 _ h3 ⟨i1, s1, hloy1', gx5, rfl, H6⟩
        refine Run_seq ?_
        refine Run_reg 1 (by kernel_rfl) (L' := [(0, .slice aa_ a_.length ca_), (1, .slice ab b.length cb), (6, .slice a2 l1.length l1.length), (31, .int .i64 (l1.length : Int)), (32, .int .i64 i1), (33, .bool (decide (i1 < (l1.length : Int))))]) ?_ ?_
        · refine QRun_b [.bool (decide (i1 < (l1.length : Int)))] 0 _ (by kernel_rfl) (fun w => by kernel_rfl) ?_
          exact QRun_done [0, 1, 6, 31, 32, 33] (by kernel_rfl) (by kernel_rfl)
        refine Run_seq ?_
        refine Run_cond (b := decide (i1 < (l1.length : Int))) (by kernel_rfl) (fun hb4 => ?_) (fun hb4 => ?_)
        · obtain ⟨my1, y1, rfl, hB1, hgoy1, houty1⟩ := M.for_go gx5 hb4
          have hlty1 := of_decide_eq_true hb4
          refine Run_skip ?_
          refine Run_seq ?_
          refine Run_block ?_
          refine Run_seq ?_
          refine Run_reg 2 (by kernel_rfl) (L' := [(0, .slice aa_ a_.length ca_), (1, .slice ab b.length cb), (6, .slice a2 l1.length l1.length), (7, .int .i64 i1), (31, .int .i64 (l1.length : Int)), (32, .int .i64 i1)]) ?_ ?_
          · refine QRun_b [.int .i64 i1, .int .i64 i1] 0 _ (by kernel_rfl) (fun w => by kernel_rfl) ?_
            exact QRun_done [0, 1, 6, 7, 31, 32] (by kernel_rfl) (by kernel_rfl)
          refine Run_seq ?_
          refine Run_reg 1 (by kernel_rfl) (L' := [(0, .slice aa_ a_.length ca_), (1, .slice ab b.length cb), (6, .slice a2 l1.length l1.length), (7, .int .i64 i1), (8, .bool false), (31, .int .i64 (l1.length : Int)), (32, .int .i64 i1)]) ?_ ?_
          · refine QRun_b [.bool false] 0 _ (by kernel_rfl) (fun w => by kernel_rfl) ?_
            exact QRun_done [0, 1, 6, 7, 8, 31, 32] (by kernel_rfl) (by kernel_rfl)
          refine Run_seq ?_
          refine Run_seq ?_
          refine Run_reg 3 (by kernel_rfl) (L' := [(0, .slice aa_ a_.length ca_), (1, .slice ab b.length cb), (6, .slice a2 l1.length l1.length), (7, .int .i64 i1), (8, .bool false), (31, .int .i64 (l1.length : Int)), (32, .int .i64 i1), (35, .slice aa_ a_.length ca_), (36, .int .i64 (a_.length : Int)), (37, .int .i64 0)]) ?_ ?_
          · refine QRun_b [.slice aa_ a_.length ca_, .int .i64 (a_.length : Int), .int .i64 0] 0 _ (by kernel_rfl) (fun w => by kernel_rfl) ?_
            exact QRun_done [0, 1, 6, 7, 8, 31, 32, 35, 36, 37] (by kernel_rfl) (by kernel_rfl)
          obtain ⟨x6, gx6, hB1⟩ := M.bind_some hB1
          obtain ⟨hloy2, hhiy2, gx6⟩ := M.for_start gx6
          refine Run_join (fun L' h' => L' = [(0, .slice aa_ a_.length ca_), (1, .slice ab b.length cb), (6, .slice a2 l1.length l1.length), (8, .bool x6.2), (31, .int .i64 (l1.length : Int)), (32, .int .i64 i1)] ∧ Hold h h' [own cd2 a2 l1.length l1.length x6.1]) ?_ ?_
          · rintro _ h6 ⟨rfl, H9⟩
            refine Run_seq ?_
            refine Run_reg 2 (by kernel_rfl) (L' := [(0, .slice aa_ a_.length ca_), (1, .slice ab b.length cb), (6, .slice a2 l1.length l1.length), (31, .int .i64 (l1.length : Int)), (32, .int .i64 i1), (73, .bool (!x6.2))]) ?_ ?_
            · refine QRun_b [.bool x6.2, .bool (!x6.2)] 0 _ (by kernel_rfl) (fun w => by kernel_rfl) ?_
              exact QRun_done [0, 1, 6, 31, 32, 73] (by kernel_rfl) (by kernel_rfl)
            refine Run_cond (b := !x6.2) (by kernel_rfl) (fun hb9 => ?_) (fun hb9 => ?_)
            · have hB1 := (M.ite_some hB1).1 hb9
              refine Run_seq ?_
              refine Run_reg 2 (by kernel_rfl) (L' := [(4, .slice none 0 0), (5, .int .i64 5)]) ?_ ?_
              · refine QRun_b [.slice none 0 0, .int .i64 5] 0 _ (by kernel_rfl) (fun w => by kernel_rfl) ?_
                exact QRun_done [4, 5] (by kernel_rfl) (by kernel_rfl)
              have hB1 := M.ret_some hB1
              have gx5 := houty1 _ hB1.symm
              have hF := M.cont_inr' hF gx5
              have hF := M.ret_some hF
              subst hF
              have H12 := H9.empty cd2
              have H13 : Hold h h6 [own cd2 none 0 0 []] := H12.pick [0] (by kernel_rfl)
              exact Run_ret2 rfl (ResV_tmp (v := .slice none 0 0) (by kernel_rfl)) (ResV_tmp (v := .int .i64 5) (by kernel_rfl)) ⟨none, 0, rfl, H13⟩
            · have hB1 := (M.ite_some hB1).2 hb9
              refine Run_skip ?_
              refine Run_blk ?_
              refine Run_reg 2 (by kernel_rfl) (L' := [(0, .slice aa_ a_.length ca_), (1, .slice ab b.length cb), (6, .slice a2 l1.length l1.length), (31, .int .i64 (l1.length : Int)), (32, .int .i64 (i1 + 1))]) ?_ ?_
              · refine QRun_y (.int .i64 (i1 + 1)) (by kernel_rfl) (Y_eq (v := .int .i64 (w64 (i1 + 1))) (Y_pure (fun w => by kernel_rfl)) (by rw [w64_eq _ (by omega)])) ?_
                refine QRun_b [.int .i64 (i1 + 1)] 1 _ (by kernel_rfl) (fun w => by kernel_rfl) ?_
                exact QRun_done [0, 1, 6, 31, 32] (by kernel_rfl) (by kernel_rfl)
              have hB1 := M.ret_some hB1
              have gx5 := hgoy1 _ hB1.symm
              exact Run_again [0, 1, 6, 31, 32] (by kernel_rfl) my1 (Nat.lt_succ_self _) ⟨i1 + 1, x6.1, by omega, gx5, rfl, H9⟩
          · refine Run_block ?_
            refine Run_keep [0, 1, 6, 7, 8, 31, 32, 35, 36, 37] (L' := [(0, .slice aa_ a_.length ca_), (1, .slice ab b.length cb), (6, .slice a2 l1.length l1.length), (7, .int .i64 i1), (8, .bool false), (31, .int .i64 (l1.length : Int)), (32, .int .i64 i1), (35, .slice aa_ a_.length ca_), (36, .int .i64 (a_.length : Int)), (37, .int .i64 0)]) (by kernel_rfl) ?_
            refine Run_loop (fun m L' h' => ∃ (i2 : Int) (s3 : (List Int) × Bool), 0 ≤ i2 ∧ M.forN (a_.length : Int) _ _ n m i2 s3 = some x6 ∧ L' = [(0, .slice aa_ a_.length ca_), (1, .slice ab b.length cb), (6, .slice a2 l1.length l1.length), (7, .int .i64 i1), (8, .bool s3.2), (31, .int .i64 (l1.length : Int)), (32, .int .i64 i1), (35, .slice aa_ a_.length ca_), (36, .int .i64 (a_.length : Int)), (37, .int .i64 i2)] ∧ Hold h h' [own cd2 a2 l1.length l1.length s3.1]) ((a_.length : Int) - 0).toNat ⟨0, (s1, false), Int.le_refl _, gx6, rfl, H6⟩ ?_
            rintro my2 _ h5 ⟨i2, s3, hloy2', gx6, rfl, H8⟩
            refine Run_seq ?_
            refine Run_reg 1 (by kernel_rfl) (L' := [(0, .slice aa_ a_.length ca_), (1, .slice ab b.length cb), (6, .slice a2 l1.length l1.length), (7, .int .i64 i1), (8, .bool s3.2), (31, .int .i64 (l1.length : Int)), (32, .int .i64 i1), (35, .slice aa_ a_.length ca_), (36, .int .i64 (a_.length : Int)), (37, .int .i64 i2), (38, .bool (decide (i2 < (a_.length : Int))))]) ?_ ?_
            · refine QRun_b [.bool (decide (i2 < (a_.length : Int)))] 0 _ (by kernel_rfl) (fun w => by kernel_rfl) ?_
              exact QRun_done [0, 1, 6, 7, 8, 31, 32, 35, 36, 37, 38] (by kernel_rfl) (by kernel_rfl)
            refine Run_seq ?_
            refine Run_cond (b := decide (i2 < (a_.length : Int))) (by kernel_rfl) (fun hb5 => ?_) (fun hb5 => ?_)
            · obtain ⟨my2, y2, rfl, hB2, hgoy2, houty2⟩ := M.for_go gx6 hb5
              have hlty2 := of_decide_eq_true hb5
              refine Run_skip ?_
              refine Run_seq ?_
              obtain ⟨s4, gs4, hB2⟩ := M.bind_some hB2
              refine Run_join (fun L' h' => L' = [(0, .slice aa_ a_.length ca_), (1, .slice ab b.length cb), (6, .slice a2 l1.length l1.length), (7, .int .i64 i1), (8, .bool s4.2), (31, .int .i64 (l1.length : Int)), (32, .int .i64 i1), (35, .slice aa_ a_.length ca_), (36, .int .i64 (a_.length : Int)), (37, .int .i64 i2)] ∧ Hold h h' [own cd2 a2 l1.length l1.length s4.1]) ?_ ?_
              · rintro _ h8 ⟨rfl, H11⟩
                refine Run_reg 2 (by kernel_rfl) (L' := [(0, .slice aa_ a_.length ca_), (1, .slice ab b.length cb), (6, .slice a2 l1.length l1.length), (7, .int .i64 i1), (8, .bool s4.2), (31, .int .i64 (l1.length : Int)), (32, .int .i64 i1), (35, .slice aa_ a_.length ca_), (36, .int .i64 (a_.length : Int)), (37, .int .i64 (i2 + 1))]) ?_ ?_
                · refine QRun_y (.int .i64 (i2 + 1)) (by kernel_rfl) (Y_eq (v := .int .i64 (w64 (i2 + 1))) (Y_pure (fun w => by kernel_rfl)) (by rw [w64_eq _ (by omega)])) ?_
                  refine QRun_b [.int .i64 (i2 + 1)] 1 _ (by kernel_rfl) (fun w => by kernel_rfl) ?_
                  exact QRun_done [0, 1, 6, 7, 8, 31, 32, 35, 36, 37] (by kernel_rfl) (by kernel_rfl)
                have hB2 := M.ret_some hB2
                have gx6 := hgoy2 _ hB2.symm
                exact Run_again [0, 1, 6, 7, 8, 31, 32, 35, 36, 37] (by kernel_rfl) my2 (Nat.lt_succ_self _) ⟨i2 + 1, (s4.1, s4.2), by omega, gx6, rfl, H11⟩
              · refine Run_block ?_
                refine Run_seq ?_
                obtain ⟨x7, hx4, gs4⟩ := M.bind_some gs4
                obtain ⟨hx4l, hx4u, hx4⟩ := M.idx_some hx4
                obtain ⟨a3, c2, hc2, r2⟩ := ra_.row hx4
                refine Run_reg 5 (by kernel_rfl) (L' := [(0, .slice aa_ a_.length ca_), (1, .slice ab b.length cb), (6, .slice a2 l1.length l1.length), (7, .int .i64 i1), (8, .bool s3.2), (9, .int .i64 i2), (10, .slice a3 x7.length c2), (31, .int .i64 (l1.length : Int)), (32, .int .i64 i1), (35, .slice aa_ a_.length ca_), (36, .int .i64 (a_.length : Int)), (37, .int .i64 i2)]) ?_ ?_
                · refine QRun_b [.int .i64 i2] 0 _ (by kernel_rfl) (fun w => by kernel_rfl) ?_
                  refine QRun_y (.pointer (some (adr aa_ (i2.toNat * 1)))) (by kernel_rfl) (Y_idx (t := 22) (e := 23) (sz := 1) (a := aa_) (n := a_.length) (cap := ca_) (kk := .i64) (i := i2) (by kernel_rfl) Try.underlying22 (by kernel_rfl) ((ra_.at H8.ext).cell hx4).1 hx4l hx4u) ?_
                  refine QRun_y (.slice a3 x7.length c2) (by kernel_rfl) (Y_load1 (t := 23) (p := adr aa_ (i2.toNat * 1)) (v := .slice a3 x7.length c2) (by kernel_rfl) (fun w => by kernel_rfl) (cell_at H8.ext hc2)) ?_
                  refine QRun_b [.int .i64 i2, .slice a3 x7.length c2] 3 _ (by kernel_rfl) (fun w => by kernel_rfl) ?_
                  exact QRun_done [0, 1, 6, 7, 8, 9, 10, 31, 32, 35, 36, 37] (by kernel_rfl) (by kernel_rfl)
                refine Run_seq ?_
                refine Run_seq ?_
                obtain ⟨x8, hx5, gs4⟩ := M.bind_some gs4
                obtain ⟨hx5l, hx5u, hx5⟩ := M.idx_some hx5
                refine Run_reg 5 (by kernel_rfl) (L' := [(0, .slice aa_ a_.length ca_), (1, .slice ab b.length cb), (6, .slice a2 l1.length l1.length), (7, .int .i64 i1), (8, .bool s3.2), (9, .int .i64 i2), (10, .slice a3 x7.length c2), (31, .int .i64 (l1.length : Int)), (32, .int .i64 i1), (35, .slice aa_ a_.length ca_), (36, .int .i64 (a_.length : Int)), (37, .int .i64 i2), (46, .bool (x8 == (-1000000000000000)))]) ?_ ?_
                · refine QRun_b [.slice a3 x7.length c2, .int .i64 i1] 0 _ (by kernel_rfl) (fun w => by kernel_rfl) ?_
                  refine QRun_y (.pointer (some (adr a3 (i1.toNat * 1)))) (by kernel_rfl) (Y_idx (t := 23) (e := 2) (sz := 1) (a := a3) (n := x7.length) (cap := c2) (kk := .i64) (i := i1) (by kernel_rfl) Try.underlying23 (by kernel_rfl) ((r2.at H8.ext).cell hx5).1 hx5l hx5u) ?_
                  refine QRun_y (.int .i64 x8) (by kernel_rfl) (Y_load1 (t := 2) (p := adr a3 (i1.toNat * 1)) (v := .int .i64 x8) (by kernel_rfl) (fun w => by kernel_rfl) (cd2_cell (r2.at H8.ext) hx5)) ?_
                  refine QRun_b [.bool (x8 == (-1000000000000000))] 4 _ (by kernel_rfl) (fun w => by kernel_rfl) ?_
                  exact QRun_done [0, 1, 6, 7, 8, 9, 10, 31, 32, 35, 36, 37, 46] (by kernel_rfl) (by kernel_rfl)
                refine Run_cond (b := x8 == (-1000000000000000)) (by kernel_rfl) (fun hb6 => ?_) (fun hb6 => ?_)
                · have gs4 := (M.ite_some gs4).1 hb6
                  refine Run_exit (k' := _) rfl ?_
                  have gs4 := M.ret_some gs4
                  subst gs4
                  exact Run_fall [0, 1, 6, 7, 8, 31, 32, 35, 36, 37] (by kernel_rfl) ⟨rfl, H8⟩
                · have gs4 := (M.ite_some gs4).2 hb6
                  refine Run_skip ?_
                  refine Run_seq ?_
                  obtain ⟨x9, hx6, gs4⟩ := M.bind_some gs4
                  obtain ⟨hx6l, hx6u, hx6⟩ := M.idx_some hx6
                  obtain ⟨x10, hx7, gs4⟩ := M.bind_some gs4
                  obtain ⟨hx7l, hx7u, hx7⟩ := M.idx_some hx7
                  obtain ⟨x11, hx8, gs4⟩ := M.bind_some gs4
                  refine Run_draw 11 mixed (by kernel_rfl) (by kernel_rfl) (L' := [(0, .slice aa_ a_.length ca_), (1, .slice ab b.length cb), (6, .slice a2 l1.length l1.length), (7, .int .i64 i1), (8, .bool s3.2), (11, .int .i64 x11), (31, .int .i64 (l1.length : Int)), (32, .int .i64 i1), (35, .slice aa_ a_.length ca_), (36, .int .i64 (a_.length : Int)), (37, .int .i64 i2)]) ?_ ?_
                  · refine QRun_b [.slice ab b.length cb, .int .i64 i2] 0 _ (by kernel_rfl) (fun w => by kernel_rfl) ?_
                    refine QRun_y (.pointer (some (adr ab (i2.toNat * 1)))) (by kernel_rfl) (Y_idx (t := 23) (e := 2) (sz := 1) (a := ab) (n := b.length) (cap := cb) (kk := .i64) (i := i2) (by kernel_rfl) Try.underlying23 (by kernel_rfl) ((rb.at H8.ext).cell hx6).1 hx6l hx6u) ?_
                    refine QRun_y (.int .i64 x9) (by kernel_rfl) (Y_load1 (t := 2) (p := adr ab (i2.toNat * 1)) (v := .int .i64 x9) (by kernel_rfl) (fun w => by kernel_rfl) (cd2_cell (rb.at H8.ext) hx6)) ?_
                    refine QRun_b [.slice a3 x7.length c2, .int .i64 i1] 4 _ (by kernel_rfl) (fun w => by kernel_rfl) ?_
                    refine QRun_y (.pointer (some (adr a3 (i1.toNat * 1)))) (by kernel_rfl) (Y_idx (t := 23) (e := 2) (sz := 1) (a := a3) (n := x7.length) (cap := c2) (kk := .i64) (i := i1) (by kernel_rfl) Try.underlying23 (by kernel_rfl) ((r2.at H8.ext).cell hx7).1 hx7l hx7u) ?_
                    refine QRun_y (.int .i64 x10) (by kernel_rfl) (Y_load1 (t := 2) (p := adr a3 (i1.toNat * 1)) (v := .int .i64 x10) (by kernel_rfl) (fun w => by kernel_rfl) (cd2_cell (r2.at H8.ext) hx7)) ?_
                    refine QRun_b [.int .i64 (w64 (0 - x10))] 8 _ (by kernel_rfl) (fun w => by kernel_rfl) ?_
                    refine QRun_y (.int .i64 x11) (by kernel_rfl) (Y_callq (f := 89) (args := #[.int .i64 x9, .int .i64 (w64 (0 - x10))]) (v := .int .i64 x11) (by kernel_rfl) (w_impl_times h5 x9 (w64 (0 - x10)) _ _ hx8)) ?_
                    refine QRun_b [.int .i64 x11] 10 _ (by kernel_rfl) (fun w => by kernel_rfl) ?_
                    exact QRun_done [0, 1, 6, 7, 8, 11, 31, 32, 35, 36, 37] (by kernel_rfl) (by kernel_rfl)
                  refine Run_seq ?_
                  obtain ⟨x12, gx12, gs4⟩ := M.bind_some gs4
                  refine Run_reg 10 (by kernel_rfl) (L' := [(0, .slice aa_ a_.length ca_), (1, .slice ab b.length cb), (6, .slice a2 l1.length l1.length), (7, .int .i64 i1), (8, .bool s3.2), (11, .int .i64 x11), (31, .int .i64 (l1.length : Int)), (32, .int .i64 i1), (35, .slice aa_ a_.length ca_), (36, .int .i64 (a_.length : Int)), (37, .int .i64 i2), (66, .bool x12)]) ?_ ?_
                  · refine QRun_b [.bool s3.2, .bool (!s3.2)] 0 _ (by kernel_rfl) (fun w => by kernel_rfl) ?_
                    refine QRun_seq 10 [(0, .slice aa_ a_.length ca_), (1, .slice ab b.length cb), (6, .slice a2 l1.length l1.length), (7, .int .i64 i1), (8, .bool s3.2), (11, .int .i64 x11), (31, .int .i64 (l1.length : Int)), (32, .int .i64 i1), (35, .slice aa_ a_.length ca_), (36, .int .i64 (a_.length : Int)), (37, .int .i64 i2), (66, .bool x12)] ?_ ?_
                    · rcases Bool.eq_false_or_eq_true (!s3.2) with hb7 | hb7
                      · refine QRun_bool (!s3.2) true (by kernel_rfl) (fun w => by kernel_rfl) hb7 ?_
                        have gx12 := M.ret_some ((M.ite_some gx12).1 hb7)
                        refine QRun_n (by kernel_rfl) ?_
                        refine QRun_n (by kernel_rfl) ?_
                        refine QRun_n (by kernel_rfl) ?_
                        refine QRun_n (by kernel_rfl) ?_
                        refine QRun_n (by kernel_rfl) ?_
                        refine QRun_n (by kernel_rfl) ?_
                        refine QRun_bool true x12 (by kernel_rfl) (fun w => by kernel_rfl) gx12 ?_
                        exact QRun_done [0, 1, 6, 7, 8, 11, 31, 32, 35, 36, 37, 66] (by kernel_rfl) (by kernel_rfl)
                      · refine QRun_bool (!s3.2) false (by kernel_rfl) (fun w => by kernel_rfl) hb7 ?_
                        have gx12 := (M.ite_some gx12).2 hb7
                        obtain ⟨x13, hx9, gx12⟩ := M.bind_some gx12
                        obtain ⟨hx9l, hx9u, hx9⟩ := M.idx_some hx9
                        have gx12 := M.ret_some gx12
                        refine QRun_b [.int .i64 x11, .slice a2 l1.length l1.length, .int .i64 i1] 3 _ (by kernel_rfl) (fun w => by kernel_rfl) ?_
                        refine QRun_y (.pointer (some (adr a2 (i1.toNat * 1)))) (by kernel_rfl) (Y_idx (t := 23) (e := 2) (sz := 1) (a := a2) (n := l1.length) (cap := l1.length) (kk := .i64) (i := i1) (by kernel_rfl) Try.underlying23 (by kernel_rfl) ((H8.rd 0 rfl).cell hx9).1 hx9l (by rw [← (H8.len 0 rfl)]; exact hx9u)) ?_
                        refine QRun_y (.int .i64 x13) (by kernel_rfl) (Y_load1 (t := 2) (p := adr a2 (i1.toNat * 1)) (v := .int .i64 x13) (by kernel_rfl) (fun w => by kernel_rfl) (cd2_cell (H8.rd 0 rfl) hx9)) ?_
                        refine QRun_b [.bool (decide (x11 < x13))] 8 _ (by kernel_rfl) (fun w => by kernel_rfl) ?_
                        refine QRun_bool (decide (x11 < x13)) x12 (by kernel_rfl) (fun w => by kernel_rfl) gx12 ?_
                        exact QRun_done [0, 1, 6, 7, 8, 11, 31, 32, 35, 36, 37, 66] (by kernel_rfl) (by kernel_rfl)
                    exact QRun_done [0, 1, 6, 7, 8, 11, 31, 32, 35, 36, 37, 66] (by kernel_rfl) (by kernel_rfl)
                  refine Run_cond (b := x12) (by kernel_rfl) (fun hb8 => ?_) (fun hb8 => ?_)
                  · have gs4 := (M.ite_some gs4).1 hb8
                    refine Run_ops ?_
                    obtain ⟨x14, hx10, gs4⟩ := M.bind_some gs4
                    obtain ⟨hx10l, hx10u, hx10⟩ := M.idx_some hx10
                    refine Run_b [.slice a2 l1.length l1.length, .int .i64 i1, .int .i64 x11] 0 _ (by kernel_rfl) (fun w => by kernel_rfl) ?_
                    refine Run_y (.pointer (some (adr a2 (i1.toNat * 1)))) (by kernel_rfl) (Y_idx (t := 23) (e := 2) (sz := 1) (a := a2) (n := l1.length) (cap := l1.length) (kk := .i64) (i := i1) (by kernel_rfl) Try.underlying23 (by kernel_rfl) ((H8.rd 0 rfl).cell hx10).1 hx10l (by rw [← (H8.len 0 rfl)]; exact hx10u)) ?_
                    obtain ⟨l2, hu1, gs4⟩ := M.bind_some gs4
                    have hu1 := M.upd_some hu1
                    refine Run_E (by kernel_rfl) ?_
                    refine E_put (C := cd2) (t := 2) (sz := 1) (j := i1) (x := x11) (v := .int .i64 x11) H8 cd2_flat (by kernel_rfl) rfl (cd2_own _) (by kernel_rfl) hu1 (fun h7 H10 => ?_)
                    refine Run_b [.bool true] 5 _ (by kernel_rfl) (fun w => by kernel_rfl) ?_
                    refine Run_nil (by kernel_rfl) ?_
                    refine Run_keep [0, 1, 6, 7, 8, 31, 32, 35, 36, 37] (L' := [(0, .slice aa_ a_.length ca_), (1, .slice ab b.length cb), (6, .slice a2 l1.length l1.length), (7, .int .i64 i1), (8, .bool true), (31, .int .i64 (l1.length : Int)), (32, .int .i64 i1), (35, .slice aa_ a_.length ca_), (36, .int .i64 (a_.length : Int)), (37, .int .i64 i2)]) (by kernel_rfl) ?_
                    refine Run_blk ?_
                    have gs4 := M.ret_some gs4
                    subst gs4
                    exact Run_fall [0, 1, 6, 7, 8, 31, 32, 35, 36, 37] (by kernel_rfl) ⟨rfl, H10⟩
                  · have gs4 := (M.ite_some gs4).2 hb8
                    refine Run_skip ?_
                    refine Run_blk ?_
                    have gs4 := M.ret_some gs4
                    subst gs4
                    exact Run_fall [0, 1, 6, 7, 8, 31, 32, 35, 36, 37] (by kernel_rfl) ⟨rfl, H8⟩
            · have gx6 := M.for_end gx6 hb5
              subst gx6
              refine Run_exit (k' := _) rfl ?_
              exact Run_fall [0, 1, 6, 8, 31, 32] (by kernel_rfl) ⟨rfl, H8⟩
        · have gx5 := M.for_end gx5 hb4
          subst gx5
          refine Run_exit (k' := _) rfl ?_
          exact Run_fall [6] (by kernel_rfl) ⟨s1, rfl, rfl, H6⟩

set_option maxRecDepth 100000 in
set_option maxHeartbeats 4000000 in
theorem w_impl_timesVector (h : Heap) (a_ : List (List Int)) (aa_ : Option Addr) (ca_ : Nat) (ra_ : Rd cd23 h (Lt h) aa_ ca_ a_) (x_ : List Int) (ax_ : Option Addr) (cx_ : Nat) (rx_ : Rd cd2 h (Lt h) ax_ cx_ x_) (n : Nat) (r : (List Int)) (hF : impl_timesVector a_ x_ n = some r) :
    Fn Try.prog 65 #[.slice aa_ a_.length ca_, .slice ax_ x_.length cx_] h fun v h' => ∃ (a0 : Option Addr) (c0 : Nat), v = .slice a0 r.length c0 ∧ Hold h h' [own cd2 a0 r.length c0 r] := by
  unfold impl_timesVector at hF
  refine Fn_enter (args := [.slice aa_ a_.length ca_, .slice ax_ x_.length cx_]) Try.func65 rfl (by kernel_rfl) (by kernel_rfl) (fun w0 _ => ?_)
  have H0 := Hold.init h
  refine Run_seq ?_
  refine Run_reg 1 (by kernel_rfl) (L' := [(0, .slice aa_ a_.length ca_), (1, .slice ax_ x_.length cx_)]) ?_ ?_
  · refine QRun_b [.slice none 0 0] 0 _ (by kernel_rfl) (fun w => by kernel_rfl) ?_
    exact QRun_done [0, 1] (by kernel_rfl) (by kernel_rfl)
  refine Run_seq ?_
  refine Run_ops ?_
  refine Run_b [.slice aa_ a_.length ca_, .int .i64 (a_.length : Int)] 0 _ (by kernel_rfl) (fun w => by kernel_rfl) ?_
  obtain ⟨l1, hl1, hF⟩ := M.bind_some hF
  have hl1 := M.make_some hl1
  refine Run_E (by kernel_rfl) ?_
  refine E_make cd2 0 (kl := .i64) (kc := .i64) H0 cd2_ti Try.underlying23 (by decide) cd2_zero (by kernel_rfl) hl1 (fun a1 h1 H1 => ?_)
  refine Run_b [.slice a1 l1.length l1.length] 3 _ (by kernel_rfl) (fun w => by kernel_rfl) ?_
  refine Run_nil (by kernel_rfl) ?_
  refine Run_keep [0, 1, 5] (L' := [(0, .slice aa_ a_.length ca_), (1, .slice ax_ x_.length cx_), (5, .slice a1 l1.length l1.length)]) (by kernel_rfl) ?_
  refine Run_seq ?_
  refine Run_seq ?_
  refine Run_reg 3 (by kernel_rfl) (L' := [(1, .slice ax_ x_.length cx_), (5, .slice a1 l1.length l1.length), (13, .slice aa_ a_.length ca_), (14, .int .i64 (a_.length : Int)), (15, .int .i64 0)]) ?_ ?_
  · refine QRun_b [.slice aa_ a_.length ca_, .int .i64 (a_.length : Int), .int .i64 0] 0 _ (by kernel_rfl) (fun w => by kernel_rfl) ?_
    exact QRun_done [1, 5, 13, 14, 15] (by kernel_rfl) (by kernel_rfl)
  obtain ⟨x1, gx1, hF⟩ := M.bind_some hF
  obtain ⟨hloy1, hhiy1, gx1⟩ := M.for_start gx1
  refine Run_join (fun L' h' => L' = [(5, .slice a1 l1.length l1.length)] ∧ Hold h h' [own cd2 a1 l1.length l1.length x1]) ?_ ?_
  · rintro _ h3 ⟨rfl, H3⟩
    refine Run_seq ?_
    refine Run_reg 2 (by kernel_rfl) (L' := [(4, .slice a1 l1.length l1.length)]) ?_ ?_
    · refine QRun_b [.slice a1 l1.length l1.length, .slice a1 l1.length l1.length] 0 _ (by kernel_rfl) (fun w => by kernel_rfl) ?_
      exact QRun_done [4] (by kernel_rfl) (by kernel_rfl)
    have hF := M.ret_some hF
    subst hF
    have H10 := H3.norm
    exact Run_ret1 rfl (ResV_tmp (v := .slice a1 l1.length l1.length) (by kernel_rfl)) ⟨a1, l1.length, (by simp only [(H3.len 0 rfl)]), H10⟩
  · refine Run_block ?_
    refine Run_keep [1, 5, 13, 14, 15] (L' := [(1, .slice ax_ x_.length cx_), (5, .slice a1 l1.length l1.length), (13, .slice aa_ a_.length ca_), (14, .int .i64 (a_.length : Int)), (15, .int .i64 0)]) (by kernel_rfl) ?_
    refine Run_loop (fun m L' h' => ∃ (i1 : Int) (s1 : (List Int)), 0 ≤ i1 ∧ M.forN (a_.length : Int) _ _ n m i1 s1 = some x1 ∧ L' = [(1, .slice ax_ x_.length cx_), (5, .slice a1 l1.length l1.length), (13, .slice aa_ a_.length ca_), (14, .int .i64 (a_.length : Int)), (15, .int .i64 i1)] ∧ Hold h h' [own cd2 a1 l1.length l1.length s1]) ((a_.length : Int) - 0).toNat ⟨0, l1, Int.le_refl _, gx1, rfl, H1⟩ ?_
    rintro my1 _ h2 ⟨i1, s1, hloy1', gx1, rfl, H2⟩
    refine Run_seq ?_
    refine Run_reg 1 (by kernel_rfl) (L' := [(1, .slice ax_ x_.length cx_), (5, .slice a1 l1.length l1.length), (13, .slice aa_ a_.length ca_), (14, .int .i64 (a_.length : Int)), (15, .int .i64 i1), (16, .bool (decide (i1 < (a_.length : Int))))]) ?_ ?_
    · refine QRun_b [.bool (decide (i1 < (a_.length : Int)))] 0 _ (by kernel_rfl) (fun w => by kernel_rfl) ?_
      exact QRun_done [1, 5, 13, 14, 15, 16] (by kernel_rfl) (by kernel_rfl)
    refine Run_seq ?_
    refine Run_cond (b := decide (i1 < (a_.length : Int))) (by kernel_rfl) (fun hb1 => ?_) (fun hb1 => ?_)
    · obtain ⟨my1, y1, rfl, hB1, hgoy1, houty1⟩ := M.for_go gx1 hb1
      have hlty1 := of_decide_eq_true hb1
      refine Run_skip ?_
      refine Run_seq ?_
      refine Run_block ?_
      refine Run_seq ?_
      obtain ⟨x2, hx1, hB1⟩ := M.bind_some hB1
      obtain ⟨hx1l, hx1u, hx1⟩ := M.idx_some hx1
      obtain ⟨a2, c1, hc1, r1⟩ := ra_.row hx1
      refine Run_reg 5 (by kernel_rfl) (L' := [(1, .slice ax_ x_.length cx_), (5, .slice a1 l1.length l1.length), (6, .int .i64 i1), (7, .slice a2 x2.length c1), (13, .slice aa_ a_.length ca_), (14, .int .i64 (a_.length : Int)), (15, .int .i64 i1)]) ?_ ?_
      · refine QRun_b [.int .i64 i1] 0 _ (by kernel_rfl) (fun w => by kernel_rfl) ?_
        refine QRun_y (.pointer (some (adr aa_ (i1.toNat * 1)))) (by kernel_rfl) (Y_idx (t := 22) (e := 23) (sz := 1) (a := aa_) (n := a_.length) (cap := ca_) (kk := .i64) (i := i1) (by kernel_rfl) Try.underlying22 (by kernel_rfl) ((ra_.at H2.ext).cell hx1).1 hx1l hx1u) ?_
        refine QRun_y (.slice a2 x2.length c1) (by kernel_rfl) (Y_load1 (t := 23) (p := adr aa_ (i1.toNat * 1)) (v := .slice a2 x2.length c1) (by kernel_rfl) (fun w => by kernel_rfl) (cell_at H2.ext hc1)) ?_
        refine QRun_b [.int .i64 i1, .slice a2 x2.length c1] 3 _ (by kernel_rfl) (fun w => by kernel_rfl) ?_
        exact QRun_done [1, 5, 6, 7, 13, 14, 15] (by kernel_rfl) (by kernel_rfl)
      refine Run_seq ?_
      refine Run_ops ?_
      obtain ⟨x3, hx2, hB1⟩ := M.bind_some hB1
      obtain ⟨hx2l, hx2u, hx2⟩ := M.idx_some hx2
      refine Run_b [.slice a1 l1.length l1.length, .int .i64 i1] 0 _ (by kernel_rfl) (fun w => by kernel_rfl) ?_
      refine Run_y (.pointer (some (adr a1 (i1.toNat * 1)))) (by kernel_rfl) (Y_idx (t := 23) (e := 2) (sz := 1) (a := a1) (n := l1.length) (cap := l1.length) (kk := .i64) (i := i1) (by kernel_rfl) Try.underlying23 (by kernel_rfl) ((H2.rd 0 rfl).cell hx2).1 hx2l (by rw [← (H2.len 0 rfl)]; exact hx2u)) ?_
      obtain ⟨l2, hu1, hB1⟩ := M.bind_some hB1
      have hu1 := M.upd_some hu1
      refine Run_E (by kernel_rfl) ?_
      refine E_put (C := cd2) (t := 2) (sz := 1) (j := i1) (x := (-1000000000000000)) (v := .int .i64 (-1000000000000000)) H2 cd2_flat (by kernel_rfl) rfl (cd2_own _) (by kernel_rfl) hu1 (fun h4 H4 => ?_)
      refine Run_nil (by kernel_rfl) ?_
      refine Run_keep [1, 5, 6, 7, 13, 14, 15] (L' := [(1, .slice ax_ x_.length cx_), (5, .slice a1 l1.length l1.length), (6, .int .i64 i1), (7, .slice a2 x2.length c1), (13, .slice aa_ a_.length ca_), (14, .int .i64 (a_.length : Int)), (15, .int .i64 i1)]) (by kernel_rfl) ?_
      refine Run_seq ?_
      refine Run_reg 3 (by kernel_rfl) (L' := [(1, .slice ax_ x_.length cx_), (5, .slice a1 l1.length l1.length), (6, .int .i64 i1), (13, .slice aa_ a_.length ca_), (14, .int .i64 (a_.length : Int)), (15, .int .i64 i1), (23, .slice a2 x2.length c1), (24, .int .i64 (x2.length : Int)), (25, .int .i64 0)]) ?_ ?_
      · refine QRun_b [.slice a2 x2.length c1, .int .i64 (x2.length : Int), .int .i64 0] 0 _ (by kernel_rfl) (fun w => by kernel_rfl) ?_
        exact QRun_done [1, 5, 6, 13, 14, 15, 23, 24, 25] (by kernel_rfl) (by kernel_rfl)
      obtain ⟨x4, gx4, hB1⟩ := M.bind_some hB1
      obtain ⟨hloy2, hhiy2, gx4⟩ := M.for_start gx4
      refine Run_join (fun L' h' => L' = [(1, .slice ax_ x_.length cx_), (5, .slice a1 l1.length l1.length), (13, .slice aa_ a_.length ca_), (14, .int .i64 (a_.length : Int)), (15, .int .i64 i1)] ∧ Hold h h' [own cd2 a1 l1.length l1.length x4]) ?_ ?_
      · rintro _ h6 ⟨rfl, H6⟩
        refine Run_blk ?_
        refine Run_reg 2 (by kernel_rfl) (L' := [(1, .slice ax_ x_.length cx_), (5, .slice a1 l1.length l1.length), (13, .slice aa_ a_.length ca_), (14, .int .i64 (a_.length : Int)), (15, .int .i64 (i1 + 1))]) ?_ ?_
        · refine QRun_y (.int .i64 (i1 + 1)) (by kernel_rfl) (Y_eq (v := .int .i64 (w64 (i1 + 1))) (Y_pure (fun w => by kernel_rfl)) (by rw [w64_eq _ (by omega)])) ?_
          refine QRun_b [.int .i64 (i1 + 1)] 1 _ (by kernel_rfl) (fun w => by kernel_rfl) ?_
          exact QRun_done [1, 5, 13, 14, 15] (by kernel_rfl) (by kernel_rfl)
        have hB1 := M.ret_some hB1
        have gx1 := hgoy1 _ hB1.symm
        exact Run_again [1, 5, 13, 14, 15] (by kernel_rfl) my1 (Nat.lt_succ_self _) ⟨i1 + 1, x4, by omega, gx1, rfl, H6⟩
      · refine Run_block ?_
        refine Run_keep [1, 5, 6, 13, 14, 15, 23, 24, 25] (L' := [(1, .slice ax_ x_.length cx_), (5, .slice a1 l1.length l1.length), (6, .int .i64 i1), (13, .slice aa_ a_.length ca_), (14, .int .i64 (a_.length : Int)), (15, .int .i64 i1), (23, .slice a2 x2.length c1), (24, .int .i64 (x2.length : Int)), (25, .int .i64 0)]) (by kernel_rfl) ?_
        refine Run_loop (fun m L' h' => ∃ (i2 : Int) (s2 : (List Int)), 0 ≤ i2 ∧ M.forN (x2.length : Int) _ _ n m i2 s2 = some x4 ∧ L' = [(1, .slice ax_ x_.length cx_), (5, .slice a1 l1.length l1.length), (6, .int .i64 i1), (13, .slice aa_ a_.length ca_), (14, .int .i64 (a_.length : Int)), (15, .int .i64 i1), (23, .slice a2 x2.length c1), (24, .int .i64 (x2.length : Int)), (25, .int .i64 i2)] ∧ Hold h h' [own cd2 a1 l1.length l1.length s2]) ((x2.length : Int) - 0).toNat ⟨0, l2, Int.le_refl _, gx4, rfl, H4⟩ ?_
        rintro my2 _ h5 ⟨i2, s2, hloy2', gx4, rfl, H5⟩
        refine Run_seq ?_
        refine Run_reg 1 (by kernel_rfl) (L' := [(1, .slice ax_ x_.length cx_), (5, .slice a1 l1.length l1.length), (6, .int .i64 i1), (13, .slice aa_ a_.length ca_), (14, .int .i64 (a_.length : Int)), (15, .int .i64 i1), (23, .slice a2 x2.length c1), (24, .int .i64 (x2.length : Int)), (25, .int .i64 i2), (26, .bool (decide (i2 < (x2.length : Int))))]) ?_ ?_
        · refine QRun_b [.bool (decide (i2 < (x2.length : Int)))] 0 _ (by kernel_rfl) (fun w => by kernel_rfl) ?_
          exact QRun_done [1, 5, 6, 13, 14, 15, 23, 24, 25, 26] (by kernel_rfl) (by kernel_rfl)
        refine Run_seq ?_
        refine Run_cond (b := decide (i2 < (x2.length : Int))) (by kernel_rfl) (fun hb2 => ?_) (fun hb2 => ?_)
        · obtain ⟨my2, y2, rfl, hB2, hgoy2, houty2⟩ := M.for_go gx4 hb2
          have hlty2 := of_decide_eq_true hb2
          refine Run_skip ?_
          refine Run_seq ?_
          refine Run_block ?_
          refine Run_seq ?_
          obtain ⟨x5, hx3, hB2⟩ := M.bind_some hB2
          obtain ⟨hx3l, hx3u, hx3⟩ := M.idx_some hx3
          refine Run_reg 5 (by kernel_rfl) (L' := [(1, .slice ax_ x_.length cx_), (5, .slice a1 l1.length l1.length), (6, .int .i64 i1), (8, .int .i64 i2), (9, .int .i64 x5), (13, .slice aa_ a_.length ca_), (14, .int .i64 (a_.length : Int)), (15, .int .i64 i1), (23, .slice a2 x2.length c1), (24, .int .i64 (x2.length : Int)), (25, .int .i64 i2)]) ?_ ?_
          · refine QRun_b [.int .i64 i2] 0 _ (by kernel_rfl) (fun w => by kernel_rfl) ?_
            refine QRun_y (.pointer (some (adr a2 (i2.toNat * 1)))) (by kernel_rfl) (Y_idx (t := 23) (e := 2) (sz := 1) (a := a2) (n := x2.length) (cap := c1) (kk := .i64) (i := i2) (by kernel_rfl) Try.underlying23 (by kernel_rfl) ((r1.at H5.ext).cell hx3).1 hx3l hx3u) ?_
            refine QRun_y (.int .i64 x5) (by kernel_rfl) (Y_load1 (t := 2) (p := adr a2 (i2.toNat * 1)) (v := .int .i64 x5) (by kernel_rfl) (fun w => by kernel_rfl) (cd2_cell (r1.at H5.ext) hx3)) ?_
            refine QRun_b [.int .i64 i2, .int .i64 x5] 3 _ (by kernel_rfl) (fun w => by kernel_rfl) ?_
            exact QRun_done [1, 5, 6, 8, 9, 13, 14, 15, 23, 24, 25] (by kernel_rfl) (by kernel_rfl)
          obtain ⟨x6, hx4, hB2⟩ := M.bind_some hB2
          obtain ⟨hx4l, hx4u, hx4⟩ := M.idx_some hx4
          obtain ⟨x7, hx5, hB2⟩ := M.bind_some hB2
          obtain ⟨hx5l, hx5u, hx5⟩ := M.idx_some hx5
          obtain ⟨x8, hx6, hB2⟩ := M.bind_some hB2
          obtain ⟨x9, hx7, hB2⟩ := M.bind_some hB2
          obtain ⟨hx7l, hx7u, hx7⟩ := M.idx_some hx7
          refine Run_D (fun x => Hold h x [own cd2 a1 l1.length l1.length s2]) (fun x => Hold h x [own cd2 a1 l1.length l1.length s2]) mixed (by kernel_rfl) H5 Hold.stable (fun x Hy => (show Hold h x [own cd2 a1 l1.length l1.length s2] from Hy).pick [0] (by kernel_rfl)) ?_
          refine DR_b 11 [.slice a1 l1.length l1.length, .int .i64 i1, .slice a1 l1.length l1.length, .int .i64 i1] 0 (by kernel_rfl) (by kernel_rfl) (by kernel_rfl) (fun w => by kernel_rfl) ?_
          refine DR_y 10 (i := 4) (.pointer (some (adr a1 (i1.toNat * 1)))) (by kernel_rfl) (by kernel_rfl) (by kernel_rfl) (fun hx Hx => (YE.of (Y_idx (t := 23) (e := 2) (sz := 1) (a := a1) (n := l1.length) (cap := l1.length) (kk := .i64) (i := i1) (by kernel_rfl) Try.underlying23 (by kernel_rfl) ((H5.rd 0 rfl).cell hx4).1 hx4l (by rw [← (H5.len 0 rfl)]; exact hx4u)))) ?_
          refine DR_y 9 (i := 5) (.int .i64 x6) (by kernel_rfl) (by kernel_rfl) (by kernel_rfl) (fun hx Hx => (YE.of (Y_load1 (t := 2) (p := adr a1 (i1.toNat * 1)) (v := .int .i64 x6) (by kernel_rfl) (fun w => by kernel_rfl) (cd2_cell (Hx.rd 0 rfl) hx4)))) ?_
          refine DR_b 6 [.int .i64 x5, .slice ax_ x_.length cx_, .int .i64 i2] 6 (by kernel_rfl) (by kernel_rfl) (by kernel_rfl) (fun w => by kernel_rfl) ?_
          refine DR_y 5 (i := 9) (.pointer (some (adr ax_ (i2.toNat * 1)))) (by kernel_rfl) (by kernel_rfl) (by kernel_rfl) (fun hx Hx => (YE.of (Y_idx (t := 23) (e := 2) (sz := 1) (a := ax_) (n := x_.length) (cap := cx_) (kk := .i64) (i := i2) (by kernel_rfl) Try.underlying23 (by kernel_rfl) ((rx_.at H5.ext).cell hx5).1 hx5l hx5u))) ?_
          refine DR_y 4 (i := 10) (.int .i64 x7) (by kernel_rfl) (by kernel_rfl) (by kernel_rfl) (fun hx Hx => (YE.of (Y_load1 (t := 2) (p := adr ax_ (i2.toNat * 1)) (v := .int .i64 x7) (by kernel_rfl) (fun w => by kernel_rfl) (cd2_cell (rx_.at Hx.ext) hx5)))) ?_
          refine DR_y 3 (i := 11) (.int .i64 x8) (by kernel_rfl) (by kernel_rfl) (by kernel_rfl) (fun hx Hx => (YE.of (Y_callq (f := 89) (args := #[.int .i64 x5, .int .i64 x7]) (v := .int .i64 x8) (by kernel_rfl) (w_impl_times hx x5 x7 _ _ hx6)))) ?_
          refine DR_b 2 [.int .i64 (mx x6 x8)] 12 (by kernel_rfl) (by kernel_rfl) (by kernel_rfl) (fun w => by kernel_rfl) ?_
          refine DR_y 1 (i := 13) (.pointer (some (adr a1 (i1.toNat * 1)))) (by kernel_rfl) (by kernel_rfl) (by kernel_rfl) (fun hx Hx => (YE.of (Y_idx (t := 23) (e := 2) (sz := 1) (a := a1) (n := l1.length) (cap := l1.length) (kk := .i64) (i := i1) (by kernel_rfl) Try.underlying23 (by kernel_rfl) ((H5.rd 0 rfl).cell hx7).1 hx7l (by rw [← (H5.len 0 rfl)]; exact hx7u)))) ?_
          refine DR_tail (i := 14) (by kernel_rfl) (by kernel_rfl) (by kernel_rfl) (fun h7 H7 => ?_)
          have H8 : Hold h h7 [own cd2 a1 l1.length l1.length s2] := H7
          obtain ⟨l3, hu2, hB2⟩ := M.bind_some hB2
          have hu2 := M.upd_some hu2
          refine Run_E (by kernel_rfl) ?_
          refine E_put (C := cd2) (t := 2) (sz := 1) (j := i1) (x := (mx x6 x8)) (v := .int .i64 (mx x6 x8)) H8 cd2_flat (by kernel_rfl) rfl (cd2_own _) (by kernel_rfl) hu2 (fun h8 H9 => ?_)
          refine Run_nil (by kernel_rfl) ?_
          refine Run_keep [1, 5, 6, 13, 14, 15, 23, 24, 25] (L' := [(1, .slice ax_ x_.length cx_), (5, .slice a1 l1.length l1.length), (6, .int .i64 i1), (13, .slice aa_ a_.length ca_), (14, .int .i64 (a_.length : Int)), (15, .int .i64 i1), (23, .slice a2 x2.length c1), (24, .int .i64 (x2.length : Int)), (25, .int .i64 i2)]) (by kernel_rfl) ?_
          refine Run_blk ?_
          refine Run_reg 2 (by kernel_rfl) (L' := [(1, .slice ax_ x_.length cx_), (5, .slice a1 l1.length l1.length), (6, .int .i64 i1), (13, .slice aa_ a_.length ca_), (14, .int .i64 (a_.length : Int)), (15, .int .i64 i1), (23, .slice a2 x2.length c1), (24, .int .i64 (x2.length : Int)), (25, .int .i64 (i2 + 1))]) ?_ ?_
          · refine QRun_y (.int .i64 (i2 + 1)) (by kernel_rfl) (Y_eq (v := .int .i64 (w64 (i2 + 1))) (Y_pure (fun w => by kernel_rfl)) (by rw [w64_eq _ (by omega)])) ?_
            refine QRun_b [.int .i64 (i2 + 1)] 1 _ (by kernel_rfl) (fun w => by kernel_rfl) ?_
            exact QRun_done [1, 5, 6, 13, 14, 15, 23, 24, 25] (by kernel_rfl) (by kernel_rfl)
          have hB2 := M.ret_some hB2
          have gx4 := hgoy2 _ hB2.symm
          exact Run_again [1, 5, 6, 13, 14, 15, 23, 24, 25] (by kernel_rfl) my2 (Nat.lt_succ_self _) ⟨i2 + 1, l3, by omega, gx4, rfl, H9⟩
        · have gx4 := M.for_end gx4 hb2
          subst gx4
          refine Run_exit (k' := _) rfl ?_
          exact Run_fall [1, 5, 13, 14, 15] (by kernel_rfl) ⟨rfl, H5⟩
    · have gx1 := M.for_end gx1 hb1
      subst gx1
      refine Run_exit (k' := _) rfl ?_
      exact Run_fall [5] (by kernel_rfl) ⟨rfl, H2⟩

set_option maxRecDepth 100000 in
set_option maxHeartbeats 4000000 in
theorem w_slices_Equal_int (h : Heap) (p0 : List Int) {Sp0 : Bs} (ap0 : Option Addr) (cp0 : Nat) (rp0 : Rd cd2 h Sp0 ap0 cp0 p0) (p1 : List Int) {Sp1 : Bs} (ap1 : Option Addr) (cp1 : Nat) (rp1 : Rd cd2 h Sp1 ap1 cp1 p1) (n : Nat) (r : Bool) (hF : slices_Equal_int p0 p1 n = some r) :
    Fn Try.prog 68 #[.slice ap0 p0.length cp0, .slice ap1 p1.length cp1] h fun v h' => v = .bool r ∧ h' = h := by
  unfold slices_Equal_int at hF
  refine Fn_enter (args := [.slice ap0 p0.length cp0, .slice ap1 p1.length cp1]) Try.func68 rfl (by kernel_rfl) (by kernel_rfl) (fun w0 _ => ?_)
  refine Run_seq ?_
  refine Run_reg 1 (by kernel_rfl) (L' := [(0, .slice ap0 p0.length cp0), (1, .slice ap1 p1.length cp1)]) ?_ ?_
  · refine QRun_b [.bool false] 0 _ (by kernel_rfl) (fun w => by kernel_rfl) ?_
    exact QRun_done [0, 1] (by kernel_rfl) (by kernel_rfl)
  refine Run_seq ?_
  refine Run_seq ?_
  refine Run_reg 5 (by kernel_rfl) (L' := [(0, .slice ap0 p0.length cp0), (1, .slice ap1 p1.length cp1), (10, .bool ((p0.length : Int) != (p1.length : Int)))]) ?_ ?_
  · refine QRun_b [.slice ap0 p0.length cp0, .int .i64 (p0.length : Int), .slice ap1 p1.length cp1, .int .i64 (p1.length : Int), .bool ((p0.length : Int) != (p1.length : Int))] 0 _ (by kernel_rfl) (fun w => by kernel_rfl) ?_
    exact QRun_done [0, 1, 10] (by kernel_rfl) (by kernel_rfl)
  refine Run_cond (b := (p0.length : Int) != (p1.length : Int)) (by kernel_rfl) (fun hb1 => ?_) (fun hb1 => ?_)
  · have hF := (M.ite_some hF).1 hb1
    refine Run_seq ?_
    refine Run_reg 1 (by kernel_rfl) (L' := [(4, .bool false)]) ?_ ?_
    · refine QRun_b [.bool false] 0 _ (by kernel_rfl) (fun w => by kernel_rfl) ?_
      exact QRun_done [4] (by kernel_rfl) (by kernel_rfl)
    have hF := M.ret_some hF
    subst hF
    exact Run_ret1 rfl (ResV_tmp (v := .bool false) (by kernel_rfl)) ⟨rfl, rfl⟩
  · have hF := (M.ite_some hF).2 hb1
    refine Run_skip ?_
    refine Run_seq ?_
    refine Run_seq ?_
    refine Run_reg 3 (by kernel_rfl) (L' := [(0, .slice ap0 p0.length cp0), (1, .slice ap1 p1.length cp1), (12, .int .i64 (p0.length : Int)), (13, .int .i64 0)]) ?_ ?_
    · refine QRun_b [.slice ap0 p0.length cp0, .int .i64 (p0.length : Int), .int .i64 0] 0 _ (by kernel_rfl) (fun w => by kernel_rfl) ?_
      exact QRun_done [0, 1, 12, 13] (by kernel_rfl) (by kernel_rfl)
    obtain ⟨x1, gx1, hF⟩ := M.bind_some hF
    obtain ⟨hloy1, hhiy1, gx1⟩ := M.for_start gx1
    refine Run_join (fun L' h' => ∃ (s2 : Unit), x1 = .inl s2 ∧ L' = [] ∧ h = h') ?_ ?_
    · rintro _ _ ⟨s2, es2, rfl, rfl⟩
      have hF := M.cont_inl' hF es2
      refine Run_seq ?_
      refine Run_reg 1 (by kernel_rfl) (L' := [(4, .bool true)]) ?_ ?_
      · refine QRun_b [.bool true] 0 _ (by kernel_rfl) (fun w => by kernel_rfl) ?_
        exact QRun_done [4] (by kernel_rfl) (by kernel_rfl)
      have hF := M.ret_some hF
      subst hF
      exact Run_ret1 rfl (ResV_tmp (v := .bool true) (by kernel_rfl)) ⟨rfl, rfl⟩
    · refine Run_block ?_
      refine Run_keep [0, 1, 12, 13] (L' := [(0, .slice ap0 p0.length cp0), (1, .slice ap1 p1.length cp1), (12, .int .i64 (p0.length : Int)), (13, .int .i64 0)]) (by kernel_rfl) ?_
      refine Run_loop (fun m L' h' => ∃ (i1 : Int) (s1 : Unit), 0 ≤ i1 ∧ M.forN (p0.length : Int) _ _ n m i1 s1 = some x1 ∧ L' = [(0, .slice ap0 p0.length cp0), (1, .slice ap1 p1.length cp1), (12, .int .i64 (p0.length : Int)), (13, .int .i64 i1)] ∧ h = h') ((p0.length : Int) - 0).toNat ⟨0, (), Int.le_refl _, gx1, rfl, rfl⟩ ?_
      rintro my1 _ _ ⟨i1, s1, hloy1', gx1, rfl, rfl⟩
      refine Run_seq ?_
      refine Run_reg 1 (by kernel_rfl) (L' := [(0, .slice ap0 p0.length cp0), (1, .slice ap1 p1.length cp1), (12, .int .i64 (p0.length : Int)), (13, .int .i64 i1), (14, .bool (decide (i1 < (p0.length : Int))))]) ?_ ?_
      · refine QRun_b [.bool (decide (i1 < (p0.length : Int)))] 0 _ (by kernel_rfl) (fun w => by kernel_rfl) ?_
        exact QRun_done [0, 1, 12, 13, 14] (by kernel_rfl) (by kernel_rfl)
      refine Run_seq ?_
      refine Run_cond (b := decide (i1 < (p0.length : Int))) (by kernel_rfl) (fun hb2 => ?_) (fun hb2 => ?_)
      · obtain ⟨my1, y1, rfl, hB1, hgoy1, houty1⟩ := M.for_go gx1 hb2
        have hlty1 := of_decide_eq_true hb2
        refine Run_skip ?_
        refine Run_seq ?_
        refine Run_block ?_
        refine Run_seq ?_
        refine Run_reg 2 (by kernel_rfl) (L' := [(0, .slice ap0 p0.length cp0), (1, .slice ap1 p1.length cp1), (5, .int .i64 i1), (12, .int .i64 (p0.length : Int)), (13, .int .i64 i1)]) ?_ ?_
        · refine QRun_b [.int .i64 i1, .int .i64 i1] 0 _ (by kernel_rfl) (fun w => by kernel_rfl) ?_
          exact QRun_done [0, 1, 5, 12, 13] (by kernel_rfl) (by kernel_rfl)
        refine Run_seq ?_
        obtain ⟨x2, hx1, hB1⟩ := M.bind_some hB1
        obtain ⟨hx1l, hx1u, hx1⟩ := M.idx_some hx1
        obtain ⟨x3, hx2, hB1⟩ := M.bind_some hB1
        obtain ⟨hx2l, hx2u, hx2⟩ := M.idx_some hx2
        refine Run_draw 9 mixed (by kernel_rfl) (by kernel_rfl) (L' := [(0, .slice ap0 p0.length cp0), (1, .slice ap1 p1.length cp1), (12, .int .i64 (p0.length : Int)), (13, .int .i64 i1), (24, .bool (x2 != x3))]) ?_ ?_
        · refine QRun_b [.slice ap0 p0.length cp0, .int .i64 i1] 0 _ (by kernel_rfl) (fun w => by kernel_rfl) ?_
          refine QRun_y (.pointer (some (adr ap0 (i1.toNat * 1)))) (by kernel_rfl) (Y_idx (t := 23) (e := 2) (sz := 1) (a := ap0) (n := p0.length) (cap := cp0) (kk := .i64) (i := i1) (by kernel_rfl) Try.underlying23 (by kernel_rfl) (rp0.cell hx1).1 hx1l hx1u) ?_
          refine QRun_y (.int .i64 x2) (by kernel_rfl) (Y_load1 (t := 2) (p := adr ap0 (i1.toNat * 1)) (v := .int .i64 x2) (by kernel_rfl) (fun w => by kernel_rfl) (cd2_cell rp0 hx1)) ?_
          refine QRun_b [.slice ap1 p1.length cp1, .int .i64 i1] 4 _ (by kernel_rfl) (fun w => by kernel_rfl) ?_
          refine QRun_y (.pointer (some (adr ap1 (i1.toNat * 1)))) (by kernel_rfl) (Y_idx (t := 23) (e := 2) (sz := 1) (a := ap1) (n := p1.length) (cap := cp1) (kk := .i64) (i := i1) (by kernel_rfl) Try.underlying23 (by kernel_rfl) (rp1.cell hx2).1 hx2l hx2u) ?_
          refine QRun_y (.int .i64 x3) (by kernel_rfl) (Y_load1 (t := 2) (p := adr ap1 (i1.toNat * 1)) (v := .int .i64 x3) (by kernel_rfl) (fun w => by kernel_rfl) (cd2_cell rp1 hx2)) ?_
          refine QRun_b [.bool (x2 != x3)] 8 _ (by kernel_rfl) (fun w => by kernel_rfl) ?_
          exact QRun_done [0, 1, 12, 13, 24] (by kernel_rfl) (by kernel_rfl)
        refine Run_cond (b := x2 != x3) (by kernel_rfl) (fun hb3 => ?_) (fun hb3 => ?_)
        · have hB1 := (M.ite_some hB1).1 hb3
          refine Run_seq ?_
          refine Run_reg 1 (by kernel_rfl) (L' := [(4, .bool false)]) ?_ ?_
          · refine QRun_b [.bool false] 0 _ (by kernel_rfl) (fun w => by kernel_rfl) ?_
            exact QRun_done [4] (by kernel_rfl) (by kernel_rfl)
          have hB1 := M.ret_some hB1
          have gx1 := houty1 _ hB1.symm
          have hF := M.cont_inr' hF gx1
          have hF := M.ret_some hF
          subst hF
          exact Run_ret1 rfl (ResV_tmp (v := .bool false) (by kernel_rfl)) ⟨rfl, rfl⟩
        · have hB1 := (M.ite_some hB1).2 hb3
          refine Run_skip ?_
          refine Run_blk ?_
          refine Run_reg 2 (by kernel_rfl) (L' := [(0, .slice ap0 p0.length cp0), (1, .slice ap1 p1.length cp1), (12, .int .i64 (p0.length : Int)), (13, .int .i64 (i1 + 1))]) ?_ ?_
          · refine QRun_y (.int .i64 (i1 + 1)) (by kernel_rfl) (Y_eq (v := .int .i64 (w64 (i1 + 1))) (Y_pure (fun w => by kernel_rfl)) (by rw [w64_eq _ (by omega)])) ?_
            refine QRun_b [.int .i64 (i1 + 1)] 1 _ (by kernel_rfl) (fun w => by kernel_rfl) ?_
            exact QRun_done [0, 1, 12, 13] (by kernel_rfl) (by kernel_rfl)
          have hB1 := M.ret_some hB1
          have gx1 := hgoy1 _ hB1.symm
          exact Run_again [0, 1, 12, 13] (by kernel_rfl) my1 (Nat.lt_succ_self _) ⟨i1 + 1, (), by omega, gx1, rfl, rfl⟩
      · have gx1 := M.for_end gx1 hb2
        subst gx1
        refine Run_exit (k' := _) rfl ?_
        exact Run_fall [] (by kernel_rfl) ⟨(), rfl, rfl, rfl⟩

set_option maxRecDepth 100000 in
set_option maxHeartbeats 4000000 in
theorem w_impl_coversVector_1 (h : Heap) (j : Int) (z0 : List (List Int)) {Sz0 : Bs} (az0 : Option Addr) (cz0 : Nat) (rz0 : Rd cd23 h Sz0 az0 cz0 z0) (bz0 : Nat) (vz0 : VarAt h bz0 22 [.slice az0 z0.length cz0]) (z1 : Int) (bz1 : Nat) (vz1 : VarAt h bz1 3 [.int .i64 z1]) (z2 : List Int) {Sz2 : Bs} (az2 : Option Addr) (cz2 : Nat) (rz2 : Rd cd2 h Sz2 az2 cz2 z2) (bz2 : Nat) (vz2 : VarAt h bz2 23 [.slice az2 z2.length cz2]) (z3 : Int) (bz3 : Nat) (vz3 : VarAt h bz3 2 [.int .i64 z3]) (n : Nat) (r : Bool) (hF : impl_coversVector_1 j z0 z1 z2 z3 n = some r) :
    Fn Try.prog 129 #[.int .i64 j, .pointer (some ⟨bz0, 0, none⟩), .pointer (some ⟨bz1, 0, none⟩), .pointer (some ⟨bz2, 0, none⟩), .pointer (some ⟨bz3, 0, none⟩)] h fun v h' => v = .bool r ∧ h' = h := by
  unfold impl_coversVector_1 at hF
  refine Fn_enter (args := [.int .i64 j, .pointer (some ⟨bz0, 0, none⟩), .pointer (some ⟨bz1, 0, none⟩), .pointer (some ⟨bz2, 0, none⟩), .pointer (some ⟨bz3, 0, none⟩)]) Try.func129 rfl (by kernel_rfl) (by kernel_rfl) (fun w0 _ => ?_)
  refine Run_seq ?_
  refine Run_reg 1 (by kernel_rfl) (L' := [(0, .int .i64 j), (1, .pointer (some ⟨bz0, 0, none⟩)), (2, .pointer (some ⟨bz1, 0, none⟩)), (3, .pointer (some ⟨bz2, 0, none⟩)), (4, .pointer (some ⟨bz3, 0, none⟩))]) ?_ ?_
  · refine QRun_b [.bool false] 0 _ (by kernel_rfl) (fun w => by kernel_rfl) ?_
    exact QRun_done [0, 1, 2, 3, 4] (by kernel_rfl) (by kernel_rfl)
  refine Run_seq ?_
  obtain ⟨x1, hx1, hF⟩ := M.bind_some hF
  obtain ⟨hx1l, hx1u, hx1⟩ := M.idx_some hx1
  obtain ⟨a1, c1, hc1, r1⟩ := rz0.row hx1
  obtain ⟨x2, hx2, hF⟩ := M.bind_some hF
  obtain ⟨hx2l, hx2u, hx2⟩ := M.idx_some hx2
  obtain ⟨x3, hx3, hF⟩ := M.bind_some hF
  obtain ⟨hx3l, hx3u, hx3⟩ := M.idx_some hx3
  obtain ⟨x4, hx4, hF⟩ := M.bind_some hF
  refine Run_draw 15 mixed (by kernel_rfl) (by kernel_rfl) (L' := [(6, .bool (x4 == z3))]) ?_ ?_
  · refine QRun_y (.slice az0 z0.length cz0) (by kernel_rfl) (Y_load1 (t := 22) (p := ⟨bz0, 0, none⟩) (v := .slice az0 z0.length cz0) (by kernel_rfl) (fun w => by kernel_rfl) (VarAt.cell vz0 rfl)) ?_
    refine QRun_y (.int .i64 z1) (by kernel_rfl) (Y_load1 (t := 3) (p := ⟨bz1, 0, none⟩) (v := .int .i64 z1) (by kernel_rfl) (fun w => by kernel_rfl) (VarAt.cell vz1 rfl)) ?_
    refine QRun_y (.pointer (some (adr az0 (z1.toNat * 1)))) (by kernel_rfl) (Y_idx (t := 22) (e := 23) (sz := 1) (a := az0) (n := z0.length) (cap := cz0) (kk := .i64) (i := z1) (by kernel_rfl) Try.underlying22 (by kernel_rfl) (rz0.cell hx1).1 hx1l hx1u) ?_
    refine QRun_y (.slice a1 x1.length c1) (by kernel_rfl) (Y_load1 (t := 23) (p := adr az0 (z1.toNat * 1)) (v := .slice a1 x1.length c1) (by kernel_rfl) (fun w => by kernel_rfl) hc1) ?_
    refine QRun_b [.int .i64 j] 4 _ (by kernel_rfl) (fun w => by kernel_rfl) ?_
    refine QRun_y (.pointer (some (adr a1 (j.toNat * 1)))) (by kernel_rfl) (Y_idx (t := 23) (e := 2) (sz := 1) (a := a1) (n := x1.length) (cap := c1) (kk := .i64) (i := j) (by kernel_rfl) Try.underlying23 (by kernel_rfl) (r1.cell hx2).1 hx2l hx2u) ?_
    refine QRun_y (.int .i64 x2) (by kernel_rfl) (Y_load1 (t := 2) (p := adr a1 (j.toNat * 1)) (v := .int .i64 x2) (by kernel_rfl) (fun w => by kernel_rfl) (cd2_cell r1 hx2)) ?_
    refine QRun_y (.slice az2 z2.length cz2) (by kernel_rfl) (Y_load1 (t := 23) (p := ⟨bz2, 0, none⟩) (v := .slice az2 z2.length cz2) (by kernel_rfl) (fun w => by kernel_rfl) (VarAt.cell vz2 rfl)) ?_
    refine QRun_b [.int .i64 j] 8 _ (by kernel_rfl) (fun w => by kernel_rfl) ?_
    refine QRun_y (.pointer (some (adr az2 (j.toNat * 1)))) (by kernel_rfl) (Y_idx (t := 23) (e := 2) (sz := 1) (a := az2) (n := z2.length) (cap := cz2) (kk := .i64) (i := j) (by kernel_rfl) Try.underlying23 (by kernel_rfl) (rz2.cell hx3).1 hx3l hx3u) ?_
    refine QRun_y (.int .i64 x3) (by kernel_rfl) (Y_load1 (t := 2) (p := adr az2 (j.toNat * 1)) (v := .int .i64 x3) (by kernel_rfl) (fun w => by kernel_rfl) (cd2_cell rz2 hx3)) ?_
    refine QRun_y (.int .i64 x4) (by kernel_rfl) (Y_callq (f := 89) (args := #[.int .i64 x2, .int .i64 x3]) (v := .int .i64 x4) (by kernel_rfl) (w_impl_times h x2 x3 _ _ hx4)) ?_
    refine QRun_y (.int .i64 z3) (by kernel_rfl) (Y_load1 (t := 2) (p := ⟨bz3, 0, none⟩) (v := .int .i64 z3) (by kernel_rfl) (fun w => by kernel_rfl) (VarAt.cell vz3 rfl)) ?_
    refine QRun_b [.bool (x4 == z3), .bool (x4 == z3)] 13 _ (by kernel_rfl) (fun w => by kernel_rfl) ?_
    exact QRun_done [6] (by kernel_rfl) (by kernel_rfl)
  have hF := M.ret_some hF
  subst hF
  exact Run_ret1 rfl (ResV_tmp (v := .bool (x4 == z3)) (by kernel_rfl)) ⟨rfl, rfl⟩

set_option maxRecDepth 100000 in
set_option maxHeartbeats 4000000 in
theorem w_slices_IndexFunc_int_F_impl_coversVector_1 (h : Heap) (s_ : List Int) {Ss_ : Bs} (as_ : Option Addr) (cs_ : Nat) (rs_ : Rd cd2 h Ss_ as_ cs_ s_) (f0 : List (List Int)) {Sf0 : Bs} (af0 : Option Addr) (cf0 : Nat) (rf0 : Rd cd23 h Sf0 af0 cf0 f0) (bf0 : Nat) (vf0 : VarAt h bf0 22 [.slice af0 f0.length cf0]) (f1 : Int) (bf1 : Nat) (vf1 : VarAt h bf1 3 [.int .i64 f1]) (f2 : List Int) {Sf2 : Bs} (af2 : Option Addr) (cf2 : Nat) (rf2 : Rd cd2 h Sf2 af2 cf2 f2) (bf2 : Nat) (vf2 : VarAt h bf2 23 [.slice af2 f2.length cf2]) (f3 : Int) (bf3 : Nat) (vf3 : VarAt h bf3 2 [.int .i64 f3]) (n : Nat) (r : Int) (hF : slices_IndexFunc_int_F_impl_coversVector_1 s_ f0 f1 f2 f3 n = some r) :
    Fn Try.prog 132 #[.slice as_ s_.length cs_, .func (.func 129) #[] #[.pointer (some ⟨bf0, 0, none⟩), .pointer (some ⟨bf1, 0, none⟩), .pointer (some ⟨bf2, 0, none⟩), .pointer (some ⟨bf3, 0, none⟩)]] h fun v h' => v = .int .i64 r ∧ h' = h := by
  unfold slices_IndexFunc_int_F_impl_coversVector_1 at hF
  refine Fn_enter (args := [.slice as_ s_.length cs_, .func (.func 129) #[] #[.pointer (some ⟨bf0, 0, none⟩), .pointer (some ⟨bf1, 0, none⟩), .pointer (some ⟨bf2, 0, none⟩), .pointer (some ⟨bf3, 0, none⟩)]]) Try.func132 rfl (by kernel_rfl) (by kernel_rfl) (fun w0 _ => ?_)
  refine Run_seq ?_
  refine Run_reg 1 (by kernel_rfl) (L' := [(0, .slice as_ s_.length cs_), (1, .func (.func 129) #[] #[.pointer (some ⟨bf0, 0, none⟩), .pointer (some ⟨bf1, 0, none⟩), .pointer (some ⟨bf2, 0, none⟩), .pointer (some ⟨bf3, 0, none⟩)])]) ?_ ?_
  · refine QRun_b [.int .i64 0] 0 _ (by kernel_rfl) (fun w => by kernel_rfl) ?_
    exact QRun_done [0, 1] (by kernel_rfl) (by kernel_rfl)
  refine Run_seq ?_
  refine Run_seq ?_
  refine Run_reg 3 (by kernel_rfl) (L' := [(0, .slice as_ s_.length cs_), (1, .func (.func 129) #[] #[.pointer (some ⟨bf0, 0, none⟩), .pointer (some ⟨bf1, 0, none⟩), .pointer (some ⟨bf2, 0, none⟩), .pointer (some ⟨bf3, 0, none⟩)]), (7, .int .i64 (s_.length : Int)), (8, .int .i64 0)]) ?_ ?_
  · refine QRun_b [.slice as_ s_.length cs_, .int .i64 (s_.length : Int), .int .i64 0] 0 _ (by kernel_rfl) (fun w => by kernel_rfl) ?_
    exact QRun_done [0, 1, 7, 8] (by kernel_rfl) (by kernel_rfl)
  obtain ⟨x1, gx1, hF⟩ := M.bind_some hF
  obtain ⟨hloy1, hhiy1, gx1⟩ := M.for_start gx1
  refine Run_join (fun L' h' => ∃ (s2 : Unit), x1 = .inl s2 ∧ L' = [] ∧ h = h') ?_ ?_
  · rintro _ _ ⟨s2, es2, rfl, rfl⟩
    have hF := M.cont_inl' hF es2
    refine Run_seq ?_
    refine Run_reg 1 (by kernel_rfl) (L' := [(4, .int .i64 (-1))]) ?_ ?_
    · refine QRun_b [.int .i64 (-1)] 0 _ (by kernel_rfl) (fun w => by kernel_rfl) ?_
      exact QRun_done [4] (by kernel_rfl) (by kernel_rfl)
    have hF := M.ret_some hF
    subst hF
    exact Run_ret1 rfl (ResV_tmp (v := .int .i64 (-1)) (by kernel_rfl)) ⟨rfl, rfl⟩
  · refine Run_block ?_
    refine Run_keep [0, 1, 7, 8] (L' := [(0, .slice as_ s_.length cs_), (1, .func (.func 129) #[] #[.pointer (some ⟨bf0, 0, none⟩), .pointer (some ⟨bf1, 0, none⟩), .pointer (some ⟨bf2, 0, none⟩), .pointer (some ⟨bf3, 0, none⟩)]), (7, .int .i64 (s_.length : Int)), (8, .int .i64 0)]) (by kernel_rfl) ?_
    refine Run_loop (fun m L' h' => ∃ (i1 : Int) (s1 : Unit), 0 ≤ i1 ∧ M.forN (s_.length : Int) _ _ n m i1 s1 = some x1 ∧ L' = [(0, .slice as_ s_.length cs_), (1, .func (.func 129) #[] #[.pointer (some ⟨bf0, 0, none⟩), .pointer (some ⟨bf1, 0, none⟩), .pointer (some ⟨bf2, 0, none⟩), .pointer (some ⟨bf3, 0, none⟩)]), (7, .int .i64 (s_.length : Int)), (8, .int .i64 i1)] ∧ h = h') ((s_.length : Int) - 0).toNat ⟨0, (), Int.le_refl _, gx1, rfl, rfl⟩ ?_
    rintro my1 _ _ ⟨i1, s1, hloy1', gx1, rfl, rfl⟩
    refine Run_seq ?_
    refine Run_reg 1 (by kernel_rfl) (L' := [(0, .slice as_ s_.length cs_), (1, .func (.func 129) #[] #[.pointer (some ⟨bf0, 0, none⟩), .pointer (some ⟨bf1, 0, none⟩), .pointer (some ⟨bf2, 0, none⟩), .pointer (some ⟨bf3, 0, none⟩)]), (7, .int .i64 (s_.length : Int)), (8, .int .i64 i1), (9, .bool (decide (i1 < (s_.length : Int))))]) ?_ ?_
    · refine QRun_b [.bool (decide (i1 < (s_.length : Int)))] 0 _ (by kernel_rfl) (fun w => by kernel_rfl) ?_
      exact QRun_done [0, 1, 7, 8, 9] (by kernel_rfl) (by kernel_rfl)
    refine Run_seq ?_
    refine Run_cond (b := decide (i1 < (s_.length : Int))) (by kernel_rfl) (fun hb1 => ?_) (fun hb1 => ?_)
    · obtain ⟨my1, y1, rfl, hB1, hgoy1, houty1⟩ := M.for_go gx1 hb1
      have hlty1 := of_decide_eq_true hb1
      refine Run_skip ?_
      refine Run_seq ?_
      refine Run_block ?_
      refine Run_seq ?_
      refine Run_reg 2 (by kernel_rfl) (L' := [(0, .slice as_ s_.length cs_), (1, .func (.func 129) #[] #[.pointer (some ⟨bf0, 0, none⟩), .pointer (some ⟨bf1, 0, none⟩), .pointer (some ⟨bf2, 0, none⟩), .pointer (some ⟨bf3, 0, none⟩)]), (5, .int .i64 i1), (7, .int .i64 (s_.length : Int)), (8, .int .i64 i1)]) ?_ ?_
      · refine QRun_b [.int .i64 i1, .int .i64 i1] 0 _ (by kernel_rfl) (fun w => by kernel_rfl) ?_
        exact QRun_done [0, 1, 5, 7, 8] (by kernel_rfl) (by kernel_rfl)
      refine Run_seq ?_
      obtain ⟨x2, hx1, hB1⟩ := M.bind_some hB1
      obtain ⟨hx1l, hx1u, hx1⟩ := M.idx_some hx1
      obtain ⟨x3, hx2, hB1⟩ := M.bind_some hB1
      refine Run_reg 6 (by kernel_rfl) (L' := [(0, .slice as_ s_.length cs_), (1, .func (.func 129) #[] #[.pointer (some ⟨bf0, 0, none⟩), .pointer (some ⟨bf1, 0, none⟩), .pointer (some ⟨bf2, 0, none⟩), .pointer (some ⟨bf3, 0, none⟩)]), (5, .int .i64 i1), (7, .int .i64 (s_.length : Int)), (8, .int .i64 i1), (16, .bool x3)]) ?_ ?_
      · refine QRun_b [.func (.func 129) #[] #[.pointer (some ⟨bf0, 0, none⟩), .pointer (some ⟨bf1, 0, none⟩), .pointer (some ⟨bf2, 0, none⟩), .pointer (some ⟨bf3, 0, none⟩)], .slice as_ s_.length cs_, .int .i64 i1] 0 _ (by kernel_rfl) (fun w => by kernel_rfl) ?_
        refine QRun_y (.pointer (some (adr as_ (i1.toNat * 1)))) (by kernel_rfl) (Y_idx (t := 23) (e := 2) (sz := 1) (a := as_) (n := s_.length) (cap := cs_) (kk := .i64) (i := i1) (by kernel_rfl) Try.underlying23 (by kernel_rfl) (rs_.cell hx1).1 hx1l hx1u) ?_
        refine QRun_y (.int .i64 x2) (by kernel_rfl) (Y_load1 (t := 2) (p := adr as_ (i1.toNat * 1)) (v := .int .i64 x2) (by kernel_rfl) (fun w => by kernel_rfl) (cd2_cell rs_ hx1)) ?_
        refine QRun_y (.bool x3) (by kernel_rfl) (Y_callq (f := 129) (args := #[.int .i64 x2, .pointer (some ⟨bf0, 0, none⟩), .pointer (some ⟨bf1, 0, none⟩), .pointer (some ⟨bf2, 0, none⟩), .pointer (some ⟨bf3, 0, none⟩)]) (v := .bool x3) (by kernel_rfl) (w_impl_coversVector_1 h x2 f0 af0 cf0 rf0 bf0 vf0 f1 bf1 vf1 f2 af2 cf2 rf2 bf2 vf2 f3 bf3 vf3 _ _ hx2)) ?_
        exact QRun_done [0, 1, 5, 7, 8, 16] (by kernel_rfl) (by kernel_rfl)
      refine Run_cond (b := x3) (by kernel_rfl) (fun hb2 => ?_) (fun hb2 => ?_)
      · have hB1 := (M.ite_some hB1).1 hb2
        refine Run_seq ?_
        refine Run_reg 2 (by kernel_rfl) (L' := [(4, .int .i64 i1)]) ?_ ?_
        · refine QRun_b [.int .i64 i1, .int .i64 i1] 0 _ (by kernel_rfl) (fun w => by kernel_rfl) ?_
          exact QRun_done [4] (by kernel_rfl) (by kernel_rfl)
        have hB1 := M.ret_some hB1
        have gx1 := houty1 _ hB1.symm
        have hF := M.cont_inr' hF gx1
        have hF := M.ret_some hF
        subst hF
        exact Run_ret1 rfl (ResV_tmp (v := .int .i64 i1) (by kernel_rfl)) ⟨rfl, rfl⟩
      · have hB1 := (M.ite_some hB1).2 hb2
        refine Run_skip ?_
        refine Run_blk ?_
        refine Run_reg 2 (by kernel_rfl) (L' := [(0, .slice as_ s_.length cs_), (1, .func (.func 129) #[] #[.pointer (some ⟨bf0, 0, none⟩), .pointer (some ⟨bf1, 0, none⟩), .pointer (some ⟨bf2, 0, none⟩), .pointer (some ⟨bf3, 0, none⟩)]), (7, .int .i64 (s_.length : Int)), (8, .int .i64 (i1 + 1))]) ?_ ?_
        · refine QRun_y (.int .i64 (i1 + 1)) (by kernel_rfl) (Y_eq (v := .int .i64 (w64 (i1 + 1))) (Y_pure (fun w => by kernel_rfl)) (by rw [w64_eq _ (by omega)])) ?_
          refine QRun_b [.int .i64 (i1 + 1)] 1 _ (by kernel_rfl) (fun w => by kernel_rfl) ?_
          exact QRun_done [0, 1, 7, 8] (by kernel_rfl) (by kernel_rfl)
        have hB1 := M.ret_some hB1
        have gx1 := hgoy1 _ hB1.symm
        exact Run_again [0, 1, 7, 8] (by kernel_rfl) my1 (Nat.lt_succ_self _) ⟨i1 + 1, (), by omega, gx1, rfl, rfl⟩
    · have gx1 := M.for_end gx1 hb1
      subst gx1
      refine Run_exit (k' := _) rfl ?_
      exact Run_fall [] (by kernel_rfl) ⟨(), rfl, rfl, rfl⟩

set_option maxRecDepth 100000 in
set_option maxHeartbeats 4000000 in
theorem w_slices_ContainsFunc_int_F_impl_coversVector_1 (h : Heap) (s_ : List Int) {Ss_ : Bs} (as_ : Option Addr) (cs_ : Nat) (rs_ : Rd cd2 h Ss_ as_ cs_ s_) (f0 : List (List Int)) {Sf0 : Bs} (af0 : Option Addr) (cf0 : Nat) (rf0 : Rd cd23 h Sf0 af0 cf0 f0) (bf0 : Nat) (vf0 : VarAt h bf0 22 [.slice af0 f0.length cf0]) (f1 : Int) (bf1 : Nat) (vf1 : VarAt h bf1 3 [.int .i64 f1]) (f2 : List Int) {Sf2 : Bs} (af2 : Option Addr) (cf2 : Nat) (rf2 : Rd cd2 h Sf2 af2 cf2 f2) (bf2 : Nat) (vf2 : VarAt h bf2 23 [.slice af2 f2.length cf2]) (f3 : Int) (bf3 : Nat) (vf3 : VarAt h bf3 2 [.int .i64 f3]) (n : Nat) (r : Bool) (hF : slices_ContainsFunc_int_F_impl_coversVector_1 s_ f0 f1 f2 f3 n = some r) :
    Fn Try.prog 126 #[.slice as_ s_.length cs_, .func (.func 129) #[] #[.pointer (some ⟨bf0, 0, none⟩), .pointer (some ⟨bf1, 0, none⟩), .pointer (some ⟨bf2, 0, none⟩), .pointer (some ⟨bf3, 0, none⟩)]] h fun v h' => v = .bool r ∧ h' = h := by
  unfold slices_ContainsFunc_int_F_impl_coversVector_1 at hF
  refine Fn_enter (args := [.slice as_ s_.length cs_, .func (.func 129) #[] #[.pointer (some ⟨bf0, 0, none⟩), .pointer (some ⟨bf1, 0, none⟩), .pointer (some ⟨bf2, 0, none⟩), .pointer (some ⟨bf3, 0, none⟩)]]) Try.func126 rfl (by kernel_rfl) (by kernel_rfl) (fun w0 _ => ?_)
  refine Run_seq ?_
  refine Run_reg 1 (by kernel_rfl) (L' := [(0, .slice as_ s_.length cs_), (1, .func (.func 129) #[] #[.pointer (some ⟨bf0, 0, none⟩), .pointer (some ⟨bf1, 0, none⟩), .pointer (some ⟨bf2, 0, none⟩), .pointer (some ⟨bf3, 0, none⟩)])]) ?_ ?_
  · refine QRun_b [.bool false] 0 _ (by kernel_rfl) (fun w => by kernel_rfl) ?_
    exact QRun_done [0, 1] (by kernel_rfl) (by kernel_rfl)
  refine Run_seq ?_
  obtain ⟨x1, hx1, hF⟩ := M.bind_some hF
  refine Run_reg 5 (by kernel_rfl) (L' := [(4, .bool (decide (0 ≤ x1)))]) ?_ ?_
  · refine QRun_b [.slice as_ s_.length cs_, .func (.func 129) #[] #[.pointer (some ⟨bf0, 0, none⟩), .pointer (some ⟨bf1, 0, none⟩), .pointer (some ⟨bf2, 0, none⟩), .pointer (some ⟨bf3, 0, none⟩)]] 0 _ (by kernel_rfl) (fun w => by kernel_rfl) ?_
    refine QRun_y (.int .i64 x1) (by kernel_rfl) (Y_callq (f := 132) (args := #[.slice as_ s_.length cs_, .func (.func 129) #[] #[.pointer (some ⟨bf0, 0, none⟩), .pointer (some ⟨bf1, 0, none⟩), .pointer (some ⟨bf2, 0, none⟩), .pointer (some ⟨bf3, 0, none⟩)]]) (v := .int .i64 x1) (by kernel_rfl) (w_slices_IndexFunc_int_F_impl_coversVector_1 h s_ as_ cs_ rs_ f0 af0 cf0 rf0 bf0 vf0 f1 bf1 vf1 f2 af2 cf2 rf2 bf2 vf2 f3 bf3 vf3 _ _ hx1)) ?_
    refine QRun_b [.bool (decide (0 ≤ x1)), .bool (decide (0 ≤ x1))] 3 _ (by kernel_rfl) (fun w => by kernel_rfl) ?_
    exact QRun_done [4] (by kernel_rfl) (by kernel_rfl)
  have hF := M.ret_some hF
  subst hF
  exact Run_ret1 rfl (ResV_tmp (v := .bool (decide (0 ≤ x1))) (by kernel_rfl)) ⟨rfl, rfl⟩

set_option maxRecDepth 100000 in
set_option maxHeartbeats 4000000 in
theorem w_impl_coversVector (h : Heap) (a_ : List (List Int)) (aa_ : Option Addr) (ca_ : Nat) (ra_ : Rd cd23 h (Lt h) aa_ ca_ a_) (b : List Int) (ab : Option Addr) (cb : Nat) (rb : Rd cd2 h (Lt h) ab cb b) (x_ : List Int) (ax_ : Option Addr) (cx_ : Nat) (rx_ : Rd cd2 h (Lt h) ax_ cx_ x_) (columns : List Int) (acolumns : Option Addr) (ccolumns : Nat) (rcolumns : Rd cd2 h (Lt h) acolumns ccolumns columns) (n : Nat) (r : Bool) (hF : impl_coversVector a_ b x_ columns n = some r) :
    Fn Try.prog 110 #[.slice aa_ a_.length ca_, .slice ab b.length cb, .slice ax_ x_.length cx_, .slice acolumns columns.length ccolumns] h fun v h' => v = .bool r ∧ Hold h h' [] := by
  unfold impl_coversVector at hF
  refine Fn_enter (args := [.slice aa_ a_.length ca_, .slice ab b.length cb, .slice ax_ x_.length cx_, .slice acolumns columns.length ccolumns]) Try.func110 rfl (by kernel_rfl) (by kernel_rfl) (fun w0 _ => ?_)
  have H0 := Hold.init h
  refine Run_seq ?_
  refine Run_ops ?_
  refine Run_E (by kernel_rfl) ?_
  refine E_box (ty := 22) (cs := [.slice aa_ a_.length ca_]) H0 (fun w => by kernel_rfl) (fun b1 h1 H1 => ?_)
  refine Run_E (by kernel_rfl) ?_
  refine E_box (ty := 23) (cs := [.slice ax_ x_.length cx_]) H1 (fun w => by kernel_rfl) (fun b2 h2 H2 => ?_)
  refine Run_b [.bool false] 2 _ (by kernel_rfl) (fun w => by kernel_rfl) ?_
  refine Run_nil (by kernel_rfl) ?_
  refine Run_keep [1, 3, 4, 6] (L' := [(1, .slice ab b.length cb), (3, .slice acolumns columns.length ccolumns), (4, .pointer (some ⟨b1, 0, none⟩)), (6, .pointer (some ⟨b2, 0, none⟩))]) (by kernel_rfl) ?_
  refine Run_seq ?_
  refine Run_seq ?_
  refine Run_reg 3 (by kernel_rfl) (L' := [(3, .slice acolumns columns.length ccolumns), (4, .pointer (some ⟨b1, 0, none⟩)), (6, .pointer (some ⟨b2, 0, none⟩)), (11, .slice ab b.length cb), (12, .int .i64 (b.length : Int)), (13, .int .i64 0)]) ?_ ?_
  · refine QRun_b [.slice ab b.length cb, .int .i64 (b.length : Int), .int .i64 0] 0 _ (by kernel_rfl) (fun w => by kernel_rfl) ?_
    exact QRun_done [3, 4, 6, 11, 12, 13] (by kernel_rfl) (by kernel_rfl)
  obtain ⟨x1, gx1, hF⟩ := M.bind_some hF
  obtain ⟨hloy1, hhiy1, gx1⟩ := M.for_start gx1
  refine Run_join (fun L' h' => ∃ (s2 : Unit), x1 = .inl s2 ∧ L' = [] ∧ Hold h h' []) ?_ ?_
  · rintro _ h4 ⟨s2, es2, rfl, H4⟩
    have hF := M.cont_inl' hF es2
    refine Run_seq ?_
    refine Run_reg 1 (by kernel_rfl) (L' := [(8, .bool true)]) ?_ ?_
    · refine QRun_b [.bool true] 0 _ (by kernel_rfl) (fun w => by kernel_rfl) ?_
      exact QRun_done [8] (by kernel_rfl) (by kernel_rfl)
    have hF := M.ret_some hF
    subst hF
    exact Run_ret1 rfl (ResV_tmp (v := .bool true) (by kernel_rfl)) ⟨rfl, H4⟩
  · refine Run_block ?_
    have H14 : Hold h h2 [box b1 22 [.slice aa_ a_.length ca_], box b2 23 [.slice ax_ x_.length cx_]] := H2.pick [1, 0] (by kernel_rfl)
    refine Run_keep [3, 4, 6, 11, 12, 13] (L' := [(3, .slice acolumns columns.length ccolumns), (4, .pointer (some ⟨b1, 0, none⟩)), (6, .pointer (some ⟨b2, 0, none⟩)), (11, .slice ab b.length cb), (12, .int .i64 (b.length : Int)), (13, .int .i64 0)]) (by kernel_rfl) ?_
    refine Run_loop (fun m L' h' => ∃ (i1 : Int) (s1 : Unit), 0 ≤ i1 ∧ M.forN (b.length : Int) _ _ n m i1 s1 = some x1 ∧ L' = [(3, .slice acolumns columns.length ccolumns), (4, .pointer (some ⟨b1, 0, none⟩)), (6, .pointer (some ⟨b2, 0, none⟩)), (11, .slice ab b.length cb), (12, .int .i64 (b.length : Int)), (13, .int .i64 i1)] ∧ Hold h h' [box b1 22 [.slice aa_ a_.length ca_], box b2 23 [.slice ax_ x_.length cx_]]) ((b.length : Int) - 0).toNat ⟨0, (), Int.le_refl _, gx1, rfl, H14⟩ ?_
    rintro my1 _ h3 ⟨i1, s1, hloy1', gx1, rfl, H3⟩
    refine Run_seq ?_
    refine Run_reg 1 (by kernel_rfl) (L' := [(3, .slice acolumns columns.length ccolumns), (4, .pointer (some ⟨b1, 0, none⟩)), (6, .pointer (some ⟨b2, 0, none⟩)), (11, .slice ab b.length cb), (12, .int .i64 (b.length : Int)), (13, .int .i64 i1), (14, .bool (decide (i1 < (b.length : Int))))]) ?_ ?_
    · refine QRun_b [.bool (decide (i1 < (b.length : Int)))] 0 _ (by kernel_rfl) (fun w => by kernel_rfl) ?_
      exact QRun_done [3, 4, 6, 11, 12, 13, 14] (by kernel_rfl) (by kernel_rfl)
    refine Run_seq ?_
    refine Run_cond (b := decide (i1 < (b.length : Int))) (by kernel_rfl) (fun hb1 => ?_) (fun hb1 => ?_)
    · obtain ⟨my1, y1, rfl, hB1, hgoy1, houty1⟩ := M.for_go gx1 hb1
      have hlty1 := of_decide_eq_true hb1
      refine Run_skip ?_
      refine Run_seq ?_
      refine Run_block ?_
      refine Run_seq ?_
      refine Run_ops ?_
      obtain ⟨x2, hx1, hB1⟩ := M.bind_some hB1
      obtain ⟨hx1l, hx1u, hx1⟩ := M.idx_some hx1
      refine Run_b [.int .i64 i1] 0 _ (by kernel_rfl) (fun w => by kernel_rfl) ?_
      refine Run_y (.pointer (some (adr ab (i1.toNat * 1)))) (by kernel_rfl) (Y_idx (t := 23) (e := 2) (sz := 1) (a := ab) (n := b.length) (cap := cb) (kk := .i64) (i := i1) (by kernel_rfl) Try.underlying23 (by kernel_rfl) ((rb.at H3.ext).cell hx1).1 hx1l hx1u) ?_
      refine Run_y (.int .i64 x2) (by kernel_rfl) (Y_load1 (t := 2) (p := adr ab (i1.toNat * 1)) (v := .int .i64 x2) (by kernel_rfl) (fun w => by kernel_rfl) (cd2_cell (rb.at H3.ext) hx1)) ?_
      refine Run_E (by kernel_rfl) ?_
      refine E_box (ty := 3) (cs := [.int .i64 0]) H3 (fun w => by kernel_rfl) (fun b3 h5 H5 => ?_)
      refine Run_E (by kernel_rfl) ?_
      refine E_box (ty := 2) (cs := [.int .i64 0]) H5 (fun w => by kernel_rfl) (fun b4 h6 H6 => ?_)
      have H8 : Hold h h6 [box b3 3 [.int .i64 0], box b4 2 [.int .i64 0], box b1 22 [.slice aa_ a_.length ca_], box b2 23 [.slice ax_ x_.length cx_]] := H6.pick [1, 0, 2, 3] (by kernel_rfl)
      refine Run_E (by kernel_rfl) ?_
      refine E_bput (t := 3) (off := 0) (us := [.int .i64 i1]) (v := .int .i64 i1) H8 (by kernel_rfl) (by kernel_rfl) rfl (by kernel_rfl) rfl (fun h7 H7 => ?_)
      have H10 : Hold h h7 [box b4 2 [.int .i64 0], box b3 3 [.int .i64 i1], box b1 22 [.slice aa_ a_.length ca_], box b2 23 [.slice ax_ x_.length cx_]] := H7.pick [1, 0, 2, 3] (by kernel_rfl)
      refine Run_E (by kernel_rfl) ?_
      refine E_bput (t := 2) (off := 0) (us := [.int .i64 x2]) (v := .int .i64 x2) H10 (by kernel_rfl) (by kernel_rfl) rfl (by kernel_rfl) rfl (fun h8 H9 => ?_)
      refine Run_nil (by kernel_rfl) ?_
      refine Run_keep [3, 4, 6, 9, 10, 11, 12, 13] (L' := [(3, .slice acolumns columns.length ccolumns), (4, .pointer (some ⟨b1, 0, none⟩)), (6, .pointer (some ⟨b2, 0, none⟩)), (9, .pointer (some ⟨b3, 0, none⟩)), (10, .pointer (some ⟨b4, 0, none⟩)), (11, .slice ab b.length cb), (12, .int .i64 (b.length : Int)), (13, .int .i64 i1)]) (by kernel_rfl) ?_
      refine Run_seq ?_
      obtain ⟨x3, gx3, hB1⟩ := M.bind_some hB1
      refine Run_reg 8 (by kernel_rfl) (L' := [(3, .slice acolumns columns.length ccolumns), (4, .pointer (some ⟨b1, 0, none⟩)), (6, .pointer (some ⟨b2, 0, none⟩)), (11, .slice ab b.length cb), (12, .int .i64 (b.length : Int)), (13, .int .i64 i1), (25, .bool x3)]) ?_ ?_
      · refine QRun_y (.int .i64 x2) (by kernel_rfl) (Y_load1 (t := 2) (p := ⟨b4, 0, none⟩) (v := .int .i64 x2) (by kernel_rfl) (fun w => by kernel_rfl) (H9.cell 0 rfl rfl)) ?_
        refine QRun_b [.bool (x2 != (-1000000000000000))] 1 _ (by kernel_rfl) (fun w => by kernel_rfl) ?_
        refine QRun_seq 8 [(3, .slice acolumns columns.length ccolumns), (4, .pointer (some ⟨b1, 0, none⟩)), (6, .pointer (some ⟨b2, 0, none⟩)), (11, .slice ab b.length cb), (12, .int .i64 (b.length : Int)), (13, .int .i64 i1), (25, .bool x3)] ?_ ?_
        · rcases Bool.eq_false_or_eq_true (x2 != (-1000000000000000)) with hb2 | hb2
          · refine QRun_bool (x2 != (-1000000000000000)) true (by kernel_rfl) (fun w => by kernel_rfl) hb2 ?_
            have gx3 := (M.ite_some gx3).1 hb2
            obtain ⟨x4, hx2, gx3⟩ := M.bind_some gx3
            have gx3 := M.ret_some gx3
            refine QRun_b [.slice acolumns columns.length ccolumns, .func (.func 129) #[] #[.pointer (some ⟨b1, 0, none⟩), .pointer (some ⟨b3, 0, none⟩), .pointer (some ⟨b2, 0, none⟩), .pointer (some ⟨b4, 0, none⟩)]] 3 _ (by kernel_rfl) (fun w => by kernel_rfl) ?_
            refine QRun_y (.bool x4) (by kernel_rfl) (Y_callq (f := 126) (args := #[.slice acolumns columns.length ccolumns, .func (.func 129) #[] #[.pointer (some ⟨b1, 0, none⟩), .pointer (some ⟨b3, 0, none⟩), .pointer (some ⟨b2, 0, none⟩), .pointer (some ⟨b4, 0, none⟩)]]) (v := .bool x4) (by kernel_rfl) (w_slices_ContainsFunc_int_F_impl_coversVector_1 h8 columns acolumns ccolumns (rcolumns.at H9.ext) a_ aa_ ca_ (ra_.at H9.ext) b1 (H9.var 2 rfl) i1 b3 (H9.var 1 rfl) x_ ax_ cx_ (rx_.at H9.ext) b2 (H9.var 3 rfl) x2 b4 (H9.var 0 rfl) _ _ hx2)) ?_
            refine QRun_b [.bool (!x4)] 6 _ (by kernel_rfl) (fun w => by kernel_rfl) ?_
            refine QRun_bool (!x4) x3 (by kernel_rfl) (fun w => by kernel_rfl) gx3 ?_
            exact QRun_done [3, 4, 6, 11, 12, 13, 25] (by kernel_rfl) (by kernel_rfl)
          · refine QRun_bool (x2 != (-1000000000000000)) false (by kernel_rfl) (fun w => by kernel_rfl) hb2 ?_
            have gx3 := M.ret_some ((M.ite_some gx3).2 hb2)
            refine QRun_n (by kernel_rfl) ?_
            refine QRun_n (by kernel_rfl) ?_
            refine QRun_n (by kernel_rfl) ?_
            refine QRun_n (by kernel_rfl) ?_
            refine QRun_bool false x3 (by kernel_rfl) (fun w => by kernel_rfl) gx3 ?_
            exact QRun_done [3, 4, 6, 11, 12, 13, 25] (by kernel_rfl) (by kernel_rfl)
        exact QRun_done [3, 4, 6, 11, 12, 13, 25] (by kernel_rfl) (by kernel_rfl)
      refine Run_cond (b := x3) (by kernel_rfl) (fun hb3 => ?_) (fun hb3 => ?_)
      · have hB1 := (M.ite_some hB1).1 hb3
        refine Run_seq ?_
        refine Run_reg 1 (by kernel_rfl) (L' := [(8, .bool false)]) ?_ ?_
        · refine QRun_b [.bool false] 0 _ (by kernel_rfl) (fun w => by kernel_rfl) ?_
          exact QRun_done [8] (by kernel_rfl) (by kernel_rfl)
        have hB1 := M.ret_some hB1
        have gx1 := houty1 _ hB1.symm
        have hF := M.cont_inr' hF gx1
        have hF := M.ret_some hF
        subst hF
        have H11 : Hold h h8 [] := H9.pick [] (by kernel_rfl)
        exact Run_ret1 rfl (ResV_tmp (v := .bool false) (by kernel_rfl)) ⟨rfl, H11⟩
      · have hB1 := (M.ite_some hB1).2 hb3
        refine Run_skip ?_
        refine Run_blk ?_
        refine Run_reg 2 (by kernel_rfl) (L' := [(3, .slice acolumns columns.length ccolumns), (4, .pointer (some ⟨b1, 0, none⟩)), (6, .pointer (some ⟨b2, 0, none⟩)), (11, .slice ab b.length cb), (12, .int .i64 (b.length : Int)), (13, .int .i64 (i1 + 1))]) ?_ ?_
        · refine QRun_y (.int .i64 (i1 + 1)) (by kernel_rfl) (Y_eq (v := .int .i64 (w64 (i1 + 1))) (Y_pure (fun w => by kernel_rfl)) (by rw [w64_eq _ (by omega)])) ?_
          refine QRun_b [.int .i64 (i1 + 1)] 1 _ (by kernel_rfl) (fun w => by kernel_rfl) ?_
          exact QRun_done [3, 4, 6, 11, 12, 13] (by kernel_rfl) (by kernel_rfl)
        have H12 : Hold h h8 [box b1 22 [.slice aa_ a_.length ca_], box b2 23 [.slice ax_ x_.length cx_]] := H9.pick [2, 3] (by kernel_rfl)
        have hB1 := M.ret_some hB1
        have gx1 := hgoy1 _ hB1.symm
        exact Run_again [3, 4, 6, 11, 12, 13] (by kernel_rfl) my1 (Nat.lt_succ_self _) ⟨i1 + 1, (), by omega, gx1, rfl, H12⟩
    · have gx1 := M.for_end gx1 hb1
      subst gx1
      refine Run_exit (k' := _) rfl ?_
      have H13 : Hold h h3 [] := H3.pick [] (by kernel_rfl)
      exact Run_fall [] (by kernel_rfl) ⟨(), rfl, rfl, H13⟩

set_option maxRecDepth 100000 in
set_option maxHeartbeats 4000000 in
theorem w_cmp_isNaN_i (h : Heap) (x_ : Int) (n : Nat) (r : Bool) (hF : cmp_isNaN_i x_ n = some r) :
    Fn Try.prog 133 #[.int .i64 x_] h fun v h' => v = .bool r ∧ h' = h := by
  unfold cmp_isNaN_i at hF
  refine Fn_enter (args := [.int .i64 x_]) Try.func133 rfl (by kernel_rfl) (by kernel_rfl) (fun w0 _ => ?_)
  refine Run_seq ?_
  refine Run_reg 1 (by kernel_rfl) (L' := [(0, .int .i64 x_)]) ?_ ?_
  · refine QRun_b [.bool false] 0 _ (by kernel_rfl) (fun w => by kernel_rfl) ?_
    exact QRun_done [0] (by kernel_rfl) (by kernel_rfl)
  refine Run_seq ?_
  refine Run_reg 4 (by kernel_rfl) (L' := [(2, .bool (x_ != x_))]) ?_ ?_
  · refine QRun_b [.int .i64 x_, .int .i64 x_, .bool (x_ != x_), .bool (x_ != x_)] 0 _ (by kernel_rfl) (fun w => by kernel_rfl) ?_
    exact QRun_done [2] (by kernel_rfl) (by kernel_rfl)
  have hF := M.ret_some hF
  subst hF
  exact Run_ret1 rfl (ResV_tmp (v := .bool (x_ != x_)) (by kernel_rfl)) ⟨rfl, rfl⟩

set_option maxRecDepth 100000 in
set_option maxHeartbeats 4000000 in
theorem w_cmp_Compare_i (h : Heap) (x_ : Int) (y_ : Int) (n : Nat) (r : Int) (hF : cmp_Compare_i x_ y_ n = some r) :
    Fn Try.prog 130 #[.int .i64 x_, .int .i64 y_] h fun v h' => v = .int .i64 r ∧ h' = h := by
  unfold cmp_Compare_i at hF
  refine Fn_enter (args := [.int .i64 x_, .int .i64 y_]) Try.func130 rfl (by kernel_rfl) (by kernel_rfl) (fun w0 _ => ?_)
  refine Run_seq ?_
  refine Run_reg 1 (by kernel_rfl) (L' := [(0, .int .i64 x_), (1, .int .i64 y_)]) ?_ ?_
  · refine QRun_b [.int .i64 0] 0 _ (by kernel_rfl) (fun w => by kernel_rfl) ?_
    exact QRun_done [0, 1] (by kernel_rfl) (by kernel_rfl)
  refine Run_seq ?_
  obtain ⟨x1, hx1, hF⟩ := M.bind_some hF
  refine Run_reg 3 (by kernel_rfl) (L' := [(0, .int .i64 x_), (1, .int .i64 y_), (5, .bool x1)]) ?_ ?_
  · refine QRun_b [.int .i64 x_] 0 _ (by kernel_rfl) (fun w => by kernel_rfl) ?_
    refine QRun_y (.bool x1) (by kernel_rfl) (Y_callq (f := 133) (args := #[.int .i64 x_]) (v := .bool x1) (by kernel_rfl) (w_cmp_isNaN_i h x_ _ _ hx1)) ?_
    refine QRun_b [.bool x1] 2 _ (by kernel_rfl) (fun w => by kernel_rfl) ?_
    exact QRun_done [0, 1, 5] (by kernel_rfl) (by kernel_rfl)
  refine Run_seq ?_
  obtain ⟨x2, hx2, hF⟩ := M.bind_some hF
  refine Run_reg 3 (by kernel_rfl) (L' := [(0, .int .i64 x_), (1, .int .i64 y_), (5, .bool x1), (6, .bool x2)]) ?_ ?_
  · refine QRun_b [.int .i64 y_] 0 _ (by kernel_rfl) (fun w => by kernel_rfl) ?_
    refine QRun_y (.bool x2) (by kernel_rfl) (Y_callq (f := 133) (args := #[.int .i64 y_]) (v := .bool x2) (by kernel_rfl) (w_cmp_isNaN_i h y_ _ _ hx2)) ?_
    refine QRun_b [.bool x2] 2 _ (by kernel_rfl) (fun w => by kernel_rfl) ?_
    exact QRun_done [0, 1, 5, 6] (by kernel_rfl) (by kernel_rfl)
  refine Run_seq ?_
  refine Run_seq ?_
  refine Run_reg 1 (by kernel_rfl) (L' := [(0, .int .i64 x_), (1, .int .i64 y_), (6, .bool x2), (11, .bool x1)]) ?_ ?_
  · refine QRun_b [.bool x1] 0 _ (by kernel_rfl) (fun w => by kernel_rfl) ?_
    exact QRun_done [0, 1, 6, 11] (by kernel_rfl) (by kernel_rfl)
  refine Run_cond (b := x1) (by kernel_rfl) (fun hb1 => ?_) (fun hb1 => ?_)
  · have hF := (M.ite_some hF).1 hb1
    refine Run_seq ?_
    refine Run_seq ?_
    refine Run_reg 1 (by kernel_rfl) (L' := [(12, .bool x2)]) ?_ ?_
    · refine QRun_b [.bool x2] 0 _ (by kernel_rfl) (fun w => by kernel_rfl) ?_
      exact QRun_done [12] (by kernel_rfl) (by kernel_rfl)
    refine Run_cond (b := x2) (by kernel_rfl) (fun hb2 => ?_) (fun hb2 => ?_)
    · have hF := (M.ite_some hF).1 hb2
      refine Run_seq ?_
      refine Run_reg 1 (by kernel_rfl) (L' := [(4, .int .i64 0)]) ?_ ?_
      · refine QRun_b [.int .i64 0] 0 _ (by kernel_rfl) (fun w => by kernel_rfl) ?_
        exact QRun_done [4] (by kernel_rfl) (by kernel_rfl)
      have hF := M.ret_some hF
      subst hF
      exact Run_ret1 rfl (ResV_tmp (v := .int .i64 0) (by kernel_rfl)) ⟨rfl, rfl⟩
    · have hF := (M.ite_some hF).2 hb2
      refine Run_skip ?_
      refine Run_seq ?_
      refine Run_reg 1 (by kernel_rfl) (L' := [(4, .int .i64 (-1))]) ?_ ?_
      · refine QRun_b [.int .i64 (-1)] 0 _ (by kernel_rfl) (fun w => by kernel_rfl) ?_
        exact QRun_done [4] (by kernel_rfl) (by kernel_rfl)
      have hF := M.ret_some hF
      subst hF
      exact Run_ret1 rfl (ResV_tmp (v := .int .i64 (-1)) (by kernel_rfl)) ⟨rfl, rfl⟩
  · have hF := (M.ite_some hF).2 hb1
    refine Run_skip ?_
    refine Run_seq ?_
    refine Run_seq ?_
    refine Run_reg 1 (by kernel_rfl) (L' := [(0, .int .i64 x_), (1, .int .i64 y_), (13, .bool x2)]) ?_ ?_
    · refine QRun_b [.bool x2] 0 _ (by kernel_rfl) (fun w => by kernel_rfl) ?_
      exact QRun_done [0, 1, 13] (by kernel_rfl) (by kernel_rfl)
    refine Run_cond (b := x2) (by kernel_rfl) (fun hb3 => ?_) (fun hb3 => ?_)
    · have hF := (M.ite_some hF).1 hb3
      refine Run_seq ?_
      refine Run_reg 1 (by kernel_rfl) (L' := [(4, .int .i64 1)]) ?_ ?_
      · refine QRun_b [.int .i64 1] 0 _ (by kernel_rfl) (fun w => by kernel_rfl) ?_
        exact QRun_done [4] (by kernel_rfl) (by kernel_rfl)
      have hF := M.ret_some hF
      subst hF
      exact Run_ret1 rfl (ResV_tmp (v := .int .i64 1) (by kernel_rfl)) ⟨rfl, rfl⟩
    · have hF := (M.ite_some hF).2 hb3
      refine Run_skip ?_
      refine Run_seq ?_
      refine Run_seq ?_
      refine Run_reg 3 (by kernel_rfl) (L' := [(0, .int .i64 x_), (1, .int .i64 y_), (16, .bool (decide (x_ < y_)))]) ?_ ?_
      · refine QRun_b [.int .i64 x_, .int .i64 y_, .bool (decide (x_ < y_))] 0 _ (by kernel_rfl) (fun w => by kernel_rfl) ?_
        exact QRun_done [0, 1, 16] (by kernel_rfl) (by kernel_rfl)
      refine Run_cond (b := decide (x_ < y_)) (by kernel_rfl) (fun hb4 => ?_) (fun hb4 => ?_)
      · have hF := (M.ite_some hF).1 hb4
        refine Run_seq ?_
        refine Run_reg 1 (by kernel_rfl) (L' := [(4, .int .i64 (-1))]) ?_ ?_
        · refine QRun_b [.int .i64 (-1)] 0 _ (by kernel_rfl) (fun w => by kernel_rfl) ?_
          exact QRun_done [4] (by kernel_rfl) (by kernel_rfl)
        have hF := M.ret_some hF
        subst hF
        exact Run_ret1 rfl (ResV_tmp (v := .int .i64 (-1)) (by kernel_rfl)) ⟨rfl, rfl⟩
      · have hF := (M.ite_some hF).2 hb4
        refine Run_skip ?_
        refine Run_seq ?_
        refine Run_seq ?_
        refine Run_reg 3 (by kernel_rfl) (L' := [(19, .bool (decide (y_ < x_)))]) ?_ ?_
        · refine QRun_b [.int .i64 x_, .int .i64 y_, .bool (decide (y_ < x_))] 0 _ (by kernel_rfl) (fun w => by kernel_rfl) ?_
          exact QRun_done [19] (by kernel_rfl) (by kernel_rfl)
        refine Run_cond (b := decide (y_ < x_)) (by kernel_rfl) (fun hb5 => ?_) (fun hb5 => ?_)
        · have hF := (M.ite_some hF).1 hb5
          refine Run_seq ?_
          refine Run_reg 1 (by kernel_rfl) (L' := [(4, .int .i64 1)]) ?_ ?_
          · refine QRun_b [.int .i64 1] 0 _ (by kernel_rfl) (fun w => by kernel_rfl) ?_
            exact QRun_done [4] (by kernel_rfl) (by kernel_rfl)
          have hF := M.ret_some hF
          subst hF
          exact Run_ret1 rfl (ResV_tmp (v := .int .i64 1) (by kernel_rfl)) ⟨rfl, rfl⟩
        · have hF := (M.ite_some hF).2 hb5
          refine Run_skip ?_
          refine Run_seq ?_
          refine Run_reg 1 (by kernel_rfl) (L' := [(4, .int .i64 0)]) ?_ ?_
          · refine QRun_b [.int .i64 0] 0 _ (by kernel_rfl) (fun w => by kernel_rfl) ?_
            exact QRun_done [4] (by kernel_rfl) (by kernel_rfl)
          have hF := M.ret_some hF
          subst hF
          exact Run_ret1 rfl (ResV_tmp (v := .int .i64 0) (by kernel_rfl)) ⟨rfl, rfl⟩

set_option maxRecDepth 100000 in
set_option maxHeartbeats 4000000 in
theorem w_slices_Compare_int (h : Heap) (p0 : List Int) {Sp0 : Bs} (ap0 : Option Addr) (cp0 : Nat) (rp0 : Rd cd2 h Sp0 ap0 cp0 p0) (p1 : List Int) {Sp1 : Bs} (ap1 : Option Addr) (cp1 : Nat) (rp1 : Rd cd2 h Sp1 ap1 cp1 p1) (n : Nat) (r : Int) (hF : slices_Compare_int p0 p1 n = some r) :
    Fn Try.prog 111 #[.slice ap0 p0.length cp0, .slice ap1 p1.length cp1] h fun v h' => v = .int .i64 r ∧ h' = h := by
  unfold slices_Compare_int at hF
  refine Fn_enter (args := [.slice ap0 p0.length cp0, .slice ap1 p1.length cp1]) Try.func111 rfl (by kernel_rfl) (by kernel_rfl) (fun w0 _ => ?_)
  refine Run_seq ?_
  refine Run_reg 1 (by kernel_rfl) (L' := [(0, .slice ap0 p0.length cp0), (1, .slice ap1 p1.length cp1)]) ?_ ?_
  · refine QRun_b [.int .i64 0] 0 _ (by kernel_rfl) (fun w => by kernel_rfl) ?_
    exact QRun_done [0, 1] (by kernel_rfl) (by kernel_rfl)
  refine Run_seq ?_
  refine Run_seq ?_
  refine Run_reg 3 (by kernel_rfl) (L' := [(0, .slice ap0 p0.length cp0), (1, .slice ap1 p1.length cp1), (9, .slice ap0 p0.length cp0), (10, .int .i64 (p0.length : Int)), (11, .int .i64 0)]) ?_ ?_
  · refine QRun_b [.slice ap0 p0.length cp0, .int .i64 (p0.length : Int), .int .i64 0] 0 _ (by kernel_rfl) (fun w => by kernel_rfl) ?_
    exact QRun_done [0, 1, 9, 10, 11] (by kernel_rfl) (by kernel_rfl)
  obtain ⟨x1, gx1, hF⟩ := M.bind_some hF
  obtain ⟨hloy1, hhiy1, gx1⟩ := M.for_start gx1
  refine Run_join (fun L' h' => ∃ (s2 : Unit), x1 = .inl s2 ∧ L' = [(0, .slice ap0 p0.length cp0), (1, .slice ap1 p1.length cp1)] ∧ h = h') ?_ ?_
  · rintro _ _ ⟨s2, es2, rfl, rfl⟩
    have hF := M.cont_inl' hF es2
    refine Run_seq ?_
    refine Run_seq ?_
    refine Run_reg 5 (by kernel_rfl) (L' := [(35, .bool (decide ((p0.length : Int) < (p1.length : Int))))]) ?_ ?_
    · refine QRun_b [.slice ap0 p0.length cp0, .int .i64 (p0.length : Int), .slice ap1 p1.length cp1, .int .i64 (p1.length : Int), .bool (decide ((p0.length : Int) < (p1.length : Int)))] 0 _ (by kernel_rfl) (fun w => by kernel_rfl) ?_
      exact QRun_done [35] (by kernel_rfl) (by kernel_rfl)
    refine Run_cond (b := decide ((p0.length : Int) < (p1.length : Int))) (by kernel_rfl) (fun hb4 => ?_) (fun hb4 => ?_)
    · have hF := (M.ite_some hF).1 hb4
      refine Run_seq ?_
      refine Run_reg 1 (by kernel_rfl) (L' := [(4, .int .i64 (-1))]) ?_ ?_
      · refine QRun_b [.int .i64 (-1)] 0 _ (by kernel_rfl) (fun w => by kernel_rfl) ?_
        exact QRun_done [4] (by kernel_rfl) (by kernel_rfl)
      have hF := M.ret_some hF
      subst hF
      exact Run_ret1 rfl (ResV_tmp (v := .int .i64 (-1)) (by kernel_rfl)) ⟨rfl, rfl⟩
    · have hF := (M.ite_some hF).2 hb4
      refine Run_skip ?_
      refine Run_seq ?_
      refine Run_reg 1 (by kernel_rfl) (L' := [(4, .int .i64 0)]) ?_ ?_
      · refine QRun_b [.int .i64 0] 0 _ (by kernel_rfl) (fun w => by kernel_rfl) ?_
        exact QRun_done [4] (by kernel_rfl) (by kernel_rfl)
      have hF := M.ret_some hF
      subst hF
      exact Run_ret1 rfl (ResV_tmp (v := .int .i64 0) (by kernel_rfl)) ⟨rfl, rfl⟩
  · refine Run_block ?_
    refine Run_keep [0, 1, 9, 10, 11] (L' := [(0, .slice ap0 p0.length cp0), (1, .slice ap1 p1.length cp1), (9, .slice ap0 p0.length cp0), (10, .int .i64 (p0.length : Int)), (11, .int .i64 0)]) (by kernel_rfl) ?_
    refine Run_loop (fun m L' h' => ∃ (i1 : Int) (s1 : Unit), 0 ≤ i1 ∧ M.forN (p0.length : Int) _ _ n m i1 s1 = some x1 ∧ L' = [(0, .slice ap0 p0.length cp0), (1, .slice ap1 p1.length cp1), (9, .slice ap0 p0.length cp0), (10, .int .i64 (p0.length : Int)), (11, .int .i64 i1)] ∧ h = h') ((p0.length : Int) - 0).toNat ⟨0, (), Int.le_refl _, gx1, rfl, rfl⟩ ?_
    rintro my1 _ _ ⟨i1, s1, hloy1', gx1, rfl, rfl⟩
    refine Run_seq ?_
    refine Run_reg 1 (by kernel_rfl) (L' := [(0, .slice ap0 p0.length cp0), (1, .slice ap1 p1.length cp1), (9, .slice ap0 p0.length cp0), (10, .int .i64 (p0.length : Int)), (11, .int .i64 i1), (12, .bool (decide (i1 < (p0.length : Int))))]) ?_ ?_
    · refine QRun_b [.bool (decide (i1 < (p0.length : Int)))] 0 _ (by kernel_rfl) (fun w => by kernel_rfl) ?_
      exact QRun_done [0, 1, 9, 10, 11, 12] (by kernel_rfl) (by kernel_rfl)
    refine Run_seq ?_
    refine Run_cond (b := decide (i1 < (p0.length : Int))) (by kernel_rfl) (fun hb1 => ?_) (fun hb1 => ?_)
    · obtain ⟨my1, y1, rfl, hB1, hgoy1, houty1⟩ := M.for_go gx1 hb1
      have hlty1 := of_decide_eq_true hb1
      refine Run_skip ?_
      refine Run_seq ?_
      refine Run_block ?_
      refine Run_seq ?_
      obtain ⟨x2, hx1, hB1⟩ := M.bind_some hB1
      obtain ⟨hx1l, hx1u, hx1⟩ := M.idx_some hx1
      refine Run_reg 5 (by kernel_rfl) (L' := [(0, .slice ap0 p0.length cp0), (1, .slice ap1 p1.length cp1), (5, .int .i64 i1), (6, .int .i64 x2), (9, .slice ap0 p0.length cp0), (10, .int .i64 (p0.length : Int)), (11, .int .i64 i1)]) ?_ ?_
      · refine QRun_b [.int .i64 i1] 0 _ (by kernel_rfl) (fun w => by kernel_rfl) ?_
        refine QRun_y (.pointer (some (adr ap0 (i1.toNat * 1)))) (by kernel_rfl) (Y_idx (t := 23) (e := 2) (sz := 1) (a := ap0) (n := p0.length) (cap := cp0) (kk := .i64) (i := i1) (by kernel_rfl) Try.underlying23 (by kernel_rfl) (rp0.cell hx1).1 hx1l hx1u) ?_
        refine QRun_y (.int .i64 x2) (by kernel_rfl) (Y_load1 (t := 2) (p := adr ap0 (i1.toNat * 1)) (v := .int .i64 x2) (by kernel_rfl) (fun w => by kernel_rfl) (cd2_cell rp0 hx1)) ?_
        refine QRun_b [.int .i64 i1, .int .i64 x2] 3 _ (by kernel_rfl) (fun w => by kernel_rfl) ?_
        exact QRun_done [0, 1, 5, 6, 9, 10, 11] (by kernel_rfl) (by kernel_rfl)
      refine Run_seq ?_
      refine Run_seq ?_
      refine Run_reg 4 (by kernel_rfl) (L' := [(0, .slice ap0 p0.length cp0), (1, .slice ap1 p1.length cp1), (5, .int .i64 i1), (6, .int .i64 x2), (9, .slice ap0 p0.length cp0), (10, .int .i64 (p0.length : Int)), (11, .int .i64 i1), (19, .bool (decide ((p1.length : Int) ≤ i1)))]) ?_ ?_
      · refine QRun_b [.int .i64 i1, .slice ap1 p1.length cp1, .int .i64 (p1.length : Int), .bool (decide ((p1.length : Int) ≤ i1))] 0 _ (by kernel_rfl) (fun w => by kernel_rfl) ?_
        exact QRun_done [0, 1, 5, 6, 9, 10, 11, 19] (by kernel_rfl) (by kernel_rfl)
      refine Run_cond (b := decide ((p1.length : Int) ≤ i1)) (by kernel_rfl) (fun hb2 => ?_) (fun hb2 => ?_)
      · have hB1 := (M.ite_some hB1).1 hb2
        refine Run_seq ?_
        refine Run_reg 1 (by kernel_rfl) (L' := [(4, .int .i64 1)]) ?_ ?_
        · refine QRun_b [.int .i64 1] 0 _ (by kernel_rfl) (fun w => by kernel_rfl) ?_
          exact QRun_done [4] (by kernel_rfl) (by kernel_rfl)
        have hB1 := M.ret_some hB1
        have gx1 := houty1 _ hB1.symm
        have hF := M.cont_inr' hF gx1
        have hF := M.ret_some hF
        subst hF
        exact Run_ret1 rfl (ResV_tmp (v := .int .i64 1) (by kernel_rfl)) ⟨rfl, rfl⟩
      · have hB1 := (M.ite_some hB1).2 hb2
        refine Run_skip ?_
        refine Run_seq ?_
        obtain ⟨x3, hx2, hB1⟩ := M.bind_some hB1
        obtain ⟨hx2l, hx2u, hx2⟩ := M.idx_some hx2
        refine Run_reg 5 (by kernel_rfl) (L' := [(0, .slice ap0 p0.length cp0), (1, .slice ap1 p1.length cp1), (6, .int .i64 x2), (7, .int .i64 x3), (9, .slice ap0 p0.length cp0), (10, .int .i64 (p0.length : Int)), (11, .int .i64 i1)]) ?_ ?_
        · refine QRun_b [.slice ap1 p1.length cp1, .int .i64 i1] 0 _ (by kernel_rfl) (fun w => by kernel_rfl) ?_
          refine QRun_y (.pointer (some (adr ap1 (i1.toNat * 1)))) (by kernel_rfl) (Y_idx (t := 23) (e := 2) (sz := 1) (a := ap1) (n := p1.length) (cap := cp1) (kk := .i64) (i := i1) (by kernel_rfl) Try.underlying23 (by kernel_rfl) (rp1.cell hx2).1 hx2l hx2u) ?_
          refine QRun_y (.int .i64 x3) (by kernel_rfl) (Y_load1 (t := 2) (p := adr ap1 (i1.toNat * 1)) (v := .int .i64 x3) (by kernel_rfl) (fun w => by kernel_rfl) (cd2_cell rp1 hx2)) ?_
          refine QRun_b [.int .i64 x3] 4 _ (by kernel_rfl) (fun w => by kernel_rfl) ?_
          exact QRun_done [0, 1, 6, 7, 9, 10, 11] (by kernel_rfl) (by kernel_rfl)
        refine Run_seq ?_
        obtain ⟨x4, hx3, hB1⟩ := M.bind_some hB1
        refine Run_reg 4 (by kernel_rfl) (L' := [(0, .slice ap0 p0.length cp0), (1, .slice ap1 p1.length cp1), (8, .int .i64 x4), (9, .slice ap0 p0.length cp0), (10, .int .i64 (p0.length : Int)), (11, .int .i64 i1)]) ?_ ?_
        · refine QRun_b [.int .i64 x2, .int .i64 x3] 0 _ (by kernel_rfl) (fun w => by kernel_rfl) ?_
          refine QRun_y (.int .i64 x4) (by kernel_rfl) (Y_callq (f := 130) (args := #[.int .i64 x2, .int .i64 x3]) (v := .int .i64 x4) (by kernel_rfl) (w_cmp_Compare_i h x2 x3 _ _ hx3)) ?_
          refine QRun_b [.int .i64 x4] 3 _ (by kernel_rfl) (fun w => by kernel_rfl) ?_
          exact QRun_done [0, 1, 8, 9, 10, 11] (by kernel_rfl) (by kernel_rfl)
        refine Run_seq ?_
        refine Run_reg 2 (by kernel_rfl) (L' := [(0, .slice ap0 p0.length cp0), (1, .slice ap1 p1.length cp1), (8, .int .i64 x4), (9, .slice ap0 p0.length cp0), (10, .int .i64 (p0.length : Int)), (11, .int .i64 i1), (28, .bool (x4 != 0))]) ?_ ?_
        · refine QRun_b [.int .i64 x4, .bool (x4 != 0)] 0 _ (by kernel_rfl) (fun w => by kernel_rfl) ?_
          exact QRun_done [0, 1, 8, 9, 10, 11, 28] (by kernel_rfl) (by kernel_rfl)
        refine Run_cond (b := x4 != 0) (by kernel_rfl) (fun hb3 => ?_) (fun hb3 => ?_)
        · have hB1 := (M.ite_some hB1).1 hb3
          refine Run_seq ?_
          refine Run_reg 2 (by kernel_rfl) (L' := [(4, .int .i64 x4)]) ?_ ?_
          · refine QRun_b [.int .i64 x4, .int .i64 x4] 0 _ (by kernel_rfl) (fun w => by kernel_rfl) ?_
            exact QRun_done [4] (by kernel_rfl) (by kernel_rfl)
          have hB1 := M.ret_some hB1
          have gx1 := houty1 _ hB1.symm
          have hF := M.cont_inr' hF gx1
          have hF := M.ret_some hF
          subst hF
          exact Run_ret1 rfl (ResV_tmp (v := .int .i64 x4) (by kernel_rfl)) ⟨rfl, rfl⟩
        · have hB1 := (M.ite_some hB1).2 hb3
          refine Run_skip ?_
          refine Run_blk ?_
          refine Run_reg 2 (by kernel_rfl) (L' := [(0, .slice ap0 p0.length cp0), (1, .slice ap1 p1.length cp1), (9, .slice ap0 p0.length cp0), (10, .int .i64 (p0.length : Int)), (11, .int .i64 (i1 + 1))]) ?_ ?_
          · refine QRun_y (.int .i64 (i1 + 1)) (by kernel_rfl) (Y_eq (v := .int .i64 (w64 (i1 + 1))) (Y_pure (fun w => by kernel_rfl)) (by rw [w64_eq _ (by omega)])) ?_
            refine QRun_b [.int .i64 (i1 + 1)] 1 _ (by kernel_rfl) (fun w => by kernel_rfl) ?_
            exact QRun_done [0, 1, 9, 10, 11] (by kernel_rfl) (by kernel_rfl)
          have hB1 := M.ret_some hB1
          have gx1 := hgoy1 _ hB1.symm
          exact Run_again [0, 1, 9, 10, 11] (by kernel_rfl) my1 (Nat.lt_succ_self _) ⟨i1 + 1, (), by omega, gx1, rfl, rfl⟩
    · have gx1 := M.for_end gx1 hb1
      subst gx1
      refine Run_exit (k' := _) rfl ?_
      exact Run_fall [0, 1] (by kernel_rfl) ⟨(), rfl, rfl, rfl⟩

set_option maxRecDepth 100000 in
set_option maxHeartbeats 4000000 in
theorem w_impl_leastCover (h : Heap) (a_ : List (List Int)) (aa_ : Option Addr) (ca_ : Nat) (ra_ : Rd cd23 h (Lt h) aa_ ca_ a_) (b : List Int) (ab : Option Addr) (cb : Nat) (rb : Rd cd2 h (Lt h) ab cb b) (x_ : List Int) (ax_ : Option Addr) (cx_ : Nat) (rx_ : Rd cd2 h (Lt h) ax_ cx_ x_) (n : Nat) (r : (List Int)) (hF : impl_leastCover a_ b x_ n = some r) :
    Fn Try.prog 79 #[.slice aa_ a_.length ca_, .slice ab b.length cb, .slice ax_ x_.length cx_] h fun v h' => ∃ (a0 : Option Addr) (c0 : Nat), v = .slice a0 r.length c0 ∧ Hold h h' [own cd2 a0 r.length c0 r] := by
  unfold impl_leastCover at hF
  refine Fn_enter (args := [.slice aa_ a_.length ca_, .slice ab b.length cb, .slice ax_ x_.length cx_]) Try.func79 rfl (by kernel_rfl) (by kernel_rfl) (fun w0 _ => ?_)
  have H0 := Hold.init h
  refine Run_seq ?_
  refine Run_reg 1 (by kernel_rfl) (L' := [(0, .slice aa_ a_.length ca_), (1, .slice ab b.length cb), (2, .slice ax_ x_.length cx_)]) ?_ ?_
  · refine QRun_b [.slice none 0 0] 0 _ (by kernel_rfl) (fun w => by kernel_rfl) ?_
    exact QRun_done [0, 1, 2] (by kernel_rfl) (by kernel_rfl)
  refine Run_seq ?_
  refine Run_reg 1 (by kernel_rfl) (L' := [(0, .slice aa_ a_.length ca_), (1, .slice ab b.length cb), (2, .slice ax_ x_.length cx_), (7, .slice none 0 0)]) ?_ ?_
  · refine QRun_b [.slice none 0 0] 0 _ (by kernel_rfl) (fun w => by kernel_rfl) ?_
    exact QRun_done [0, 1, 2, 7] (by kernel_rfl) (by kernel_rfl)
  refine Run_seq ?_
  refine Run_reg 1 (by kernel_rfl) (L' := [(0, .slice aa_ a_.length ca_), (1, .slice ab b.length cb), (2, .slice ax_ x_.length cx_), (7, .slice none 0 0), (8, .bool false)]) ?_ ?_
  · refine QRun_b [.bool false] 0 _ (by kernel_rfl) (fun w => by kernel_rfl) ?_
    exact QRun_done [0, 1, 2, 7, 8] (by kernel_rfl) (by kernel_rfl)
  refine Run_seq ?_
  refine Run_seq ?_
  obtain ⟨u1, hz1, hF⟩ := M.bind_some hF
  have hz1 := M.guard_some hz1
  refine Run_reg 4 (by kernel_rfl) (L' := [(0, .slice aa_ a_.length ca_), (1, .slice ab b.length cb), (2, .slice ax_ x_.length cx_), (7, .slice none 0 0), (8, .bool false), (14, .int .i64 (ishl .i64 1 (x_.length : Int))), (15, .int .i64 0)]) ?_ ?_
  · refine QRun_b [.slice ax_ x_.length cx_, .int .i64 (x_.length : Int)] 0 _ (by kernel_rfl) (fun w => by kernel_rfl) ?_
    refine QRun_y (.int .i64 (ishl .i64 1 (x_.length : Int))) (by kernel_rfl) (Y_shl (k := .i64) (x := 1) (kk := .i64) (y := (x_.length : Int)) (by kernel_rfl) hz1) ?_
    refine QRun_b [.int .i64 0] 3 _ (by kernel_rfl) (fun w => by kernel_rfl) ?_
    exact QRun_done [0, 1, 2, 7, 8, 14, 15] (by kernel_rfl) (by kernel_rfl)
  obtain ⟨x1, gx1, hF⟩ := M.bind_some hF
  obtain ⟨hloy1, hhiy1, gx1⟩ := M.for_start gx1
  refine Run_join (fun L' h' => ∃ (a2 : Option Addr) (c2 : Nat), L' = [(7, .slice a2 x1.1.length c2)] ∧ Hold h h' [own cd2 a2 x1.1.length c2 x1.1]) ?_ ?_
  · rintro _ h2 ⟨a2, c2, rfl, H2⟩
    refine Run_seq ?_
    refine Run_reg 2 (by kernel_rfl) (L' := [(6, .slice a2 x1.1.length c2)]) ?_ ?_
    · refine QRun_b [.slice a2 x1.1.length c2, .slice a2 x1.1.length c2] 0 _ (by kernel_rfl) (fun w => by kernel_rfl) ?_
      exact QRun_done [6] (by kernel_rfl) (by kernel_rfl)
    have hF := M.ret_some hF
    subst hF
    exact Run_ret1 rfl (ResV_tmp (v := .slice a2 x1.1.length c2) (by kernel_rfl)) ⟨a2, c2, rfl, H2⟩
  · refine Run_block ?_
    have H27 := H0.empty cd2
    refine Run_keep [0, 1, 2, 7, 8, 14, 15] (L' := [(0, .slice aa_ a_.length ca_), (1, .slice ab b.length cb), (2, .slice ax_ x_.length cx_), (7, .slice none 0 0), (8, .bool false), (14, .int .i64 (ishl .i64 1 (x_.length : Int))), (15, .int .i64 0)]) (by kernel_rfl) ?_
    refine Run_loop (fun m L' h' => ∃ (i1 : Int) (s1 : (List Int) × Bool) (a1 : Option Addr) (c1 : Nat), 0 ≤ i1 ∧ M.forN (ishl .i64 1 (x_.length : Int)) _ _ n m i1 s1 = some x1 ∧ L' = [(0, .slice aa_ a_.length ca_), (1, .slice ab b.length cb), (2, .slice ax_ x_.length cx_), (7, .slice a1 s1.1.length c1), (8, .bool s1.2), (14, .int .i64 (ishl .i64 1 (x_.length : Int))), (15, .int .i64 i1)] ∧ Hold h h' [own cd2 a1 s1.1.length c1 s1.1]) ((ishl .i64 1 (x_.length : Int)) - 0).toNat ⟨0, ([], false), none, 0, Int.le_refl _, gx1, rfl, H27⟩ ?_
    rintro my1 _ h1 ⟨i1, s1, a1, c1, hloy1', gx1, rfl, H1⟩
    refine Run_seq ?_
    refine Run_reg 1 (by kernel_rfl) (L' := [(0, .slice aa_ a_.length ca_), (1, .slice ab b.length cb), (2, .slice ax_ x_.length cx_), (7, .slice a1 s1.1.length c1), (8, .bool s1.2), (14, .int .i64 (ishl .i64 1 (x_.length : Int))), (15, .int .i64 i1), (16, .bool (decide (i1 < (ishl .i64 1 (x_.length : Int)))))]) ?_ ?_
    · refine QRun_b [.bool (decide (i1 < (ishl .i64 1 (x_.length : Int))))] 0 _ (by kernel_rfl) (fun w => by kernel_rfl) ?_
      exact QRun_done [0, 1, 2, 7, 8, 14, 15, 16] (by kernel_rfl) (by kernel_rfl)
    refine Run_seq ?_
    refine Run_cond (b := decide (i1 < (ishl .i64 1 (x_.length : Int)))) (by kernel_rfl) (fun hb1 => ?_) (fun hb1 => ?_)
    · obtain ⟨my1, y1, rfl, hB1, hgoy1, houty1⟩ := M.for_go gx1 hb1
      have hlty1 := of_decide_eq_true hb1
      refine Run_skip ?_
      refine Run_seq ?_
      obtain ⟨s2, gs2, hB1⟩ := M.bind_some hB1
      refine Run_join (fun L' h' => ∃ (a8 : Option Addr), ∃ (c7 : Nat), L' = [(0, .slice aa_ a_.length ca_), (1, .slice ab b.length cb), (2, .slice ax_ x_.length cx_), (7, .slice a8 s2.1.length c7), (8, .bool s2.2), (14, .int .i64 (ishl .i64 1 (x_.length : Int))), (15, .int .i64 i1)] ∧ Hold h h' [own cd2 a8 s2.1.length c7 s2.1]) ?_ ?_
      · rintro _ h9 ⟨a8, c7, rfl, H22⟩
        refine Run_reg 2 (by kernel_rfl) (L' := [(0, .slice aa_ a_.length ca_), (1, .slice ab b.length cb), (2, .slice ax_ x_.length cx_), (7, .slice a8 s2.1.length c7), (8, .bool s2.2), (14, .int .i64 (ishl .i64 1 (x_.length : Int))), (15, .int .i64 (i1 + 1))]) ?_ ?_
        · refine QRun_y (.int .i64 (i1 + 1)) (by kernel_rfl) (Y_eq (v := .int .i64 (w64 (i1 + 1))) (Y_pure (fun w => by kernel_rfl)) (by rw [w64_eq _ (by omega)])) ?_
          refine QRun_b [.int .i64 (i1 + 1)] 1 _ (by kernel_rfl) (fun w => by kernel_rfl) ?_
          exact QRun_done [0, 1, 2, 7, 8, 14, 15] (by kernel_rfl) (by kernel_rfl)
        have hB1 := M.ret_some hB1
        have gx1 := hgoy1 _ hB1.symm
        exact Run_again [0, 1, 2, 7, 8, 14, 15] (by kernel_rfl) my1 (Nat.lt_succ_self _) ⟨i1 + 1, (s2.1, s2.2), a8, c7, by omega, gx1, rfl, H22⟩
      · refine Run_block ?_
        refine Run_seq ?_
        refine Run_reg 2 (by kernel_rfl) (L' := [(0, .slice aa_ a_.length ca_), (1, .slice ab b.length cb), (2, .slice ax_ x_.length cx_), (7, .slice a1 s1.1.length c1), (8, .bool s1.2), (9, .int .i64 i1), (14, .int .i64 (ishl .i64 1 (x_.length : Int))), (15, .int .i64 i1)]) ?_ ?_
        · refine QRun_b [.int .i64 i1, .int .i64 i1] 0 _ (by kernel_rfl) (fun w => by kernel_rfl) ?_
          exact QRun_done [0, 1, 2, 7, 8, 9, 14, 15] (by kernel_rfl) (by kernel_rfl)
        refine Run_seq ?_
        refine Run_reg 1 (by kernel_rfl) (L' := [(0, .slice aa_ a_.length ca_), (1, .slice ab b.length cb), (2, .slice ax_ x_.length cx_), (7, .slice a1 s1.1.length c1), (8, .bool s1.2), (9, .int .i64 i1), (10, .slice none 0 0), (14, .int .i64 (ishl .i64 1 (x_.length : Int))), (15, .int .i64 i1)]) ?_ ?_
        · refine QRun_b [.slice none 0 0] 0 _ (by kernel_rfl) (fun w => by kernel_rfl) ?_
          exact QRun_done [0, 1, 2, 7, 8, 9, 10, 14, 15] (by kernel_rfl) (by kernel_rfl)
        refine Run_seq ?_
        refine Run_seq ?_
        refine Run_reg 3 (by kernel_rfl) (L' := [(0, .slice aa_ a_.length ca_), (1, .slice ab b.length cb), (2, .slice ax_ x_.length cx_), (7, .slice a1 s1.1.length c1), (8, .bool s1.2), (9, .int .i64 i1), (10, .slice none 0 0), (14, .int .i64 (ishl .i64 1 (x_.length : Int))), (15, .int .i64 i1), (19, .int .i64 (x_.length : Int)), (20, .int .i64 0)]) ?_ ?_
        · refine QRun_b [.slice ax_ x_.length cx_, .int .i64 (x_.length : Int), .int .i64 0] 0 _ (by kernel_rfl) (fun w => by kernel_rfl) ?_
          exact QRun_done [0, 1, 2, 7, 8, 9, 10, 14, 15, 19, 20] (by kernel_rfl) (by kernel_rfl)
        obtain ⟨x2, gx2, gs2⟩ := M.bind_some gs2
        obtain ⟨hloy2, hhiy2, gx2⟩ := M.for_start gx2
        refine Run_join (fun L' h' => ∃ (a4 : Option Addr) (c4 : Nat), L' = [(0, .slice aa_ a_.length ca_), (1, .slice ab b.length cb), (2, .slice ax_ x_.length cx_), (7, .slice a1 s1.1.length c1), (8, .bool s1.2), (10, .slice a4 x2.length c4), (14, .int .i64 (ishl .i64 1 (x_.length : Int))), (15, .int .i64 i1)] ∧ Hold h h' [own cd2 a1 s1.1.length c1 s1.1, own cd2 a4 x2.length c4 x2]) ?_ ?_
        · rintro _ h4 ⟨a4, c4, rfl, H4⟩
          refine Run_seq ?_
          refine Run_seq ?_
          obtain ⟨x3, hx1, gs2⟩ := M.bind_some gs2
          refine Run_regC (j := 6) (C := fun x => Hold h x [own cd2 a1 s1.1.length c1 s1.1, own cd2 a4 x2.length c4 x2]) (by kernel_rfl) H4 (L' := [(0, .slice aa_ a_.length ca_), (1, .slice ab b.length cb), (2, .slice ax_ x_.length cx_), (7, .slice a1 s1.1.length c1), (8, .bool s1.2), (10, .slice a4 x2.length c4), (14, .int .i64 (ishl .i64 1 (x_.length : Int))), (15, .int .i64 i1), (38, .bool (!x3))]) ?_ (fun h8 H18 => ?_)
          · refine QRun_b [.slice aa_ a_.length ca_, .slice ab b.length cb, .slice ax_ x_.length cx_, .slice a4 x2.length c4] 0 _ (by kernel_rfl) (fun w => by kernel_rfl) ?_
            refine QRun_y (.bool x3) (by kernel_rfl) (Y_call (f := 110) (args := #[.slice aa_ a_.length ca_, .slice ab b.length cb, .slice ax_ x_.length cx_, .slice a4 x2.length c4]) (v := .bool x3) (by kernel_rfl) fun hx Hx => (w_impl_coversVector hx a_ aa_ ca_ (ra_.at Hx.ext) b ab cb (rb.at Hx.ext) x_ ax_ cx_ (rx_.at Hx.ext) x2 a4 c4 (Hx.rd 1 rfl) _ _ hx1).mono fun _ _ ⟨e, H'⟩ => ⟨e, Hx.call H' rfl⟩) ?_
            refine QRun_b [.bool (!x3)] 5 _ (by kernel_rfl) (fun w => by kernel_rfl) ?_
            exact QRun_done [0, 1, 2, 7, 8, 10, 14, 15, 38] (by kernel_rfl) (by kernel_rfl)
          have H19 : Hold h h8 [own cd2 a1 s1.1.length c1 s1.1, own cd2 a4 x2.length c4 x2] := H18
          refine Run_cond (b := !x3) (by kernel_rfl) (fun hb4 => ?_) (fun hb4 => ?_)
          · have gs2 := (M.ite_some gs2).1 hb4
            refine Run_exit (k' := _) rfl ?_
            have H23 : Hold h h8 [own cd2 a1 s1.1.length c1 s1.1] := H19.pick [0] (by kernel_rfl)
            have gs2 := M.ret_some gs2
            subst gs2
            exact Run_fall [0, 1, 2, 7, 8, 14, 15] (by kernel_rfl) ⟨a1, c1, rfl, H23⟩
          · have gs2 := (M.ite_some gs2).2 hb4
            refine Run_skip ?_
            refine Run_seq ?_
            obtain ⟨x5, gx5, gs2⟩ := M.bind_some gs2
            refine Run_reg 22 (by kernel_rfl) (L' := [(0, .slice aa_ a_.length ca_), (1, .slice ab b.length cb), (2, .slice ax_ x_.length cx_), (7, .slice a1 s1.1.length c1), (8, .bool s1.2), (10, .slice a4 x2.length c4), (14, .int .i64 (ishl .i64 1 (x_.length : Int))), (15, .int .i64 i1), (60, .bool x5)]) ?_ ?_
            · refine QRun_b [.bool s1.2, .bool (!s1.2)] 0 _ (by kernel_rfl) (fun w => by kernel_rfl) ?_
              refine QRun_seq 9 [(0, .slice aa_ a_.length ca_), (1, .slice ab b.length cb), (2, .slice ax_ x_.length cx_), (7, .slice a1 s1.1.length c1), (8, .bool s1.2), (10, .slice a4 x2.length c4), (14, .int .i64 (ishl .i64 1 (x_.length : Int))), (15, .int .i64 i1), (47, .bool ((!s1.2) || (decide ((x2.length : Int) < (s1.1.length : Int)))))] ?_ ?_
              · rcases Bool.eq_false_or_eq_true (!s1.2) with hb5 | hb5
                · refine QRun_bool (!s1.2) true (by kernel_rfl) (fun w => by kernel_rfl) hb5 ?_
                  refine QRun_n (by kernel_rfl) ?_
                  refine QRun_n (by kernel_rfl) ?_
                  refine QRun_n (by kernel_rfl) ?_
                  refine QRun_n (by kernel_rfl) ?_
                  refine QRun_n (by kernel_rfl) ?_
                  refine QRun_bool true ((!s1.2) || (decide ((x2.length : Int) < (s1.1.length : Int)))) (by kernel_rfl) (fun w => by kernel_rfl) (by rw [hb5]; rfl) ?_
                  exact QRun_done [0, 1, 2, 7, 8, 10, 14, 15, 47] (by kernel_rfl) (by kernel_rfl)
                · refine QRun_bool (!s1.2) false (by kernel_rfl) (fun w => by kernel_rfl) hb5 ?_
                  refine QRun_b [.slice a4 x2.length c4, .int .i64 (x2.length : Int), .slice a1 s1.1.length c1, .int .i64 (s1.1.length : Int), .bool (decide ((x2.length : Int) < (s1.1.length : Int)))] 3 _ (by kernel_rfl) (fun w => by kernel_rfl) ?_
                  refine QRun_bool (decide ((x2.length : Int) < (s1.1.length : Int))) ((!s1.2) || (decide ((x2.length : Int) < (s1.1.length : Int)))) (by kernel_rfl) (fun w => by kernel_rfl) (by rw [hb5]; rfl) ?_
                  exact QRun_done [0, 1, 2, 7, 8, 10, 14, 15, 47] (by kernel_rfl) (by kernel_rfl)
              refine QRun_seq 22 [(0, .slice aa_ a_.length ca_), (1, .slice ab b.length cb), (2, .slice ax_ x_.length cx_), (7, .slice a1 s1.1.length c1), (8, .bool s1.2), (10, .slice a4 x2.length c4), (14, .int .i64 (ishl .i64 1 (x_.length : Int))), (15, .int .i64 i1), (60, .bool x5)] ?_ ?_
              · rcases Bool.eq_false_or_eq_true ((!s1.2) || (decide ((x2.length : Int) < (s1.1.length : Int)))) with hb6 | hb6
                · refine QRun_bool ((!s1.2) || (decide ((x2.length : Int) < (s1.1.length : Int)))) true (by kernel_rfl) (fun w => by kernel_rfl) hb6 ?_
                  have gx5 := M.ret_some ((M.ite_some gx5).1 hb6)
                  refine QRun_n (by kernel_rfl) ?_
                  refine QRun_n (by kernel_rfl) ?_
                  refine QRun_n (by kernel_rfl) ?_
                  refine QRun_n (by kernel_rfl) ?_
                  refine QRun_n (by kernel_rfl) ?_
                  refine QRun_n (by kernel_rfl) ?_
                  refine QRun_n (by kernel_rfl) ?_
                  refine QRun_n (by kernel_rfl) ?_
                  refine QRun_n (by kernel_rfl) ?_
                  refine QRun_n (by kernel_rfl) ?_
                  refine QRun_n (by kernel_rfl) ?_
                  refine QRun_bool true x5 (by kernel_rfl) (fun w => by kernel_rfl) gx5 ?_
                  exact QRun_done [0, 1, 2, 7, 8, 10, 14, 15, 60] (by kernel_rfl) (by kernel_rfl)
                · refine QRun_bool ((!s1.2) || (decide ((x2.length : Int) < (s1.1.length : Int)))) false (by kernel_rfl) (fun w => by kernel_rfl) hb6 ?_
                  have gx5 := (M.ite_some gx5).2 hb6
                  obtain ⟨x6, gx6, gx5⟩ := M.bind_some gx5
                  have gx5 := M.ret_some gx5
                  refine QRun_b [.slice a4 x2.length c4, .int .i64 (x2.length : Int), .slice a1 s1.1.length c1, .int .i64 (s1.1.length : Int), .bool ((x2.length : Int) == (s1.1.length : Int))] 10 _ (by kernel_rfl) (fun w => by kernel_rfl) ?_
                  refine QRun_seq 21 [(0, .slice aa_ a_.length ca_), (1, .slice ab b.length cb), (2, .slice ax_ x_.length cx_), (7, .slice a1 s1.1.length c1), (8, .bool s1.2), (10, .slice a4 x2.length c4), (14, .int .i64 (ishl .i64 1 (x_.length : Int))), (15, .int .i64 i1), (48, .bool false), (59, .bool x6)] ?_ ?_
                  · rcases Bool.eq_false_or_eq_true ((x2.length : Int) == (s1.1.length : Int)) with hb7 | hb7
                    · refine QRun_bool ((x2.length : Int) == (s1.1.length : Int)) true (by kernel_rfl) (fun w => by kernel_rfl) hb7 ?_
                      have gx6 := (M.ite_some gx6).1 hb7
                      obtain ⟨x7, hx2, gx6⟩ := M.bind_some gx6
                      have gx6 := M.ret_some gx6
                      refine QRun_b [.slice a4 x2.length c4, .slice a1 s1.1.length c1] 16 _ (by kernel_rfl) (fun w => by kernel_rfl) ?_
                      refine QRun_y (.int .i64 x7) (by kernel_rfl) (Y_callq (f := 111) (args := #[.slice a4 x2.length c4, .slice a1 s1.1.length c1]) (v := .int .i64 x7) (by kernel_rfl) (w_slices_Compare_int h8 x2 a4 c4 (H19.rd 1 rfl) s1.1 a1 c1 (H19.rd 0 rfl) _ _ hx2)) ?_
                      refine QRun_b [.bool (decide (x7 < 0))] 19 _ (by kernel_rfl) (fun w => by kernel_rfl) ?_
                      refine QRun_bool (decide (x7 < 0)) x6 (by kernel_rfl) (fun w => by kernel_rfl) gx6 ?_
                      exact QRun_done [0, 1, 2, 7, 8, 10, 14, 15, 48, 59] (by kernel_rfl) (by kernel_rfl)
                    · refine QRun_bool ((x2.length : Int) == (s1.1.length : Int)) false (by kernel_rfl) (fun w => by kernel_rfl) hb7 ?_
                      have gx6 := M.ret_some ((M.ite_some gx6).2 hb7)
                      refine QRun_n (by kernel_rfl) ?_
                      refine QRun_n (by kernel_rfl) ?_
                      refine QRun_n (by kernel_rfl) ?_
                      refine QRun_n (by kernel_rfl) ?_
                      refine QRun_bool false x6 (by kernel_rfl) (fun w => by kernel_rfl) gx6 ?_
                      exact QRun_done [0, 1, 2, 7, 8, 10, 14, 15, 48, 59] (by kernel_rfl) (by kernel_rfl)
                  refine QRun_bool x6 x5 (by kernel_rfl) (fun w => by kernel_rfl) gx5 ?_
                  exact QRun_done [0, 1, 2, 7, 8, 10, 14, 15, 60] (by kernel_rfl) (by kernel_rfl)
              exact QRun_done [0, 1, 2, 7, 8, 10, 14, 15, 60] (by kernel_rfl) (by kernel_rfl)
            refine Run_cond (b := x5) (by kernel_rfl) (fun hb8 => ?_) (fun hb8 => ?_)
            · have gs2 := (M.ite_some gs2).1 hb8
              refine Run_reg 3 (by kernel_rfl) (L' := [(0, .slice aa_ a_.length ca_), (1, .slice ab b.length cb), (2, .slice ax_ x_.length cx_), (7, .slice a4 x2.length c4), (8, .bool true), (14, .int .i64 (ishl .i64 1 (x_.length : Int))), (15, .int .i64 i1)]) ?_ ?_
              · refine QRun_b [.slice a4 x2.length c4, .slice a4 x2.length c4, .bool true] 0 _ (by kernel_rfl) (fun w => by kernel_rfl) ?_
                exact QRun_done [0, 1, 2, 7, 8, 14, 15] (by kernel_rfl) (by kernel_rfl)
              refine Run_blk ?_
              have H24 : Hold h h8 [own cd2 a4 x2.length c4 x2, own cd2 a1 s1.1.length c1 s1.1] := H19.pick [1, 0] (by kernel_rfl)
              have H25 : Hold h h8 [own cd2 a4 x2.length c4 x2] := H24.pick [0] (by kernel_rfl)
              have gs2 := M.ret_some gs2
              subst gs2
              exact Run_fall [0, 1, 2, 7, 8, 14, 15] (by kernel_rfl) ⟨a4, c4, rfl, H25⟩
            · have gs2 := (M.ite_some gs2).2 hb8
              refine Run_skip ?_
              refine Run_blk ?_
              have H26 : Hold h h8 [own cd2 a1 s1.1.length c1 s1.1] := H19.pick [0] (by kernel_rfl)
              have gs2 := M.ret_some gs2
              subst gs2
              exact Run_fall [0, 1, 2, 7, 8, 14, 15] (by kernel_rfl) ⟨a1, c1, rfl, H26⟩
        · refine Run_block ?_
          have H20 := H1.empty cd2
          have H21 : Hold h h1 [own cd2 a1 s1.1.length c1 s1.1, own cd2 none 0 0 []] := H20.pick [1, 0] (by kernel_rfl)
          refine Run_keep [0, 1, 2, 7, 8, 9, 10, 14, 15, 19, 20] (L' := [(0, .slice aa_ a_.length ca_), (1, .slice ab b.length cb), (2, .slice ax_ x_.length cx_), (7, .slice a1 s1.1.length c1), (8, .bool s1.2), (9, .int .i64 i1), (10, .slice none 0 0), (14, .int .i64 (ishl .i64 1 (x_.length : Int))), (15, .int .i64 i1), (19, .int .i64 (x_.length : Int)), (20, .int .i64 0)]) (by kernel_rfl) ?_
          refine Run_loop (fun m L' h' => ∃ (i2 : Int) (s3 : (List Int)) (a3 : Option Addr) (c3 : Nat), 0 ≤ i2 ∧ M.forN (x_.length : Int) _ _ n m i2 s3 = some x2 ∧ L' = [(0, .slice aa_ a_.length ca_), (1, .slice ab b.length cb), (2, .slice ax_ x_.length cx_), (7, .slice a1 s1.1.length c1), (8, .bool s1.2), (9, .int .i64 i1), (10, .slice a3 s3.length c3), (14, .int .i64 (ishl .i64 1 (x_.length : Int))), (15, .int .i64 i1), (19, .int .i64 (x_.length : Int)), (20, .int .i64 i2)] ∧ Hold h h' [own cd2 a1 s1.1.length c1 s1.1, own cd2 a3 s3.length c3 s3]) ((x_.length : Int) - 0).toNat ⟨0, [], none, 0, Int.le_refl _, gx2, rfl, H21⟩ ?_
          rintro my2 _ h3 ⟨i2, s3, a3, c3, hloy2', gx2, rfl, H3⟩
          refine Run_seq ?_
          refine Run_reg 1 (by kernel_rfl) (L' := [(0, .slice aa_ a_.length ca_), (1, .slice ab b.length cb), (2, .slice ax_ x_.length cx_), (7, .slice a1 s1.1.length c1), (8, .bool s1.2), (9, .int .i64 i1), (10, .slice a3 s3.length c3), (14, .int .i64 (ishl .i64 1 (x_.length : Int))), (15, .int .i64 i1), (19, .int .i64 (x_.length : Int)), (20, .int .i64 i2), (21, .bool (decide (i2 < (x_.length : Int))))]) ?_ ?_
          · refine QRun_b [.bool (decide (i2 < (x_.length : Int)))] 0 _ (by kernel_rfl) (fun w => by kernel_rfl) ?_
            exact QRun_done [0, 1, 2, 7, 8, 9, 10, 14, 15, 19, 20, 21] (by kernel_rfl) (by kernel_rfl)
          refine Run_seq ?_
          refine Run_cond (b := decide (i2 < (x_.length : Int))) (by kernel_rfl) (fun hb2 => ?_) (fun hb2 => ?_)
          · obtain ⟨my2, y2, rfl, hB2, hgoy2, houty2⟩ := M.for_go gx2 hb2
            have hlty2 := of_decide_eq_true hb2
            refine Run_skip ?_
            refine Run_seq ?_
            refine Run_block ?_
            refine Run_seq ?_
            refine Run_reg 2 (by kernel_rfl) (L' := [(0, .slice aa_ a_.length ca_), (1, .slice ab b.length cb), (2, .slice ax_ x_.length cx_), (7, .slice a1 s1.1.length c1), (8, .bool s1.2), (9, .int .i64 i1), (10, .slice a3 s3.length c3), (11, .int .i64 i2), (14, .int .i64 (ishl .i64 1 (x_.length : Int))), (15, .int .i64 i1), (19, .int .i64 (x_.length : Int)), (20, .int .i64 i2)]) ?_ ?_
            · refine QRun_b [.int .i64 i2, .int .i64 i2] 0 _ (by kernel_rfl) (fun w => by kernel_rfl) ?_
              exact QRun_done [0, 1, 2, 7, 8, 9, 10, 11, 14, 15, 19, 20] (by kernel_rfl) (by kernel_rfl)
            refine Run_seq ?_
            obtain ⟨u2, hz2, hB2⟩ := M.bind_some hB2
            have hz2 := M.guard_some hz2
            refine Run_reg 5 (by kernel_rfl) (L' := [(0, .slice aa_ a_.length ca_), (1, .slice ab b.length cb), (2, .slice ax_ x_.length cx_), (7, .slice a1 s1.1.length c1), (8, .bool s1.2), (9, .int .i64 i1), (10, .slice a3 s3.length c3), (11, .int .i64 i2), (14, .int .i64 (ishl .i64 1 (x_.length : Int))), (15, .int .i64 i1), (19, .int .i64 (x_.length : Int)), (20, .int .i64 i2), (27, .bool ((ibit .and .i64 (ishr .i64 i1 i2) 1) == 1))]) ?_ ?_
            · refine QRun_b [.int .i64 i1, .int .i64 i2] 0 _ (by kernel_rfl) (fun w => by kernel_rfl) ?_
              refine QRun_y (.int .i64 (ishr .i64 i1 i2)) (by kernel_rfl) (Y_shr (k := .i64) (x := i1) (kk := .i64) (y := i2) (by kernel_rfl) hz2) ?_
              refine QRun_b [.int .i64 (ibit .and .i64 (ishr .i64 i1 i2) 1), .bool ((ibit .and .i64 (ishr .i64 i1 i2) 1) == 1)] 3 _ (by kernel_rfl) (fun w => by kernel_rfl) ?_
              exact QRun_done [0, 1, 2, 7, 8, 9, 10, 11, 14, 15, 19, 20, 27] (by kernel_rfl) (by kernel_rfl)
            obtain ⟨s4, gs4, hB2⟩ := M.bind_some hB2
            refine Run_join (fun L' h' => ∃ (a7 : Option Addr), ∃ (c6 : Nat), L' = [(0, .slice aa_ a_.length ca_), (1, .slice ab b.length cb), (2, .slice ax_ x_.length cx_), (7, .slice a1 s1.1.length c1), (8, .bool s1.2), (9, .int .i64 i1), (10, .slice a7 s4.length c6), (14, .int .i64 (ishl .i64 1 (x_.length : Int))), (15, .int .i64 i1), (19, .int .i64 (x_.length : Int)), (20, .int .i64 i2)] ∧ Hold h h' [own cd2 a1 s1.1.length c1 s1.1, own cd2 a7 s4.length c6 s4]) ?_ ?_
            · rintro _ h7 ⟨a7, c6, rfl, H10⟩
              refine Run_blk ?_
              refine Run_reg 2 (by kernel_rfl) (L' := [(0, .slice aa_ a_.length ca_), (1, .slice ab b.length cb), (2, .slice ax_ x_.length cx_), (7, .slice a1 s1.1.length c1), (8, .bool s1.2), (9, .int .i64 i1), (10, .slice a7 s4.length c6), (14, .int .i64 (ishl .i64 1 (x_.length : Int))), (15, .int .i64 i1), (19, .int .i64 (x_.length : Int)), (20, .int .i64 (i2 + 1))]) ?_ ?_
              · refine QRun_y (.int .i64 (i2 + 1)) (by kernel_rfl) (Y_eq (v := .int .i64 (w64 (i2 + 1))) (Y_pure (fun w => by kernel_rfl)) (by rw [w64_eq _ (by omega)])) ?_
                refine QRun_b [.int .i64 (i2 + 1)] 1 _ (by kernel_rfl) (fun w => by kernel_rfl) ?_
                exact QRun_done [0, 1, 2, 7, 8, 9, 10, 14, 15, 19, 20] (by kernel_rfl) (by kernel_rfl)
              have H14 : Hold h h7 [own cd2 a7 s4.length c6 s4, own cd2 a1 s1.1.length c1 s1.1] := H10.pick [1, 0] (by kernel_rfl)
              have H15 : Hold h h7 [own cd2 a1 s1.1.length c1 s1.1, own cd2 a7 s4.length c6 s4] := H14.pick [1, 0] (by kernel_rfl)
              have hB2 := M.ret_some hB2
              have gx2 := hgoy2 _ hB2.symm
              exact Run_again [0, 1, 2, 7, 8, 9, 10, 14, 15, 19, 20] (by kernel_rfl) my2 (Nat.lt_succ_self _) ⟨i2 + 1, s4, a7, c6, by omega, gx2, rfl, H15⟩
            · refine Run_cond (b := (ibit .and .i64 (ishr .i64 i1 i2) 1) == 1) (by kernel_rfl) (fun hb3 => ?_) (fun hb3 => ?_)
              · have gs4 := (M.ite_some gs4).1 hb3
                refine Run_ops ?_
                refine Run_b [.slice a3 s3.length c3, .int .i64 i2] 0 _ (by kernel_rfl) (fun w => by kernel_rfl) ?_
                refine Run_E (by kernel_rfl) ?_
                refine E_lit (C := cd2) (n := 1) (l := ([i2] : List Int)) (cs := [.int .i64 i2]) H3 (fun w => by kernel_rfl) (Enc.consE (cd2_own i2 _) (Enc.nil _ _) rfl) rfl (by decide) (fun a5 h5 H5 => ?_)
                obtain ⟨l1, hl1, gs4⟩ := M.bind_some gs4
                have hl1 := M.app_some hl1
                have H6 : Hold h h5 [own cd2 a3 s3.length c3 s3, own cd2 a5 1 1 ([i2] : List Int), own cd2 a1 s1.1.length c1 s1.1] := H5.pick [2, 0, 1] (by kernel_rfl)
                have H7 : Hold h h5 [own cd2 a5 1 1 ([i2] : List Int), own cd2 a3 s3.length c3 s3, own cd2 a1 s1.1.length c1 s1.1] := H6.pick [1, 0, 2] (by kernel_rfl)
                have H8 : Hold h h5 [own cd2 a3 s3.length c3 s3, own cd2 a5 1 1 ([i2] : List Int), own cd2 a1 s1.1.length c1 s1.1] := H7.pick [1, 0, 2] (by kernel_rfl)
                refine Run_E (by kernel_rfl) ?_
                refine E_app (C := cd2) (t := 23) (ty := 23) (n := s3.length) (m := 1) H8 cd2_ti rfl Try.underlying23 (by decide) (by kernel_rfl) hl1 (fun a6 c5 h6 H9 => ?_)
                refine Run_b [.slice a6 l1.length c5] 4 _ (by kernel_rfl) (fun w => by kernel_rfl) ?_
                refine Run_nil (by kernel_rfl) ?_
                refine Run_keep [0, 1, 2, 7, 8, 9, 10, 14, 15, 19, 20] (L' := [(0, .slice aa_ a_.length ca_), (1, .slice ab b.length cb), (2, .slice ax_ x_.length cx_), (7, .slice a1 s1.1.length c1), (8, .bool s1.2), (9, .int .i64 i1), (10, .slice a6 l1.length c5), (14, .int .i64 (ishl .i64 1 (x_.length : Int))), (15, .int .i64 i1), (19, .int .i64 (x_.length : Int)), (20, .int .i64 i2)]) (by kernel_rfl) ?_
                have H11 : Hold h h6 [own cd2 a1 s1.1.length c1 s1.1, own cd2 a6 l1.length c5 l1] := H9.pick [1, 0] (by kernel_rfl)
                have gs4 := M.ret_some gs4
                subst gs4
                exact Run_fall [0, 1, 2, 7, 8, 9, 10, 14, 15, 19, 20] (by kernel_rfl) ⟨a6, c5, rfl, H11⟩
              · have gs4 := (M.ite_some gs4).2 hb3
                refine Run_skip ?_
                have H12 : Hold h h3 [own cd2 a3 s3.length c3 s3, own cd2 a1 s1.1.length c1 s1.1] := H3.pick [1, 0] (by kernel_rfl)
                have H13 : Hold h h3 [own cd2 a1 s1.1.length c1 s1.1, own cd2 a3 s3.length c3 s3] := H12.pick [1, 0] (by kernel_rfl)
                have gs4 := M.ret_some gs4
                subst gs4
                exact Run_fall [0, 1, 2, 7, 8, 9, 10, 14, 15, 19, 20] (by kernel_rfl) ⟨a3, c3, rfl, H13⟩
          · have gx2 := M.for_end gx2 hb2
            subst gx2
            refine Run_exit (k' := _) rfl ?_
            have H16 : Hold h h3 [own cd2 a3 s3.length c3 s3, own cd2 a1 s1.1.length c1 s1.1] := H3.pick [1, 0] (by kernel_rfl)
            have H17 : Hold h h3 [own cd2 a1 s1.1.length c1 s1.1, own cd2 a3 s3.length c3 s3] := H16.pick [1, 0] (by kernel_rfl)
            exact Run_fall [0, 1, 2, 7, 8, 10, 14, 15] (by kernel_rfl) ⟨a3, c3, rfl, H17⟩
    · have gx1 := M.for_end gx1 hb1
      subst gx1
      refine Run_exit (k' := _) rfl ?_
      exact Run_fall [7] (by kernel_rfl) ⟨a1, c1, rfl, H1⟩

set_option maxRecDepth 100000 in
set_option maxHeartbeats 4000000 in
theorem w_impl_LeastCover (h : Heap) (a_ : List (List Int)) (aa_ : Option Addr) (ca_ : Nat) (ra_ : Rd cd23 h (Lt h) aa_ ca_ a_) (b : List Int) (ab : Option Addr) (cb : Nat) (rb : Rd cd2 h (Lt h) ab cb b) (n : Nat) (r : (List Int) × Int) (hF : impl_LeastCover a_ b n = some r) :
    Fn Try.prog 39 #[.slice aa_ a_.length ca_, .slice ab b.length cb] h fun v h' => ∃ (a0 : Option Addr) (c0 : Nat), v = .tuple #[.slice a0 r.1.length c0, .int .i64 r.2] ∧ Hold h h' [own cd2 a0 r.1.length c0 r.1] := by
  unfold impl_LeastCover at hF
  refine Fn_enter (args := [.slice aa_ a_.length ca_, .slice ab b.length cb]) Try.func39 rfl (by kernel_rfl) (by kernel_rfl) (fun w0 _ => ?_)
  have H0 := Hold.init h
  refine Run_seq ?_
  refine Run_reg 2 (by kernel_rfl) (L' := [(0, .slice aa_ a_.length ca_), (1, .slice ab b.length cb)]) ?_ ?_
  · refine QRun_b [.slice none 0 0, .int .i64 0] 0 _ (by kernel_rfl) (fun w => by kernel_rfl) ?_
    exact QRun_done [0, 1] (by kernel_rfl) (by kernel_rfl)
  refine Run_seq ?_
  refine Run_ops ?_
  refine Run_b [.slice aa_ a_.length ca_, .slice ab b.length cb] 0 _ (by kernel_rfl) (fun w => by kernel_rfl) ?_
  obtain ⟨x1, hx1, hF⟩ := M.bind_some hF
  refine Run_E (by kernel_rfl) ?_
  refine E_call (f := 61) (args := #[.slice aa_ a_.length ca_, .slice ab b.length cb]) (w_impl_greatestSub h a_ aa_ ca_ ra_ b ab cb rb _ _ hx1) (by kernel_rfl) (fun v1 h1 hp1 => ?_)
  obtain ⟨a1, c1, rfl, H1⟩ := hp1
  have H2 : Hold h h1 [own cd2 a1 x1.1.length c1 x1.1] := H0.call H1 rfl
  refine Run_b [.tuple #[.slice a1 x1.1.length c1, .int .i64 x1.2], .slice a1 x1.1.length c1, .int .i64 x1.2, .slice a1 x1.1.length c1, .int .i64 x1.2] 3 _ (by kernel_rfl) (fun w => by kernel_rfl) ?_
  refine Run_nil (by kernel_rfl) ?_
  refine Run_keep [0, 1, 6, 7] (L' := [(0, .slice aa_ a_.length ca_), (1, .slice ab b.length cb), (6, .slice a1 x1.1.length c1), (7, .int .i64 x1.2)]) (by kernel_rfl) ?_
  refine Run_seq ?_
  refine Run_seq ?_
  refine Run_reg 2 (by kernel_rfl) (L' := [(0, .slice aa_ a_.length ca_), (1, .slice ab b.length cb), (6, .slice a1 x1.1.length c1), (7, .int .i64 x1.2), (15, .bool (x1.2 != 0))]) ?_ ?_
  · refine QRun_b [.int .i64 x1.2, .bool (x1.2 != 0)] 0 _ (by kernel_rfl) (fun w => by kernel_rfl) ?_
    exact QRun_done [0, 1, 6, 7, 15] (by kernel_rfl) (by kernel_rfl)
  refine Run_cond (b := x1.2 != 0) (by kernel_rfl) (fun hb1 => ?_) (fun hb1 => ?_)
  · have hF := (M.ite_some hF).1 hb1
    refine Run_seq ?_
    refine Run_reg 3 (by kernel_rfl) (L' := [(4, .slice none 0 0), (5, .int .i64 x1.2)]) ?_ ?_
    · refine QRun_b [.int .i64 x1.2, .slice none 0 0, .int .i64 x1.2] 0 _ (by kernel_rfl) (fun w => by kernel_rfl) ?_
      exact QRun_done [4, 5] (by kernel_rfl) (by kernel_rfl)
    have hF := M.ret_some hF
    subst hF
    have H3 := H2.empty cd2
    have H4 : Hold h h1 [own cd2 none 0 0 []] := H3.pick [0] (by kernel_rfl)
    exact Run_ret2 rfl (ResV_tmp (v := .slice none 0 0) (by kernel_rfl)) (ResV_tmp (v := .int .i64 x1.2) (by kernel_rfl)) ⟨none, 0, rfl, H4⟩
  · have hF := (M.ite_some hF).2 hb1
    refine Run_skip ?_
    refine Run_seq ?_
    refine Run_seq ?_
    refine Run_ops ?_
    refine Run_b [.slice aa_ a_.length ca_, .slice a1 x1.1.length c1] 0 _ (by kernel_rfl) (fun w => by kernel_rfl) ?_
    obtain ⟨x2, hx2, hF⟩ := M.bind_some hF
    refine Run_E (by kernel_rfl) ?_
    refine E_call (f := 65) (args := #[.slice aa_ a_.length ca_, .slice a1 x1.1.length c1]) (w_impl_timesVector h1 a_ aa_ ca_ (ra_.at H2.ext) x1.1 a1 c1 (H2.rd 0 rfl) _ _ hx2) (by kernel_rfl) (fun v2 h2 hp2 => ?_)
    obtain ⟨a2, c2, rfl, H5⟩ := hp2
    have H6 : Hold h h2 [own cd2 a2 x2.length c2 x2, own cd2 a1 x1.1.length c1 x1.1] := H2.call H5 rfl
    obtain ⟨x3, hx3, hF⟩ := M.bind_some hF
    refine Run_b [.slice ab b.length cb] 3 _ (by kernel_rfl) (fun w => by kernel_rfl) ?_
    refine Run_y (.bool x3) (by kernel_rfl) (Y_callq (f := 68) (args := #[.slice a2 x2.length c2, .slice ab b.length cb]) (v := .bool x3) (by kernel_rfl) (w_slices_Equal_int h2 x2 a2 c2 (H6.rd 0 rfl) b ab cb (rb.at H6.ext) _ _ hx3)) ?_
    refine Run_b [.bool (!x3)] 5 _ (by kernel_rfl) (fun w => by kernel_rfl) ?_
    refine Run_nil (by kernel_rfl) ?_
    refine Run_keep [0, 1, 6, 22] (L' := [(0, .slice aa_ a_.length ca_), (1, .slice ab b.length cb), (6, .slice a1 x1.1.length c1), (22, .bool (!x3))]) (by kernel_rfl) ?_
    refine Run_cond (b := !x3) (by kernel_rfl) (fun hb2 => ?_) (fun hb2 => ?_)
    · have hF := (M.ite_some hF).1 hb2
      refine Run_seq ?_
      refine Run_reg 2 (by kernel_rfl) (L' := [(4, .slice none 0 0), (5, .int .i64 4)]) ?_ ?_
      · refine QRun_b [.slice none 0 0, .int .i64 4] 0 _ (by kernel_rfl) (fun w => by kernel_rfl) ?_
        exact QRun_done [4, 5] (by kernel_rfl) (by kernel_rfl)
      have hF := M.ret_some hF
      subst hF
      have H7 := H6.empty cd2
      have H8 : Hold h h2 [own cd2 none 0 0 []] := H7.pick [0] (by kernel_rfl)
      exact Run_ret2 rfl (ResV_tmp (v := .slice none 0 0) (by kernel_rfl)) (ResV_tmp (v := .int .i64 4) (by kernel_rfl)) ⟨none, 0, rfl, H8⟩
    · have hF := (M.ite_some hF).2 hb2
      refine Run_skip ?_
      refine Run_seq ?_
      refine Run_ops ?_
      refine Run_b [.slice aa_ a_.length ca_, .slice ab b.length cb, .slice a1 x1.1.length c1] 0 _ (by kernel_rfl) (fun w => by kernel_rfl) ?_
      obtain ⟨x4, hx4, hF⟩ := M.bind_some hF
      refine Run_E (by kernel_rfl) ?_
      refine E_call (f := 79) (args := #[.slice aa_ a_.length ca_, .slice ab b.length cb, .slice a1 x1.1.length c1]) (w_impl_leastCover h2 a_ aa_ ca_ (ra_.at H6.ext) b ab cb (rb.at H6.ext) x1.1 a1 c1 (H6.rd 1 rfl) _ _ hx4) (by kernel_rfl) (fun v3 h3 hp3 => ?_)
      obtain ⟨a3, c3, rfl, H9⟩ := hp3
      have H10 : Hold h h3 [own cd2 a3 x4.length c3 x4, own cd2 a2 x2.length c2 x2, own cd2 a1 x1.1.length c1 x1.1] := H6.call H9 rfl
      refine Run_b [.slice a3 x4.length c3, .int .i64 0] 4 _ (by kernel_rfl) (fun w => by kernel_rfl) ?_
      refine Run_nil (by kernel_rfl) ?_
      refine Run_keep [4, 5] (L' := [(4, .slice a3 x4.length c3), (5, .int .i64 0)]) (by kernel_rfl) ?_
      have hF := M.ret_some hF
      subst hF
      have H11 : Hold h h3 [own cd2 a3 x4.length c3 x4] := H10.pick [0] (by kernel_rfl)
      exact Run_ret2 rfl (ResV_tmp (v := .slice a3 x4.length c3) (by kernel_rfl)) (ResV_tmp (v := .int .i64 0) (by kernel_rfl)) ⟨a3, c3, rfl, H11⟩

set_option maxRecDepth 100000 in
set_option maxHeartbeats 4000000 in
theorem w_laws_eqInt64S (h : Heap) (a_ : List Int) {Sa_ : Bs} (aa_ : Option Addr) (ca_ : Nat) (ra_ : Rd cd2 h Sa_ aa_ ca_ a_) (b : List Int) {Sb : Bs} (ab : Option Addr) (cb : Nat) (rb : Rd cd2 h Sb ab cb b) (n : Nat) (r : Bool) (hF : laws_eqInt64S a_ b n = some r) :
    Fn Try.prog 20 #[.slice aa_ a_.length ca_, .slice ab b.length cb] h fun v h' => v = .bool r ∧ h' = h := by
  unfold laws_eqInt64S at hF
  refine Fn_enter (args := [.slice aa_ a_.length ca_, .slice ab b.length cb]) Try.func20 rfl (by kernel_rfl) (by kernel_rfl) (fun w0 _ => ?_)
  refine Run_seq ?_
  refine Run_reg 1 (by kernel_rfl) (L' := [(0, .slice aa_ a_.length ca_), (1, .slice ab b.length cb)]) ?_ ?_
  · refine QRun_b [.bool false] 0 _ (by kernel_rfl) (fun w => by kernel_rfl) ?_
    exact QRun_done [0, 1] (by kernel_rfl) (by kernel_rfl)
  refine Run_seq ?_
  refine Run_seq ?_
  refine Run_reg 5 (by kernel_rfl) (L' := [(0, .slice aa_ a_.length ca_), (1, .slice ab b.length cb), (10, .bool ((a_.length : Int) != (b.length : Int)))]) ?_ ?_
  · refine QRun_b [.slice aa_ a_.length ca_, .int .i64 (a_.length : Int), .slice ab b.length cb, .int .i64 (b.length : Int), .bool ((a_.length : Int) != (b.length : Int))] 0 _ (by kernel_rfl) (fun w => by kernel_rfl) ?_
    exact QRun_done [0, 1, 10] (by kernel_rfl) (by kernel_rfl)
  refine Run_cond (b := (a_.length : Int) != (b.length : Int)) (by kernel_rfl) (fun hb1 => ?_) (fun hb1 => ?_)
  · have hF := (M.ite_some hF).1 hb1
    refine Run_seq ?_
    refine Run_reg 1 (by kernel_rfl) (L' := [(4, .bool false)]) ?_ ?_
    · refine QRun_b [.bool false] 0 _ (by kernel_rfl) (fun w => by kernel_rfl) ?_
      exact QRun_done [4] (by kernel_rfl) (by kernel_rfl)
    have hF := M.ret_some hF
    subst hF
    exact Run_ret1 rfl (ResV_tmp (v := .bool false) (by kernel_rfl)) ⟨rfl, rfl⟩
  · have hF := (M.ite_some hF).2 hb1
    refine Run_skip ?_
    refine Run_seq ?_
    refine Run_seq ?_
    refine Run_reg 1 (by kernel_rfl) (L' := [(0, .slice aa_ a_.length ca_), (1, .slice ab b.length cb), (5, .int .i64 0)]) ?_ ?_
    · refine QRun_b [.int .i64 0] 0 _ (by kernel_rfl) (fun w => by kernel_rfl) ?_
      exact QRun_done [0, 1, 5] (by kernel_rfl) (by kernel_rfl)
    obtain ⟨x1, gx1, hF⟩ := M.bind_some hF
    obtain ⟨hloy1, hhiy1, gx1⟩ := M.for_start gx1
    refine Run_join (fun L' h' => ∃ (s2 : Unit), x1 = .inl s2 ∧ L' = [] ∧ h = h') ?_ ?_
    · rintro _ _ ⟨s2, es2, rfl, rfl⟩
      have hF := M.cont_inl' hF es2
      refine Run_seq ?_
      refine Run_reg 1 (by kernel_rfl) (L' := [(4, .bool true)]) ?_ ?_
      · refine QRun_b [.bool true] 0 _ (by kernel_rfl) (fun w => by kernel_rfl) ?_
        exact QRun_done [4] (by kernel_rfl) (by kernel_rfl)
      have hF := M.ret_some hF
      subst hF
      exact Run_ret1 rfl (ResV_tmp (v := .bool true) (by kernel_rfl)) ⟨rfl, rfl⟩
    · refine Run_block ?_
      refine Run_keep [0, 1, 5] (L' := [(0, .slice aa_ a_.length ca_), (1, .slice ab b.length cb), (5, .int .i64 0)]) (by kernel_rfl) ?_
      refine Run_loop (fun m L' h' => ∃ (i1 : Int) (s1 : Unit), 0 ≤ i1 ∧ M.forN (a_.length : Int) _ _ n m i1 s1 = some x1 ∧ L' = [(0, .slice aa_ a_.length ca_), (1, .slice ab b.length cb), (5, .int .i64 i1)] ∧ h = h') ((a_.length : Int) - 0).toNat ⟨0, (), Int.le_refl _, gx1, rfl, rfl⟩ ?_
      rintro my1 _ _ ⟨i1, s1, hloy1', gx1, rfl, rfl⟩
      refine Run_seq ?_
      refine Run_seq ?_
      refine Run_reg 4 (by kernel_rfl) (L' := [(0, .slice aa_ a_.length ca_), (1, .slice ab b.length cb), (5, .int .i64 i1), (14, .bool (decide (i1 < (a_.length : Int))))]) ?_ ?_
      · refine QRun_b [.int .i64 i1, .slice aa_ a_.length ca_, .int .i64 (a_.length : Int), .bool (decide (i1 < (a_.length : Int)))] 0 _ (by kernel_rfl) (fun w => by kernel_rfl) ?_
        exact QRun_done [0, 1, 5, 14] (by kernel_rfl) (by kernel_rfl)
      refine Run_cond (b := decide (i1 < (a_.length : Int))) (by kernel_rfl) (fun hb2 => ?_) (fun hb2 => ?_)
      · obtain ⟨my1, y1, rfl, hB1, hgoy1, houty1⟩ := M.for_go gx1 hb2
        have hlty1 := of_decide_eq_true hb2
        refine Run_skip ?_
        refine Run_seq ?_
        refine Run_block ?_
        refine Run_seq ?_
        obtain ⟨x2, hx1, hB1⟩ := M.bind_some hB1
        obtain ⟨hx1l, hx1u, hx1⟩ := M.idx_some hx1
        obtain ⟨x3, hx2, hB1⟩ := M.bind_some hB1
        obtain ⟨hx2l, hx2u, hx2⟩ := M.idx_some hx2
        refine Run_draw 9 mixed (by kernel_rfl) (by kernel_rfl) (L' := [(0, .slice aa_ a_.length ca_), (1, .slice ab b.length cb), (5, .int .i64 i1), (25, .bool (x2 != x3))]) ?_ ?_
        · refine QRun_b [.slice aa_ a_.length ca_, .int .i64 i1] 0 _ (by kernel_rfl) (fun w => by kernel_rfl) ?_
          refine QRun_y (.pointer (some (adr aa_ (i1.toNat * 1)))) (by kernel_rfl) (Y_idx (t := 23) (e := 2) (sz := 1) (a := aa_) (n := a_.length) (cap := ca_) (kk := .i64) (i := i1) (by kernel_rfl) Try.underlying23 (by kernel_rfl) (ra_.cell hx1).1 hx1l hx1u) ?_
          refine QRun_y (.int .i64 x2) (by kernel_rfl) (Y_load1 (t := 2) (p := adr aa_ (i1.toNat * 1)) (v := .int .i64 x2) (by kernel_rfl) (fun w => by kernel_rfl) (cd2_cell ra_ hx1)) ?_
          refine QRun_b [.slice ab b.length cb, .int .i64 i1] 4 _ (by kernel_rfl) (fun w => by kernel_rfl) ?_
          refine QRun_y (.pointer (some (adr ab (i1.toNat * 1)))) (by kernel_rfl) (Y_idx (t := 23) (e := 2) (sz := 1) (a := ab) (n := b.length) (cap := cb) (kk := .i64) (i := i1) (by kernel_rfl) Try.underlying23 (by kernel_rfl) (rb.cell hx2).1 hx2l hx2u) ?_
          refine QRun_y (.int .i64 x3) (by kernel_rfl) (Y_load1 (t := 2) (p := adr ab (i1.toNat * 1)) (v := .int .i64 x3) (by kernel_rfl) (fun w => by kernel_rfl) (cd2_cell rb hx2)) ?_
          refine QRun_b [.bool (x2 != x3)] 8 _ (by kernel_rfl) (fun w => by kernel_rfl) ?_
          exact QRun_done [0, 1, 5, 25] (by kernel_rfl) (by kernel_rfl)
        refine Run_cond (b := x2 != x3) (by kernel_rfl) (fun hb3 => ?_) (fun hb3 => ?_)
        · have hB1 := (M.ite_some hB1).1 hb3
          refine Run_seq ?_
          refine Run_reg 1 (by kernel_rfl) (L' := [(4, .bool false)]) ?_ ?_
          · refine QRun_b [.bool false] 0 _ (by kernel_rfl) (fun w => by kernel_rfl) ?_
            exact QRun_done [4] (by kernel_rfl) (by kernel_rfl)
          have hB1 := M.ret_some hB1
          have gx1 := houty1 _ hB1.symm
          have hF := M.cont_inr' hF gx1
          have hF := M.ret_some hF
          subst hF
          exact Run_ret1 rfl (ResV_tmp (v := .bool false) (by kernel_rfl)) ⟨rfl, rfl⟩
        · have hB1 := (M.ite_some hB1).2 hb3
          refine Run_skip ?_
          refine Run_blk ?_
          refine Run_reg 3 (by kernel_rfl) (L' := [(0, .slice aa_ a_.length ca_), (1, .slice ab b.length cb), (5, .int .i64 (i1 + 1))]) ?_ ?_
          · refine QRun_b [.int .i64 i1] 0 _ (by kernel_rfl) (fun w => by kernel_rfl) ?_
            refine QRun_y (.int .i64 (i1 + 1)) (by kernel_rfl) (Y_eq (v := .int .i64 (w64 (i1 + 1))) (Y_pure (fun w => by kernel_rfl)) (by rw [w64_eq _ (by omega)])) ?_
            refine QRun_b [.int .i64 (i1 + 1)] 2 _ (by kernel_rfl) (fun w => by kernel_rfl) ?_
            exact QRun_done [0, 1, 5] (by kernel_rfl) (by kernel_rfl)
          have hB1 := M.ret_some hB1
          have gx1 := hgoy1 _ hB1.symm
          exact Run_again [0, 1, 5] (by kernel_rfl) my1 (Nat.lt_succ_self _) ⟨i1 + 1, (), by omega, gx1, rfl, rfl⟩
      · have gx1 := M.for_end gx1 hb2
        subst gx1
        refine Run_exit (k' := _) rfl ?_
        exact Run_fall [] (by kernel_rfl) ⟨(), rfl, rfl, rfl⟩

set_option maxRecDepth 100000 in
set_option maxHeartbeats 4000000 in
theorem w_laws_eqInt64SS (h : Heap) (a_ : List (List Int)) {Sa_ : Bs} (aa_ : Option Addr) (ca_ : Nat) (ra_ : Rd cd23 h Sa_ aa_ ca_ a_) (b : List (List Int)) {Sb : Bs} (ab : Option Addr) (cb : Nat) (rb : Rd cd23 h Sb ab cb b) (n : Nat) (r : Bool) (hF : laws_eqInt64SS a_ b n = some r) :
    Fn Try.prog 21 #[.slice aa_ a_.length ca_, .slice ab b.length cb] h fun v h' => v = .bool r ∧ h' = h := by
  unfold laws_eqInt64SS at hF
  refine Fn_enter (args := [.slice aa_ a_.length ca_, .slice ab b.length cb]) Try.func21 rfl (by kernel_rfl) (by kernel_rfl) (fun w0 _ => ?_)
  refine Run_seq ?_
  refine Run_reg 1 (by kernel_rfl) (L' := [(0, .slice aa_ a_.length ca_), (1, .slice ab b.length cb)]) ?_ ?_
  · refine QRun_b [.bool false] 0 _ (by kernel_rfl) (fun w => by kernel_rfl) ?_
    exact QRun_done [0, 1] (by kernel_rfl) (by kernel_rfl)
  refine Run_seq ?_
  refine Run_seq ?_
  refine Run_reg 5 (by kernel_rfl) (L' := [(0, .slice aa_ a_.length ca_), (1, .slice ab b.length cb), (10, .bool ((a_.length : Int) != (b.length : Int)))]) ?_ ?_
  · refine QRun_b [.slice aa_ a_.length ca_, .int .i64 (a_.length : Int), .slice ab b.length cb, .int .i64 (b.length : Int), .bool ((a_.length : Int) != (b.length : Int))] 0 _ (by kernel_rfl) (fun w => by kernel_rfl) ?_
    exact QRun_done [0, 1, 10] (by kernel_rfl) (by kernel_rfl)
  refine Run_cond (b := (a_.length : Int) != (b.length : Int)) (by kernel_rfl) (fun hb1 => ?_) (fun hb1 => ?_)
  · have hF := (M.ite_some hF).1 hb1
    refine Run_seq ?_
    refine Run_reg 1 (by kernel_rfl) (L' := [(4, .bool false)]) ?_ ?_
    · refine QRun_b [.bool false] 0 _ (by kernel_rfl) (fun w => by kernel_rfl) ?_
      exact QRun_done [4] (by kernel_rfl) (by kernel_rfl)
    have hF := M.ret_some hF
    subst hF
    exact Run_ret1 rfl (ResV_tmp (v := .bool false) (by kernel_rfl)) ⟨rfl, rfl⟩
  · have hF := (M.ite_some hF).2 hb1
    refine Run_skip ?_
    refine Run_seq ?_
    refine Run_seq ?_
    refine Run_reg 1 (by kernel_rfl) (L' := [(0, .slice aa_ a_.length ca_), (1, .slice ab b.length cb), (5, .int .i64 0)]) ?_ ?_
    · refine QRun_b [.int .i64 0] 0 _ (by kernel_rfl) (fun w => by kernel_rfl) ?_
      exact QRun_done [0, 1, 5] (by kernel_rfl) (by kernel_rfl)
    obtain ⟨x1, gx1, hF⟩ := M.bind_some hF
    obtain ⟨hloy1, hhiy1, gx1⟩ := M.for_start gx1
    refine Run_join (fun L' h' => ∃ (s2 : Unit), x1 = .inl s2 ∧ L' = [] ∧ h = h') ?_ ?_
    · rintro _ _ ⟨s2, es2, rfl, rfl⟩
      have hF := M.cont_inl' hF es2
      refine Run_seq ?_
      refine Run_reg 1 (by kernel_rfl) (L' := [(4, .bool true)]) ?_ ?_
      · refine QRun_b [.bool true] 0 _ (by kernel_rfl) (fun w => by kernel_rfl) ?_
        exact QRun_done [4] (by kernel_rfl) (by kernel_rfl)
      have hF := M.ret_some hF
      subst hF
      exact Run_ret1 rfl (ResV_tmp (v := .bool true) (by kernel_rfl)) ⟨rfl, rfl⟩
    · refine Run_block ?_
      refine Run_keep [0, 1, 5] (L' := [(0, .slice aa_ a_.length ca_), (1, .slice ab b.length cb), (5, .int .i64 0)]) (by kernel_rfl) ?_
      refine Run_loop (fun m L' h' => ∃ (i1 : Int) (s1 : Unit), 0 ≤ i1 ∧ M.forN (a_.length : Int) _ _ n m i1 s1 = some x1 ∧ L' = [(0, .slice aa_ a_.length ca_), (1, .slice ab b.length cb), (5, .int .i64 i1)] ∧ h = h') ((a_.length : Int) - 0).toNat ⟨0, (), Int.le_refl _, gx1, rfl, rfl⟩ ?_
      rintro my1 _ _ ⟨i1, s1, hloy1', gx1, rfl, rfl⟩
      refine Run_seq ?_
      refine Run_seq ?_
      refine Run_reg 4 (by kernel_rfl) (L' := [(0, .slice aa_ a_.length ca_), (1, .slice ab b.length cb), (5, .int .i64 i1), (14, .bool (decide (i1 < (a_.length : Int))))]) ?_ ?_
      · refine QRun_b [.int .i64 i1, .slice aa_ a_.length ca_, .int .i64 (a_.length : Int), .bool (decide (i1 < (a_.length : Int)))] 0 _ (by kernel_rfl) (fun w => by kernel_rfl) ?_
        exact QRun_done [0, 1, 5, 14] (by kernel_rfl) (by kernel_rfl)
      refine Run_cond (b := decide (i1 < (a_.length : Int))) (by kernel_rfl) (fun hb2 => ?_) (fun hb2 => ?_)
      · obtain ⟨my1, y1, rfl, hB1, hgoy1, houty1⟩ := M.for_go gx1 hb2
        have hlty1 := of_decide_eq_true hb2
        refine Run_skip ?_
        refine Run_seq ?_
        refine Run_block ?_
        refine Run_seq ?_
        obtain ⟨x2, hx1, hB1⟩ := M.bind_some hB1
        obtain ⟨hx1l, hx1u, hx1⟩ := M.idx_some hx1
        obtain ⟨a1, c1, hc1, r1⟩ := ra_.row hx1
        obtain ⟨x3, hx2, hB1⟩ := M.bind_some hB1
        obtain ⟨hx2l, hx2u, hx2⟩ := M.idx_some hx2
        obtain ⟨a2, c2, hc2, r2⟩ := rb.row hx2
        obtain ⟨x4, hx3, hB1⟩ := M.bind_some hB1
        refine Run_draw 10 mixed (by kernel_rfl) (by kernel_rfl) (L' := [(0, .slice aa_ a_.length ca_), (1, .slice ab b.length cb), (5, .int .i64 i1), (26, .bool (!x4))]) ?_ ?_
        · refine QRun_b [.slice aa_ a_.length ca_, .int .i64 i1] 0 _ (by kernel_rfl) (fun w => by kernel_rfl) ?_
          refine QRun_y (.pointer (some (adr aa_ (i1.toNat * 1)))) (by kernel_rfl) (Y_idx (t := 22) (e := 23) (sz := 1) (a := aa_) (n := a_.length) (cap := ca_) (kk := .i64) (i := i1) (by kernel_rfl) Try.underlying22 (by kernel_rfl) (ra_.cell hx1).1 hx1l hx1u) ?_
          refine QRun_y (.slice a1 x2.length c1) (by kernel_rfl) (Y_load1 (t := 23) (p := adr aa_ (i1.toNat * 1)) (v := .slice a1 x2.length c1) (by kernel_rfl) (fun w => by kernel_rfl) hc1) ?_
          refine QRun_b [.slice ab b.length cb, .int .i64 i1] 4 _ (by kernel_rfl) (fun w => by kernel_rfl) ?_
          refine QRun_y (.pointer (some (adr ab (i1.toNat * 1)))) (by kernel_rfl) (Y_idx (t := 22) (e := 23) (sz := 1) (a := ab) (n := b.length) (cap := cb) (kk := .i64) (i := i1) (by kernel_rfl) Try.underlying22 (by kernel_rfl) (rb.cell hx2).1 hx2l hx2u) ?_
          refine QRun_y (.slice a2 x3.length c2) (by kernel_rfl) (Y_load1 (t := 23) (p := adr ab (i1.toNat * 1)) (v := .slice a2 x3.length c2) (by kernel_rfl) (fun w => by kernel_rfl) hc2) ?_
          refine QRun_y (.bool x4) (by kernel_rfl) (Y_callq (f := 20) (args := #[.slice a1 x2.length c1, .slice a2 x3.length c2]) (v := .bool x4) (by kernel_rfl) (w_laws_eqInt64S h x2 a1 c1 r1 x3 a2 c2 r2 _ _ hx3)) ?_
          refine QRun_b [.bool (!x4)] 9 _ (by kernel_rfl) (fun w => by kernel_rfl) ?_
          exact QRun_done [0, 1, 5, 26] (by kernel_rfl) (by kernel_rfl)
        refine Run_cond (b := !x4) (by kernel_rfl) (fun hb3 => ?_) (fun hb3 => ?_)
        · have hB1 := (M.ite_some hB1).1 hb3
          refine Run_seq ?_
          refine Run_reg 1 (by kernel_rfl) (L' := [(4, .bool false)]) ?_ ?_
          · refine QRun_b [.bool false] 0 _ (by kernel_rfl) (fun w => by kernel_rfl) ?_
            exact QRun_done [4] (by kernel_rfl) (by kernel_rfl)
          have hB1 := M.ret_some hB1
          have gx1 := houty1 _ hB1.symm
          have hF := M.cont_inr' hF gx1
          have hF := M.ret_some hF
          subst hF
          exact Run_ret1 rfl (ResV_tmp (v := .bool false) (by kernel_rfl)) ⟨rfl, rfl⟩
        · have hB1 := (M.ite_some hB1).2 hb3
          refine Run_skip ?_
          refine Run_blk ?_
          refine Run_reg 3 (by kernel_rfl) (L' := [(0, .slice aa_ a_.length ca_), (1, .slice ab b.length cb), (5, .int .i64 (i1 + 1))]) ?_ ?_
          · refine QRun_b [.int .i64 i1] 0 _ (by kernel_rfl) (fun w => by kernel_rfl) ?_
            refine QRun_y (.int .i64 (i1 + 1)) (by kernel_rfl) (Y_eq (v := .int .i64 (w64 (i1 + 1))) (Y_pure (fun w => by kernel_rfl)) (by rw [w64_eq _ (by omega)])) ?_
            refine QRun_b [.int .i64 (i1 + 1)] 2 _ (by kernel_rfl) (fun w => by kernel_rfl) ?_
            exact QRun_done [0, 1, 5] (by kernel_rfl) (by kernel_rfl)
          have hB1 := M.ret_some hB1
          have gx1 := hgoy1 _ hB1.symm
          exact Run_again [0, 1, 5] (by kernel_rfl) my1 (Nat.lt_succ_self _) ⟨i1 + 1, (), by omega, gx1, rfl, rfl⟩
      · have gx1 := M.for_end gx1 hb2
        subst gx1
        refine Run_exit (k' := _) rfl ?_
        exact Run_fall [] (by kernel_rfl) ⟨(), rfl, rfl, rfl⟩

set_option maxRecDepth 100000 in
set_option maxHeartbeats 4000000 in
theorem w_laws_heldInt64S (h : Heap) (a_ : List Int) {Sa_ : Bs} (aa_ : Option Addr) (ca_ : Nat) (ra_ : Rd cd2 h Sa_ aa_ ca_ a_) (k_ : Int) (n : Nat) (r : Int) (hF : laws_heldInt64S a_ k_ n = some r) :
    Fn Try.prog 24 #[.slice aa_ a_.length ca_, .int .i64 k_] h fun v h' => v = .int .i64 r ∧ h' = h := by
  unfold laws_heldInt64S at hF
  refine Fn_enter (args := [.slice aa_ a_.length ca_, .int .i64 k_]) Try.func24 rfl (by kernel_rfl) (by kernel_rfl) (fun w0 _ => ?_)
  refine Run_seq ?_
  refine Run_reg 1 (by kernel_rfl) (L' := [(0, .slice aa_ a_.length ca_), (1, .int .i64 k_)]) ?_ ?_
  · refine QRun_b [.int .i64 0] 0 _ (by kernel_rfl) (fun w => by kernel_rfl) ?_
    exact QRun_done [0, 1] (by kernel_rfl) (by kernel_rfl)
  refine Run_seq ?_
  refine Run_seq ?_
  refine Run_reg 1 (by kernel_rfl) (L' := [(0, .slice aa_ a_.length ca_), (1, .int .i64 k_), (5, .int .i64 0)]) ?_ ?_
  · refine QRun_b [.int .i64 0] 0 _ (by kernel_rfl) (fun w => by kernel_rfl) ?_
    exact QRun_done [0, 1, 5] (by kernel_rfl) (by kernel_rfl)
  obtain ⟨x1, gx1, hF⟩ := M.bind_some hF
  obtain ⟨hloy1, hhiy1, gx1⟩ := M.for_start gx1
  refine Run_join (fun L' h' => ∃ (s2 : Int), x1 = .inl s2 ∧ L' = [(1, .int .i64 s2)] ∧ h = h') ?_ ?_
  · rintro _ _ ⟨s2, es2, rfl, rfl⟩
    have hF := M.cont_inl' hF es2
    refine Run_seq ?_
    refine Run_reg 2 (by kernel_rfl) (L' := [(4, .int .i64 s2)]) ?_ ?_
    · refine QRun_b [.int .i64 s2, .int .i64 s2] 0 _ (by kernel_rfl) (fun w => by kernel_rfl) ?_
      exact QRun_done [4] (by kernel_rfl) (by kernel_rfl)
    have hF := M.ret_some hF
    subst hF
    exact Run_ret1 rfl (ResV_tmp (v := .int .i64 s2) (by kernel_rfl)) ⟨rfl, rfl⟩
  · refine Run_block ?_
    refine Run_keep [0, 1, 5] (L' := [(0, .slice aa_ a_.length ca_), (1, .int .i64 k_), (5, .int .i64 0)]) (by kernel_rfl) ?_
    refine Run_loop (fun m L' h' => ∃ (i1 : Int) (s1 : Int), 0 ≤ i1 ∧ M.forN (a_.length : Int) _ _ n m i1 s1 = some x1 ∧ L' = [(0, .slice aa_ a_.length ca_), (1, .int .i64 s1), (5, .int .i64 i1)] ∧ h = h') ((a_.length : Int) - 0).toNat ⟨0, k_, Int.le_refl _, gx1, rfl, rfl⟩ ?_
    rintro my1 _ _ ⟨i1, s1, hloy1', gx1, rfl, rfl⟩
    refine Run_seq ?_
    refine Run_seq ?_
    refine Run_reg 4 (by kernel_rfl) (L' := [(0, .slice aa_ a_.length ca_), (1, .int .i64 s1), (5, .int .i64 i1), (9, .bool (decide (i1 < (a_.length : Int))))]) ?_ ?_
    · refine QRun_b [.int .i64 i1, .slice aa_ a_.length ca_, .int .i64 (a_.length : Int), .bool (decide (i1 < (a_.length : Int)))] 0 _ (by kernel_rfl) (fun w => by kernel_rfl) ?_
      exact QRun_done [0, 1, 5, 9] (by kernel_rfl) (by kernel_rfl)
    refine Run_cond (b := decide (i1 < (a_.length : Int))) (by kernel_rfl) (fun hb1 => ?_) (fun hb1 => ?_)
    · obtain ⟨my1, y1, rfl, hB1, hgoy1, houty1⟩ := M.for_go gx1 hb1
      have hlty1 := of_decide_eq_true hb1
      refine Run_skip ?_
      refine Run_seq ?_
      refine Run_block ?_
      refine Run_seq ?_
      refine Run_seq ?_
      obtain ⟨x2, hx1, hB1⟩ := M.bind_some hB1
      obtain ⟨hx1l, hx1u, hx1⟩ := M.idx_some hx1
      refine Run_reg 6 (by kernel_rfl) (L' := [(0, .slice aa_ a_.length ca_), (1, .int .i64 s1), (5, .int .i64 i1), (17, .bool (x2 != s1))]) ?_ ?_
      · refine QRun_b [.slice aa_ a_.length ca_, .int .i64 i1] 0 _ (by kernel_rfl) (fun w => by kernel_rfl) ?_
        refine QRun_y (.pointer (some (adr aa_ (i1.toNat * 1)))) (by kernel_rfl) (Y_idx (t := 23) (e := 2) (sz := 1) (a := aa_) (n := a_.length) (cap := ca_) (kk := .i64) (i := i1) (by kernel_rfl) Try.underlying23 (by kernel_rfl) (ra_.cell hx1).1 hx1l hx1u) ?_
        refine QRun_y (.int .i64 x2) (by kernel_rfl) (Y_load1 (t := 2) (p := adr aa_ (i1.toNat * 1)) (v := .int .i64 x2) (by kernel_rfl) (fun w => by kernel_rfl) (cd2_cell ra_ hx1)) ?_
        refine QRun_b [.int .i64 s1, .bool (x2 != s1)] 4 _ (by kernel_rfl) (fun w => by kernel_rfl) ?_
        exact QRun_done [0, 1, 5, 17] (by kernel_rfl) (by kernel_rfl)
      refine Run_cond (b := x2 != s1) (by kernel_rfl) (fun hb2 => ?_) (fun hb2 => ?_)
      · have hB1 := (M.ite_some hB1).1 hb2
        refine Run_seq ?_
        refine Run_reg 1 (by kernel_rfl) (L' := [(4, .int .i64 (-1))]) ?_ ?_
        · refine QRun_b [.int .i64 (-1)] 0 _ (by kernel_rfl) (fun w => by kernel_rfl) ?_
          exact QRun_done [4] (by kernel_rfl) (by kernel_rfl)
        have hB1 := M.ret_some hB1
        have gx1 := houty1 _ hB1.symm
        have hF := M.cont_inr' hF gx1
        have hF := M.ret_some hF
        subst hF
        exact Run_ret1 rfl (ResV_tmp (v := .int .i64 (-1)) (by kernel_rfl)) ⟨rfl, rfl⟩
      · have hB1 := (M.ite_some hB1).2 hb2
        refine Run_skip ?_
        refine Run_reg 3 (by kernel_rfl) (L' := [(0, .slice aa_ a_.length ca_), (1, .int .i64 (w64 (s1 + 1))), (5, .int .i64 i1)]) ?_ ?_
        · refine QRun_b [.int .i64 s1, .int .i64 (w64 (s1 + 1)), .int .i64 (w64 (s1 + 1))] 0 _ (by kernel_rfl) (fun w => by kernel_rfl) ?_
          exact QRun_done [0, 1, 5] (by kernel_rfl) (by kernel_rfl)
        refine Run_blk ?_
        refine Run_reg 3 (by kernel_rfl) (L' := [(0, .slice aa_ a_.length ca_), (1, .int .i64 (w64 (s1 + 1))), (5, .int .i64 (i1 + 1))]) ?_ ?_
        · refine QRun_b [.int .i64 i1] 0 _ (by kernel_rfl) (fun w => by kernel_rfl) ?_
          refine QRun_y (.int .i64 (i1 + 1)) (by kernel_rfl) (Y_eq (v := .int .i64 (w64 (i1 + 1))) (Y_pure (fun w => by kernel_rfl)) (by rw [w64_eq _ (by omega)])) ?_
          refine QRun_b [.int .i64 (i1 + 1)] 2 _ (by kernel_rfl) (fun w => by kernel_rfl) ?_
          exact QRun_done [0, 1, 5] (by kernel_rfl) (by kernel_rfl)
        have hB1 := M.ret_some hB1
        have gx1 := hgoy1 _ hB1.symm
        exact Run_again [0, 1, 5] (by kernel_rfl) my1 (Nat.lt_succ_self _) ⟨i1 + 1, (w64 (s1 + 1)), by omega, gx1, rfl, rfl⟩
    · have gx1 := M.for_end gx1 hb1
      subst gx1
      refine Run_exit (k' := _) rfl ?_
      exact Run_fall [1] (by kernel_rfl) ⟨s1, rfl, rfl, rfl⟩

set_option maxRecDepth 100000 in
set_option maxHeartbeats 4000000 in
theorem w_laws_markInt64S (h hE : Heap) (it : Item) (a_ : List Int) (aa_ : Option Addr) (ca_ : Nat) (k_ : Int) (HM : Hold h hE [own cd2 aa_ a_.length ca_ a_, it]) (n : Nat) (r : Int × (List Int)) (hF : laws_markInt64S a_ k_ n = some r) :
    Fn Try.prog 23 #[.slice aa_ a_.length ca_, .int .i64 k_] hE fun v h' => v = .int .i64 r.1 ∧ Hold h h' [own cd2 aa_ a_.length ca_ r.2, it] := by
  unfold laws_markInt64S at hF
  refine Fn_enter (args := [.slice aa_ a_.length ca_, .int .i64 k_]) Try.func23 rfl (by kernel_rfl) (by kernel_rfl) (fun w0 _ => ?_)
  refine Run_seq ?_
  refine Run_reg 1 (by kernel_rfl) (L' := [(0, .slice aa_ a_.length ca_), (1, .int .i64 k_)]) ?_ ?_
  · refine QRun_b [.int .i64 0] 0 _ (by kernel_rfl) (fun w => by kernel_rfl) ?_
    exact QRun_done [0, 1] (by kernel_rfl) (by kernel_rfl)
  refine Run_seq ?_
  refine Run_seq ?_
  refine Run_reg 1 (by kernel_rfl) (L' := [(0, .slice aa_ a_.length ca_), (1, .int .i64 k_), (5, .int .i64 0)]) ?_ ?_
  · refine QRun_b [.int .i64 0] 0 _ (by kernel_rfl) (fun w => by kernel_rfl) ?_
    exact QRun_done [0, 1, 5] (by kernel_rfl) (by kernel_rfl)
  obtain ⟨x1, gx1, hF⟩ := M.bind_some hF
  obtain ⟨hloy1, hhiy1, gx1⟩ := M.for_start gx1
  refine Run_join (fun L' h' => L' = [(1, .int .i64 x1.2)] ∧ Hold h h' [own cd2 aa_ a_.length ca_ x1.1, it]) ?_ ?_
  · rintro _ h2 ⟨rfl, H2⟩
    refine Run_seq ?_
    refine Run_reg 2 (by kernel_rfl) (L' := [(4, .int .i64 x1.2)]) ?_ ?_
    · refine QRun_b [.int .i64 x1.2, .int .i64 x1.2] 0 _ (by kernel_rfl) (fun w => by kernel_rfl) ?_
      exact QRun_done [4] (by kernel_rfl) (by kernel_rfl)
    have hF := M.ret_some hF
    subst hF
    exact Run_ret1 rfl (ResV_tmp (v := .int .i64 x1.2) (by kernel_rfl)) ⟨rfl, H2⟩
  · refine Run_block ?_
    refine Run_keep [0, 1, 5] (L' := [(0, .slice aa_ a_.length ca_), (1, .int .i64 k_), (5, .int .i64 0)]) (by kernel_rfl) ?_
    refine Run_loop (fun m L' h' => ∃ (i1 : Int) (s1 : (List Int) × Int), 0 ≤ i1 ∧ M.forN (a_.length : Int) _ _ n m i1 s1 = some x1 ∧ L' = [(0, .slice aa_ a_.length ca_), (1, .int .i64 s1.2), (5, .int .i64 i1)] ∧ Hold h h' [own cd2 aa_ a_.length ca_ s1.1, it]) ((a_.length : Int) - 0).toNat ⟨0, (a_, k_), Int.le_refl _, gx1, rfl, HM⟩ ?_
    rintro my1 _ h1 ⟨i1, s1, hloy1', gx1, rfl, H1⟩
    refine Run_seq ?_
    refine Run_seq ?_
    refine Run_reg 4 (by kernel_rfl) (L' := [(0, .slice aa_ a_.length ca_), (1, .int .i64 s1.2), (5, .int .i64 i1), (9, .bool (decide (i1 < (a_.length : Int))))]) ?_ ?_
    · refine QRun_b [.int .i64 i1, .slice aa_ a_.length ca_, .int .i64 (a_.length : Int), .bool (decide (i1 < (a_.length : Int)))] 0 _ (by kernel_rfl) (fun w => by kernel_rfl) ?_
      exact QRun_done [0, 1, 5, 9] (by kernel_rfl) (by kernel_rfl)
    refine Run_cond (b := decide (i1 < (a_.length : Int))) (by kernel_rfl) (fun hb1 => ?_) (fun hb1 => ?_)
    · obtain ⟨my1, y1, rfl, hB1, hgoy1, houty1⟩ := M.for_go gx1 hb1
      have hlty1 := of_decide_eq_true hb1
      refine Run_skip ?_
      refine Run_seq ?_
      refine Run_block ?_
      refine Run_seq ?_
      refine Run_ops ?_
      obtain ⟨x2, hx1, hB1⟩ := M.bind_some hB1
      obtain ⟨hx1l, hx1u, hx1⟩ := M.idx_some hx1
      refine Run_b [.slice aa_ a_.length ca_, .int .i64 i1, .int .i64 s1.2] 0 _ (by kernel_rfl) (fun w => by kernel_rfl) ?_
      refine Run_y (.pointer (some (adr aa_ (i1.toNat * 1)))) (by kernel_rfl) (Y_idx (t := 23) (e := 2) (sz := 1) (a := aa_) (n := a_.length) (cap := ca_) (kk := .i64) (i := i1) (by kernel_rfl) Try.underlying23 (by kernel_rfl) ((H1.rd 0 rfl).cell hx1).1 hx1l (by rw [← (H1.len 0 rfl)]; exact hx1u)) ?_
      obtain ⟨l1, hu1, hB1⟩ := M.bind_some hB1
      have hu1 := M.upd_some hu1
      refine Run_E (by kernel_rfl) ?_
      refine E_put (C := cd2) (t := 2) (sz := 1) (j := i1) (x := s1.2) (v := .int .i64 s1.2) H1 cd2_flat (by kernel_rfl) rfl (cd2_own _) (by kernel_rfl) hu1 (fun h3 H3 => ?_)
      refine Run_nil (by kernel_rfl) ?_
      refine Run_keep [0, 1, 5] (L' := [(0, .slice aa_ a_.length ca_), (1, .int .i64 s1.2), (5, .int .i64 i1)]) (by kernel_rfl) ?_
      refine Run_reg 3 (by kernel_rfl) (L' := [(0, .slice aa_ a_.length ca_), (1, .int .i64 (w64 (s1.2 + 1))), (5, .int .i64 i1)]) ?_ ?_
      · refine QRun_b [.int .i64 s1.2, .int .i64 (w64 (s1.2 + 1)), .int .i64 (w64 (s1.2 + 1))] 0 _ (by kernel_rfl) (fun w => by kernel_rfl) ?_
        exact QRun_done [0, 1, 5] (by kernel_rfl) (by kernel_rfl)
      refine Run_blk ?_
      refine Run_reg 3 (by kernel_rfl) (L' := [(0, .slice aa_ a_.length ca_), (1, .int .i64 (w64 (s1.2 + 1))), (5, .int .i64 (i1 + 1))]) ?_ ?_
      · refine QRun_b [.int .i64 i1] 0 _ (by kernel_rfl) (fun w => by kernel_rfl) ?_
        refine QRun_y (.int .i64 (i1 + 1)) (by kernel_rfl) (Y_eq (v := .int .i64 (w64 (i1 + 1))) (Y_pure (fun w => by kernel_rfl)) (by rw [w64_eq _ (by omega)])) ?_
        refine QRun_b [.int .i64 (i1 + 1)] 2 _ (by kernel_rfl) (fun w => by kernel_rfl) ?_
        exact QRun_done [0, 1, 5] (by kernel_rfl) (by kernel_rfl)
      have hB1 := M.ret_some hB1
      have gx1 := hgoy1 _ hB1.symm
      exact Run_again [0, 1, 5] (by kernel_rfl) my1 (Nat.lt_succ_self _) ⟨i1 + 1, (l1, (w64 (s1.2 + 1))), by omega, gx1, rfl, H3⟩
    · have gx1 := M.for_end gx1 hb1
      subst gx1
      refine Run_exit (k' := _) rfl ?_
      exact Run_fall [1] (by kernel_rfl) ⟨rfl, H1⟩

set_option maxRecDepth 100000 in
set_option maxHeartbeats 4000000 in
theorem w_laws_markInt64SS (h hE : Heap) (it : Item) (a_ : List (List Int)) (aa_ : Option Addr) (ca_ : Nat) (k_ : Int) (HM : Hold h hE [own cd23 aa_ a_.length ca_ a_, it]) (n : Nat) (r : Int × (List (List Int))) (hF : laws_markInt64SS a_ k_ n = some r) :
    Fn Try.prog 22 #[.slice aa_ a_.length ca_, .int .i64 k_] hE fun v h' => v = .int .i64 r.1 ∧ Hold h h' [own cd23 aa_ a_.length ca_ r.2, it] := by
  unfold laws_markInt64SS at hF
  refine Fn_enter (args := [.slice aa_ a_.length ca_, .int .i64 k_]) Try.func22 rfl (by kernel_rfl) (by kernel_rfl) (fun w0 _ => ?_)
  refine Run_seq ?_
  refine Run_reg 1 (by kernel_rfl) (L' := [(0, .slice aa_ a_.length ca_), (1, .int .i64 k_)]) ?_ ?_
  · refine QRun_b [.int .i64 0] 0 _ (by kernel_rfl) (fun w => by kernel_rfl) ?_
    exact QRun_done [0, 1] (by kernel_rfl) (by kernel_rfl)
  refine Run_seq ?_
  refine Run_seq ?_
  refine Run_reg 1 (by kernel_rfl) (L' := [(0, .slice aa_ a_.length ca_), (1, .int .i64 k_), (5, .int .i64 0)]) ?_ ?_
  · refine QRun_b [.int .i64 0] 0 _ (by kernel_rfl) (fun w => by kernel_rfl) ?_
    exact QRun_done [0, 1, 5] (by kernel_rfl) (by kernel_rfl)
  obtain ⟨x1, gx1, hF⟩ := M.bind_some hF
  obtain ⟨hloy1, hhiy1, gx1⟩ := M.for_start gx1
  refine Run_join (fun L' h' => L' = [(1, .int .i64 x1.2)] ∧ Hold h h' [own cd23 aa_ a_.length ca_ x1.1, it]) ?_ ?_
  · rintro _ h2 ⟨rfl, H2⟩
    refine Run_seq ?_
    refine Run_reg 2 (by kernel_rfl) (L' := [(4, .int .i64 x1.2)]) ?_ ?_
    · refine QRun_b [.int .i64 x1.2, .int .i64 x1.2] 0 _ (by kernel_rfl) (fun w => by kernel_rfl) ?_
      exact QRun_done [4] (by kernel_rfl) (by kernel_rfl)
    have hF := M.ret_some hF
    subst hF
    exact Run_ret1 rfl (ResV_tmp (v := .int .i64 x1.2) (by kernel_rfl)) ⟨rfl, H2⟩
  · refine Run_block ?_
    refine Run_keep [0, 1, 5] (L' := [(0, .slice aa_ a_.length ca_), (1, .int .i64 k_), (5, .int .i64 0)]) (by kernel_rfl) ?_
    refine Run_loop (fun m L' h' => ∃ (i1 : Int) (s1 : (List (List Int)) × Int), 0 ≤ i1 ∧ M.forN (a_.length : Int) _ _ n m i1 s1 = some x1 ∧ L' = [(0, .slice aa_ a_.length ca_), (1, .int .i64 s1.2), (5, .int .i64 i1)] ∧ Hold h h' [own cd23 aa_ a_.length ca_ s1.1, it]) ((a_.length : Int) - 0).toNat ⟨0, (a_, k_), Int.le_refl _, gx1, rfl, HM⟩ ?_
    rintro my1 _ h1 ⟨i1, s1, hloy1', gx1, rfl, H1⟩
    refine Run_seq ?_
    refine Run_seq ?_
    refine Run_reg 4 (by kernel_rfl) (L' := [(0, .slice aa_ a_.length ca_), (1, .int .i64 s1.2), (5, .int .i64 i1), (9, .bool (decide (i1 < (a_.length : Int))))]) ?_ ?_
    · refine QRun_b [.int .i64 i1, .slice aa_ a_.length ca_, .int .i64 (a_.length : Int), .bool (decide (i1 < (a_.length : Int)))] 0 _ (by kernel_rfl) (fun w => by kernel_rfl) ?_
      exact QRun_done [0, 1, 5, 9] (by kernel_rfl) (by kernel_rfl)
    refine Run_cond (b := decide (i1 < (a_.length : Int))) (by kernel_rfl) (fun hb1 => ?_) (fun hb1 => ?_)
    · obtain ⟨my1, y1, rfl, hB1, hgoy1, houty1⟩ := M.for_go gx1 hb1
      have hlty1 := of_decide_eq_true hb1
      refine Run_skip ?_
      refine Run_seq ?_
      refine Run_block ?_
      refine Run_ops ?_
      obtain ⟨x2, hx1, hB1⟩ := M.bind_some hB1
      obtain ⟨hx1l, hx1u, hx1⟩ := M.idx_some hx1
      have H3 := H1.toRows
      obtain ⟨a1, c1, H4⟩ := H3.pinRow hx1
      refine Run_b [.slice aa_ a_.length ca_, .int .i64 i1] 0 _ (by kernel_rfl) (fun w => by kernel_rfl) ?_
      refine Run_y (.pointer (some (adr aa_ (i1.toNat * 1)))) (by kernel_rfl) (Y_idx (t := 22) (e := 23) (sz := 1) (a := aa_) (n := a_.length) (cap := ca_) (kk := .i64) (i := i1) (by kernel_rfl) Try.underlying22 (by kernel_rfl) ((H1.rd 0 rfl).cell hx1).1 hx1l (by rw [← (H1.len 0 rfl)]; exact hx1u)) ?_
      refine Run_y (.slice a1 x2.length c1) (by kernel_rfl) (Y_load1 (t := 23) (p := adr aa_ (i1.toNat * 1)) (v := .slice a1 x2.length c1) (by kernel_rfl) (fun w => by kernel_rfl) (H4.cellPin 0 rfl 0 rfl)) ?_
      refine Run_b [.int .i64 s1.2] 4 _ (by kernel_rfl) (fun w => by kernel_rfl) ?_
      obtain ⟨x3, hx2, hB1⟩ := M.bind_some hB1
      have hc1 := H4.cellPin 0 rfl 0 rfl
      have hr1 := H4.getPin 0 rfl 0 rfl
      have H6 := H4.ofRows
      obtain ⟨a2, c2, hc2, H5⟩ := H6.takeRow hr1
      have ha1 := hc2.symm.trans hc1
      simp only [Option.some.injEq, Value.slice.injEq, true_and] at ha1
      obtain ⟨rfl, rfl⟩ := ha1
      have H7 : Hold h h1 [own cd2 a2 x2.length c2 x2, bun [rest cd2 23 aa_ a_.length ca_ s1.1 i1.toNat a2 x2.length c2, it]] := Hold.bundle (S := [own cd2 a2 x2.length c2 x2]) (R := [rest cd2 23 aa_ a_.length ca_ s1.1 i1.toNat a2 x2.length c2, it]) H5
      refine Run_E (by kernel_rfl) ?_
      refine E_call (f := 23) (args := #[.slice a2 x2.length c2, .int .i64 s1.2]) (w_laws_markInt64S h h1 _ x2 a2 c2 s1.2 H7 _ _ hx2) (by kernel_rfl) (fun v1 h3 hp1 => ?_)
      obtain ⟨rfl, H8⟩ := hp1
      have H9 : Hold h h3 [own cd2 a2 x2.length c2 x3.2, rest cd2 23 aa_ a_.length ca_ s1.1 i1.toNat a2 x2.length c2, it] := Hold.unbundle (S := [own cd2 a2 x2.length c2 x3.2]) (R := [rest cd2 23 aa_ a_.length ca_ s1.1 i1.toNat a2 x2.length c2, it]) H8 (Hold.tailBase (S := [own cd2 a2 x2.length c2 x2]) (R := [rest cd2 23 aa_ a_.length ca_ s1.1 i1.toNat a2 x2.length c2, it]) H5)
      have H10 : Hold h h3 [own cd23 aa_ a_.length ca_ (s1.1.set i1.toNat x3.2), it] := Hold.putRow H9
      refine Run_b [.int .i64 x3.1] 6 _ (by kernel_rfl) (fun w => by kernel_rfl) ?_
      refine Run_nil (by kernel_rfl) ?_
      refine Run_keep [0, 1, 5] (L' := [(0, .slice aa_ a_.length ca_), (1, .int .i64 x3.1), (5, .int .i64 i1)]) (by kernel_rfl) ?_
      refine Run_blk ?_
      refine Run_reg 3 (by kernel_rfl) (L' := [(0, .slice aa_ a_.length ca_), (1, .int .i64 x3.1), (5, .int .i64 (i1 + 1))]) ?_ ?_
      · refine QRun_b [.int .i64 i1] 0 _ (by kernel_rfl) (fun w => by kernel_rfl) ?_
        refine QRun_y (.int .i64 (i1 + 1)) (by kernel_rfl) (Y_eq (v := .int .i64 (w64 (i1 + 1))) (Y_pure (fun w => by kernel_rfl)) (by rw [w64_eq _ (by omega)])) ?_
        refine QRun_b [.int .i64 (i1 + 1)] 2 _ (by kernel_rfl) (fun w => by kernel_rfl) ?_
        exact QRun_done [0, 1, 5] (by kernel_rfl) (by kernel_rfl)
      have hB1 := M.ret_some hB1
      have gx1 := hgoy1 _ hB1.symm
      exact Run_again [0, 1, 5] (by kernel_rfl) my1 (Nat.lt_succ_self _) ⟨i1 + 1, ((s1.1.set i1.toNat x3.2), x3.1), by omega, gx1, rfl, H10⟩
    · have gx1 := M.for_end gx1 hb1
      subst gx1
      refine Run_exit (k' := _) rfl ?_
      exact Run_fall [1] (by kernel_rfl) ⟨rfl, H1⟩

set_option maxRecDepth 100000 in
set_option maxHeartbeats 4000000 in
theorem w_laws_FnExactLeastCover (h : Heap) (aA : List (List Int)) (aaA : Option Addr) (caA : Nat) (raA : Rd cd23 h (Lt h) aaA caA aA) (aB : List Int) (aaB : Option Addr) (caB : Nat) (raB : Rd cd2 h (Lt h) aaB caB aB) (n : Nat) (r : Bool) (hF : laws_FnExactLeastCover aA aB n = some r) :
    Fn Try.prog 10 #[.slice aaA aA.length caA, .slice aaB aB.length caB] h fun v h' => v = .bool r ∧ Hold h h' [] := by
  unfold laws_FnExactLeastCover at hF
  refine Fn_enter (args := [.slice aaA aA.length caA, .slice aaB aB.length caB]) Try.func10 rfl (by kernel_rfl) (by kernel_rfl) (fun w0 _ => ?_)
  have H0 := Hold.init h
  refine Run_seq ?_
  refine Run_reg 1 (by kernel_rfl) (L' := [(0, .slice aaA aA.length caA), (1, .slice aaB aB.length caB)]) ?_ ?_
  · refine QRun_b [.bool false] 0 _ (by kernel_rfl) (fun w => by kernel_rfl) ?_
    exact QRun_done [0, 1] (by kernel_rfl) (by kernel_rfl)
  refine Run_seq ?_
  refine Run_seq ?_
  refine Run_reg 3 (by kernel_rfl) (L' := [(0, .slice aaA aA.length caA), (1, .slice aaB aB.length caB), (19, .bool (decide (1048576 < (aB.length : Int))))]) ?_ ?_
  · refine QRun_b [.slice aaB aB.length caB, .int .i64 (aB.length : Int), .bool (decide (1048576 < (aB.length : Int)))] 0 _ (by kernel_rfl) (fun w => by kernel_rfl) ?_
    exact QRun_done [0, 1, 19] (by kernel_rfl) (by kernel_rfl)
  refine Run_cond (b := decide (1048576 < (aB.length : Int))) (by kernel_rfl) (fun hb1 => ?_) (fun hb1 => ?_)
  · have hF := (M.ite_some hF).1 hb1
    refine Run_seq ?_
    refine Run_reg 1 (by kernel_rfl) (L' := [(4, .bool true)]) ?_ ?_
    · refine QRun_b [.bool true] 0 _ (by kernel_rfl) (fun w => by kernel_rfl) ?_
      exact QRun_done [4] (by kernel_rfl) (by kernel_rfl)
    have hF := M.ret_some hF
    subst hF
    exact Run_ret1 rfl (ResV_tmp (v := .bool true) (by kernel_rfl)) ⟨rfl, H0⟩
  · have hF := (M.ite_some hF).2 hb1
    refine Run_skip ?_
    refine Run_seq ?_
    refine Run_reg 1 (by kernel_rfl) (L' := [(0, .slice aaA aA.length caA), (1, .slice aaB aB.length caB), (5, .int .i64 1048576)]) ?_ ?_
    · refine QRun_b [.int .i64 1048576] 0 _ (by kernel_rfl) (fun w => by kernel_rfl) ?_
      exact QRun_done [0, 1, 5] (by kernel_rfl) (by kernel_rfl)
    refine Run_seq ?_
    obtain ⟨x1, hx1, hF⟩ := M.bind_some hF
    refine Run_reg 4 (by kernel_rfl) (L' := [(0, .slice aaA aA.length caA), (1, .slice aaB aB.length caB), (5, .int .i64 x1)]) ?_ ?_
    · refine QRun_b [.slice aaA aA.length caA, .int .i64 1048576] 0 _ (by kernel_rfl) (fun w => by kernel_rfl) ?_
      refine QRun_y (.int .i64 x1) (by kernel_rfl) (Y_callq (f := 15) (args := #[.slice aaA aA.length caA, .int .i64 1048576]) (v := .int .i64 x1) (by kernel_rfl) (w_laws_szInt64SS h aA aaA caA raA 1048576 _ _ hx1)) ?_
      refine QRun_b [.int .i64 x1] 3 _ (by kernel_rfl) (fun w => by kernel_rfl) ?_
      exact QRun_done [0, 1, 5] (by kernel_rfl) (by kernel_rfl)
    refine Run_seq ?_
    refine Run_seq ?_
    refine Run_reg 2 (by kernel_rfl) (L' := [(0, .slice aaA aA.length caA), (1, .slice aaB aB.length caB), (24, .bool (decide (x1 < 0)))]) ?_ ?_
    · refine QRun_b [.int .i64 x1, .bool (decide (x1 < 0))] 0 _ (by kernel_rfl) (fun w => by kernel_rfl) ?_
      exact QRun_done [0, 1, 24] (by kernel_rfl) (by kernel_rfl)
    refine Run_cond (b := decide (x1 < 0)) (by kernel_rfl) (fun hb2 => ?_) (fun hb2 => ?_)
    · have hF := (M.ite_some hF).1 hb2
      refine Run_seq ?_
      refine Run_reg 1 (by kernel_rfl) (L' := [(4, .bool true)]) ?_ ?_
      · refine QRun_b [.bool true] 0 _ (by kernel_rfl) (fun w => by kernel_rfl) ?_
        exact QRun_done [4] (by kernel_rfl) (by kernel_rfl)
      have hF := M.ret_some hF
      subst hF
      exact Run_ret1 rfl (ResV_tmp (v := .bool true) (by kernel_rfl)) ⟨rfl, H0⟩
    · have hF := (M.ite_some hF).2 hb2
      refine Run_skip ?_
      refine Run_seq ?_
      refine Run_ops ?_
      refine Run_b [.slice aaA aA.length caA] 0 _ (by kernel_rfl) (fun w => by kernel_rfl) ?_
      obtain ⟨x2, hx2, hF⟩ := M.bind_some hF
      refine Run_E (by kernel_rfl) ?_
      refine E_call (f := 17) (args := #[.slice aaA aA.length caA]) (w_laws_toInt64SS h aA aaA caA raA _ _ hx2) (by kernel_rfl) (fun v1 h1 hp1 => ?_)
      obtain ⟨a1, c1, rfl, H1⟩ := hp1
      have H2 : Hold h h1 [own cd23 a1 x2.length c1 x2] := H0.call H1 rfl
      refine Run_b [.slice aaB aB.length caB] 2 _ (by kernel_rfl) (fun w => by kernel_rfl) ?_
      obtain ⟨x3, hx3, hF⟩ := M.bind_some hF
      refine Run_E (by kernel_rfl) ?_
      refine E_call (f := 18) (args := #[.slice aaB aB.length caB]) (w_laws_toInt64S h1 aB aaB caB (raB.at H2.ext) _ _ hx3) (by kernel_rfl) (fun v2 h2 hp2 => ?_)
      obtain ⟨a2, c2, rfl, H3⟩ := hp2
      have H4 : Hold h h2 [own cd2 a2 x3.length c2 x3, own cd23 a1 x2.length c1 x2] := H2.call H3 rfl
      obtain ⟨x4, hx4, hF⟩ := M.bind_some hF
      refine Run_E (by kernel_rfl) ?_
      refine E_call (f := 38) (args := #[.slice a1 x2.length c1, .slice a2 x3.length c2]) (w_spec_LeastCover h2 x2 a1 c1 (H4.rd 1 rfl) x3 a2 c2 (H4.rd 0 rfl) _ _ hx4) (by kernel_rfl) (fun v3 h3 hp3 => ?_)
      obtain ⟨a3, c3, rfl, H5⟩ := hp3
      have H6 : Hold h h3 [own cd2 a3 x4.1.length c3 x4.1, own cd2 a2 x3.length c2 x3, own cd23 a1 x2.length c1 x2] := H4.call H5 rfl
      refine Run_b [.tuple #[.slice a3 x4.1.length c3, .int .i64 x4.2], .slice a3 x4.1.length c3, .int .i64 x4.2, .slice a3 x4.1.length c3, .int .i64 x4.2] 5 _ (by kernel_rfl) (fun w => by kernel_rfl) ?_
      refine Run_nil (by kernel_rfl) ?_
      refine Run_keep [0, 1, 6, 7] (L' := [(0, .slice aaA aA.length caA), (1, .slice aaB aB.length caB), (6, .slice a3 x4.1.length c3), (7, .int .i64 x4.2)]) (by kernel_rfl) ?_
      refine Run_seq ?_
      refine Run_ops ?_
      refine Run_b [.slice aaA aA.length caA] 0 _ (by kernel_rfl) (fun w => by kernel_rfl) ?_
      obtain ⟨x5, hx5, hF⟩ := M.bind_some hF
      refine Run_E (by kernel_rfl) ?_
      refine E_call (f := 17) (args := #[.slice aaA aA.length caA]) (w_laws_toInt64SS h3 aA aaA caA (raA.at H6.ext) _ _ hx5) (by kernel_rfl) (fun v4 h4 hp4 => ?_)
      obtain ⟨a4, c4, rfl, H7⟩ := hp4
      have H8 : Hold h h4 [own cd23 a4 x5.length c4 x5, own cd2 a3 x4.1.length c3 x4.1, own cd2 a2 x3.length c2 x3, own cd23 a1 x2.length c1 x2] := H6.call H7 rfl
      refine Run_b [.slice a4 x5.length c4] 2 _ (by kernel_rfl) (fun w => by kernel_rfl) ?_
      refine Run_nil (by kernel_rfl) ?_
      refine Run_keep [0, 1, 6, 7, 8] (L' := [(0, .slice aaA aA.length caA), (1, .slice aaB aB.length caB), (6, .slice a3 x4.1.length c3), (7, .int .i64 x4.2), (8, .slice a4 x5.length c4)]) (by kernel_rfl) ?_
      refine Run_seq ?_
      refine Run_ops ?_
      refine Run_b [.slice aaB aB.length caB] 0 _ (by kernel_rfl) (fun w => by kernel_rfl) ?_
      obtain ⟨x6, hx6, hF⟩ := M.bind_some hF
      refine Run_E (by kernel_rfl) ?_
      refine E_call (f := 18) (args := #[.slice aaB aB.length caB]) (w_laws_toInt64S h4 aB aaB caB (raB.at H8.ext) _ _ hx6) (by kernel_rfl) (fun v5 h5 hp5 => ?_)
      obtain ⟨a5, c5, rfl, H9⟩ := hp5
      have H10 : Hold h h5 [own cd2 a5 x6.length c5 x6, own cd23 a4 x5.length c4 x5, own cd2 a3 x4.1.length c3 x4.1, own cd2 a2 x3.length c2 x3, own cd23 a1 x2.length c1 x2] := H8.call H9 rfl
      refine Run_b [.slice a5 x6.length c5] 2 _ (by kernel_rfl) (fun w => by kernel_rfl) ?_
      refine Run_nil (by kernel_rfl) ?_
      refine Run_keep [0, 1, 6, 7, 8, 9] (L' := [(0, .slice aaA aA.length caA), (1, .slice aaB aB.length caB), (6, .slice a3 x4.1.length c3), (7, .int .i64 x4.2), (8, .slice a4 x5.length c4), (9, .slice a5 x6.length c5)]) (by kernel_rfl) ?_
      refine Run_seq ?_
      refine Run_ops ?_
      refine Run_b [.slice a4 x5.length c4, .slice a5 x6.length c5] 0 _ (by kernel_rfl) (fun w => by kernel_rfl) ?_
      obtain ⟨x7, hx7, hF⟩ := M.bind_some hF
      refine Run_E (by kernel_rfl) ?_
      refine E_call (f := 39) (args := #[.slice a4 x5.length c4, .slice a5 x6.length c5]) (w_impl_LeastCover h5 x5 a4 c4 (H10.rd 1 rfl) x6 a5 c5 (H10.rd 0 rfl) _ _ hx7) (by kernel_rfl) (fun v6 h6 hp6 => ?_)
      obtain ⟨a6, c6, rfl, H11⟩ := hp6
      have H12 : Hold h h6 [own cd2 a6 x7.1.length c6 x7.1, own cd2 a5 x6.length c5 x6, own cd23 a4 x5.length c4 x5, own cd2 a3 x4.1.length c3 x4.1, own cd2 a2 x3.length c2 x3, own cd23 a1 x2.length c1 x2] := H10.call H11 rfl
      refine Run_b [.tuple #[.slice a6 x7.1.length c6, .int .i64 x7.2], .slice a6 x7.1.length c6, .int .i64 x7.2, .slice a6 x7.1.length c6, .int .i64 x7.2] 3 _ (by kernel_rfl) (fun w => by kernel_rfl) ?_
      refine Run_nil (by kernel_rfl) ?_
      refine Run_keep [0, 1, 6, 7, 8, 9, 10, 11] (L' := [(0, .slice aaA aA.length caA), (1, .slice aaB aB.length caB), (6, .slice a3 x4.1.length c3), (7, .int .i64 x4.2), (8, .slice a4 x5.length c4), (9, .slice a5 x6.length c5), (10, .slice a6 x7.1.length c6), (11, .int .i64 x7.2)]) (by kernel_rfl) ?_
      refine Run_seq ?_
      refine Run_seq ?_
      obtain ⟨x8, hx8, hF⟩ := M.bind_some hF
      refine Run_reg 9 (by kernel_rfl) (L' := [(0, .slice aaA aA.length caA), (1, .slice aaB aB.length caB), (6, .slice a3 x4.1.length c3), (7, .int .i64 x4.2), (8, .slice a4 x5.length c4), (9, .slice a5 x6.length c5), (10, .slice a6 x7.1.length c6), (11, .int .i64 x7.2), (51, .bool ((!x8) || (x7.2 != x4.2)))]) ?_ ?_
      · refine QRun_b [.slice a6 x7.1.length c6, .slice a3 x4.1.length c3] 0 _ (by kernel_rfl) (fun w => by kernel_rfl) ?_
        refine QRun_y (.bool x8) (by kernel_rfl) (Y_callq (f := 20) (args := #[.slice a6 x7.1.length c6, .slice a3 x4.1.length c3]) (v := .bool x8) (by kernel_rfl) (w_laws_eqInt64S h6 x7.1 a6 c6 (H12.rd 0 rfl) x4.1 a3 c3 (H12.rd 3 rfl) _ _ hx8)) ?_
        refine QRun_b [.bool (!x8)] 3 _ (by kernel_rfl) (fun w => by kernel_rfl) ?_
        refine QRun_seq 9 [(0, .slice aaA aA.length caA), (1, .slice aaB aB.length caB), (6, .slice a3 x4.1.length c3), (7, .int .i64 x4.2), (8, .slice a4 x5.length c4), (9, .slice a5 x6.length c5), (10, .slice a6 x7.1.length c6), (11, .int .i64 x7.2), (51, .bool ((!x8) || (x7.2 != x4.2)))] ?_ ?_
        · rcases Bool.eq_false_or_eq_true (!x8) with hb3 | hb3
          · refine QRun_bool (!x8) true (by kernel_rfl) (fun w => by kernel_rfl) hb3 ?_
            refine QRun_n (by kernel_rfl) ?_
            refine QRun_n (by kernel_rfl) ?_
            refine QRun_n (by kernel_rfl) ?_
            refine QRun_bool true ((!x8) || (x7.2 != x4.2)) (by kernel_rfl) (fun w => by kernel_rfl) (by rw [hb3]; rfl) ?_
            exact QRun_done [0, 1, 6, 7, 8, 9, 10, 11, 51] (by kernel_rfl) (by kernel_rfl)
          · refine QRun_bool (!x8) false (by kernel_rfl) (fun w => by kernel_rfl) hb3 ?_
            refine QRun_b [.int .i64 x7.2, .int .i64 x4.2, .bool (x7.2 != x4.2)] 5 _ (by kernel_rfl) (fun w => by kernel_rfl) ?_
            refine QRun_bool (x7.2 != x4.2) ((!x8) || (x7.2 != x4.2)) (by kernel_rfl) (fun w => by kernel_rfl) (by rw [hb3]; rfl) ?_
            exact QRun_done [0, 1, 6, 7, 8, 9, 10, 11, 51] (by kernel_rfl) (by kernel_rfl)
        exact QRun_done [0, 1, 6, 7, 8, 9, 10, 11, 51] (by kernel_rfl) (by kernel_rfl)
      refine Run_cond (b := (!x8) || (x7.2 != x4.2)) (by kernel_rfl) (fun hb4 => ?_) (fun hb4 => ?_)
      · have hF := (M.ite_some hF).1 hb4
        refine Run_seq ?_
        refine Run_reg 1 (by kernel_rfl) (L' := [(4, .bool false)]) ?_ ?_
        · refine QRun_b [.bool false] 0 _ (by kernel_rfl) (fun w => by kernel_rfl) ?_
          exact QRun_done [4] (by kernel_rfl) (by kernel_rfl)
        have hF := M.ret_some hF
        subst hF
        have H13 : Hold h h6 [] := H12.pick [] (by kernel_rfl)
        exact Run_ret1 rfl (ResV_tmp (v := .bool false) (by kernel_rfl)) ⟨rfl, H13⟩
      · have hF := (M.ite_some hF).2 hb4
        refine Run_skip ?_
        refine Run_seq ?_
        refine Run_seq ?_
        refine Run_ops ?_
        refine Run_b [.slice a4 x5.length c4, .slice aaA aA.length caA] 0 _ (by kernel_rfl) (fun w => by kernel_rfl) ?_
        obtain ⟨x10, hx9, hF⟩ := M.bind_some hF
        refine Run_E (by kernel_rfl) ?_
        refine E_call (f := 17) (args := #[.slice aaA aA.length caA]) (w_laws_toInt64SS h6 aA aaA caA (raA.at H12.ext) _ _ hx9) (by kernel_rfl) (fun v7 h7 hp7 => ?_)
        obtain ⟨a7, c7, rfl, H14⟩ := hp7
        have H15 : Hold h h7 [own cd23 a7 x10.length c7 x10, own cd2 a6 x7.1.length c6 x7.1, own cd2 a5 x6.length c5 x6, own cd23 a4 x5.length c4 x5, own cd2 a3 x4.1.length c3 x4.1, own cd2 a2 x3.length c2 x3, own cd23 a1 x2.length c1 x2] := H12.call H14 rfl
        obtain ⟨x11, hx10, hF⟩ := M.bind_some hF
        refine Run_y (.bool x11) (by kernel_rfl) (Y_callq (f := 21) (args := #[.slice a4 x5.length c4, .slice a7 x10.length c7]) (v := .bool x11) (by kernel_rfl) (w_laws_eqInt64SS h7 x5 a4 c4 (H15.rd 3 rfl) x10 a7 c7 (H15.rd 0 rfl) _ _ hx10)) ?_
        refine Run_b [.bool (!x11)] 4 _ (by kernel_rfl) (fun w => by kernel_rfl) ?_
        refine Run_nil (by kernel_rfl) ?_
        refine Run_keep [0, 1, 6, 7, 8, 9, 10, 11, 56] (L' := [(0, .slice aaA aA.length caA), (1, .slice aaB aB.length caB), (6, .slice a3 x4.1.length c3), (7, .int .i64 x4.2), (8, .slice a4 x5.length c4), (9, .slice a5 x6.length c5), (10, .slice a6 x7.1.length c6), (11, .int .i64 x7.2), (56, .bool (!x11))]) (by kernel_rfl) ?_
        refine Run_cond (b := !x11) (by kernel_rfl) (fun hb5 => ?_) (fun hb5 => ?_)
        · have hF := (M.ite_some hF).1 hb5
          refine Run_seq ?_
          refine Run_reg 1 (by kernel_rfl) (L' := [(4, .bool false)]) ?_ ?_
          · refine QRun_b [.bool false] 0 _ (by kernel_rfl) (fun w => by kernel_rfl) ?_
            exact QRun_done [4] (by kernel_rfl) (by kernel_rfl)
          have hF := M.ret_some hF
          subst hF
          have H16 : Hold h h7 [] := H15.pick [] (by kernel_rfl)
          exact Run_ret1 rfl (ResV_tmp (v := .bool false) (by kernel_rfl)) ⟨rfl, H16⟩
        · have hF := (M.ite_some hF).2 hb5
          refine Run_skip ?_
          refine Run_seq ?_
          refine Run_seq ?_
          refine Run_ops ?_
          refine Run_b [.slice a5 x6.length c5, .slice aaB aB.length caB] 0 _ (by kernel_rfl) (fun w => by kernel_rfl) ?_
          obtain ⟨x12, hx11, hF⟩ := M.bind_some hF
          refine Run_E (by kernel_rfl) ?_
          refine E_call (f := 18) (args := #[.slice aaB aB.length caB]) (w_laws_toInt64S h7 aB aaB caB (raB.at H15.ext) _ _ hx11) (by kernel_rfl) (fun v8 h8 hp8 => ?_)
          obtain ⟨a8, c8, rfl, H17⟩ := hp8
          have H18 : Hold h h8 [own cd2 a8 x12.length c8 x12, own cd23 a7 x10.length c7 x10, own cd2 a6 x7.1.length c6 x7.1, own cd2 a5 x6.length c5 x6, own cd23 a4 x5.length c4 x5, own cd2 a3 x4.1.length c3 x4.1, own cd2 a2 x3.length c2 x3, own cd23 a1 x2.length c1 x2] := H15.call H17 rfl
          obtain ⟨x13, hx12, hF⟩ := M.bind_some hF
          refine Run_y (.bool x13) (by kernel_rfl) (Y_callq (f := 20) (args := #[.slice a5 x6.length c5, .slice a8 x12.length c8]) (v := .bool x13) (by kernel_rfl) (w_laws_eqInt64S h8 x6 a5 c5 (H18.rd 3 rfl) x12 a8 c8 (H18.rd 0 rfl) _ _ hx12)) ?_
          refine Run_b [.bool (!x13)] 4 _ (by kernel_rfl) (fun w => by kernel_rfl) ?_
          refine Run_nil (by kernel_rfl) ?_
          refine Run_keep [0, 1, 6, 7, 8, 9, 10, 11, 61] (L' := [(0, .slice aaA aA.length caA), (1, .slice aaB aB.length caB), (6, .slice a3 x4.1.length c3), (7, .int .i64 x4.2), (8, .slice a4 x5.length c4), (9, .slice a5 x6.length c5), (10, .slice a6 x7.1.length c6), (11, .int .i64 x7.2), (61, .bool (!x13))]) (by kernel_rfl) ?_
          refine Run_cond (b := !x13) (by kernel_rfl) (fun hb6 => ?_) (fun hb6 => ?_)
          · have hF := (M.ite_some hF).1 hb6
            refine Run_seq ?_
            refine Run_reg 1 (by kernel_rfl) (L' := [(4, .bool false)]) ?_ ?_
            · refine QRun_b [.bool false] 0 _ (by kernel_rfl) (fun w => by kernel_rfl) ?_
              exact QRun_done [4] (by kernel_rfl) (by kernel_rfl)
            have hF := M.ret_some hF
            subst hF
            have H19 : Hold h h8 [] := H18.pick [] (by kernel_rfl)
            exact Run_ret1 rfl (ResV_tmp (v := .bool false) (by kernel_rfl)) ⟨rfl, H19⟩
          · have hF := (M.ite_some hF).2 hb6
            refine Run_skip ?_
            refine Run_seq ?_
            refine Run_reg 1 (by kernel_rfl) (L' := [(0, .slice aaA aA.length caA), (1, .slice aaB aB.length caB), (6, .slice a3 x4.1.length c3), (7, .int .i64 x4.2), (8, .slice a4 x5.length c4), (9, .slice a5 x6.length c5), (10, .slice a6 x7.1.length c6), (11, .int .i64 x7.2), (12, .int .i64 1)]) ?_ ?_
            · refine QRun_b [.int .i64 1] 0 _ (by kernel_rfl) (fun w => by kernel_rfl) ?_
              exact QRun_done [0, 1, 6, 7, 8, 9, 10, 11, 12] (by kernel_rfl) (by kernel_rfl)
            refine Run_seq ?_
            refine Run_ops ?_
            refine Run_b [.slice a4 x5.length c4, .int .i64 1] 0 _ (by kernel_rfl) (fun w => by kernel_rfl) ?_
            obtain ⟨x14, hx13, hF⟩ := M.bind_some hF
            have H20 : Hold h h8 [own cd23 a4 x5.length c4 x5, own cd2 a8 x12.length c8 x12, own cd23 a7 x10.length c7 x10, own cd2 a6 x7.1.length c6 x7.1, own cd2 a5 x6.length c5 x6, own cd2 a3 x4.1.length c3 x4.1, own cd2 a2 x3.length c2 x3, own cd23 a1 x2.length c1 x2] := H18.pick [4, 0, 1, 2, 3, 5, 6, 7] (by kernel_rfl)
            have H21 : Hold h h8 [own cd23 a4 x5.length c4 x5, bun [own cd2 a8 x12.length c8 x12, own cd23 a7 x10.length c7 x10, own cd2 a6 x7.1.length c6 x7.1, own cd2 a5 x6.length c5 x6, own cd2 a3 x4.1.length c3 x4.1, own cd2 a2 x3.length c2 x3, own cd23 a1 x2.length c1 x2]] := Hold.bundle (S := [own cd23 a4 x5.length c4 x5]) (R := [own cd2 a8 x12.length c8 x12, own cd23 a7 x10.length c7 x10, own cd2 a6 x7.1.length c6 x7.1, own cd2 a5 x6.length c5 x6, own cd2 a3 x4.1.length c3 x4.1, own cd2 a2 x3.length c2 x3, own cd23 a1 x2.length c1 x2]) H20
            refine Run_E (by kernel_rfl) ?_
            refine E_call (f := 22) (args := #[.slice a4 x5.length c4, .int .i64 1]) (w_laws_markInt64SS h h8 _ x5 a4 c4 1 H21 _ _ hx13) (by kernel_rfl) (fun v9 h9 hp9 => ?_)
            obtain ⟨rfl, H22⟩ := hp9
            have H23 : Hold h h9 [own cd23 a4 x5.length c4 x14.2, own cd2 a8 x12.length c8 x12, own cd23 a7 x10.length c7 x10, own cd2 a6 x7.1.length c6 x7.1, own cd2 a5 x6.length c5 x6, own cd2 a3 x4.1.length c3 x4.1, own cd2 a2 x3.length c2 x3, own cd23 a1 x2.length c1 x2] := Hold.unbundle (S := [own cd23 a4 x5.length c4 x14.2]) (R := [own cd2 a8 x12.length c8 x12, own cd23 a7 x10.length c7 x10, own cd2 a6 x7.1.length c6 x7.1, own cd2 a5 x6.length c5 x6, own cd2 a3 x4.1.length c3 x4.1, own cd2 a2 x3.length c2 x3, own cd23 a1 x2.length c1 x2]) H22 (Hold.tailBase (S := [own cd23 a4 x5.length c4 x5]) (R := [own cd2 a8 x12.length c8 x12, own cd23 a7 x10.length c7 x10, own cd2 a6 x7.1.length c6 x7.1, own cd2 a5 x6.length c5 x6, own cd2 a3 x4.1.length c3 x4.1, own cd2 a2 x3.length c2 x3, own cd23 a1 x2.length c1 x2]) H20)
            refine Run_b [.int .i64 x14.1] 3 _ (by kernel_rfl) (fun w => by kernel_rfl) ?_
            refine Run_nil (by kernel_rfl) ?_
            refine Run_keep [0, 1, 6, 7, 9, 10, 11, 12] (L' := [(0, .slice aaA aA.length caA), (1, .slice aaB aB.length caB), (6, .slice a3 x4.1.length c3), (7, .int .i64 x4.2), (9, .slice a5 x6.length c5), (10, .slice a6 x7.1.length c6), (11, .int .i64 x7.2), (12, .int .i64 x14.1)]) (by kernel_rfl) ?_
            refine Run_seq ?_
            refine Run_ops ?_
            refine Run_b [.slice a5 x6.length c5, .int .i64 x14.1] 0 _ (by kernel_rfl) (fun w => by kernel_rfl) ?_
            obtain ⟨x15, hx14, hF⟩ := M.bind_some hF
            have H24 : Hold h h9 [own cd2 a5 x6.length c5 x6, own cd23 a4 x5.length c4 x14.2, own cd2 a8 x12.length c8 x12, own cd23 a7 x10.length c7 x10, own cd2 a6 x7.1.length c6 x7.1, own cd2 a3 x4.1.length c3 x4.1, own cd2 a2 x3.length c2 x3, own cd23 a1 x2.length c1 x2] := H23.pick [4, 0, 1, 2, 3, 5, 6, 7] (by kernel_rfl)
            have H25 : Hold h h9 [own cd2 a5 x6.length c5 x6, bun [own cd23 a4 x5.length c4 x14.2, own cd2 a8 x12.length c8 x12, own cd23 a7 x10.length c7 x10, own cd2 a6 x7.1.length c6 x7.1, own cd2 a3 x4.1.length c3 x4.1, own cd2 a2 x3.length c2 x3, own cd23 a1 x2.length c1 x2]] := Hold.bundle (S := [own cd2 a5 x6.length c5 x6]) (R := [own cd23 a4 x5.length c4 x14.2, own cd2 a8 x12.length c8 x12, own cd23 a7 x10.length c7 x10, own cd2 a6 x7.1.length c6 x7.1, own cd2 a3 x4.1.length c3 x4.1, own cd2 a2 x3.length c2 x3, own cd23 a1 x2.length c1 x2]) H24
            refine Run_E (by kernel_rfl) ?_
            refine E_call (f := 23) (args := #[.slice a5 x6.length c5, .int .i64 x14.1]) (w_laws_markInt64S h h9 _ x6 a5 c5 x14.1 H25 _ _ hx14) (by kernel_rfl) (fun v10 h10 hp10 => ?_)
            obtain ⟨rfl, H26⟩ := hp10
            have H27 : Hold h h10 [own cd2 a5 x6.length c5 x15.2, own cd23 a4 x5.length c4 x14.2, own cd2 a8 x12.length c8 x12, own cd23 a7 x10.length c7 x10, own cd2 a6 x7.1.length c6 x7.1, own cd2 a3 x4.1.length c3 x4.1, own cd2 a2 x3.length c2 x3, own cd23 a1 x2.length c1 x2] := Hold.unbundle (S := [own cd2 a5 x6.length c5 x15.2]) (R := [own cd23 a4 x5.length c4 x14.2, own cd2 a8 x12.length c8 x12, own cd23 a7 x10.length c7 x10, own cd2 a6 x7.1.length c6 x7.1, own cd2 a3 x4.1.length c3 x4.1, own cd2 a2 x3.length c2 x3, own cd23 a1 x2.length c1 x2]) H26 (Hold.tailBase (S := [own cd2 a5 x6.length c5 x6]) (R := [own cd23 a4 x5.length c4 x14.2, own cd2 a8 x12.length c8 x12, own cd23 a7 x10.length c7 x10, own cd2 a6 x7.1.length c6 x7.1, own cd2 a3 x4.1.length c3 x4.1, own cd2 a2 x3.length c2 x3, own cd23 a1 x2.length c1 x2]) H24)
            refine Run_b [.int .i64 x15.1] 3 _ (by kernel_rfl) (fun w => by kernel_rfl) ?_
            refine Run_nil (by kernel_rfl) ?_
            refine Run_keep [0, 1, 6, 7, 10, 11, 12] (L' := [(0, .slice aaA aA.length caA), (1, .slice aaB aB.length caB), (6, .slice a3 x4.1.length c3), (7, .int .i64 x4.2), (10, .slice a6 x7.1.length c6), (11, .int .i64 x7.2), (12, .int .i64 x15.1)]) (by kernel_rfl) ?_
            refine Run_seq ?_
            refine Run_seq ?_
            obtain ⟨x16, gx16, hF⟩ := M.bind_some hF
            refine Run_reg 13 (by kernel_rfl) (L' := [(0, .slice aaA aA.length caA), (1, .slice aaB aB.length caB), (6, .slice a3 x4.1.length c3), (7, .int .i64 x4.2), (10, .slice a6 x7.1.length c6), (80, .bool (x16 || (x7.2 != x4.2)))]) ?_ ?_
            · refine QRun_b [.int .i64 x15.1, .bool (decide (x15.1 < 0))] 0 _ (by kernel_rfl) (fun w => by kernel_rfl) ?_
              refine QRun_seq 8 [(0, .slice aaA aA.length caA), (1, .slice aaB aB.length caB), (6, .slice a3 x4.1.length c3), (7, .int .i64 x4.2), (10, .slice a6 x7.1.length c6), (11, .int .i64 x7.2), (75, .bool x16)] ?_ ?_
              · rcases Bool.eq_false_or_eq_true (decide (x15.1 < 0)) with hb7 | hb7
                · refine QRun_bool (decide (x15.1 < 0)) true (by kernel_rfl) (fun w => by kernel_rfl) hb7 ?_
                  have gx16 := M.ret_some ((M.ite_some gx16).1 hb7)
                  refine QRun_n (by kernel_rfl) ?_
                  refine QRun_n (by kernel_rfl) ?_
                  refine QRun_n (by kernel_rfl) ?_
                  refine QRun_n (by kernel_rfl) ?_
                  refine QRun_bool true x16 (by kernel_rfl) (fun w => by kernel_rfl) gx16 ?_
                  exact QRun_done [0, 1, 6, 7, 10, 11, 75] (by kernel_rfl) (by kernel_rfl)
                · refine QRun_bool (decide (x15.1 < 0)) false (by kernel_rfl) (fun w => by kernel_rfl) hb7 ?_
                  have gx16 := (M.ite_some gx16).2 hb7
                  obtain ⟨x17, hx15, gx16⟩ := M.bind_some gx16
                  have gx16 := M.ret_some gx16
                  refine QRun_b [.slice a6 x7.1.length c6, .slice a3 x4.1.length c3] 3 _ (by kernel_rfl) (fun w => by kernel_rfl) ?_
                  refine QRun_y (.bool x17) (by kernel_rfl) (Y_callq (f := 20) (args := #[.slice a6 x7.1.length c6, .slice a3 x4.1.length c3]) (v := .bool x17) (by kernel_rfl) (w_laws_eqInt64S h10 x7.1 a6 c6 (H27.rd 4 rfl) x4.1 a3 c3 (H27.rd 5 rfl) _ _ hx15)) ?_
                  refine QRun_b [.bool (!x17)] 6 _ (by kernel_rfl) (fun w => by kernel_rfl) ?_
                  refine QRun_bool (!x17) x16 (by kernel_rfl) (fun w => by kernel_rfl) gx16 ?_
                  exact QRun_done [0, 1, 6, 7, 10, 11, 75] (by kernel_rfl) (by kernel_rfl)
              refine QRun_seq 13 [(0, .slice aaA aA.length caA), (1, .slice aaB aB.length caB), (6, .slice a3 x4.1.length c3), (7, .int .i64 x4.2), (10, .slice a6 x7.1.length c6), (80, .bool (x16 || (x7.2 != x4.2)))] ?_ ?_
              · rcases Bool.eq_false_or_eq_true x16 with hb8 | hb8
                · refine QRun_bool x16 true (by kernel_rfl) (fun w => by kernel_rfl) hb8 ?_
                  refine QRun_n (by kernel_rfl) ?_
                  refine QRun_n (by kernel_rfl) ?_
                  refine QRun_n (by kernel_rfl) ?_
                  refine QRun_bool true (x16 || (x7.2 != x4.2)) (by kernel_rfl) (fun w => by kernel_rfl) (by rw [hb8]; rfl) ?_
                  exact QRun_done [0, 1, 6, 7, 10, 80] (by kernel_rfl) (by kernel_rfl)
                · refine QRun_bool x16 false (by kernel_rfl) (fun w => by kernel_rfl) hb8 ?_
                  refine QRun_b [.int .i64 x7.2, .int .i64 x4.2, .bool (x7.2 != x4.2)] 9 _ (by kernel_rfl) (fun w => by kernel_rfl) ?_
                  refine QRun_bool (x7.2 != x4.2) (x16 || (x7.2 != x4.2)) (by kernel_rfl) (fun w => by kernel_rfl) (by rw [hb8]; rfl) ?_
                  exact QRun_done [0, 1, 6, 7, 10, 80] (by kernel_rfl) (by kernel_rfl)
              exact QRun_done [0, 1, 6, 7, 10, 80] (by kernel_rfl) (by kernel_rfl)
            refine Run_cond (b := x16 || (x7.2 != x4.2)) (by kernel_rfl) (fun hb9 => ?_) (fun hb9 => ?_)
            · have hF := (M.ite_some hF).1 hb9
              refine Run_seq ?_
              refine Run_reg 1 (by kernel_rfl) (L' := [(4, .bool false)]) ?_ ?_
              · refine QRun_b [.bool false] 0 _ (by kernel_rfl) (fun w => by kernel_rfl) ?_
                exact QRun_done [4] (by kernel_rfl) (by kernel_rfl)
              have hF := M.ret_some hF
              subst hF
              have H28 : Hold h h10 [] := H27.pick [] (by kernel_rfl)
              exact Run_ret1 rfl (ResV_tmp (v := .bool false) (by kernel_rfl)) ⟨rfl, H28⟩
            · have hF := (M.ite_some hF).2 hb9
              refine Run_skip ?_
              refine Run_seq ?_
              refine Run_reg 1 (by kernel_rfl) (L' := [(0, .slice aaA aA.length caA), (1, .slice aaB aB.length caB), (6, .slice a3 x4.1.length c3), (7, .int .i64 x4.2), (10, .slice a6 x7.1.length c6), (13, .int .i64 1)]) ?_ ?_
              · refine QRun_b [.int .i64 1] 0 _ (by kernel_rfl) (fun w => by kernel_rfl) ?_
                exact QRun_done [0, 1, 6, 7, 10, 13] (by kernel_rfl) (by kernel_rfl)
              refine Run_seq ?_
              refine Run_ops ?_
              refine Run_b [.slice a6 x7.1.length c6, .int .i64 1] 0 _ (by kernel_rfl) (fun w => by kernel_rfl) ?_
              obtain ⟨x19, hx16, hF⟩ := M.bind_some hF
              have H29 : Hold h h10 [own cd2 a6 x7.1.length c6 x7.1, own cd2 a5 x6.length c5 x15.2, own cd23 a4 x5.length c4 x14.2, own cd2 a8 x12.length c8 x12, own cd23 a7 x10.length c7 x10, own cd2 a3 x4.1.length c3 x4.1, own cd2 a2 x3.length c2 x3, own cd23 a1 x2.length c1 x2] := H27.pick [4, 0, 1, 2, 3, 5, 6, 7] (by kernel_rfl)
              have H30 : Hold h h10 [own cd2 a6 x7.1.length c6 x7.1, bun [own cd2 a5 x6.length c5 x15.2, own cd23 a4 x5.length c4 x14.2, own cd2 a8 x12.length c8 x12, own cd23 a7 x10.length c7 x10, own cd2 a3 x4.1.length c3 x4.1, own cd2 a2 x3.length c2 x3, own cd23 a1 x2.length c1 x2]] := Hold.bundle (S := [own cd2 a6 x7.1.length c6 x7.1]) (R := [own cd2 a5 x6.length c5 x15.2, own cd23 a4 x5.length c4 x14.2, own cd2 a8 x12.length c8 x12, own cd23 a7 x10.length c7 x10, own cd2 a3 x4.1.length c3 x4.1, own cd2 a2 x3.length c2 x3, own cd23 a1 x2.length c1 x2]) H29
              refine Run_E (by kernel_rfl) ?_
              refine E_call (f := 23) (args := #[.slice a6 x7.1.length c6, .int .i64 1]) (w_laws_markInt64S h h10 _ x7.1 a6 c6 1 H30 _ _ hx16) (by kernel_rfl) (fun v11 h11 hp11 => ?_)
              obtain ⟨rfl, H31⟩ := hp11
              have H32 : Hold h h11 [own cd2 a6 x7.1.length c6 x19.2, own cd2 a5 x6.length c5 x15.2, own cd23 a4 x5.length c4 x14.2, own cd2 a8 x12.length c8 x12, own cd23 a7 x10.length c7 x10, own cd2 a3 x4.1.length c3 x4.1, own cd2 a2 x3.length c2 x3, own cd23 a1 x2.length c1 x2] := Hold.unbundle (S := [own cd2 a6 x7.1.length c6 x19.2]) (R := [own cd2 a5 x6.length c5 x15.2, own cd23 a4 x5.length c4 x14.2, own cd2 a8 x12.length c8 x12, own cd23 a7 x10.length c7 x10, own cd2 a3 x4.1.length c3 x4.1, own cd2 a2 x3.length c2 x3, own cd23 a1 x2.length c1 x2]) H31 (Hold.tailBase (S := [own cd2 a6 x7.1.length c6 x7.1]) (R := [own cd2 a5 x6.length c5 x15.2, own cd23 a4 x5.length c4 x14.2, own cd2 a8 x12.length c8 x12, own cd23 a7 x10.length c7 x10, own cd2 a3 x4.1.length c3 x4.1, own cd2 a2 x3.length c2 x3, own cd23 a1 x2.length c1 x2]) H29)
              refine Run_b [.int .i64 x19.1] 3 _ (by kernel_rfl) (fun w => by kernel_rfl) ?_
              refine Run_nil (by kernel_rfl) ?_
              refine Run_keep [0, 1, 6, 7, 10, 13] (L' := [(0, .slice aaA aA.length caA), (1, .slice aaB aB.length caB), (6, .slice a3 x4.1.length c3), (7, .int .i64 x4.2), (10, .slice a6 x7.1.length c6), (13, .int .i64 x19.1)]) (by kernel_rfl) ?_
              refine Run_seq ?_
              refine Run_reg 1 (by kernel_rfl) (L' := [(0, .slice aaA aA.length caA), (1, .slice aaB aB.length caB), (6, .slice a3 x4.1.length c3), (7, .int .i64 x4.2), (10, .slice a6 x7.1.length c6), (13, .int .i64 x19.1), (14, .int .i64 1)]) ?_ ?_
              · refine QRun_b [.int .i64 1] 0 _ (by kernel_rfl) (fun w => by kernel_rfl) ?_
                exact QRun_done [0, 1, 6, 7, 10, 13, 14] (by kernel_rfl) (by kernel_rfl)
              refine Run_seq ?_
              obtain ⟨x20, hx17, hF⟩ := M.bind_some hF
              refine Run_reg 4 (by kernel_rfl) (L' := [(0, .slice aaA aA.length caA), (1, .slice aaB aB.length caB), (6, .slice a3 x4.1.length c3), (7, .int .i64 x4.2), (10, .slice a6 x7.1.length c6), (13, .int .i64 x19.1), (14, .int .i64 x20)]) ?_ ?_
              · refine QRun_b [.slice a6 x7.1.length c6, .int .i64 1] 0 _ (by kernel_rfl) (fun w => by kernel_rfl) ?_
                refine QRun_y (.int .i64 x20) (by kernel_rfl) (Y_callq (f := 24) (args := #[.slice a6 x7.1.length c6, .int .i64 1]) (v := .int .i64 x20) (by kernel_rfl) (Fn.arg (w_laws_heldInt64S h11 x19.2 a6 c6 (H32.rd 0 rfl) 1 _ _ hx17) (by simp only [(H32.len 0 rfl)]))) ?_
                refine QRun_b [.int .i64 x20] 3 _ (by kernel_rfl) (fun w => by kernel_rfl) ?_
                exact QRun_done [0, 1, 6, 7, 10, 13, 14] (by kernel_rfl) (by kernel_rfl)
              refine Run_seq ?_
              refine Run_seq ?_
              refine Run_reg 2 (by kernel_rfl) (L' := [(0, .slice aaA aA.length caA), (1, .slice aaB aB.length caB), (6, .slice a3 x4.1.length c3), (7, .int .i64 x4.2), (10, .slice a6 x7.1.length c6), (13, .int .i64 x19.1), (14, .int .i64 x20), (88, .bool (decide (x20 < 0)))]) ?_ ?_
              · refine QRun_b [.int .i64 x20, .bool (decide (x20 < 0))] 0 _ (by kernel_rfl) (fun w => by kernel_rfl) ?_
                exact QRun_done [0, 1, 6, 7, 10, 13, 14, 88] (by kernel_rfl) (by kernel_rfl)
              refine Run_cond (b := decide (x20 < 0)) (by kernel_rfl) (fun hb10 => ?_) (fun hb10 => ?_)
              · have hF := (M.ite_some hF).1 hb10
                refine Run_seq ?_
                refine Run_reg 1 (by kernel_rfl) (L' := [(4, .bool false)]) ?_ ?_
                · refine QRun_b [.bool false] 0 _ (by kernel_rfl) (fun w => by kernel_rfl) ?_
                  exact QRun_done [4] (by kernel_rfl) (by kernel_rfl)
                have hF := M.ret_some hF
                subst hF
                have H33 : Hold h h11 [] := H32.pick [] (by kernel_rfl)
                exact Run_ret1 rfl (ResV_tmp (v := .bool false) (by kernel_rfl)) ⟨rfl, H33⟩
              · have hF := (M.ite_some hF).2 hb10
                refine Run_skip ?_
                refine Run_seq ?_
                refine Run_seq ?_
                refine Run_reg 3 (by kernel_rfl) (L' := [(0, .slice aaA aA.length caA), (1, .slice aaB aB.length caB), (6, .slice a3 x4.1.length c3), (7, .int .i64 x4.2), (10, .slice a6 x7.1.length c6), (13, .int .i64 x19.1), (91, .bool (x20 != x19.1))]) ?_ ?_
                · refine QRun_b [.int .i64 x20, .int .i64 x19.1, .bool (x20 != x19.1)] 0 _ (by kernel_rfl) (fun w => by kernel_rfl) ?_
                  exact QRun_done [0, 1, 6, 7, 10, 13, 91] (by kernel_rfl) (by kernel_rfl)
                refine Run_cond (b := x20 != x19.1) (by kernel_rfl) (fun hb11 => ?_) (fun hb11 => ?_)
                · have hF := (M.ite_some hF).1 hb11
                  refine Run_seq ?_
                  refine Run_reg 1 (by kernel_rfl) (L' := [(4, .bool false)]) ?_ ?_
                  · refine QRun_b [.bool false] 0 _ (by kernel_rfl) (fun w => by kernel_rfl) ?_
                    exact QRun_done [4] (by kernel_rfl) (by kernel_rfl)
                  have hF := M.ret_some hF
                  subst hF
                  have H34 : Hold h h11 [] := H32.pick [] (by kernel_rfl)
                  exact Run_ret1 rfl (ResV_tmp (v := .bool false) (by kernel_rfl)) ⟨rfl, H34⟩
                · have hF := (M.ite_some hF).2 hb11
                  refine Run_skip ?_
                  refine Run_seq ?_
                  refine Run_ops ?_
                  refine Run_b [.slice aaA aA.length caA] 0 _ (by kernel_rfl) (fun w => by kernel_rfl) ?_
                  obtain ⟨x21, hx18, hF⟩ := M.bind_some hF
                  refine Run_E (by kernel_rfl) ?_
                  refine E_call (f := 17) (args := #[.slice aaA aA.length caA]) (w_laws_toInt64SS h11 aA aaA caA (raA.at H32.ext) _ _ hx18) (by kernel_rfl) (fun v12 h12 hp12 => ?_)
                  obtain ⟨a9, c9, rfl, H35⟩ := hp12
                  have H36 : Hold h h12 [own cd23 a9 x21.length c9 x21, own cd2 a6 x7.1.length c6 x19.2, own cd2 a5 x6.length c5 x15.2, own cd23 a4 x5.length c4 x14.2, own cd2 a8 x12.length c8 x12, own cd23 a7 x10.length c7 x10, own cd2 a3 x4.1.length c3 x4.1, own cd2 a2 x3.length c2 x3, own cd23 a1 x2.length c1 x2] := H32.call H35 rfl
                  refine Run_b [.slice aaB aB.length caB] 2 _ (by kernel_rfl) (fun w => by kernel_rfl) ?_
                  obtain ⟨x22, hx19, hF⟩ := M.bind_some hF
                  refine Run_E (by kernel_rfl) ?_
                  refine E_call (f := 18) (args := #[.slice aaB aB.length caB]) (w_laws_toInt64S h12 aB aaB caB (raB.at H36.ext) _ _ hx19) (by kernel_rfl) (fun v13 h13 hp13 => ?_)
                  obtain ⟨a10, c10, rfl, H37⟩ := hp13
                  have H38 : Hold h h13 [own cd2 a10 x22.length c10 x22, own cd23 a9 x21.length c9 x21, own cd2 a6 x7.1.length c6 x19.2, own cd2 a5 x6.length c5 x15.2, own cd23 a4 x5.length c4 x14.2, own cd2 a8 x12.length c8 x12, own cd23 a7 x10.length c7 x10, own cd2 a3 x4.1.length c3 x4.1, own cd2 a2 x3.length c2 x3, own cd23 a1 x2.length c1 x2] := H36.call H37 rfl
                  obtain ⟨x23, hx20, hF⟩ := M.bind_some hF
                  refine Run_E (by kernel_rfl) ?_
                  refine E_call (f := 39) (args := #[.slice a9 x21.length c9, .slice a10 x22.length c10]) (w_impl_LeastCover h13 x21 a9 c9 (H38.rd 1 rfl) x22 a10 c10 (H38.rd 0 rfl) _ _ hx20) (by kernel_rfl) (fun v14 h14 hp14 => ?_)
                  obtain ⟨a11, c11, rfl, H39⟩ := hp14
                  have H40 : Hold h h14 [own cd2 a11 x23.1.length c11 x23.1, own cd2 a10 x22.length c10 x22, own cd23 a9 x21.length c9 x21, own cd2 a6 x7.1.length c6 x19.2, own cd2 a5 x6.length c5 x15.2, own cd23 a4 x5.length c4 x14.2, own cd2 a8 x12.length c8 x12, own cd23 a7 x10.length c7 x10, own cd2 a3 x4.1.length c3 x4.1, own cd2 a2 x3.length c2 x3, own cd23 a1 x2.length c1 x2] := H38.call H39 rfl
                  refine Run_b [.tuple #[.slice a11 x23.1.length c11, .int .i64 x23.2], .slice a11 x23.1.length c11, .int .i64 x23.2, .slice a11 x23.1.length c11, .int .i64 x23.2] 5 _ (by kernel_rfl) (fun w => by kernel_rfl) ?_
                  refine Run_nil (by kernel_rfl) ?_
                  refine Run_keep [6, 7, 10, 13, 15, 16] (L' := [(6, .slice a3 x4.1.length c3), (7, .int .i64 x4.2), (10, .slice a6 x7.1.length c6), (13, .int .i64 x19.1), (15, .slice a11 x23.1.length c11), (16, .int .i64 x23.2)]) (by kernel_rfl) ?_
                  refine Run_seq ?_
                  refine Run_seq ?_
                  obtain ⟨x24, hx21, hF⟩ := M.bind_some hF
                  refine Run_reg 9 (by kernel_rfl) (L' := [(10, .slice a6 x7.1.length c6), (13, .int .i64 x19.1), (108, .bool ((!x24) || (x23.2 != x4.2)))]) ?_ ?_
                  · refine QRun_b [.slice a11 x23.1.length c11, .slice a3 x4.1.length c3] 0 _ (by kernel_rfl) (fun w => by kernel_rfl) ?_
                    refine QRun_y (.bool x24) (by kernel_rfl) (Y_callq (f := 20) (args := #[.slice a11 x23.1.length c11, .slice a3 x4.1.length c3]) (v := .bool x24) (by kernel_rfl) (w_laws_eqInt64S h14 x23.1 a11 c11 (H40.rd 0 rfl) x4.1 a3 c3 (H40.rd 8 rfl) _ _ hx21)) ?_
                    refine QRun_b [.bool (!x24)] 3 _ (by kernel_rfl) (fun w => by kernel_rfl) ?_
                    refine QRun_seq 9 [(10, .slice a6 x7.1.length c6), (13, .int .i64 x19.1), (108, .bool ((!x24) || (x23.2 != x4.2)))] ?_ ?_
                    · rcases Bool.eq_false_or_eq_true (!x24) with hb12 | hb12
                      · refine QRun_bool (!x24) true (by kernel_rfl) (fun w => by kernel_rfl) hb12 ?_
                        refine QRun_n (by kernel_rfl) ?_
                        refine QRun_n (by kernel_rfl) ?_
                        refine QRun_n (by kernel_rfl) ?_
                        refine QRun_bool true ((!x24) || (x23.2 != x4.2)) (by kernel_rfl) (fun w => by kernel_rfl) (by rw [hb12]; rfl) ?_
                        exact QRun_done [10, 13, 108] (by kernel_rfl) (by kernel_rfl)
                      · refine QRun_bool (!x24) false (by kernel_rfl) (fun w => by kernel_rfl) hb12 ?_
                        refine QRun_b [.int .i64 x23.2, .int .i64 x4.2, .bool (x23.2 != x4.2)] 5 _ (by kernel_rfl) (fun w => by kernel_rfl) ?_
                        refine QRun_bool (x23.2 != x4.2) ((!x24) || (x23.2 != x4.2)) (by kernel_rfl) (fun w => by kernel_rfl) (by rw [hb12]; rfl) ?_
                        exact QRun_done [10, 13, 108] (by kernel_rfl) (by kernel_rfl)
                    exact QRun_done [10, 13, 108] (by kernel_rfl) (by kernel_rfl)
                  refine Run_cond (b := (!x24) || (x23.2 != x4.2)) (by kernel_rfl) (fun hb13 => ?_) (fun hb13 => ?_)
                  · have hF := (M.ite_some hF).1 hb13
                    refine Run_seq ?_
                    refine Run_reg 1 (by kernel_rfl) (L' := [(4, .bool false)]) ?_ ?_
                    · refine QRun_b [.bool false] 0 _ (by kernel_rfl) (fun w => by kernel_rfl) ?_
                      exact QRun_done [4] (by kernel_rfl) (by kernel_rfl)
                    have hF := M.ret_some hF
                    subst hF
                    have H41 : Hold h h14 [] := H40.pick [] (by kernel_rfl)
                    exact Run_ret1 rfl (ResV_tmp (v := .bool false) (by kernel_rfl)) ⟨rfl, H41⟩
                  · have hF := (M.ite_some hF).2 hb13
                    refine Run_skip ?_
                    refine Run_seq ?_
                    refine Run_reg 1 (by kernel_rfl) (L' := [(10, .slice a6 x7.1.length c6), (13, .int .i64 x19.1), (14, .int .i64 1)]) ?_ ?_
                    · refine QRun_b [.int .i64 1] 0 _ (by kernel_rfl) (fun w => by kernel_rfl) ?_
                      exact QRun_done [10, 13, 14] (by kernel_rfl) (by kernel_rfl)
                    refine Run_seq ?_
                    obtain ⟨x26, hx22, hF⟩ := M.bind_some hF
                    refine Run_reg 4 (by kernel_rfl) (L' := [(13, .int .i64 x19.1), (14, .int .i64 x26)]) ?_ ?_
                    · refine QRun_b [.slice a6 x7.1.length c6, .int .i64 1] 0 _ (by kernel_rfl) (fun w => by kernel_rfl) ?_
                      refine QRun_y (.int .i64 x26) (by kernel_rfl) (Y_callq (f := 24) (args := #[.slice a6 x7.1.length c6, .int .i64 1]) (v := .int .i64 x26) (by kernel_rfl) (Fn.arg (w_laws_heldInt64S h14 x19.2 a6 c6 (H40.rd 3 rfl) 1 _ _ hx22) (by simp only [(H40.len 3 rfl)]))) ?_
                      refine QRun_b [.int .i64 x26] 3 _ (by kernel_rfl) (fun w => by kernel_rfl) ?_
                      exact QRun_done [13, 14] (by kernel_rfl) (by kernel_rfl)
                    refine Run_seq ?_
                    refine Run_seq ?_
                    refine Run_reg 2 (by kernel_rfl) (L' := [(13, .int .i64 x19.1), (14, .int .i64 x26), (113, .bool (decide (x26 < 0)))]) ?_ ?_
                    · refine QRun_b [.int .i64 x26, .bool (decide (x26 < 0))] 0 _ (by kernel_rfl) (fun w => by kernel_rfl) ?_
                      exact QRun_done [13, 14, 113] (by kernel_rfl) (by kernel_rfl)
                    refine Run_cond (b := decide (x26 < 0)) (by kernel_rfl) (fun hb14 => ?_) (fun hb14 => ?_)
                    · have hF := (M.ite_some hF).1 hb14
                      refine Run_seq ?_
                      refine Run_reg 1 (by kernel_rfl) (L' := [(4, .bool false)]) ?_ ?_
                      · refine QRun_b [.bool false] 0 _ (by kernel_rfl) (fun w => by kernel_rfl) ?_
                        exact QRun_done [4] (by kernel_rfl) (by kernel_rfl)
                      have hF := M.ret_some hF
                      subst hF
                      have H42 : Hold h h14 [] := H40.pick [] (by kernel_rfl)
                      exact Run_ret1 rfl (ResV_tmp (v := .bool false) (by kernel_rfl)) ⟨rfl, H42⟩
                    · have hF := (M.ite_some hF).2 hb14
                      refine Run_skip ?_
                      refine Run_seq ?_
                      refine Run_seq ?_
                      refine Run_reg 3 (by kernel_rfl) (L' := [(116, .bool (x26 != x19.1))]) ?_ ?_
                      · refine QRun_b [.int .i64 x26, .int .i64 x19.1, .bool (x26 != x19.1)] 0 _ (by kernel_rfl) (fun w => by kernel_rfl) ?_
                        exact QRun_done [116] (by kernel_rfl) (by kernel_rfl)
                      refine Run_cond (b := x26 != x19.1) (by kernel_rfl) (fun hb15 => ?_) (fun hb15 => ?_)
                      · have hF := (M.ite_some hF).1 hb15
                        refine Run_seq ?_
                        refine Run_reg 1 (by kernel_rfl) (L' := [(4, .bool false)]) ?_ ?_
                        · refine QRun_b [.bool false] 0 _ (by kernel_rfl) (fun w => by kernel_rfl) ?_
                          exact QRun_done [4] (by kernel_rfl) (by kernel_rfl)
                        have hF := M.ret_some hF
                        subst hF
                        have H43 : Hold h h14 [] := H40.pick [] (by kernel_rfl)
                        exact Run_ret1 rfl (ResV_tmp (v := .bool false) (by kernel_rfl)) ⟨rfl, H43⟩
                      · have hF := (M.ite_some hF).2 hb15
                        refine Run_skip ?_
                        refine Run_seq ?_
                        refine Run_reg 1 (by kernel_rfl) (L' := [(4, .bool true)]) ?_ ?_
                        · refine QRun_b [.bool true] 0 _ (by kernel_rfl) (fun w => by kernel_rfl) ?_
                          exact QRun_done [4] (by kernel_rfl) (by kernel_rfl)
                        have hF := M.ret_some hF
                        subst hF
                        have H44 : Hold h h14 [] := H40.pick [] (by kernel_rfl)
                        exact Run_ret1 rfl (ResV_tmp (v := .bool true) (by kernel_rfl)) ⟨rfl, H44⟩

end Go.Proofs.Ytmpjjdgfkjompaa
