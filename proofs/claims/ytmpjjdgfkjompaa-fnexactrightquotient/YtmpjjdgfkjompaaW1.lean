/-
  Walks: each Go function, called with what reads as plain data, returns what its plain program computes.
  Conditions: None beyond the given statement.
-/
import Derived.Test.YtmpjjdgfkjompaaW0
namespace Go.Proofs.Ytmpjjdgfkjompaa
open Go
attribute [local irreducible] setL setB opA fineI idleI fineB evB okB markB markBs readyB readyBs chainB lk rho pickL dropSlot tailOK
set_option maxRecDepth 100000 in
set_option maxHeartbeats 4000000 in
theorem w_impl_greatestSub (h : Heap) (a_ : List (List Int)) (aa_ : Option Addr) (ca_ : Nat) (ra_ : Rd cd23 h (Lt h) aa_ ca_ a_) (b : List Int) (ab : Option Addr) (cb : Nat) (rb : Rd cd2 h (Lt h) ab cb b) (n : Nat) (r : (List Int) × Int) (hF : impl_greatestSub a_ b n = some r) :
    Fn Try.prog 61 #[.slice aa_ a_.length ca_, .slice ab b.length cb] h fun v h' => ∃ (a0 : Option Addr) (c0 : Nat), v = .tuple #[.slice a0 r.1.length c0, .int .i64 r.2] ∧ Hold h h' [own cd2 a0 r.1.length c0 r.1] := by
  unfold impl_greatestSub at hF
  refine Fn_enter (args := [.slice aa_ a_.length ca_, .slice ab b.length cb]) Try.func61 rfl (by kernel_rfl) (by kernel_rfl) (fun w0 _ => ?_)
  have H0 := Hold.init h
  refine Run_seq ?_
  refine Run_reg 2 (by kernel_rfl) (L' := [(0, .slice aa_ a_.length ca_), (1, .slice ab b.length cb)]) ?_ ?_
  · refine QRun_b [.slice none 0 0, .int .i64 0] 0 _ (by kernel_rfl) (fun w => by kernel_rfl) ?_
    exact QRun_done [0, 1] (by kernel_rfl) (by kernel_rfl)
  refine Run_seq ?_
  refine Run_seq ?_
  obtain ⟨x1, hx1, hF⟩ := M.bind_some hF
  obtain ⟨x2, gx2, hF⟩ := M.bind_some hF
  refine Run_regC (j := 8) (C := fun x => Hold h x []) (by kernel_rfl) H0 (L' := [(0, .slice aa_ a_.length ca_), (1, .slice ab b.length cb), (19, .bool x2)]) ?_ (fun h1 H1 => ?_)
  · refine QRun_b [.slice aa_ a_.length ca_] 0 _ (by kernel_rfl) (fun w => by kernel_rfl) ?_
    refine QRun_y (.bool x1) (by kernel_rfl) (Y_call (f := 75) (args := #[.slice aa_ a_.length ca_]) (v := .bool x1) (by kernel_rfl) fun hx Hx => (w_impl_IsMatrix hx a_ aa_ ca_ (ra_.at Hx.ext) _ _ hx1).mono fun _ _ ⟨e, H'⟩ => ⟨e, Hx.call H' rfl⟩) ?_
    refine QRun_b [.bool (!x1)] 2 _ (by kernel_rfl) (fun w => by kernel_rfl) ?_
    refine QRun_seq 8 [(0, .slice aa_ a_.length ca_), (1, .slice ab b.length cb), (19, .bool x2)] ?_ ?_
    · rcases Bool.eq_false_or_eq_true (!x1) with hb1 | hb1
      · refine QRun_bool (!x1) true (by kernel_rfl) (fun w => by kernel_rfl) hb1 ?_
        have gx2 := M.ret_some ((M.ite_some gx2).1 hb1)
        refine QRun_n (by kernel_rfl) ?_
        refine QRun_n (by kernel_rfl) ?_
        refine QRun_n (by kernel_rfl) ?_
        refine QRun_bool true x2 (by kernel_rfl) (fun w => by kernel_rfl) gx2 ?_
        exact QRun_done [0, 1, 19] (by kernel_rfl) (by kernel_rfl)
      · refine QRun_bool (!x1) false (by kernel_rfl) (fun w => by kernel_rfl) hb1 ?_
        have gx2 := (M.ite_some gx2).2 hb1
        obtain ⟨x3, hx2, gx2⟩ := M.bind_some gx2
        have gx2 := M.ret_some gx2
        refine QRun_b [.slice ab b.length cb] 4 _ (by kernel_rfl) (fun w => by kernel_rfl) ?_
        refine QRun_y (.bool x3) (by kernel_rfl) (Y_cls fun hx Hx => (Y_callq (f := 86) (args := #[.slice ab b.length cb]) (v := .bool x3) (by kernel_rfl) (w_impl_isVector hx b ab cb (rb.at Hx.ext) _ _ hx2))) ?_
        refine QRun_b [.bool (!x3)] 6 _ (by kernel_rfl) (fun w => by kernel_rfl) ?_
        refine QRun_bool (!x3) x2 (by kernel_rfl) (fun w => by kernel_rfl) gx2 ?_
        exact QRun_done [0, 1, 19] (by kernel_rfl) (by kernel_rfl)
    exact QRun_done [0, 1, 19] (by kernel_rfl) (by kernel_rfl)
  have H2 : Hold h h1 [] := H1
  refine Run_cond (b := x2) (by kernel_rfl) (fun hb2 => ?_) (fun hb2 => ?_)
  · have hF := (M.ite_some hF).1 hb2
    refine Run_seq ?_
    refine Run_reg 2 (by kernel_rfl) (L' := [(4, .slice none 0 0), (5, .int .i64 1)]) ?_ ?_
    · refine QRun_b [.slice none 0 0, .int .i64 1] 0 _ (by kernel_rfl) (fun w => by kernel_rfl) ?_
      exact QRun_done [4, 5] (by kernel_rfl) (by kernel_rfl)
    have hF := M.ret_some hF
    subst hF
    have H3 := H2.empty cd2
    exact Run_ret2 rfl (ResV_tmp (v := .slice none 0 0) (by kernel_rfl)) (ResV_tmp (v := .int .i64 1) (by kernel_rfl)) ⟨none, 0, rfl, H3⟩
  · have hF := (M.ite_some hF).2 hb2
    refine Run_skip ?_
    refine Run_seq ?_
    refine Run_seq ?_
    refine Run_reg 5 (by kernel_rfl) (L' := [(0, .slice aa_ a_.length ca_), (1, .slice ab b.length cb), (24, .bool ((a_.length : Int) != (b.length : Int)))]) ?_ ?_
    · refine QRun_b [.slice aa_ a_.length ca_, .int .i64 (a_.length : Int), .slice ab b.length cb, .int .i64 (b.length : Int), .bool ((a_.length : Int) != (b.length : Int))] 0 _ (by kernel_rfl) (fun w => by kernel_rfl) ?_
      exact QRun_done [0, 1, 24] (by kernel_rfl) (by kernel_rfl)
    refine Run_cond (b := (a_.length : Int) != (b.length : Int)) (by kernel_rfl) (fun hb3 => ?_) (fun hb3 => ?_)
    · have hF := (M.ite_some hF).1 hb3
      refine Run_seq ?_
      refine Run_reg 2 (by kernel_rfl) (L' := [(4, .slice none 0 0), (5, .int .i64 5)]) ?_ ?_
      · refine QRun_b [.slice none 0 0, .int .i64 5] 0 _ (by kernel_rfl) (fun w => by kernel_rfl) ?_
        exact QRun_done [4, 5] (by kernel_rfl) (by kernel_rfl)
      have hF := M.ret_some hF
      subst hF
      have H4 := H2.empty cd2
      exact Run_ret2 rfl (ResV_tmp (v := .slice none 0 0) (by kernel_rfl)) (ResV_tmp (v := .int .i64 5) (by kernel_rfl)) ⟨none, 0, rfl, H4⟩
    · have hF := (M.ite_some hF).2 hb3
      refine Run_skip ?_
      refine Run_seq ?_
      refine Run_ops ?_
      obtain ⟨x4, hx3, hF⟩ := M.bind_some hF
      obtain ⟨hx3l, hx3u, hx3⟩ := M.idx_some hx3
      obtain ⟨a1, c1, hc1, r1⟩ := ra_.row hx3
      refine Run_b [.slice aa_ a_.length ca_] 0 _ (by kernel_rfl) (fun w => by kernel_rfl) ?_
      refine Run_y (.pointer (some (adr aa_ (0 * 1)))) (by kernel_rfl) (Y_idx (t := 22) (e := 23) (sz := 1) (a := aa_) (n := a_.length) (cap := ca_) (kk := .i64) (i := 0) (by kernel_rfl) Try.underlying22 (by kernel_rfl) ((ra_.at H2.ext).cell hx3).1 hx3l hx3u) ?_
      refine Run_y (.slice a1 x4.length c1) (by kernel_rfl) (Y_load1 (t := 23) (p := adr aa_ (0 * 1)) (v := .slice a1 x4.length c1) (by kernel_rfl) (fun w => by kernel_rfl) (cell_at H2.ext hc1)) ?_
      refine Run_b [.int .i64 (x4.length : Int)] 3 _ (by kernel_rfl) (fun w => by kernel_rfl) ?_
      obtain ⟨l1, hl1, hF⟩ := M.bind_some hF
      have hl1 := M.make_some hl1
      refine Run_E (by kernel_rfl) ?_
      refine E_make cd2 0 (kl := .i64) (kc := .i64) H2 cd2_ti Try.underlying23 (by decide) cd2_zero (by kernel_rfl) hl1 (fun a2 h2 H5 => ?_)
      refine Run_b [.slice a2 l1.length l1.length] 5 _ (by kernel_rfl) (fun w => by kernel_rfl) ?_
      refine Run_nil (by kernel_rfl) ?_
      refine Run_keep [0, 1, 6] (L' := [(0, .slice aa_ a_.length ca_), (1, .slice ab b.length cb), (6, .slice a2 l1.length l1.length)]) (by kernel_rfl) ?_
      refine Run_seq ?_
      refine Run_seq ?_
      refine Run_reg 3 (by kernel_rfl) (L' := [(0, .slice aa_ a_.length ca_), (1, .slice ab b.length cb), (6, .slice a2 l1.length l1.length), (31, .int .i64 (l1.length : Int)), (32, .int .i64 0)]) ?_ ?_
      · refine QRun_b [.slice a2 l1.length l1.length, .int .i64 (l1.length : Int), .int .i64 0] 0 _ (by kernel_rfl) (fun w => by kernel_rfl) ?_
        exact QRun_done [0, 1, 6, 31, 32] (by kernel_rfl) (by kernel_rfl)
      obtain ⟨x5, gx5, hF⟩ := M.bind_some hF
      obtain ⟨hloy1, hhiy1, gx5⟩ := M.for_start gx5
      refine Run_join (fun L' h' => ∃ (s2 : (List Int)), x5 = .inl s2 ∧ L' = [(6, .slice a2 l1.length l1.length)] ∧ Hold h h' [own cd2 a2 l1.length l1.length s2]) ?_ ?_
      · rintro _ h4 ⟨s2, es2, rfl, H7⟩
        have hF := M.cont_inl' hF es2
        refine Run_seq ?_
        refine Run_reg 3 (by kernel_rfl) (L' := [(4, .slice a2 l1.length l1.length), (5, .int .i64 0)]) ?_ ?_
        · refine QRun_b [.slice a2 l1.length l1.length, .slice a2 l1.length l1.length, .int .i64 0] 0 _ (by kernel_rfl) (fun w => by kernel_rfl) ?_
          exact QRun_done [4, 5] (by kernel_rfl) (by kernel_rfl)
        have hF := M.ret_some hF
        subst hF
        have H14 := H7.norm
        exact Run_ret2 rfl (ResV_tmp (v := .slice a2 l1.length l1.length) (by kernel_rfl)) (ResV_tmp (v := .int .i64 0) (by kernel_rfl)) ⟨a2, l1.length, (by simp only [(H7.len 0 rfl)]), H14⟩
      · refine Run_block ?_
        refine Run_keep [0, 1, 6, 31, 32] (L' := [(0, .slice aa_ a_.length ca_), (1, .slice ab b.length cb), (6, .slice a2 l1.length l1.length), (31, .int .i64 (l1.length : Int)), (32, .int .i64 0)]) (by kernel_rfl) ?_
        refine Run_loop (fun m L' h' => ∃ (i1 : Int) (s1 : (List Int)), 0 ≤ i1 ∧ M.forN (l1.length : Int) _ _ n m i1 s1 = some x5 ∧ L' = [(0, .slice aa_ a_.length ca_), (1, .slice ab b.length cb), (6, .slice a2 l1.length l1.length), (31, .int .i64 (l1.length : Int)), (32, .int .i64 i1)] ∧ Hold h h' [own cd2 a2 l1.length l1.length s1]) ((l1.length : Int) - 0).toNat ⟨0, l1, Int.le_refl _, gx5, rfl, H5⟩ ?_
        rintro my1 _ h3 ⟨i1, s1, hloy1', gx5, rfl, H6⟩
        refine Run_seq ?_
        refine Run_reg 1 (by kernel_rfl) (L' := [(0, .slice aa_ a_.length ca_), (1, .slice ab b.length cb), (6, .slice a2 l1.length l1.length), (31, .int .i64 (l1.length : Int)), (32, .int .i64 i1), (33, .bool (decide (i1 < (l1.length : Int))))]) ?_ ?_
        · refine QRun_b [.bool (decide (i1 < (l1.length : Int)))] 0 _ (by kernel_rfl) (fun w => by kernel_rfl) ?_
          exact QRun_done [0, 1, 6, 31, 32, 33] (by kernel_rfl) (by kernel_rfl)
        refine Run_seq ?_
        refine Run_cond (b := decide (i1 < (l1.length : Int))) (by kernel_rfl) (fun hb4 => ?_) (fun hb4 => ?_)
        · obtain ⟨my1, y1, rfl, hB1, hgoy1, houty1⟩ := M.for_go gx5 hb4
          have hlty1 := of_decide_eq_true hb4
          refine Run_skip ?_
          refine Run_seq ?_
          refine Run_block ?_
          refine Run_seq ?_
          refine Run_reg 2 (by kernel_rfl) (L' := [(0, .slice aa_ a_.length ca_), (1, .slice ab b.length cb), (6, .slice a2 l1.length l1.length), (7, .int .i64 i1), (31, .int .i64 (l1.length : Int)), (32, .int .i64 i1)]) ?_ ?_
          · refine QRun_b [.int .i64 i1, .int .i64 i1] 0 _ (by kernel_rfl) (fun w => by kernel_rfl) ?_
            exact QRun_done [0, 1, 6, 7, 31, 32] (by kernel_rfl) (by kernel_rfl)
          refine Run_seq ?_
          refine Run_reg 1 (by kernel_rfl) (L' := [(0, .slice aa_ a_.length ca_), (1, .slice ab b.length cb), (6, .slice a2 l1.length l1.length), (7, .int .i64 i1), (8, .bool false), (31, .int .i64 (l1.length : Int)), (32, .int .i64 i1)]) ?_ ?_
          · refine QRun_b [.bool false] 0 _ (by kernel_rfl) (fun w => by kernel_rfl) ?_
            exact QRun_done [0, 1, 6, 7, 8, 31, 32] (by kernel_rfl) (by kernel_rfl)
          refine Run_seq ?_
          refine Run_seq ?_
          refine Run_reg 3 (by kernel_rfl) (L' := [(0, .slice aa_ a_.length ca_), (1, .slice ab b.length cb), (6, .slice a2 l1.length l1.length), (7, .int .i64 i1), (8, .bool false), (31, .int .i64 (l1.length : Int)), (32, .int .i64 i1), (35, .slice aa_ a_.length ca_), (36, .int .i64 (a_.length : Int)), (37, .int .i64 0)]) ?_ ?_
          · refine QRun_b [.slice aa_ a_.length ca_, .int .i64 (a_.length : Int), .int .i64 0] 0 _ (by kernel_rfl) (fun w => by kernel_rfl) ?_
            exact QRun_done [0, 1, 6, 7, 8, 31, 32, 35, 36, 37] (by kernel_rfl) (by kernel_rfl)
          obtain ⟨x6, gx6, hB1⟩ := M.bind_some hB1
          obtain ⟨hloy2, hhiy2, gx6⟩ := M.for_start gx6
          refine Run_join (fun L' h' => L' = [(0, .slice aa_ a_.length ca_), (1, .slice ab b.length cb), (6, .slice a2 l1.length l1.length), (8, .bool x6.2), (31, .int .i64 (l1.length : Int)), (32, .int .i64 i1)] ∧ Hold h h' [own cd2 a2 l1.length l1.length x6.1]) ?_ ?_
          · rintro _ h6 ⟨rfl, H9⟩
            refine Run_seq ?_
            refine Run_reg 2 (by kernel_rfl) (L' := [(0, .slice aa_ a_.length ca_), (1, .slice ab b.length cb), (6, .slice a2 l1.length l1.length), (31, .int .i64 (l1.length : Int)), (32, .int .i64 i1), (73, .bool (!x6.2))]) ?_ ?_
            · refine QRun_b [.bool x6.2, .bool (!x6.2)] 0 _ (by kernel_rfl) (fun w => by kernel_rfl) ?_
              exact QRun_done [0, 1, 6, 31, 32, 73] (by kernel_rfl) (by kernel_rfl)
            refine Run_cond (b := !x6.2) (by kernel_rfl) (fun hb9 => ?_) (fun hb9 => ?_)
            · have hB1 := (M.ite_some hB1).1 hb9
              refine Run_seq ?_
              refine Run_reg 2 (by kernel_rfl) (L' := [(4, .slice none 0 0), (5, .int .i64 5)]) ?_ ?_
              · refine QRun_b [.slice none 0 0, .int .i64 5] 0 _ (by kernel_rfl) (fun w => by kernel_rfl) ?_
                exact QRun_done [4, 5] (by kernel_rfl) (by kernel_rfl)
              have hB1 := M.ret_some hB1
              have gx5 := houty1 _ hB1.symm
              have hF := M.cont_inr' hF gx5
              have hF := M.ret_some hF
              subst hF
              have H12 := H9.empty cd2
              have H13 : Hold h h6 [own cd2 none 0 0 []] := H12.pick [0] (by kernel_rfl)
              exact Run_ret2 rfl (ResV_tmp (v := .slice none 0 0) (by kernel_rfl)) (ResV_tmp (v := .int .i64 5) (by kernel_rfl)) ⟨none, 0, rfl, H13⟩
            · have hB1 := (M.ite_some hB1).2 hb9
              refine Run_skip ?_
              refine Run_blk ?_
              refine Run_reg 2 (by kernel_rfl) (L' := [(0, .slice aa_ a_.length ca_), (1, .slice ab b.length cb), (6, .slice a2 l1.length l1.length), (31, .int .i64 (l1.length : Int)), (32, .int .i64 (i1 + 1))]) ?_ ?_
              · refine QRun_y (.int .i64 (i1 + 1)) (by kernel_rfl) (Y_eq (v := .int .i64 (w64 (i1 + 1))) (Y_pure (fun w => by kernel_rfl)) (by rw [w64_eq _ (by omega)])) ?_
                refine QRun_b [.int .i64 (i1 + 1)] 1 _ (by kernel_rfl) (fun w => by kernel_rfl) ?_
                exact QRun_done [0, 1, 6, 31, 32] (by kernel_rfl) (by kernel_rfl)
              have hB1 := M.ret_some hB1
              have gx5 := hgoy1 _ hB1.symm
              exact Run_again [0, 1, 6, 31, 32] (by kernel_rfl) my1 (Nat.lt_succ_self _) ⟨i1 + 1, x6.1, by omega, gx5, rfl, H9⟩
          · refine Run_block ?_
            refine Run_keep [0, 1, 6, 7, 8, 31, 32, 35, 36, 37] (L' := [(0, .slice aa_ a_.length ca_), (1, .slice ab b.length cb), (6, .slice a2 l1.length l1.length), (7, .int .i64 i1), (8, .bool false), (31, .int .i64 (l1.length : Int)), (32, .int .i64 i1), (35, .slice aa_ a_.length ca_), (36, .int .i64 (a_.length : Int)), (37, .int .i64 0)]) (by kernel_rfl) ?_
            refine Run_loop (fun m L' h' => ∃ (i2 : Int) (s3 : (List Int) × Bool), 0 ≤ i2 ∧ M.forN (a_.length : Int) _ _ n m i2 s3 = some x6 ∧ L' = [(0, .slice aa_ a_.length ca_), (1, .slice ab b.length cb), (6, .slice a2 l1.length l1.length), (7, .int .i64 i1), (8, .bool s3.2), (31, .int .i64 (l1.length : Int)), (32, .int .i64 i1), (35, .slice aa_ a_.length ca_), (36, .int .i64 (a_.length : Int)), (37, .int .i64 i2)] ∧ Hold h h' [own cd2 a2 l1.length l1.length s3.1]) ((a_.length : Int) - 0).toNat ⟨0, (s1, false), Int.le_refl _, gx6, rfl, H6⟩ ?_
            rintro my2 _ h5 ⟨i2, s3, hloy2', gx6, rfl, H8⟩
            refine Run_seq ?_
            refine Run_reg 1 (by kernel_rfl) (L' := [(0, .slice aa_ a_.length ca_), (1, .slice ab b.length cb), (6, .slice a2 l1.length l1.length), (7, .int .i64 i1), (8, .bool s3.2), (31, .int .i64 (l1.length : Int)), (32, .int .i64 i1), (35, .slice aa_ a_.length ca_), (36, .int .i64 (a_.length : Int)), (37, .int .i64 i2), (38, .bool (decide (i2 < (a_.length : Int))))]) ?_ ?_
            · refine QRun_b [.bool (decide (i2 < (a_.length : Int)))] 0 _ (by kernel_rfl) (fun w => by kernel_rfl) ?_
              exact QRun_done [0, 1, 6, 7, 8, 31, 32, 35, 36, 37, 38] (by kernel_rfl) (by kernel_rfl)
            refine Run_seq ?_
            refine Run_cond (b := decide (i2 < (a_.length : Int))) (by kernel_rfl) (fun hb5 => ?_) (fun hb5 => ?_)
            · obtain ⟨my2, y2, rfl, hB2, hgoy2, houty2⟩ := M.for_go gx6 hb5
              have hlty2 := of_decide_eq_true hb5
              refine Run_skip ?_
              refine Run_seq ?_
              obtain ⟨s4, gs4, hB2⟩ := M.bind_some hB2
              refine Run_join (fun L' h' => L' = [(0, .slice aa_ a_.length ca_), (1, .slice ab b.length cb), (6, .slice a2 l1.length l1.length), (7, .int .i64 i1), (8, .bool s4.2), (31, .int .i64 (l1.length : Int)), (32, .int .i64 i1), (35, .slice aa_ a_.length ca_), (36, .int .i64 (a_.length : Int)), (37, .int .i64 i2)] ∧ Hold h h' [own cd2 a2 l1.length l1.length s4.1]) ?_ ?_
              · rintro _ h8 ⟨rfl, H11⟩
                refine Run_reg 2 (by kernel_rfl) (L' := [(0, .slice aa_ a_.length ca_), (1, .slice ab b.length cb), (6, .slice a2 l1.length l1.length), (7, .int .i64 i1), (8, .bool s4.2), (31, .int .i64 (l1.length : Int)), (32, .int .i64 i1), (35, .slice aa_ a_.length ca_), (36, .int .i64 (a_.length : Int)), (37, .int .i64 (i2 + 1))]) ?_ ?_
                · refine QRun_y (.int .i64 (i2 + 1)) (by kernel_rfl) (Y_eq (v := .int .i64 (w64 (i2 + 1))) (Y_pure (fun w => by kernel_rfl)) (by rw [w64_eq _ (by omega)])) ?_
                  refine QRun_b [.int .i64 (i2 + 1)] 1 _ (by kernel_rfl) (fun w => by kernel_rfl) ?_
                  exact QRun_done [0, 1, 6, 7, 8, 31, 32, 35, 36, 37] (by kernel_rfl) (by kernel_rfl)
                have hB2 := M.ret_some hB2
                have gx6 := hgoy2 _ hB2.symm
                exact Run_again [0, 1, 6, 7, 8, 31, 32, 35, 36, 37] (by kernel_rfl) my2 (Nat.lt_succ_self _) ⟨i2 + 1, (s4.1, s4.2), by omega, gx6, rfl, H11⟩
              · refine Run_block ?_
                refine Run_seq ?_
                obtain ⟨x7, hx4, gs4⟩ := M.bind_some gs4
                obtain ⟨hx4l, hx4u, hx4⟩ := M.idx_some hx4
                obtain ⟨a3, c2, hc2, r2⟩ := ra_.row hx4
                refine Run_reg 5 (by kernel_rfl) (L' := [(0, .slice aa_ a_.length ca_), (1, .slice ab b.length cb), (6, .slice a2 l1.length l1.length), (7, .int .i64 i1), (8, .bool s3.2), (9, .int .i64 i2), (10, .slice a3 x7.length c2), (31, .int .i64 (l1.length : Int)), (32, .int .i64 i1), (35, .slice aa_ a_.length ca_), (36, .int .i64 (a_.length : Int)), (37, .int .i64 i2)]) ?_ ?_
                · refine QRun_b [.int .i64 i2] 0 _ (by kernel_rfl) (fun w => by kernel_rfl) ?_
                  refine QRun_y (.pointer (some (adr aa_ (i2.toNat * 1)))) (by kernel_rfl) (Y_idx (t := 22) (e := 23) (sz := 1) (a := aa_) (n := a_.length) (cap := ca_) (kk := .i64) (i := i2) (by kernel_rfl) Try.underlying22 (by kernel_rfl) ((ra_.at H8.ext).cell hx4).1 hx4l hx4u) ?_
                  refine QRun_y (.slice a3 x7.length c2) (by kernel_rfl) (Y_load1 (t := 23) (p := adr aa_ (i2.toNat * 1)) (v := .slice a3 x7.length c2) (by kernel_rfl) (fun w => by kernel_rfl) (cell_at H8.ext hc2)) ?_
                  refine QRun_b [.int .i64 i2, .slice a3 x7.length c2] 3 _ (by kernel_rfl) (fun w => by kernel_rfl) ?_
                  exact QRun_done [0, 1, 6, 7, 8, 9, 10, 31, 32, 35, 36, 37] (by kernel_rfl) (by kernel_rfl)
                refine Run_seq ?_
                refine Run_seq ?_
                obtain ⟨x8, hx5, gs4⟩ := M.bind_some gs4
                obtain ⟨hx5l, hx5u, hx5⟩ := M.idx_some hx5
                refine Run_reg 5 (by kernel_rfl) (L' := [(0, .slice aa_ a_.length ca_), (1, .slice ab b.length cb), (6, .slice a2 l1.length l1.length), (7, .int .i64 i1), (8, .bool s3.2), (9, .int .i64 i2), (10, .slice a3 x7.length c2), (31, .int .i64 (l1.length : Int)), (32, .int .i64 i1), (35, .slice aa_ a_.length ca_), (36, .int .i64 (a_.length : Int)), (37, .int .i64 i2), (46, .bool (x8 == (-1000000000000000)))]) ?_ ?_
                · refine QRun_b [.slice a3 x7.length c2, .int .i64 i1] 0 _ (by kernel_rfl) (fun w => by kernel_rfl) ?_
                  refine QRun_y (.pointer (some (adr a3 (i1.toNat * 1)))) (by kernel_rfl) (Y_idx (t := 23) (e := 2) (sz := 1) (a := a3) (n := x7.length) (cap := c2) (kk := .i64) (i := i1) (by kernel_rfl) Try.underlying23 (by kernel_rfl) ((r2.at H8.ext).cell hx5).1 hx5l hx5u) ?_
                  refine QRun_y (.int .i64 x8) (by kernel_rfl) (Y_load1 (t := 2) (p := adr a3 (i1.toNat * 1)) (v := .int .i64 x8) (by kernel_rfl) (fun w => by kernel_rfl) (cd2_cell (r2.at H8.ext) hx5)) ?_
                  refine QRun_b [.bool (x8 == (-1000000000000000))] 4 _ (by kernel_rfl) (fun w => by kernel_rfl) ?_
                  exact QRun_done [0, 1, 6, 7, 8, 9, 10, 31, 32, 35, 36, 37, 46] (by kernel_rfl) (by kernel_rfl)
                refine Run_cond (b := x8 == (-1000000000000000)) (by kernel_rfl) (fun hb6 => ?_) (fun hb6 => ?_)
                · have gs4 := (M.ite_some gs4).1 hb6
                  refine Run_exit (k' := _) rfl ?_
                  have gs4 := M.ret_some gs4
                  subst gs4
                  exact Run_fall [0, 1, 6, 7, 8, 31, 32, 35, 36, 37] (by kernel_rfl) ⟨rfl, H8⟩
                · have gs4 := (M.ite_some gs4).2 hb6
                  refine Run_skip ?_
                  refine Run_seq ?_
                  obtain ⟨x9, hx6, gs4⟩ := M.bind_some gs4
                  obtain ⟨hx6l, hx6u, hx6⟩ := M.idx_some hx6
                  obtain ⟨x10, hx7, gs4⟩ := M.bind_some gs4
                  obtain ⟨hx7l, hx7u, hx7⟩ := M.idx_some hx7
                  obtain ⟨x11, hx8, gs4⟩ := M.bind_some gs4
                  refine Run_draw 11 mixed (by kernel_rfl) (by kernel_rfl) (L' := [(0, .slice aa_ a_.length ca_), (1, .slice ab b.length cb), (6, .slice a2 l1.length l1.length), (7, .int .i64 i1), (8, .bool s3.2), (11, .int .i64 x11), (31, .int .i64 (l1.length : Int)), (32, .int .i64 i1), (35, .slice aa_ a_.length ca_), (36, .int .i64 (a_.length : Int)), (37, .int .i64 i2)]) ?_ ?_
                  · refine QRun_b [.slice ab b.length cb, .int .i64 i2] 0 _ (by kernel_rfl) (fun w => by kernel_rfl) ?_
                    refine QRun_y (.pointer (some (adr ab (i2.toNat * 1)))) (by kernel_rfl) (Y_idx (t := 23) (e := 2) (sz := 1) (a := ab) (n := b.length) (cap := cb) (kk := .i64) (i := i2) (by kernel_rfl) Try.underlying23 (by kernel_rfl) ((rb.at H8.ext).cell hx6).1 hx6l hx6u) ?_
                    refine QRun_y (.int .i64 x9) (by kernel_rfl) (Y_load1 (t := 2) (p := adr ab (i2.toNat * 1)) (v := .int .i64 x9) (by kernel_rfl) (fun w => by kernel_rfl) (cd2_cell (rb.at H8.ext) hx6)) ?_
                    refine QRun_b [.slice a3 x7.length c2, .int .i64 i1] 4 _ (by kernel_rfl) (fun w => by kernel_rfl) ?_
                    refine QRun_y (.pointer (some (adr a3 (i1.toNat * 1)))) (by kernel_rfl) (Y_idx (t := 23) (e := 2) (sz := 1) (a := a3) (n := x7.length) (cap := c2) (kk := .i64) (i := i1) (by kernel_rfl) Try.underlying23 (by kernel_rfl) ((r2.at H8.ext).cell hx7).1 hx7l hx7u) ?_
                    refine QRun_y (.int .i64 x10) (by kernel_rfl) (Y_load1 (t := 2) (p := adr a3 (i1.toNat * 1)) (v := .int .i64 x10) (by kernel_rfl) (fun w => by kernel_rfl) (cd2_cell (r2.at H8.ext) hx7)) ?_
                    refine QRun_b [.int .i64 (w64 (0 - x10))] 8 _ (by kernel_rfl) (fun w => by kernel_rfl) ?_
                    refine QRun_y (.int .i64 x11) (by kernel_rfl) (Y_callq (f := 89) (args := #[.int .i64 x9, .int .i64 (w64 (0 - x10))]) (v := .int .i64 x11) (by kernel_rfl) (w_impl_times h5 x9 (w64 (0 - x10)) _ _ hx8)) ?_
                    refine QRun_b [.int .i64 x11] 10 _ (by kernel_rfl) (fun w => by kernel_rfl) ?_
                    exact QRun_done [0, 1, 6, 7, 8, 11, 31, 32, 35, 36, 37] (by kernel_rfl) (by kernel_rfl)
                  refine Run_seq ?_
                  obtain ⟨x12, gx12, gs4⟩ := M.bind_some gs4
                  refine Run_reg 10 (by kernel_rfl) (L' := [(0, .slice aa_ a_.length ca_), (1, .slice ab b.length cb), (6, .slice a2 l1.length l1.length), (7, .int .i64 i1), (8, .bool s3.2), (11, .int .i64 x11), (31, .int .i64 (l1.length : Int)), (32, .int .i64 i1), (35, .slice aa_ a_.length ca_), (36, .int .i64 (a_.length : Int)), (37, .int .i64 i2), (66, .bool x12)]) ?_ ?_
                  · refine QRun_b [.bool s3.2, .bool (!s3.2)] 0 _ (by kernel_rfl) (fun w => by kernel_rfl) ?_
                    refine QRun_seq 10 [(0, .slice aa_ a_.length ca_), (1, .slice ab b.length cb), (6, .slice a2 l1.length l1.length), (7, .int .i64 i1), (8, .bool s3.2), (11, .int .i64 x11), (31, .int .i64 (l1.length : Int)), (32, .int .i64 i1), (35, .slice aa_ a_.length ca_), (36, .int .i64 (a_.length : Int)), (37, .int .i64 i2), (66, .bool x12)] ?_ ?_
                    · rcases Bool.eq_false_or_eq_true (!s3.2) with hb7 | hb7
                      · refine QRun_bool (!s3.2) true (by kernel_rfl) (fun w => by kernel_rfl) hb7 ?_
                        have gx12 := M.ret_some ((M.ite_some gx12).1 hb7)
                        refine QRun_n (by kernel_rfl) ?_
                        refine QRun_n (by kernel_rfl) ?_
                        refine QRun_n (by kernel_rfl) ?_
                        refine QRun_n (by kernel_rfl) ?_
                        refine QRun_n (by kernel_rfl) ?_
                        refine QRun_n (by kernel_rfl) ?_
                        refine QRun_bool true x12 (by kernel_rfl) (fun w => by kernel_rfl) gx12 ?_
                        exact QRun_done [0, 1, 6, 7, 8, 11, 31, 32, 35, 36, 37, 66] (by kernel_rfl) (by kernel_rfl)
                      · refine QRun_bool (!s3.2) false (by kernel_rfl) (fun w => by kernel_rfl) hb7 ?_
                        have gx12 := (M.ite_some gx12).2 hb7
                        obtain ⟨x13, hx9, gx12⟩ := M.bind_some gx12
                        obtain ⟨hx9l, hx9u, hx9⟩ := M.idx_some hx9
                        have gx12 := M.ret_some gx12
                        refine QRun_b [.int .i64 x11, .slice a2 l1.length l1.length, .int .i64 i1] 3 _ (by kernel_rfl) (fun w => by kernel_rfl) ?_
                        refine QRun_y (.pointer (some (adr a2 (i1.toNat * 1)))) (by kernel_rfl) (Y_idx (t := 23) (e := 2) (sz := 1) (a := a2) (n := l1.length) (cap := l1.length) (kk := .i64) (i := i1) (by kernel_rfl) Try.underlying23 (by kernel_rfl) ((H8.rd 0 rfl).cell hx9).1 hx9l (by rw [← (H8.len 0 rfl)]; exact hx9u)) ?_
                        refine QRun_y (.int .i64 x13) (by kernel_rfl) (Y_load1 (t := 2) (p := adr a2 (i1.toNat * 1)) (v := .int .i64 x13) (by kernel_rfl) (fun w => by kernel_rfl) (cd2_cell (H8.rd 0 rfl) hx9)) ?_
                        refine QRun_b [.bool (decide (x11 < x13))] 8 _ (by kernel_rfl) (fun w => by kernel_rfl) ?_
                        refine QRun_bool (decide (x11 < x13)) x12 (by kernel_rfl) (fun w => by kernel_rfl) gx12 ?_
                        exact QRun_done [0, 1, 6, 7, 8, 11, 31, 32, 35, 36, 37, 66] (by kernel_rfl) (by kernel_rfl)
                    exact QRun_done [0, 1, 6, 7, 8, 11, 31, 32, 35, 36, 37, 66] (by kernel_rfl) (by kernel_rfl)
                  refine Run_cond (b := x12) (by kernel_rfl) (fun hb8 => ?_) (fun hb8 => ?_)
                  · have gs4 := (M.ite_some gs4).1 hb8
                    refine Run_ops ?_
                    obtain ⟨x14, hx10, gs4⟩ := M.bind_some gs4
                    obtain ⟨hx10l, hx10u, hx10⟩ := M.idx_some hx10
                    refine Run_b [.slice a2 l1.length l1.length, .int .i64 i1, .int .i64 x11] 0 _ (by kernel_rfl) (fun w => by kernel_rfl) ?_
                    refine Run_y (.pointer (some (adr a2 (i1.toNat * 1)))) (by kernel_rfl) (Y_idx (t := 23) (e := 2) (sz := 1) (a := a2) (n := l1.length) (cap := l1.length) (kk := .i64) (i := i1) (by kernel_rfl) Try.underlying23 (by kernel_rfl) ((H8.rd 0 rfl).cell hx10).1 hx10l (by rw [← (H8.len 0 rfl)]; exact hx10u)) ?_
                    obtain ⟨l2, hu1, gs4⟩ := M.bind_some gs4
                    have hu1 := M.upd_some hu1
                    refine Run_E (by kernel_rfl) ?_
                    refine E_put (C := cd2) (t := 2) (sz := 1) (j := i1) (x := x11) (v := .int .i64 x11) H8 cd2_flat (by kernel_rfl) rfl (cd2_own _) (by kernel_rfl) hu1 (fun h7 H10 => ?_)
                    refine Run_b [.bool true] 5 _ (by kernel_rfl) (fun w => by kernel_rfl) ?_
                    refine Run_nil (by kernel_rfl) ?_
                    refine Run_keep [0, 1, 6, 7, 8, 31, 32, 35, 36, 37] (L' := [(0, .slice aa_ a_.length ca_), (1, .slice ab b.length cb), (6, .slice a2 l1.length l1.length), (7, .int .i64 i1), (8, .bool true), (31, .int .i64 (l1.length : Int)), (32, .int .i64 i1), (35, .slice aa_ a_.length ca_), (36, .int .i64 (a_.length : Int)), (37, .int .i64 i2)]) (by kernel_rfl) ?_
                    refine Run_blk ?_
                    have gs4 := M.ret_some gs4
                    subst gs4
                    exact Run_fall [0, 1, 6, 7, 8, 31, 32, 35, 36, 37] (by kernel_rfl) ⟨rfl, H10⟩
                  · have gs4 := (M.ite_some gs4).2 hb8
                    refine Run_skip ?_
                    refine Run_blk ?_
                    have gs4 := M.ret_some gs4
                    subst gs4
                    exact Run_fall [0, 1, 6, 7, 8, 31, 32, 35, 36, 37] (by kernel_rfl) ⟨rfl, H8⟩
            · have gx6 := M.for_end gx6 hb5
              subst gx6
              refine Run_exit (k' := _) rfl ?_
              exact Run_fall [0, 1, 6, 8, 31, 32] (by kernel_rfl) ⟨rfl, H8⟩
        · have gx5 := M.for_end gx5 hb4
          subst gx5
          refine Run_exit (k' := _) rfl ?_
          exact Run_fall [6] (by kernel_rfl) ⟨s1, rfl, rfl, H6⟩

set_option maxRecDepth 100000 in
set_option maxHeartbeats 4000000 in
theorem w_impl_leftQuotient (h : Heap) (a_ : List (List Int)) (aa_ : Option Addr) (ca_ : Nat) (ra_ : Rd cd23 h (Lt h) aa_ ca_ a_) (b : List (List Int)) (ab : Option Addr) (cb : Nat) (rb : Rd cd23 h (Lt h) ab cb b) (n : Nat) (r : (List (List Int)) × Int) (hF : impl_leftQuotient a_ b n = some r) :
    Fn Try.prog 73 #[.slice aa_ a_.length ca_, .slice ab b.length cb] h fun v h' => ∃ (a0 : Option Addr) (c0 : Nat), v = .tuple #[.slice a0 r.1.length c0, .int .i64 r.2] ∧ Hold h h' [own cd23 a0 r.1.length c0 r.1] := by
  unfold impl_leftQuotient at hF
  refine Fn_enter (args := [.slice aa_ a_.length ca_, .slice ab b.length cb]) Try.func73 rfl (by kernel_rfl) (by kernel_rfl) (fun w0 _ => ?_)
  have H0 := Hold.init h
  refine Run_seq ?_
  refine Run_reg 2 (by kernel_rfl) (L' := [(0, .slice aa_ a_.length ca_), (1, .slice ab b.length cb)]) ?_ ?_
  · refine QRun_b [.slice none 0 0, .int .i64 0] 0 _ (by kernel_rfl) (fun w => by kernel_rfl) ?_
    exact QRun_done [0, 1] (by kernel_rfl) (by kernel_rfl)
  refine Run_seq ?_
  refine Run_seq ?_
  obtain ⟨x1, hx1, hF⟩ := M.bind_some hF
  obtain ⟨x2, gx2, hF⟩ := M.bind_some hF
  refine Run_regC (j := 8) (C := fun x => Hold h x []) (by kernel_rfl) H0 (L' := [(0, .slice aa_ a_.length ca_), (1, .slice ab b.length cb), (18, .bool x2)]) ?_ (fun h1 H1 => ?_)
  · refine QRun_b [.slice aa_ a_.length ca_] 0 _ (by kernel_rfl) (fun w => by kernel_rfl) ?_
    refine QRun_y (.bool x1) (by kernel_rfl) (Y_call (f := 75) (args := #[.slice aa_ a_.length ca_]) (v := .bool x1) (by kernel_rfl) fun hx Hx => (w_impl_IsMatrix hx a_ aa_ ca_ (ra_.at Hx.ext) _ _ hx1).mono fun _ _ ⟨e, H'⟩ => ⟨e, Hx.call H' rfl⟩) ?_
    refine QRun_b [.bool (!x1)] 2 _ (by kernel_rfl) (fun w => by kernel_rfl) ?_
    refine QRun_seq 8 [(0, .slice aa_ a_.length ca_), (1, .slice ab b.length cb), (18, .bool x2)] ?_ ?_
    · rcases Bool.eq_false_or_eq_true (!x1) with hb1 | hb1
      · refine QRun_bool (!x1) true (by kernel_rfl) (fun w => by kernel_rfl) hb1 ?_
        have gx2 := M.ret_some ((M.ite_some gx2).1 hb1)
        refine QRun_n (by kernel_rfl) ?_
        refine QRun_n (by kernel_rfl) ?_
        refine QRun_n (by kernel_rfl) ?_
        refine QRun_bool true x2 (by kernel_rfl) (fun w => by kernel_rfl) gx2 ?_
        exact QRun_done [0, 1, 18] (by kernel_rfl) (by kernel_rfl)
      · refine QRun_bool (!x1) false (by kernel_rfl) (fun w => by kernel_rfl) hb1 ?_
        have gx2 := (M.ite_some gx2).2 hb1
        obtain ⟨x3, hx2, gx2⟩ := M.bind_some gx2
        have gx2 := M.ret_some gx2
        refine QRun_b [.slice ab b.length cb] 4 _ (by kernel_rfl) (fun w => by kernel_rfl) ?_
        refine QRun_y (.bool x3) (by kernel_rfl) (Y_call (f := 75) (args := #[.slice ab b.length cb]) (v := .bool x3) (by kernel_rfl) fun hx Hx => (w_impl_IsMatrix hx b ab cb (rb.at Hx.ext) _ _ hx2).mono fun _ _ ⟨e, H'⟩ => ⟨e, Hx.call H' rfl⟩) ?_
        refine QRun_b [.bool (!x3)] 6 _ (by kernel_rfl) (fun w => by kernel_rfl) ?_
        refine QRun_bool (!x3) x2 (by kernel_rfl) (fun w => by kernel_rfl) gx2 ?_
        exact QRun_done [0, 1, 18] (by kernel_rfl) (by kernel_rfl)
    exact QRun_done [0, 1, 18] (by kernel_rfl) (by kernel_rfl)
  have H2 : Hold h h1 [] := H1
  refine Run_cond (b := x2) (by kernel_rfl) (fun hb2 => ?_) (fun hb2 => ?_)
  · have hF := (M.ite_some hF).1 hb2
    refine Run_seq ?_
    refine Run_reg 2 (by kernel_rfl) (L' := [(4, .slice none 0 0), (5, .int .i64 1)]) ?_ ?_
    · refine QRun_b [.slice none 0 0, .int .i64 1] 0 _ (by kernel_rfl) (fun w => by kernel_rfl) ?_
      exact QRun_done [4, 5] (by kernel_rfl) (by kernel_rfl)
    have hF := M.ret_some hF
    subst hF
    have H3 := H2.empty cd23
    exact Run_ret2 rfl (ResV_tmp (v := .slice none 0 0) (by kernel_rfl)) (ResV_tmp (v := .int .i64 1) (by kernel_rfl)) ⟨none, 0, rfl, H3⟩
  · have hF := (M.ite_some hF).2 hb2
    refine Run_skip ?_
    refine Run_seq ?_
    refine Run_seq ?_
    refine Run_reg 5 (by kernel_rfl) (L' := [(0, .slice aa_ a_.length ca_), (1, .slice ab b.length cb), (23, .bool ((a_.length : Int) != (b.length : Int)))]) ?_ ?_
    · refine QRun_b [.slice aa_ a_.length ca_, .int .i64 (a_.length : Int), .slice ab b.length cb, .int .i64 (b.length : Int), .bool ((a_.length : Int) != (b.length : Int))] 0 _ (by kernel_rfl) (fun w => by kernel_rfl) ?_
      exact QRun_done [0, 1, 23] (by kernel_rfl) (by kernel_rfl)
    refine Run_cond (b := (a_.length : Int) != (b.length : Int)) (by kernel_rfl) (fun hb3 => ?_) (fun hb3 => ?_)
    · have hF := (M.ite_some hF).1 hb3
      refine Run_seq ?_
      refine Run_reg 2 (by kernel_rfl) (L' := [(4, .slice none 0 0), (5, .int .i64 5)]) ?_ ?_
      · refine QRun_b [.slice none 0 0, .int .i64 5] 0 _ (by kernel_rfl) (fun w => by kernel_rfl) ?_
        exact QRun_done [4, 5] (by kernel_rfl) (by kernel_rfl)
      have hF := M.ret_some hF
      subst hF
      have H4 := H2.empty cd23
      exact Run_ret2 rfl (ResV_tmp (v := .slice none 0 0) (by kernel_rfl)) (ResV_tmp (v := .int .i64 5) (by kernel_rfl)) ⟨none, 0, rfl, H4⟩
    · have hF := (M.ite_some hF).2 hb3
      refine Run_skip ?_
      refine Run_seq ?_
      refine Run_reg 1 (by kernel_rfl) (L' := [(0, .slice aa_ a_.length ca_), (1, .slice ab b.length cb), (6, .slice none 0 0)]) ?_ ?_
      · refine QRun_b [.slice none 0 0] 0 _ (by kernel_rfl) (fun w => by kernel_rfl) ?_
        exact QRun_done [0, 1, 6] (by kernel_rfl) (by kernel_rfl)
      refine Run_seq ?_
      refine Run_seq ?_
      refine Run_ops ?_
      refine Run_b [.slice ab b.length cb] 0 _ (by kernel_rfl) (fun w => by kernel_rfl) ?_
      obtain ⟨x4, hx3, hF⟩ := M.bind_some hF
      refine Run_E (by kernel_rfl) ?_
      refine E_call (f := 76) (args := #[.slice ab b.length cb]) (w_impl_transposed h1 b ab cb (rb.at H2.ext) _ _ hx3) (by kernel_rfl) (fun v1 h2 hp1 => ?_)
      obtain ⟨a1, c1, rfl, H5⟩ := hp1
      have H6 : Hold h h2 [own cd23 a1 x4.length c1 x4] := H2.call H5 rfl
      refine Run_b [.int .i64 (x4.length : Int), .int .i64 0] 2 _ (by kernel_rfl) (fun w => by kernel_rfl) ?_
      refine Run_nil (by kernel_rfl) ?_
      refine Run_keep [0, 6, 25, 26, 27] (L' := [(0, .slice aa_ a_.length ca_), (6, .slice none 0 0), (25, .slice a1 x4.length c1), (26, .int .i64 (x4.length : Int)), (27, .int .i64 0)]) (by kernel_rfl) ?_
      obtain ⟨x5, gx5, hF⟩ := M.bind_some hF
      obtain ⟨hloy1, hhiy1, gx5⟩ := M.for_start gx5
      refine Run_join (fun L' h' => ∃ (s2 : (List (List Int))) (a3 : Option Addr) (c3 : Nat), x5 = .inl s2 ∧ L' = [(6, .slice a3 s2.length c3)] ∧ Hold h h' [own cd23 a3 s2.length c3 s2]) ?_ ?_
      · rintro _ h4 ⟨s2, a3, c3, es2, rfl, H8⟩
        have hF := M.cont_inl' hF es2
        refine Run_seq ?_
        refine Run_ops ?_
        refine Run_b [.slice a3 s2.length c3] 0 _ (by kernel_rfl) (fun w => by kernel_rfl) ?_
        obtain ⟨x8, hx6, hF⟩ := M.bind_some hF
        refine Run_E (by kernel_rfl) ?_
        refine E_call (f := 76) (args := #[.slice a3 s2.length c3]) (w_impl_transposed h4 s2 a3 c3 (H8.rd 0 rfl) _ _ hx6) (by kernel_rfl) (fun v3 h8 hp3 => ?_)
        obtain ⟨a8, c7, rfl, H26⟩ := hp3
        have H27 : Hold h h8 [own cd23 a8 x8.length c7 x8, own cd23 a3 s2.length c3 s2] := H8.call H26 rfl
        refine Run_b [.slice a8 x8.length c7, .int .i64 0] 2 _ (by kernel_rfl) (fun w => by kernel_rfl) ?_
        refine Run_nil (by kernel_rfl) ?_
        refine Run_keep [4, 5] (L' := [(4, .slice a8 x8.length c7), (5, .int .i64 0)]) (by kernel_rfl) ?_
        have hF := M.ret_some hF
        subst hF
        have H28 : Hold h h8 [own cd23 a8 x8.length c7 x8] := H27.pick [0] (by kernel_rfl)
        exact Run_ret2 rfl (ResV_tmp (v := .slice a8 x8.length c7) (by kernel_rfl)) (ResV_tmp (v := .int .i64 0) (by kernel_rfl)) ⟨a8, c7, rfl, H28⟩
      · refine Run_block ?_
        have H29 := H6.empty cd23
        refine Run_keep [0, 6, 25, 26, 27] (L' := [(0, .slice aa_ a_.length ca_), (6, .slice none 0 0), (25, .slice a1 x4.length c1), (26, .int .i64 (x4.length : Int)), (27, .int .i64 0)]) (by kernel_rfl) ?_
        refine Run_loop (fun m L' h' => ∃ (i1 : Int) (s1 : (List (List Int))) (a2 : Option Addr) (c2 : Nat), 0 ≤ i1 ∧ M.forN (x4.length : Int) _ _ n m i1 s1 = some x5 ∧ L' = [(0, .slice aa_ a_.length ca_), (6, .slice a2 s1.length c2), (25, .slice a1 x4.length c1), (26, .int .i64 (x4.length : Int)), (27, .int .i64 i1)] ∧ Hold h h' [own cd23 a2 s1.length c2 s1, own cd23 a1 x4.length c1 x4]) ((x4.length : Int) - 0).toNat ⟨0, [], none, 0, Int.le_refl _, gx5, rfl, H29⟩ ?_
        rintro my1 _ h3 ⟨i1, s1, a2, c2, hloy1', gx5, rfl, H7⟩
        refine Run_seq ?_
        refine Run_reg 1 (by kernel_rfl) (L' := [(0, .slice aa_ a_.length ca_), (6, .slice a2 s1.length c2), (25, .slice a1 x4.length c1), (26, .int .i64 (x4.length : Int)), (27, .int .i64 i1), (28, .bool (decide (i1 < (x4.length : Int))))]) ?_ ?_
        · refine QRun_b [.bool (decide (i1 < (x4.length : Int)))] 0 _ (by kernel_rfl) (fun w => by kernel_rfl) ?_
          exact QRun_done [0, 6, 25, 26, 27, 28] (by kernel_rfl) (by kernel_rfl)
        refine Run_seq ?_
        refine Run_cond (b := decide (i1 < (x4.length : Int))) (by kernel_rfl) (fun hb4 => ?_) (fun hb4 => ?_)
        · obtain ⟨my1, y1, rfl, hB1, hgoy1, houty1⟩ := M.for_go gx5 hb4
          have hlty1 := of_decide_eq_true hb4
          refine Run_skip ?_
          refine Run_seq ?_
          refine Run_block ?_
          refine Run_seq ?_
          obtain ⟨x6, hx4, hB1⟩ := M.bind_some hB1
          obtain ⟨hx4l, hx4u, hx4⟩ := M.idx_some hx4
          have H9 : Hold h h3 [own cd23 a1 x4.length c1 x4, own cd23 a2 s1.length c2 s1] := H7.pick [1, 0] (by kernel_rfl)
          have H10 := H9.toRows
          obtain ⟨a4, c4, H11⟩ := H10.pinRow hx4
          have H12 : Hold h h3 [own cd23 a2 s1.length c2 s1, rowsP cd2 23 a1 x4.length c1 x4 [(i1.toNat, a4, x6.length, c4, x6)]] := H11.pick [1, 0] (by kernel_rfl)
          refine Run_reg 3 (by kernel_rfl) (L' := [(0, .slice aa_ a_.length ca_), (6, .slice a2 s1.length c2), (8, .slice a4 x6.length c4), (25, .slice a1 x4.length c1), (26, .int .i64 (x4.length : Int)), (27, .int .i64 i1)]) ?_ ?_
          · refine QRun_y (.pointer (some (adr a1 (i1.toNat * 1)))) (by kernel_rfl) (Y_idx (t := 22) (e := 23) (sz := 1) (a := a1) (n := x4.length) (cap := c1) (kk := .i64) (i := i1) (by kernel_rfl) Try.underlying22 (by kernel_rfl) ((H7.rd 1 rfl).cell hx4).1 hx4l hx4u) ?_
            refine QRun_y (.slice a4 x6.length c4) (by kernel_rfl) (Y_load1 (t := 23) (p := adr a1 (i1.toNat * 1)) (v := .slice a4 x6.length c4) (by kernel_rfl) (fun w => by kernel_rfl) (H12.cellPin 1 rfl 0 rfl)) ?_
            refine QRun_b [.slice a4 x6.length c4] 2 _ (by kernel_rfl) (fun w => by kernel_rfl) ?_
            exact QRun_done [0, 6, 8, 25, 26, 27] (by kernel_rfl) (by kernel_rfl)
          refine Run_seq ?_
          refine Run_ops ?_
          refine Run_b [.slice aa_ a_.length ca_, .slice a4 x6.length c4] 0 _ (by kernel_rfl) (fun w => by kernel_rfl) ?_
          obtain ⟨x7, hx5, hB1⟩ := M.bind_some hB1
          refine Run_E (by kernel_rfl) ?_
          refine E_call (f := 61) (args := #[.slice aa_ a_.length ca_, .slice a4 x6.length c4]) (w_impl_greatestSub h3 a_ aa_ ca_ (ra_.at H12.ext) x6 a4 c4 (H12.rdPin 1 rfl 0 rfl) _ _ hx5) (by kernel_rfl) (fun v2 h5 hp2 => ?_)
          obtain ⟨a5, c5, rfl, H13⟩ := hp2
          have H14 : Hold h h5 [own cd2 a5 x7.1.length c5 x7.1, own cd23 a2 s1.length c2 s1, rowsP cd2 23 a1 x4.length c1 x4 [(i1.toNat, a4, x6.length, c4, x6)]] := H12.call H13 rfl
          refine Run_b [.tuple #[.slice a5 x7.1.length c5, .int .i64 x7.2], .slice a5 x7.1.length c5, .int .i64 x7.2, .slice a5 x7.1.length c5, .int .i64 x7.2] 3 _ (by kernel_rfl) (fun w => by kernel_rfl) ?_
          refine Run_nil (by kernel_rfl) ?_
          refine Run_keep [0, 6, 9, 10, 25, 26, 27] (L' := [(0, .slice aa_ a_.length ca_), (6, .slice a2 s1.length c2), (9, .slice a5 x7.1.length c5), (10, .int .i64 x7.2), (25, .slice a1 x4.length c1), (26, .int .i64 (x4.length : Int)), (27, .int .i64 i1)]) (by kernel_rfl) ?_
          refine Run_seq ?_
          refine Run_seq ?_
          refine Run_reg 2 (by kernel_rfl) (L' := [(0, .slice aa_ a_.length ca_), (6, .slice a2 s1.length c2), (9, .slice a5 x7.1.length c5), (10, .int .i64 x7.2), (25, .slice a1 x4.length c1), (26, .int .i64 (x4.length : Int)), (27, .int .i64 i1), (38, .bool (x7.2 != 0))]) ?_ ?_
          · refine QRun_b [.int .i64 x7.2, .bool (x7.2 != 0)] 0 _ (by kernel_rfl) (fun w => by kernel_rfl) ?_
            exact QRun_done [0, 6, 9, 10, 25, 26, 27, 38] (by kernel_rfl) (by kernel_rfl)
          refine Run_cond (b := x7.2 != 0) (by kernel_rfl) (fun hb5 => ?_) (fun hb5 => ?_)
          · have hB1 := (M.ite_some hB1).1 hb5
            refine Run_seq ?_
            refine Run_reg 3 (by kernel_rfl) (L' := [(4, .slice none 0 0), (5, .int .i64 x7.2)]) ?_ ?_
            · refine QRun_b [.int .i64 x7.2, .slice none 0 0, .int .i64 x7.2] 0 _ (by kernel_rfl) (fun w => by kernel_rfl) ?_
              exact QRun_done [4, 5] (by kernel_rfl) (by kernel_rfl)
            have hB1 := M.ret_some hB1
            have gx5 := houty1 _ hB1.symm
            have hF := M.cont_inr' hF gx5
            have hF := M.ret_some hF
            subst hF
            have H15 := H14.empty cd23
            have H16 : Hold h h5 [own cd23 none 0 0 []] := H15.pick [0] (by kernel_rfl)
            exact Run_ret2 rfl (ResV_tmp (v := .slice none 0 0) (by kernel_rfl)) (ResV_tmp (v := .int .i64 x7.2) (by kernel_rfl)) ⟨none, 0, rfl, H16⟩
          · have hB1 := (M.ite_some hB1).2 hb5
            refine Run_skip ?_
            refine Run_ops ?_
            refine Run_b [.slice a2 s1.length c2, .slice a5 x7.1.length c5] 0 _ (by kernel_rfl) (fun w => by kernel_rfl) ?_
            refine Run_E (by kernel_rfl) ?_
            refine E_lit1 (ey := 23) (n := x7.1.length) H14 (fun w => by kernel_rfl) rfl (fun a6 h6 H17 => ?_)
            obtain ⟨l1, hl1, hB1⟩ := M.bind_some hB1
            have hl1 := M.app_some hl1
            have H18 : Hold h h6 [own cd23 a2 s1.length c2 s1, own cd23 a6 1 1 [x7.1], rowsP cd2 23 a1 x4.length c1 x4 [(i1.toNat, a4, x6.length, c4, x6)]] := H17.pick [1, 0, 2] (by kernel_rfl)
            have H19 : Hold h h6 [own cd23 a6 1 1 [x7.1], own cd23 a2 s1.length c2 s1, rowsP cd2 23 a1 x4.length c1 x4 [(i1.toNat, a4, x6.length, c4, x6)]] := H18.pick [1, 0, 2] (by kernel_rfl)
            have H20 : Hold h h6 [own cd23 a2 s1.length c2 s1, own cd23 a6 1 1 [x7.1], rowsP cd2 23 a1 x4.length c1 x4 [(i1.toNat, a4, x6.length, c4, x6)]] := H19.pick [1, 0, 2] (by kernel_rfl)
            refine Run_E (by kernel_rfl) ?_
            refine E_app (C := cd23) (t := 22) (ty := 22) (n := s1.length) (m := 1) H20 cd23_ti rfl Try.underlying22 (by decide) (by kernel_rfl) hl1 (fun a7 c6 h7 H21 => ?_)
            refine Run_b [.slice a7 l1.length c6] 4 _ (by kernel_rfl) (fun w => by kernel_rfl) ?_
            refine Run_nil (by kernel_rfl) ?_
            refine Run_keep [0, 6, 25, 26, 27] (L' := [(0, .slice aa_ a_.length ca_), (6, .slice a7 l1.length c6), (25, .slice a1 x4.length c1), (26, .int .i64 (x4.length : Int)), (27, .int .i64 i1)]) (by kernel_rfl) ?_
            refine Run_blk ?_
            refine Run_reg 2 (by kernel_rfl) (L' := [(0, .slice aa_ a_.length ca_), (6, .slice a7 l1.length c6), (25, .slice a1 x4.length c1), (26, .int .i64 (x4.length : Int)), (27, .int .i64 (i1 + 1))]) ?_ ?_
            · refine QRun_y (.int .i64 (i1 + 1)) (by kernel_rfl) (Y_eq (v := .int .i64 (w64 (i1 + 1))) (Y_pure (fun w => by kernel_rfl)) (by rw [w64_eq _ (by omega)])) ?_
              refine QRun_b [.int .i64 (i1 + 1)] 1 _ (by kernel_rfl) (fun w => by kernel_rfl) ?_
              exact QRun_done [0, 6, 25, 26, 27] (by kernel_rfl) (by kernel_rfl)
            have H22 : Hold h h7 [rowsP cd2 23 a1 x4.length c1 x4 [(i1.toNat, a4, x6.length, c4, x6)], own cd23 a7 l1.length c6 l1] := H21.pick [1, 0] (by kernel_rfl)
            have H23 := H22.ofRows
            have H24 : Hold h h7 [own cd23 a7 l1.length c6 l1, own cd23 a1 x4.length c1 x4] := H23.pick [1, 0] (by kernel_rfl)
            have hB1 := M.ret_some hB1
            have gx5 := hgoy1 _ hB1.symm
            exact Run_again [0, 6, 25, 26, 27] (by kernel_rfl) my1 (Nat.lt_succ_self _) ⟨i1 + 1, l1, a7, c6, by omega, gx5, rfl, H24⟩
        · have gx5 := M.for_end gx5 hb4
          subst gx5
          refine Run_exit (k' := _) rfl ?_
          have H25 : Hold h h3 [own cd23 a2 s1.length c2 s1] := H7.pick [0] (by kernel_rfl)
          exact Run_fall [6] (by kernel_rfl) ⟨s1, a2, c2, rfl, rfl, H25⟩

set_option maxRecDepth 100000 in
set_option maxHeartbeats 4000000 in
theorem w_impl_checkedMatrix_1 (h : Heap) (row : List Int) {Srow : Bs} (arow : Option Addr) (crow : Nat) (rrow : Rd cd2 h Srow arow crow row) (n : Nat) (r : Bool) (hF : impl_checkedMatrix_1 row n = some r) :
    Fn Try.prog 105 #[.slice arow row.length crow] h fun v h' => v = .bool r ∧ h' = h := by
  unfold impl_checkedMatrix_1 at hF
  refine Fn_enter (args := [.slice arow row.length crow]) Try.func105 rfl (by kernel_rfl) (by kernel_rfl) (fun w0 _ => ?_)
  refine Run_seq ?_
  refine Run_reg 1 (by kernel_rfl) (L' := [(0, .slice arow row.length crow)]) ?_ ?_
  · refine QRun_b [.bool false] 0 _ (by kernel_rfl) (fun w => by kernel_rfl) ?_
    exact QRun_done [0] (by kernel_rfl) (by kernel_rfl)
  refine Run_seq ?_
  obtain ⟨x1, hx1, hF⟩ := M.bind_some hF
  refine Run_reg 4 (by kernel_rfl) (L' := [(2, .bool (!x1))]) ?_ ?_
  · refine QRun_b [.slice arow row.length crow] 0 _ (by kernel_rfl) (fun w => by kernel_rfl) ?_
    refine QRun_y (.bool x1) (by kernel_rfl) (Y_callq (f := 101) (args := #[.slice arow row.length crow]) (v := .bool x1) (by kernel_rfl) (w_impl_areValues h row arow crow rrow _ _ hx1)) ?_
    refine QRun_b [.bool (!x1), .bool (!x1)] 2 _ (by kernel_rfl) (fun w => by kernel_rfl) ?_
    exact QRun_done [2] (by kernel_rfl) (by kernel_rfl)
  have hF := M.ret_some hF
  subst hF
  exact Run_ret1 rfl (ResV_tmp (v := .bool (!x1)) (by kernel_rfl)) ⟨rfl, rfl⟩

set_option maxRecDepth 100000 in
set_option maxHeartbeats 4000000 in
theorem w_slices_IndexFunc_row_F_impl_checkedMatrix_1 (h : Heap) (s_ : List (List Int)) {Ss_ : Bs} (as_ : Option Addr) (cs_ : Nat) (rs_ : Rd cd23 h Ss_ as_ cs_ s_) (n : Nat) (r : Int) (hF : slices_IndexFunc_row_F_impl_checkedMatrix_1 s_ n = some r) :
    Fn Try.prog 128 #[.slice as_ s_.length cs_, .func (.func 105) #[] #[]] h fun v h' => v = .int .i64 r ∧ h' = h := by
  unfold slices_IndexFunc_row_F_impl_checkedMatrix_1 at hF
  refine Fn_enter (args := [.slice as_ s_.length cs_, .func (.func 105) #[] #[]]) Try.func128 rfl (by kernel_rfl) (by kernel_rfl) (fun w0 _ => ?_)
  refine Run_seq ?_
  refine Run_reg 1 (by kernel_rfl) (L' := [(0, .slice as_ s_.length cs_), (1, .func (.func 105) #[] #[])]) ?_ ?_
  · refine QRun_b [.int .i64 0] 0 _ (by kernel_rfl) (fun w => by kernel_rfl) ?_
    exact QRun_done [0, 1] (by kernel_rfl) (by kernel_rfl)
  refine Run_seq ?_
  refine Run_seq ?_
  refine Run_reg 3 (by kernel_rfl) (L' := [(0, .slice as_ s_.length cs_), (1, .func (.func 105) #[] #[]), (7, .int .i64 (s_.length : Int)), (8, .int .i64 0)]) ?_ ?_
  · refine QRun_b [.slice as_ s_.length cs_, .int .i64 (s_.length : Int), .int .i64 0] 0 _ (by kernel_rfl) (fun w => by kernel_rfl) ?_
    exact QRun_done [0, 1, 7, 8] (by kernel_rfl) (by kernel_rfl)
  obtain ⟨x1, gx1, hF⟩ := M.bind_some hF
  obtain ⟨hloy1, hhiy1, gx1⟩ := M.for_start gx1
  refine Run_join (fun L' h' => ∃ (s2 : Unit), x1 = .inl s2 ∧ L' = [] ∧ h = h') ?_ ?_
  · rintro _ _ ⟨s2, es2, rfl, rfl⟩
    have hF := M.cont_inl' hF es2
    refine Run_seq ?_
    refine Run_reg 1 (by kernel_rfl) (L' := [(4, .int .i64 (-1))]) ?_ ?_
    · refine QRun_b [.int .i64 (-1)] 0 _ (by kernel_rfl) (fun w => by kernel_rfl) ?_
      exact QRun_done [4] (by kernel_rfl) (by kernel_rfl)
    have hF := M.ret_some hF
    subst hF
    exact Run_ret1 rfl (ResV_tmp (v := .int .i64 (-1)) (by kernel_rfl)) ⟨rfl, rfl⟩
  · refine Run_block ?_
    refine Run_keep [0, 1, 7, 8] (L' := [(0, .slice as_ s_.length cs_), (1, .func (.func 105) #[] #[]), (7, .int .i64 (s_.length : Int)), (8, .int .i64 0)]) (by kernel_rfl) ?_
    refine Run_loop (fun m L' h' => ∃ (i1 : Int) (s1 : Unit), 0 ≤ i1 ∧ M.forN (s_.length : Int) _ _ n m i1 s1 = some x1 ∧ L' = [(0, .slice as_ s_.length cs_), (1, .func (.func 105) #[] #[]), (7, .int .i64 (s_.length : Int)), (8, .int .i64 i1)] ∧ h = h') ((s_.length : Int) - 0).toNat ⟨0, (), Int.le_refl _, gx1, rfl, rfl⟩ ?_
    rintro my1 _ _ ⟨i1, s1, hloy1', gx1, rfl, rfl⟩
    refine Run_seq ?_
    refine Run_reg 1 (by kernel_rfl) (L' := [(0, .slice as_ s_.length cs_), (1, .func (.func 105) #[] #[]), (7, .int .i64 (s_.length : Int)), (8, .int .i64 i1), (9, .bool (decide (i1 < (s_.length : Int))))]) ?_ ?_
    · refine QRun_b [.bool (decide (i1 < (s_.length : Int)))] 0 _ (by kernel_rfl) (fun w => by kernel_rfl) ?_
      exact QRun_done [0, 1, 7, 8, 9] (by kernel_rfl) (by kernel_rfl)
    refine Run_seq ?_
    refine Run_cond (b := decide (i1 < (s_.length : Int))) (by kernel_rfl) (fun hb1 => ?_) (fun hb1 => ?_)
    · obtain ⟨my1, y1, rfl, hB1, hgoy1, houty1⟩ := M.for_go gx1 hb1
      have hlty1 := of_decide_eq_true hb1
      refine Run_skip ?_
      refine Run_seq ?_
      refine Run_block ?_
      refine Run_seq ?_
      refine Run_reg 2 (by kernel_rfl) (L' := [(0, .slice as_ s_.length cs_), (1, .func (.func 105) #[] #[]), (5, .int .i64 i1), (7, .int .i64 (s_.length : Int)), (8, .int .i64 i1)]) ?_ ?_
      · refine QRun_b [.int .i64 i1, .int .i64 i1] 0 _ (by kernel_rfl) (fun w => by kernel_rfl) ?_
        exact QRun_done [0, 1, 5, 7, 8] (by kernel_rfl) (by kernel_rfl)
      refine Run_seq ?_
      obtain ⟨x2, hx1, hB1⟩ := M.bind_some hB1
      obtain ⟨hx1l, hx1u, hx1⟩ := M.idx_some hx1
      obtain ⟨a1, c1, hc1, r1⟩ := rs_.row hx1
      obtain ⟨x3, hx2, hB1⟩ := M.bind_some hB1
      refine Run_reg 6 (by kernel_rfl) (L' := [(0, .slice as_ s_.length cs_), (1, .func (.func 105) #[] #[]), (5, .int .i64 i1), (7, .int .i64 (s_.length : Int)), (8, .int .i64 i1), (16, .bool x3)]) ?_ ?_
      · refine QRun_b [.func (.func 105) #[] #[], .slice as_ s_.length cs_, .int .i64 i1] 0 _ (by kernel_rfl) (fun w => by kernel_rfl) ?_
        refine QRun_y (.pointer (some (adr as_ (i1.toNat * 1)))) (by kernel_rfl) (Y_idx (t := 22) (e := 23) (sz := 1) (a := as_) (n := s_.length) (cap := cs_) (kk := .i64) (i := i1) (by kernel_rfl) Try.underlying22 (by kernel_rfl) (rs_.cell hx1).1 hx1l hx1u) ?_
        refine QRun_y (.slice a1 x2.length c1) (by kernel_rfl) (Y_load1 (t := 23) (p := adr as_ (i1.toNat * 1)) (v := .slice a1 x2.length c1) (by kernel_rfl) (fun w => by kernel_rfl) hc1) ?_
        refine QRun_y (.bool x3) (by kernel_rfl) (Y_callq (f := 105) (args := #[.slice a1 x2.length c1]) (v := .bool x3) (by kernel_rfl) (w_impl_checkedMatrix_1 h x2 a1 c1 r1 _ _ hx2)) ?_
        exact QRun_done [0, 1, 5, 7, 8, 16] (by kernel_rfl) (by kernel_rfl)
      refine Run_cond (b := x3) (by kernel_rfl) (fun hb2 => ?_) (fun hb2 => ?_)
      · have hB1 := (M.ite_some hB1).1 hb2
        refine Run_seq ?_
        refine Run_reg 2 (by kernel_rfl) (L' := [(4, .int .i64 i1)]) ?_ ?_
        · refine QRun_b [.int .i64 i1, .int .i64 i1] 0 _ (by kernel_rfl) (fun w => by kernel_rfl) ?_
          exact QRun_done [4] (by kernel_rfl) (by kernel_rfl)
        have hB1 := M.ret_some hB1
        have gx1 := houty1 _ hB1.symm
        have hF := M.cont_inr' hF gx1
        have hF := M.ret_some hF
        subst hF
        exact Run_ret1 rfl (ResV_tmp (v := .int .i64 i1) (by kernel_rfl)) ⟨rfl, rfl⟩
      · have hB1 := (M.ite_some hB1).2 hb2
        refine Run_skip ?_
        refine Run_blk ?_
        refine Run_reg 2 (by kernel_rfl) (L' := [(0, .slice as_ s_.length cs_), (1, .func (.func 105) #[] #[]), (7, .int .i64 (s_.length : Int)), (8, .int .i64 (i1 + 1))]) ?_ ?_
        · refine QRun_y (.int .i64 (i1 + 1)) (by kernel_rfl) (Y_eq (v := .int .i64 (w64 (i1 + 1))) (Y_pure (fun w => by kernel_rfl)) (by rw [w64_eq _ (by omega)])) ?_
          refine QRun_b [.int .i64 (i1 + 1)] 1 _ (by kernel_rfl) (fun w => by kernel_rfl) ?_
          exact QRun_done [0, 1, 7, 8] (by kernel_rfl) (by kernel_rfl)
        have hB1 := M.ret_some hB1
        have gx1 := hgoy1 _ hB1.symm
        exact Run_again [0, 1, 7, 8] (by kernel_rfl) my1 (Nat.lt_succ_self _) ⟨i1 + 1, (), by omega, gx1, rfl, rfl⟩
    · have gx1 := M.for_end gx1 hb1
      subst gx1
      refine Run_exit (k' := _) rfl ?_
      exact Run_fall [] (by kernel_rfl) ⟨(), rfl, rfl, rfl⟩

set_option maxRecDepth 100000 in
set_option maxHeartbeats 4000000 in
theorem w_slices_ContainsFunc_row_F_impl_checkedMatrix_1 (h : Heap) (s_ : List (List Int)) {Ss_ : Bs} (as_ : Option Addr) (cs_ : Nat) (rs_ : Rd cd23 h Ss_ as_ cs_ s_) (n : Nat) (r : Bool) (hF : slices_ContainsFunc_row_F_impl_checkedMatrix_1 s_ n = some r) :
    Fn Try.prog 104 #[.slice as_ s_.length cs_, .func (.func 105) #[] #[]] h fun v h' => v = .bool r ∧ h' = h := by
  unfold slices_ContainsFunc_row_F_impl_checkedMatrix_1 at hF
  refine Fn_enter (args := [.slice as_ s_.length cs_, .func (.func 105) #[] #[]]) Try.func104 rfl (by kernel_rfl) (by kernel_rfl) (fun w0 _ => ?_)
  refine Run_seq ?_
  refine Run_reg 1 (by kernel_rfl) (L' := [(0, .slice as_ s_.length cs_), (1, .func (.func 105) #[] #[])]) ?_ ?_
  · refine QRun_b [.bool false] 0 _ (by kernel_rfl) (fun w => by kernel_rfl) ?_
    exact QRun_done [0, 1] (by kernel_rfl) (by kernel_rfl)
  refine Run_seq ?_
  obtain ⟨x1, hx1, hF⟩ := M.bind_some hF
  refine Run_reg 5 (by kernel_rfl) (L' := [(4, .bool (decide (0 ≤ x1)))]) ?_ ?_
  · refine QRun_b [.slice as_ s_.length cs_, .func (.func 105) #[] #[]] 0 _ (by kernel_rfl) (fun w => by kernel_rfl) ?_
    refine QRun_y (.int .i64 x1) (by kernel_rfl) (Y_callq (f := 128) (args := #[.slice as_ s_.length cs_, .func (.func 105) #[] #[]]) (v := .int .i64 x1) (by kernel_rfl) (w_slices_IndexFunc_row_F_impl_checkedMatrix_1 h s_ as_ cs_ rs_ _ _ hx1)) ?_
    refine QRun_b [.bool (decide (0 ≤ x1)), .bool (decide (0 ≤ x1))] 3 _ (by kernel_rfl) (fun w => by kernel_rfl) ?_
    exact QRun_done [4] (by kernel_rfl) (by kernel_rfl)
  have hF := M.ret_some hF
  subst hF
  exact Run_ret1 rfl (ResV_tmp (v := .bool (decide (0 ≤ x1))) (by kernel_rfl)) ⟨rfl, rfl⟩

set_option maxRecDepth 100000 in
set_option maxHeartbeats 4000000 in
theorem w_impl_checkedMatrix (h : Heap) (a_ : List (List Int)) (aa_ : Option Addr) (ca_ : Nat) (ra_ : Rd cd23 h (Lt h) aa_ ca_ a_) (n : Nat) (r : (List (List Int)) × Int) (hF : impl_checkedMatrix a_ n = some r) :
    Fn Try.prog 74 #[.slice aa_ a_.length ca_] h fun v h' => ∃ (a0 : Option Addr) (c0 : Nat), v = .tuple #[.slice a0 r.1.length c0, .int .i64 r.2] ∧ Ali a0 aa_ c0 ca_ r.1 a_ ∧ Hold h h' [] := by
  unfold impl_checkedMatrix at hF
  refine Fn_enter (args := [.slice aa_ a_.length ca_]) Try.func74 rfl (by kernel_rfl) (by kernel_rfl) (fun w0 _ => ?_)
  have H0 := Hold.init h
  refine Run_seq ?_
  refine Run_reg 2 (by kernel_rfl) (L' := [(0, .slice aa_ a_.length ca_)]) ?_ ?_
  · refine QRun_b [.slice none 0 0, .int .i64 0] 0 _ (by kernel_rfl) (fun w => by kernel_rfl) ?_
    exact QRun_done [0] (by kernel_rfl) (by kernel_rfl)
  refine Run_seq ?_
  refine Run_seq ?_
  obtain ⟨x1, hx1, hF⟩ := M.bind_some hF
  refine Run_reg 2 (by kernel_rfl) (L' := [(0, .slice aa_ a_.length ca_), (5, .bool x1)]) ?_ ?_
  · refine QRun_b [.slice aa_ a_.length ca_] 0 _ (by kernel_rfl) (fun w => by kernel_rfl) ?_
    refine QRun_y (.bool x1) (by kernel_rfl) (Y_callq (f := 104) (args := #[.slice aa_ a_.length ca_, .func (.func 105) #[] #[]]) (v := .bool x1) (by kernel_rfl) (w_slices_ContainsFunc_row_F_impl_checkedMatrix_1 h a_ aa_ ca_ ra_ _ _ hx1)) ?_
    exact QRun_done [0, 5] (by kernel_rfl) (by kernel_rfl)
  refine Run_cond (b := x1) (by kernel_rfl) (fun hb1 => ?_) (fun hb1 => ?_)
  · have hF := (M.ite_some hF).1 hb1
    refine Run_seq ?_
    refine Run_reg 2 (by kernel_rfl) (L' := [(2, .slice none 0 0), (3, .int .i64 3)]) ?_ ?_
    · refine QRun_b [.slice none 0 0, .int .i64 3] 0 _ (by kernel_rfl) (fun w => by kernel_rfl) ?_
      exact QRun_done [2, 3] (by kernel_rfl) (by kernel_rfl)
    have hF := M.ret_some hF
    subst hF
    exact Run_ret2 rfl (ResV_tmp (v := .slice none 0 0) (by kernel_rfl)) (ResV_tmp (v := .int .i64 3) (by kernel_rfl)) ⟨none, 0, rfl, .inr ⟨rfl, rfl, rfl⟩, H0⟩
  · have hF := (M.ite_some hF).2 hb1
    refine Run_skip ?_
    refine Run_seq ?_
    refine Run_reg 3 (by kernel_rfl) (L' := [(2, .slice aa_ a_.length ca_), (3, .int .i64 0)]) ?_ ?_
    · refine QRun_b [.slice aa_ a_.length ca_, .slice aa_ a_.length ca_, .int .i64 0] 0 _ (by kernel_rfl) (fun w => by kernel_rfl) ?_
      exact QRun_done [2, 3] (by kernel_rfl) (by kernel_rfl)
    have hF := M.ret_some hF
    subst hF
    exact Run_ret2 rfl (ResV_tmp (v := .slice aa_ a_.length ca_) (by kernel_rfl)) (ResV_tmp (v := .int .i64 0) (by kernel_rfl)) ⟨aa_, ca_, rfl, .inl ⟨rfl, rfl, rfl⟩, H0⟩

set_option maxRecDepth 100000 in
set_option maxHeartbeats 4000000 in
theorem w_impl_RightQuotient (h : Heap) (a_ : List (List Int)) (aa_ : Option Addr) (ca_ : Nat) (ra_ : Rd cd23 h (Lt h) aa_ ca_ a_) (b : List (List Int)) (ab : Option Addr) (cb : Nat) (rb : Rd cd23 h (Lt h) ab cb b) (n : Nat) (r : (List (List Int)) × Int) (hF : impl_RightQuotient a_ b n = some r) :
    Fn Try.prog 37 #[.slice aa_ a_.length ca_, .slice ab b.length cb] h fun v h' => ∃ (a0 : Option Addr) (c0 : Nat), v = .tuple #[.slice a0 r.1.length c0, .int .i64 r.2] ∧ Hold h h' [own cd23 a0 r.1.length c0 r.1] := by
  unfold impl_RightQuotient at hF
  refine Fn_enter (args := [.slice aa_ a_.length ca_, .slice ab b.length cb]) Try.func37 rfl (by kernel_rfl) (by kernel_rfl) (fun w0 _ => ?_)
  have H0 := Hold.init h
  refine Run_seq ?_
  refine Run_reg 2 (by kernel_rfl) (L' := [(0, .slice aa_ a_.length ca_), (1, .slice ab b.length cb)]) ?_ ?_
  · refine QRun_b [.slice none 0 0, .int .i64 0] 0 _ (by kernel_rfl) (fun w => by kernel_rfl) ?_
    exact QRun_done [0, 1] (by kernel_rfl) (by kernel_rfl)
  refine Run_seq ?_
  refine Run_seq ?_
  obtain ⟨x1, hx1, hF⟩ := M.bind_some hF
  obtain ⟨x2, gx2, hF⟩ := M.bind_some hF
  refine Run_regC (j := 8) (C := fun x => Hold h x []) (by kernel_rfl) H0 (L' := [(0, .slice aa_ a_.length ca_), (1, .slice ab b.length cb), (15, .bool x2)]) ?_ (fun h1 H1 => ?_)
  · refine QRun_b [.slice aa_ a_.length ca_] 0 _ (by kernel_rfl) (fun w => by kernel_rfl) ?_
    refine QRun_y (.bool x1) (by kernel_rfl) (Y_call (f := 75) (args := #[.slice aa_ a_.length ca_]) (v := .bool x1) (by kernel_rfl) fun hx Hx => (w_impl_IsMatrix hx a_ aa_ ca_ (ra_.at Hx.ext) _ _ hx1).mono fun _ _ ⟨e, H'⟩ => ⟨e, Hx.call H' rfl⟩) ?_
    refine QRun_b [.bool (!x1)] 2 _ (by kernel_rfl) (fun w => by kernel_rfl) ?_
    refine QRun_seq 8 [(0, .slice aa_ a_.length ca_), (1, .slice ab b.length cb), (15, .bool x2)] ?_ ?_
    · rcases Bool.eq_false_or_eq_true (!x1) with hb1 | hb1
      · refine QRun_bool (!x1) true (by kernel_rfl) (fun w => by kernel_rfl) hb1 ?_
        have gx2 := M.ret_some ((M.ite_some gx2).1 hb1)
        refine QRun_n (by kernel_rfl) ?_
        refine QRun_n (by kernel_rfl) ?_
        refine QRun_n (by kernel_rfl) ?_
        refine QRun_bool true x2 (by kernel_rfl) (fun w => by kernel_rfl) gx2 ?_
        exact QRun_done [0, 1, 15] (by kernel_rfl) (by kernel_rfl)
      · refine QRun_bool (!x1) false (by kernel_rfl) (fun w => by kernel_rfl) hb1 ?_
        have gx2 := (M.ite_some gx2).2 hb1
        obtain ⟨x3, hx2, gx2⟩ := M.bind_some gx2
        have gx2 := M.ret_some gx2
        refine QRun_b [.slice ab b.length cb] 4 _ (by kernel_rfl) (fun w => by kernel_rfl) ?_
        refine QRun_y (.bool x3) (by kernel_rfl) (Y_call (f := 75) (args := #[.slice ab b.length cb]) (v := .bool x3) (by kernel_rfl) fun hx Hx => (w_impl_IsMatrix hx b ab cb (rb.at Hx.ext) _ _ hx2).mono fun _ _ ⟨e, H'⟩ => ⟨e, Hx.call H' rfl⟩) ?_
        refine QRun_b [.bool (!x3)] 6 _ (by kernel_rfl) (fun w => by kernel_rfl) ?_
        refine QRun_bool (!x3) x2 (by kernel_rfl) (fun w => by kernel_rfl) gx2 ?_
        exact QRun_done [0, 1, 15] (by kernel_rfl) (by kernel_rfl)
    exact QRun_done [0, 1, 15] (by kernel_rfl) (by kernel_rfl)
  have H2 : Hold h h1 [] := H1
  refine Run_cond (b := x2) (by kernel_rfl) (fun hb2 => ?_) (fun hb2 => ?_)
  · have hF := (M.ite_some hF).1 hb2
    refine Run_seq ?_
    refine Run_reg 2 (by kernel_rfl) (L' := [(4, .slice none 0 0), (5, .int .i64 1)]) ?_ ?_
    · refine QRun_b [.slice none 0 0, .int .i64 1] 0 _ (by kernel_rfl) (fun w => by kernel_rfl) ?_
      exact QRun_done [4, 5] (by kernel_rfl) (by kernel_rfl)
    have hF := M.ret_some hF
    subst hF
    have H3 := H2.empty cd23
    exact Run_ret2 rfl (ResV_tmp (v := .slice none 0 0) (by kernel_rfl)) (ResV_tmp (v := .int .i64 1) (by kernel_rfl)) ⟨none, 0, rfl, H3⟩
  · have hF := (M.ite_some hF).2 hb2
    refine Run_skip ?_
    refine Run_seq ?_
    refine Run_ops ?_
    refine Run_b [.slice aa_ a_.length ca_] 0 _ (by kernel_rfl) (fun w => by kernel_rfl) ?_
    obtain ⟨x4, hx3, hF⟩ := M.bind_some hF
    refine Run_E (by kernel_rfl) ?_
    refine E_call (f := 76) (args := #[.slice aa_ a_.length ca_]) (w_impl_transposed h1 a_ aa_ ca_ (ra_.at H2.ext) _ _ hx3) (by kernel_rfl) (fun v1 h2 hp1 => ?_)
    obtain ⟨a1, c1, rfl, H4⟩ := hp1
    have H5 : Hold h h2 [own cd23 a1 x4.length c1 x4] := H2.call H4 rfl
    refine Run_b [.slice ab b.length cb] 2 _ (by kernel_rfl) (fun w => by kernel_rfl) ?_
    obtain ⟨x5, hx4, hF⟩ := M.bind_some hF
    refine Run_E (by kernel_rfl) ?_
    refine E_call (f := 76) (args := #[.slice ab b.length cb]) (w_impl_transposed h2 b ab cb (rb.at H5.ext) _ _ hx4) (by kernel_rfl) (fun v2 h3 hp2 => ?_)
    obtain ⟨a2, c2, rfl, H6⟩ := hp2
    have H7 : Hold h h3 [own cd23 a2 x5.length c2 x5, own cd23 a1 x4.length c1 x4] := H5.call H6 rfl
    obtain ⟨x6, hx5, hF⟩ := M.bind_some hF
    refine Run_E (by kernel_rfl) ?_
    refine E_call (f := 73) (args := #[.slice a1 x4.length c1, .slice a2 x5.length c2]) (w_impl_leftQuotient h3 x4 a1 c1 (H7.rd 1 rfl) x5 a2 c2 (H7.rd 0 rfl) _ _ hx5) (by kernel_rfl) (fun v3 h4 hp3 => ?_)
    obtain ⟨a3, c3, rfl, H8⟩ := hp3
    have H9 : Hold h h4 [own cd23 a3 x6.1.length c3 x6.1, own cd23 a2 x5.length c2 x5, own cd23 a1 x4.length c1 x4] := H7.call H8 rfl
    refine Run_b [.tuple #[.slice a3 x6.1.length c3, .int .i64 x6.2], .slice a3 x6.1.length c3, .int .i64 x6.2, .slice a3 x6.1.length c3, .int .i64 x6.2] 5 _ (by kernel_rfl) (fun w => by kernel_rfl) ?_
    refine Run_nil (by kernel_rfl) ?_
    refine Run_keep [6, 7] (L' := [(6, .slice a3 x6.1.length c3), (7, .int .i64 x6.2)]) (by kernel_rfl) ?_
    refine Run_seq ?_
    refine Run_seq ?_
    refine Run_reg 2 (by kernel_rfl) (L' := [(6, .slice a3 x6.1.length c3), (7, .int .i64 x6.2), (25, .bool (x6.2 != 0))]) ?_ ?_
    · refine QRun_b [.int .i64 x6.2, .bool (x6.2 != 0)] 0 _ (by kernel_rfl) (fun w => by kernel_rfl) ?_
      exact QRun_done [6, 7, 25] (by kernel_rfl) (by kernel_rfl)
    refine Run_cond (b := x6.2 != 0) (by kernel_rfl) (fun hb3 => ?_) (fun hb3 => ?_)
    · have hF := (M.ite_some hF).1 hb3
      refine Run_seq ?_
      refine Run_reg 3 (by kernel_rfl) (L' := [(4, .slice none 0 0), (5, .int .i64 x6.2)]) ?_ ?_
      · refine QRun_b [.int .i64 x6.2, .slice none 0 0, .int .i64 x6.2] 0 _ (by kernel_rfl) (fun w => by kernel_rfl) ?_
        exact QRun_done [4, 5] (by kernel_rfl) (by kernel_rfl)
      have hF := M.ret_some hF
      subst hF
      have H10 := H9.empty cd23
      have H11 : Hold h h4 [own cd23 none 0 0 []] := H10.pick [0] (by kernel_rfl)
      exact Run_ret2 rfl (ResV_tmp (v := .slice none 0 0) (by kernel_rfl)) (ResV_tmp (v := .int .i64 x6.2) (by kernel_rfl)) ⟨none, 0, rfl, H11⟩
    · have hF := (M.ite_some hF).2 hb3
      refine Run_skip ?_
      refine Run_seq ?_
      refine Run_ops ?_
      refine Run_b [.slice a3 x6.1.length c3] 0 _ (by kernel_rfl) (fun w => by kernel_rfl) ?_
      obtain ⟨x7, hx6, hF⟩ := M.bind_some hF
      refine Run_E (by kernel_rfl) ?_
      refine E_call (f := 76) (args := #[.slice a3 x6.1.length c3]) (w_impl_transposed h4 x6.1 a3 c3 (H9.rd 0 rfl) _ _ hx6) (by kernel_rfl) (fun v4 h5 hp4 => ?_)
      obtain ⟨a4, c4, rfl, H12⟩ := hp4
      have H13 : Hold h h5 [own cd23 a4 x7.length c4 x7, own cd23 a3 x6.1.length c3 x6.1, own cd23 a2 x5.length c2 x5, own cd23 a1 x4.length c1 x4] := H9.call H12 rfl
      obtain ⟨x8, hx7, hF⟩ := M.bind_some hF
      refine Run_E (by kernel_rfl) ?_
      refine E_call (f := 74) (args := #[.slice a4 x7.length c4]) (w_impl_checkedMatrix h5 x7 a4 c4 (H13.rd 0 rfl) _ _ hx7) (by kernel_rfl) (fun v5 h6 hp5 => ?_)
      obtain ⟨a5, c5, rfl, hd1, H14⟩ := hp5
      have H15 : Hold h h6 [own cd23 a4 x7.length c4 x7, own cd23 a3 x6.1.length c3 x6.1, own cd23 a2 x5.length c2 x5, own cd23 a1 x4.length c1 x4] := H13.call H14 rfl
      have H16 := H15.alias hd1
      refine Run_b [.slice a5 x8.1.length c5, .int .i64 x8.2, .slice a5 x8.1.length c5, .int .i64 x8.2] 3 _ (by kernel_rfl) (fun w => by kernel_rfl) ?_
      refine Run_nil (by kernel_rfl) ?_
      refine Run_keep [4, 5] (L' := [(4, .slice a5 x8.1.length c5), (5, .int .i64 x8.2)]) (by kernel_rfl) ?_
      have hF := M.ret_some hF
      subst hF
      have H17 : Hold h h6 [own cd23 a5 x8.1.length c5 x8.1] := H16.pick [0] (by kernel_rfl)
      exact Run_ret2 rfl (ResV_tmp (v := .slice a5 x8.1.length c5) (by kernel_rfl)) (ResV_tmp (v := .int .i64 x8.2) (by kernel_rfl)) ⟨a5, c5, rfl, H17⟩

set_option maxRecDepth 100000 in
set_option maxHeartbeats 4000000 in
theorem w_laws_eqInt64S (h : Heap) (a_ : List Int) {Sa_ : Bs} (aa_ : Option Addr) (ca_ : Nat) (ra_ : Rd cd2 h Sa_ aa_ ca_ a_) (b : List Int) {Sb : Bs} (ab : Option Addr) (cb : Nat) (rb : Rd cd2 h Sb ab cb b) (n : Nat) (r : Bool) (hF : laws_eqInt64S a_ b n = some r) :
    Fn Try.prog 20 #[.slice aa_ a_.length ca_, .slice ab b.length cb] h fun v h' => v = .bool r ∧ h' = h := by
  unfold laws_eqInt64S at hF
  refine Fn_enter (args := [.slice aa_ a_.length ca_, .slice ab b.length cb]) Try.func20 rfl (by kernel_rfl) (by kernel_rfl) (fun w0 _ => ?_)
  refine Run_seq ?_
  refine Run_reg 1 (by kernel_rfl) (L' := [(0, .slice aa_ a_.length ca_), (1, .slice ab b.length cb)]) ?_ ?_
  · refine QRun_b [.bool false] 0 _ (by kernel_rfl) (fun w => by kernel_rfl) ?_
    exact QRun_done [0, 1] (by kernel_rfl) (by kernel_rfl)
  refine Run_seq ?_
  refine Run_seq ?_
  refine Run_reg 5 (by kernel_rfl) (L' := [(0, .slice aa_ a_.length ca_), (1, .slice ab b.length cb), (10, .bool ((a_.length : Int) != (b.length : Int)))]) ?_ ?_
  · refine QRun_b [.slice aa_ a_.length ca_, .int .i64 (a_.length : Int), .slice ab b.length cb, .int .i64 (b.length : Int), .bool ((a_.length : Int) != (b.length : Int))] 0 _ (by kernel_rfl) (fun w => by kernel_rfl) ?_
    exact QRun_done [0, 1, 10] (by kernel_rfl) (by kernel_rfl)
  refine Run_cond (b := (a_.length : Int) != (b.length : Int)) (by kernel_rfl) (fun hb1 => ?_) (fun hb1 => ?_)
  · have hF := (M.ite_some hF).1 hb1
    refine Run_seq ?_
    refine Run_reg 1 (by kernel_rfl) (L' := [(4, .bool false)]) ?_ ?_
    · refine QRun_b [.bool false] 0 _ (by kernel_rfl) (fun w => by kernel_rfl) ?_
      exact QRun_done [4] (by kernel_rfl) (by kernel_rfl)
    have hF := M.ret_some hF
    subst hF
    exact Run_ret1 rfl (ResV_tmp (v := .bool false) (by kernel_rfl)) ⟨rfl, rfl⟩
  · have hF := (M.ite_some hF).2 hb1
    refine Run_skip ?_
    refine Run_seq ?_
    refine Run_seq ?_
    refine Run_reg 1 (by kernel_rfl) (L' := [(0, .slice aa_ a_.length ca_), (1, .slice ab b.length cb), (5, .int .i64 0)]) ?_ ?_
    · refine QRun_b [.int .i64 0] 0 _ (by kernel_rfl) (fun w => by kernel_rfl) ?_
      exact QRun_done [0, 1, 5] (by kernel_rfl) (by kernel_rfl)
    obtain ⟨x1, gx1, hF⟩ := M.bind_some hF
    obtain ⟨hloy1, hhiy1, gx1⟩ := M.for_start gx1
    refine Run_join (fun L' h' => ∃ (s2 : Unit), x1 = .inl s2 ∧ L' = [] ∧ h = h') ?_ ?_
    · rintro _ _ ⟨s2, es2, rfl, rfl⟩
      have hF := M.cont_inl' hF es2
      refine Run_seq ?_
      refine Run_reg 1 (by kernel_rfl) (L' := [(4, .bool true)]) ?_ ?_
      · refine QRun_b [.bool true] 0 _ (by kernel_rfl) (fun w => by kernel_rfl) ?_
        exact QRun_done [4] (by kernel_rfl) (by kernel_rfl)
      have hF := M.ret_some hF
      subst hF
      exact Run_ret1 rfl (ResV_tmp (v := .bool true) (by kernel_rfl)) ⟨rfl, rfl⟩
    · refine Run_block ?_
      refine Run_keep [0, 1, 5] (L' := [(0, .slice aa_ a_.length ca_), (1, .slice ab b.length cb), (5, .int .i64 0)]) (by kernel_rfl) ?_
      refine Run_loop (fun m L' h' => ∃ (i1 : Int) (s1 : Unit), 0 ≤ i1 ∧ M.forN (a_.length : Int) _ _ n m i1 s1 = some x1 ∧ L' = [(0, .slice aa_ a_.length ca_), (1, .slice ab b.length cb), (5, .int .i64 i1)] ∧ h = h') ((a_.length : Int) - 0).toNat ⟨0, (), Int.le_refl _, gx1, rfl, rfl⟩ ?_
      rintro my1 _ _ ⟨i1, s1, hloy1', gx1, rfl, rfl⟩
      refine Run_seq ?_
      refine Run_seq ?_
      refine Run_reg 4 (by kernel_rfl) (L' := [(0, .slice aa_ a_.length ca_), (1, .slice ab b.length cb), (5, .int .i64 i1), (14, .bool (decide (i1 < (a_.length : Int))))]) ?_ ?_
      · refine QRun_b [.int .i64 i1, .slice aa_ a_.length ca_, .int .i64 (a_.length : Int), .bool (decide (i1 < (a_.length : Int)))] 0 _ (by kernel_rfl) (fun w => by kernel_rfl) ?_
        exact QRun_done [0, 1, 5, 14] (by kernel_rfl) (by kernel_rfl)
      refine Run_cond (b := decide (i1 < (a_.length : Int))) (by kernel_rfl) (fun hb2 => ?_) (fun hb2 => ?_)
      · obtain ⟨my1, y1, rfl, hB1, hgoy1, houty1⟩ := M.for_go gx1 hb2
        have hlty1 := of_decide_eq_true hb2
        refine Run_skip ?_
        refine Run_seq ?_
        refine Run_block ?_
        refine Run_seq ?_
        obtain ⟨x2, hx1, hB1⟩ := M.bind_some hB1
        obtain ⟨hx1l, hx1u, hx1⟩ := M.idx_some hx1
        obtain ⟨x3, hx2, hB1⟩ := M.bind_some hB1
        obtain ⟨hx2l, hx2u, hx2⟩ := M.idx_some hx2
        refine Run_draw 9 mixed (by kernel_rfl) (by kernel_rfl) (L' := [(0, .slice aa_ a_.length ca_), (1, .slice ab b.length cb), (5, .int .i64 i1), (25, .bool (x2 != x3))]) ?_ ?_
        · refine QRun_b [.slice aa_ a_.length ca_, .int .i64 i1] 0 _ (by kernel_rfl) (fun w => by kernel_rfl) ?_
          refine QRun_y (.pointer (some (adr aa_ (i1.toNat * 1)))) (by kernel_rfl) (Y_idx (t := 23) (e := 2) (sz := 1) (a := aa_) (n := a_.length) (cap := ca_) (kk := .i64) (i := i1) (by kernel_rfl) Try.underlying23 (by kernel_rfl) (ra_.cell hx1).1 hx1l hx1u) ?_
          refine QRun_y (.int .i64 x2) (by kernel_rfl) (Y_load1 (t := 2) (p := adr aa_ (i1.toNat * 1)) (v := .int .i64 x2) (by kernel_rfl) (fun w => by kernel_rfl) (cd2_cell ra_ hx1)) ?_
          refine QRun_b [.slice ab b.length cb, .int .i64 i1] 4 _ (by kernel_rfl) (fun w => by kernel_rfl) ?_
          refine QRun_y (.pointer (some (adr ab (i1.toNat * 1)))) (by kernel_rfl) (Y_idx (t := 23) (e := 2) (sz := 1) (a := ab) (n := b.length) (cap := cb) (kk := .i64) (i := i1) (by kernel_rfl) Try.underlying23 (by kernel_rfl) (rb.cell hx2).1 hx2l hx2u) ?_
          refine QRun_y (.int .i64 x3) (by kernel_rfl) (Y_load1 (t := 2) (p := adr ab (i1.toNat * 1)) (v := .int .i64 x3) (by kernel_rfl) (fun w => by kernel_rfl) (cd2_cell rb hx2)) ?_
          refine QRun_b [.bool (x2 != x3)] 8 _ (by kernel_rfl) (fun w => by kernel_rfl) ?_
          exact QRun_done [0, 1, 5, 25] (by kernel_rfl) (by kernel_rfl)
        refine Run_cond (b := x2 != x3) (by kernel_rfl) (fun hb3 => ?_) (fun hb3 => ?_)
        · have hB1 := (M.ite_some hB1).1 hb3
          refine Run_seq ?_
          refine Run_reg 1 (by kernel_rfl) (L' := [(4, .bool false)]) ?_ ?_
          · refine QRun_b [.bool false] 0 _ (by kernel_rfl) (fun w => by kernel_rfl) ?_
            exact QRun_done [4] (by kernel_rfl) (by kernel_rfl)
          have hB1 := M.ret_some hB1
          have gx1 := houty1 _ hB1.symm
          have hF := M.cont_inr' hF gx1
          have hF := M.ret_some hF
          subst hF
          exact Run_ret1 rfl (ResV_tmp (v := .bool false) (by kernel_rfl)) ⟨rfl, rfl⟩
        · have hB1 := (M.ite_some hB1).2 hb3
          refine Run_skip ?_
          refine Run_blk ?_
          refine Run_reg 3 (by kernel_rfl) (L' := [(0, .slice aa_ a_.length ca_), (1, .slice ab b.length cb), (5, .int .i64 (i1 + 1))]) ?_ ?_
          · refine QRun_b [.int .i64 i1] 0 _ (by kernel_rfl) (fun w => by kernel_rfl) ?_
            refine QRun_y (.int .i64 (i1 + 1)) (by kernel_rfl) (Y_eq (v := .int .i64 (w64 (i1 + 1))) (Y_pure (fun w => by kernel_rfl)) (by rw [w64_eq _ (by omega)])) ?_
            refine QRun_b [.int .i64 (i1 + 1)] 2 _ (by kernel_rfl) (fun w => by kernel_rfl) ?_
            exact QRun_done [0, 1, 5] (by kernel_rfl) (by kernel_rfl)
          have hB1 := M.ret_some hB1
          have gx1 := hgoy1 _ hB1.symm
          exact Run_again [0, 1, 5] (by kernel_rfl) my1 (Nat.lt_succ_self _) ⟨i1 + 1, (), by omega, gx1, rfl, rfl⟩
      · have gx1 := M.for_end gx1 hb2
        subst gx1
        refine Run_exit (k' := _) rfl ?_
        exact Run_fall [] (by kernel_rfl) ⟨(), rfl, rfl, rfl⟩

set_option maxRecDepth 100000 in
set_option maxHeartbeats 4000000 in
theorem w_laws_eqInt64SS (h : Heap) (a_ : List (List Int)) {Sa_ : Bs} (aa_ : Option Addr) (ca_ : Nat) (ra_ : Rd cd23 h Sa_ aa_ ca_ a_) (b : List (List Int)) {Sb : Bs} (ab : Option Addr) (cb : Nat) (rb : Rd cd23 h Sb ab cb b) (n : Nat) (r : Bool) (hF : laws_eqInt64SS a_ b n = some r) :
    Fn Try.prog 21 #[.slice aa_ a_.length ca_, .slice ab b.length cb] h fun v h' => v = .bool r ∧ h' = h := by
  unfold laws_eqInt64SS at hF
  refine Fn_enter (args := [.slice aa_ a_.length ca_, .slice ab b.length cb]) Try.func21 rfl (by kernel_rfl) (by kernel_rfl) (fun w0 _ => ?_)
  refine Run_seq ?_
  refine Run_reg 1 (by kernel_rfl) (L' := [(0, .slice aa_ a_.length ca_), (1, .slice ab b.length cb)]) ?_ ?_
  · refine QRun_b [.bool false] 0 _ (by kernel_rfl) (fun w => by kernel_rfl) ?_
    exact QRun_done [0, 1] (by kernel_rfl) (by kernel_rfl)
  refine Run_seq ?_
  refine Run_seq ?_
  refine Run_reg 5 (by kernel_rfl) (L' := [(0, .slice aa_ a_.length ca_), (1, .slice ab b.length cb), (10, .bool ((a_.length : Int) != (b.length : Int)))]) ?_ ?_
  · refine QRun_b [.slice aa_ a_.length ca_, .int .i64 (a_.length : Int), .slice ab b.length cb, .int .i64 (b.length : Int), .bool ((a_.length : Int) != (b.length : Int))] 0 _ (by kernel_rfl) (fun w => by kernel_rfl) ?_
    exact QRun_done [0, 1, 10] (by kernel_rfl) (by kernel_rfl)
  refine Run_cond (b := (a_.length : Int) != (b.length : Int)) (by kernel_rfl) (fun hb1 => ?_) (fun hb1 => ?_)
  · have hF := (M.ite_some hF).1 hb1
    refine Run_seq ?_
    refine Run_reg 1 (by kernel_rfl) (L' := [(4, .bool false)]) ?_ ?_
    · refine QRun_b [.bool false] 0 _ (by kernel_rfl) (fun w => by kernel_rfl) ?_
      exact QRun_done [4] (by kernel_rfl) (by kernel_rfl)
    have hF := M.ret_some hF
    subst hF
    exact Run_ret1 rfl (ResV_tmp (v := .bool false) (by kernel_rfl)) ⟨rfl, rfl⟩
  · have hF := (M.ite_some hF).2 hb1
    refine Run_skip ?_
    refine Run_seq ?_
    refine Run_seq ?_
    refine Run_reg 1 (by kernel_rfl) (L' := [(0, .slice aa_ a_.length ca_), (1, .slice ab b.length cb), (5, .int .i64 0)]) ?_ ?_
    · refine QRun_b [.int .i64 0] 0 _ (by kernel_rfl) (fun w => by kernel_rfl) ?_
      exact QRun_done [0, 1, 5] (by kernel_rfl) (by kernel_rfl)
    obtain ⟨x1, gx1, hF⟩ := M.bind_some hF
    obtain ⟨hloy1, hhiy1, gx1⟩ := M.for_start gx1
    refine Run_join (fun L' h' => ∃ (s2 : Unit), x1 = .inl s2 ∧ L' = [] ∧ h = h') ?_ ?_
    · rintro _ _ ⟨s2, es2, rfl, rfl⟩
      have hF := M.cont_inl' hF es2
      refine Run_seq ?_
      refine Run_reg 1 (by kernel_rfl) (L' := [(4, .bool true)]) ?_ ?_
      · refine QRun_b [.bool true] 0 _ (by kernel_rfl) (fun w => by kernel_rfl) ?_
        exact QRun_done [4] (by kernel_rfl) (by kernel_rfl)
      have hF := M.ret_some hF
      subst hF
      exact Run_ret1 rfl (ResV_tmp (v := .bool true) (by kernel_rfl)) ⟨rfl, rfl⟩
    · refine Run_block ?_
      refine Run_keep [0, 1, 5] (L' := [(0, .slice aa_ a_.length ca_), (1, .slice ab b.length cb), (5, .int .i64 0)]) (by kernel_rfl) ?_
      refine Run_loop (fun m L' h' => ∃ (i1 : Int) (s1 : Unit), 0 ≤ i1 ∧ M.forN (a_.length : Int) _ _ n m i1 s1 = some x1 ∧ L' = [(0, .slice aa_ a_.length ca_), (1, .slice ab b.length cb), (5, .int .i64 i1)] ∧ h = h') ((a_.length : Int) - 0).toNat ⟨0, (), Int.le_refl _, gx1, rfl, rfl⟩ ?_
      rintro my1 _ _ ⟨i1, s1, hloy1', gx1, rfl, rfl⟩
      refine Run_seq ?_
      refine Run_seq ?_
      refine Run_reg 4 (by kernel_rfl) (L' := [(0, .slice aa_ a_.length ca_), (1, .slice ab b.length cb), (5, .int .i64 i1), (14, .bool (decide (i1 < (a_.length : Int))))]) ?_ ?_
      · refine QRun_b [.int .i64 i1, .slice aa_ a_.length ca_, .int .i64 (a_.length : Int), .bool (decide (i1 < (a_.length : Int)))] 0 _ (by kernel_rfl) (fun w => by kernel_rfl) ?_
        exact QRun_done [0, 1, 5, 14] (by kernel_rfl) (by kernel_rfl)
      refine Run_cond (b := decide (i1 < (a_.length : Int))) (by kernel_rfl) (fun hb2 => ?_) (fun hb2 => ?_)
      · obtain ⟨my1, y1, rfl, hB1, hgoy1, houty1⟩ := M.for_go gx1 hb2
        have hlty1 := of_decide_eq_true hb2
        refine Run_skip ?_
        refine Run_seq ?_
        refine Run_block ?_
        refine Run_seq ?_
        obtain ⟨x2, hx1, hB1⟩ := M.bind_some hB1
        obtain ⟨hx1l, hx1u, hx1⟩ := M.idx_some hx1
        obtain ⟨a1, c1, hc1, r1⟩ := ra_.row hx1
        obtain ⟨x3, hx2, hB1⟩ := M.bind_some hB1
        obtain ⟨hx2l, hx2u, hx2⟩ := M.idx_some hx2
        obtain ⟨a2, c2, hc2, r2⟩ := rb.row hx2
        obtain ⟨x4, hx3, hB1⟩ := M.bind_some hB1
        refine Run_draw 10 mixed (by kernel_rfl) (by kernel_rfl) (L' := [(0, .slice aa_ a_.length ca_), (1, .slice ab b.length cb), (5, .int .i64 i1), (26, .bool (!x4))]) ?_ ?_
        · refine QRun_b [.slice aa_ a_.length ca_, .int .i64 i1] 0 _ (by kernel_rfl) (fun w => by kernel_rfl) ?_
          refine QRun_y (.pointer (some (adr aa_ (i1.toNat * 1)))) (by kernel_rfl) (Y_idx (t := 22) (e := 23) (sz := 1) (a := aa_) (n := a_.length) (cap := ca_) (kk := .i64) (i := i1) (by kernel_rfl) Try.underlying22 (by kernel_rfl) (ra_.cell hx1).1 hx1l hx1u) ?_
          refine QRun_y (.slice a1 x2.length c1) (by kernel_rfl) (Y_load1 (t := 23) (p := adr aa_ (i1.toNat * 1)) (v := .slice a1 x2.length c1) (by kernel_rfl) (fun w => by kernel_rfl) hc1) ?_
          refine QRun_b [.slice ab b.length cb, .int .i64 i1] 4 _ (by kernel_rfl) (fun w => by kernel_rfl) ?_
          refine QRun_y (.pointer (some (adr ab (i1.toNat * 1)))) (by kernel_rfl) (Y_idx (t := 22) (e := 23) (sz := 1) (a := ab) (n := b.length) (cap := cb) (kk := .i64) (i := i1) (by kernel_rfl) Try.underlying22 (by kernel_rfl) (rb.cell hx2).1 hx2l hx2u) ?_
          refine QRun_y (.slice a2 x3.length c2) (by kernel_rfl) (Y_load1 (t := 23) (p := adr ab (i1.toNat * 1)) (v := .slice a2 x3.length c2) (by kernel_rfl) (fun w => by kernel_rfl) hc2) ?_
          refine QRun_y (.bool x4) (by kernel_rfl) (Y_callq (f := 20) (args := #[.slice a1 x2.length c1, .slice a2 x3.length c2]) (v := .bool x4) (by kernel_rfl) (w_laws_eqInt64S h x2 a1 c1 r1 x3 a2 c2 r2 _ _ hx3)) ?_
          refine QRun_b [.bool (!x4)] 9 _ (by kernel_rfl) (fun w => by kernel_rfl) ?_
          exact QRun_done [0, 1, 5, 26] (by kernel_rfl) (by kernel_rfl)
        refine Run_cond (b := !x4) (by kernel_rfl) (fun hb3 => ?_) (fun hb3 => ?_)
        · have hB1 := (M.ite_some hB1).1 hb3
          refine Run_seq ?_
          refine Run_reg 1 (by kernel_rfl) (L' := [(4, .bool false)]) ?_ ?_
          · refine QRun_b [.bool false] 0 _ (by kernel_rfl) (fun w => by kernel_rfl) ?_
            exact QRun_done [4] (by kernel_rfl) (by kernel_rfl)
          have hB1 := M.ret_some hB1
          have gx1 := houty1 _ hB1.symm
          have hF := M.cont_inr' hF gx1
          have hF := M.ret_some hF
          subst hF
          exact Run_ret1 rfl (ResV_tmp (v := .bool false) (by kernel_rfl)) ⟨rfl, rfl⟩
        · have hB1 := (M.ite_some hB1).2 hb3
          refine Run_skip ?_
          refine Run_blk ?_
          refine Run_reg 3 (by kernel_rfl) (L' := [(0, .slice aa_ a_.length ca_), (1, .slice ab b.length cb), (5, .int .i64 (i1 + 1))]) ?_ ?_
          · refine QRun_b [.int .i64 i1] 0 _ (by kernel_rfl) (fun w => by kernel_rfl) ?_
            refine QRun_y (.int .i64 (i1 + 1)) (by kernel_rfl) (Y_eq (v := .int .i64 (w64 (i1 + 1))) (Y_pure (fun w => by kernel_rfl)) (by rw [w64_eq _ (by omega)])) ?_
            refine QRun_b [.int .i64 (i1 + 1)] 2 _ (by kernel_rfl) (fun w => by kernel_rfl) ?_
            exact QRun_done [0, 1, 5] (by kernel_rfl) (by kernel_rfl)
          have hB1 := M.ret_some hB1
          have gx1 := hgoy1 _ hB1.symm
          exact Run_again [0, 1, 5] (by kernel_rfl) my1 (Nat.lt_succ_self _) ⟨i1 + 1, (), by omega, gx1, rfl, rfl⟩
      · have gx1 := M.for_end gx1 hb2
        subst gx1
        refine Run_exit (k' := _) rfl ?_
        exact Run_fall [] (by kernel_rfl) ⟨(), rfl, rfl, rfl⟩

set_option maxRecDepth 100000 in
set_option maxHeartbeats 4000000 in
theorem w_laws_heldInt64S (h : Heap) (a_ : List Int) {Sa_ : Bs} (aa_ : Option Addr) (ca_ : Nat) (ra_ : Rd cd2 h Sa_ aa_ ca_ a_) (k_ : Int) (n : Nat) (r : Int) (hF : laws_heldInt64S a_ k_ n = some r) :
    Fn Try.prog 24 #[.slice aa_ a_.length ca_, .int .i64 k_] h fun v h' => v = .int .i64 r ∧ h' = h := by
  unfold laws_heldInt64S at hF
  refine Fn_enter (args := [.slice aa_ a_.length ca_, .int .i64 k_]) Try.func24 rfl (by kernel_rfl) (by kernel_rfl) (fun w0 _ => ?_)
  refine Run_seq ?_
  refine Run_reg 1 (by kernel_rfl) (L' := [(0, .slice aa_ a_.length ca_), (1, .int .i64 k_)]) ?_ ?_
  · refine QRun_b [.int .i64 0] 0 _ (by kernel_rfl) (fun w => by kernel_rfl) ?_
    exact QRun_done [0, 1] (by kernel_rfl) (by kernel_rfl)
  refine Run_seq ?_
  refine Run_seq ?_
  refine Run_reg 1 (by kernel_rfl) (L' := [(0, .slice aa_ a_.length ca_), (1, .int .i64 k_), (5, .int .i64 0)]) ?_ ?_
  · refine QRun_b [.int .i64 0] 0 _ (by kernel_rfl) (fun w => by kernel_rfl) ?_
    exact QRun_done [0, 1, 5] (by kernel_rfl) (by kernel_rfl)
  obtain ⟨x1, gx1, hF⟩ := M.bind_some hF
  obtain ⟨hloy1, hhiy1, gx1⟩ := M.for_start gx1
  refine Run_join (fun L' h' => ∃ (s2 : Int), x1 = .inl s2 ∧ L' = [(1, .int .i64 s2)] ∧ h = h') ?_ ?_
  · rintro _ _ ⟨s2, es2, rfl, rfl⟩
    have hF := M.cont_inl' hF es2
    refine Run_seq ?_
    refine Run_reg 2 (by kernel_rfl) (L' := [(4, .int .i64 s2)]) ?_ ?_
    · refine QRun_b [.int .i64 s2, .int .i64 s2] 0 _ (by kernel_rfl) (fun w => by kernel_rfl) ?_
      exact QRun_done [4] (by kernel_rfl) (by kernel_rfl)
    have hF := M.ret_some hF
    subst hF
    exact Run_ret1 rfl (ResV_tmp (v := .int .i64 s2) (by kernel_rfl)) ⟨rfl, rfl⟩
  · refine Run_block ?_
    refine Run_keep [0, 1, 5] (L' := [(0, .slice aa_ a_.length ca_), (1, .int .i64 k_), (5, .int .i64 0)]) (by kernel_rfl) ?_
    refine Run_loop (fun m L' h' => ∃ (i1 : Int) (s1 : Int), 0 ≤ i1 ∧ M.forN (a_.length : Int) _ _ n m i1 s1 = some x1 ∧ L' = [(0, .slice aa_ a_.length ca_), (1, .int .i64 s1), (5, .int .i64 i1)] ∧ h = h') ((a_.length : Int) - 0).toNat ⟨0, k_, Int.le_refl _, gx1, rfl, rfl⟩ ?_
    rintro my1 _ _ ⟨i1, s1, hloy1', gx1, rfl, rfl⟩
    refine Run_seq ?_
    refine Run_seq ?_
    refine Run_reg 4 (by kernel_rfl) (L' := [(0, .slice aa_ a_.length ca_), (1, .int .i64 s1), (5, .int .i64 i1), (9, .bool (decide (i1 < (a_.length : Int))))]) ?_ ?_
    · refine QRun_b [.int .i64 i1, .slice aa_ a_.length ca_, .int .i64 (a_.length : Int), .bool (decide (i1 < (a_.length : Int)))] 0 _ (by kernel_rfl) (fun w => by kernel_rfl) ?_
      exact QRun_done [0, 1, 5, 9] (by kernel_rfl) (by kernel_rfl)
    refine Run_cond (b := decide (i1 < (a_.length : Int))) (by kernel_rfl) (fun hb1 => ?_) (fun hb1 => ?_)
    · obtain ⟨my1, y1, rfl, hB1, hgoy1, houty1⟩ := M.for_go gx1 hb1
      have hlty1 := of_decide_eq_true hb1
      refine Run_skip ?_
      refine Run_seq ?_
      refine Run_block ?_
      refine Run_seq ?_
      refine Run_seq ?_
      obtain ⟨x2, hx1, hB1⟩ := M.bind_some hB1
      obtain ⟨hx1l, hx1u, hx1⟩ := M.idx_some hx1
      refine Run_reg 6 (by kernel_rfl) (L' := [(0, .slice aa_ a_.length ca_), (1, .int .i64 s1), (5, .int .i64 i1), (17, .bool (x2 != s1))]) ?_ ?_
      · refine QRun_b [.slice aa_ a_.length ca_, .int .i64 i1] 0 _ (by kernel_rfl) (fun w => by kernel_rfl) ?_
        refine QRun_y (.pointer (some (adr aa_ (i1.toNat * 1)))) (by kernel_rfl) (Y_idx (t := 23) (e := 2) (sz := 1) (a := aa_) (n := a_.length) (cap := ca_) (kk := .i64) (i := i1) (by kernel_rfl) Try.underlying23 (by kernel_rfl) (ra_.cell hx1).1 hx1l hx1u) ?_
        refine QRun_y (.int .i64 x2) (by kernel_rfl) (Y_load1 (t := 2) (p := adr aa_ (i1.toNat * 1)) (v := .int .i64 x2) (by kernel_rfl) (fun w => by kernel_rfl) (cd2_cell ra_ hx1)) ?_
        refine QRun_b [.int .i64 s1, .bool (x2 != s1)] 4 _ (by kernel_rfl) (fun w => by kernel_rfl) ?_
        exact QRun_done [0, 1, 5, 17] (by kernel_rfl) (by kernel_rfl)
      refine Run_cond (b := x2 != s1) (by kernel_rfl) (fun hb2 => ?_) (fun hb2 => ?_)
      · have hB1 := (M.ite_some hB1).1 hb2
        refine Run_seq ?_
        refine Run_reg 1 (by kernel_rfl) (L' := [(4, .int .i64 (-1))]) ?_ ?_
        · refine QRun_b [.int .i64 (-1)] 0 _ (by kernel_rfl) (fun w => by kernel_rfl) ?_
          exact QRun_done [4] (by kernel_rfl) (by kernel_rfl)
        have hB1 := M.ret_some hB1
        have gx1 := houty1 _ hB1.symm
        have hF := M.cont_inr' hF gx1
        have hF := M.ret_some hF
        subst hF
        exact Run_ret1 rfl (ResV_tmp (v := .int .i64 (-1)) (by kernel_rfl)) ⟨rfl, rfl⟩
      · have hB1 := (M.ite_some hB1).2 hb2
        refine Run_skip ?_
        refine Run_reg 3 (by kernel_rfl) (L' := [(0, .slice aa_ a_.length ca_), (1, .int .i64 (w64 (s1 + 1))), (5, .int .i64 i1)]) ?_ ?_
        · refine QRun_b [.int .i64 s1, .int .i64 (w64 (s1 + 1)), .int .i64 (w64 (s1 + 1))] 0 _ (by kernel_rfl) (fun w => by kernel_rfl) ?_
          exact QRun_done [0, 1, 5] (by kernel_rfl) (by kernel_rfl)
        refine Run_blk ?_
        refine Run_reg 3 (by kernel_rfl) (L' := [(0, .slice aa_ a_.length ca_), (1, .int .i64 (w64 (s1 + 1))), (5, .int .i64 (i1 + 1))]) ?_ ?_
        · refine QRun_b [.int .i64 i1] 0 _ (by kernel_rfl) (fun w => by kernel_rfl) ?_
          refine QRun_y (.int .i64 (i1 + 1)) (by kernel_rfl) (Y_eq (v := .int .i64 (w64 (i1 + 1))) (Y_pure (fun w => by kernel_rfl)) (by rw [w64_eq _ (by omega)])) ?_
          refine QRun_b [.int .i64 (i1 + 1)] 2 _ (by kernel_rfl) (fun w => by kernel_rfl) ?_
          exact QRun_done [0, 1, 5] (by kernel_rfl) (by kernel_rfl)
        have hB1 := M.ret_some hB1
        have gx1 := hgoy1 _ hB1.symm
        exact Run_again [0, 1, 5] (by kernel_rfl) my1 (Nat.lt_succ_self _) ⟨i1 + 1, (w64 (s1 + 1)), by omega, gx1, rfl, rfl⟩
    · have gx1 := M.for_end gx1 hb1
      subst gx1
      refine Run_exit (k' := _) rfl ?_
      exact Run_fall [1] (by kernel_rfl) ⟨s1, rfl, rfl, rfl⟩

set_option maxRecDepth 100000 in
set_option maxHeartbeats 4000000 in
theorem w_laws_heldInt64SS (h : Heap) (a_ : List (List Int)) {Sa_ : Bs} (aa_ : Option Addr) (ca_ : Nat) (ra_ : Rd cd23 h Sa_ aa_ ca_ a_) (k_ : Int) (n : Nat) (r : Int) (hF : laws_heldInt64SS a_ k_ n = some r) :
    Fn Try.prog 35 #[.slice aa_ a_.length ca_, .int .i64 k_] h fun v h' => v = .int .i64 r ∧ h' = h := by
  unfold laws_heldInt64SS at hF
  refine Fn_enter (args := [.slice aa_ a_.length ca_, .int .i64 k_]) Try.func35 rfl (by kernel_rfl) (by kernel_rfl) (fun w0 _ => ?_)
  refine Run_seq ?_
  refine Run_reg 1 (by kernel_rfl) (L' := [(0, .slice aa_ a_.length ca_), (1, .int .i64 k_)]) ?_ ?_
  · refine QRun_b [.int .i64 0] 0 _ (by kernel_rfl) (fun w => by kernel_rfl) ?_
    exact QRun_done [0, 1] (by kernel_rfl) (by kernel_rfl)
  refine Run_seq ?_
  refine Run_seq ?_
  refine Run_reg 1 (by kernel_rfl) (L' := [(0, .slice aa_ a_.length ca_), (1, .int .i64 k_), (5, .int .i64 0)]) ?_ ?_
  · refine QRun_b [.int .i64 0] 0 _ (by kernel_rfl) (fun w => by kernel_rfl) ?_
    exact QRun_done [0, 1, 5] (by kernel_rfl) (by kernel_rfl)
  obtain ⟨x1, gx1, hF⟩ := M.bind_some hF
  obtain ⟨hloy1, hhiy1, gx1⟩ := M.for_start gx1
  refine Run_join (fun L' h' => ∃ (s2 : Int), x1 = .inl s2 ∧ L' = [(1, .int .i64 s2)] ∧ h = h') ?_ ?_
  · rintro _ _ ⟨s2, es2, rfl, rfl⟩
    have hF := M.cont_inl' hF es2
    refine Run_seq ?_
    refine Run_reg 2 (by kernel_rfl) (L' := [(4, .int .i64 s2)]) ?_ ?_
    · refine QRun_b [.int .i64 s2, .int .i64 s2] 0 _ (by kernel_rfl) (fun w => by kernel_rfl) ?_
      exact QRun_done [4] (by kernel_rfl) (by kernel_rfl)
    have hF := M.ret_some hF
    subst hF
    exact Run_ret1 rfl (ResV_tmp (v := .int .i64 s2) (by kernel_rfl)) ⟨rfl, rfl⟩
  · refine Run_block ?_
    refine Run_keep [0, 1, 5] (L' := [(0, .slice aa_ a_.length ca_), (1, .int .i64 k_), (5, .int .i64 0)]) (by kernel_rfl) ?_
    refine Run_loop (fun m L' h' => ∃ (i1 : Int) (s1 : Int), 0 ≤ i1 ∧ M.forN (a_.length : Int) _ _ n m i1 s1 = some x1 ∧ L' = [(0, .slice aa_ a_.length ca_), (1, .int .i64 s1), (5, .int .i64 i1)] ∧ h = h') ((a_.length : Int) - 0).toNat ⟨0, k_, Int.le_refl _, gx1, rfl, rfl⟩ ?_
    rintro my1 _ _ ⟨i1, s1, hloy1', gx1, rfl, rfl⟩
    refine Run_seq ?_
    refine Run_seq ?_
    refine Run_reg 4 (by kernel_rfl) (L' := [(0, .slice aa_ a_.length ca_), (1, .int .i64 s1), (5, .int .i64 i1), (9, .bool (decide (i1 < (a_.length : Int))))]) ?_ ?_
    · refine QRun_b [.int .i64 i1, .slice aa_ a_.length ca_, .int .i64 (a_.length : Int), .bool (decide (i1 < (a_.length : Int)))] 0 _ (by kernel_rfl) (fun w => by kernel_rfl) ?_
      exact QRun_done [0, 1, 5, 9] (by kernel_rfl) (by kernel_rfl)
    refine Run_cond (b := decide (i1 < (a_.length : Int))) (by kernel_rfl) (fun hb1 => ?_) (fun hb1 => ?_)
    · obtain ⟨my1, y1, rfl, hB1, hgoy1, houty1⟩ := M.for_go gx1 hb1
      have hlty1 := of_decide_eq_true hb1
      refine Run_skip ?_
      refine Run_seq ?_
      refine Run_block ?_
      refine Run_seq ?_
      obtain ⟨x2, hx1, hB1⟩ := M.bind_some hB1
      obtain ⟨hx1l, hx1u, hx1⟩ := M.idx_some hx1
      obtain ⟨a1, c1, hc1, r1⟩ := ra_.row hx1
      obtain ⟨x3, hx2, hB1⟩ := M.bind_some hB1
      refine Run_reg 7 (by kernel_rfl) (L' := [(0, .slice aa_ a_.length ca_), (1, .int .i64 x3), (5, .int .i64 i1)]) ?_ ?_
      · refine QRun_b [.slice aa_ a_.length ca_, .int .i64 i1] 0 _ (by kernel_rfl) (fun w => by kernel_rfl) ?_
        refine QRun_y (.pointer (some (adr aa_ (i1.toNat * 1)))) (by kernel_rfl) (Y_idx (t := 22) (e := 23) (sz := 1) (a := aa_) (n := a_.length) (cap := ca_) (kk := .i64) (i := i1) (by kernel_rfl) Try.underlying22 (by kernel_rfl) (ra_.cell hx1).1 hx1l hx1u) ?_
        refine QRun_y (.slice a1 x2.length c1) (by kernel_rfl) (Y_load1 (t := 23) (p := adr aa_ (i1.toNat * 1)) (v := .slice a1 x2.length c1) (by kernel_rfl) (fun w => by kernel_rfl) hc1) ?_
        refine QRun_b [.int .i64 s1] 4 _ (by kernel_rfl) (fun w => by kernel_rfl) ?_
        refine QRun_y (.int .i64 x3) (by kernel_rfl) (Y_callq (f := 24) (args := #[.slice a1 x2.length c1, .int .i64 s1]) (v := .int .i64 x3) (by kernel_rfl) (w_laws_heldInt64S h x2 a1 c1 r1 s1 _ _ hx2)) ?_
        refine QRun_b [.int .i64 x3] 6 _ (by kernel_rfl) (fun w => by kernel_rfl) ?_
        exact QRun_done [0, 1, 5] (by kernel_rfl) (by kernel_rfl)
      refine Run_seq ?_
      refine Run_reg 2 (by kernel_rfl) (L' := [(0, .slice aa_ a_.length ca_), (1, .int .i64 x3), (5, .int .i64 i1), (19, .bool (decide (x3 < 0)))]) ?_ ?_
      · refine QRun_b [.int .i64 x3, .bool (decide (x3 < 0))] 0 _ (by kernel_rfl) (fun w => by kernel_rfl) ?_
        exact QRun_done [0, 1, 5, 19] (by kernel_rfl) (by kernel_rfl)
      refine Run_cond (b := decide (x3 < 0)) (by kernel_rfl) (fun hb2 => ?_) (fun hb2 => ?_)
      · have hB1 := (M.ite_some hB1).1 hb2
        refine Run_seq ?_
        refine Run_reg 1 (by kernel_rfl) (L' := [(4, .int .i64 (-1))]) ?_ ?_
        · refine QRun_b [.int .i64 (-1)] 0 _ (by kernel_rfl) (fun w => by kernel_rfl) ?_
          exact QRun_done [4] (by kernel_rfl) (by kernel_rfl)
        have hB1 := M.ret_some hB1
        have gx1 := houty1 _ hB1.symm
        have hF := M.cont_inr' hF gx1
        have hF := M.ret_some hF
        subst hF
        exact Run_ret1 rfl (ResV_tmp (v := .int .i64 (-1)) (by kernel_rfl)) ⟨rfl, rfl⟩
      · have hB1 := (M.ite_some hB1).2 hb2
        refine Run_skip ?_
        refine Run_blk ?_
        refine Run_reg 3 (by kernel_rfl) (L' := [(0, .slice aa_ a_.length ca_), (1, .int .i64 x3), (5, .int .i64 (i1 + 1))]) ?_ ?_
        · refine QRun_b [.int .i64 i1] 0 _ (by kernel_rfl) (fun w => by kernel_rfl) ?_
          refine QRun_y (.int .i64 (i1 + 1)) (by kernel_rfl) (Y_eq (v := .int .i64 (w64 (i1 + 1))) (Y_pure (fun w => by kernel_rfl)) (by rw [w64_eq _ (by omega)])) ?_
          refine QRun_b [.int .i64 (i1 + 1)] 2 _ (by kernel_rfl) (fun w => by kernel_rfl) ?_
          exact QRun_done [0, 1, 5] (by kernel_rfl) (by kernel_rfl)
        have hB1 := M.ret_some hB1
        have gx1 := hgoy1 _ hB1.symm
        exact Run_again [0, 1, 5] (by kernel_rfl) my1 (Nat.lt_succ_self _) ⟨i1 + 1, x3, by omega, gx1, rfl, rfl⟩
    · have gx1 := M.for_end gx1 hb1
      subst gx1
      refine Run_exit (k' := _) rfl ?_
      exact Run_fall [1] (by kernel_rfl) ⟨s1, rfl, rfl, rfl⟩

set_option maxRecDepth 100000 in
set_option maxHeartbeats 4000000 in
theorem w_laws_markInt64S (h hE : Heap) (it : Item) (a_ : List Int) (aa_ : Option Addr) (ca_ : Nat) (k_ : Int) (HM : Hold h hE [own cd2 aa_ a_.length ca_ a_, it]) (n : Nat) (r : Int × (List Int)) (hF : laws_markInt64S a_ k_ n = some r) :
    Fn Try.prog 23 #[.slice aa_ a_.length ca_, .int .i64 k_] hE fun v h' => v = .int .i64 r.1 ∧ Hold h h' [own cd2 aa_ a_.length ca_ r.2, it] := by
  unfold laws_markInt64S at hF
  refine Fn_enter (args := [.slice aa_ a_.length ca_, .int .i64 k_]) Try.func23 rfl (by kernel_rfl) (by kernel_rfl) (fun w0 _ => ?_)
  refine Run_seq ?_
  refine Run_reg 1 (by kernel_rfl) (L' := [(0, .slice aa_ a_.length ca_), (1, .int .i64 k_)]) ?_ ?_
  · refine QRun_b [.int .i64 0] 0 _ (by kernel_rfl) (fun w => by kernel_rfl) ?_
    exact QRun_done [0, 1] (by kernel_rfl) (by kernel_rfl)
  refine Run_seq ?_
  refine Run_seq ?_
  refine Run_reg 1 (by kernel_rfl) (L' := [(0, .slice aa_ a_.length ca_), (1, .int .i64 k_), (5, .int .i64 0)]) ?_ ?_
  · refine QRun_b [.int .i64 0] 0 _ (by kernel_rfl) (fun w => by kernel_rfl) ?_
    exact QRun_done [0, 1, 5] (by kernel_rfl) (by kernel_rfl)
  obtain ⟨x1, gx1, hF⟩ := M.bind_some hF
  obtain ⟨hloy1, hhiy1, gx1⟩ := M.for_start gx1
  refine Run_join (fun L' h' => L' = [(1, .int .i64 x1.2)] ∧ Hold h h' [own cd2 aa_ a_.length ca_ x1.1, it]) ?_ ?_
  · rintro _ h2 ⟨rfl, H2⟩
    refine Run_seq ?_
    refine Run_reg 2 (by kernel_rfl) (L' := [(4, .int .i64 x1.2)]) ?_ ?_
    · refine QRun_b [.int .i64 x1.2, .int .i64 x1.2] 0 _ (by kernel_rfl) (fun w => by kernel_rfl) ?_
      exact QRun_done [4] (by kernel_rfl) (by kernel_rfl)
    have hF := M.ret_some hF
    subst hF
    exact Run_ret1 rfl (ResV_tmp (v := .int .i64 x1.2) (by kernel_rfl)) ⟨rfl, H2⟩
  · refine Run_block ?_
    refine Run_keep [0, 1, 5] (L' := [(0, .slice aa_ a_.length ca_), (1, .int .i64 k_), (5, .int .i64 0)]) (by kernel_rfl) ?_
    refine Run_loop (fun m L' h' => ∃ (i1 : Int) (s1 : (List Int) × Int), 0 ≤ i1 ∧ M.forN (a_.length : Int) _ _ n m i1 s1 = some x1 ∧ L' = [(0, .slice aa_ a_.length ca_), (1, .int .i64 s1.2), (5, .int .i64 i1)] ∧ Hold h h' [own cd2 aa_ a_.length ca_ s1.1, it]) ((a_.length : Int) - 0).toNat ⟨0, (a_, k_), Int.le_refl _, gx1, rfl, HM⟩ ?_
    rintro my1 _ h1 ⟨i1, s1, hloy1', gx1, rfl, H1⟩
    refine Run_seq ?_
    refine Run_seq ?_
    refine Run_reg 4 (by kernel_rfl) (L' := [(0, .slice aa_ a_.length ca_), (1, .int .i64 s1.2), (5, .int .i64 i1), (9, .bool (decide (i1 < (a_.length : Int))))]) ?_ ?_
    · refine QRun_b [.int .i64 i1, .slice aa_ a_.length ca_, .int .i64 (a_.length : Int), .bool (decide (i1 < (a_.length : Int)))] 0 _ (by kernel_rfl) (fun w => by kernel_rfl) ?_
      exact QRun_done [0, 1, 5, 9] (by kernel_rfl) (by kernel_rfl)
    refine Run_cond (b := decide (i1 < (a_.length : Int))) (by kernel_rfl) (fun hb1 => ?_) (fun hb1 => ?_)
    · obtain ⟨my1, y1, rfl, hB1, hgoy1, houty1⟩ := M.for_go gx1 hb1
      have hlty1 := of_decide_eq_true hb1
      refine Run_skip ?_
      refine Run_seq ?_
      refine Run_block ?_
      refine Run_seq ?_
      refine Run_ops ?_
      obtain ⟨x2, hx1, hB1⟩ := M.bind_some hB1
      obtain ⟨hx1l, hx1u, hx1⟩ := M.idx_some hx1
      refine Run_b [.slice aa_ a_.length ca_, .int .i64 i1, .int .i64 s1.2] 0 _ (by kernel_rfl) (fun w => by kernel_rfl) ?_
      refine Run_y (.pointer (some (adr aa_ (i1.toNat * 1)))) (by kernel_rfl) (Y_idx (t := 23) (e := 2) (sz := 1) (a := aa_) (n := a_.length) (cap := ca_) (kk := .i64) (i := i1) (by kernel_rfl) Try.underlying23 (by kernel_rfl) ((H1.rd 0 rfl).cell hx1).1 hx1l (by rw [← (H1.len 0 rfl)]; exact hx1u)) ?_
      obtain ⟨l1, hu1, hB1⟩ := M.bind_some hB1
      have hu1 := M.upd_some hu1
      refine Run_E (by kernel_rfl) ?_
      refine E_put (C := cd2) (t := 2) (sz := 1) (j := i1) (x := s1.2) (v := .int .i64 s1.2) H1 cd2_flat (by kernel_rfl) rfl (cd2_own _) (by kernel_rfl) hu1 (fun h3 H3 => ?_)
      refine Run_nil (by kernel_rfl) ?_
      refine Run_keep [0, 1, 5] (L' := [(0, .slice aa_ a_.length ca_), (1, .int .i64 s1.2), (5, .int .i64 i1)]) (by kernel_rfl) ?_
      refine Run_reg 3 (by kernel_rfl) (L' := [(0, .slice aa_ a_.length ca_), (1, .int .i64 (w64 (s1.2 + 1))), (5, .int .i64 i1)]) ?_ ?_
      · refine QRun_b [.int .i64 s1.2, .int .i64 (w64 (s1.2 + 1)), .int .i64 (w64 (s1.2 + 1))] 0 _ (by kernel_rfl) (fun w => by kernel_rfl) ?_
        exact QRun_done [0, 1, 5] (by kernel_rfl) (by kernel_rfl)
      refine Run_blk ?_
      refine Run_reg 3 (by kernel_rfl) (L' := [(0, .slice aa_ a_.length ca_), (1, .int .i64 (w64 (s1.2 + 1))), (5, .int .i64 (i1 + 1))]) ?_ ?_
      · refine QRun_b [.int .i64 i1] 0 _ (by kernel_rfl) (fun w => by kernel_rfl) ?_
        refine QRun_y (.int .i64 (i1 + 1)) (by kernel_rfl) (Y_eq (v := .int .i64 (w64 (i1 + 1))) (Y_pure (fun w => by kernel_rfl)) (by rw [w64_eq _ (by omega)])) ?_
        refine QRun_b [.int .i64 (i1 + 1)] 2 _ (by kernel_rfl) (fun w => by kernel_rfl) ?_
        exact QRun_done [0, 1, 5] (by kernel_rfl) (by kernel_rfl)
      have hB1 := M.ret_some hB1
      have gx1 := hgoy1 _ hB1.symm
      exact Run_again [0, 1, 5] (by kernel_rfl) my1 (Nat.lt_succ_self _) ⟨i1 + 1, (l1, (w64 (s1.2 + 1))), by omega, gx1, rfl, H3⟩
    · have gx1 := M.for_end gx1 hb1
      subst gx1
      refine Run_exit (k' := _) rfl ?_
      exact Run_fall [1] (by kernel_rfl) ⟨rfl, H1⟩

set_option maxRecDepth 100000 in
set_option maxHeartbeats 4000000 in
theorem w_laws_markInt64SS (h hE : Heap) (it : Item) (a_ : List (List Int)) (aa_ : Option Addr) (ca_ : Nat) (k_ : Int) (HM : Hold h hE [own cd23 aa_ a_.length ca_ a_, it]) (n : Nat) (r : Int × (List (List Int))) (hF : laws_markInt64SS a_ k_ n = some r) :
    Fn Try.prog 22 #[.slice aa_ a_.length ca_, .int .i64 k_] hE fun v h' => v = .int .i64 r.1 ∧ Hold h h' [own cd23 aa_ a_.length ca_ r.2, it] := by
  unfold laws_markInt64SS at hF
  refine Fn_enter (args := [.slice aa_ a_.length ca_, .int .i64 k_]) Try.func22 rfl (by kernel_rfl) (by kernel_rfl) (fun w0 _ => ?_)
  refine Run_seq ?_
  refine Run_reg 1 (by kernel_rfl) (L' := [(0, .slice aa_ a_.length ca_), (1, .int .i64 k_)]) ?_ ?_
  · refine QRun_b [.int .i64 0] 0 _ (by kernel_rfl) (fun w => by kernel_rfl) ?_
    exact QRun_done [0, 1] (by kernel_rfl) (by kernel_rfl)
  refine Run_seq ?_
  refine Run_seq ?_
  refine Run_reg 1 (by kernel_rfl) (L' := [(0, .slice aa_ a_.length ca_), (1, .int .i64 k_), (5, .int .i64 0)]) ?_ ?_
  · refine QRun_b [.int .i64 0] 0 _ (by kernel_rfl) (fun w => by kernel_rfl) ?_
    exact QRun_done [0, 1, 5] (by kernel_rfl) (by kernel_rfl)
  obtain ⟨x1, gx1, hF⟩ := M.bind_some hF
  obtain ⟨hloy1, hhiy1, gx1⟩ := M.for_start gx1
  refine Run_join (fun L' h' => L' = [(1, .int .i64 x1.2)] ∧ Hold h h' [own cd23 aa_ a_.length ca_ x1.1, it]) ?_ ?_
  · rintro _ h2 ⟨rfl, H2⟩
    refine Run_seq ?_
    refine Run_reg 2 (by kernel_rfl) (L' := [(4, .int .i64 x1.2)]) ?_ ?_
    · refine QRun_b [.int .i64 x1.2, .int .i64 x1.2] 0 _ (by kernel_rfl) (fun w => by kernel_rfl) ?_
      exact QRun_done [4] (by kernel_rfl) (by kernel_rfl)
    have hF := M.ret_some hF
    subst hF
    exact Run_ret1 rfl (ResV_tmp (v := .int .i64 x1.2) (by kernel_rfl)) ⟨rfl, H2⟩
  · refine Run_block ?_
    refine Run_keep [0, 1, 5] (L' := [(0, .slice aa_ a_.length ca_), (1, .int .i64 k_), (5, .int .i64 0)]) (by kernel_rfl) ?_
    refine Run_loop (fun m L' h' => ∃ (i1 : Int) (s1 : (List (List Int)) × Int), 0 ≤ i1 ∧ M.forN (a_.length : Int) _ _ n m i1 s1 = some x1 ∧ L' = [(0, .slice aa_ a_.length ca_), (1, .int .i64 s1.2), (5, .int .i64 i1)] ∧ Hold h h' [own cd23 aa_ a_.length ca_ s1.1, it]) ((a_.length : Int) - 0).toNat ⟨0, (a_, k_), Int.le_refl _, gx1, rfl, HM⟩ ?_
    rintro my1 _ h1 ⟨i1, s1, hloy1', gx1, rfl, H1⟩
    refine Run_seq ?_
    refine Run_seq ?_
    refine Run_reg 4 (by kernel_rfl) (L' := [(0, .slice aa_ a_.length ca_), (1, .int .i64 s1.2), (5, .int .i64 i1), (9, .bool (decide (i1 < (a_.length : Int))))]) ?_ ?_
    · refine QRun_b [.int .i64 i1, .slice aa_ a_.length ca_, .int .i64 (a_.length : Int), .bool (decide (i1 < (a_.length : Int)))] 0 _ (by kernel_rfl) (fun w => by kernel_rfl) ?_
      exact QRun_done [0, 1, 5, 9] (by kernel_rfl) (by kernel_rfl)
    refine Run_cond (b := decide (i1 < (a_.length : Int))) (by kernel_rfl) (fun hb1 => ?_) (fun hb1 => ?_)
    · obtain ⟨my1, y1, rfl, hB1, hgoy1, houty1⟩ := M.for_go gx1 hb1
      have hlty1 := of_decide_eq_true hb1
      refine Run_skip ?_
      refine Run_seq ?_
      refine Run_block ?_
      refine Run_ops ?_
      obtain ⟨x2, hx1, hB1⟩ := M.bind_some hB1
      obtain ⟨hx1l, hx1u, hx1⟩ := M.idx_some hx1
      have H3 := H1.toRows
      obtain ⟨a1, c1, H4⟩ := H3.pinRow hx1
      refine Run_b [.slice aa_ a_.length ca_, .int .i64 i1] 0 _ (by kernel_rfl) (fun w => by kernel_rfl) ?_
      refine Run_y (.pointer (some (adr aa_ (i1.toNat * 1)))) (by kernel_rfl) (Y_idx (t := 22) (e := 23) (sz := 1) (a := aa_) (n := a_.length) (cap := ca_) (kk := .i64) (i := i1) (by kernel_rfl) Try.underlying22 (by kernel_rfl) ((H1.rd 0 rfl).cell hx1).1 hx1l (by rw [← (H1.len 0 rfl)]; exact hx1u)) ?_
      refine Run_y (.slice a1 x2.length c1) (by kernel_rfl) (Y_load1 (t := 23) (p := adr aa_ (i1.toNat * 1)) (v := .slice a1 x2.length c1) (by kernel_rfl) (fun w => by kernel_rfl) (H4.cellPin 0 rfl 0 rfl)) ?_
      refine Run_b [.int .i64 s1.2] 4 _ (by kernel_rfl) (fun w => by kernel_rfl) ?_
      obtain ⟨x3, hx2, hB1⟩ := M.bind_some hB1
      have hc1 := H4.cellPin 0 rfl 0 rfl
      have hr1 := H4.getPin 0 rfl 0 rfl
      have H6 := H4.ofRows
      obtain ⟨a2, c2, hc2, H5⟩ := H6.takeRow hr1
      have ha1 := hc2.symm.trans hc1
      simp only [Option.some.injEq, Value.slice.injEq, true_and] at ha1
      obtain ⟨rfl, rfl⟩ := ha1
      have H7 : Hold h h1 [own cd2 a2 x2.length c2 x2, bun [rest cd2 23 aa_ a_.length ca_ s1.1 i1.toNat a2 x2.length c2, it]] := Hold.bundle (S := [own cd2 a2 x2.length c2 x2]) (R := [rest cd2 23 aa_ a_.length ca_ s1.1 i1.toNat a2 x2.length c2, it]) H5
      refine Run_E (by kernel_rfl) ?_
      refine E_call (f := 23) (args := #[.slice a2 x2.length c2, .int .i64 s1.2]) (w_laws_markInt64S h h1 _ x2 a2 c2 s1.2 H7 _ _ hx2) (by kernel_rfl) (fun v1 h3 hp1 => ?_)
      obtain ⟨rfl, H8⟩ := hp1
      have H9 : Hold h h3 [own cd2 a2 x2.length c2 x3.2, rest cd2 23 aa_ a_.length ca_ s1.1 i1.toNat a2 x2.length c2, it] := Hold.unbundle (S := [own cd2 a2 x2.length c2 x3.2]) (R := [rest cd2 23 aa_ a_.length ca_ s1.1 i1.toNat a2 x2.length c2, it]) H8 (Hold.tailBase (S := [own cd2 a2 x2.length c2 x2]) (R := [rest cd2 23 aa_ a_.length ca_ s1.1 i1.toNat a2 x2.length c2, it]) H5)
      have H10 : Hold h h3 [own cd23 aa_ a_.length ca_ (s1.1.set i1.toNat x3.2), it] := Hold.putRow H9
      refine Run_b [.int .i64 x3.1] 6 _ (by kernel_rfl) (fun w => by kernel_rfl) ?_
      refine Run_nil (by kernel_rfl) ?_
      refine Run_keep [0, 1, 5] (L' := [(0, .slice aa_ a_.length ca_), (1, .int .i64 x3.1), (5, .int .i64 i1)]) (by kernel_rfl) ?_
      refine Run_blk ?_
      refine Run_reg 3 (by kernel_rfl) (L' := [(0, .slice aa_ a_.length ca_), (1, .int .i64 x3.1), (5, .int .i64 (i1 + 1))]) ?_ ?_
      · refine QRun_b [.int .i64 i1] 0 _ (by kernel_rfl) (fun w => by kernel_rfl) ?_
        refine QRun_y (.int .i64 (i1 + 1)) (by kernel_rfl) (Y_eq (v := .int .i64 (w64 (i1 + 1))) (Y_pure (fun w => by kernel_rfl)) (by rw [w64_eq _ (by omega)])) ?_
        refine QRun_b [.int .i64 (i1 + 1)] 2 _ (by kernel_rfl) (fun w => by kernel_rfl) ?_
        exact QRun_done [0, 1, 5] (by kernel_rfl) (by kernel_rfl)
      have hB1 := M.ret_some hB1
      have gx1 := hgoy1 _ hB1.symm
      exact Run_again [0, 1, 5] (by kernel_rfl) my1 (Nat.lt_succ_self _) ⟨i1 + 1, ((s1.1.set i1.toNat x3.2), x3.1), by omega, gx1, rfl, H10⟩
    · have gx1 := M.for_end gx1 hb1
      subst gx1
      refine Run_exit (k' := _) rfl ?_
      exact Run_fall [1] (by kernel_rfl) ⟨rfl, H1⟩

set_option maxRecDepth 100000 in
set_option maxHeartbeats 4000000 in
theorem w_laws_FnExactRightQuotient (h : Heap) (aA : List (List Int)) (aaA : Option Addr) (caA : Nat) (raA : Rd cd23 h (Lt h) aaA caA aA) (aB : List (List Int)) (aaB : Option Addr) (caB : Nat) (raB : Rd cd23 h (Lt h) aaB caB aB) (n : Nat) (r : Bool) (hF : laws_FnExactRightQuotient aA aB n = some r) :
    Fn Try.prog 9 #[.slice aaA aA.length caA, .slice aaB aB.length caB] h fun v h' => v = .bool r ∧ Hold h h' [] := by
  unfold laws_FnExactRightQuotient at hF
  refine Fn_enter (args := [.slice aaA aA.length caA, .slice aaB aB.length caB]) Try.func9 rfl (by kernel_rfl) (by kernel_rfl) (fun w0 _ => ?_)
  have H0 := Hold.init h
  refine Run_seq ?_
  refine Run_reg 1 (by kernel_rfl) (L' := [(0, .slice aaA aA.length caA), (1, .slice aaB aB.length caB)]) ?_ ?_
  · refine QRun_b [.bool false] 0 _ (by kernel_rfl) (fun w => by kernel_rfl) ?_
    exact QRun_done [0, 1] (by kernel_rfl) (by kernel_rfl)
  refine Run_seq ?_
  refine Run_reg 1 (by kernel_rfl) (L' := [(0, .slice aaA aA.length caA), (1, .slice aaB aB.length caB), (5, .int .i64 1048576)]) ?_ ?_
  · refine QRun_b [.int .i64 1048576] 0 _ (by kernel_rfl) (fun w => by kernel_rfl) ?_
    exact QRun_done [0, 1, 5] (by kernel_rfl) (by kernel_rfl)
  refine Run_seq ?_
  obtain ⟨x1, hx1, hF⟩ := M.bind_some hF
  refine Run_reg 4 (by kernel_rfl) (L' := [(0, .slice aaA aA.length caA), (1, .slice aaB aB.length caB), (5, .int .i64 x1)]) ?_ ?_
  · refine QRun_b [.slice aaA aA.length caA, .int .i64 1048576] 0 _ (by kernel_rfl) (fun w => by kernel_rfl) ?_
    refine QRun_y (.int .i64 x1) (by kernel_rfl) (Y_callq (f := 15) (args := #[.slice aaA aA.length caA, .int .i64 1048576]) (v := .int .i64 x1) (by kernel_rfl) (w_laws_szInt64SS h aA aaA caA raA 1048576 _ _ hx1)) ?_
    refine QRun_b [.int .i64 x1] 3 _ (by kernel_rfl) (fun w => by kernel_rfl) ?_
    exact QRun_done [0, 1, 5] (by kernel_rfl) (by kernel_rfl)
  refine Run_seq ?_
  refine Run_seq ?_
  refine Run_reg 2 (by kernel_rfl) (L' := [(0, .slice aaA aA.length caA), (1, .slice aaB aB.length caB), (5, .int .i64 x1), (21, .bool (decide (x1 < 0)))]) ?_ ?_
  · refine QRun_b [.int .i64 x1, .bool (decide (x1 < 0))] 0 _ (by kernel_rfl) (fun w => by kernel_rfl) ?_
    exact QRun_done [0, 1, 5, 21] (by kernel_rfl) (by kernel_rfl)
  refine Run_cond (b := decide (x1 < 0)) (by kernel_rfl) (fun hb1 => ?_) (fun hb1 => ?_)
  · have hF := (M.ite_some hF).1 hb1
    refine Run_seq ?_
    refine Run_reg 1 (by kernel_rfl) (L' := [(4, .bool true)]) ?_ ?_
    · refine QRun_b [.bool true] 0 _ (by kernel_rfl) (fun w => by kernel_rfl) ?_
      exact QRun_done [4] (by kernel_rfl) (by kernel_rfl)
    have hF := M.ret_some hF
    subst hF
    exact Run_ret1 rfl (ResV_tmp (v := .bool true) (by kernel_rfl)) ⟨rfl, H0⟩
  · have hF := (M.ite_some hF).2 hb1
    refine Run_skip ?_
    refine Run_seq ?_
    obtain ⟨x2, hx2, hF⟩ := M.bind_some hF
    refine Run_reg 4 (by kernel_rfl) (L' := [(0, .slice aaA aA.length caA), (1, .slice aaB aB.length caB), (5, .int .i64 x2)]) ?_ ?_
    · refine QRun_b [.slice aaB aB.length caB, .int .i64 x1] 0 _ (by kernel_rfl) (fun w => by kernel_rfl) ?_
      refine QRun_y (.int .i64 x2) (by kernel_rfl) (Y_callq (f := 15) (args := #[.slice aaB aB.length caB, .int .i64 x1]) (v := .int .i64 x2) (by kernel_rfl) (w_laws_szInt64SS h aB aaB caB raB x1 _ _ hx2)) ?_
      refine QRun_b [.int .i64 x2] 3 _ (by kernel_rfl) (fun w => by kernel_rfl) ?_
      exact QRun_done [0, 1, 5] (by kernel_rfl) (by kernel_rfl)
    refine Run_seq ?_
    refine Run_seq ?_
    refine Run_reg 2 (by kernel_rfl) (L' := [(0, .slice aaA aA.length caA), (1, .slice aaB aB.length caB), (26, .bool (decide (x2 < 0)))]) ?_ ?_
    · refine QRun_b [.int .i64 x2, .bool (decide (x2 < 0))] 0 _ (by kernel_rfl) (fun w => by kernel_rfl) ?_
      exact QRun_done [0, 1, 26] (by kernel_rfl) (by kernel_rfl)
    refine Run_cond (b := decide (x2 < 0)) (by kernel_rfl) (fun hb2 => ?_) (fun hb2 => ?_)
    · have hF := (M.ite_some hF).1 hb2
      refine Run_seq ?_
      refine Run_reg 1 (by kernel_rfl) (L' := [(4, .bool true)]) ?_ ?_
      · refine QRun_b [.bool true] 0 _ (by kernel_rfl) (fun w => by kernel_rfl) ?_
        exact QRun_done [4] (by kernel_rfl) (by kernel_rfl)
      have hF := M.ret_some hF
      subst hF
      exact Run_ret1 rfl (ResV_tmp (v := .bool true) (by kernel_rfl)) ⟨rfl, H0⟩
    · have hF := (M.ite_some hF).2 hb2
      refine Run_skip ?_
      refine Run_seq ?_
      refine Run_ops ?_
      refine Run_b [.slice aaA aA.length caA] 0 _ (by kernel_rfl) (fun w => by kernel_rfl) ?_
      obtain ⟨x3, hx3, hF⟩ := M.bind_some hF
      refine Run_E (by kernel_rfl) ?_
      refine E_call (f := 17) (args := #[.slice aaA aA.length caA]) (w_laws_toInt64SS h aA aaA caA raA _ _ hx3) (by kernel_rfl) (fun v1 h1 hp1 => ?_)
      obtain ⟨a1, c1, rfl, H1⟩ := hp1
      have H2 : Hold h h1 [own cd23 a1 x3.length c1 x3] := H0.call H1 rfl
      refine Run_b [.slice aaB aB.length caB] 2 _ (by kernel_rfl) (fun w => by kernel_rfl) ?_
      obtain ⟨x4, hx4, hF⟩ := M.bind_some hF
      refine Run_E (by kernel_rfl) ?_
      refine E_call (f := 17) (args := #[.slice aaB aB.length caB]) (w_laws_toInt64SS h1 aB aaB caB (raB.at H2.ext) _ _ hx4) (by kernel_rfl) (fun v2 h2 hp2 => ?_)
      obtain ⟨a2, c2, rfl, H3⟩ := hp2
      have H4 : Hold h h2 [own cd23 a2 x4.length c2 x4, own cd23 a1 x3.length c1 x3] := H2.call H3 rfl
      obtain ⟨x5, hx5, hF⟩ := M.bind_some hF
      refine Run_E (by kernel_rfl) ?_
      refine E_call (f := 36) (args := #[.slice a1 x3.length c1, .slice a2 x4.length c2]) (w_spec_RightQuotient h2 x3 a1 c1 (H4.rd 1 rfl) x4 a2 c2 (H4.rd 0 rfl) _ _ hx5) (by kernel_rfl) (fun v3 h3 hp3 => ?_)
      obtain ⟨a3, c3, rfl, H5⟩ := hp3
      have H6 : Hold h h3 [own cd23 a3 x5.1.length c3 x5.1, own cd23 a2 x4.length c2 x4, own cd23 a1 x3.length c1 x3] := H4.call H5 rfl
      refine Run_b [.tuple #[.slice a3 x5.1.length c3, .int .i64 x5.2], .slice a3 x5.1.length c3, .int .i64 x5.2, .slice a3 x5.1.length c3, .int .i64 x5.2] 5 _ (by kernel_rfl) (fun w => by kernel_rfl) ?_
      refine Run_nil (by kernel_rfl) ?_
      refine Run_keep [0, 1, 6, 7] (L' := [(0, .slice aaA aA.length caA), (1, .slice aaB aB.length caB), (6, .slice a3 x5.1.length c3), (7, .int .i64 x5.2)]) (by kernel_rfl) ?_
      refine Run_seq ?_
      refine Run_ops ?_
      refine Run_b [.slice aaA aA.length caA] 0 _ (by kernel_rfl) (fun w => by kernel_rfl) ?_
      obtain ⟨x6, hx6, hF⟩ := M.bind_some hF
      refine Run_E (by kernel_rfl) ?_
      refine E_call (f := 17) (args := #[.slice aaA aA.length caA]) (w_laws_toInt64SS h3 aA aaA caA (raA.at H6.ext) _ _ hx6) (by kernel_rfl) (fun v4 h4 hp4 => ?_)
      obtain ⟨a4, c4, rfl, H7⟩ := hp4
      have H8 : Hold h h4 [own cd23 a4 x6.length c4 x6, own cd23 a3 x5.1.length c3 x5.1, own cd23 a2 x4.length c2 x4, own cd23 a1 x3.length c1 x3] := H6.call H7 rfl
      refine Run_b [.slice a4 x6.length c4] 2 _ (by kernel_rfl) (fun w => by kernel_rfl) ?_
      refine Run_nil (by kernel_rfl) ?_
      refine Run_keep [0, 1, 6, 7, 8] (L' := [(0, .slice aaA aA.length caA), (1, .slice aaB aB.length caB), (6, .slice a3 x5.1.length c3), (7, .int .i64 x5.2), (8, .slice a4 x6.length c4)]) (by kernel_rfl) ?_
      refine Run_seq ?_
      refine Run_ops ?_
      refine Run_b [.slice aaB aB.length caB] 0 _ (by kernel_rfl) (fun w => by kernel_rfl) ?_
      obtain ⟨x7, hx7, hF⟩ := M.bind_some hF
      refine Run_E (by kernel_rfl) ?_
      refine E_call (f := 17) (args := #[.slice aaB aB.length caB]) (w_laws_toInt64SS h4 aB aaB caB (raB.at H8.ext) _ _ hx7) (by kernel_rfl) (fun v5 h5 hp5 => ?_)
      obtain ⟨a5, c5, rfl, H9⟩ := hp5
      have H10 : Hold h h5 [own cd23 a5 x7.length c5 x7, own cd23 a4 x6.length c4 x6, own cd23 a3 x5.1.length c3 x5.1, own cd23 a2 x4.length c2 x4, own cd23 a1 x3.length c1 x3] := H8.call H9 rfl
      refine Run_b [.slice a5 x7.length c5] 2 _ (by kernel_rfl) (fun w => by kernel_rfl) ?_
      refine Run_nil (by kernel_rfl) ?_
      refine Run_keep [0, 1, 6, 7, 8, 9] (L' := [(0, .slice aaA aA.length caA), (1, .slice aaB aB.length caB), (6, .slice a3 x5.1.length c3), (7, .int .i64 x5.2), (8, .slice a4 x6.length c4), (9, .slice a5 x7.length c5)]) (by kernel_rfl) ?_
      refine Run_seq ?_
      refine Run_ops ?_
      refine Run_b [.slice a4 x6.length c4, .slice a5 x7.length c5] 0 _ (by kernel_rfl) (fun w => by kernel_rfl) ?_
      obtain ⟨x8, hx8, hF⟩ := M.bind_some hF
      refine Run_E (by kernel_rfl) ?_
      refine E_call (f := 37) (args := #[.slice a4 x6.length c4, .slice a5 x7.length c5]) (w_impl_RightQuotient h5 x6 a4 c4 (H10.rd 1 rfl) x7 a5 c5 (H10.rd 0 rfl) _ _ hx8) (by kernel_rfl) (fun v6 h6 hp6 => ?_)
      obtain ⟨a6, c6, rfl, H11⟩ := hp6
      have H12 : Hold h h6 [own cd23 a6 x8.1.length c6 x8.1, own cd23 a5 x7.length c5 x7, own cd23 a4 x6.length c4 x6, own cd23 a3 x5.1.length c3 x5.1, own cd23 a2 x4.length c2 x4, own cd23 a1 x3.length c1 x3] := H10.call H11 rfl
      refine Run_b [.tuple #[.slice a6 x8.1.length c6, .int .i64 x8.2], .slice a6 x8.1.length c6, .int .i64 x8.2, .slice a6 x8.1.length c6, .int .i64 x8.2] 3 _ (by kernel_rfl) (fun w => by kernel_rfl) ?_
      refine Run_nil (by kernel_rfl) ?_
      refine Run_keep [0, 1, 6, 7, 8, 9, 10, 11] (L' := [(0, .slice aaA aA.length caA), (1, .slice aaB aB.length caB), (6, .slice a3 x5.1.length c3), (7, .int .i64 x5.2), (8, .slice a4 x6.length c4), (9, .slice a5 x7.length c5), (10, .slice a6 x8.1.length c6), (11, .int .i64 x8.2)]) (by kernel_rfl) ?_
      refine Run_seq ?_
      refine Run_seq ?_
      obtain ⟨x9, hx9, hF⟩ := M.bind_some hF
      refine Run_reg 9 (by kernel_rfl) (L' := [(0, .slice aaA aA.length caA), (1, .slice aaB aB.length caB), (6, .slice a3 x5.1.length c3), (7, .int .i64 x5.2), (8, .slice a4 x6.length c4), (9, .slice a5 x7.length c5), (10, .slice a6 x8.1.length c6), (11, .int .i64 x8.2), (53, .bool ((!x9) || (x8.2 != x5.2)))]) ?_ ?_
      · refine QRun_b [.slice a6 x8.1.length c6, .slice a3 x5.1.length c3] 0 _ (by kernel_rfl) (fun w => by kernel_rfl) ?_
        refine QRun_y (.bool x9) (by kernel_rfl) (Y_callq (f := 21) (args := #[.slice a6 x8.1.length c6, .slice a3 x5.1.length c3]) (v := .bool x9) (by kernel_rfl) (w_laws_eqInt64SS h6 x8.1 a6 c6 (H12.rd 0 rfl) x5.1 a3 c3 (H12.rd 3 rfl) _ _ hx9)) ?_
        refine QRun_b [.bool (!x9)] 3 _ (by kernel_rfl) (fun w => by kernel_rfl) ?_
        refine QRun_seq 9 [(0, .slice aaA aA.length caA), (1, .slice aaB aB.length caB), (6, .slice a3 x5.1.length c3), (7, .int .i64 x5.2), (8, .slice a4 x6.length c4), (9, .slice a5 x7.length c5), (10, .slice a6 x8.1.length c6), (11, .int .i64 x8.2), (53, .bool ((!x9) || (x8.2 != x5.2)))] ?_ ?_
        · rcases Bool.eq_false_or_eq_true (!x9) with hb3 | hb3
          · refine QRun_bool (!x9) true (by kernel_rfl) (fun w => by kernel_rfl) hb3 ?_
            refine QRun_n (by kernel_rfl) ?_
            refine QRun_n (by kernel_rfl) ?_
            refine QRun_n (by kernel_rfl) ?_
            refine QRun_bool true ((!x9) || (x8.2 != x5.2)) (by kernel_rfl) (fun w => by kernel_rfl) (by rw [hb3]; rfl) ?_
            exact QRun_done [0, 1, 6, 7, 8, 9, 10, 11, 53] (by kernel_rfl) (by kernel_rfl)
          · refine QRun_bool (!x9) false (by kernel_rfl) (fun w => by kernel_rfl) hb3 ?_
            refine QRun_b [.int .i64 x8.2, .int .i64 x5.2, .bool (x8.2 != x5.2)] 5 _ (by kernel_rfl) (fun w => by kernel_rfl) ?_
            refine QRun_bool (x8.2 != x5.2) ((!x9) || (x8.2 != x5.2)) (by kernel_rfl) (fun w => by kernel_rfl) (by rw [hb3]; rfl) ?_
            exact QRun_done [0, 1, 6, 7, 8, 9, 10, 11, 53] (by kernel_rfl) (by kernel_rfl)
        exact QRun_done [0, 1, 6, 7, 8, 9, 10, 11, 53] (by kernel_rfl) (by kernel_rfl)
      refine Run_cond (b := (!x9) || (x8.2 != x5.2)) (by kernel_rfl) (fun hb4 => ?_) (fun hb4 => ?_)
      · have hF := (M.ite_some hF).1 hb4
        refine Run_seq ?_
        refine Run_reg 1 (by kernel_rfl) (L' := [(4, .bool false)]) ?_ ?_
        · refine QRun_b [.bool false] 0 _ (by kernel_rfl) (fun w => by kernel_rfl) ?_
          exact QRun_done [4] (by kernel_rfl) (by kernel_rfl)
        have hF := M.ret_some hF
        subst hF
        have H13 : Hold h h6 [] := H12.pick [] (by kernel_rfl)
        exact Run_ret1 rfl (ResV_tmp (v := .bool false) (by kernel_rfl)) ⟨rfl, H13⟩
      · have hF := (M.ite_some hF).2 hb4
        refine Run_skip ?_
        refine Run_seq ?_
        refine Run_seq ?_
        refine Run_ops ?_
        refine Run_b [.slice a4 x6.length c4, .slice aaA aA.length caA] 0 _ (by kernel_rfl) (fun w => by kernel_rfl) ?_
        obtain ⟨x11, hx10, hF⟩ := M.bind_some hF
        refine Run_E (by kernel_rfl) ?_
        refine E_call (f := 17) (args := #[.slice aaA aA.length caA]) (w_laws_toInt64SS h6 aA aaA caA (raA.at H12.ext) _ _ hx10) (by kernel_rfl) (fun v7 h7 hp7 => ?_)
        obtain ⟨a7, c7, rfl, H14⟩ := hp7
        have H15 : Hold h h7 [own cd23 a7 x11.length c7 x11, own cd23 a6 x8.1.length c6 x8.1, own cd23 a5 x7.length c5 x7, own cd23 a4 x6.length c4 x6, own cd23 a3 x5.1.length c3 x5.1, own cd23 a2 x4.length c2 x4, own cd23 a1 x3.length c1 x3] := H12.call H14 rfl
        obtain ⟨x12, hx11, hF⟩ := M.bind_some hF
        refine Run_y (.bool x12) (by kernel_rfl) (Y_callq (f := 21) (args := #[.slice a4 x6.length c4, .slice a7 x11.length c7]) (v := .bool x12) (by kernel_rfl) (w_laws_eqInt64SS h7 x6 a4 c4 (H15.rd 3 rfl) x11 a7 c7 (H15.rd 0 rfl) _ _ hx11)) ?_
        refine Run_b [.bool (!x12)] 4 _ (by kernel_rfl) (fun w => by kernel_rfl) ?_
        refine Run_nil (by kernel_rfl) ?_
        refine Run_keep [0, 1, 6, 7, 8, 9, 10, 11, 58] (L' := [(0, .slice aaA aA.length caA), (1, .slice aaB aB.length caB), (6, .slice a3 x5.1.length c3), (7, .int .i64 x5.2), (8, .slice a4 x6.length c4), (9, .slice a5 x7.length c5), (10, .slice a6 x8.1.length c6), (11, .int .i64 x8.2), (58, .bool (!x12))]) (by kernel_rfl) ?_
        refine Run_cond (b := !x12) (by kernel_rfl) (fun hb5 => ?_) (fun hb5 => ?_)
        · have hF := (M.ite_some hF).1 hb5
          refine Run_seq ?_
          refine Run_reg 1 (by kernel_rfl) (L' := [(4, .bool false)]) ?_ ?_
          · refine QRun_b [.bool false] 0 _ (by kernel_rfl) (fun w => by kernel_rfl) ?_
            exact QRun_done [4] (by kernel_rfl) (by kernel_rfl)
          have hF := M.ret_some hF
          subst hF
          have H16 : Hold h h7 [] := H15.pick [] (by kernel_rfl)
          exact Run_ret1 rfl (ResV_tmp (v := .bool false) (by kernel_rfl)) ⟨rfl, H16⟩
        · have hF := (M.ite_some hF).2 hb5
          refine Run_skip ?_
          refine Run_seq ?_
          refine Run_seq ?_
          refine Run_ops ?_
          refine Run_b [.slice a5 x7.length c5, .slice aaB aB.length caB] 0 _ (by kernel_rfl) (fun w => by kernel_rfl) ?_
          obtain ⟨x13, hx12, hF⟩ := M.bind_some hF
          refine Run_E (by kernel_rfl) ?_
          refine E_call (f := 17) (args := #[.slice aaB aB.length caB]) (w_laws_toInt64SS h7 aB aaB caB (raB.at H15.ext) _ _ hx12) (by kernel_rfl) (fun v8 h8 hp8 => ?_)
          obtain ⟨a8, c8, rfl, H17⟩ := hp8
          have H18 : Hold h h8 [own cd23 a8 x13.length c8 x13, own cd23 a7 x11.length c7 x11, own cd23 a6 x8.1.length c6 x8.1, own cd23 a5 x7.length c5 x7, own cd23 a4 x6.length c4 x6, own cd23 a3 x5.1.length c3 x5.1, own cd23 a2 x4.length c2 x4, own cd23 a1 x3.length c1 x3] := H15.call H17 rfl
          obtain ⟨x14, hx13, hF⟩ := M.bind_some hF
          refine Run_y (.bool x14) (by kernel_rfl) (Y_callq (f := 21) (args := #[.slice a5 x7.length c5, .slice a8 x13.length c8]) (v := .bool x14) (by kernel_rfl) (w_laws_eqInt64SS h8 x7 a5 c5 (H18.rd 3 rfl) x13 a8 c8 (H18.rd 0 rfl) _ _ hx13)) ?_
          refine Run_b [.bool (!x14)] 4 _ (by kernel_rfl) (fun w => by kernel_rfl) ?_
          refine Run_nil (by kernel_rfl) ?_
          refine Run_keep [0, 1, 6, 7, 8, 9, 10, 11, 63] (L' := [(0, .slice aaA aA.length caA), (1, .slice aaB aB.length caB), (6, .slice a3 x5.1.length c3), (7, .int .i64 x5.2), (8, .slice a4 x6.length c4), (9, .slice a5 x7.length c5), (10, .slice a6 x8.1.length c6), (11, .int .i64 x8.2), (63, .bool (!x14))]) (by kernel_rfl) ?_
          refine Run_cond (b := !x14) (by kernel_rfl) (fun hb6 => ?_) (fun hb6 => ?_)
          · have hF := (M.ite_some hF).1 hb6
            refine Run_seq ?_
            refine Run_reg 1 (by kernel_rfl) (L' := [(4, .bool false)]) ?_ ?_
            · refine QRun_b [.bool false] 0 _ (by kernel_rfl) (fun w => by kernel_rfl) ?_
              exact QRun_done [4] (by kernel_rfl) (by kernel_rfl)
            have hF := M.ret_some hF
            subst hF
            have H19 : Hold h h8 [] := H18.pick [] (by kernel_rfl)
            exact Run_ret1 rfl (ResV_tmp (v := .bool false) (by kernel_rfl)) ⟨rfl, H19⟩
          · have hF := (M.ite_some hF).2 hb6
            refine Run_skip ?_
            refine Run_seq ?_
            refine Run_reg 1 (by kernel_rfl) (L' := [(0, .slice aaA aA.length caA), (1, .slice aaB aB.length caB), (6, .slice a3 x5.1.length c3), (7, .int .i64 x5.2), (8, .slice a4 x6.length c4), (9, .slice a5 x7.length c5), (10, .slice a6 x8.1.length c6), (11, .int .i64 x8.2), (12, .int .i64 1)]) ?_ ?_
            · refine QRun_b [.int .i64 1] 0 _ (by kernel_rfl) (fun w => by kernel_rfl) ?_
              exact QRun_done [0, 1, 6, 7, 8, 9, 10, 11, 12] (by kernel_rfl) (by kernel_rfl)
            refine Run_seq ?_
            refine Run_ops ?_
            refine Run_b [.slice a4 x6.length c4, .int .i64 1] 0 _ (by kernel_rfl) (fun w => by kernel_rfl) ?_
            obtain ⟨x15, hx14, hF⟩ := M.bind_some hF
            have H20 : Hold h h8 [own cd23 a4 x6.length c4 x6, own cd23 a8 x13.length c8 x13, own cd23 a7 x11.length c7 x11, own cd23 a6 x8.1.length c6 x8.1, own cd23 a5 x7.length c5 x7, own cd23 a3 x5.1.length c3 x5.1, own cd23 a2 x4.length c2 x4, own cd23 a1 x3.length c1 x3] := H18.pick [4, 0, 1, 2, 3, 5, 6, 7] (by kernel_rfl)
            have H21 : Hold h h8 [own cd23 a4 x6.length c4 x6, bun [own cd23 a8 x13.length c8 x13, own cd23 a7 x11.length c7 x11, own cd23 a6 x8.1.length c6 x8.1, own cd23 a5 x7.length c5 x7, own cd23 a3 x5.1.length c3 x5.1, own cd23 a2 x4.length c2 x4, own cd23 a1 x3.length c1 x3]] := Hold.bundle (S := [own cd23 a4 x6.length c4 x6]) (R := [own cd23 a8 x13.length c8 x13, own cd23 a7 x11.length c7 x11, own cd23 a6 x8.1.length c6 x8.1, own cd23 a5 x7.length c5 x7, own cd23 a3 x5.1.length c3 x5.1, own cd23 a2 x4.length c2 x4, own cd23 a1 x3.length c1 x3]) H20
            refine Run_E (by kernel_rfl) ?_
            refine E_call (f := 22) (args := #[.slice a4 x6.length c4, .int .i64 1]) (w_laws_markInt64SS h h8 _ x6 a4 c4 1 H21 _ _ hx14) (by kernel_rfl) (fun v9 h9 hp9 => ?_)
            obtain ⟨rfl, H22⟩ := hp9
            have H23 : Hold h h9 [own cd23 a4 x6.length c4 x15.2, own cd23 a8 x13.length c8 x13, own cd23 a7 x11.length c7 x11, own cd23 a6 x8.1.length c6 x8.1, own cd23 a5 x7.length c5 x7, own cd23 a3 x5.1.length c3 x5.1, own cd23 a2 x4.length c2 x4, own cd23 a1 x3.length c1 x3] := Hold.unbundle (S := [own cd23 a4 x6.length c4 x15.2]) (R := [own cd23 a8 x13.length c8 x13, own cd23 a7 x11.length c7 x11, own cd23 a6 x8.1.length c6 x8.1, own cd23 a5 x7.length c5 x7, own cd23 a3 x5.1.length c3 x5.1, own cd23 a2 x4.length c2 x4, own cd23 a1 x3.length c1 x3]) H22 (Hold.tailBase (S := [own cd23 a4 x6.length c4 x6]) (R := [own cd23 a8 x13.length c8 x13, own cd23 a7 x11.length c7 x11, own cd23 a6 x8.1.length c6 x8.1, own cd23 a5 x7.length c5 x7, own cd23 a3 x5.1.length c3 x5.1, own cd23 a2 x4.length c2 x4, own cd23 a1 x3.length c1 x3]) H20)
            refine Run_b [.int .i64 x15.1] 3 _ (by kernel_rfl) (fun w => by kernel_rfl) ?_
            refine Run_nil (by kernel_rfl) ?_
            refine Run_keep [0, 1, 6, 7, 9, 10, 11, 12] (L' := [(0, .slice aaA aA.length caA), (1, .slice aaB aB.length caB), (6, .slice a3 x5.1.length c3), (7, .int .i64 x5.2), (9, .slice a5 x7.length c5), (10, .slice a6 x8.1.length c6), (11, .int .i64 x8.2), (12, .int .i64 x15.1)]) (by kernel_rfl) ?_
            refine Run_seq ?_
            refine Run_ops ?_
            refine Run_b [.slice a5 x7.length c5, .int .i64 x15.1] 0 _ (by kernel_rfl) (fun w => by kernel_rfl) ?_
            obtain ⟨x16, hx15, hF⟩ := M.bind_some hF
            have H24 : Hold h h9 [own cd23 a5 x7.length c5 x7, own cd23 a4 x6.length c4 x15.2, own cd23 a8 x13.length c8 x13, own cd23 a7 x11.length c7 x11, own cd23 a6 x8.1.length c6 x8.1, own cd23 a3 x5.1.length c3 x5.1, own cd23 a2 x4.length c2 x4, own cd23 a1 x3.length c1 x3] := H23.pick [4, 0, 1, 2, 3, 5, 6, 7] (by kernel_rfl)
            have H25 : Hold h h9 [own cd23 a5 x7.length c5 x7, bun [own cd23 a4 x6.length c4 x15.2, own cd23 a8 x13.length c8 x13, own cd23 a7 x11.length c7 x11, own cd23 a6 x8.1.length c6 x8.1, own cd23 a3 x5.1.length c3 x5.1, own cd23 a2 x4.length c2 x4, own cd23 a1 x3.length c1 x3]] := Hold.bundle (S := [own cd23 a5 x7.length c5 x7]) (R := [own cd23 a4 x6.length c4 x15.2, own cd23 a8 x13.length c8 x13, own cd23 a7 x11.length c7 x11, own cd23 a6 x8.1.length c6 x8.1, own cd23 a3 x5.1.length c3 x5.1, own cd23 a2 x4.length c2 x4, own cd23 a1 x3.length c1 x3]) H24
            refine Run_E (by kernel_rfl) ?_
            refine E_call (f := 22) (args := #[.slice a5 x7.length c5, .int .i64 x15.1]) (w_laws_markInt64SS h h9 _ x7 a5 c5 x15.1 H25 _ _ hx15) (by kernel_rfl) (fun v10 h10 hp10 => ?_)
            obtain ⟨rfl, H26⟩ := hp10
            have H27 : Hold h h10 [own cd23 a5 x7.length c5 x16.2, own cd23 a4 x6.length c4 x15.2, own cd23 a8 x13.length c8 x13, own cd23 a7 x11.length c7 x11, own cd23 a6 x8.1.length c6 x8.1, own cd23 a3 x5.1.length c3 x5.1, own cd23 a2 x4.length c2 x4, own cd23 a1 x3.length c1 x3] := Hold.unbundle (S := [own cd23 a5 x7.length c5 x16.2]) (R := [own cd23 a4 x6.length c4 x15.2, own cd23 a8 x13.length c8 x13, own cd23 a7 x11.length c7 x11, own cd23 a6 x8.1.length c6 x8.1, own cd23 a3 x5.1.length c3 x5.1, own cd23 a2 x4.length c2 x4, own cd23 a1 x3.length c1 x3]) H26 (Hold.tailBase (S := [own cd23 a5 x7.length c5 x7]) (R := [own cd23 a4 x6.length c4 x15.2, own cd23 a8 x13.length c8 x13, own cd23 a7 x11.length c7 x11, own cd23 a6 x8.1.length c6 x8.1, own cd23 a3 x5.1.length c3 x5.1, own cd23 a2 x4.length c2 x4, own cd23 a1 x3.length c1 x3]) H24)
            refine Run_b [.int .i64 x16.1] 3 _ (by kernel_rfl) (fun w => by kernel_rfl) ?_
            refine Run_nil (by kernel_rfl) ?_
            refine Run_keep [0, 1, 6, 7, 10, 11, 12] (L' := [(0, .slice aaA aA.length caA), (1, .slice aaB aB.length caB), (6, .slice a3 x5.1.length c3), (7, .int .i64 x5.2), (10, .slice a6 x8.1.length c6), (11, .int .i64 x8.2), (12, .int .i64 x16.1)]) (by kernel_rfl) ?_
            refine Run_seq ?_
            refine Run_seq ?_
            obtain ⟨x17, gx17, hF⟩ := M.bind_some hF
            refine Run_reg 13 (by kernel_rfl) (L' := [(0, .slice aaA aA.length caA), (1, .slice aaB aB.length caB), (6, .slice a3 x5.1.length c3), (7, .int .i64 x5.2), (10, .slice a6 x8.1.length c6), (82, .bool (x17 || (x8.2 != x5.2)))]) ?_ ?_
            · refine QRun_b [.int .i64 x16.1, .bool (decide (x16.1 < 0))] 0 _ (by kernel_rfl) (fun w => by kernel_rfl) ?_
              refine QRun_seq 8 [(0, .slice aaA aA.length caA), (1, .slice aaB aB.length caB), (6, .slice a3 x5.1.length c3), (7, .int .i64 x5.2), (10, .slice a6 x8.1.length c6), (11, .int .i64 x8.2), (77, .bool x17)] ?_ ?_
              · rcases Bool.eq_false_or_eq_true (decide (x16.1 < 0)) with hb7 | hb7
                · refine QRun_bool (decide (x16.1 < 0)) true (by kernel_rfl) (fun w => by kernel_rfl) hb7 ?_
                  have gx17 := M.ret_some ((M.ite_some gx17).1 hb7)
                  refine QRun_n (by kernel_rfl) ?_
                  refine QRun_n (by kernel_rfl) ?_
                  refine QRun_n (by kernel_rfl) ?_
                  refine QRun_n (by kernel_rfl) ?_
                  refine QRun_bool true x17 (by kernel_rfl) (fun w => by kernel_rfl) gx17 ?_
                  exact QRun_done [0, 1, 6, 7, 10, 11, 77] (by kernel_rfl) (by kernel_rfl)
                · refine QRun_bool (decide (x16.1 < 0)) false (by kernel_rfl) (fun w => by kernel_rfl) hb7 ?_
                  have gx17 := (M.ite_some gx17).2 hb7
                  obtain ⟨x18, hx16, gx17⟩ := M.bind_some gx17
                  have gx17 := M.ret_some gx17
                  refine QRun_b [.slice a6 x8.1.length c6, .slice a3 x5.1.length c3] 3 _ (by kernel_rfl) (fun w => by kernel_rfl) ?_
                  refine QRun_y (.bool x18) (by kernel_rfl) (Y_callq (f := 21) (args := #[.slice a6 x8.1.length c6, .slice a3 x5.1.length c3]) (v := .bool x18) (by kernel_rfl) (w_laws_eqInt64SS h10 x8.1 a6 c6 (H27.rd 4 rfl) x5.1 a3 c3 (H27.rd 5 rfl) _ _ hx16)) ?_
                  refine QRun_b [.bool (!x18)] 6 _ (by kernel_rfl) (fun w => by kernel_rfl) ?_
                  refine QRun_bool (!x18) x17 (by kernel_rfl) (fun w => by kernel_rfl) gx17 ?_
                  exact QRun_done [0, 1, 6, 7, 10, 11, 77] (by kernel_rfl) (by kernel_rfl)
              refine QRun_seq 13 [(0, .slice aaA aA.length caA), (1, .slice aaB aB.length caB), (6, .slice a3 x5.1.length c3), (7, .int .i64 x5.2), (10, .slice a6 x8.1.length c6), (82, .bool (x17 || (x8.2 != x5.2)))] ?_ ?_
              · rcases Bool.eq_false_or_eq_true x17 with hb8 | hb8
                · refine QRun_bool x17 true (by kernel_rfl) (fun w => by kernel_rfl) hb8 ?_
                  refine QRun_n (by kernel_rfl) ?_
                  refine QRun_n (by kernel_rfl) ?_
                  refine QRun_n (by kernel_rfl) ?_
                  refine QRun_bool true (x17 || (x8.2 != x5.2)) (by kernel_rfl) (fun w => by kernel_rfl) (by rw [hb8]; rfl) ?_
                  exact QRun_done [0, 1, 6, 7, 10, 82] (by kernel_rfl) (by kernel_rfl)
                · refine QRun_bool x17 false (by kernel_rfl) (fun w => by kernel_rfl) hb8 ?_
                  refine QRun_b [.int .i64 x8.2, .int .i64 x5.2, .bool (x8.2 != x5.2)] 9 _ (by kernel_rfl) (fun w => by kernel_rfl) ?_
                  refine QRun_bool (x8.2 != x5.2) (x17 || (x8.2 != x5.2)) (by kernel_rfl) (fun w => by kernel_rfl) (by rw [hb8]; rfl) ?_
                  exact QRun_done [0, 1, 6, 7, 10, 82] (by kernel_rfl) (by kernel_rfl)
              exact QRun_done [0, 1, 6, 7, 10, 82] (by kernel_rfl) (by kernel_rfl)
            refine Run_cond (b := x17 || (x8.2 != x5.2)) (by kernel_rfl) (fun hb9 => ?_) (fun hb9 => ?_)
            · have hF := (M.ite_some hF).1 hb9
              refine Run_seq ?_
              refine Run_reg 1 (by kernel_rfl) (L' := [(4, .bool false)]) ?_ ?_
              · refine QRun_b [.bool false] 0 _ (by kernel_rfl) (fun w => by kernel_rfl) ?_
                exact QRun_done [4] (by kernel_rfl) (by kernel_rfl)
              have hF := M.ret_some hF
              subst hF
              have H28 : Hold h h10 [] := H27.pick [] (by kernel_rfl)
              exact Run_ret1 rfl (ResV_tmp (v := .bool false) (by kernel_rfl)) ⟨rfl, H28⟩
            · have hF := (M.ite_some hF).2 hb9
              refine Run_skip ?_
              refine Run_seq ?_
              refine Run_reg 1 (by kernel_rfl) (L' := [(0, .slice aaA aA.length caA), (1, .slice aaB aB.length caB), (6, .slice a3 x5.1.length c3), (7, .int .i64 x5.2), (10, .slice a6 x8.1.length c6), (13, .int .i64 1)]) ?_ ?_
              · refine QRun_b [.int .i64 1] 0 _ (by kernel_rfl) (fun w => by kernel_rfl) ?_
                exact QRun_done [0, 1, 6, 7, 10, 13] (by kernel_rfl) (by kernel_rfl)
              refine Run_seq ?_
              refine Run_ops ?_
              refine Run_b [.slice a6 x8.1.length c6, .int .i64 1] 0 _ (by kernel_rfl) (fun w => by kernel_rfl) ?_
              obtain ⟨x20, hx17, hF⟩ := M.bind_some hF
              have H29 : Hold h h10 [own cd23 a6 x8.1.length c6 x8.1, own cd23 a5 x7.length c5 x16.2, own cd23 a4 x6.length c4 x15.2, own cd23 a8 x13.length c8 x13, own cd23 a7 x11.length c7 x11, own cd23 a3 x5.1.length c3 x5.1, own cd23 a2 x4.length c2 x4, own cd23 a1 x3.length c1 x3] := H27.pick [4, 0, 1, 2, 3, 5, 6, 7] (by kernel_rfl)
              have H30 : Hold h h10 [own cd23 a6 x8.1.length c6 x8.1, bun [own cd23 a5 x7.length c5 x16.2, own cd23 a4 x6.length c4 x15.2, own cd23 a8 x13.length c8 x13, own cd23 a7 x11.length c7 x11, own cd23 a3 x5.1.length c3 x5.1, own cd23 a2 x4.length c2 x4, own cd23 a1 x3.length c1 x3]] := Hold.bundle (S := [own cd23 a6 x8.1.length c6 x8.1]) (R := [own cd23 a5 x7.length c5 x16.2, own cd23 a4 x6.length c4 x15.2, own cd23 a8 x13.length c8 x13, own cd23 a7 x11.length c7 x11, own cd23 a3 x5.1.length c3 x5.1, own cd23 a2 x4.length c2 x4, own cd23 a1 x3.length c1 x3]) H29
              refine Run_E (by kernel_rfl) ?_
              refine E_call (f := 22) (args := #[.slice a6 x8.1.length c6, .int .i64 1]) (w_laws_markInt64SS h h10 _ x8.1 a6 c6 1 H30 _ _ hx17) (by kernel_rfl) (fun v11 h11 hp11 => ?_)
              obtain ⟨rfl, H31⟩ := hp11
              have H32 : Hold h h11 [own cd23 a6 x8.1.length c6 x20.2, own cd23 a5 x7.length c5 x16.2, own cd23 a4 x6.length c4 x15.2, own cd23 a8 x13.length c8 x13, own cd23 a7 x11.length c7 x11, own cd23 a3 x5.1.length c3 x5.1, own cd23 a2 x4.length c2 x4, own cd23 a1 x3.length c1 x3] := Hold.unbundle (S := [own cd23 a6 x8.1.length c6 x20.2]) (R := [own cd23 a5 x7.length c5 x16.2, own cd23 a4 x6.length c4 x15.2, own cd23 a8 x13.length c8 x13, own cd23 a7 x11.length c7 x11, own cd23 a3 x5.1.length c3 x5.1, own cd23 a2 x4.length c2 x4, own cd23 a1 x3.length c1 x3]) H31 (Hold.tailBase (S := [own cd23 a6 x8.1.length c6 x8.1]) (R := [own cd23 a5 x7.length c5 x16.2, own cd23 a4 x6.length c4 x15.2, own cd23 a8 x13.length c8 x13, own cd23 a7 x11.length c7 x11, own cd23 a3 x5.1.length c3 x5.1, own cd23 a2 x4.length c2 x4, own cd23 a1 x3.length c1 x3]) H29)
              refine Run_b [.int .i64 x20.1] 3 _ (by kernel_rfl) (fun w => by kernel_rfl) ?_
              refine Run_nil (by kernel_rfl) ?_
              refine Run_keep [0, 1, 6, 7, 10, 13] (L' := [(0, .slice aaA aA.length caA), (1, .slice aaB aB.length caB), (6, .slice a3 x5.1.length c3), (7, .int .i64 x5.2), (10, .slice a6 x8.1.length c6), (13, .int .i64 x20.1)]) (by kernel_rfl) ?_
              refine Run_seq ?_
              refine Run_reg 1 (by kernel_rfl) (L' := [(0, .slice aaA aA.length caA), (1, .slice aaB aB.length caB), (6, .slice a3 x5.1.length c3), (7, .int .i64 x5.2), (10, .slice a6 x8.1.length c6), (13, .int .i64 x20.1), (14, .int .i64 1)]) ?_ ?_
              · refine QRun_b [.int .i64 1] 0 _ (by kernel_rfl) (fun w => by kernel_rfl) ?_
                exact QRun_done [0, 1, 6, 7, 10, 13, 14] (by kernel_rfl) (by kernel_rfl)
              refine Run_seq ?_
              obtain ⟨x21, hx18, hF⟩ := M.bind_some hF
              refine Run_reg 4 (by kernel_rfl) (L' := [(0, .slice aaA aA.length caA), (1, .slice aaB aB.length caB), (6, .slice a3 x5.1.length c3), (7, .int .i64 x5.2), (10, .slice a6 x8.1.length c6), (13, .int .i64 x20.1), (14, .int .i64 x21)]) ?_ ?_
              · refine QRun_b [.slice a6 x8.1.length c6, .int .i64 1] 0 _ (by kernel_rfl) (fun w => by kernel_rfl) ?_
                refine QRun_y (.int .i64 x21) (by kernel_rfl) (Y_callq (f := 35) (args := #[.slice a6 x8.1.length c6, .int .i64 1]) (v := .int .i64 x21) (by kernel_rfl) (Fn.arg (w_laws_heldInt64SS h11 x20.2 a6 c6 (H32.rd 0 rfl) 1 _ _ hx18) (by simp only [(H32.len 0 rfl)]))) ?_
                refine QRun_b [.int .i64 x21] 3 _ (by kernel_rfl) (fun w => by kernel_rfl) ?_
                exact QRun_done [0, 1, 6, 7, 10, 13, 14] (by kernel_rfl) (by kernel_rfl)
              refine Run_seq ?_
              refine Run_seq ?_
              refine Run_reg 2 (by kernel_rfl) (L' := [(0, .slice aaA aA.length caA), (1, .slice aaB aB.length caB), (6, .slice a3 x5.1.length c3), (7, .int .i64 x5.2), (10, .slice a6 x8.1.length c6), (13, .int .i64 x20.1), (14, .int .i64 x21), (90, .bool (decide (x21 < 0)))]) ?_ ?_
              · refine QRun_b [.int .i64 x21, .bool (decide (x21 < 0))] 0 _ (by kernel_rfl) (fun w => by kernel_rfl) ?_
                exact QRun_done [0, 1, 6, 7, 10, 13, 14, 90] (by kernel_rfl) (by kernel_rfl)
              refine Run_cond (b := decide (x21 < 0)) (by kernel_rfl) (fun hb10 => ?_) (fun hb10 => ?_)
              · have hF := (M.ite_some hF).1 hb10
                refine Run_seq ?_
                refine Run_reg 1 (by kernel_rfl) (L' := [(4, .bool false)]) ?_ ?_
                · refine QRun_b [.bool false] 0 _ (by kernel_rfl) (fun w => by kernel_rfl) ?_
                  exact QRun_done [4] (by kernel_rfl) (by kernel_rfl)
                have hF := M.ret_some hF
                subst hF
                have H33 : Hold h h11 [] := H32.pick [] (by kernel_rfl)
                exact Run_ret1 rfl (ResV_tmp (v := .bool false) (by kernel_rfl)) ⟨rfl, H33⟩
              · have hF := (M.ite_some hF).2 hb10
                refine Run_skip ?_
                refine Run_seq ?_
                refine Run_seq ?_
                refine Run_reg 3 (by kernel_rfl) (L' := [(0, .slice aaA aA.length caA), (1, .slice aaB aB.length caB), (6, .slice a3 x5.1.length c3), (7, .int .i64 x5.2), (10, .slice a6 x8.1.length c6), (13, .int .i64 x20.1), (93, .bool (x21 != x20.1))]) ?_ ?_
                · refine QRun_b [.int .i64 x21, .int .i64 x20.1, .bool (x21 != x20.1)] 0 _ (by kernel_rfl) (fun w => by kernel_rfl) ?_
                  exact QRun_done [0, 1, 6, 7, 10, 13, 93] (by kernel_rfl) (by kernel_rfl)
                refine Run_cond (b := x21 != x20.1) (by kernel_rfl) (fun hb11 => ?_) (fun hb11 => ?_)
                · have hF := (M.ite_some hF).1 hb11
                  refine Run_seq ?_
                  refine Run_reg 1 (by kernel_rfl) (L' := [(4, .bool false)]) ?_ ?_
                  · refine QRun_b [.bool false] 0 _ (by kernel_rfl) (fun w => by kernel_rfl) ?_
                    exact QRun_done [4] (by kernel_rfl) (by kernel_rfl)
                  have hF := M.ret_some hF
                  subst hF
                  have H34 : Hold h h11 [] := H32.pick [] (by kernel_rfl)
                  exact Run_ret1 rfl (ResV_tmp (v := .bool false) (by kernel_rfl)) ⟨rfl, H34⟩
                · have hF := (M.ite_some hF).2 hb11
                  refine Run_skip ?_
                  refine Run_seq ?_
                  refine Run_ops ?_
                  refine Run_b [.slice aaA aA.length caA] 0 _ (by kernel_rfl) (fun w => by kernel_rfl) ?_
                  obtain ⟨x22, hx19, hF⟩ := M.bind_some hF
                  refine Run_E (by kernel_rfl) ?_
                  refine E_call (f := 17) (args := #[.slice aaA aA.length caA]) (w_laws_toInt64SS h11 aA aaA caA (raA.at H32.ext) _ _ hx19) (by kernel_rfl) (fun v12 h12 hp12 => ?_)
                  obtain ⟨a9, c9, rfl, H35⟩ := hp12
                  have H36 : Hold h h12 [own cd23 a9 x22.length c9 x22, own cd23 a6 x8.1.length c6 x20.2, own cd23 a5 x7.length c5 x16.2, own cd23 a4 x6.length c4 x15.2, own cd23 a8 x13.length c8 x13, own cd23 a7 x11.length c7 x11, own cd23 a3 x5.1.length c3 x5.1, own cd23 a2 x4.length c2 x4, own cd23 a1 x3.length c1 x3] := H32.call H35 rfl
                  refine Run_b [.slice aaB aB.length caB] 2 _ (by kernel_rfl) (fun w => by kernel_rfl) ?_
                  obtain ⟨x23, hx20, hF⟩ := M.bind_some hF
                  refine Run_E (by kernel_rfl) ?_
                  refine E_call (f := 17) (args := #[.slice aaB aB.length caB]) (w_laws_toInt64SS h12 aB aaB caB (raB.at H36.ext) _ _ hx20) (by kernel_rfl) (fun v13 h13 hp13 => ?_)
                  obtain ⟨a10, c10, rfl, H37⟩ := hp13
                  have H38 : Hold h h13 [own cd23 a10 x23.length c10 x23, own cd23 a9 x22.length c9 x22, own cd23 a6 x8.1.length c6 x20.2, own cd23 a5 x7.length c5 x16.2, own cd23 a4 x6.length c4 x15.2, own cd23 a8 x13.length c8 x13, own cd23 a7 x11.length c7 x11, own cd23 a3 x5.1.length c3 x5.1, own cd23 a2 x4.length c2 x4, own cd23 a1 x3.length c1 x3] := H36.call H37 rfl
                  obtain ⟨x24, hx21, hF⟩ := M.bind_some hF
                  refine Run_E (by kernel_rfl) ?_
                  refine E_call (f := 37) (args := #[.slice a9 x22.length c9, .slice a10 x23.length c10]) (w_impl_RightQuotient h13 x22 a9 c9 (H38.rd 1 rfl) x23 a10 c10 (H38.rd 0 rfl) _ _ hx21) (by kernel_rfl) (fun v14 h14 hp14 => ?_)
                  obtain ⟨a11, c11, rfl, H39⟩ := hp14
                  have H40 : Hold h h14 [own cd23 a11 x24.1.length c11 x24.1, own cd23 a10 x23.length c10 x23, own cd23 a9 x22.length c9 x22, own cd23 a6 x8.1.length c6 x20.2, own cd23 a5 x7.length c5 x16.2, own cd23 a4 x6.length c4 x15.2, own cd23 a8 x13.length c8 x13, own cd23 a7 x11.length c7 x11, own cd23 a3 x5.1.length c3 x5.1, own cd23 a2 x4.length c2 x4, own cd23 a1 x3.length c1 x3] := H38.call H39 rfl
                  refine Run_b [.tuple #[.slice a11 x24.1.length c11, .int .i64 x24.2], .slice a11 x24.1.length c11, .int .i64 x24.2, .slice a11 x24.1.length c11, .int .i64 x24.2] 5 _ (by kernel_rfl) (fun w => by kernel_rfl) ?_
                  refine Run_nil (by kernel_rfl) ?_
                  refine Run_keep [6, 7, 10, 13, 15, 16] (L' := [(6, .slice a3 x5.1.length c3), (7, .int .i64 x5.2), (10, .slice a6 x8.1.length c6), (13, .int .i64 x20.1), (15, .slice a11 x24.1.length c11), (16, .int .i64 x24.2)]) (by kernel_rfl) ?_
                  refine Run_seq ?_
                  refine Run_seq ?_
                  obtain ⟨x25, hx22, hF⟩ := M.bind_some hF
                  refine Run_reg 9 (by kernel_rfl) (L' := [(10, .slice a6 x8.1.length c6), (13, .int .i64 x20.1), (110, .bool ((!x25) || (x24.2 != x5.2)))]) ?_ ?_
                  · refine QRun_b [.slice a11 x24.1.length c11, .slice a3 x5.1.length c3] 0 _ (by kernel_rfl) (fun w => by kernel_rfl) ?_
                    refine QRun_y (.bool x25) (by kernel_rfl) (Y_callq (f := 21) (args := #[.slice a11 x24.1.length c11, .slice a3 x5.1.length c3]) (v := .bool x25) (by kernel_rfl) (w_laws_eqInt64SS h14 x24.1 a11 c11 (H40.rd 0 rfl) x5.1 a3 c3 (H40.rd 8 rfl) _ _ hx22)) ?_
                    refine QRun_b [.bool (!x25)] 3 _ (by kernel_rfl) (fun w => by kernel_rfl) ?_
                    refine QRun_seq 9 [(10, .slice a6 x8.1.length c6), (13, .int .i64 x20.1), (110, .bool ((!x25) || (x24.2 != x5.2)))] ?_ ?_
                    · rcases Bool.eq_false_or_eq_true (!x25) with hb12 | hb12
                      · refine QRun_bool (!x25) true (by kernel_rfl) (fun w => by kernel_rfl) hb12 ?_
                        refine QRun_n (by kernel_rfl) ?_
                        refine QRun_n (by kernel_rfl) ?_
                        refine QRun_n (by kernel_rfl) ?_
                        refine QRun_bool true ((!x25) || (x24.2 != x5.2)) (by kernel_rfl) (fun w => by kernel_rfl) (by rw [hb12]; rfl) ?_
                        exact QRun_done [10, 13, 110] (by kernel_rfl) (by kernel_rfl)
                      · refine QRun_bool (!x25) false (by kernel_rfl) (fun w => by kernel_rfl) hb12 ?_
                        refine QRun_b [.int .i64 x24.2, .int .i64 x5.2, .bool (x24.2 != x5.2)] 5 _ (by kernel_rfl) (fun w => by kernel_rfl) ?_
                        refine QRun_bool (x24.2 != x5.2) ((!x25) || (x24.2 != x5.2)) (by kernel_rfl) (fun w => by kernel_rfl) (by rw [hb12]; rfl) ?_
                        exact QRun_done [10, 13, 110] (by kernel_rfl) (by kernel_rfl)
                    exact QRun_done [10, 13, 110] (by kernel_rfl) (by kernel_rfl)
                  refine Run_cond (b := (!x25) || (x24.2 != x5.2)) (by kernel_rfl) (fun hb13 => ?_) (fun hb13 => ?_)
                  · have hF := (M.ite_some hF).1 hb13
                    refine Run_seq ?_
                    refine Run_reg 1 (by kernel_rfl) (L' := [(4, .bool false)]) ?_ ?_
                    · refine QRun_b [.bool false] 0 _ (by kernel_rfl) (fun w => by kernel_rfl) ?_
                      exact QRun_done [4] (by kernel_rfl) (by kernel_rfl)
                    have hF := M.ret_some hF
                    subst hF
                    have H41 : Hold h h14 [] := H40.pick [] (by kernel_rfl)
                    exact Run_ret1 rfl (ResV_tmp (v := .bool false) (by kernel_rfl)) ⟨rfl, H41⟩
                  · have hF := (M.ite_some hF).2 hb13
                    refine Run_skip ?_
                    refine Run_seq ?_
                    refine Run_reg 1 (by kernel_rfl) (L' := [(10, .slice a6 x8.1.length c6), (13, .int .i64 x20.1), (14, .int .i64 1)]) ?_ ?_
                    · refine QRun_b [.int .i64 1] 0 _ (by kernel_rfl) (fun w => by kernel_rfl) ?_
                      exact QRun_done [10, 13, 14] (by kernel_rfl) (by kernel_rfl)
                    refine Run_seq ?_
                    obtain ⟨x27, hx23, hF⟩ := M.bind_some hF
                    refine Run_reg 4 (by kernel_rfl) (L' := [(13, .int .i64 x20.1), (14, .int .i64 x27)]) ?_ ?_
                    · refine QRun_b [.slice a6 x8.1.length c6, .int .i64 1] 0 _ (by kernel_rfl) (fun w => by kernel_rfl) ?_
                      refine QRun_y (.int .i64 x27) (by kernel_rfl) (Y_callq (f := 35) (args := #[.slice a6 x8.1.length c6, .int .i64 1]) (v := .int .i64 x27) (by kernel_rfl) (Fn.arg (w_laws_heldInt64SS h14 x20.2 a6 c6 (H40.rd 3 rfl) 1 _ _ hx23) (by simp only [(H40.len 3 rfl)]))) ?_
                      refine QRun_b [.int .i64 x27] 3 _ (by kernel_rfl) (fun w => by kernel_rfl) ?_
                      exact QRun_done [13, 14] (by kernel_rfl) (by kernel_rfl)
                    refine Run_seq ?_
                    refine Run_seq ?_
                    refine Run_reg 2 (by kernel_rfl) (L' := [(13, .int .i64 x20.1), (14, .int .i64 x27), (115, .bool (decide (x27 < 0)))]) ?_ ?_
                    · refine QRun_b [.int .i64 x27, .bool (decide (x27 < 0))] 0 _ (by kernel_rfl) (fun w => by kernel_rfl) ?_
                      exact QRun_done [13, 14, 115] (by kernel_rfl) (by kernel_rfl)
                    refine Run_cond (b := decide (x27 < 0)) (by kernel_rfl) (fun hb14 => ?_) (fun hb14 => ?_)
                    · have hF := (M.ite_some hF).1 hb14
                      refine Run_seq ?_
                      refine Run_reg 1 (by kernel_rfl) (L' := [(4, .bool false)]) ?_ ?_
                      · refine QRun_b [.bool false] 0 _ (by kernel_rfl) (fun w => by kernel_rfl) ?_
                        exact QRun_done [4] (by kernel_rfl) (by kernel_rfl)
                      have hF := M.ret_some hF
                      subst hF
                      have H42 : Hold h h14 [] := H40.pick [] (by kernel_rfl)
                      exact Run_ret1 rfl (ResV_tmp (v := .bool false) (by kernel_rfl)) ⟨rfl, H42⟩
                    · have hF := (M.ite_some hF).2 hb14
                      refine Run_skip ?_
                      refine Run_seq ?_
                      refine Run_seq ?_
                      refine Run_reg 3 (by kernel_rfl) (L' := [(118, .bool (x27 != x20.1))]) ?_ ?_
                      · refine QRun_b [.int .i64 x27, .int .i64 x20.1, .bool (x27 != x20.1)] 0 _ (by kernel_rfl) (fun w => by kernel_rfl) ?_
                        exact QRun_done [118] (by kernel_rfl) (by kernel_rfl)
                      refine Run_cond (b := x27 != x20.1) (by kernel_rfl) (fun hb15 => ?_) (fun hb15 => ?_)
                      · have hF := (M.ite_some hF).1 hb15
                        refine Run_seq ?_
                        refine Run_reg 1 (by kernel_rfl) (L' := [(4, .bool false)]) ?_ ?_
                        · refine QRun_b [.bool false] 0 _ (by kernel_rfl) (fun w => by kernel_rfl) ?_
                          exact QRun_done [4] (by kernel_rfl) (by kernel_rfl)
                        have hF := M.ret_some hF
                        subst hF
                        have H43 : Hold h h14 [] := H40.pick [] (by kernel_rfl)
                        exact Run_ret1 rfl (ResV_tmp (v := .bool false) (by kernel_rfl)) ⟨rfl, H43⟩
                      · have hF := (M.ite_some hF).2 hb15
                        refine Run_skip ?_
                        refine Run_seq ?_
                        refine Run_reg 1 (by kernel_rfl) (L' := [(4, .bool true)]) ?_ ?_
                        · refine QRun_b [.bool true] 0 _ (by kernel_rfl) (fun w => by kernel_rfl) ?_
                          exact QRun_done [4] (by kernel_rfl) (by kernel_rfl)
                        have hF := M.ret_some hF
                        subst hF
                        have H44 : Hold h h14 [] := H40.pick [] (by kernel_rfl)
                        exact Run_ret1 rfl (ResV_tmp (v := .bool true) (by kernel_rfl)) ⟨rfl, H44⟩

end Go.Proofs.Ytmpjjdgfkjompaa
