/-
  Walks: each Go function, called with what reads as plain data, returns what its plain program computes.
  Conditions: None beyond the given statement.
-/
import Derived.Test.YtmpjjdgfkjompaaW0
namespace Go.Proofs.Ytmpjjdgfkjompaa
open Go
attribute [local irreducible] setL setB opA fineI idleI fineB evB okB markB markBs readyB readyBs chainB lk rho pickL dropSlot tailOK
set_option maxRecDepth 100000 in
set_option maxHeartbeats 4000000 in
theorem w_impl_greatestSub (h : Heap) (a_ : List (List Int)) (aa_ : Option Addr) (ca_ : Nat) (ra_ : Rd cd23 h (Lt h) aa_ ca_ a_) (b : List Int) (ab : Option Addr) (cb : Nat) (rb : Rd cd2 h (Lt h) ab cb b) (n : Nat) (r : (List Int) × Int) (hF : impl_greatestSub a_ b n = some r) :
    Fn Try.prog 61 #[.slice aa_ a_.length ca_, .slice ab b.length cb] h fun v h' => ∃ (a0 : Option Addr) (c0 : Nat), v = .tuple #[.slice a0 r.1.length c0, .int .i64 r.2] ∧ Hold h h' [own cd2 a0 r.1.length c0 r.1] := by
  unfold impl_greatestSub at hF
  refine Fn_enter (args := [.slice aa_ a_.length ca_, .slice ab b.length cb]) Try.func61 rfl (by kernel_rfl) (by kernel_rfl) (fun w0 _ => ?_)
  have H0 := Hold.init h
  refine Run_seq ?_
  refine Run_reg 2 (by kernel_rfl) (L' := [(0, .slice aa_ a_.length ca_), (1, .slice ab b.length cb)]) ?_ ?_
  · refine QRun_b [.slice none 0 0, .int .i64 0] 0 _ (by kernel_rfl) (fun w => by kernel_rfl) ?_
    exact QRun_done [0, 1] (by kernel_rfl) (by kernel_rfl)
  refine Run_seq ?_
  refine Run_seq ?_
  obtain ⟨x1, hx1, hF⟩ := M.bind_some hF
  obtain ⟨x2, gx2, hF⟩ := M.bind_some hF
  refine Run_regC (j := 8) (C := fun x => Hold h x []) (by kernel_rfl) H0 (L' := [(0, .slice aa_ a_.length ca_), (1, .slice ab b.length cb), (19, .bool x2)]) ?_ (fun h1 H1 => ?_)
  · refine QRun_b [.slice aa_ a_.length ca_] 0 _ (by kernel_rfl) (fun w => by kernel_rfl) ?_
    refine QRun_y (.bool x1) (by kernel_rfl) (Y_call (f := 75) (args := #[.slice aa_ a_.length ca_]) (v := .bool x1) (by kernel_rfl) fun hx Hx => (w_impl_IsMatrix hx a_ aa_ ca_ (ra_.at Hx.ext) _ _ hx1).mono fun _ _ ⟨e, H'⟩ => ⟨e, Hx.call H' rfl⟩) ?_
    refine QRun_b [.bool (!x1)] 2 _ (by kernel_rfl) (fun w => by kernel_rfl) ?_
    refine QRun_seq 8 [(0, .slice aa_ a_.length ca_), (1, .slice ab b.length cb), (19, .bool x2)] ?_ ?_
    · rcases Bool.eq_false_or_eq_true (!x1) with hb1 | hb1
      · refine QRun_bool (!x1) true (by kernel_rfl) (fun w => by kernel_rfl) hb1 ?_
        have gx2 := M.ret_some ((M.ite_some gx2).1 hb1)
        refine QRun_n (by kernel_rfl) ?_
        refine QRun_n (by kernel_rfl) ?_
        refine QRun_n (by kernel_rfl) ?_
        refine QRun_bool true x2 (by kernel_rfl) (fun w => by kernel_rfl) gx2 ?_
        exact QRun_done [0, 1, 19] (by kernel_rfl) (by kernel_rfl)
      · refine QRun_bool (!x1) false (by kernel_rfl) (fun w => by kernel_rfl) hb1 ?_
        have gx2 := (M.ite_some gx2).2 hb1
        obtain ⟨x3, hx2, gx2⟩ := M.bind_some gx2
        have gx2 := M.ret_some gx2
        refine QRun_b [.slice ab b.length cb] 4 _ (by kernel_rfl) (fun w => by kernel_rfl) ?_
        refine QRun_y (.bool x3) (by kernel_rfl) (Y_cls fun hx Hx => (Y_callq (f := 86) (args := #[.slice ab b.length cb]) (v := .bool x3) (by kernel_rfl) (w_impl_isVector hx b ab cb (rb.at Hx.ext) _ _ hx2))) ?_
        refine QRun_b [.bool (!x3)] 6 _ (by kernel_rfl) (fun w => by kernel_rfl) ?_
        refine QRun_bool (!x3) x2 (by kernel_rfl) (fun w => by kernel_rfl) gx2 ?_
        exact QRun_done [0, 1, 19] (by kernel_rfl) (by kernel_rfl)
    exact QRun_done [0, 1, 19] (by kernel_rfl) (by kernel_rfl)
  have H2 : Hold h h1 [] := H1
  refine Run_cond (b := x2) (by kernel_rfl) (fun hb2 => ?_) (fun hb2 => ?_)
  · have hF := (M.ite_some hF).1 hb2
    refine Run_seq ?_
    refine Run_reg 2 (by kernel_rfl) (L' := [(4, .slice none 0 0), (5, .int .i64 1)]) ?_ ?_
    · refine QRun_b [.slice none 0 0, .int .i64 1] 0 _ (by kernel_rfl) (fun w => by kernel_rfl) ?_
      exact QRun_done [4, 5] (by kernel_rfl) (by kernel_rfl)
    have hF := M.ret_some hF
    subst hF
    have H3 := H2.empty cd2
    exact Run_ret2 rfl (ResV_tmp (v := .slice none 0 0) (by kernel_rfl)) (ResV_tmp (v := .int .i64 1) (by kernel_rfl)) ⟨none, 0, rfl, H3⟩
  · have hF := (M.ite_some hF).2 hb2
    refine Run_skip ?_
    refine Run_seq ?_
    refine Run_seq ?_
    refine Run_reg 5 (by kernel_rfl) (L' := [(0, .slice aa_ a_.length ca_), (1, .slice ab b.length cb), (24, .bool ((a_.length : Int) != (b.length : Int)))]) ?_ ?_
    · refine QRun_b [.slice aa_ a_.length ca_, .int .i64 (a_.length : Int), .slice ab b.length cb, .int .i64 (b.length : Int), .bool ((a_.length : Int) != (b.length : Int))] 0 _ (by kernel_rfl) (fun w => by kernel_rfl) ?_
      exact QRun_done [0, 1, 24] (by kernel_rfl) (by kernel_rfl)
    refine Run_cond (b := (a_.length : Int) != (b.length : Int)) (by kernel_rfl) (fun hb3 => ?_) (fun hb3 => ?_)
    · have hF := (M.ite_some hF).1 hb3
      refine Run_seq ?_
      refine Run_reg 2 (by kernel_rfl) (L' := [(4, .slice none 0 0), (5, .int .i64 5)]) ?_ ?_
      · refine QRun_b [.slice none 0 0, .int .i64 5] 0 _ (by kernel_rfl) (fun w => by kernel_rfl) ?_
        exact QRun_done [4, 5] (by kernel_rfl) (by kernel_rfl)
      have hF := M.ret_some hF
      subst hF
      have H4 := H2.empty cd2
      exact Run_ret2 rfl (ResV_tmp (v := .slice none 0 0) (by kernel_rfl)) (ResV_tmp (v := .int .i64 5) (by kernel_rfl)) ⟨none, 0, rfl, H4⟩
    · have hF := (M.ite_some hF).2 hb3
      refine Run_skip ?_
      refine Run_seq ?_
      refine Run_ops ?_
      obtain ⟨x4, hx3, hF⟩ := M.bind_some hF
      obtain ⟨hx3l, hx3u, hx3⟩ := M.idx_some hx3
      obtain ⟨a1, c1, hc1, r1⟩ := ra_.row hx3
      refine Run_b [.slice aa_ a_.length ca_] 0 _ (by kernel_rfl) (fun w => by kernel_rfl) ?_
      refine Run_y (.pointer (some (adr aa_ (0 * 1)))) (by kernel_rfl) (Y_idx (t := 22) (e := 23) (sz := 1) (a := aa_) (n := a_.length) (cap := ca_) (kk := .i64) (i := 0) (by kernel_rfl) Try.underlying22 (by kernel_rfl) ((ra_.at H2.ext).cell hx3).1 hx3l hx3u) ?_
      refine Run_y (.slice a1 x4.length c1) (by kernel_rfl) (Y_load1 (t := 23) (p := adr aa_ (0 * 1)) (v := .slice a1 x4.length c1) (by kernel_rfl) (fun w => by kernel_rfl) (cell_at H2.ext hc1)) ?_
      refine Run_b [.int .i64 (x4.length : Int)] 3 _ (by kernel_rfl) (fun w => by kernel_rfl) ?_
      obtain ⟨l1, hl1, hF⟩ := M.bind_some hF
      have hl1 := M.make_some hl1
      refine Run_E (by kernel_rfl) ?_
      refine E_make cd2 0 (kl := .i64) (kc := .i64) H2 cd2_ti Try.underlying23 (by decide) cd2_zero (by kernel_rfl) hl1 (fun a2 h2 H5 => ?_)
      refine Run_b [.slice a2 l1.length l1.length] 5 _ (by kernel_rfl) (fun w => by kernel_rfl) ?_
      refine Run_nil (by kernel_rfl) ?_
      refine Run_keep [0, 1, 6] (L' := [(0, .slice aa_ a_.length ca_), (1, .slice ab b.length cb), (6, .slice a2 l1.length l1.length)]) (by kernel_rfl) ?_
      refine Run_seq ?_
      refine Run_seq ?_
      refine Run_reg 3 (by kernel_rfl) (L' := [(0, .slice aa_ a_.length ca_), (1, .slice ab b.length cb), (6, .slice a2 l1.length l1.length), (31, .int .i64 (l1.length : Int)), (32, .int .i64 0)]) ?_ ?_
      · refine QRun_b [.slice a2 l1.length l1.length, .int .i64 (l1.length : Int), .int .i64 0] 0 _ (by kernel_rfl) (fun w => by kernel_rfl) ?_
        exact QRun_done [0, 1, 6, 31, 32] (by kernel_rfl) (by kernel_rfl)
      obtain ⟨x5, gx5, hF⟩ := M.bind_some hF
      obtain ⟨hloy1, hhiy1, gx5⟩ := M.for_start gx5
      refine Run_join (fun L' h' => ∃ (s2 : (List Int)), x5 = .inl s2 ∧ L' = [(6, .slice a2 l1.length l1.length)] ∧ Hold h h' [own cd2 a2 l1.length l1.length s2]) ?_ ?_
      · rintro _ h4 ⟨s2, es2, rfl, H7⟩
        have hF := M.cont_inl' hF es2
        refine Run_seq ?_
        refine Run_reg 3 (by kernel_rfl) (L' := [(4, .slice a2 l1.length l1.length), (5, .int .i64 0)]) ?_ ?_
        · refine QRun_b [.slice a2 l1.length l1.length, .slice a2 l1.length l1.length, .int .i64 0] 0 _ (by kernel_rfl) (fun w => by kernel_rfl) ?_
          exact QRun_done [4, 5] (by kernel_rfl) (by kernel_rfl)
        have hF := M.ret_some hF
        subst hF
        have H14 := H7.norm
        exact Run_ret2 rfl (ResV_tmp (v := .slice a2 l1.length l1.length) (by kernel_rfl)) (ResV_tmp (v := .int .i64 0) (by kernel_rfl)) ⟨a2, l1.length, (by simp only [(H7.len 0 rfl)]), H14⟩
      · refine Run_block ?_
        refine Run_keep [0, 1, 6, 31, 32] (L' := [(0, .slice aa_ a_.length ca_), (1, .slice ab b.length cb), (6, .slice a2 l1.length l1.length), (31, .int .i64 (l1.length : Int)), (32, .int .i64 0)]) (by kernel_rfl) ?_
        refine Run_loop (fun m L' h' => ∃ (i1 : Int) (s1 : (List Int)), 0 ≤ i1 ∧ M.forN (l1.length : Int) _ _ n m i1 s1 = some x5 ∧ L' = [(0, .slice aa_ a_.length ca_), (1, .slice ab b.length cb), (6, .slice a2 l1.length l1.length), (31, .int .i64 (l1.length : Int)), (32, .int .i64 i1)] ∧ Hold h h' [own cd2 a2 l1.length l1.length s1]) ((l1.length : Int) - 0 : Int).toNat ⟨0, l1, Int.le_refl _, gx5, rfl, H5⟩ ?_
        rintro my1 _ h3 ⟨i1, s1, hloy1', gx5, rfl, H6⟩
        refine Run_seq ?_
        refine Run_reg 1 (by kernel_rfl) (L' := [(0, .slice aa_ a_.length ca_), (1, .slice ab b.length cb), (6, .slice a2 l1.length l1.length), (31, .int .i64 (l1.length : Int)), (32, .int .i64 i1), (33, .bool (decide (i1 < (l1.length : Int))))]) ?_ ?_
        · refine QRun_b [.bool (decide (i1 < (l1.length : Int)))] 0 _ (by kernel_rfl) (fun w => by kernel_rfl) ?_
          exact QRun_done [0, 1, 6, 31, 32, 33] (by kernel_rfl) (by kernel_rfl)
        refine Run_seq ?_
        refine Run_cond (b := decide (i1 < (l1.length : Int))) (by kernel_rfl) (fun hb4 => ?_) (fun hb4 => ?_)
        · obtain ⟨my1, y1, rfl, hB1, hgoy1, houty1⟩ := M.for_go gx5 hb4
          have hlty1 := of_decide_eq_true hb4
          refine Run_skip ?_
          refine Run_seq ?_
          refine Run_block ?_
          refine Run_seq ?_
          refine Run_reg 2 (by kernel_rfl) (L' := [(0, .slice aa_ a_.length ca_), (1, .slice ab b.length cb), (6, .slice a2 l1.length l1.length), (7, .int .i64 i1), (31, .int .i64 (l1.length : Int)), (32, .int .i64 i1)]) ?_ ?_
          · refine QRun_b [.int .i64 i1, .int .i64 i1] 0 _ (by kernel_rfl) (fun w => by kernel_rfl) ?_
            exact QRun_done [0, 1, 6, 7, 31, 32] (by kernel_rfl) (by kernel_rfl)
          refine Run_seq ?_
          refine Run_reg 1 (by kernel_rfl) (L' := [(0, .slice aa_ a_.length ca_), (1, .slice ab b.length cb), (6, .slice a2 l1.length l1.length), (7, .int .i64 i1), (8, .bool false), (31, .int .i64 (l1.length : Int)), (32, .int .i64 i1)]) ?_ ?_
          · refine QRun_b [.bool false] 0 _ (by kernel_rfl) (fun w => by kernel_rfl) ?_
            exact QRun_done [0, 1, 6, 7, 8, 31, 32] (by kernel_rfl) (by kernel_rfl)
          refine Run_seq ?_
          refine Run_seq ?_
          refine Run_reg 3 (by kernel_rfl) (L' := [(0, .slice aa_ a_.length ca_), (1, .slice ab b.length cb), (6, .slice a2 l1.length l1.length), (7, .int .i64 i1), (8, .bool false), (31, .int .i64 (l1.length : Int)), (32, .int .i64 i1), (35, .slice aa_ a_.length ca_), (36, .int .i64 (a_.length : Int)), (37, .int .i64 0)]) ?_ ?_
          · refine QRun_b [.slice aa_ a_.length ca_, .int .i64 (a_.length : Int), .int .i64 0] 0 _ (by kernel_rfl) (fun w => by kernel_rfl) ?_
            exact QRun_done [0, 1, 6, 7, 8, 31, 32, 35, 36, 37] (by kernel_rfl) (by kernel_rfl)
          obtain ⟨x6, gx6, hB1⟩ := M.bind_some hB1
          obtain ⟨hloy2, hhiy2, gx6⟩ := M.for_start gx6
          refine Run_join (fun L' h' => L' = [(0, .slice aa_ a_.length ca_), (1, .slice ab b.length cb), (6, .slice a2 l1.length l1.length), (8, .bool x6.2), (31, .int .i64 (l1.length : Int)), (32, .int .i64 i1)] ∧ Hold h h' [own cd2 a2 l1.length l1.length x6.1]) ?_ ?_
          · rintro _ h6 ⟨rfl, H9⟩
            refine Run_seq ?_
            refine Run_reg 2 (by kernel_rfl) (L' := [(0, .slice aa_ a_.length ca_), (1, .slice ab b.length cb), (6, .slice a2 l1.length l1.length), (31, .int .i64 (l1.length : Int)), (32, .int .i64 i1), (73, .bool (!x6.2))]) ?_ ?_
            · refine QRun_b [.bool x6.2, .bool (!x6.2)] 0 _ (by kernel_rfl) (fun w => by kernel_rfl) ?_
              exact QRun_done [0, 1, 6, 31, 32, 73] (by kernel_rfl) (by kernel_rfl)
            refine Run_cond (b := !x6.2) (by kernel_rfl) (fun hb9 => ?_) (fun hb9 => ?_)
            · have hB1 := (M.ite_some hB1).1 hb9
              refine Run_seq ?_
              refine Run_reg 2 (by kernel_rfl) (L' := [(4, .slice none 0 0), (5, .int .i64 5)]) ?_ ?_
              · refine QRun_b [.slice none 0 0, .int .i64 5] 0 _ (by kernel_rfl) (fun w => by kernel_rfl) ?_
                exact QRun_done [4, 5] (by kernel_rfl) (by kernel_rfl)
              have hB1 := M.ret_some hB1
              have gx5 := houty1 _ hB1.symm
              have hF := M.cont_inr' hF gx5
              have hF := M.ret_some hF
              subst hF
              have H12 := H9.empty cd2
              have H13 : Hold h h6 [own cd2 none 0 0 []] := H12.pick [0] (by kernel_rfl)
              exact Run_ret2 rfl (ResV_tmp (v := .slice none 0 0) (by kernel_rfl)) (ResV_tmp (v := .int .i64 5) (by kernel_rfl)) ⟨none, 0, rfl, H13⟩
            · have hB1 := (M.ite_some hB1).2 hb9
              refine Run_skip ?_
              refine Run_blk ?_
              refine Run_reg 2 (by kernel_rfl) (L' := [(0, .slice aa_ a_.length ca_), (1, .slice ab b.length cb), (6, .slice a2 l1.length l1.length), (31, .int .i64 (l1.length : Int)), (32, .int .i64 (i1 + 1))]) ?_ ?_
              · refine QRun_y (.int .i64 (i1 + 1)) (by kernel_rfl) (Y_eq (v := .int .i64 (w64 (i1 + 1))) (Y_pure (fun w => by kernel_rfl)) (by rw [w64_eq _ (by omega)])) ?_
                refine QRun_b [.int .i64 (i1 + 1)] 1 _ (by kernel_rfl) (fun w => by kernel_rfl) ?_
                exact QRun_done [0, 1, 6, 31, 32] (by kernel_rfl) (by kernel_rfl)
              have hB1 := M.ret_some hB1
              have gx5 := hgoy1 _ hB1.symm
              exact Run_again [0, 1, 6, 31, 32] (by kernel_rfl) my1 (Nat.lt_succ_self _) ⟨i1 + 1, x6.1, by omega, gx5, rfl, H9⟩
          · refine Run_block ?_
            refine Run_keep [0, 1, 6, 7, 8, 31, 32, 35, 36, 37] (L' := [(0, .slice aa_ a_.length ca_), (1, .slice ab b.length cb), (6, .slice a2 l1.length l1.length), (7, .int .i64 i1), (8, .bool false), (31, .int .i64 (l1.length : Int)), (32, .int .i64 i1), (35, .slice aa_ a_.length ca_), (36, .int .i64 (a_.length : Int)), (37, .int .i64 0)]) (by kernel_rfl) ?_
            refine Run_loop (fun m L' h' => ∃ (i2 : Int) (s3 : (List Int) × Bool), 0 ≤ i2 ∧ M.forN (a_.length : Int) _ _ n m i2 s3 = some x6 ∧ L' = [(0, .slice aa_ a_.length ca_), (1, .slice ab b.length cb), (6, .slice a2 l1.length l1.length), (7, .int .i64 i1), (8, .bool s3.2), (31, .int .i64 (l1.length : Int)), (32, .int .i64 i1), (35, .slice aa_ a_.length ca_), (36, .int .i64 (a_.length : Int)), (37, .int .i64 i2)] ∧ Hold h h' [own cd2 a2 l1.length l1.length s3.1]) ((a_.length : Int) - 0 : Int).toNat ⟨0, (s1, false), Int.le_refl _, gx6, rfl, H6⟩ ?_
            rintro my2 _ h5 ⟨i2, s3, hloy2', gx6, rfl, H8⟩
            refine Run_seq ?_
            refine Run_reg 1 (by kernel_rfl) (L' := [(0, .slice aa_ a_.length ca_), (1, .slice ab b.length cb), (6, .slice a2 l1.length l1.length), (7, .int .i64 i1), (8, .bool s3.2), (31, .int .i64 (l1.length : Int)), (32, .int .i64 i1), (35, .slice aa_ a_.length ca_), (36, .int .i64 (a_.length : Int)), (37, .int .i64 i2), (38, .bool (decide (i2 < (a_.length : Int))))]) ?_ ?_
            · refine QRun_b [.bool (decide (i2 < (a_.length : Int)))] 0 _ (by kernel_rfl) (fun w => by kernel_rfl) ?_
              exact QRun_done [0, 1, 6, 7, 8, 31, 32, 35, 36, 37, 38] (by kernel_rfl) (by kernel_rfl)
            refine Run_seq ?_
            refine Run_cond (b := decide (i2 < (a_.length : Int))) (by kernel_rfl) (fun hb5 => ?_) (fun hb5 => ?_)
            · obtain ⟨my2, y2, rfl, hB2, hgoy2, houty2⟩ := M.for_go gx6 hb5
              have hlty2 := of_decide_eq_true hb5
              refine Run_skip ?_
              refine Run_seq ?_
              obtain ⟨s4, gs4, hB2⟩ := M.bind_some hB2
              refine Run_join (fun L' h' => L' = [(0, .slice aa_ a_.length ca_), (1, .slice ab b.length cb), (6, .slice a2 l1.length l1.length), (7, .int .i64 i1), (8, .bool s4.2), (31, .int .i64 (l1.length : Int)), (32, .int .i64 i1), (35, .slice aa_ a_.length ca_), (36, .int .i64 (a_.length : Int)), (37, .int .i64 i2)] ∧ Hold h h' [own cd2 a2 l1.length l1.length s4.1]) ?_ ?_
              · rintro _ h8 ⟨rfl, H11⟩
                refine Run_reg 2 (by kernel_rfl) (L' := [(0, .slice aa_ a_.length ca_), (1, .slice ab b.length cb), (6, .slice a2 l1.length l1.length), (7, .int .i64 i1), (8, .bool s4.2), (31, .int .i64 (l1.length : Int)), (32, .int .i64 i1), (35, .slice aa_ a_.length ca_), (36, .int .i64 (a_.length : Int)), (37, .int .i64 (i2 + 1))]) ?_ ?_
                · refine QRun_y (.int .i64 (i2 + 1)) (by kernel_rfl) (Y_eq (v := .int .i64 (w64 (i2 + 1))) (Y_pure (fun w => by kernel_rfl)) (by rw [w64_eq _ (by omega)])) ?_
                  refine QRun_b [.int .i64 (i2 + 1)] 1 _ (by kernel_rfl) (fun w => by kernel_rfl) ?_
                  exact QRun_done [0, 1, 6, 7, 8, 31, 32, 35, 36, 37] (by kernel_rfl) (by kernel_rfl)
                have hB2 := M.ret_some hB2
                have gx6 := hgoy2 _ hB2.symm
                exact Run_again [0, 1, 6, 7, 8, 31, 32, 35, 36, 37] (by kernel_rfl) my2 (Nat.lt_succ_self _) ⟨i2 + 1, (s4.1, s4.2), by omega, gx6, rfl, H11⟩
              · refine Run_block ?_
                refine Run_seq ?_
                obtain ⟨x7, hx4, gs4⟩ := M.bind_some gs4
                obtain ⟨hx4l, hx4u, hx4⟩ := M.idx_some hx4
                obtain ⟨a3, c2, hc2, r2⟩ := ra_.row hx4
                refine Run_reg 5 (by kernel_rfl) (L' := [(0, .slice aa_ a_.length ca_), (1, .slice ab b.length cb), (6, .slice a2 l1.length l1.length), (7, .int .i64 i1), (8, .bool s3.2), (9, .int .i64 i2), (10, .slice a3 x7.length c2), (31, .int .i64 (l1.length : Int)), (32, .int .i64 i1), (35, .slice aa_ a_.length ca_), (36, .int .i64 (a_.length : Int)), (37, .int .i64 i2)]) ?_ ?_
                · refine QRun_b [.int .i64 i2] 0 _ (by kernel_rfl) (fun w => by kernel_rfl) ?_
                  refine QRun_y (.pointer (some (adr aa_ (i2.toNat * 1)))) (by kernel_rfl) (Y_idx (t := 22) (e := 23) (sz := 1) (a := aa_) (n := a_.length) (cap := ca_) (kk := .i64) (i := i2) (by kernel_rfl) Try.underlying22 (by kernel_rfl) ((ra_.at H8.ext).cell hx4).1 hx4l hx4u) ?_
                  refine QRun_y (.slice a3 x7.length c2) (by kernel_rfl) (Y_load1 (t := 23) (p := adr aa_ (i2.toNat * 1)) (v := .slice a3 x7.length c2) (by kernel_rfl) (fun w => by kernel_rfl) (cell_at H8.ext hc2)) ?_
                  refine QRun_b [.int .i64 i2, .slice a3 x7.length c2] 3 _ (by kernel_rfl) (fun w => by kernel_rfl) ?_
                  exact QRun_done [0, 1, 6, 7, 8, 9, 10, 31, 32, 35, 36, 37] (by kernel_rfl) (by kernel_rfl)
                refine Run_seq ?_
                refine Run_seq ?_
                obtain ⟨x8, hx5, gs4⟩ := M.bind_some gs4
                obtain ⟨hx5l, hx5u, hx5⟩ := M.idx_some hx5
                refine Run_reg 5 (by kernel_rfl) (L' := [(0, .slice aa_ a_.length ca_), (1, .slice ab b.length cb), (6, .slice a2 l1.length l1.length), (7, .int .i64 i1), (8, .bool s3.2), (9, .int .i64 i2), (10, .slice a3 x7.length c2), (31, .int .i64 (l1.length : Int)), (32, .int .i64 i1), (35, .slice aa_ a_.length ca_), (36, .int .i64 (a_.length : Int)), (37, .int .i64 i2), (46, .bool (x8 == (-1000000000000000)))]) ?_ ?_
                · refine QRun_b [.slice a3 x7.length c2, .int .i64 i1] 0 _ (by kernel_rfl) (fun w => by kernel_rfl) ?_
                  refine QRun_y (.pointer (some (adr a3 (i1.toNat * 1)))) (by kernel_rfl) (Y_idx (t := 23) (e := 2) (sz := 1) (a := a3) (n := x7.length) (cap := c2) (kk := .i64) (i := i1) (by kernel_rfl) Try.underlying23 (by kernel_rfl) ((r2.at H8.ext).cell hx5).1 hx5l hx5u) ?_
                  refine QRun_y (.int .i64 x8) (by kernel_rfl) (Y_load1 (t := 2) (p := adr a3 (i1.toNat * 1)) (v := .int .i64 x8) (by kernel_rfl) (fun w => by kernel_rfl) (cd2_cell (r2.at H8.ext) hx5)) ?_
                  refine QRun_b [.bool (x8 == (-1000000000000000))] 4 _ (by kernel_rfl) (fun w => by kernel_rfl) ?_
                  exact QRun_done [0, 1, 6, 7, 8, 9, 10, 31, 32, 35, 36, 37, 46] (by kernel_rfl) (by kernel_rfl)
                refine Run_cond (b := x8 == (-1000000000000000)) (by kernel_rfl) (fun hb6 => ?_) (fun hb6 => ?_)
                · have gs4 := (M.ite_some gs4).1 hb6
                  refine Run_exit (k' := _) rfl ?_
                  have gs4 := M.ret_some gs4
                  subst gs4
                  exact Run_fall [0, 1, 6, 7, 8, 31, 32, 35, 36, 37] (by kernel_rfl) ⟨rfl, H8⟩
                · have gs4 := (M.ite_some gs4).2 hb6
                  refine Run_skip ?_
                  refine Run_seq ?_
                  obtain ⟨x9, hx6, gs4⟩ := M.bind_some gs4
                  obtain ⟨hx6l, hx6u, hx6⟩ := M.idx_some hx6
                  obtain ⟨x10, hx7, gs4⟩ := M.bind_some gs4
                  obtain ⟨hx7l, hx7u, hx7⟩ := M.idx_some hx7
                  obtain ⟨x11, hx8, gs4⟩ := M.bind_some gs4
                  refine Run_draw 11 mixed (by kernel_rfl) (by kernel_rfl) (L' := [(0, .slice aa_ a_.length ca_), (1, .slice ab b.length cb), (6, .slice a2 l1.length l1.length), (7, .int .i64 i1), (8, .bool s3.2), (11, .int .i64 x11), (31, .int .i64 (l1.length : Int)), (32, .int .i64 i1), (35, .slice aa_ a_.length ca_), (36, .int .i64 (a_.length : Int)), (37, .int .i64 i2)]) ?_ ?_
                  · refine QRun_b [.slice ab b.length cb, .int .i64 i2] 0 _ (by kernel_rfl) (fun w => by kernel_rfl) ?_
                    refine QRun_y (.pointer (some (adr ab (i2.toNat * 1)))) (by kernel_rfl) (Y_idx (t := 23) (e := 2) (sz := 1) (a := ab) (n := b.length) (cap := cb) (kk := .i64) (i := i2) (by kernel_rfl) Try.underlying23 (by kernel_rfl) ((rb.at H8.ext).cell hx6).1 hx6l hx6u) ?_
                    refine QRun_y (.int .i64 x9) (by kernel_rfl) (Y_load1 (t := 2) (p := adr ab (i2.toNat * 1)) (v := .int .i64 x9) (by kernel_rfl) (fun w => by kernel_rfl) (cd2_cell (rb.at H8.ext) hx6)) ?_
                    refine QRun_b [.slice a3 x7.length c2, .int .i64 i1] 4 _ (by kernel_rfl) (fun w => by kernel_rfl) ?_
                    refine QRun_y (.pointer (some (adr a3 (i1.toNat * 1)))) (by kernel_rfl) (Y_idx (t := 23) (e := 2) (sz := 1) (a := a3) (n := x7.length) (cap := c2) (kk := .i64) (i := i1) (by kernel_rfl) Try.underlying23 (by kernel_rfl) ((r2.at H8.ext).cell hx7).1 hx7l hx7u) ?_
                    refine QRun_y (.int .i64 x10) (by kernel_rfl) (Y_load1 (t := 2) (p := adr a3 (i1.toNat * 1)) (v := .int .i64 x10) (by kernel_rfl) (fun w => by kernel_rfl) (cd2_cell (r2.at H8.ext) hx7)) ?_
                    refine QRun_b [.int .i64 (w64 (0 - x10))] 8 _ (by kernel_rfl) (fun w => by kernel_rfl) ?_
                    refine QRun_y (.int .i64 x11) (by kernel_rfl) (Y_callq (f := 89) (args := #[.int .i64 x9, .int .i64 (w64 (0 - x10))]) (v := .int .i64 x11) (by kernel_rfl) (w_impl_times h5 x9 (w64 (0 - x10)) _ _ hx8)) ?_
                    refine QRun_b [.int .i64 x11] 10 _ (by kernel_rfl) (fun w => by kernel_rfl) ?_
                    exact QRun_done [0, 1, 6, 7, 8, 11, 31, 32, 35, 36, 37] (by kernel_rfl) (by kernel_rfl)
                  refine Run_seq ?_
                  obtain ⟨x12, gx12, gs4⟩ := M.bind_some gs4
                  refine Run_reg 10 (by kernel_rfl) (L' := [(0, .slice aa_ a_.length ca_), (1, .slice ab b.length cb), (6, .slice a2 l1.length l1.length), (7, .int .i64 i1), (8, .bool s3.2), (11, .int .i64 x11), (31, .int .i64 (l1.length : Int)), (32, .int .i64 i1), (35, .slice aa_ a_.length ca_), (36, .int .i64 (a_.length : Int)), (37, .int .i64 i2), (66, .bool x12)]) ?_ ?_
                  · refine QRun_b [.bool s3.2, .bool (!s3.2)] 0 _ (by kernel_rfl) (fun w => by kernel_rfl) ?_
                    refine QRun_seq 10 [(0, .slice aa_ a_.length ca_), (1, .slice ab b.length cb), (6, .slice a2 l1.length l1.length), (7, .int .i64 i1), (8, .bool s3.2), (11, .int .i64 x11), (31, .int .i64 (l1.length : Int)), (32, .int .i64 i1), (35, .slice aa_ a_.length ca_), (36, .int .i64 (a_.length : Int)), (37, .int .i64 i2), (66, .bool x12)] ?_ ?_
                    · rcases Bool.eq_false_or_eq_true (!s3.2) with hb7 | hb7
                      · refine QRun_bool (!s3.2) true (by kernel_rfl) (fun w => by kernel_rfl) hb7 ?_
                        have gx12 := M.ret_some ((M.ite_some gx12).1 hb7)
                        refine QRun_n (by kernel_rfl) ?_
                        refine QRun_n (by kernel_rfl) ?_
                        refine QRun_n (by kernel_rfl) ?_
                        refine QRun_n (by kernel_rfl) ?_
                        refine QRun_n (by kernel_rfl) ?_
                        refine QRun_n (by kernel_rfl) ?_
                        refine QRun_bool true x12 (by kernel_rfl) (fun w => by kernel_rfl) gx12 ?_
                        exact QRun_done [0, 1, 6, 7, 8, 11, 31, 32, 35, 36, 37, 66] (by kernel_rfl) (by kernel_rfl)
                      · refine QRun_bool (!s3.2) false (by kernel_rfl) (fun w => by kernel_rfl) hb7 ?_
                        have gx12 := (M.ite_some gx12).2 hb7
                        obtain ⟨x13, hx9, gx12⟩ := M.bind_some gx12
                        obtain ⟨hx9l, hx9u, hx9⟩ := M.idx_some hx9
                        have gx12 := M.ret_some gx12
                        refine QRun_b [.int .i64 x11, .slice a2 l1.length l1.length, .int .i64 i1] 3 _ (by kernel_rfl) (fun w => by kernel_rfl) ?_
                        refine QRun_y (.pointer (some (adr a2 (i1.toNat * 1)))) (by kernel_rfl) (Y_idx (t := 23) (e := 2) (sz := 1) (a := a2) (n := l1.length) (cap := l1.length) (kk := .i64) (i := i1) (by kernel_rfl) Try.underlying23 (by kernel_rfl) ((H8.rd 0 rfl).cell hx9).1 hx9l (by rw [← (H8.len 0 rfl)]; exact hx9u)) ?_
                        refine QRun_y (.int .i64 x13) (by kernel_rfl) (Y_load1 (t := 2) (p := adr a2 (i1.toNat * 1)) (v := .int .i64 x13) (by kernel_rfl) (fun w => by kernel_rfl) (cd2_cell (H8.rd 0 rfl) hx9)) ?_
                        refine QRun_b [.bool (decide (x11 < x13))] 8 _ (by kernel_rfl) (fun w => by kernel_rfl) ?_
                        refine QRun_bool (decide (x11 < x13)) x12 (by kernel_rfl) (fun w => by kernel_rfl) gx12 ?_
                        exact QRun_done [0, 1, 6, 7, 8, 11, 31, 32, 35, 36, 37, 66] (by kernel_rfl) (by kernel_rfl)
                    exact QRun_done [0, 1, 6, 7, 8, 11, 31, 32, 35, 36, 37, 66] (by kernel_rfl) (by kernel_rfl)
                  refine Run_cond (b := x12) (by kernel_rfl) (fun hb8 => ?_) (fun hb8 => ?_)
                  · have gs4 := (M.ite_some gs4).1 hb8
                    refine Run_ops ?_
                    obtain ⟨x14, hx10, gs4⟩ := M.bind_some gs4
                    obtain ⟨hx10l, hx10u, hx10⟩ := M.idx_some hx10
                    refine Run_b [.slice a2 l1.length l1.length, .int .i64 i1, .int .i64 x11] 0 _ (by kernel_rfl) (fun w => by kernel_rfl) ?_
                    refine Run_y (.pointer (some (adr a2 (i1.toNat * 1)))) (by kernel_rfl) (Y_idx (t := 23) (e := 2) (sz := 1) (a := a2) (n := l1.length) (cap := l1.length) (kk := .i64) (i := i1) (by kernel_rfl) Try.underlying23 (by kernel_rfl) ((H8.rd 0 rfl).cell hx10).1 hx10l (by rw [← (H8.len 0 rfl)]; exact hx10u)) ?_
                    obtain ⟨l2, hu1, gs4⟩ := M.bind_some gs4
                    have hu1 := M.upd_some hu1
                    refine Run_E (by kernel_rfl) ?_
                    refine E_put (C := cd2) (t := 2) (sz := 1) (j := i1) (x := x11) (v := .int .i64 x11) H8 cd2_flat (by kernel_rfl) rfl (cd2_own _) (by kernel_rfl) hu1 (fun h7 H10 => ?_)
                    refine Run_b [.bool true] 5 _ (by kernel_rfl) (fun w => by kernel_rfl) ?_
                    refine Run_nil (by kernel_rfl) ?_
                    refine Run_keep [0, 1, 6, 7, 8, 31, 32, 35, 36, 37] (L' := [(0, .slice aa_ a_.length ca_), (1, .slice ab b.length cb), (6, .slice a2 l1.length l1.length), (7, .int .i64 i1), (8, .bool true), (31, .int .i64 (l1.length : Int)), (32, .int .i64 i1), (35, .slice aa_ a_.length ca_), (36, .int .i64 (a_.length : Int)), (37, .int .i64 i2)]) (by kernel_rfl) ?_
                    refine Run_blk ?_
                    have gs4 := M.ret_some gs4
                    subst gs4
                    exact Run_fall [0, 1, 6, 7, 8, 31, 32, 35, 36, 37] (by kernel_rfl) ⟨rfl, H10⟩
                  · have gs4 := (M.ite_some gs4).2 hb8
                    refine Run_skip ?_
                    refine Run_blk ?_
                    have gs4 := M.ret_some gs4
                    subst gs4
                    exact Run_fall [0, 1, 6, 7, 8, 31, 32, 35, 36, 37] (by kernel_rfl) ⟨rfl, H8⟩
            · have gx6 := M.for_end gx6 hb5
              subst gx6
              refine Run_exit (k' := _) rfl ?_
              exact Run_fall [0, 1, 6, 8, 31, 32] (by kernel_rfl) ⟨rfl, H8⟩
        · have gx5 := M.for_end gx5 hb4
          subst gx5
          refine Run_exit (k' := _) rfl ?_
          exact Run_fall [6] (by kernel_rfl) ⟨s1, rfl, rfl, H6⟩

set_option maxRecDepth 100000 in
set_option maxHeartbeats 4000000 in
theorem w_impl_leftQuotient (h : Heap) (a_ : List (List Int)) (aa_ : Option Addr) (ca_ : Nat) (ra_ : Rd cd23 h (Lt h) aa_ ca_ a_) (b : List (List Int)) (ab : Option Addr) (cb : Nat) (rb : Rd cd23 h (Lt h) ab cb b) (n : Nat) (r : (List (List Int)) × Int) (hF : impl_leftQuotient a_ b n = some r) :
    Fn Try.prog 73 #[.slice aa_ a_.length ca_, .slice ab b.length cb] h fun v h' => ∃ (a0 : Option Addr) (c0 : Nat), v = .tuple #[.slice a0 r.1.length c0, .int .i64 r.2] ∧ Hold h h' [own cd23 a0 r.1.length c0 r.1] := by
  unfold impl_leftQuotient at hF
  refine Fn_enter (args := [.slice aa_ a_.length ca_, .slice ab b.length cb]) Try.func73 rfl (by kernel_rfl) (by kernel_rfl) (fun w0 _ => ?_)
  have H0 := Hold.init h
  refine Run_seq ?_
  refine Run_reg 2 (by kernel_rfl) (L' := [(0, .slice aa_ a_.length ca_), (1, .slice ab b.length cb)]) ?_ ?_
  · refine QRun_b [.slice none 0 0, .int .i64 0] 0 _ (by kernel_rfl) (fun w => by kernel_rfl) ?_
    exact QRun_done [0, 1] (by kernel_rfl) (by kernel_rfl)
  refine Run_seq ?_
  refine Run_seq ?_
  obtain ⟨x1, hx1, hF⟩ := M.bind_some hF
  obtain ⟨x2, gx2, hF⟩ := M.bind_some hF
  refine Run_regC (j := 8) (C := fun x => Hold h x []) (by kernel_rfl) H0 (L' := [(0, .slice aa_ a_.length ca_), (1, .slice ab b.length cb), (18, .bool x2)]) ?_ (fun h1 H1 => ?_)
  · refine QRun_b [.slice aa_ a_.length ca_] 0 _ (by kernel_rfl) (fun w => by kernel_rfl) ?_
    refine QRun_y (.bool x1) (by kernel_rfl) (Y_call (f := 75) (args := #[.slice aa_ a_.length ca_]) (v := .bool x1) (by kernel_rfl) fun hx Hx => (w_impl_IsMatrix hx a_ aa_ ca_ (ra_.at Hx.ext) _ _ hx1).mono fun _ _ ⟨e, H'⟩ => ⟨e, Hx.call H' rfl⟩) ?_
    refine QRun_b [.bool (!x1)] 2 _ (by kernel_rfl) (fun w => by kernel_rfl) ?_
    refine QRun_seq 8 [(0, .slice aa_ a_.length ca_), (1, .slice ab b.length cb), (18, .bool x2)] ?_ ?_
    · rcases Bool.eq_false_or_eq_true (!x1) with hb1 | hb1
      · refine QRun_bool (!x1) true (by kernel_rfl) (fun w => by kernel_rfl) hb1 ?_
        have gx2 := M.ret_some ((M.ite_some gx2).1 hb1)
        refine QRun_n (by kernel_rfl) ?_
        refine QRun_n (by kernel_rfl) ?_
        refine QRun_n (by kernel_rfl) ?_
        refine QRun_bool true x2 (by kernel_rfl) (fun w => by kernel_rfl) gx2 ?_
        exact QRun_done [0, 1, 18] (by kernel_rfl) (by kernel_rfl)
      · refine QRun_bool (!x1) false (by kernel_rfl) (fun w => by kernel_rfl) hb1 ?_
        have gx2 := (M.ite_some gx2).2 hb1
        obtain ⟨x3, hx2, gx2⟩ := M.bind_some gx2
        have gx2 := M.ret_some gx2
        refine QRun_b [.slice ab b.length cb] 4 _ (by kernel_rfl) (fun w => by kernel_rfl) ?_
        refine QRun_y (.bool x3) (by kernel_rfl) (Y_call (f := 75) (args := #[.slice ab b.length cb]) (v := .bool x3) (by kernel_rfl) fun hx Hx => (w_impl_IsMatrix hx b ab cb (rb.at Hx.ext) _ _ hx2).mono fun _ _ ⟨e, H'⟩ => ⟨e, Hx.call H' rfl⟩) ?_
        refine QRun_b [.bool (!x3)] 6 _ (by kernel_rfl) (fun w => by kernel_rfl) ?_
        refine QRun_bool (!x3) x2 (by kernel_rfl) (fun w => by kernel_rfl) gx2 ?_
        exact QRun_done [0, 1, 18] (by kernel_rfl) (by kernel_rfl)
    exact QRun_done [0, 1, 18] (by kernel_rfl) (by kernel_rfl)
  have H2 : Hold h h1 [] := H1
  refine Run_cond (b := x2) (by kernel_rfl) (fun hb2 => ?_) (fun hb2 => ?_)
  · have hF := (M.ite_some hF).1 hb2
    refine Run_seq ?_
    refine Run_reg 2 (by kernel_rfl) (L' := [(4, .slice none 0 0), (5, .int .i64 1)]) ?_ ?_
    · refine QRun_b [.slice none 0 0, .int .i64 1] 0 _ (by kernel_rfl) (fun w => by kernel_rfl) ?_
      exact QRun_done [4, 5] (by kernel_rfl) (by kernel_rfl)
    have hF := M.ret_some hF
    subst hF
    have H3 := H2.empty cd23
    exact Run_ret2 rfl (ResV_tmp (v := .slice none 0 0) (by kernel_rfl)) (ResV_tmp (v := .int .i64 1) (by kernel_rfl)) ⟨none, 0, rfl, H3⟩
  · have hF := (M.ite_some hF).2 hb2
    refine Run_skip ?_
    refine Run_seq ?_
    refine Run_seq ?_
    refine Run_reg 5 (by kernel_rfl) (L' := [(0, .slice aa_ a_.length ca_), (1, .slice ab b.length cb), (23, .bool ((a_.length : Int) != (b.length : Int)))]) ?_ ?_
    · refine QRun_b [.slice aa_ a_.length ca_, .int .i64 (a_.length : Int), .slice ab b.length cb, .int .i64 (b.length : Int), .bool ((a_.length : Int) != (b.length : Int))] 0 _ (by kernel_rfl) (fun w => by kernel_rfl) ?_
      exact QRun_done [0, 1, 23] (by kernel_rfl) (by kernel_rfl)
    refine Run_cond (b := (a_.length : Int) != (b.length : Int)) (by kernel_rfl) (fun hb3 => ?_) (fun hb3 => ?_)
    · have hF := (M.ite_some hF).1 hb3
      refine Run_seq ?_
      refine Run_reg 2 (by kernel_rfl) (L' := [(4, .slice none 0 0), (5, .int .i64 5)]) ?_ ?_
      · refine QRun_b [.slice none 0 0, .int .i64 5] 0 _ (by kernel_rfl) (fun w => by kernel_rfl) ?_
        exact QRun_done [4, 5] (by kernel_rfl) (by kernel_rfl)
      have hF := M.ret_some hF
      subst hF
      have H4 := H2.empty cd23
      exact Run_ret2 rfl (ResV_tmp (v := .slice none 0 0) (by kernel_rfl)) (ResV_tmp (v := .int .i64 5) (by kernel_rfl)) ⟨none, 0, rfl, H4⟩
    · have hF := (M.ite_some hF).2 hb3
      refine Run_skip ?_
      refine Run_seq ?_
      refine Run_reg 1 (by kernel_rfl) (L' := [(0, .slice aa_ a_.length ca_), (1, .slice ab b.length cb), (6, .slice none 0 0)]) ?_ ?_
      · refine QRun_b [.slice none 0 0] 0 _ (by kernel_rfl) (fun w => by kernel_rfl) ?_
        exact QRun_done [0, 1, 6] (by kernel_rfl) (by kernel_rfl)
      refine Run_seq ?_
      refine Run_seq ?_
      refine Run_ops ?_
      refine Run_b [.slice ab b.length cb] 0 _ (by kernel_rfl) (fun w => by kernel_rfl) ?_
      obtain ⟨x4, hx3, hF⟩ := M.bind_some hF
      refine Run_E (by kernel_rfl) ?_
      refine E_call (f := 76) (args := #[.slice ab b.length cb]) (w_impl_transposed h1 b ab cb (rb.at H2.ext) _ _ hx3) (by kernel_rfl) (fun v1 h2 hp1 => ?_)
      obtain ⟨a1, c1, rfl, H5⟩ := hp1
      have H6 : Hold h h2 [own cd23 a1 x4.length c1 x4] := H2.call H5 rfl
      refine Run_b [.int .i64 (x4.length : Int), .int .i64 0] 2 _ (by kernel_rfl) (fun w => by kernel_rfl) ?_
      refine Run_nil (by kernel_rfl) ?_
      refine Run_keep [0, 6, 25, 26, 27] (L' := [(0, .slice aa_ a_.length ca_), (6, .slice none 0 0), (25, .slice a1 x4.length c1), (26, .int .i64 (x4.length : Int)), (27, .int .i64 0)]) (by kernel_rfl) ?_
      obtain ⟨x5, gx5, hF⟩ := M.bind_some hF
      obtain ⟨hloy1, hhiy1, gx5⟩ := M.for_start gx5
      refine Run_join (fun L' h' => ∃ (s2 : (List (List Int))) (a3 : Option Addr) (c3 : Nat), x5 = .inl s2 ∧ L' = [(6, .slice a3 s2.length c3)] ∧ Hold h h' [own cd23 a3 s2.length c3 s2]) ?_ ?_
      · rintro _ h4 ⟨s2, a3, c3, es2, rfl, H8⟩
        have hF := M.cont_inl' hF es2
        refine Run_seq ?_
        refine Run_ops ?_
        refine Run_b [.slice a3 s2.length c3] 0 _ (by kernel_rfl) (fun w => by kernel_rfl) ?_
        obtain ⟨x8, hx6, hF⟩ := M.bind_some hF
        refine Run_E (by kernel_rfl) ?_
        refine E_call (f := 76) (args := #[.slice a3 s2.length c3]) (w_impl_transposed h4 s2 a3 c3 (H8.rd 0 rfl) _ _ hx6) (by kernel_rfl) (fun v3 h8 hp3 => ?_)
        obtain ⟨a8, c7, rfl, H26⟩ := hp3
        have H27 : Hold h h8 [own cd23 a8 x8.length c7 x8, own cd23 a3 s2.length c3 s2] := H8.call H26 rfl
        refine Run_b [.slice a8 x8.length c7, .int .i64 0] 2 _ (by kernel_rfl) (fun w => by kernel_rfl) ?_
        refine Run_nil (by kernel_rfl) ?_
        refine Run_keep [4, 5] (L' := [(4, .slice a8 x8.length c7), (5, .int .i64 0)]) (by kernel_rfl) ?_
        have hF := M.ret_some hF
        subst hF
        have H28 : Hold h h8 [own cd23 a8 x8.length c7 x8] := H27.pick [0] (by kernel_rfl)
        exact Run_ret2 rfl (ResV_tmp (v := .slice a8 x8.length c7) (by kernel_rfl)) (ResV_tmp (v := .int .i64 0) (by kernel_rfl)) ⟨a8, c7, rfl, H28⟩
      · refine Run_block ?_
        have H29 := H6.empty cd23
        refine Run_keep [0, 6, 25, 26, 27] (L' := [(0, .slice aa_ a_.length ca_), (6, .slice none 0 0), (25, .slice a1 x4.length c1), (26, .int .i64 (x4.length : Int)), (27, .int .i64 0)]) (by kernel_rfl) ?_
        refine Run_loop (fun m L' h' => ∃ (i1 : Int) (s1 : (List (List Int))) (a2 : Option Addr) (c2 : Nat), 0 ≤ i1 ∧ M.forN (x4.length : Int) _ _ n m i1 s1 = some x5 ∧ L' = [(0, .slice aa_ a_.length ca_), (6, .slice a2 s1.length c2), (25, .slice a1 x4.length c1), (26, .int .i64 (x4.length : Int)), (27, .int .i64 i1)] ∧ Hold h h' [own cd23 a2 s1.length c2 s1, own cd23 a1 x4.length c1 x4]) ((x4.length : Int) - 0 : Int).toNat ⟨0, [], none, 0, Int.le_refl _, gx5, rfl, H29⟩ ?_
        rintro my1 _ h3 ⟨i1, s1, a2, c2, hloy1', gx5, rfl, H7⟩
        refine Run_seq ?_
        refine Run_reg 1 (by kernel_rfl) (L' := [(0, .slice aa_ a_.length ca_), (6, .slice a2 s1.length c2), (25, .slice a1 x4.length c1), (26, .int .i64 (x4.length : Int)), (27, .int .i64 i1), (28, .bool (decide (i1 < (x4.length : Int))))]) ?_ ?_
        · refine QRun_b [.bool (decide (i1 < (x4.length : Int)))] 0 _ (by kernel_rfl) (fun w => by kernel_rfl) ?_
          exact QRun_done [0, 6, 25, 26, 27, 28] (by kernel_rfl) (by kernel_rfl)
        refine Run_seq ?_
        refine Run_cond (b := decide (i1 < (x4.length : Int))) (by kernel_rfl) (fun hb4 => ?_) (fun hb4 => ?_)
        · obtain ⟨my1, y1, rfl, hB1, hgoy1, houty1⟩ := M.for_go gx5 hb4
          have hlty1 := of_decide_eq_true hb4
          refine Run_skip ?_
          refine Run_seq ?_
          refine Run_block ?_
          refine Run_seq ?_
          obtain ⟨x6, hx4, hB1⟩ := M.bind_some hB1
          obtain ⟨hx4l, hx4u, hx4⟩ := M.idx_some hx4
          have H9 : Hold h h3 [own cd23 a1 x4.length c1 x4, own cd23 a2 s1.length c2 s1] := H7.pick [1, 0] (by kernel_rfl)
          have H10 := H9.toRows
          obtain ⟨a4, c4, H11⟩ := H10.pinRow hx4
          have H12 : Hold h h3 [own cd23 a2 s1.length c2 s1, rowsP cd2 23 a1 x4.length c1 x4 [(i1.toNat, a4, x6.length, c4, x6)]] := H11.pick [1, 0] (by kernel_rfl)
          refine Run_reg 3 (by kernel_rfl) (L' := [(0, .slice aa_ a_.length ca_), (6, .slice a2 s1.length c2), (8, .slice a4 x6.length c4), (25, .slice a1 x4.length c1), (26, .int .i64 (x4.length : Int)), (27, .int .i64 i1)]) ?_ ?_
          · refine QRun_y (.pointer (some (adr a1 (i1.toNat * 1)))) (by kernel_rfl) (Y_idx (t := 22) (e := 23) (sz := 1) (a := a1) (n := x4.length) (cap := c1) (kk := .i64) (i := i1) (by kernel_rfl) Try.underlying22 (by kernel_rfl) ((H7.rd 1 rfl).cell hx4).1 hx4l hx4u) ?_
            refine QRun_y (.slice a4 x6.length c4) (by kernel_rfl) (Y_load1 (t := 23) (p := adr a1 (i1.toNat * 1)) (v := .slice a4 x6.length c4) (by kernel_rfl) (fun w => by kernel_rfl) (H12.cellPin 1 rfl 0 rfl)) ?_
            refine QRun_b [.slice a4 x6.length c4] 2 _ (by kernel_rfl) (fun w => by kernel_rfl) ?_
            exact QRun_done [0, 6, 8, 25, 26, 27] (by kernel_rfl) (by kernel_rfl)
          refine Run_seq ?_
          refine Run_ops ?_
          refine Run_b [.slice aa_ a_.length ca_, .slice a4 x6.length c4] 0 _ (by kernel_rfl) (fun w => by kernel_rfl) ?_
          obtain ⟨x7, hx5, hB1⟩ := M.bind_some hB1
          refine Run_E (by kernel_rfl) ?_
          refine E_call (f := 61) (args := #[.slice aa_ a_.length ca_, .slice a4 x6.length c4]) (w_impl_greatestSub h3 a_ aa_ ca_ (ra_.at H12.ext) x6 a4 c4 (H12.rdPin 1 rfl 0 rfl) _ _ hx5) (by kernel_rfl) (fun v2 h5 hp2 => ?_)
          obtain ⟨a5, c5, rfl, H13⟩ := hp2
          have H14 : Hold h h5 [own cd2 a5 x7.1.length c5 x7.1, own cd23 a2 s1.length c2 s1, rowsP cd2 23 a1 x4.length c1 x4 [(i1.toNat, a4, x6.length, c4, x6)]] := H12.call H13 rfl
          refine Run_b [.tuple #[.slice a5 x7.1.length c5, .int .i64 x7.2], .slice a5 x7.1.length c5, .int .i64 x7.2, .slice a5 x7.1.length c5, .int .i64 x7.2] 3 _ (by kernel_rfl) (fun w => by kernel_rfl) ?_
          refine Run_nil (by kernel_rfl) ?_
          refine Run_keep [0, 6, 9, 10, 25, 26, 27] (L' := [(0, .slice aa_ a_.length ca_), (6, .slice a2 s1.length c2), (9, .slice a5 x7.1.length c5), (10, .int .i64 x7.2), (25, .slice a1 x4.length c1), (26, .int .i64 (x4.length : Int)), (27, .int .i64 i1)]) (by kernel_rfl) ?_
          refine Run_seq ?_
          refine Run_seq ?_
          refine Run_reg 2 (by kernel_rfl) (L' := [(0, .slice aa_ a_.length ca_), (6, .slice a2 s1.length c2), (9, .slice a5 x7.1.length c5), (10, .int .i64 x7.2), (25, .slice a1 x4.length c1), (26, .int .i64 (x4.length : Int)), (27, .int .i64 i1), (38, .bool (x7.2 != 0))]) ?_ ?_
          · refine QRun_b [.int .i64 x7.2, .bool (x7.2 != 0)] 0 _ (by kernel_rfl) (fun w => by kernel_rfl) ?_
            exact QRun_done [0, 6, 9, 10, 25, 26, 27, 38] (by kernel_rfl) (by kernel_rfl)
          refine Run_cond (b := x7.2 != 0) (by kernel_rfl) (fun hb5 => ?_) (fun hb5 => ?_)
          · have hB1 := (M.ite_some hB1).1 hb5
            refine Run_seq ?_
            refine Run_reg 3 (by kernel_rfl) (L' := [(4, .slice none 0 0), (5, .int .i64 x7.2)]) ?_ ?_
            · refine QRun_b [.int .i64 x7.2, .slice none 0 0, .int .i64 x7.2] 0 _ (by kernel_rfl) (fun w => by kernel_rfl) ?_
              exact QRun_done [4, 5] (by kernel_rfl) (by kernel_rfl)
            have hB1 := M.ret_some hB1
            have gx5 := houty1 _ hB1.symm
            have hF := M.cont_inr' hF gx5
            have hF := M.ret_some hF
            subst hF
            have H15 := H14.empty cd23
            have H16 : Hold h h5 [own cd23 none 0 0 []] := H15.pick [0] (by kernel_rfl)
            exact Run_ret2 rfl (ResV_tmp (v := .slice none 0 0) (by kernel_rfl)) (ResV_tmp (v := .int .i64 x7.2) (by kernel_rfl)) ⟨none, 0, rfl, H16⟩
          · have hB1 := (M.ite_some hB1).2 hb5
            refine Run_skip ?_
            refine Run_ops ?_
            refine Run_b [.slice a2 s1.length c2, .slice a5 x7.1.length c5] 0 _ (by kernel_rfl) (fun w => by kernel_rfl) ?_
            refine Run_E (by kernel_rfl) ?_
            refine E_lit1 (ey := 23) (n := x7.1.length) H14 (fun w => by kernel_rfl) rfl (fun a6 h6 H17 => ?_)
            obtain ⟨l1, hl1, hB1⟩ := M.bind_some hB1
            have hl1 := M.app_some hl1
            have H18 : Hold h h6 [own cd23 a2 s1.length c2 s1, own cd23 a6 1 1 [x7.1], rowsP cd2 23 a1 x4.length c1 x4 [(i1.toNat, a4, x6.length, c4, x6)]] := H17.pick [1, 0, 2] (by kernel_rfl)
            have H19 : Hold h h6 [own cd23 a6 1 1 [x7.1], own cd23 a2 s1.length c2 s1, rowsP cd2 23 a1 x4.length c1 x4 [(i1.toNat, a4, x6.length, c4, x6)]] := H18.pick [1, 0, 2] (by kernel_rfl)
            have H20 : Hold h h6 [own cd23 a2 s1.length c2 s1, own cd23 a6 1 1 [x7.1], rowsP cd2 23 a1 x4.length c1 x4 [(i1.toNat, a4, x6.length, c4, x6)]] := H19.pick [1, 0, 2] (by kernel_rfl)
            refine Run_E (by kernel_rfl) ?_
            refine E_app (C := cd23) (t := 22) (ty := 22) (n := s1.length) (m := 1) H20 cd23_ti rfl Try.underlying22 (by decide) (by kernel_rfl) hl1 (fun a7 c6 h7 H21 => ?_)
            refine Run_b [.slice a7 l1.length c6] 4 _ (by kernel_rfl) (fun w => by kernel_rfl) ?_
            refine Run_nil (by kernel_rfl) ?_
            refine Run_keep [0, 6, 25, 26, 27] (L' := [(0, .slice aa_ a_.length ca_), (6, .slice a7 l1.length c6), (25, .slice a1 x4.length c1), (26, .int .i64 (x4.length : Int)), (27, .int .i64 i1)]) (by kernel_rfl) ?_
            refine Run_blk ?_
            refine Run_reg 2 (by kernel_rfl) (L' := [(0, .slice aa_ a_.length ca_), (6, .slice a7 l1.length c6), (25, .slice a1 x4.length c1), (26, .int .i64 (x4.length : Int)), (27, .int .i64 (i1 + 1))]) ?_ ?_
            · refine QRun_y (.int .i64 (i1 + 1)) (by kernel_rfl) (Y_eq (v := .int .i64 (w64 (i1 + 1))) (Y_pure (fun w => by kernel_rfl)) (by rw [w64_eq _ (by omega)])) ?_
              refine QRun_b [.int .i64 (i1 + 1)] 1 _ (by kernel_rfl) (fun w => by kernel_rfl) ?_
              exact QRun_done [0, 6, 25, 26, 27] (by kernel_rfl) (by kernel_rfl)
            have H22 : Hold h h7 [rowsP cd2 23 a1 x4.length c1 x4 [(i1.toNat, a4, x6.length, c4, x6)], own cd23 a7 l1.length c6 l1] := H21.pick [1, 0] (by kernel_rfl)
            have H23 := H22.ofRows
            have H24 : Hold h h7 [own cd23 a7 l1.length c6 l1, own cd23 a1 x4.length c1 x4] := H23.pick [1, 0] (by kernel_rfl)
            have hB1 := M.ret_some hB1
            have gx5 := hgoy1 _ hB1.symm
            exact Run_again [0, 6, 25, 26, 27] (by kernel_rfl) my1 (Nat.lt_succ_self _) ⟨i1 + 1, l1, a7, c6, by omega, gx5, rfl, H24⟩
        · have gx5 := M.for_end gx5 hb4
          subst gx5
          refine Run_exit (k' := _) rfl ?_
          have H25 : Hold h h3 [own cd23 a2 s1.length c2 s1] := H7.pick [0] (by kernel_rfl)
          exact Run_fall [6] (by kernel_rfl) ⟨s1, a2, c2, rfl, rfl, H25⟩

set_option maxRecDepth 100000 in
set_option maxHeartbeats 4000000 in
theorem w_impl_checkedMatrix_1 (h : Heap) (row : List Int) {Srow : Bs} (arow : Option Addr) (crow : Nat) (rrow : Rd cd2 h Srow arow crow row) (n : Nat) (r : Bool) (hF : impl_checkedMatrix_1 row n = some r) :
    Fn Try.prog 105 #[.slice arow row.length crow] h fun v h' => v = .bool r ∧ h' = h := by
  unfold impl_checkedMatrix_1 at hF
  refine Fn_enter (args := [.slice arow row.length crow]) Try.func105 rfl (by kernel_rfl) (by kernel_rfl) (fun w0 _ => ?_)
  refine Run_seq ?_
  refine Run_reg 1 (by kernel_rfl) (L' := [(0, .slice arow row.length crow)]) ?_ ?_
  · refine QRun_b [.bool false] 0 _ (by kernel_rfl) (fun w => by kernel_rfl) ?_
    exact QRun_done [0] (by kernel_rfl) (by kernel_rfl)
  refine Run_seq ?_
  obtain ⟨x1, hx1, hF⟩ := M.bind_some hF
  refine Run_reg 4 (by kernel_rfl) (L' := [(2, .bool (!x1))]) ?_ ?_
  · refine QRun_b [.slice arow row.length crow] 0 _ (by kernel_rfl) (fun w => by kernel_rfl) ?_
    refine QRun_y (.bool x1) (by kernel_rfl) (Y_callq (f := 101) (args := #[.slice arow row.length crow]) (v := .bool x1) (by kernel_rfl) (w_impl_areValues h row arow crow rrow _ _ hx1)) ?_
    refine QRun_b [.bool (!x1), .bool (!x1)] 2 _ (by kernel_rfl) (fun w => by kernel_rfl) ?_
    exact QRun_done [2] (by kernel_rfl) (by kernel_rfl)
  have hF := M.ret_some hF
  subst hF
  exact Run_ret1 rfl (ResV_tmp (v := .bool (!x1)) (by kernel_rfl)) ⟨rfl, rfl⟩

set_option maxRecDepth 100000 in
set_option maxHeartbeats 4000000 in
theorem w_slices_IndexFunc_row_F_impl_checkedMatrix_1 (h : Heap) (s_ : List (List Int)) {Ss_ : Bs} (as_ : Option Addr) (cs_ : Nat) (rs_ : Rd cd23 h Ss_ as_ cs_ s_) (n : Nat) (r : Int) (hF : slices_IndexFunc_row_F_impl_checkedMatrix_1 s_ n = some r) :
    Fn Try.prog 128 #[.slice as_ s_.length cs_, .func (.func 105) #[] #[]] h fun v h' => v = .int .i64 r ∧ h' = h := by
  unfold slices_IndexFunc_row_F_impl_checkedMatrix_1 at hF
  refine Fn_enter (args := [.slice as_ s_.length cs_, .func (.func 105) #[] #[]]) Try.func128 rfl (by kernel_rfl) (by kernel_rfl) (fun w0 _ => ?_)
  refine Run_seq ?_
  refine Run_reg 1 (by kernel_rfl) (L' := [(0, .slice as_ s_.length cs_), (1, .func (.func 105) #[] #[])]) ?_ ?_
  · refine QRun_b [.int .i64 0] 0 _ (by kernel_rfl) (fun w => by kernel_rfl) ?_
    exact QRun_done [0, 1] (by kernel_rfl) (by kernel_rfl)
  refine Run_seq ?_
  refine Run_seq ?_
  refine Run_reg 3 (by kernel_rfl) (L' := [(0, .slice as_ s_.length cs_), (1, .func (.func 105) #[] #[]), (7, .int .i64 (s_.length : Int)), (8, .int .i64 0)]) ?_ ?_
  · refine QRun_b [.slice as_ s_.length cs_, .int .i64 (s_.length : Int), .int .i64 0] 0 _ (by kernel_rfl) (fun w => by kernel_rfl) ?_
    exact QRun_done [0, 1, 7, 8] (by kernel_rfl) (by kernel_rfl)
  obtain ⟨x1, gx1, hF⟩ := M.bind_some hF
  obtain ⟨hloy1, hhiy1, gx1⟩ := M.for_start gx1
  refine Run_join (fun L' h' => ∃ (s2 : Unit), x1 = .inl s2 ∧ L' = [] ∧ h = h') ?_ ?_
  · rintro _ _ ⟨s2, es2, rfl, rfl⟩
    have hF := M.cont_inl' hF es2
    refine Run_seq ?_
    refine Run_reg 1 (by kernel_rfl) (L' := [(4, .int .i64 (-1))]) ?_ ?_
    · refine QRun_b [.int .i64 (-1)] 0 _ (by kernel_rfl) (fun w => by kernel_rfl) ?_
      exact QRun_done [4] (by kernel_rfl) (by kernel_rfl)
    have hF := M.ret_some hF
    subst hF
    exact Run_ret1 rfl (ResV_tmp (v := .int .i64 (-1)) (by kernel_rfl)) ⟨rfl, rfl⟩
  · refine Run_block ?_
    refine Run_keep [0, 1, 7, 8] (L' := [(0, .slice as_ s_.length cs_), (1, .func (.func 105) #[] #[]), (7, .int .i64 (s_.length : Int)), (8, .int .i64 0)]) (by kernel_rfl) ?_
    refine Run_loop (fun m L' h' => ∃ (i1 : Int) (s1 : Unit), 0 ≤ i1 ∧ M.forN (s_.length : Int) _ _ n m i1 s1 = some x1 ∧ L' = [(0, .slice as_ s_.length cs_), (1, .func (.func 105) #[] #[]), (7, .int .i64 (s_.length : Int)), (8, .int .i64 i1)] ∧ h = h') ((s_.length : Int) - 0 : Int).toNat ⟨0, (), Int.le_refl _, gx1, rfl, rfl⟩ ?_
    rintro my1 _ _ ⟨i1, s1, hloy1', gx1, rfl, rfl⟩
    refine Run_seq ?_
    refine Run_reg 1 (by kernel_rfl) (L' := [(0, .slice as_ s_.length cs_), (1, .func (.func 105) #[] #[]), (7, .int .i64 (s_.length : Int)), (8, .int .i64 i1), (9, .bool (decide (i1 < (s_.length : Int))))]) ?_ ?_
    · refine QRun_b [.bool (decide (i1 < (s_.length : Int)))] 0 _ (by kernel_rfl) (fun w => by kernel_rfl) ?_
      exact QRun_done [0, 1, 7, 8, 9] (by kernel_rfl) (by kernel_rfl)
    refine Run_seq ?_
    refine Run_cond (b := decide (i1 < (s_.length : Int))) (by kernel_rfl) (fun hb1 => ?_) (fun hb1 => ?_)
    · obtain ⟨my1, y1, rfl, hB1, hgoy1, houty1⟩ := M.for_go gx1 hb1
      have hlty1 := of_decide_eq_true hb1
      refine Run_skip ?_
      refine Run_seq ?_
      refine Run_block ?_
      refine Run_seq ?_
      refine Run_reg 2 (by kernel_rfl) (L' := [(0, .slice as_ s_.length cs_), (1, .func (.func 105) #[] #[]), (5, .int .i64 i1), (7, .int .i64 (s_.length : Int)), (8, .int .i64 i1)]) ?_ ?_
      · refine QRun_b [.int .i64 i1, .int .i64 i1] 0 _ (by kernel_rfl) (fun w => by kernel_rfl) ?_
        exact QRun_done [0, 1, 5, 7, 8] (by kernel_rfl) (by kernel_rfl)
      refine Run_seq ?_
      obtain ⟨x2, hx1, hB1⟩ := M.bind_some hB1
      obtain ⟨hx1l, hx1u, hx1⟩ := M.idx_some hx1
      obtain ⟨a1, c1, hc1, r1⟩ := rs_.row hx1
      obtain ⟨x3, hx2, hB1⟩ := M.bind_some hB1
      refine Run_reg 6 (by kernel_rfl) (L' := [(0, .slice as_ s_.length cs_), (1, .func (.func 105) #[] #[]), (5, .int .i64 i1), (7, .int .i64 (s_.length : Int)), (8, .int .i64 i1), (16, .bool x3)]) ?_ ?_
      · refine QRun_b [.func (.func 105) #[] #[], .slice as_ s_.length cs_, .int .i64 i1] 0 _ (by kernel_rfl) (fun w => by kernel_rfl) ?_
        refine QRun_y (.pointer (some (adr as_ (i1.toNat * 1)))) (by kernel_rfl) (Y_idx (t := 22) (e := 23) (sz := 1) (a := as_) (n := s_.length) (cap := cs_) (kk := .i64) (i := i1) (by kernel_rfl) Try.underlying22 (by kernel_rfl) (rs_.cell hx1).1 hx1l hx1u) ?_
        refine QRun_y (.slice a1 x2.length c1) (by kernel_rfl) (Y_load1 (t := 23) (p := adr as_ (i1.toNat * 1)) (v := .slice a1 x2.length c1) (by kernel_rfl) (fun w => by kernel_rfl) hc1) ?_
        refine QRun_y (.bool x3) (by kernel_rfl) (Y_callq (f := 105) (args := #[.slice a1 x2.length c1]) (v := .bool x3) (by kernel_rfl) (w_impl_checkedMatrix_1 h x2 a1 c1 r1 _ _ hx2)) ?_
        exact QRun_done [0, 1, 5, 7, 8, 16] (by kernel_rfl) (by kernel_rfl)
      refine Run_cond (b := x3) (by kernel_rfl) (fun hb2 => ?_) (fun hb2 => ?_)
      · have hB1 := (M.ite_some hB1).1 hb2
        refine Run_seq ?_
        refine Run_reg 2 (by kernel_rfl) (L' := [(4, .int .i64 i1)]) ?_ ?_
        · refine QRun_b [.int .i64 i1, .int .i64 i1] 0 _ (by kernel_rfl) (fun w => by kernel_rfl) ?_
          exact QRun_done [4] (by kernel_rfl) (by kernel_rfl)
        have hB1 := M.ret_some hB1
        have gx1 := houty1 _ hB1.symm
        have hF := M.cont_inr' hF gx1
        have hF := M.ret_some hF
        subst hF
        exact Run_ret1 rfl (ResV_tmp (v := .int .i64 i1) (by kernel_rfl)) ⟨rfl, rfl⟩
      · have hB1 := (M.ite_some hB1).2 hb2
        refine Run_skip ?_
        refine Run_blk ?_
        refine Run_reg 2 (by kernel_rfl) (L' := [(0, .slice as_ s_.length cs_), (1, .func (.func 105) #[] #[]), (7, .int .i64 (s_.length : Int)), (8, .int .i64 (i1 + 1))]) ?_ ?_
        · refine QRun_y (.int .i64 (i1 + 1)) (by kernel_rfl) (Y_eq (v := .int .i64 (w64 (i1 + 1))) (Y_pure (fun w => by kernel_rfl)) (by rw [w64_eq _ (by omega)])) ?_
          refine QRun_b [.int .i64 (i1 + 1)] 1 _ (by kernel_rfl) (fun w => by kernel_rfl) ?_
          exact QRun_done [0, 1, 7, 8] (by kernel_rfl) (by kernel_rfl)
        have hB1 := M.ret_some hB1
        have gx1 := hgoy1 _ hB1.symm
        exact Run_again [0, 1, 7, 8] (by kernel_rfl) my1 (Nat.lt_succ_self _) ⟨i1 + 1, (), by omega, gx1, rfl, rfl⟩
    · have gx1 := M.for_end gx1 hb1
      subst gx1
      refine Run_exit (k' := _) rfl ?_
      exact Run_fall [] (by kernel_rfl) ⟨(), rfl, rfl, rfl⟩

set_option maxRecDepth 100000 in
set_option maxHeartbeats 4000000 in
theorem w_slices_ContainsFunc_row_F_impl_checkedMatrix_1 (h : Heap) (s_ : List (List Int)) {Ss_ : Bs} (as_ : Option Addr) (cs_ : Nat) (rs_ : Rd cd23 h Ss_ as_ cs_ s_) (n : Nat) (r : Bool) (hF : slices_ContainsFunc_row_F_impl_checkedMatrix_1 s_ n = some r) :
    Fn Try.prog 104 #[.slice as_ s_.length cs_, .func (.func 105) #[] #[]] h fun v h' => v = .bool r ∧ h' = h := by
  unfold slices_ContainsFunc_row_F_impl_checkedMatrix_1 at hF
  refine Fn_enter (args := [.slice as_ s_.length cs_, .func (.func 105) #[] #[]]) Try.func104 rfl (by kernel_rfl) (by kernel_rfl) (fun w0 _ => ?_)
  refine Run_seq ?_
  refine Run_reg 1 (by kernel_rfl) (L' := [(0, .slice as_ s_.length cs_), (1, .func (.func 105) #[] #[])]) ?_ ?_
  · refine QRun_b [.bool false] 0 _ (by kernel_rfl) (fun w => by kernel_rfl) ?_
    exact QRun_done [0, 1] (by kernel_rfl) (by kernel_rfl)
  refine Run_seq ?_
  obtain ⟨x1, hx1, hF⟩ := M.bind_some hF
  refine Run_reg 5 (by kernel_rfl) (L' := [(4, .bool (decide (0 ≤ x1)))]) ?_ ?_
  · refine QRun_b [.slice as_ s_.length cs_, .func (.func 105) #[] #[]] 0 _ (by kernel_rfl) (fun w => by kernel_rfl) ?_
    refine QRun_y (.int .i64 x1) (by kernel_rfl) (Y_callq (f := 128) (args := #[.slice as_ s_.length cs_, .func (.func 105) #[] #[]]) (v := .int .i64 x1) (by kernel_rfl) (w_slices_IndexFunc_row_F_impl_checkedMatrix_1 h s_ as_ cs_ rs_ _ _ hx1)) ?_
    refine QRun_b [.bool (decide (0 ≤ x1)), .bool (decide (0 ≤ x1))] 3 _ (by kernel_rfl) (fun w => by kernel_rfl) ?_
    exact QRun_done [4] (by kernel_rfl) (by kernel_rfl)
  have hF := M.ret_some hF
  subst hF
  exact Run_ret1 rfl (ResV_tmp (v := .bool (decide (0 ≤ x1))) (by kernel_rfl)) ⟨rfl, rfl⟩

set_option maxRecDepth 100000 in
set_option maxHeartbeats 4000000 in
theorem w_impl_checkedMatrix (h : Heap) (a_ : List (List Int)) (aa_ : Option Addr) (ca_ : Nat) (ra_ : Rd cd23 h (Lt h) aa_ ca_ a_) (n : Nat) (r : (List (List Int)) × Int) (hF : impl_checkedMatrix a_ n = some r) :
    Fn Try.prog 74 #[.slice aa_ a_.length ca_] h fun v h' => ∃ (a0 : Option Addr) (c0 : Nat), v = .tuple #[.slice a0 r.1.length c0, .int .i64 r.2] ∧ Ali a0 aa_ c0 ca_ r.1 a_ ∧ Hold h h' [] := by
  unfold impl_checkedMatrix at hF
  refine Fn_enter (args := [.slice aa_ a_.length ca_]) Try.func74 rfl (by kernel_rfl) (by kernel_rfl) (fun w0 _ => ?_)
  have H0 := Hold.init h
  refine Run_seq ?_
  refine Run_reg 2 (by kernel_rfl) (L' := [(0, .slice aa_ a_.length ca_)]) ?_ ?_
  · refine QRun_b [.slice none 0 0, .int .i64 0] 0 _ (by kernel_rfl) (fun w => by kernel_rfl) ?_
    exact QRun_done [0] (by kernel_rfl) (by kernel_rfl)
  refine Run_seq ?_
  refine Run_seq ?_
  obtain ⟨x1, hx1, hF⟩ := M.bind_some hF
  refine Run_reg 2 (by kernel_rfl) (L' := [(0, .slice aa_ a_.length ca_), (5, .bool x1)]) ?_ ?_
  · refine QRun_b [.slice aa_ a_.length ca_] 0 _ (by kernel_rfl) (fun w => by kernel_rfl) ?_
    refine QRun_y (.bool x1) (by kernel_rfl) (Y_callq (f := 104) (args := #[.slice aa_ a_.length ca_, .func (.func 105) #[] #[]]) (v := .bool x1) (by kernel_rfl) (w_slices_ContainsFunc_row_F_impl_checkedMatrix_1 h a_ aa_ ca_ ra_ _ _ hx1)) ?_
    exact QRun_done [0, 5] (by kernel_rfl) (by kernel_rfl)
  refine Run_cond (b := x1) (by kernel_rfl) (fun hb1 => ?_) (fun hb1 => ?_)
  · have hF := (M.ite_some hF).1 hb1
    refine Run_seq ?_
    refine Run_reg 2 (by kernel_rfl) (L' := [(2, .slice none 0 0), (3, .int .i64 3)]) ?_ ?_
    · refine QRun_b [.slice none 0 0, .int .i64 3] 0 _ (by kernel_rfl) (fun w => by kernel_rfl) ?_
      exact QRun_done [2, 3] (by kernel_rfl) (by kernel_rfl)
    have hF := M.ret_some hF
    subst hF
    exact Run_ret2 rfl (ResV_tmp (v := .slice none 0 0) (by kernel_rfl)) (ResV_tmp (v := .int .i64 3) (by kernel_rfl)) ⟨none, 0, rfl, .inr ⟨rfl, rfl, rfl⟩, H0⟩
  · have hF := (M.ite_some hF).2 hb1
    refine Run_skip ?_
    refine Run_seq ?_
    refine Run_reg 3 (by kernel_rfl) (L' := [(2, .slice aa_ a_.length ca_), (3, .int .i64 0)]) ?_ ?_
    · refine QRun_b [.slice aa_ a_.length ca_, .slice aa_ a_.length ca_, .int .i64 0] 0 _ (by kernel_rfl) (fun w => by kernel_rfl) ?_
      exact QRun_done [2, 3] (by kernel_rfl) (by kernel_rfl)
    have hF := M.ret_some hF
    subst hF
    exact Run_ret2 rfl (ResV_tmp (v := .slice aa_ a_.length ca_) (by kernel_rfl)) (ResV_tmp (v := .int .i64 0) (by kernel_rfl)) ⟨aa_, ca_, rfl, .inl ⟨rfl, rfl, rfl⟩, H0⟩

set_option maxRecDepth 100000 in
set_option maxHeartbeats 4000000 in
theorem w_impl_LeftQuotient (h : Heap) (a_ : List (List Int)) (aa_ : Option Addr) (ca_ : Nat) (ra_ : Rd cd23 h (Lt h) aa_ ca_ a_) (b : List (List Int)) (ab : Option Addr) (cb : Nat) (rb : Rd cd23 h (Lt h) ab cb b) (n : Nat) (r : (List (List Int)) × Int) (hF : impl_LeftQuotient a_ b n = some r) :
    Fn Try.prog 34 #[.slice aa_ a_.length ca_, .slice ab b.length cb] h fun v h' => ∃ (a0 : Option Addr) (c0 : Nat), v = .tuple #[.slice a0 r.1.length c0, .int .i64 r.2] ∧ Hold h h' [own cd23 a0 r.1.length c0 r.1] := by
  unfold impl_LeftQuotient at hF
  refine Fn_enter (args := [.slice aa_ a_.length ca_, .slice ab b.length cb]) Try.func34 rfl (by kernel_rfl) (by kernel_rfl) (fun w0 _ => ?_)
  have H0 := Hold.init h
  refine Run_seq ?_
  refine Run_reg 2 (by kernel_rfl) (L' := [(0, .slice aa_ a_.length ca_), (1, .slice ab b.length cb)]) ?_ ?_
  · refine QRun_b [.slice none 0 0, .int .i64 0] 0 _ (by kernel_rfl) (fun w => by kernel_rfl) ?_
    exact QRun_done [0, 1] (by kernel_rfl) (by kernel_rfl)
  refine Run_seq ?_
  refine Run_ops ?_
  refine Run_b [.slice aa_ a_.length ca_, .slice ab b.length cb] 0 _ (by kernel_rfl) (fun w => by kernel_rfl) ?_
  obtain ⟨x1, hx1, hF⟩ := M.bind_some hF
  refine Run_E (by kernel_rfl) ?_
  refine E_call (f := 73) (args := #[.slice aa_ a_.length ca_, .slice ab b.length cb]) (w_impl_leftQuotient h a_ aa_ ca_ ra_ b ab cb rb _ _ hx1) (by kernel_rfl) (fun v1 h1 hp1 => ?_)
  obtain ⟨a1, c1, rfl, H1⟩ := hp1
  have H2 : Hold h h1 [own cd23 a1 x1.1.length c1 x1.1] := H0.call H1 rfl
  refine Run_b [.tuple #[.slice a1 x1.1.length c1, .int .i64 x1.2], .slice a1 x1.1.length c1, .int .i64 x1.2, .slice a1 x1.1.length c1, .int .i64 x1.2] 3 _ (by kernel_rfl) (fun w => by kernel_rfl) ?_
  refine Run_nil (by kernel_rfl) ?_
  refine Run_keep [6, 7] (L' := [(6, .slice a1 x1.1.length c1), (7, .int .i64 x1.2)]) (by kernel_rfl) ?_
  refine Run_seq ?_
  refine Run_seq ?_
  refine Run_reg 2 (by kernel_rfl) (L' := [(6, .slice a1 x1.1.length c1), (7, .int .i64 x1.2), (15, .bool (x1.2 != 0))]) ?_ ?_
  · refine QRun_b [.int .i64 x1.2, .bool (x1.2 != 0)] 0 _ (by kernel_rfl) (fun w => by kernel_rfl) ?_
    exact QRun_done [6, 7, 15] (by kernel_rfl) (by kernel_rfl)
  refine Run_cond (b := x1.2 != 0) (by kernel_rfl) (fun hb1 => ?_) (fun hb1 => ?_)
  · have hF := (M.ite_some hF).1 hb1
    refine Run_seq ?_
    refine Run_reg 3 (by kernel_rfl) (L' := [(4, .slice none 0 0), (5, .int .i64 x1.2)]) ?_ ?_
    · refine QRun_b [.int .i64 x1.2, .slice none 0 0, .int .i64 x1.2] 0 _ (by kernel_rfl) (fun w => by kernel_rfl) ?_
      exact QRun_done [4, 5] (by kernel_rfl) (by kernel_rfl)
    have hF := M.ret_some hF
    subst hF
    have H3 := H2.empty cd23
    have H4 : Hold h h1 [own cd23 none 0 0 []] := H3.pick [0] (by kernel_rfl)
    exact Run_ret2 rfl (ResV_tmp (v := .slice none 0 0) (by kernel_rfl)) (ResV_tmp (v := .int .i64 x1.2) (by kernel_rfl)) ⟨none, 0, rfl, H4⟩
  · have hF := (M.ite_some hF).2 hb1
    refine Run_skip ?_
    refine Run_seq ?_
    refine Run_ops ?_
    refine Run_b [.slice a1 x1.1.length c1] 0 _ (by kernel_rfl) (fun w => by kernel_rfl) ?_
    obtain ⟨x2, hx2, hF⟩ := M.bind_some hF
    refine Run_E (by kernel_rfl) ?_
    refine E_call (f := 74) (args := #[.slice a1 x1.1.length c1]) (w_impl_checkedMatrix h1 x1.1 a1 c1 (H2.rd 0 rfl) _ _ hx2) (by kernel_rfl) (fun v2 h2 hp2 => ?_)
    obtain ⟨a2, c2, rfl, hd1, H5⟩ := hp2
    have H6 : Hold h h2 [own cd23 a1 x1.1.length c1 x1.1] := H2.call H5 rfl
    have H7 := H6.alias hd1
    refine Run_b [.slice a2 x2.1.length c2, .int .i64 x2.2, .slice a2 x2.1.length c2, .int .i64 x2.2] 2 _ (by kernel_rfl) (fun w => by kernel_rfl) ?_
    refine Run_nil (by kernel_rfl) ?_
    refine Run_keep [4, 5] (L' := [(4, .slice a2 x2.1.length c2), (5, .int .i64 x2.2)]) (by kernel_rfl) ?_
    have hF := M.ret_some hF
    subst hF
    exact Run_ret2 rfl (ResV_tmp (v := .slice a2 x2.1.length c2) (by kernel_rfl)) (ResV_tmp (v := .int .i64 x2.2) (by kernel_rfl)) ⟨a2, c2, rfl, H7⟩

set_option maxRecDepth 100000 in
set_option maxHeartbeats 4000000 in
theorem w_spec_l08Fits (h : Heap) (a_ : List (List Int)) {Sa_ : Bs} (aa_ : Option Addr) (ca_ : Nat) (ra_ : Rd cd23 h Sa_ aa_ ca_ a_) (n : Nat) (r : Bool) (hF : spec_l08Fits a_ n = some r) :
    Fn Try.prog 70 #[.slice aa_ a_.length ca_] h fun v h' => v = .bool r ∧ h' = h := by
  unfold spec_l08Fits at hF
  refine Fn_enter (args := [.slice aa_ a_.length ca_]) Try.func70 rfl (by kernel_rfl) (by kernel_rfl) (fun w0 _ => ?_)
  refine Run_seq ?_
  refine Run_reg 1 (by kernel_rfl) (L' := [(0, .slice aa_ a_.length ca_)]) ?_ ?_
  · refine QRun_b [.bool false] 0 _ (by kernel_rfl) (fun w => by kernel_rfl) ?_
    exact QRun_done [0] (by kernel_rfl) (by kernel_rfl)
  refine Run_seq ?_
  refine Run_seq ?_
  refine Run_reg 1 (by kernel_rfl) (L' := [(0, .slice aa_ a_.length ca_), (3, .int .i64 0)]) ?_ ?_
  · refine QRun_b [.int .i64 0] 0 _ (by kernel_rfl) (fun w => by kernel_rfl) ?_
    exact QRun_done [0, 3] (by kernel_rfl) (by kernel_rfl)
  obtain ⟨x1, gx1, hF⟩ := M.bind_some hF
  refine Run_join (fun L' h' => ∃ (s2 : Int), x1 = .inl s2 ∧ L' = [] ∧ h = h') ?_ ?_
  · rintro _ _ ⟨s2, es2, rfl, rfl⟩
    have hF := M.cont_inl' hF es2
    refine Run_seq ?_
    refine Run_reg 1 (by kernel_rfl) (L' := [(2, .bool true)]) ?_ ?_
    · refine QRun_b [.bool true] 0 _ (by kernel_rfl) (fun w => by kernel_rfl) ?_
      exact QRun_done [2] (by kernel_rfl) (by kernel_rfl)
    have hF := M.ret_some hF
    subst hF
    exact Run_ret1 rfl (ResV_tmp (v := .bool true) (by kernel_rfl)) ⟨rfl, rfl⟩
  · refine Run_block ?_
    refine Run_keep [0, 3] (L' := [(0, .slice aa_ a_.length ca_), (3, .int .i64 0)]) (by kernel_rfl) ?_
    refine Run_loop (fun m L' h' => ∃ (s1 : Int), M.loopN _ n m s1 = some x1 ∧ L' = [(0, .slice aa_ a_.length ca_), (3, .int .i64 s1)] ∧ h = h') n ⟨0, gx1, rfl, rfl⟩ ?_
    rintro my1 _ _ ⟨s1, gx1, rfl, rfl⟩
    obtain ⟨my1, y1, rfl, hB1, hgoy1, houty1⟩ := M.loop_some gx1
    refine Run_seq ?_
    refine Run_seq ?_
    obtain ⟨x2, hx1, hB1⟩ := M.bind_some hB1
    obtain ⟨hx1l, hx1u, hx1⟩ := M.idx_some hx1
    obtain ⟨a1, c1, hc1, r1⟩ := ra_.row hx1
    refine Run_reg 6 (by kernel_rfl) (L' := [(0, .slice aa_ a_.length ca_), (3, .int .i64 s1), (11, .bool (decide (s1 < (x2.length : Int))))]) ?_ ?_
    · refine QRun_b [.int .i64 s1, .slice aa_ a_.length ca_] 0 _ (by kernel_rfl) (fun w => by kernel_rfl) ?_
      refine QRun_y (.pointer (some (adr aa_ (0 * 1)))) (by kernel_rfl) (Y_idx (t := 22) (e := 23) (sz := 1) (a := aa_) (n := a_.length) (cap := ca_) (kk := .i64) (i := 0) (by kernel_rfl) Try.underlying22 (by kernel_rfl) (ra_.cell hx1).1 hx1l hx1u) ?_
      refine QRun_y (.slice a1 x2.length c1) (by kernel_rfl) (Y_load1 (t := 23) (p := adr aa_ (0 * 1)) (v := .slice a1 x2.length c1) (by kernel_rfl) (fun w => by kernel_rfl) hc1) ?_
      refine QRun_b [.int .i64 (x2.length : Int), .bool (decide (s1 < (x2.length : Int)))] 4 _ (by kernel_rfl) (fun w => by kernel_rfl) ?_
      exact QRun_done [0, 3, 11] (by kernel_rfl) (by kernel_rfl)
    refine Run_cond (b := decide (s1 < (x2.length : Int))) (by kernel_rfl) (fun hb1 => ?_) (fun hb1 => ?_)
    · have hB1 := (M.ite_some hB1).1 hb1
      refine Run_skip ?_
      refine Run_seq ?_
      refine Run_block ?_
      refine Run_seq ?_
      refine Run_reg 1 (by kernel_rfl) (L' := [(0, .slice aa_ a_.length ca_), (3, .int .i64 s1), (4, .bool false)]) ?_ ?_
      · refine QRun_b [.bool false] 0 _ (by kernel_rfl) (fun w => by kernel_rfl) ?_
        exact QRun_done [0, 3, 4] (by kernel_rfl) (by kernel_rfl)
      refine Run_seq ?_
      refine Run_seq ?_
      refine Run_reg 1 (by kernel_rfl) (L' := [(0, .slice aa_ a_.length ca_), (3, .int .i64 s1), (4, .bool false), (5, .int .i64 0)]) ?_ ?_
      · refine QRun_b [.int .i64 0] 0 _ (by kernel_rfl) (fun w => by kernel_rfl) ?_
        exact QRun_done [0, 3, 4, 5] (by kernel_rfl) (by kernel_rfl)
      obtain ⟨x3, gx3, hB1⟩ := M.bind_some hB1
      obtain ⟨hloy2, hhiy2, gx3⟩ := M.for_start gx3
      refine Run_join (fun L' h' => L' = [(0, .slice aa_ a_.length ca_), (3, .int .i64 s1), (4, .bool x3)] ∧ h = h') ?_ ?_
      · rintro _ _ ⟨rfl, rfl⟩
        refine Run_seq ?_
        refine Run_reg 2 (by kernel_rfl) (L' := [(0, .slice aa_ a_.length ca_), (3, .int .i64 s1), (32, .bool (!x3))]) ?_ ?_
        · refine QRun_b [.bool x3, .bool (!x3)] 0 _ (by kernel_rfl) (fun w => by kernel_rfl) ?_
          exact QRun_done [0, 3, 32] (by kernel_rfl) (by kernel_rfl)
        refine Run_cond (b := !x3) (by kernel_rfl) (fun hb4 => ?_) (fun hb4 => ?_)
        · have hB1 := (M.ite_some hB1).1 hb4
          refine Run_seq ?_
          refine Run_reg 1 (by kernel_rfl) (L' := [(2, .bool false)]) ?_ ?_
          · refine QRun_b [.bool false] 0 _ (by kernel_rfl) (fun w => by kernel_rfl) ?_
            exact QRun_done [2] (by kernel_rfl) (by kernel_rfl)
          have hB1 := M.ret_some hB1
          have gx1 := houty1 _ hB1.symm
          have hF := M.cont_inr' hF gx1
          have hF := M.ret_some hF
          subst hF
          exact Run_ret1 rfl (ResV_tmp (v := .bool false) (by kernel_rfl)) ⟨rfl, rfl⟩
        · have hB1 := (M.ite_some hB1).2 hb4
          refine Run_skip ?_
          refine Run_blk ?_
          refine Run_reg 3 (by kernel_rfl) (L' := [(0, .slice aa_ a_.length ca_), (3, .int .i64 (w64 (s1 + 1)))]) ?_ ?_
          · refine QRun_b [.int .i64 s1, .int .i64 (w64 (s1 + 1)), .int .i64 (w64 (s1 + 1))] 0 _ (by kernel_rfl) (fun w => by kernel_rfl) ?_
            exact QRun_done [0, 3] (by kernel_rfl) (by kernel_rfl)
          have hB1 := M.ret_some hB1
          have gx1 := hgoy1 _ hB1.symm
          exact Run_again [0, 3] (by kernel_rfl) my1 (Nat.lt_succ_self _) ⟨(w64 (s1 + 1)), gx1, rfl, rfl⟩
      · refine Run_block ?_
        refine Run_keep [0, 3, 4, 5] (L' := [(0, .slice aa_ a_.length ca_), (3, .int .i64 s1), (4, .bool false), (5, .int .i64 0)]) (by kernel_rfl) ?_
        refine Run_loop (fun m L' h' => ∃ (i1 : Int) (s3 : Bool), 0 ≤ i1 ∧ M.forN (a_.length : Int) _ _ n m i1 s3 = some x3 ∧ L' = [(0, .slice aa_ a_.length ca_), (3, .int .i64 s1), (4, .bool s3), (5, .int .i64 i1)] ∧ h = h') ((a_.length : Int) - 0 : Int).toNat ⟨0, false, Int.le_refl _, gx3, rfl, rfl⟩ ?_
        rintro my2 _ _ ⟨i1, s3, hloy2', gx3, rfl, rfl⟩
        refine Run_seq ?_
        refine Run_seq ?_
        refine Run_reg 4 (by kernel_rfl) (L' := [(0, .slice aa_ a_.length ca_), (3, .int .i64 s1), (4, .bool s3), (5, .int .i64 i1), (17, .bool (decide (i1 < (a_.length : Int))))]) ?_ ?_
        · refine QRun_b [.int .i64 i1, .slice aa_ a_.length ca_, .int .i64 (a_.length : Int), .bool (decide (i1 < (a_.length : Int)))] 0 _ (by kernel_rfl) (fun w => by kernel_rfl) ?_
          exact QRun_done [0, 3, 4, 5, 17] (by kernel_rfl) (by kernel_rfl)
        refine Run_cond (b := decide (i1 < (a_.length : Int))) (by kernel_rfl) (fun hb2 => ?_) (fun hb2 => ?_)
        · obtain ⟨my2, y2, rfl, hB2, hgoy2, houty2⟩ := M.for_go gx3 hb2
          have hlty2 := of_decide_eq_true hb2
          refine Run_skip ?_
          refine Run_seq ?_
          refine Run_block ?_
          obtain ⟨x4, gx4, hB2⟩ := M.bind_some hB2
          refine Run_reg 12 (by kernel_rfl) (L' := [(0, .slice aa_ a_.length ca_), (3, .int .i64 s1), (4, .bool x4), (5, .int .i64 i1)]) ?_ ?_
          · refine QRun_b [.bool s3] 0 _ (by kernel_rfl) (fun w => by kernel_rfl) ?_
            refine QRun_seq 11 [(0, .slice aa_ a_.length ca_), (3, .int .i64 s1), (4, .bool s3), (5, .int .i64 i1), (30, .bool x4)] ?_ ?_
            · rcases Bool.eq_false_or_eq_true s3 with hb3 | hb3
              · refine QRun_bool s3 true (by kernel_rfl) (fun w => by kernel_rfl) hb3 ?_
                have gx4 := M.ret_some ((M.ite_some gx4).1 hb3)
                refine QRun_n (by kernel_rfl) ?_
                refine QRun_n (by kernel_rfl) ?_
                refine QRun_n (by kernel_rfl) ?_
                refine QRun_n (by kernel_rfl) ?_
                refine QRun_n (by kernel_rfl) ?_
                refine QRun_n (by kernel_rfl) ?_
                refine QRun_n (by kernel_rfl) ?_
                refine QRun_n (by kernel_rfl) ?_
                refine QRun_bool true x4 (by kernel_rfl) (fun w => by kernel_rfl) gx4 ?_
                exact QRun_done [0, 3, 4, 5, 30] (by kernel_rfl) (by kernel_rfl)
              · refine QRun_bool s3 false (by kernel_rfl) (fun w => by kernel_rfl) hb3 ?_
                have gx4 := (M.ite_some gx4).2 hb3
                obtain ⟨x5, hx2, gx4⟩ := M.bind_some gx4
                obtain ⟨hx2l, hx2u, hx2⟩ := M.idx_some hx2
                obtain ⟨a2, c2, hc2, r2⟩ := ra_.row hx2
                obtain ⟨x6, hx3, gx4⟩ := M.bind_some gx4
                obtain ⟨hx3l, hx3u, hx3⟩ := M.idx_some hx3
                have gx4 := M.ret_some gx4
                refine QRun_b [.slice aa_ a_.length ca_, .int .i64 i1] 2 _ (by kernel_rfl) (fun w => by kernel_rfl) ?_
                refine QRun_y (.pointer (some (adr aa_ (i1.toNat * 1)))) (by kernel_rfl) (Y_idx (t := 22) (e := 23) (sz := 1) (a := aa_) (n := a_.length) (cap := ca_) (kk := .i64) (i := i1) (by kernel_rfl) Try.underlying22 (by kernel_rfl) (ra_.cell hx2).1 hx2l hx2u) ?_
                refine QRun_y (.slice a2 x5.length c2) (by kernel_rfl) (Y_load1 (t := 23) (p := adr aa_ (i1.toNat * 1)) (v := .slice a2 x5.length c2) (by kernel_rfl) (fun w => by kernel_rfl) hc2) ?_
                refine QRun_b [.int .i64 s1] 6 _ (by kernel_rfl) (fun w => by kernel_rfl) ?_
                refine QRun_y (.pointer (some (adr a2 (s1.toNat * 1)))) (by kernel_rfl) (Y_idx (t := 23) (e := 2) (sz := 1) (a := a2) (n := x5.length) (cap := c2) (kk := .i64) (i := s1) (by kernel_rfl) Try.underlying23 (by kernel_rfl) (r2.cell hx3).1 hx3l hx3u) ?_
                refine QRun_y (.int .i64 x6) (by kernel_rfl) (Y_load1 (t := 2) (p := adr a2 (s1.toNat * 1)) (v := .int .i64 x6) (by kernel_rfl) (fun w => by kernel_rfl) (cd2_cell r2 hx3)) ?_
                refine QRun_b [.bool (x6 != (-1000000000000000))] 9 _ (by kernel_rfl) (fun w => by kernel_rfl) ?_
                refine QRun_bool (x6 != (-1000000000000000)) x4 (by kernel_rfl) (fun w => by kernel_rfl) gx4 ?_
                exact QRun_done [0, 3, 4, 5, 30] (by kernel_rfl) (by kernel_rfl)
            refine QRun_b [.bool x4] 11 _ (by kernel_rfl) (fun w => by kernel_rfl) ?_
            exact QRun_done [0, 3, 4, 5] (by kernel_rfl) (by kernel_rfl)
          refine Run_blk ?_
          refine Run_reg 3 (by kernel_rfl) (L' := [(0, .slice aa_ a_.length ca_), (3, .int .i64 s1), (4, .bool x4), (5, .int .i64 (i1 + 1))]) ?_ ?_
          · refine QRun_b [.int .i64 i1] 0 _ (by kernel_rfl) (fun w => by kernel_rfl) ?_
            refine QRun_y (.int .i64 (i1 + 1)) (by kernel_rfl) (Y_eq (v := .int .i64 (w64 (i1 + 1))) (Y_pure (fun w => by kernel_rfl)) (by rw [w64_eq _ (by omega)])) ?_
            refine QRun_b [.int .i64 (i1 + 1)] 2 _ (by kernel_rfl) (fun w => by kernel_rfl) ?_
            exact QRun_done [0, 3, 4, 5] (by kernel_rfl) (by kernel_rfl)
          have hB2 := M.ret_some hB2
          have gx3 := hgoy2 _ hB2.symm
          exact Run_again [0, 3, 4, 5] (by kernel_rfl) my2 (Nat.lt_succ_self _) ⟨i1 + 1, x4, by omega, gx3, rfl, rfl⟩
        · have gx3 := M.for_end gx3 hb2
          subst gx3
          refine Run_exit (k' := _) rfl ?_
          exact Run_fall [0, 3, 4] (by kernel_rfl) ⟨rfl, rfl⟩
    · have hB1 := (M.ite_some hB1).2 hb1
      refine Run_exit (k' := _) rfl ?_
      have hB1 := M.ret_some hB1
      have gx1 := houty1 _ hB1.symm
      subst gx1
      exact Run_fall [] (by kernel_rfl) ⟨s1, rfl, rfl, rfl⟩

set_option maxRecDepth 100000 in
set_option maxHeartbeats 4000000 in
theorem w_spec_l02Turn (h : Heap) (a_ : List (List Int)) (aa_ : Option Addr) (ca_ : Nat) (ra_ : Rd cd23 h (Lt h) aa_ ca_ a_) (n : Nat) (r : (List (List Int))) (hF : spec_l02Turn a_ n = some r) :
    Fn Try.prog 71 #[.slice aa_ a_.length ca_] h fun v h' => ∃ (a0 : Option Addr) (c0 : Nat), v = .slice a0 r.length c0 ∧ Hold h h' [own cd23 a0 r.length c0 r] := by
  unfold spec_l02Turn at hF
  refine Fn_enter (args := [.slice aa_ a_.length ca_]) Try.func71 rfl (by kernel_rfl) (by kernel_rfl) (fun w0 _ => ?_)
  have H0 := Hold.init h
  refine Run_seq ?_
  refine Run_reg 1 (by kernel_rfl) (L' := [(0, .slice aa_ a_.length ca_)]) ?_ ?_
  · refine QRun_b [.slice none 0 0] 0 _ (by kernel_rfl) (fun w => by kernel_rfl) ?_
    exact QRun_done [0] (by kernel_rfl) (by kernel_rfl)
  refine Run_seq ?_
  refine Run_ops ?_
  obtain ⟨x1, hx1, hF⟩ := M.bind_some hF
  obtain ⟨hx1l, hx1u, hx1⟩ := M.idx_some hx1
  obtain ⟨a1, c1, hc1, r1⟩ := ra_.row hx1
  refine Run_b [.slice aa_ a_.length ca_] 0 _ (by kernel_rfl) (fun w => by kernel_rfl) ?_
  refine Run_y (.pointer (some (adr aa_ (0 * 1)))) (by kernel_rfl) (Y_idx (t := 22) (e := 23) (sz := 1) (a := aa_) (n := a_.length) (cap := ca_) (kk := .i64) (i := 0) (by kernel_rfl) Try.underlying22 (by kernel_rfl) (ra_.cell hx1).1 hx1l hx1u) ?_
  refine Run_y (.slice a1 x1.length c1) (by kernel_rfl) (Y_load1 (t := 23) (p := adr aa_ (0 * 1)) (v := .slice a1 x1.length c1) (by kernel_rfl) (fun w => by kernel_rfl) hc1) ?_
  refine Run_b [.int .i64 (x1.length : Int), .slice aa_ a_.length ca_, .int .i64 (a_.length : Int)] 3 _ (by kernel_rfl) (fun w => by kernel_rfl) ?_
  obtain ⟨x2, hx2, hF⟩ := M.bind_some hF
  refine Run_E (by kernel_rfl) ?_
  refine E_call (f := 91) (args := #[.int .i64 (x1.length : Int), .int .i64 (a_.length : Int)]) (w_spec_l02Bottom h (x1.length : Int) (a_.length : Int) _ _ hx2) (by kernel_rfl) (fun v1 h1 hp1 => ?_)
  obtain ⟨a2, c2, rfl, H1⟩ := hp1
  have H2 : Hold h h1 [own cd23 a2 x2.length c2 x2] := H0.call H1 rfl
  refine Run_b [.slice a2 x2.length c2] 7 _ (by kernel_rfl) (fun w => by kernel_rfl) ?_
  refine Run_nil (by kernel_rfl) ?_
  refine Run_keep [0, 3] (L' := [(0, .slice aa_ a_.length ca_), (3, .slice a2 x2.length c2)]) (by kernel_rfl) ?_
  refine Run_seq ?_
  refine Run_seq ?_
  refine Run_reg 1 (by kernel_rfl) (L' := [(0, .slice aa_ a_.length ca_), (3, .slice a2 x2.length c2), (4, .int .i64 0)]) ?_ ?_
  · refine QRun_b [.int .i64 0] 0 _ (by kernel_rfl) (fun w => by kernel_rfl) ?_
    exact QRun_done [0, 3, 4] (by kernel_rfl) (by kernel_rfl)
  obtain ⟨x3, gx3, hF⟩ := M.bind_some hF
  obtain ⟨hloy1, hhiy1, gx3⟩ := M.for_start gx3
  refine Run_join (fun L' h' => L' = [(3, .slice a2 x2.length c2)] ∧ Hold h h' [own cd23 a2 x2.length c2 x3]) ?_ ?_
  · rintro _ h3 ⟨rfl, H4⟩
    refine Run_seq ?_
    refine Run_reg 2 (by kernel_rfl) (L' := [(2, .slice a2 x2.length c2)]) ?_ ?_
    · refine QRun_b [.slice a2 x2.length c2, .slice a2 x2.length c2] 0 _ (by kernel_rfl) (fun w => by kernel_rfl) ?_
      exact QRun_done [2] (by kernel_rfl) (by kernel_rfl)
    have hF := M.ret_some hF
    subst hF
    have H13 := H4.norm
    exact Run_ret1 rfl (ResV_tmp (v := .slice a2 x2.length c2) (by kernel_rfl)) ⟨a2, c2, (by simp only [(H4.len 0 rfl)]), H13⟩
  · refine Run_block ?_
    refine Run_keep [0, 3, 4] (L' := [(0, .slice aa_ a_.length ca_), (3, .slice a2 x2.length c2), (4, .int .i64 0)]) (by kernel_rfl) ?_
    refine Run_loop (fun m L' h' => ∃ (i1 : Int) (s1 : (List (List Int))), 0 ≤ i1 ∧ M.forN (a_.length : Int) _ _ n m i1 s1 = some x3 ∧ L' = [(0, .slice aa_ a_.length ca_), (3, .slice a2 x2.length c2), (4, .int .i64 i1)] ∧ Hold h h' [own cd23 a2 x2.length c2 s1]) ((a_.length : Int) - 0 : Int).toNat ⟨0, x2, Int.le_refl _, gx3, rfl, H2⟩ ?_
    rintro my1 _ h2 ⟨i1, s1, hloy1', gx3, rfl, H3⟩
    refine Run_seq ?_
    refine Run_seq ?_
    refine Run_reg 4 (by kernel_rfl) (L' := [(0, .slice aa_ a_.length ca_), (3, .slice a2 x2.length c2), (4, .int .i64 i1), (16, .bool (decide (i1 < (a_.length : Int))))]) ?_ ?_
    · refine QRun_b [.int .i64 i1, .slice aa_ a_.length ca_, .int .i64 (a_.length : Int), .bool (decide (i1 < (a_.length : Int)))] 0 _ (by kernel_rfl) (fun w => by kernel_rfl) ?_
      exact QRun_done [0, 3, 4, 16] (by kernel_rfl) (by kernel_rfl)
    refine Run_cond (b := decide (i1 < (a_.length : Int))) (by kernel_rfl) (fun hb1 => ?_) (fun hb1 => ?_)
    · obtain ⟨my1, y1, rfl, hB1, hgoy1, houty1⟩ := M.for_go gx3 hb1
      have hlty1 := of_decide_eq_true hb1
      refine Run_skip ?_
      refine Run_seq ?_
      refine Run_block ?_
      refine Run_seq ?_
      refine Run_reg 1 (by kernel_rfl) (L' := [(0, .slice aa_ a_.length ca_), (3, .slice a2 x2.length c2), (4, .int .i64 i1), (5, .int .i64 0)]) ?_ ?_
      · refine QRun_b [.int .i64 0] 0 _ (by kernel_rfl) (fun w => by kernel_rfl) ?_
        exact QRun_done [0, 3, 4, 5] (by kernel_rfl) (by kernel_rfl)
      obtain ⟨x4, gx4, hB1⟩ := M.bind_some hB1
      refine Run_join (fun L' h' => L' = [(0, .slice aa_ a_.length ca_), (3, .slice a2 x2.length c2), (4, .int .i64 i1)] ∧ Hold h h' [own cd23 a2 x2.length c2 x4.1]) ?_ ?_
      · rintro _ h5 ⟨rfl, H6⟩
        refine Run_blk ?_
        refine Run_reg 3 (by kernel_rfl) (L' := [(0, .slice aa_ a_.length ca_), (3, .slice a2 x2.length c2), (4, .int .i64 (i1 + 1))]) ?_ ?_
        · refine QRun_b [.int .i64 i1] 0 _ (by kernel_rfl) (fun w => by kernel_rfl) ?_
          refine QRun_y (.int .i64 (i1 + 1)) (by kernel_rfl) (Y_eq (v := .int .i64 (w64 (i1 + 1))) (Y_pure (fun w => by kernel_rfl)) (by rw [w64_eq _ (by omega)])) ?_
          refine QRun_b [.int .i64 (i1 + 1)] 2 _ (by kernel_rfl) (fun w => by kernel_rfl) ?_
          exact QRun_done [0, 3, 4] (by kernel_rfl) (by kernel_rfl)
        have hB1 := M.ret_some hB1
        have gx3 := hgoy1 _ hB1.symm
        exact Run_again [0, 3, 4] (by kernel_rfl) my1 (Nat.lt_succ_self _) ⟨i1 + 1, x4.1, by omega, gx3, rfl, H6⟩
      · refine Run_block ?_
        refine Run_keep [0, 3, 4, 5] (L' := [(0, .slice aa_ a_.length ca_), (3, .slice a2 x2.length c2), (4, .int .i64 i1), (5, .int .i64 0)]) (by kernel_rfl) ?_
        refine Run_loop (fun m L' h' => ∃ (s2 : (List (List Int)) × Int), M.loopN _ n m s2 = some x4 ∧ L' = [(0, .slice aa_ a_.length ca_), (3, .slice a2 x2.length c2), (4, .int .i64 i1), (5, .int .i64 s2.2)] ∧ Hold h h' [own cd23 a2 x2.length c2 s2.1]) n ⟨(s1, 0), gx4, rfl, H3⟩ ?_
        rintro my2 _ h4 ⟨s2, gx4, rfl, H5⟩
        obtain ⟨my2, y2, rfl, hB2, hgoy2, houty2⟩ := M.loop_some gx4
        refine Run_seq ?_
        refine Run_seq ?_
        obtain ⟨x5, hx3, hB2⟩ := M.bind_some hB2
        obtain ⟨hx3l, hx3u, hx3⟩ := M.idx_some hx3
        obtain ⟨a3, c3, hc2, r2⟩ := ra_.row hx3
        refine Run_reg 7 (by kernel_rfl) (L' := [(0, .slice aa_ a_.length ca_), (3, .slice a2 x2.length c2), (4, .int .i64 i1), (5, .int .i64 s2.2), (25, .bool (decide (s2.2 < (x5.length : Int))))]) ?_ ?_
        · refine QRun_b [.int .i64 s2.2, .slice aa_ a_.length ca_, .int .i64 i1] 0 _ (by kernel_rfl) (fun w => by kernel_rfl) ?_
          refine QRun_y (.pointer (some (adr aa_ (i1.toNat * 1)))) (by kernel_rfl) (Y_idx (t := 22) (e := 23) (sz := 1) (a := aa_) (n := a_.length) (cap := ca_) (kk := .i64) (i := i1) (by kernel_rfl) Try.underlying22 (by kernel_rfl) ((ra_.at H5.ext).cell hx3).1 hx3l hx3u) ?_
          refine QRun_y (.slice a3 x5.length c3) (by kernel_rfl) (Y_load1 (t := 23) (p := adr aa_ (i1.toNat * 1)) (v := .slice a3 x5.length c3) (by kernel_rfl) (fun w => by kernel_rfl) (cell_at H5.ext hc2)) ?_
          refine QRun_b [.int .i64 (x5.length : Int), .bool (decide (s2.2 < (x5.length : Int)))] 5 _ (by kernel_rfl) (fun w => by kernel_rfl) ?_
          exact QRun_done [0, 3, 4, 5, 25] (by kernel_rfl) (by kernel_rfl)
        refine Run_cond (b := decide (s2.2 < (x5.length : Int))) (by kernel_rfl) (fun hb2 => ?_) (fun hb2 => ?_)
        · have hB2 := (M.ite_some hB2).1 hb2
          refine Run_skip ?_
          refine Run_seq ?_
          refine Run_block ?_
          obtain ⟨x6, hx4, hB2⟩ := M.bind_some hB2
          obtain ⟨hx4l, hx4u, hx4⟩ := M.idx_some hx4
          have H7 := H5.toRows
          obtain ⟨a4, c4, H8⟩ := H7.pinRow hx4
          obtain ⟨x7, hx5, hB2⟩ := M.bind_some hB2
          obtain ⟨hx5l, hx5u, hx5⟩ := M.idx_some hx5
          obtain ⟨a5, c5, hc3, r3⟩ := ra_.row hx5
          obtain ⟨x8, hx6, hB2⟩ := M.bind_some hB2
          obtain ⟨hx6l, hx6u, hx6⟩ := M.idx_some hx6
          obtain ⟨x9, hx7, hB2⟩ := M.bind_some hB2
          obtain ⟨hx7l, hx7u, hx7⟩ := M.idx_some hx7
          refine Run_D (fun x => Hold h x [rowsP cd2 23 a2 x2.length c2 s2.1 [(s2.2.toNat, a4, x6.length, c4, x6)]]) (fun x => Hold h x [rowsP cd2 23 a2 x2.length c2 s2.1 [(s2.2.toNat, a4, x6.length, c4, x6)]]) mixed (by kernel_rfl) H8 Hold.stable (fun x Hy => (show Hold h x [rowsP cd2 23 a2 x2.length c2 s2.1 [(s2.2.toNat, a4, x6.length, c4, x6)]] from Hy).pick [0] (by kernel_rfl)) ?_
          refine DR_b 12 [.slice a2 x2.length c2, .int .i64 s2.2] 0 (by kernel_rfl) (by kernel_rfl) (by kernel_rfl) (fun w => by kernel_rfl) ?_
          refine DR_y 11 (i := 2) (.pointer (some (adr a2 (s2.2.toNat * 1)))) (by kernel_rfl) (by kernel_rfl) (by kernel_rfl) (fun hx Hx => (YE.of (Y_idx (t := 22) (e := 23) (sz := 1) (a := a2) (n := x2.length) (cap := c2) (kk := .i64) (i := s2.2) (by kernel_rfl) Try.underlying22 (by kernel_rfl) ((H5.rd 0 rfl).cell hx4).1 hx4l (by rw [← (H5.len 0 rfl)]; exact hx4u)))) ?_
          refine DR_y 10 (i := 3) (.slice a4 x6.length c4) (by kernel_rfl) (by kernel_rfl) (by kernel_rfl) (fun hx Hx => (YE.of (Y_load1 (t := 23) (p := adr a2 (s2.2.toNat * 1)) (v := .slice a4 x6.length c4) (by kernel_rfl) (fun w => by kernel_rfl) (Hx.cellPin 0 rfl 0 rfl)))) ?_
          refine DR_b 7 [.int .i64 i1, .slice aa_ a_.length ca_, .int .i64 i1] 4 (by kernel_rfl) (by kernel_rfl) (by kernel_rfl) (fun w => by kernel_rfl) ?_
          refine DR_y 6 (i := 7) (.pointer (some (adr aa_ (i1.toNat * 1)))) (by kernel_rfl) (by kernel_rfl) (by kernel_rfl) (fun hx Hx => (YE.of (Y_idx (t := 22) (e := 23) (sz := 1) (a := aa_) (n := a_.length) (cap := ca_) (kk := .i64) (i := i1) (by kernel_rfl) Try.underlying22 (by kernel_rfl) ((ra_.at H8.ext).cell hx5).1 hx5l hx5u))) ?_
          refine DR_y 5 (i := 8) (.slice a5 x7.length c5) (by kernel_rfl) (by kernel_rfl) (by kernel_rfl) (fun hx Hx => (YE.of (Y_load1 (t := 23) (p := adr aa_ (i1.toNat * 1)) (v := .slice a5 x7.length c5) (by kernel_rfl) (fun w => by kernel_rfl) (cell_at Hx.ext hc3)))) ?_
          refine DR_b 4 [.int .i64 s2.2] 9 (by kernel_rfl) (by kernel_rfl) (by kernel_rfl) (fun w => by kernel_rfl) ?_
          refine DR_y 3 (i := 10) (.pointer (some (adr a5 (s2.2.toNat * 1)))) (by kernel_rfl) (by kernel_rfl) (by kernel_rfl) (fun hx Hx => (YE.of (Y_idx (t := 23) (e := 2) (sz := 1) (a := a5) (n := x7.length) (cap := c5) (kk := .i64) (i := s2.2) (by kernel_rfl) Try.underlying23 (by kernel_rfl) ((r3.at H8.ext).cell hx6).1 hx6l hx6u))) ?_
          refine DR_y 2 (i := 11) (.int .i64 x8) (by kernel_rfl) (by kernel_rfl) (by kernel_rfl) (fun hx Hx => (YE.of (Y_load1 (t := 2) (p := adr a5 (s2.2.toNat * 1)) (v := .int .i64 x8) (by kernel_rfl) (fun w => by kernel_rfl) (cd2_cell (r3.at Hx.ext) hx6)))) ?_
          refine DR_y 1 (i := 12) (.pointer (some (adr a4 (i1.toNat * 1)))) (by kernel_rfl) (by kernel_rfl) (by kernel_rfl) (fun hx Hx => (YE.of (Y_idx (t := 23) (e := 2) (sz := 1) (a := a4) (n := x6.length) (cap := c4) (kk := .i64) (i := i1) (by kernel_rfl) Try.underlying23 (by kernel_rfl) ((H8.rdPin 0 rfl 0 rfl).cell hx7).1 hx7l hx7u))) ?_
          refine DR_tail (i := 13) (by kernel_rfl) (by kernel_rfl) (by kernel_rfl) (fun h6 H9 => ?_)
          have H10 : Hold h h6 [rowsP cd2 23 a2 x2.length c2 s2.1 [(s2.2.toNat, a4, x6.length, c4, x6)]] := H9
          obtain ⟨l1, hu1, hB2⟩ := M.bind_some hB2
          have hu1 := M.upd_some hu1
          refine Run_E (by kernel_rfl) ?_
          refine E_put2 (C := cd2) (t := 2) (sz := 1) (j := i1) (x := x8) (v := .int .i64 x8) (m2 := s2.1.set s2.2.toNat l1) H10 cd2_flat 0 rfl (by kernel_rfl) rfl (cd2_own _) (by kernel_rfl) hu1 rfl (fun h7 H11 => ?_)
          refine Run_nil (by kernel_rfl) ?_
          refine Run_keep [0, 3, 4, 5] (L' := [(0, .slice aa_ a_.length ca_), (3, .slice a2 x2.length c2), (4, .int .i64 i1), (5, .int .i64 s2.2)]) (by kernel_rfl) ?_
          refine Run_blk ?_
          refine Run_reg 3 (by kernel_rfl) (L' := [(0, .slice aa_ a_.length ca_), (3, .slice a2 x2.length c2), (4, .int .i64 i1), (5, .int .i64 (w64 (s2.2 + 1)))]) ?_ ?_
          · refine QRun_b [.int .i64 s2.2, .int .i64 (w64 (s2.2 + 1)), .int .i64 (w64 (s2.2 + 1))] 0 _ (by kernel_rfl) (fun w => by kernel_rfl) ?_
            exact QRun_done [0, 3, 4, 5] (by kernel_rfl) (by kernel_rfl)
          have H12 := H11.ofRows
          have hB2 := M.ret_some hB2
          have gx4 := hgoy2 _ hB2.symm
          exact Run_again [0, 3, 4, 5] (by kernel_rfl) my2 (Nat.lt_succ_self _) ⟨((s2.1.set s2.2.toNat l1), (w64 (s2.2 + 1))), gx4, rfl, H12⟩
        · have hB2 := (M.ite_some hB2).2 hb2
          refine Run_exit (k' := _) rfl ?_
          have hB2 := M.ret_some hB2
          have gx4 := houty2 _ hB2.symm
          subst gx4
          exact Run_fall [0, 3, 4] (by kernel_rfl) ⟨rfl, H5⟩
    · have gx3 := M.for_end gx3 hb1
      subst gx3
      refine Run_exit (k' := _) rfl ?_
      exact Run_fall [3] (by kernel_rfl) ⟨rfl, H3⟩

set_option maxRecDepth 100000 in
set_option maxHeartbeats 4000000 in
theorem w_spec_l08Sub (h : Heap) (a_ : List (List Int)) (aa_ : Option Addr) (ca_ : Nat) (ra_ : Rd cd23 h (Lt h) aa_ ca_ a_) (b : List Int) (ab : Option Addr) (cb : Nat) (rb : Rd cd2 h (Lt h) ab cb b) (n : Nat) (r : (List Int)) (hF : spec_l08Sub a_ b n = some r) :
    Fn Try.prog 60 #[.slice aa_ a_.length ca_, .slice ab b.length cb] h fun v h' => ∃ (a0 : Option Addr) (c0 : Nat), v = .slice a0 r.length c0 ∧ Hold h h' [own cd2 a0 r.length c0 r] := by
  unfold spec_l08Sub at hF
  refine Fn_enter (args := [.slice aa_ a_.length ca_, .slice ab b.length cb]) Try.func60 rfl (by kernel_rfl) (by kernel_rfl) (fun w0 _ => ?_)
  have H0 := Hold.init h
  refine Run_seq ?_
  refine Run_reg 1 (by kernel_rfl) (L' := [(0, .slice aa_ a_.length ca_), (1, .slice ab b.length cb)]) ?_ ?_
  · refine QRun_b [.slice none 0 0] 0 _ (by kernel_rfl) (fun w => by kernel_rfl) ?_
    exact QRun_done [0, 1] (by kernel_rfl) (by kernel_rfl)
  refine Run_seq ?_
  refine Run_ops ?_
  refine Run_E (by kernel_rfl) ?_
  refine E_lit (C := cd2) (n := 0) (l := ([] : List Int)) (cs := []) H0 (fun w => by kernel_rfl) (Enc.nil _ _) rfl (by decide) (fun a1 h1 H1 => ?_)
  refine Run_b [.slice a1 0 0] 1 _ (by kernel_rfl) (fun w => by kernel_rfl) ?_
  refine Run_nil (by kernel_rfl) ?_
  refine Run_keep [0, 1, 5] (L' := [(0, .slice aa_ a_.length ca_), (1, .slice ab b.length cb), (5, .slice a1 0 0)]) (by kernel_rfl) ?_
  refine Run_seq ?_
  refine Run_seq ?_
  refine Run_reg 1 (by kernel_rfl) (L' := [(0, .slice aa_ a_.length ca_), (1, .slice ab b.length cb), (5, .slice a1 0 0), (6, .int .i64 0)]) ?_ ?_
  · refine QRun_b [.int .i64 0] 0 _ (by kernel_rfl) (fun w => by kernel_rfl) ?_
    exact QRun_done [0, 1, 5, 6] (by kernel_rfl) (by kernel_rfl)
  obtain ⟨x1, gx1, hF⟩ := M.bind_some hF
  refine Run_join (fun L' h' => ∃ (a3 : Option Addr) (c2 : Nat), L' = [(5, .slice a3 x1.1.length c2)] ∧ Hold h h' [own cd2 a3 x1.1.length c2 x1.1]) ?_ ?_
  · rintro _ h3 ⟨a3, c2, rfl, H3⟩
    refine Run_seq ?_
    refine Run_reg 2 (by kernel_rfl) (L' := [(4, .slice a3 x1.1.length c2)]) ?_ ?_
    · refine QRun_b [.slice a3 x1.1.length c2, .slice a3 x1.1.length c2] 0 _ (by kernel_rfl) (fun w => by kernel_rfl) ?_
      exact QRun_done [4] (by kernel_rfl) (by kernel_rfl)
    have hF := M.ret_some hF
    subst hF
    exact Run_ret1 rfl (ResV_tmp (v := .slice a3 x1.1.length c2) (by kernel_rfl)) ⟨a3, c2, rfl, H3⟩
  · refine Run_block ?_
    have hn1 := (H1.len 0 rfl)
    have H13 : Hold h h1 [own cd2 a1 (([] : List Int).length) 0 ([] : List Int)] := by rw [hn1]; exact H1
    refine Run_keep [0, 1, 5, 6] (L' := [(0, .slice aa_ a_.length ca_), (1, .slice ab b.length cb), (5, .slice a1 (([] : List Int).length) 0), (6, .int .i64 0)]) (by rw [hn1]; kernel_rfl) ?_
    refine Run_loop (fun m L' h' => ∃ (s1 : (List Int) × Int) (a2 : Option Addr) (c1 : Nat), M.loopN _ n m s1 = some x1 ∧ L' = [(0, .slice aa_ a_.length ca_), (1, .slice ab b.length cb), (5, .slice a2 s1.1.length c1), (6, .int .i64 s1.2)] ∧ Hold h h' [own cd2 a2 s1.1.length c1 s1.1]) n ⟨(([] : List Int), 0), a1, 0, gx1, rfl, H13⟩ ?_
    rintro my1 _ h2 ⟨s1, a2, c1, gx1, rfl, H2⟩
    obtain ⟨my1, y1, rfl, hB1, hgoy1, houty1⟩ := M.loop_some gx1
    refine Run_seq ?_
    refine Run_seq ?_
    obtain ⟨x2, hx1, hB1⟩ := M.bind_some hB1
    obtain ⟨hx1l, hx1u, hx1⟩ := M.idx_some hx1
    obtain ⟨a4, c3, hc1, r1⟩ := ra_.row hx1
    refine Run_reg 6 (by kernel_rfl) (L' := [(0, .slice aa_ a_.length ca_), (1, .slice ab b.length cb), (5, .slice a2 s1.1.length c1), (6, .int .i64 s1.2), (17, .bool (decide (s1.2 < (x2.length : Int))))]) ?_ ?_
    · refine QRun_b [.int .i64 s1.2, .slice aa_ a_.length ca_] 0 _ (by kernel_rfl) (fun w => by kernel_rfl) ?_
      refine QRun_y (.pointer (some (adr aa_ (0 * 1)))) (by kernel_rfl) (Y_idx (t := 22) (e := 23) (sz := 1) (a := aa_) (n := a_.length) (cap := ca_) (kk := .i64) (i := 0) (by kernel_rfl) Try.underlying22 (by kernel_rfl) ((ra_.at H2.ext).cell hx1).1 hx1l hx1u) ?_
      refine QRun_y (.slice a4 x2.length c3) (by kernel_rfl) (Y_load1 (t := 23) (p := adr aa_ (0 * 1)) (v := .slice a4 x2.length c3) (by kernel_rfl) (fun w => by kernel_rfl) (cell_at H2.ext hc1)) ?_
      refine QRun_b [.int .i64 (x2.length : Int), .bool (decide (s1.2 < (x2.length : Int)))] 4 _ (by kernel_rfl) (fun w => by kernel_rfl) ?_
      exact QRun_done [0, 1, 5, 6, 17] (by kernel_rfl) (by kernel_rfl)
    refine Run_cond (b := decide (s1.2 < (x2.length : Int))) (by kernel_rfl) (fun hb1 => ?_) (fun hb1 => ?_)
    · have hB1 := (M.ite_some hB1).1 hb1
      refine Run_skip ?_
      refine Run_seq ?_
      refine Run_block ?_
      refine Run_seq ?_
      refine Run_reg 2 (by kernel_rfl) (L' := [(0, .slice aa_ a_.length ca_), (1, .slice ab b.length cb), (5, .slice a2 s1.1.length c1), (6, .int .i64 s1.2), (7, .int .i64 0), (8, .bool false)]) ?_ ?_
      · refine QRun_b [.int .i64 0, .bool false] 0 _ (by kernel_rfl) (fun w => by kernel_rfl) ?_
        exact QRun_done [0, 1, 5, 6, 7, 8] (by kernel_rfl) (by kernel_rfl)
      refine Run_seq ?_
      refine Run_seq ?_
      refine Run_reg 1 (by kernel_rfl) (L' := [(0, .slice aa_ a_.length ca_), (1, .slice ab b.length cb), (5, .slice a2 s1.1.length c1), (6, .int .i64 s1.2), (7, .int .i64 0), (8, .bool false), (9, .int .i64 0)]) ?_ ?_
      · refine QRun_b [.int .i64 0] 0 _ (by kernel_rfl) (fun w => by kernel_rfl) ?_
        exact QRun_done [0, 1, 5, 6, 7, 8, 9] (by kernel_rfl) (by kernel_rfl)
      obtain ⟨x3, gx3, hB1⟩ := M.bind_some hB1
      obtain ⟨hloy2, hhiy2, gx3⟩ := M.for_start gx3
      refine Run_join (fun L' h' => L' = [(0, .slice aa_ a_.length ca_), (1, .slice ab b.length cb), (5, .slice a2 s1.1.length c1), (6, .int .i64 s1.2), (7, .int .i64 x3.1)] ∧ Hold h h' [own cd2 a2 s1.1.length c1 s1.1]) ?_ ?_
      · rintro _ h5 ⟨rfl, H5⟩
        refine Run_ops ?_
        refine Run_b [.slice a2 s1.1.length c1, .int .i64 x3.1] 0 _ (by kernel_rfl) (fun w => by kernel_rfl) ?_
        refine Run_E (by kernel_rfl) ?_
        refine E_lit (C := cd2) (n := 1) (l := ([x3.1] : List Int)) (cs := [.int .i64 x3.1]) H5 (fun w => by kernel_rfl) (Enc.consE (cd2_own x3.1 _) (Enc.nil _ _) rfl) rfl (by decide) (fun a7 h8 H8 => ?_)
        obtain ⟨l1, hl1, hB1⟩ := M.bind_some hB1
        have hl1 := M.app_some hl1
        have H9 : Hold h h8 [own cd2 a2 s1.1.length c1 s1.1, own cd2 a7 1 1 ([x3.1] : List Int)] := H8.pick [1, 0] (by kernel_rfl)
        have H10 : Hold h h8 [own cd2 a7 1 1 ([x3.1] : List Int), own cd2 a2 s1.1.length c1 s1.1] := H9.pick [1, 0] (by kernel_rfl)
        have H11 : Hold h h8 [own cd2 a2 s1.1.length c1 s1.1, own cd2 a7 1 1 ([x3.1] : List Int)] := H10.pick [1, 0] (by kernel_rfl)
        refine Run_E (by kernel_rfl) ?_
        refine E_app (C := cd2) (t := 23) (ty := 23) (n := s1.1.length) (m := 1) H11 cd2_ti rfl Try.underlying23 (by decide) (by kernel_rfl) hl1 (fun a8 c6 h9 H12 => ?_)
        refine Run_b [.slice a8 l1.length c6] 4 _ (by kernel_rfl) (fun w => by kernel_rfl) ?_
        refine Run_nil (by kernel_rfl) ?_
        refine Run_keep [0, 1, 5, 6] (L' := [(0, .slice aa_ a_.length ca_), (1, .slice ab b.length cb), (5, .slice a8 l1.length c6), (6, .int .i64 s1.2)]) (by kernel_rfl) ?_
        refine Run_blk ?_
        refine Run_reg 3 (by kernel_rfl) (L' := [(0, .slice aa_ a_.length ca_), (1, .slice ab b.length cb), (5, .slice a8 l1.length c6), (6, .int .i64 (w64 (s1.2 + 1)))]) ?_ ?_
        · refine QRun_b [.int .i64 s1.2, .int .i64 (w64 (s1.2 + 1)), .int .i64 (w64 (s1.2 + 1))] 0 _ (by kernel_rfl) (fun w => by kernel_rfl) ?_
          exact QRun_done [0, 1, 5, 6] (by kernel_rfl) (by kernel_rfl)
        have hB1 := M.ret_some hB1
        have gx1 := hgoy1 _ hB1.symm
        exact Run_again [0, 1, 5, 6] (by kernel_rfl) my1 (Nat.lt_succ_self _) ⟨(l1, (w64 (s1.2 + 1))), a8, c6, gx1, rfl, H12⟩
      · refine Run_block ?_
        refine Run_keep [0, 1, 5, 6, 7, 8, 9] (L' := [(0, .slice aa_ a_.length ca_), (1, .slice ab b.length cb), (5, .slice a2 s1.1.length c1), (6, .int .i64 s1.2), (7, .int .i64 0), (8, .bool false), (9, .int .i64 0)]) (by kernel_rfl) ?_
        refine Run_loop (fun m L' h' => ∃ (i1 : Int) (s2 : Int × Bool), 0 ≤ i1 ∧ M.forN (a_.length : Int) _ _ n m i1 s2 = some x3 ∧ L' = [(0, .slice aa_ a_.length ca_), (1, .slice ab b.length cb), (5, .slice a2 s1.1.length c1), (6, .int .i64 s1.2), (7, .int .i64 s2.1), (8, .bool s2.2), (9, .int .i64 i1)] ∧ Hold h h' [own cd2 a2 s1.1.length c1 s1.1]) ((a_.length : Int) - 0 : Int).toNat ⟨0, (0, false), Int.le_refl _, gx3, rfl, H2⟩ ?_
        rintro my2 _ h4 ⟨i1, s2, hloy2', gx3, rfl, H4⟩
        refine Run_seq ?_
        refine Run_seq ?_
        refine Run_reg 4 (by kernel_rfl) (L' := [(0, .slice aa_ a_.length ca_), (1, .slice ab b.length cb), (5, .slice a2 s1.1.length c1), (6, .int .i64 s1.2), (7, .int .i64 s2.1), (8, .bool s2.2), (9, .int .i64 i1), (23, .bool (decide (i1 < (a_.length : Int))))]) ?_ ?_
        · refine QRun_b [.int .i64 i1, .slice aa_ a_.length ca_, .int .i64 (a_.length : Int), .bool (decide (i1 < (a_.length : Int)))] 0 _ (by kernel_rfl) (fun w => by kernel_rfl) ?_
          exact QRun_done [0, 1, 5, 6, 7, 8, 9, 23] (by kernel_rfl) (by kernel_rfl)
        refine Run_cond (b := decide (i1 < (a_.length : Int))) (by kernel_rfl) (fun hb2 => ?_) (fun hb2 => ?_)
        · obtain ⟨my2, y2, rfl, hB2, hgoy2, houty2⟩ := M.for_go gx3 hb2
          have hlty2 := of_decide_eq_true hb2
          refine Run_skip ?_
          refine Run_seq ?_
          obtain ⟨s3, gs3, hB2⟩ := M.bind_some hB2
          refine Run_join (fun L' h' => L' = [(0, .slice aa_ a_.length ca_), (1, .slice ab b.length cb), (5, .slice a2 s1.1.length c1), (6, .int .i64 s1.2), (7, .int .i64 s3.1), (8, .bool s3.2), (9, .int .i64 i1)] ∧ Hold h h' [own cd2 a2 s1.1.length c1 s1.1]) ?_ ?_
          · rintro _ h7 ⟨rfl, H7⟩
            refine Run_reg 3 (by kernel_rfl) (L' := [(0, .slice aa_ a_.length ca_), (1, .slice ab b.length cb), (5, .slice a2 s1.1.length c1), (6, .int .i64 s1.2), (7, .int .i64 s3.1), (8, .bool s3.2), (9, .int .i64 (i1 + 1))]) ?_ ?_
            · refine QRun_b [.int .i64 i1] 0 _ (by kernel_rfl) (fun w => by kernel_rfl) ?_
              refine QRun_y (.int .i64 (i1 + 1)) (by kernel_rfl) (Y_eq (v := .int .i64 (w64 (i1 + 1))) (Y_pure (fun w => by kernel_rfl)) (by rw [w64_eq _ (by omega)])) ?_
              refine QRun_b [.int .i64 (i1 + 1)] 2 _ (by kernel_rfl) (fun w => by kernel_rfl) ?_
              exact QRun_done [0, 1, 5, 6, 7, 8, 9] (by kernel_rfl) (by kernel_rfl)
            have hB2 := M.ret_some hB2
            have gx3 := hgoy2 _ hB2.symm
            exact Run_again [0, 1, 5, 6, 7, 8, 9] (by kernel_rfl) my2 (Nat.lt_succ_self _) ⟨i1 + 1, (s3.1, s3.2), by omega, gx3, rfl, H7⟩
          · refine Run_block ?_
            refine Run_seq ?_
            refine Run_seq ?_
            obtain ⟨x4, hx2, gs3⟩ := M.bind_some gs3
            obtain ⟨hx2l, hx2u, hx2⟩ := M.idx_some hx2
            obtain ⟨a5, c4, hc2, r2⟩ := ra_.row hx2
            obtain ⟨x5, hx3, gs3⟩ := M.bind_some gs3
            obtain ⟨hx3l, hx3u, hx3⟩ := M.idx_some hx3
            refine Run_reg 8 (by kernel_rfl) (L' := [(0, .slice aa_ a_.length ca_), (1, .slice ab b.length cb), (5, .slice a2 s1.1.length c1), (6, .int .i64 s1.2), (7, .int .i64 s2.1), (8, .bool s2.2), (9, .int .i64 i1), (33, .bool (x5 == (-1000000000000000)))]) ?_ ?_
            · refine QRun_b [.slice aa_ a_.length ca_, .int .i64 i1] 0 _ (by kernel_rfl) (fun w => by kernel_rfl) ?_
              refine QRun_y (.pointer (some (adr aa_ (i1.toNat * 1)))) (by kernel_rfl) (Y_idx (t := 22) (e := 23) (sz := 1) (a := aa_) (n := a_.length) (cap := ca_) (kk := .i64) (i := i1) (by kernel_rfl) Try.underlying22 (by kernel_rfl) ((ra_.at H4.ext).cell hx2).1 hx2l hx2u) ?_
              refine QRun_y (.slice a5 x4.length c4) (by kernel_rfl) (Y_load1 (t := 23) (p := adr aa_ (i1.toNat * 1)) (v := .slice a5 x4.length c4) (by kernel_rfl) (fun w => by kernel_rfl) (cell_at H4.ext hc2)) ?_
              refine QRun_b [.int .i64 s1.2] 4 _ (by kernel_rfl) (fun w => by kernel_rfl) ?_
              refine QRun_y (.pointer (some (adr a5 (s1.2.toNat * 1)))) (by kernel_rfl) (Y_idx (t := 23) (e := 2) (sz := 1) (a := a5) (n := x4.length) (cap := c4) (kk := .i64) (i := s1.2) (by kernel_rfl) Try.underlying23 (by kernel_rfl) ((r2.at H4.ext).cell hx3).1 hx3l hx3u) ?_
              refine QRun_y (.int .i64 x5) (by kernel_rfl) (Y_load1 (t := 2) (p := adr a5 (s1.2.toNat * 1)) (v := .int .i64 x5) (by kernel_rfl) (fun w => by kernel_rfl) (cd2_cell (r2.at H4.ext) hx3)) ?_
              refine QRun_b [.bool (x5 == (-1000000000000000))] 7 _ (by kernel_rfl) (fun w => by kernel_rfl) ?_
              exact QRun_done [0, 1, 5, 6, 7, 8, 9, 33] (by kernel_rfl) (by kernel_rfl)
            refine Run_cond (b := x5 == (-1000000000000000)) (by kernel_rfl) (fun hb3 => ?_) (fun hb3 => ?_)
            · have gs3 := (M.ite_some gs3).1 hb3
              refine Run_exit (k' := _) rfl ?_
              have gs3 := M.ret_some gs3
              subst gs3
              exact Run_fall [0, 1, 5, 6, 7, 8, 9] (by kernel_rfl) ⟨rfl, H4⟩
            · have gs3 := (M.ite_some gs3).2 hb3
              refine Run_skip ?_
              refine Run_seq ?_
              refine Run_reg 1 (by kernel_rfl) (L' := [(0, .slice aa_ a_.length ca_), (1, .slice ab b.length cb), (5, .slice a2 s1.1.length c1), (6, .int .i64 s1.2), (7, .int .i64 s2.1), (8, .bool s2.2), (9, .int .i64 i1), (10, .int .i64 (-1000000000000000))]) ?_ ?_
              · refine QRun_b [.int .i64 (-1000000000000000)] 0 _ (by kernel_rfl) (fun w => by kernel_rfl) ?_
                exact QRun_done [0, 1, 5, 6, 7, 8, 9, 10] (by kernel_rfl) (by kernel_rfl)
              refine Run_seq ?_
              refine Run_seq ?_
              obtain ⟨x6, hx4, gs3⟩ := M.bind_some gs3
              obtain ⟨hx4l, hx4u, hx4⟩ := M.idx_some hx4
              refine Run_reg 5 (by kernel_rfl) (L' := [(0, .slice aa_ a_.length ca_), (1, .slice ab b.length cb), (5, .slice a2 s1.1.length c1), (6, .int .i64 s1.2), (7, .int .i64 s2.1), (8, .bool s2.2), (9, .int .i64 i1), (10, .int .i64 (-1000000000000000)), (38, .bool (x6 != (-1000000000000000)))]) ?_ ?_
              · refine QRun_b [.slice ab b.length cb, .int .i64 i1] 0 _ (by kernel_rfl) (fun w => by kernel_rfl) ?_
                refine QRun_y (.pointer (some (adr ab (i1.toNat * 1)))) (by kernel_rfl) (Y_idx (t := 23) (e := 2) (sz := 1) (a := ab) (n := b.length) (cap := cb) (kk := .i64) (i := i1) (by kernel_rfl) Try.underlying23 (by kernel_rfl) ((rb.at H4.ext).cell hx4).1 hx4l hx4u) ?_
                refine QRun_y (.int .i64 x6) (by kernel_rfl) (Y_load1 (t := 2) (p := adr ab (i1.toNat * 1)) (v := .int .i64 x6) (by kernel_rfl) (fun w => by kernel_rfl) (cd2_cell (rb.at H4.ext) hx4)) ?_
                refine QRun_b [.bool (x6 != (-1000000000000000))] 4 _ (by kernel_rfl) (fun w => by kernel_rfl) ?_
                exact QRun_done [0, 1, 5, 6, 7, 8, 9, 10, 38] (by kernel_rfl) (by kernel_rfl)
              obtain ⟨s4, gs4, gs3⟩ := M.bind_some gs3
              refine Run_join (fun L' h' => L' = [(0, .slice aa_ a_.length ca_), (1, .slice ab b.length cb), (5, .slice a2 s1.1.length c1), (6, .int .i64 s1.2), (7, .int .i64 s2.1), (8, .bool s2.2), (9, .int .i64 i1), (10, .int .i64 s4)] ∧ Hold h h' [own cd2 a2 s1.1.length c1 s1.1]) ?_ ?_
              · rintro _ h6 ⟨rfl, H6⟩
                refine Run_seq ?_
                refine Run_reg 7 (by kernel_rfl) (L' := [(0, .slice aa_ a_.length ca_), (1, .slice ab b.length cb), (5, .slice a2 s1.1.length c1), (6, .int .i64 s1.2), (7, .int .i64 s2.1), (8, .bool s2.2), (9, .int .i64 i1), (10, .int .i64 s4), (57, .bool ((!s2.2) || (decide (s4 < s2.1))))]) ?_ ?_
                · refine QRun_b [.bool s2.2, .bool (!s2.2)] 0 _ (by kernel_rfl) (fun w => by kernel_rfl) ?_
                  refine QRun_seq 7 [(0, .slice aa_ a_.length ca_), (1, .slice ab b.length cb), (5, .slice a2 s1.1.length c1), (6, .int .i64 s1.2), (7, .int .i64 s2.1), (8, .bool s2.2), (9, .int .i64 i1), (10, .int .i64 s4), (57, .bool ((!s2.2) || (decide (s4 < s2.1))))] ?_ ?_
                  · rcases Bool.eq_false_or_eq_true (!s2.2) with hb5 | hb5
                    · refine QRun_bool (!s2.2) true (by kernel_rfl) (fun w => by kernel_rfl) hb5 ?_
                      refine QRun_n (by kernel_rfl) ?_
                      refine QRun_n (by kernel_rfl) ?_
                      refine QRun_n (by kernel_rfl) ?_
                      refine QRun_bool true ((!s2.2) || (decide (s4 < s2.1))) (by kernel_rfl) (fun w => by kernel_rfl) (by rw [hb5]; rfl) ?_
                      exact QRun_done [0, 1, 5, 6, 7, 8, 9, 10, 57] (by kernel_rfl) (by kernel_rfl)
                    · refine QRun_bool (!s2.2) false (by kernel_rfl) (fun w => by kernel_rfl) hb5 ?_
                      refine QRun_b [.int .i64 s4, .int .i64 s2.1, .bool (decide (s4 < s2.1))] 3 _ (by kernel_rfl) (fun w => by kernel_rfl) ?_
                      refine QRun_bool (decide (s4 < s2.1)) ((!s2.2) || (decide (s4 < s2.1))) (by kernel_rfl) (fun w => by kernel_rfl) (by rw [hb5]; rfl) ?_
                      exact QRun_done [0, 1, 5, 6, 7, 8, 9, 10, 57] (by kernel_rfl) (by kernel_rfl)
                  exact QRun_done [0, 1, 5, 6, 7, 8, 9, 10, 57] (by kernel_rfl) (by kernel_rfl)
                refine Run_cond (b := (!s2.2) || (decide (s4 < s2.1))) (by kernel_rfl) (fun hb6 => ?_) (fun hb6 => ?_)
                · have gs3 := (M.ite_some gs3).1 hb6
                  refine Run_seq ?_
                  refine Run_reg 2 (by kernel_rfl) (L' := [(0, .slice aa_ a_.length ca_), (1, .slice ab b.length cb), (5, .slice a2 s1.1.length c1), (6, .int .i64 s1.2), (7, .int .i64 s4), (9, .int .i64 i1)]) ?_ ?_
                  · refine QRun_b [.int .i64 s4, .int .i64 s4] 0 _ (by kernel_rfl) (fun w => by kernel_rfl) ?_
                    exact QRun_done [0, 1, 5, 6, 7, 9] (by kernel_rfl) (by kernel_rfl)
                  refine Run_reg 1 (by kernel_rfl) (L' := [(0, .slice aa_ a_.length ca_), (1, .slice ab b.length cb), (5, .slice a2 s1.1.length c1), (6, .int .i64 s1.2), (7, .int .i64 s4), (8, .bool true), (9, .int .i64 i1)]) ?_ ?_
                  · refine QRun_b [.bool true] 0 _ (by kernel_rfl) (fun w => by kernel_rfl) ?_
                    exact QRun_done [0, 1, 5, 6, 7, 8, 9] (by kernel_rfl) (by kernel_rfl)
                  refine Run_blk ?_
                  have gs3 := M.ret_some gs3
                  subst gs3
                  exact Run_fall [0, 1, 5, 6, 7, 8, 9] (by kernel_rfl) ⟨rfl, H6⟩
                · have gs3 := (M.ite_some gs3).2 hb6
                  refine Run_skip ?_
                  refine Run_blk ?_
                  have gs3 := M.ret_some gs3
                  subst gs3
                  exact Run_fall [0, 1, 5, 6, 7, 8, 9] (by kernel_rfl) ⟨rfl, H6⟩
              · refine Run_cond (b := x6 != (-1000000000000000)) (by kernel_rfl) (fun hb4 => ?_) (fun hb4 => ?_)
                · have gs4 := (M.ite_some gs4).1 hb4
                  obtain ⟨x7, hx5, gs4⟩ := M.bind_some gs4
                  obtain ⟨hx5l, hx5u, hx5⟩ := M.idx_some hx5
                  obtain ⟨x8, hx6, gs4⟩ := M.bind_some gs4
                  obtain ⟨hx6l, hx6u, hx6⟩ := M.idx_some hx6
                  obtain ⟨a6, c5, hc3, r3⟩ := ra_.row hx6
                  obtain ⟨x9, hx7, gs4⟩ := M.bind_some gs4
                  obtain ⟨hx7l, hx7u, hx7⟩ := M.idx_some hx7
                  refine Run_draw 13 mixed (by kernel_rfl) (by kernel_rfl) (L' := [(0, .slice aa_ a_.length ca_), (1, .slice ab b.length cb), (5, .slice a2 s1.1.length c1), (6, .int .i64 s1.2), (7, .int .i64 s2.1), (8, .bool s2.2), (9, .int .i64 i1), (10, .int .i64 (w64 (x7 - x9)))]) ?_ ?_
                  · refine QRun_b [.slice ab b.length cb, .int .i64 i1] 0 _ (by kernel_rfl) (fun w => by kernel_rfl) ?_
                    refine QRun_y (.pointer (some (adr ab (i1.toNat * 1)))) (by kernel_rfl) (Y_idx (t := 23) (e := 2) (sz := 1) (a := ab) (n := b.length) (cap := cb) (kk := .i64) (i := i1) (by kernel_rfl) Try.underlying23 (by kernel_rfl) ((rb.at H4.ext).cell hx5).1 hx5l hx5u) ?_
                    refine QRun_y (.int .i64 x7) (by kernel_rfl) (Y_load1 (t := 2) (p := adr ab (i1.toNat * 1)) (v := .int .i64 x7) (by kernel_rfl) (fun w => by kernel_rfl) (cd2_cell (rb.at H4.ext) hx5)) ?_
                    refine QRun_b [.slice aa_ a_.length ca_, .int .i64 i1] 4 _ (by kernel_rfl) (fun w => by kernel_rfl) ?_
                    refine QRun_y (.pointer (some (adr aa_ (i1.toNat * 1)))) (by kernel_rfl) (Y_idx (t := 22) (e := 23) (sz := 1) (a := aa_) (n := a_.length) (cap := ca_) (kk := .i64) (i := i1) (by kernel_rfl) Try.underlying22 (by kernel_rfl) ((ra_.at H4.ext).cell hx6).1 hx6l hx6u) ?_
                    refine QRun_y (.slice a6 x8.length c5) (by kernel_rfl) (Y_load1 (t := 23) (p := adr aa_ (i1.toNat * 1)) (v := .slice a6 x8.length c5) (by kernel_rfl) (fun w => by kernel_rfl) (cell_at H4.ext hc3)) ?_
                    refine QRun_b [.int .i64 s1.2] 8 _ (by kernel_rfl) (fun w => by kernel_rfl) ?_
                    refine QRun_y (.pointer (some (adr a6 (s1.2.toNat * 1)))) (by kernel_rfl) (Y_idx (t := 23) (e := 2) (sz := 1) (a := a6) (n := x8.length) (cap := c5) (kk := .i64) (i := s1.2) (by kernel_rfl) Try.underlying23 (by kernel_rfl) ((r3.at H4.ext).cell hx7).1 hx7l hx7u) ?_
                    refine QRun_y (.int .i64 x9) (by kernel_rfl) (Y_load1 (t := 2) (p := adr a6 (s1.2.toNat * 1)) (v := .int .i64 x9) (by kernel_rfl) (fun w => by kernel_rfl) (cd2_cell (r3.at H4.ext) hx7)) ?_
                    refine QRun_b [.int .i64 (w64 (x7 - x9)), .int .i64 (w64 (x7 - x9))] 11 _ (by kernel_rfl) (fun w => by kernel_rfl) ?_
                    exact QRun_done [0, 1, 5, 6, 7, 8, 9, 10] (by kernel_rfl) (by kernel_rfl)
                  have gs4 := M.ret_some gs4
                  subst gs4
                  exact Run_fall [0, 1, 5, 6, 7, 8, 9, 10] (by kernel_rfl) ⟨rfl, H4⟩
                · have gs4 := (M.ite_some gs4).2 hb4
                  refine Run_skip ?_
                  have gs4 := M.ret_some gs4
                  subst gs4
                  exact Run_fall [0, 1, 5, 6, 7, 8, 9, 10] (by kernel_rfl) ⟨rfl, H4⟩
        · have gx3 := M.for_end gx3 hb2
          subst gx3
          refine Run_exit (k' := _) rfl ?_
          exact Run_fall [0, 1, 5, 6, 7] (by kernel_rfl) ⟨rfl, H4⟩
    · have hB1 := (M.ite_some hB1).2 hb1
      refine Run_exit (k' := _) rfl ?_
      have hB1 := M.ret_some hB1
      have gx1 := houty1 _ hB1.symm
      subst gx1
      exact Run_fall [5] (by kernel_rfl) ⟨a2, c1, rfl, H2⟩

set_option maxRecDepth 100000 in
set_option maxHeartbeats 4000000 in
theorem w_spec_l03Result (h : Heap) (a_ : List (List Int)) (aa_ : Option Addr) (ca_ : Nat) (ra_ : Rd cd23 h (Lt h) aa_ ca_ a_) (n : Nat) (r : (List (List Int)) × Int) (hF : spec_l03Result a_ n = some r) :
    Fn Try.prog 72 #[.slice aa_ a_.length ca_] h fun v h' => ∃ (a0 : Option Addr) (c0 : Nat), v = .tuple #[.slice a0 r.1.length c0, .int .i64 r.2] ∧ Ali a0 aa_ c0 ca_ r.1 a_ ∧ Hold h h' [] := by
  unfold spec_l03Result at hF
  refine Fn_enter (args := [.slice aa_ a_.length ca_]) Try.func72 rfl (by kernel_rfl) (by kernel_rfl) (fun w0 _ => ?_)
  have H0 := Hold.init h
  refine Run_seq ?_
  refine Run_reg 2 (by kernel_rfl) (L' := [(0, .slice aa_ a_.length ca_)]) ?_ ?_
  · refine QRun_b [.slice none 0 0, .int .i64 0] 0 _ (by kernel_rfl) (fun w => by kernel_rfl) ?_
    exact QRun_done [0] (by kernel_rfl) (by kernel_rfl)
  refine Run_seq ?_
  refine Run_seq ?_
  obtain ⟨x1, hx1, hF⟩ := M.bind_some hF
  refine Run_reg 3 (by kernel_rfl) (L' := [(0, .slice aa_ a_.length ca_), (6, .bool (!x1))]) ?_ ?_
  · refine QRun_b [.slice aa_ a_.length ca_] 0 _ (by kernel_rfl) (fun w => by kernel_rfl) ?_
    refine QRun_y (.bool x1) (by kernel_rfl) (Y_callq (f := 69) (args := #[.slice aa_ a_.length ca_]) (v := .bool x1) (by kernel_rfl) (w_spec_IsMatrix h a_ aa_ ca_ ra_ _ _ hx1)) ?_
    refine QRun_b [.bool (!x1)] 2 _ (by kernel_rfl) (fun w => by kernel_rfl) ?_
    exact QRun_done [0, 6] (by kernel_rfl) (by kernel_rfl)
  refine Run_cond (b := !x1) (by kernel_rfl) (fun hb1 => ?_) (fun hb1 => ?_)
  · have hF := (M.ite_some hF).1 hb1
    refine Run_seq ?_
    refine Run_reg 2 (by kernel_rfl) (L' := [(2, .slice none 0 0), (3, .int .i64 3)]) ?_ ?_
    · refine QRun_b [.slice none 0 0, .int .i64 3] 0 _ (by kernel_rfl) (fun w => by kernel_rfl) ?_
      exact QRun_done [2, 3] (by kernel_rfl) (by kernel_rfl)
    have hF := M.ret_some hF
    subst hF
    exact Run_ret2 rfl (ResV_tmp (v := .slice none 0 0) (by kernel_rfl)) (ResV_tmp (v := .int .i64 3) (by kernel_rfl)) ⟨none, 0, rfl, .inr ⟨rfl, rfl, rfl⟩, H0⟩
  · have hF := (M.ite_some hF).2 hb1
    refine Run_skip ?_
    refine Run_seq ?_
    refine Run_reg 3 (by kernel_rfl) (L' := [(2, .slice aa_ a_.length ca_), (3, .int .i64 0)]) ?_ ?_
    · refine QRun_b [.slice aa_ a_.length ca_, .slice aa_ a_.length ca_, .int .i64 0] 0 _ (by kernel_rfl) (fun w => by kernel_rfl) ?_
      exact QRun_done [2, 3] (by kernel_rfl) (by kernel_rfl)
    have hF := M.ret_some hF
    subst hF
    exact Run_ret2 rfl (ResV_tmp (v := .slice aa_ a_.length ca_) (by kernel_rfl)) (ResV_tmp (v := .int .i64 0) (by kernel_rfl)) ⟨aa_, ca_, rfl, .inl ⟨rfl, rfl, rfl⟩, H0⟩

set_option maxRecDepth 100000 in
set_option maxHeartbeats 4000000 in
theorem w_spec_LeftQuotient (h : Heap) (a_ : List (List Int)) (aa_ : Option Addr) (ca_ : Nat) (ra_ : Rd cd23 h (Lt h) aa_ ca_ a_) (b : List (List Int)) (ab : Option Addr) (cb : Nat) (rb : Rd cd23 h (Lt h) ab cb b) (n : Nat) (r : (List (List Int)) × Int) (hF : spec_LeftQuotient a_ b n = some r) :
    Fn Try.prog 33 #[.slice aa_ a_.length ca_, .slice ab b.length cb] h fun v h' => ∃ (a0 : Option Addr) (c0 : Nat), v = .tuple #[.slice a0 r.1.length c0, .int .i64 r.2] ∧ Hold h h' [own cd23 a0 r.1.length c0 r.1] := by
  unfold spec_LeftQuotient at hF
  refine Fn_enter (args := [.slice aa_ a_.length ca_, .slice ab b.length cb]) Try.func33 rfl (by kernel_rfl) (by kernel_rfl) (fun w0 _ => ?_)
  have H0 := Hold.init h
  refine Run_seq ?_
  refine Run_reg 2 (by kernel_rfl) (L' := [(0, .slice aa_ a_.length ca_), (1, .slice ab b.length cb)]) ?_ ?_
  · refine QRun_b [.slice none 0 0, .int .i64 0] 0 _ (by kernel_rfl) (fun w => by kernel_rfl) ?_
    exact QRun_done [0, 1] (by kernel_rfl) (by kernel_rfl)
  refine Run_seq ?_
  refine Run_block ?_
  refine Run_seq ?_
  obtain ⟨x1, hx1, hF⟩ := M.bind_some hF
  obtain ⟨x2, gx2, hF⟩ := M.bind_some hF
  refine Run_reg 9 (by kernel_rfl) (L' := [(0, .slice aa_ a_.length ca_), (1, .slice ab b.length cb), (9, .bool x2)]) ?_ ?_
  · refine QRun_b [.slice aa_ a_.length ca_] 0 _ (by kernel_rfl) (fun w => by kernel_rfl) ?_
    refine QRun_y (.bool x1) (by kernel_rfl) (Y_callq (f := 69) (args := #[.slice aa_ a_.length ca_]) (v := .bool x1) (by kernel_rfl) (w_spec_IsMatrix h a_ aa_ ca_ ra_ _ _ hx1)) ?_
    refine QRun_b [.bool (!x1)] 2 _ (by kernel_rfl) (fun w => by kernel_rfl) ?_
    refine QRun_seq 8 [(0, .slice aa_ a_.length ca_), (1, .slice ab b.length cb), (17, .bool x2)] ?_ ?_
    · rcases Bool.eq_false_or_eq_true (!x1) with hb1 | hb1
      · refine QRun_bool (!x1) true (by kernel_rfl) (fun w => by kernel_rfl) hb1 ?_
        have gx2 := M.ret_some ((M.ite_some gx2).1 hb1)
        refine QRun_n (by kernel_rfl) ?_
        refine QRun_n (by kernel_rfl) ?_
        refine QRun_n (by kernel_rfl) ?_
        refine QRun_bool true x2 (by kernel_rfl) (fun w => by kernel_rfl) gx2 ?_
        exact QRun_done [0, 1, 17] (by kernel_rfl) (by kernel_rfl)
      · refine QRun_bool (!x1) false (by kernel_rfl) (fun w => by kernel_rfl) hb1 ?_
        have gx2 := (M.ite_some gx2).2 hb1
        obtain ⟨x3, hx2, gx2⟩ := M.bind_some gx2
        have gx2 := M.ret_some gx2
        refine QRun_b [.slice ab b.length cb] 4 _ (by kernel_rfl) (fun w => by kernel_rfl) ?_
        refine QRun_y (.bool x3) (by kernel_rfl) (Y_callq (f := 69) (args := #[.slice ab b.length cb]) (v := .bool x3) (by kernel_rfl) (w_spec_IsMatrix h b ab cb rb _ _ hx2)) ?_
        refine QRun_b [.bool (!x3)] 6 _ (by kernel_rfl) (fun w => by kernel_rfl) ?_
        refine QRun_bool (!x3) x2 (by kernel_rfl) (fun w => by kernel_rfl) gx2 ?_
        exact QRun_done [0, 1, 17] (by kernel_rfl) (by kernel_rfl)
    refine QRun_b [.bool x2] 8 _ (by kernel_rfl) (fun w => by kernel_rfl) ?_
    exact QRun_done [0, 1, 9] (by kernel_rfl) (by kernel_rfl)
  refine Run_cond (b := x2) (by kernel_rfl) (fun hb2 => ?_) (fun hb2 => ?_)
  · have hF := (M.ite_some hF).1 hb2
    refine Run_seq ?_
    refine Run_reg 2 (by kernel_rfl) (L' := [(4, .slice none 0 0), (5, .int .i64 1)]) ?_ ?_
    · refine QRun_b [.slice none 0 0, .int .i64 1] 0 _ (by kernel_rfl) (fun w => by kernel_rfl) ?_
      exact QRun_done [4, 5] (by kernel_rfl) (by kernel_rfl)
    have hF := M.ret_some hF
    subst hF
    have H1 := H0.empty cd23
    exact Run_ret2 rfl (ResV_tmp (v := .slice none 0 0) (by kernel_rfl)) (ResV_tmp (v := .int .i64 1) (by kernel_rfl)) ⟨none, 0, rfl, H1⟩
  · have hF := (M.ite_some hF).2 hb2
    refine Run_seq ?_
    obtain ⟨x4, gx4, hF⟩ := M.bind_some hF
    refine Run_reg 11 (by kernel_rfl) (L' := [(0, .slice aa_ a_.length ca_), (1, .slice ab b.length cb), (18, .bool x4)]) ?_ ?_
    · refine QRun_b [.slice aa_ a_.length ca_, .int .i64 (a_.length : Int), .slice ab b.length cb, .int .i64 (b.length : Int), .bool ((a_.length : Int) != (b.length : Int))] 0 _ (by kernel_rfl) (fun w => by kernel_rfl) ?_
      refine QRun_seq 10 [(0, .slice aa_ a_.length ca_), (1, .slice ab b.length cb), (28, .bool x4)] ?_ ?_
      · rcases Bool.eq_false_or_eq_true ((a_.length : Int) != (b.length : Int)) with hb3 | hb3
        · refine QRun_bool ((a_.length : Int) != (b.length : Int)) true (by kernel_rfl) (fun w => by kernel_rfl) hb3 ?_
          have gx4 := M.ret_some ((M.ite_some gx4).1 hb3)
          refine QRun_n (by kernel_rfl) ?_
          refine QRun_n (by kernel_rfl) ?_
          refine QRun_n (by kernel_rfl) ?_
          refine QRun_bool true x4 (by kernel_rfl) (fun w => by kernel_rfl) gx4 ?_
          exact QRun_done [0, 1, 28] (by kernel_rfl) (by kernel_rfl)
        · refine QRun_bool ((a_.length : Int) != (b.length : Int)) false (by kernel_rfl) (fun w => by kernel_rfl) hb3 ?_
          have gx4 := (M.ite_some gx4).2 hb3
          obtain ⟨x5, hx3, gx4⟩ := M.bind_some gx4
          have gx4 := M.ret_some gx4
          refine QRun_b [.slice aa_ a_.length ca_] 6 _ (by kernel_rfl) (fun w => by kernel_rfl) ?_
          refine QRun_y (.bool x5) (by kernel_rfl) (Y_callq (f := 70) (args := #[.slice aa_ a_.length ca_]) (v := .bool x5) (by kernel_rfl) (w_spec_l08Fits h a_ aa_ ca_ ra_ _ _ hx3)) ?_
          refine QRun_b [.bool (!x5)] 8 _ (by kernel_rfl) (fun w => by kernel_rfl) ?_
          refine QRun_bool (!x5) x4 (by kernel_rfl) (fun w => by kernel_rfl) gx4 ?_
          exact QRun_done [0, 1, 28] (by kernel_rfl) (by kernel_rfl)
      refine QRun_b [.bool x4] 10 _ (by kernel_rfl) (fun w => by kernel_rfl) ?_
      exact QRun_done [0, 1, 18] (by kernel_rfl) (by kernel_rfl)
    refine Run_cond (b := x4) (by kernel_rfl) (fun hb4 => ?_) (fun hb4 => ?_)
    · have hF := (M.ite_some hF).1 hb4
      refine Run_seq ?_
      refine Run_reg 2 (by kernel_rfl) (L' := [(4, .slice none 0 0), (5, .int .i64 5)]) ?_ ?_
      · refine QRun_b [.slice none 0 0, .int .i64 5] 0 _ (by kernel_rfl) (fun w => by kernel_rfl) ?_
        exact QRun_done [4, 5] (by kernel_rfl) (by kernel_rfl)
      have hF := M.ret_some hF
      subst hF
      have H2 := H0.empty cd23
      exact Run_ret2 rfl (ResV_tmp (v := .slice none 0 0) (by kernel_rfl)) (ResV_tmp (v := .int .i64 5) (by kernel_rfl)) ⟨none, 0, rfl, H2⟩
    · have hF := (M.ite_some hF).2 hb4
      refine Run_skip ?_
      refine Run_blk ?_
      refine Run_seq ?_
      refine Run_ops ?_
      refine Run_b [.slice ab b.length cb] 0 _ (by kernel_rfl) (fun w => by kernel_rfl) ?_
      obtain ⟨x6, hx4, hF⟩ := M.bind_some hF
      refine Run_E (by kernel_rfl) ?_
      refine E_call (f := 71) (args := #[.slice ab b.length cb]) (w_spec_l02Turn h b ab cb rb _ _ hx4) (by kernel_rfl) (fun v1 h1 hp1 => ?_)
      obtain ⟨a1, c1, rfl, H3⟩ := hp1
      have H4 : Hold h h1 [own cd23 a1 x6.length c1 x6] := H0.call H3 rfl
      refine Run_b [.slice a1 x6.length c1] 2 _ (by kernel_rfl) (fun w => by kernel_rfl) ?_
      refine Run_nil (by kernel_rfl) ?_
      refine Run_keep [0, 6] (L' := [(0, .slice aa_ a_.length ca_), (6, .slice a1 x6.length c1)]) (by kernel_rfl) ?_
      refine Run_seq ?_
      refine Run_ops ?_
      refine Run_E (by kernel_rfl) ?_
      refine E_lit (C := cd23) (n := 0) (l := []) (cs := []) H4 (fun w => by kernel_rfl) (Enc.nil _ _) rfl (by decide) (fun a2 h2 H5 => ?_)
      refine Run_b [.slice a2 0 0] 1 _ (by kernel_rfl) (fun w => by kernel_rfl) ?_
      refine Run_nil (by kernel_rfl) ?_
      refine Run_keep [0, 6, 7] (L' := [(0, .slice aa_ a_.length ca_), (6, .slice a1 x6.length c1), (7, .slice a2 0 0)]) (by kernel_rfl) ?_
      refine Run_seq ?_
      refine Run_seq ?_
      refine Run_reg 1 (by kernel_rfl) (L' := [(0, .slice aa_ a_.length ca_), (6, .slice a1 x6.length c1), (7, .slice a2 0 0), (8, .int .i64 0)]) ?_ ?_
      · refine QRun_b [.int .i64 0] 0 _ (by kernel_rfl) (fun w => by kernel_rfl) ?_
        exact QRun_done [0, 6, 7, 8] (by kernel_rfl) (by kernel_rfl)
      obtain ⟨x7, gx7, hF⟩ := M.bind_some hF
      obtain ⟨hloy1, hhiy1, gx7⟩ := M.for_start gx7
      refine Run_join (fun L' h' => ∃ (a4 : Option Addr) (c3 : Nat), L' = [(7, .slice a4 x7.length c3)] ∧ Hold h h' [own cd23 a4 x7.length c3 x7]) ?_ ?_
      · rintro _ h4 ⟨a4, c3, rfl, H7⟩
        refine Run_seq ?_
        refine Run_ops ?_
        refine Run_b [.slice a4 x7.length c3] 0 _ (by kernel_rfl) (fun w => by kernel_rfl) ?_
        obtain ⟨x10, hx7, hF⟩ := M.bind_some hF
        refine Run_E (by kernel_rfl) ?_
        refine E_call (f := 71) (args := #[.slice a4 x7.length c3]) (w_spec_l02Turn h4 x7 a4 c3 (H7.rd 0 rfl) _ _ hx7) (by kernel_rfl) (fun v3 h8 hp3 => ?_)
        obtain ⟨a9, c7, rfl, H23⟩ := hp3
        have H24 : Hold h h8 [own cd23 a9 x10.length c7 x10, own cd23 a4 x7.length c3 x7] := H7.call H23 rfl
        obtain ⟨x11, hx8, hF⟩ := M.bind_some hF
        refine Run_E (by kernel_rfl) ?_
        refine E_call (f := 72) (args := #[.slice a9 x10.length c7]) (w_spec_l03Result h8 x10 a9 c7 (H24.rd 0 rfl) _ _ hx8) (by kernel_rfl) (fun v4 h9 hp4 => ?_)
        obtain ⟨a10, c8, rfl, hd1, H25⟩ := hp4
        have H26 : Hold h h9 [own cd23 a9 x10.length c7 x10, own cd23 a4 x7.length c3 x7] := H24.call H25 rfl
        have H27 := H26.alias hd1
        refine Run_b [.slice a10 x11.1.length c8, .int .i64 x11.2, .slice a10 x11.1.length c8, .int .i64 x11.2] 3 _ (by kernel_rfl) (fun w => by kernel_rfl) ?_
        refine Run_nil (by kernel_rfl) ?_
        refine Run_keep [4, 5] (L' := [(4, .slice a10 x11.1.length c8), (5, .int .i64 x11.2)]) (by kernel_rfl) ?_
        have hF := M.ret_some hF
        subst hF
        have H28 : Hold h h9 [own cd23 a10 x11.1.length c8 x11.1] := H27.pick [0] (by kernel_rfl)
        exact Run_ret2 rfl (ResV_tmp (v := .slice a10 x11.1.length c8) (by kernel_rfl)) (ResV_tmp (v := .int .i64 x11.2) (by kernel_rfl)) ⟨a10, c8, rfl, H28⟩
      · refine Run_block ?_
        have hn1 := (H5.len 0 rfl)
        have H29 : Hold h h2 [own cd23 a2 (([] : List (List Int)).length) 0 ([] : List (List Int)), own cd23 a1 x6.length c1 x6] := by rw [hn1]; exact H5
        have H30 : Hold h h2 [own cd23 a1 x6.length c1 x6, own cd23 a2 (([] : List (List Int)).length) 0 ([] : List (List Int))] := H29.pick [1, 0] (by kernel_rfl)
        refine Run_keep [0, 6, 7, 8] (L' := [(0, .slice aa_ a_.length ca_), (6, .slice a1 x6.length c1), (7, .slice a2 (([] : List (List Int)).length) 0), (8, .int .i64 0)]) (by rw [hn1]; kernel_rfl) ?_
        refine Run_loop (fun m L' h' => ∃ (i1 : Int) (s1 : (List (List Int))) (a3 : Option Addr) (c2 : Nat), 0 ≤ i1 ∧ M.forN (x6.length : Int) _ _ n m i1 s1 = some x7 ∧ L' = [(0, .slice aa_ a_.length ca_), (6, .slice a1 x6.length c1), (7, .slice a3 s1.length c2), (8, .int .i64 i1)] ∧ Hold h h' [own cd23 a1 x6.length c1 x6, own cd23 a3 s1.length c2 s1]) ((x6.length : Int) - 0 : Int).toNat ⟨0, ([] : List (List Int)), a2, 0, Int.le_refl _, gx7, rfl, H30⟩ ?_
        rintro my1 _ h3 ⟨i1, s1, a3, c2, hloy1', gx7, rfl, H6⟩
        refine Run_seq ?_
        refine Run_seq ?_
        refine Run_reg 4 (by kernel_rfl) (L' := [(0, .slice aa_ a_.length ca_), (6, .slice a1 x6.length c1), (7, .slice a3 s1.length c2), (8, .int .i64 i1), (35, .bool (decide (i1 < (x6.length : Int))))]) ?_ ?_
        · refine QRun_b [.int .i64 i1, .slice a1 x6.length c1, .int .i64 (x6.length : Int), .bool (decide (i1 < (x6.length : Int)))] 0 _ (by kernel_rfl) (fun w => by kernel_rfl) ?_
          exact QRun_done [0, 6, 7, 8, 35] (by kernel_rfl) (by kernel_rfl)
        refine Run_cond (b := decide (i1 < (x6.length : Int))) (by kernel_rfl) (fun hb5 => ?_) (fun hb5 => ?_)
        · obtain ⟨my1, y1, rfl, hB1, hgoy1, houty1⟩ := M.for_go gx7 hb5
          have hlty1 := of_decide_eq_true hb5
          refine Run_skip ?_
          refine Run_seq ?_
          refine Run_block ?_
          refine Run_ops ?_
          obtain ⟨x8, hx5, hB1⟩ := M.bind_some hB1
          obtain ⟨hx5l, hx5u, hx5⟩ := M.idx_some hx5
          have H8 := H6.toRows
          obtain ⟨a5, c4, H9⟩ := H8.pinRow hx5
          refine Run_b [.slice a3 s1.length c2, .slice aa_ a_.length ca_, .slice a1 x6.length c1, .int .i64 i1] 0 _ (by kernel_rfl) (fun w => by kernel_rfl) ?_
          refine Run_y (.pointer (some (adr a1 (i1.toNat * 1)))) (by kernel_rfl) (Y_idx (t := 22) (e := 23) (sz := 1) (a := a1) (n := x6.length) (cap := c1) (kk := .i64) (i := i1) (by kernel_rfl) Try.underlying22 (by kernel_rfl) ((H6.rd 0 rfl).cell hx5).1 hx5l hx5u) ?_
          refine Run_y (.slice a5 x8.length c4) (by kernel_rfl) (Y_load1 (t := 23) (p := adr a1 (i1.toNat * 1)) (v := .slice a5 x8.length c4) (by kernel_rfl) (fun w => by kernel_rfl) (H9.cellPin 0 rfl 0 rfl)) ?_
          obtain ⟨x9, hx6, hB1⟩ := M.bind_some hB1
          refine Run_E (by kernel_rfl) ?_
          refine E_call (f := 60) (args := #[.slice aa_ a_.length ca_, .slice a5 x8.length c4]) (w_spec_l08Sub h3 a_ aa_ ca_ (ra_.at H9.ext) x8 a5 c4 (H9.rdPin 0 rfl 0 rfl) _ _ hx6) (by kernel_rfl) (fun v2 h5 hp2 => ?_)
          obtain ⟨a6, c5, rfl, H10⟩ := hp2
          have H11 : Hold h h5 [own cd2 a6 x9.length c5 x9, rowsP cd2 23 a1 x6.length c1 x6 [(i1.toNat, a5, x8.length, c4, x8)], own cd23 a3 s1.length c2 s1] := H9.call H10 rfl
          refine Run_E (by kernel_rfl) ?_
          refine E_lit1 (ey := 23) (n := x9.length) H11 (fun w => by kernel_rfl) rfl (fun a7 h6 H12 => ?_)
          obtain ⟨l1, hl1, hB1⟩ := M.bind_some hB1
          have hl1 := M.app_some hl1
          have H13 : Hold h h6 [own cd23 a3 s1.length c2 s1, own cd23 a7 1 1 [x9], rowsP cd2 23 a1 x6.length c1 x6 [(i1.toNat, a5, x8.length, c4, x8)]] := H12.pick [2, 0, 1] (by kernel_rfl)
          have H14 : Hold h h6 [own cd23 a7 1 1 [x9], own cd23 a3 s1.length c2 s1, rowsP cd2 23 a1 x6.length c1 x6 [(i1.toNat, a5, x8.length, c4, x8)]] := H13.pick [1, 0, 2] (by kernel_rfl)
          have H15 : Hold h h6 [own cd23 a3 s1.length c2 s1, own cd23 a7 1 1 [x9], rowsP cd2 23 a1 x6.length c1 x6 [(i1.toNat, a5, x8.length, c4, x8)]] := H14.pick [1, 0, 2] (by kernel_rfl)
          refine Run_E (by kernel_rfl) ?_
          refine E_app (C := cd23) (t := 22) (ty := 22) (n := s1.length) (m := 1) H15 cd23_ti rfl Try.underlying22 (by decide) (by kernel_rfl) hl1 (fun a8 c6 h7 H16 => ?_)
          refine Run_b [.slice a8 l1.length c6] 9 _ (by kernel_rfl) (fun w => by kernel_rfl) ?_
          refine Run_nil (by kernel_rfl) ?_
          refine Run_keep [0, 6, 7, 8] (L' := [(0, .slice aa_ a_.length ca_), (6, .slice a1 x6.length c1), (7, .slice a8 l1.length c6), (8, .int .i64 i1)]) (by kernel_rfl) ?_
          refine Run_blk ?_
          refine Run_reg 3 (by kernel_rfl) (L' := [(0, .slice aa_ a_.length ca_), (6, .slice a1 x6.length c1), (7, .slice a8 l1.length c6), (8, .int .i64 (i1 + 1))]) ?_ ?_
          · refine QRun_b [.int .i64 i1] 0 _ (by kernel_rfl) (fun w => by kernel_rfl) ?_
            refine QRun_y (.int .i64 (i1 + 1)) (by kernel_rfl) (Y_eq (v := .int .i64 (w64 (i1 + 1))) (Y_pure (fun w => by kernel_rfl)) (by rw [w64_eq _ (by omega)])) ?_
            refine QRun_b [.int .i64 (i1 + 1)] 2 _ (by kernel_rfl) (fun w => by kernel_rfl) ?_
            exact QRun_done [0, 6, 7, 8] (by kernel_rfl) (by kernel_rfl)
          have H17 : Hold h h7 [rowsP cd2 23 a1 x6.length c1 x6 [(i1.toNat, a5, x8.length, c4, x8)], own cd23 a8 l1.length c6 l1] := H16.pick [1, 0] (by kernel_rfl)
          have H18 := H17.ofRows
          have H19 : Hold h h7 [own cd23 a8 l1.length c6 l1, own cd23 a1 x6.length c1 x6] := H18.pick [1, 0] (by kernel_rfl)
          have H20 : Hold h h7 [own cd23 a1 x6.length c1 x6, own cd23 a8 l1.length c6 l1] := H19.pick [1, 0] (by kernel_rfl)
          have hB1 := M.ret_some hB1
          have gx7 := hgoy1 _ hB1.symm
          exact Run_again [0, 6, 7, 8] (by kernel_rfl) my1 (Nat.lt_succ_self _) ⟨i1 + 1, l1, a8, c6, by omega, gx7, rfl, H20⟩
        · have gx7 := M.for_end gx7 hb5
          subst gx7
          refine Run_exit (k' := _) rfl ?_
          have H21 : Hold h h3 [own cd23 a3 s1.length c2 s1, own cd23 a1 x6.length c1 x6] := H6.pick [1, 0] (by kernel_rfl)
          have H22 : Hold h h3 [own cd23 a3 s1.length c2 s1] := H21.pick [0] (by kernel_rfl)
          exact Run_fall [7] (by kernel_rfl) ⟨a3, c2, rfl, H22⟩

set_option maxRecDepth 100000 in
set_option maxHeartbeats 4000000 in
theorem w_spec_DrawRightQuotient (h : Heap) (code : List Int) (acode : Option Addr) (ccode : Nat) (rcode : Rd cd5 h (Lt h) acode ccode code) (n : Nat) (r : (List (List Int)) × (List (List Int))) (hF : spec_DrawRightQuotient code n = some r) :
    Fn Try.prog 42 #[.slice acode code.length ccode] h fun v h' => ∃ (a0 : Option Addr) (c0 : Nat), ∃ (a1 : Option Addr) (c1 : Nat), v = .tuple #[.slice a0 r.1.length c0, .slice a1 r.2.length c1] ∧ Hold h h' [own cd23 a0 r.1.length c0 r.1, own cd23 a1 r.2.length c1 r.2] := by
  unfold spec_DrawRightQuotient at hF
  refine Fn_enter (args := [.slice acode code.length ccode]) Try.func42 rfl (by kernel_rfl) (by kernel_rfl) (fun w0 _ => ?_)
  have H0 := Hold.init h
  refine Run_seq ?_
  refine Run_reg 2 (by kernel_rfl) (L' := [(0, .slice acode code.length ccode)]) ?_ ?_
  · refine QRun_b [.slice none 0 0, .slice none 0 0] 0 _ (by kernel_rfl) (fun w => by kernel_rfl) ?_
    exact QRun_done [0] (by kernel_rfl) (by kernel_rfl)
  refine Run_seq ?_
  refine Run_ops ?_
  refine Run_b [.slice acode code.length ccode] 0 _ (by kernel_rfl) (fun w => by kernel_rfl) ?_
  obtain ⟨x1, hx1, hF⟩ := M.bind_some hF
  refine Run_E (by kernel_rfl) ?_
  refine E_call (f := 80) (args := #[.slice acode code.length ccode]) (w_spec_l01From h code acode ccode rcode _ _ hx1) (by kernel_rfl) (fun v1 h1 hp1 => ?_)
  obtain ⟨b1, a1, c1, rfl, hd1, H1⟩ := hp1
  have H2 : Hold h h1 [box b1 84 [.slice a1 x1.code.length c1, .int .i64 x1.at_, .int .i64 x1.seed]] := H0.call H1 rfl
  have r1 := rcode.alias hd1
  refine Run_b [.pointer (some ⟨b1, 0, none⟩)] 2 _ (by kernel_rfl) (fun w => by kernel_rfl) ?_
  refine Run_nil (by kernel_rfl) ?_
  refine Run_keep [4] (L' := [(4, .pointer (some ⟨b1, 0, none⟩))]) (by kernel_rfl) ?_
  refine Run_seq ?_
  refine Run_ops ?_
  refine Run_b [.pointer (some ⟨b1, 0, none⟩)] 0 _ (by kernel_rfl) (fun w => by kernel_rfl) ?_
  obtain ⟨x2, hx2, hF⟩ := M.bind_some hF
  have H3 : Hold h h1 [box b1 84 [.slice a1 x1.code.length c1, .int .i64 x1.at_, .int .i64 x1.seed], bun []] := Hold.bundle (S := [box b1 84 [.slice a1 x1.code.length c1, .int .i64 x1.at_, .int .i64 x1.seed]]) (R := []) H2
  refine Run_E (by kernel_rfl) ?_
  refine E_call (f := 81) (args := #[.pointer (some ⟨b1, 0, none⟩)]) (w_spec_l02Draw h h1 _ x1 b1 a1 c1 r1 H3 _ _ hx2) (by kernel_rfl) (fun v2 h2 hp2 => ?_)
  obtain ⟨a2, c2, rfl, H4⟩ := hp2
  have H5 : Hold h h2 [own cd23 a2 x2.1.length c2 x2.1, box b1 84 [.slice a1 x1.code.length c1, .int .i64 x2.2.at_, .int .i64 x2.2.seed]] := Hold.unbundle (S := [own cd23 a2 x2.1.length c2 x2.1, box b1 84 [.slice a1 x1.code.length c1, .int .i64 x2.2.at_, .int .i64 x2.2.seed]]) (R := []) H4 (Hold.tailBase (S := [box b1 84 [.slice a1 x1.code.length c1, .int .i64 x1.at_, .int .i64 x1.seed]]) (R := []) H2)
  refine Run_b [.slice a2 x2.1.length c2] 2 _ (by kernel_rfl) (fun w => by kernel_rfl) ?_
  refine Run_nil (by kernel_rfl) ?_
  refine Run_keep [4, 5] (L' := [(4, .pointer (some ⟨b1, 0, none⟩)), (5, .slice a2 x2.1.length c2)]) (by kernel_rfl) ?_
  refine Run_seq ?_
  refine Run_seq ?_
  refine Run_ops ?_
  refine Run_b [.pointer (some ⟨b1, 0, none⟩)] 0 _ (by kernel_rfl) (fun w => by kernel_rfl) ?_
  obtain ⟨x3, hx3, hF⟩ := M.bind_some hF
  have H6 : Hold h h2 [box b1 84 [.slice a1 x1.code.length c1, .int .i64 x2.2.at_, .int .i64 x2.2.seed], own cd23 a2 x2.1.length c2 x2.1] := H5.pick [1, 0] (by kernel_rfl)
  have H7 : Hold h h2 [box b1 84 [.slice a1 x1.code.length c1, .int .i64 x2.2.at_, .int .i64 x2.2.seed], bun [own cd23 a2 x2.1.length c2 x2.1]] := Hold.bundle (S := [box b1 84 [.slice a1 x1.code.length c1, .int .i64 x2.2.at_, .int .i64 x2.2.seed]]) (R := [own cd23 a2 x2.1.length c2 x2.1]) H6
  refine Run_E (by kernel_rfl) ?_
  refine E_call (f := 82) (args := #[.pointer (some ⟨b1, 0, none⟩), .int .i64 12]) (w_spec_l01Next h h2 _ (⟨x1.code, x2.2.at_, x2.2.seed⟩ : TL01source) b1 a1 c1 r1 12 H7 _ _ hx3) (by kernel_rfl) (fun v3 h3 hp3 => ?_)
  obtain ⟨rfl, H8⟩ := hp3
  have H9 : Hold h h3 [box b1 84 [.slice a1 x1.code.length c1, .int .i64 x3.2.at_, .int .i64 x3.2.seed], own cd23 a2 x2.1.length c2 x2.1] := Hold.unbundle (S := [box b1 84 [.slice a1 x1.code.length c1, .int .i64 x3.2.at_, .int .i64 x3.2.seed]]) (R := [own cd23 a2 x2.1.length c2 x2.1]) H8 (Hold.tailBase (S := [box b1 84 [.slice a1 x1.code.length c1, .int .i64 x2.2.at_, .int .i64 x2.2.seed]]) (R := [own cd23 a2 x2.1.length c2 x2.1]) H6)
  obtain ⟨x4, gx4, hF⟩ := M.bind_some hF
  refine Run_b [.bool (x3.1 == 0)] 2 _ (by kernel_rfl) (fun w => by kernel_rfl) ?_
  refine Run_q1 8 (L' := [(4, .pointer (some ⟨b1, 0, none⟩)), (5, .slice a2 x2.1.length c2), (17, .bool x4)]) ?_ ?_
  · rcases Bool.eq_false_or_eq_true (x3.1 == 0) with hb1 | hb1
    · refine QRun_bool (x3.1 == 0) true (by kernel_rfl) (fun w => by kernel_rfl) hb1 ?_
      have gx4 := M.ret_some ((M.ite_some gx4).1 hb1)
      refine QRun_n (by kernel_rfl) ?_
      refine QRun_n (by kernel_rfl) ?_
      refine QRun_n (by kernel_rfl) ?_
      refine QRun_bool true x4 (by kernel_rfl) (fun w => by kernel_rfl) gx4 ?_
      exact QRun_done [4, 5, 17] (by kernel_rfl) (by kernel_rfl)
    · refine QRun_bool (x3.1 == 0) false (by kernel_rfl) (fun w => by kernel_rfl) hb1 ?_
      have gx4 := (M.ite_some gx4).2 hb1
      obtain ⟨x5, hx4, gx4⟩ := M.bind_some gx4
      have gx4 := M.ret_some gx4
      refine QRun_b [.slice a2 x2.1.length c2] 4 _ (by kernel_rfl) (fun w => by kernel_rfl) ?_
      refine QRun_y (.bool x5) (by kernel_rfl) (Y_callq (f := 69) (args := #[.slice a2 x2.1.length c2]) (v := .bool x5) (by kernel_rfl) (w_spec_IsMatrix h3 x2.1 a2 c2 (H9.rd 1 rfl) _ _ hx4)) ?_
      refine QRun_b [.bool (!x5)] 6 _ (by kernel_rfl) (fun w => by kernel_rfl) ?_
      refine QRun_bool (!x5) x4 (by kernel_rfl) (fun w => by kernel_rfl) gx4 ?_
      exact QRun_done [4, 5, 17] (by kernel_rfl) (by kernel_rfl)
  refine Run_nil (by kernel_rfl) ?_
  refine Run_keep [4, 5, 17] (L' := [(4, .pointer (some ⟨b1, 0, none⟩)), (5, .slice a2 x2.1.length c2), (17, .bool x4)]) (by kernel_rfl) ?_
  refine Run_cond (b := x4) (by kernel_rfl) (fun hb2 => ?_) (fun hb2 => ?_)
  · have hF := (M.ite_some hF).1 hb2
    refine Run_seq ?_
    refine Run_ops ?_
    refine Run_b [.slice a2 x2.1.length c2, .pointer (some ⟨b1, 0, none⟩)] 0 _ (by kernel_rfl) (fun w => by kernel_rfl) ?_
    obtain ⟨x6, hx5, hF⟩ := M.bind_some hF
    have H10 : Hold h h3 [box b1 84 [.slice a1 x1.code.length c1, .int .i64 x3.2.at_, .int .i64 x3.2.seed], bun [own cd23 a2 x2.1.length c2 x2.1]] := Hold.bundle (S := [box b1 84 [.slice a1 x1.code.length c1, .int .i64 x3.2.at_, .int .i64 x3.2.seed]]) (R := [own cd23 a2 x2.1.length c2 x2.1]) H9
    refine Run_E (by kernel_rfl) ?_
    refine E_call (f := 81) (args := #[.pointer (some ⟨b1, 0, none⟩)]) (w_spec_l02Draw h h3 _ (⟨x1.code, x3.2.at_, x3.2.seed⟩ : TL01source) b1 a1 c1 r1 H10 _ _ hx5) (by kernel_rfl) (fun v4 h4 hp4 => ?_)
    obtain ⟨a3, c3, rfl, H11⟩ := hp4
    have H12 : Hold h h4 [own cd23 a3 x6.1.length c3 x6.1, box b1 84 [.slice a1 x1.code.length c1, .int .i64 x6.2.at_, .int .i64 x6.2.seed], own cd23 a2 x2.1.length c2 x2.1] := Hold.unbundle (S := [own cd23 a3 x6.1.length c3 x6.1, box b1 84 [.slice a1 x1.code.length c1, .int .i64 x6.2.at_, .int .i64 x6.2.seed]]) (R := [own cd23 a2 x2.1.length c2 x2.1]) H11 (Hold.tailBase (S := [box b1 84 [.slice a1 x1.code.length c1, .int .i64 x3.2.at_, .int .i64 x3.2.seed]]) (R := [own cd23 a2 x2.1.length c2 x2.1]) H9)
    refine Run_b [.slice a2 x2.1.length c2, .slice a3 x6.1.length c3] 3 _ (by kernel_rfl) (fun w => by kernel_rfl) ?_
    refine Run_nil (by kernel_rfl) ?_
    refine Run_keep [2, 3] (L' := [(2, .slice a2 x2.1.length c2), (3, .slice a3 x6.1.length c3)]) (by kernel_rfl) ?_
    have hF := M.ret_some hF
    subst hF
    have H13 : Hold h h4 [own cd23 a2 x2.1.length c2 x2.1, own cd23 a3 x6.1.length c3 x6.1, box b1 84 [.slice a1 x1.code.length c1, .int .i64 x6.2.at_, .int .i64 x6.2.seed]] := H12.pick [2, 0, 1] (by kernel_rfl)
    have H14 : Hold h h4 [own cd23 a3 x6.1.length c3 x6.1, own cd23 a2 x2.1.length c2 x2.1, box b1 84 [.slice a1 x1.code.length c1, .int .i64 x6.2.at_, .int .i64 x6.2.seed]] := H13.pick [1, 0, 2] (by kernel_rfl)
    have H15 : Hold h h4 [own cd23 a2 x2.1.length c2 x2.1, own cd23 a3 x6.1.length c3 x6.1] := H14.pick [1, 0] (by kernel_rfl)
    exact Run_ret2 rfl (ResV_tmp (v := .slice a2 x2.1.length c2) (by kernel_rfl)) (ResV_tmp (v := .slice a3 x6.1.length c3) (by kernel_rfl)) ⟨a2, c2, a3, c3, rfl, H15⟩
  · have hF := (M.ite_some hF).2 hb2
    refine Run_skip ?_
    refine Run_seq ?_
    obtain ⟨x7, hx6, hF⟩ := M.bind_some hF
    obtain ⟨hx6l, hx6u, hx6⟩ := M.idx_some hx6
    have H16 : Hold h h3 [own cd23 a2 x2.1.length c2 x2.1, box b1 84 [.slice a1 x1.code.length c1, .int .i64 x3.2.at_, .int .i64 x3.2.seed]] := H9.pick [1, 0] (by kernel_rfl)
    have H17 := H16.toRows
    obtain ⟨a4, c4, H18⟩ := H17.pinRow hx6
    have H19 : Hold h h3 [box b1 84 [.slice a1 x1.code.length c1, .int .i64 x3.2.at_, .int .i64 x3.2.seed], rowsP cd2 23 a2 x2.1.length c2 x2.1 [(0, a4, x7.length, c4, x7)]] := H18.pick [1, 0] (by kernel_rfl)
    refine Run_D (fun x => Hold h x [rowsP cd2 23 a2 x2.1.length c2 x2.1 [(0, a4, x7.length, c4, x7)]]) (fun x => Hold h x [box b1 84 [.slice a1 x1.code.length c1, .int .i64 x3.2.at_, .int .i64 x3.2.seed], rowsP cd2 23 a2 x2.1.length c2 x2.1 [(0, a4, x7.length, c4, x7)]]) mixed (by kernel_rfl) H19 Hold.stable (fun x Hy => (show Hold h x [box b1 84 [.slice a1 x1.code.length c1, .int .i64 x3.2.at_, .int .i64 x3.2.seed], rowsP cd2 23 a2 x2.1.length c2 x2.1 [(0, a4, x7.length, c4, x7)]] from Hy).pick [1] (by kernel_rfl)) ?_
    refine DR_b 9 [.slice a2 x2.1.length c2, .pointer (some ⟨b1, 0, none⟩), .pointer (some ⟨b1, 0, none⟩)] 0 (by kernel_rfl) (by kernel_rfl) (by kernel_rfl) (fun w => by kernel_rfl) ?_
    refine DR_b 8 [.slice a2 x2.1.length c2] 5 (by kernel_rfl) (by kernel_rfl) (by kernel_rfl) (fun w => by kernel_rfl) ?_
    refine DR_y 7 (i := 6) (.pointer (some (adr a2 (0 * 1)))) (by kernel_rfl) (by kernel_rfl) (by kernel_rfl) (fun hx Hx => (YE.of (Y_idx (t := 22) (e := 23) (sz := 1) (a := a2) (n := x2.1.length) (cap := c2) (kk := .i64) (i := 0) (by kernel_rfl) Try.underlying22 (by kernel_rfl) ((H9.rd 1 rfl).cell hx6).1 hx6l hx6u))) ?_
    refine DR_y 6 (i := 7) (.slice a4 x7.length c4) (by kernel_rfl) (by kernel_rfl) (by kernel_rfl) (fun hx Hx => (YE.of (Y_load1 (t := 23) (p := adr a2 (0 * 1)) (v := .slice a4 x7.length c4) (by kernel_rfl) (fun w => by kernel_rfl) (Hx.cellPin 0 rfl 0 rfl)))) ?_
    refine DR_b 5 [.int .i64 (x7.length : Int)] 8 (by kernel_rfl) (by kernel_rfl) (by kernel_rfl) (fun w => by kernel_rfl) ?_
    refine DR_e 4 3 (by kernel_rfl) (by kernel_rfl) (by kernel_rfl) (fun h5 H20 => ?_)
    have H21 : Hold h h5 [box b1 84 [.slice a1 x1.code.length c1, .int .i64 x3.2.at_, .int .i64 x3.2.seed], rowsP cd2 23 a2 x2.1.length c2 x2.1 [(0, a4, x7.length, c4, x7)]] := H20
    obtain ⟨x8, hx7, hF⟩ := M.bind_some hF
    have H22 : Hold h h5 [box b1 84 [.slice a1 x1.code.length c1, .int .i64 x3.2.at_, .int .i64 x3.2.seed], bun [rowsP cd2 23 a2 x2.1.length c2 x2.1 [(0, a4, x7.length, c4, x7)]]] := Hold.bundle (S := [box b1 84 [.slice a1 x1.code.length c1, .int .i64 x3.2.at_, .int .i64 x3.2.seed]]) (R := [rowsP cd2 23 a2 x2.1.length c2 x2.1 [(0, a4, x7.length, c4, x7)]]) H21
    refine E_call (f := 82) (args := #[.pointer (some ⟨b1, 0, none⟩), .int .i64 4]) (w_spec_l01Next h h5 _ (⟨x1.code, x3.2.at_, x3.2.seed⟩ : TL01source) b1 a1 c1 r1 4 H22 _ _ hx7) (by kernel_rfl) (fun v5 h6 hp5 => ?_)
    obtain ⟨rfl, H23⟩ := hp5
    have H24 : Hold h h6 [box b1 84 [.slice a1 x1.code.length c1, .int .i64 x8.2.at_, .int .i64 x8.2.seed], rowsP cd2 23 a2 x2.1.length c2 x2.1 [(0, a4, x7.length, c4, x7)]] := Hold.unbundle (S := [box b1 84 [.slice a1 x1.code.length c1, .int .i64 x8.2.at_, .int .i64 x8.2.seed]]) (R := [rowsP cd2 23 a2 x2.1.length c2 x2.1 [(0, a4, x7.length, c4, x7)]]) H23 (Hold.tailBase (S := [box b1 84 [.slice a1 x1.code.length c1, .int .i64 x3.2.at_, .int .i64 x3.2.seed]]) (R := [rowsP cd2 23 a2 x2.1.length c2 x2.1 [(0, a4, x7.length, c4, x7)]]) H21)
    refine ⟨fun x => Hold h x [rowsP cd2 23 a2 x2.1.length c2 x2.1 [(0, a4, x7.length, c4, x7)]], fun x => Hold h x [box b1 84 [.slice a1 x1.code.length c1, .int .i64 x8.2.at_, .int .i64 x8.2.seed], rowsP cd2 23 a2 x2.1.length c2 x2.1 [(0, a4, x7.length, c4, x7)]], H24, Hold.stable, fun x Hy => (show Hold h x [box b1 84 [.slice a1 x1.code.length c1, .int .i64 x8.2.at_, .int .i64 x8.2.seed], rowsP cd2 23 a2 x2.1.length c2 x2.1 [(0, a4, x7.length, c4, x7)]] from Hy).pick [1] (by kernel_rfl), fun x Hy => (show Hold h x [rowsP cd2 23 a2 x2.1.length c2 x2.1 [(0, a4, x7.length, c4, x7)]] from Hy).pick [0] (by kernel_rfl), ?_⟩
    refine DR_b 3 [.int .i64 (w64 (1 + x8.1))] 4 (by kernel_rfl) (by kernel_rfl) (by kernel_rfl) (fun w => by kernel_rfl) ?_
    refine DR_e 2 9 (by kernel_rfl) (by kernel_rfl) (by kernel_rfl) (fun h7 H25 => ?_)
    have H26 : Hold h h7 [box b1 84 [.slice a1 x1.code.length c1, .int .i64 x8.2.at_, .int .i64 x8.2.seed], rowsP cd2 23 a2 x2.1.length c2 x2.1 [(0, a4, x7.length, c4, x7)]] := H25
    obtain ⟨x9, hx8, hF⟩ := M.bind_some hF
    have H27 : Hold h h7 [box b1 84 [.slice a1 x1.code.length c1, .int .i64 x8.2.at_, .int .i64 x8.2.seed], bun [rowsP cd2 23 a2 x2.1.length c2 x2.1 [(0, a4, x7.length, c4, x7)]]] := Hold.bundle (S := [box b1 84 [.slice a1 x1.code.length c1, .int .i64 x8.2.at_, .int .i64 x8.2.seed]]) (R := [rowsP cd2 23 a2 x2.1.length c2 x2.1 [(0, a4, x7.length, c4, x7)]]) H26
    refine E_call (f := 83) (args := #[.pointer (some ⟨b1, 0, none⟩), .int .i64 (w64 (1 + x8.1)), .int .i64 (x7.length : Int)]) (w_spec_l02DrawSize h h7 _ (⟨x1.code, x8.2.at_, x8.2.seed⟩ : TL01source) b1 a1 c1 r1 (w64 (1 + x8.1)) (x7.length : Int) H27 _ _ hx8) (by kernel_rfl) (fun v6 h8 hp6 => ?_)
    obtain ⟨a5, c5, rfl, H28⟩ := hp6
    have H29 : Hold h h8 [own cd23 a5 x9.1.length c5 x9.1, box b1 84 [.slice a1 x1.code.length c1, .int .i64 x9.2.at_, .int .i64 x9.2.seed], rowsP cd2 23 a2 x2.1.length c2 x2.1 [(0, a4, x7.length, c4, x7)]] := Hold.unbundle (S := [own cd23 a5 x9.1.length c5 x9.1, box b1 84 [.slice a1 x1.code.length c1, .int .i64 x9.2.at_, .int .i64 x9.2.seed]]) (R := [rowsP cd2 23 a2 x2.1.length c2 x2.1 [(0, a4, x7.length, c4, x7)]]) H28 (Hold.tailBase (S := [box b1 84 [.slice a1 x1.code.length c1, .int .i64 x8.2.at_, .int .i64 x8.2.seed]]) (R := [rowsP cd2 23 a2 x2.1.length c2 x2.1 [(0, a4, x7.length, c4, x7)]]) H26)
    refine ⟨fun x => Hold h x [rowsP cd2 23 a2 x2.1.length c2 x2.1 [(0, a4, x7.length, c4, x7)], own cd23 a5 x9.1.length c5 x9.1], fun x => Hold h x [own cd23 a5 x9.1.length c5 x9.1, box b1 84 [.slice a1 x1.code.length c1, .int .i64 x9.2.at_, .int .i64 x9.2.seed], rowsP cd2 23 a2 x2.1.length c2 x2.1 [(0, a4, x7.length, c4, x7)]], H29, Hold.stable, fun x Hy => (show Hold h x [own cd23 a5 x9.1.length c5 x9.1, box b1 84 [.slice a1 x1.code.length c1, .int .i64 x9.2.at_, .int .i64 x9.2.seed], rowsP cd2 23 a2 x2.1.length c2 x2.1 [(0, a4, x7.length, c4, x7)]] from Hy).pick [2, 0] (by kernel_rfl), fun x Hy => (show Hold h x [rowsP cd2 23 a2 x2.1.length c2 x2.1 [(0, a4, x7.length, c4, x7)], own cd23 a5 x9.1.length c5 x9.1] from Hy).pick [0] (by kernel_rfl), ?_⟩
    refine DR_b 0 [.slice a2 x2.1.length c2, .slice a5 x9.1.length c5] 10 (by kernel_rfl) (by kernel_rfl) (by kernel_rfl) (fun w => by kernel_rfl) ?_
    refine DR_tail (i := 12) (by kernel_rfl) (by kernel_rfl) (by kernel_rfl) (fun h9 H30 => ?_)
    have H31 : Hold h h9 [own cd23 a5 x9.1.length c5 x9.1, box b1 84 [.slice a1 x1.code.length c1, .int .i64 x9.2.at_, .int .i64 x9.2.seed], rowsP cd2 23 a2 x2.1.length c2 x2.1 [(0, a4, x7.length, c4, x7)]] := H30
    refine Run_nil (by kernel_rfl) ?_
    refine Run_keep [2, 3] (L' := [(2, .slice a2 x2.1.length c2), (3, .slice a5 x9.1.length c5)]) (by kernel_rfl) ?_
    have hF := M.ret_some hF
    subst hF
    have H32 : Hold h h9 [rowsP cd2 23 a2 x2.1.length c2 x2.1 [(0, a4, x7.length, c4, x7)], own cd23 a5 x9.1.length c5 x9.1, box b1 84 [.slice a1 x1.code.length c1, .int .i64 x9.2.at_, .int .i64 x9.2.seed]] := H31.pick [2, 0, 1] (by kernel_rfl)
    have H33 := H32.ofRows
    have H34 : Hold h h9 [own cd23 a5 x9.1.length c5 x9.1, own cd23 a2 x2.1.length c2 x2.1, box b1 84 [.slice a1 x1.code.length c1, .int .i64 x9.2.at_, .int .i64 x9.2.seed]] := H33.pick [1, 0, 2] (by kernel_rfl)
    have H35 : Hold h h9 [own cd23 a2 x2.1.length c2 x2.1, own cd23 a5 x9.1.length c5 x9.1] := H34.pick [1, 0] (by kernel_rfl)
    exact Run_ret2 rfl (ResV_tmp (v := .slice a2 x2.1.length c2) (by kernel_rfl)) (ResV_tmp (v := .slice a5 x9.1.length c5) (by kernel_rfl)) ⟨a2, c2, a5, c5, rfl, H35⟩

set_option maxRecDepth 100000 in
set_option maxHeartbeats 4000000 in
theorem w_impl_RightQuotient (h : Heap) (a_ : List (List Int)) (aa_ : Option Addr) (ca_ : Nat) (ra_ : Rd cd23 h (Lt h) aa_ ca_ a_) (b : List (List Int)) (ab : Option Addr) (cb : Nat) (rb : Rd cd23 h (Lt h) ab cb b) (n : Nat) (r : (List (List Int)) × Int) (hF : impl_RightQuotient a_ b n = some r) :
    Fn Try.prog 37 #[.slice aa_ a_.length ca_, .slice ab b.length cb] h fun v h' => ∃ (a0 : Option Addr) (c0 : Nat), v = .tuple #[.slice a0 r.1.length c0, .int .i64 r.2] ∧ Hold h h' [own cd23 a0 r.1.length c0 r.1] := by
  unfold impl_RightQuotient at hF
  refine Fn_enter (args := [.slice aa_ a_.length ca_, .slice ab b.length cb]) Try.func37 rfl (by kernel_rfl) (by kernel_rfl) (fun w0 _ => ?_)
  have H0 := Hold.init h
  refine Run_seq ?_
  refine Run_reg 2 (by kernel_rfl) (L' := [(0, .slice aa_ a_.length ca_), (1, .slice ab b.length cb)]) ?_ ?_
  · refine QRun_b [.slice none 0 0, .int .i64 0] 0 _ (by kernel_rfl) (fun w => by kernel_rfl) ?_
    exact QRun_done [0, 1] (by kernel_rfl) (by kernel_rfl)
  refine Run_seq ?_
  refine Run_seq ?_
  obtain ⟨x1, hx1, hF⟩ := M.bind_some hF
  obtain ⟨x2, gx2, hF⟩ := M.bind_some hF
  refine Run_regC (j := 8) (C := fun x => Hold h x []) (by kernel_rfl) H0 (L' := [(0, .slice aa_ a_.length ca_), (1, .slice ab b.length cb), (15, .bool x2)]) ?_ (fun h1 H1 => ?_)
  · refine QRun_b [.slice aa_ a_.length ca_] 0 _ (by kernel_rfl) (fun w => by kernel_rfl) ?_
    refine QRun_y (.bool x1) (by kernel_rfl) (Y_call (f := 75) (args := #[.slice aa_ a_.length ca_]) (v := .bool x1) (by kernel_rfl) fun hx Hx => (w_impl_IsMatrix hx a_ aa_ ca_ (ra_.at Hx.ext) _ _ hx1).mono fun _ _ ⟨e, H'⟩ => ⟨e, Hx.call H' rfl⟩) ?_
    refine QRun_b [.bool (!x1)] 2 _ (by kernel_rfl) (fun w => by kernel_rfl) ?_
    refine QRun_seq 8 [(0, .slice aa_ a_.length ca_), (1, .slice ab b.length cb), (15, .bool x2)] ?_ ?_
    · rcases Bool.eq_false_or_eq_true (!x1) with hb1 | hb1
      · refine QRun_bool (!x1) true (by kernel_rfl) (fun w => by kernel_rfl) hb1 ?_
        have gx2 := M.ret_some ((M.ite_some gx2).1 hb1)
        refine QRun_n (by kernel_rfl) ?_
        refine QRun_n (by kernel_rfl) ?_
        refine QRun_n (by kernel_rfl) ?_
        refine QRun_bool true x2 (by kernel_rfl) (fun w => by kernel_rfl) gx2 ?_
        exact QRun_done [0, 1, 15] (by kernel_rfl) (by kernel_rfl)
      · refine QRun_bool (!x1) false (by kernel_rfl) (fun w => by kernel_rfl) hb1 ?_
        have gx2 := (M.ite_some gx2).2 hb1
        obtain ⟨x3, hx2, gx2⟩ := M.bind_some gx2
        have gx2 := M.ret_some gx2
        refine QRun_b [.slice ab b.length cb] 4 _ (by kernel_rfl) (fun w => by kernel_rfl) ?_
        refine QRun_y (.bool x3) (by kernel_rfl) (Y_call (f := 75) (args := #[.slice ab b.length cb]) (v := .bool x3) (by kernel_rfl) fun hx Hx => (w_impl_IsMatrix hx b ab cb (rb.at Hx.ext) _ _ hx2).mono fun _ _ ⟨e, H'⟩ => ⟨e, Hx.call H' rfl⟩) ?_
        refine QRun_b [.bool (!x3)] 6 _ (by kernel_rfl) (fun w => by kernel_rfl) ?_
        refine QRun_bool (!x3) x2 (by kernel_rfl) (fun w => by kernel_rfl) gx2 ?_
        exact QRun_done [0, 1, 15] (by kernel_rfl) (by kernel_rfl)
    exact QRun_done [0, 1, 15] (by kernel_rfl) (by kernel_rfl)
  have H2 : Hold h h1 [] := H1
  refine Run_cond (b := x2) (by kernel_rfl) (fun hb2 => ?_) (fun hb2 => ?_)
  · have hF := (M.ite_some hF).1 hb2
    refine Run_seq ?_
    refine Run_reg 2 (by kernel_rfl) (L' := [(4, .slice none 0 0), (5, .int .i64 1)]) ?_ ?_
    · refine QRun_b [.slice none 0 0, .int .i64 1] 0 _ (by kernel_rfl) (fun w => by kernel_rfl) ?_
      exact QRun_done [4, 5] (by kernel_rfl) (by kernel_rfl)
    have hF := M.ret_some hF
    subst hF
    have H3 := H2.empty cd23
    exact Run_ret2 rfl (ResV_tmp (v := .slice none 0 0) (by kernel_rfl)) (ResV_tmp (v := .int .i64 1) (by kernel_rfl)) ⟨none, 0, rfl, H3⟩
  · have hF := (M.ite_some hF).2 hb2
    refine Run_skip ?_
    refine Run_seq ?_
    refine Run_ops ?_
    refine Run_b [.slice aa_ a_.length ca_] 0 _ (by kernel_rfl) (fun w => by kernel_rfl) ?_
    obtain ⟨x4, hx3, hF⟩ := M.bind_some hF
    refine Run_E (by kernel_rfl) ?_
    refine E_call (f := 76) (args := #[.slice aa_ a_.length ca_]) (w_impl_transposed h1 a_ aa_ ca_ (ra_.at H2.ext) _ _ hx3) (by kernel_rfl) (fun v1 h2 hp1 => ?_)
    obtain ⟨a1, c1, rfl, H4⟩ := hp1
    have H5 : Hold h h2 [own cd23 a1 x4.length c1 x4] := H2.call H4 rfl
    refine Run_b [.slice ab b.length cb] 2 _ (by kernel_rfl) (fun w => by kernel_rfl) ?_
    obtain ⟨x5, hx4, hF⟩ := M.bind_some hF
    refine Run_E (by kernel_rfl) ?_
    refine E_call (f := 76) (args := #[.slice ab b.length cb]) (w_impl_transposed h2 b ab cb (rb.at H5.ext) _ _ hx4) (by kernel_rfl) (fun v2 h3 hp2 => ?_)
    obtain ⟨a2, c2, rfl, H6⟩ := hp2
    have H7 : Hold h h3 [own cd23 a2 x5.length c2 x5, own cd23 a1 x4.length c1 x4] := H5.call H6 rfl
    obtain ⟨x6, hx5, hF⟩ := M.bind_some hF
    refine Run_E (by kernel_rfl) ?_
    refine E_call (f := 73) (args := #[.slice a1 x4.length c1, .slice a2 x5.length c2]) (w_impl_leftQuotient h3 x4 a1 c1 (H7.rd 1 rfl) x5 a2 c2 (H7.rd 0 rfl) _ _ hx5) (by kernel_rfl) (fun v3 h4 hp3 => ?_)
    obtain ⟨a3, c3, rfl, H8⟩ := hp3
    have H9 : Hold h h4 [own cd23 a3 x6.1.length c3 x6.1, own cd23 a2 x5.length c2 x5, own cd23 a1 x4.length c1 x4] := H7.call H8 rfl
    refine Run_b [.tuple #[.slice a3 x6.1.length c3, .int .i64 x6.2], .slice a3 x6.1.length c3, .int .i64 x6.2, .slice a3 x6.1.length c3, .int .i64 x6.2] 5 _ (by kernel_rfl) (fun w => by kernel_rfl) ?_
    refine Run_nil (by kernel_rfl) ?_
    refine Run_keep [6, 7] (L' := [(6, .slice a3 x6.1.length c3), (7, .int .i64 x6.2)]) (by kernel_rfl) ?_
    refine Run_seq ?_
    refine Run_seq ?_
    refine Run_reg 2 (by kernel_rfl) (L' := [(6, .slice a3 x6.1.length c3), (7, .int .i64 x6.2), (25, .bool (x6.2 != 0))]) ?_ ?_
    · refine QRun_b [.int .i64 x6.2, .bool (x6.2 != 0)] 0 _ (by kernel_rfl) (fun w => by kernel_rfl) ?_
      exact QRun_done [6, 7, 25] (by kernel_rfl) (by kernel_rfl)
    refine Run_cond (b := x6.2 != 0) (by kernel_rfl) (fun hb3 => ?_) (fun hb3 => ?_)
    · have hF := (M.ite_some hF).1 hb3
      refine Run_seq ?_
      refine Run_reg 3 (by kernel_rfl) (L' := [(4, .slice none 0 0), (5, .int .i64 x6.2)]) ?_ ?_
      · refine QRun_b [.int .i64 x6.2, .slice none 0 0, .int .i64 x6.2] 0 _ (by kernel_rfl) (fun w => by kernel_rfl) ?_
        exact QRun_done [4, 5] (by kernel_rfl) (by kernel_rfl)
      have hF := M.ret_some hF
      subst hF
      have H10 := H9.empty cd23
      have H11 : Hold h h4 [own cd23 none 0 0 []] := H10.pick [0] (by kernel_rfl)
      exact Run_ret2 rfl (ResV_tmp (v := .slice none 0 0) (by kernel_rfl)) (ResV_tmp (v := .int .i64 x6.2) (by kernel_rfl)) ⟨none, 0, rfl, H11⟩
    · have hF := (M.ite_some hF).2 hb3
      refine Run_skip ?_
      refine Run_seq ?_
      refine Run_ops ?_
      refine Run_b [.slice a3 x6.1.length c3] 0 _ (by kernel_rfl) (fun w => by kernel_rfl) ?_
      obtain ⟨x7, hx6, hF⟩ := M.bind_some hF
      refine Run_E (by kernel_rfl) ?_
      refine E_call (f := 76) (args := #[.slice a3 x6.1.length c3]) (w_impl_transposed h4 x6.1 a3 c3 (H9.rd 0 rfl) _ _ hx6) (by kernel_rfl) (fun v4 h5 hp4 => ?_)
      obtain ⟨a4, c4, rfl, H12⟩ := hp4
      have H13 : Hold h h5 [own cd23 a4 x7.length c4 x7, own cd23 a3 x6.1.length c3 x6.1, own cd23 a2 x5.length c2 x5, own cd23 a1 x4.length c1 x4] := H9.call H12 rfl
      obtain ⟨x8, hx7, hF⟩ := M.bind_some hF
      refine Run_E (by kernel_rfl) ?_
      refine E_call (f := 74) (args := #[.slice a4 x7.length c4]) (w_impl_checkedMatrix h5 x7 a4 c4 (H13.rd 0 rfl) _ _ hx7) (by kernel_rfl) (fun v5 h6 hp5 => ?_)
      obtain ⟨a5, c5, rfl, hd1, H14⟩ := hp5
      have H15 : Hold h h6 [own cd23 a4 x7.length c4 x7, own cd23 a3 x6.1.length c3 x6.1, own cd23 a2 x5.length c2 x5, own cd23 a1 x4.length c1 x4] := H13.call H14 rfl
      have H16 := H15.alias hd1
      refine Run_b [.slice a5 x8.1.length c5, .int .i64 x8.2, .slice a5 x8.1.length c5, .int .i64 x8.2] 3 _ (by kernel_rfl) (fun w => by kernel_rfl) ?_
      refine Run_nil (by kernel_rfl) ?_
      refine Run_keep [4, 5] (L' := [(4, .slice a5 x8.1.length c5), (5, .int .i64 x8.2)]) (by kernel_rfl) ?_
      have hF := M.ret_some hF
      subst hF
      have H17 : Hold h h6 [own cd23 a5 x8.1.length c5 x8.1] := H16.pick [0] (by kernel_rfl)
      exact Run_ret2 rfl (ResV_tmp (v := .slice a5 x8.1.length c5) (by kernel_rfl)) (ResV_tmp (v := .int .i64 x8.2) (by kernel_rfl)) ⟨a5, c5, rfl, H17⟩

set_option maxRecDepth 100000 in
set_option maxHeartbeats 4000000 in
theorem w_spec_RightQuotient (h : Heap) (a_ : List (List Int)) (aa_ : Option Addr) (ca_ : Nat) (ra_ : Rd cd23 h (Lt h) aa_ ca_ a_) (b : List (List Int)) (ab : Option Addr) (cb : Nat) (rb : Rd cd23 h (Lt h) ab cb b) (n : Nat) (r : (List (List Int)) × Int) (hF : spec_RightQuotient a_ b n = some r) :
    Fn Try.prog 36 #[.slice aa_ a_.length ca_, .slice ab b.length cb] h fun v h' => ∃ (a0 : Option Addr) (c0 : Nat), v = .tuple #[.slice a0 r.1.length c0, .int .i64 r.2] ∧ Hold h h' [own cd23 a0 r.1.length c0 r.1] := by
  unfold spec_RightQuotient at hF
  refine Fn_enter (args := [.slice aa_ a_.length ca_, .slice ab b.length cb]) Try.func36 rfl (by kernel_rfl) (by kernel_rfl) (fun w0 _ => ?_)
  have H0 := Hold.init h
  refine Run_seq ?_
  refine Run_reg 2 (by kernel_rfl) (L' := [(0, .slice aa_ a_.length ca_), (1, .slice ab b.length cb)]) ?_ ?_
  · refine QRun_b [.slice none 0 0, .int .i64 0] 0 _ (by kernel_rfl) (fun w => by kernel_rfl) ?_
    exact QRun_done [0, 1] (by kernel_rfl) (by kernel_rfl)
  refine Run_seq ?_
  refine Run_block ?_
  refine Run_seq ?_
  obtain ⟨x1, hx1, hF⟩ := M.bind_some hF
  obtain ⟨x2, gx2, hF⟩ := M.bind_some hF
  refine Run_reg 9 (by kernel_rfl) (L' := [(0, .slice aa_ a_.length ca_), (1, .slice ab b.length cb), (9, .bool x2)]) ?_ ?_
  · refine QRun_b [.slice aa_ a_.length ca_] 0 _ (by kernel_rfl) (fun w => by kernel_rfl) ?_
    refine QRun_y (.bool x1) (by kernel_rfl) (Y_callq (f := 69) (args := #[.slice aa_ a_.length ca_]) (v := .bool x1) (by kernel_rfl) (w_spec_IsMatrix h a_ aa_ ca_ ra_ _ _ hx1)) ?_
    refine QRun_b [.bool (!x1)] 2 _ (by kernel_rfl) (fun w => by kernel_rfl) ?_
    refine QRun_seq 8 [(0, .slice aa_ a_.length ca_), (1, .slice ab b.length cb), (17, .bool x2)] ?_ ?_
    · rcases Bool.eq_false_or_eq_true (!x1) with hb1 | hb1
      · refine QRun_bool (!x1) true (by kernel_rfl) (fun w => by kernel_rfl) hb1 ?_
        have gx2 := M.ret_some ((M.ite_some gx2).1 hb1)
        refine QRun_n (by kernel_rfl) ?_
        refine QRun_n (by kernel_rfl) ?_
        refine QRun_n (by kernel_rfl) ?_
        refine QRun_bool true x2 (by kernel_rfl) (fun w => by kernel_rfl) gx2 ?_
        exact QRun_done [0, 1, 17] (by kernel_rfl) (by kernel_rfl)
      · refine QRun_bool (!x1) false (by kernel_rfl) (fun w => by kernel_rfl) hb1 ?_
        have gx2 := (M.ite_some gx2).2 hb1
        obtain ⟨x3, hx2, gx2⟩ := M.bind_some gx2
        have gx2 := M.ret_some gx2
        refine QRun_b [.slice ab b.length cb] 4 _ (by kernel_rfl) (fun w => by kernel_rfl) ?_
        refine QRun_y (.bool x3) (by kernel_rfl) (Y_callq (f := 69) (args := #[.slice ab b.length cb]) (v := .bool x3) (by kernel_rfl) (w_spec_IsMatrix h b ab cb rb _ _ hx2)) ?_
        refine QRun_b [.bool (!x3)] 6 _ (by kernel_rfl) (fun w => by kernel_rfl) ?_
        refine QRun_bool (!x3) x2 (by kernel_rfl) (fun w => by kernel_rfl) gx2 ?_
        exact QRun_done [0, 1, 17] (by kernel_rfl) (by kernel_rfl)
    refine QRun_b [.bool x2] 8 _ (by kernel_rfl) (fun w => by kernel_rfl) ?_
    exact QRun_done [0, 1, 9] (by kernel_rfl) (by kernel_rfl)
  refine Run_cond (b := x2) (by kernel_rfl) (fun hb2 => ?_) (fun hb2 => ?_)
  · have hF := (M.ite_some hF).1 hb2
    refine Run_seq ?_
    refine Run_reg 2 (by kernel_rfl) (L' := [(4, .slice none 0 0), (5, .int .i64 1)]) ?_ ?_
    · refine QRun_b [.slice none 0 0, .int .i64 1] 0 _ (by kernel_rfl) (fun w => by kernel_rfl) ?_
      exact QRun_done [4, 5] (by kernel_rfl) (by kernel_rfl)
    have hF := M.ret_some hF
    subst hF
    have H1 := H0.empty cd23
    exact Run_ret2 rfl (ResV_tmp (v := .slice none 0 0) (by kernel_rfl)) (ResV_tmp (v := .int .i64 1) (by kernel_rfl)) ⟨none, 0, rfl, H1⟩
  · have hF := (M.ite_some hF).2 hb2
    refine Run_seq ?_
    obtain ⟨s1, gs1, hF⟩ := M.bind_some hF
    refine Run_join (fun L' h' => L' = [(0, .slice aa_ a_.length ca_), (1, .slice ab b.length cb), (18, .bool s1)] ∧ Hold h h' []) ?_ ?_
    · rintro _ h5 ⟨rfl, H10⟩
      refine Run_cond (b := s1) (by kernel_rfl) (fun hb4 => ?_) (fun hb4 => ?_)
      · have hF := (M.ite_some hF).1 hb4
        refine Run_seq ?_
        refine Run_reg 2 (by kernel_rfl) (L' := [(4, .slice none 0 0), (5, .int .i64 5)]) ?_ ?_
        · refine QRun_b [.slice none 0 0, .int .i64 5] 0 _ (by kernel_rfl) (fun w => by kernel_rfl) ?_
          exact QRun_done [4, 5] (by kernel_rfl) (by kernel_rfl)
        have hF := M.ret_some hF
        subst hF
        have H12 := H10.empty cd23
        exact Run_ret2 rfl (ResV_tmp (v := .slice none 0 0) (by kernel_rfl)) (ResV_tmp (v := .int .i64 5) (by kernel_rfl)) ⟨none, 0, rfl, H12⟩
      · have hF := (M.ite_some hF).2 hb4
        refine Run_skip ?_
        refine Run_blk ?_
        refine Run_seq ?_
        refine Run_ops ?_
        refine Run_b [.slice aa_ a_.length ca_] 0 _ (by kernel_rfl) (fun w => by kernel_rfl) ?_
        obtain ⟨x8, hx7, hF⟩ := M.bind_some hF
        refine Run_E (by kernel_rfl) ?_
        refine E_call (f := 71) (args := #[.slice aa_ a_.length ca_]) (w_spec_l02Turn h5 a_ aa_ ca_ (ra_.at H10.ext) _ _ hx7) (by kernel_rfl) (fun v2 h6 hp2 => ?_)
        obtain ⟨a4, c4, rfl, H13⟩ := hp2
        have H14 : Hold h h6 [own cd23 a4 x8.length c4 x8] := H10.call H13 rfl
        refine Run_b [.slice a4 x8.length c4] 2 _ (by kernel_rfl) (fun w => by kernel_rfl) ?_
        refine Run_nil (by kernel_rfl) ?_
        refine Run_keep [1, 6] (L' := [(1, .slice ab b.length cb), (6, .slice a4 x8.length c4)]) (by kernel_rfl) ?_
        refine Run_seq ?_
        refine Run_ops ?_
        refine Run_E (by kernel_rfl) ?_
        refine E_lit (C := cd23) (n := 0) (l := []) (cs := []) H14 (fun w => by kernel_rfl) (Enc.nil _ _) rfl (by decide) (fun a5 h7 H15 => ?_)
        refine Run_b [.slice a5 0 0] 1 _ (by kernel_rfl) (fun w => by kernel_rfl) ?_
        refine Run_nil (by kernel_rfl) ?_
        refine Run_keep [1, 6, 7] (L' := [(1, .slice ab b.length cb), (6, .slice a4 x8.length c4), (7, .slice a5 0 0)]) (by kernel_rfl) ?_
        refine Run_seq ?_
        refine Run_seq ?_
        refine Run_reg 1 (by kernel_rfl) (L' := [(1, .slice ab b.length cb), (6, .slice a4 x8.length c4), (7, .slice a5 0 0), (8, .int .i64 0)]) ?_ ?_
        · refine QRun_b [.int .i64 0] 0 _ (by kernel_rfl) (fun w => by kernel_rfl) ?_
          exact QRun_done [1, 6, 7, 8] (by kernel_rfl) (by kernel_rfl)
        obtain ⟨x9, gx9, hF⟩ := M.bind_some hF
        obtain ⟨hloy1, hhiy1, gx9⟩ := M.for_start gx9
        refine Run_join (fun L' h' => ∃ (a7 : Option Addr) (c6 : Nat), L' = [(7, .slice a7 x9.length c6)] ∧ Hold h h' [own cd23 a7 x9.length c6 x9]) ?_ ?_
        · rintro _ h9 ⟨a7, c6, rfl, H17⟩
          refine Run_seq ?_
          refine Run_ops ?_
          refine Run_b [.slice a7 x9.length c6] 0 _ (by kernel_rfl) (fun w => by kernel_rfl) ?_
          obtain ⟨x12, hx10, hF⟩ := M.bind_some hF
          refine Run_E (by kernel_rfl) ?_
          refine E_call (f := 72) (args := #[.slice a7 x9.length c6]) (w_spec_l03Result h9 x9 a7 c6 (H17.rd 0 rfl) _ _ hx10) (by kernel_rfl) (fun v4 h13 hp4 => ?_)
          obtain ⟨a12, c10, rfl, hd1, H28⟩ := hp4
          have H29 : Hold h h13 [own cd23 a7 x9.length c6 x9] := H17.call H28 rfl
          have H30 := H29.alias hd1
          refine Run_b [.slice a12 x12.1.length c10, .int .i64 x12.2, .slice a12 x12.1.length c10, .int .i64 x12.2] 2 _ (by kernel_rfl) (fun w => by kernel_rfl) ?_
          refine Run_nil (by kernel_rfl) ?_
          refine Run_keep [4, 5] (L' := [(4, .slice a12 x12.1.length c10), (5, .int .i64 x12.2)]) (by kernel_rfl) ?_
          have hF := M.ret_some hF
          subst hF
          exact Run_ret2 rfl (ResV_tmp (v := .slice a12 x12.1.length c10) (by kernel_rfl)) (ResV_tmp (v := .int .i64 x12.2) (by kernel_rfl)) ⟨a12, c10, rfl, H30⟩
        · refine Run_block ?_
          have hn1 := (H15.len 0 rfl)
          have H31 : Hold h h7 [own cd23 a5 (([] : List (List Int)).length) 0 ([] : List (List Int)), own cd23 a4 x8.length c4 x8] := by rw [hn1]; exact H15
          have H32 : Hold h h7 [own cd23 a4 x8.length c4 x8, own cd23 a5 (([] : List (List Int)).length) 0 ([] : List (List Int))] := H31.pick [1, 0] (by kernel_rfl)
          refine Run_keep [1, 6, 7, 8] (L' := [(1, .slice ab b.length cb), (6, .slice a4 x8.length c4), (7, .slice a5 (([] : List (List Int)).length) 0), (8, .int .i64 0)]) (by rw [hn1]; kernel_rfl) ?_
          refine Run_loop (fun m L' h' => ∃ (i1 : Int) (s2 : (List (List Int))) (a6 : Option Addr) (c5 : Nat), 0 ≤ i1 ∧ M.forN (b.length : Int) _ _ n m i1 s2 = some x9 ∧ L' = [(1, .slice ab b.length cb), (6, .slice a4 x8.length c4), (7, .slice a6 s2.length c5), (8, .int .i64 i1)] ∧ Hold h h' [own cd23 a4 x8.length c4 x8, own cd23 a6 s2.length c5 s2]) ((b.length : Int) - 0 : Int).toNat ⟨0, ([] : List (List Int)), a5, 0, Int.le_refl _, gx9, rfl, H32⟩ ?_
          rintro my1 _ h8 ⟨i1, s2, a6, c5, hloy1', gx9, rfl, H16⟩
          refine Run_seq ?_
          refine Run_seq ?_
          refine Run_reg 4 (by kernel_rfl) (L' := [(1, .slice ab b.length cb), (6, .slice a4 x8.length c4), (7, .slice a6 s2.length c5), (8, .int .i64 i1), (40, .bool (decide (i1 < (b.length : Int))))]) ?_ ?_
          · refine QRun_b [.int .i64 i1, .slice ab b.length cb, .int .i64 (b.length : Int), .bool (decide (i1 < (b.length : Int)))] 0 _ (by kernel_rfl) (fun w => by kernel_rfl) ?_
            exact QRun_done [1, 6, 7, 8, 40] (by kernel_rfl) (by kernel_rfl)
          refine Run_cond (b := decide (i1 < (b.length : Int))) (by kernel_rfl) (fun hb5 => ?_) (fun hb5 => ?_)
          · obtain ⟨my1, y1, rfl, hB1, hgoy1, houty1⟩ := M.for_go gx9 hb5
            have hlty1 := of_decide_eq_true hb5
            refine Run_skip ?_
            refine Run_seq ?_
            refine Run_block ?_
            refine Run_ops ?_
            obtain ⟨x10, hx8, hB1⟩ := M.bind_some hB1
            obtain ⟨hx8l, hx8u, hx8⟩ := M.idx_some hx8
            obtain ⟨a8, c7, hc3, r3⟩ := rb.row hx8
            refine Run_b [.slice a6 s2.length c5, .slice a4 x8.length c4, .slice ab b.length cb, .int .i64 i1] 0 _ (by kernel_rfl) (fun w => by kernel_rfl) ?_
            refine Run_y (.pointer (some (adr ab (i1.toNat * 1)))) (by kernel_rfl) (Y_idx (t := 22) (e := 23) (sz := 1) (a := ab) (n := b.length) (cap := cb) (kk := .i64) (i := i1) (by kernel_rfl) Try.underlying22 (by kernel_rfl) ((rb.at H16.ext).cell hx8).1 hx8l hx8u) ?_
            refine Run_y (.slice a8 x10.length c7) (by kernel_rfl) (Y_load1 (t := 23) (p := adr ab (i1.toNat * 1)) (v := .slice a8 x10.length c7) (by kernel_rfl) (fun w => by kernel_rfl) (cell_at H16.ext hc3)) ?_
            obtain ⟨x11, hx9, hB1⟩ := M.bind_some hB1
            refine Run_E (by kernel_rfl) ?_
            refine E_call (f := 60) (args := #[.slice a4 x8.length c4, .slice a8 x10.length c7]) (w_spec_l08Sub h8 x8 a4 c4 (H16.rd 0 rfl) x10 a8 c7 (r3.at H16.ext) _ _ hx9) (by kernel_rfl) (fun v3 h10 hp3 => ?_)
            obtain ⟨a9, c8, rfl, H18⟩ := hp3
            have H19 : Hold h h10 [own cd2 a9 x11.length c8 x11, own cd23 a4 x8.length c4 x8, own cd23 a6 s2.length c5 s2] := H16.call H18 rfl
            refine Run_E (by kernel_rfl) ?_
            refine E_lit1 (ey := 23) (n := x11.length) H19 (fun w => by kernel_rfl) rfl (fun a10 h11 H20 => ?_)
            obtain ⟨l1, hl1, hB1⟩ := M.bind_some hB1
            have hl1 := M.app_some hl1
            have H21 : Hold h h11 [own cd23 a6 s2.length c5 s2, own cd23 a10 1 1 [x11], own cd23 a4 x8.length c4 x8] := H20.pick [2, 0, 1] (by kernel_rfl)
            have H22 : Hold h h11 [own cd23 a10 1 1 [x11], own cd23 a6 s2.length c5 s2, own cd23 a4 x8.length c4 x8] := H21.pick [1, 0, 2] (by kernel_rfl)
            have H23 : Hold h h11 [own cd23 a6 s2.length c5 s2, own cd23 a10 1 1 [x11], own cd23 a4 x8.length c4 x8] := H22.pick [1, 0, 2] (by kernel_rfl)
            refine Run_E (by kernel_rfl) ?_
            refine E_app (C := cd23) (t := 22) (ty := 22) (n := s2.length) (m := 1) H23 cd23_ti rfl Try.underlying22 (by decide) (by kernel_rfl) hl1 (fun a11 c9 h12 H24 => ?_)
            refine Run_b [.slice a11 l1.length c9] 9 _ (by kernel_rfl) (fun w => by kernel_rfl) ?_
            refine Run_nil (by kernel_rfl) ?_
            refine Run_keep [1, 6, 7, 8] (L' := [(1, .slice ab b.length cb), (6, .slice a4 x8.length c4), (7, .slice a11 l1.length c9), (8, .int .i64 i1)]) (by kernel_rfl) ?_
            refine Run_blk ?_
            refine Run_reg 3 (by kernel_rfl) (L' := [(1, .slice ab b.length cb), (6, .slice a4 x8.length c4), (7, .slice a11 l1.length c9), (8, .int .i64 (i1 + 1))]) ?_ ?_
            · refine QRun_b [.int .i64 i1] 0 _ (by kernel_rfl) (fun w => by kernel_rfl) ?_
              refine QRun_y (.int .i64 (i1 + 1)) (by kernel_rfl) (Y_eq (v := .int .i64 (w64 (i1 + 1))) (Y_pure (fun w => by kernel_rfl)) (by rw [w64_eq _ (by omega)])) ?_
              refine QRun_b [.int .i64 (i1 + 1)] 2 _ (by kernel_rfl) (fun w => by kernel_rfl) ?_
              exact QRun_done [1, 6, 7, 8] (by kernel_rfl) (by kernel_rfl)
            have H25 : Hold h h12 [own cd23 a4 x8.length c4 x8, own cd23 a11 l1.length c9 l1] := H24.pick [1, 0] (by kernel_rfl)
            have hB1 := M.ret_some hB1
            have gx9 := hgoy1 _ hB1.symm
            exact Run_again [1, 6, 7, 8] (by kernel_rfl) my1 (Nat.lt_succ_self _) ⟨i1 + 1, l1, a11, c9, by omega, gx9, rfl, H25⟩
          · have gx9 := M.for_end gx9 hb5
            subst gx9
            refine Run_exit (k' := _) rfl ?_
            have H26 : Hold h h8 [own cd23 a6 s2.length c5 s2, own cd23 a4 x8.length c4 x8] := H16.pick [1, 0] (by kernel_rfl)
            have H27 : Hold h h8 [own cd23 a6 s2.length c5 s2] := H26.pick [0] (by kernel_rfl)
            exact Run_fall [7] (by kernel_rfl) ⟨a6, c5, rfl, H27⟩
    · obtain ⟨x4, hx3, gs1⟩ := M.bind_some gs1
      obtain ⟨hx3l, hx3u, hx3⟩ := M.idx_some hx3
      obtain ⟨a1, c1, hc1, r1⟩ := ra_.row hx3
      obtain ⟨x5, hx4, gs1⟩ := M.bind_some gs1
      obtain ⟨hx4l, hx4u, hx4⟩ := M.idx_some hx4
      obtain ⟨a2, c2, hc2, r2⟩ := rb.row hx4
      refine Run_D (fun x => Hold h x []) (fun x => Hold h x []) mixed (by kernel_rfl) H0 Hold.stable (fun x Hy => (show Hold h x [] from Hy).pick [] (by kernel_rfl)) ?_
      refine DR_b 15 [.slice aa_ a_.length ca_] 0 (by kernel_rfl) (by kernel_rfl) (by kernel_rfl) (fun w => by kernel_rfl) ?_
      refine DR_y 14 (i := 1) (.pointer (some (adr aa_ (0 * 1)))) (by kernel_rfl) (by kernel_rfl) (by kernel_rfl) (fun hx Hx => (YE.of (Y_idx (t := 22) (e := 23) (sz := 1) (a := aa_) (n := a_.length) (cap := ca_) (kk := .i64) (i := 0) (by kernel_rfl) Try.underlying22 (by kernel_rfl) (ra_.cell hx3).1 hx3l hx3u))) ?_
      refine DR_y 13 (i := 2) (.slice a1 x4.length c1) (by kernel_rfl) (by kernel_rfl) (by kernel_rfl) (fun hx Hx => (YE.of (Y_load1 (t := 23) (p := adr aa_ (0 * 1)) (v := .slice a1 x4.length c1) (by kernel_rfl) (fun w => by kernel_rfl) (cell_at Hx.ext hc1)))) ?_
      refine DR_b 11 [.int .i64 (x4.length : Int), .slice ab b.length cb] 3 (by kernel_rfl) (by kernel_rfl) (by kernel_rfl) (fun w => by kernel_rfl) ?_
      refine DR_y 10 (i := 5) (.pointer (some (adr ab (0 * 1)))) (by kernel_rfl) (by kernel_rfl) (by kernel_rfl) (fun hx Hx => (YE.of (Y_idx (t := 22) (e := 23) (sz := 1) (a := ab) (n := b.length) (cap := cb) (kk := .i64) (i := 0) (by kernel_rfl) Try.underlying22 (by kernel_rfl) (rb.cell hx4).1 hx4l hx4u))) ?_
      refine DR_y 9 (i := 6) (.slice a2 x5.length c2) (by kernel_rfl) (by kernel_rfl) (by kernel_rfl) (fun hx Hx => (YE.of (Y_load1 (t := 23) (p := adr ab (0 * 1)) (v := .slice a2 x5.length c2) (by kernel_rfl) (fun w => by kernel_rfl) (cell_at Hx.ext hc2)))) ?_
      refine DR_b 7 [.int .i64 (x5.length : Int), .bool ((x4.length : Int) != (x5.length : Int))] 7 (by kernel_rfl) (by kernel_rfl) (by kernel_rfl) (fun w => by kernel_rfl) ?_
      rcases Bool.eq_false_or_eq_true ((x4.length : Int) != (x5.length : Int)) with hb3 | hb3
      · have gs1 := (M.ite_some gs1).1 hb3
        refine DR_bool 6 (i := 9) ((x4.length : Int) != (x5.length : Int)) true (by kernel_rfl) (by kernel_rfl) (by kernel_rfl) (fun w => by kernel_rfl) hb3 ?_
        refine DR_n 5 (i := 10) (by kernel_rfl) (by kernel_rfl) (by kernel_rfl) ?_
        refine DR_n 4 (i := 11) (by kernel_rfl) (by kernel_rfl) (by kernel_rfl) ?_
        refine DR_n 3 (i := 12) (by kernel_rfl) (by kernel_rfl) (by kernel_rfl) ?_
        refine DR_n 2 (i := 13) (by kernel_rfl) (by kernel_rfl) (by kernel_rfl) ?_
        refine DR_b 0 [.bool true, .bool true] 14 (by kernel_rfl) (by kernel_rfl) (by kernel_rfl) (fun w => by kernel_rfl) ?_
        refine DR_tail (i := 16) (by kernel_rfl) (by kernel_rfl) (by kernel_rfl) (fun h1 H2 => ?_)
        have H3 : Hold h h1 [] := H2
        refine Run_nil (by kernel_rfl) ?_
        refine Run_keep [0, 1, 18] (L' := [(0, .slice aa_ a_.length ca_), (1, .slice ab b.length cb), (18, .bool true)]) (by kernel_rfl) ?_
        have gs1 := M.ret_some gs1
        subst gs1
        exact Run_fall [0, 1, 18] (by kernel_rfl) ⟨rfl, H3⟩
      · have gs1 := (M.ite_some gs1).2 hb3
        refine DR_bool 6 (i := 9) ((x4.length : Int) != (x5.length : Int)) false (by kernel_rfl) (by kernel_rfl) (by kernel_rfl) (fun w => by kernel_rfl) hb3 ?_
        refine DR_b 5 [.slice aa_ a_.length ca_] 10 (by kernel_rfl) (by kernel_rfl) (by kernel_rfl) (fun w => by kernel_rfl) ?_
        refine DR_e 4 11 (by kernel_rfl) (by kernel_rfl) (by kernel_rfl) (fun h2 H4 => ?_)
        have H5 : Hold h h2 [] := H4
        obtain ⟨x6, hx5, gs1⟩ := M.bind_some gs1
        refine E_call (f := 71) (args := #[.slice aa_ a_.length ca_]) (w_spec_l02Turn h2 a_ aa_ ca_ (ra_.at H5.ext) _ _ hx5) (by kernel_rfl) (fun v1 h3 hp1 => ?_)
        obtain ⟨a3, c3, rfl, H6⟩ := hp1
        have H7 : Hold h h3 [own cd23 a3 x6.length c3 x6] := H5.call H6 rfl
        refine ⟨fun x => Hold h x [own cd23 a3 x6.length c3 x6], fun x => Hold h x [own cd23 a3 x6.length c3 x6], H7, Hold.stable, fun x Hy => (show Hold h x [own cd23 a3 x6.length c3 x6] from Hy).pick [0] (by kernel_rfl), fun x Hy => (show Hold h x [own cd23 a3 x6.length c3 x6] from Hy).pick [] (by kernel_rfl), ?_⟩
        obtain ⟨x7, hx6, gs1⟩ := M.bind_some gs1
        refine DR_y 3 (i := 12) (.bool x7) (by kernel_rfl) (by kernel_rfl) (by kernel_rfl) (fun hx Hx => (YE.of (Y_callq (f := 70) (args := #[.slice a3 x6.length c3]) (v := .bool x7) (by kernel_rfl) (w_spec_l08Fits hx x6 a3 c3 (Hx.rd 0 rfl) _ _ hx6)))) ?_
        refine DR_b 0 [.bool (!x7), .bool (!x7), .bool (!x7)] 13 (by kernel_rfl) (by kernel_rfl) (by kernel_rfl) (fun w => by kernel_rfl) ?_
        refine DR_tail (i := 16) (by kernel_rfl) (by kernel_rfl) (by kernel_rfl) (fun h4 H8 => ?_)
        have H9 : Hold h h4 [own cd23 a3 x6.length c3 x6] := H8
        refine Run_nil (by kernel_rfl) ?_
        refine Run_keep [0, 1, 18] (L' := [(0, .slice aa_ a_.length ca_), (1, .slice ab b.length cb), (18, .bool (!x7))]) (by kernel_rfl) ?_
        have H11 : Hold h h4 [] := H9.pick [] (by kernel_rfl)
        have gs1 := M.ret_some gs1
        subst gs1
        exact Run_fall [0, 1, 18] (by kernel_rfl) ⟨rfl, H11⟩

set_option maxRecDepth 100000 in
set_option maxHeartbeats 4000000 in
theorem w_laws_likeInts (h : Heap) (a_ : List Int) {Sa_ : Bs} (aa_ : Option Addr) (ca_ : Nat) (ra_ : Rd cd2 h Sa_ aa_ ca_ a_) (b : List Int) {Sb : Bs} (ab : Option Addr) (cb : Nat) (rb : Rd cd2 h Sb ab cb b) (n : Nat) (r : Bool) (hF : laws_likeInts a_ b n = some r) :
    Fn Try.prog 47 #[.slice aa_ a_.length ca_, .slice ab b.length cb] h fun v h' => v = .bool r ∧ h' = h := by
  unfold laws_likeInts at hF
  refine Fn_enter (args := [.slice aa_ a_.length ca_, .slice ab b.length cb]) Try.func47 rfl (by kernel_rfl) (by kernel_rfl) (fun w0 _ => ?_)
  refine Run_seq ?_
  refine Run_reg 1 (by kernel_rfl) (L' := [(0, .slice aa_ a_.length ca_), (1, .slice ab b.length cb)]) ?_ ?_
  · refine QRun_b [.bool false] 0 _ (by kernel_rfl) (fun w => by kernel_rfl) ?_
    exact QRun_done [0, 1] (by kernel_rfl) (by kernel_rfl)
  refine Run_seq ?_
  refine Run_seq ?_
  refine Run_reg 5 (by kernel_rfl) (L' := [(0, .slice aa_ a_.length ca_), (1, .slice ab b.length cb), (10, .bool ((a_.length : Int) != (b.length : Int)))]) ?_ ?_
  · refine QRun_b [.slice aa_ a_.length ca_, .int .i64 (a_.length : Int), .slice ab b.length cb, .int .i64 (b.length : Int), .bool ((a_.length : Int) != (b.length : Int))] 0 _ (by kernel_rfl) (fun w => by kernel_rfl) ?_
    exact QRun_done [0, 1, 10] (by kernel_rfl) (by kernel_rfl)
  refine Run_cond (b := (a_.length : Int) != (b.length : Int)) (by kernel_rfl) (fun hb1 => ?_) (fun hb1 => ?_)
  · have hF := (M.ite_some hF).1 hb1
    refine Run_seq ?_
    refine Run_reg 1 (by kernel_rfl) (L' := [(4, .bool false)]) ?_ ?_
    · refine QRun_b [.bool false] 0 _ (by kernel_rfl) (fun w => by kernel_rfl) ?_
      exact QRun_done [4] (by kernel_rfl) (by kernel_rfl)
    have hF := M.ret_some hF
    subst hF
    exact Run_ret1 rfl (ResV_tmp (v := .bool false) (by kernel_rfl)) ⟨rfl, rfl⟩
  · have hF := (M.ite_some hF).2 hb1
    refine Run_skip ?_
    refine Run_seq ?_
    refine Run_seq ?_
    refine Run_reg 1 (by kernel_rfl) (L' := [(0, .slice aa_ a_.length ca_), (1, .slice ab b.length cb), (5, .int .i64 0)]) ?_ ?_
    · refine QRun_b [.int .i64 0] 0 _ (by kernel_rfl) (fun w => by kernel_rfl) ?_
      exact QRun_done [0, 1, 5] (by kernel_rfl) (by kernel_rfl)
    obtain ⟨x1, gx1, hF⟩ := M.bind_some hF
    obtain ⟨hloy1, hhiy1, gx1⟩ := M.for_start gx1
    refine Run_join (fun L' h' => ∃ (s2 : Unit), x1 = .inl s2 ∧ L' = [] ∧ h = h') ?_ ?_
    · rintro _ _ ⟨s2, es2, rfl, rfl⟩
      have hF := M.cont_inl' hF es2
      refine Run_seq ?_
      refine Run_reg 1 (by kernel_rfl) (L' := [(4, .bool true)]) ?_ ?_
      · refine QRun_b [.bool true] 0 _ (by kernel_rfl) (fun w => by kernel_rfl) ?_
        exact QRun_done [4] (by kernel_rfl) (by kernel_rfl)
      have hF := M.ret_some hF
      subst hF
      exact Run_ret1 rfl (ResV_tmp (v := .bool true) (by kernel_rfl)) ⟨rfl, rfl⟩
    · refine Run_block ?_
      refine Run_keep [0, 1, 5] (L' := [(0, .slice aa_ a_.length ca_), (1, .slice ab b.length cb), (5, .int .i64 0)]) (by kernel_rfl) ?_
      refine Run_loop (fun m L' h' => ∃ (i1 : Int) (s1 : Unit), 0 ≤ i1 ∧ M.forN (a_.length : Int) _ _ n m i1 s1 = some x1 ∧ L' = [(0, .slice aa_ a_.length ca_), (1, .slice ab b.length cb), (5, .int .i64 i1)] ∧ h = h') ((a_.length : Int) - 0 : Int).toNat ⟨0, (), Int.le_refl _, gx1, rfl, rfl⟩ ?_
      rintro my1 _ _ ⟨i1, s1, hloy1', gx1, rfl, rfl⟩
      refine Run_seq ?_
      refine Run_seq ?_
      refine Run_reg 4 (by kernel_rfl) (L' := [(0, .slice aa_ a_.length ca_), (1, .slice ab b.length cb), (5, .int .i64 i1), (14, .bool (decide (i1 < (a_.length : Int))))]) ?_ ?_
      · refine QRun_b [.int .i64 i1, .slice aa_ a_.length ca_, .int .i64 (a_.length : Int), .bool (decide (i1 < (a_.length : Int)))] 0 _ (by kernel_rfl) (fun w => by kernel_rfl) ?_
        exact QRun_done [0, 1, 5, 14] (by kernel_rfl) (by kernel_rfl)
      refine Run_cond (b := decide (i1 < (a_.length : Int))) (by kernel_rfl) (fun hb2 => ?_) (fun hb2 => ?_)
      · obtain ⟨my1, y1, rfl, hB1, hgoy1, houty1⟩ := M.for_go gx1 hb2
        have hlty1 := of_decide_eq_true hb2
        refine Run_skip ?_
        refine Run_seq ?_
        refine Run_block ?_
        refine Run_seq ?_
        obtain ⟨x2, hx1, hB1⟩ := M.bind_some hB1
        obtain ⟨hx1l, hx1u, hx1⟩ := M.idx_some hx1
        obtain ⟨x3, hx2, hB1⟩ := M.bind_some hB1
        obtain ⟨hx2l, hx2u, hx2⟩ := M.idx_some hx2
        refine Run_draw 9 mixed (by kernel_rfl) (by kernel_rfl) (L' := [(0, .slice aa_ a_.length ca_), (1, .slice ab b.length cb), (5, .int .i64 i1), (25, .bool (x2 != x3))]) ?_ ?_
        · refine QRun_b [.slice aa_ a_.length ca_, .int .i64 i1] 0 _ (by kernel_rfl) (fun w => by kernel_rfl) ?_
          refine QRun_y (.pointer (some (adr aa_ (i1.toNat * 1)))) (by kernel_rfl) (Y_idx (t := 23) (e := 2) (sz := 1) (a := aa_) (n := a_.length) (cap := ca_) (kk := .i64) (i := i1) (by kernel_rfl) Try.underlying23 (by kernel_rfl) (ra_.cell hx1).1 hx1l hx1u) ?_
          refine QRun_y (.int .i64 x2) (by kernel_rfl) (Y_load1 (t := 2) (p := adr aa_ (i1.toNat * 1)) (v := .int .i64 x2) (by kernel_rfl) (fun w => by kernel_rfl) (cd2_cell ra_ hx1)) ?_
          refine QRun_b [.slice ab b.length cb, .int .i64 i1] 4 _ (by kernel_rfl) (fun w => by kernel_rfl) ?_
          refine QRun_y (.pointer (some (adr ab (i1.toNat * 1)))) (by kernel_rfl) (Y_idx (t := 23) (e := 2) (sz := 1) (a := ab) (n := b.length) (cap := cb) (kk := .i64) (i := i1) (by kernel_rfl) Try.underlying23 (by kernel_rfl) (rb.cell hx2).1 hx2l hx2u) ?_
          refine QRun_y (.int .i64 x3) (by kernel_rfl) (Y_load1 (t := 2) (p := adr ab (i1.toNat * 1)) (v := .int .i64 x3) (by kernel_rfl) (fun w => by kernel_rfl) (cd2_cell rb hx2)) ?_
          refine QRun_b [.bool (x2 != x3)] 8 _ (by kernel_rfl) (fun w => by kernel_rfl) ?_
          exact QRun_done [0, 1, 5, 25] (by kernel_rfl) (by kernel_rfl)
        refine Run_cond (b := x2 != x3) (by kernel_rfl) (fun hb3 => ?_) (fun hb3 => ?_)
        · have hB1 := (M.ite_some hB1).1 hb3
          refine Run_seq ?_
          refine Run_reg 1 (by kernel_rfl) (L' := [(4, .bool false)]) ?_ ?_
          · refine QRun_b [.bool false] 0 _ (by kernel_rfl) (fun w => by kernel_rfl) ?_
            exact QRun_done [4] (by kernel_rfl) (by kernel_rfl)
          have hB1 := M.ret_some hB1
          have gx1 := houty1 _ hB1.symm
          have hF := M.cont_inr' hF gx1
          have hF := M.ret_some hF
          subst hF
          exact Run_ret1 rfl (ResV_tmp (v := .bool false) (by kernel_rfl)) ⟨rfl, rfl⟩
        · have hB1 := (M.ite_some hB1).2 hb3
          refine Run_skip ?_
          refine Run_blk ?_
          refine Run_reg 3 (by kernel_rfl) (L' := [(0, .slice aa_ a_.length ca_), (1, .slice ab b.length cb), (5, .int .i64 (i1 + 1))]) ?_ ?_
          · refine QRun_b [.int .i64 i1] 0 _ (by kernel_rfl) (fun w => by kernel_rfl) ?_
            refine QRun_y (.int .i64 (i1 + 1)) (by kernel_rfl) (Y_eq (v := .int .i64 (w64 (i1 + 1))) (Y_pure (fun w => by kernel_rfl)) (by rw [w64_eq _ (by omega)])) ?_
            refine QRun_b [.int .i64 (i1 + 1)] 2 _ (by kernel_rfl) (fun w => by kernel_rfl) ?_
            exact QRun_done [0, 1, 5] (by kernel_rfl) (by kernel_rfl)
          have hB1 := M.ret_some hB1
          have gx1 := hgoy1 _ hB1.symm
          exact Run_again [0, 1, 5] (by kernel_rfl) my1 (Nat.lt_succ_self _) ⟨i1 + 1, (), by omega, gx1, rfl, rfl⟩
      · have gx1 := M.for_end gx1 hb2
        subst gx1
        refine Run_exit (k' := _) rfl ?_
        exact Run_fall [] (by kernel_rfl) ⟨(), rfl, rfl, rfl⟩

set_option maxRecDepth 100000 in
set_option maxHeartbeats 4000000 in
theorem w_laws_likeTables9 (h : Heap) (a_ : List (List Int)) {Sa_ : Bs} (aa_ : Option Addr) (ca_ : Nat) (ra_ : Rd cd23 h Sa_ aa_ ca_ a_) (b : List (List Int)) {Sb : Bs} (ab : Option Addr) (cb : Nat) (rb : Rd cd23 h Sb ab cb b) (n : Nat) (r : Bool) (hF : laws_likeTables9 a_ b n = some r) :
    Fn Try.prog 43 #[.slice aa_ a_.length ca_, .slice ab b.length cb] h fun v h' => v = .bool r ∧ h' = h := by
  unfold laws_likeTables9 at hF
  refine Fn_enter (args := [.slice aa_ a_.length ca_, .slice ab b.length cb]) Try.func43 rfl (by kernel_rfl) (by kernel_rfl) (fun w0 _ => ?_)
  refine Run_seq ?_
  refine Run_reg 1 (by kernel_rfl) (L' := [(0, .slice aa_ a_.length ca_), (1, .slice ab b.length cb)]) ?_ ?_
  · refine QRun_b [.bool false] 0 _ (by kernel_rfl) (fun w => by kernel_rfl) ?_
    exact QRun_done [0, 1] (by kernel_rfl) (by kernel_rfl)
  refine Run_seq ?_
  refine Run_seq ?_
  refine Run_reg 5 (by kernel_rfl) (L' := [(0, .slice aa_ a_.length ca_), (1, .slice ab b.length cb), (10, .bool ((a_.length : Int) != (b.length : Int)))]) ?_ ?_
  · refine QRun_b [.slice aa_ a_.length ca_, .int .i64 (a_.length : Int), .slice ab b.length cb, .int .i64 (b.length : Int), .bool ((a_.length : Int) != (b.length : Int))] 0 _ (by kernel_rfl) (fun w => by kernel_rfl) ?_
    exact QRun_done [0, 1, 10] (by kernel_rfl) (by kernel_rfl)
  refine Run_cond (b := (a_.length : Int) != (b.length : Int)) (by kernel_rfl) (fun hb1 => ?_) (fun hb1 => ?_)
  · have hF := (M.ite_some hF).1 hb1
    refine Run_seq ?_
    refine Run_reg 1 (by kernel_rfl) (L' := [(4, .bool false)]) ?_ ?_
    · refine QRun_b [.bool false] 0 _ (by kernel_rfl) (fun w => by kernel_rfl) ?_
      exact QRun_done [4] (by kernel_rfl) (by kernel_rfl)
    have hF := M.ret_some hF
    subst hF
    exact Run_ret1 rfl (ResV_tmp (v := .bool false) (by kernel_rfl)) ⟨rfl, rfl⟩
  · have hF := (M.ite_some hF).2 hb1
    refine Run_skip ?_
    refine Run_seq ?_
    refine Run_seq ?_
    refine Run_reg 1 (by kernel_rfl) (L' := [(0, .slice aa_ a_.length ca_), (1, .slice ab b.length cb), (5, .int .i64 0)]) ?_ ?_
    · refine QRun_b [.int .i64 0] 0 _ (by kernel_rfl) (fun w => by kernel_rfl) ?_
      exact QRun_done [0, 1, 5] (by kernel_rfl) (by kernel_rfl)
    obtain ⟨x1, gx1, hF⟩ := M.bind_some hF
    obtain ⟨hloy1, hhiy1, gx1⟩ := M.for_start gx1
    refine Run_join (fun L' h' => ∃ (s2 : Unit), x1 = .inl s2 ∧ L' = [] ∧ h = h') ?_ ?_
    · rintro _ _ ⟨s2, es2, rfl, rfl⟩
      have hF := M.cont_inl' hF es2
      refine Run_seq ?_
      refine Run_reg 1 (by kernel_rfl) (L' := [(4, .bool true)]) ?_ ?_
      · refine QRun_b [.bool true] 0 _ (by kernel_rfl) (fun w => by kernel_rfl) ?_
        exact QRun_done [4] (by kernel_rfl) (by kernel_rfl)
      have hF := M.ret_some hF
      subst hF
      exact Run_ret1 rfl (ResV_tmp (v := .bool true) (by kernel_rfl)) ⟨rfl, rfl⟩
    · refine Run_block ?_
      refine Run_keep [0, 1, 5] (L' := [(0, .slice aa_ a_.length ca_), (1, .slice ab b.length cb), (5, .int .i64 0)]) (by kernel_rfl) ?_
      refine Run_loop (fun m L' h' => ∃ (i1 : Int) (s1 : Unit), 0 ≤ i1 ∧ M.forN (a_.length : Int) _ _ n m i1 s1 = some x1 ∧ L' = [(0, .slice aa_ a_.length ca_), (1, .slice ab b.length cb), (5, .int .i64 i1)] ∧ h = h') ((a_.length : Int) - 0 : Int).toNat ⟨0, (), Int.le_refl _, gx1, rfl, rfl⟩ ?_
      rintro my1 _ _ ⟨i1, s1, hloy1', gx1, rfl, rfl⟩
      refine Run_seq ?_
      refine Run_seq ?_
      refine Run_reg 4 (by kernel_rfl) (L' := [(0, .slice aa_ a_.length ca_), (1, .slice ab b.length cb), (5, .int .i64 i1), (14, .bool (decide (i1 < (a_.length : Int))))]) ?_ ?_
      · refine QRun_b [.int .i64 i1, .slice aa_ a_.length ca_, .int .i64 (a_.length : Int), .bool (decide (i1 < (a_.length : Int)))] 0 _ (by kernel_rfl) (fun w => by kernel_rfl) ?_
        exact QRun_done [0, 1, 5, 14] (by kernel_rfl) (by kernel_rfl)
      refine Run_cond (b := decide (i1 < (a_.length : Int))) (by kernel_rfl) (fun hb2 => ?_) (fun hb2 => ?_)
      · obtain ⟨my1, y1, rfl, hB1, hgoy1, houty1⟩ := M.for_go gx1 hb2
        have hlty1 := of_decide_eq_true hb2
        refine Run_skip ?_
        refine Run_seq ?_
        refine Run_block ?_
        refine Run_seq ?_
        obtain ⟨x2, hx1, hB1⟩ := M.bind_some hB1
        obtain ⟨hx1l, hx1u, hx1⟩ := M.idx_some hx1
        obtain ⟨a1, c1, hc1, r1⟩ := ra_.row hx1
        obtain ⟨x3, hx2, hB1⟩ := M.bind_some hB1
        obtain ⟨hx2l, hx2u, hx2⟩ := M.idx_some hx2
        obtain ⟨a2, c2, hc2, r2⟩ := rb.row hx2
        obtain ⟨x4, hx3, hB1⟩ := M.bind_some hB1
        refine Run_draw 10 mixed (by kernel_rfl) (by kernel_rfl) (L' := [(0, .slice aa_ a_.length ca_), (1, .slice ab b.length cb), (5, .int .i64 i1), (26, .bool (!x4))]) ?_ ?_
        · refine QRun_b [.slice aa_ a_.length ca_, .int .i64 i1] 0 _ (by kernel_rfl) (fun w => by kernel_rfl) ?_
          refine QRun_y (.pointer (some (adr aa_ (i1.toNat * 1)))) (by kernel_rfl) (Y_idx (t := 22) (e := 23) (sz := 1) (a := aa_) (n := a_.length) (cap := ca_) (kk := .i64) (i := i1) (by kernel_rfl) Try.underlying22 (by kernel_rfl) (ra_.cell hx1).1 hx1l hx1u) ?_
          refine QRun_y (.slice a1 x2.length c1) (by kernel_rfl) (Y_load1 (t := 23) (p := adr aa_ (i1.toNat * 1)) (v := .slice a1 x2.length c1) (by kernel_rfl) (fun w => by kernel_rfl) hc1) ?_
          refine QRun_b [.slice ab b.length cb, .int .i64 i1] 4 _ (by kernel_rfl) (fun w => by kernel_rfl) ?_
          refine QRun_y (.pointer (some (adr ab (i1.toNat * 1)))) (by kernel_rfl) (Y_idx (t := 22) (e := 23) (sz := 1) (a := ab) (n := b.length) (cap := cb) (kk := .i64) (i := i1) (by kernel_rfl) Try.underlying22 (by kernel_rfl) (rb.cell hx2).1 hx2l hx2u) ?_
          refine QRun_y (.slice a2 x3.length c2) (by kernel_rfl) (Y_load1 (t := 23) (p := adr ab (i1.toNat * 1)) (v := .slice a2 x3.length c2) (by kernel_rfl) (fun w => by kernel_rfl) hc2) ?_
          refine QRun_y (.bool x4) (by kernel_rfl) (Y_callq (f := 47) (args := #[.slice a1 x2.length c1, .slice a2 x3.length c2]) (v := .bool x4) (by kernel_rfl) (w_laws_likeInts h x2 a1 c1 r1 x3 a2 c2 r2 _ _ hx3)) ?_
          refine QRun_b [.bool (!x4)] 9 _ (by kernel_rfl) (fun w => by kernel_rfl) ?_
          exact QRun_done [0, 1, 5, 26] (by kernel_rfl) (by kernel_rfl)
        refine Run_cond (b := !x4) (by kernel_rfl) (fun hb3 => ?_) (fun hb3 => ?_)
        · have hB1 := (M.ite_some hB1).1 hb3
          refine Run_seq ?_
          refine Run_reg 1 (by kernel_rfl) (L' := [(4, .bool false)]) ?_ ?_
          · refine QRun_b [.bool false] 0 _ (by kernel_rfl) (fun w => by kernel_rfl) ?_
            exact QRun_done [4] (by kernel_rfl) (by kernel_rfl)
          have hB1 := M.ret_some hB1
          have gx1 := houty1 _ hB1.symm
          have hF := M.cont_inr' hF gx1
          have hF := M.ret_some hF
          subst hF
          exact Run_ret1 rfl (ResV_tmp (v := .bool false) (by kernel_rfl)) ⟨rfl, rfl⟩
        · have hB1 := (M.ite_some hB1).2 hb3
          refine Run_skip ?_
          refine Run_blk ?_
          refine Run_reg 3 (by kernel_rfl) (L' := [(0, .slice aa_ a_.length ca_), (1, .slice ab b.length cb), (5, .int .i64 (i1 + 1))]) ?_ ?_
          · refine QRun_b [.int .i64 i1] 0 _ (by kernel_rfl) (fun w => by kernel_rfl) ?_
            refine QRun_y (.int .i64 (i1 + 1)) (by kernel_rfl) (Y_eq (v := .int .i64 (w64 (i1 + 1))) (Y_pure (fun w => by kernel_rfl)) (by rw [w64_eq _ (by omega)])) ?_
            refine QRun_b [.int .i64 (i1 + 1)] 2 _ (by kernel_rfl) (fun w => by kernel_rfl) ?_
            exact QRun_done [0, 1, 5] (by kernel_rfl) (by kernel_rfl)
          have hB1 := M.ret_some hB1
          have gx1 := hgoy1 _ hB1.symm
          exact Run_again [0, 1, 5] (by kernel_rfl) my1 (Nat.lt_succ_self _) ⟨i1 + 1, (), by omega, gx1, rfl, rfl⟩
      · have gx1 := M.for_end gx1 hb2
        subst gx1
        refine Run_exit (k' := _) rfl ?_
        exact Run_fall [] (by kernel_rfl) ⟨(), rfl, rfl, rfl⟩

set_option maxRecDepth 100000 in
set_option maxHeartbeats 4000000 in
theorem w_impl_multiply_1 (h : Heap) (i : Int) (j : Int) (z0 : List (List Int)) {Sz0 : Bs} (az0 : Option Addr) (cz0 : Nat) (rz0 : Rd cd23 h Sz0 az0 cz0 z0) (bz0 : Nat) (vz0 : VarAt h bz0 22 [.slice az0 z0.length cz0]) (z1 : List (List Int)) {Sz1 : Bs} (az1 : Option Addr) (cz1 : Nat) (rz1 : Rd cd23 h Sz1 az1 cz1 z1) (bz1 : Nat) (vz1 : VarAt h bz1 22 [.slice az1 z1.length cz1]) (n : Nat) (r : Int) (hF : impl_multiply_1 i j z0 z1 n = some r) :
    Fn Try.prog 114 #[.int .i64 i, .int .i64 j, .pointer (some ⟨bz0, 0, none⟩), .pointer (some ⟨bz1, 0, none⟩)] h fun v h' => v = .int .i64 r ∧ h' = h := by
  unfold impl_multiply_1 at hF
  refine Fn_enter (args := [.int .i64 i, .int .i64 j, .pointer (some ⟨bz0, 0, none⟩), .pointer (some ⟨bz1, 0, none⟩)]) Try.func114 rfl (by kernel_rfl) (by kernel_rfl) (fun w0 _ => ?_)
  refine Run_seq ?_
  refine Run_reg 1 (by kernel_rfl) (L' := [(0, .int .i64 i), (1, .int .i64 j), (2, .pointer (some ⟨bz0, 0, none⟩)), (3, .pointer (some ⟨bz1, 0, none⟩))]) ?_ ?_
  · refine QRun_b [.int .i64 0] 0 _ (by kernel_rfl) (fun w => by kernel_rfl) ?_
    exact QRun_done [0, 1, 2, 3] (by kernel_rfl) (by kernel_rfl)
  refine Run_seq ?_
  refine Run_reg 1 (by kernel_rfl) (L' := [(0, .int .i64 i), (1, .int .i64 j), (2, .pointer (some ⟨bz0, 0, none⟩)), (3, .pointer (some ⟨bz1, 0, none⟩)), (7, .int .i64 (-1000000000000000))]) ?_ ?_
  · refine QRun_b [.int .i64 (-1000000000000000)] 0 _ (by kernel_rfl) (fun w => by kernel_rfl) ?_
    exact QRun_done [0, 1, 2, 3, 7] (by kernel_rfl) (by kernel_rfl)
  refine Run_seq ?_
  refine Run_seq ?_
  obtain ⟨x1, hx1, hF⟩ := M.bind_some hF
  obtain ⟨hx1l, hx1u, hx1⟩ := M.idx_some hx1
  obtain ⟨a1, c1, hc1, r1⟩ := rz0.row hx1
  refine Run_reg 6 (by kernel_rfl) (L' := [(1, .int .i64 j), (3, .pointer (some ⟨bz1, 0, none⟩)), (7, .int .i64 (-1000000000000000)), (13, .slice a1 x1.length c1), (14, .int .i64 (x1.length : Int)), (15, .int .i64 0)]) ?_ ?_
  · refine QRun_y (.slice az0 z0.length cz0) (by kernel_rfl) (Y_load1 (t := 22) (p := ⟨bz0, 0, none⟩) (v := .slice az0 z0.length cz0) (by kernel_rfl) (fun w => by kernel_rfl) (VarAt.cell vz0 rfl)) ?_
    refine QRun_b [.int .i64 i] 1 _ (by kernel_rfl) (fun w => by kernel_rfl) ?_
    refine QRun_y (.pointer (some (adr az0 (i.toNat * 1)))) (by kernel_rfl) (Y_idx (t := 22) (e := 23) (sz := 1) (a := az0) (n := z0.length) (cap := cz0) (kk := .i64) (i := i) (by kernel_rfl) Try.underlying22 (by kernel_rfl) (rz0.cell hx1).1 hx1l hx1u) ?_
    refine QRun_y (.slice a1 x1.length c1) (by kernel_rfl) (Y_load1 (t := 23) (p := adr az0 (i.toNat * 1)) (v := .slice a1 x1.length c1) (by kernel_rfl) (fun w => by kernel_rfl) hc1) ?_
    refine QRun_b [.int .i64 (x1.length : Int), .int .i64 0] 4 _ (by kernel_rfl) (fun w => by kernel_rfl) ?_
    exact QRun_done [1, 3, 7, 13, 14, 15] (by kernel_rfl) (by kernel_rfl)
  obtain ⟨x2, gx2, hF⟩ := M.bind_some hF
  obtain ⟨hloy1, hhiy1, gx2⟩ := M.for_start gx2
  refine Run_join (fun L' h' => L' = [(7, .int .i64 x2)] ∧ h = h') ?_ ?_
  · rintro _ _ ⟨rfl, rfl⟩
    refine Run_seq ?_
    refine Run_reg 2 (by kernel_rfl) (L' := [(6, .int .i64 x2)]) ?_ ?_
    · refine QRun_b [.int .i64 x2, .int .i64 x2] 0 _ (by kernel_rfl) (fun w => by kernel_rfl) ?_
      exact QRun_done [6] (by kernel_rfl) (by kernel_rfl)
    have hF := M.ret_some hF
    subst hF
    exact Run_ret1 rfl (ResV_tmp (v := .int .i64 x2) (by kernel_rfl)) ⟨rfl, rfl⟩
  · refine Run_block ?_
    refine Run_keep [1, 3, 7, 13, 14, 15] (L' := [(1, .int .i64 j), (3, .pointer (some ⟨bz1, 0, none⟩)), (7, .int .i64 (-1000000000000000)), (13, .slice a1 x1.length c1), (14, .int .i64 (x1.length : Int)), (15, .int .i64 0)]) (by kernel_rfl) ?_
    refine Run_loop (fun m L' h' => ∃ (i1 : Int) (s1 : Int), 0 ≤ i1 ∧ M.forN (x1.length : Int) _ _ n m i1 s1 = some x2 ∧ L' = [(1, .int .i64 j), (3, .pointer (some ⟨bz1, 0, none⟩)), (7, .int .i64 s1), (13, .slice a1 x1.length c1), (14, .int .i64 (x1.length : Int)), (15, .int .i64 i1)] ∧ h = h') ((x1.length : Int) - 0 : Int).toNat ⟨0, (-1000000000000000), Int.le_refl _, gx2, rfl, rfl⟩ ?_
    rintro my1 _ _ ⟨i1, s1, hloy1', gx2, rfl, rfl⟩
    refine Run_seq ?_
    refine Run_reg 1 (by kernel_rfl) (L' := [(1, .int .i64 j), (3, .pointer (some ⟨bz1, 0, none⟩)), (7, .int .i64 s1), (13, .slice a1 x1.length c1), (14, .int .i64 (x1.length : Int)), (15, .int .i64 i1), (16, .bool (decide (i1 < (x1.length : Int))))]) ?_ ?_
    · refine QRun_b [.bool (decide (i1 < (x1.length : Int)))] 0 _ (by kernel_rfl) (fun w => by kernel_rfl) ?_
      exact QRun_done [1, 3, 7, 13, 14, 15, 16] (by kernel_rfl) (by kernel_rfl)
    refine Run_seq ?_
    refine Run_cond (b := decide (i1 < (x1.length : Int))) (by kernel_rfl) (fun hb1 => ?_) (fun hb1 => ?_)
    · obtain ⟨my1, y1, rfl, hB1, hgoy1, houty1⟩ := M.for_go gx2 hb1
      have hlty1 := of_decide_eq_true hb1
      refine Run_skip ?_
      refine Run_seq ?_
      refine Run_block ?_
      refine Run_seq ?_
      obtain ⟨x3, hx2, hB1⟩ := M.bind_some hB1
      obtain ⟨hx2l, hx2u, hx2⟩ := M.idx_some hx2
      refine Run_reg 5 (by kernel_rfl) (L' := [(1, .int .i64 j), (3, .pointer (some ⟨bz1, 0, none⟩)), (7, .int .i64 s1), (8, .int .i64 i1), (9, .int .i64 x3), (13, .slice a1 x1.length c1), (14, .int .i64 (x1.length : Int)), (15, .int .i64 i1)]) ?_ ?_
      · refine QRun_b [.int .i64 i1] 0 _ (by kernel_rfl) (fun w => by kernel_rfl) ?_
        refine QRun_y (.pointer (some (adr a1 (i1.toNat * 1)))) (by kernel_rfl) (Y_idx (t := 23) (e := 2) (sz := 1) (a := a1) (n := x1.length) (cap := c1) (kk := .i64) (i := i1) (by kernel_rfl) Try.underlying23 (by kernel_rfl) (r1.cell hx2).1 hx2l hx2u) ?_
        refine QRun_y (.int .i64 x3) (by kernel_rfl) (Y_load1 (t := 2) (p := adr a1 (i1.toNat * 1)) (v := .int .i64 x3) (by kernel_rfl) (fun w => by kernel_rfl) (cd2_cell r1 hx2)) ?_
        refine QRun_b [.int .i64 i1, .int .i64 x3] 3 _ (by kernel_rfl) (fun w => by kernel_rfl) ?_
        exact QRun_done [1, 3, 7, 8, 9, 13, 14, 15] (by kernel_rfl) (by kernel_rfl)
      obtain ⟨x4, hx3, hB1⟩ := M.bind_some hB1
      obtain ⟨hx3l, hx3u, hx3⟩ := M.idx_some hx3
      obtain ⟨a2, c2, hc2, r2⟩ := rz1.row hx3
      obtain ⟨x5, hx4, hB1⟩ := M.bind_some hB1
      obtain ⟨hx4l, hx4u, hx4⟩ := M.idx_some hx4
      obtain ⟨x6, hx5, hB1⟩ := M.bind_some hB1
      refine Run_reg 12 (by kernel_rfl) (L' := [(1, .int .i64 j), (3, .pointer (some ⟨bz1, 0, none⟩)), (7, .int .i64 (mx s1 x6)), (13, .slice a1 x1.length c1), (14, .int .i64 (x1.length : Int)), (15, .int .i64 i1)]) ?_ ?_
      · refine QRun_b [.int .i64 s1, .int .i64 x3] 0 _ (by kernel_rfl) (fun w => by kernel_rfl) ?_
        refine QRun_y (.slice az1 z1.length cz1) (by kernel_rfl) (Y_load1 (t := 22) (p := ⟨bz1, 0, none⟩) (v := .slice az1 z1.length cz1) (by kernel_rfl) (fun w => by kernel_rfl) (VarAt.cell vz1 rfl)) ?_
        refine QRun_b [.int .i64 i1] 3 _ (by kernel_rfl) (fun w => by kernel_rfl) ?_
        refine QRun_y (.pointer (some (adr az1 (i1.toNat * 1)))) (by kernel_rfl) (Y_idx (t := 22) (e := 23) (sz := 1) (a := az1) (n := z1.length) (cap := cz1) (kk := .i64) (i := i1) (by kernel_rfl) Try.underlying22 (by kernel_rfl) (rz1.cell hx3).1 hx3l hx3u) ?_
        refine QRun_y (.slice a2 x4.length c2) (by kernel_rfl) (Y_load1 (t := 23) (p := adr az1 (i1.toNat * 1)) (v := .slice a2 x4.length c2) (by kernel_rfl) (fun w => by kernel_rfl) hc2) ?_
        refine QRun_b [.int .i64 j] 6 _ (by kernel_rfl) (fun w => by kernel_rfl) ?_
        refine QRun_y (.pointer (some (adr a2 (j.toNat * 1)))) (by kernel_rfl) (Y_idx (t := 23) (e := 2) (sz := 1) (a := a2) (n := x4.length) (cap := c2) (kk := .i64) (i := j) (by kernel_rfl) Try.underlying23 (by kernel_rfl) (r2.cell hx4).1 hx4l hx4u) ?_
        refine QRun_y (.int .i64 x5) (by kernel_rfl) (Y_load1 (t := 2) (p := adr a2 (j.toNat * 1)) (v := .int .i64 x5) (by kernel_rfl) (fun w => by kernel_rfl) (cd2_cell r2 hx4)) ?_
        refine QRun_y (.int .i64 x6) (by kernel_rfl) (Y_callq (f := 89) (args := #[.int .i64 x3, .int .i64 x5]) (v := .int .i64 x6) (by kernel_rfl) (w_impl_times h x3 x5 _ _ hx5)) ?_
        refine QRun_b [.int .i64 (mx s1 x6), .int .i64 (mx s1 x6)] 10 _ (by kernel_rfl) (fun w => by kernel_rfl) ?_
        exact QRun_done [1, 3, 7, 13, 14, 15] (by kernel_rfl) (by kernel_rfl)
      refine Run_blk ?_
      refine Run_reg 2 (by kernel_rfl) (L' := [(1, .int .i64 j), (3, .pointer (some ⟨bz1, 0, none⟩)), (7, .int .i64 (mx s1 x6)), (13, .slice a1 x1.length c1), (14, .int .i64 (x1.length : Int)), (15, .int .i64 (i1 + 1))]) ?_ ?_
      · refine QRun_y (.int .i64 (i1 + 1)) (by kernel_rfl) (Y_eq (v := .int .i64 (w64 (i1 + 1))) (Y_pure (fun w => by kernel_rfl)) (by rw [w64_eq _ (by omega)])) ?_
        refine QRun_b [.int .i64 (i1 + 1)] 1 _ (by kernel_rfl) (fun w => by kernel_rfl) ?_
        exact QRun_done [1, 3, 7, 13, 14, 15] (by kernel_rfl) (by kernel_rfl)
      have hB1 := M.ret_some hB1
      have gx2 := hgoy1 _ hB1.symm
      exact Run_again [1, 3, 7, 13, 14, 15] (by kernel_rfl) my1 (Nat.lt_succ_self _) ⟨i1 + 1, (mx s1 x6), by omega, gx2, rfl, rfl⟩
    · have gx2 := M.for_end gx2 hb1
      subst gx2
      refine Run_exit (k' := _) rfl ?_
      exact Run_fall [7] (by kernel_rfl) ⟨rfl, rfl⟩

set_option maxRecDepth 100000 in
set_option maxHeartbeats 4000000 in
theorem w_impl_matrixBy_F_impl_multiply_1 (h : Heap) (m_ : Int) (n_ : Int) (entry0 : List (List Int)) (aentry0 : Option Addr) (centry0 : Nat) (rentry0 : Rd cd23 h (Lt h) aentry0 centry0 entry0) (bentry0 : Nat) (ventry0 : VarAt h bentry0 22 [.slice aentry0 entry0.length centry0]) (entry1 : List (List Int)) (aentry1 : Option Addr) (centry1 : Nat) (rentry1 : Rd cd23 h (Lt h) aentry1 centry1 entry1) (bentry1 : Nat) (ventry1 : VarAt h bentry1 22 [.slice aentry1 entry1.length centry1]) (n : Nat) (r : (List (List Int))) (hF : impl_matrixBy_F_impl_multiply_1 m_ n_ entry0 entry1 n = some r) :
    Fn Try.prog 108 #[.int .i64 m_, .int .i64 n_, .func (.func 114) #[] #[.pointer (some ⟨bentry0, 0, none⟩), .pointer (some ⟨bentry1, 0, none⟩)]] h fun v h' => ∃ (a0 : Option Addr) (c0 : Nat), v = .slice a0 r.length c0 ∧ Hold h h' [own cd23 a0 r.length c0 r] := by
  unfold impl_matrixBy_F_impl_multiply_1 at hF
  refine Fn_enter (args := [.int .i64 m_, .int .i64 n_, .func (.func 114) #[] #[.pointer (some ⟨bentry0, 0, none⟩), .pointer (some ⟨bentry1, 0, none⟩)]]) Try.func108 rfl (by kernel_rfl) (by kernel_rfl) (fun w0 _ => ?_)
  have H0 := Hold.init h
  refine Run_seq ?_
  refine Run_reg 1 (by kernel_rfl) (L' := [(0, .int .i64 m_), (1, .int .i64 n_), (2, .func (.func 114) #[] #[.pointer (some ⟨bentry0, 0, none⟩), .pointer (some ⟨bentry1, 0, none⟩)])]) ?_ ?_
  · refine QRun_b [.slice none 0 0] 0 _ (by kernel_rfl) (fun w => by kernel_rfl) ?_
    exact QRun_done [0, 1, 2] (by kernel_rfl) (by kernel_rfl)
  refine Run_seq ?_
  refine Run_ops ?_
  refine Run_b [.int .i64 m_] 0 _ (by kernel_rfl) (fun w => by kernel_rfl) ?_
  obtain ⟨l1, hl1, hF⟩ := M.bind_some hF
  have hl1 := M.make_some hl1
  refine Run_E (by kernel_rfl) ?_
  refine E_make cd23 [] (kl := .i64) (kc := .i64) H0 cd23_ti Try.underlying22 (by decide) cd23_zero (by kernel_rfl) hl1 (fun a1 h1 H1 => ?_)
  refine Run_b [.slice a1 l1.length l1.length] 2 _ (by kernel_rfl) (fun w => by kernel_rfl) ?_
  refine Run_nil (by kernel_rfl) ?_
  refine Run_keep [1, 2, 7] (L' := [(1, .int .i64 n_), (2, .func (.func 114) #[] #[.pointer (some ⟨bentry0, 0, none⟩), .pointer (some ⟨bentry1, 0, none⟩)]), (7, .slice a1 l1.length l1.length)]) (by kernel_rfl) ?_
  refine Run_seq ?_
  refine Run_seq ?_
  refine Run_reg 3 (by kernel_rfl) (L' := [(1, .int .i64 n_), (2, .func (.func 114) #[] #[.pointer (some ⟨bentry0, 0, none⟩), .pointer (some ⟨bentry1, 0, none⟩)]), (7, .slice a1 l1.length l1.length), (13, .int .i64 (l1.length : Int)), (14, .int .i64 0)]) ?_ ?_
  · refine QRun_b [.slice a1 l1.length l1.length, .int .i64 (l1.length : Int), .int .i64 0] 0 _ (by kernel_rfl) (fun w => by kernel_rfl) ?_
    exact QRun_done [1, 2, 7, 13, 14] (by kernel_rfl) (by kernel_rfl)
  obtain ⟨x1, gx1, hF⟩ := M.bind_some hF
  obtain ⟨hloy1, hhiy1, gx1⟩ := M.for_start gx1
  refine Run_join (fun L' h' => L' = [(7, .slice a1 l1.length l1.length)] ∧ Hold h h' [own cd23 a1 l1.length l1.length x1]) ?_ ?_
  · rintro _ h3 ⟨rfl, H3⟩
    refine Run_seq ?_
    refine Run_reg 2 (by kernel_rfl) (L' := [(6, .slice a1 l1.length l1.length)]) ?_ ?_
    · refine QRun_b [.slice a1 l1.length l1.length, .slice a1 l1.length l1.length] 0 _ (by kernel_rfl) (fun w => by kernel_rfl) ?_
      exact QRun_done [6] (by kernel_rfl) (by kernel_rfl)
    have hF := M.ret_some hF
    subst hF
    have H20 := H3.norm
    exact Run_ret1 rfl (ResV_tmp (v := .slice a1 l1.length l1.length) (by kernel_rfl)) ⟨a1, l1.length, (by simp only [(H3.len 0 rfl)]), H20⟩
  · refine Run_block ?_
    refine Run_keep [1, 2, 7, 13, 14] (L' := [(1, .int .i64 n_), (2, .func (.func 114) #[] #[.pointer (some ⟨bentry0, 0, none⟩), .pointer (some ⟨bentry1, 0, none⟩)]), (7, .slice a1 l1.length l1.length), (13, .int .i64 (l1.length : Int)), (14, .int .i64 0)]) (by kernel_rfl) ?_
    refine Run_loop (fun m L' h' => ∃ (i1 : Int) (s1 : (List (List Int))), 0 ≤ i1 ∧ M.forN (l1.length : Int) _ _ n m i1 s1 = some x1 ∧ L' = [(1, .int .i64 n_), (2, .func (.func 114) #[] #[.pointer (some ⟨bentry0, 0, none⟩), .pointer (some ⟨bentry1, 0, none⟩)]), (7, .slice a1 l1.length l1.length), (13, .int .i64 (l1.length : Int)), (14, .int .i64 i1)] ∧ Hold h h' [own cd23 a1 l1.length l1.length s1]) ((l1.length : Int) - 0 : Int).toNat ⟨0, l1, Int.le_refl _, gx1, rfl, H1⟩ ?_
    rintro my1 _ h2 ⟨i1, s1, hloy1', gx1, rfl, H2⟩
    refine Run_seq ?_
    refine Run_reg 1 (by kernel_rfl) (L' := [(1, .int .i64 n_), (2, .func (.func 114) #[] #[.pointer (some ⟨bentry0, 0, none⟩), .pointer (some ⟨bentry1, 0, none⟩)]), (7, .slice a1 l1.length l1.length), (13, .int .i64 (l1.length : Int)), (14, .int .i64 i1), (15, .bool (decide (i1 < (l1.length : Int))))]) ?_ ?_
    · refine QRun_b [.bool (decide (i1 < (l1.length : Int)))] 0 _ (by kernel_rfl) (fun w => by kernel_rfl) ?_
      exact QRun_done [1, 2, 7, 13, 14, 15] (by kernel_rfl) (by kernel_rfl)
    refine Run_seq ?_
    refine Run_cond (b := decide (i1 < (l1.length : Int))) (by kernel_rfl) (fun hb1 => ?_) (fun hb1 => ?_)
    · obtain ⟨my1, y1, rfl, hB1, hgoy1, houty1⟩ := M.for_go gx1 hb1
      have hlty1 := of_decide_eq_true hb1
      refine Run_skip ?_
      refine Run_seq ?_
      refine Run_block ?_
      refine Run_seq ?_
      refine Run_reg 2 (by kernel_rfl) (L' := [(1, .int .i64 n_), (2, .func (.func 114) #[] #[.pointer (some ⟨bentry0, 0, none⟩), .pointer (some ⟨bentry1, 0, none⟩)]), (7, .slice a1 l1.length l1.length), (8, .int .i64 i1), (13, .int .i64 (l1.length : Int)), (14, .int .i64 i1)]) ?_ ?_
      · refine QRun_b [.int .i64 i1, .int .i64 i1] 0 _ (by kernel_rfl) (fun w => by kernel_rfl) ?_
        exact QRun_done [1, 2, 7, 8, 13, 14] (by kernel_rfl) (by kernel_rfl)
      refine Run_seq ?_
      refine Run_ops ?_
      refine Run_b [.slice a1 l1.length l1.length, .int .i64 i1, .int .i64 n_] 0 _ (by kernel_rfl) (fun w => by kernel_rfl) ?_
      obtain ⟨l2, hl2, hB1⟩ := M.bind_some hB1
      have hl2 := M.make_some hl2
      refine Run_E (by kernel_rfl) ?_
      refine E_make cd2 0 (kl := .i64) (kc := .i64) H2 cd2_ti Try.underlying23 (by decide) cd2_zero (by kernel_rfl) hl2 (fun a2 h4 H4 => ?_)
      obtain ⟨x2, hx1, hB1⟩ := M.bind_some hB1
      obtain ⟨hx1l, hx1u, hx1⟩ := M.idx_some hx1
      refine Run_y (.pointer (some (adr a1 (i1.toNat * 1)))) (by kernel_rfl) (Y_idx (t := 22) (e := 23) (sz := 1) (a := a1) (n := l1.length) (cap := l1.length) (kk := .i64) (i := i1) (by kernel_rfl) Try.underlying22 (by kernel_rfl) ((H4.rd 1 rfl).cell hx1).1 hx1l (by rw [← (H4.len 1 rfl)]; exact hx1u)) ?_
      obtain ⟨l3, hu1, hB1⟩ := M.bind_some hB1
      have hu1 := M.upd_some hu1
      have H6 : Hold h h4 [own cd23 a1 l1.length l1.length s1, own cd2 a2 l2.length l2.length l2] := H4.pick [1, 0] (by kernel_rfl)
      have H7 : Hold h h4 [own cd2 a2 l2.length l2.length l2, own cd23 a1 l1.length l1.length s1] := H6.pick [1, 0] (by kernel_rfl)
      have H8 : Hold h h4 [own cd23 a1 l1.length l1.length s1, own cd2 a2 l2.length l2.length l2] := H7.pick [1, 0] (by kernel_rfl)
      refine Run_E (by kernel_rfl) ?_
      refine E_putRow (t := 23) (j := i1) H8 (by kernel_rfl) (by kernel_rfl) hu1 (fun h5 H5 => ?_)
      refine Run_nil (by kernel_rfl) ?_
      refine Run_keep [1, 2, 7, 8, 13, 14] (L' := [(1, .int .i64 n_), (2, .func (.func 114) #[] #[.pointer (some ⟨bentry0, 0, none⟩), .pointer (some ⟨bentry1, 0, none⟩)]), (7, .slice a1 l1.length l1.length), (8, .int .i64 i1), (13, .int .i64 (l1.length : Int)), (14, .int .i64 i1)]) (by kernel_rfl) ?_
      refine Run_seq ?_
      obtain ⟨x3, hx2, hB1⟩ := M.bind_some hB1
      obtain ⟨hx2l, hx2u, hx2⟩ := M.idx_some hx2
      have H9 := H5.toRows
      obtain ⟨a3, c1, H10⟩ := H9.pinRow hx2
      refine Run_reg 6 (by kernel_rfl) (L' := [(1, .int .i64 n_), (2, .func (.func 114) #[] #[.pointer (some ⟨bentry0, 0, none⟩), .pointer (some ⟨bentry1, 0, none⟩)]), (7, .slice a1 l1.length l1.length), (8, .int .i64 i1), (13, .int .i64 (l1.length : Int)), (14, .int .i64 i1), (26, .int .i64 (x3.length : Int)), (27, .int .i64 0)]) ?_ ?_
      · refine QRun_b [.slice a1 l1.length l1.length, .int .i64 i1] 0 _ (by kernel_rfl) (fun w => by kernel_rfl) ?_
        refine QRun_y (.pointer (some (adr a1 (i1.toNat * 1)))) (by kernel_rfl) (Y_idx (t := 22) (e := 23) (sz := 1) (a := a1) (n := l1.length) (cap := l1.length) (kk := .i64) (i := i1) (by kernel_rfl) Try.underlying22 (by kernel_rfl) ((H5.rd 0 rfl).cell hx2).1 hx2l (by rw [← (H5.len 0 rfl)]; exact hx2u)) ?_
        refine QRun_y (.slice a3 x3.length c1) (by kernel_rfl) (Y_load1 (t := 23) (p := adr a1 (i1.toNat * 1)) (v := .slice a3 x3.length c1) (by kernel_rfl) (fun w => by kernel_rfl) (H10.cellPin 0 rfl 0 rfl)) ?_
        refine QRun_b [.int .i64 (x3.length : Int), .int .i64 0] 4 _ (by kernel_rfl) (fun w => by kernel_rfl) ?_
        exact QRun_done [1, 2, 7, 8, 13, 14, 26, 27] (by kernel_rfl) (by kernel_rfl)
      obtain ⟨x4, gx4, hB1⟩ := M.bind_some hB1
      obtain ⟨hloy2, hhiy2, gx4⟩ := M.for_start gx4
      refine Run_join (fun L' h' => L' = [(1, .int .i64 n_), (2, .func (.func 114) #[] #[.pointer (some ⟨bentry0, 0, none⟩), .pointer (some ⟨bentry1, 0, none⟩)]), (7, .slice a1 l1.length l1.length), (13, .int .i64 (l1.length : Int)), (14, .int .i64 i1)] ∧ Hold h h' [own cd23 a1 l1.length l1.length x4]) ?_ ?_
      · rintro _ h7 ⟨rfl, H12⟩
        refine Run_blk ?_
        refine Run_reg 2 (by kernel_rfl) (L' := [(1, .int .i64 n_), (2, .func (.func 114) #[] #[.pointer (some ⟨bentry0, 0, none⟩), .pointer (some ⟨bentry1, 0, none⟩)]), (7, .slice a1 l1.length l1.length), (13, .int .i64 (l1.length : Int)), (14, .int .i64 (i1 + 1))]) ?_ ?_
        · refine QRun_y (.int .i64 (i1 + 1)) (by kernel_rfl) (Y_eq (v := .int .i64 (w64 (i1 + 1))) (Y_pure (fun w => by kernel_rfl)) (by rw [w64_eq _ (by omega)])) ?_
          refine QRun_b [.int .i64 (i1 + 1)] 1 _ (by kernel_rfl) (fun w => by kernel_rfl) ?_
          exact QRun_done [1, 2, 7, 13, 14] (by kernel_rfl) (by kernel_rfl)
        have hB1 := M.ret_some hB1
        have gx1 := hgoy1 _ hB1.symm
        exact Run_again [1, 2, 7, 13, 14] (by kernel_rfl) my1 (Nat.lt_succ_self _) ⟨i1 + 1, x4, by omega, gx1, rfl, H12⟩
      · refine Run_block ?_
        have H19 := H10.ofRows
        refine Run_keep [1, 2, 7, 8, 13, 14, 26, 27] (L' := [(1, .int .i64 n_), (2, .func (.func 114) #[] #[.pointer (some ⟨bentry0, 0, none⟩), .pointer (some ⟨bentry1, 0, none⟩)]), (7, .slice a1 l1.length l1.length), (8, .int .i64 i1), (13, .int .i64 (l1.length : Int)), (14, .int .i64 i1), (26, .int .i64 (x3.length : Int)), (27, .int .i64 0)]) (by kernel_rfl) ?_
        refine Run_loop (fun m L' h' => ∃ (i2 : Int) (s2 : (List (List Int))), 0 ≤ i2 ∧ M.forN (x3.length : Int) _ _ n m i2 s2 = some x4 ∧ L' = [(1, .int .i64 n_), (2, .func (.func 114) #[] #[.pointer (some ⟨bentry0, 0, none⟩), .pointer (some ⟨bentry1, 0, none⟩)]), (7, .slice a1 l1.length l1.length), (8, .int .i64 i1), (13, .int .i64 (l1.length : Int)), (14, .int .i64 i1), (26, .int .i64 (x3.length : Int)), (27, .int .i64 i2)] ∧ Hold h h' [own cd23 a1 l1.length l1.length s2]) ((x3.length : Int) - 0 : Int).toNat ⟨0, l3, Int.le_refl _, gx4, rfl, H19⟩ ?_
        rintro my2 _ h6 ⟨i2, s2, hloy2', gx4, rfl, H11⟩
        refine Run_seq ?_
        refine Run_reg 1 (by kernel_rfl) (L' := [(1, .int .i64 n_), (2, .func (.func 114) #[] #[.pointer (some ⟨bentry0, 0, none⟩), .pointer (some ⟨bentry1, 0, none⟩)]), (7, .slice a1 l1.length l1.length), (8, .int .i64 i1), (13, .int .i64 (l1.length : Int)), (14, .int .i64 i1), (26, .int .i64 (x3.length : Int)), (27, .int .i64 i2), (28, .bool (decide (i2 < (x3.length : Int))))]) ?_ ?_
        · refine QRun_b [.bool (decide (i2 < (x3.length : Int)))] 0 _ (by kernel_rfl) (fun w => by kernel_rfl) ?_
          exact QRun_done [1, 2, 7, 8, 13, 14, 26, 27, 28] (by kernel_rfl) (by kernel_rfl)
        refine Run_seq ?_
        refine Run_cond (b := decide (i2 < (x3.length : Int))) (by kernel_rfl) (fun hb2 => ?_) (fun hb2 => ?_)
        · obtain ⟨my2, y2, rfl, hB2, hgoy2, houty2⟩ := M.for_go gx4 hb2
          have hlty2 := of_decide_eq_true hb2
          refine Run_skip ?_
          refine Run_seq ?_
          refine Run_block ?_
          refine Run_seq ?_
          refine Run_reg 2 (by kernel_rfl) (L' := [(1, .int .i64 n_), (2, .func (.func 114) #[] #[.pointer (some ⟨bentry0, 0, none⟩), .pointer (some ⟨bentry1, 0, none⟩)]), (7, .slice a1 l1.length l1.length), (8, .int .i64 i1), (9, .int .i64 i2), (13, .int .i64 (l1.length : Int)), (14, .int .i64 i1), (26, .int .i64 (x3.length : Int)), (27, .int .i64 i2)]) ?_ ?_
          · refine QRun_b [.int .i64 i2, .int .i64 i2] 0 _ (by kernel_rfl) (fun w => by kernel_rfl) ?_
            exact QRun_done [1, 2, 7, 8, 9, 13, 14, 26, 27] (by kernel_rfl) (by kernel_rfl)
          obtain ⟨x5, hx3, hB2⟩ := M.bind_some hB2
          obtain ⟨hx3l, hx3u, hx3⟩ := M.idx_some hx3
          have H13 := H11.toRows
          obtain ⟨a4, c2, H14⟩ := H13.pinRow hx3
          obtain ⟨x6, hx4, hB2⟩ := M.bind_some hB2
          obtain ⟨x7, hx5, hB2⟩ := M.bind_some hB2
          obtain ⟨hx5l, hx5u, hx5⟩ := M.idx_some hx5
          refine Run_D (fun x => Hold h x [rowsP cd2 23 a1 l1.length l1.length s2 [(i1.toNat, a4, x5.length, c2, x5)]]) (fun x => Hold h x [rowsP cd2 23 a1 l1.length l1.length s2 [(i1.toNat, a4, x5.length, c2, x5)]]) mixed (by kernel_rfl) H14 Hold.stable (fun x Hy => (show Hold h x [rowsP cd2 23 a1 l1.length l1.length s2 [(i1.toNat, a4, x5.length, c2, x5)]] from Hy).pick [0] (by kernel_rfl)) ?_
          refine DR_b 9 [.slice a1 l1.length l1.length, .int .i64 i1] 0 (by kernel_rfl) (by kernel_rfl) (by kernel_rfl) (fun w => by kernel_rfl) ?_
          refine DR_y 8 (i := 2) (.pointer (some (adr a1 (i1.toNat * 1)))) (by kernel_rfl) (by kernel_rfl) (by kernel_rfl) (fun hx Hx => (YE.of (Y_idx (t := 22) (e := 23) (sz := 1) (a := a1) (n := l1.length) (cap := l1.length) (kk := .i64) (i := i1) (by kernel_rfl) Try.underlying22 (by kernel_rfl) ((H11.rd 0 rfl).cell hx3).1 hx3l (by rw [← (H11.len 0 rfl)]; exact hx3u)))) ?_
          refine DR_y 7 (i := 3) (.slice a4 x5.length c2) (by kernel_rfl) (by kernel_rfl) (by kernel_rfl) (fun hx Hx => (YE.of (Y_load1 (t := 23) (p := adr a1 (i1.toNat * 1)) (v := .slice a4 x5.length c2) (by kernel_rfl) (fun w => by kernel_rfl) (Hx.cellPin 0 rfl 0 rfl)))) ?_
          refine DR_b 3 [.int .i64 i2, .func (.func 114) #[] #[.pointer (some ⟨bentry0, 0, none⟩), .pointer (some ⟨bentry1, 0, none⟩)], .int .i64 i1, .int .i64 i2] 4 (by kernel_rfl) (by kernel_rfl) (by kernel_rfl) (fun w => by kernel_rfl) ?_
          refine DR_y 2 (i := 8) (.int .i64 x6) (by kernel_rfl) (by kernel_rfl) (by kernel_rfl) (fun hx Hx => (YE.of (Y_callq (f := 114) (args := #[.int .i64 i1, .int .i64 i2, .pointer (some ⟨bentry0, 0, none⟩), .pointer (some ⟨bentry1, 0, none⟩)]) (v := .int .i64 x6) (by kernel_rfl) (w_impl_multiply_1 hx i1 i2 entry0 aentry0 centry0 (rentry0.at Hx.ext) bentry0 (ventry0.at Hx.ext) entry1 aentry1 centry1 (rentry1.at Hx.ext) bentry1 (ventry1.at Hx.ext) _ _ hx4)))) ?_
          refine DR_y 1 (i := 9) (.pointer (some (adr a4 (i2.toNat * 1)))) (by kernel_rfl) (by kernel_rfl) (by kernel_rfl) (fun hx Hx => (YE.of (Y_idx (t := 23) (e := 2) (sz := 1) (a := a4) (n := x5.length) (cap := c2) (kk := .i64) (i := i2) (by kernel_rfl) Try.underlying23 (by kernel_rfl) ((H14.rdPin 0 rfl 0 rfl).cell hx5).1 hx5l hx5u))) ?_
          refine DR_tail (i := 10) (by kernel_rfl) (by kernel_rfl) (by kernel_rfl) (fun h8 H15 => ?_)
          have H16 : Hold h h8 [rowsP cd2 23 a1 l1.length l1.length s2 [(i1.toNat, a4, x5.length, c2, x5)]] := H15
          obtain ⟨l4, hu2, hB2⟩ := M.bind_some hB2
          have hu2 := M.upd_some hu2
          refine Run_E (by kernel_rfl) ?_
          refine E_put2 (C := cd2) (t := 2) (sz := 1) (j := i2) (x := x6) (v := .int .i64 x6) (m2 := s2.set i1.toNat l4) H16 cd2_flat 0 rfl (by kernel_rfl) rfl (cd2_own _) (by kernel_rfl) hu2 rfl (fun h9 H17 => ?_)
          refine Run_nil (by kernel_rfl) ?_
          refine Run_keep [1, 2, 7, 8, 13, 14, 26, 27] (L' := [(1, .int .i64 n_), (2, .func (.func 114) #[] #[.pointer (some ⟨bentry0, 0, none⟩), .pointer (some ⟨bentry1, 0, none⟩)]), (7, .slice a1 l1.length l1.length), (8, .int .i64 i1), (13, .int .i64 (l1.length : Int)), (14, .int .i64 i1), (26, .int .i64 (x3.length : Int)), (27, .int .i64 i2)]) (by kernel_rfl) ?_
          refine Run_blk ?_
          refine Run_reg 2 (by kernel_rfl) (L' := [(1, .int .i64 n_), (2, .func (.func 114) #[] #[.pointer (some ⟨bentry0, 0, none⟩), .pointer (some ⟨bentry1, 0, none⟩)]), (7, .slice a1 l1.length l1.length), (8, .int .i64 i1), (13, .int .i64 (l1.length : Int)), (14, .int .i64 i1), (26, .int .i64 (x3.length : Int)), (27, .int .i64 (i2 + 1))]) ?_ ?_
          · refine QRun_y (.int .i64 (i2 + 1)) (by kernel_rfl) (Y_eq (v := .int .i64 (w64 (i2 + 1))) (Y_pure (fun w => by kernel_rfl)) (by rw [w64_eq _ (by omega)])) ?_
            refine QRun_b [.int .i64 (i2 + 1)] 1 _ (by kernel_rfl) (fun w => by kernel_rfl) ?_
            exact QRun_done [1, 2, 7, 8, 13, 14, 26, 27] (by kernel_rfl) (by kernel_rfl)
          have H18 := H17.ofRows
          have hB2 := M.ret_some hB2
          have gx4 := hgoy2 _ hB2.symm
          exact Run_again [1, 2, 7, 8, 13, 14, 26, 27] (by kernel_rfl) my2 (Nat.lt_succ_self _) ⟨i2 + 1, (s2.set i1.toNat l4), by omega, gx4, rfl, H18⟩
        · have gx4 := M.for_end gx4 hb2
          subst gx4
          refine Run_exit (k' := _) rfl ?_
          exact Run_fall [1, 2, 7, 13, 14] (by kernel_rfl) ⟨rfl, H11⟩
    · have gx1 := M.for_end gx1 hb1
      subst gx1
      refine Run_exit (k' := _) rfl ?_
      exact Run_fall [7] (by kernel_rfl) ⟨rfl, H2⟩

set_option maxRecDepth 100000 in
set_option maxHeartbeats 4000000 in
theorem w_impl_multiply (h : Heap) (a_ : List (List Int)) (aa_ : Option Addr) (ca_ : Nat) (ra_ : Rd cd23 h (Lt h) aa_ ca_ a_) (b : List (List Int)) (ab : Option Addr) (cb : Nat) (rb : Rd cd23 h (Lt h) ab cb b) (n : Nat) (r : (List (List Int))) (hF : impl_multiply a_ b n = some r) :
    Fn Try.prog 84 #[.slice aa_ a_.length ca_, .slice ab b.length cb] h fun v h' => ∃ (a0 : Option Addr) (c0 : Nat), v = .slice a0 r.length c0 ∧ Hold h h' [own cd23 a0 r.length c0 r] := by
  unfold impl_multiply at hF
  refine Fn_enter (args := [.slice aa_ a_.length ca_, .slice ab b.length cb]) Try.func84 rfl (by kernel_rfl) (by kernel_rfl) (fun w0 _ => ?_)
  have H0 := Hold.init h
  refine Run_seq ?_
  refine Run_ops ?_
  refine Run_E (by kernel_rfl) ?_
  refine E_box (ty := 22) (cs := [.slice aa_ a_.length ca_]) H0 (fun w => by kernel_rfl) (fun b1 h1 H1 => ?_)
  refine Run_E (by kernel_rfl) ?_
  refine E_box (ty := 22) (cs := [.slice ab b.length cb]) H1 (fun w => by kernel_rfl) (fun b2 h2 H2 => ?_)
  refine Run_b [.slice none 0 0] 2 _ (by kernel_rfl) (fun w => by kernel_rfl) ?_
  refine Run_nil (by kernel_rfl) ?_
  refine Run_keep [2, 3] (L' := [(2, .pointer (some ⟨b1, 0, none⟩)), (3, .pointer (some ⟨b2, 0, none⟩))]) (by kernel_rfl) ?_
  refine Run_seq ?_
  obtain ⟨x1, hx1, hF⟩ := M.bind_some hF
  obtain ⟨hx1l, hx1u, hx1⟩ := M.idx_some hx1
  obtain ⟨a1, c1, hc1, r1⟩ := rb.row hx1
  refine Run_D (fun x => Hold h x [box b2 22 [.slice ab b.length cb], box b1 22 [.slice aa_ a_.length ca_]]) (fun x => Hold h x [box b2 22 [.slice ab b.length cb], box b1 22 [.slice aa_ a_.length ca_]]) mixed (by kernel_rfl) H2 Hold.stable (fun x Hy => (show Hold h x [box b2 22 [.slice ab b.length cb], box b1 22 [.slice aa_ a_.length ca_]] from Hy).pick [0, 1] (by kernel_rfl)) ?_
  refine DR_y 8 (i := 0) (.slice aa_ a_.length ca_) (by kernel_rfl) (by kernel_rfl) (by kernel_rfl) (fun hx Hx => (YE.of (Y_load1 (t := 22) (p := ⟨b1, 0, none⟩) (v := .slice aa_ a_.length ca_) (by kernel_rfl) (fun w => by kernel_rfl) (Hx.cell 1 rfl rfl)))) ?_
  refine DR_b 7 [.int .i64 (a_.length : Int)] 1 (by kernel_rfl) (by kernel_rfl) (by kernel_rfl) (fun w => by kernel_rfl) ?_
  refine DR_y 6 (i := 2) (.slice ab b.length cb) (by kernel_rfl) (by kernel_rfl) (by kernel_rfl) (fun hx Hx => (YE.of (Y_load1 (t := 22) (p := ⟨b2, 0, none⟩) (v := .slice ab b.length cb) (by kernel_rfl) (fun w => by kernel_rfl) (Hx.cell 0 rfl rfl)))) ?_
  refine DR_y 5 (i := 3) (.pointer (some (adr ab (0 * 1)))) (by kernel_rfl) (by kernel_rfl) (by kernel_rfl) (fun hx Hx => (YE.of (Y_idx (t := 22) (e := 23) (sz := 1) (a := ab) (n := b.length) (cap := cb) (kk := .i64) (i := 0) (by kernel_rfl) Try.underlying22 (by kernel_rfl) ((rb.at H2.ext).cell hx1).1 hx1l hx1u))) ?_
  refine DR_y 4 (i := 4) (.slice a1 x1.length c1) (by kernel_rfl) (by kernel_rfl) (by kernel_rfl) (fun hx Hx => (YE.of (Y_load1 (t := 23) (p := adr ab (0 * 1)) (v := .slice a1 x1.length c1) (by kernel_rfl) (fun w => by kernel_rfl) (cell_at Hx.ext hc1)))) ?_
  refine DR_b 2 [.int .i64 (x1.length : Int), .func (.func 114) #[] #[.pointer (some ⟨b1, 0, none⟩), .pointer (some ⟨b2, 0, none⟩)]] 5 (by kernel_rfl) (by kernel_rfl) (by kernel_rfl) (fun w => by kernel_rfl) ?_
  refine DR_e 1 7 (by kernel_rfl) (by kernel_rfl) (by kernel_rfl) (fun h3 H3 => ?_)
  have H4 : Hold h h3 [box b2 22 [.slice ab b.length cb], box b1 22 [.slice aa_ a_.length ca_]] := H3
  obtain ⟨x2, hx2, hF⟩ := M.bind_some hF
  refine E_call (f := 108) (args := #[.int .i64 (a_.length : Int), .int .i64 (x1.length : Int), .func (.func 114) #[] #[.pointer (some ⟨b1, 0, none⟩), .pointer (some ⟨b2, 0, none⟩)]]) (w_impl_matrixBy_F_impl_multiply_1 h3 (a_.length : Int) (x1.length : Int) a_ aa_ ca_ (ra_.at H4.ext) b1 (H4.var 1 rfl) b ab cb (rb.at H4.ext) b2 (H4.var 0 rfl) _ _ hx2) (by kernel_rfl) (fun v1 h4 hp1 => ?_)
  obtain ⟨a2, c2, rfl, H5⟩ := hp1
  have H6 : Hold h h4 [own cd23 a2 x2.length c2 x2, box b2 22 [.slice ab b.length cb], box b1 22 [.slice aa_ a_.length ca_]] := H4.call H5 rfl
  refine ⟨fun x => Hold h x [box b2 22 [.slice ab b.length cb], box b1 22 [.slice aa_ a_.length ca_], own cd23 a2 x2.length c2 x2], fun x => Hold h x [own cd23 a2 x2.length c2 x2, box b2 22 [.slice ab b.length cb], box b1 22 [.slice aa_ a_.length ca_]], H6, Hold.stable, fun x Hy => (show Hold h x [own cd23 a2 x2.length c2 x2, box b2 22 [.slice ab b.length cb], box b1 22 [.slice aa_ a_.length ca_]] from Hy).pick [1, 2, 0] (by kernel_rfl), fun x Hy => (show Hold h x [box b2 22 [.slice ab b.length cb], box b1 22 [.slice aa_ a_.length ca_], own cd23 a2 x2.length c2 x2] from Hy).pick [0, 1] (by kernel_rfl), ?_⟩
  refine DR_b 0 [.slice a2 x2.length c2] 8 (by kernel_rfl) (by kernel_rfl) (by kernel_rfl) (fun w => by kernel_rfl) ?_
  refine DR_tail (i := 9) (by kernel_rfl) (by kernel_rfl) (by kernel_rfl) (fun h5 H7 => ?_)
  have H8 : Hold h h5 [own cd23 a2 x2.length c2 x2, box b2 22 [.slice ab b.length cb], box b1 22 [.slice aa_ a_.length ca_]] := H7
  refine Run_nil (by kernel_rfl) ?_
  refine Run_keep [4] (L' := [(4, .slice a2 x2.length c2)]) (by kernel_rfl) ?_
  have hF := M.ret_some hF
  subst hF
  have H9 : Hold h h5 [own cd23 a2 x2.length c2 x2] := H8.pick [0] (by kernel_rfl)
  exact Run_ret1 rfl (ResV_tmp (v := .slice a2 x2.length c2) (by kernel_rfl)) ⟨a2, c2, rfl, H9⟩

set_option maxRecDepth 100000 in
set_option maxHeartbeats 4000000 in
theorem w_impl_MultiplyMatrices (h : Heap) (a_ : List (List Int)) (aa_ : Option Addr) (ca_ : Nat) (ra_ : Rd cd23 h (Lt h) aa_ ca_ a_) (b : List (List Int)) (ab : Option Addr) (cb : Nat) (rb : Rd cd23 h (Lt h) ab cb b) (n : Nat) (r : (List (List Int)) × Int) (hF : impl_MultiplyMatrices a_ b n = some r) :
    Fn Try.prog 44 #[.slice aa_ a_.length ca_, .slice ab b.length cb] h fun v h' => ∃ (a0 : Option Addr) (c0 : Nat), v = .tuple #[.slice a0 r.1.length c0, .int .i64 r.2] ∧ Hold h h' [own cd23 a0 r.1.length c0 r.1] := by
  unfold impl_MultiplyMatrices at hF
  refine Fn_enter (args := [.slice aa_ a_.length ca_, .slice ab b.length cb]) Try.func44 rfl (by kernel_rfl) (by kernel_rfl) (fun w0 _ => ?_)
  have H0 := Hold.init h
  refine Run_seq ?_
  refine Run_reg 2 (by kernel_rfl) (L' := [(0, .slice aa_ a_.length ca_), (1, .slice ab b.length cb)]) ?_ ?_
  · refine QRun_b [.slice none 0 0, .int .i64 0] 0 _ (by kernel_rfl) (fun w => by kernel_rfl) ?_
    exact QRun_done [0, 1] (by kernel_rfl) (by kernel_rfl)
  refine Run_seq ?_
  refine Run_seq ?_
  obtain ⟨x1, hx1, hF⟩ := M.bind_some hF
  obtain ⟨x2, gx2, hF⟩ := M.bind_some hF
  refine Run_regC (j := 8) (C := fun x => Hold h x []) (by kernel_rfl) H0 (L' := [(0, .slice aa_ a_.length ca_), (1, .slice ab b.length cb), (13, .bool x2)]) ?_ (fun h1 H1 => ?_)
  · refine QRun_b [.slice aa_ a_.length ca_] 0 _ (by kernel_rfl) (fun w => by kernel_rfl) ?_
    refine QRun_y (.bool x1) (by kernel_rfl) (Y_call (f := 75) (args := #[.slice aa_ a_.length ca_]) (v := .bool x1) (by kernel_rfl) fun hx Hx => (w_impl_IsMatrix hx a_ aa_ ca_ (ra_.at Hx.ext) _ _ hx1).mono fun _ _ ⟨e, H'⟩ => ⟨e, Hx.call H' rfl⟩) ?_
    refine QRun_b [.bool (!x1)] 2 _ (by kernel_rfl) (fun w => by kernel_rfl) ?_
    refine QRun_seq 8 [(0, .slice aa_ a_.length ca_), (1, .slice ab b.length cb), (13, .bool x2)] ?_ ?_
    · rcases Bool.eq_false_or_eq_true (!x1) with hb1 | hb1
      · refine QRun_bool (!x1) true (by kernel_rfl) (fun w => by kernel_rfl) hb1 ?_
        have gx2 := M.ret_some ((M.ite_some gx2).1 hb1)
        refine QRun_n (by kernel_rfl) ?_
        refine QRun_n (by kernel_rfl) ?_
        refine QRun_n (by kernel_rfl) ?_
        refine QRun_bool true x2 (by kernel_rfl) (fun w => by kernel_rfl) gx2 ?_
        exact QRun_done [0, 1, 13] (by kernel_rfl) (by kernel_rfl)
      · refine QRun_bool (!x1) false (by kernel_rfl) (fun w => by kernel_rfl) hb1 ?_
        have gx2 := (M.ite_some gx2).2 hb1
        obtain ⟨x3, hx2, gx2⟩ := M.bind_some gx2
        have gx2 := M.ret_some gx2
        refine QRun_b [.slice ab b.length cb] 4 _ (by kernel_rfl) (fun w => by kernel_rfl) ?_
        refine QRun_y (.bool x3) (by kernel_rfl) (Y_call (f := 75) (args := #[.slice ab b.length cb]) (v := .bool x3) (by kernel_rfl) fun hx Hx => (w_impl_IsMatrix hx b ab cb (rb.at Hx.ext) _ _ hx2).mono fun _ _ ⟨e, H'⟩ => ⟨e, Hx.call H' rfl⟩) ?_
        refine QRun_b [.bool (!x3)] 6 _ (by kernel_rfl) (fun w => by kernel_rfl) ?_
        refine QRun_bool (!x3) x2 (by kernel_rfl) (fun w => by kernel_rfl) gx2 ?_
        exact QRun_done [0, 1, 13] (by kernel_rfl) (by kernel_rfl)
    exact QRun_done [0, 1, 13] (by kernel_rfl) (by kernel_rfl)
  have H2 : Hold h h1 [] := H1
  refine Run_cond (b := x2) (by kernel_rfl) (fun hb2 => ?_) (fun hb2 => ?_)
  · have hF := (M.ite_some hF).1 hb2
    refine Run_seq ?_
    refine Run_reg 2 (by kernel_rfl) (L' := [(4, .slice none 0 0), (5, .int .i64 1)]) ?_ ?_
    · refine QRun_b [.slice none 0 0, .int .i64 1] 0 _ (by kernel_rfl) (fun w => by kernel_rfl) ?_
      exact QRun_done [4, 5] (by kernel_rfl) (by kernel_rfl)
    have hF := M.ret_some hF
    subst hF
    have H3 := H2.empty cd23
    exact Run_ret2 rfl (ResV_tmp (v := .slice none 0 0) (by kernel_rfl)) (ResV_tmp (v := .int .i64 1) (by kernel_rfl)) ⟨none, 0, rfl, H3⟩
  · have hF := (M.ite_some hF).2 hb2
    refine Run_skip ?_
    refine Run_seq ?_
    refine Run_seq ?_
    obtain ⟨x4, hx3, hF⟩ := M.bind_some hF
    obtain ⟨hx3l, hx3u, hx3⟩ := M.idx_some hx3
    obtain ⟨a1, c1, hc1, r1⟩ := ra_.row hx3
    refine Run_reg 7 (by kernel_rfl) (L' := [(0, .slice aa_ a_.length ca_), (1, .slice ab b.length cb), (20, .bool ((x4.length : Int) != (b.length : Int)))]) ?_ ?_
    · refine QRun_b [.slice aa_ a_.length ca_] 0 _ (by kernel_rfl) (fun w => by kernel_rfl) ?_
      refine QRun_y (.pointer (some (adr aa_ (0 * 1)))) (by kernel_rfl) (Y_idx (t := 22) (e := 23) (sz := 1) (a := aa_) (n := a_.length) (cap := ca_) (kk := .i64) (i := 0) (by kernel_rfl) Try.underlying22 (by kernel_rfl) ((ra_.at H2.ext).cell hx3).1 hx3l hx3u) ?_
      refine QRun_y (.slice a1 x4.length c1) (by kernel_rfl) (Y_load1 (t := 23) (p := adr aa_ (0 * 1)) (v := .slice a1 x4.length c1) (by kernel_rfl) (fun w => by kernel_rfl) (cell_at H2.ext hc1)) ?_
      refine QRun_b [.int .i64 (x4.length : Int), .slice ab b.length cb, .int .i64 (b.length : Int), .bool ((x4.length : Int) != (b.length : Int))] 3 _ (by kernel_rfl) (fun w => by kernel_rfl) ?_
      exact QRun_done [0, 1, 20] (by kernel_rfl) (by kernel_rfl)
    refine Run_cond (b := (x4.length : Int) != (b.length : Int)) (by kernel_rfl) (fun hb3 => ?_) (fun hb3 => ?_)
    · have hF := (M.ite_some hF).1 hb3
      refine Run_seq ?_
      refine Run_reg 2 (by kernel_rfl) (L' := [(4, .slice none 0 0), (5, .int .i64 5)]) ?_ ?_
      · refine QRun_b [.slice none 0 0, .int .i64 5] 0 _ (by kernel_rfl) (fun w => by kernel_rfl) ?_
        exact QRun_done [4, 5] (by kernel_rfl) (by kernel_rfl)
      have hF := M.ret_some hF
      subst hF
      have H4 := H2.empty cd23
      exact Run_ret2 rfl (ResV_tmp (v := .slice none 0 0) (by kernel_rfl)) (ResV_tmp (v := .int .i64 5) (by kernel_rfl)) ⟨none, 0, rfl, H4⟩
    · have hF := (M.ite_some hF).2 hb3
      refine Run_skip ?_
      refine Run_seq ?_
      refine Run_ops ?_
      refine Run_b [.slice aa_ a_.length ca_, .slice ab b.length cb] 0 _ (by kernel_rfl) (fun w => by kernel_rfl) ?_
      obtain ⟨x5, hx4, hF⟩ := M.bind_some hF
      refine Run_E (by kernel_rfl) ?_
      refine E_call (f := 84) (args := #[.slice aa_ a_.length ca_, .slice ab b.length cb]) (w_impl_multiply h1 a_ aa_ ca_ (ra_.at H2.ext) b ab cb (rb.at H2.ext) _ _ hx4) (by kernel_rfl) (fun v1 h2 hp1 => ?_)
      obtain ⟨a2, c2, rfl, H5⟩ := hp1
      have H6 : Hold h h2 [own cd23 a2 x5.length c2 x5] := H2.call H5 rfl
      obtain ⟨x6, hx5, hF⟩ := M.bind_some hF
      refine Run_E (by kernel_rfl) ?_
      refine E_call (f := 74) (args := #[.slice a2 x5.length c2]) (w_impl_checkedMatrix h2 x5 a2 c2 (H6.rd 0 rfl) _ _ hx5) (by kernel_rfl) (fun v2 h3 hp2 => ?_)
      obtain ⟨a3, c3, rfl, hd1, H7⟩ := hp2
      have H8 : Hold h h3 [own cd23 a2 x5.length c2 x5] := H6.call H7 rfl
      have H9 := H8.alias hd1
      refine Run_b [.slice a3 x6.1.length c3, .int .i64 x6.2, .slice a3 x6.1.length c3, .int .i64 x6.2] 4 _ (by kernel_rfl) (fun w => by kernel_rfl) ?_
      refine Run_nil (by kernel_rfl) ?_
      refine Run_keep [4, 5] (L' := [(4, .slice a3 x6.1.length c3), (5, .int .i64 x6.2)]) (by kernel_rfl) ?_
      have hF := M.ret_some hF
      subst hF
      exact Run_ret2 rfl (ResV_tmp (v := .slice a3 x6.1.length c3) (by kernel_rfl)) (ResV_tmp (v := .int .i64 x6.2) (by kernel_rfl)) ⟨a3, c3, rfl, H9⟩

end Go.Proofs.Ytmpjjdgfkjompaa
