/-
  Walks: each Go function, called with what reads as plain data, returns what its plain program computes.
  Conditions: None beyond the given statement.
-/
import Derived.Test.YtipdgiljgbjjkaaW0
namespace Go.Proofs.Ytipdgiljgbjjkaa
open Go
attribute [local irreducible] setL setB opA fineI idleI fineB evB okB markB markBs readyB readyBs chainB lk rho pickL dropSlot tailOK
set_option maxRecDepth 100000 in
set_option maxHeartbeats 4000000 in
theorem w_spec_l01Times (h : Heap) (a_ : Int) (b : Int) (n : Nat) (r : Int) (hF : spec_l01Times a_ b n = some r) :
    Fn Try.prog 117 #[.int .i64 a_, .int .i64 b] h fun v h' => v = .int .i64 r ∧ h' = h := by
  unfold spec_l01Times at hF
  refine Fn_enter (args := [.int .i64 a_, .int .i64 b]) Try.func117 rfl (by kernel_rfl) (by kernel_rfl) (fun w0 _ => ?_)
  refine Run_seq ?_
  refine Run_reg 1 (by kernel_rfl) (L' := [(0, .int .i64 a_), (1, .int .i64 b)]) ?_ ?_
  · refine QRun_b [.int .i64 0] 0 _ (by kernel_rfl) (fun w => by kernel_rfl) ?_
    exact QRun_done [0, 1] (by kernel_rfl) (by kernel_rfl)
  refine Run_seq ?_
  refine Run_seq ?_
  refine Run_reg 6 (by kernel_rfl) (L' := [(0, .int .i64 a_), (1, .int .i64 b), (10, .bool ((a_ == (-1000000000000000)) || (b == (-1000000000000000))))]) ?_ ?_
  · refine QRun_b [.int .i64 a_, .bool (a_ == (-1000000000000000))] 0 _ (by kernel_rfl) (fun w => by kernel_rfl) ?_
    refine QRun_seq 6 [(0, .int .i64 a_), (1, .int .i64 b), (10, .bool ((a_ == (-1000000000000000)) || (b == (-1000000000000000))))] ?_ ?_
    · rcases Bool.eq_false_or_eq_true (a_ == (-1000000000000000)) with hb1 | hb1
      · refine QRun_bool (a_ == (-1000000000000000)) true (by kernel_rfl) (fun w => by kernel_rfl) hb1 ?_
        refine QRun_n (by kernel_rfl) ?_
        refine QRun_n (by kernel_rfl) ?_
        refine QRun_bool true ((a_ == (-1000000000000000)) || (b == (-1000000000000000))) (by kernel_rfl) (fun w => by kernel_rfl) (by rw [hb1]; rfl) ?_
        exact QRun_done [0, 1, 10] (by kernel_rfl) (by kernel_rfl)
      · refine QRun_bool (a_ == (-1000000000000000)) false (by kernel_rfl) (fun w => by kernel_rfl) hb1 ?_
        refine QRun_b [.int .i64 b, .bool (b == (-1000000000000000))] 3 _ (by kernel_rfl) (fun w => by kernel_rfl) ?_
        refine QRun_bool (b == (-1000000000000000)) ((a_ == (-1000000000000000)) || (b == (-1000000000000000))) (by kernel_rfl) (fun w => by kernel_rfl) (by rw [hb1]; rfl) ?_
        exact QRun_done [0, 1, 10] (by kernel_rfl) (by kernel_rfl)
    exact QRun_done [0, 1, 10] (by kernel_rfl) (by kernel_rfl)
  refine Run_cond (b := (a_ == (-1000000000000000)) || (b == (-1000000000000000))) (by kernel_rfl) (fun hb2 => ?_) (fun hb2 => ?_)
  · have hF := (M.ite_some hF).1 hb2
    refine Run_seq ?_
    refine Run_reg 1 (by kernel_rfl) (L' := [(4, .int .i64 (-1000000000000000))]) ?_ ?_
    · refine QRun_b [.int .i64 (-1000000000000000)] 0 _ (by kernel_rfl) (fun w => by kernel_rfl) ?_
      exact QRun_done [4] (by kernel_rfl) (by kernel_rfl)
    have hF := M.ret_some hF
    subst hF
    exact Run_ret1 rfl (ResV_tmp (v := .int .i64 (-1000000000000000)) (by kernel_rfl)) ⟨rfl, rfl⟩
  · have hF := (M.ite_some hF).2 hb2
    refine Run_skip ?_
    refine Run_seq ?_
    refine Run_reg 4 (by kernel_rfl) (L' := [(4, .int .i64 (w64 (a_ + b)))]) ?_ ?_
    · refine QRun_b [.int .i64 a_, .int .i64 b, .int .i64 (w64 (a_ + b)), .int .i64 (w64 (a_ + b))] 0 _ (by kernel_rfl) (fun w => by kernel_rfl) ?_
      exact QRun_done [4] (by kernel_rfl) (by kernel_rfl)
    have hF := M.ret_some hF
    subst hF
    exact Run_ret1 rfl (ResV_tmp (v := .int .i64 (w64 (a_ + b))) (by kernel_rfl)) ⟨rfl, rfl⟩

set_option maxRecDepth 100000 in
set_option maxHeartbeats 4000000 in
theorem w_spec_MultiplyPolynomials (h : Heap) (c_ : List Int) (ac_ : Option Addr) (cc_ : Nat) (rc_ : Rd cd2 h (Lt h) ac_ cc_ c_) (d : List Int) (ad : Option Addr) (cd : Nat) (rd : Rd cd2 h (Lt h) ad cd d) (n : Nat) (r : (List Int) × Int) (hF : spec_MultiplyPolynomials c_ d n = some r) :
    Fn Try.prog 43 #[.slice ac_ c_.length cc_, .slice ad d.length cd] h fun v h' => ∃ (a0 : Option Addr) (c0 : Nat), v = .tuple #[.slice a0 r.1.length c0, .int .i64 r.2] ∧ Hold h h' [own cd2 a0 r.1.length c0 r.1] := by
  unfold spec_MultiplyPolynomials at hF
  refine Fn_enter (args := [.slice ac_ c_.length cc_, .slice ad d.length cd]) Try.func43 rfl (by kernel_rfl) (by kernel_rfl) (fun w0 _ => ?_)
  have H0 := Hold.init h
  refine Run_seq ?_
  refine Run_reg 2 (by kernel_rfl) (L' := [(0, .slice ac_ c_.length cc_), (1, .slice ad d.length cd)]) ?_ ?_
  · refine QRun_b [.slice none 0 0, .int .i64 0] 0 _ (by kernel_rfl) (fun w => by kernel_rfl) ?_
    exact QRun_done [0, 1] (by kernel_rfl) (by kernel_rfl)
  refine Run_seq ?_
  refine Run_seq ?_
  obtain ⟨x1, hx1, hF⟩ := M.bind_some hF
  obtain ⟨x2, gx2, hF⟩ := M.bind_some hF
  refine Run_reg 8 (by kernel_rfl) (L' := [(0, .slice ac_ c_.length cc_), (1, .slice ad d.length cd), (16, .bool x2)]) ?_ ?_
  · refine QRun_b [.slice ac_ c_.length cc_] 0 _ (by kernel_rfl) (fun w => by kernel_rfl) ?_
    refine QRun_y (.bool x1) (by kernel_rfl) (Y_callq (f := 116) (args := #[.slice ac_ c_.length cc_]) (v := .bool x1) (by kernel_rfl) (w_spec_IsPolynomial h c_ ac_ cc_ rc_ _ _ hx1)) ?_
    refine QRun_b [.bool (!x1)] 2 _ (by kernel_rfl) (fun w => by kernel_rfl) ?_
    refine QRun_seq 8 [(0, .slice ac_ c_.length cc_), (1, .slice ad d.length cd), (16, .bool x2)] ?_ ?_
    · rcases Bool.eq_false_or_eq_true (!x1) with hb1 | hb1
      · refine QRun_bool (!x1) true (by kernel_rfl) (fun w => by kernel_rfl) hb1 ?_
        have gx2 := M.ret_some ((M.ite_some gx2).1 hb1)
        refine QRun_n (by kernel_rfl) ?_
        refine QRun_n (by kernel_rfl) ?_
        refine QRun_n (by kernel_rfl) ?_
        refine QRun_bool true x2 (by kernel_rfl) (fun w => by kernel_rfl) gx2 ?_
        exact QRun_done [0, 1, 16] (by kernel_rfl) (by kernel_rfl)
      · refine QRun_bool (!x1) false (by kernel_rfl) (fun w => by kernel_rfl) hb1 ?_
        have gx2 := (M.ite_some gx2).2 hb1
        obtain ⟨x3, hx2, gx2⟩ := M.bind_some gx2
        have gx2 := M.ret_some gx2
        refine QRun_b [.slice ad d.length cd] 4 _ (by kernel_rfl) (fun w => by kernel_rfl) ?_
        refine QRun_y (.bool x3) (by kernel_rfl) (Y_callq (f := 116) (args := #[.slice ad d.length cd]) (v := .bool x3) (by kernel_rfl) (w_spec_IsPolynomial h d ad cd rd _ _ hx2)) ?_
        refine QRun_b [.bool (!x3)] 6 _ (by kernel_rfl) (fun w => by kernel_rfl) ?_
        refine QRun_bool (!x3) x2 (by kernel_rfl) (fun w => by kernel_rfl) gx2 ?_
        exact QRun_done [0, 1, 16] (by kernel_rfl) (by kernel_rfl)
    exact QRun_done [0, 1, 16] (by kernel_rfl) (by kernel_rfl)
  refine Run_cond (b := x2) (by kernel_rfl) (fun hb2 => ?_) (fun hb2 => ?_)
  · have hF := (M.ite_some hF).1 hb2
    refine Run_seq ?_
    refine Run_reg 2 (by kernel_rfl) (L' := [(4, .slice none 0 0), (5, .int .i64 1)]) ?_ ?_
    · refine QRun_b [.slice none 0 0, .int .i64 1] 0 _ (by kernel_rfl) (fun w => by kernel_rfl) ?_
      exact QRun_done [4, 5] (by kernel_rfl) (by kernel_rfl)
    have hF := M.ret_some hF
    subst hF
    have H1 := H0.empty cd2
    exact Run_ret2 rfl (ResV_tmp (v := .slice none 0 0) (by kernel_rfl)) (ResV_tmp (v := .int .i64 1) (by kernel_rfl)) ⟨none, 0, rfl, H1⟩
  · have hF := (M.ite_some hF).2 hb2
    refine Run_skip ?_
    refine Run_seq ?_
    refine Run_ops ?_
    refine Run_b [.slice ac_ c_.length cc_, .int .i64 (c_.length : Int), .slice ad d.length cd, .int .i64 (d.length : Int), .int .i64 (w64 ((c_.length : Int) + (d.length : Int))), .int .i64 (w64 ((w64 ((c_.length : Int) + (d.length : Int))) - 1))] 0 _ (by kernel_rfl) (fun w => by kernel_rfl) ?_
    obtain ⟨x4, hx3, hF⟩ := M.bind_some hF
    refine Run_E (by kernel_rfl) ?_
    refine E_call (f := 84) (args := #[.int .i64 1, .int .i64 (w64 ((w64 ((c_.length : Int) + (d.length : Int))) - 1))]) (w_spec_l02Bottom h 1 (w64 ((w64 ((c_.length : Int) + (d.length : Int))) - 1)) _ _ hx3) (by kernel_rfl) (fun v1 h1 hp1 => ?_)
    obtain ⟨a1, c1, rfl, H2⟩ := hp1
    have H3 : Hold h h1 [own cd39 a1 x4.length c1 x4] := H0.call H2 rfl
    obtain ⟨x5, hx4, hF⟩ := M.bind_some hF
    obtain ⟨hx4l, hx4u, hx4⟩ := M.idx_some hx4
    obtain ⟨a2, c2, hc1, H4⟩ := H3.takeRow hx4
    refine Run_y (.pointer (some (adr a1 (0 * 1)))) (by kernel_rfl) (Y_idx (t := 37) (e := 39) (sz := 1) (a := a1) (n := x4.length) (cap := c1) (kk := .i64) (i := 0) (by kernel_rfl) Try.underlying37 (by kernel_rfl) ((H3.rd 0 rfl).cell hx4).1 hx4l hx4u) ?_
    refine Run_y (.slice a2 x5.length c2) (by kernel_rfl) (Y_load1 (t := 39) (p := adr a1 (0 * 1)) (v := .slice a2 x5.length c2) (by kernel_rfl) (fun w => by kernel_rfl) hc1) ?_
    refine Run_b [.slice a2 x5.length c2] 9 _ (by kernel_rfl) (fun w => by kernel_rfl) ?_
    refine Run_nil (by kernel_rfl) ?_
    refine Run_keep [0, 1, 6] (L' := [(0, .slice ac_ c_.length cc_), (1, .slice ad d.length cd), (6, .slice a2 x5.length c2)]) (by kernel_rfl) ?_
    refine Run_seq ?_
    refine Run_seq ?_
    refine Run_reg 1 (by kernel_rfl) (L' := [(0, .slice ac_ c_.length cc_), (1, .slice ad d.length cd), (6, .slice a2 x5.length c2), (7, .int .i64 0)]) ?_ ?_
    · refine QRun_b [.int .i64 0] 0 _ (by kernel_rfl) (fun w => by kernel_rfl) ?_
      exact QRun_done [0, 1, 6, 7] (by kernel_rfl) (by kernel_rfl)
    obtain ⟨x6, gx6, hF⟩ := M.bind_some hF
    obtain ⟨hloy1, hhiy1, gx6⟩ := M.for_start gx6
    refine Run_join (fun L' h' => L' = [(6, .slice a2 x5.length c2)] ∧ Hold h h' [own cd2 a2 x5.length c2 x6]) ?_ ?_
    · rintro _ h3 ⟨rfl, H6⟩
      refine Run_seq ?_
      refine Run_seq ?_
      obtain ⟨x13, hx10, hF⟩ := M.bind_some hF
      refine Run_reg 3 (by kernel_rfl) (L' := [(6, .slice a2 x5.length c2), (61, .bool (!x13))]) ?_ ?_
      · refine QRun_b [.slice a2 x5.length c2] 0 _ (by kernel_rfl) (fun w => by kernel_rfl) ?_
        refine QRun_y (.bool x13) (by kernel_rfl) (Y_callq (f := 116) (args := #[.slice a2 x5.length c2]) (v := .bool x13) (by kernel_rfl) (Fn.arg (w_spec_IsPolynomial h3 x6 a2 c2 (H6.rd 0 rfl) _ _ hx10) (by simp only [(H6.len 0 rfl)]))) ?_
        refine QRun_b [.bool (!x13)] 2 _ (by kernel_rfl) (fun w => by kernel_rfl) ?_
        exact QRun_done [6, 61] (by kernel_rfl) (by kernel_rfl)
      refine Run_cond (b := !x13) (by kernel_rfl) (fun hb5 => ?_) (fun hb5 => ?_)
      · have hF := (M.ite_some hF).1 hb5
        refine Run_seq ?_
        refine Run_reg 2 (by kernel_rfl) (L' := [(4, .slice none 0 0), (5, .int .i64 3)]) ?_ ?_
        · refine QRun_b [.slice none 0 0, .int .i64 3] 0 _ (by kernel_rfl) (fun w => by kernel_rfl) ?_
          exact QRun_done [4, 5] (by kernel_rfl) (by kernel_rfl)
        have hF := M.ret_some hF
        subst hF
        have H12 := H6.empty cd2
        have H13 : Hold h h3 [own cd2 none 0 0 []] := H12.pick [0] (by kernel_rfl)
        exact Run_ret2 rfl (ResV_tmp (v := .slice none 0 0) (by kernel_rfl)) (ResV_tmp (v := .int .i64 3) (by kernel_rfl)) ⟨none, 0, rfl, H13⟩
      · have hF := (M.ite_some hF).2 hb5
        refine Run_skip ?_
        refine Run_seq ?_
        refine Run_reg 3 (by kernel_rfl) (L' := [(4, .slice a2 x5.length c2), (5, .int .i64 0)]) ?_ ?_
        · refine QRun_b [.slice a2 x5.length c2, .slice a2 x5.length c2, .int .i64 0] 0 _ (by kernel_rfl) (fun w => by kernel_rfl) ?_
          exact QRun_done [4, 5] (by kernel_rfl) (by kernel_rfl)
        have hF := M.ret_some hF
        subst hF
        have H14 := H6.norm
        exact Run_ret2 rfl (ResV_tmp (v := .slice a2 x5.length c2) (by kernel_rfl)) (ResV_tmp (v := .int .i64 0) (by kernel_rfl)) ⟨a2, c2, (by simp only [(H6.len 0 rfl)]), H14⟩
    · refine Run_block ?_
      have H15 : Hold h h1 [own cd2 a2 x5.length c2 x5] := H4.pick [0] (by kernel_rfl)
      refine Run_keep [0, 1, 6, 7] (L' := [(0, .slice ac_ c_.length cc_), (1, .slice ad d.length cd), (6, .slice a2 x5.length c2), (7, .int .i64 0)]) (by kernel_rfl) ?_
      refine Run_loop (fun m L' h' => ∃ (i1 : Int) (s1 : (List Int)), 0 ≤ i1 ∧ M.forN (c_.length : Int) _ _ n m i1 s1 = some x6 ∧ L' = [(0, .slice ac_ c_.length cc_), (1, .slice ad d.length cd), (6, .slice a2 x5.length c2), (7, .int .i64 i1)] ∧ Hold h h' [own cd2 a2 x5.length c2 s1]) ((c_.length : Int) - 0 : Int).toNat ⟨0, x5, Int.le_refl _, gx6, rfl, H15⟩ ?_
      rintro my1 _ h2 ⟨i1, s1, hloy1', gx6, rfl, H5⟩
      refine Run_seq ?_
      refine Run_seq ?_
      refine Run_reg 4 (by kernel_rfl) (L' := [(0, .slice ac_ c_.length cc_), (1, .slice ad d.length cd), (6, .slice a2 x5.length c2), (7, .int .i64 i1), (29, .bool (decide (i1 < (c_.length : Int))))]) ?_ ?_
      · refine QRun_b [.int .i64 i1, .slice ac_ c_.length cc_, .int .i64 (c_.length : Int), .bool (decide (i1 < (c_.length : Int)))] 0 _ (by kernel_rfl) (fun w => by kernel_rfl) ?_
        exact QRun_done [0, 1, 6, 7, 29] (by kernel_rfl) (by kernel_rfl)
      refine Run_cond (b := decide (i1 < (c_.length : Int))) (by kernel_rfl) (fun hb3 => ?_) (fun hb3 => ?_)
      · obtain ⟨my1, y1, rfl, hB1, hgoy1, houty1⟩ := M.for_go gx6 hb3
        have hlty1 := of_decide_eq_true hb3
        refine Run_skip ?_
        refine Run_seq ?_
        refine Run_block ?_
        refine Run_seq ?_
        refine Run_reg 1 (by kernel_rfl) (L' := [(0, .slice ac_ c_.length cc_), (1, .slice ad d.length cd), (6, .slice a2 x5.length c2), (7, .int .i64 i1), (8, .int .i64 0)]) ?_ ?_
        · refine QRun_b [.int .i64 0] 0 _ (by kernel_rfl) (fun w => by kernel_rfl) ?_
          exact QRun_done [0, 1, 6, 7, 8] (by kernel_rfl) (by kernel_rfl)
        obtain ⟨x7, gx7, hB1⟩ := M.bind_some hB1
        obtain ⟨hloy2, hhiy2, gx7⟩ := M.for_start gx7
        refine Run_join (fun L' h' => L' = [(0, .slice ac_ c_.length cc_), (1, .slice ad d.length cd), (6, .slice a2 x5.length c2), (7, .int .i64 i1)] ∧ Hold h h' [own cd2 a2 x5.length c2 x7]) ?_ ?_
        · rintro _ h5 ⟨rfl, H8⟩
          refine Run_blk ?_
          refine Run_reg 3 (by kernel_rfl) (L' := [(0, .slice ac_ c_.length cc_), (1, .slice ad d.length cd), (6, .slice a2 x5.length c2), (7, .int .i64 (i1 + 1))]) ?_ ?_
          · refine QRun_b [.int .i64 i1] 0 _ (by kernel_rfl) (fun w => by kernel_rfl) ?_
            refine QRun_y (.int .i64 (i1 + 1)) (by kernel_rfl) (Y_eq (v := .int .i64 (w64 (i1 + 1))) (Y_pure (fun w => by kernel_rfl)) (by rw [w64_eq _ (by omega)])) ?_
            refine QRun_b [.int .i64 (i1 + 1)] 2 _ (by kernel_rfl) (fun w => by kernel_rfl) ?_
            exact QRun_done [0, 1, 6, 7] (by kernel_rfl) (by kernel_rfl)
          have hB1 := M.ret_some hB1
          have gx6 := hgoy1 _ hB1.symm
          exact Run_again [0, 1, 6, 7] (by kernel_rfl) my1 (Nat.lt_succ_self _) ⟨i1 + 1, x7, by omega, gx6, rfl, H8⟩
        · refine Run_block ?_
          refine Run_keep [0, 1, 6, 7, 8] (L' := [(0, .slice ac_ c_.length cc_), (1, .slice ad d.length cd), (6, .slice a2 x5.length c2), (7, .int .i64 i1), (8, .int .i64 0)]) (by kernel_rfl) ?_
          refine Run_loop (fun m L' h' => ∃ (i2 : Int) (s2 : (List Int)), 0 ≤ i2 ∧ M.forN (d.length : Int) _ _ n m i2 s2 = some x7 ∧ L' = [(0, .slice ac_ c_.length cc_), (1, .slice ad d.length cd), (6, .slice a2 x5.length c2), (7, .int .i64 i1), (8, .int .i64 i2)] ∧ Hold h h' [own cd2 a2 x5.length c2 s2]) ((d.length : Int) - 0 : Int).toNat ⟨0, s1, Int.le_refl _, gx7, rfl, H5⟩ ?_
          rintro my2 _ h4 ⟨i2, s2, hloy2', gx7, rfl, H7⟩
          refine Run_seq ?_
          refine Run_seq ?_
          refine Run_reg 4 (by kernel_rfl) (L' := [(0, .slice ac_ c_.length cc_), (1, .slice ad d.length cd), (6, .slice a2 x5.length c2), (7, .int .i64 i1), (8, .int .i64 i2), (35, .bool (decide (i2 < (d.length : Int))))]) ?_ ?_
          · refine QRun_b [.int .i64 i2, .slice ad d.length cd, .int .i64 (d.length : Int), .bool (decide (i2 < (d.length : Int)))] 0 _ (by kernel_rfl) (fun w => by kernel_rfl) ?_
            exact QRun_done [0, 1, 6, 7, 8, 35] (by kernel_rfl) (by kernel_rfl)
          refine Run_cond (b := decide (i2 < (d.length : Int))) (by kernel_rfl) (fun hb4 => ?_) (fun hb4 => ?_)
          · obtain ⟨my2, y2, rfl, hB2, hgoy2, houty2⟩ := M.for_go gx7 hb4
            have hlty2 := of_decide_eq_true hb4
            refine Run_skip ?_
            refine Run_seq ?_
            refine Run_block ?_
            obtain ⟨x8, hx5, hB2⟩ := M.bind_some hB2
            obtain ⟨hx5l, hx5u, hx5⟩ := M.idx_some hx5
            obtain ⟨x9, hx6, hB2⟩ := M.bind_some hB2
            obtain ⟨hx6l, hx6u, hx6⟩ := M.idx_some hx6
            obtain ⟨x10, hx7, hB2⟩ := M.bind_some hB2
            obtain ⟨hx7l, hx7u, hx7⟩ := M.idx_some hx7
            obtain ⟨x11, hx8, hB2⟩ := M.bind_some hB2
            obtain ⟨x12, hx9, hB2⟩ := M.bind_some hB2
            obtain ⟨hx9l, hx9u, hx9⟩ := M.idx_some hx9
            refine Run_D (fun x => Hold h x [own cd2 a2 x5.length c2 s2]) (fun x => Hold h x [own cd2 a2 x5.length c2 s2]) mixed (by kernel_rfl) H7 Hold.stable (fun x Hy => (show Hold h x [own cd2 a2 x5.length c2 s2] from Hy).pick [0] (by kernel_rfl)) ?_
            refine DR_b 14 [.slice a2 x5.length c2, .int .i64 i1, .int .i64 i2, .int .i64 (w64 (i1 + i2)), .slice a2 x5.length c2, .int .i64 i1, .int .i64 i2, .int .i64 (w64 (i1 + i2))] 0 (by kernel_rfl) (by kernel_rfl) (by kernel_rfl) (fun w => by kernel_rfl) ?_
            refine DR_y 13 (i := 8) (.pointer (some (adr a2 ((w64 (i1 + i2)).toNat * 1)))) (by kernel_rfl) (by kernel_rfl) (by kernel_rfl) (fun hx Hx => (YE.of (Y_idx (t := 39) (e := 2) (sz := 1) (a := a2) (n := x5.length) (cap := c2) (kk := .i64) (i := w64 (i1 + i2)) (by kernel_rfl) Try.underlying39 (by kernel_rfl) ((H7.rd 0 rfl).cell hx5).1 hx5l (by rw [← (H7.len 0 rfl)]; exact hx5u)))) ?_
            refine DR_y 12 (i := 9) (.int .i64 x8) (by kernel_rfl) (by kernel_rfl) (by kernel_rfl) (fun hx Hx => (YE.of (Y_load1 (t := 2) (p := adr a2 ((w64 (i1 + i2)).toNat * 1)) (v := .int .i64 x8) (by kernel_rfl) (fun w => by kernel_rfl) (cd2_cell (Hx.rd 0 rfl) hx5)))) ?_
            refine DR_b 10 [.slice ac_ c_.length cc_, .int .i64 i1] 10 (by kernel_rfl) (by kernel_rfl) (by kernel_rfl) (fun w => by kernel_rfl) ?_
            refine DR_y 9 (i := 12) (.pointer (some (adr ac_ (i1.toNat * 1)))) (by kernel_rfl) (by kernel_rfl) (by kernel_rfl) (fun hx Hx => (YE.of (Y_idx (t := 39) (e := 2) (sz := 1) (a := ac_) (n := c_.length) (cap := cc_) (kk := .i64) (i := i1) (by kernel_rfl) Try.underlying39 (by kernel_rfl) ((rc_.at H7.ext).cell hx6).1 hx6l hx6u))) ?_
            refine DR_y 8 (i := 13) (.int .i64 x9) (by kernel_rfl) (by kernel_rfl) (by kernel_rfl) (fun hx Hx => (YE.of (Y_load1 (t := 2) (p := adr ac_ (i1.toNat * 1)) (v := .int .i64 x9) (by kernel_rfl) (fun w => by kernel_rfl) (cd2_cell (rc_.at Hx.ext) hx6)))) ?_
            refine DR_b 6 [.slice ad d.length cd, .int .i64 i2] 14 (by kernel_rfl) (by kernel_rfl) (by kernel_rfl) (fun w => by kernel_rfl) ?_
            refine DR_y 5 (i := 16) (.pointer (some (adr ad (i2.toNat * 1)))) (by kernel_rfl) (by kernel_rfl) (by kernel_rfl) (fun hx Hx => (YE.of (Y_idx (t := 39) (e := 2) (sz := 1) (a := ad) (n := d.length) (cap := cd) (kk := .i64) (i := i2) (by kernel_rfl) Try.underlying39 (by kernel_rfl) ((rd.at H7.ext).cell hx7).1 hx7l hx7u))) ?_
            refine DR_y 4 (i := 17) (.int .i64 x10) (by kernel_rfl) (by kernel_rfl) (by kernel_rfl) (fun hx Hx => (YE.of (Y_load1 (t := 2) (p := adr ad (i2.toNat * 1)) (v := .int .i64 x10) (by kernel_rfl) (fun w => by kernel_rfl) (cd2_cell (rd.at Hx.ext) hx7)))) ?_
            refine DR_y 3 (i := 18) (.int .i64 x11) (by kernel_rfl) (by kernel_rfl) (by kernel_rfl) (fun hx Hx => (YE.of (Y_callq (f := 117) (args := #[.int .i64 x9, .int .i64 x10]) (v := .int .i64 x11) (by kernel_rfl) (w_spec_l01Times hx x9 x10 _ _ hx8)))) ?_
            refine DR_b 2 [.int .i64 (mx x8 x11)] 19 (by kernel_rfl) (by kernel_rfl) (by kernel_rfl) (fun w => by kernel_rfl) ?_
            refine DR_y 1 (i := 20) (.pointer (some (adr a2 ((w64 (i1 + i2)).toNat * 1)))) (by kernel_rfl) (by kernel_rfl) (by kernel_rfl) (fun hx Hx => (YE.of (Y_idx (t := 39) (e := 2) (sz := 1) (a := a2) (n := x5.length) (cap := c2) (kk := .i64) (i := w64 (i1 + i2)) (by kernel_rfl) Try.underlying39 (by kernel_rfl) ((H7.rd 0 rfl).cell hx9).1 hx9l (by rw [← (H7.len 0 rfl)]; exact hx9u)))) ?_
            refine DR_tail (i := 21) (by kernel_rfl) (by kernel_rfl) (by kernel_rfl) (fun h6 H9 => ?_)
            have H10 : Hold h h6 [own cd2 a2 x5.length c2 s2] := H9
            obtain ⟨l1, hu1, hB2⟩ := M.bind_some hB2
            have hu1 := M.upd_some hu1
            refine Run_E (by kernel_rfl) ?_
            refine E_put (C := cd2) (t := 2) (sz := 1) (j := w64 (i1 + i2)) (x := (mx x8 x11)) (v := .int .i64 (mx x8 x11)) H10 cd2_flat (by kernel_rfl) rfl (cd2_own _) (by kernel_rfl) hu1 (fun h7 H11 => ?_)
            refine Run_nil (by kernel_rfl) ?_
            refine Run_keep [0, 1, 6, 7, 8] (L' := [(0, .slice ac_ c_.length cc_), (1, .slice ad d.length cd), (6, .slice a2 x5.length c2), (7, .int .i64 i1), (8, .int .i64 i2)]) (by kernel_rfl) ?_
            refine Run_blk ?_
            refine Run_reg 3 (by kernel_rfl) (L' := [(0, .slice ac_ c_.length cc_), (1, .slice ad d.length cd), (6, .slice a2 x5.length c2), (7, .int .i64 i1), (8, .int .i64 (i2 + 1))]) ?_ ?_
            · refine QRun_b [.int .i64 i2] 0 _ (by kernel_rfl) (fun w => by kernel_rfl) ?_
              refine QRun_y (.int .i64 (i2 + 1)) (by kernel_rfl) (Y_eq (v := .int .i64 (w64 (i2 + 1))) (Y_pure (fun w => by kernel_rfl)) (by rw [w64_eq _ (by omega)])) ?_
              refine QRun_b [.int .i64 (i2 + 1)] 2 _ (by kernel_rfl) (fun w => by kernel_rfl) ?_
              exact QRun_done [0, 1, 6, 7, 8] (by kernel_rfl) (by kernel_rfl)
            have hB2 := M.ret_some hB2
            have gx7 := hgoy2 _ hB2.symm
            exact Run_again [0, 1, 6, 7, 8] (by kernel_rfl) my2 (Nat.lt_succ_self _) ⟨i2 + 1, l1, by omega, gx7, rfl, H11⟩
          · have gx7 := M.for_end gx7 hb4
            subst gx7
            refine Run_exit (k' := _) rfl ?_
            exact Run_fall [0, 1, 6, 7] (by kernel_rfl) ⟨rfl, H7⟩
      · have gx6 := M.for_end gx6 hb3
        subst gx6
        refine Run_exit (k' := _) rfl ?_
        exact Run_fall [6] (by kernel_rfl) ⟨rfl, H5⟩

set_option maxRecDepth 100000 in
set_option maxHeartbeats 4000000 in
theorem w_spec_DrawCornersOf (h : Heap) (code : List Int) (acode : Option Addr) (ccode : Nat) (rcode : Rd cd5 h (Lt h) acode ccode code) (n : Nat) (r : (List Int)) (hF : spec_DrawCornersOf code n = some r) :
    Fn Try.prog 44 #[.slice acode code.length ccode] h fun v h' => ∃ (a0 : Option Addr) (c0 : Nat), v = .slice a0 r.length c0 ∧ Hold h h' [own cd2 a0 r.length c0 r] := by
  unfold spec_DrawCornersOf at hF
  refine Fn_enter (args := [.slice acode code.length ccode]) Try.func44 rfl (by kernel_rfl) (by kernel_rfl) (fun w0 _ => ?_)
  have H0 := Hold.init h
  refine Run_seq ?_
  refine Run_reg 1 (by kernel_rfl) (L' := [(0, .slice acode code.length ccode)]) ?_ ?_
  · refine QRun_b [.slice none 0 0] 0 _ (by kernel_rfl) (fun w => by kernel_rfl) ?_
    exact QRun_done [0] (by kernel_rfl) (by kernel_rfl)
  refine Run_seq ?_
  refine Run_ops ?_
  refine Run_b [.slice acode code.length ccode] 0 _ (by kernel_rfl) (fun w => by kernel_rfl) ?_
  obtain ⟨x1, hx1, hF⟩ := M.bind_some hF
  refine Run_E (by kernel_rfl) ?_
  refine E_call (f := 98) (args := #[.slice acode code.length ccode]) (w_spec_l01From h code acode ccode rcode _ _ hx1) (by kernel_rfl) (fun v1 h1 hp1 => ?_)
  obtain ⟨b1, a1, c1, rfl, hd1, H1⟩ := hp1
  have H2 : Hold h h1 [box b1 155 [.slice a1 x1.code.length c1, .int .i64 x1.at_, .int .i64 x1.seed]] := H0.call H1 rfl
  have r1 := rcode.alias hd1
  obtain ⟨x2, hx2, hF⟩ := M.bind_some hF
  have H3 : Hold h h1 [box b1 155 [.slice a1 x1.code.length c1, .int .i64 x1.at_, .int .i64 x1.seed], bun []] := Hold.bundle (S := [box b1 155 [.slice a1 x1.code.length c1, .int .i64 x1.at_, .int .i64 x1.seed]]) (R := []) H2
  refine Run_E (by kernel_rfl) ?_
  refine E_call (f := 118) (args := #[.pointer (some ⟨b1, 0, none⟩)]) (w_spec_l09Draw h h1 _ x1 b1 a1 c1 r1 H3 _ _ hx2) (by kernel_rfl) (fun v2 h2 hp2 => ?_)
  obtain ⟨a2, c2, rfl, H4⟩ := hp2
  have H5 : Hold h h2 [own cd2 a2 x2.1.length c2 x2.1, box b1 155 [.slice a1 x1.code.length c1, .int .i64 x2.2.at_, .int .i64 x2.2.seed]] := Hold.unbundle (S := [own cd2 a2 x2.1.length c2 x2.1, box b1 155 [.slice a1 x1.code.length c1, .int .i64 x2.2.at_, .int .i64 x2.2.seed]]) (R := []) H4 (Hold.tailBase (S := [box b1 155 [.slice a1 x1.code.length c1, .int .i64 x1.at_, .int .i64 x1.seed]]) (R := []) H2)
  refine Run_b [.slice a2 x2.1.length c2] 3 _ (by kernel_rfl) (fun w => by kernel_rfl) ?_
  refine Run_nil (by kernel_rfl) ?_
  refine Run_keep [2] (L' := [(2, .slice a2 x2.1.length c2)]) (by kernel_rfl) ?_
  have hF := M.ret_some hF
  subst hF
  have H6 : Hold h h2 [own cd2 a2 x2.1.length c2 x2.1] := H5.pick [0] (by kernel_rfl)
  exact Run_ret1 rfl (ResV_tmp (v := .slice a2 x2.1.length c2) (by kernel_rfl)) ⟨a2, c2, rfl, H6⟩

set_option maxRecDepth 100000 in
set_option maxHeartbeats 4000000 in
theorem w_impl_essentialTerms (h : Heap) (c_ : List Int) (ac_ : Option Addr) (cc_ : Nat) (rc_ : Rd cd2 h (Lt h) ac_ cc_ c_) (n : Nat) (r : (List Int)) (hF : impl_essentialTerms c_ n = some r) :
    Fn Try.prog 119 #[.slice ac_ c_.length cc_] h fun v h' => ∃ (a0 : Option Addr) (c0 : Nat), v = .slice a0 r.length c0 ∧ Hold h h' [own cd2 a0 r.length c0 r] := by
  unfold impl_essentialTerms at hF
  refine Fn_enter (args := [.slice ac_ c_.length cc_]) Try.func119 rfl (by kernel_rfl) (by kernel_rfl) (fun w0 _ => ?_)
  have H0 := Hold.init h
  refine Run_seq ?_
  refine Run_reg 1 (by kernel_rfl) (L' := [(0, .slice ac_ c_.length cc_)]) ?_ ?_
  · refine QRun_b [.slice none 0 0] 0 _ (by kernel_rfl) (fun w => by kernel_rfl) ?_
    exact QRun_done [0] (by kernel_rfl) (by kernel_rfl)
  refine Run_seq ?_
  refine Run_reg 1 (by kernel_rfl) (L' := [(0, .slice ac_ c_.length cc_), (3, .slice none 0 0)]) ?_ ?_
  · refine QRun_b [.slice none 0 0] 0 _ (by kernel_rfl) (fun w => by kernel_rfl) ?_
    exact QRun_done [0, 3] (by kernel_rfl) (by kernel_rfl)
  refine Run_seq ?_
  refine Run_seq ?_
  refine Run_reg 3 (by kernel_rfl) (L' := [(0, .slice ac_ c_.length cc_), (3, .slice none 0 0), (9, .slice ac_ c_.length cc_), (10, .int .i64 (c_.length : Int)), (11, .int .i64 0)]) ?_ ?_
  · refine QRun_b [.slice ac_ c_.length cc_, .int .i64 (c_.length : Int), .int .i64 0] 0 _ (by kernel_rfl) (fun w => by kernel_rfl) ?_
    exact QRun_done [0, 3, 9, 10, 11] (by kernel_rfl) (by kernel_rfl)
  obtain ⟨x1, gx1, hF⟩ := M.bind_some hF
  obtain ⟨hloy1, hhiy1, gx1⟩ := M.for_start gx1
  refine Run_join (fun L' h' => ∃ (a2 : Option Addr) (c2 : Nat), L' = [(3, .slice a2 x1.length c2)] ∧ Hold h h' [own cd2 a2 x1.length c2 x1]) ?_ ?_
  · rintro _ h2 ⟨a2, c2, rfl, H2⟩
    refine Run_seq ?_
    refine Run_reg 2 (by kernel_rfl) (L' := [(2, .slice a2 x1.length c2)]) ?_ ?_
    · refine QRun_b [.slice a2 x1.length c2, .slice a2 x1.length c2] 0 _ (by kernel_rfl) (fun w => by kernel_rfl) ?_
      exact QRun_done [2] (by kernel_rfl) (by kernel_rfl)
    have hF := M.ret_some hF
    subst hF
    exact Run_ret1 rfl (ResV_tmp (v := .slice a2 x1.length c2) (by kernel_rfl)) ⟨a2, c2, rfl, H2⟩
  · refine Run_block ?_
    have H13 := H0.empty cd2
    refine Run_keep [0, 3, 9, 10, 11] (L' := [(0, .slice ac_ c_.length cc_), (3, .slice none 0 0), (9, .slice ac_ c_.length cc_), (10, .int .i64 (c_.length : Int)), (11, .int .i64 0)]) (by kernel_rfl) ?_
    refine Run_loop (fun m L' h' => ∃ (i1 : Int) (s1 : (List Int)) (a1 : Option Addr) (c1 : Nat), 0 ≤ i1 ∧ M.forN (c_.length : Int) _ _ n m i1 s1 = some x1 ∧ L' = [(0, .slice ac_ c_.length cc_), (3, .slice a1 s1.length c1), (9, .slice ac_ c_.length cc_), (10, .int .i64 (c_.length : Int)), (11, .int .i64 i1)] ∧ Hold h h' [own cd2 a1 s1.length c1 s1]) ((c_.length : Int) - 0 : Int).toNat ⟨0, [], none, 0, Int.le_refl _, gx1, rfl, H13⟩ ?_
    rintro my1 _ h1 ⟨i1, s1, a1, c1, hloy1', gx1, rfl, H1⟩
    refine Run_seq ?_
    refine Run_reg 1 (by kernel_rfl) (L' := [(0, .slice ac_ c_.length cc_), (3, .slice a1 s1.length c1), (9, .slice ac_ c_.length cc_), (10, .int .i64 (c_.length : Int)), (11, .int .i64 i1), (12, .bool (decide (i1 < (c_.length : Int))))]) ?_ ?_
    · refine QRun_b [.bool (decide (i1 < (c_.length : Int)))] 0 _ (by kernel_rfl) (fun w => by kernel_rfl) ?_
      exact QRun_done [0, 3, 9, 10, 11, 12] (by kernel_rfl) (by kernel_rfl)
    refine Run_seq ?_
    refine Run_cond (b := decide (i1 < (c_.length : Int))) (by kernel_rfl) (fun hb1 => ?_) (fun hb1 => ?_)
    · obtain ⟨my1, y1, rfl, hB1, hgoy1, houty1⟩ := M.for_go gx1 hb1
      have hlty1 := of_decide_eq_true hb1
      refine Run_skip ?_
      refine Run_seq ?_
      obtain ⟨s2, gs2, hB1⟩ := M.bind_some hB1
      refine Run_join (fun L' h' => ∃ (a7 : Option Addr), ∃ (c6 : Nat), L' = [(0, .slice ac_ c_.length cc_), (3, .slice a7 s2.length c6), (9, .slice ac_ c_.length cc_), (10, .int .i64 (c_.length : Int)), (11, .int .i64 i1)] ∧ Hold h h' [own cd2 a7 s2.length c6 s2]) ?_ ?_
      · rintro _ h7 ⟨a7, c6, rfl, H12⟩
        refine Run_reg 2 (by kernel_rfl) (L' := [(0, .slice ac_ c_.length cc_), (3, .slice a7 s2.length c6), (9, .slice ac_ c_.length cc_), (10, .int .i64 (c_.length : Int)), (11, .int .i64 (i1 + 1))]) ?_ ?_
        · refine QRun_y (.int .i64 (i1 + 1)) (by kernel_rfl) (Y_eq (v := .int .i64 (w64 (i1 + 1))) (Y_pure (fun w => by kernel_rfl)) (by rw [w64_eq _ (by omega)])) ?_
          refine QRun_b [.int .i64 (i1 + 1)] 1 _ (by kernel_rfl) (fun w => by kernel_rfl) ?_
          exact QRun_done [0, 3, 9, 10, 11] (by kernel_rfl) (by kernel_rfl)
        have hB1 := M.ret_some hB1
        have gx1 := hgoy1 _ hB1.symm
        exact Run_again [0, 3, 9, 10, 11] (by kernel_rfl) my1 (Nat.lt_succ_self _) ⟨i1 + 1, s2, a7, c6, by omega, gx1, rfl, H12⟩
      · refine Run_block ?_
        refine Run_seq ?_
        obtain ⟨x2, hx1, gs2⟩ := M.bind_some gs2
        obtain ⟨hx1l, hx1u, hx1⟩ := M.idx_some hx1
        refine Run_reg 5 (by kernel_rfl) (L' := [(0, .slice ac_ c_.length cc_), (3, .slice a1 s1.length c1), (4, .int .i64 i1), (5, .int .i64 x2), (9, .slice ac_ c_.length cc_), (10, .int .i64 (c_.length : Int)), (11, .int .i64 i1)]) ?_ ?_
        · refine QRun_b [.int .i64 i1] 0 _ (by kernel_rfl) (fun w => by kernel_rfl) ?_
          refine QRun_y (.pointer (some (adr ac_ (i1.toNat * 1)))) (by kernel_rfl) (Y_idx (t := 39) (e := 2) (sz := 1) (a := ac_) (n := c_.length) (cap := cc_) (kk := .i64) (i := i1) (by kernel_rfl) Try.underlying39 (by kernel_rfl) ((rc_.at H1.ext).cell hx1).1 hx1l hx1u) ?_
          refine QRun_y (.int .i64 x2) (by kernel_rfl) (Y_load1 (t := 2) (p := adr ac_ (i1.toNat * 1)) (v := .int .i64 x2) (by kernel_rfl) (fun w => by kernel_rfl) (cd2_cell (rc_.at H1.ext) hx1)) ?_
          refine QRun_b [.int .i64 i1, .int .i64 x2] 3 _ (by kernel_rfl) (fun w => by kernel_rfl) ?_
          exact QRun_done [0, 3, 4, 5, 9, 10, 11] (by kernel_rfl) (by kernel_rfl)
        refine Run_seq ?_
        refine Run_seq ?_
        refine Run_reg 2 (by kernel_rfl) (L' := [(0, .slice ac_ c_.length cc_), (3, .slice a1 s1.length c1), (4, .int .i64 i1), (5, .int .i64 x2), (9, .slice ac_ c_.length cc_), (10, .int .i64 (c_.length : Int)), (11, .int .i64 i1), (17, .bool (x2 == (-1000000000000000)))]) ?_ ?_
        · refine QRun_b [.int .i64 x2, .bool (x2 == (-1000000000000000))] 0 _ (by kernel_rfl) (fun w => by kernel_rfl) ?_
          exact QRun_done [0, 3, 4, 5, 9, 10, 11, 17] (by kernel_rfl) (by kernel_rfl)
        refine Run_cond (b := x2 == (-1000000000000000)) (by kernel_rfl) (fun hb2 => ?_) (fun hb2 => ?_)
        · have gs2 := (M.ite_some gs2).1 hb2
          refine Run_exit (k' := _) rfl ?_
          have gs2 := M.ret_some gs2
          subst gs2
          exact Run_fall [0, 3, 9, 10, 11] (by kernel_rfl) ⟨a1, c1, rfl, H1⟩
        · have gs2 := (M.ite_some gs2).2 hb2
          refine Run_skip ?_
          refine Run_seq ?_
          obtain ⟨x3, gx3, gs2⟩ := M.bind_some gs2
          refine Run_join (fun L' h' => ∃ (a4 : Option Addr) (c4 : Nat), L' = [(0, .slice ac_ c_.length cc_), (3, .slice a4 x3.length c4), (4, .int .i64 i1), (9, .slice ac_ c_.length cc_), (10, .int .i64 (c_.length : Int)), (11, .int .i64 i1)] ∧ Hold h h' [own cd2 a4 x3.length c4 x3]) ?_ ?_
          · rintro _ h4 ⟨a4, c4, rfl, H4⟩
            refine Run_ops ?_
            refine Run_b [.slice a4 x3.length c4, .int .i64 i1] 0 _ (by kernel_rfl) (fun w => by kernel_rfl) ?_
            refine Run_E (by kernel_rfl) ?_
            refine E_lit (C := cd2) (n := 1) (l := ([i1] : List Int)) (cs := [.int .i64 i1]) H4 (fun w => by kernel_rfl) (Enc.consE (cd2_own i1 _) (Enc.nil _ _) rfl) rfl (by decide) (fun a5 h5 H7 => ?_)
            obtain ⟨l1, hl1, gs2⟩ := M.bind_some gs2
            have hl1 := M.app_some hl1
            have H8 : Hold h h5 [own cd2 a4 x3.length c4 x3, own cd2 a5 1 1 ([i1] : List Int)] := H7.pick [1, 0] (by kernel_rfl)
            have H9 : Hold h h5 [own cd2 a5 1 1 ([i1] : List Int), own cd2 a4 x3.length c4 x3] := H8.pick [1, 0] (by kernel_rfl)
            have H10 : Hold h h5 [own cd2 a4 x3.length c4 x3, own cd2 a5 1 1 ([i1] : List Int)] := H9.pick [1, 0] (by kernel_rfl)
            refine Run_E (by kernel_rfl) ?_
            refine E_app (C := cd2) (t := 39) (ty := 39) (n := x3.length) (m := 1) H10 cd2_ti rfl Try.underlying39 (by decide) (by kernel_rfl) hl1 (fun a6 c5 h6 H11 => ?_)
            refine Run_b [.slice a6 l1.length c5] 4 _ (by kernel_rfl) (fun w => by kernel_rfl) ?_
            refine Run_nil (by kernel_rfl) ?_
            refine Run_keep [0, 3, 9, 10, 11] (L' := [(0, .slice ac_ c_.length cc_), (3, .slice a6 l1.length c5), (9, .slice ac_ c_.length cc_), (10, .int .i64 (c_.length : Int)), (11, .int .i64 i1)]) (by kernel_rfl) ?_
            refine Run_blk ?_
            have gs2 := M.ret_some gs2
            subst gs2
            exact Run_fall [0, 3, 9, 10, 11] (by kernel_rfl) ⟨a6, c5, rfl, H11⟩
          · refine Run_block ?_
            refine Run_keep [0, 3, 4, 5, 9, 10, 11] (L' := [(0, .slice ac_ c_.length cc_), (3, .slice a1 s1.length c1), (4, .int .i64 i1), (5, .int .i64 x2), (9, .slice ac_ c_.length cc_), (10, .int .i64 (c_.length : Int)), (11, .int .i64 i1)]) (by kernel_rfl) ?_
            refine Run_loop (fun m L' h' => ∃ (s3 : (List Int)) (a3 : Option Addr) (c3 : Nat), M.loopN _ n m s3 = some x3 ∧ L' = [(0, .slice ac_ c_.length cc_), (3, .slice a3 s3.length c3), (4, .int .i64 i1), (5, .int .i64 x2), (9, .slice ac_ c_.length cc_), (10, .int .i64 (c_.length : Int)), (11, .int .i64 i1)] ∧ Hold h h' [own cd2 a3 s3.length c3 s3]) n ⟨s1, a1, c1, gx3, rfl, H1⟩ ?_
            rintro my2 _ h3 ⟨s3, a3, c3, gx3, rfl, H3⟩
            obtain ⟨my2, y2, rfl, hB2, hgoy2, houty2⟩ := M.loop_some gx3
            refine Run_seq ?_
            refine Run_seq ?_
            refine Run_reg 3 (by kernel_rfl) (L' := [(0, .slice ac_ c_.length cc_), (3, .slice a3 s3.length c3), (4, .int .i64 i1), (5, .int .i64 x2), (9, .slice ac_ c_.length cc_), (10, .int .i64 (c_.length : Int)), (11, .int .i64 i1), (20, .bool (decide (1 < (s3.length : Int))))]) ?_ ?_
            · refine QRun_b [.slice a3 s3.length c3, .int .i64 (s3.length : Int), .bool (decide (1 < (s3.length : Int)))] 0 _ (by kernel_rfl) (fun w => by kernel_rfl) ?_
              exact QRun_done [0, 3, 4, 5, 9, 10, 11, 20] (by kernel_rfl) (by kernel_rfl)
            refine Run_cond (b := decide (1 < (s3.length : Int))) (by kernel_rfl) (fun hb3 => ?_) (fun hb3 => ?_)
            · have hB2 := (M.ite_some hB2).1 hb3
              refine Run_skip ?_
              refine Run_block ?_
              refine Run_seq ?_
              obtain ⟨x4, hx2, hB2⟩ := M.bind_some hB2
              obtain ⟨hx2l, hx2u, hx2⟩ := M.idx_some hx2
              obtain ⟨x5, hx3, hB2⟩ := M.bind_some hB2
              obtain ⟨hx3l, hx3u, hx3⟩ := M.idx_some hx3
              refine Run_draw 16 mixed (by kernel_rfl) (by kernel_rfl) (L' := [(0, .slice ac_ c_.length cc_), (3, .slice a3 s3.length c3), (4, .int .i64 i1), (5, .int .i64 x2), (6, .int .i64 x4), (7, .int .i64 x5), (8, .int .i64 i1), (9, .slice ac_ c_.length cc_), (10, .int .i64 (c_.length : Int)), (11, .int .i64 i1)]) ?_ ?_
              · refine QRun_b [.slice a3 s3.length c3, .slice a3 s3.length c3, .int .i64 (s3.length : Int), .int .i64 (w64 ((s3.length : Int) - 2))] 0 _ (by kernel_rfl) (fun w => by kernel_rfl) ?_
                refine QRun_y (.pointer (some (adr a3 ((w64 ((s3.length : Int) - 2)).toNat * 1)))) (by kernel_rfl) (Y_idx (t := 39) (e := 2) (sz := 1) (a := a3) (n := s3.length) (cap := c3) (kk := .i64) (i := w64 ((s3.length : Int) - 2)) (by kernel_rfl) Try.underlying39 (by kernel_rfl) ((H3.rd 0 rfl).cell hx2).1 hx2l hx2u) ?_
                refine QRun_y (.int .i64 x4) (by kernel_rfl) (Y_load1 (t := 2) (p := adr a3 ((w64 ((s3.length : Int) - 2)).toNat * 1)) (v := .int .i64 x4) (by kernel_rfl) (fun w => by kernel_rfl) (cd2_cell (H3.rd 0 rfl) hx2)) ?_
                refine QRun_b [.slice a3 s3.length c3, .slice a3 s3.length c3, .int .i64 (s3.length : Int), .int .i64 (w64 ((s3.length : Int) - 1))] 6 _ (by kernel_rfl) (fun w => by kernel_rfl) ?_
                refine QRun_y (.pointer (some (adr a3 ((w64 ((s3.length : Int) - 1)).toNat * 1)))) (by kernel_rfl) (Y_idx (t := 39) (e := 2) (sz := 1) (a := a3) (n := s3.length) (cap := c3) (kk := .i64) (i := w64 ((s3.length : Int) - 1)) (by kernel_rfl) Try.underlying39 (by kernel_rfl) ((H3.rd 0 rfl).cell hx3).1 hx3l hx3u) ?_
                refine QRun_y (.int .i64 x5) (by kernel_rfl) (Y_load1 (t := 2) (p := adr a3 ((w64 ((s3.length : Int) - 1)).toNat * 1)) (v := .int .i64 x5) (by kernel_rfl) (fun w => by kernel_rfl) (cd2_cell (H3.rd 0 rfl) hx3)) ?_
                refine QRun_b [.int .i64 i1, .int .i64 x4, .int .i64 x5, .int .i64 i1] 12 _ (by kernel_rfl) (fun w => by kernel_rfl) ?_
                exact QRun_done [0, 3, 4, 5, 6, 7, 8, 9, 10, 11] (by kernel_rfl) (by kernel_rfl)
              refine Run_seq ?_
              refine Run_seq ?_
              obtain ⟨x6, hx4, hB2⟩ := M.bind_some hB2
              obtain ⟨hx4l, hx4u, hx4⟩ := M.idx_some hx4
              obtain ⟨x7, hx5, hB2⟩ := M.bind_some hB2
              obtain ⟨hx5l, hx5u, hx5⟩ := M.idx_some hx5
              obtain ⟨x8, hx6, hB2⟩ := M.bind_some hB2
              obtain ⟨hx6l, hx6u, hx6⟩ := M.idx_some hx6
              refine Run_draw 24 mixed (by kernel_rfl) (by kernel_rfl) (L' := [(0, .slice ac_ c_.length cc_), (3, .slice a3 s3.length c3), (4, .int .i64 i1), (5, .int .i64 x2), (9, .slice ac_ c_.length cc_), (10, .int .i64 (c_.length : Int)), (11, .int .i64 i1), (57, .bool (decide ((w64 ((w64 (x2 - x8)) * (w64 (x5 - x4)))) < (w64 ((w64 (x6 - x7)) * (w64 (i1 - x4)))))))]) ?_ ?_
              · refine QRun_b [.slice ac_ c_.length cc_, .int .i64 x5] 0 _ (by kernel_rfl) (fun w => by kernel_rfl) ?_
                refine QRun_y (.pointer (some (adr ac_ (x5.toNat * 1)))) (by kernel_rfl) (Y_idx (t := 39) (e := 2) (sz := 1) (a := ac_) (n := c_.length) (cap := cc_) (kk := .i64) (i := x5) (by kernel_rfl) Try.underlying39 (by kernel_rfl) ((rc_.at H3.ext).cell hx4).1 hx4l hx4u) ?_
                refine QRun_y (.int .i64 x6) (by kernel_rfl) (Y_load1 (t := 2) (p := adr ac_ (x5.toNat * 1)) (v := .int .i64 x6) (by kernel_rfl) (fun w => by kernel_rfl) (cd2_cell (rc_.at H3.ext) hx4)) ?_
                refine QRun_b [.slice ac_ c_.length cc_, .int .i64 x4] 4 _ (by kernel_rfl) (fun w => by kernel_rfl) ?_
                refine QRun_y (.pointer (some (adr ac_ (x4.toNat * 1)))) (by kernel_rfl) (Y_idx (t := 39) (e := 2) (sz := 1) (a := ac_) (n := c_.length) (cap := cc_) (kk := .i64) (i := x4) (by kernel_rfl) Try.underlying39 (by kernel_rfl) ((rc_.at H3.ext).cell hx5).1 hx5l hx5u) ?_
                refine QRun_y (.int .i64 x7) (by kernel_rfl) (Y_load1 (t := 2) (p := adr ac_ (x4.toNat * 1)) (v := .int .i64 x7) (by kernel_rfl) (fun w => by kernel_rfl) (cd2_cell (rc_.at H3.ext) hx5)) ?_
                refine QRun_b [.int .i64 (w64 (x6 - x7)), .int .i64 i1, .int .i64 x4, .int .i64 (w64 (i1 - x4)), .int .i64 (w64 ((w64 (x6 - x7)) * (w64 (i1 - x4)))), .int .i64 x2, .slice ac_ c_.length cc_, .int .i64 x4] 8 _ (by kernel_rfl) (fun w => by kernel_rfl) ?_
                refine QRun_y (.pointer (some (adr ac_ (x4.toNat * 1)))) (by kernel_rfl) (Y_idx (t := 39) (e := 2) (sz := 1) (a := ac_) (n := c_.length) (cap := cc_) (kk := .i64) (i := x4) (by kernel_rfl) Try.underlying39 (by kernel_rfl) ((rc_.at H3.ext).cell hx6).1 hx6l hx6u) ?_
                refine QRun_y (.int .i64 x8) (by kernel_rfl) (Y_load1 (t := 2) (p := adr ac_ (x4.toNat * 1)) (v := .int .i64 x8) (by kernel_rfl) (fun w => by kernel_rfl) (cd2_cell (rc_.at H3.ext) hx6)) ?_
                refine QRun_b [.int .i64 (w64 (x2 - x8)), .int .i64 x5, .int .i64 x4, .int .i64 (w64 (x5 - x4)), .int .i64 (w64 ((w64 (x2 - x8)) * (w64 (x5 - x4)))), .bool (decide ((w64 ((w64 (x2 - x8)) * (w64 (x5 - x4)))) < (w64 ((w64 (x6 - x7)) * (w64 (i1 - x4))))))] 18 _ (by kernel_rfl) (fun w => by kernel_rfl) ?_
                exact QRun_done [0, 3, 4, 5, 9, 10, 11, 57] (by kernel_rfl) (by kernel_rfl)
              refine Run_cond (b := decide ((w64 ((w64 (x2 - x8)) * (w64 (x5 - x4)))) < (w64 ((w64 (x6 - x7)) * (w64 (i1 - x4)))))) (by kernel_rfl) (fun hb4 => ?_) (fun hb4 => ?_)
              · have hB2 := (M.ite_some hB2).1 hb4
                refine Run_exit (k' := _) rfl ?_
                have hB2 := M.ret_some hB2
                have gx3 := houty2 _ hB2.symm
                subst gx3
                exact Run_fall [0, 3, 4, 9, 10, 11] (by kernel_rfl) ⟨a3, c3, rfl, H3⟩
              · have hB2 := (M.ite_some hB2).2 hb4
                refine Run_skip ?_
                obtain ⟨x9, hx7, hB2⟩ := M.bind_some hB2
                obtain ⟨hx7a, hx7b, hx7c, hx7d⟩ := M.sub_some hx7
                obtain ⟨H5, e1⟩ := H3.cut (w64 ((s3.length : Int) - 1)).toNat
                have hx7q : x9 = s3.take (w64 ((s3.length : Int) - 1)).toNat := by rw [hx7d]; rfl
                have H6 : Hold h h3 [own cd2 a3 x9.length c3 x9] := by rw [hx7q]; exact H5
                refine Run_reg 6 (by kernel_rfl) (L' := [(0, .slice ac_ c_.length cc_), (3, .slice a3 x9.length c3), (4, .int .i64 i1), (5, .int .i64 x2), (9, .slice ac_ c_.length cc_), (10, .int .i64 (c_.length : Int)), (11, .int .i64 i1)]) ?_ ?_
                · refine QRun_b [.slice a3 s3.length c3, .slice a3 s3.length c3, .int .i64 (s3.length : Int), .int .i64 (w64 ((s3.length : Int) - 1))] 0 _ (by kernel_rfl) (fun w => by kernel_rfl) ?_
                  refine QRun_y (.slice a3 x9.length c3) (by kernel_rfl) (Y_eq (Y_slice (t := 39) (e := 2) (sz := 1) (a := a3) (n := s3.length) (cap := c3) (lo := none) (hi := (some (.i64, w64 ((s3.length : Int) - 1)))) (x := 0) (y := w64 ((s3.length : Int) - 1)) (by kernel_rfl) Try.underlying39 (by kernel_rfl) (H3.rd 0 rfl).fits rfl rfl hx7a hx7b hx7c) (by rw [show sliceA a3 c3 (0 : Int).toNat 1 = a3 from e1]; simp only [hx7q, List.length_take]; congr 1; omega)) ?_
                  refine QRun_b [.slice a3 x9.length c3] 5 _ (by kernel_rfl) (fun w => by kernel_rfl) ?_
                  exact QRun_done [0, 3, 4, 5, 9, 10, 11] (by kernel_rfl) (by kernel_rfl)
                refine Run_blk ?_
                have hB2 := M.ret_some hB2
                have gx3 := hgoy2 _ hB2.symm
                exact Run_again [0, 3, 4, 5, 9, 10, 11] (by kernel_rfl) my2 (Nat.lt_succ_self _) ⟨x9, a3, c3, gx3, rfl, H6⟩
            · have hB2 := (M.ite_some hB2).2 hb3
              refine Run_exit (k' := _) rfl ?_
              have hB2 := M.ret_some hB2
              have gx3 := houty2 _ hB2.symm
              subst gx3
              exact Run_fall [0, 3, 4, 9, 10, 11] (by kernel_rfl) ⟨a3, c3, rfl, H3⟩
    · have gx1 := M.for_end gx1 hb1
      subst gx1
      refine Run_exit (k' := _) rfl ?_
      exact Run_fall [3] (by kernel_rfl) ⟨a1, c1, rfl, H1⟩

set_option maxRecDepth 100000 in
set_option maxHeartbeats 4000000 in
theorem w_impl_absOf (h : Heap) (n_ : Int) (n : Nat) (r : Int) (hF : impl_absOf n_ n = some r) :
    Fn Try.prog 166 #[.int .i64 n_] h fun v h' => v = .int .i64 r ∧ h' = h := by
  unfold impl_absOf at hF
  refine Fn_enter (args := [.int .i64 n_]) Try.func166 rfl (by kernel_rfl) (by kernel_rfl) (fun w0 _ => ?_)
  refine Run_seq ?_
  refine Run_reg 1 (by kernel_rfl) (L' := [(0, .int .i64 n_)]) ?_ ?_
  · refine QRun_b [.int .i64 0] 0 _ (by kernel_rfl) (fun w => by kernel_rfl) ?_
    exact QRun_done [0] (by kernel_rfl) (by kernel_rfl)
  refine Run_seq ?_
  refine Run_seq ?_
  refine Run_reg 2 (by kernel_rfl) (L' := [(0, .int .i64 n_), (4, .bool (decide (n_ < 0)))]) ?_ ?_
  · refine QRun_b [.int .i64 n_, .bool (decide (n_ < 0))] 0 _ (by kernel_rfl) (fun w => by kernel_rfl) ?_
    exact QRun_done [0, 4] (by kernel_rfl) (by kernel_rfl)
  refine Run_cond (b := decide (n_ < 0)) (by kernel_rfl) (fun hb1 => ?_) (fun hb1 => ?_)
  · have hF := (M.ite_some hF).1 hb1
    refine Run_seq ?_
    refine Run_reg 3 (by kernel_rfl) (L' := [(2, .int .i64 (w64 (0 - n_)))]) ?_ ?_
    · refine QRun_b [.int .i64 n_, .int .i64 (w64 (0 - n_)), .int .i64 (w64 (0 - n_))] 0 _ (by kernel_rfl) (fun w => by kernel_rfl) ?_
      exact QRun_done [2] (by kernel_rfl) (by kernel_rfl)
    have hF := M.ret_some hF
    subst hF
    exact Run_ret1 rfl (ResV_tmp (v := .int .i64 (w64 (0 - n_))) (by kernel_rfl)) ⟨rfl, rfl⟩
  · have hF := (M.ite_some hF).2 hb1
    refine Run_skip ?_
    refine Run_seq ?_
    refine Run_reg 2 (by kernel_rfl) (L' := [(2, .int .i64 n_)]) ?_ ?_
    · refine QRun_b [.int .i64 n_, .int .i64 n_] 0 _ (by kernel_rfl) (fun w => by kernel_rfl) ?_
      exact QRun_done [2] (by kernel_rfl) (by kernel_rfl)
    have hF := M.ret_some hF
    subst hF
    exact Run_ret1 rfl (ResV_tmp (v := .int .i64 n_) (by kernel_rfl)) ⟨rfl, rfl⟩

set_option maxRecDepth 100000 in
set_option maxHeartbeats 4000000 in
theorem w_impl_divisorOf (h : Heap) (a_ : Int) (b : Int) (n : Nat) (r : Int) (hF : impl_divisorOf a_ b n = some r) :
    Fn Try.prog 165 #[.int .i64 a_, .int .i64 b] h fun v h' => v = .int .i64 r ∧ h' = h := by
  unfold impl_divisorOf at hF
  refine Fn_enter (args := [.int .i64 a_, .int .i64 b]) Try.func165 rfl (by kernel_rfl) (by kernel_rfl) (fun w0 _ => ?_)
  refine Run_seq ?_
  refine Run_reg 1 (by kernel_rfl) (L' := [(0, .int .i64 a_), (1, .int .i64 b)]) ?_ ?_
  · refine QRun_b [.int .i64 0] 0 _ (by kernel_rfl) (fun w => by kernel_rfl) ?_
    exact QRun_done [0, 1] (by kernel_rfl) (by kernel_rfl)
  refine Run_seq ?_
  obtain ⟨x1, gx1, hF⟩ := M.bind_some hF
  refine Run_join (fun L' h' => L' = [(0, .int .i64 x1.1)] ∧ h = h') ?_ ?_
  · rintro _ _ ⟨rfl, rfl⟩
    refine Run_seq ?_
    refine Run_reg 2 (by kernel_rfl) (L' := [(4, .int .i64 x1.1)]) ?_ ?_
    · refine QRun_b [.int .i64 x1.1, .int .i64 x1.1] 0 _ (by kernel_rfl) (fun w => by kernel_rfl) ?_
      exact QRun_done [4] (by kernel_rfl) (by kernel_rfl)
    have hF := M.ret_some hF
    subst hF
    exact Run_ret1 rfl (ResV_tmp (v := .int .i64 x1.1) (by kernel_rfl)) ⟨rfl, rfl⟩
  · refine Run_block ?_
    refine Run_keep [0, 1] (L' := [(0, .int .i64 a_), (1, .int .i64 b)]) (by kernel_rfl) ?_
    refine Run_loop (fun m L' h' => ∃ (s1 : Int × Int), M.loopN _ n m s1 = some x1 ∧ L' = [(0, .int .i64 s1.1), (1, .int .i64 s1.2)] ∧ h = h') n ⟨(a_, b), gx1, rfl, rfl⟩ ?_
    rintro my1 _ _ ⟨s1, gx1, rfl, rfl⟩
    obtain ⟨my1, y1, rfl, hB1, hgoy1, houty1⟩ := M.loop_some gx1
    refine Run_seq ?_
    refine Run_seq ?_
    refine Run_reg 2 (by kernel_rfl) (L' := [(0, .int .i64 s1.1), (1, .int .i64 s1.2), (6, .bool (decide (0 < s1.2)))]) ?_ ?_
    · refine QRun_b [.int .i64 s1.2, .bool (decide (0 < s1.2))] 0 _ (by kernel_rfl) (fun w => by kernel_rfl) ?_
      exact QRun_done [0, 1, 6] (by kernel_rfl) (by kernel_rfl)
    refine Run_cond (b := decide (0 < s1.2)) (by kernel_rfl) (fun hb1 => ?_) (fun hb1 => ?_)
    · have hB1 := (M.ite_some hB1).1 hb1
      refine Run_skip ?_
      refine Run_block ?_
      obtain ⟨u1, hz1, hB1⟩ := M.bind_some hB1
      have hz1 := M.guard_some hz1
      refine Run_draw 6 mixed (by kernel_rfl) (by kernel_rfl) (L' := [(0, .int .i64 s1.2), (1, .int .i64 (s1.1.tmod s1.2))]) ?_ ?_
      · refine QRun_b [.int .i64 s1.2, .int .i64 s1.1, .int .i64 s1.2] 0 _ (by kernel_rfl) (fun w => by kernel_rfl) ?_
        refine QRun_y (.int .i64 (s1.1.tmod s1.2)) (by kernel_rfl) (Y_rem (op := .rem) (k := .i64) (x := s1.1) (y := s1.2) (by kernel_rfl) hz1) ?_
        refine QRun_b [.int .i64 s1.2, .int .i64 (s1.1.tmod s1.2)] 4 _ (by kernel_rfl) (fun w => by kernel_rfl) ?_
        exact QRun_done [0, 1] (by kernel_rfl) (by kernel_rfl)
      refine Run_blk ?_
      have hB1 := M.ret_some hB1
      have gx1 := hgoy1 _ hB1.symm
      exact Run_again [0, 1] (by kernel_rfl) my1 (Nat.lt_succ_self _) ⟨(s1.2, (s1.1.tmod s1.2)), gx1, rfl, rfl⟩
    · have hB1 := (M.ite_some hB1).2 hb1
      refine Run_exit (k' := _) rfl ?_
      have hB1 := M.ret_some hB1
      have gx1 := houty1 _ hB1.symm
      subst gx1
      exact Run_fall [0] (by kernel_rfl) ⟨rfl, rfl⟩

set_option maxRecDepth 100000 in
set_option maxHeartbeats 4000000 in
theorem w_impl_ratioOf (h : Heap) (num : Int) (den : Int) (n : Nat) (r : TRatio) (hF : impl_ratioOf num den n = some r) :
    Fn Try.prog 120 #[.int .i64 num, .int .i64 den] h fun v h' => v = .agg #[.int .i64 r.Num, .int .i64 r.Den] ∧ Hold h h' [] := by
  unfold impl_ratioOf at hF
  refine Fn_enter (args := [.int .i64 num, .int .i64 den]) Try.func120 rfl (by kernel_rfl) (by kernel_rfl) (fun w0 _ => ?_)
  have H0 := Hold.init h
  refine Run_seq ?_
  refine Run_ops ?_
  refine Run_E (by kernel_rfl) ?_
  refine E_box (ty := 67) (cs := [.int .i64 0, .int .i64 0]) H0 (fun w => by kernel_rfl) (fun b1 h1 H1 => ?_)
  refine Run_nil (by kernel_rfl) ?_
  refine Run_keep [0, 1, 4] (L' := [(0, .int .i64 num), (1, .int .i64 den), (4, .pointer (some ⟨b1, 0, none⟩))]) (by kernel_rfl) ?_
  refine Run_seq ?_
  refine Run_seq ?_
  refine Run_reg 2 (by kernel_rfl) (L' := [(0, .int .i64 num), (1, .int .i64 den), (4, .pointer (some ⟨b1, 0, none⟩)), (7, .bool (decide (den < 0)))]) ?_ ?_
  · refine QRun_b [.int .i64 den, .bool (decide (den < 0))] 0 _ (by kernel_rfl) (fun w => by kernel_rfl) ?_
    exact QRun_done [0, 1, 4, 7] (by kernel_rfl) (by kernel_rfl)
  obtain ⟨s1, gs1, hF⟩ := M.bind_some hF
  refine Run_join (fun L' h' => L' = [(0, .int .i64 s1.1), (1, .int .i64 s1.2), (4, .pointer (some ⟨b1, 0, none⟩))] ∧ Hold h h' [box b1 67 [.int .i64 0, .int .i64 0]]) ?_ ?_
  · rintro _ h2 ⟨rfl, H2⟩
    refine Run_seq ?_
    obtain ⟨x1, hx1, hF⟩ := M.bind_some hF
    obtain ⟨x2, hx2, hF⟩ := M.bind_some hF
    refine Run_reg 5 (by kernel_rfl) (L' := [(0, .int .i64 s1.1), (1, .int .i64 s1.2), (4, .pointer (some ⟨b1, 0, none⟩)), (5, .int .i64 x2)]) ?_ ?_
    · refine QRun_b [.int .i64 s1.1] 0 _ (by kernel_rfl) (fun w => by kernel_rfl) ?_
      refine QRun_y (.int .i64 x1) (by kernel_rfl) (Y_callq (f := 166) (args := #[.int .i64 s1.1]) (v := .int .i64 x1) (by kernel_rfl) (w_impl_absOf h2 s1.1 _ _ hx1)) ?_
      refine QRun_b [.int .i64 s1.2] 2 _ (by kernel_rfl) (fun w => by kernel_rfl) ?_
      refine QRun_y (.int .i64 x2) (by kernel_rfl) (Y_callq (f := 165) (args := #[.int .i64 x1, .int .i64 s1.2]) (v := .int .i64 x2) (by kernel_rfl) (w_impl_divisorOf h2 x1 s1.2 _ _ hx2)) ?_
      refine QRun_b [.int .i64 x2] 4 _ (by kernel_rfl) (fun w => by kernel_rfl) ?_
      exact QRun_done [0, 1, 4, 5] (by kernel_rfl) (by kernel_rfl)
    refine Run_seq ?_
    obtain ⟨u1, hz1, hF⟩ := M.bind_some hF
    have hz1 := M.guard_some hz1
    obtain ⟨u2, hz2, hF⟩ := M.bind_some hF
    have hz2 := M.guard_some hz2
    refine Run_D (fun x => Hold h x [box b1 67 [.int .i64 0, .int .i64 0]]) (fun x => Hold h x [box b1 67 [.int .i64 0, .int .i64 0]]) mixed (by kernel_rfl) H2 Hold.stable (fun x Hy => (show Hold h x [box b1 67 [.int .i64 0, .int .i64 0]] from Hy).pick [0] (by kernel_rfl)) ?_
    refine DR_b 6 [.int .i64 s1.1, .int .i64 x2] 0 (by kernel_rfl) (by kernel_rfl) (by kernel_rfl) (fun w => by kernel_rfl) ?_
    refine DR_y 5 (i := 2) (.int .i64 (w64 (s1.1.tdiv x2))) (by kernel_rfl) (by kernel_rfl) (by kernel_rfl) (fun hx Hx => (YE.of (Y_quo (op := .quo) (k := .i64) (x := s1.1) (y := x2) (by kernel_rfl) hz1))) ?_
    refine DR_b 3 [.int .i64 s1.2, .int .i64 x2] 3 (by kernel_rfl) (by kernel_rfl) (by kernel_rfl) (fun w => by kernel_rfl) ?_
    refine DR_y 2 (i := 5) (.int .i64 (w64 (s1.2.tdiv x2))) (by kernel_rfl) (by kernel_rfl) (by kernel_rfl) (fun hx Hx => (YE.of (Y_quo (op := .quo) (k := .i64) (x := s1.2) (y := x2) (by kernel_rfl) hz2))) ?_
    refine DR_b 1 [.agg #[.int .i64 (w64 (s1.1.tdiv x2)), .int .i64 (w64 (s1.2.tdiv x2))]] 6 (by kernel_rfl) (by kernel_rfl) (by kernel_rfl) (fun w => by kernel_rfl) ?_
    refine DR_tail (i := 7) (by kernel_rfl) (by kernel_rfl) (by kernel_rfl) (fun h3 H3 => ?_)
    have H4 : Hold h h3 [box b1 67 [.int .i64 0, .int .i64 0]] := H3
    refine Run_E (by kernel_rfl) ?_
    refine E_bput (t := 67) (off := 0) (us := [.int .i64 (w64 (s1.1.tdiv x2)), .int .i64 (w64 (s1.2.tdiv x2))]) (v := .agg #[.int .i64 (w64 (s1.1.tdiv x2)), .int .i64 (w64 (s1.2.tdiv x2))]) H4 (by kernel_rfl) (by kernel_rfl) rfl (by kernel_rfl) rfl (fun h4 H5 => ?_)
    refine Run_nil (by kernel_rfl) ?_
    refine Run_keep [4] (L' := [(4, .pointer (some ⟨b1, 0, none⟩))]) (by kernel_rfl) ?_
    have hF := M.ret_some hF
    subst hF
    have H6 : Hold h h4 [] := H5.pick [] (by kernel_rfl)
    exact Run_ret1 rfl (ResV_cell (n := 2) (cs := [.int .i64 (w64 (s1.1.tdiv x2)), .int .i64 (w64 (s1.2.tdiv x2))]) (by kernel_rfl) (fun w => by kernel_rfl) (by kernel_rfl) rfl (H5.cells (n := 2) (off := 0) 0 rfl rfl)) ⟨rfl, H6⟩
  · refine Run_cond (b := decide (den < 0)) (by kernel_rfl) (fun hb1 => ?_) (fun hb1 => ?_)
    · have gs1 := (M.ite_some gs1).1 hb1
      refine Run_reg 6 (by kernel_rfl) (L' := [(0, .int .i64 (w64 (0 - num))), (1, .int .i64 (w64 (0 - den))), (4, .pointer (some ⟨b1, 0, none⟩))]) ?_ ?_
      · refine QRun_b [.int .i64 num, .int .i64 (w64 (0 - num)), .int .i64 den, .int .i64 (w64 (0 - den)), .int .i64 (w64 (0 - num)), .int .i64 (w64 (0 - den))] 0 _ (by kernel_rfl) (fun w => by kernel_rfl) ?_
        exact QRun_done [0, 1, 4] (by kernel_rfl) (by kernel_rfl)
      have gs1 := M.ret_some gs1
      subst gs1
      exact Run_fall [0, 1, 4] (by kernel_rfl) ⟨rfl, H1⟩
    · have gs1 := (M.ite_some gs1).2 hb1
      refine Run_skip ?_
      have gs1 := M.ret_some gs1
      subst gs1
      exact Run_fall [0, 1, 4] (by kernel_rfl) ⟨rfl, H1⟩

set_option maxRecDepth 100000 in
set_option maxHeartbeats 4000000 in
theorem w_impl_IsRatio (h : Heap) (r_ : TRatio) (n : Nat) (r : Bool) (hF : impl_IsRatio r_ n = some r) :
    Fn Try.prog 121 #[.agg #[.int .i64 r_.Num, .int .i64 r_.Den]] h fun v h' => v = .bool r ∧ Hold h h' [] := by
  unfold impl_IsRatio at hF
  refine Fn_enter (args := [.agg #[.int .i64 r_.Num, .int .i64 r_.Den]]) Try.func121 rfl (by kernel_rfl) (by kernel_rfl) (fun w0 _ => ?_)
  have H0 := Hold.init h
  refine Run_seq ?_
  refine Run_ops ?_
  refine Run_E (by kernel_rfl) ?_
  refine E_box (ty := 67) (cs := [.int .i64 r_.Num, .int .i64 r_.Den]) H0 (fun w => by kernel_rfl) (fun b1 h1 H1 => ?_)
  refine Run_b [.bool false] 1 _ (by kernel_rfl) (fun w => by kernel_rfl) ?_
  refine Run_nil (by kernel_rfl) ?_
  refine Run_keep [1] (L' := [(1, .pointer (some ⟨b1, 0, none⟩))]) (by kernel_rfl) ?_
  refine Run_seq ?_
  obtain ⟨x1, hx1, hF⟩ := M.bind_some hF
  obtain ⟨x2, gx2, hF⟩ := M.bind_some hF
  obtain ⟨x4, gx4, hF⟩ := M.bind_some hF
  refine Run_draw 18 mixed (by kernel_rfl) (by kernel_rfl) (L' := [(2, .bool x4)]) ?_ ?_
  · refine QRun_b [.pointer (some ⟨b1, 0, none⟩)] 0 _ (by kernel_rfl) (fun w => by kernel_rfl) ?_
    refine QRun_y (.int .i64 r_.Num) (by kernel_rfl) (Y_load1 (t := 2) (p := ⟨b1, 0, none⟩) (v := .int .i64 r_.Num) (by kernel_rfl) (fun w => by kernel_rfl) (H1.cell 0 rfl rfl)) ?_
    refine QRun_y (.bool x1) (by kernel_rfl) (Y_callq (f := 167) (args := #[.int .i64 r_.Num]) (v := .bool x1) (by kernel_rfl) (w_impl_isFinite h1 r_.Num _ _ hx1)) ?_
    refine QRun_seq 8 [(1, .pointer (some ⟨b1, 0, none⟩)), (10, .bool x2)] ?_ ?_
    · rcases Bool.eq_false_or_eq_true x1 with hb1 | hb1
      · refine QRun_bool x1 true (by kernel_rfl) (fun w => by kernel_rfl) hb1 ?_
        have gx2 := (M.ite_some gx2).1 hb1
        obtain ⟨x3, hx2, gx2⟩ := M.bind_some gx2
        have gx2 := M.ret_some gx2
        refine QRun_b [.pointer (some ⟨b1, 1, none⟩)] 4 _ (by kernel_rfl) (fun w => by kernel_rfl) ?_
        refine QRun_y (.int .i64 r_.Den) (by kernel_rfl) (Y_load1 (t := 2) (p := ⟨b1, 1, none⟩) (v := .int .i64 r_.Den) (by kernel_rfl) (fun w => by kernel_rfl) (H1.cell 0 rfl rfl)) ?_
        refine QRun_y (.bool x3) (by kernel_rfl) (Y_callq (f := 108) (args := #[.int .i64 r_.Den, .int .i64 1, .int .i64 1000000]) (v := .bool x3) (by kernel_rfl) (w_impl_within h1 r_.Den 1 1000000 _ _ hx2)) ?_
        refine QRun_bool x3 x2 (by kernel_rfl) (fun w => by kernel_rfl) gx2 ?_
        exact QRun_done [1, 10] (by kernel_rfl) (by kernel_rfl)
      · refine QRun_bool x1 false (by kernel_rfl) (fun w => by kernel_rfl) hb1 ?_
        have gx2 := M.ret_some ((M.ite_some gx2).2 hb1)
        refine QRun_n (by kernel_rfl) ?_
        refine QRun_n (by kernel_rfl) ?_
        refine QRun_n (by kernel_rfl) ?_
        refine QRun_bool false x2 (by kernel_rfl) (fun w => by kernel_rfl) gx2 ?_
        exact QRun_done [1, 10] (by kernel_rfl) (by kernel_rfl)
    refine QRun_seq 17 [(19, .bool x4)] ?_ ?_
    · rcases Bool.eq_false_or_eq_true x2 with hb2 | hb2
      · refine QRun_bool x2 true (by kernel_rfl) (fun w => by kernel_rfl) hb2 ?_
        have gx4 := (M.ite_some gx4).1 hb2
        obtain ⟨x5, hx3, gx4⟩ := M.bind_some gx4
        obtain ⟨x6, hx4, gx4⟩ := M.bind_some gx4
        have gx4 := M.ret_some gx4
        refine QRun_b [.pointer (some ⟨b1, 0, none⟩)] 9 _ (by kernel_rfl) (fun w => by kernel_rfl) ?_
        refine QRun_y (.int .i64 r_.Num) (by kernel_rfl) (Y_load1 (t := 2) (p := ⟨b1, 0, none⟩) (v := .int .i64 r_.Num) (by kernel_rfl) (fun w => by kernel_rfl) (H1.cell 0 rfl rfl)) ?_
        refine QRun_y (.int .i64 x5) (by kernel_rfl) (Y_callq (f := 166) (args := #[.int .i64 r_.Num]) (v := .int .i64 x5) (by kernel_rfl) (w_impl_absOf h1 r_.Num _ _ hx3)) ?_
        refine QRun_b [.pointer (some ⟨b1, 1, none⟩)] 12 _ (by kernel_rfl) (fun w => by kernel_rfl) ?_
        refine QRun_y (.int .i64 r_.Den) (by kernel_rfl) (Y_load1 (t := 2) (p := ⟨b1, 1, none⟩) (v := .int .i64 r_.Den) (by kernel_rfl) (fun w => by kernel_rfl) (H1.cell 0 rfl rfl)) ?_
        refine QRun_y (.int .i64 x6) (by kernel_rfl) (Y_callq (f := 165) (args := #[.int .i64 x5, .int .i64 r_.Den]) (v := .int .i64 x6) (by kernel_rfl) (w_impl_divisorOf h1 x5 r_.Den _ _ hx4)) ?_
        refine QRun_b [.bool (x6 == 1)] 15 _ (by kernel_rfl) (fun w => by kernel_rfl) ?_
        refine QRun_bool (x6 == 1) x4 (by kernel_rfl) (fun w => by kernel_rfl) gx4 ?_
        exact QRun_done [19] (by kernel_rfl) (by kernel_rfl)
      · refine QRun_bool x2 false (by kernel_rfl) (fun w => by kernel_rfl) hb2 ?_
        have gx4 := M.ret_some ((M.ite_some gx4).2 hb2)
        refine QRun_n (by kernel_rfl) ?_
        refine QRun_n (by kernel_rfl) ?_
        refine QRun_n (by kernel_rfl) ?_
        refine QRun_n (by kernel_rfl) ?_
        refine QRun_n (by kernel_rfl) ?_
        refine QRun_n (by kernel_rfl) ?_
        refine QRun_n (by kernel_rfl) ?_
        refine QRun_bool false x4 (by kernel_rfl) (fun w => by kernel_rfl) gx4 ?_
        exact QRun_done [19] (by kernel_rfl) (by kernel_rfl)
    refine QRun_b [.bool x4] 17 _ (by kernel_rfl) (fun w => by kernel_rfl) ?_
    exact QRun_done [2] (by kernel_rfl) (by kernel_rfl)
  have hF := M.ret_some hF
  subst hF
  have H2 : Hold h h1 [] := H1.pick [] (by kernel_rfl)
  exact Run_ret1 rfl (ResV_tmp (v := .bool x4) (by kernel_rfl)) ⟨rfl, H2⟩

set_option maxRecDepth 100000 in
set_option maxHeartbeats 4000000 in
theorem w_impl_CornersOf (h : Heap) (c_ : List Int) (ac_ : Option Addr) (cc_ : Nat) (rc_ : Rd cd2 h (Lt h) ac_ cc_ c_) (n : Nat) (r : (List TCorner) × Int) (hF : impl_CornersOf c_ n = some r) :
    Fn Try.prog 45 #[.slice ac_ c_.length cc_] h fun v h' => ∃ (a0 : Option Addr) (c0 : Nat), v = .tuple #[.slice a0 r.1.length c0, .int .i64 r.2] ∧ Hold h h' [own cd69 a0 r.1.length c0 r.1] := by
  unfold impl_CornersOf at hF
  refine Fn_enter (args := [.slice ac_ c_.length cc_]) Try.func45 rfl (by kernel_rfl) (by kernel_rfl) (fun w0 _ => ?_)
  have H0 := Hold.init h
  refine Run_seq ?_
  refine Run_reg 2 (by kernel_rfl) (L' := [(0, .slice ac_ c_.length cc_)]) ?_ ?_
  · refine QRun_b [.slice none 0 0, .int .i64 0] 0 _ (by kernel_rfl) (fun w => by kernel_rfl) ?_
    exact QRun_done [0] (by kernel_rfl) (by kernel_rfl)
  refine Run_seq ?_
  refine Run_seq ?_
  obtain ⟨x1, hx1, hF⟩ := M.bind_some hF
  refine Run_reg 3 (by kernel_rfl) (L' := [(0, .slice ac_ c_.length cc_), (12, .bool (!x1))]) ?_ ?_
  · refine QRun_b [.slice ac_ c_.length cc_] 0 _ (by kernel_rfl) (fun w => by kernel_rfl) ?_
    refine QRun_y (.bool x1) (by kernel_rfl) (Y_callq (f := 114) (args := #[.slice ac_ c_.length cc_]) (v := .bool x1) (by kernel_rfl) (w_impl_IsPolynomial h c_ ac_ cc_ rc_ _ _ hx1)) ?_
    refine QRun_b [.bool (!x1)] 2 _ (by kernel_rfl) (fun w => by kernel_rfl) ?_
    exact QRun_done [0, 12] (by kernel_rfl) (by kernel_rfl)
  refine Run_cond (b := !x1) (by kernel_rfl) (fun hb1 => ?_) (fun hb1 => ?_)
  · have hF := (M.ite_some hF).1 hb1
    refine Run_seq ?_
    refine Run_reg 2 (by kernel_rfl) (L' := [(2, .slice none 0 0), (3, .int .i64 1)]) ?_ ?_
    · refine QRun_b [.slice none 0 0, .int .i64 1] 0 _ (by kernel_rfl) (fun w => by kernel_rfl) ?_
      exact QRun_done [2, 3] (by kernel_rfl) (by kernel_rfl)
    have hF := M.ret_some hF
    subst hF
    have H1 := H0.empty cd69
    exact Run_ret2 rfl (ResV_tmp (v := .slice none 0 0) (by kernel_rfl)) (ResV_tmp (v := .int .i64 1) (by kernel_rfl)) ⟨none, 0, rfl, H1⟩
  · have hF := (M.ite_some hF).2 hb1
    refine Run_skip ?_
    refine Run_seq ?_
    refine Run_ops ?_
    refine Run_b [.slice ac_ c_.length cc_] 0 _ (by kernel_rfl) (fun w => by kernel_rfl) ?_
    obtain ⟨x2, hx2, hF⟩ := M.bind_some hF
    refine Run_E (by kernel_rfl) ?_
    refine E_call (f := 119) (args := #[.slice ac_ c_.length cc_]) (w_impl_essentialTerms h c_ ac_ cc_ rc_ _ _ hx2) (by kernel_rfl) (fun v1 h1 hp1 => ?_)
    obtain ⟨a1, c1, rfl, H2⟩ := hp1
    have H3 : Hold h h1 [own cd2 a1 x2.length c1 x2] := H0.call H2 rfl
    refine Run_b [.slice a1 x2.length c1] 2 _ (by kernel_rfl) (fun w => by kernel_rfl) ?_
    refine Run_nil (by kernel_rfl) ?_
    refine Run_keep [0, 4] (L' := [(0, .slice ac_ c_.length cc_), (4, .slice a1 x2.length c1)]) (by kernel_rfl) ?_
    refine Run_seq ?_
    refine Run_reg 1 (by kernel_rfl) (L' := [(0, .slice ac_ c_.length cc_), (4, .slice a1 x2.length c1), (5, .slice none 0 0)]) ?_ ?_
    · refine QRun_b [.slice none 0 0] 0 _ (by kernel_rfl) (fun w => by kernel_rfl) ?_
      exact QRun_done [0, 4, 5] (by kernel_rfl) (by kernel_rfl)
    refine Run_seq ?_
    refine Run_seq ?_
    refine Run_reg 1 (by kernel_rfl) (L' := [(0, .slice ac_ c_.length cc_), (4, .slice a1 x2.length c1), (5, .slice none 0 0), (6, .int .i64 1)]) ?_ ?_
    · refine QRun_b [.int .i64 1] 0 _ (by kernel_rfl) (fun w => by kernel_rfl) ?_
      exact QRun_done [0, 4, 5, 6] (by kernel_rfl) (by kernel_rfl)
    obtain ⟨x3, gx3, hF⟩ := M.bind_some hF
    obtain ⟨hloy1, hhiy1, gx3⟩ := M.for_start gx3
    refine Run_join (fun L' h' => ∃ (s2 : (List TCorner)) (a3 : Option Addr) (c3 : Nat), x3 = .inl s2 ∧ L' = [(5, .slice a3 s2.length c3)] ∧ Hold h h' [own cd69 a3 s2.length c3 s2]) ?_ ?_
    · rintro _ h3 ⟨s2, a3, c3, es2, rfl, H5⟩
      have hF := M.cont_inl' hF es2
      refine Run_seq ?_
      refine Run_reg 3 (by kernel_rfl) (L' := [(2, .slice a3 s2.length c3), (3, .int .i64 0)]) ?_ ?_
      · refine QRun_b [.slice a3 s2.length c3, .slice a3 s2.length c3, .int .i64 0] 0 _ (by kernel_rfl) (fun w => by kernel_rfl) ?_
        exact QRun_done [2, 3] (by kernel_rfl) (by kernel_rfl)
      have hF := M.ret_some hF
      subst hF
      exact Run_ret2 rfl (ResV_tmp (v := .slice a3 s2.length c3) (by kernel_rfl)) (ResV_tmp (v := .int .i64 0) (by kernel_rfl)) ⟨a3, c3, rfl, H5⟩
    · refine Run_block ?_
      have H24 := H3.empty cd69
      have H25 : Hold h h1 [own cd2 a1 x2.length c1 x2, own cd69 none 0 0 []] := H24.pick [1, 0] (by kernel_rfl)
      refine Run_keep [0, 4, 5, 6] (L' := [(0, .slice ac_ c_.length cc_), (4, .slice a1 x2.length c1), (5, .slice none 0 0), (6, .int .i64 1)]) (by kernel_rfl) ?_
      refine Run_loop (fun m L' h' => ∃ (i1 : Int) (s1 : (List TCorner)) (a2 : Option Addr) (c2 : Nat), 1 ≤ i1 ∧ M.forN (x2.length : Int) _ _ n m i1 s1 = some x3 ∧ L' = [(0, .slice ac_ c_.length cc_), (4, .slice a1 x2.length c1), (5, .slice a2 s1.length c2), (6, .int .i64 i1)] ∧ Hold h h' [own cd2 a1 x2.length c1 x2, own cd69 a2 s1.length c2 s1]) ((x2.length : Int) - 1 : Int).toNat ⟨1, [], none, 0, Int.le_refl _, gx3, rfl, H25⟩ ?_
      rintro my1 _ h2 ⟨i1, s1, a2, c2, hloy1', gx3, rfl, H4⟩
      refine Run_seq ?_
      refine Run_seq ?_
      refine Run_reg 4 (by kernel_rfl) (L' := [(0, .slice ac_ c_.length cc_), (4, .slice a1 x2.length c1), (5, .slice a2 s1.length c2), (6, .int .i64 i1), (18, .bool (decide (i1 < (x2.length : Int))))]) ?_ ?_
      · refine QRun_b [.int .i64 i1, .slice a1 x2.length c1, .int .i64 (x2.length : Int), .bool (decide (i1 < (x2.length : Int)))] 0 _ (by kernel_rfl) (fun w => by kernel_rfl) ?_
        exact QRun_done [0, 4, 5, 6, 18] (by kernel_rfl) (by kernel_rfl)
      refine Run_cond (b := decide (i1 < (x2.length : Int))) (by kernel_rfl) (fun hb2 => ?_) (fun hb2 => ?_)
      · obtain ⟨my1, y1, rfl, hB1, hgoy1, houty1⟩ := M.for_go gx3 hb2
        have hlty1 := of_decide_eq_true hb2
        refine Run_skip ?_
        refine Run_seq ?_
        refine Run_block ?_
        refine Run_seq ?_
        obtain ⟨x4, hx3, hB1⟩ := M.bind_some hB1
        obtain ⟨hx3l, hx3u, hx3⟩ := M.idx_some hx3
        obtain ⟨x5, hx4, hB1⟩ := M.bind_some hB1
        obtain ⟨hx4l, hx4u, hx4⟩ := M.idx_some hx4
        refine Run_draw 11 mixed (by kernel_rfl) (by kernel_rfl) (L' := [(0, .slice ac_ c_.length cc_), (4, .slice a1 x2.length c1), (5, .slice a2 s1.length c2), (6, .int .i64 i1), (7, .int .i64 x4), (8, .int .i64 x5)]) ?_ ?_
        · refine QRun_b [.slice a1 x2.length c1, .int .i64 i1, .int .i64 (w64 (i1 - 1))] 0 _ (by kernel_rfl) (fun w => by kernel_rfl) ?_
          refine QRun_y (.pointer (some (adr a1 ((w64 (i1 - 1)).toNat * 1)))) (by kernel_rfl) (Y_idx (t := 39) (e := 2) (sz := 1) (a := a1) (n := x2.length) (cap := c1) (kk := .i64) (i := w64 (i1 - 1)) (by kernel_rfl) Try.underlying39 (by kernel_rfl) ((H4.rd 0 rfl).cell hx3).1 hx3l hx3u) ?_
          refine QRun_y (.int .i64 x4) (by kernel_rfl) (Y_load1 (t := 2) (p := adr a1 ((w64 (i1 - 1)).toNat * 1)) (v := .int .i64 x4) (by kernel_rfl) (fun w => by kernel_rfl) (cd2_cell (H4.rd 0 rfl) hx3)) ?_
          refine QRun_b [.slice a1 x2.length c1, .int .i64 i1] 5 _ (by kernel_rfl) (fun w => by kernel_rfl) ?_
          refine QRun_y (.pointer (some (adr a1 (i1.toNat * 1)))) (by kernel_rfl) (Y_idx (t := 39) (e := 2) (sz := 1) (a := a1) (n := x2.length) (cap := c1) (kk := .i64) (i := i1) (by kernel_rfl) Try.underlying39 (by kernel_rfl) ((H4.rd 0 rfl).cell hx4).1 hx4l hx4u) ?_
          refine QRun_y (.int .i64 x5) (by kernel_rfl) (Y_load1 (t := 2) (p := adr a1 (i1.toNat * 1)) (v := .int .i64 x5) (by kernel_rfl) (fun w => by kernel_rfl) (cd2_cell (H4.rd 0 rfl) hx4)) ?_
          refine QRun_b [.int .i64 x4, .int .i64 x5] 9 _ (by kernel_rfl) (fun w => by kernel_rfl) ?_
          exact QRun_done [0, 4, 5, 6, 7, 8] (by kernel_rfl) (by kernel_rfl)
        refine Run_seq ?_
        obtain ⟨x6, hx5, hB1⟩ := M.bind_some hB1
        obtain ⟨hx5l, hx5u, hx5⟩ := M.idx_some hx5
        obtain ⟨x7, hx6, hB1⟩ := M.bind_some hB1
        obtain ⟨hx6l, hx6u, hx6⟩ := M.idx_some hx6
        obtain ⟨x8, hx7, hB1⟩ := M.bind_some hB1
        refine Run_D (fun x => Hold h x [own cd2 a1 x2.length c1 x2, own cd69 a2 s1.length c2 s1]) (fun x => Hold h x [own cd2 a1 x2.length c1 x2, own cd69 a2 s1.length c2 s1]) mixed (by kernel_rfl) H4 Hold.stable (fun x Hy => (show Hold h x [own cd2 a1 x2.length c1 x2, own cd69 a2 s1.length c2 s1] from Hy).pick [0, 1] (by kernel_rfl)) ?_
        refine DR_b 13 [.slice ac_ c_.length cc_, .int .i64 x4] 0 (by kernel_rfl) (by kernel_rfl) (by kernel_rfl) (fun w => by kernel_rfl) ?_
        refine DR_y 12 (i := 2) (.pointer (some (adr ac_ (x4.toNat * 1)))) (by kernel_rfl) (by kernel_rfl) (by kernel_rfl) (fun hx Hx => (YE.of (Y_idx (t := 39) (e := 2) (sz := 1) (a := ac_) (n := c_.length) (cap := cc_) (kk := .i64) (i := x4) (by kernel_rfl) Try.underlying39 (by kernel_rfl) ((rc_.at H4.ext).cell hx5).1 hx5l hx5u))) ?_
        refine DR_y 11 (i := 3) (.int .i64 x6) (by kernel_rfl) (by kernel_rfl) (by kernel_rfl) (fun hx Hx => (YE.of (Y_load1 (t := 2) (p := adr ac_ (x4.toNat * 1)) (v := .int .i64 x6) (by kernel_rfl) (fun w => by kernel_rfl) (cd2_cell (rc_.at Hx.ext) hx5)))) ?_
        refine DR_b 9 [.slice ac_ c_.length cc_, .int .i64 x5] 4 (by kernel_rfl) (by kernel_rfl) (by kernel_rfl) (fun w => by kernel_rfl) ?_
        refine DR_y 8 (i := 6) (.pointer (some (adr ac_ (x5.toNat * 1)))) (by kernel_rfl) (by kernel_rfl) (by kernel_rfl) (fun hx Hx => (YE.of (Y_idx (t := 39) (e := 2) (sz := 1) (a := ac_) (n := c_.length) (cap := cc_) (kk := .i64) (i := x5) (by kernel_rfl) Try.underlying39 (by kernel_rfl) ((rc_.at H4.ext).cell hx6).1 hx6l hx6u))) ?_
        refine DR_y 7 (i := 7) (.int .i64 x7) (by kernel_rfl) (by kernel_rfl) (by kernel_rfl) (fun hx Hx => (YE.of (Y_load1 (t := 2) (p := adr ac_ (x5.toNat * 1)) (v := .int .i64 x7) (by kernel_rfl) (fun w => by kernel_rfl) (cd2_cell (rc_.at Hx.ext) hx6)))) ?_
        refine DR_b 3 [.int .i64 (w64 (x6 - x7)), .int .i64 x5, .int .i64 x4, .int .i64 (w64 (x5 - x4))] 8 (by kernel_rfl) (by kernel_rfl) (by kernel_rfl) (fun w => by kernel_rfl) ?_
        refine DR_y 2 (i := 12) (.agg #[.int .i64 x8.Num, .int .i64 x8.Den]) (by kernel_rfl) (by kernel_rfl) (by kernel_rfl) (fun hx Hx => (YE_call (f := 120) (args := #[.int .i64 (w64 (x6 - x7)), .int .i64 (w64 (x5 - x4))]) (v := .agg #[.int .i64 x8.Num, .int .i64 x8.Den]) (by kernel_rfl) ((w_impl_ratioOf hx (w64 (x6 - x7)) (w64 (x5 - x4)) _ _ hx7).mono fun _ _ ⟨e, H'⟩ => ⟨e, H'.ext⟩))) ?_
        refine DR_e 1 13 (by kernel_rfl) (by kernel_rfl) (by kernel_rfl) (fun h4 H6 => ?_)
        have H7 : Hold h h4 [own cd2 a1 x2.length c1 x2, own cd69 a2 s1.length c2 s1] := H6
        refine E_box (ty := 67) (cs := [.int .i64 0, .int .i64 0]) H7 (fun w => by kernel_rfl) (fun b1 h5 H8 => ?_)
        refine ⟨fun x => Hold h x [own cd2 a1 x2.length c1 x2, own cd69 a2 s1.length c2 s1, box b1 67 [.int .i64 0, .int .i64 0]], fun x => Hold h x [box b1 67 [.int .i64 0, .int .i64 0], own cd2 a1 x2.length c1 x2, own cd69 a2 s1.length c2 s1], H8, Hold.stable, fun x Hy => (show Hold h x [box b1 67 [.int .i64 0, .int .i64 0], own cd2 a1 x2.length c1 x2, own cd69 a2 s1.length c2 s1] from Hy).pick [1, 2, 0] (by kernel_rfl), fun x Hy => (show Hold h x [own cd2 a1 x2.length c1 x2, own cd69 a2 s1.length c2 s1, box b1 67 [.int .i64 0, .int .i64 0]] from Hy).pick [0, 1] (by kernel_rfl), ?_⟩
        refine DR_tail (i := 14) (by kernel_rfl) (by kernel_rfl) (by kernel_rfl) (fun h6 H9 => ?_)
        have H10 : Hold h h6 [box b1 67 [.int .i64 0, .int .i64 0], own cd2 a1 x2.length c1 x2, own cd69 a2 s1.length c2 s1] := H9
        refine Run_E (by kernel_rfl) ?_
        refine E_bput (t := 67) (off := 0) (us := [.int .i64 x8.Num, .int .i64 x8.Den]) (v := .agg #[.int .i64 x8.Num, .int .i64 x8.Den]) H10 (by kernel_rfl) (by kernel_rfl) rfl (by kernel_rfl) rfl (fun h7 H11 => ?_)
        refine Run_nil (by kernel_rfl) ?_
        refine Run_keep [0, 4, 5, 6, 7, 8, 9] (L' := [(0, .slice ac_ c_.length cc_), (4, .slice a1 x2.length c1), (5, .slice a2 s1.length c2), (6, .int .i64 i1), (7, .int .i64 x4), (8, .int .i64 x5), (9, .pointer (some ⟨b1, 0, none⟩))]) (by kernel_rfl) ?_
        refine Run_seq ?_
        refine Run_seq ?_
        obtain ⟨x9, hx8, hB1⟩ := M.bind_some hB1
        refine Run_regC (j := 3) (C := fun x => Hold h x [box b1 67 [.int .i64 x8.Num, .int .i64 x8.Den], own cd2 a1 x2.length c1 x2, own cd69 a2 s1.length c2 s1]) (by kernel_rfl) H11 (L' := [(0, .slice ac_ c_.length cc_), (4, .slice a1 x2.length c1), (5, .slice a2 s1.length c2), (6, .int .i64 i1), (7, .int .i64 x4), (8, .int .i64 x5), (9, .pointer (some ⟨b1, 0, none⟩)), (45, .bool (!x9))]) ?_ (fun h8 H12 => ?_)
        · refine QRun_y (.agg #[.int .i64 x8.Num, .int .i64 x8.Den]) (by kernel_rfl) (Y_cls fun hx Hx => (Y_loadA (t := 67) (n := 2) (p := ⟨b1, 0, none⟩) (cs := [.int .i64 x8.Num, .int .i64 x8.Den]) (by kernel_rfl) (fun w => by kernel_rfl) (by kernel_rfl) rfl (Hx.cells (n := 2) (off := 0) 0 rfl rfl))) ?_
          refine QRun_y (.bool x9) (by kernel_rfl) (Y_call (f := 121) (args := #[.agg #[.int .i64 x8.Num, .int .i64 x8.Den]]) (v := .bool x9) (by kernel_rfl) fun hx Hx => (w_impl_IsRatio hx x8 _ _ hx8).mono fun _ _ ⟨e, H'⟩ => ⟨e, Hx.call H' rfl⟩) ?_
          refine QRun_b [.bool (!x9)] 2 _ (by kernel_rfl) (fun w => by kernel_rfl) ?_
          exact QRun_done [0, 4, 5, 6, 7, 8, 9, 45] (by kernel_rfl) (by kernel_rfl)
        have H13 : Hold h h8 [box b1 67 [.int .i64 x8.Num, .int .i64 x8.Den], own cd2 a1 x2.length c1 x2, own cd69 a2 s1.length c2 s1] := H12
        refine Run_cond (b := !x9) (by kernel_rfl) (fun hb3 => ?_) (fun hb3 => ?_)
        · have hB1 := (M.ite_some hB1).1 hb3
          refine Run_seq ?_
          refine Run_reg 2 (by kernel_rfl) (L' := [(2, .slice none 0 0), (3, .int .i64 3)]) ?_ ?_
          · refine QRun_b [.slice none 0 0, .int .i64 3] 0 _ (by kernel_rfl) (fun w => by kernel_rfl) ?_
            exact QRun_done [2, 3] (by kernel_rfl) (by kernel_rfl)
          have hB1 := M.ret_some hB1
          have gx3 := houty1 _ hB1.symm
          have hF := M.cont_inr' hF gx3
          have hF := M.ret_some hF
          subst hF
          have H14 := H13.empty cd69
          have H15 : Hold h h8 [own cd69 none 0 0 []] := H14.pick [0] (by kernel_rfl)
          exact Run_ret2 rfl (ResV_tmp (v := .slice none 0 0) (by kernel_rfl)) (ResV_tmp (v := .int .i64 3) (by kernel_rfl)) ⟨none, 0, rfl, H15⟩
        · have hB1 := (M.ite_some hB1).2 hb3
          refine Run_skip ?_
          refine Run_ops ?_
          refine Run_b [.slice a2 s1.length c2] 0 _ (by kernel_rfl) (fun w => by kernel_rfl) ?_
          refine Run_y (.agg #[.int .i64 x8.Num, .int .i64 x8.Den]) (by kernel_rfl) (Y_loadA (t := 67) (n := 2) (p := ⟨b1, 0, none⟩) (cs := [.int .i64 x8.Num, .int .i64 x8.Den]) (by kernel_rfl) (fun w => by kernel_rfl) (by kernel_rfl) rfl (H13.cells (n := 2) (off := 0) 0 rfl rfl)) ?_
          refine Run_b [.int .i64 x5, .int .i64 x4, .int .i64 (w64 (x5 - x4)), .agg #[.int .i64 x8.Num, .int .i64 x8.Den, .int .i64 (w64 (x5 - x4))]] 2 _ (by kernel_rfl) (fun w => by kernel_rfl) ?_
          refine Run_E (by kernel_rfl) ?_
          refine E_lit (C := cd69) (n := 1) (l := ([⟨x8, (w64 (x5 - x4))⟩] : List TCorner)) (cs := [.int .i64 x8.Num, .int .i64 x8.Den, .int .i64 (w64 (x5 - x4))]) H13 (fun w => by kernel_rfl) (Enc.consE (cd69_own (⟨x8, (w64 (x5 - x4))⟩ : TCorner) _) (Enc.nil _ _) rfl) rfl (by decide) (fun a4 h9 H16 => ?_)
          obtain ⟨l1, hl1, hB1⟩ := M.bind_some hB1
          have hl1 := M.app_some hl1
          have H17 : Hold h h9 [own cd69 a2 s1.length c2 s1, own cd69 a4 1 1 ([⟨x8, (w64 (x5 - x4))⟩] : List TCorner), box b1 67 [.int .i64 x8.Num, .int .i64 x8.Den], own cd2 a1 x2.length c1 x2] := H16.pick [3, 0, 1, 2] (by kernel_rfl)
          have H18 : Hold h h9 [own cd69 a4 1 1 ([⟨x8, (w64 (x5 - x4))⟩] : List TCorner), own cd69 a2 s1.length c2 s1, box b1 67 [.int .i64 x8.Num, .int .i64 x8.Den], own cd2 a1 x2.length c1 x2] := H17.pick [1, 0, 2, 3] (by kernel_rfl)
          have H19 : Hold h h9 [own cd69 a2 s1.length c2 s1, own cd69 a4 1 1 ([⟨x8, (w64 (x5 - x4))⟩] : List TCorner), box b1 67 [.int .i64 x8.Num, .int .i64 x8.Den], own cd2 a1 x2.length c1 x2] := H18.pick [1, 0, 2, 3] (by kernel_rfl)
          refine Run_E (by kernel_rfl) ?_
          refine E_app (C := cd69) (t := 63) (ty := 63) (n := s1.length) (m := 1) H19 cd69_ti rfl Try.underlying63 (by decide) (by kernel_rfl) hl1 (fun a5 c4 h10 H20 => ?_)
          refine Run_b [.slice a5 l1.length c4] 8 _ (by kernel_rfl) (fun w => by kernel_rfl) ?_
          refine Run_nil (by kernel_rfl) ?_
          refine Run_keep [0, 4, 5, 6] (L' := [(0, .slice ac_ c_.length cc_), (4, .slice a1 x2.length c1), (5, .slice a5 l1.length c4), (6, .int .i64 i1)]) (by kernel_rfl) ?_
          refine Run_blk ?_
          refine Run_reg 3 (by kernel_rfl) (L' := [(0, .slice ac_ c_.length cc_), (4, .slice a1 x2.length c1), (5, .slice a5 l1.length c4), (6, .int .i64 (i1 + 1))]) ?_ ?_
          · refine QRun_b [.int .i64 i1] 0 _ (by kernel_rfl) (fun w => by kernel_rfl) ?_
            refine QRun_y (.int .i64 (i1 + 1)) (by kernel_rfl) (Y_eq (v := .int .i64 (w64 (i1 + 1))) (Y_pure (fun w => by kernel_rfl)) (by rw [w64_eq _ (by omega)])) ?_
            refine QRun_b [.int .i64 (i1 + 1)] 2 _ (by kernel_rfl) (fun w => by kernel_rfl) ?_
            exact QRun_done [0, 4, 5, 6] (by kernel_rfl) (by kernel_rfl)
          have H21 : Hold h h10 [own cd2 a1 x2.length c1 x2, own cd69 a5 l1.length c4 l1] := H20.pick [2, 0] (by kernel_rfl)
          have hB1 := M.ret_some hB1
          have gx3 := hgoy1 _ hB1.symm
          exact Run_again [0, 4, 5, 6] (by kernel_rfl) my1 (Nat.lt_succ_self _) ⟨i1 + 1, l1, a5, c4, by omega, gx3, rfl, H21⟩
      · have gx3 := M.for_end gx3 hb2
        subst gx3
        refine Run_exit (k' := _) rfl ?_
        have H22 : Hold h h2 [own cd69 a2 s1.length c2 s1, own cd2 a1 x2.length c1 x2] := H4.pick [1, 0] (by kernel_rfl)
        have H23 : Hold h h2 [own cd69 a2 s1.length c2 s1] := H22.pick [0] (by kernel_rfl)
        exact Run_fall [5] (by kernel_rfl) ⟨s1, a2, c2, rfl, rfl, H23⟩

set_option maxRecDepth 100000 in
set_option maxHeartbeats 4000000 in
theorem w_spec_l01Divisor (h : Heap) (a_ : Int) (b : Int) (n : Nat) (r : Int) (hF : spec_l01Divisor a_ b n = some r) :
    Fn Try.prog 168 #[.int .i64 a_, .int .i64 b] h fun v h' => v = .int .i64 r ∧ h' = h := by
  unfold spec_l01Divisor at hF
  refine Fn_enter (args := [.int .i64 a_, .int .i64 b]) Try.func168 rfl (by kernel_rfl) (by kernel_rfl) (fun w0 _ => ?_)
  refine Run_seq ?_
  refine Run_reg 1 (by kernel_rfl) (L' := [(0, .int .i64 a_), (1, .int .i64 b)]) ?_ ?_
  · refine QRun_b [.int .i64 0] 0 _ (by kernel_rfl) (fun w => by kernel_rfl) ?_
    exact QRun_done [0, 1] (by kernel_rfl) (by kernel_rfl)
  refine Run_seq ?_
  refine Run_reg 10 (by kernel_rfl) (L' := [(0, .int .i64 (mx a_ (w64 (0 - a_)))), (1, .int .i64 (mx b (w64 (0 - b))))]) ?_ ?_
  · refine QRun_b [.int .i64 a_, .int .i64 a_, .int .i64 (w64 (0 - a_)), .int .i64 (mx a_ (w64 (0 - a_))), .int .i64 b, .int .i64 b, .int .i64 (w64 (0 - b)), .int .i64 (mx b (w64 (0 - b))), .int .i64 (mx a_ (w64 (0 - a_))), .int .i64 (mx b (w64 (0 - b)))] 0 _ (by kernel_rfl) (fun w => by kernel_rfl) ?_
    exact QRun_done [0, 1] (by kernel_rfl) (by kernel_rfl)
  refine Run_seq ?_
  obtain ⟨x1, gx1, hF⟩ := M.bind_some hF
  refine Run_join (fun L' h' => L' = [(0, .int .i64 x1.1)] ∧ h = h') ?_ ?_
  · rintro _ _ ⟨rfl, rfl⟩
    refine Run_seq ?_
    refine Run_reg 2 (by kernel_rfl) (L' := [(4, .int .i64 x1.1)]) ?_ ?_
    · refine QRun_b [.int .i64 x1.1, .int .i64 x1.1] 0 _ (by kernel_rfl) (fun w => by kernel_rfl) ?_
      exact QRun_done [4] (by kernel_rfl) (by kernel_rfl)
    have hF := M.ret_some hF
    subst hF
    exact Run_ret1 rfl (ResV_tmp (v := .int .i64 x1.1) (by kernel_rfl)) ⟨rfl, rfl⟩
  · refine Run_block ?_
    refine Run_keep [0, 1] (L' := [(0, .int .i64 (mx a_ (w64 (0 - a_)))), (1, .int .i64 (mx b (w64 (0 - b))))]) (by kernel_rfl) ?_
    refine Run_loop (fun m L' h' => ∃ (s1 : Int × Int), M.loopN _ n m s1 = some x1 ∧ L' = [(0, .int .i64 s1.1), (1, .int .i64 s1.2)] ∧ h = h') n ⟨((mx a_ (w64 (0 - a_))), (mx b (w64 (0 - b)))), gx1, rfl, rfl⟩ ?_
    rintro my1 _ _ ⟨s1, gx1, rfl, rfl⟩
    obtain ⟨my1, y1, rfl, hB1, hgoy1, houty1⟩ := M.loop_some gx1
    refine Run_seq ?_
    refine Run_seq ?_
    refine Run_reg 2 (by kernel_rfl) (L' := [(0, .int .i64 s1.1), (1, .int .i64 s1.2), (14, .bool (decide (0 < s1.2)))]) ?_ ?_
    · refine QRun_b [.int .i64 s1.2, .bool (decide (0 < s1.2))] 0 _ (by kernel_rfl) (fun w => by kernel_rfl) ?_
      exact QRun_done [0, 1, 14] (by kernel_rfl) (by kernel_rfl)
    refine Run_cond (b := decide (0 < s1.2)) (by kernel_rfl) (fun hb1 => ?_) (fun hb1 => ?_)
    · have hB1 := (M.ite_some hB1).1 hb1
      refine Run_skip ?_
      refine Run_block ?_
      obtain ⟨u1, hz1, hB1⟩ := M.bind_some hB1
      have hz1 := M.guard_some hz1
      refine Run_draw 6 mixed (by kernel_rfl) (by kernel_rfl) (L' := [(0, .int .i64 s1.2), (1, .int .i64 (s1.1.tmod s1.2))]) ?_ ?_
      · refine QRun_b [.int .i64 s1.2, .int .i64 s1.1, .int .i64 s1.2] 0 _ (by kernel_rfl) (fun w => by kernel_rfl) ?_
        refine QRun_y (.int .i64 (s1.1.tmod s1.2)) (by kernel_rfl) (Y_rem (op := .rem) (k := .i64) (x := s1.1) (y := s1.2) (by kernel_rfl) hz1) ?_
        refine QRun_b [.int .i64 s1.2, .int .i64 (s1.1.tmod s1.2)] 4 _ (by kernel_rfl) (fun w => by kernel_rfl) ?_
        exact QRun_done [0, 1] (by kernel_rfl) (by kernel_rfl)
      refine Run_blk ?_
      have hB1 := M.ret_some hB1
      have gx1 := hgoy1 _ hB1.symm
      exact Run_again [0, 1] (by kernel_rfl) my1 (Nat.lt_succ_self _) ⟨(s1.2, (s1.1.tmod s1.2)), gx1, rfl, rfl⟩
    · have hB1 := (M.ite_some hB1).2 hb1
      refine Run_exit (k' := _) rfl ?_
      have hB1 := M.ret_some hB1
      have gx1 := houty1 _ hB1.symm
      subst gx1
      exact Run_fall [0] (by kernel_rfl) ⟨rfl, rfl⟩

set_option maxRecDepth 100000 in
set_option maxHeartbeats 4000000 in
theorem w_spec_l01Ratio (h : Heap) (num : Int) (den : Int) (n : Nat) (r : TRatio) (hF : spec_l01Ratio num den n = some r) :
    Fn Try.prog 123 #[.int .i64 num, .int .i64 den] h fun v h' => v = .agg #[.int .i64 r.Num, .int .i64 r.Den] ∧ Hold h h' [] := by
  unfold spec_l01Ratio at hF
  refine Fn_enter (args := [.int .i64 num, .int .i64 den]) Try.func123 rfl (by kernel_rfl) (by kernel_rfl) (fun w0 _ => ?_)
  have H0 := Hold.init h
  refine Run_seq ?_
  refine Run_ops ?_
  refine Run_E (by kernel_rfl) ?_
  refine E_box (ty := 67) (cs := [.int .i64 0, .int .i64 0]) H0 (fun w => by kernel_rfl) (fun b1 h1 H1 => ?_)
  refine Run_nil (by kernel_rfl) ?_
  refine Run_keep [0, 1, 4] (L' := [(0, .int .i64 num), (1, .int .i64 den), (4, .pointer (some ⟨b1, 0, none⟩))]) (by kernel_rfl) ?_
  refine Run_seq ?_
  refine Run_seq ?_
  refine Run_reg 2 (by kernel_rfl) (L' := [(0, .int .i64 num), (1, .int .i64 den), (4, .pointer (some ⟨b1, 0, none⟩)), (7, .bool (decide (den < 0)))]) ?_ ?_
  · refine QRun_b [.int .i64 den, .bool (decide (den < 0))] 0 _ (by kernel_rfl) (fun w => by kernel_rfl) ?_
    exact QRun_done [0, 1, 4, 7] (by kernel_rfl) (by kernel_rfl)
  obtain ⟨s1, gs1, hF⟩ := M.bind_some hF
  refine Run_join (fun L' h' => L' = [(0, .int .i64 s1.1), (1, .int .i64 s1.2), (4, .pointer (some ⟨b1, 0, none⟩))] ∧ Hold h h' [box b1 67 [.int .i64 0, .int .i64 0]]) ?_ ?_
  · rintro _ h2 ⟨rfl, H2⟩
    refine Run_seq ?_
    obtain ⟨x1, hx1, hF⟩ := M.bind_some hF
    refine Run_reg 4 (by kernel_rfl) (L' := [(0, .int .i64 s1.1), (1, .int .i64 s1.2), (4, .pointer (some ⟨b1, 0, none⟩)), (5, .int .i64 x1)]) ?_ ?_
    · refine QRun_b [.int .i64 s1.1, .int .i64 s1.2] 0 _ (by kernel_rfl) (fun w => by kernel_rfl) ?_
      refine QRun_y (.int .i64 x1) (by kernel_rfl) (Y_callq (f := 168) (args := #[.int .i64 s1.1, .int .i64 s1.2]) (v := .int .i64 x1) (by kernel_rfl) (w_spec_l01Divisor h2 s1.1 s1.2 _ _ hx1)) ?_
      refine QRun_b [.int .i64 x1] 3 _ (by kernel_rfl) (fun w => by kernel_rfl) ?_
      exact QRun_done [0, 1, 4, 5] (by kernel_rfl) (by kernel_rfl)
    refine Run_seq ?_
    obtain ⟨u1, hz1, hF⟩ := M.bind_some hF
    have hz1 := M.guard_some hz1
    obtain ⟨u2, hz2, hF⟩ := M.bind_some hF
    have hz2 := M.guard_some hz2
    refine Run_D (fun x => Hold h x [box b1 67 [.int .i64 0, .int .i64 0]]) (fun x => Hold h x [box b1 67 [.int .i64 0, .int .i64 0]]) mixed (by kernel_rfl) H2 Hold.stable (fun x Hy => (show Hold h x [box b1 67 [.int .i64 0, .int .i64 0]] from Hy).pick [0] (by kernel_rfl)) ?_
    refine DR_b 6 [.int .i64 s1.1, .int .i64 x1] 0 (by kernel_rfl) (by kernel_rfl) (by kernel_rfl) (fun w => by kernel_rfl) ?_
    refine DR_y 5 (i := 2) (.int .i64 (w64 (s1.1.tdiv x1))) (by kernel_rfl) (by kernel_rfl) (by kernel_rfl) (fun hx Hx => (YE.of (Y_quo (op := .quo) (k := .i64) (x := s1.1) (y := x1) (by kernel_rfl) hz1))) ?_
    refine DR_b 3 [.int .i64 s1.2, .int .i64 x1] 3 (by kernel_rfl) (by kernel_rfl) (by kernel_rfl) (fun w => by kernel_rfl) ?_
    refine DR_y 2 (i := 5) (.int .i64 (w64 (s1.2.tdiv x1))) (by kernel_rfl) (by kernel_rfl) (by kernel_rfl) (fun hx Hx => (YE.of (Y_quo (op := .quo) (k := .i64) (x := s1.2) (y := x1) (by kernel_rfl) hz2))) ?_
    refine DR_b 1 [.agg #[.int .i64 (w64 (s1.1.tdiv x1)), .int .i64 (w64 (s1.2.tdiv x1))]] 6 (by kernel_rfl) (by kernel_rfl) (by kernel_rfl) (fun w => by kernel_rfl) ?_
    refine DR_tail (i := 7) (by kernel_rfl) (by kernel_rfl) (by kernel_rfl) (fun h3 H3 => ?_)
    have H4 : Hold h h3 [box b1 67 [.int .i64 0, .int .i64 0]] := H3
    refine Run_E (by kernel_rfl) ?_
    refine E_bput (t := 67) (off := 0) (us := [.int .i64 (w64 (s1.1.tdiv x1)), .int .i64 (w64 (s1.2.tdiv x1))]) (v := .agg #[.int .i64 (w64 (s1.1.tdiv x1)), .int .i64 (w64 (s1.2.tdiv x1))]) H4 (by kernel_rfl) (by kernel_rfl) rfl (by kernel_rfl) rfl (fun h4 H5 => ?_)
    refine Run_nil (by kernel_rfl) ?_
    refine Run_keep [4] (L' := [(4, .pointer (some ⟨b1, 0, none⟩))]) (by kernel_rfl) ?_
    have hF := M.ret_some hF
    subst hF
    have H6 : Hold h h4 [] := H5.pick [] (by kernel_rfl)
    exact Run_ret1 rfl (ResV_cell (n := 2) (cs := [.int .i64 (w64 (s1.1.tdiv x1)), .int .i64 (w64 (s1.2.tdiv x1))]) (by kernel_rfl) (fun w => by kernel_rfl) (by kernel_rfl) rfl (H5.cells (n := 2) (off := 0) 0 rfl rfl)) ⟨rfl, H6⟩
  · refine Run_cond (b := decide (den < 0)) (by kernel_rfl) (fun hb1 => ?_) (fun hb1 => ?_)
    · have gs1 := (M.ite_some gs1).1 hb1
      refine Run_reg 6 (by kernel_rfl) (L' := [(0, .int .i64 (w64 (0 - num))), (1, .int .i64 (w64 (0 - den))), (4, .pointer (some ⟨b1, 0, none⟩))]) ?_ ?_
      · refine QRun_b [.int .i64 num, .int .i64 (w64 (0 - num)), .int .i64 den, .int .i64 (w64 (0 - den)), .int .i64 (w64 (0 - num)), .int .i64 (w64 (0 - den))] 0 _ (by kernel_rfl) (fun w => by kernel_rfl) ?_
        exact QRun_done [0, 1, 4] (by kernel_rfl) (by kernel_rfl)
      have gs1 := M.ret_some gs1
      subst gs1
      exact Run_fall [0, 1, 4] (by kernel_rfl) ⟨rfl, H1⟩
    · have gs1 := (M.ite_some gs1).2 hb1
      refine Run_skip ?_
      have gs1 := M.ret_some gs1
      subst gs1
      exact Run_fall [0, 1, 4] (by kernel_rfl) ⟨rfl, H1⟩

set_option maxRecDepth 100000 in
set_option maxHeartbeats 4000000 in
theorem w_spec_IsRatio (h : Heap) (r_ : TRatio) (n : Nat) (r : Bool) (hF : spec_IsRatio r_ n = some r) :
    Fn Try.prog 124 #[.agg #[.int .i64 r_.Num, .int .i64 r_.Den]] h fun v h' => v = .bool r ∧ Hold h h' [] := by
  unfold spec_IsRatio at hF
  refine Fn_enter (args := [.agg #[.int .i64 r_.Num, .int .i64 r_.Den]]) Try.func124 rfl (by kernel_rfl) (by kernel_rfl) (fun w0 _ => ?_)
  have H0 := Hold.init h
  refine Run_seq ?_
  refine Run_ops ?_
  refine Run_E (by kernel_rfl) ?_
  refine E_box (ty := 67) (cs := [.int .i64 r_.Num, .int .i64 r_.Den]) H0 (fun w => by kernel_rfl) (fun b1 h1 H1 => ?_)
  refine Run_b [.bool false] 1 _ (by kernel_rfl) (fun w => by kernel_rfl) ?_
  refine Run_nil (by kernel_rfl) ?_
  refine Run_keep [1] (L' := [(1, .pointer (some ⟨b1, 0, none⟩))]) (by kernel_rfl) ?_
  refine Run_seq ?_
  obtain ⟨x1, hx1, hF⟩ := M.bind_some hF
  obtain ⟨x2, gx2, hF⟩ := M.bind_some hF
  obtain ⟨x4, gx4, hF⟩ := M.bind_some hF
  refine Run_reg 17 (by kernel_rfl) (L' := [(2, .bool x4)]) ?_ ?_
  · refine QRun_b [.pointer (some ⟨b1, 0, none⟩)] 0 _ (by kernel_rfl) (fun w => by kernel_rfl) ?_
    refine QRun_y (.int .i64 r_.Num) (by kernel_rfl) (Y_load1 (t := 2) (p := ⟨b1, 0, none⟩) (v := .int .i64 r_.Num) (by kernel_rfl) (fun w => by kernel_rfl) (H1.cell 0 rfl rfl)) ?_
    refine QRun_y (.bool x1) (by kernel_rfl) (Y_callq (f := 169) (args := #[.int .i64 r_.Num]) (v := .bool x1) (by kernel_rfl) (w_spec_l01Finite h1 r_.Num _ _ hx1)) ?_
    refine QRun_seq 8 [(1, .pointer (some ⟨b1, 0, none⟩)), (10, .bool x2)] ?_ ?_
    · rcases Bool.eq_false_or_eq_true x1 with hb1 | hb1
      · refine QRun_bool x1 true (by kernel_rfl) (fun w => by kernel_rfl) hb1 ?_
        have gx2 := (M.ite_some gx2).1 hb1
        obtain ⟨x3, hx2, gx2⟩ := M.bind_some gx2
        have gx2 := M.ret_some gx2
        refine QRun_b [.pointer (some ⟨b1, 1, none⟩)] 4 _ (by kernel_rfl) (fun w => by kernel_rfl) ?_
        refine QRun_y (.int .i64 r_.Den) (by kernel_rfl) (Y_load1 (t := 2) (p := ⟨b1, 1, none⟩) (v := .int .i64 r_.Den) (by kernel_rfl) (fun w => by kernel_rfl) (H1.cell 0 rfl rfl)) ?_
        refine QRun_y (.bool x3) (by kernel_rfl) (Y_callq (f := 78) (args := #[.int .i64 r_.Den, .int .i64 1, .int .i64 1000000]) (v := .bool x3) (by kernel_rfl) (w_spec_l01In h1 r_.Den 1 1000000 _ _ hx2)) ?_
        refine QRun_bool x3 x2 (by kernel_rfl) (fun w => by kernel_rfl) gx2 ?_
        exact QRun_done [1, 10] (by kernel_rfl) (by kernel_rfl)
      · refine QRun_bool x1 false (by kernel_rfl) (fun w => by kernel_rfl) hb1 ?_
        have gx2 := M.ret_some ((M.ite_some gx2).2 hb1)
        refine QRun_n (by kernel_rfl) ?_
        refine QRun_n (by kernel_rfl) ?_
        refine QRun_n (by kernel_rfl) ?_
        refine QRun_bool false x2 (by kernel_rfl) (fun w => by kernel_rfl) gx2 ?_
        exact QRun_done [1, 10] (by kernel_rfl) (by kernel_rfl)
    refine QRun_seq 16 [(18, .bool x4)] ?_ ?_
    · rcases Bool.eq_false_or_eq_true x2 with hb2 | hb2
      · refine QRun_bool x2 true (by kernel_rfl) (fun w => by kernel_rfl) hb2 ?_
        have gx4 := (M.ite_some gx4).1 hb2
        obtain ⟨x5, hx3, gx4⟩ := M.bind_some gx4
        have gx4 := M.ret_some gx4
        refine QRun_b [.pointer (some ⟨b1, 0, none⟩)] 9 _ (by kernel_rfl) (fun w => by kernel_rfl) ?_
        refine QRun_y (.int .i64 r_.Num) (by kernel_rfl) (Y_load1 (t := 2) (p := ⟨b1, 0, none⟩) (v := .int .i64 r_.Num) (by kernel_rfl) (fun w => by kernel_rfl) (H1.cell 0 rfl rfl)) ?_
        refine QRun_b [.pointer (some ⟨b1, 1, none⟩)] 11 _ (by kernel_rfl) (fun w => by kernel_rfl) ?_
        refine QRun_y (.int .i64 r_.Den) (by kernel_rfl) (Y_load1 (t := 2) (p := ⟨b1, 1, none⟩) (v := .int .i64 r_.Den) (by kernel_rfl) (fun w => by kernel_rfl) (H1.cell 0 rfl rfl)) ?_
        refine QRun_y (.int .i64 x5) (by kernel_rfl) (Y_callq (f := 168) (args := #[.int .i64 r_.Num, .int .i64 r_.Den]) (v := .int .i64 x5) (by kernel_rfl) (w_spec_l01Divisor h1 r_.Num r_.Den _ _ hx3)) ?_
        refine QRun_b [.bool (x5 == 1)] 14 _ (by kernel_rfl) (fun w => by kernel_rfl) ?_
        refine QRun_bool (x5 == 1) x4 (by kernel_rfl) (fun w => by kernel_rfl) gx4 ?_
        exact QRun_done [18] (by kernel_rfl) (by kernel_rfl)
      · refine QRun_bool x2 false (by kernel_rfl) (fun w => by kernel_rfl) hb2 ?_
        have gx4 := M.ret_some ((M.ite_some gx4).2 hb2)
        refine QRun_n (by kernel_rfl) ?_
        refine QRun_n (by kernel_rfl) ?_
        refine QRun_n (by kernel_rfl) ?_
        refine QRun_n (by kernel_rfl) ?_
        refine QRun_n (by kernel_rfl) ?_
        refine QRun_n (by kernel_rfl) ?_
        refine QRun_bool false x4 (by kernel_rfl) (fun w => by kernel_rfl) gx4 ?_
        exact QRun_done [18] (by kernel_rfl) (by kernel_rfl)
    refine QRun_b [.bool x4] 16 _ (by kernel_rfl) (fun w => by kernel_rfl) ?_
    exact QRun_done [2] (by kernel_rfl) (by kernel_rfl)
  have hF := M.ret_some hF
  subst hF
  have H2 : Hold h h1 [] := H1.pick [] (by kernel_rfl)
  exact Run_ret1 rfl (ResV_tmp (v := .bool x4) (by kernel_rfl)) ⟨rfl, H2⟩

set_option maxRecDepth 100000 in
set_option maxHeartbeats 4000000 in
theorem w_spec_CornersOf (h : Heap) (c_ : List Int) (ac_ : Option Addr) (cc_ : Nat) (rc_ : Rd cd2 h (Lt h) ac_ cc_ c_) (n : Nat) (r : (List TCorner) × Int) (hF : spec_CornersOf c_ n = some r) :
    Fn Try.prog 46 #[.slice ac_ c_.length cc_] h fun v h' => ∃ (a0 : Option Addr) (c0 : Nat), v = .tuple #[.slice a0 r.1.length c0, .int .i64 r.2] ∧ Hold h h' [own cd69 a0 r.1.length c0 r.1] := by
  unfold spec_CornersOf at hF
  refine Fn_enter (args := [.slice ac_ c_.length cc_]) Try.func46 rfl (by kernel_rfl) (by kernel_rfl) (fun w0 _ => ?_)
  have H0 := Hold.init h
  refine Run_seq ?_
  refine Run_reg 2 (by kernel_rfl) (L' := [(0, .slice ac_ c_.length cc_)]) ?_ ?_
  · refine QRun_b [.slice none 0 0, .int .i64 0] 0 _ (by kernel_rfl) (fun w => by kernel_rfl) ?_
    exact QRun_done [0] (by kernel_rfl) (by kernel_rfl)
  refine Run_seq ?_
  refine Run_seq ?_
  obtain ⟨x1, hx1, hF⟩ := M.bind_some hF
  refine Run_reg 3 (by kernel_rfl) (L' := [(0, .slice ac_ c_.length cc_), (12, .bool (!x1))]) ?_ ?_
  · refine QRun_b [.slice ac_ c_.length cc_] 0 _ (by kernel_rfl) (fun w => by kernel_rfl) ?_
    refine QRun_y (.bool x1) (by kernel_rfl) (Y_callq (f := 116) (args := #[.slice ac_ c_.length cc_]) (v := .bool x1) (by kernel_rfl) (w_spec_IsPolynomial h c_ ac_ cc_ rc_ _ _ hx1)) ?_
    refine QRun_b [.bool (!x1)] 2 _ (by kernel_rfl) (fun w => by kernel_rfl) ?_
    exact QRun_done [0, 12] (by kernel_rfl) (by kernel_rfl)
  refine Run_cond (b := !x1) (by kernel_rfl) (fun hb1 => ?_) (fun hb1 => ?_)
  · have hF := (M.ite_some hF).1 hb1
    refine Run_seq ?_
    refine Run_reg 2 (by kernel_rfl) (L' := [(2, .slice none 0 0), (3, .int .i64 1)]) ?_ ?_
    · refine QRun_b [.slice none 0 0, .int .i64 1] 0 _ (by kernel_rfl) (fun w => by kernel_rfl) ?_
      exact QRun_done [2, 3] (by kernel_rfl) (by kernel_rfl)
    have hF := M.ret_some hF
    subst hF
    have H1 := H0.empty cd69
    exact Run_ret2 rfl (ResV_tmp (v := .slice none 0 0) (by kernel_rfl)) (ResV_tmp (v := .int .i64 1) (by kernel_rfl)) ⟨none, 0, rfl, H1⟩
  · have hF := (M.ite_some hF).2 hb1
    refine Run_skip ?_
    refine Run_seq ?_
    refine Run_ops ?_
    refine Run_b [.slice ac_ c_.length cc_] 0 _ (by kernel_rfl) (fun w => by kernel_rfl) ?_
    obtain ⟨x2, hx2, hF⟩ := M.bind_some hF
    refine Run_E (by kernel_rfl) ?_
    refine E_call (f := 122) (args := #[.slice ac_ c_.length cc_]) (w_spec_l09Terms h c_ ac_ cc_ rc_ _ _ hx2) (by kernel_rfl) (fun v1 h1 hp1 => ?_)
    obtain ⟨a1, c1, rfl, H2⟩ := hp1
    have H3 : Hold h h1 [own cd2 a1 x2.length c1 x2] := H0.call H2 rfl
    refine Run_b [.slice a1 x2.length c1] 2 _ (by kernel_rfl) (fun w => by kernel_rfl) ?_
    refine Run_nil (by kernel_rfl) ?_
    refine Run_keep [0, 4] (L' := [(0, .slice ac_ c_.length cc_), (4, .slice a1 x2.length c1)]) (by kernel_rfl) ?_
    refine Run_seq ?_
    refine Run_ops ?_
    refine Run_E (by kernel_rfl) ?_
    refine E_lit (C := cd69) (n := 0) (l := ([] : List TCorner)) (cs := []) H3 (fun w => by kernel_rfl) (Enc.nil _ _) rfl (by decide) (fun a2 h2 H4 => ?_)
    refine Run_b [.slice a2 0 0] 1 _ (by kernel_rfl) (fun w => by kernel_rfl) ?_
    refine Run_nil (by kernel_rfl) ?_
    refine Run_keep [0, 4, 5] (L' := [(0, .slice ac_ c_.length cc_), (4, .slice a1 x2.length c1), (5, .slice a2 0 0)]) (by kernel_rfl) ?_
    refine Run_seq ?_
    refine Run_seq ?_
    refine Run_reg 1 (by kernel_rfl) (L' := [(0, .slice ac_ c_.length cc_), (4, .slice a1 x2.length c1), (5, .slice a2 0 0), (6, .int .i64 1)]) ?_ ?_
    · refine QRun_b [.int .i64 1] 0 _ (by kernel_rfl) (fun w => by kernel_rfl) ?_
      exact QRun_done [0, 4, 5, 6] (by kernel_rfl) (by kernel_rfl)
    obtain ⟨x3, gx3, hF⟩ := M.bind_some hF
    obtain ⟨hloy1, hhiy1, gx3⟩ := M.for_start gx3
    refine Run_join (fun L' h' => ∃ (s2 : (List TCorner)) (a4 : Option Addr) (c3 : Nat), x3 = .inl s2 ∧ L' = [(5, .slice a4 s2.length c3)] ∧ Hold h h' [own cd69 a4 s2.length c3 s2]) ?_ ?_
    · rintro _ h4 ⟨s2, a4, c3, es2, rfl, H6⟩
      have hF := M.cont_inl' hF es2
      refine Run_seq ?_
      refine Run_reg 3 (by kernel_rfl) (L' := [(2, .slice a4 s2.length c3), (3, .int .i64 0)]) ?_ ?_
      · refine QRun_b [.slice a4 s2.length c3, .slice a4 s2.length c3, .int .i64 0] 0 _ (by kernel_rfl) (fun w => by kernel_rfl) ?_
        exact QRun_done [2, 3] (by kernel_rfl) (by kernel_rfl)
      have hF := M.ret_some hF
      subst hF
      exact Run_ret2 rfl (ResV_tmp (v := .slice a4 s2.length c3) (by kernel_rfl)) (ResV_tmp (v := .int .i64 0) (by kernel_rfl)) ⟨a4, c3, rfl, H6⟩
    · refine Run_block ?_
      have hn1 := (H4.len 0 rfl)
      have H25 : Hold h h2 [own cd69 a2 (([] : List TCorner).length) 0 ([] : List TCorner), own cd2 a1 x2.length c1 x2] := by rw [hn1]; exact H4
      have H26 : Hold h h2 [own cd2 a1 x2.length c1 x2, own cd69 a2 (([] : List TCorner).length) 0 ([] : List TCorner)] := H25.pick [1, 0] (by kernel_rfl)
      refine Run_keep [0, 4, 5, 6] (L' := [(0, .slice ac_ c_.length cc_), (4, .slice a1 x2.length c1), (5, .slice a2 (([] : List TCorner).length) 0), (6, .int .i64 1)]) (by first | (rw [hn1]; kernel_rfl) | (simp only [hn1]; kernel_rfl) | kernel_rfl) ?_
      refine Run_loop (fun m L' h' => ∃ (i1 : Int) (s1 : (List TCorner)) (a3 : Option Addr) (c2 : Nat), 1 ≤ i1 ∧ M.forN (x2.length : Int) _ _ n m i1 s1 = some x3 ∧ L' = [(0, .slice ac_ c_.length cc_), (4, .slice a1 x2.length c1), (5, .slice a3 s1.length c2), (6, .int .i64 i1)] ∧ Hold h h' [own cd2 a1 x2.length c1 x2, own cd69 a3 s1.length c2 s1]) ((x2.length : Int) - 1 : Int).toNat ⟨1, ([] : List TCorner), a2, 0, Int.le_refl _, gx3, rfl, H26⟩ ?_
      rintro my1 _ h3 ⟨i1, s1, a3, c2, hloy1', gx3, rfl, H5⟩
      refine Run_seq ?_
      refine Run_seq ?_
      refine Run_reg 4 (by kernel_rfl) (L' := [(0, .slice ac_ c_.length cc_), (4, .slice a1 x2.length c1), (5, .slice a3 s1.length c2), (6, .int .i64 i1), (19, .bool (decide (i1 < (x2.length : Int))))]) ?_ ?_
      · refine QRun_b [.int .i64 i1, .slice a1 x2.length c1, .int .i64 (x2.length : Int), .bool (decide (i1 < (x2.length : Int)))] 0 _ (by kernel_rfl) (fun w => by kernel_rfl) ?_
        exact QRun_done [0, 4, 5, 6, 19] (by kernel_rfl) (by kernel_rfl)
      refine Run_cond (b := decide (i1 < (x2.length : Int))) (by kernel_rfl) (fun hb2 => ?_) (fun hb2 => ?_)
      · obtain ⟨my1, y1, rfl, hB1, hgoy1, houty1⟩ := M.for_go gx3 hb2
        have hlty1 := of_decide_eq_true hb2
        refine Run_skip ?_
        refine Run_seq ?_
        refine Run_block ?_
        refine Run_seq ?_
        obtain ⟨x4, hx3, hB1⟩ := M.bind_some hB1
        obtain ⟨hx3l, hx3u, hx3⟩ := M.idx_some hx3
        obtain ⟨x5, hx4, hB1⟩ := M.bind_some hB1
        obtain ⟨hx4l, hx4u, hx4⟩ := M.idx_some hx4
        refine Run_draw 11 mixed (by kernel_rfl) (by kernel_rfl) (L' := [(0, .slice ac_ c_.length cc_), (4, .slice a1 x2.length c1), (5, .slice a3 s1.length c2), (6, .int .i64 i1), (7, .int .i64 x4), (8, .int .i64 x5)]) ?_ ?_
        · refine QRun_b [.slice a1 x2.length c1, .int .i64 i1, .int .i64 (w64 (i1 - 1))] 0 _ (by kernel_rfl) (fun w => by kernel_rfl) ?_
          refine QRun_y (.pointer (some (adr a1 ((w64 (i1 - 1)).toNat * 1)))) (by kernel_rfl) (Y_idx (t := 39) (e := 2) (sz := 1) (a := a1) (n := x2.length) (cap := c1) (kk := .i64) (i := w64 (i1 - 1)) (by kernel_rfl) Try.underlying39 (by kernel_rfl) ((H5.rd 0 rfl).cell hx3).1 hx3l hx3u) ?_
          refine QRun_y (.int .i64 x4) (by kernel_rfl) (Y_load1 (t := 2) (p := adr a1 ((w64 (i1 - 1)).toNat * 1)) (v := .int .i64 x4) (by kernel_rfl) (fun w => by kernel_rfl) (cd2_cell (H5.rd 0 rfl) hx3)) ?_
          refine QRun_b [.slice a1 x2.length c1, .int .i64 i1] 5 _ (by kernel_rfl) (fun w => by kernel_rfl) ?_
          refine QRun_y (.pointer (some (adr a1 (i1.toNat * 1)))) (by kernel_rfl) (Y_idx (t := 39) (e := 2) (sz := 1) (a := a1) (n := x2.length) (cap := c1) (kk := .i64) (i := i1) (by kernel_rfl) Try.underlying39 (by kernel_rfl) ((H5.rd 0 rfl).cell hx4).1 hx4l hx4u) ?_
          refine QRun_y (.int .i64 x5) (by kernel_rfl) (Y_load1 (t := 2) (p := adr a1 (i1.toNat * 1)) (v := .int .i64 x5) (by kernel_rfl) (fun w => by kernel_rfl) (cd2_cell (H5.rd 0 rfl) hx4)) ?_
          refine QRun_b [.int .i64 x4, .int .i64 x5] 9 _ (by kernel_rfl) (fun w => by kernel_rfl) ?_
          exact QRun_done [0, 4, 5, 6, 7, 8] (by kernel_rfl) (by kernel_rfl)
        refine Run_seq ?_
        obtain ⟨x6, hx5, hB1⟩ := M.bind_some hB1
        obtain ⟨hx5l, hx5u, hx5⟩ := M.idx_some hx5
        obtain ⟨x7, hx6, hB1⟩ := M.bind_some hB1
        obtain ⟨hx6l, hx6u, hx6⟩ := M.idx_some hx6
        obtain ⟨x8, hx7, hB1⟩ := M.bind_some hB1
        refine Run_D (fun x => Hold h x [own cd2 a1 x2.length c1 x2, own cd69 a3 s1.length c2 s1]) (fun x => Hold h x [own cd2 a1 x2.length c1 x2, own cd69 a3 s1.length c2 s1]) mixed (by kernel_rfl) H5 Hold.stable (fun x Hy => (show Hold h x [own cd2 a1 x2.length c1 x2, own cd69 a3 s1.length c2 s1] from Hy).pick [0, 1] (by kernel_rfl)) ?_
        refine DR_b 13 [.slice ac_ c_.length cc_, .int .i64 x4] 0 (by kernel_rfl) (by kernel_rfl) (by kernel_rfl) (fun w => by kernel_rfl) ?_
        refine DR_y 12 (i := 2) (.pointer (some (adr ac_ (x4.toNat * 1)))) (by kernel_rfl) (by kernel_rfl) (by kernel_rfl) (fun hx Hx => (YE.of (Y_idx (t := 39) (e := 2) (sz := 1) (a := ac_) (n := c_.length) (cap := cc_) (kk := .i64) (i := x4) (by kernel_rfl) Try.underlying39 (by kernel_rfl) ((rc_.at H5.ext).cell hx5).1 hx5l hx5u))) ?_
        refine DR_y 11 (i := 3) (.int .i64 x6) (by kernel_rfl) (by kernel_rfl) (by kernel_rfl) (fun hx Hx => (YE.of (Y_load1 (t := 2) (p := adr ac_ (x4.toNat * 1)) (v := .int .i64 x6) (by kernel_rfl) (fun w => by kernel_rfl) (cd2_cell (rc_.at Hx.ext) hx5)))) ?_
        refine DR_b 9 [.slice ac_ c_.length cc_, .int .i64 x5] 4 (by kernel_rfl) (by kernel_rfl) (by kernel_rfl) (fun w => by kernel_rfl) ?_
        refine DR_y 8 (i := 6) (.pointer (some (adr ac_ (x5.toNat * 1)))) (by kernel_rfl) (by kernel_rfl) (by kernel_rfl) (fun hx Hx => (YE.of (Y_idx (t := 39) (e := 2) (sz := 1) (a := ac_) (n := c_.length) (cap := cc_) (kk := .i64) (i := x5) (by kernel_rfl) Try.underlying39 (by kernel_rfl) ((rc_.at H5.ext).cell hx6).1 hx6l hx6u))) ?_
        refine DR_y 7 (i := 7) (.int .i64 x7) (by kernel_rfl) (by kernel_rfl) (by kernel_rfl) (fun hx Hx => (YE.of (Y_load1 (t := 2) (p := adr ac_ (x5.toNat * 1)) (v := .int .i64 x7) (by kernel_rfl) (fun w => by kernel_rfl) (cd2_cell (rc_.at Hx.ext) hx6)))) ?_
        refine DR_b 3 [.int .i64 (w64 (x6 - x7)), .int .i64 x5, .int .i64 x4, .int .i64 (w64 (x5 - x4))] 8 (by kernel_rfl) (by kernel_rfl) (by kernel_rfl) (fun w => by kernel_rfl) ?_
        refine DR_y 2 (i := 12) (.agg #[.int .i64 x8.Num, .int .i64 x8.Den]) (by kernel_rfl) (by kernel_rfl) (by kernel_rfl) (fun hx Hx => (YE_call (f := 123) (args := #[.int .i64 (w64 (x6 - x7)), .int .i64 (w64 (x5 - x4))]) (v := .agg #[.int .i64 x8.Num, .int .i64 x8.Den]) (by kernel_rfl) ((w_spec_l01Ratio hx (w64 (x6 - x7)) (w64 (x5 - x4)) _ _ hx7).mono fun _ _ ⟨e, H'⟩ => ⟨e, H'.ext⟩))) ?_
        refine DR_e 1 13 (by kernel_rfl) (by kernel_rfl) (by kernel_rfl) (fun h5 H7 => ?_)
        have H8 : Hold h h5 [own cd2 a1 x2.length c1 x2, own cd69 a3 s1.length c2 s1] := H7
        refine E_box (ty := 67) (cs := [.int .i64 0, .int .i64 0]) H8 (fun w => by kernel_rfl) (fun b1 h6 H9 => ?_)
        refine ⟨fun x => Hold h x [own cd2 a1 x2.length c1 x2, own cd69 a3 s1.length c2 s1, box b1 67 [.int .i64 0, .int .i64 0]], fun x => Hold h x [box b1 67 [.int .i64 0, .int .i64 0], own cd2 a1 x2.length c1 x2, own cd69 a3 s1.length c2 s1], H9, Hold.stable, fun x Hy => (show Hold h x [box b1 67 [.int .i64 0, .int .i64 0], own cd2 a1 x2.length c1 x2, own cd69 a3 s1.length c2 s1] from Hy).pick [1, 2, 0] (by kernel_rfl), fun x Hy => (show Hold h x [own cd2 a1 x2.length c1 x2, own cd69 a3 s1.length c2 s1, box b1 67 [.int .i64 0, .int .i64 0]] from Hy).pick [0, 1] (by kernel_rfl), ?_⟩
        refine DR_tail (i := 14) (by kernel_rfl) (by kernel_rfl) (by kernel_rfl) (fun h7 H10 => ?_)
        have H11 : Hold h h7 [box b1 67 [.int .i64 0, .int .i64 0], own cd2 a1 x2.length c1 x2, own cd69 a3 s1.length c2 s1] := H10
        refine Run_E (by kernel_rfl) ?_
        refine E_bput (t := 67) (off := 0) (us := [.int .i64 x8.Num, .int .i64 x8.Den]) (v := .agg #[.int .i64 x8.Num, .int .i64 x8.Den]) H11 (by kernel_rfl) (by kernel_rfl) rfl (by kernel_rfl) rfl (fun h8 H12 => ?_)
        refine Run_nil (by kernel_rfl) ?_
        refine Run_keep [0, 4, 5, 6, 7, 8, 9] (L' := [(0, .slice ac_ c_.length cc_), (4, .slice a1 x2.length c1), (5, .slice a3 s1.length c2), (6, .int .i64 i1), (7, .int .i64 x4), (8, .int .i64 x5), (9, .pointer (some ⟨b1, 0, none⟩))]) (by kernel_rfl) ?_
        refine Run_seq ?_
        refine Run_seq ?_
        obtain ⟨x9, hx8, hB1⟩ := M.bind_some hB1
        refine Run_regC (j := 3) (C := fun x => Hold h x [box b1 67 [.int .i64 x8.Num, .int .i64 x8.Den], own cd2 a1 x2.length c1 x2, own cd69 a3 s1.length c2 s1]) (by kernel_rfl) H12 (L' := [(0, .slice ac_ c_.length cc_), (4, .slice a1 x2.length c1), (5, .slice a3 s1.length c2), (6, .int .i64 i1), (7, .int .i64 x4), (8, .int .i64 x5), (9, .pointer (some ⟨b1, 0, none⟩)), (46, .bool (!x9))]) ?_ (fun h9 H13 => ?_)
        · refine QRun_y (.agg #[.int .i64 x8.Num, .int .i64 x8.Den]) (by kernel_rfl) (Y_cls fun hx Hx => (Y_loadA (t := 67) (n := 2) (p := ⟨b1, 0, none⟩) (cs := [.int .i64 x8.Num, .int .i64 x8.Den]) (by kernel_rfl) (fun w => by kernel_rfl) (by kernel_rfl) rfl (Hx.cells (n := 2) (off := 0) 0 rfl rfl))) ?_
          refine QRun_y (.bool x9) (by kernel_rfl) (Y_call (f := 124) (args := #[.agg #[.int .i64 x8.Num, .int .i64 x8.Den]]) (v := .bool x9) (by kernel_rfl) fun hx Hx => (w_spec_IsRatio hx x8 _ _ hx8).mono fun _ _ ⟨e, H'⟩ => ⟨e, Hx.call H' rfl⟩) ?_
          refine QRun_b [.bool (!x9)] 2 _ (by kernel_rfl) (fun w => by kernel_rfl) ?_
          exact QRun_done [0, 4, 5, 6, 7, 8, 9, 46] (by kernel_rfl) (by kernel_rfl)
        have H14 : Hold h h9 [box b1 67 [.int .i64 x8.Num, .int .i64 x8.Den], own cd2 a1 x2.length c1 x2, own cd69 a3 s1.length c2 s1] := H13
        refine Run_cond (b := !x9) (by kernel_rfl) (fun hb3 => ?_) (fun hb3 => ?_)
        · have hB1 := (M.ite_some hB1).1 hb3
          refine Run_seq ?_
          refine Run_reg 2 (by kernel_rfl) (L' := [(2, .slice none 0 0), (3, .int .i64 3)]) ?_ ?_
          · refine QRun_b [.slice none 0 0, .int .i64 3] 0 _ (by kernel_rfl) (fun w => by kernel_rfl) ?_
            exact QRun_done [2, 3] (by kernel_rfl) (by kernel_rfl)
          have hB1 := M.ret_some hB1
          have gx3 := houty1 _ hB1.symm
          have hF := M.cont_inr' hF gx3
          have hF := M.ret_some hF
          subst hF
          have H15 := H14.empty cd69
          have H16 : Hold h h9 [own cd69 none 0 0 []] := H15.pick [0] (by kernel_rfl)
          exact Run_ret2 rfl (ResV_tmp (v := .slice none 0 0) (by kernel_rfl)) (ResV_tmp (v := .int .i64 3) (by kernel_rfl)) ⟨none, 0, rfl, H16⟩
        · have hB1 := (M.ite_some hB1).2 hb3
          refine Run_skip ?_
          refine Run_ops ?_
          refine Run_b [.slice a3 s1.length c2] 0 _ (by kernel_rfl) (fun w => by kernel_rfl) ?_
          refine Run_y (.agg #[.int .i64 x8.Num, .int .i64 x8.Den]) (by kernel_rfl) (Y_loadA (t := 67) (n := 2) (p := ⟨b1, 0, none⟩) (cs := [.int .i64 x8.Num, .int .i64 x8.Den]) (by kernel_rfl) (fun w => by kernel_rfl) (by kernel_rfl) rfl (H14.cells (n := 2) (off := 0) 0 rfl rfl)) ?_
          refine Run_b [.int .i64 x5, .int .i64 x4, .int .i64 (w64 (x5 - x4)), .agg #[.int .i64 x8.Num, .int .i64 x8.Den, .int .i64 (w64 (x5 - x4))]] 2 _ (by kernel_rfl) (fun w => by kernel_rfl) ?_
          refine Run_E (by kernel_rfl) ?_
          refine E_lit (C := cd69) (n := 1) (l := ([⟨x8, (w64 (x5 - x4))⟩] : List TCorner)) (cs := [.int .i64 x8.Num, .int .i64 x8.Den, .int .i64 (w64 (x5 - x4))]) H14 (fun w => by kernel_rfl) (Enc.consE (cd69_own (⟨x8, (w64 (x5 - x4))⟩ : TCorner) _) (Enc.nil _ _) rfl) rfl (by decide) (fun a5 h10 H17 => ?_)
          obtain ⟨l1, hl1, hB1⟩ := M.bind_some hB1
          have hl1 := M.app_some hl1
          have H18 : Hold h h10 [own cd69 a3 s1.length c2 s1, own cd69 a5 1 1 ([⟨x8, (w64 (x5 - x4))⟩] : List TCorner), box b1 67 [.int .i64 x8.Num, .int .i64 x8.Den], own cd2 a1 x2.length c1 x2] := H17.pick [3, 0, 1, 2] (by kernel_rfl)
          have H19 : Hold h h10 [own cd69 a5 1 1 ([⟨x8, (w64 (x5 - x4))⟩] : List TCorner), own cd69 a3 s1.length c2 s1, box b1 67 [.int .i64 x8.Num, .int .i64 x8.Den], own cd2 a1 x2.length c1 x2] := H18.pick [1, 0, 2, 3] (by kernel_rfl)
          have H20 : Hold h h10 [own cd69 a3 s1.length c2 s1, own cd69 a5 1 1 ([⟨x8, (w64 (x5 - x4))⟩] : List TCorner), box b1 67 [.int .i64 x8.Num, .int .i64 x8.Den], own cd2 a1 x2.length c1 x2] := H19.pick [1, 0, 2, 3] (by kernel_rfl)
          refine Run_E (by kernel_rfl) ?_
          refine E_app (C := cd69) (t := 63) (ty := 63) (n := s1.length) (m := 1) H20 cd69_ti rfl Try.underlying63 (by decide) (by kernel_rfl) hl1 (fun a6 c4 h11 H21 => ?_)
          refine Run_b [.slice a6 l1.length c4] 8 _ (by kernel_rfl) (fun w => by kernel_rfl) ?_
          refine Run_nil (by kernel_rfl) ?_
          refine Run_keep [0, 4, 5, 6] (L' := [(0, .slice ac_ c_.length cc_), (4, .slice a1 x2.length c1), (5, .slice a6 l1.length c4), (6, .int .i64 i1)]) (by kernel_rfl) ?_
          refine Run_blk ?_
          refine Run_reg 3 (by kernel_rfl) (L' := [(0, .slice ac_ c_.length cc_), (4, .slice a1 x2.length c1), (5, .slice a6 l1.length c4), (6, .int .i64 (i1 + 1))]) ?_ ?_
          · refine QRun_b [.int .i64 i1] 0 _ (by kernel_rfl) (fun w => by kernel_rfl) ?_
            refine QRun_y (.int .i64 (i1 + 1)) (by kernel_rfl) (Y_eq (v := .int .i64 (w64 (i1 + 1))) (Y_pure (fun w => by kernel_rfl)) (by rw [w64_eq _ (by omega)])) ?_
            refine QRun_b [.int .i64 (i1 + 1)] 2 _ (by kernel_rfl) (fun w => by kernel_rfl) ?_
            exact QRun_done [0, 4, 5, 6] (by kernel_rfl) (by kernel_rfl)
          have H22 : Hold h h11 [own cd2 a1 x2.length c1 x2, own cd69 a6 l1.length c4 l1] := H21.pick [2, 0] (by kernel_rfl)
          have hB1 := M.ret_some hB1
          have gx3 := hgoy1 _ hB1.symm
          exact Run_again [0, 4, 5, 6] (by kernel_rfl) my1 (Nat.lt_succ_self _) ⟨i1 + 1, l1, a6, c4, by omega, gx3, rfl, H22⟩
      · have gx3 := M.for_end gx3 hb2
        subst gx3
        refine Run_exit (k' := _) rfl ?_
        have H23 : Hold h h3 [own cd69 a3 s1.length c2 s1, own cd2 a1 x2.length c1 x2] := H5.pick [1, 0] (by kernel_rfl)
        have H24 : Hold h h3 [own cd69 a3 s1.length c2 s1] := H23.pick [0] (by kernel_rfl)
        exact Run_fall [5] (by kernel_rfl) ⟨s1, a3, c2, rfl, rfl, H24⟩

set_option maxRecDepth 100000 in
set_option maxHeartbeats 4000000 in
theorem w_laws_likeInts (h : Heap) (a_ : List Int) {Sa_ : Bs} (aa_ : Option Addr) (ca_ : Nat) (ra_ : Rd cd2 h Sa_ aa_ ca_ a_) (b : List Int) {Sb : Bs} (ab : Option Addr) (cb : Nat) (rb : Rd cd2 h Sb ab cb b) (n : Nat) (r : Bool) (hF : laws_likeInts a_ b n = some r) :
    Fn Try.prog 39 #[.slice aa_ a_.length ca_, .slice ab b.length cb] h fun v h' => v = .bool r ∧ h' = h := by
  unfold laws_likeInts at hF
  refine Fn_enter (args := [.slice aa_ a_.length ca_, .slice ab b.length cb]) Try.func39 rfl (by kernel_rfl) (by kernel_rfl) (fun w0 _ => ?_)
  refine Run_seq ?_
  refine Run_reg 1 (by kernel_rfl) (L' := [(0, .slice aa_ a_.length ca_), (1, .slice ab b.length cb)]) ?_ ?_
  · refine QRun_b [.bool false] 0 _ (by kernel_rfl) (fun w => by kernel_rfl) ?_
    exact QRun_done [0, 1] (by kernel_rfl) (by kernel_rfl)
  refine Run_seq ?_
  refine Run_seq ?_
  refine Run_reg 5 (by kernel_rfl) (L' := [(0, .slice aa_ a_.length ca_), (1, .slice ab b.length cb), (10, .bool ((a_.length : Int) != (b.length : Int)))]) ?_ ?_
  · refine QRun_b [.slice aa_ a_.length ca_, .int .i64 (a_.length : Int), .slice ab b.length cb, .int .i64 (b.length : Int), .bool ((a_.length : Int) != (b.length : Int))] 0 _ (by kernel_rfl) (fun w => by kernel_rfl) ?_
    exact QRun_done [0, 1, 10] (by kernel_rfl) (by kernel_rfl)
  refine Run_cond (b := (a_.length : Int) != (b.length : Int)) (by kernel_rfl) (fun hb1 => ?_) (fun hb1 => ?_)
  · have hF := (M.ite_some hF).1 hb1
    refine Run_seq ?_
    refine Run_reg 1 (by kernel_rfl) (L' := [(4, .bool false)]) ?_ ?_
    · refine QRun_b [.bool false] 0 _ (by kernel_rfl) (fun w => by kernel_rfl) ?_
      exact QRun_done [4] (by kernel_rfl) (by kernel_rfl)
    have hF := M.ret_some hF
    subst hF
    exact Run_ret1 rfl (ResV_tmp (v := .bool false) (by kernel_rfl)) ⟨rfl, rfl⟩
  · have hF := (M.ite_some hF).2 hb1
    refine Run_skip ?_
    refine Run_seq ?_
    refine Run_seq ?_
    refine Run_reg 1 (by kernel_rfl) (L' := [(0, .slice aa_ a_.length ca_), (1, .slice ab b.length cb), (5, .int .i64 0)]) ?_ ?_
    · refine QRun_b [.int .i64 0] 0 _ (by kernel_rfl) (fun w => by kernel_rfl) ?_
      exact QRun_done [0, 1, 5] (by kernel_rfl) (by kernel_rfl)
    obtain ⟨x1, gx1, hF⟩ := M.bind_some hF
    obtain ⟨hloy1, hhiy1, gx1⟩ := M.for_start gx1
    refine Run_join (fun L' h' => ∃ (s2 : Unit), x1 = .inl s2 ∧ L' = [] ∧ h = h') ?_ ?_
    · rintro _ _ ⟨s2, es2, rfl, rfl⟩
      have hF := M.cont_inl' hF es2
      refine Run_seq ?_
      refine Run_reg 1 (by kernel_rfl) (L' := [(4, .bool true)]) ?_ ?_
      · refine QRun_b [.bool true] 0 _ (by kernel_rfl) (fun w => by kernel_rfl) ?_
        exact QRun_done [4] (by kernel_rfl) (by kernel_rfl)
      have hF := M.ret_some hF
      subst hF
      exact Run_ret1 rfl (ResV_tmp (v := .bool true) (by kernel_rfl)) ⟨rfl, rfl⟩
    · refine Run_block ?_
      refine Run_keep [0, 1, 5] (L' := [(0, .slice aa_ a_.length ca_), (1, .slice ab b.length cb), (5, .int .i64 0)]) (by kernel_rfl) ?_
      refine Run_loop (fun m L' h' => ∃ (i1 : Int) (s1 : Unit), 0 ≤ i1 ∧ M.forN (a_.length : Int) _ _ n m i1 s1 = some x1 ∧ L' = [(0, .slice aa_ a_.length ca_), (1, .slice ab b.length cb), (5, .int .i64 i1)] ∧ h = h') ((a_.length : Int) - 0 : Int).toNat ⟨0, (), Int.le_refl _, gx1, rfl, rfl⟩ ?_
      rintro my1 _ _ ⟨i1, s1, hloy1', gx1, rfl, rfl⟩
      refine Run_seq ?_
      refine Run_seq ?_
      refine Run_reg 4 (by kernel_rfl) (L' := [(0, .slice aa_ a_.length ca_), (1, .slice ab b.length cb), (5, .int .i64 i1), (14, .bool (decide (i1 < (a_.length : Int))))]) ?_ ?_
      · refine QRun_b [.int .i64 i1, .slice aa_ a_.length ca_, .int .i64 (a_.length : Int), .bool (decide (i1 < (a_.length : Int)))] 0 _ (by kernel_rfl) (fun w => by kernel_rfl) ?_
        exact QRun_done [0, 1, 5, 14] (by kernel_rfl) (by kernel_rfl)
      refine Run_cond (b := decide (i1 < (a_.length : Int))) (by kernel_rfl) (fun hb2 => ?_) (fun hb2 => ?_)
      · obtain ⟨my1, y1, rfl, hB1, hgoy1, houty1⟩ := M.for_go gx1 hb2
        have hlty1 := of_decide_eq_true hb2
        refine Run_skip ?_
        refine Run_seq ?_
        refine Run_block ?_
        refine Run_seq ?_
        obtain ⟨x2, hx1, hB1⟩ := M.bind_some hB1
        obtain ⟨hx1l, hx1u, hx1⟩ := M.idx_some hx1
        obtain ⟨x3, hx2, hB1⟩ := M.bind_some hB1
        obtain ⟨hx2l, hx2u, hx2⟩ := M.idx_some hx2
        refine Run_draw 9 mixed (by kernel_rfl) (by kernel_rfl) (L' := [(0, .slice aa_ a_.length ca_), (1, .slice ab b.length cb), (5, .int .i64 i1), (25, .bool (x2 != x3))]) ?_ ?_
        · refine QRun_b [.slice aa_ a_.length ca_, .int .i64 i1] 0 _ (by kernel_rfl) (fun w => by kernel_rfl) ?_
          refine QRun_y (.pointer (some (adr aa_ (i1.toNat * 1)))) (by kernel_rfl) (Y_idx (t := 39) (e := 2) (sz := 1) (a := aa_) (n := a_.length) (cap := ca_) (kk := .i64) (i := i1) (by kernel_rfl) Try.underlying39 (by kernel_rfl) (ra_.cell hx1).1 hx1l hx1u) ?_
          refine QRun_y (.int .i64 x2) (by kernel_rfl) (Y_load1 (t := 2) (p := adr aa_ (i1.toNat * 1)) (v := .int .i64 x2) (by kernel_rfl) (fun w => by kernel_rfl) (cd2_cell ra_ hx1)) ?_
          refine QRun_b [.slice ab b.length cb, .int .i64 i1] 4 _ (by kernel_rfl) (fun w => by kernel_rfl) ?_
          refine QRun_y (.pointer (some (adr ab (i1.toNat * 1)))) (by kernel_rfl) (Y_idx (t := 39) (e := 2) (sz := 1) (a := ab) (n := b.length) (cap := cb) (kk := .i64) (i := i1) (by kernel_rfl) Try.underlying39 (by kernel_rfl) (rb.cell hx2).1 hx2l hx2u) ?_
          refine QRun_y (.int .i64 x3) (by kernel_rfl) (Y_load1 (t := 2) (p := adr ab (i1.toNat * 1)) (v := .int .i64 x3) (by kernel_rfl) (fun w => by kernel_rfl) (cd2_cell rb hx2)) ?_
          refine QRun_b [.bool (x2 != x3)] 8 _ (by kernel_rfl) (fun w => by kernel_rfl) ?_
          exact QRun_done [0, 1, 5, 25] (by kernel_rfl) (by kernel_rfl)
        refine Run_cond (b := x2 != x3) (by kernel_rfl) (fun hb3 => ?_) (fun hb3 => ?_)
        · have hB1 := (M.ite_some hB1).1 hb3
          refine Run_seq ?_
          refine Run_reg 1 (by kernel_rfl) (L' := [(4, .bool false)]) ?_ ?_
          · refine QRun_b [.bool false] 0 _ (by kernel_rfl) (fun w => by kernel_rfl) ?_
            exact QRun_done [4] (by kernel_rfl) (by kernel_rfl)
          have hB1 := M.ret_some hB1
          have gx1 := houty1 _ hB1.symm
          have hF := M.cont_inr' hF gx1
          have hF := M.ret_some hF
          subst hF
          exact Run_ret1 rfl (ResV_tmp (v := .bool false) (by kernel_rfl)) ⟨rfl, rfl⟩
        · have hB1 := (M.ite_some hB1).2 hb3
          refine Run_skip ?_
          refine Run_blk ?_
          refine Run_reg 3 (by kernel_rfl) (L' := [(0, .slice aa_ a_.length ca_), (1, .slice ab b.length cb), (5, .int .i64 (i1 + 1))]) ?_ ?_
          · refine QRun_b [.int .i64 i1] 0 _ (by kernel_rfl) (fun w => by kernel_rfl) ?_
            refine QRun_y (.int .i64 (i1 + 1)) (by kernel_rfl) (Y_eq (v := .int .i64 (w64 (i1 + 1))) (Y_pure (fun w => by kernel_rfl)) (by rw [w64_eq _ (by omega)])) ?_
            refine QRun_b [.int .i64 (i1 + 1)] 2 _ (by kernel_rfl) (fun w => by kernel_rfl) ?_
            exact QRun_done [0, 1, 5] (by kernel_rfl) (by kernel_rfl)
          have hB1 := M.ret_some hB1
          have gx1 := hgoy1 _ hB1.symm
          exact Run_again [0, 1, 5] (by kernel_rfl) my1 (Nat.lt_succ_self _) ⟨i1 + 1, (), by omega, gx1, rfl, rfl⟩
      · have gx1 := M.for_end gx1 hb2
        subst gx1
        refine Run_exit (k' := _) rfl ?_
        exact Run_fall [] (by kernel_rfl) ⟨(), rfl, rfl, rfl⟩

set_option maxRecDepth 100000 in
set_option maxHeartbeats 4000000 in
theorem w_laws_FnCornersOfProducts (h : Heap) (code : List Int) (acode : Option Addr) (ccode : Nat) (rcode : Rd cd5 h (Lt h) acode ccode code) (n : Nat) (r : Bool) (hF : laws_FnCornersOfProducts code n = some r) :
    Fn Try.prog 7 #[.slice acode code.length ccode] h fun v h' => v = .bool r ∧ Hold h h' [] := by
  unfold laws_FnCornersOfProducts at hF
  refine Fn_enter (args := [.slice acode code.length ccode]) Try.func7 rfl (by kernel_rfl) (by kernel_rfl) (fun w0 _ => ?_)
  have H0 := Hold.init h
  refine Run_seq ?_
  refine Run_reg 1 (by kernel_rfl) (L' := [(0, .slice acode code.length ccode)]) ?_ ?_
  · refine QRun_b [.bool false] 0 _ (by kernel_rfl) (fun w => by kernel_rfl) ?_
    exact QRun_done [0] (by kernel_rfl) (by kernel_rfl)
  refine Run_seq ?_
  refine Run_seq ?_
  obtain ⟨x1, hx1, hF⟩ := M.bind_some hF
  refine Run_reg 2 (by kernel_rfl) (L' := [(0, .slice acode code.length ccode), (29, .bool x1)]) ?_ ?_
  · refine QRun_b [.slice acode code.length ccode] 0 _ (by kernel_rfl) (fun w => by kernel_rfl) ?_
    refine QRun_y (.bool x1) (by kernel_rfl) (Y_callq (f := 27) (args := #[.slice acode code.length ccode]) (v := .bool x1) (by kernel_rfl) (w_laws_big h code acode ccode rcode _ _ hx1)) ?_
    exact QRun_done [0, 29] (by kernel_rfl) (by kernel_rfl)
  refine Run_cond (b := x1) (by kernel_rfl) (fun hb1 => ?_) (fun hb1 => ?_)
  · have hF := (M.ite_some hF).1 hb1
    refine Run_seq ?_
    refine Run_reg 1 (by kernel_rfl) (L' := [(2, .bool true)]) ?_ ?_
    · refine QRun_b [.bool true] 0 _ (by kernel_rfl) (fun w => by kernel_rfl) ?_
      exact QRun_done [2] (by kernel_rfl) (by kernel_rfl)
    have hF := M.ret_some hF
    subst hF
    exact Run_ret1 rfl (ResV_tmp (v := .bool true) (by kernel_rfl)) ⟨rfl, H0⟩
  · have hF := (M.ite_some hF).2 hb1
    refine Run_skip ?_
    refine Run_seq ?_
    refine Run_ops ?_
    refine Run_b [.slice acode code.length ccode] 0 _ (by kernel_rfl) (fun w => by kernel_rfl) ?_
    obtain ⟨x2, hx2, hF⟩ := M.bind_some hF
    refine Run_E (by kernel_rfl) ?_
    refine E_call (f := 41) (args := #[.slice acode code.length ccode]) (w_spec_DrawMultiplyPolynomials h code acode ccode rcode _ _ hx2) (by kernel_rfl) (fun v1 h1 hp1 => ?_)
    obtain ⟨a1, c1, a2, c2, rfl, H1⟩ := hp1
    have H2 : Hold h h1 [own cd2 a1 x2.1.length c1 x2.1, own cd2 a2 x2.2.length c2 x2.2] := H0.call H1 rfl
    refine Run_b [.tuple #[.slice a1 x2.1.length c1, .slice a2 x2.2.length c2], .slice a1 x2.1.length c1, .slice a2 x2.2.length c2, .slice a1 x2.1.length c1, .slice a2 x2.2.length c2] 2 _ (by kernel_rfl) (fun w => by kernel_rfl) ?_
    refine Run_nil (by kernel_rfl) ?_
    refine Run_keep [0, 3, 4] (L' := [(0, .slice acode code.length ccode), (3, .slice a1 x2.1.length c1), (4, .slice a2 x2.2.length c2)]) (by kernel_rfl) ?_
    refine Run_seq ?_
    refine Run_ops ?_
    refine Run_b [.slice a1 x2.1.length c1, .slice a2 x2.2.length c2] 0 _ (by kernel_rfl) (fun w => by kernel_rfl) ?_
    obtain ⟨x3, hx3, hF⟩ := M.bind_some hF
    refine Run_E (by kernel_rfl) ?_
    refine E_call (f := 42) (args := #[.slice a1 x2.1.length c1, .slice a2 x2.2.length c2]) (w_impl_MultiplyPolynomials h1 x2.1 a1 c1 (H2.rd 0 rfl) x2.2 a2 c2 (H2.rd 1 rfl) _ _ hx3) (by kernel_rfl) (fun v2 h2 hp2 => ?_)
    obtain ⟨a3, c3, rfl, H3⟩ := hp2
    have H4 : Hold h h2 [own cd2 a3 x3.1.length c3 x3.1, own cd2 a1 x2.1.length c1 x2.1, own cd2 a2 x2.2.length c2 x2.2] := H2.call H3 rfl
    refine Run_b [.tuple #[.slice a3 x3.1.length c3, .int .i64 x3.2], .slice a3 x3.1.length c3, .int .i64 x3.2, .slice a3 x3.1.length c3, .int .i64 x3.2] 3 _ (by kernel_rfl) (fun w => by kernel_rfl) ?_
    refine Run_nil (by kernel_rfl) ?_
    refine Run_keep [0, 3, 4, 5, 6] (L' := [(0, .slice acode code.length ccode), (3, .slice a1 x2.1.length c1), (4, .slice a2 x2.2.length c2), (5, .slice a3 x3.1.length c3), (6, .int .i64 x3.2)]) (by kernel_rfl) ?_
    refine Run_seq ?_
    refine Run_ops ?_
    refine Run_b [.slice a1 x2.1.length c1, .slice a2 x2.2.length c2] 0 _ (by kernel_rfl) (fun w => by kernel_rfl) ?_
    obtain ⟨x4, hx4, hF⟩ := M.bind_some hF
    refine Run_E (by kernel_rfl) ?_
    refine E_call (f := 43) (args := #[.slice a1 x2.1.length c1, .slice a2 x2.2.length c2]) (w_spec_MultiplyPolynomials h2 x2.1 a1 c1 (H4.rd 1 rfl) x2.2 a2 c2 (H4.rd 2 rfl) _ _ hx4) (by kernel_rfl) (fun v3 h3 hp3 => ?_)
    obtain ⟨a4, c4, rfl, H5⟩ := hp3
    have H6 : Hold h h3 [own cd2 a4 x4.1.length c4 x4.1, own cd2 a3 x3.1.length c3 x3.1, own cd2 a1 x2.1.length c1 x2.1, own cd2 a2 x2.2.length c2 x2.2] := H4.call H5 rfl
    refine Run_b [.tuple #[.slice a4 x4.1.length c4, .int .i64 x4.2], .slice a4 x4.1.length c4, .int .i64 x4.2, .slice a4 x4.1.length c4, .int .i64 x4.2] 3 _ (by kernel_rfl) (fun w => by kernel_rfl) ?_
    refine Run_nil (by kernel_rfl) ?_
    refine Run_keep [0, 3, 4, 5, 6, 7, 8] (L' := [(0, .slice acode code.length ccode), (3, .slice a1 x2.1.length c1), (4, .slice a2 x2.2.length c2), (5, .slice a3 x3.1.length c3), (6, .int .i64 x3.2), (7, .slice a4 x4.1.length c4), (8, .int .i64 x4.2)]) (by kernel_rfl) ?_
    refine Run_seq ?_
    refine Run_ops ?_
    refine Run_b [.slice acode code.length ccode] 0 _ (by kernel_rfl) (fun w => by kernel_rfl) ?_
    obtain ⟨x5, hx5, hF⟩ := M.bind_some hF
    refine Run_E (by kernel_rfl) ?_
    refine E_call (f := 44) (args := #[.slice acode code.length ccode]) (w_spec_DrawCornersOf h3 code acode ccode (rcode.at H6.ext) _ _ hx5) (by kernel_rfl) (fun v4 h4 hp4 => ?_)
    obtain ⟨a5, c5, rfl, H7⟩ := hp4
    have H8 : Hold h h4 [own cd2 a5 x5.length c5 x5, own cd2 a4 x4.1.length c4 x4.1, own cd2 a3 x3.1.length c3 x3.1, own cd2 a1 x2.1.length c1 x2.1, own cd2 a2 x2.2.length c2 x2.2] := H6.call H7 rfl
    refine Run_b [.slice a5 x5.length c5] 2 _ (by kernel_rfl) (fun w => by kernel_rfl) ?_
    refine Run_nil (by kernel_rfl) ?_
    refine Run_keep [3, 4, 5, 6, 7, 8, 9] (L' := [(3, .slice a1 x2.1.length c1), (4, .slice a2 x2.2.length c2), (5, .slice a3 x3.1.length c3), (6, .int .i64 x3.2), (7, .slice a4 x4.1.length c4), (8, .int .i64 x4.2), (9, .slice a5 x5.length c5)]) (by kernel_rfl) ?_
    refine Run_seq ?_
    refine Run_ops ?_
    refine Run_b [.slice a5 x5.length c5] 0 _ (by kernel_rfl) (fun w => by kernel_rfl) ?_
    obtain ⟨x6, hx6, hF⟩ := M.bind_some hF
    refine Run_E (by kernel_rfl) ?_
    refine E_call (f := 45) (args := #[.slice a5 x5.length c5]) (w_impl_CornersOf h4 x5 a5 c5 (H8.rd 0 rfl) _ _ hx6) (by kernel_rfl) (fun v5 h5 hp5 => ?_)
    obtain ⟨a6, c6, rfl, H9⟩ := hp5
    have H10 : Hold h h5 [own cd69 a6 x6.1.length c6 x6.1, own cd2 a5 x5.length c5 x5, own cd2 a4 x4.1.length c4 x4.1, own cd2 a3 x3.1.length c3 x3.1, own cd2 a1 x2.1.length c1 x2.1, own cd2 a2 x2.2.length c2 x2.2] := H8.call H9 rfl
    refine Run_b [.tuple #[.slice a6 x6.1.length c6, .int .i64 x6.2], .slice a6 x6.1.length c6, .int .i64 x6.2, .slice a6 x6.1.length c6, .int .i64 x6.2] 2 _ (by kernel_rfl) (fun w => by kernel_rfl) ?_
    refine Run_nil (by kernel_rfl) ?_
    refine Run_keep [3, 4, 5, 6, 7, 8, 9, 10, 11] (L' := [(3, .slice a1 x2.1.length c1), (4, .slice a2 x2.2.length c2), (5, .slice a3 x3.1.length c3), (6, .int .i64 x3.2), (7, .slice a4 x4.1.length c4), (8, .int .i64 x4.2), (9, .slice a5 x5.length c5), (10, .slice a6 x6.1.length c6), (11, .int .i64 x6.2)]) (by kernel_rfl) ?_
    refine Run_seq ?_
    refine Run_ops ?_
    refine Run_b [.slice a5 x5.length c5] 0 _ (by kernel_rfl) (fun w => by kernel_rfl) ?_
    obtain ⟨x7, hx7, hF⟩ := M.bind_some hF
    refine Run_E (by kernel_rfl) ?_
    refine E_call (f := 46) (args := #[.slice a5 x5.length c5]) (w_spec_CornersOf h5 x5 a5 c5 (H10.rd 1 rfl) _ _ hx7) (by kernel_rfl) (fun v6 h6 hp6 => ?_)
    obtain ⟨a7, c7, rfl, H11⟩ := hp6
    have H12 : Hold h h6 [own cd69 a7 x7.1.length c7 x7.1, own cd69 a6 x6.1.length c6 x6.1, own cd2 a5 x5.length c5 x5, own cd2 a4 x4.1.length c4 x4.1, own cd2 a3 x3.1.length c3 x3.1, own cd2 a1 x2.1.length c1 x2.1, own cd2 a2 x2.2.length c2 x2.2] := H10.call H11 rfl
    refine Run_b [.tuple #[.slice a7 x7.1.length c7, .int .i64 x7.2], .slice a7 x7.1.length c7, .int .i64 x7.2, .slice a7 x7.1.length c7, .int .i64 x7.2] 2 _ (by kernel_rfl) (fun w => by kernel_rfl) ?_
    refine Run_nil (by kernel_rfl) ?_
    refine Run_keep [3, 4, 5, 6, 7, 8, 10, 11, 12, 13] (L' := [(3, .slice a1 x2.1.length c1), (4, .slice a2 x2.2.length c2), (5, .slice a3 x3.1.length c3), (6, .int .i64 x3.2), (7, .slice a4 x4.1.length c4), (8, .int .i64 x4.2), (10, .slice a6 x6.1.length c6), (11, .int .i64 x6.2), (12, .slice a7 x7.1.length c7), (13, .int .i64 x7.2)]) (by kernel_rfl) ?_
    refine Run_seq ?_
    refine Run_seq ?_
    obtain ⟨x8, gx8, hF⟩ := M.bind_some hF
    refine Run_reg 21 (by kernel_rfl) (L' := [(3, .slice a1 x2.1.length c1), (4, .slice a2 x2.2.length c2), (5, .slice a3 x3.1.length c3), (6, .int .i64 x3.2), (10, .slice a6 x6.1.length c6), (12, .slice a7 x7.1.length c7), (79, .bool ((x8 || (x6.2 != x7.2)) || ((x6.1.length : Int) != (x7.1.length : Int))))]) ?_ ?_
    · refine QRun_b [.int .i64 x3.2, .int .i64 x4.2, .bool (x3.2 != x4.2)] 0 _ (by kernel_rfl) (fun w => by kernel_rfl) ?_
      refine QRun_seq 9 [(3, .slice a1 x2.1.length c1), (4, .slice a2 x2.2.length c2), (5, .slice a3 x3.1.length c3), (6, .int .i64 x3.2), (10, .slice a6 x6.1.length c6), (11, .int .i64 x6.2), (12, .slice a7 x7.1.length c7), (13, .int .i64 x7.2), (67, .bool x8)] ?_ ?_
      · rcases Bool.eq_false_or_eq_true (x3.2 != x4.2) with hb2 | hb2
        · refine QRun_bool (x3.2 != x4.2) true (by kernel_rfl) (fun w => by kernel_rfl) hb2 ?_
          have gx8 := M.ret_some ((M.ite_some gx8).1 hb2)
          refine QRun_n (by kernel_rfl) ?_
          refine QRun_n (by kernel_rfl) ?_
          refine QRun_n (by kernel_rfl) ?_
          refine QRun_n (by kernel_rfl) ?_
          refine QRun_bool true x8 (by kernel_rfl) (fun w => by kernel_rfl) gx8 ?_
          exact QRun_done [3, 4, 5, 6, 10, 11, 12, 13, 67] (by kernel_rfl) (by kernel_rfl)
        · refine QRun_bool (x3.2 != x4.2) false (by kernel_rfl) (fun w => by kernel_rfl) hb2 ?_
          have gx8 := (M.ite_some gx8).2 hb2
          obtain ⟨x9, hx8, gx8⟩ := M.bind_some gx8
          have gx8 := M.ret_some gx8
          refine QRun_b [.slice a3 x3.1.length c3, .slice a4 x4.1.length c4] 4 _ (by kernel_rfl) (fun w => by kernel_rfl) ?_
          refine QRun_y (.bool x9) (by kernel_rfl) (Y_callq (f := 39) (args := #[.slice a3 x3.1.length c3, .slice a4 x4.1.length c4]) (v := .bool x9) (by kernel_rfl) (w_laws_likeInts h6 x3.1 a3 c3 (H12.rd 4 rfl) x4.1 a4 c4 (H12.rd 3 rfl) _ _ hx8)) ?_
          refine QRun_b [.bool (!x9)] 7 _ (by kernel_rfl) (fun w => by kernel_rfl) ?_
          refine QRun_bool (!x9) x8 (by kernel_rfl) (fun w => by kernel_rfl) gx8 ?_
          exact QRun_done [3, 4, 5, 6, 10, 11, 12, 13, 67] (by kernel_rfl) (by kernel_rfl)
      refine QRun_seq 14 [(3, .slice a1 x2.1.length c1), (4, .slice a2 x2.2.length c2), (5, .slice a3 x3.1.length c3), (6, .int .i64 x3.2), (10, .slice a6 x6.1.length c6), (12, .slice a7 x7.1.length c7), (72, .bool (x8 || (x6.2 != x7.2)))] ?_ ?_
      · rcases Bool.eq_false_or_eq_true x8 with hb3 | hb3
        · refine QRun_bool x8 true (by kernel_rfl) (fun w => by kernel_rfl) hb3 ?_
          refine QRun_n (by kernel_rfl) ?_
          refine QRun_n (by kernel_rfl) ?_
          refine QRun_n (by kernel_rfl) ?_
          refine QRun_bool true (x8 || (x6.2 != x7.2)) (by kernel_rfl) (fun w => by kernel_rfl) (by rw [hb3]; rfl) ?_
          exact QRun_done [3, 4, 5, 6, 10, 12, 72] (by kernel_rfl) (by kernel_rfl)
        · refine QRun_bool x8 false (by kernel_rfl) (fun w => by kernel_rfl) hb3 ?_
          refine QRun_b [.int .i64 x6.2, .int .i64 x7.2, .bool (x6.2 != x7.2)] 10 _ (by kernel_rfl) (fun w => by kernel_rfl) ?_
          refine QRun_bool (x6.2 != x7.2) (x8 || (x6.2 != x7.2)) (by kernel_rfl) (fun w => by kernel_rfl) (by rw [hb3]; rfl) ?_
          exact QRun_done [3, 4, 5, 6, 10, 12, 72] (by kernel_rfl) (by kernel_rfl)
      refine QRun_seq 21 [(3, .slice a1 x2.1.length c1), (4, .slice a2 x2.2.length c2), (5, .slice a3 x3.1.length c3), (6, .int .i64 x3.2), (10, .slice a6 x6.1.length c6), (12, .slice a7 x7.1.length c7), (79, .bool ((x8 || (x6.2 != x7.2)) || ((x6.1.length : Int) != (x7.1.length : Int))))] ?_ ?_
      · rcases Bool.eq_false_or_eq_true (x8 || (x6.2 != x7.2)) with hb4 | hb4
        · refine QRun_bool (x8 || (x6.2 != x7.2)) true (by kernel_rfl) (fun w => by kernel_rfl) hb4 ?_
          refine QRun_n (by kernel_rfl) ?_
          refine QRun_n (by kernel_rfl) ?_
          refine QRun_n (by kernel_rfl) ?_
          refine QRun_n (by kernel_rfl) ?_
          refine QRun_n (by kernel_rfl) ?_
          refine QRun_bool true ((x8 || (x6.2 != x7.2)) || ((x6.1.length : Int) != (x7.1.length : Int))) (by kernel_rfl) (fun w => by kernel_rfl) (by rw [hb4]; rfl) ?_
          exact QRun_done [3, 4, 5, 6, 10, 12, 79] (by kernel_rfl) (by kernel_rfl)
        · refine QRun_bool (x8 || (x6.2 != x7.2)) false (by kernel_rfl) (fun w => by kernel_rfl) hb4 ?_
          refine QRun_b [.slice a6 x6.1.length c6, .int .i64 (x6.1.length : Int), .slice a7 x7.1.length c7, .int .i64 (x7.1.length : Int), .bool ((x6.1.length : Int) != (x7.1.length : Int))] 15 _ (by kernel_rfl) (fun w => by kernel_rfl) ?_
          refine QRun_bool ((x6.1.length : Int) != (x7.1.length : Int)) ((x8 || (x6.2 != x7.2)) || ((x6.1.length : Int) != (x7.1.length : Int))) (by kernel_rfl) (fun w => by kernel_rfl) (by rw [hb4]; rfl) ?_
          exact QRun_done [3, 4, 5, 6, 10, 12, 79] (by kernel_rfl) (by kernel_rfl)
      exact QRun_done [3, 4, 5, 6, 10, 12, 79] (by kernel_rfl) (by kernel_rfl)
    refine Run_cond (b := (x8 || (x6.2 != x7.2)) || ((x6.1.length : Int) != (x7.1.length : Int))) (by kernel_rfl) (fun hb5 => ?_) (fun hb5 => ?_)
    · have hF := (M.ite_some hF).1 hb5
      refine Run_seq ?_
      refine Run_reg 1 (by kernel_rfl) (L' := [(2, .bool false)]) ?_ ?_
      · refine QRun_b [.bool false] 0 _ (by kernel_rfl) (fun w => by kernel_rfl) ?_
        exact QRun_done [2] (by kernel_rfl) (by kernel_rfl)
      have hF := M.ret_some hF
      subst hF
      have H13 : Hold h h6 [] := H12.pick [] (by kernel_rfl)
      exact Run_ret1 rfl (ResV_tmp (v := .bool false) (by kernel_rfl)) ⟨rfl, H13⟩
    · have hF := (M.ite_some hF).2 hb5
      refine Run_skip ?_
      refine Run_seq ?_
      refine Run_seq ?_
      refine Run_reg 1 (by kernel_rfl) (L' := [(3, .slice a1 x2.1.length c1), (4, .slice a2 x2.2.length c2), (5, .slice a3 x3.1.length c3), (6, .int .i64 x3.2), (10, .slice a6 x6.1.length c6), (12, .slice a7 x7.1.length c7), (14, .int .i64 0)]) ?_ ?_
      · refine QRun_b [.int .i64 0] 0 _ (by kernel_rfl) (fun w => by kernel_rfl) ?_
        exact QRun_done [3, 4, 5, 6, 10, 12, 14] (by kernel_rfl) (by kernel_rfl)
      obtain ⟨x12, gx12, hF⟩ := M.bind_some hF
      obtain ⟨hloy1, hhiy1, gx12⟩ := M.for_start gx12
      refine Run_join (fun L' h' => ∃ (s2 : Unit), x12 = .inl s2 ∧ L' = [(3, .slice a1 x2.1.length c1), (4, .slice a2 x2.2.length c2), (5, .slice a3 x3.1.length c3), (6, .int .i64 x3.2)] ∧ Hold h h' [own cd2 a1 x2.1.length c1 x2.1, own cd2 a2 x2.2.length c2 x2.2, own cd2 a3 x3.1.length c3 x3.1]) ?_ ?_
      · rintro _ h8 ⟨s2, es2, rfl, H15⟩
        have hF := M.cont_inl' hF es2
        refine Run_seq ?_
        refine Run_seq ?_
        refine Run_reg 2 (by kernel_rfl) (L' := [(3, .slice a1 x2.1.length c1), (4, .slice a2 x2.2.length c2), (5, .slice a3 x3.1.length c3), (96, .bool (x3.2 != 0))]) ?_ ?_
        · refine QRun_b [.int .i64 x3.2, .bool (x3.2 != 0)] 0 _ (by kernel_rfl) (fun w => by kernel_rfl) ?_
          exact QRun_done [3, 4, 5, 96] (by kernel_rfl) (by kernel_rfl)
        refine Run_cond (b := x3.2 != 0) (by kernel_rfl) (fun hb8 => ?_) (fun hb8 => ?_)
        · have hF := (M.ite_some hF).1 hb8
          refine Run_seq ?_
          refine Run_reg 1 (by kernel_rfl) (L' := [(2, .bool true)]) ?_ ?_
          · refine QRun_b [.bool true] 0 _ (by kernel_rfl) (fun w => by kernel_rfl) ?_
            exact QRun_done [2] (by kernel_rfl) (by kernel_rfl)
          have hF := M.ret_some hF
          subst hF
          have H18 : Hold h h8 [] := H15.pick [] (by kernel_rfl)
          exact Run_ret1 rfl (ResV_tmp (v := .bool true) (by kernel_rfl)) ⟨rfl, H18⟩
        · have hF := (M.ite_some hF).2 hb8
          refine Run_skip ?_
          refine Run_seq ?_
          refine Run_ops ?_
          refine Run_b [.slice a1 x2.1.length c1] 0 _ (by kernel_rfl) (fun w => by kernel_rfl) ?_
          obtain ⟨x15, hx11, hF⟩ := M.bind_some hF
          refine Run_E (by kernel_rfl) ?_
          refine E_call (f := 45) (args := #[.slice a1 x2.1.length c1]) (w_impl_CornersOf h8 x2.1 a1 c1 (H15.rd 0 rfl) _ _ hx11) (by kernel_rfl) (fun v7 h9 hp7 => ?_)
          obtain ⟨a8, c8, rfl, H19⟩ := hp7
          have H20 : Hold h h9 [own cd69 a8 x15.1.length c8 x15.1, own cd2 a1 x2.1.length c1 x2.1, own cd2 a2 x2.2.length c2 x2.2, own cd2 a3 x3.1.length c3 x3.1] := H15.call H19 rfl
          refine Run_b [.tuple #[.slice a8 x15.1.length c8, .int .i64 x15.2], .slice a8 x15.1.length c8, .int .i64 x15.2, .slice a8 x15.1.length c8, .int .i64 x15.2] 2 _ (by kernel_rfl) (fun w => by kernel_rfl) ?_
          refine Run_nil (by kernel_rfl) ?_
          refine Run_keep [4, 5, 15, 16] (L' := [(4, .slice a2 x2.2.length c2), (5, .slice a3 x3.1.length c3), (15, .slice a8 x15.1.length c8), (16, .int .i64 x15.2)]) (by kernel_rfl) ?_
          refine Run_seq ?_
          refine Run_ops ?_
          refine Run_b [.slice a2 x2.2.length c2] 0 _ (by kernel_rfl) (fun w => by kernel_rfl) ?_
          obtain ⟨x16, hx12, hF⟩ := M.bind_some hF
          refine Run_E (by kernel_rfl) ?_
          refine E_call (f := 45) (args := #[.slice a2 x2.2.length c2]) (w_impl_CornersOf h9 x2.2 a2 c2 (H20.rd 2 rfl) _ _ hx12) (by kernel_rfl) (fun v8 h10 hp8 => ?_)
          obtain ⟨a9, c9, rfl, H21⟩ := hp8
          have H22 : Hold h h10 [own cd69 a9 x16.1.length c9 x16.1, own cd69 a8 x15.1.length c8 x15.1, own cd2 a1 x2.1.length c1 x2.1, own cd2 a2 x2.2.length c2 x2.2, own cd2 a3 x3.1.length c3 x3.1] := H20.call H21 rfl
          refine Run_b [.tuple #[.slice a9 x16.1.length c9, .int .i64 x16.2], .slice a9 x16.1.length c9, .int .i64 x16.2, .slice a9 x16.1.length c9, .int .i64 x16.2] 2 _ (by kernel_rfl) (fun w => by kernel_rfl) ?_
          refine Run_nil (by kernel_rfl) ?_
          refine Run_keep [5, 15, 16, 17, 18] (L' := [(5, .slice a3 x3.1.length c3), (15, .slice a8 x15.1.length c8), (16, .int .i64 x15.2), (17, .slice a9 x16.1.length c9), (18, .int .i64 x16.2)]) (by kernel_rfl) ?_
          refine Run_seq ?_
          refine Run_ops ?_
          refine Run_b [.slice a3 x3.1.length c3] 0 _ (by kernel_rfl) (fun w => by kernel_rfl) ?_
          obtain ⟨x17, hx13, hF⟩ := M.bind_some hF
          refine Run_E (by kernel_rfl) ?_
          refine E_call (f := 45) (args := #[.slice a3 x3.1.length c3]) (w_impl_CornersOf h10 x3.1 a3 c3 (H22.rd 4 rfl) _ _ hx13) (by kernel_rfl) (fun v9 h11 hp9 => ?_)
          obtain ⟨a10, c10, rfl, H23⟩ := hp9
          have H24 : Hold h h11 [own cd69 a10 x17.1.length c10 x17.1, own cd69 a9 x16.1.length c9 x16.1, own cd69 a8 x15.1.length c8 x15.1, own cd2 a1 x2.1.length c1 x2.1, own cd2 a2 x2.2.length c2 x2.2, own cd2 a3 x3.1.length c3 x3.1] := H22.call H23 rfl
          refine Run_b [.tuple #[.slice a10 x17.1.length c10, .int .i64 x17.2], .slice a10 x17.1.length c10, .int .i64 x17.2, .slice a10 x17.1.length c10, .int .i64 x17.2] 2 _ (by kernel_rfl) (fun w => by kernel_rfl) ?_
          refine Run_nil (by kernel_rfl) ?_
          refine Run_keep [15, 16, 17, 18, 19, 20] (L' := [(15, .slice a8 x15.1.length c8), (16, .int .i64 x15.2), (17, .slice a9 x16.1.length c9), (18, .int .i64 x16.2), (19, .slice a10 x17.1.length c10), (20, .int .i64 x17.2)]) (by kernel_rfl) ?_
          refine Run_seq ?_
          refine Run_seq ?_
          refine Run_reg 10 (by kernel_rfl) (L' := [(15, .slice a8 x15.1.length c8), (17, .slice a9 x16.1.length c9), (19, .slice a10 x17.1.length c10), (121, .bool (((x15.2 != 0) || (x16.2 != 0)) || (x17.2 != 0)))]) ?_ ?_
          · refine QRun_b [.int .i64 x15.2, .bool (x15.2 != 0)] 0 _ (by kernel_rfl) (fun w => by kernel_rfl) ?_
            refine QRun_seq 6 [(15, .slice a8 x15.1.length c8), (17, .slice a9 x16.1.length c9), (19, .slice a10 x17.1.length c10), (20, .int .i64 x17.2), (117, .bool ((x15.2 != 0) || (x16.2 != 0)))] ?_ ?_
            · rcases Bool.eq_false_or_eq_true (x15.2 != 0) with hb9 | hb9
              · refine QRun_bool (x15.2 != 0) true (by kernel_rfl) (fun w => by kernel_rfl) hb9 ?_
                refine QRun_n (by kernel_rfl) ?_
                refine QRun_n (by kernel_rfl) ?_
                refine QRun_bool true ((x15.2 != 0) || (x16.2 != 0)) (by kernel_rfl) (fun w => by kernel_rfl) (by rw [hb9]; rfl) ?_
                exact QRun_done [15, 17, 19, 20, 117] (by kernel_rfl) (by kernel_rfl)
              · refine QRun_bool (x15.2 != 0) false (by kernel_rfl) (fun w => by kernel_rfl) hb9 ?_
                refine QRun_b [.int .i64 x16.2, .bool (x16.2 != 0)] 3 _ (by kernel_rfl) (fun w => by kernel_rfl) ?_
                refine QRun_bool (x16.2 != 0) ((x15.2 != 0) || (x16.2 != 0)) (by kernel_rfl) (fun w => by kernel_rfl) (by rw [hb9]; rfl) ?_
                exact QRun_done [15, 17, 19, 20, 117] (by kernel_rfl) (by kernel_rfl)
            refine QRun_seq 10 [(15, .slice a8 x15.1.length c8), (17, .slice a9 x16.1.length c9), (19, .slice a10 x17.1.length c10), (121, .bool (((x15.2 != 0) || (x16.2 != 0)) || (x17.2 != 0)))] ?_ ?_
            · rcases Bool.eq_false_or_eq_true ((x15.2 != 0) || (x16.2 != 0)) with hb10 | hb10
              · refine QRun_bool ((x15.2 != 0) || (x16.2 != 0)) true (by kernel_rfl) (fun w => by kernel_rfl) hb10 ?_
                refine QRun_n (by kernel_rfl) ?_
                refine QRun_n (by kernel_rfl) ?_
                refine QRun_bool true (((x15.2 != 0) || (x16.2 != 0)) || (x17.2 != 0)) (by kernel_rfl) (fun w => by kernel_rfl) (by rw [hb10]; rfl) ?_
                exact QRun_done [15, 17, 19, 121] (by kernel_rfl) (by kernel_rfl)
              · refine QRun_bool ((x15.2 != 0) || (x16.2 != 0)) false (by kernel_rfl) (fun w => by kernel_rfl) hb10 ?_
                refine QRun_b [.int .i64 x17.2, .bool (x17.2 != 0)] 7 _ (by kernel_rfl) (fun w => by kernel_rfl) ?_
                refine QRun_bool (x17.2 != 0) (((x15.2 != 0) || (x16.2 != 0)) || (x17.2 != 0)) (by kernel_rfl) (fun w => by kernel_rfl) (by rw [hb10]; rfl) ?_
                exact QRun_done [15, 17, 19, 121] (by kernel_rfl) (by kernel_rfl)
            exact QRun_done [15, 17, 19, 121] (by kernel_rfl) (by kernel_rfl)
          refine Run_cond (b := ((x15.2 != 0) || (x16.2 != 0)) || (x17.2 != 0)) (by kernel_rfl) (fun hb11 => ?_) (fun hb11 => ?_)
          · have hF := (M.ite_some hF).1 hb11
            refine Run_seq ?_
            refine Run_reg 1 (by kernel_rfl) (L' := [(2, .bool true)]) ?_ ?_
            · refine QRun_b [.bool true] 0 _ (by kernel_rfl) (fun w => by kernel_rfl) ?_
              exact QRun_done [2] (by kernel_rfl) (by kernel_rfl)
            have hF := M.ret_some hF
            subst hF
            have H25 : Hold h h11 [] := H24.pick [] (by kernel_rfl)
            exact Run_ret1 rfl (ResV_tmp (v := .bool true) (by kernel_rfl)) ⟨rfl, H25⟩
          · have hF := (M.ite_some hF).2 hb11
            refine Run_skip ?_
            refine Run_seq ?_
            refine Run_reg 1 (by kernel_rfl) (L' := [(15, .slice a8 x15.1.length c8), (17, .slice a9 x16.1.length c9), (19, .slice a10 x17.1.length c10), (21, .int .i64 0)]) ?_ ?_
            · refine QRun_b [.int .i64 0] 0 _ (by kernel_rfl) (fun w => by kernel_rfl) ?_
              exact QRun_done [15, 17, 19, 21] (by kernel_rfl) (by kernel_rfl)
            refine Run_seq ?_
            refine Run_seq ?_
            refine Run_reg 1 (by kernel_rfl) (L' := [(15, .slice a8 x15.1.length c8), (17, .slice a9 x16.1.length c9), (19, .slice a10 x17.1.length c10), (21, .int .i64 0), (22, .int .i64 0)]) ?_ ?_
            · refine QRun_b [.int .i64 0] 0 _ (by kernel_rfl) (fun w => by kernel_rfl) ?_
              exact QRun_done [15, 17, 19, 21, 22] (by kernel_rfl) (by kernel_rfl)
            obtain ⟨x20, gx20, hF⟩ := M.bind_some hF
            obtain ⟨hloy2, hhiy2, gx20⟩ := M.for_start gx20
            refine Run_join (fun L' h' => ∃ (s4 : Int), x20 = .inl s4 ∧ L' = [(15, .slice a8 x15.1.length c8), (17, .slice a9 x16.1.length c9), (21, .int .i64 s4)] ∧ Hold h h' [own cd69 a8 x15.1.length c8 x15.1, own cd69 a9 x16.1.length c9 x16.1]) ?_ ?_
            · rintro _ h13 ⟨s4, es4, rfl, H27⟩
              have hF := M.cont_inl' hF es4
              refine Run_seq ?_
              refine Run_seq ?_
              refine Run_reg 1 (by kernel_rfl) (L' := [(15, .slice a8 x15.1.length c8), (17, .slice a9 x16.1.length c9), (21, .int .i64 s4), (26, .int .i64 0)]) ?_ ?_
              · refine QRun_b [.int .i64 0] 0 _ (by kernel_rfl) (fun w => by kernel_rfl) ?_
                exact QRun_done [15, 17, 21, 26] (by kernel_rfl) (by kernel_rfl)
              obtain ⟨x30, gx30, hF⟩ := M.bind_some hF
              obtain ⟨hloy5, hhiy5, gx30⟩ := M.for_start gx30
              refine Run_join (fun L' h' => L' = [(17, .slice a9 x16.1.length c9), (21, .int .i64 x30)] ∧ Hold h h' [own cd69 a9 x16.1.length c9 x16.1]) ?_ ?_
              · rintro _ h21 ⟨rfl, H37⟩
                refine Run_seq ?_
                refine Run_seq ?_
                refine Run_reg 1 (by kernel_rfl) (L' := [(17, .slice a9 x16.1.length c9), (21, .int .i64 x30), (27, .int .i64 0)]) ?_ ?_
                · refine QRun_b [.int .i64 0] 0 _ (by kernel_rfl) (fun w => by kernel_rfl) ?_
                  exact QRun_done [17, 21, 27] (by kernel_rfl) (by kernel_rfl)
                obtain ⟨x32, gx32, hF⟩ := M.bind_some hF
                obtain ⟨hloy6, hhiy6, gx32⟩ := M.for_start gx32
                refine Run_join (fun L' h' => L' = [(21, .int .i64 x32)] ∧ Hold h h' []) ?_ ?_
                · rintro _ h23 ⟨rfl, H40⟩
                  refine Run_seq ?_
                  refine Run_reg 3 (by kernel_rfl) (L' := [(2, .bool (x32 == 0))]) ?_ ?_
                  · refine QRun_b [.int .i64 x32, .bool (x32 == 0), .bool (x32 == 0)] 0 _ (by kernel_rfl) (fun w => by kernel_rfl) ?_
                    exact QRun_done [2] (by kernel_rfl) (by kernel_rfl)
                  have hF := M.ret_some hF
                  subst hF
                  exact Run_ret1 rfl (ResV_tmp (v := .bool (x32 == 0)) (by kernel_rfl)) ⟨rfl, H40⟩
                · refine Run_block ?_
                  refine Run_keep [17, 21, 27] (L' := [(17, .slice a9 x16.1.length c9), (21, .int .i64 x30), (27, .int .i64 0)]) (by kernel_rfl) ?_
                  refine Run_loop (fun m L' h' => ∃ (i6 : Int) (s10 : Int), 0 ≤ i6 ∧ M.forN (x16.1.length : Int) _ _ n m i6 s10 = some x32 ∧ L' = [(17, .slice a9 x16.1.length c9), (21, .int .i64 s10), (27, .int .i64 i6)] ∧ Hold h h' [own cd69 a9 x16.1.length c9 x16.1]) ((x16.1.length : Int) - 0 : Int).toNat ⟨0, x30, Int.le_refl _, gx32, rfl, H37⟩ ?_
                  rintro my6 _ h22 ⟨i6, s10, hloy6', gx32, rfl, H39⟩
                  refine Run_seq ?_
                  refine Run_seq ?_
                  refine Run_reg 4 (by kernel_rfl) (L' := [(17, .slice a9 x16.1.length c9), (21, .int .i64 s10), (27, .int .i64 i6), (202, .bool (decide (i6 < (x16.1.length : Int))))]) ?_ ?_
                  · refine QRun_b [.int .i64 i6, .slice a9 x16.1.length c9, .int .i64 (x16.1.length : Int), .bool (decide (i6 < (x16.1.length : Int)))] 0 _ (by kernel_rfl) (fun w => by kernel_rfl) ?_
                    exact QRun_done [17, 21, 27, 202] (by kernel_rfl) (by kernel_rfl)
                  refine Run_cond (b := decide (i6 < (x16.1.length : Int))) (by kernel_rfl) (fun hb19 => ?_) (fun hb19 => ?_)
                  · obtain ⟨my6, y6, rfl, hB6, hgoy6, houty6⟩ := M.for_go gx32 hb19
                    have hlty6 := of_decide_eq_true hb19
                    refine Run_skip ?_
                    refine Run_seq ?_
                    refine Run_block ?_
                    obtain ⟨x33, hx22, hB6⟩ := M.bind_some hB6
                    obtain ⟨hx22l, hx22u, hx22⟩ := M.idx_some hx22
                    refine Run_reg 8 (by kernel_rfl) (L' := [(17, .slice a9 x16.1.length c9), (21, .int .i64 (w64 (s10 - x33.Times))), (27, .int .i64 i6)]) ?_ ?_
                    · refine QRun_b [.int .i64 s10, .slice a9 x16.1.length c9, .int .i64 i6] 0 _ (by kernel_rfl) (fun w => by kernel_rfl) ?_
                      refine QRun_y (.pointer (some (adr a9 (i6.toNat * 3)))) (by kernel_rfl) (Y_idx (t := 63) (e := 69) (sz := 3) (a := a9) (n := x16.1.length) (cap := c9) (kk := .i64) (i := i6) (by kernel_rfl) Try.underlying63 (by kernel_rfl) ((H39.rd 0 rfl).cell hx22).1 hx22l hx22u) ?_
                      refine QRun_b [.pointer (some ((adr a9 (i6.toNat * 3)).add 2))] 4 _ (by kernel_rfl) (fun w => by kernel_rfl) ?_
                      refine QRun_y (.int .i64 x33.Times) (by kernel_rfl) (Y_load1 (t := 2) (p := (adr a9 (i6.toNat * 3)).add 2) (v := .int .i64 x33.Times) (by kernel_rfl) (fun w => by kernel_rfl) (cd69_f2 (H39.rd 0 rfl) hx22)) ?_
                      refine QRun_b [.int .i64 (w64 (s10 - x33.Times)), .int .i64 (w64 (s10 - x33.Times))] 6 _ (by kernel_rfl) (fun w => by kernel_rfl) ?_
                      exact QRun_done [17, 21, 27] (by kernel_rfl) (by kernel_rfl)
                    refine Run_blk ?_
                    refine Run_reg 3 (by kernel_rfl) (L' := [(17, .slice a9 x16.1.length c9), (21, .int .i64 (w64 (s10 - x33.Times))), (27, .int .i64 (i6 + 1))]) ?_ ?_
                    · refine QRun_b [.int .i64 i6] 0 _ (by kernel_rfl) (fun w => by kernel_rfl) ?_
                      refine QRun_y (.int .i64 (i6 + 1)) (by kernel_rfl) (Y_eq (v := .int .i64 (w64 (i6 + 1))) (Y_pure (fun w => by kernel_rfl)) (by rw [w64_eq _ (by omega)])) ?_
                      refine QRun_b [.int .i64 (i6 + 1)] 2 _ (by kernel_rfl) (fun w => by kernel_rfl) ?_
                      exact QRun_done [17, 21, 27] (by kernel_rfl) (by kernel_rfl)
                    have hB6 := M.ret_some hB6
                    have gx32 := hgoy6 _ hB6.symm
                    exact Run_again [17, 21, 27] (by kernel_rfl) my6 (Nat.lt_succ_self _) ⟨i6 + 1, (w64 (s10 - x33.Times)), by omega, gx32, rfl, H39⟩
                  · have gx32 := M.for_end gx32 hb19
                    subst gx32
                    refine Run_exit (k' := _) rfl ?_
                    have H41 : Hold h h22 [] := H39.pick [] (by kernel_rfl)
                    exact Run_fall [21] (by kernel_rfl) ⟨rfl, H41⟩
              · refine Run_block ?_
                refine Run_keep [15, 17, 21, 26] (L' := [(15, .slice a8 x15.1.length c8), (17, .slice a9 x16.1.length c9), (21, .int .i64 s4), (26, .int .i64 0)]) (by kernel_rfl) ?_
                refine Run_loop (fun m L' h' => ∃ (i5 : Int) (s9 : Int), 0 ≤ i5 ∧ M.forN (x15.1.length : Int) _ _ n m i5 s9 = some x30 ∧ L' = [(15, .slice a8 x15.1.length c8), (17, .slice a9 x16.1.length c9), (21, .int .i64 s9), (26, .int .i64 i5)] ∧ Hold h h' [own cd69 a8 x15.1.length c8 x15.1, own cd69 a9 x16.1.length c9 x16.1]) ((x15.1.length : Int) - 0 : Int).toNat ⟨0, s4, Int.le_refl _, gx30, rfl, H27⟩ ?_
                rintro my5 _ h20 ⟨i5, s9, hloy5', gx30, rfl, H36⟩
                refine Run_seq ?_
                refine Run_seq ?_
                refine Run_reg 4 (by kernel_rfl) (L' := [(15, .slice a8 x15.1.length c8), (17, .slice a9 x16.1.length c9), (21, .int .i64 s9), (26, .int .i64 i5), (189, .bool (decide (i5 < (x15.1.length : Int))))]) ?_ ?_
                · refine QRun_b [.int .i64 i5, .slice a8 x15.1.length c8, .int .i64 (x15.1.length : Int), .bool (decide (i5 < (x15.1.length : Int)))] 0 _ (by kernel_rfl) (fun w => by kernel_rfl) ?_
                  exact QRun_done [15, 17, 21, 26, 189] (by kernel_rfl) (by kernel_rfl)
                refine Run_cond (b := decide (i5 < (x15.1.length : Int))) (by kernel_rfl) (fun hb18 => ?_) (fun hb18 => ?_)
                · obtain ⟨my5, y5, rfl, hB5, hgoy5, houty5⟩ := M.for_go gx30 hb18
                  have hlty5 := of_decide_eq_true hb18
                  refine Run_skip ?_
                  refine Run_seq ?_
                  refine Run_block ?_
                  obtain ⟨x31, hx21, hB5⟩ := M.bind_some hB5
                  obtain ⟨hx21l, hx21u, hx21⟩ := M.idx_some hx21
                  refine Run_reg 8 (by kernel_rfl) (L' := [(15, .slice a8 x15.1.length c8), (17, .slice a9 x16.1.length c9), (21, .int .i64 (w64 (s9 - x31.Times))), (26, .int .i64 i5)]) ?_ ?_
                  · refine QRun_b [.int .i64 s9, .slice a8 x15.1.length c8, .int .i64 i5] 0 _ (by kernel_rfl) (fun w => by kernel_rfl) ?_
                    refine QRun_y (.pointer (some (adr a8 (i5.toNat * 3)))) (by kernel_rfl) (Y_idx (t := 63) (e := 69) (sz := 3) (a := a8) (n := x15.1.length) (cap := c8) (kk := .i64) (i := i5) (by kernel_rfl) Try.underlying63 (by kernel_rfl) ((H36.rd 0 rfl).cell hx21).1 hx21l hx21u) ?_
                    refine QRun_b [.pointer (some ((adr a8 (i5.toNat * 3)).add 2))] 4 _ (by kernel_rfl) (fun w => by kernel_rfl) ?_
                    refine QRun_y (.int .i64 x31.Times) (by kernel_rfl) (Y_load1 (t := 2) (p := (adr a8 (i5.toNat * 3)).add 2) (v := .int .i64 x31.Times) (by kernel_rfl) (fun w => by kernel_rfl) (cd69_f2 (H36.rd 0 rfl) hx21)) ?_
                    refine QRun_b [.int .i64 (w64 (s9 - x31.Times)), .int .i64 (w64 (s9 - x31.Times))] 6 _ (by kernel_rfl) (fun w => by kernel_rfl) ?_
                    exact QRun_done [15, 17, 21, 26] (by kernel_rfl) (by kernel_rfl)
                  refine Run_blk ?_
                  refine Run_reg 3 (by kernel_rfl) (L' := [(15, .slice a8 x15.1.length c8), (17, .slice a9 x16.1.length c9), (21, .int .i64 (w64 (s9 - x31.Times))), (26, .int .i64 (i5 + 1))]) ?_ ?_
                  · refine QRun_b [.int .i64 i5] 0 _ (by kernel_rfl) (fun w => by kernel_rfl) ?_
                    refine QRun_y (.int .i64 (i5 + 1)) (by kernel_rfl) (Y_eq (v := .int .i64 (w64 (i5 + 1))) (Y_pure (fun w => by kernel_rfl)) (by rw [w64_eq _ (by omega)])) ?_
                    refine QRun_b [.int .i64 (i5 + 1)] 2 _ (by kernel_rfl) (fun w => by kernel_rfl) ?_
                    exact QRun_done [15, 17, 21, 26] (by kernel_rfl) (by kernel_rfl)
                  have hB5 := M.ret_some hB5
                  have gx30 := hgoy5 _ hB5.symm
                  exact Run_again [15, 17, 21, 26] (by kernel_rfl) my5 (Nat.lt_succ_self _) ⟨i5 + 1, (w64 (s9 - x31.Times)), by omega, gx30, rfl, H36⟩
                · have gx30 := M.for_end gx30 hb18
                  subst gx30
                  refine Run_exit (k' := _) rfl ?_
                  have H38 : Hold h h20 [own cd69 a9 x16.1.length c9 x16.1] := H36.pick [1] (by kernel_rfl)
                  exact Run_fall [17, 21] (by kernel_rfl) ⟨rfl, H38⟩
            · refine Run_block ?_
              have H42 : Hold h h11 [own cd69 a8 x15.1.length c8 x15.1, own cd69 a9 x16.1.length c9 x16.1, own cd69 a10 x17.1.length c10 x17.1] := H24.pick [2, 1, 0] (by kernel_rfl)
              refine Run_keep [15, 17, 19, 21, 22] (L' := [(15, .slice a8 x15.1.length c8), (17, .slice a9 x16.1.length c9), (19, .slice a10 x17.1.length c10), (21, .int .i64 0), (22, .int .i64 0)]) (by kernel_rfl) ?_
              refine Run_loop (fun m L' h' => ∃ (i2 : Int) (s3 : Int), 0 ≤ i2 ∧ M.forN (x17.1.length : Int) _ _ n m i2 s3 = some x20 ∧ L' = [(15, .slice a8 x15.1.length c8), (17, .slice a9 x16.1.length c9), (19, .slice a10 x17.1.length c10), (21, .int .i64 s3), (22, .int .i64 i2)] ∧ Hold h h' [own cd69 a8 x15.1.length c8 x15.1, own cd69 a9 x16.1.length c9 x16.1, own cd69 a10 x17.1.length c10 x17.1]) ((x17.1.length : Int) - 0 : Int).toNat ⟨0, 0, Int.le_refl _, gx20, rfl, H42⟩ ?_
              rintro my2 _ h12 ⟨i2, s3, hloy2', gx20, rfl, H26⟩
              refine Run_seq ?_
              refine Run_seq ?_
              refine Run_reg 4 (by kernel_rfl) (L' := [(15, .slice a8 x15.1.length c8), (17, .slice a9 x16.1.length c9), (19, .slice a10 x17.1.length c10), (21, .int .i64 s3), (22, .int .i64 i2), (125, .bool (decide (i2 < (x17.1.length : Int))))]) ?_ ?_
              · refine QRun_b [.int .i64 i2, .slice a10 x17.1.length c10, .int .i64 (x17.1.length : Int), .bool (decide (i2 < (x17.1.length : Int)))] 0 _ (by kernel_rfl) (fun w => by kernel_rfl) ?_
                exact QRun_done [15, 17, 19, 21, 22, 125] (by kernel_rfl) (by kernel_rfl)
              refine Run_cond (b := decide (i2 < (x17.1.length : Int))) (by kernel_rfl) (fun hb12 => ?_) (fun hb12 => ?_)
              · obtain ⟨my2, y2, rfl, hB2, hgoy2, houty2⟩ := M.for_go gx20 hb12
                have hlty2 := of_decide_eq_true hb12
                refine Run_skip ?_
                refine Run_seq ?_
                refine Run_block ?_
                refine Run_seq ?_
                refine Run_reg 1 (by kernel_rfl) (L' := [(15, .slice a8 x15.1.length c8), (17, .slice a9 x16.1.length c9), (19, .slice a10 x17.1.length c10), (21, .int .i64 s3), (22, .int .i64 i2), (23, .int .i64 0)]) ?_ ?_
                · refine QRun_b [.int .i64 0] 0 _ (by kernel_rfl) (fun w => by kernel_rfl) ?_
                  exact QRun_done [15, 17, 19, 21, 22, 23] (by kernel_rfl) (by kernel_rfl)
                refine Run_seq ?_
                refine Run_seq ?_
                refine Run_reg 1 (by kernel_rfl) (L' := [(15, .slice a8 x15.1.length c8), (17, .slice a9 x16.1.length c9), (19, .slice a10 x17.1.length c10), (21, .int .i64 s3), (22, .int .i64 i2), (23, .int .i64 0), (24, .int .i64 0)]) ?_ ?_
                · refine QRun_b [.int .i64 0] 0 _ (by kernel_rfl) (fun w => by kernel_rfl) ?_
                  exact QRun_done [15, 17, 19, 21, 22, 23, 24] (by kernel_rfl) (by kernel_rfl)
                obtain ⟨x21, gx21, hB2⟩ := M.bind_some hB2
                obtain ⟨hloy3, hhiy3, gx21⟩ := M.for_start gx21
                refine Run_join (fun L' h' => L' = [(15, .slice a8 x15.1.length c8), (17, .slice a9 x16.1.length c9), (19, .slice a10 x17.1.length c10), (21, .int .i64 s3), (22, .int .i64 i2), (23, .int .i64 x21)] ∧ Hold h h' [own cd69 a8 x15.1.length c8 x15.1, own cd69 a9 x16.1.length c9 x16.1, own cd69 a10 x17.1.length c10 x17.1]) ?_ ?_
                · rintro _ h15 ⟨rfl, H29⟩
                  refine Run_seq ?_
                  refine Run_seq ?_
                  refine Run_reg 1 (by kernel_rfl) (L' := [(15, .slice a8 x15.1.length c8), (17, .slice a9 x16.1.length c9), (19, .slice a10 x17.1.length c10), (21, .int .i64 s3), (22, .int .i64 i2), (23, .int .i64 x21), (25, .int .i64 0)]) ?_ ?_
                  · refine QRun_b [.int .i64 0] 0 _ (by kernel_rfl) (fun w => by kernel_rfl) ?_
                    exact QRun_done [15, 17, 19, 21, 22, 23, 25] (by kernel_rfl) (by kernel_rfl)
                  obtain ⟨x25, gx25, hB2⟩ := M.bind_some hB2
                  obtain ⟨hloy4, hhiy4, gx25⟩ := M.for_start gx25
                  refine Run_join (fun L' h' => L' = [(15, .slice a8 x15.1.length c8), (17, .slice a9 x16.1.length c9), (19, .slice a10 x17.1.length c10), (21, .int .i64 s3), (22, .int .i64 i2), (23, .int .i64 x25)] ∧ Hold h h' [own cd69 a8 x15.1.length c8 x15.1, own cd69 a9 x16.1.length c9 x16.1, own cd69 a10 x17.1.length c10 x17.1]) ?_ ?_
                  · rintro _ h18 ⟨rfl, H32⟩
                    refine Run_seq ?_
                    refine Run_seq ?_
                    obtain ⟨x29, hx20, hB2⟩ := M.bind_some hB2
                    obtain ⟨hx20l, hx20u, hx20⟩ := M.idx_some hx20
                    refine Run_reg 7 (by kernel_rfl) (L' := [(15, .slice a8 x15.1.length c8), (17, .slice a9 x16.1.length c9), (19, .slice a10 x17.1.length c10), (21, .int .i64 s3), (22, .int .i64 i2), (23, .int .i64 x25), (182, .bool (x25 != x29.Times))]) ?_ ?_
                    · refine QRun_b [.int .i64 x25, .slice a10 x17.1.length c10, .int .i64 i2] 0 _ (by kernel_rfl) (fun w => by kernel_rfl) ?_
                      refine QRun_y (.pointer (some (adr a10 (i2.toNat * 3)))) (by kernel_rfl) (Y_idx (t := 63) (e := 69) (sz := 3) (a := a10) (n := x17.1.length) (cap := c10) (kk := .i64) (i := i2) (by kernel_rfl) Try.underlying63 (by kernel_rfl) ((H32.rd 2 rfl).cell hx20).1 hx20l hx20u) ?_
                      refine QRun_b [.pointer (some ((adr a10 (i2.toNat * 3)).add 2))] 4 _ (by kernel_rfl) (fun w => by kernel_rfl) ?_
                      refine QRun_y (.int .i64 x29.Times) (by kernel_rfl) (Y_load1 (t := 2) (p := (adr a10 (i2.toNat * 3)).add 2) (v := .int .i64 x29.Times) (by kernel_rfl) (fun w => by kernel_rfl) (cd69_f2 (H32.rd 2 rfl) hx20)) ?_
                      refine QRun_b [.bool (x25 != x29.Times)] 6 _ (by kernel_rfl) (fun w => by kernel_rfl) ?_
                      exact QRun_done [15, 17, 19, 21, 22, 23, 182] (by kernel_rfl) (by kernel_rfl)
                    refine Run_cond (b := x25 != x29.Times) (by kernel_rfl) (fun hb17 => ?_) (fun hb17 => ?_)
                    · have hB2 := (M.ite_some hB2).1 hb17
                      refine Run_seq ?_
                      refine Run_reg 1 (by kernel_rfl) (L' := [(2, .bool false)]) ?_ ?_
                      · refine QRun_b [.bool false] 0 _ (by kernel_rfl) (fun w => by kernel_rfl) ?_
                        exact QRun_done [2] (by kernel_rfl) (by kernel_rfl)
                      have hB2 := M.ret_some hB2
                      have gx20 := houty2 _ hB2.symm
                      have hF := M.cont_inr' hF gx20
                      have hF := M.ret_some hF
                      subst hF
                      have H34 : Hold h h18 [] := H32.pick [] (by kernel_rfl)
                      exact Run_ret1 rfl (ResV_tmp (v := .bool false) (by kernel_rfl)) ⟨rfl, H34⟩
                    · have hB2 := (M.ite_some hB2).2 hb17
                      refine Run_skip ?_
                      refine Run_reg 4 (by kernel_rfl) (L' := [(15, .slice a8 x15.1.length c8), (17, .slice a9 x16.1.length c9), (19, .slice a10 x17.1.length c10), (21, .int .i64 (w64 (s3 + x25))), (22, .int .i64 i2)]) ?_ ?_
                      · refine QRun_b [.int .i64 s3, .int .i64 x25, .int .i64 (w64 (s3 + x25)), .int .i64 (w64 (s3 + x25))] 0 _ (by kernel_rfl) (fun w => by kernel_rfl) ?_
                        exact QRun_done [15, 17, 19, 21, 22] (by kernel_rfl) (by kernel_rfl)
                      refine Run_blk ?_
                      refine Run_reg 3 (by kernel_rfl) (L' := [(15, .slice a8 x15.1.length c8), (17, .slice a9 x16.1.length c9), (19, .slice a10 x17.1.length c10), (21, .int .i64 (w64 (s3 + x25))), (22, .int .i64 (i2 + 1))]) ?_ ?_
                      · refine QRun_b [.int .i64 i2] 0 _ (by kernel_rfl) (fun w => by kernel_rfl) ?_
                        refine QRun_y (.int .i64 (i2 + 1)) (by kernel_rfl) (Y_eq (v := .int .i64 (w64 (i2 + 1))) (Y_pure (fun w => by kernel_rfl)) (by rw [w64_eq _ (by omega)])) ?_
                        refine QRun_b [.int .i64 (i2 + 1)] 2 _ (by kernel_rfl) (fun w => by kernel_rfl) ?_
                        exact QRun_done [15, 17, 19, 21, 22] (by kernel_rfl) (by kernel_rfl)
                      have hB2 := M.ret_some hB2
                      have gx20 := hgoy2 _ hB2.symm
                      exact Run_again [15, 17, 19, 21, 22] (by kernel_rfl) my2 (Nat.lt_succ_self _) ⟨i2 + 1, (w64 (s3 + x25)), by omega, gx20, rfl, H32⟩
                  · refine Run_block ?_
                    refine Run_keep [15, 17, 19, 21, 22, 23, 25] (L' := [(15, .slice a8 x15.1.length c8), (17, .slice a9 x16.1.length c9), (19, .slice a10 x17.1.length c10), (21, .int .i64 s3), (22, .int .i64 i2), (23, .int .i64 x21), (25, .int .i64 0)]) (by kernel_rfl) ?_
                    refine Run_loop (fun m L' h' => ∃ (i4 : Int) (s7 : Int), 0 ≤ i4 ∧ M.forN (x16.1.length : Int) _ _ n m i4 s7 = some x25 ∧ L' = [(15, .slice a8 x15.1.length c8), (17, .slice a9 x16.1.length c9), (19, .slice a10 x17.1.length c10), (21, .int .i64 s3), (22, .int .i64 i2), (23, .int .i64 s7), (25, .int .i64 i4)] ∧ Hold h h' [own cd69 a8 x15.1.length c8 x15.1, own cd69 a9 x16.1.length c9 x16.1, own cd69 a10 x17.1.length c10 x17.1]) ((x16.1.length : Int) - 0 : Int).toNat ⟨0, x21, Int.le_refl _, gx25, rfl, H29⟩ ?_
                    rintro my4 _ h17 ⟨i4, s7, hloy4', gx25, rfl, H31⟩
                    refine Run_seq ?_
                    refine Run_seq ?_
                    refine Run_reg 4 (by kernel_rfl) (L' := [(15, .slice a8 x15.1.length c8), (17, .slice a9 x16.1.length c9), (19, .slice a10 x17.1.length c10), (21, .int .i64 s3), (22, .int .i64 i2), (23, .int .i64 s7), (25, .int .i64 i4), (155, .bool (decide (i4 < (x16.1.length : Int))))]) ?_ ?_
                    · refine QRun_b [.int .i64 i4, .slice a9 x16.1.length c9, .int .i64 (x16.1.length : Int), .bool (decide (i4 < (x16.1.length : Int)))] 0 _ (by kernel_rfl) (fun w => by kernel_rfl) ?_
                      exact QRun_done [15, 17, 19, 21, 22, 23, 25, 155] (by kernel_rfl) (by kernel_rfl)
                    refine Run_cond (b := decide (i4 < (x16.1.length : Int))) (by kernel_rfl) (fun hb15 => ?_) (fun hb15 => ?_)
                    · obtain ⟨my4, y4, rfl, hB4, hgoy4, houty4⟩ := M.for_go gx25 hb15
                      have hlty4 := of_decide_eq_true hb15
                      refine Run_skip ?_
                      refine Run_seq ?_
                      refine Run_block ?_
                      refine Run_seq ?_
                      obtain ⟨x26, hx17, hB4⟩ := M.bind_some hB4
                      obtain ⟨hx17l, hx17u, hx17⟩ := M.idx_some hx17
                      obtain ⟨x27, hx18, hB4⟩ := M.bind_some hB4
                      obtain ⟨hx18l, hx18u, hx18⟩ := M.idx_some hx18
                      refine Run_draw 11 mixed (by kernel_rfl) (by kernel_rfl) (L' := [(15, .slice a8 x15.1.length c8), (17, .slice a9 x16.1.length c9), (19, .slice a10 x17.1.length c10), (21, .int .i64 s3), (22, .int .i64 i2), (23, .int .i64 s7), (25, .int .i64 i4), (168, .bool ((x26.At.Num == x27.At.Num) && (x26.At.Den == x27.At.Den)))]) ?_ ?_
                      · refine QRun_b [.slice a9 x16.1.length c9, .int .i64 i4] 0 _ (by kernel_rfl) (fun w => by kernel_rfl) ?_
                        refine QRun_y (.pointer (some (adr a9 (i4.toNat * 3)))) (by kernel_rfl) (Y_idx (t := 63) (e := 69) (sz := 3) (a := a9) (n := x16.1.length) (cap := c9) (kk := .i64) (i := i4) (by kernel_rfl) Try.underlying63 (by kernel_rfl) ((H31.rd 1 rfl).cell hx17).1 hx17l hx17u) ?_
                        refine QRun_b [.pointer (some ((adr a9 (i4.toNat * 3)).add 0))] 3 _ (by kernel_rfl) (fun w => by kernel_rfl) ?_
                        refine QRun_y (.agg #[.int .i64 x26.At.Num, .int .i64 x26.At.Den]) (by kernel_rfl) (Y_loadA (t := 67) (n := 2) (p := (adr a9 (i4.toNat * 3)).add 0) (cs := [.int .i64 x26.At.Num, .int .i64 x26.At.Den]) (by kernel_rfl) (fun w => by kernel_rfl) (by kernel_rfl) rfl (sub_cells (cd69_elem (H31.rd 1 rfl) hx17) 0 2 rfl)) ?_
                        refine QRun_b [.slice a10 x17.1.length c10, .int .i64 i2] 5 _ (by kernel_rfl) (fun w => by kernel_rfl) ?_
                        refine QRun_y (.pointer (some (adr a10 (i2.toNat * 3)))) (by kernel_rfl) (Y_idx (t := 63) (e := 69) (sz := 3) (a := a10) (n := x17.1.length) (cap := c10) (kk := .i64) (i := i2) (by kernel_rfl) Try.underlying63 (by kernel_rfl) ((H31.rd 2 rfl).cell hx18).1 hx18l hx18u) ?_
                        refine QRun_b [.pointer (some ((adr a10 (i2.toNat * 3)).add 0))] 8 _ (by kernel_rfl) (fun w => by kernel_rfl) ?_
                        refine QRun_y (.agg #[.int .i64 x27.At.Num, .int .i64 x27.At.Den]) (by kernel_rfl) (Y_loadA (t := 67) (n := 2) (p := (adr a10 (i2.toNat * 3)).add 0) (cs := [.int .i64 x27.At.Num, .int .i64 x27.At.Den]) (by kernel_rfl) (fun w => by kernel_rfl) (by kernel_rfl) rfl (sub_cells (cd69_elem (H31.rd 2 rfl) hx18) 0 2 rfl)) ?_
                        refine QRun_y (.bool ((x26.At.Num == x27.At.Num) && (x26.At.Den == x27.At.Den))) (by kernel_rfl) (Y_seq (t := 67) (ox := .tmp 162) (oy := .tmp 167) (xs := #[.int .i64 x26.At.Num, .int .i64 x26.At.Den]) (ys := #[.int .i64 x27.At.Num, .int .i64 x27.At.Den]) (by kernel_rfl) (by kernel_rfl) (fun w => eqS67 9998 x26.At.Num x26.At.Den x27.At.Num x27.At.Den w)) ?_
                        exact QRun_done [15, 17, 19, 21, 22, 23, 25, 168] (by kernel_rfl) (by kernel_rfl)
                      obtain ⟨s8, gs8, hB4⟩ := M.bind_some hB4
                      refine Run_join (fun L' h' => L' = [(15, .slice a8 x15.1.length c8), (17, .slice a9 x16.1.length c9), (19, .slice a10 x17.1.length c10), (21, .int .i64 s3), (22, .int .i64 i2), (23, .int .i64 s8), (25, .int .i64 i4)] ∧ Hold h h' [own cd69 a8 x15.1.length c8 x15.1, own cd69 a9 x16.1.length c9 x16.1, own cd69 a10 x17.1.length c10 x17.1]) ?_ ?_
                      · rintro _ h19 ⟨rfl, H33⟩
                        refine Run_blk ?_
                        refine Run_reg 3 (by kernel_rfl) (L' := [(15, .slice a8 x15.1.length c8), (17, .slice a9 x16.1.length c9), (19, .slice a10 x17.1.length c10), (21, .int .i64 s3), (22, .int .i64 i2), (23, .int .i64 s8), (25, .int .i64 (i4 + 1))]) ?_ ?_
                        · refine QRun_b [.int .i64 i4] 0 _ (by kernel_rfl) (fun w => by kernel_rfl) ?_
                          refine QRun_y (.int .i64 (i4 + 1)) (by kernel_rfl) (Y_eq (v := .int .i64 (w64 (i4 + 1))) (Y_pure (fun w => by kernel_rfl)) (by rw [w64_eq _ (by omega)])) ?_
                          refine QRun_b [.int .i64 (i4 + 1)] 2 _ (by kernel_rfl) (fun w => by kernel_rfl) ?_
                          exact QRun_done [15, 17, 19, 21, 22, 23, 25] (by kernel_rfl) (by kernel_rfl)
                        have hB4 := M.ret_some hB4
                        have gx25 := hgoy4 _ hB4.symm
                        exact Run_again [15, 17, 19, 21, 22, 23, 25] (by kernel_rfl) my4 (Nat.lt_succ_self _) ⟨i4 + 1, s8, by omega, gx25, rfl, H33⟩
                      · refine Run_cond (b := (x26.At.Num == x27.At.Num) && (x26.At.Den == x27.At.Den)) (by kernel_rfl) (fun hb16 => ?_) (fun hb16 => ?_)
                        · have gs8 := (M.ite_some gs8).1 hb16
                          obtain ⟨x28, hx19, gs8⟩ := M.bind_some gs8
                          obtain ⟨hx19l, hx19u, hx19⟩ := M.idx_some hx19
                          refine Run_reg 8 (by kernel_rfl) (L' := [(15, .slice a8 x15.1.length c8), (17, .slice a9 x16.1.length c9), (19, .slice a10 x17.1.length c10), (21, .int .i64 s3), (22, .int .i64 i2), (23, .int .i64 (w64 (s7 + x28.Times))), (25, .int .i64 i4)]) ?_ ?_
                          · refine QRun_b [.int .i64 s7, .slice a9 x16.1.length c9, .int .i64 i4] 0 _ (by kernel_rfl) (fun w => by kernel_rfl) ?_
                            refine QRun_y (.pointer (some (adr a9 (i4.toNat * 3)))) (by kernel_rfl) (Y_idx (t := 63) (e := 69) (sz := 3) (a := a9) (n := x16.1.length) (cap := c9) (kk := .i64) (i := i4) (by kernel_rfl) Try.underlying63 (by kernel_rfl) ((H31.rd 1 rfl).cell hx19).1 hx19l hx19u) ?_
                            refine QRun_b [.pointer (some ((adr a9 (i4.toNat * 3)).add 2))] 4 _ (by kernel_rfl) (fun w => by kernel_rfl) ?_
                            refine QRun_y (.int .i64 x28.Times) (by kernel_rfl) (Y_load1 (t := 2) (p := (adr a9 (i4.toNat * 3)).add 2) (v := .int .i64 x28.Times) (by kernel_rfl) (fun w => by kernel_rfl) (cd69_f2 (H31.rd 1 rfl) hx19)) ?_
                            refine QRun_b [.int .i64 (w64 (s7 + x28.Times)), .int .i64 (w64 (s7 + x28.Times))] 6 _ (by kernel_rfl) (fun w => by kernel_rfl) ?_
                            exact QRun_done [15, 17, 19, 21, 22, 23, 25] (by kernel_rfl) (by kernel_rfl)
                          have gs8 := M.ret_some gs8
                          subst gs8
                          exact Run_fall [15, 17, 19, 21, 22, 23, 25] (by kernel_rfl) ⟨rfl, H31⟩
                        · have gs8 := (M.ite_some gs8).2 hb16
                          refine Run_skip ?_
                          have gs8 := M.ret_some gs8
                          subst gs8
                          exact Run_fall [15, 17, 19, 21, 22, 23, 25] (by kernel_rfl) ⟨rfl, H31⟩
                    · have gx25 := M.for_end gx25 hb15
                      subst gx25
                      refine Run_exit (k' := _) rfl ?_
                      exact Run_fall [15, 17, 19, 21, 22, 23] (by kernel_rfl) ⟨rfl, H31⟩
                · refine Run_block ?_
                  refine Run_keep [15, 17, 19, 21, 22, 23, 24] (L' := [(15, .slice a8 x15.1.length c8), (17, .slice a9 x16.1.length c9), (19, .slice a10 x17.1.length c10), (21, .int .i64 s3), (22, .int .i64 i2), (23, .int .i64 0), (24, .int .i64 0)]) (by kernel_rfl) ?_
                  refine Run_loop (fun m L' h' => ∃ (i3 : Int) (s5 : Int), 0 ≤ i3 ∧ M.forN (x15.1.length : Int) _ _ n m i3 s5 = some x21 ∧ L' = [(15, .slice a8 x15.1.length c8), (17, .slice a9 x16.1.length c9), (19, .slice a10 x17.1.length c10), (21, .int .i64 s3), (22, .int .i64 i2), (23, .int .i64 s5), (24, .int .i64 i3)] ∧ Hold h h' [own cd69 a8 x15.1.length c8 x15.1, own cd69 a9 x16.1.length c9 x16.1, own cd69 a10 x17.1.length c10 x17.1]) ((x15.1.length : Int) - 0 : Int).toNat ⟨0, 0, Int.le_refl _, gx21, rfl, H26⟩ ?_
                  rintro my3 _ h14 ⟨i3, s5, hloy3', gx21, rfl, H28⟩
                  refine Run_seq ?_
                  refine Run_seq ?_
                  refine Run_reg 4 (by kernel_rfl) (L' := [(15, .slice a8 x15.1.length c8), (17, .slice a9 x16.1.length c9), (19, .slice a10 x17.1.length c10), (21, .int .i64 s3), (22, .int .i64 i2), (23, .int .i64 s5), (24, .int .i64 i3), (131, .bool (decide (i3 < (x15.1.length : Int))))]) ?_ ?_
                  · refine QRun_b [.int .i64 i3, .slice a8 x15.1.length c8, .int .i64 (x15.1.length : Int), .bool (decide (i3 < (x15.1.length : Int)))] 0 _ (by kernel_rfl) (fun w => by kernel_rfl) ?_
                    exact QRun_done [15, 17, 19, 21, 22, 23, 24, 131] (by kernel_rfl) (by kernel_rfl)
                  refine Run_cond (b := decide (i3 < (x15.1.length : Int))) (by kernel_rfl) (fun hb13 => ?_) (fun hb13 => ?_)
                  · obtain ⟨my3, y3, rfl, hB3, hgoy3, houty3⟩ := M.for_go gx21 hb13
                    have hlty3 := of_decide_eq_true hb13
                    refine Run_skip ?_
                    refine Run_seq ?_
                    refine Run_block ?_
                    refine Run_seq ?_
                    obtain ⟨x22, hx14, hB3⟩ := M.bind_some hB3
                    obtain ⟨hx14l, hx14u, hx14⟩ := M.idx_some hx14
                    obtain ⟨x23, hx15, hB3⟩ := M.bind_some hB3
                    obtain ⟨hx15l, hx15u, hx15⟩ := M.idx_some hx15
                    refine Run_draw 11 mixed (by kernel_rfl) (by kernel_rfl) (L' := [(15, .slice a8 x15.1.length c8), (17, .slice a9 x16.1.length c9), (19, .slice a10 x17.1.length c10), (21, .int .i64 s3), (22, .int .i64 i2), (23, .int .i64 s5), (24, .int .i64 i3), (144, .bool ((x22.At.Num == x23.At.Num) && (x22.At.Den == x23.At.Den)))]) ?_ ?_
                    · refine QRun_b [.slice a8 x15.1.length c8, .int .i64 i3] 0 _ (by kernel_rfl) (fun w => by kernel_rfl) ?_
                      refine QRun_y (.pointer (some (adr a8 (i3.toNat * 3)))) (by kernel_rfl) (Y_idx (t := 63) (e := 69) (sz := 3) (a := a8) (n := x15.1.length) (cap := c8) (kk := .i64) (i := i3) (by kernel_rfl) Try.underlying63 (by kernel_rfl) ((H28.rd 0 rfl).cell hx14).1 hx14l hx14u) ?_
                      refine QRun_b [.pointer (some ((adr a8 (i3.toNat * 3)).add 0))] 3 _ (by kernel_rfl) (fun w => by kernel_rfl) ?_
                      refine QRun_y (.agg #[.int .i64 x22.At.Num, .int .i64 x22.At.Den]) (by kernel_rfl) (Y_loadA (t := 67) (n := 2) (p := (adr a8 (i3.toNat * 3)).add 0) (cs := [.int .i64 x22.At.Num, .int .i64 x22.At.Den]) (by kernel_rfl) (fun w => by kernel_rfl) (by kernel_rfl) rfl (sub_cells (cd69_elem (H28.rd 0 rfl) hx14) 0 2 rfl)) ?_
                      refine QRun_b [.slice a10 x17.1.length c10, .int .i64 i2] 5 _ (by kernel_rfl) (fun w => by kernel_rfl) ?_
                      refine QRun_y (.pointer (some (adr a10 (i2.toNat * 3)))) (by kernel_rfl) (Y_idx (t := 63) (e := 69) (sz := 3) (a := a10) (n := x17.1.length) (cap := c10) (kk := .i64) (i := i2) (by kernel_rfl) Try.underlying63 (by kernel_rfl) ((H28.rd 2 rfl).cell hx15).1 hx15l hx15u) ?_
                      refine QRun_b [.pointer (some ((adr a10 (i2.toNat * 3)).add 0))] 8 _ (by kernel_rfl) (fun w => by kernel_rfl) ?_
                      refine QRun_y (.agg #[.int .i64 x23.At.Num, .int .i64 x23.At.Den]) (by kernel_rfl) (Y_loadA (t := 67) (n := 2) (p := (adr a10 (i2.toNat * 3)).add 0) (cs := [.int .i64 x23.At.Num, .int .i64 x23.At.Den]) (by kernel_rfl) (fun w => by kernel_rfl) (by kernel_rfl) rfl (sub_cells (cd69_elem (H28.rd 2 rfl) hx15) 0 2 rfl)) ?_
                      refine QRun_y (.bool ((x22.At.Num == x23.At.Num) && (x22.At.Den == x23.At.Den))) (by kernel_rfl) (Y_seq (t := 67) (ox := .tmp 138) (oy := .tmp 143) (xs := #[.int .i64 x22.At.Num, .int .i64 x22.At.Den]) (ys := #[.int .i64 x23.At.Num, .int .i64 x23.At.Den]) (by kernel_rfl) (by kernel_rfl) (fun w => eqS67 9998 x22.At.Num x22.At.Den x23.At.Num x23.At.Den w)) ?_
                      exact QRun_done [15, 17, 19, 21, 22, 23, 24, 144] (by kernel_rfl) (by kernel_rfl)
                    obtain ⟨s6, gs6, hB3⟩ := M.bind_some hB3
                    refine Run_join (fun L' h' => L' = [(15, .slice a8 x15.1.length c8), (17, .slice a9 x16.1.length c9), (19, .slice a10 x17.1.length c10), (21, .int .i64 s3), (22, .int .i64 i2), (23, .int .i64 s6), (24, .int .i64 i3)] ∧ Hold h h' [own cd69 a8 x15.1.length c8 x15.1, own cd69 a9 x16.1.length c9 x16.1, own cd69 a10 x17.1.length c10 x17.1]) ?_ ?_
                    · rintro _ h16 ⟨rfl, H30⟩
                      refine Run_blk ?_
                      refine Run_reg 3 (by kernel_rfl) (L' := [(15, .slice a8 x15.1.length c8), (17, .slice a9 x16.1.length c9), (19, .slice a10 x17.1.length c10), (21, .int .i64 s3), (22, .int .i64 i2), (23, .int .i64 s6), (24, .int .i64 (i3 + 1))]) ?_ ?_
                      · refine QRun_b [.int .i64 i3] 0 _ (by kernel_rfl) (fun w => by kernel_rfl) ?_
                        refine QRun_y (.int .i64 (i3 + 1)) (by kernel_rfl) (Y_eq (v := .int .i64 (w64 (i3 + 1))) (Y_pure (fun w => by kernel_rfl)) (by rw [w64_eq _ (by omega)])) ?_
                        refine QRun_b [.int .i64 (i3 + 1)] 2 _ (by kernel_rfl) (fun w => by kernel_rfl) ?_
                        exact QRun_done [15, 17, 19, 21, 22, 23, 24] (by kernel_rfl) (by kernel_rfl)
                      have hB3 := M.ret_some hB3
                      have gx21 := hgoy3 _ hB3.symm
                      exact Run_again [15, 17, 19, 21, 22, 23, 24] (by kernel_rfl) my3 (Nat.lt_succ_self _) ⟨i3 + 1, s6, by omega, gx21, rfl, H30⟩
                    · refine Run_cond (b := (x22.At.Num == x23.At.Num) && (x22.At.Den == x23.At.Den)) (by kernel_rfl) (fun hb14 => ?_) (fun hb14 => ?_)
                      · have gs6 := (M.ite_some gs6).1 hb14
                        obtain ⟨x24, hx16, gs6⟩ := M.bind_some gs6
                        obtain ⟨hx16l, hx16u, hx16⟩ := M.idx_some hx16
                        refine Run_reg 8 (by kernel_rfl) (L' := [(15, .slice a8 x15.1.length c8), (17, .slice a9 x16.1.length c9), (19, .slice a10 x17.1.length c10), (21, .int .i64 s3), (22, .int .i64 i2), (23, .int .i64 (w64 (s5 + x24.Times))), (24, .int .i64 i3)]) ?_ ?_
                        · refine QRun_b [.int .i64 s5, .slice a8 x15.1.length c8, .int .i64 i3] 0 _ (by kernel_rfl) (fun w => by kernel_rfl) ?_
                          refine QRun_y (.pointer (some (adr a8 (i3.toNat * 3)))) (by kernel_rfl) (Y_idx (t := 63) (e := 69) (sz := 3) (a := a8) (n := x15.1.length) (cap := c8) (kk := .i64) (i := i3) (by kernel_rfl) Try.underlying63 (by kernel_rfl) ((H28.rd 0 rfl).cell hx16).1 hx16l hx16u) ?_
                          refine QRun_b [.pointer (some ((adr a8 (i3.toNat * 3)).add 2))] 4 _ (by kernel_rfl) (fun w => by kernel_rfl) ?_
                          refine QRun_y (.int .i64 x24.Times) (by kernel_rfl) (Y_load1 (t := 2) (p := (adr a8 (i3.toNat * 3)).add 2) (v := .int .i64 x24.Times) (by kernel_rfl) (fun w => by kernel_rfl) (cd69_f2 (H28.rd 0 rfl) hx16)) ?_
                          refine QRun_b [.int .i64 (w64 (s5 + x24.Times)), .int .i64 (w64 (s5 + x24.Times))] 6 _ (by kernel_rfl) (fun w => by kernel_rfl) ?_
                          exact QRun_done [15, 17, 19, 21, 22, 23, 24] (by kernel_rfl) (by kernel_rfl)
                        have gs6 := M.ret_some gs6
                        subst gs6
                        exact Run_fall [15, 17, 19, 21, 22, 23, 24] (by kernel_rfl) ⟨rfl, H28⟩
                      · have gs6 := (M.ite_some gs6).2 hb14
                        refine Run_skip ?_
                        have gs6 := M.ret_some gs6
                        subst gs6
                        exact Run_fall [15, 17, 19, 21, 22, 23, 24] (by kernel_rfl) ⟨rfl, H28⟩
                  · have gx21 := M.for_end gx21 hb13
                    subst gx21
                    refine Run_exit (k' := _) rfl ?_
                    exact Run_fall [15, 17, 19, 21, 22, 23] (by kernel_rfl) ⟨rfl, H28⟩
              · have gx20 := M.for_end gx20 hb12
                subst gx20
                refine Run_exit (k' := _) rfl ?_
                have H35 : Hold h h12 [own cd69 a8 x15.1.length c8 x15.1, own cd69 a9 x16.1.length c9 x16.1] := H26.pick [0, 1] (by kernel_rfl)
                exact Run_fall [15, 17, 21] (by kernel_rfl) ⟨s3, rfl, rfl, H35⟩
      · refine Run_block ?_
        have H43 : Hold h h6 [own cd2 a1 x2.1.length c1 x2.1, own cd2 a2 x2.2.length c2 x2.2, own cd2 a3 x3.1.length c3 x3.1, own cd69 a6 x6.1.length c6 x6.1, own cd69 a7 x7.1.length c7 x7.1] := H12.pick [5, 6, 4, 1, 0] (by kernel_rfl)
        refine Run_keep [3, 4, 5, 6, 10, 12, 14] (L' := [(3, .slice a1 x2.1.length c1), (4, .slice a2 x2.2.length c2), (5, .slice a3 x3.1.length c3), (6, .int .i64 x3.2), (10, .slice a6 x6.1.length c6), (12, .slice a7 x7.1.length c7), (14, .int .i64 0)]) (by kernel_rfl) ?_
        refine Run_loop (fun m L' h' => ∃ (i1 : Int) (s1 : Unit), 0 ≤ i1 ∧ M.forN (x6.1.length : Int) _ _ n m i1 s1 = some x12 ∧ L' = [(3, .slice a1 x2.1.length c1), (4, .slice a2 x2.2.length c2), (5, .slice a3 x3.1.length c3), (6, .int .i64 x3.2), (10, .slice a6 x6.1.length c6), (12, .slice a7 x7.1.length c7), (14, .int .i64 i1)] ∧ Hold h h' [own cd2 a1 x2.1.length c1 x2.1, own cd2 a2 x2.2.length c2 x2.2, own cd2 a3 x3.1.length c3 x3.1, own cd69 a6 x6.1.length c6 x6.1, own cd69 a7 x7.1.length c7 x7.1]) ((x6.1.length : Int) - 0 : Int).toNat ⟨0, (), Int.le_refl _, gx12, rfl, H43⟩ ?_
        rintro my1 _ h7 ⟨i1, s1, hloy1', gx12, rfl, H14⟩
        refine Run_seq ?_
        refine Run_seq ?_
        refine Run_reg 4 (by kernel_rfl) (L' := [(3, .slice a1 x2.1.length c1), (4, .slice a2 x2.2.length c2), (5, .slice a3 x3.1.length c3), (6, .int .i64 x3.2), (10, .slice a6 x6.1.length c6), (12, .slice a7 x7.1.length c7), (14, .int .i64 i1), (83, .bool (decide (i1 < (x6.1.length : Int))))]) ?_ ?_
        · refine QRun_b [.int .i64 i1, .slice a6 x6.1.length c6, .int .i64 (x6.1.length : Int), .bool (decide (i1 < (x6.1.length : Int)))] 0 _ (by kernel_rfl) (fun w => by kernel_rfl) ?_
          exact QRun_done [3, 4, 5, 6, 10, 12, 14, 83] (by kernel_rfl) (by kernel_rfl)
        refine Run_cond (b := decide (i1 < (x6.1.length : Int))) (by kernel_rfl) (fun hb6 => ?_) (fun hb6 => ?_)
        · obtain ⟨my1, y1, rfl, hB1, hgoy1, houty1⟩ := M.for_go gx12 hb6
          have hlty1 := of_decide_eq_true hb6
          refine Run_skip ?_
          refine Run_seq ?_
          refine Run_block ?_
          refine Run_seq ?_
          obtain ⟨x13, hx9, hB1⟩ := M.bind_some hB1
          obtain ⟨hx9l, hx9u, hx9⟩ := M.idx_some hx9
          obtain ⟨x14, hx10, hB1⟩ := M.bind_some hB1
          obtain ⟨hx10l, hx10u, hx10⟩ := M.idx_some hx10
          refine Run_draw 9 mixed (by kernel_rfl) (by kernel_rfl) (L' := [(3, .slice a1 x2.1.length c1), (4, .slice a2 x2.2.length c2), (5, .slice a3 x3.1.length c3), (6, .int .i64 x3.2), (10, .slice a6 x6.1.length c6), (12, .slice a7 x7.1.length c7), (14, .int .i64 i1), (94, .bool (!(((x13.At.Num == x14.At.Num) && (x13.At.Den == x14.At.Den)) && (x13.Times == x14.Times))))]) ?_ ?_
          · refine QRun_b [.slice a6 x6.1.length c6, .int .i64 i1] 0 _ (by kernel_rfl) (fun w => by kernel_rfl) ?_
            refine QRun_y (.pointer (some (adr a6 (i1.toNat * 3)))) (by kernel_rfl) (Y_idx (t := 63) (e := 69) (sz := 3) (a := a6) (n := x6.1.length) (cap := c6) (kk := .i64) (i := i1) (by kernel_rfl) Try.underlying63 (by kernel_rfl) ((H14.rd 3 rfl).cell hx9).1 hx9l hx9u) ?_
            refine QRun_y (.agg #[.int .i64 x13.At.Num, .int .i64 x13.At.Den, .int .i64 x13.Times]) (by kernel_rfl) (Y_loadA (t := 69) (n := 3) (p := adr a6 (i1.toNat * 3)) (cs := [.int .i64 x13.At.Num, .int .i64 x13.At.Den, .int .i64 x13.Times]) (by kernel_rfl) (fun w => by kernel_rfl) (by kernel_rfl) rfl (cd69_elem (H14.rd 3 rfl) hx9)) ?_
            refine QRun_b [.slice a7 x7.1.length c7, .int .i64 i1] 4 _ (by kernel_rfl) (fun w => by kernel_rfl) ?_
            refine QRun_y (.pointer (some (adr a7 (i1.toNat * 3)))) (by kernel_rfl) (Y_idx (t := 63) (e := 69) (sz := 3) (a := a7) (n := x7.1.length) (cap := c7) (kk := .i64) (i := i1) (by kernel_rfl) Try.underlying63 (by kernel_rfl) ((H14.rd 4 rfl).cell hx10).1 hx10l hx10u) ?_
            refine QRun_y (.agg #[.int .i64 x14.At.Num, .int .i64 x14.At.Den, .int .i64 x14.Times]) (by kernel_rfl) (Y_loadA (t := 69) (n := 3) (p := adr a7 (i1.toNat * 3)) (cs := [.int .i64 x14.At.Num, .int .i64 x14.At.Den, .int .i64 x14.Times]) (by kernel_rfl) (fun w => by kernel_rfl) (by kernel_rfl) rfl (cd69_elem (H14.rd 4 rfl) hx10)) ?_
            refine QRun_y (.bool (!(((x13.At.Num == x14.At.Num) && (x13.At.Den == x14.At.Den)) && (x13.Times == x14.Times)))) (by kernel_rfl) (Y_sne (t := 69) (ox := .tmp 89) (oy := .tmp 93) (xs := #[.int .i64 x13.At.Num, .int .i64 x13.At.Den, .int .i64 x13.Times]) (ys := #[.int .i64 x14.At.Num, .int .i64 x14.At.Den, .int .i64 x14.Times]) (by kernel_rfl) (by kernel_rfl) (fun w => eqS69 9997 x13.At.Num x13.At.Den x13.Times x14.At.Num x14.At.Den x14.Times w)) ?_
            exact QRun_done [3, 4, 5, 6, 10, 12, 14, 94] (by kernel_rfl) (by kernel_rfl)
          refine Run_cond (b := !(((x13.At.Num == x14.At.Num) && (x13.At.Den == x14.At.Den)) && (x13.Times == x14.Times))) (by kernel_rfl) (fun hb7 => ?_) (fun hb7 => ?_)
          · have hB1 := (M.ite_some hB1).1 hb7
            refine Run_seq ?_
            refine Run_reg 1 (by kernel_rfl) (L' := [(2, .bool false)]) ?_ ?_
            · refine QRun_b [.bool false] 0 _ (by kernel_rfl) (fun w => by kernel_rfl) ?_
              exact QRun_done [2] (by kernel_rfl) (by kernel_rfl)
            have hB1 := M.ret_some hB1
            have gx12 := houty1 _ hB1.symm
            have hF := M.cont_inr' hF gx12
            have hF := M.ret_some hF
            subst hF
            have H16 : Hold h h7 [] := H14.pick [] (by kernel_rfl)
            exact Run_ret1 rfl (ResV_tmp (v := .bool false) (by kernel_rfl)) ⟨rfl, H16⟩
          · have hB1 := (M.ite_some hB1).2 hb7
            refine Run_skip ?_
            refine Run_blk ?_
            refine Run_reg 3 (by kernel_rfl) (L' := [(3, .slice a1 x2.1.length c1), (4, .slice a2 x2.2.length c2), (5, .slice a3 x3.1.length c3), (6, .int .i64 x3.2), (10, .slice a6 x6.1.length c6), (12, .slice a7 x7.1.length c7), (14, .int .i64 (i1 + 1))]) ?_ ?_
            · refine QRun_b [.int .i64 i1] 0 _ (by kernel_rfl) (fun w => by kernel_rfl) ?_
              refine QRun_y (.int .i64 (i1 + 1)) (by kernel_rfl) (Y_eq (v := .int .i64 (w64 (i1 + 1))) (Y_pure (fun w => by kernel_rfl)) (by rw [w64_eq _ (by omega)])) ?_
              refine QRun_b [.int .i64 (i1 + 1)] 2 _ (by kernel_rfl) (fun w => by kernel_rfl) ?_
              exact QRun_done [3, 4, 5, 6, 10, 12, 14] (by kernel_rfl) (by kernel_rfl)
            have hB1 := M.ret_some hB1
            have gx12 := hgoy1 _ hB1.symm
            exact Run_again [3, 4, 5, 6, 10, 12, 14] (by kernel_rfl) my1 (Nat.lt_succ_self _) ⟨i1 + 1, (), by omega, gx12, rfl, H14⟩
        · have gx12 := M.for_end gx12 hb6
          subst gx12
          refine Run_exit (k' := _) rfl ?_
          have H17 : Hold h h7 [own cd2 a1 x2.1.length c1 x2.1, own cd2 a2 x2.2.length c2 x2.2, own cd2 a3 x3.1.length c3 x3.1] := H14.pick [0, 1, 2] (by kernel_rfl)
          exact Run_fall [3, 4, 5, 6] (by kernel_rfl) ⟨(), rfl, rfl, H17⟩

end Go.Proofs.Ytipdgiljgbjjkaa
